/-
  No cell of these rows narrows 'for every input' (looked for: loops, veiled, ifaces, maps, wideKeys, modest, calm, conditions, laid).
  DERIVED. THE GIVEN ROWS OF THIS SEAT. 11 by the template 'for every input the law returns true; each argument reads behind the call as it read before'; 0 by the template 'total and deterministic' (their statements: YtobgbogglilfjaaTotals.lean).
  GIVEN WITH THE SEED: the statements are not yours to turn. If you find one false, say at which input.
  Laid BY PROGRAM, IN A SANDBOX (cutbox-rows.mjs): the forced cells as the released guide's own fill.sh prints them over the translation 8f769e5d2a4a4d46… (all of the seat's roots in one cut). By AI agents, Wed Nov 11 2026. No macro, syntax, notation, axiom, sorry.
-/
import Derived.Test.YtobgbogglilfjaaChecked
import GoSem.Claim
import GoSem.ClaimJoined
import GoSem.ClaimMapViews
import Derived.JoinedTies
import Derived.KernelRfl
namespace Go.Proofs.Ytobgbogglilfjaa
/- THE CELL 'sum', in the pinned program and in every row, IS THE sha256 OF THE DUMP (.gsa) THAT YtobgbogglilfjaaProg.lean LOADS. Nothing in Lean hashes anything: it is a label: what it is worth is what the hold of that sum in a sandbox is worth. -/
noncomputable def Try.pinned : Pinned := { name := "ytobgbogglilfjaa", sum := "8f769e5d2a4a4d46fb7c51cde52a19fe336fcf75810f4d92dd08c74758e4ec51", checked := Try.checked }
namespace Rows
def none {H : Type} : Left H := { results := [], args := [] }

/-- 'laws.FnExactNetOk': WHATEVER THE INPUT: true; the input reads as it did. -/
def fnExactNetOkSpec : ChangeSpec := { name := "fnExactNetOk", fn := fun _ => fun
  | [d] => { results := [.lit (.bool true)], args := [d] }
  | _ => none }
def fnExactNetOkRow : OpenClaim := { program := "ytobgbogglilfjaa", sum := "8f769e5d2a4a4d46fb7c51cde52a19fe336fcf75810f4d92dd08c74758e4ec51", func := "loop.example/tern/laws.FnExactNetOk", spec := "fnExactNetOk", apart := false }
def FnExactNetOkSaid : Prop := fnExactNetOkRow.holds Try.pinned (OpenSpec.ofChange fnExactNetOkSpec)

/-- ITS FALSE NEIGHBOUR: 'it returns false'. Refute it at one input. -/
def fnExactNetOkWrong : ChangeSpec := { name := "fnExactNetOk", fn := fun _ => fun
  | [d] => { results := [.lit (.bool false)], args := [d] }
  | _ => none }
def FnExactNetOkWrongFalsely : Prop := fnExactNetOkRow.holds Try.pinned (OpenSpec.ofChange fnExactNetOkWrong)

/-- 'laws.FnExactNetHas': WHATEVER THE INPUT: true; the input reads as it did. -/
def fnExactNetHasSpec : ChangeSpec := { name := "fnExactNetHas", fn := fun _ => fun
  | [d1, d2] => { results := [.lit (.bool true)], args := [d1, d2] }
  | _ => none }
def fnExactNetHasRow : OpenClaim := { program := "ytobgbogglilfjaa", sum := "8f769e5d2a4a4d46fb7c51cde52a19fe336fcf75810f4d92dd08c74758e4ec51", func := "loop.example/tern/laws.FnExactNetHas", spec := "fnExactNetHas", apart := false }
def FnExactNetHasSaid : Prop := fnExactNetHasRow.holds Try.pinned (OpenSpec.ofChange fnExactNetHasSpec)

/-- ITS FALSE NEIGHBOUR: 'it returns false'. Refute it at one input. -/
def fnExactNetHasWrong : ChangeSpec := { name := "fnExactNetHas", fn := fun _ => fun
  | [d1, d2] => { results := [.lit (.bool false)], args := [d1, d2] }
  | _ => none }
def FnExactNetHasWrongFalsely : Prop := fnExactNetHasRow.holds Try.pinned (OpenSpec.ofChange fnExactNetHasWrong)

/-- 'laws.FnExactNetIn': WHATEVER THE INPUT: true; the input reads as it did. -/
def fnExactNetInSpec : ChangeSpec := { name := "fnExactNetIn", fn := fun _ => fun
  | [d1, d2] => { results := [.lit (.bool true)], args := [d1, d2] }
  | _ => none }
def fnExactNetInRow : OpenClaim := { program := "ytobgbogglilfjaa", sum := "8f769e5d2a4a4d46fb7c51cde52a19fe336fcf75810f4d92dd08c74758e4ec51", func := "loop.example/tern/laws.FnExactNetIn", spec := "fnExactNetIn", apart := false }
def FnExactNetInSaid : Prop := fnExactNetInRow.holds Try.pinned (OpenSpec.ofChange fnExactNetInSpec)

/-- ITS FALSE NEIGHBOUR: 'it returns false'. Refute it at one input. -/
def fnExactNetInWrong : ChangeSpec := { name := "fnExactNetIn", fn := fun _ => fun
  | [d1, d2] => { results := [.lit (.bool false)], args := [d1, d2] }
  | _ => none }
def FnExactNetInWrongFalsely : Prop := fnExactNetInRow.holds Try.pinned (OpenSpec.ofChange fnExactNetInWrong)

/-- 'laws.FnExactNetHalves': WHATEVER THE INPUT: true; the input reads as it did. -/
def fnExactNetHalvesSpec : ChangeSpec := { name := "fnExactNetHalves", fn := fun _ => fun
  | [d] => { results := [.lit (.bool true)], args := [d] }
  | _ => none }
def fnExactNetHalvesRow : OpenClaim := { program := "ytobgbogglilfjaa", sum := "8f769e5d2a4a4d46fb7c51cde52a19fe336fcf75810f4d92dd08c74758e4ec51", func := "loop.example/tern/laws.FnExactNetHalves", spec := "fnExactNetHalves", apart := false }
def FnExactNetHalvesSaid : Prop := fnExactNetHalvesRow.holds Try.pinned (OpenSpec.ofChange fnExactNetHalvesSpec)

/-- ITS FALSE NEIGHBOUR: 'it returns false'. Refute it at one input. -/
def fnExactNetHalvesWrong : ChangeSpec := { name := "fnExactNetHalves", fn := fun _ => fun
  | [d] => { results := [.lit (.bool false)], args := [d] }
  | _ => none }
def FnExactNetHalvesWrongFalsely : Prop := fnExactNetHalvesRow.holds Try.pinned (OpenSpec.ofChange fnExactNetHalvesWrong)

/-- 'laws.FnExactNetBest': WHATEVER THE INPUT: true; the input reads as it did. -/
def fnExactNetBestSpec : ChangeSpec := { name := "fnExactNetBest", fn := fun _ => fun
  | [d1, d2] => { results := [.lit (.bool true)], args := [d1, d2] }
  | _ => none }
def fnExactNetBestRow : OpenClaim := { program := "ytobgbogglilfjaa", sum := "8f769e5d2a4a4d46fb7c51cde52a19fe336fcf75810f4d92dd08c74758e4ec51", func := "loop.example/tern/laws.FnExactNetBest", spec := "fnExactNetBest", apart := false }
def FnExactNetBestSaid : Prop := fnExactNetBestRow.holds Try.pinned (OpenSpec.ofChange fnExactNetBestSpec)

/-- ITS FALSE NEIGHBOUR: 'it returns false'. Refute it at one input. -/
def fnExactNetBestWrong : ChangeSpec := { name := "fnExactNetBest", fn := fun _ => fun
  | [d1, d2] => { results := [.lit (.bool false)], args := [d1, d2] }
  | _ => none }
def FnExactNetBestWrongFalsely : Prop := fnExactNetBestRow.holds Try.pinned (OpenSpec.ofChange fnExactNetBestWrong)

/-- 'laws.FnNetPrefix': WHATEVER THE INPUT: true; the input reads as it did. -/
def fnNetPrefixSpec : ChangeSpec := { name := "fnNetPrefix", fn := fun _ => fun
  | [d1, d2] => { results := [.lit (.bool true)], args := [d1, d2] }
  | _ => none }
def fnNetPrefixRow : OpenClaim := { program := "ytobgbogglilfjaa", sum := "8f769e5d2a4a4d46fb7c51cde52a19fe336fcf75810f4d92dd08c74758e4ec51", func := "loop.example/tern/laws.FnNetPrefix", spec := "fnNetPrefix", apart := false }
def FnNetPrefixSaid : Prop := fnNetPrefixRow.holds Try.pinned (OpenSpec.ofChange fnNetPrefixSpec)

/-- ITS FALSE NEIGHBOUR: 'it returns false'. Refute it at one input. -/
def fnNetPrefixWrong : ChangeSpec := { name := "fnNetPrefix", fn := fun _ => fun
  | [d1, d2] => { results := [.lit (.bool false)], args := [d1, d2] }
  | _ => none }
def FnNetPrefixWrongFalsely : Prop := fnNetPrefixRow.holds Try.pinned (OpenSpec.ofChange fnNetPrefixWrong)

/-- 'laws.FnNetBest': WHATEVER THE INPUT: true; the input reads as it did. -/
def fnNetBestSpec : ChangeSpec := { name := "fnNetBest", fn := fun _ => fun
  | [d] => { results := [.lit (.bool true)], args := [d] }
  | _ => none }
def fnNetBestRow : OpenClaim := { program := "ytobgbogglilfjaa", sum := "8f769e5d2a4a4d46fb7c51cde52a19fe336fcf75810f4d92dd08c74758e4ec51", func := "loop.example/tern/laws.FnNetBest", spec := "fnNetBest", apart := false }
def FnNetBestSaid : Prop := fnNetBestRow.holds Try.pinned (OpenSpec.ofChange fnNetBestSpec)

/-- ITS FALSE NEIGHBOUR: 'it returns false'. Refute it at one input. -/
def fnNetBestWrong : ChangeSpec := { name := "fnNetBest", fn := fun _ => fun
  | [d] => { results := [.lit (.bool false)], args := [d] }
  | _ => none }
def FnNetBestWrongFalsely : Prop := fnNetBestRow.holds Try.pinned (OpenSpec.ofChange fnNetBestWrong)

/-- 'laws.FnExactNetWithout': WHATEVER THE INPUT: true; the input reads as it did. -/
def fnExactNetWithoutSpec : ChangeSpec := { name := "fnExactNetWithout", fn := fun _ => fun
  | [d1, d2] => { results := [.lit (.bool true)], args := [d1, d2] }
  | _ => none }
def fnExactNetWithoutRow : OpenClaim := { program := "ytobgbogglilfjaa", sum := "8f769e5d2a4a4d46fb7c51cde52a19fe336fcf75810f4d92dd08c74758e4ec51", func := "loop.example/tern/laws.FnExactNetWithout", spec := "fnExactNetWithout", recurses := true, apart := false }
def FnExactNetWithoutSaid : Prop := fnExactNetWithoutRow.holds Try.pinned (OpenSpec.ofChange fnExactNetWithoutSpec)

/-- ITS FALSE NEIGHBOUR: 'it returns false'. Refute it at one input. -/
def fnExactNetWithoutWrong : ChangeSpec := { name := "fnExactNetWithout", fn := fun _ => fun
  | [d1, d2] => { results := [.lit (.bool false)], args := [d1, d2] }
  | _ => none }
def FnExactNetWithoutWrongFalsely : Prop := fnExactNetWithoutRow.holds Try.pinned (OpenSpec.ofChange fnExactNetWithoutWrong)

/-- 'laws.FnExactNetCover': WHATEVER THE INPUT: true; the input reads as it did. -/
def fnExactNetCoverSpec : ChangeSpec := { name := "fnExactNetCover", fn := fun _ => fun
  | [d] => { results := [.lit (.bool true)], args := [d] }
  | _ => none }
def fnExactNetCoverRow : OpenClaim := { program := "ytobgbogglilfjaa", sum := "8f769e5d2a4a4d46fb7c51cde52a19fe336fcf75810f4d92dd08c74758e4ec51", func := "loop.example/tern/laws.FnExactNetCover", spec := "fnExactNetCover", recurses := true, apart := false }
def FnExactNetCoverSaid : Prop := fnExactNetCoverRow.holds Try.pinned (OpenSpec.ofChange fnExactNetCoverSpec)

/-- ITS FALSE NEIGHBOUR: 'it returns false'. Refute it at one input. -/
def fnExactNetCoverWrong : ChangeSpec := { name := "fnExactNetCover", fn := fun _ => fun
  | [d] => { results := [.lit (.bool false)], args := [d] }
  | _ => none }
def FnExactNetCoverWrongFalsely : Prop := fnExactNetCoverRow.holds Try.pinned (OpenSpec.ofChange fnExactNetCoverWrong)

/-- 'laws.FnNetCover': WHATEVER THE INPUT: true; the input reads as it did. -/
def fnNetCoverSpec : ChangeSpec := { name := "fnNetCover", fn := fun _ => fun
  | [d] => { results := [.lit (.bool true)], args := [d] }
  | _ => none }
def fnNetCoverRow : OpenClaim := { program := "ytobgbogglilfjaa", sum := "8f769e5d2a4a4d46fb7c51cde52a19fe336fcf75810f4d92dd08c74758e4ec51", func := "loop.example/tern/laws.FnNetCover", spec := "fnNetCover", recurses := true, apart := false }
def FnNetCoverSaid : Prop := fnNetCoverRow.holds Try.pinned (OpenSpec.ofChange fnNetCoverSpec)

/-- ITS FALSE NEIGHBOUR: 'it returns false'. Refute it at one input. -/
def fnNetCoverWrong : ChangeSpec := { name := "fnNetCover", fn := fun _ => fun
  | [d] => { results := [.lit (.bool false)], args := [d] }
  | _ => none }
def FnNetCoverWrongFalsely : Prop := fnNetCoverRow.holds Try.pinned (OpenSpec.ofChange fnNetCoverWrong)

/-- 'laws.FnNetTop': WHATEVER THE INPUT: true; the input reads as it did. -/
def fnNetTopSpec : ChangeSpec := { name := "fnNetTop", fn := fun _ => fun
  | [d] => { results := [.lit (.bool true)], args := [d] }
  | _ => none }
def fnNetTopRow : OpenClaim := { program := "ytobgbogglilfjaa", sum := "8f769e5d2a4a4d46fb7c51cde52a19fe336fcf75810f4d92dd08c74758e4ec51", func := "loop.example/tern/laws.FnNetTop", spec := "fnNetTop", recurses := true, apart := false }
def FnNetTopSaid : Prop := fnNetTopRow.holds Try.pinned (OpenSpec.ofChange fnNetTopSpec)

/-- ITS FALSE NEIGHBOUR: 'it returns false'. Refute it at one input. -/
def fnNetTopWrong : ChangeSpec := { name := "fnNetTop", fn := fun _ => fun
  | [d] => { results := [.lit (.bool false)], args := [d] }
  | _ => none }
def FnNetTopWrongFalsely : Prop := fnNetTopRow.holds Try.pinned (OpenSpec.ofChange fnNetTopWrong)

/- THE SECOND FORM. 'bulk': how many values and letters a reading holds, each counted each time it is reached (what is shared counts as often as it is met; a slice's spare places count too). A statement '..UptoSaid' is the law's where the arguments, and the package variables that the reading takes, are together of bulk at most 1048576: NARROWER than '..Said'. Prove '..Said' where nothing that the law and all that it calls make is longer than what came in: it says more and counts as full. Else prove '..UptoSaid'. A law counts once. -/
mutual
def uptoBulk {H : Type} : DataW H → Nat
  | .lit (.string bytes) => bytes.length + 1
  | .lit _ => 1
  | .nil => 1
  | .ptr d => uptoBulk d + 1
  | .slice elems spare => uptoBulkAll elems + uptoBulkAll spare + 1
  | .agg parts => uptoBulkAll parts + 1
  | .iface _ d => uptoBulk d + 1
  | .map entries => uptoBulkEntries entries + 1
  | .held _ => 1
def uptoBulkAll {H : Type} : List (DataW H) → Nat
  | [] => 0
  | d :: r => uptoBulk d + uptoBulkAll r
def uptoBulkEntries {H : Type} : List (Lit × DataW H) → Nat
  | [] => 0
  | x :: r => uptoBulkEntry x + uptoBulkEntries r
def uptoBulkEntry {H : Type} : Lit × DataW H → Nat
  | (.string bytes, d) => bytes.length + uptoBulk d + 1
  | (_, d) => uptoBulk d + 1
 end
def uptoSmall : (H : Type) → List (DataW H) → Bool := fun _ ds => decide (uptoBulkAll ds ≤ 1048576)
def OpenSpec.upto (s : _root_.Go.ChangeSpec) : _root_.Go.OpenSpec := { _root_.Go.OpenSpec.ofChange s with cond := some uptoSmall }

/-- 'laws.FnExactNetOk', WHERE WHAT IT READS IS OF BULK AT MOST 1048576: true; the input reads as it did. -/
def fnExactNetOkUptoRow : OpenClaim := { program := "ytobgbogglilfjaa", sum := "8f769e5d2a4a4d46fb7c51cde52a19fe336fcf75810f4d92dd08c74758e4ec51", func := "loop.example/tern/laws.FnExactNetOk", spec := "fnExactNetOk", apart := false, narrowed := true }
def FnExactNetOkUptoSaid : Prop := fnExactNetOkUptoRow.holds Try.pinned (OpenSpec.upto fnExactNetOkSpec)

/-- 'laws.FnExactNetHas', WHERE WHAT IT READS IS OF BULK AT MOST 1048576: true; the input reads as it did. -/
def fnExactNetHasUptoRow : OpenClaim := { program := "ytobgbogglilfjaa", sum := "8f769e5d2a4a4d46fb7c51cde52a19fe336fcf75810f4d92dd08c74758e4ec51", func := "loop.example/tern/laws.FnExactNetHas", spec := "fnExactNetHas", apart := false, narrowed := true }
def FnExactNetHasUptoSaid : Prop := fnExactNetHasUptoRow.holds Try.pinned (OpenSpec.upto fnExactNetHasSpec)

/-- 'laws.FnExactNetIn', WHERE WHAT IT READS IS OF BULK AT MOST 1048576: true; the input reads as it did. -/
def fnExactNetInUptoRow : OpenClaim := { program := "ytobgbogglilfjaa", sum := "8f769e5d2a4a4d46fb7c51cde52a19fe336fcf75810f4d92dd08c74758e4ec51", func := "loop.example/tern/laws.FnExactNetIn", spec := "fnExactNetIn", apart := false, narrowed := true }
def FnExactNetInUptoSaid : Prop := fnExactNetInUptoRow.holds Try.pinned (OpenSpec.upto fnExactNetInSpec)

/-- 'laws.FnExactNetHalves', WHERE WHAT IT READS IS OF BULK AT MOST 1048576: true; the input reads as it did. -/
def fnExactNetHalvesUptoRow : OpenClaim := { program := "ytobgbogglilfjaa", sum := "8f769e5d2a4a4d46fb7c51cde52a19fe336fcf75810f4d92dd08c74758e4ec51", func := "loop.example/tern/laws.FnExactNetHalves", spec := "fnExactNetHalves", apart := false, narrowed := true }
def FnExactNetHalvesUptoSaid : Prop := fnExactNetHalvesUptoRow.holds Try.pinned (OpenSpec.upto fnExactNetHalvesSpec)

/-- 'laws.FnExactNetBest', WHERE WHAT IT READS IS OF BULK AT MOST 1048576: true; the input reads as it did. -/
def fnExactNetBestUptoRow : OpenClaim := { program := "ytobgbogglilfjaa", sum := "8f769e5d2a4a4d46fb7c51cde52a19fe336fcf75810f4d92dd08c74758e4ec51", func := "loop.example/tern/laws.FnExactNetBest", spec := "fnExactNetBest", apart := false, narrowed := true }
def FnExactNetBestUptoSaid : Prop := fnExactNetBestUptoRow.holds Try.pinned (OpenSpec.upto fnExactNetBestSpec)

/-- 'laws.FnNetPrefix', WHERE WHAT IT READS IS OF BULK AT MOST 1048576: true; the input reads as it did. -/
def fnNetPrefixUptoRow : OpenClaim := { program := "ytobgbogglilfjaa", sum := "8f769e5d2a4a4d46fb7c51cde52a19fe336fcf75810f4d92dd08c74758e4ec51", func := "loop.example/tern/laws.FnNetPrefix", spec := "fnNetPrefix", apart := false, narrowed := true }
def FnNetPrefixUptoSaid : Prop := fnNetPrefixUptoRow.holds Try.pinned (OpenSpec.upto fnNetPrefixSpec)

/-- 'laws.FnNetBest', WHERE WHAT IT READS IS OF BULK AT MOST 1048576: true; the input reads as it did. -/
def fnNetBestUptoRow : OpenClaim := { program := "ytobgbogglilfjaa", sum := "8f769e5d2a4a4d46fb7c51cde52a19fe336fcf75810f4d92dd08c74758e4ec51", func := "loop.example/tern/laws.FnNetBest", spec := "fnNetBest", apart := false, narrowed := true }
def FnNetBestUptoSaid : Prop := fnNetBestUptoRow.holds Try.pinned (OpenSpec.upto fnNetBestSpec)

/-- 'laws.FnExactNetWithout', WHERE WHAT IT READS IS OF BULK AT MOST 1048576: true; the input reads as it did. -/
def fnExactNetWithoutUptoRow : OpenClaim := { program := "ytobgbogglilfjaa", sum := "8f769e5d2a4a4d46fb7c51cde52a19fe336fcf75810f4d92dd08c74758e4ec51", func := "loop.example/tern/laws.FnExactNetWithout", spec := "fnExactNetWithout", recurses := true, apart := false, narrowed := true }
def FnExactNetWithoutUptoSaid : Prop := fnExactNetWithoutUptoRow.holds Try.pinned (OpenSpec.upto fnExactNetWithoutSpec)

/-- 'laws.FnExactNetCover', WHERE WHAT IT READS IS OF BULK AT MOST 1048576: true; the input reads as it did. -/
def fnExactNetCoverUptoRow : OpenClaim := { program := "ytobgbogglilfjaa", sum := "8f769e5d2a4a4d46fb7c51cde52a19fe336fcf75810f4d92dd08c74758e4ec51", func := "loop.example/tern/laws.FnExactNetCover", spec := "fnExactNetCover", recurses := true, apart := false, narrowed := true }
def FnExactNetCoverUptoSaid : Prop := fnExactNetCoverUptoRow.holds Try.pinned (OpenSpec.upto fnExactNetCoverSpec)

/-- 'laws.FnNetCover', WHERE WHAT IT READS IS OF BULK AT MOST 1048576: true; the input reads as it did. -/
def fnNetCoverUptoRow : OpenClaim := { program := "ytobgbogglilfjaa", sum := "8f769e5d2a4a4d46fb7c51cde52a19fe336fcf75810f4d92dd08c74758e4ec51", func := "loop.example/tern/laws.FnNetCover", spec := "fnNetCover", recurses := true, apart := false, narrowed := true }
def FnNetCoverUptoSaid : Prop := fnNetCoverUptoRow.holds Try.pinned (OpenSpec.upto fnNetCoverSpec)

/-- 'laws.FnNetTop', WHERE WHAT IT READS IS OF BULK AT MOST 1048576: true; the input reads as it did. -/
def fnNetTopUptoRow : OpenClaim := { program := "ytobgbogglilfjaa", sum := "8f769e5d2a4a4d46fb7c51cde52a19fe336fcf75810f4d92dd08c74758e4ec51", func := "loop.example/tern/laws.FnNetTop", spec := "fnNetTop", recurses := true, apart := false, narrowed := true }
def FnNetTopUptoSaid : Prop := fnNetTopUptoRow.holds Try.pinned (OpenSpec.upto fnNetTopSpec)

end Rows
end Go.Proofs.Ytobgbogglilfjaa

/-
  No cell of these rows narrows 'for every input' (looked for: loops, veiled, ifaces, maps, wideKeys, modest, calm, conditions, laid).
  DERIVED. THE GIVEN ROWS OF THIS SEAT. 7 by the template 'for every input the law returns true; each argument reads behind the call as it read before'; 0 by the template 'total and deterministic' (their statements: YtinahnfmgnncjaaTotals.lean).
  GIVEN WITH THE SEED: the statements are not yours to turn. If you find one false, say at which input.
  Laid BY PROGRAM, IN A SANDBOX (cutbox-rows.mjs): the forced cells as the released guide's own fill.sh prints them over the translation 995300c47fdf948f… (all of the seat's roots in one cut). By AI agents, Wed Nov 11 2026. No macro, syntax, notation, axiom, sorry.
-/
import Derived.Test.YtinahnfmgnncjaaChecked
import GoSem.Claim
import GoSem.ClaimJoined
import GoSem.ClaimMapViews
import Derived.JoinedTies
import Derived.KernelRfl
namespace Go.Proofs.Ytinahnfmgnncjaa
/- THE CELL 'sum', in the pinned program and in every row, IS THE sha256 OF THE DUMP (.gsa) THAT YtinahnfmgnncjaaProg.lean LOADS. Nothing in Lean hashes anything: it is a label: what it is worth is what the hold of that sum in a sandbox is worth. -/
noncomputable def Try.pinned : Pinned := { name := "ytinahnfmgnncjaa", sum := "995300c47fdf948fc4692d5dce9ddd4da2cf8f4f8d1961031f970e3dd5d49934", checked := Try.checked }
namespace Rows
def none {H : Type} : Left H := { results := [], args := [] }

/-- 'laws.FnExactHelloSum': WHATEVER THE INPUT: true; the input reads as it did. -/
def fnExactHelloSumSpec : ChangeSpec := { name := "fnExactHelloSum", fn := fun _ => fun
  | [d1, d2] => { results := [.lit (.bool true)], args := [d1, d2] }
  | _ => none }
def fnExactHelloSumRow : OpenClaim := { program := "ytinahnfmgnncjaa", sum := "995300c47fdf948fc4692d5dce9ddd4da2cf8f4f8d1961031f970e3dd5d49934", func := "loop.example/tern/laws.FnExactHelloSum", spec := "fnExactHelloSum", apart := false }
def FnExactHelloSumSaid : Prop := fnExactHelloSumRow.holds Try.pinned (OpenSpec.ofChange fnExactHelloSumSpec)

/-- ITS FALSE NEIGHBOUR: 'it returns false'. Refute it at one input. -/
def fnExactHelloSumWrong : ChangeSpec := { name := "fnExactHelloSum", fn := fun _ => fun
  | [d1, d2] => { results := [.lit (.bool false)], args := [d1, d2] }
  | _ => none }
def FnExactHelloSumWrongFalsely : Prop := fnExactHelloSumRow.holds Try.pinned (OpenSpec.ofChange fnExactHelloSumWrong)

/-- 'laws.FnExactHelloKeysOk': WHATEVER THE INPUT: true; the input reads as it did. -/
def fnExactHelloKeysOkSpec : ChangeSpec := { name := "fnExactHelloKeysOk", fn := fun _ => fun
  | [d] => { results := [.lit (.bool true)], args := [d] }
  | _ => none }
def fnExactHelloKeysOkRow : OpenClaim := { program := "ytinahnfmgnncjaa", sum := "995300c47fdf948fc4692d5dce9ddd4da2cf8f4f8d1961031f970e3dd5d49934", func := "loop.example/tern/laws.FnExactHelloKeysOk", spec := "fnExactHelloKeysOk", apart := false }
def FnExactHelloKeysOkSaid : Prop := fnExactHelloKeysOkRow.holds Try.pinned (OpenSpec.ofChange fnExactHelloKeysOkSpec)

/-- ITS FALSE NEIGHBOUR: 'it returns false'. Refute it at one input. -/
def fnExactHelloKeysOkWrong : ChangeSpec := { name := "fnExactHelloKeysOk", fn := fun _ => fun
  | [d] => { results := [.lit (.bool false)], args := [d] }
  | _ => none }
def FnExactHelloKeysOkWrongFalsely : Prop := fnExactHelloKeysOkRow.holds Try.pinned (OpenSpec.ofChange fnExactHelloKeysOkWrong)

/-- 'laws.FnExactHelloWordOk': WHATEVER THE INPUT: true; the input reads as it did. -/
def fnExactHelloWordOkSpec : ChangeSpec := { name := "fnExactHelloWordOk", fn := fun _ => fun
  | [d] => { results := [.lit (.bool true)], args := [d] }
  | _ => none }
def fnExactHelloWordOkRow : OpenClaim := { program := "ytinahnfmgnncjaa", sum := "995300c47fdf948fc4692d5dce9ddd4da2cf8f4f8d1961031f970e3dd5d49934", func := "loop.example/tern/laws.FnExactHelloWordOk", spec := "fnExactHelloWordOk", apart := false }
def FnExactHelloWordOkSaid : Prop := fnExactHelloWordOkRow.holds Try.pinned (OpenSpec.ofChange fnExactHelloWordOkSpec)

/-- ITS FALSE NEIGHBOUR: 'it returns false'. Refute it at one input. -/
def fnExactHelloWordOkWrong : ChangeSpec := { name := "fnExactHelloWordOk", fn := fun _ => fun
  | [d] => { results := [.lit (.bool false)], args := [d] }
  | _ => none }
def FnExactHelloWordOkWrongFalsely : Prop := fnExactHelloWordOkRow.holds Try.pinned (OpenSpec.ofChange fnExactHelloWordOkWrong)

/-- 'laws.FnExactHelloTableOk': WHATEVER THE INPUT: true; the input reads as it did. -/
def fnExactHelloTableOkSpec : ChangeSpec := { name := "fnExactHelloTableOk", fn := fun _ => fun
  | [d] => { results := [.lit (.bool true)], args := [d] }
  | _ => none }
def fnExactHelloTableOkRow : OpenClaim := { program := "ytinahnfmgnncjaa", sum := "995300c47fdf948fc4692d5dce9ddd4da2cf8f4f8d1961031f970e3dd5d49934", func := "loop.example/tern/laws.FnExactHelloTableOk", spec := "fnExactHelloTableOk", apart := false }
def FnExactHelloTableOkSaid : Prop := fnExactHelloTableOkRow.holds Try.pinned (OpenSpec.ofChange fnExactHelloTableOkSpec)

/-- ITS FALSE NEIGHBOUR: 'it returns false'. Refute it at one input. -/
def fnExactHelloTableOkWrong : ChangeSpec := { name := "fnExactHelloTableOk", fn := fun _ => fun
  | [d] => { results := [.lit (.bool false)], args := [d] }
  | _ => none }
def FnExactHelloTableOkWrongFalsely : Prop := fnExactHelloTableOkRow.holds Try.pinned (OpenSpec.ofChange fnExactHelloTableOkWrong)

/-- 'laws.FnExactHelloRight': WHATEVER THE INPUT: true; the input reads as it did. -/
def fnExactHelloRightSpec : ChangeSpec := { name := "fnExactHelloRight", fn := fun _ => fun
  | [d1, d2] => { results := [.lit (.bool true)], args := [d1, d2] }
  | _ => none }
def fnExactHelloRightRow : OpenClaim := { program := "ytinahnfmgnncjaa", sum := "995300c47fdf948fc4692d5dce9ddd4da2cf8f4f8d1961031f970e3dd5d49934", func := "loop.example/tern/laws.FnExactHelloRight", spec := "fnExactHelloRight", unfollowed := true, recurses := true, apart := false }
def FnExactHelloRightSaid : Prop := fnExactHelloRightRow.holds Try.pinned (OpenSpec.ofChange fnExactHelloRightSpec)

/-- ITS FALSE NEIGHBOUR: 'it returns false'. Refute it at one input. -/
def fnExactHelloRightWrong : ChangeSpec := { name := "fnExactHelloRight", fn := fun _ => fun
  | [d1, d2] => { results := [.lit (.bool false)], args := [d1, d2] }
  | _ => none }
def FnExactHelloRightWrongFalsely : Prop := fnExactHelloRightRow.holds Try.pinned (OpenSpec.ofChange fnExactHelloRightWrong)

/-- 'laws.FnExactHelloEndOk': WHATEVER THE INPUT: true; the input reads as it did. -/
def fnExactHelloEndOkSpec : ChangeSpec := { name := "fnExactHelloEndOk", fn := fun _ => fun
  | [d] => { results := [.lit (.bool true)], args := [d] }
  | _ => none }
def fnExactHelloEndOkRow : OpenClaim := { program := "ytinahnfmgnncjaa", sum := "995300c47fdf948fc4692d5dce9ddd4da2cf8f4f8d1961031f970e3dd5d49934", func := "loop.example/tern/laws.FnExactHelloEndOk", spec := "fnExactHelloEndOk", inPlace := ["slices.overlaps[loop.example/tern/impl.HelloEntry]"], unfollowed := true, recurses := true, apart := false }
def FnExactHelloEndOkSaid : Prop := fnExactHelloEndOkRow.holds Try.pinned (OpenSpec.ofChange fnExactHelloEndOkSpec)

/-- ITS FALSE NEIGHBOUR: 'it returns false'. Refute it at one input. -/
def fnExactHelloEndOkWrong : ChangeSpec := { name := "fnExactHelloEndOk", fn := fun _ => fun
  | [d] => { results := [.lit (.bool false)], args := [d] }
  | _ => none }
def FnExactHelloEndOkWrongFalsely : Prop := fnExactHelloEndOkRow.holds Try.pinned (OpenSpec.ofChange fnExactHelloEndOkWrong)

/-- 'laws.FnExactHelloNext': WHATEVER THE INPUT: true; the input reads as it did. -/
def fnExactHelloNextSpec : ChangeSpec := { name := "fnExactHelloNext", fn := fun _ => fun
  | [d] => { results := [.lit (.bool true)], args := [d] }
  | _ => none }
def fnExactHelloNextRow : OpenClaim := { program := "ytinahnfmgnncjaa", sum := "995300c47fdf948fc4692d5dce9ddd4da2cf8f4f8d1961031f970e3dd5d49934", func := "loop.example/tern/laws.FnExactHelloNext", spec := "fnExactHelloNext", inPlace := ["slices.overlaps[loop.example/tern/impl.HelloEntry]"], unfollowed := true, recurses := true, apart := false }
def FnExactHelloNextSaid : Prop := fnExactHelloNextRow.holds Try.pinned (OpenSpec.ofChange fnExactHelloNextSpec)

/-- ITS FALSE NEIGHBOUR: 'it returns false'. Refute it at one input. -/
def fnExactHelloNextWrong : ChangeSpec := { name := "fnExactHelloNext", fn := fun _ => fun
  | [d] => { results := [.lit (.bool false)], args := [d] }
  | _ => none }
def FnExactHelloNextWrongFalsely : Prop := fnExactHelloNextRow.holds Try.pinned (OpenSpec.ofChange fnExactHelloNextWrong)

/- THE SECOND FORM. 'bulk': how many values and letters a reading holds, each counted each time it is reached (what is shared counts as often as it is met; a slice's spare places count too). A statement '..UptoSaid' is the law's where the arguments, and the package variables that the reading takes, are together of bulk at most 1048576: NARROWER than '..Said'. Prove '..Said' where nothing that the law and all that it calls make is longer than what came in: it says more and counts as full. Else prove '..UptoSaid'. A law counts once. -/
mutual
def uptoBulk {H : Type} : DataW H → Nat
  | .lit (.string bytes) => bytes.length + 1
  | .lit _ => 1
  | .nil => 1
  | .ptr d => uptoBulk d + 1
  | .slice elems spare => uptoBulkAll elems + uptoBulkAll spare + 1
  | .agg parts => uptoBulkAll parts + 1
  | .iface _ d => uptoBulk d + 1
  | .map entries => uptoBulkEntries entries + 1
  | .held _ => 1
def uptoBulkAll {H : Type} : List (DataW H) → Nat
  | [] => 0
  | d :: r => uptoBulk d + uptoBulkAll r
def uptoBulkEntries {H : Type} : List (Lit × DataW H) → Nat
  | [] => 0
  | x :: r => uptoBulkEntry x + uptoBulkEntries r
def uptoBulkEntry {H : Type} : Lit × DataW H → Nat
  | (.string bytes, d) => bytes.length + uptoBulk d + 1
  | (_, d) => uptoBulk d + 1
 end
def uptoSmall : (H : Type) → List (DataW H) → Bool := fun _ ds => decide (uptoBulkAll ds ≤ 1048576)
def OpenSpec.upto (s : _root_.Go.ChangeSpec) : _root_.Go.OpenSpec := { _root_.Go.OpenSpec.ofChange s with cond := some uptoSmall }

/-- 'laws.FnExactHelloSum', WHERE WHAT IT READS IS OF BULK AT MOST 1048576: true; the input reads as it did. -/
def fnExactHelloSumUptoRow : OpenClaim := { program := "ytinahnfmgnncjaa", sum := "995300c47fdf948fc4692d5dce9ddd4da2cf8f4f8d1961031f970e3dd5d49934", func := "loop.example/tern/laws.FnExactHelloSum", spec := "fnExactHelloSum", apart := false, narrowed := true }
def FnExactHelloSumUptoSaid : Prop := fnExactHelloSumUptoRow.holds Try.pinned (OpenSpec.upto fnExactHelloSumSpec)

/-- 'laws.FnExactHelloKeysOk', WHERE WHAT IT READS IS OF BULK AT MOST 1048576: true; the input reads as it did. -/
def fnExactHelloKeysOkUptoRow : OpenClaim := { program := "ytinahnfmgnncjaa", sum := "995300c47fdf948fc4692d5dce9ddd4da2cf8f4f8d1961031f970e3dd5d49934", func := "loop.example/tern/laws.FnExactHelloKeysOk", spec := "fnExactHelloKeysOk", apart := false, narrowed := true }
def FnExactHelloKeysOkUptoSaid : Prop := fnExactHelloKeysOkUptoRow.holds Try.pinned (OpenSpec.upto fnExactHelloKeysOkSpec)

/-- 'laws.FnExactHelloWordOk', WHERE WHAT IT READS IS OF BULK AT MOST 1048576: true; the input reads as it did. -/
def fnExactHelloWordOkUptoRow : OpenClaim := { program := "ytinahnfmgnncjaa", sum := "995300c47fdf948fc4692d5dce9ddd4da2cf8f4f8d1961031f970e3dd5d49934", func := "loop.example/tern/laws.FnExactHelloWordOk", spec := "fnExactHelloWordOk", apart := false, narrowed := true }
def FnExactHelloWordOkUptoSaid : Prop := fnExactHelloWordOkUptoRow.holds Try.pinned (OpenSpec.upto fnExactHelloWordOkSpec)

/-- 'laws.FnExactHelloTableOk', WHERE WHAT IT READS IS OF BULK AT MOST 1048576: true; the input reads as it did. -/
def fnExactHelloTableOkUptoRow : OpenClaim := { program := "ytinahnfmgnncjaa", sum := "995300c47fdf948fc4692d5dce9ddd4da2cf8f4f8d1961031f970e3dd5d49934", func := "loop.example/tern/laws.FnExactHelloTableOk", spec := "fnExactHelloTableOk", apart := false, narrowed := true }
def FnExactHelloTableOkUptoSaid : Prop := fnExactHelloTableOkUptoRow.holds Try.pinned (OpenSpec.upto fnExactHelloTableOkSpec)

/-- 'laws.FnExactHelloRight', WHERE WHAT IT READS IS OF BULK AT MOST 1048576: true; the input reads as it did. -/
def fnExactHelloRightUptoRow : OpenClaim := { program := "ytinahnfmgnncjaa", sum := "995300c47fdf948fc4692d5dce9ddd4da2cf8f4f8d1961031f970e3dd5d49934", func := "loop.example/tern/laws.FnExactHelloRight", spec := "fnExactHelloRight", unfollowed := true, recurses := true, apart := false, narrowed := true }
def FnExactHelloRightUptoSaid : Prop := fnExactHelloRightUptoRow.holds Try.pinned (OpenSpec.upto fnExactHelloRightSpec)

/-- 'laws.FnExactHelloEndOk', WHERE WHAT IT READS IS OF BULK AT MOST 1048576: true; the input reads as it did. -/
def fnExactHelloEndOkUptoRow : OpenClaim := { program := "ytinahnfmgnncjaa", sum := "995300c47fdf948fc4692d5dce9ddd4da2cf8f4f8d1961031f970e3dd5d49934", func := "loop.example/tern/laws.FnExactHelloEndOk", spec := "fnExactHelloEndOk", inPlace := ["slices.overlaps[loop.example/tern/impl.HelloEntry]"], unfollowed := true, recurses := true, apart := false, narrowed := true }
def FnExactHelloEndOkUptoSaid : Prop := fnExactHelloEndOkUptoRow.holds Try.pinned (OpenSpec.upto fnExactHelloEndOkSpec)

/-- 'laws.FnExactHelloNext', WHERE WHAT IT READS IS OF BULK AT MOST 1048576: true; the input reads as it did. -/
def fnExactHelloNextUptoRow : OpenClaim := { program := "ytinahnfmgnncjaa", sum := "995300c47fdf948fc4692d5dce9ddd4da2cf8f4f8d1961031f970e3dd5d49934", func := "loop.example/tern/laws.FnExactHelloNext", spec := "fnExactHelloNext", inPlace := ["slices.overlaps[loop.example/tern/impl.HelloEntry]"], unfollowed := true, recurses := true, apart := false, narrowed := true }
def FnExactHelloNextUptoSaid : Prop := fnExactHelloNextUptoRow.holds Try.pinned (OpenSpec.upto fnExactHelloNextSpec)

end Rows
end Go.Proofs.Ytinahnfmgnncjaa

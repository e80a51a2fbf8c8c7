/-
  No cell of these rows narrows 'for every input' (looked for: loops, veiled, ifaces, maps, wideKeys, modest, calm, conditions, laid).
  DERIVED. THE GIVEN ROWS OF THIS SEAT. 9 by the template 'for every input the law returns true; each argument reads behind the call as it read before'; 0 by the template 'total and deterministic' (their statements: YtencglgaldaaiaaTotals.lean).
  GIVEN WITH THE SEED: the statements are not yours to turn. If you find one false, say at which input.
  Laid BY PROGRAM, IN A SANDBOX (cutbox-rows.mjs): the forced cells as the released guide's own fill.sh prints them over the translation 87c8e0e168c56ffd… (all of the seat's roots in one cut). By AI agents, Wed Nov 11 2026. No macro, syntax, notation, axiom, sorry.
-/
import Derived.Test.YtencglgaldaaiaaChecked
import GoSem.Claim
import GoSem.ClaimJoined
import GoSem.ClaimMapViews
import Derived.JoinedTies
import Derived.KernelRfl
namespace Go.Proofs.Ytencglgaldaaiaa
/- THE CELL 'sum', in the pinned program and in every row, IS THE sha256 OF THE DUMP (.gsa) THAT YtencglgaldaaiaaProg.lean LOADS. Nothing in Lean hashes anything: it is a label: what it is worth is what the hold of that sum in a sandbox is worth. -/
noncomputable def Try.pinned : Pinned := { name := "ytencglgaldaaiaa", sum := "87c8e0e168c56ffda57da44eeb63d2b3f5edc2f7454b3d39a59837bfcdfa3de6", checked := Try.checked }
namespace Rows
def none {H : Type} : Left H := { results := [], args := [] }

/-- 'laws.FnExactFibScore': WHATEVER THE INPUT: true; the input reads as it did. -/
def fnExactFibScoreSpec : ChangeSpec := { name := "fnExactFibScore", fn := fun _ => fun
  | [d1, d2] => { results := [.lit (.bool true)], args := [d1, d2] }
  | _ => none }
def fnExactFibScoreRow : OpenClaim := { program := "ytencglgaldaaiaa", sum := "87c8e0e168c56ffda57da44eeb63d2b3f5edc2f7454b3d39a59837bfcdfa3de6", func := "loop.example/tern/laws.FnExactFibScore", spec := "fnExactFibScore", apart := false }
def FnExactFibScoreSaid : Prop := fnExactFibScoreRow.holds Try.pinned (OpenSpec.ofChange fnExactFibScoreSpec)

/-- ITS FALSE NEIGHBOUR: 'it returns false'. Refute it at one input. -/
def fnExactFibScoreWrong : ChangeSpec := { name := "fnExactFibScore", fn := fun _ => fun
  | [d1, d2] => { results := [.lit (.bool false)], args := [d1, d2] }
  | _ => none }
def FnExactFibScoreWrongFalsely : Prop := fnExactFibScoreRow.holds Try.pinned (OpenSpec.ofChange fnExactFibScoreWrong)

/-- 'laws.FnFibScore': WHATEVER THE INPUT: true; the input reads as it did. -/
def fnFibScoreSpec : ChangeSpec := { name := "fnFibScore", fn := fun _ => fun
  | [d] => { results := [.lit (.bool true)], args := [d] }
  | _ => none }
def fnFibScoreRow : OpenClaim := { program := "ytencglgaldaaiaa", sum := "87c8e0e168c56ffda57da44eeb63d2b3f5edc2f7454b3d39a59837bfcdfa3de6", func := "loop.example/tern/laws.FnFibScore", spec := "fnFibScore", apart := false }
def FnFibScoreSaid : Prop := fnFibScoreRow.holds Try.pinned (OpenSpec.ofChange fnFibScoreSpec)

/-- ITS FALSE NEIGHBOUR: 'it returns false'. Refute it at one input. -/
def fnFibScoreWrong : ChangeSpec := { name := "fnFibScore", fn := fun _ => fun
  | [d] => { results := [.lit (.bool false)], args := [d] }
  | _ => none }
def FnFibScoreWrongFalsely : Prop := fnFibScoreRow.holds Try.pinned (OpenSpec.ofChange fnFibScoreWrong)

/-- 'laws.FnExactFibHopsOk': WHATEVER THE INPUT: true; the input reads as it did. -/
def fnExactFibHopsOkSpec : ChangeSpec := { name := "fnExactFibHopsOk", fn := fun _ => fun
  | [d] => { results := [.lit (.bool true)], args := [d] }
  | _ => none }
def fnExactFibHopsOkRow : OpenClaim := { program := "ytencglgaldaaiaa", sum := "87c8e0e168c56ffda57da44eeb63d2b3f5edc2f7454b3d39a59837bfcdfa3de6", func := "loop.example/tern/laws.FnExactFibHopsOk", spec := "fnExactFibHopsOk", apart := false }
def FnExactFibHopsOkSaid : Prop := fnExactFibHopsOkRow.holds Try.pinned (OpenSpec.ofChange fnExactFibHopsOkSpec)

/-- ITS FALSE NEIGHBOUR: 'it returns false'. Refute it at one input. -/
def fnExactFibHopsOkWrong : ChangeSpec := { name := "fnExactFibHopsOk", fn := fun _ => fun
  | [d] => { results := [.lit (.bool false)], args := [d] }
  | _ => none }
def FnExactFibHopsOkWrongFalsely : Prop := fnExactFibHopsOkRow.holds Try.pinned (OpenSpec.ofChange fnExactFibHopsOkWrong)

/-- 'laws.FnExactFibPick': WHATEVER THE INPUT: true; the input reads as it did. -/
def fnExactFibPickSpec : ChangeSpec := { name := "fnExactFibPick", fn := fun _ => fun
  | [d1, d2] => { results := [.lit (.bool true)], args := [d1, d2] }
  | _ => none }
def fnExactFibPickRow : OpenClaim := { program := "ytencglgaldaaiaa", sum := "87c8e0e168c56ffda57da44eeb63d2b3f5edc2f7454b3d39a59837bfcdfa3de6", func := "loop.example/tern/laws.FnExactFibPick", spec := "fnExactFibPick", apart := false }
def FnExactFibPickSaid : Prop := fnExactFibPickRow.holds Try.pinned (OpenSpec.ofChange fnExactFibPickSpec)

/-- ITS FALSE NEIGHBOUR: 'it returns false'. Refute it at one input. -/
def fnExactFibPickWrong : ChangeSpec := { name := "fnExactFibPick", fn := fun _ => fun
  | [d1, d2] => { results := [.lit (.bool false)], args := [d1, d2] }
  | _ => none }
def FnExactFibPickWrongFalsely : Prop := fnExactFibPickRow.holds Try.pinned (OpenSpec.ofChange fnExactFibPickWrong)

/-- 'laws.FnFibPick': WHATEVER THE INPUT: true; the input reads as it did. -/
def fnFibPickSpec : ChangeSpec := { name := "fnFibPick", fn := fun _ => fun
  | [d] => { results := [.lit (.bool true)], args := [d] }
  | _ => none }
def fnFibPickRow : OpenClaim := { program := "ytencglgaldaaiaa", sum := "87c8e0e168c56ffda57da44eeb63d2b3f5edc2f7454b3d39a59837bfcdfa3de6", func := "loop.example/tern/laws.FnFibPick", spec := "fnFibPick", apart := false }
def FnFibPickSaid : Prop := fnFibPickRow.holds Try.pinned (OpenSpec.ofChange fnFibPickSpec)

/-- ITS FALSE NEIGHBOUR: 'it returns false'. Refute it at one input. -/
def fnFibPickWrong : ChangeSpec := { name := "fnFibPick", fn := fun _ => fun
  | [d] => { results := [.lit (.bool false)], args := [d] }
  | _ => none }
def FnFibPickWrongFalsely : Prop := fnFibPickRow.holds Try.pinned (OpenSpec.ofChange fnFibPickWrong)

/-- 'laws.FnExactFibTableOk': WHATEVER THE INPUT: true; the input reads as it did. -/
def fnExactFibTableOkSpec : ChangeSpec := { name := "fnExactFibTableOk", fn := fun _ => fun
  | [d] => { results := [.lit (.bool true)], args := [d] }
  | _ => none }
def fnExactFibTableOkRow : OpenClaim := { program := "ytencglgaldaaiaa", sum := "87c8e0e168c56ffda57da44eeb63d2b3f5edc2f7454b3d39a59837bfcdfa3de6", func := "loop.example/tern/laws.FnExactFibTableOk", spec := "fnExactFibTableOk", apart := false }
def FnExactFibTableOkSaid : Prop := fnExactFibTableOkRow.holds Try.pinned (OpenSpec.ofChange fnExactFibTableOkSpec)

/-- ITS FALSE NEIGHBOUR: 'it returns false'. Refute it at one input. -/
def fnExactFibTableOkWrong : ChangeSpec := { name := "fnExactFibTableOk", fn := fun _ => fun
  | [d] => { results := [.lit (.bool false)], args := [d] }
  | _ => none }
def FnExactFibTableOkWrongFalsely : Prop := fnExactFibTableOkRow.holds Try.pinned (OpenSpec.ofChange fnExactFibTableOkWrong)

/-- 'laws.FnExactFibFind': WHATEVER THE INPUT: true; the input reads as it did. -/
def fnExactFibFindSpec : ChangeSpec := { name := "fnExactFibFind", fn := fun _ => fun
  | [d1, d2] => { results := [.lit (.bool true)], args := [d1, d2] }
  | _ => none }
def fnExactFibFindRow : OpenClaim := { program := "ytencglgaldaaiaa", sum := "87c8e0e168c56ffda57da44eeb63d2b3f5edc2f7454b3d39a59837bfcdfa3de6", func := "loop.example/tern/laws.FnExactFibFind", spec := "fnExactFibFind", apart := false }
def FnExactFibFindSaid : Prop := fnExactFibFindRow.holds Try.pinned (OpenSpec.ofChange fnExactFibFindSpec)

/-- ITS FALSE NEIGHBOUR: 'it returns false'. Refute it at one input. -/
def fnExactFibFindWrong : ChangeSpec := { name := "fnExactFibFind", fn := fun _ => fun
  | [d1, d2] => { results := [.lit (.bool false)], args := [d1, d2] }
  | _ => none }
def FnExactFibFindWrongFalsely : Prop := fnExactFibFindRow.holds Try.pinned (OpenSpec.ofChange fnExactFibFindWrong)

/-- 'laws.FnFibFind': WHATEVER THE INPUT: true; the input reads as it did. -/
def fnFibFindSpec : ChangeSpec := { name := "fnFibFind", fn := fun _ => fun
  | [d] => { results := [.lit (.bool true)], args := [d] }
  | _ => none }
def fnFibFindRow : OpenClaim := { program := "ytencglgaldaaiaa", sum := "87c8e0e168c56ffda57da44eeb63d2b3f5edc2f7454b3d39a59837bfcdfa3de6", func := "loop.example/tern/laws.FnFibFind", spec := "fnFibFind", apart := false }
def FnFibFindSaid : Prop := fnFibFindRow.holds Try.pinned (OpenSpec.ofChange fnFibFindSpec)

/-- ITS FALSE NEIGHBOUR: 'it returns false'. Refute it at one input. -/
def fnFibFindWrong : ChangeSpec := { name := "fnFibFind", fn := fun _ => fun
  | [d] => { results := [.lit (.bool false)], args := [d] }
  | _ => none }
def FnFibFindWrongFalsely : Prop := fnFibFindRow.holds Try.pinned (OpenSpec.ofChange fnFibFindWrong)

/-- 'laws.FnExactFibOpen': WHATEVER THE INPUT: true; the input reads as it did. -/
def fnExactFibOpenSpec : ChangeSpec := { name := "fnExactFibOpen", fn := fun _ => fun
  | [] => { results := [.lit (.bool true)], args := [] }
  | _ => none }
def fnExactFibOpenRow : OpenClaim := { program := "ytencglgaldaaiaa", sum := "87c8e0e168c56ffda57da44eeb63d2b3f5edc2f7454b3d39a59837bfcdfa3de6", func := "loop.example/tern/laws.FnExactFibOpen", spec := "fnExactFibOpen", apart := false }
def FnExactFibOpenSaid : Prop := fnExactFibOpenRow.holds Try.pinned (OpenSpec.ofChange fnExactFibOpenSpec)

/-- ITS FALSE NEIGHBOUR: 'it returns false'. Refute it at one input. -/
def fnExactFibOpenWrong : ChangeSpec := { name := "fnExactFibOpen", fn := fun _ => fun
  | [] => { results := [.lit (.bool false)], args := [] }
  | _ => none }
def FnExactFibOpenWrongFalsely : Prop := fnExactFibOpenRow.holds Try.pinned (OpenSpec.ofChange fnExactFibOpenWrong)

/- THE SECOND FORM. 'bulk': how many values and letters a reading holds, each counted each time it is reached (what is shared counts as often as it is met; a slice's spare places count too). A statement '..UptoSaid' is the law's where the arguments, and the package variables that the reading takes, are together of bulk at most 1048576: NARROWER than '..Said'. Prove '..Said' where nothing that the law and all that it calls make is longer than what came in: it says more and counts as full. Else prove '..UptoSaid'. A law counts once. -/
mutual
def uptoBulk {H : Type} : DataW H → Nat
  | .lit (.string bytes) => bytes.length + 1
  | .lit _ => 1
  | .nil => 1
  | .ptr d => uptoBulk d + 1
  | .slice elems spare => uptoBulkAll elems + uptoBulkAll spare + 1
  | .agg parts => uptoBulkAll parts + 1
  | .iface _ d => uptoBulk d + 1
  | .map entries => uptoBulkEntries entries + 1
  | .held _ => 1
def uptoBulkAll {H : Type} : List (DataW H) → Nat
  | [] => 0
  | d :: r => uptoBulk d + uptoBulkAll r
def uptoBulkEntries {H : Type} : List (Lit × DataW H) → Nat
  | [] => 0
  | x :: r => uptoBulkEntry x + uptoBulkEntries r
def uptoBulkEntry {H : Type} : Lit × DataW H → Nat
  | (.string bytes, d) => bytes.length + uptoBulk d + 1
  | (_, d) => uptoBulk d + 1
 end
def uptoSmall : (H : Type) → List (DataW H) → Bool := fun _ ds => decide (uptoBulkAll ds ≤ 1048576)
def OpenSpec.upto (s : _root_.Go.ChangeSpec) : _root_.Go.OpenSpec := { _root_.Go.OpenSpec.ofChange s with cond := some uptoSmall }

/-- 'laws.FnExactFibScore', WHERE WHAT IT READS IS OF BULK AT MOST 1048576: true; the input reads as it did. -/
def fnExactFibScoreUptoRow : OpenClaim := { program := "ytencglgaldaaiaa", sum := "87c8e0e168c56ffda57da44eeb63d2b3f5edc2f7454b3d39a59837bfcdfa3de6", func := "loop.example/tern/laws.FnExactFibScore", spec := "fnExactFibScore", apart := false, narrowed := true }
def FnExactFibScoreUptoSaid : Prop := fnExactFibScoreUptoRow.holds Try.pinned (OpenSpec.upto fnExactFibScoreSpec)

/-- 'laws.FnFibScore', WHERE WHAT IT READS IS OF BULK AT MOST 1048576: true; the input reads as it did. -/
def fnFibScoreUptoRow : OpenClaim := { program := "ytencglgaldaaiaa", sum := "87c8e0e168c56ffda57da44eeb63d2b3f5edc2f7454b3d39a59837bfcdfa3de6", func := "loop.example/tern/laws.FnFibScore", spec := "fnFibScore", apart := false, narrowed := true }
def FnFibScoreUptoSaid : Prop := fnFibScoreUptoRow.holds Try.pinned (OpenSpec.upto fnFibScoreSpec)

/-- 'laws.FnExactFibHopsOk', WHERE WHAT IT READS IS OF BULK AT MOST 1048576: true; the input reads as it did. -/
def fnExactFibHopsOkUptoRow : OpenClaim := { program := "ytencglgaldaaiaa", sum := "87c8e0e168c56ffda57da44eeb63d2b3f5edc2f7454b3d39a59837bfcdfa3de6", func := "loop.example/tern/laws.FnExactFibHopsOk", spec := "fnExactFibHopsOk", apart := false, narrowed := true }
def FnExactFibHopsOkUptoSaid : Prop := fnExactFibHopsOkUptoRow.holds Try.pinned (OpenSpec.upto fnExactFibHopsOkSpec)

/-- 'laws.FnExactFibPick', WHERE WHAT IT READS IS OF BULK AT MOST 1048576: true; the input reads as it did. -/
def fnExactFibPickUptoRow : OpenClaim := { program := "ytencglgaldaaiaa", sum := "87c8e0e168c56ffda57da44eeb63d2b3f5edc2f7454b3d39a59837bfcdfa3de6", func := "loop.example/tern/laws.FnExactFibPick", spec := "fnExactFibPick", apart := false, narrowed := true }
def FnExactFibPickUptoSaid : Prop := fnExactFibPickUptoRow.holds Try.pinned (OpenSpec.upto fnExactFibPickSpec)

/-- 'laws.FnFibPick', WHERE WHAT IT READS IS OF BULK AT MOST 1048576: true; the input reads as it did. -/
def fnFibPickUptoRow : OpenClaim := { program := "ytencglgaldaaiaa", sum := "87c8e0e168c56ffda57da44eeb63d2b3f5edc2f7454b3d39a59837bfcdfa3de6", func := "loop.example/tern/laws.FnFibPick", spec := "fnFibPick", apart := false, narrowed := true }
def FnFibPickUptoSaid : Prop := fnFibPickUptoRow.holds Try.pinned (OpenSpec.upto fnFibPickSpec)

/-- 'laws.FnExactFibTableOk', WHERE WHAT IT READS IS OF BULK AT MOST 1048576: true; the input reads as it did. -/
def fnExactFibTableOkUptoRow : OpenClaim := { program := "ytencglgaldaaiaa", sum := "87c8e0e168c56ffda57da44eeb63d2b3f5edc2f7454b3d39a59837bfcdfa3de6", func := "loop.example/tern/laws.FnExactFibTableOk", spec := "fnExactFibTableOk", apart := false, narrowed := true }
def FnExactFibTableOkUptoSaid : Prop := fnExactFibTableOkUptoRow.holds Try.pinned (OpenSpec.upto fnExactFibTableOkSpec)

/-- 'laws.FnExactFibFind', WHERE WHAT IT READS IS OF BULK AT MOST 1048576: true; the input reads as it did. -/
def fnExactFibFindUptoRow : OpenClaim := { program := "ytencglgaldaaiaa", sum := "87c8e0e168c56ffda57da44eeb63d2b3f5edc2f7454b3d39a59837bfcdfa3de6", func := "loop.example/tern/laws.FnExactFibFind", spec := "fnExactFibFind", apart := false, narrowed := true }
def FnExactFibFindUptoSaid : Prop := fnExactFibFindUptoRow.holds Try.pinned (OpenSpec.upto fnExactFibFindSpec)

/-- 'laws.FnFibFind', WHERE WHAT IT READS IS OF BULK AT MOST 1048576: true; the input reads as it did. -/
def fnFibFindUptoRow : OpenClaim := { program := "ytencglgaldaaiaa", sum := "87c8e0e168c56ffda57da44eeb63d2b3f5edc2f7454b3d39a59837bfcdfa3de6", func := "loop.example/tern/laws.FnFibFind", spec := "fnFibFind", apart := false, narrowed := true }
def FnFibFindUptoSaid : Prop := fnFibFindUptoRow.holds Try.pinned (OpenSpec.upto fnFibFindSpec)

/-- 'laws.FnExactFibOpen', WHERE WHAT IT READS IS OF BULK AT MOST 1048576: true; the input reads as it did. -/
def fnExactFibOpenUptoRow : OpenClaim := { program := "ytencglgaldaaiaa", sum := "87c8e0e168c56ffda57da44eeb63d2b3f5edc2f7454b3d39a59837bfcdfa3de6", func := "loop.example/tern/laws.FnExactFibOpen", spec := "fnExactFibOpen", apart := false, narrowed := true }
def FnExactFibOpenUptoSaid : Prop := fnExactFibOpenUptoRow.holds Try.pinned (OpenSpec.upto fnExactFibOpenSpec)

end Rows
end Go.Proofs.Ytencglgaldaaiaa

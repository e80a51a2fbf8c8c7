/- Readings of the arguments: what a parameter of each type is in memory. -/
import Derived.Test.YtlkcgonbkdflpaaRows
import Derived.Test.YtlkcgonbkdflpaaMod
import Derived.ProofKit
import Derived.OpenShut
import Derived.ChangeOld
import Derived.Lib.SmallJoins
import Derived.Deep.Fields
import Derived.Deep.Slices
import Derived.ChangeSame
set_option linter.unusedSimpArgs false
set_option linter.unusedVariables false
namespace Go.Proofs.Ytlkcgonbkdflpaa
open Go Go.ChangeShapes Go.WideShapes Go.ChangeAt Go.RowKit Go.Joins Go.Deep
set_option maxRecDepth 100000
theorem own : ownKnob Try.prog.godebug = none := by kernel_rfl
theorem laidOut : laidOutB Try.prog = true := by kernel_rfl
section
variable {H : Type} {enc : TypeId × Value → H} {w : World} {base : Nat} {spare : Nat → Bool} {held : Bool} {fuel : Nat} {cs : List Value} {x : DataW H × List MemPlace}
theorem opn_int {t : TypeId} {k : IntKind} {lo hi : Int} (ht : Try.prog.underlying t = some (.int k)) (h1 : k.min = lo) (h2 : k.max = hi) (h : DataW.trod enc Try.prog w base spare held fuel t cs = some x) : ∃ n, cs = [.int k n] ∧ lo ≤ n ∧ n ≤ hi := by
  obtain ⟨n, h3, _, h4⟩ := DataW.trod_int ht h
  simp only [Lit.wf, Bool.and_eq_true, decide_eq_true_eq] at h4
  rw [h1, h2] at h4
  exact ⟨n, h3, h4.1, h4.2⟩
theorem opn_bool {t : TypeId} (ht : Try.prog.underlying t = some .bool) (h : DataW.trod enc Try.prog w base spare held fuel t cs = some x) : ∃ b, cs = [.bool b] := by
  obtain ⟨n, h1, _⟩ := DataW.trod_bool ht h
  exact ⟨n, h1⟩
theorem opn_string {t : TypeId} (ht : Try.prog.underlying t = some .string) (h : DataW.trod enc Try.prog w base spare held fuel t cs = some x) : ∃ s, cs = [.string s] ∧ s.size ≤ maxLen := by
  obtain ⟨n, h1, _, h2⟩ := DataW.trod_string ht h
  exact ⟨n, h1, h2⟩
theorem opn_rows {t e : TypeId} {m : Nat} {α : Type} [Inhabited α] {cl : α → List Value} {φ : α → Prop} (ht : Try.prog.underlying t = some (.slice e)) (hc : Try.prog.cellsOf e = m) (hm : ∀ a, (cl a).length = m) (h0 : 0 < m)
    (he : ∀ fuel cs x, DataW.trod enc Try.prog w base spare held fuel e cs = some x → ∃ a, cs = cl a ∧ φ a)
    (h : DataW.trod enc Try.prog w base spare held fuel t cs = some x) : ∃ y : Value × List α, cs = [y.1] ∧ Mem w y.1 m y.2.length (y.2.flatMap cl) ∧ ∀ a ∈ y.2, φ a := by
  rcases open_slice ht h with ⟨rfl, _⟩ | ⟨a, len, cap, q, n, D, Pl, rfl, hb, hl, hcap, hq, _, hx⟩
  · exact ⟨(.slice none 0 0, []), rfl, mem_nil w m, by simp⟩
  · rw [hc] at hx
    obtain ⟨f, hf⟩ := choose_lt (α := α) (n := len) (p := fun i a' => (∀ j u, (cl a')[j]? = some u → w.cell? (a.add (i * m + j)) = some u) ∧ φ a') (fun i hi => by
      obtain ⟨cs', h1, h2⟩ := hx i (by rw [hq]; split <;> omega)
      obtain ⟨a', rfl, ha'⟩ := he _ _ _ h2
      refine ⟨a', fun j u hj => ?_, ha'⟩
      have hlt : j < (cl a').length := (List.getElem?_eq_some_iff.1 hj).1
      rw [hm] at hlt
      have := (World.cells?_some h1).2.2 j hlt
      rw [add_add] at this
      rw [this]; exact hj)
    have hlen : ((List.range len).map f).length = len := by simp
    refine ⟨(.slice (some a) len cap, (List.range len).map f), rfl, ⟨⟨_, cap, by rw [hlen], by rw [hlen]; exact hl, hcap, fun h => ?_⟩, flat_len hm _, fun j u hj => ?_⟩, fun y hy => ?_⟩
    · dsimp only at h
      rw [hlen] at h
      have h1 : 0 < (cl (f 0)).length := by rw [hm]; exact h0
      have h2 := (hf 0 h).1 0 _ (List.getElem?_eq_getElem h1)
      rw [Nat.zero_mul] at h2
      obtain ⟨b, o, sp⟩ := a
      cases sp with
      | none => exact ⟨b, o, rfl⟩
      | some _ => simp [Addr.add, World.cell?] at h2; split at h2 <;> cases h2
    · have hjl : j < ((List.range len).map f).length * m := by rw [← flat_len hm]; exact (List.getElem?_eq_some_iff.1 hj).1
      rw [hlen] at hjl
      have hjm : j / m < len := Nat.div_lt_of_lt_mul (by rw [Nat.mul_comm]; exact hjl)
      have hr : j % m < m := Nat.mod_lt _ h0
      have hu : (cl (f (j / m)))[j % m]? = some u := by
        have h1 : j % m < (cl (f (j / m))).length := by rw [hm]; exact hr
        have h2 := at_flat (f := cl) (m := m) hm (l := (List.range len).map f) (k := j / m) (x := f (j / m)) (by simp [hjm]) (j % m) _ (List.getElem?_eq_getElem h1)
        rw [show j / m * m + j % m = j by rw [Nat.mul_comm]; exact Nat.div_add_mod j m] at h2
        rw [h2] at hj
        rw [List.getElem?_eq_getElem h1]; exact hj
      have h2 := (hf (j / m) hjm).1 _ _ hu
      rw [show j / m * m + j % m = j by rw [Nat.mul_comm]; exact Nat.div_add_mod j m] at h2
      obtain ⟨b, o, sp⟩ := a
      have hs : sp = none := by
        have h1 : 0 < (cl (f 0)).length := by rw [hm]; exact h0
        have h2 := (hf 0 (Nat.lt_of_le_of_lt (Nat.zero_le _) hjm)).1 0 _ (List.getElem?_eq_getElem h1)
        rw [Nat.zero_mul] at h2
        cases sp with
        | none => rfl
        | some _ => simp [Addr.add, World.cell?] at h2; split at h2 <;> cases h2
      subst hs
      rw [Addr.add_mid] at h2
      exact ⟨b, o, cap, by rw [hlen], h2⟩
    · obtain ⟨i, hi, rfl⟩ := List.mem_map.1 hy
      exact (hf i (by simpa using hi)).2
theorem opn_HelloKey (h : DataW.trod enc Try.prog w base spare held fuel 72 cs = some x) : ∃ y : MHelloKey, cs = clHelloKey y ∧ okHelloKey w y := by
  obtain ⟨xs, n, _, _, hl, hlen, hg⟩ := DataW.trod_struct Try.underlying72 h
  have hl' : cs.length = 2 := hl.trans (by kernel_rfl)
  match cs, hl' with
  | [c0, c1], _ =>
    have g0 : DataW.trod enc Try.prog w base spare held n 3 (List.take (Try.prog.cellsOf 3) (List.drop 0 [c0, c1])) = xs[0]? := hg 0 _ rfl
    obtain ⟨z0, hz0⟩ : ∃ z, xs[0]? = some z := ⟨xs[0]'(by rw [hlen]; decide), List.getElem?_eq_getElem _⟩
    rw [hz0] at g0
    rw [show Try.prog.cellsOf 3 = 1 by kernel_rfl] at g0
    obtain ⟨y0, e0, a0, b0⟩ := opn_int (lo := -9223372036854775808) (hi := 9223372036854775807) Try.underlying3 (by kernel_rfl) (by kernel_rfl) (g0)
    have e0' : [c0] = _ := e0
    simp only [List.cons.injEq, and_true] at e0'
    have g1 : DataW.trod enc Try.prog w base spare held n 3 (List.take (Try.prog.cellsOf 3) (List.drop 1 [c0, c1])) = xs[1]? := hg 1 _ rfl
    obtain ⟨z1, hz1⟩ : ∃ z, xs[1]? = some z := ⟨xs[1]'(by rw [hlen]; decide), List.getElem?_eq_getElem _⟩
    rw [hz1] at g1
    rw [show Try.prog.cellsOf 3 = 1 by kernel_rfl] at g1
    obtain ⟨y1, e1, a1, b1⟩ := opn_int (lo := -9223372036854775808) (hi := 9223372036854775807) Try.underlying3 (by kernel_rfl) (by kernel_rfl) (g1)
    have e1' : [c1] = _ := e1
    simp only [List.cons.injEq, and_true] at e1'
    refine ⟨(y0, y1), ?_, ?_⟩
    · simp only [clHelloKey, e0', e1']
    · exact ⟨⟨a0, b0⟩, ⟨a1, b1⟩⟩
theorem opn_SHelloKey (h : DataW.trod enc Try.prog w base spare held fuel 22 cs = some x) : ∃ y : MSHelloKey, cs = [y.1] ∧ okSHelloKey w y :=
  opn_rows Try.underlying22 (by kernel_rfl) (fun _ => rfl) (by decide) (fun _ _ _ h => opn_HelloKey (h)) h
theorem opn_HelloEntry (h : DataW.trod enc Try.prog w base spare held fuel 25 cs = some x) : ∃ y : MHelloEntry, cs = clHelloEntry y ∧ okHelloEntry w y := by
  obtain ⟨xs, n, _, _, hl, hlen, hg⟩ := DataW.trod_struct Try.underlying25 h
  have hl' : cs.length = 4 := hl.trans (by kernel_rfl)
  match cs, hl' with
  | [c0, c1, c2, c3], _ =>
    have g0 : DataW.trod enc Try.prog w base spare held n 3 (List.take (Try.prog.cellsOf 3) (List.drop 0 [c0, c1, c2, c3])) = xs[0]? := hg 0 _ rfl
    obtain ⟨z0, hz0⟩ : ∃ z, xs[0]? = some z := ⟨xs[0]'(by rw [hlen]; decide), List.getElem?_eq_getElem _⟩
    rw [hz0] at g0
    rw [show Try.prog.cellsOf 3 = 1 by kernel_rfl] at g0
    obtain ⟨y0, e0, a0, b0⟩ := opn_int (lo := -9223372036854775808) (hi := 9223372036854775807) Try.underlying3 (by kernel_rfl) (by kernel_rfl) (g0)
    have e0' : [c0] = _ := e0
    simp only [List.cons.injEq, and_true] at e0'
    have g1 : DataW.trod enc Try.prog w base spare held n 3 (List.take (Try.prog.cellsOf 3) (List.drop 1 [c0, c1, c2, c3])) = xs[1]? := hg 1 _ rfl
    obtain ⟨z1, hz1⟩ : ∃ z, xs[1]? = some z := ⟨xs[1]'(by rw [hlen]; decide), List.getElem?_eq_getElem _⟩
    rw [hz1] at g1
    rw [show Try.prog.cellsOf 3 = 1 by kernel_rfl] at g1
    obtain ⟨y1, e1, a1, b1⟩ := opn_int (lo := -9223372036854775808) (hi := 9223372036854775807) Try.underlying3 (by kernel_rfl) (by kernel_rfl) (g1)
    have e1' : [c1] = _ := e1
    simp only [List.cons.injEq, and_true] at e1'
    have g2 : DataW.trod enc Try.prog w base spare held n 3 (List.take (Try.prog.cellsOf 3) (List.drop 2 [c0, c1, c2, c3])) = xs[2]? := hg 2 _ rfl
    obtain ⟨z2, hz2⟩ : ∃ z, xs[2]? = some z := ⟨xs[2]'(by rw [hlen]; decide), List.getElem?_eq_getElem _⟩
    rw [hz2] at g2
    rw [show Try.prog.cellsOf 3 = 1 by kernel_rfl] at g2
    obtain ⟨y2, e2, a2, b2⟩ := opn_int (lo := -9223372036854775808) (hi := 9223372036854775807) Try.underlying3 (by kernel_rfl) (by kernel_rfl) (g2)
    have e2' : [c2] = _ := e2
    simp only [List.cons.injEq, and_true] at e2'
    have g3 : DataW.trod enc Try.prog w base spare held n 3 (List.take (Try.prog.cellsOf 3) (List.drop 3 [c0, c1, c2, c3])) = xs[3]? := hg 3 _ rfl
    obtain ⟨z3, hz3⟩ : ∃ z, xs[3]? = some z := ⟨xs[3]'(by rw [hlen]; decide), List.getElem?_eq_getElem _⟩
    rw [hz3] at g3
    rw [show Try.prog.cellsOf 3 = 1 by kernel_rfl] at g3
    obtain ⟨y3, e3, a3, b3⟩ := opn_int (lo := -9223372036854775808) (hi := 9223372036854775807) Try.underlying3 (by kernel_rfl) (by kernel_rfl) (g3)
    have e3' : [c3] = _ := e3
    simp only [List.cons.injEq, and_true] at e3'
    refine ⟨(y0, y1, y2, y3), ?_, ?_⟩
    · simp only [clHelloEntry, e0', e1', e2', e3']
    · exact ⟨⟨a0, b0⟩, ⟨a1, b1⟩, ⟨a2, b2⟩, ⟨a3, b3⟩⟩
theorem opn_SHelloEntry (h : DataW.trod enc Try.prog w base spare held fuel 23 cs = some x) : ∃ y : MSHelloEntry, cs = [y.1] ∧ okSHelloEntry w y :=
  opn_rows Try.underlying23 (by kernel_rfl) (fun _ => rfl) (by decide) (fun _ _ _ h => opn_HelloEntry (h)) h
theorem opn_HelloChange (h : DataW.trod enc Try.prog w base spare held fuel 27 cs = some x) : ∃ y : MHelloChange, cs = clHelloChange y ∧ okHelloChange w y := by
  obtain ⟨xs, n, _, _, hl, hlen, hg⟩ := DataW.trod_struct Try.underlying27 h
  have hl' : cs.length = 5 := hl.trans (by kernel_rfl)
  match cs, hl' with
  | [c0, c1, c2, c3, c4], _ =>
    have g0 : DataW.trod enc Try.prog w base spare held n 3 (List.take (Try.prog.cellsOf 3) (List.drop 0 [c0, c1, c2, c3, c4])) = xs[0]? := hg 0 _ rfl
    obtain ⟨z0, hz0⟩ : ∃ z, xs[0]? = some z := ⟨xs[0]'(by rw [hlen]; decide), List.getElem?_eq_getElem _⟩
    rw [hz0] at g0
    rw [show Try.prog.cellsOf 3 = 1 by kernel_rfl] at g0
    obtain ⟨y0, e0, a0, b0⟩ := opn_int (lo := -9223372036854775808) (hi := 9223372036854775807) Try.underlying3 (by kernel_rfl) (by kernel_rfl) (g0)
    have e0' : [c0] = _ := e0
    simp only [List.cons.injEq, and_true] at e0'
    have g1 : DataW.trod enc Try.prog w base spare held n 25 (List.take (Try.prog.cellsOf 25) (List.drop 1 [c0, c1, c2, c3, c4])) = xs[1]? := hg 1 _ rfl
    obtain ⟨z1, hz1⟩ : ∃ z, xs[1]? = some z := ⟨xs[1]'(by rw [hlen]; decide), List.getElem?_eq_getElem _⟩
    rw [hz1] at g1
    rw [show Try.prog.cellsOf 25 = 4 by kernel_rfl] at g1
    obtain ⟨y1, e1, a1⟩ := opn_HelloEntry (g1)
    have e1' : [c1, c2, c3, c4] = _ := e1
    simp only [clHelloEntry, List.cons.injEq, and_true] at e1'
    refine ⟨(y0, y1), ?_, ?_⟩
    · simp only [clHelloChange, clHelloEntry, e0', e1']
    · exact ⟨⟨a0, b0⟩, a1⟩
theorem opn_HelloRoute (h : DataW.trod enc Try.prog w base spare held fuel 76 cs = some x) : ∃ y : MHelloRoute, cs = clHelloRoute y ∧ okHelloRoute w y := by
  obtain ⟨xs, n, _, _, hl, hlen, hg⟩ := DataW.trod_struct Try.underlying76 h
  have hl' : cs.length = 5 := hl.trans (by kernel_rfl)
  match cs, hl' with
  | [c0, c1, c2, c3, c4], _ =>
    have g0 : DataW.trod enc Try.prog w base spare held n 25 (List.take (Try.prog.cellsOf 25) (List.drop 0 [c0, c1, c2, c3, c4])) = xs[0]? := hg 0 _ rfl
    obtain ⟨z0, hz0⟩ : ∃ z, xs[0]? = some z := ⟨xs[0]'(by rw [hlen]; decide), List.getElem?_eq_getElem _⟩
    rw [hz0] at g0
    rw [show Try.prog.cellsOf 25 = 4 by kernel_rfl] at g0
    obtain ⟨y0, e0, a0⟩ := opn_HelloEntry (g0)
    have e0' : [c0, c1, c2, c3] = _ := e0
    simp only [clHelloEntry, List.cons.injEq, and_true] at e0'
    have g1 : DataW.trod enc Try.prog w base spare held n 4 (List.take (Try.prog.cellsOf 4) (List.drop 4 [c0, c1, c2, c3, c4])) = xs[1]? := hg 1 _ rfl
    obtain ⟨z1, hz1⟩ : ∃ z, xs[1]? = some z := ⟨xs[1]'(by rw [hlen]; decide), List.getElem?_eq_getElem _⟩
    rw [hz1] at g1
    rw [show Try.prog.cellsOf 4 = 1 by kernel_rfl] at g1
    obtain ⟨y1, e1⟩ := opn_bool Try.underlying4 (g1)
    have e1' : [c4] = _ := e1
    simp only [List.cons.injEq, and_true] at e1'
    refine ⟨(y0, y1), ?_, ?_⟩
    · simp only [clHelloRoute, clHelloEntry, e0', e1']
    · exact a0
theorem opn_SHelloRoute (h : DataW.trod enc Try.prog w base spare held fuel 28 cs = some x) : ∃ y : MSHelloRoute, cs = [y.1] ∧ okSHelloRoute w y :=
  opn_rows Try.underlying28 (by kernel_rfl) (fun _ => rfl) (by decide) (fun _ _ _ h => opn_HelloRoute (h)) h
theorem opn_HelloEnd (h : DataW.trod enc Try.prog w base spare held fuel 30 cs = some x) : ∃ y : MHelloEnd, cs = clHelloEnd y ∧ okHelloEnd w y := by
  obtain ⟨xs, n, _, _, hl, hlen, hg⟩ := DataW.trod_struct Try.underlying30 h
  have hl' : cs.length = 22 := hl.trans (by kernel_rfl)
  match cs, hl' with
  | [c0, c1, c2, c3, c4, c5, c6, c7, c8, c9, c10, c11, c12, c13, c14, c15, c16, c17, c18, c19, c20, c21], _ =>
    have g0 : DataW.trod enc Try.prog w base spare held n 3 (List.take (Try.prog.cellsOf 3) (List.drop 0 [c0, c1, c2, c3, c4, c5, c6, c7, c8, c9, c10, c11, c12, c13, c14, c15, c16, c17, c18, c19, c20, c21])) = xs[0]? := hg 0 _ rfl
    obtain ⟨z0, hz0⟩ : ∃ z, xs[0]? = some z := ⟨xs[0]'(by rw [hlen]; decide), List.getElem?_eq_getElem _⟩
    rw [hz0] at g0
    rw [show Try.prog.cellsOf 3 = 1 by kernel_rfl] at g0
    obtain ⟨y0, e0, a0, b0⟩ := opn_int (lo := -9223372036854775808) (hi := 9223372036854775807) Try.underlying3 (by kernel_rfl) (by kernel_rfl) (g0)
    have e0' : [c0] = _ := e0
    simp only [List.cons.injEq, and_true] at e0'
    have g1 : DataW.trod enc Try.prog w base spare held n 3 (List.take (Try.prog.cellsOf 3) (List.drop 1 [c0, c1, c2, c3, c4, c5, c6, c7, c8, c9, c10, c11, c12, c13, c14, c15, c16, c17, c18, c19, c20, c21])) = xs[1]? := hg 1 _ rfl
    obtain ⟨z1, hz1⟩ : ∃ z, xs[1]? = some z := ⟨xs[1]'(by rw [hlen]; decide), List.getElem?_eq_getElem _⟩
    rw [hz1] at g1
    rw [show Try.prog.cellsOf 3 = 1 by kernel_rfl] at g1
    obtain ⟨y1, e1, a1, b1⟩ := opn_int (lo := -9223372036854775808) (hi := 9223372036854775807) Try.underlying3 (by kernel_rfl) (by kernel_rfl) (g1)
    have e1' : [c1] = _ := e1
    simp only [List.cons.injEq, and_true] at e1'
    have g2 : DataW.trod enc Try.prog w base spare held n 22 (List.take (Try.prog.cellsOf 22) (List.drop 2 [c0, c1, c2, c3, c4, c5, c6, c7, c8, c9, c10, c11, c12, c13, c14, c15, c16, c17, c18, c19, c20, c21])) = xs[2]? := hg 2 _ rfl
    obtain ⟨z2, hz2⟩ : ∃ z, xs[2]? = some z := ⟨xs[2]'(by rw [hlen]; decide), List.getElem?_eq_getElem _⟩
    rw [hz2] at g2
    rw [show Try.prog.cellsOf 22 = 1 by kernel_rfl] at g2
    obtain ⟨y2, e2, a2⟩ := opn_SHelloKey (g2)
    have e2' : [c2] = _ := e2
    simp only [List.cons.injEq, and_true] at e2'
    have g3 : DataW.trod enc Try.prog w base spare held n 3 (List.take (Try.prog.cellsOf 3) (List.drop 3 [c0, c1, c2, c3, c4, c5, c6, c7, c8, c9, c10, c11, c12, c13, c14, c15, c16, c17, c18, c19, c20, c21])) = xs[3]? := hg 3 _ rfl
    obtain ⟨z3, hz3⟩ : ∃ z, xs[3]? = some z := ⟨xs[3]'(by rw [hlen]; decide), List.getElem?_eq_getElem _⟩
    rw [hz3] at g3
    rw [show Try.prog.cellsOf 3 = 1 by kernel_rfl] at g3
    obtain ⟨y3, e3, a3, b3⟩ := opn_int (lo := -9223372036854775808) (hi := 9223372036854775807) Try.underlying3 (by kernel_rfl) (by kernel_rfl) (g3)
    have e3' : [c3] = _ := e3
    simp only [List.cons.injEq, and_true] at e3'
    have g4 : DataW.trod enc Try.prog w base spare held n 23 (List.take (Try.prog.cellsOf 23) (List.drop 4 [c0, c1, c2, c3, c4, c5, c6, c7, c8, c9, c10, c11, c12, c13, c14, c15, c16, c17, c18, c19, c20, c21])) = xs[4]? := hg 4 _ rfl
    obtain ⟨z4, hz4⟩ : ∃ z, xs[4]? = some z := ⟨xs[4]'(by rw [hlen]; decide), List.getElem?_eq_getElem _⟩
    rw [hz4] at g4
    rw [show Try.prog.cellsOf 23 = 1 by kernel_rfl] at g4
    obtain ⟨y4, e4, a4⟩ := opn_SHelloEntry (g4)
    have e4' : [c4] = _ := e4
    simp only [List.cons.injEq, and_true] at e4'
    have g5 : DataW.trod enc Try.prog w base spare held n 3 (List.take (Try.prog.cellsOf 3) (List.drop 5 [c0, c1, c2, c3, c4, c5, c6, c7, c8, c9, c10, c11, c12, c13, c14, c15, c16, c17, c18, c19, c20, c21])) = xs[5]? := hg 5 _ rfl
    obtain ⟨z5, hz5⟩ : ∃ z, xs[5]? = some z := ⟨xs[5]'(by rw [hlen]; decide), List.getElem?_eq_getElem _⟩
    rw [hz5] at g5
    rw [show Try.prog.cellsOf 3 = 1 by kernel_rfl] at g5
    obtain ⟨y5, e5, a5, b5⟩ := opn_int (lo := -9223372036854775808) (hi := 9223372036854775807) Try.underlying3 (by kernel_rfl) (by kernel_rfl) (g5)
    have e5' : [c5] = _ := e5
    simp only [List.cons.injEq, and_true] at e5'
    have g6 : DataW.trod enc Try.prog w base spare held n 3 (List.take (Try.prog.cellsOf 3) (List.drop 6 [c0, c1, c2, c3, c4, c5, c6, c7, c8, c9, c10, c11, c12, c13, c14, c15, c16, c17, c18, c19, c20, c21])) = xs[6]? := hg 6 _ rfl
    obtain ⟨z6, hz6⟩ : ∃ z, xs[6]? = some z := ⟨xs[6]'(by rw [hlen]; decide), List.getElem?_eq_getElem _⟩
    rw [hz6] at g6
    rw [show Try.prog.cellsOf 3 = 1 by kernel_rfl] at g6
    obtain ⟨y6, e6, a6, b6⟩ := opn_int (lo := -9223372036854775808) (hi := 9223372036854775807) Try.underlying3 (by kernel_rfl) (by kernel_rfl) (g6)
    have e6' : [c6] = _ := e6
    simp only [List.cons.injEq, and_true] at e6'
    have g7 : DataW.trod enc Try.prog w base spare held n 3 (List.take (Try.prog.cellsOf 3) (List.drop 7 [c0, c1, c2, c3, c4, c5, c6, c7, c8, c9, c10, c11, c12, c13, c14, c15, c16, c17, c18, c19, c20, c21])) = xs[7]? := hg 7 _ rfl
    obtain ⟨z7, hz7⟩ : ∃ z, xs[7]? = some z := ⟨xs[7]'(by rw [hlen]; decide), List.getElem?_eq_getElem _⟩
    rw [hz7] at g7
    rw [show Try.prog.cellsOf 3 = 1 by kernel_rfl] at g7
    obtain ⟨y7, e7, a7, b7⟩ := opn_int (lo := -9223372036854775808) (hi := 9223372036854775807) Try.underlying3 (by kernel_rfl) (by kernel_rfl) (g7)
    have e7' : [c7] = _ := e7
    simp only [List.cons.injEq, and_true] at e7'
    have g8 : DataW.trod enc Try.prog w base spare held n 4 (List.take (Try.prog.cellsOf 4) (List.drop 8 [c0, c1, c2, c3, c4, c5, c6, c7, c8, c9, c10, c11, c12, c13, c14, c15, c16, c17, c18, c19, c20, c21])) = xs[8]? := hg 8 _ rfl
    obtain ⟨z8, hz8⟩ : ∃ z, xs[8]? = some z := ⟨xs[8]'(by rw [hlen]; decide), List.getElem?_eq_getElem _⟩
    rw [hz8] at g8
    rw [show Try.prog.cellsOf 4 = 1 by kernel_rfl] at g8
    obtain ⟨y8, e8⟩ := opn_bool Try.underlying4 (g8)
    have e8' : [c8] = _ := e8
    simp only [List.cons.injEq, and_true] at e8'
    have g9 : DataW.trod enc Try.prog w base spare held n 3 (List.take (Try.prog.cellsOf 3) (List.drop 9 [c0, c1, c2, c3, c4, c5, c6, c7, c8, c9, c10, c11, c12, c13, c14, c15, c16, c17, c18, c19, c20, c21])) = xs[9]? := hg 9 _ rfl
    obtain ⟨z9, hz9⟩ : ∃ z, xs[9]? = some z := ⟨xs[9]'(by rw [hlen]; decide), List.getElem?_eq_getElem _⟩
    rw [hz9] at g9
    rw [show Try.prog.cellsOf 3 = 1 by kernel_rfl] at g9
    obtain ⟨y9, e9, a9, b9⟩ := opn_int (lo := -9223372036854775808) (hi := 9223372036854775807) Try.underlying3 (by kernel_rfl) (by kernel_rfl) (g9)
    have e9' : [c9] = _ := e9
    simp only [List.cons.injEq, and_true] at e9'
    have g10 : DataW.trod enc Try.prog w base spare held n 3 (List.take (Try.prog.cellsOf 3) (List.drop 10 [c0, c1, c2, c3, c4, c5, c6, c7, c8, c9, c10, c11, c12, c13, c14, c15, c16, c17, c18, c19, c20, c21])) = xs[10]? := hg 10 _ rfl
    obtain ⟨z10, hz10⟩ : ∃ z, xs[10]? = some z := ⟨xs[10]'(by rw [hlen]; decide), List.getElem?_eq_getElem _⟩
    rw [hz10] at g10
    rw [show Try.prog.cellsOf 3 = 1 by kernel_rfl] at g10
    obtain ⟨y10, e10, a10, b10⟩ := opn_int (lo := -9223372036854775808) (hi := 9223372036854775807) Try.underlying3 (by kernel_rfl) (by kernel_rfl) (g10)
    have e10' : [c10] = _ := e10
    simp only [List.cons.injEq, and_true] at e10'
    have g11 : DataW.trod enc Try.prog w base spare held n 27 (List.take (Try.prog.cellsOf 27) (List.drop 11 [c0, c1, c2, c3, c4, c5, c6, c7, c8, c9, c10, c11, c12, c13, c14, c15, c16, c17, c18, c19, c20, c21])) = xs[11]? := hg 11 _ rfl
    obtain ⟨z11, hz11⟩ : ∃ z, xs[11]? = some z := ⟨xs[11]'(by rw [hlen]; decide), List.getElem?_eq_getElem _⟩
    rw [hz11] at g11
    rw [show Try.prog.cellsOf 27 = 5 by kernel_rfl] at g11
    obtain ⟨y11, e11, a11⟩ := opn_HelloChange (g11)
    have e11' : [c11, c12, c13, c14, c15] = _ := e11
    simp only [clHelloChange, List.cons.injEq, and_true] at e11'
    have g12 : DataW.trod enc Try.prog w base spare held n 23 (List.take (Try.prog.cellsOf 23) (List.drop 16 [c0, c1, c2, c3, c4, c5, c6, c7, c8, c9, c10, c11, c12, c13, c14, c15, c16, c17, c18, c19, c20, c21])) = xs[12]? := hg 12 _ rfl
    obtain ⟨z12, hz12⟩ : ∃ z, xs[12]? = some z := ⟨xs[12]'(by rw [hlen]; decide), List.getElem?_eq_getElem _⟩
    rw [hz12] at g12
    rw [show Try.prog.cellsOf 23 = 1 by kernel_rfl] at g12
    obtain ⟨y12, e12, a12⟩ := opn_SHelloEntry (g12)
    have e12' : [c16] = _ := e12
    simp only [List.cons.injEq, and_true] at e12'
    have g13 : DataW.trod enc Try.prog w base spare held n 4 (List.take (Try.prog.cellsOf 4) (List.drop 17 [c0, c1, c2, c3, c4, c5, c6, c7, c8, c9, c10, c11, c12, c13, c14, c15, c16, c17, c18, c19, c20, c21])) = xs[13]? := hg 13 _ rfl
    obtain ⟨z13, hz13⟩ : ∃ z, xs[13]? = some z := ⟨xs[13]'(by rw [hlen]; decide), List.getElem?_eq_getElem _⟩
    rw [hz13] at g13
    rw [show Try.prog.cellsOf 4 = 1 by kernel_rfl] at g13
    obtain ⟨y13, e13⟩ := opn_bool Try.underlying4 (g13)
    have e13' : [c17] = _ := e13
    simp only [List.cons.injEq, and_true] at e13'
    have g14 : DataW.trod enc Try.prog w base spare held n 3 (List.take (Try.prog.cellsOf 3) (List.drop 18 [c0, c1, c2, c3, c4, c5, c6, c7, c8, c9, c10, c11, c12, c13, c14, c15, c16, c17, c18, c19, c20, c21])) = xs[14]? := hg 14 _ rfl
    obtain ⟨z14, hz14⟩ : ∃ z, xs[14]? = some z := ⟨xs[14]'(by rw [hlen]; decide), List.getElem?_eq_getElem _⟩
    rw [hz14] at g14
    rw [show Try.prog.cellsOf 3 = 1 by kernel_rfl] at g14
    obtain ⟨y14, e14, a14, b14⟩ := opn_int (lo := -9223372036854775808) (hi := 9223372036854775807) Try.underlying3 (by kernel_rfl) (by kernel_rfl) (g14)
    have e14' : [c18] = _ := e14
    simp only [List.cons.injEq, and_true] at e14'
    have g15 : DataW.trod enc Try.prog w base spare held n 4 (List.take (Try.prog.cellsOf 4) (List.drop 19 [c0, c1, c2, c3, c4, c5, c6, c7, c8, c9, c10, c11, c12, c13, c14, c15, c16, c17, c18, c19, c20, c21])) = xs[15]? := hg 15 _ rfl
    obtain ⟨z15, hz15⟩ : ∃ z, xs[15]? = some z := ⟨xs[15]'(by rw [hlen]; decide), List.getElem?_eq_getElem _⟩
    rw [hz15] at g15
    rw [show Try.prog.cellsOf 4 = 1 by kernel_rfl] at g15
    obtain ⟨y15, e15⟩ := opn_bool Try.underlying4 (g15)
    have e15' : [c19] = _ := e15
    simp only [List.cons.injEq, and_true] at e15'
    have g16 : DataW.trod enc Try.prog w base spare held n 28 (List.take (Try.prog.cellsOf 28) (List.drop 20 [c0, c1, c2, c3, c4, c5, c6, c7, c8, c9, c10, c11, c12, c13, c14, c15, c16, c17, c18, c19, c20, c21])) = xs[16]? := hg 16 _ rfl
    obtain ⟨z16, hz16⟩ : ∃ z, xs[16]? = some z := ⟨xs[16]'(by rw [hlen]; decide), List.getElem?_eq_getElem _⟩
    rw [hz16] at g16
    rw [show Try.prog.cellsOf 28 = 1 by kernel_rfl] at g16
    obtain ⟨y16, e16, a16⟩ := opn_SHelloRoute (g16)
    have e16' : [c20] = _ := e16
    simp only [List.cons.injEq, and_true] at e16'
    have g17 : DataW.trod enc Try.prog w base spare held n 3 (List.take (Try.prog.cellsOf 3) (List.drop 21 [c0, c1, c2, c3, c4, c5, c6, c7, c8, c9, c10, c11, c12, c13, c14, c15, c16, c17, c18, c19, c20, c21])) = xs[17]? := hg 17 _ rfl
    obtain ⟨z17, hz17⟩ : ∃ z, xs[17]? = some z := ⟨xs[17]'(by rw [hlen]; decide), List.getElem?_eq_getElem _⟩
    rw [hz17] at g17
    rw [show Try.prog.cellsOf 3 = 1 by kernel_rfl] at g17
    obtain ⟨y17, e17, a17, b17⟩ := opn_int (lo := -9223372036854775808) (hi := 9223372036854775807) Try.underlying3 (by kernel_rfl) (by kernel_rfl) (g17)
    have e17' : [c21] = _ := e17
    simp only [List.cons.injEq, and_true] at e17'
    refine ⟨(y0, y1, y2, y3, y4, y5, y6, y7, y8, y9, y10, y11, y12, y13, y14, y15, y16, y17), ?_, ?_⟩
    · simp only [clHelloEnd, clHelloChange, e0', e1', e2', e3', e4', e5', e6', e7', e8', e9', e10', e11', e12', e13', e14', e15', e16', e17']
    · exact ⟨⟨a0, b0⟩, ⟨a1, b1⟩, a2, ⟨a3, b3⟩, a4, ⟨a5, b5⟩, ⟨a6, b6⟩, ⟨a7, b7⟩, ⟨a9, b9⟩, ⟨a10, b10⟩, a11, a12, ⟨a14, b14⟩, a16, ⟨a17, b17⟩⟩
theorem par_int3 {r : Reach} {b0 : Nat} {v : Value} {d : DataW H} {p : List MemPlace} (hv : Value.okWide Try.prog w r b0 3 v) (h : DataW.Trod enc Try.prog w base spare held 3 v d p) : ∃ n, v = .int .i64 n ∧ -9223372036854775808 ≤ n ∧ n ≤ 9223372036854775807 := by
  obtain ⟨_, rfl⟩ := okWide_int Try.underlying3 hv
  obtain ⟨fuel, hf⟩ := h
  obtain ⟨y, h1, h2⟩ := opn_int (lo := -9223372036854775808) (hi := 9223372036854775807) Try.underlying3 (by kernel_rfl) (by kernel_rfl) (hf)
  exact ⟨y, by simpa [Value.cells] using h1, h2⟩
theorem par_HelloKey {r : Reach} {b0 : Nat} {v : Value} {d : DataW H} {p : List MemPlace} (hv : Value.okWide Try.prog w r b0 72 v) (h : DataW.Trod enc Try.prog w base spare held 72 v d p) : ∃ y : MHelloKey, v = .agg (clHelloKey y).toArray ∧ okHelloKey w y := by
  obtain ⟨c, rfl, _⟩ := okWide_struct Try.underlying72 hv
  obtain ⟨fuel, hf⟩ := h
  obtain ⟨y, h1, h2⟩ := opn_HelloKey hf
  exact ⟨y, by rw [← h1]; rfl, h2⟩
theorem par_SHelloKey {r : Reach} {b0 : Nat} {v : Value} {d : DataW H} {p : List MemPlace} (hv : Value.okWide Try.prog w r b0 22 v) (h : DataW.Trod enc Try.prog w base spare held 22 v d p) : ∃ y : MSHelloKey, v = y.1 ∧ okSHelloKey w y := by
  obtain ⟨_, _, _, rfl⟩ := okWide_slice Try.underlying22 hv
  obtain ⟨fuel, hf⟩ := h
  obtain ⟨y, h1, h2⟩ := opn_SHelloKey (hf)
  exact ⟨y, by simpa [Value.cells] using h1, h2⟩
theorem par_HelloEntry {r : Reach} {b0 : Nat} {v : Value} {d : DataW H} {p : List MemPlace} (hv : Value.okWide Try.prog w r b0 25 v) (h : DataW.Trod enc Try.prog w base spare held 25 v d p) : ∃ y : MHelloEntry, v = .agg (clHelloEntry y).toArray ∧ okHelloEntry w y := by
  obtain ⟨c, rfl, _⟩ := okWide_struct Try.underlying25 hv
  obtain ⟨fuel, hf⟩ := h
  obtain ⟨y, h1, h2⟩ := opn_HelloEntry hf
  exact ⟨y, by rw [← h1]; rfl, h2⟩
theorem par_SHelloEntry {r : Reach} {b0 : Nat} {v : Value} {d : DataW H} {p : List MemPlace} (hv : Value.okWide Try.prog w r b0 23 v) (h : DataW.Trod enc Try.prog w base spare held 23 v d p) : ∃ y : MSHelloEntry, v = y.1 ∧ okSHelloEntry w y := by
  obtain ⟨_, _, _, rfl⟩ := okWide_slice Try.underlying23 hv
  obtain ⟨fuel, hf⟩ := h
  obtain ⟨y, h1, h2⟩ := opn_SHelloEntry (hf)
  exact ⟨y, by simpa [Value.cells] using h1, h2⟩
theorem par_bool4 {r : Reach} {b0 : Nat} {v : Value} {d : DataW H} {p : List MemPlace} (hv : Value.okWide Try.prog w r b0 4 v) (h : DataW.Trod enc Try.prog w base spare held 4 v d p) : ∃ b, v = .bool b := by
  obtain ⟨_, rfl⟩ := okWide_bool Try.underlying4 hv
  obtain ⟨fuel, hf⟩ := h
  obtain ⟨y, h1⟩ := opn_bool Try.underlying4 (hf)
  exact ⟨y, by simpa [Value.cells] using h1⟩
theorem par_HelloChange {r : Reach} {b0 : Nat} {v : Value} {d : DataW H} {p : List MemPlace} (hv : Value.okWide Try.prog w r b0 27 v) (h : DataW.Trod enc Try.prog w base spare held 27 v d p) : ∃ y : MHelloChange, v = .agg (clHelloChange y).toArray ∧ okHelloChange w y := by
  obtain ⟨c, rfl, _⟩ := okWide_struct Try.underlying27 hv
  obtain ⟨fuel, hf⟩ := h
  obtain ⟨y, h1, h2⟩ := opn_HelloChange hf
  exact ⟨y, by rw [← h1]; rfl, h2⟩
theorem par_HelloRoute {r : Reach} {b0 : Nat} {v : Value} {d : DataW H} {p : List MemPlace} (hv : Value.okWide Try.prog w r b0 76 v) (h : DataW.Trod enc Try.prog w base spare held 76 v d p) : ∃ y : MHelloRoute, v = .agg (clHelloRoute y).toArray ∧ okHelloRoute w y := by
  obtain ⟨c, rfl, _⟩ := okWide_struct Try.underlying76 hv
  obtain ⟨fuel, hf⟩ := h
  obtain ⟨y, h1, h2⟩ := opn_HelloRoute hf
  exact ⟨y, by rw [← h1]; rfl, h2⟩
theorem par_SHelloRoute {r : Reach} {b0 : Nat} {v : Value} {d : DataW H} {p : List MemPlace} (hv : Value.okWide Try.prog w r b0 28 v) (h : DataW.Trod enc Try.prog w base spare held 28 v d p) : ∃ y : MSHelloRoute, v = y.1 ∧ okSHelloRoute w y := by
  obtain ⟨_, _, _, rfl⟩ := okWide_slice Try.underlying28 hv
  obtain ⟨fuel, hf⟩ := h
  obtain ⟨y, h1, h2⟩ := opn_SHelloRoute (hf)
  exact ⟨y, by simpa [Value.cells] using h1, h2⟩
theorem par_HelloEnd {r : Reach} {b0 : Nat} {v : Value} {d : DataW H} {p : List MemPlace} (hv : Value.okWide Try.prog w r b0 30 v) (h : DataW.Trod enc Try.prog w base spare held 30 v d p) : ∃ y : MHelloEnd, v = .agg (clHelloEnd y).toArray ∧ okHelloEnd w y := by
  obtain ⟨c, rfl, _⟩ := okWide_struct Try.underlying30 hv
  obtain ⟨fuel, hf⟩ := h
  obtain ⟨y, h1, h2⟩ := opn_HelloEnd hf
  exact ⟨y, by rw [← h1]; rfl, h2⟩
end
end Go.Proofs.Ytlkcgonbkdflpaa

/- Readings of the arguments: what a parameter of each type is in memory. -/
import Derived.Test.YtcjacolkmclloaaRows
import Derived.Test.YtcjacolkmclloaaMod
import Derived.ProofKit
import Derived.OpenShut
import Derived.ChangeOld
import Derived.Lib.SmallJoins
import Derived.Deep.Fields
import Derived.Deep.Slices
import Derived.ChangeSame
set_option linter.unusedSimpArgs false
set_option linter.unusedVariables false
namespace Go.Proofs.Ytcjacolkmclloaa
open Go Go.ChangeShapes Go.WideShapes Go.ChangeAt Go.RowKit Go.Joins Go.Deep
set_option maxRecDepth 100000
theorem own : ownKnob Try.prog.godebug = none := by kernel_rfl
theorem laidOut : laidOutB Try.prog = true := by kernel_rfl
section
variable {H : Type} {enc : TypeId × Value → H} {w : World} {base : Nat} {spare : Nat → Bool} {held : Bool} {fuel : Nat} {cs : List Value} {x : DataW H × List MemPlace}
theorem opn_int {t : TypeId} {k : IntKind} {lo hi : Int} (ht : Try.prog.underlying t = some (.int k)) (h1 : k.min = lo) (h2 : k.max = hi) (h : DataW.trod enc Try.prog w base spare held fuel t cs = some x) : ∃ n, cs = [.int k n] ∧ lo ≤ n ∧ n ≤ hi := by
  obtain ⟨n, h3, _, h4⟩ := DataW.trod_int ht h
  simp only [Lit.wf, Bool.and_eq_true, decide_eq_true_eq] at h4
  rw [h1, h2] at h4
  exact ⟨n, h3, h4.1, h4.2⟩
theorem opn_bool {t : TypeId} (ht : Try.prog.underlying t = some .bool) (h : DataW.trod enc Try.prog w base spare held fuel t cs = some x) : ∃ b, cs = [.bool b] := by
  obtain ⟨n, h1, _⟩ := DataW.trod_bool ht h
  exact ⟨n, h1⟩
theorem opn_string {t : TypeId} (ht : Try.prog.underlying t = some .string) (h : DataW.trod enc Try.prog w base spare held fuel t cs = some x) : ∃ s, cs = [.string s] ∧ s.size ≤ maxLen := by
  obtain ⟨n, h1, _, h2⟩ := DataW.trod_string ht h
  exact ⟨n, h1, h2⟩
theorem opn_rows {t e : TypeId} {m : Nat} {α : Type} [Inhabited α] {cl : α → List Value} {φ : α → Prop} (ht : Try.prog.underlying t = some (.slice e)) (hc : Try.prog.cellsOf e = m) (hm : ∀ a, (cl a).length = m) (h0 : 0 < m)
    (he : ∀ fuel cs x, DataW.trod enc Try.prog w base spare held fuel e cs = some x → ∃ a, cs = cl a ∧ φ a)
    (h : DataW.trod enc Try.prog w base spare held fuel t cs = some x) : ∃ y : Value × List α, cs = [y.1] ∧ Mem w y.1 m y.2.length (y.2.flatMap cl) ∧ ∀ a ∈ y.2, φ a := by
  rcases open_slice ht h with ⟨rfl, _⟩ | ⟨a, len, cap, q, n, D, Pl, rfl, hb, hl, hcap, hq, _, hx⟩
  · exact ⟨(.slice none 0 0, []), rfl, mem_nil w m, by simp⟩
  · rw [hc] at hx
    obtain ⟨f, hf⟩ := choose_lt (α := α) (n := len) (p := fun i a' => (∀ j u, (cl a')[j]? = some u → w.cell? (a.add (i * m + j)) = some u) ∧ φ a') (fun i hi => by
      obtain ⟨cs', h1, h2⟩ := hx i (by rw [hq]; split <;> omega)
      obtain ⟨a', rfl, ha'⟩ := he _ _ _ h2
      refine ⟨a', fun j u hj => ?_, ha'⟩
      have hlt : j < (cl a').length := (List.getElem?_eq_some_iff.1 hj).1
      rw [hm] at hlt
      have := (World.cells?_some h1).2.2 j hlt
      rw [add_add] at this
      rw [this]; exact hj)
    have hlen : ((List.range len).map f).length = len := by simp
    refine ⟨(.slice (some a) len cap, (List.range len).map f), rfl, ⟨⟨_, cap, by rw [hlen], by rw [hlen]; exact hl, hcap, fun h => ?_⟩, flat_len hm _, fun j u hj => ?_⟩, fun y hy => ?_⟩
    · dsimp only at h
      rw [hlen] at h
      have h1 : 0 < (cl (f 0)).length := by rw [hm]; exact h0
      have h2 := (hf 0 h).1 0 _ (List.getElem?_eq_getElem h1)
      rw [Nat.zero_mul] at h2
      obtain ⟨b, o, sp⟩ := a
      cases sp with
      | none => exact ⟨b, o, rfl⟩
      | some _ => simp [Addr.add, World.cell?] at h2; split at h2 <;> cases h2
    · have hjl : j < ((List.range len).map f).length * m := by rw [← flat_len hm]; exact (List.getElem?_eq_some_iff.1 hj).1
      rw [hlen] at hjl
      have hjm : j / m < len := Nat.div_lt_of_lt_mul (by rw [Nat.mul_comm]; exact hjl)
      have hr : j % m < m := Nat.mod_lt _ h0
      have hu : (cl (f (j / m)))[j % m]? = some u := by
        have h1 : j % m < (cl (f (j / m))).length := by rw [hm]; exact hr
        have h2 := at_flat (f := cl) (m := m) hm (l := (List.range len).map f) (k := j / m) (x := f (j / m)) (by simp [hjm]) (j % m) _ (List.getElem?_eq_getElem h1)
        rw [show j / m * m + j % m = j by rw [Nat.mul_comm]; exact Nat.div_add_mod j m] at h2
        rw [h2] at hj
        rw [List.getElem?_eq_getElem h1]; exact hj
      have h2 := (hf (j / m) hjm).1 _ _ hu
      rw [show j / m * m + j % m = j by rw [Nat.mul_comm]; exact Nat.div_add_mod j m] at h2
      obtain ⟨b, o, sp⟩ := a
      have hs : sp = none := by
        have h1 : 0 < (cl (f 0)).length := by rw [hm]; exact h0
        have h2 := (hf 0 (Nat.lt_of_le_of_lt (Nat.zero_le _) hjm)).1 0 _ (List.getElem?_eq_getElem h1)
        rw [Nat.zero_mul] at h2
        cases sp with
        | none => rfl
        | some _ => simp [Addr.add, World.cell?] at h2; split at h2 <;> cases h2
      subst hs
      rw [Addr.add_mid] at h2
      exact ⟨b, o, cap, by rw [hlen], h2⟩
    · obtain ⟨i, hi, rfl⟩ := List.mem_map.1 hy
      exact (hf i (by simpa using hi)).2
theorem opn_FibHop (h : DataW.trod enc Try.prog w base spare held fuel 50 cs = some x) : ∃ y : MFibHop, cs = clFibHop y ∧ okFibHop w y := by
  obtain ⟨xs, n, _, _, hl, hlen, hg⟩ := DataW.trod_struct Try.underlying50 h
  have hl' : cs.length = 2 := hl.trans (by kernel_rfl)
  match cs, hl' with
  | [c0, c1], _ =>
    have g0 : DataW.trod enc Try.prog w base spare held n 3 (List.take (Try.prog.cellsOf 3) (List.drop 0 [c0, c1])) = xs[0]? := hg 0 _ rfl
    obtain ⟨z0, hz0⟩ : ∃ z, xs[0]? = some z := ⟨xs[0]'(by rw [hlen]; decide), List.getElem?_eq_getElem _⟩
    rw [hz0] at g0
    rw [show Try.prog.cellsOf 3 = 1 by kernel_rfl] at g0
    obtain ⟨y0, e0, a0, b0⟩ := opn_int (lo := -9223372036854775808) (hi := 9223372036854775807) Try.underlying3 (by kernel_rfl) (by kernel_rfl) (g0)
    have e0' : [c0] = _ := e0
    simp only [List.cons.injEq, and_true] at e0'
    have g1 : DataW.trod enc Try.prog w base spare held n 3 (List.take (Try.prog.cellsOf 3) (List.drop 1 [c0, c1])) = xs[1]? := hg 1 _ rfl
    obtain ⟨z1, hz1⟩ : ∃ z, xs[1]? = some z := ⟨xs[1]'(by rw [hlen]; decide), List.getElem?_eq_getElem _⟩
    rw [hz1] at g1
    rw [show Try.prog.cellsOf 3 = 1 by kernel_rfl] at g1
    obtain ⟨y1, e1, a1, b1⟩ := opn_int (lo := -9223372036854775808) (hi := 9223372036854775807) Try.underlying3 (by kernel_rfl) (by kernel_rfl) (g1)
    have e1' : [c1] = _ := e1
    simp only [List.cons.injEq, and_true] at e1'
    refine ⟨(y0, y1), ?_, ?_⟩
    · simp only [clFibHop, e0', e1']
    · exact ⟨⟨a0, b0⟩, ⟨a1, b1⟩⟩
theorem opn_SFibHop (h : DataW.trod enc Try.prog w base spare held fuel 31 cs = some x) : ∃ y : MSFibHop, cs = [y.1] ∧ okSFibHop w y :=
  opn_rows Try.underlying31 (by kernel_rfl) (fun _ => rfl) (by decide) (fun _ _ _ h => opn_FibHop (h)) h
theorem opn_FibCell (h : DataW.trod enc Try.prog w base spare held fuel 33 cs = some x) : ∃ y : MFibCell, cs = clFibCell y ∧ okFibCell w y := by
  obtain ⟨xs, n, _, _, hl, hlen, hg⟩ := DataW.trod_struct Try.underlying33 h
  have hl' : cs.length = 4 := hl.trans (by kernel_rfl)
  match cs, hl' with
  | [c0, c1, c2, c3], _ =>
    have g0 : DataW.trod enc Try.prog w base spare held n 4 (List.take (Try.prog.cellsOf 4) (List.drop 0 [c0, c1, c2, c3])) = xs[0]? := hg 0 _ rfl
    obtain ⟨z0, hz0⟩ : ∃ z, xs[0]? = some z := ⟨xs[0]'(by rw [hlen]; decide), List.getElem?_eq_getElem _⟩
    rw [hz0] at g0
    rw [show Try.prog.cellsOf 4 = 1 by kernel_rfl] at g0
    obtain ⟨y0, e0⟩ := opn_bool Try.underlying4 (g0)
    have e0' : [c0] = _ := e0
    simp only [List.cons.injEq, and_true] at e0'
    have g1 : DataW.trod enc Try.prog w base spare held n 3 (List.take (Try.prog.cellsOf 3) (List.drop 1 [c0, c1, c2, c3])) = xs[1]? := hg 1 _ rfl
    obtain ⟨z1, hz1⟩ : ∃ z, xs[1]? = some z := ⟨xs[1]'(by rw [hlen]; decide), List.getElem?_eq_getElem _⟩
    rw [hz1] at g1
    rw [show Try.prog.cellsOf 3 = 1 by kernel_rfl] at g1
    obtain ⟨y1, e1, a1, b1⟩ := opn_int (lo := -9223372036854775808) (hi := 9223372036854775807) Try.underlying3 (by kernel_rfl) (by kernel_rfl) (g1)
    have e1' : [c1] = _ := e1
    simp only [List.cons.injEq, and_true] at e1'
    have g2 : DataW.trod enc Try.prog w base spare held n 3 (List.take (Try.prog.cellsOf 3) (List.drop 2 [c0, c1, c2, c3])) = xs[2]? := hg 2 _ rfl
    obtain ⟨z2, hz2⟩ : ∃ z, xs[2]? = some z := ⟨xs[2]'(by rw [hlen]; decide), List.getElem?_eq_getElem _⟩
    rw [hz2] at g2
    rw [show Try.prog.cellsOf 3 = 1 by kernel_rfl] at g2
    obtain ⟨y2, e2, a2, b2⟩ := opn_int (lo := -9223372036854775808) (hi := 9223372036854775807) Try.underlying3 (by kernel_rfl) (by kernel_rfl) (g2)
    have e2' : [c2] = _ := e2
    simp only [List.cons.injEq, and_true] at e2'
    have g3 : DataW.trod enc Try.prog w base spare held n 31 (List.take (Try.prog.cellsOf 31) (List.drop 3 [c0, c1, c2, c3])) = xs[3]? := hg 3 _ rfl
    obtain ⟨z3, hz3⟩ : ∃ z, xs[3]? = some z := ⟨xs[3]'(by rw [hlen]; decide), List.getElem?_eq_getElem _⟩
    rw [hz3] at g3
    rw [show Try.prog.cellsOf 31 = 1 by kernel_rfl] at g3
    obtain ⟨y3, e3, a3⟩ := opn_SFibHop (g3)
    have e3' : [c3] = _ := e3
    simp only [List.cons.injEq, and_true] at e3'
    refine ⟨(y0, y1, y2, y3), ?_, ?_⟩
    · simp only [clFibCell, e0', e1', e2', e3']
    · exact ⟨⟨a1, b1⟩, ⟨a2, b2⟩, a3⟩
theorem opn_SFibCell (h : DataW.trod enc Try.prog w base spare held fuel 22 cs = some x) : ∃ y : MSFibCell, cs = [y.1] ∧ okSFibCell w y :=
  opn_rows Try.underlying22 (by kernel_rfl) (fun _ => rfl) (by decide) (fun _ _ _ h => opn_FibCell (h)) h
theorem opn_FibOld (h : DataW.trod enc Try.prog w base spare held fuel 45 cs = some x) : ∃ y : MFibOld, cs = clFibOld y ∧ okFibOld w y := by
  obtain ⟨xs, n, _, _, hl, hlen, hg⟩ := DataW.trod_struct Try.underlying45 h
  have hl' : cs.length = 2 := hl.trans (by kernel_rfl)
  match cs, hl' with
  | [c0, c1], _ =>
    have g0 : DataW.trod enc Try.prog w base spare held n 3 (List.take (Try.prog.cellsOf 3) (List.drop 0 [c0, c1])) = xs[0]? := hg 0 _ rfl
    obtain ⟨z0, hz0⟩ : ∃ z, xs[0]? = some z := ⟨xs[0]'(by rw [hlen]; decide), List.getElem?_eq_getElem _⟩
    rw [hz0] at g0
    rw [show Try.prog.cellsOf 3 = 1 by kernel_rfl] at g0
    obtain ⟨y0, e0, a0, b0⟩ := opn_int (lo := -9223372036854775808) (hi := 9223372036854775807) Try.underlying3 (by kernel_rfl) (by kernel_rfl) (g0)
    have e0' : [c0] = _ := e0
    simp only [List.cons.injEq, and_true] at e0'
    have g1 : DataW.trod enc Try.prog w base spare held n 3 (List.take (Try.prog.cellsOf 3) (List.drop 1 [c0, c1])) = xs[1]? := hg 1 _ rfl
    obtain ⟨z1, hz1⟩ : ∃ z, xs[1]? = some z := ⟨xs[1]'(by rw [hlen]; decide), List.getElem?_eq_getElem _⟩
    rw [hz1] at g1
    rw [show Try.prog.cellsOf 3 = 1 by kernel_rfl] at g1
    obtain ⟨y1, e1, a1, b1⟩ := opn_int (lo := -9223372036854775808) (hi := 9223372036854775807) Try.underlying3 (by kernel_rfl) (by kernel_rfl) (g1)
    have e1' : [c1] = _ := e1
    simp only [List.cons.injEq, and_true] at e1'
    refine ⟨(y0, y1), ?_, ?_⟩
    · simp only [clFibOld, e0', e1']
    · exact ⟨⟨a0, b0⟩, ⟨a1, b1⟩⟩
theorem opn_SFibOld (h : DataW.trod enc Try.prog w base spare held fuel 23 cs = some x) : ∃ y : MSFibOld, cs = [y.1] ∧ okSFibOld w y :=
  opn_rows Try.underlying23 (by kernel_rfl) (fun _ => rfl) (by decide) (fun _ _ _ h => opn_FibOld (h)) h
theorem opn_FibReader (h : DataW.trod enc Try.prog w base spare held fuel 35 cs = some x) : ∃ y : MFibReader, cs = clFibReader y ∧ okFibReader w y := by
  obtain ⟨xs, n, _, _, hl, hlen, hg⟩ := DataW.trod_struct Try.underlying35 h
  have hl' : cs.length = 7 := hl.trans (by kernel_rfl)
  match cs, hl' with
  | [c0, c1, c2, c3, c4, c5, c6], _ =>
    have g0 : DataW.trod enc Try.prog w base spare held n 4 (List.take (Try.prog.cellsOf 4) (List.drop 0 [c0, c1, c2, c3, c4, c5, c6])) = xs[0]? := hg 0 _ rfl
    obtain ⟨z0, hz0⟩ : ∃ z, xs[0]? = some z := ⟨xs[0]'(by rw [hlen]; decide), List.getElem?_eq_getElem _⟩
    rw [hz0] at g0
    rw [show Try.prog.cellsOf 4 = 1 by kernel_rfl] at g0
    obtain ⟨y0, e0⟩ := opn_bool Try.underlying4 (g0)
    have e0' : [c0] = _ := e0
    simp only [List.cons.injEq, and_true] at e0'
    have g1 : DataW.trod enc Try.prog w base spare held n 3 (List.take (Try.prog.cellsOf 3) (List.drop 1 [c0, c1, c2, c3, c4, c5, c6])) = xs[1]? := hg 1 _ rfl
    obtain ⟨z1, hz1⟩ : ∃ z, xs[1]? = some z := ⟨xs[1]'(by rw [hlen]; decide), List.getElem?_eq_getElem _⟩
    rw [hz1] at g1
    rw [show Try.prog.cellsOf 3 = 1 by kernel_rfl] at g1
    obtain ⟨y1, e1, a1, b1⟩ := opn_int (lo := -9223372036854775808) (hi := 9223372036854775807) Try.underlying3 (by kernel_rfl) (by kernel_rfl) (g1)
    have e1' : [c1] = _ := e1
    simp only [List.cons.injEq, and_true] at e1'
    have g2 : DataW.trod enc Try.prog w base spare held n 3 (List.take (Try.prog.cellsOf 3) (List.drop 2 [c0, c1, c2, c3, c4, c5, c6])) = xs[2]? := hg 2 _ rfl
    obtain ⟨z2, hz2⟩ : ∃ z, xs[2]? = some z := ⟨xs[2]'(by rw [hlen]; decide), List.getElem?_eq_getElem _⟩
    rw [hz2] at g2
    rw [show Try.prog.cellsOf 3 = 1 by kernel_rfl] at g2
    obtain ⟨y2, e2, a2, b2⟩ := opn_int (lo := -9223372036854775808) (hi := 9223372036854775807) Try.underlying3 (by kernel_rfl) (by kernel_rfl) (g2)
    have e2' : [c2] = _ := e2
    simp only [List.cons.injEq, and_true] at e2'
    have g3 : DataW.trod enc Try.prog w base spare held n 3 (List.take (Try.prog.cellsOf 3) (List.drop 3 [c0, c1, c2, c3, c4, c5, c6])) = xs[3]? := hg 3 _ rfl
    obtain ⟨z3, hz3⟩ : ∃ z, xs[3]? = some z := ⟨xs[3]'(by rw [hlen]; decide), List.getElem?_eq_getElem _⟩
    rw [hz3] at g3
    rw [show Try.prog.cellsOf 3 = 1 by kernel_rfl] at g3
    obtain ⟨y3, e3, a3, b3⟩ := opn_int (lo := -9223372036854775808) (hi := 9223372036854775807) Try.underlying3 (by kernel_rfl) (by kernel_rfl) (g3)
    have e3' : [c3] = _ := e3
    simp only [List.cons.injEq, and_true] at e3'
    have g4 : DataW.trod enc Try.prog w base spare held n 3 (List.take (Try.prog.cellsOf 3) (List.drop 4 [c0, c1, c2, c3, c4, c5, c6])) = xs[4]? := hg 4 _ rfl
    obtain ⟨z4, hz4⟩ : ∃ z, xs[4]? = some z := ⟨xs[4]'(by rw [hlen]; decide), List.getElem?_eq_getElem _⟩
    rw [hz4] at g4
    rw [show Try.prog.cellsOf 3 = 1 by kernel_rfl] at g4
    obtain ⟨y4, e4, a4, b4⟩ := opn_int (lo := -9223372036854775808) (hi := 9223372036854775807) Try.underlying3 (by kernel_rfl) (by kernel_rfl) (g4)
    have e4' : [c4] = _ := e4
    simp only [List.cons.injEq, and_true] at e4'
    have g5 : DataW.trod enc Try.prog w base spare held n 3 (List.take (Try.prog.cellsOf 3) (List.drop 5 [c0, c1, c2, c3, c4, c5, c6])) = xs[5]? := hg 5 _ rfl
    obtain ⟨z5, hz5⟩ : ∃ z, xs[5]? = some z := ⟨xs[5]'(by rw [hlen]; decide), List.getElem?_eq_getElem _⟩
    rw [hz5] at g5
    rw [show Try.prog.cellsOf 3 = 1 by kernel_rfl] at g5
    obtain ⟨y5, e5, a5, b5⟩ := opn_int (lo := -9223372036854775808) (hi := 9223372036854775807) Try.underlying3 (by kernel_rfl) (by kernel_rfl) (g5)
    have e5' : [c5] = _ := e5
    simp only [List.cons.injEq, and_true] at e5'
    have g6 : DataW.trod enc Try.prog w base spare held n 31 (List.take (Try.prog.cellsOf 31) (List.drop 6 [c0, c1, c2, c3, c4, c5, c6])) = xs[6]? := hg 6 _ rfl
    obtain ⟨z6, hz6⟩ : ∃ z, xs[6]? = some z := ⟨xs[6]'(by rw [hlen]; decide), List.getElem?_eq_getElem _⟩
    rw [hz6] at g6
    rw [show Try.prog.cellsOf 31 = 1 by kernel_rfl] at g6
    obtain ⟨y6, e6, a6⟩ := opn_SFibHop (g6)
    have e6' : [c6] = _ := e6
    simp only [List.cons.injEq, and_true] at e6'
    refine ⟨(y0, y1, y2, y3, y4, y5, y6), ?_, ?_⟩
    · simp only [clFibReader, e0', e1', e2', e3', e4', e5', e6']
    · exact ⟨⟨a1, b1⟩, ⟨a2, b2⟩, ⟨a3, b3⟩, ⟨a4, b4⟩, ⟨a5, b5⟩, a6⟩
theorem opn_SFibReader (h : DataW.trod enc Try.prog w base spare held fuel 24 cs = some x) : ∃ y : MSFibReader, cs = [y.1] ∧ okSFibReader w y :=
  opn_rows Try.underlying24 (by kernel_rfl) (fun _ => rfl) (by decide) (fun _ _ _ h => opn_FibReader (h)) h
theorem opn_FibStore (h : DataW.trod enc Try.prog w base spare held fuel 26 cs = some x) : ∃ y : MFibStore, cs = clFibStore y ∧ okFibStore w y := by
  obtain ⟨xs, n, _, _, hl, hlen, hg⟩ := DataW.trod_struct Try.underlying26 h
  have hl' : cs.length = 5 := hl.trans (by kernel_rfl)
  match cs, hl' with
  | [c0, c1, c2, c3, c4], _ =>
    have g0 : DataW.trod enc Try.prog w base spare held n 22 (List.take (Try.prog.cellsOf 22) (List.drop 0 [c0, c1, c2, c3, c4])) = xs[0]? := hg 0 _ rfl
    obtain ⟨z0, hz0⟩ : ∃ z, xs[0]? = some z := ⟨xs[0]'(by rw [hlen]; decide), List.getElem?_eq_getElem _⟩
    rw [hz0] at g0
    rw [show Try.prog.cellsOf 22 = 1 by kernel_rfl] at g0
    obtain ⟨y0, e0, a0⟩ := opn_SFibCell (g0)
    have e0' : [c0] = _ := e0
    simp only [List.cons.injEq, and_true] at e0'
    have g1 : DataW.trod enc Try.prog w base spare held n 3 (List.take (Try.prog.cellsOf 3) (List.drop 1 [c0, c1, c2, c3, c4])) = xs[1]? := hg 1 _ rfl
    obtain ⟨z1, hz1⟩ : ∃ z, xs[1]? = some z := ⟨xs[1]'(by rw [hlen]; decide), List.getElem?_eq_getElem _⟩
    rw [hz1] at g1
    rw [show Try.prog.cellsOf 3 = 1 by kernel_rfl] at g1
    obtain ⟨y1, e1, a1, b1⟩ := opn_int (lo := -9223372036854775808) (hi := 9223372036854775807) Try.underlying3 (by kernel_rfl) (by kernel_rfl) (g1)
    have e1' : [c1] = _ := e1
    simp only [List.cons.injEq, and_true] at e1'
    have g2 : DataW.trod enc Try.prog w base spare held n 3 (List.take (Try.prog.cellsOf 3) (List.drop 2 [c0, c1, c2, c3, c4])) = xs[2]? := hg 2 _ rfl
    obtain ⟨z2, hz2⟩ : ∃ z, xs[2]? = some z := ⟨xs[2]'(by rw [hlen]; decide), List.getElem?_eq_getElem _⟩
    rw [hz2] at g2
    rw [show Try.prog.cellsOf 3 = 1 by kernel_rfl] at g2
    obtain ⟨y2, e2, a2, b2⟩ := opn_int (lo := -9223372036854775808) (hi := 9223372036854775807) Try.underlying3 (by kernel_rfl) (by kernel_rfl) (g2)
    have e2' : [c2] = _ := e2
    simp only [List.cons.injEq, and_true] at e2'
    have g3 : DataW.trod enc Try.prog w base spare held n 23 (List.take (Try.prog.cellsOf 23) (List.drop 3 [c0, c1, c2, c3, c4])) = xs[3]? := hg 3 _ rfl
    obtain ⟨z3, hz3⟩ : ∃ z, xs[3]? = some z := ⟨xs[3]'(by rw [hlen]; decide), List.getElem?_eq_getElem _⟩
    rw [hz3] at g3
    rw [show Try.prog.cellsOf 23 = 1 by kernel_rfl] at g3
    obtain ⟨y3, e3, a3⟩ := opn_SFibOld (g3)
    have e3' : [c3] = _ := e3
    simp only [List.cons.injEq, and_true] at e3'
    have g4 : DataW.trod enc Try.prog w base spare held n 24 (List.take (Try.prog.cellsOf 24) (List.drop 4 [c0, c1, c2, c3, c4])) = xs[4]? := hg 4 _ rfl
    obtain ⟨z4, hz4⟩ : ∃ z, xs[4]? = some z := ⟨xs[4]'(by rw [hlen]; decide), List.getElem?_eq_getElem _⟩
    rw [hz4] at g4
    rw [show Try.prog.cellsOf 24 = 1 by kernel_rfl] at g4
    obtain ⟨y4, e4, a4⟩ := opn_SFibReader (g4)
    have e4' : [c4] = _ := e4
    simp only [List.cons.injEq, and_true] at e4'
    refine ⟨(y0, y1, y2, y3, y4), ?_, ?_⟩
    · simp only [clFibStore, e0', e1', e2', e3', e4']
    · exact ⟨a0, ⟨a1, b1⟩, ⟨a2, b2⟩, a3, a4⟩
theorem par_bool4 {r : Reach} {b0 : Nat} {v : Value} {d : DataW H} {p : List MemPlace} (hv : Value.okWide Try.prog w r b0 4 v) (h : DataW.Trod enc Try.prog w base spare held 4 v d p) : ∃ b, v = .bool b := by
  obtain ⟨_, rfl⟩ := okWide_bool Try.underlying4 hv
  obtain ⟨fuel, hf⟩ := h
  obtain ⟨y, h1⟩ := opn_bool Try.underlying4 (hf)
  exact ⟨y, by simpa [Value.cells] using h1⟩
theorem par_int3 {r : Reach} {b0 : Nat} {v : Value} {d : DataW H} {p : List MemPlace} (hv : Value.okWide Try.prog w r b0 3 v) (h : DataW.Trod enc Try.prog w base spare held 3 v d p) : ∃ n, v = .int .i64 n ∧ -9223372036854775808 ≤ n ∧ n ≤ 9223372036854775807 := by
  obtain ⟨_, rfl⟩ := okWide_int Try.underlying3 hv
  obtain ⟨fuel, hf⟩ := h
  obtain ⟨y, h1, h2⟩ := opn_int (lo := -9223372036854775808) (hi := 9223372036854775807) Try.underlying3 (by kernel_rfl) (by kernel_rfl) (hf)
  exact ⟨y, by simpa [Value.cells] using h1, h2⟩
theorem par_FibHop {r : Reach} {b0 : Nat} {v : Value} {d : DataW H} {p : List MemPlace} (hv : Value.okWide Try.prog w r b0 50 v) (h : DataW.Trod enc Try.prog w base spare held 50 v d p) : ∃ y : MFibHop, v = .agg (clFibHop y).toArray ∧ okFibHop w y := by
  obtain ⟨c, rfl, _⟩ := okWide_struct Try.underlying50 hv
  obtain ⟨fuel, hf⟩ := h
  obtain ⟨y, h1, h2⟩ := opn_FibHop hf
  exact ⟨y, by rw [← h1]; rfl, h2⟩
theorem par_SFibHop {r : Reach} {b0 : Nat} {v : Value} {d : DataW H} {p : List MemPlace} (hv : Value.okWide Try.prog w r b0 31 v) (h : DataW.Trod enc Try.prog w base spare held 31 v d p) : ∃ y : MSFibHop, v = y.1 ∧ okSFibHop w y := by
  obtain ⟨_, _, _, rfl⟩ := okWide_slice Try.underlying31 hv
  obtain ⟨fuel, hf⟩ := h
  obtain ⟨y, h1, h2⟩ := opn_SFibHop (hf)
  exact ⟨y, by simpa [Value.cells] using h1, h2⟩
theorem par_FibCell {r : Reach} {b0 : Nat} {v : Value} {d : DataW H} {p : List MemPlace} (hv : Value.okWide Try.prog w r b0 33 v) (h : DataW.Trod enc Try.prog w base spare held 33 v d p) : ∃ y : MFibCell, v = .agg (clFibCell y).toArray ∧ okFibCell w y := by
  obtain ⟨c, rfl, _⟩ := okWide_struct Try.underlying33 hv
  obtain ⟨fuel, hf⟩ := h
  obtain ⟨y, h1, h2⟩ := opn_FibCell hf
  exact ⟨y, by rw [← h1]; rfl, h2⟩
theorem par_SFibCell {r : Reach} {b0 : Nat} {v : Value} {d : DataW H} {p : List MemPlace} (hv : Value.okWide Try.prog w r b0 22 v) (h : DataW.Trod enc Try.prog w base spare held 22 v d p) : ∃ y : MSFibCell, v = y.1 ∧ okSFibCell w y := by
  obtain ⟨_, _, _, rfl⟩ := okWide_slice Try.underlying22 hv
  obtain ⟨fuel, hf⟩ := h
  obtain ⟨y, h1, h2⟩ := opn_SFibCell (hf)
  exact ⟨y, by simpa [Value.cells] using h1, h2⟩
theorem par_FibOld {r : Reach} {b0 : Nat} {v : Value} {d : DataW H} {p : List MemPlace} (hv : Value.okWide Try.prog w r b0 45 v) (h : DataW.Trod enc Try.prog w base spare held 45 v d p) : ∃ y : MFibOld, v = .agg (clFibOld y).toArray ∧ okFibOld w y := by
  obtain ⟨c, rfl, _⟩ := okWide_struct Try.underlying45 hv
  obtain ⟨fuel, hf⟩ := h
  obtain ⟨y, h1, h2⟩ := opn_FibOld hf
  exact ⟨y, by rw [← h1]; rfl, h2⟩
theorem par_SFibOld {r : Reach} {b0 : Nat} {v : Value} {d : DataW H} {p : List MemPlace} (hv : Value.okWide Try.prog w r b0 23 v) (h : DataW.Trod enc Try.prog w base spare held 23 v d p) : ∃ y : MSFibOld, v = y.1 ∧ okSFibOld w y := by
  obtain ⟨_, _, _, rfl⟩ := okWide_slice Try.underlying23 hv
  obtain ⟨fuel, hf⟩ := h
  obtain ⟨y, h1, h2⟩ := opn_SFibOld (hf)
  exact ⟨y, by simpa [Value.cells] using h1, h2⟩
theorem par_FibReader {r : Reach} {b0 : Nat} {v : Value} {d : DataW H} {p : List MemPlace} (hv : Value.okWide Try.prog w r b0 35 v) (h : DataW.Trod enc Try.prog w base spare held 35 v d p) : ∃ y : MFibReader, v = .agg (clFibReader y).toArray ∧ okFibReader w y := by
  obtain ⟨c, rfl, _⟩ := okWide_struct Try.underlying35 hv
  obtain ⟨fuel, hf⟩ := h
  obtain ⟨y, h1, h2⟩ := opn_FibReader hf
  exact ⟨y, by rw [← h1]; rfl, h2⟩
theorem par_SFibReader {r : Reach} {b0 : Nat} {v : Value} {d : DataW H} {p : List MemPlace} (hv : Value.okWide Try.prog w r b0 24 v) (h : DataW.Trod enc Try.prog w base spare held 24 v d p) : ∃ y : MSFibReader, v = y.1 ∧ okSFibReader w y := by
  obtain ⟨_, _, _, rfl⟩ := okWide_slice Try.underlying24 hv
  obtain ⟨fuel, hf⟩ := h
  obtain ⟨y, h1, h2⟩ := opn_SFibReader (hf)
  exact ⟨y, by simpa [Value.cells] using h1, h2⟩
theorem par_FibStore {r : Reach} {b0 : Nat} {v : Value} {d : DataW H} {p : List MemPlace} (hv : Value.okWide Try.prog w r b0 26 v) (h : DataW.Trod enc Try.prog w base spare held 26 v d p) : ∃ y : MFibStore, v = .agg (clFibStore y).toArray ∧ okFibStore w y := by
  obtain ⟨c, rfl, _⟩ := okWide_struct Try.underlying26 hv
  obtain ⟨fuel, hf⟩ := h
  obtain ⟨y, h1, h2⟩ := opn_FibStore hf
  exact ⟨y, by rw [← h1]; rfl, h2⟩
end
end Go.Proofs.Ytcjacolkmclloaa

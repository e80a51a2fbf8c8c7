/- Readings of the arguments: what a parameter of each type is in memory. -/
import Derived.Test.YtodhjpnfokkfeaaRows
import Derived.Test.YtodhjpnfokkfeaaMod
import Derived.ProofKit
import Derived.OpenShut
import Derived.ChangeOld
import Derived.Lib.SmallJoins
import Derived.Deep.Fields
import Derived.Deep.Slices
import Derived.ChangeSame
set_option linter.unusedSimpArgs false
set_option linter.unusedVariables false
namespace Go.Proofs.Ytodhjpnfokkfeaa
open Go Go.ChangeShapes Go.WideShapes Go.ChangeAt Go.RowKit Go.Joins Go.Deep
set_option maxRecDepth 100000
theorem own : ownKnob Try.prog.godebug = none := by kernel_rfl
theorem laidOut : laidOutB Try.prog = true := by kernel_rfl
section
variable {H : Type} {enc : TypeId × Value → H} {w : World} {base : Nat} {spare : Nat → Bool} {held : Bool} {fuel : Nat} {cs : List Value} {x : DataW H × List MemPlace}
theorem opn_int {t : TypeId} {k : IntKind} {lo hi : Int} (ht : Try.prog.underlying t = some (.int k)) (h1 : k.min = lo) (h2 : k.max = hi) (h : DataW.trod enc Try.prog w base spare held fuel t cs = some x) : ∃ n, cs = [.int k n] ∧ lo ≤ n ∧ n ≤ hi := by
  obtain ⟨n, h3, _, h4⟩ := DataW.trod_int ht h
  simp only [Lit.wf, Bool.and_eq_true, decide_eq_true_eq] at h4
  rw [h1, h2] at h4
  exact ⟨n, h3, h4.1, h4.2⟩
theorem opn_bool {t : TypeId} (ht : Try.prog.underlying t = some .bool) (h : DataW.trod enc Try.prog w base spare held fuel t cs = some x) : ∃ b, cs = [.bool b] := by
  obtain ⟨n, h1, _⟩ := DataW.trod_bool ht h
  exact ⟨n, h1⟩
theorem opn_string {t : TypeId} (ht : Try.prog.underlying t = some .string) (h : DataW.trod enc Try.prog w base spare held fuel t cs = some x) : ∃ s, cs = [.string s] ∧ s.size ≤ maxLen := by
  obtain ⟨n, h1, _, h2⟩ := DataW.trod_string ht h
  exact ⟨n, h1, h2⟩
theorem opn_rows {t e : TypeId} {m : Nat} {α : Type} [Inhabited α] {cl : α → List Value} {φ : α → Prop} (ht : Try.prog.underlying t = some (.slice e)) (hc : Try.prog.cellsOf e = m) (hm : ∀ a, (cl a).length = m) (h0 : 0 < m)
    (he : ∀ fuel cs x, DataW.trod enc Try.prog w base spare held fuel e cs = some x → ∃ a, cs = cl a ∧ φ a)
    (h : DataW.trod enc Try.prog w base spare held fuel t cs = some x) : ∃ y : Value × List α, cs = [y.1] ∧ Mem w y.1 m y.2.length (y.2.flatMap cl) ∧ ∀ a ∈ y.2, φ a := by
  rcases open_slice ht h with ⟨rfl, _⟩ | ⟨a, len, cap, q, n, D, Pl, rfl, hb, hl, hcap, hq, _, hx⟩
  · exact ⟨(.slice none 0 0, []), rfl, mem_nil w m, by simp⟩
  · rw [hc] at hx
    obtain ⟨f, hf⟩ := choose_lt (α := α) (n := len) (p := fun i a' => (∀ j u, (cl a')[j]? = some u → w.cell? (a.add (i * m + j)) = some u) ∧ φ a') (fun i hi => by
      obtain ⟨cs', h1, h2⟩ := hx i (by rw [hq]; split <;> omega)
      obtain ⟨a', rfl, ha'⟩ := he _ _ _ h2
      refine ⟨a', fun j u hj => ?_, ha'⟩
      have hlt : j < (cl a').length := (List.getElem?_eq_some_iff.1 hj).1
      rw [hm] at hlt
      have := (World.cells?_some h1).2.2 j hlt
      rw [add_add] at this
      rw [this]; exact hj)
    have hlen : ((List.range len).map f).length = len := by simp
    refine ⟨(.slice (some a) len cap, (List.range len).map f), rfl, ⟨⟨_, cap, by rw [hlen], by rw [hlen]; exact hl, hcap, fun h => ?_⟩, flat_len hm _, fun j u hj => ?_⟩, fun y hy => ?_⟩
    · dsimp only at h
      rw [hlen] at h
      have h1 : 0 < (cl (f 0)).length := by rw [hm]; exact h0
      have h2 := (hf 0 h).1 0 _ (List.getElem?_eq_getElem h1)
      rw [Nat.zero_mul] at h2
      obtain ⟨b, o, sp⟩ := a
      cases sp with
      | none => exact ⟨b, o, rfl⟩
      | some _ => simp [Addr.add, World.cell?] at h2; split at h2 <;> cases h2
    · have hjl : j < ((List.range len).map f).length * m := by rw [← flat_len hm]; exact (List.getElem?_eq_some_iff.1 hj).1
      rw [hlen] at hjl
      have hjm : j / m < len := Nat.div_lt_of_lt_mul (by rw [Nat.mul_comm]; exact hjl)
      have hr : j % m < m := Nat.mod_lt _ h0
      have hu : (cl (f (j / m)))[j % m]? = some u := by
        have h1 : j % m < (cl (f (j / m))).length := by rw [hm]; exact hr
        have h2 := at_flat (f := cl) (m := m) hm (l := (List.range len).map f) (k := j / m) (x := f (j / m)) (by simp [hjm]) (j % m) _ (List.getElem?_eq_getElem h1)
        rw [show j / m * m + j % m = j by rw [Nat.mul_comm]; exact Nat.div_add_mod j m] at h2
        rw [h2] at hj
        rw [List.getElem?_eq_getElem h1]; exact hj
      have h2 := (hf (j / m) hjm).1 _ _ hu
      rw [show j / m * m + j % m = j by rw [Nat.mul_comm]; exact Nat.div_add_mod j m] at h2
      obtain ⟨b, o, sp⟩ := a
      have hs : sp = none := by
        have h1 : 0 < (cl (f 0)).length := by rw [hm]; exact h0
        have h2 := (hf 0 (Nat.lt_of_le_of_lt (Nat.zero_le _) hjm)).1 0 _ (List.getElem?_eq_getElem h1)
        rw [Nat.zero_mul] at h2
        cases sp with
        | none => rfl
        | some _ => simp [Addr.add, World.cell?] at h2; split at h2 <;> cases h2
      subst hs
      rw [Addr.add_mid] at h2
      exact ⟨b, o, cap, by rw [hlen], h2⟩
    · obtain ⟨i, hi, rfl⟩ := List.mem_map.1 hy
      exact (hf i (by simpa using hi)).2
theorem opn_Suint8 (h : DataW.trod enc Try.prog w base spare held fuel 22 cs = some x) : ∃ y : MSuint8, cs = [y.1] ∧ okSuint8 w y :=
  opn_rows Try.underlying22 (by kernel_rfl) (fun _ => rfl) (by decide) (fun _ _ _ h => opn_int (lo := 0) (hi := 255) Try.underlying5 (by kernel_rfl) (by kernel_rfl) (h)) h
theorem opn_FragPacket (h : DataW.trod enc Try.prog w base spare held fuel 52 cs = some x) : ∃ y : MFragPacket, cs = clFragPacket y ∧ okFragPacket w y := by
  obtain ⟨xs, n, _, _, hl, hlen, hg⟩ := DataW.trod_struct Try.underlying52 h
  have hl' : cs.length = 9 := hl.trans (by kernel_rfl)
  match cs, hl' with
  | [c0, c1, c2, c3, c4, c5, c6, c7, c8], _ =>
    have g0 : DataW.trod enc Try.prog w base spare held n 3 (List.take (Try.prog.cellsOf 3) (List.drop 0 [c0, c1, c2, c3, c4, c5, c6, c7, c8])) = xs[0]? := hg 0 _ rfl
    obtain ⟨z0, hz0⟩ : ∃ z, xs[0]? = some z := ⟨xs[0]'(by rw [hlen]; decide), List.getElem?_eq_getElem _⟩
    rw [hz0] at g0
    rw [show Try.prog.cellsOf 3 = 1 by kernel_rfl] at g0
    obtain ⟨y0, e0, a0, b0⟩ := opn_int (lo := -9223372036854775808) (hi := 9223372036854775807) Try.underlying3 (by kernel_rfl) (by kernel_rfl) (g0)
    have e0' : [c0] = _ := e0
    simp only [List.cons.injEq, and_true] at e0'
    have g1 : DataW.trod enc Try.prog w base spare held n 3 (List.take (Try.prog.cellsOf 3) (List.drop 1 [c0, c1, c2, c3, c4, c5, c6, c7, c8])) = xs[1]? := hg 1 _ rfl
    obtain ⟨z1, hz1⟩ : ∃ z, xs[1]? = some z := ⟨xs[1]'(by rw [hlen]; decide), List.getElem?_eq_getElem _⟩
    rw [hz1] at g1
    rw [show Try.prog.cellsOf 3 = 1 by kernel_rfl] at g1
    obtain ⟨y1, e1, a1, b1⟩ := opn_int (lo := -9223372036854775808) (hi := 9223372036854775807) Try.underlying3 (by kernel_rfl) (by kernel_rfl) (g1)
    have e1' : [c1] = _ := e1
    simp only [List.cons.injEq, and_true] at e1'
    have g2 : DataW.trod enc Try.prog w base spare held n 3 (List.take (Try.prog.cellsOf 3) (List.drop 2 [c0, c1, c2, c3, c4, c5, c6, c7, c8])) = xs[2]? := hg 2 _ rfl
    obtain ⟨z2, hz2⟩ : ∃ z, xs[2]? = some z := ⟨xs[2]'(by rw [hlen]; decide), List.getElem?_eq_getElem _⟩
    rw [hz2] at g2
    rw [show Try.prog.cellsOf 3 = 1 by kernel_rfl] at g2
    obtain ⟨y2, e2, a2, b2⟩ := opn_int (lo := -9223372036854775808) (hi := 9223372036854775807) Try.underlying3 (by kernel_rfl) (by kernel_rfl) (g2)
    have e2' : [c2] = _ := e2
    simp only [List.cons.injEq, and_true] at e2'
    have g3 : DataW.trod enc Try.prog w base spare held n 3 (List.take (Try.prog.cellsOf 3) (List.drop 3 [c0, c1, c2, c3, c4, c5, c6, c7, c8])) = xs[3]? := hg 3 _ rfl
    obtain ⟨z3, hz3⟩ : ∃ z, xs[3]? = some z := ⟨xs[3]'(by rw [hlen]; decide), List.getElem?_eq_getElem _⟩
    rw [hz3] at g3
    rw [show Try.prog.cellsOf 3 = 1 by kernel_rfl] at g3
    obtain ⟨y3, e3, a3, b3⟩ := opn_int (lo := -9223372036854775808) (hi := 9223372036854775807) Try.underlying3 (by kernel_rfl) (by kernel_rfl) (g3)
    have e3' : [c3] = _ := e3
    simp only [List.cons.injEq, and_true] at e3'
    have g4 : DataW.trod enc Try.prog w base spare held n 3 (List.take (Try.prog.cellsOf 3) (List.drop 4 [c0, c1, c2, c3, c4, c5, c6, c7, c8])) = xs[4]? := hg 4 _ rfl
    obtain ⟨z4, hz4⟩ : ∃ z, xs[4]? = some z := ⟨xs[4]'(by rw [hlen]; decide), List.getElem?_eq_getElem _⟩
    rw [hz4] at g4
    rw [show Try.prog.cellsOf 3 = 1 by kernel_rfl] at g4
    obtain ⟨y4, e4, a4, b4⟩ := opn_int (lo := -9223372036854775808) (hi := 9223372036854775807) Try.underlying3 (by kernel_rfl) (by kernel_rfl) (g4)
    have e4' : [c4] = _ := e4
    simp only [List.cons.injEq, and_true] at e4'
    have g5 : DataW.trod enc Try.prog w base spare held n 4 (List.take (Try.prog.cellsOf 4) (List.drop 5 [c0, c1, c2, c3, c4, c5, c6, c7, c8])) = xs[5]? := hg 5 _ rfl
    obtain ⟨z5, hz5⟩ : ∃ z, xs[5]? = some z := ⟨xs[5]'(by rw [hlen]; decide), List.getElem?_eq_getElem _⟩
    rw [hz5] at g5
    rw [show Try.prog.cellsOf 4 = 1 by kernel_rfl] at g5
    obtain ⟨y5, e5⟩ := opn_bool Try.underlying4 (g5)
    have e5' : [c5] = _ := e5
    simp only [List.cons.injEq, and_true] at e5'
    have g6 : DataW.trod enc Try.prog w base spare held n 3 (List.take (Try.prog.cellsOf 3) (List.drop 6 [c0, c1, c2, c3, c4, c5, c6, c7, c8])) = xs[6]? := hg 6 _ rfl
    obtain ⟨z6, hz6⟩ : ∃ z, xs[6]? = some z := ⟨xs[6]'(by rw [hlen]; decide), List.getElem?_eq_getElem _⟩
    rw [hz6] at g6
    rw [show Try.prog.cellsOf 3 = 1 by kernel_rfl] at g6
    obtain ⟨y6, e6, a6, b6⟩ := opn_int (lo := -9223372036854775808) (hi := 9223372036854775807) Try.underlying3 (by kernel_rfl) (by kernel_rfl) (g6)
    have e6' : [c6] = _ := e6
    simp only [List.cons.injEq, and_true] at e6'
    have g7 : DataW.trod enc Try.prog w base spare held n 4 (List.take (Try.prog.cellsOf 4) (List.drop 7 [c0, c1, c2, c3, c4, c5, c6, c7, c8])) = xs[7]? := hg 7 _ rfl
    obtain ⟨z7, hz7⟩ : ∃ z, xs[7]? = some z := ⟨xs[7]'(by rw [hlen]; decide), List.getElem?_eq_getElem _⟩
    rw [hz7] at g7
    rw [show Try.prog.cellsOf 4 = 1 by kernel_rfl] at g7
    obtain ⟨y7, e7⟩ := opn_bool Try.underlying4 (g7)
    have e7' : [c7] = _ := e7
    simp only [List.cons.injEq, and_true] at e7'
    have g8 : DataW.trod enc Try.prog w base spare held n 22 (List.take (Try.prog.cellsOf 22) (List.drop 8 [c0, c1, c2, c3, c4, c5, c6, c7, c8])) = xs[8]? := hg 8 _ rfl
    obtain ⟨z8, hz8⟩ : ∃ z, xs[8]? = some z := ⟨xs[8]'(by rw [hlen]; decide), List.getElem?_eq_getElem _⟩
    rw [hz8] at g8
    rw [show Try.prog.cellsOf 22 = 1 by kernel_rfl] at g8
    obtain ⟨y8, e8, a8⟩ := opn_Suint8 (g8)
    have e8' : [c8] = _ := e8
    simp only [List.cons.injEq, and_true] at e8'
    refine ⟨(y0, y1, y2, y3, y4, y5, y6, y7, y8), ?_, ?_⟩
    · simp only [clFragPacket, e0', e1', e2', e3', e4', e5', e6', e7', e8']
    · exact ⟨⟨a0, b0⟩, ⟨a1, b1⟩, ⟨a2, b2⟩, ⟨a3, b3⟩, ⟨a4, b4⟩, ⟨a6, b6⟩, a8⟩
theorem opn_SFragPacket (h : DataW.trod enc Try.prog w base spare held fuel 113 cs = some x) : ∃ y : MSFragPacket, cs = [y.1] ∧ okSFragPacket w y :=
  opn_rows Try.underlying113 (by kernel_rfl) (fun _ => rfl) (by decide) (fun _ _ _ h => opn_FragPacket (h)) h
theorem opn_FragSlot (h : DataW.trod enc Try.prog w base spare held fuel 115 cs = some x) : ∃ y : MFragSlot, cs = clFragSlot y ∧ okFragSlot w y := by
  obtain ⟨xs, n, _, _, hl, hlen, hg⟩ := DataW.trod_struct Try.underlying115 h
  have hl' : cs.length = 3 := hl.trans (by kernel_rfl)
  match cs, hl' with
  | [c0, c1, c2], _ =>
    have g0 : DataW.trod enc Try.prog w base spare held n 113 (List.take (Try.prog.cellsOf 113) (List.drop 0 [c0, c1, c2])) = xs[0]? := hg 0 _ rfl
    obtain ⟨z0, hz0⟩ : ∃ z, xs[0]? = some z := ⟨xs[0]'(by rw [hlen]; decide), List.getElem?_eq_getElem _⟩
    rw [hz0] at g0
    rw [show Try.prog.cellsOf 113 = 1 by kernel_rfl] at g0
    obtain ⟨y0, e0, a0⟩ := opn_SFragPacket (g0)
    have e0' : [c0] = _ := e0
    simp only [List.cons.injEq, and_true] at e0'
    have g1 : DataW.trod enc Try.prog w base spare held n 3 (List.take (Try.prog.cellsOf 3) (List.drop 1 [c0, c1, c2])) = xs[1]? := hg 1 _ rfl
    obtain ⟨z1, hz1⟩ : ∃ z, xs[1]? = some z := ⟨xs[1]'(by rw [hlen]; decide), List.getElem?_eq_getElem _⟩
    rw [hz1] at g1
    rw [show Try.prog.cellsOf 3 = 1 by kernel_rfl] at g1
    obtain ⟨y1, e1, a1, b1⟩ := opn_int (lo := -9223372036854775808) (hi := 9223372036854775807) Try.underlying3 (by kernel_rfl) (by kernel_rfl) (g1)
    have e1' : [c1] = _ := e1
    simp only [List.cons.injEq, and_true] at e1'
    have g2 : DataW.trod enc Try.prog w base spare held n 4 (List.take (Try.prog.cellsOf 4) (List.drop 2 [c0, c1, c2])) = xs[2]? := hg 2 _ rfl
    obtain ⟨z2, hz2⟩ : ∃ z, xs[2]? = some z := ⟨xs[2]'(by rw [hlen]; decide), List.getElem?_eq_getElem _⟩
    rw [hz2] at g2
    rw [show Try.prog.cellsOf 4 = 1 by kernel_rfl] at g2
    obtain ⟨y2, e2⟩ := opn_bool Try.underlying4 (g2)
    have e2' : [c2] = _ := e2
    simp only [List.cons.injEq, and_true] at e2'
    refine ⟨(y0, y1, y2), ?_, ?_⟩
    · simp only [clFragSlot, e0', e1', e2']
    · exact ⟨a0, ⟨a1, b1⟩⟩
theorem opn_SFragSlot (h : DataW.trod enc Try.prog w base spare held fuel 38 cs = some x) : ∃ y : MSFragSlot, cs = [y.1] ∧ okSFragSlot w y :=
  opn_rows Try.underlying38 (by kernel_rfl) (fun _ => rfl) (by decide) (fun _ _ _ h => opn_FragSlot (h)) h
theorem opn_FragBench (h : DataW.trod enc Try.prog w base spare held fuel 40 cs = some x) : ∃ y : MFragBench, cs = clFragBench y ∧ okFragBench w y := by
  obtain ⟨xs, n, _, _, hl, hlen, hg⟩ := DataW.trod_struct Try.underlying40 h
  have hl' : cs.length = 2 := hl.trans (by kernel_rfl)
  match cs, hl' with
  | [c0, c1], _ =>
    have g0 : DataW.trod enc Try.prog w base spare held n 3 (List.take (Try.prog.cellsOf 3) (List.drop 0 [c0, c1])) = xs[0]? := hg 0 _ rfl
    obtain ⟨z0, hz0⟩ : ∃ z, xs[0]? = some z := ⟨xs[0]'(by rw [hlen]; decide), List.getElem?_eq_getElem _⟩
    rw [hz0] at g0
    rw [show Try.prog.cellsOf 3 = 1 by kernel_rfl] at g0
    obtain ⟨y0, e0, a0, b0⟩ := opn_int (lo := -9223372036854775808) (hi := 9223372036854775807) Try.underlying3 (by kernel_rfl) (by kernel_rfl) (g0)
    have e0' : [c0] = _ := e0
    simp only [List.cons.injEq, and_true] at e0'
    have g1 : DataW.trod enc Try.prog w base spare held n 38 (List.take (Try.prog.cellsOf 38) (List.drop 1 [c0, c1])) = xs[1]? := hg 1 _ rfl
    obtain ⟨z1, hz1⟩ : ∃ z, xs[1]? = some z := ⟨xs[1]'(by rw [hlen]; decide), List.getElem?_eq_getElem _⟩
    rw [hz1] at g1
    rw [show Try.prog.cellsOf 38 = 1 by kernel_rfl] at g1
    obtain ⟨y1, e1, a1⟩ := opn_SFragSlot (g1)
    have e1' : [c1] = _ := e1
    simp only [List.cons.injEq, and_true] at e1'
    refine ⟨(y0, y1), ?_, ?_⟩
    · simp only [clFragBench, e0', e1']
    · exact ⟨⟨a0, b0⟩, a1⟩
theorem par_int5 {r : Reach} {b0 : Nat} {v : Value} {d : DataW H} {p : List MemPlace} (hv : Value.okWide Try.prog w r b0 5 v) (h : DataW.Trod enc Try.prog w base spare held 5 v d p) : ∃ n, v = .int .u8 n ∧ 0 ≤ n ∧ n ≤ 255 := by
  obtain ⟨_, rfl⟩ := okWide_int Try.underlying5 hv
  obtain ⟨fuel, hf⟩ := h
  obtain ⟨y, h1, h2⟩ := opn_int (lo := 0) (hi := 255) Try.underlying5 (by kernel_rfl) (by kernel_rfl) (hf)
  exact ⟨y, by simpa [Value.cells] using h1, h2⟩
theorem par_Suint8 {r : Reach} {b0 : Nat} {v : Value} {d : DataW H} {p : List MemPlace} (hv : Value.okWide Try.prog w r b0 22 v) (h : DataW.Trod enc Try.prog w base spare held 22 v d p) : ∃ y : MSuint8, v = y.1 ∧ okSuint8 w y := by
  obtain ⟨_, _, _, rfl⟩ := okWide_slice Try.underlying22 hv
  obtain ⟨fuel, hf⟩ := h
  obtain ⟨y, h1, h2⟩ := opn_Suint8 (hf)
  exact ⟨y, by simpa [Value.cells] using h1, h2⟩
theorem par_int3 {r : Reach} {b0 : Nat} {v : Value} {d : DataW H} {p : List MemPlace} (hv : Value.okWide Try.prog w r b0 3 v) (h : DataW.Trod enc Try.prog w base spare held 3 v d p) : ∃ n, v = .int .i64 n ∧ -9223372036854775808 ≤ n ∧ n ≤ 9223372036854775807 := by
  obtain ⟨_, rfl⟩ := okWide_int Try.underlying3 hv
  obtain ⟨fuel, hf⟩ := h
  obtain ⟨y, h1, h2⟩ := opn_int (lo := -9223372036854775808) (hi := 9223372036854775807) Try.underlying3 (by kernel_rfl) (by kernel_rfl) (hf)
  exact ⟨y, by simpa [Value.cells] using h1, h2⟩
theorem par_bool4 {r : Reach} {b0 : Nat} {v : Value} {d : DataW H} {p : List MemPlace} (hv : Value.okWide Try.prog w r b0 4 v) (h : DataW.Trod enc Try.prog w base spare held 4 v d p) : ∃ b, v = .bool b := by
  obtain ⟨_, rfl⟩ := okWide_bool Try.underlying4 hv
  obtain ⟨fuel, hf⟩ := h
  obtain ⟨y, h1⟩ := opn_bool Try.underlying4 (hf)
  exact ⟨y, by simpa [Value.cells] using h1⟩
theorem par_FragPacket {r : Reach} {b0 : Nat} {v : Value} {d : DataW H} {p : List MemPlace} (hv : Value.okWide Try.prog w r b0 52 v) (h : DataW.Trod enc Try.prog w base spare held 52 v d p) : ∃ y : MFragPacket, v = .agg (clFragPacket y).toArray ∧ okFragPacket w y := by
  obtain ⟨c, rfl, _⟩ := okWide_struct Try.underlying52 hv
  obtain ⟨fuel, hf⟩ := h
  obtain ⟨y, h1, h2⟩ := opn_FragPacket hf
  exact ⟨y, by rw [← h1]; rfl, h2⟩
theorem par_SFragPacket {r : Reach} {b0 : Nat} {v : Value} {d : DataW H} {p : List MemPlace} (hv : Value.okWide Try.prog w r b0 113 v) (h : DataW.Trod enc Try.prog w base spare held 113 v d p) : ∃ y : MSFragPacket, v = y.1 ∧ okSFragPacket w y := by
  obtain ⟨_, _, _, rfl⟩ := okWide_slice Try.underlying113 hv
  obtain ⟨fuel, hf⟩ := h
  obtain ⟨y, h1, h2⟩ := opn_SFragPacket (hf)
  exact ⟨y, by simpa [Value.cells] using h1, h2⟩
theorem par_FragSlot {r : Reach} {b0 : Nat} {v : Value} {d : DataW H} {p : List MemPlace} (hv : Value.okWide Try.prog w r b0 115 v) (h : DataW.Trod enc Try.prog w base spare held 115 v d p) : ∃ y : MFragSlot, v = .agg (clFragSlot y).toArray ∧ okFragSlot w y := by
  obtain ⟨c, rfl, _⟩ := okWide_struct Try.underlying115 hv
  obtain ⟨fuel, hf⟩ := h
  obtain ⟨y, h1, h2⟩ := opn_FragSlot hf
  exact ⟨y, by rw [← h1]; rfl, h2⟩
theorem par_SFragSlot {r : Reach} {b0 : Nat} {v : Value} {d : DataW H} {p : List MemPlace} (hv : Value.okWide Try.prog w r b0 38 v) (h : DataW.Trod enc Try.prog w base spare held 38 v d p) : ∃ y : MSFragSlot, v = y.1 ∧ okSFragSlot w y := by
  obtain ⟨_, _, _, rfl⟩ := okWide_slice Try.underlying38 hv
  obtain ⟨fuel, hf⟩ := h
  obtain ⟨y, h1, h2⟩ := opn_SFragSlot (hf)
  exact ⟨y, by simpa [Value.cells] using h1, h2⟩
theorem par_FragBench {r : Reach} {b0 : Nat} {v : Value} {d : DataW H} {p : List MemPlace} (hv : Value.okWide Try.prog w r b0 40 v) (h : DataW.Trod enc Try.prog w base spare held 40 v d p) : ∃ y : MFragBench, v = .agg (clFragBench y).toArray ∧ okFragBench w y := by
  obtain ⟨c, rfl, _⟩ := okWide_struct Try.underlying40 hv
  obtain ⟨fuel, hf⟩ := h
  obtain ⟨y, h1, h2⟩ := opn_FragBench hf
  exact ⟨y, by rw [← h1]; rfl, h2⟩
end
end Go.Proofs.Ytodhjpnfokkfeaa

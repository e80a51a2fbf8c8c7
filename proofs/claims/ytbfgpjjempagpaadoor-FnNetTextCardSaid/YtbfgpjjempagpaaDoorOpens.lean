/- Readings of the arguments: what a parameter of each type is in memory. -/
import Derived.Test.YtbfgpjjempagpaaDoorRows
import Derived.Test.YtbfgpjjempagpaaDoorMod
import Derived.ProofKit
import Derived.OpenShut
import Derived.ChangeOld
import Derived.Lib.SmallJoins
import Derived.Deep.Fields
import Derived.Deep.Slices
import Derived.ChangeSame
set_option linter.unusedSimpArgs false
set_option linter.unusedVariables false
namespace Go.Proofs.YtbfgpjjempagpaaDoor
open Go Go.ChangeShapes Go.WideShapes Go.ChangeAt Go.RowKit Go.Joins Go.Deep
set_option maxRecDepth 100000
theorem own : ownKnob Tryd.prog.godebug = none := by kernel_rfl
theorem laidOut : laidOutB Tryd.prog = true := by kernel_rfl
section
variable {H : Type} {enc : TypeId × Value → H} {w : World} {base : Nat} {spare : Nat → Bool} {held : Bool} {fuel : Nat} {cs : List Value} {x : DataW H × List MemPlace}
theorem opn_int {t : TypeId} {k : IntKind} {lo hi : Int} (ht : Tryd.prog.underlying t = some (.int k)) (h1 : k.min = lo) (h2 : k.max = hi) (h : DataW.trod enc Tryd.prog w base spare held fuel t cs = some x) : ∃ n, cs = [.int k n] ∧ lo ≤ n ∧ n ≤ hi := by
  obtain ⟨n, h3, _, h4⟩ := DataW.trod_int ht h
  simp only [Lit.wf, Bool.and_eq_true, decide_eq_true_eq] at h4
  rw [h1, h2] at h4
  exact ⟨n, h3, h4.1, h4.2⟩
theorem opn_bool {t : TypeId} (ht : Tryd.prog.underlying t = some .bool) (h : DataW.trod enc Tryd.prog w base spare held fuel t cs = some x) : ∃ b, cs = [.bool b] := by
  obtain ⟨n, h1, _⟩ := DataW.trod_bool ht h
  exact ⟨n, h1⟩
theorem opn_string {t : TypeId} (ht : Tryd.prog.underlying t = some .string) (h : DataW.trod enc Tryd.prog w base spare held fuel t cs = some x) : ∃ s, cs = [.string s] ∧ s.size ≤ maxLen := by
  obtain ⟨n, h1, _, h2⟩ := DataW.trod_string ht h
  exact ⟨n, h1, h2⟩
theorem opn_rows {t e : TypeId} {m : Nat} {α : Type} [Inhabited α] {cl : α → List Value} {φ : α → Prop} (ht : Tryd.prog.underlying t = some (.slice e)) (hc : Tryd.prog.cellsOf e = m) (hm : ∀ a, (cl a).length = m) (h0 : 0 < m)
    (he : ∀ fuel cs x, DataW.trod enc Tryd.prog w base spare held fuel e cs = some x → ∃ a, cs = cl a ∧ φ a)
    (h : DataW.trod enc Tryd.prog w base spare held fuel t cs = some x) : ∃ y : Value × List α, cs = [y.1] ∧ Mem w y.1 m y.2.length (y.2.flatMap cl) ∧ ∀ a ∈ y.2, φ a := by
  rcases open_slice ht h with ⟨rfl, _⟩ | ⟨a, len, cap, q, n, D, Pl, rfl, hb, hl, hcap, hq, _, hx⟩
  · exact ⟨(.slice none 0 0, []), rfl, mem_nil w m, by simp⟩
  · rw [hc] at hx
    obtain ⟨f, hf⟩ := choose_lt (α := α) (n := len) (p := fun i a' => (∀ j u, (cl a')[j]? = some u → w.cell? (a.add (i * m + j)) = some u) ∧ φ a') (fun i hi => by
      obtain ⟨cs', h1, h2⟩ := hx i (by rw [hq]; split <;> omega)
      obtain ⟨a', rfl, ha'⟩ := he _ _ _ h2
      refine ⟨a', fun j u hj => ?_, ha'⟩
      have hlt : j < (cl a').length := (List.getElem?_eq_some_iff.1 hj).1
      rw [hm] at hlt
      have := (World.cells?_some h1).2.2 j hlt
      rw [add_add] at this
      rw [this]; exact hj)
    have hlen : ((List.range len).map f).length = len := by simp
    refine ⟨(.slice (some a) len cap, (List.range len).map f), rfl, ⟨⟨_, cap, by rw [hlen], by rw [hlen]; exact hl, hcap, fun h => ?_⟩, flat_len hm _, fun j u hj => ?_⟩, fun y hy => ?_⟩
    · dsimp only at h
      rw [hlen] at h
      have h1 : 0 < (cl (f 0)).length := by rw [hm]; exact h0
      have h2 := (hf 0 h).1 0 _ (List.getElem?_eq_getElem h1)
      rw [Nat.zero_mul] at h2
      obtain ⟨b, o, sp⟩ := a
      cases sp with
      | none => exact ⟨b, o, rfl⟩
      | some _ => simp [Addr.add, World.cell?] at h2; split at h2 <;> cases h2
    · have hjl : j < ((List.range len).map f).length * m := by rw [← flat_len hm]; exact (List.getElem?_eq_some_iff.1 hj).1
      rw [hlen] at hjl
      have hjm : j / m < len := Nat.div_lt_of_lt_mul (by rw [Nat.mul_comm]; exact hjl)
      have hr : j % m < m := Nat.mod_lt _ h0
      have hu : (cl (f (j / m)))[j % m]? = some u := by
        have h1 : j % m < (cl (f (j / m))).length := by rw [hm]; exact hr
        have h2 := at_flat (f := cl) (m := m) hm (l := (List.range len).map f) (k := j / m) (x := f (j / m)) (by simp [hjm]) (j % m) _ (List.getElem?_eq_getElem h1)
        rw [show j / m * m + j % m = j by rw [Nat.mul_comm]; exact Nat.div_add_mod j m] at h2
        rw [h2] at hj
        rw [List.getElem?_eq_getElem h1]; exact hj
      have h2 := (hf (j / m) hjm).1 _ _ hu
      rw [show j / m * m + j % m = j by rw [Nat.mul_comm]; exact Nat.div_add_mod j m] at h2
      obtain ⟨b, o, sp⟩ := a
      have hs : sp = none := by
        have h1 : 0 < (cl (f 0)).length := by rw [hm]; exact h0
        have h2 := (hf 0 (Nat.lt_of_le_of_lt (Nat.zero_le _) hjm)).1 0 _ (List.getElem?_eq_getElem h1)
        rw [Nat.zero_mul] at h2
        cases sp with
        | none => rfl
        | some _ => simp [Addr.add, World.cell?] at h2; split at h2 <;> cases h2
      subst hs
      rw [Addr.add_mid] at h2
      exact ⟨b, o, cap, by rw [hlen], h2⟩
    · obtain ⟨i, hi, rfl⟩ := List.mem_map.1 hy
      exact (hf i (by simpa using hi)).2
theorem opn_NetPrefix (h : DataW.trod enc Tryd.prog w base spare held fuel 25 cs = some x) : ∃ y : MNetPrefix, cs = clNetPrefix y ∧ okNetPrefix w y := by
  obtain ⟨xs, n, _, _, hl, hlen, hg⟩ := DataW.trod_struct Tryd.underlying25 h
  have hl' : cs.length = 2 := hl.trans (by kernel_rfl)
  match cs, hl' with
  | [c0, c1], _ =>
    have g0 : DataW.trod enc Tryd.prog w base spare held n 3 (List.take (Tryd.prog.cellsOf 3) (List.drop 0 [c0, c1])) = xs[0]? := hg 0 _ rfl
    obtain ⟨z0, hz0⟩ : ∃ z, xs[0]? = some z := ⟨xs[0]'(by rw [hlen]; decide), List.getElem?_eq_getElem _⟩
    rw [hz0] at g0
    rw [show Tryd.prog.cellsOf 3 = 1 by kernel_rfl] at g0
    obtain ⟨y0, e0, a0, b0⟩ := opn_int (lo := -9223372036854775808) (hi := 9223372036854775807) Tryd.underlying3 (by kernel_rfl) (by kernel_rfl) (g0)
    have e0' : [c0] = _ := e0
    simp only [List.cons.injEq, and_true] at e0'
    have g1 : DataW.trod enc Tryd.prog w base spare held n 3 (List.take (Tryd.prog.cellsOf 3) (List.drop 1 [c0, c1])) = xs[1]? := hg 1 _ rfl
    obtain ⟨z1, hz1⟩ : ∃ z, xs[1]? = some z := ⟨xs[1]'(by rw [hlen]; decide), List.getElem?_eq_getElem _⟩
    rw [hz1] at g1
    rw [show Tryd.prog.cellsOf 3 = 1 by kernel_rfl] at g1
    obtain ⟨y1, e1, a1, b1⟩ := opn_int (lo := -9223372036854775808) (hi := 9223372036854775807) Tryd.underlying3 (by kernel_rfl) (by kernel_rfl) (g1)
    have e1' : [c1] = _ := e1
    simp only [List.cons.injEq, and_true] at e1'
    refine ⟨(y0, y1), ?_, ?_⟩
    · simp only [clNetPrefix, e0', e1']
    · exact ⟨⟨a0, b0⟩, ⟨a1, b1⟩⟩
theorem opn_Suint8 (h : DataW.trod enc Tryd.prog w base spare held fuel 35 cs = some x) : ∃ y : MSuint8, cs = [y.1] ∧ okSuint8 w y :=
  opn_rows Tryd.underlying35 (by kernel_rfl) (fun _ => rfl) (by decide) (fun _ _ _ h => opn_int (lo := 0) (hi := 255) Tryd.underlying5 (by kernel_rfl) (by kernel_rfl) (h)) h
theorem par_int3 {r : Reach} {b0 : Nat} {v : Value} {d : DataW H} {p : List MemPlace} (hv : Value.okWide Tryd.prog w r b0 3 v) (h : DataW.Trod enc Tryd.prog w base spare held 3 v d p) : ∃ n, v = .int .i64 n ∧ -9223372036854775808 ≤ n ∧ n ≤ 9223372036854775807 := by
  obtain ⟨_, rfl⟩ := okWide_int Tryd.underlying3 hv
  obtain ⟨fuel, hf⟩ := h
  obtain ⟨y, h1, h2⟩ := opn_int (lo := -9223372036854775808) (hi := 9223372036854775807) Tryd.underlying3 (by kernel_rfl) (by kernel_rfl) (hf)
  exact ⟨y, by simpa [Value.cells] using h1, h2⟩
theorem par_NetPrefix {r : Reach} {b0 : Nat} {v : Value} {d : DataW H} {p : List MemPlace} (hv : Value.okWide Tryd.prog w r b0 25 v) (h : DataW.Trod enc Tryd.prog w base spare held 25 v d p) : ∃ y : MNetPrefix, v = .agg (clNetPrefix y).toArray ∧ okNetPrefix w y := by
  obtain ⟨c, rfl, _⟩ := okWide_struct Tryd.underlying25 hv
  obtain ⟨fuel, hf⟩ := h
  obtain ⟨y, h1, h2⟩ := opn_NetPrefix hf
  exact ⟨y, by rw [← h1]; rfl, h2⟩
theorem par_string9 {r : Reach} {b0 : Nat} {v : Value} {d : DataW H} {p : List MemPlace} (hv : Value.okWide Tryd.prog w r b0 9 v) (h : DataW.Trod enc Tryd.prog w base spare held 9 v d p) : ∃ s, v = .string s ∧ s.size ≤ maxLen := by
  obtain ⟨_, rfl⟩ := okWide_string Tryd.underlying9 hv
  obtain ⟨fuel, hf⟩ := h
  obtain ⟨y, h1, h2⟩ := opn_string Tryd.underlying9 (hf)
  exact ⟨y, by simpa [Value.cells] using h1, h2⟩
theorem par_int5 {r : Reach} {b0 : Nat} {v : Value} {d : DataW H} {p : List MemPlace} (hv : Value.okWide Tryd.prog w r b0 5 v) (h : DataW.Trod enc Tryd.prog w base spare held 5 v d p) : ∃ n, v = .int .u8 n ∧ 0 ≤ n ∧ n ≤ 255 := by
  obtain ⟨_, rfl⟩ := okWide_int Tryd.underlying5 hv
  obtain ⟨fuel, hf⟩ := h
  obtain ⟨y, h1, h2⟩ := opn_int (lo := 0) (hi := 255) Tryd.underlying5 (by kernel_rfl) (by kernel_rfl) (hf)
  exact ⟨y, by simpa [Value.cells] using h1, h2⟩
theorem par_Suint8 {r : Reach} {b0 : Nat} {v : Value} {d : DataW H} {p : List MemPlace} (hv : Value.okWide Tryd.prog w r b0 35 v) (h : DataW.Trod enc Tryd.prog w base spare held 35 v d p) : ∃ y : MSuint8, v = y.1 ∧ okSuint8 w y := by
  obtain ⟨_, _, _, rfl⟩ := okWide_slice Tryd.underlying35 hv
  obtain ⟨fuel, hf⟩ := h
  obtain ⟨y, h1, h2⟩ := opn_Suint8 (hf)
  exact ⟨y, by simpa [Value.cells] using h1, h2⟩
end
end Go.Proofs.YtbfgpjjempagpaaDoor

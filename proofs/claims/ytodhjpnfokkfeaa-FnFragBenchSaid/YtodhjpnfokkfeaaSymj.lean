/- Strings: rules for the operations on them. A text is told by the list of its bytes: .string (str l). -/
import Derived.Test.YtodhjpnfokkfeaaSymi
import Derived.Laws.Concat
import Derived.Laws.Strings2
import Derived.Laws.IdiomStrings
import Derived.Laws.Slices
set_option linter.unusedSimpArgs false
set_option linter.unusedVariables false
namespace Go.Proofs.Ytodhjpnfokkfeaa
open Go Go.RowKit
def str (l : List UInt8) : ByteArray := ⟨l.toArray⟩
theorem str_size (l : List UInt8) : (str l).size = l.length := by simp [str, ByteArray.size]
theorem str_toList (l : List UInt8) : (str l).toList = l := by simp [str]
theorem str_of (s : ByteArray) : s = str s.data.toList := by
  apply ByteArray.ext
  simp [str]
theorem str_append (a b : List UInt8) : str a ++ str b = str (a ++ b) := ByteArray.mk_append_mk a b
theorem str_extract (l : List UInt8) (a b : Nat) : (str l).extract a b = str ((l.drop a).take (b - a)) := ByteArray.extract_mk l a b
theorem str_inj {a b : List UInt8} (h : str a = str b) : a = b := by
  have := congrArg (fun s => s.data.toList) h
  simpa [str] using this
section
variable {P : Program} {n : Nat} {w0 : World} {r : Option (List Nat)} {Q : Exit → Act → World → Prop} {E : List (Nat × Value)} {L : List Blk} {l : List Stp} {k d : Nat} {ty : TypeId} {x y : Operand} {t t' : TypeId} {p q : List UInt8}
theorem S_sAdd (hx : ev E x = some (.string (str p))) (hy : ev E y = some (.string (str q))) (hr : p.length + q.length ≤ 9223372036854775807) (hd : Nat.blt d n = true) (h : GoS P n w0 r Q ((d, .string (str (p ++ q))) :: E) L l) : GoS P n w0 r Q E L (⟨0, none, some d, .binOp .add t x y t', ty⟩ :: l) :=
  S_read hd (fun ρ w he _ w' _ => by
    have hx := he _ _ hx
    have hy := he _ _ hy
    have h1 := run_string_add_sum (P := P) w' (str p) (str q) (by rw [str_size, str_size]; exact hr)
    rw [str_append] at h1
    simp only [Stp.oper, execOp, hx, hy, binOp_string_add, Sem.run_bind, eqGuard_at_string, Sem.run_pure, Result.andThen_ok, h1]) h
theorem S_sEql (hx : ev E x = some (.string (str p))) (hy : ev E y = some (.string (str q))) (hd : Nat.blt d n = true) (h : GoS P n w0 r Q ((d, .bool (decide (p = q))) :: E) L l) : GoS P n w0 r Q E L (⟨0, none, some d, .binOp .eql t x y t', ty⟩ :: l) :=
  S_read hd (fun ρ w he _ w' _ => by
    have hx := he _ _ hx
    have hy := he _ _ hy
    have e : (p == q) = decide (p = q) := by by_cases hh : p = q <;> simp [hh]
    simp [Stp.oper, execOp, hx, hy, go_sem, str_toList, e]) h
theorem S_sNeq (hx : ev E x = some (.string (str p))) (hy : ev E y = some (.string (str q))) (hd : Nat.blt d n = true) (h : GoS P n w0 r Q ((d, .bool (decide (p ≠ q))) :: E) L l) : GoS P n w0 r Q E L (⟨0, none, some d, .binOp .neq t x y t', ty⟩ :: l) :=
  S_read hd (fun ρ w he _ w' _ => by
    have hx := he _ _ hx
    have hy := he _ _ hy
    have e : (!(p == q)) = decide (p ≠ q) := by by_cases hh : p = q <;> simp [hh]
    simp [Stp.oper, execOp, hx, hy, go_sem, str_toList, e]) h
theorem S_sLen {ats : Array TypeId} (hu : P.underlying t = some .string) (hx : ev E x = some (.string (str p))) (hd : Nat.blt d n = true) (ha : ats.toList = [t]) (h : GoS P n w0 r Q ((d, .int .i64 (p.length : Int)) :: E) L l) : GoS P n w0 r Q E L (⟨0, none, some d, .call ⟨.builtin .len, #[x], ats⟩, ty⟩ :: l) :=
  S_read hd (fun ρ w he _ w' _ => by
    have hx := he _ _ hx
    have e : ats = #[t] := Array.ext' (by rw [ha])
    subst e
    simp [Stp.oper, execOp, resolve, invoke, builtin, hx, go_sem, run_len_string w' t ty (str p) hu, goInt, str_size]) h
/-- a byte as a number -/
def byteAt (p : List UInt8) (i : Nat) : Int := ((p.getD i 0).toNat : Int)
theorem byteAt_rng (p : List UInt8) (i : Nat) : 0 ≤ byteAt p i ∧ byteAt p i ≤ 255 := by
  have := (p.getD i 0).toNat_lt
  unfold byteAt; omega
theorem S_sIdx {kd : IntKind} {z : Int} (hu : P.underlying t = some .string) (hx : ev E x = some (.string (str p))) (hy : ev E y = some (.int kd z)) (h0 : 0 ≤ z) (h1 : z < (p.length : Int)) (hd : Nat.blt d n = true) (h : GoS P n w0 r Q ((d, .int .u8 (byteAt p z.toNat)) :: E) L l) : GoS P n w0 r Q E L (⟨0, none, some d, .index t x y, ty⟩ :: l) :=
  S_read hd (fun ρ w he _ w' _ => by
    have hx := he _ _ hx
    have hy := he _ _ hy
    have hlt : z.toNat < p.length := by omega
    have hr := run_index_string (P := P) w' t (str p) kd z hu
    rw [dif_pos ⟨h0, by rw [str_size]; exact h1⟩] at hr
    have e : ((str p)[z.toNat]'(by rw [str_size]; exact hlt)).toNat = (p.getD z.toNat 0).toNat := by
      rw [List.getD_eq_getElem?_getD, List.getElem?_eq_getElem hlt]
      simp [str, ByteArray.getElem_eq_getElem_data]
    rw [e] at hr
    simp only [Stp.oper, execOp, hx, hy, Sem.run_bind, hr]
    rfl) h
theorem S_sSliceL {kd : IntKind} {z : Int} (hu : P.underlying t = some .string) (hx : ev E x = some (.string (str p))) (hy : ev E y = some (.int kd z)) (h0 : 0 ≤ z) (h1 : z ≤ (p.length : Int)) (hd : Nat.blt d n = true) (h : GoS P n w0 r Q ((d, .string (str (p.drop z.toNat))) :: E) L l) : GoS P n w0 r Q E L (⟨0, none, some d, .slice t x (some y) none none, ty⟩ :: l) :=
  S_read hd (fun ρ w he _ w' _ => by
    have hx := he _ _ hx
    have hy := he _ _ hy
    have hr := run_slice_string_l (P := P) w' t (str p) hu kd z h0 (by rw [str_size]; exact h1)
    rw [str_extract, str_size, List.take_of_length_le (by simp)] at hr
    have e2 : (execOp ρ (Stp.oper ⟨0, none, some d, .slice t x (some y) none none, ty⟩)) = (do pure (Next.value (← Instr.sliceAt t (ρ x) (some (ρ y)) none none))) := rfl
    rw [e2, hx, hy, Sem.run_bind, run_sliceAt_string w' t _ _ _ _ hu, hr]
    rfl) h
theorem S_sSliceH {kd : IntKind} {z : Int} (hu : P.underlying t = some .string) (hx : ev E x = some (.string (str p))) (hy : ev E y = some (.int kd z)) (h0 : 0 ≤ z) (h1 : z ≤ (p.length : Int)) (hd : Nat.blt d n = true) (h : GoS P n w0 r Q ((d, .string (str (p.take z.toNat))) :: E) L l) : GoS P n w0 r Q E L (⟨0, none, some d, .slice t x none (some y) none, ty⟩ :: l) :=
  S_read hd (fun ρ w he _ w' _ => by
    have hx := he _ _ hx
    have hy := he _ _ hy
    have hr := run_slice_string_h (P := P) w' t (str p) hu kd z h0 (by rw [str_size]; exact h1)
    rw [str_extract, List.drop_zero, Nat.sub_zero] at hr
    have e2 : (execOp ρ (Stp.oper ⟨0, none, some d, .slice t x none (some y) none, ty⟩)) = (do pure (Next.value (← Instr.sliceAt t (ρ x) none (some (ρ y)) none))) := rfl
    rw [e2, hx, hy, Sem.run_bind, run_sliceAt_string w' t _ _ _ _ hu, hr]
    rfl) h
theorem S_sSliceLH {kd k2 : IntKind} {z : Operand} {a b : Int} (hu : P.underlying t = some .string) (hx : ev E x = some (.string (str p))) (hy : ev E y = some (.int kd a)) (hz : ev E z = some (.int k2 b)) (h0 : 0 ≤ a) (h1 : a ≤ b) (h2 : b ≤ (p.length : Int)) (hd : Nat.blt d n = true) (h : GoS P n w0 r Q ((d, .string (str ((p.drop a.toNat).take (b.toNat - a.toNat)))) :: E) L l) : GoS P n w0 r Q E L (⟨0, none, some d, .slice t x (some y) (some z) none, ty⟩ :: l) :=
  S_read hd (fun ρ w he _ w' _ => by
    have hx := he _ _ hx
    have hy := he _ _ hy
    have hz := he _ _ hz
    have hr := run_slice_string (P := P) w' t (str p) kd k2 a b hu h0 h1 (by rw [str_size]; exact h2)
    rw [str_extract] at hr
    have e2 : (execOp ρ (Stp.oper ⟨0, none, some d, .slice t x (some y) (some z) none, ty⟩)) = (do pure (Next.value (← Instr.sliceAt t (ρ x) (some (ρ y)) (some (ρ z)) none))) := rfl
    rw [e2, hx, hy, hz, Sem.run_bind, run_sliceAt_string w' t _ _ _ _ hu, hr]
    rfl) h
/-- string(b) of a slice of bytes -/
theorem S_sOf {ta tb e : TypeId} {v : Value} {N : Nat} {bs : List UInt8} (ha : P.underlying ta = some (.slice e)) (he8 : P.underlying e = some (.int .u8)) (hb : P.underlying tb = some .string) (hx : ev E x = some v) (hr : Rd w0 L r v 1 N (bs.map fun b => Value.int .u8 (b.toNat : Int))) (hd : Nat.blt d n = true) (h : GoS P n w0 r Q ((d, .string (str bs)) :: E) L l) : GoS P n w0 r Q E L (⟨0, none, some d, .convert ta tb x, ty⟩ :: l) := fun a w he hs => by
  refine S_read hd (fun ρ w he hs w' hR => ?_) h a w he hs
  have hx := he _ _ hx
  have hm := hr w w' hs hR
  have hlen := hm.2.1
  rw [List.length_map, Nat.mul_one] at hlen
  subst hlen
  obtain ⟨a', c, rfl, _, _, h0⟩ := hm.1
  have key : (convert ta tb (.slice a' bs.length c)).run P w' = .ok (.string (str bs)) w' := by
    cases a' with
    | some a' =>
      refine run_convert_bytes_back w' ta tb e a' c bs ha he8 hb (fun j hj => ?_)
      obtain ⟨b, o, c2, e2, hc⟩ := hm.2.2 j (.int .u8 (bs[j].toNat : Int)) (by simp [hj])
      cases e2
      rw [Addr.add_mid]
      exact hc
    | none =>
      have hb0 : bs = [] := by
        rcases Nat.eq_zero_or_pos bs.length with h1 | h1
        · exact List.eq_nil_of_length_eq_zero h1
        · obtain ⟨b, o, e⟩ := h0 h1; cases e
      subst hb0
      rw [run_convert_bytes_string w' ta tb e none _ c ha he8 hb]
      simp [Conv.bytesToString, loadCells, str]
      try rfl
  simp only [Stp.oper, execOp, hx, Sem.run_bind, key]
  rfl
end
end Go.Proofs.Ytodhjpnfokkfeaa

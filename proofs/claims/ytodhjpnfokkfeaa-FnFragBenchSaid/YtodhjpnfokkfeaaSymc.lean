/- The rules of the logic: one for each kind of operation. -/
import Derived.Test.YtodhjpnfokkfeaaSymb
import Derived.BigQuiet
set_option linter.unusedSimpArgs false
set_option linter.unusedVariables false
namespace Go.Proofs.Ytodhjpnfokkfeaa
open Go Go.RowKit
section
variable {P : Program} {n : Nat} {w0 : World} {r : Option (List Nat)} {Q : Exit → Act → World → Prop} {E E' : List (Nat × Value)} {L L' : List Blk} {l : List Stp} {k d : Nat} {op : Op} {ty : TypeId}

theorem S_done (h : GoE n w0 Q E L .normal) : GoS P n w0 r Q E L [] := h
theorem S_on {s : Nat} {b : Bool} {d : Option Nat} (hg : get E s = some (.bool b)) (h : GoS P n w0 r Q E L (⟨k, none, d, op, ty⟩ :: l)) : GoS P n w0 r Q E L (⟨k, some (s, b), d, op, ty⟩ :: l) := fun a w he hs => by
  have hgo : gOn (some (s, b)) a = true := by simp [gOn, he.vals s _ hg]
  rcases h a w he hs with ⟨_, h1, h2⟩ | ⟨_, h1, h2⟩ | ⟨h1, _⟩
  · exact .inl ⟨hgo, h1, h2⟩
  · exact .inr (.inl ⟨hgo, h1, h2⟩)
  · cases h1
theorem S_off {s : Nat} {b c : Bool} (hg : get E s = some (.bool c)) (hc : (c == b) = false) (hd : Nat.blt d n = true) (h : GoS P n w0 r Q ((d, undef) :: E) L l) : GoS P n w0 r Q E L (⟨k, some (s, b), some d, op, ty⟩ :: l) := fun a w he hs =>
  .inr (.inr ⟨by simp [gOn, he.vals s _ hg, hc], h _ w (he.put hd undef) hs⟩)
theorem S_offU {s : Nat} {b : Bool} (hg : get E s = some undef) (hd : Nat.blt d n = true) (h : GoS P n w0 r Q ((d, undef) :: E) L l) : GoS P n w0 r Q E L (⟨k, some (s, b), some d, op, ty⟩ :: l) := fun a w he hs =>
  .inr (.inr ⟨by simp [gOn, he.vals s _ hg, undef], h _ w (he.put hd undef) hs⟩)
theorem S_offUn {s : Nat} {b : Bool} (hg : get E s = some undef) (h : GoS P n w0 r Q E L l) : GoS P n w0 r Q E L (⟨k, some (s, b), none, op, ty⟩ :: l) := fun a w he hs =>
  .inr (.inr ⟨by simp [gOn, he.vals s _ hg, undef], h a w he hs⟩)
theorem S_offn {s : Nat} {b c : Bool} (hg : get E s = some (.bool c)) (hc : (c == b) = false) (h : GoS P n w0 r Q E L l) : GoS P n w0 r Q E L (⟨k, some (s, b), none, op, ty⟩ :: l) := fun a w he hs =>
  .inr (.inr ⟨by simp [gOn, he.vals s _ hg, hc], h a w he hs⟩)
theorem S_split {s : Nat} {b : Bool} (hg : get E s = some (.bool b)) (ht : b = true → GoS P n w0 r Q ((s, .bool true) :: E) L l) (hf : b = false → GoS P n w0 r Q ((s, .bool false) :: E) L l) : GoS P n w0 r Q E L l := fun a w he hs => by
  cases b
  · exact hf rfl a w (he.sub fun t v h => by rw [get_cons] at h; split at h <;> simp_all) hs
  · exact ht rfl a w (he.sub fun t v h => by rw [get_cons] at h; split at h <;> simp_all) hs
/-- what reads -/
theorem S_read {v : Value} (hd : Nat.blt d n = true) (hv : ∀ ρ w, (∀ x v, ev E x = some v → ρ x = v) → St w0 w L → ∀ w', Rel r w w' → (execOp ρ (Stp.oper ⟨0, none, some d, op, ty⟩)).run P w' = .ok (.value v) w')
    (h : GoS P n w0 r Q ((d, v) :: E) L l) : GoS P n w0 r Q E L (⟨0, none, some d, op, ty⟩ :: l) := fun a w he hs => .inl ⟨rfl, rfl, v, hv a.eval w (fun _ _ hx => he.eval hx) hs, h _ w (he.put hd v) hs⟩
/-- what acts -/
theorem S_act {d : Option Nat} (hv : ∀ a w, Env n a E → St w0 w L → (Stp.oper ⟨k + 1, none, d, op, ty⟩).wp P a w (fun a' w' => (k = 0 → Rel r w w') ∧ wpS P Q (Rel r) l a' w') Q) : GoS P n w0 r Q E L (⟨k + 1, none, d, op, ty⟩ :: l) := fun a w he hs =>
  .inr (.inl ⟨rfl, by simp, by simpa using hv a w he hs⟩)

/-! ### values alone -/
theorem S_move {x : Operand} {v : Value} (hx : ev E x = some v) (hd : Nat.blt d n = true) (h : GoS P n w0 r Q ((d, v) :: E) L l) : GoS P n w0 r Q E L (⟨0, none, some d, .move x, ty⟩ :: l) :=
  S_read hd (fun ρ w he _ w' _ => by have hx := he _ _ hx; simp [Stp.oper, execOp, hx, go_sem]) h
theorem S_assign {x : Operand} {v : Value} (hx : ev E x = some v) (hd : Nat.blt d n = true) (h : GoS P n w0 r Q ((d, v) :: E) L l) : GoS P n w0 r Q E L (⟨0, none, some d, .assign x, ty⟩ :: l) :=
  S_read hd (fun ρ w he _ w' _ => by have hx := he _ _ hx; simp [Stp.oper, execOp, hx, go_sem]) h
theorem S_pickT {c x y : Operand} {v : Value} (hc : ev E c = some (.bool true)) (hx : ev E x = some v) (hd : Nat.blt d n = true) (h : GoS P n w0 r Q ((d, v) :: E) L l) : GoS P n w0 r Q E L (⟨0, none, some d, .pick c x y, ty⟩ :: l) :=
  S_read hd (fun ρ w he _ w' _ => by
    have hc := he _ _ hc
    have hx := he _ _ hx
    simp [Stp.oper, execOp, hc, hx, go_sem]) h
theorem S_pickF {c x y : Operand} {v : Value} (hc : ev E c = some (.bool false)) (hy : ev E y = some v) (hd : Nat.blt d n = true) (h : GoS P n w0 r Q ((d, v) :: E) L l) : GoS P n w0 r Q E L (⟨0, none, some d, .pick c x y, ty⟩ :: l) :=
  S_read hd (fun ρ w he _ w' _ => by
    have hc := he _ _ hc
    have hy := he _ _ hy
    simp [Stp.oper, execOp, hc, hy, go_sem]) h
theorem S_not {x : Operand} {b : Bool} {t : TypeId} (hx : ev E x = some (.bool b)) (hd : Nat.blt d n = true) (h : GoS P n w0 r Q ((d, .bool (!b)) :: E) L l) : GoS P n w0 r Q E L (⟨0, none, some d, .unOp .not t x, ty⟩ :: l) :=
  S_read hd (fun ρ w he _ w' _ => by
    have hx := he _ _ hx
    simp [Stp.oper, execOp, hx, go_sem]) h
theorem S_extract {x : Operand} {vs : Array Value} {v : Value} {i : Nat} (hx : ev E x = some (.tuple vs)) (hi : vs.toList[i]? = some v) (hd : Nat.blt d n = true) (h : GoS P n w0 r Q ((d, v) :: E) L l) : GoS P n w0 r Q E L (⟨0, none, some d, .extract x i, ty⟩ :: l) :=
  S_read hd (fun ρ w he _ w' _ => by
    have hi' : vs[i]? = some v := by simpa using hi
    have hx := he _ _ hx
    simp [Stp.oper, execOp, hx, go_sem, Instr.extract, hi']) h
theorem S_fieldAddr {x : Operand} {b o i : Nat} {st : TypeId} {fs : Array Field} {f : Field} {z : TypeInfo} (hx : ev E x = some (.pointer (some ⟨b, o, none⟩))) (hu : P.underlying st = some (.struct fs)) (hf : fs.toList[i]? = some f) (hz : P.info? f.type = some z) (hz' : Nat.beq z.size 0 = false)
    (hd : Nat.blt d n = true) (h : GoS P n w0 r Q ((d, .pointer (some ⟨b, o + f.offset, none⟩)) :: E) L l) : GoS P n w0 r Q E L (⟨0, none, some d, .fieldAddr st x i, ty⟩ :: l) :=
  S_read hd (fun ρ w he _ w' _ => by
    have hf' : fs[i]? = some f := by simpa using hf
    have hz2 : z.size ≠ 0 := fun e => by rw [e] at hz'; simp at hz'
    have hx := he _ _ hx
    simp [Stp.oper, execOp, hx, go_sem, Instr.fieldAt, run_underlying hu, hf', fieldPlace, sizeOf, typeInfo, hz, hz2, Addr.add]) h
theorem run_equalIn_bool (e : Nat) {t : TypeId} (p q : Bool) (w : World) (ht : P.underlying t = some .bool) : (Op.equalIn (e + 1) t (.bool p) (.bool q)).run P w = .ok (p == q) w := by
  simp [Op.equalIn, run_underlying ht]
theorem run_eqlB {t : TypeId} (p q : Bool) (w : World) (ht : P.underlying t = some .bool) : (binOp .eql t (.bool p) (.bool q)).run P w = .ok (.bool (p == q)) w := by
  simp only [binOp]
  simp [Op.equal, Op.maxDepth, run_equalIn_bool 9999 p q w ht]
theorem run_neqB {t : TypeId} (p q : Bool) (w : World) (ht : P.underlying t = some .bool) : (binOp .neq t (.bool p) (.bool q)).run P w = .ok (.bool (p != q)) w := by
  simp only [binOp]
  simp [Op.equal, Op.maxDepth, run_equalIn_bool 9999 p q w ht, bne]
section
variable {x y : Operand} {t t' : TypeId}
def rng (a : Int) : Prop := -9223372036854775808 ≤ a ∧ a ≤ 9223372036854775807
theorem S_add {p q : Int} (hx : ev E x = some (.int .i64 p)) (hy : ev E y = some (.int .i64 q)) (hr : rng (p + q)) (hd : Nat.blt d n = true) (h : GoS P n w0 r Q ((d, .int .i64 (p + q)) :: E) L l) : GoS P n w0 r Q E L (⟨0, none, some d, .binOp .add t x y t', ty⟩ :: l) :=
  S_read hd (fun ρ w he _ w' _ => by
    have e : IntKind.i64.wrap (p + q) = p + q := IntWalk.i64_in _ hr
    have hx := he _ _ hx
    have hy := he _ _ hy
    simp [Stp.oper, execOp, hx, hy, go_sem, e]) h
theorem S_sub {p q : Int} (hx : ev E x = some (.int .i64 p)) (hy : ev E y = some (.int .i64 q)) (hr : rng (p - q)) (hd : Nat.blt d n = true) (h : GoS P n w0 r Q ((d, .int .i64 (p - q)) :: E) L l) : GoS P n w0 r Q E L (⟨0, none, some d, .binOp .sub t x y t', ty⟩ :: l) :=
  S_read hd (fun ρ w he _ w' _ => by
    have e : IntKind.i64.wrap (p - q) = p - q := IntWalk.i64_in _ hr
    have hx := he _ _ hx
    have hy := he _ _ hy
    simp [Stp.oper, execOp, hx, hy, go_sem, e]) h
theorem S_mul {p q : Int} (hx : ev E x = some (.int .i64 p)) (hy : ev E y = some (.int .i64 q)) (hr : rng (p * q)) (hd : Nat.blt d n = true) (h : GoS P n w0 r Q ((d, .int .i64 (p * q)) :: E) L l) : GoS P n w0 r Q E L (⟨0, none, some d, .binOp .mul t x y t', ty⟩ :: l) :=
  S_read hd (fun ρ w he _ w' _ => by
    have e : IntKind.i64.wrap (p * q) = p * q := IntWalk.i64_in _ hr
    have hx := he _ _ hx
    have hy := he _ _ hy
    simp [Stp.oper, execOp, hx, hy, go_sem, e]) h
theorem S_lss {p q : Int} {kd : IntKind} (hx : ev E x = some (.int kd p)) (hy : ev E y = some (.int kd q)) (hd : Nat.blt d n = true) (h : GoS P n w0 r Q ((d, .bool (decide (p < q))) :: E) L l) : GoS P n w0 r Q E L (⟨0, none, some d, .binOp .lss t x y t', ty⟩ :: l) :=
  S_read hd (fun ρ w he _ w' _ => by
    have hx := he _ _ hx
    have hy := he _ _ hy
    simp [Stp.oper, execOp, hx, hy, go_sem]) h
theorem S_leq {p q : Int} {kd : IntKind} (hx : ev E x = some (.int kd p)) (hy : ev E y = some (.int kd q)) (hd : Nat.blt d n = true) (h : GoS P n w0 r Q ((d, .bool (decide (p ≤ q))) :: E) L l) : GoS P n w0 r Q E L (⟨0, none, some d, .binOp .leq t x y t', ty⟩ :: l) :=
  S_read hd (fun ρ w he _ w' _ => by
    have hx := he _ _ hx
    have hy := he _ _ hy
    simp [Stp.oper, execOp, hx, hy, go_sem]) h
theorem S_gtr {p q : Int} {kd : IntKind} (hx : ev E x = some (.int kd p)) (hy : ev E y = some (.int kd q)) (hd : Nat.blt d n = true) (h : GoS P n w0 r Q ((d, .bool (decide (q < p))) :: E) L l) : GoS P n w0 r Q E L (⟨0, none, some d, .binOp .gtr t x y t', ty⟩ :: l) :=
  S_read hd (fun ρ w he _ w' _ => by
    have hx := he _ _ hx
    have hy := he _ _ hy
    simp [Stp.oper, execOp, hx, hy, go_sem]) h
theorem S_geq {p q : Int} {kd : IntKind} (hx : ev E x = some (.int kd p)) (hy : ev E y = some (.int kd q)) (hd : Nat.blt d n = true) (h : GoS P n w0 r Q ((d, .bool (decide (q ≤ p))) :: E) L l) : GoS P n w0 r Q E L (⟨0, none, some d, .binOp .geq t x y t', ty⟩ :: l) :=
  S_read hd (fun ρ w he _ w' _ => by
    have hx := he _ _ hx
    have hy := he _ _ hy
    simp [Stp.oper, execOp, hx, hy, go_sem]) h
theorem S_eql {p q : Int} {kd : IntKind} (hx : ev E x = some (.int kd p)) (hy : ev E y = some (.int kd q)) (hd : Nat.blt d n = true) (h : GoS P n w0 r Q ((d, .bool (decide (p = q))) :: E) L l) : GoS P n w0 r Q E L (⟨0, none, some d, .binOp .eql t x y t', ty⟩ :: l) :=
  S_read hd (fun ρ w he _ w' _ => by
    have e : (p == q) = decide (p = q) := rfl
    have hx := he _ _ hx
    have hy := he _ _ hy
    simp [Stp.oper, execOp, hx, hy, go_sem, e]) h
theorem S_neq {p q : Int} {kd : IntKind} (hx : ev E x = some (.int kd p)) (hy : ev E y = some (.int kd q)) (hd : Nat.blt d n = true) (h : GoS P n w0 r Q ((d, .bool (decide (p ≠ q))) :: E) L l) : GoS P n w0 r Q E L (⟨0, none, some d, .binOp .neq t x y t', ty⟩ :: l) :=
  S_read hd (fun ρ w he _ w' _ => by
    have e : (p != q) = decide (p ≠ q) := by by_cases hh : p = q <;> simp [hh, bne]
    have hx := he _ _ hx
    have hy := he _ _ hy
    simp [Stp.oper, execOp, hx, hy, go_sem, e]) h
theorem S_eqlB {p q : Bool} (ht : P.underlying t = some .bool) (hx : ev E x = some (.bool p)) (hy : ev E y = some (.bool q)) (hd : Nat.blt d n = true) (h : GoS P n w0 r Q ((d, .bool (p == q)) :: E) L l) : GoS P n w0 r Q E L (⟨0, none, some d, .binOp .eql t x y t', ty⟩ :: l) :=
  S_read hd (fun ρ w he _ w' _ => by
    have hx := he _ _ hx
    have hy := he _ _ hy
    simp [Stp.oper, execOp, hx, hy, go_sem, run_eqlB p q w' ht]) h
theorem S_neqB {p q : Bool} (ht : P.underlying t = some .bool) (hx : ev E x = some (.bool p)) (hy : ev E y = some (.bool q)) (hd : Nat.blt d n = true) (h : GoS P n w0 r Q ((d, .bool (p != q)) :: E) L l) : GoS P n w0 r Q E L (⟨0, none, some d, .binOp .neq t x y t', ty⟩ :: l) :=
  S_read hd (fun ρ w he _ w' _ => by
    have hx := he _ _ hx
    have hy := he _ _ hy
    simp [Stp.oper, execOp, hx, hy, go_sem, run_neqB p q w' ht]) h
/-- two structs compared -/
def IsEq (P : Program) (t : TypeId) (p q : Value) (b : Bool) : Prop := ∀ (ρ : Operand → Value) (x y : Operand) (d : Nat) (t' ty : TypeId) (w : World), ρ x = p → ρ y = q →
  (execOp ρ (Stp.oper ⟨0, none, some d, .binOp .eql t x y t', ty⟩)).run P w = .ok (.value (.bool b)) w ∧ (execOp ρ (Stp.oper ⟨0, none, some d, .binOp .neq t x y t', ty⟩)).run P w = .ok (.value (.bool (!b))) w
theorem S_eqlS {p q : Value} {b : Bool} (hx : ev E x = some p) (hy : ev E y = some q) (hd : Nat.blt d n = true) (he : IsEq P t p q b) (h : GoS P n w0 r Q ((d, .bool b) :: E) L l) : GoS P n w0 r Q E L (⟨0, none, some d, .binOp .eql t x y t', ty⟩ :: l) :=
  S_read hd (fun ρ w hev _ w' _ => (he ρ x y d t' ty w' (hev _ _ hx) (hev _ _ hy)).1) h
theorem S_neqS {p q : Value} {b : Bool} (hx : ev E x = some p) (hy : ev E y = some q) (hd : Nat.blt d n = true) (he : IsEq P t p q b) (h : GoS P n w0 r Q ((d, .bool (!b)) :: E) L l) : GoS P n w0 r Q E L (⟨0, none, some d, .binOp .neq t x y t', ty⟩ :: l) :=
  S_read hd (fun ρ w hev _ w' _ => (he ρ x y d t' ty w' (hev _ _ hx) (hev _ _ hy)).2) h
theorem S_rem {p q : Int} (hx : ev E x = some (.int .i64 p)) (hy : ev E y = some (.int .i64 q)) (hp : 0 ≤ p) (hq : 0 < q) (hd : Nat.blt d n = true) (h : GoS P n w0 r Q ((d, .int .i64 (p % q)) :: E) L l) : GoS P n w0 r Q E L (⟨0, none, some d, .binOp .rem t x y t', ty⟩ :: l) :=
  S_read hd (fun ρ w he _ w' _ => by
    have e : q ≠ 0 := by omega
    have e2 : p.tmod q = p % q := IntWalk.rem_in _ _ hp
    have hx := he _ _ hx
    have hy := he _ _ hy
    simp [Stp.oper, execOp, hx, hy, go_sem, e, e2]) h
end

/-! ### memory -/
def okk (r : Option (List Nat)) (k : Nat) : Bool :=
  match r with
  | none => !(Nat.beq k 0)
  | some _ => true
theorem rel_ext {w w' : World} (hk : okk r k = true) (h : Ext w w') : k = 0 → Rel r w w' := fun e => by
  subst e
  cases r with
  | none => simp [okk] at hk
  | some xs => exact ExtX.of h
theorem S_box {t : TypeId} {x : Operand} {vs : List Value} (hk : okk r k = true) (hx : ev E x = some (.agg vs.toArray)) (hd : Nat.blt d n = true) (h : ∀ b, GoS P n w0 r Q ((d, .pointer (some ⟨b, 0, none⟩)) :: E) ((.blk b t vs) :: L) l) : GoS P n w0 r Q E L (⟨k + 1, none, some d, .box t x, ty⟩ :: l) :=
  S_act fun a w he hs => by
    have hx := he.eval hx
    have hr : (execOp a.eval (Stp.oper ⟨k + 1, none, some d, .box t x, ty⟩)).run P w = .ok (.value (.pointer (some ⟨w.heap.size, 0, none⟩))) (w.alloc (.cells vs.toArray t)) := by
      generalize a.eval = ρ at hx
      simp [Stp.oper, execOp, hx, Instr.box, newVar, newRow, Value.cells, go_sem]
    unfold Oper.wp
    rw [hr]
    exact ⟨rel_ext hk (Ext.alloc w _), h _ _ _ (he.put hd _) (hs.new t vs)⟩
theorem S_box1 {t : TypeId} {x : Operand} {v : Value} (hk : okk r k = true) (hx : ev E x = some v) (hv : v.oneCell' = true) (hd : Nat.blt d n = true) (h : ∀ b, GoS P n w0 r Q ((d, .pointer (some ⟨b, 0, none⟩)) :: E) ((.blk b t [v]) :: L) l) : GoS P n w0 r Q E L (⟨k + 1, none, some d, .box t x, ty⟩ :: l) :=
  S_act fun a w he hs => by
    have hx := he.eval hx
    have hc : v.cells = #[v] := by cases v <;> simp_all [Value.oneCell', Value.cells]
    have hr : (execOp a.eval (Stp.oper ⟨k + 1, none, some d, .box t x, ty⟩)).run P w = .ok (.value (.pointer (some ⟨w.heap.size, 0, none⟩))) (w.alloc (.cells #[v] t)) := by
      generalize a.eval = ρ at hx
      simp [Stp.oper, execOp, hx, Instr.box, newVar, newRow, go_sem]
      exact congrArg (fun c => w.alloc (.cells c t)) hc
    unfold Oper.wp
    rw [hr]
    exact ⟨rel_ext hk (Ext.alloc w _), h _ _ _ (he.put hd _) (hs.new t [v])⟩
/-- the cells of a type's zero value -/
def zc (P : Program) (t : TypeId) : Option (List Value) := ((P.info? t).bind (·.zero)).map (fun z => z.cells.toList)
theorem S_alloc {t : TypeId} {vs : List Value} (hk : okk r k = true) (hz : zc P t = some vs) (hd : Nat.blt d n = true) (h : ∀ b, GoS P n w0 r Q ((d, .pointer (some ⟨b, 0, none⟩)) :: E) ((.blk b t vs) :: L) l) : GoS P n w0 r Q E L (⟨k + 1, none, some d, .alloc t, ty⟩ :: l) :=
  S_act fun a w he hs => by
    unfold zc at hz
    cases hi : P.info? t with
    | none => simp [hi] at hz
    | some i =>
      cases hzz : i.zero with
      | none => simp [hi, hzz] at hz
      | some z =>
        have hz' : z.cells.toList = vs := by simpa [hi, hzz] using hz
        have hzc : z.cells = vs.toArray := by rw [← hz']
        have hr : (execOp a.eval (Stp.oper ⟨k + 1, none, some d, .alloc t, ty⟩)).run P w = .ok (.value (.pointer (some ⟨w.heap.size, 0, none⟩))) (w.alloc (.cells vs.toArray t)) := by
          simp [Stp.oper, execOp, Instr.alloc, newVar, newRow, zeroValue, typeInfo, hi, hzz, go_sem]
          exact congrArg (fun c => w.alloc (.cells c t)) hzc
        unfold Oper.wp
        rw [hr]
        exact ⟨rel_ext hk (Ext.alloc w _), h _ _ _ (he.put hd _) (hs.new t vs)⟩
theorem run_load1 {w : World} {t : TypeId} {p : Addr} {v : Value} {dT : TypeDesc} (hu : P.underlying t = some dT) (hs : dT.isRow = false) (hv : w.cell? p = some v) : (loadVar t p).run P w = .ok v w := by
  have hagg : (isAgg t).run P w = .ok false w := by
    unfold isAgg
    rw [Sem.run_bind, run_underlying hu w]
    cases dT <;> simp_all
  simp [loadVar, Sem.run_bind, hagg, run_load, hv]
theorem S_loadX {x : Operand} {p : Addr} {v : Value} {t : TypeId} (hx : ev E x = some (.pointer (some p))) (hv : ∀ w w', St w0 w L → Rel r w w' → (loadVar t p).run P w' = .ok v w') (hd : Nat.blt d n = true) (h : GoS P n w0 r Q ((d, v) :: E) L l) : GoS P n w0 r Q E L (⟨0, none, some d, .load t x, ty⟩ :: l) :=
  S_read hd (fun ρ w he hs w' hR => by
    have hx := he _ _ hx
    simp [Stp.oper, execOp, hx, Instr.loadAt, Instr.sureAddr, hv w w' hs hR]) h
/-- the block is none of those that the region may write -/
def Free (w0 : World) (L : List Blk) (r : Option (List Nat)) (b : Nat) : Prop := ∀ w, St w0 w L → NotIn r b
def Apart (w0 : World) (L : List Blk) (b c : Nat) : Prop := ∀ w, St w0 w L → b ≠ c
theorem free0 {b : Nat} : Free w0 L none b := fun _ _ => trivial
theorem free1 {b : Nat} : Free w0 L (some []) b := fun _ _ => trivial
theorem free2 {b c : Nat} {xs : List Nat} (h1 : Apart w0 L b c) (h2 : Free w0 L (some xs) b) : Free w0 L (some (c :: xs)) b := fun w hs => ⟨h1 w hs, h2 w hs⟩
theorem apart1 {b c : Nat} {t t' : TypeId} {cs cs' : List Value} (h : .blk c t' cs' ∈ L) : Apart w0 (.blk b t cs :: L) b c := fun w hs e => by
  have := hs.nd
  rw [List.pairwise_cons] at this
  exact this.1 _ h b rfl e
theorem apart2 {b c : Nat} {t t' : TypeId} {cs cs' : List Value} (h : .blk b t' cs' ∈ L) : Apart w0 (.blk c t cs :: L) b c := fun w hs e => apart1 (w0 := w0) (b := c) (c := b) (t := t) (cs := cs) h w hs e.symm
theorem apart3 {b c : Nat} {x : Blk} (h : Apart w0 L b c) : Apart w0 (x :: L) b c := fun w hs => h w (hs.drop (List.sublist_cons_self x L))
theorem apartG {b c : Nat} {t : TypeId} {cs : List Value} (hb : b < w0.heap.size) (h : .blk c t cs ∈ L) : Apart w0 L b c := fun w hs e => by
  have := (hs.own _ h).1 c rfl
  omega
/-- one cell of an own block -/
theorem S_load1 {x : Operand} {b o : Nat} {t t' : TypeId} {cs : List Value} {v : Value} {dT : TypeDesc} (hx : ev E x = some (.pointer (some ⟨b, o, none⟩))) (hu : P.underlying t = some dT) (hs : dT.isRow = false) (hL : (.blk b t' cs) ∈ L) (hv : cs[o]? = some v) (hn : Free w0 L r b)
    (hd : Nat.blt d n = true) (h : GoS P n w0 r Q ((d, v) :: E) L l) : GoS P n w0 r Q E L (⟨0, none, some d, .load t x, ty⟩ :: l) :=
  S_loadX hx (fun _ _ hst hR => run_load1 hu hs ((((hst.own _ hL).2.rel hR (fun i hi => hi ▸ hn _ hst)).cell o).trans hv)) hd h
/-- several cells of an own block -/
theorem S_loadN {x : Operand} {b o m : Nat} {t t' : TypeId} {cs vs : List Value} {dT : TypeDesc} (hx : ev E x = some (.pointer (some ⟨b, o, none⟩))) (hu : P.underlying t = some dT) (hs : dT.isRow = true) (hi : (P.info? t).map (·.size) = some m) (hL : (.blk b t' cs) ∈ L)
    (hm : vs.length = m) (hv : ∀ j v, vs[j]? = some v → cs[o + j]? = some v) (hn : Free w0 L r b) (hd : Nat.blt d n = true) (h : GoS P n w0 r Q ((d, .agg vs.toArray) :: E) L l) : GoS P n w0 r Q E L (⟨0, none, some d, .load t x, ty⟩ :: l) :=
  S_loadX hx (fun w w' hst hR => run_loadVar_mid w' b o t vs dT (fun j v hj => (((hst.own _ hL).2.rel hR (fun i hi => hi ▸ hn _ hst)).cell (o + j)).trans (hv j v hj)) hu hs (by rw [hi, hm])) hd h
theorem S_loadAll {x : Operand} {b : Nat} {t t' : TypeId} {cs : List Value} {dT : TypeDesc} (hx : ev E x = some (.pointer (some ⟨b, 0, none⟩))) (hu : P.underlying t = some dT) (hs : dT.isRow = true) (hL : (.blk b t' cs) ∈ L) (hi : (P.info? t).map (·.size) = some cs.length)
    (hn : Free w0 L r b) (hd : Nat.blt d n = true) (h : GoS P n w0 r Q ((d, .agg cs.toArray) :: E) L l) : GoS P n w0 r Q E L (⟨0, none, some d, .load t x, ty⟩ :: l) :=
  S_loadN hx hu hs hi hL rfl (fun j v hj => by simpa using hj) hn hd h
theorem S_load2 {x : Operand} {b o : Nat} {t t' : TypeId} {cs : List Value} {v0 v1 : Value} {dT : TypeDesc} (hx : ev E x = some (.pointer (some ⟨b, o, none⟩))) (hu : P.underlying t = some dT) (hs : dT.isRow = true) (hL : (.blk b t' cs) ∈ L) (hi : (P.info? t).map (·.size) = some 2)
    (h0 : cs[o]? = some v0) (h1 : cs[o + 1]? = some v1) (hn : Free w0 L r b) (hd : Nat.blt d n = true) (h : GoS P n w0 r Q ((d, .agg #[v0, v1]) :: E) L l) : GoS P n w0 r Q E L (⟨0, none, some d, .load t x, ty⟩ :: l) :=
  S_loadN (vs := [v0, v1]) hx hu hs hi hL rfl (fun j v hj => by
    match j, hj with
    | 0, hj => simp at hj; subst hj; exact h0
    | 1, hj => simp at hj; subst hj; exact h1
    | j + 2, hj => simp at hj) hn hd h
/-- a cell of the memory that was there -/
theorem S_loadG {x : Operand} {b o : Nat} {t : TypeId} {v : Value} {dT : TypeDesc} (hx : ev E x = some (.pointer (some ⟨b, o, none⟩))) (hu : P.underlying t = some dT) (hs : dT.isRow = false) (hv : w0.cell? ⟨b, o, none⟩ = some v) (hn : Free w0 L r b)
    (hd : Nat.blt d n = true) (h : GoS P n w0 r Q ((d, v) :: E) L l) : GoS P n w0 r Q E L (⟨0, none, some d, .load t x, ty⟩ :: l) :=
  S_loadX hx (fun _ _ hst hR => run_load1 hu hs (cell_rel hst hR hv (hn _ hst))) hd h
theorem S_loadGN {x : Operand} {b o : Nat} {t : TypeId} {vs : List Value} {dT : TypeDesc} (hx : ev E x = some (.pointer (some ⟨b, o, none⟩))) (hu : P.underlying t = some dT) (hs : dT.isRow = true) (hi : (P.info? t).map (·.size) = some vs.length) (hv : w0.rangeAt b o vs) (hn : Free w0 L r b)
    (hd : Nat.blt d n = true) (h : GoS P n w0 r Q ((d, .agg vs.toArray) :: E) L l) : GoS P n w0 r Q E L (⟨0, none, some d, .load t x, ty⟩ :: l) :=
  S_loadX hx (fun _ w' hst hR => run_loadVar_mid w' b o t vs dT (fun j v hj => cell_rel hst hR (hv j v hj) (hn _ hst)) hu hs hi) hd h
/-- a part of a list is another one -/
def SetSeg (cs : List Value) (o : Nat) (vs cs' : List Value) : Prop := o + vs.length ≤ cs.length ∧ cs' = cs.take o ++ vs ++ cs.drop (o + vs.length)
theorem SetSeg.nil {cs : List Value} : SetSeg cs 0 [] cs := ⟨by simp, by simp⟩
theorem SetSeg.here {c v : Value} {cs vs cs' : List Value} (h : SetSeg cs 0 vs cs') : SetSeg (c :: cs) 0 (v :: vs) (v :: cs') := ⟨by have := h.1; simp at this ⊢; omega, by rw [h.2]; simp⟩
theorem SetSeg.there {c : Value} {cs vs cs' : List Value} {o : Nat} (h : SetSeg cs o vs cs') : SetSeg (c :: cs) (o + 1) vs (c :: cs') := ⟨by have := h.1; simp; omega, by rw [h.2, show o + 1 + vs.length = o + vs.length + 1 by omega]; simp⟩
theorem run_storeVar_seg {w : World} {b o : Nat} {t ty : TypeId} {cs vs cs' : List Value} {v : Value} (hv : v.cells = vs.toArray) (hown : Own w (.blk b t cs)) (hi : (P.info? ty).map (·.size) = some vs.length) (h1 : vs.all (·.oneCell') = true) 
    (hseg : SetSeg cs o vs cs') : (storeVar ty ⟨b, o, none⟩ v).run P w = .ok () (w.setRow b cs'.toArray) := by
  obtain ⟨hlen, rfl⟩ := hseg
  have := run_storeCells_at (P := P) b o t vs 0 cs.toArray w hown (by simpa using hlen) (fun v hv => (List.all_eq_true.1 h1) v hv)
  cases hq : P.info? ty with
  | none => simp [hq] at hi
  | some i =>
    have hs : i.size = vs.length := by simpa [hq] using hi
    simp only [Nat.add_zero] at this
    simp [storeVar, sizeOf, typeInfo, hq, hv, hs, this]
/-- a store into an own block -/
def okst (r : Option (List Nat)) (k b : Nat) : Prop := k = 0 → ∃ xs, r = some xs ∧ b ∈ xs
theorem okst2 {r : Option (List Nat)} {k b : Nat} : okst r (k + 1) b := fun h => by omega
theorem okst1 {b : Nat} {xs : List Nat} {k : Nat} : okst (some (b :: xs)) k b := fun _ => ⟨_, rfl, by simp⟩
theorem okst1' {b c : Nat} {xs : List Nat} {k : Nat} : okst (some (c :: b :: xs)) k b := fun _ => ⟨_, rfl, by simp⟩
theorem okst_rel {b : Nat} {w : World} {cs : Array Value} (h : okst r k b) : k = 0 → Rel r w (w.setRow b cs) := fun e => by
  obtain ⟨xs, rfl, hb⟩ := h e
  have hx := ext_setRow (w := w) (b := b) cs
  exact ⟨hx.1, hx.2.1, hx.2.2.1, hx.2.2.2.1, fun i hi hn => hx.2.2.2.2 i hi (by rw [List.mem_singleton]; exact fun e => hn (e ▸ hb))⟩
theorem S_storeV {x y : Operand} {b o : Nat} {t t' : TypeId} {cs vs cs' : List Value} {v : Value} (hx : ev E x = some (.pointer (some ⟨b, o, none⟩))) (hy : ev E y = some v) (hv : v.cells = vs.toArray) (hi : (P.info? t).map (·.size) = some vs.length) (h1 : vs.all (·.oneCell') = true)
    (hL : Upd L (.blk b t' cs) (.blk b t' cs') L') (hseg : SetSeg cs o vs cs') (hk : okst r k b) (h : GoS P n w0 r Q E L' l) : GoS P n w0 r Q E L (⟨k + 1, none, none, .store t x y, ty⟩ :: l) :=
  S_act fun a w he hs => by
    have hx := he.eval hx
    have hy := he.eval hy
    have hb : Own w (.blk b t' cs) := by exact (hs.own _ hL.mem).2
    have hr : (execOp a.eval (Stp.oper ⟨k + 1, none, none, .store t x y, ty⟩)).run P w = .ok .skip (w.setRow b cs'.toArray) := by
      generalize a.eval = ρ at hx hy
      simp [Stp.oper, execOp, hx, hy, Instr.storeAt, Instr.sureAddr, run_storeVar_seg hv hb hi h1 hseg]
    unfold Oper.wp
    rw [hr]
    exact ⟨okst_rel hk, h _ _ (he.none undef) (hs.upd hL (ext_setRow _) (setRow_heap w b _ _ _ _ hb))⟩
theorem S_store1 {x y : Operand} {b o : Nat} {t t' : TypeId} {cs cs' : List Value} {v : Value} (hx : ev E x = some (.pointer (some ⟨b, o, none⟩))) (hy : ev E y = some v) (h1 : v.oneCell' = true) (hi : (P.info? t).map (·.size) = some 1)
    (hseg : SetSeg cs o [v] cs') (hL : Upd L (.blk b t' cs) (.blk b t' cs') L') (hk : okst r k b) (h : GoS P n w0 r Q E L' l) : GoS P n w0 r Q E L (⟨k + 1, none, none, .store t x y, ty⟩ :: l) :=
  S_storeV (vs := [v]) hx hy (by cases v <;> simp_all [Value.oneCell', Value.cells]) hi (by simp [h1]) hL hseg hk h
theorem S_storeN {x y : Operand} {b o : Nat} {t t' : TypeId} {cs vs cs' : List Value} (hx : ev E x = some (.pointer (some ⟨b, o, none⟩))) (hy : ev E y = some (.agg vs.toArray)) (h1 : vs.all (·.oneCell') = true) (hi : (P.info? t).map (·.size) = some vs.length)
    (hseg : SetSeg cs o vs cs') (hL : Upd L (.blk b t' cs) (.blk b t' cs') L') (hk : okst r k b) (h : GoS P n w0 r Q E L' l) : GoS P n w0 r Q E L (⟨k + 1, none, none, .store t x y, ty⟩ :: l) :=
  S_storeV hx hy rfl hi h1 hL hseg hk h
theorem S_storeAll {x y : Operand} {b : Nat} {t t' : TypeId} {cs vs : List Value} (hx : ev E x = some (.pointer (some ⟨b, 0, none⟩))) (hy : ev E y = some (.agg vs.toArray)) (h1 : vs.all (·.oneCell') = true) (hi : (P.info? t).map (·.size) = some vs.length)
    (hlen : Nat.beq cs.length vs.length = true) (hL : Upd L (.blk b t' cs) (.blk b t' vs) L') (hk : okst r k b) (h : GoS P n w0 r Q E L' l) : GoS P n w0 r Q E L (⟨k + 1, none, none, .store t x y, ty⟩ :: l) := 
  S_storeV hx hy rfl hi h1 hL ⟨by have := Nat.eq_of_beq_eq_true hlen; omega, by have := Nat.eq_of_beq_eq_true hlen; simp [← this]⟩ hk h

/-! ### calls -/
def evs (E : List (Nat × Value)) : List Operand → Option (List Value)
  | [] => some []
  | x :: xs => match ev E x with
    | some v => match evs E xs with
      | some vs => some (v :: vs)
      | none => none
    | none => none
theorem evs_map {E : List (Nat × Value)} {ρ : Operand → Value} (he : ∀ x v, ev E x = some v → ρ x = v) : ∀ {xs : List Operand} {vs : List Value}, evs E xs = some vs → xs.map ρ = vs
  | [], vs, h => by cases h; rfl
  | x :: xs, vs, h => by
    unfold evs at h
    cases hx : ev E x with
    | none => simp [hx] at h
    | some v =>
      cases hxs : evs E xs with
      | none => simp [hx, hxs] at h
      | some us =>
        simp only [hx, hxs, Option.some.injEq] at h
        rw [← h, List.map_cons, he x v hx, evs_map he hxs]
/-- what is called has a body of its own -/
def plainFn (P : Program) (f : FuncId) : Bool := match P.funcs[f]? with
  | some fn => fn.body.isSome && !(fn.name == "runtime.NumGoroutine")
  | none => false
theorem run_call {a : Act} {d : Option Nat} {f : FuncId} {xs : Array Operand} {ats : Array TypeId} {w : World} {vs : List Value} (hp : plainFn P f = true) (hv : xs.toList.map a.eval = vs) :
    (execOp a.eval (Stp.oper ⟨k, none, d, .call ⟨.value (.func f), xs, ats⟩, ty⟩)).run P w = .ok (.enter f vs.toArray) w := by
  have e : execOp a.eval (Stp.oper ⟨k, none, d, .call ⟨.value (.func f), xs, ats⟩, ty⟩) = callFunc f (#[] ++ xs.map a.eval ++ #[]) := rfl
  have e2 : (#[] ++ xs.map a.eval ++ #[] : Array Value) = vs.toArray := by rw [← hv]; apply Array.ext'; simp
  rw [e, e2]
  unfold plainFn at hp
  cases hf : P.funcs[f]? with
  | none => simp [hf] at hp
  | some fn =>
    simp only [hf, Bool.and_eq_true, Bool.not_eq_true'] at hp
    have h1 : ¬ fn.name = "runtime.NumGoroutine" := by simpa using hp.2
    have h2 : ¬ fn.body = none := by intro hb; simp [hb] at hp
    unfold callFunc
    simp [hf, h1, h2]
/-- how a call ends: for some x of which φ holds it returns v x; the blocks new x are new and the call's own; all that was there is as it was -/
def RetX {α : Type} (φ : α → Prop) (v : α → Value) (new : α → List Blk) (w : World) (e : Ending) (w' : World) : Prop :=
  ∃ x, φ x ∧ e = .returned (v x) ∧ Ext w w' ∧ (∀ y ∈ new x, (∀ k, y.foot k → w.heap.size ≤ k) ∧ Own w' y) ∧ (new x).Pairwise (fun x y => ∀ k, x.foot k → ¬ y.foot k)
def RetN (v : Value) (w : World) (e : Ending) (w' : World) : Prop := e = .returned v ∧ Ext w w'
theorem St.join {w w' : World} {L N : List Blk} (h : St w0 w L) (hx : Ext w w') (hn : ∀ y ∈ N, (∀ k, y.foot k → w.heap.size ≤ k) ∧ Own w' y) (hd : N.Pairwise (fun x y => ∀ k, x.foot k → ¬ y.foot k)) : St w0 w' (N ++ L) := by
  have hs := h.step hx
  refine ⟨hs.ext, fun y hy => ?_, ?_⟩
  · rcases List.mem_append.1 hy with hy | hy
    · exact ⟨fun k hk => Nat.le_trans h.ext.size ((hn y hy).1 k hk), (hn y hy).2⟩
    · exact hs.own y hy
  · rw [List.pairwise_append]
    refine ⟨hd, h.nd, fun y hy z hz k hk hk' => ?_⟩
    have h1 := (hn y hy).1 k hk
    have h2 := (h.own z hz).2.lt hk'
    omega
theorem S_callX {α : Type} {φ : α → Prop} {v : α → Value} {new : α → List Blk} {f : FuncId} {xs : Array Operand} {ats : Array TypeId} {vs : List Value} (hk : okk r k = true) (hp : plainFn P f = true) (hv : evs E xs.toList = some vs) (hc : ∀ w, St w0 w L → Calls P f vs.toArray w (RetX φ v new w))
    (hd : Nat.blt d n = true) (h : ∀ x, φ x → GoS P n w0 r Q ((d, v x) :: E) (new x ++ L) l) : GoS P n w0 r Q E L (⟨k + 1, none, some d, .call ⟨.value (.func f), xs, ats⟩, ty⟩ :: l) :=
  S_act fun a w he hs => by
    unfold Oper.wp
    rw [run_call hp (evs_map (fun _ _ hx => he.eval hx) hv)]
    refine (hc w hs).mono fun e w' hR => ?_
    obtain ⟨x, hx, rfl, hext, hn, hnd⟩ := hR
    exact ⟨rel_ext hk hext, h x hx _ _ (he.put hd _) (hs.join hext hn hnd)⟩
theorem S_callN {v : Value} {f : FuncId} {xs : Array Operand} {ats : Array TypeId} {vs : List Value} (hk : okk r k = true) (hp : plainFn P f = true) (hv : evs E xs.toList = some vs) (hc : ∀ w, St w0 w L → Calls P f vs.toArray w (RetN v w))
    (hd : Nat.blt d n = true) (h : GoS P n w0 r Q ((d, v) :: E) L l) : GoS P n w0 r Q E L (⟨k + 1, none, some d, .call ⟨.value (.func f), xs, ats⟩, ty⟩ :: l) :=
  S_act fun a w he hs => by
    unfold Oper.wp
    rw [run_call hp (evs_map (fun _ _ hx => he.eval hx) hv)]
    refine (hc w hs).mono fun e w' hR => ?_
    obtain ⟨rfl, hext⟩ := hR
    exact ⟨rel_ext hk hext, h _ _ (he.put hd _) (hs.step hext)⟩

/-! ### the beginning and the end -/
def enumE : Nat → List Value → List (Nat × Value)
  | _, [] => []
  | i, v :: vs => (i, v) :: enumE (i + 1) vs
theorem get_enumE : ∀ (vs : List Value) (i t : Nat) (v : Value), get (enumE i vs) t = some v → i ≤ t ∧ vs[t - i]? = some v
  | [], _, _, _, h => by cases h
  | u :: us, i, t, v, h => by
    rw [enumE, get_cons] at h
    split at h
    · rename_i e; subst e; cases h; simp
    · rename_i e
      obtain ⟨h1, h2⟩ := get_enumE us (i + 1) t v h
      refine ⟨by omega, ?_⟩
      rw [show t - i = (t - (i + 1)) + 1 by omega]
      simpa using h2
theorem enter {f : FuncId} {fn : Func} {c : Code} {vs : List Value} {w : World} {R : Ending → World → Prop} (hf : P.funcs[f]? = some fn) (hb : fn.body = some c) (hn : fn.ntmps = n) (hl : Nat.ble vs.length n = true) (hE : enumE 0 vs = E)
    (h : GoC P n w (bodyPost P fn R) E [] c) : Calls P f vs.toArray w R := by
  refine calls_of_wp hf hb (h _ w ⟨?_, rfl, fun t v ht => ?_⟩ (St.start w))
  · have := Nat.le_of_ble_eq_true hl
    simp [hn]; omega
  · rw [← hE] at ht
    have := (get_enumE vs 0 t v ht).2
    simp only [Nat.sub_zero] at this
    rw [Array.getElem?_append]
    have hlt : t < vs.length := (List.getElem?_eq_some_iff.1 this).1
    rw [if_pos (by simpa using hlt)]
    simpa using this
/-- what a result variable holds in the end -/
def resVar (tmps : Array Value) : ResultVar → Sem Value
  | .tmp t => pure (tmps.getD t undef)
  | .cell a t => do loadVar t (← asAddr (tmps.getD a undef))
theorem results_eq (fn : Func) (tmps : Array Value) : results fn tmps = (do
    let vs ← fn.results.mapM (resVar tmps)
    pure (if h : vs.size = 1 then vs[0] else .tuple vs)) := rfl
def Res (P : Program) (n : Nat) (w0 : World) (E : List (Nat × Value)) (L : List Blk) (rv : ResultVar) (v : Value) : Prop :=
  ∀ a w, Env n a E → St w0 w L → (resVar a.tmps rv).run P w = .ok v w
theorem Res.tmp {t : Nat} {v : Value} (h : get E t = some v) : Res P n w0 E L (.tmp t) v := fun a w he _ => by
  have := he.vals t v h
  simp [resVar, this]
theorem Res.cellAll {p b : Nat} {t t' : TypeId} {cs : List Value} {dT : TypeDesc} (hp : get E p = some (.pointer (some ⟨b, 0, none⟩))) (hL : (.blk b t' cs) ∈ L) (hu : P.underlying t = some dT) (hs : dT.isRow = true) (hi : (P.info? t).map (·.size) = some cs.length) : Res P n w0 E L (.cell p t) (.agg cs.toArray) := fun a w he hst => by
  have := he.vals p _ hp
  have hl := run_loadVar_mid (P := P) w b 0 t cs dT (fun j v hj => by rw [(hst.own _ hL).2.cell]; simpa using hj) hu hs hi
  simp [resVar, this, asAddr, hl]
theorem Res.cell1 {p b : Nat} {t t' : TypeId} {v : Value} {dT : TypeDesc} (hp : get E p = some (.pointer (some ⟨b, 0, none⟩))) (hL : (.blk b t' [v]) ∈ L) (hu : P.underlying t = some dT) (hs : dT.isRow = false) : Res P n w0 E L (.cell p t) v := fun a w he hst => by
  have := he.vals p _ hp
  have hl := run_load1 (P := P) (w := w) (p := ⟨b, 0, none⟩) hu hs (((hst.own _ hL).2.cell 0).trans rfl)
  simp [resVar, this, asAddr, hl]
theorem E_ret1 {fn : Func} {R : Ending → World → Prop} {rv : ResultVar} {v : Value} (hr : fn.results = #[rv]) (h1 : Res P n w0 E L rv v) (h : ∀ w, St w0 w L → R (.returned v) w) : GoE n w0 (bodyPost P fn R) E L .ret := fun a w he hs => by
  refine ⟨he.defers, v, ?_, h w hs⟩
  have h1 := h1 a w he hs
  rw [results_eq, hr]
  simp [h1]
theorem E_ret2 {fn : Func} {R : Ending → World → Prop} {r1 r2 : ResultVar} {v1 v2 : Value} (hr : fn.results = #[r1, r2]) (h1 : Res P n w0 E L r1 v1) (h2 : Res P n w0 E L r2 v2) (h : ∀ w, St w0 w L → R (.returned (.tuple #[v1, v2])) w) : GoE n w0 (bodyPost P fn R) E L .ret := fun a w he hs => by
  refine ⟨he.defers, _, ?_, h w hs⟩
  have h1 := h1 a w he hs
  have h2 := h2 a w he hs
  rw [results_eq, hr]
  simp [h1, h2]
theorem E_ret3 {fn : Func} {R : Ending → World → Prop} {r1 r2 r3 : ResultVar} {v1 v2 v3 : Value} (hr : fn.results = #[r1, r2, r3]) (h1 : Res P n w0 E L r1 v1) (h2 : Res P n w0 E L r2 v2) (h3 : Res P n w0 E L r3 v3) (h : ∀ w, St w0 w L → R (.returned (.tuple #[v1, v2, v3])) w) : GoE n w0 (bodyPost P fn R) E L .ret := fun a w he hs => by
  refine ⟨he.defers, _, ?_, h w hs⟩
  have h1 := h1 a w he hs
  have h2 := h2 a w he hs
  have h3 := h3 a w he hs
  rw [results_eq, hr]
  simp [h1, h2, h3]
end
def evp (E : List (Nat × Value)) : List (Nat × Operand) → Option (List (Nat × Value))
  | [] => some []
  |(i,x) :: xs => match ev E x with
    | some v => match evp E xs with
      | some vs => some ((i, v) :: vs)
      | none => none
    | none => none
/-! ### what a type is -/
def IsSc (P : Program) (t : TypeId) : Prop := ∃ d, P.underlying t = some d ∧ d.isRow = false ∧ (P.info? t).map (·.size) = some 1
def IsRw (P : Program) (t : TypeId) (m : Nat) : Prop := ∃ d, P.underlying t = some d ∧ d.isRow = true ∧ (P.info? t).map (·.size) = some m
def nzB (P : Program) (t : TypeId) : Bool := match P.info? t with
  | some z => !(Nat.beq z.size 0)
  | none => false
def IsFl (P : Program) (t : TypeId) (i off : Nat) : Prop := ∃ fs f, P.underlying t = some (.struct fs) ∧ fs.toList[i]? = some f ∧ f.offset = off ∧ nzB P f.type = true
def IsSl (P : Program) (t e : TypeId) (m : Nat) : Prop := P.underlying t = some (.slice e) ∧ (P.info? e).map (·.size) = some m
section
variable {P : Program} {n : Nat} {w0 : World} {r : Option (List Nat)} {Q : Exit → Act → World → Prop} {E : List (Nat × Value)} {L L' : List Blk} {l : List Stp} {k d : Nat} {ty : TypeId} {x y : Operand} {b o : Nat} {t t' : TypeId} {cs : List Value}
theorem F_field {i off : Nat} (hx : ev E x = some (.pointer (some ⟨b, o, none⟩))) (hd : Nat.blt d n = true) (hf : IsFl P t i off) (h : GoS P n w0 r Q ((d, .pointer (some ⟨b, o + off, none⟩)) :: E) L l) : GoS P n w0 r Q E L (⟨0, none, some d, .fieldAddr t x i, ty⟩ :: l) := by
  obtain ⟨fs, f, hu, hi, rfl, hz⟩ := hf
  unfold nzB at hz
  cases hq : P.info? f.type with
  | none => simp [hq] at hz
  | some z =>
    simp only [hq, Bool.not_eq_true'] at hz
    exact S_fieldAddr hx hu hi hq hz hd h
theorem F_load1 {v : Value} (hx : ev E x = some (.pointer (some ⟨b, o, none⟩))) (hd : Nat.blt d n = true) (hL : (.blk b t' cs) ∈ L) (ht : IsSc P t) (hv : cs[o]? = some v) (hn : Free w0 L r b)
    (h : GoS P n w0 r Q ((d, v) :: E) L l) : GoS P n w0 r Q E L (⟨0, none, some d, .load t x, ty⟩ :: l) := by
  obtain ⟨dT, hu, hs, _⟩ := ht
  exact S_load1 hx hu hs hL hv hn hd h
theorem F_loadAll (hx : ev E x = some (.pointer (some ⟨b, 0, none⟩))) (hd : Nat.blt d n = true) (hL : (.blk b t' cs) ∈ L) (ht : IsRw P t cs.length) (hn : Free w0 L r b)
    (h : GoS P n w0 r Q ((d, .agg cs.toArray) :: E) L l) : GoS P n w0 r Q E L (⟨0, none, some d, .load t x, ty⟩ :: l) := by
  obtain ⟨dT, hu, hs, hi⟩ := ht
  exact S_loadAll hx hu hs hL hi hn hd h
theorem F_load2 {v0 v1 : Value} (hx : ev E x = some (.pointer (some ⟨b, o, none⟩))) (hd : Nat.blt d n = true) (hL : (.blk b t' cs) ∈ L) (ht : IsRw P t 2) (h0 : cs[o]? = some v0) (h1 : cs[o + 1]? = some v1) (hn : Free w0 L r b)
    (h : GoS P n w0 r Q ((d, .agg #[v0, v1]) :: E) L l) : GoS P n w0 r Q E L (⟨0, none, some d, .load t x, ty⟩ :: l) := by
  obtain ⟨dT, hu, hs, hi⟩ := ht
  exact S_load2 hx hu hs hL hi h0 h1 hn hd h
/-- the part of m cells from o on -/
inductive Take : List Value → Nat → Nat → List Value → Prop
  | nil {cs : List Value} : Take cs 0 0 []
  | here {c : Value} {cs us : List Value} {m : Nat} (h : Take cs 0 m us) : Take (c :: cs) 0 (m + 1) (c :: us)
  | there {c : Value} {cs us : List Value} {o m : Nat} (h : Take cs o m us) : Take (c :: cs) (o + 1) m us
theorem Take.at {cs us : List Value} {o m : Nat} (h : Take cs o m us) : ∀ j u, us[j]? = some u → cs[o + j]? = some u := by
  induction h with
  | nil => intro j u hj; simp at hj
  | here h ih =>
    intro j u hj
    cases j with
    | zero => simpa using hj
    | succ j => have := ih j u (by simpa using hj); rw [Nat.zero_add] at this ⊢; simpa using this
  | there h ih =>
    intro j u hj
    have := ih j u hj
    rename_i c cs us o m
    rw [show o + 1 + j = (o + j) + 1 by omega]
    simpa using this
theorem F_loadP {us : List Value} {m : Nat} (hx : ev E x = some (.pointer (some ⟨b, o, none⟩))) (hd : Nat.blt d n = true) (hL : .blk b t' cs ∈ L) (ht : IsRw P t m) (hv : Take cs o m us) (hl : us.length = m) (hn : Free w0 L r b)
    (h : GoS P n w0 r Q ((d, .agg us.toArray) :: E) L l) : GoS P n w0 r Q E L (⟨0, none, some d, .load t x, ty⟩ :: l) := by
  obtain ⟨dT, hu, hs, hi⟩ := ht
  exact S_loadN hx hu hs hi hL hl (fun j v hj => hv.at j v hj) hn hd h
theorem F_loadG {v : Value} (hx : ev E x = some (.pointer (some ⟨b, o, none⟩))) (hd : Nat.blt d n = true) (ht : IsSc P t) (hv : w0.cell? ⟨b, o, none⟩ = some v) (hn : Free w0 L r b)
    (h : GoS P n w0 r Q ((d, v) :: E) L l) : GoS P n w0 r Q E L (⟨0, none, some d, .load t x, ty⟩ :: l) := by
  obtain ⟨dT, hu, hs, _⟩ := ht
  exact S_loadG hx hu hs hv hn hd h
theorem F_loadGN {vs : List Value} (hx : ev E x = some (.pointer (some ⟨b, o, none⟩))) (hd : Nat.blt d n = true) (hv : w0.rangeAt b o vs) (ht : IsRw P t vs.length) (hn : Free w0 L r b)
    (h : GoS P n w0 r Q ((d, .agg vs.toArray) :: E) L l) : GoS P n w0 r Q E L (⟨0, none, some d, .load t x, ty⟩ :: l) := by
  obtain ⟨dT, hu, hs, hi⟩ := ht
  exact S_loadGN hx hu hs hi hv hn hd h
theorem F_store1 {v : Value} {cs' : List Value} (hx : ev E x = some (.pointer (some ⟨b, o, none⟩))) (hy : ev E y = some v) (h1 : v.oneCell' = true) (ht : IsSc P t) (hL : Upd L (.blk b t' cs) (.blk b t' cs') L') (hseg : SetSeg cs o [v] cs')
    (hk : okst r k b) (h : GoS P n w0 r Q E L' l) : GoS P n w0 r Q E L (⟨k + 1, none, none, .store t x y, ty⟩ :: l) := by
  obtain ⟨dT, hu, hs, hi⟩ := ht
  exact S_store1 hx hy h1 hi hseg hL hk h
theorem F_storeN {vs cs' : List Value} (hx : ev E x = some (.pointer (some ⟨b, o, none⟩))) (hy : ev E y = some (.agg vs.toArray)) (h1 : vs.all (·.oneCell') = true) (ht : IsRw P t vs.length) (hL : Upd L (.blk b t' cs) (.blk b t' cs') L') (hseg : SetSeg cs o vs cs')
    (hk : okst r k b) (h : GoS P n w0 r Q E L' l) : GoS P n w0 r Q E L (⟨k + 1, none, none, .store t x y, ty⟩ :: l) := by
  obtain ⟨dT, hu, hs, hi⟩ := ht
  exact S_storeN hx hy h1 hi hseg hL hk h
theorem evp_map {E : List (Nat × Value)} {ρ : Operand → Value} (he : ∀ x v, ev E x = some v → ρ x = v) : ∀ {xs : List (Nat × Operand)} {vs : List (Nat × Value)}, evp E xs = some vs → xs.map (fun (i, x) => (i, ρ x)) = vs
  | [], vs, h => by cases h; rfl
  |(i,x) :: xs,vs,h => by
    unfold evp at h
    cases hx : ev E x with
    | none => simp [hx] at h
    | some v =>
      cases hxs : evp E xs with
      | none => simp [hx, hxs] at h
      | some us =>
        simp only [hx, hxs, Option.some.injEq] at h
        rw [← h, List.map_cons]
        show (i, ρ x) :: _ = _
        rw [he x v hx, evp_map he hxs]
theorem F_build {parts : Array (Nat × Operand)} {vs : List Value} {ps : List (Nat × Value)} (hp : evp E parts.toList = some ps) (hb : P.built t ps = some vs.toArray) (hd : Nat.blt d n = true) (h : GoS P n w0 r Q ((d, .agg vs.toArray) :: E) L l) : GoS P n w0 r Q E L (⟨0, none, some d, .build t parts, ty⟩ :: l) :=
  S_read hd (fun ρ w he _ w' _ => by
    have e : (parts.map fun (i, x) => (i, ρ x)).toList = ps := by rw [Array.toList_map]; exact evp_map he hp
    have hr := run_build (P := P) w' t (parts.map fun (i, x) => (i, ρ x)) vs.toArray (by rw [e]; exact hb)
    simp [Stp.oper, execOp, hr]) h
/-- a test in a guard, both ways -/
theorem S_gsplit {s : Nat} {b c : Bool} {d : Option Nat} {op : Op} (hg : get E s = some (.bool c)) (ht : c = true → GoS P n w0 r Q ((s, .bool true) :: E) L (⟨k, some (s, b), d, op, ty⟩ :: l)) (hf : c = false → GoS P n w0 r Q ((s, .bool false) :: E) L (⟨k, some (s, b), d, op, ty⟩ :: l)) : GoS P n w0 r Q E L (⟨k, some (s, b), d, op, ty⟩ :: l) := S_split hg ht hf
theorem R_cellAll {p : Nat} (hp : get E p = some (.pointer (some ⟨b, 0, none⟩))) (hL : (.blk b t' cs) ∈ L) (ht : IsRw P t cs.length) : Res P n w0 E L (.cell p t) (.agg cs.toArray) := by
  obtain ⟨dT, hu, hs, hi⟩ := ht
  exact Res.cellAll hp hL hu hs hi
theorem R_cell1 {p : Nat} {v : Value} (hp : get E p = some (.pointer (some ⟨b, 0, none⟩))) (hL : (.blk b t' [v]) ∈ L) (ht : IsSc P t) : Res P n w0 E L (.cell p t) v := by
  obtain ⟨dT, hu, hs, _⟩ := ht
  exact Res.cell1 hp hL hu hs
theorem retN {v v' : Value} (h : v = v') : ∀ w, St w0 w L → RetN v' w0 (.returned v) w := fun _ hs => ⟨by rw [h], hs.ext⟩
theorem S_shl {p q : Int} (hx : ev E x = some (.int .i64 p)) (hy : ev E y = some (.int .i64 q)) (h0 : 0 ≤ q) (h1 : q ≤ 64) (hr : rng (p * 2 ^ q.toNat)) (hd : Nat.blt d n = true) (h : GoS P n w0 r Q ((d, .int .i64 (p * 2 ^ q.toNat)) :: E) L l) : GoS P n w0 r Q E L (⟨0, none, some d, .binOp .shl t x y t', ty⟩ :: l) :=
  S_read hd (fun ρ w he _ w' _ => by
    have hx := he _ _ hx
    have hy := he _ _ hy
    have e : IntKind.i64.wrap (p * 2 ^ q.toNat) = p * 2 ^ q.toNat := IntWalk.i64_in _ hr
    simp [Stp.oper, execOp, hx, hy, go_sem, e]) h
theorem S_remT {p q : Int} (hx : ev E x = some (.int .i64 p)) (hy : ev E y = some (.int .i64 q)) (hq : 0 < q) (hd : Nat.blt d n = true) (h : GoS P n w0 r Q ((d, .int .i64 (p.tmod q)) :: E) L l) : GoS P n w0 r Q E L (⟨0, none, some d, .binOp .rem t x y t', ty⟩ :: l) :=
  S_read hd (fun ρ w he _ w' _ => by
    have e : q ≠ 0 := by omega
    have hx := he _ _ hx
    have hy := he _ _ hy
    simp [Stp.oper, execOp, hx, hy, go_sem, e]) h
theorem S_quo {p q : Int} (hx : ev E x = some (.int .i64 p)) (hy : ev E y = some (.int .i64 q)) (hp : 0 ≤ p) (hq : 0 < q) (hr : rng p) (hd : Nat.blt d n = true) (h : GoS P n w0 r Q ((d, .int .i64 (p / q)) :: E) L l) : GoS P n w0 r Q E L (⟨0, none, some d, .binOp .quo t x y t', ty⟩ :: l) :=
  S_read hd (fun ρ w he _ w' _ => by
    have hx := he _ _ hx
    have hy := he _ _ hy
    have e : q ≠ 0 := by omega
    have e3 : p.tdiv q = p / q := Int.tdiv_eq_ediv_of_nonneg hp
    have e2 : IntKind.i64.wrap (p / q) = p / q := IntWalk.i64_in _ ⟨by have := Int.ediv_nonneg hp (Int.le_of_lt hq); omega, by have := Int.ediv_le_self q hp; unfold rng at hr; omega⟩
    simp [Stp.oper, execOp, hx, hy, go_sem, e, e3, e2]) h
/-- field i of struct t: where it lies and how many cells it has -/
def IsFs (P : Program) (t : TypeId) (i off m : Nat) : Prop := ∃ fs f, P.underlying t = some (.struct fs) ∧ fs.toList[i]? = some f ∧ f.offset = off ∧ (P.info? f.type).map (·.size) = some m
/-- a struct put together out of its parts -/
def BuildR (P : Program) (t : TypeId) : List Value → List (Nat × Value) → List Value → Prop
  | cs, [], vs => cs = vs
  | cs, (i, v) :: ps, vs => ∃ off m us c1, IsFs P t i off m ∧ v.cells.toList = us ∧ us.length = m ∧ SetSeg cs off us c1 ∧ BuildR P t c1 ps vs
theorem BuildR.nil {cs : List Value} : BuildR P t cs [] cs := rfl
theorem BuildR.cons {i off m : Nat} {v : Value} {cs us c1 vs : List Value} {ps : List (Nat × Value)} (h1 : IsFs P t i off m) (h2 : v.cells.toList = us) (h3 : us.length = m) (h4 : SetSeg cs off us c1) (h5 : BuildR P t c1 ps vs) : BuildR P t cs ((i, v) :: ps) vs := ⟨off, m, us, c1, h1, h2, h3, h4, h5⟩
theorem fold_seg (off : Nat) : ∀ (us : List Value) (j : Nat) (cs : Array Value), off + j + us.length ≤ cs.size → ((us.zipIdx j).foldl (fun cs (x : Value × Nat) => cs.setIfInBounds (off + x.2) x.1) cs).toList = cs.toList.take (off + j) ++ us ++ cs.toList.drop (off + j + us.length)
  | [], j, cs, _ => by simp
  | u :: us, j, cs, h => by
    simp only [List.length_cons] at h
    rw [List.zipIdx_cons, List.foldl_cons, fold_seg off us (j + 1) _ (by simp; omega)]
    have e := list_seg_step cs.toList (off + j) u us (by simp; omega)
    simpa [Array.toList_setIfInBounds, Nat.add_assoc] using e
theorem mapM_get {α β : Type} {f : α → Option β} : ∀ {l : List α} {r : List β}, l.mapM f = some r → ∀ (i : Nat) a, l[i]? = some a → ∃ b, f a = some b ∧ r[i]? = some b
  | [], r, _, i, a, h => by simp at h
  | x :: l, r, hm, i, a, h => by
    simp only [List.mapM_cons, Option.bind_eq_bind, Option.pure_def] at hm
    cases hx : f x with
    | none => simp [hx] at hm
    | some y =>
      cases hl : l.mapM f with
      | none => simp [hx, hl] at hm
      | some ys =>
        simp only [hx, hl, Option.bind_some, Option.some.injEq] at hm
        subst hm
        cases i with
        | zero => simp at h; subst h; exact ⟨y, hx, rfl⟩
        | succ i => simpa using mapM_get hl i a (by simpa using h)
theorem fill_of {fs : Array Field} {places : List (Nat × Nat)} (hu : P.underlying t = some (.struct fs)) (hpl : fs.toList.mapM (fun f => (P.info? f.type).map fun i => (f.offset, i.size)) = some places) :
    ∀ (ps : List (Nat × Value)) (cs : Array Value) (vs : List Value), BuildR P t cs.toList ps vs → Instr.fill (places.toArray[·]?) cs ps = some vs.toArray
  | [], cs, vs, h => by
    have h' : cs.toList = vs := h
    rw [← h']; rfl
  |(i,v) :: ps,cs,vs,h => by
    obtain ⟨off, m, us, c1, ⟨fs', f, hu', hf, ho, hm⟩, h2, h3, ⟨h4, h4'⟩, h5⟩ := h
    rw [hu] at hu'
    cases hu'
    obtain ⟨b, hb, hbi⟩ := mapM_get hpl i f hf
    cases hq : P.info? f.type with
    | none => simp [hq] at hm
    | some z =>
      have hz : z.size = m := by simpa [hq] using hm
      have hbe : b = (off, m) := by simp [hq] at hb; rw [← hb, ho, hz]
      subst hbe
      have hsz : v.cells.size = m := by rw [← h3, ← h2]; simp
      have hpi : (places.toArray[i]? : Option (Nat × Nat)) = some (off, m) := by simpa using hbi
      unfold Instr.fill
      simp only [hpi]
      have hle : ¬ (v.cells.size ≠ m ∨ off + v.cells.size > cs.size) := by
        have : cs.toList.length = cs.size := by simp
        omega
      have hc : (v.cells.zipIdx.foldl (fun cs (x : Value × Nat) => cs.setIfInBounds (off + x.2) x.1) cs) = c1.toArray := by
        apply Array.ext'
        have := fold_seg off us 0 cs (by have : cs.toList.length = cs.size := by simp
                                         omega)
        have e0 : v.cells = us.toArray := by rw [← h2]
        rw [h4', e0]
        simpa using this
      rw [if_neg (by simpa using hle)]
      exact (congrArg (fun c => Instr.fill (places.toArray[·]?) c ps) hc).trans (fill_of hu hpl ps c1.toArray vs h5)
theorem built_of {zs vs : List Value} {ps : List (Nat × Value)} {fs : Array Field} (hu : P.underlying t = some (.struct fs)) (hz : zc P t = some zs) (hpl : (fs.toList.mapM (fun f => (P.info? f.type).map fun i => (f.offset, i.size))).isSome = true) (h : BuildR P t zs ps vs) : P.built t ps = some vs.toArray := by
  obtain ⟨places, hp⟩ := Option.isSome_iff_exists.1 hpl
  unfold zc at hz
  cases hi : P.info? t with
  | none => simp [hi] at hz
  | some i =>
    cases hzz : i.zero with
    | none => simp [hi, hzz] at hz
    | some z =>
      have hz' : z.cells.toList = zs := by simpa [hi, hzz] using hz
      unfold Program.built
      simp only [hi, hu, hzz, hp]
      exact fill_of hu hp ps z.cells vs (by rw [hz']; exact h)
/-- every field of a struct has a type of its own -/
def IsSt (P : Program) (t : TypeId) (zs : List Value) : Prop := zc P t = some zs ∧ ∃ fs, P.underlying t = some (.struct fs) ∧ (fs.toList.mapM (fun f => (P.info? f.type).map fun i => (f.offset, i.size))).isSome = true
theorem F_build2 {parts : Array (Nat × Operand)} {zs vs : List Value} {ps : List (Nat × Value)} (hp : evp E parts.toList = some ps) (hz : IsSt P t zs) (hb : BuildR P t zs ps vs) (hd : Nat.blt d n = true) (h : GoS P n w0 r Q ((d, .agg vs.toArray) :: E) L l) : GoS P n w0 r Q E L (⟨0, none, some d, .build t parts, ty⟩ :: l) := by
  obtain ⟨h1, fs, h2, h3⟩ := hz
  exact F_build hp (built_of h2 h1 h3 hb) hd h
/-! guards: which rule can fit -/
theorem gS (h : GoS P n w0 r Q E L l) : GoS P n w0 r Q E L l := h
theorem gC {c : Code} (h : GoC P n w0 Q E L c) : GoC P n w0 Q E L c := h
theorem gE {e : Exit} (h : GoE n w0 Q E L e) : GoE n w0 Q E L e := h
theorem gReg {i : Nat} {ops : Array Oper} {b : Bool} (h : GoC P n w0 Q E L (.region i ops b)) : GoC P n w0 Q E L (.region i ops b) := h
theorem gGuard {s : Nat × Bool} {d : Option Nat} {op : Op} (h : GoS P n w0 r Q E L (⟨k, some s, d, op, ty⟩ :: l)) : GoS P n w0 r Q E L (⟨k, some s, d, op, ty⟩ :: l) := h
theorem gBin {g : Option (Nat × Bool)} {d : Option Nat} {op : BinOp} (h : GoS P n w0 r Q E L (⟨k, g, d, .binOp op t x y t', ty⟩ :: l)) : GoS P n w0 r Q E L (⟨k, g, d, .binOp op t x y t', ty⟩ :: l) := h
theorem gLoad {g : Option (Nat × Bool)} {d : Option Nat} (h : GoS P n w0 r Q E L (⟨k, g, d, .load t x, ty⟩ :: l)) : GoS P n w0 r Q E L (⟨k, g, d, .load t x, ty⟩ :: l) := h
theorem gStore {g : Option (Nat × Bool)} {d : Option Nat} (h : GoS P n w0 r Q E L (⟨k, g, d, .store t x y, ty⟩ :: l)) : GoS P n w0 r Q E L (⟨k, g, d, .store t x y, ty⟩ :: l) := h
theorem gCall {g : Option (Nat × Bool)} {d : Option Nat} {c : Call} (h : GoS P n w0 r Q E L (⟨k, g, d, .call c, ty⟩ :: l)) : GoS P n w0 r Q E L (⟨k, g, d, .call c, ty⟩ :: l) := h
theorem gPick {g : Option (Nat × Bool)} {d : Option Nat} {z : Operand} (h : GoS P n w0 r Q E L (⟨k, g, d, .pick z x y, ty⟩ :: l)) : GoS P n w0 r Q E L (⟨k, g, d, .pick z x y, ty⟩ :: l) := h
end
end Go.Proofs.Ytodhjpnfokkfeaa

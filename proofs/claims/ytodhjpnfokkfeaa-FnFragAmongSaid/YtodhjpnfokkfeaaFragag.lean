/- Slots looked for and struck by a function handed over. -/
import Derived.Test.YtodhjpnfokkfeaaFragaf
set_option linter.unusedSimpArgs false
set_option linter.unusedVariables false
namespace Go.Proofs.Ytodhjpnfokkfeaa
open Go Go.RowKit
attribute [local irreducible] Calls GoS GoC GoE GoT Mid IsEq IsFl IsSc IsRw IsSl IsEl IsSt IsFs sp Mem Rd LenOf szR joinC alikeC likeC
theorem rng_blk {w0 w : World} {L : List Blk} {b : Nat} {t : TypeId} {cs : List Value} (hs : St w0 w L) (h : .blk b t cs ∈ L) : w.rangeAt b 0 cs := fun j v hj => by
  rw [Nat.zero_add, (hs.own _ h).2.cell]
  exact hj
theorem rng_ext {w w' : World} {b : Nat} {cs : List Value} (h : w.rangeAt b 0 cs) (k : Ext w w') : w'.rangeAt b 0 cs := fun j v hj => k.cell (h j v hj)
/-- the first slot of which p holds -/
def firstOf (p : MFragSlot → Bool) (l : List MFragSlot) (n : Int) : Prop := (n = -1 ∧ ∀ j, j < l.length → p (ix l j) = false) ∨ ∃ k : Nat, n = (k : Int) ∧ k < l.length ∧ p (ix l k) = true ∧ ∀ j, j < k → p (ix l j) = false
/-- called with a slot the function says p of it -/
def Says (f : FuncId) (c : Value) (p : MFragSlot → Bool) (l : List MFragSlot) (w : World) : Prop := ∀ y ∈ l, Calls Try.prog f #[.agg (clFragSlot y).toArray, c] w (RetN (.bool (p y)) w)
set_option maxRecDepth 8192 in
theorem idxSlots_c (f : FuncId) (hf : plainFn Try.prog f = true) (c : Value) (p : MFragSlot → Bool) (v : Value) (l : List MFragSlot) (w : World) (hm : Mem w v 3 l.length (l.flatMap clFragSlot)) (hs : ∀ w', Ext w w' → Says f c p l w') : Calls Try.prog 86 #[v, .func (.func f) #[] #[c]] w (RetX (firstOf p l) (fun n => .int .i64 n) (fun _ => []) w) := by
  have hlen := hm.len
  simp only [maxLen] at hlen
  refine enter (n := 19) (E := [(0, _), (1, _)]) Try.func86 rfl rfl rfl rfl ?_
  repeat' (first
    |(refine gS ?_;(first
        |(refine S_move rfl rfl ?_)
        |(refine S_assign rfl rfl ?_)
        |(refine gCall ?_;(first
            |(apply F_len rfl rfl rfl;(focus exact ⟨_,_,by exact T.sl43⟩);(focus (first|exact len_nil|(apply len_given;assumption)|(apply len_row;(focus ((repeat (first|exact mH|refine mT ?_));done)))|(apply len_isN;assumption))))))
        |(refine S_done ?_)))
    |(refine gC ?_;(first
        |(refine C_seq ?_)
        |(refine gReg ?_;(first
            |(refine gReg (i := 0) ?_;refine C_plain [(0,0)] (by kernel_rfl) (s := [⟨0,none,_,_,_⟩]) rfl ?_)
            |(refine gReg (i := 1) ?_;refine C_plain [(0,0),(1,0),(2,0)] (by kernel_rfl) (s := [⟨0,none,_,_,_⟩,⟨0,none,_,_,_⟩,⟨0,none,_,_,_⟩]) rfl ?_)))
        |(refine C_block ?_)))
    |(refine gE ?_;(first
        |(refine E_then ?_))))
  refine C_loop (α := Nat) (fun k => [(8, .int .i64 (k : Int)), (7, .int .i64 (l.length : Int)), (0, v), (1, .func (.func f) #[] #[c])]) (fun _ => []) (fun k => k ≤ l.length ∧ ∀ j, j < k → p (ix l j) = false) (fun k => l.length - k) 0 ⟨by omega, fun j h => by omega⟩ ⟨rfl, rfl, rfl, rfl, trivial⟩ (List.Sublist.refl _) ?_
  rintro k ⟨hk, ha⟩
  obtain ⟨rk, hrk⟩ : ∃ c, p (ix l k) = c := ⟨_, rfl⟩
  try dsimp only
  repeat' (first
    |(refine gS ?_;(first
        |(refine S_move rfl rfl ?_)
        |(refine S_assign rfl rfl ?_)
        |(apply F_idx rfl rfl rfl;exact T.sl43;(focus rfl);(focus (first|exact len_nil|(apply len_given;assumption)|(apply len_row;(focus ((repeat (first|exact mH|refine mT ?_));done)))|(apply len_isN;assumption)));(focus omega))
        |(refine gLoad ?_;(first
            |(apply F_loadSN rfl rfl;exact T.rw67;(focus (first|exact rd_nil|(apply rd_given;(focus assumption);(focus (first|exact freeG0|exact freeG1)))|(apply rd_row;(focus ((repeat (first|exact mH|refine mT ?_));done));(focus (first|exact freeR0|exact freeR1)))));(focus (first|(focus (apply at_flat;(focus (intro _;rfl));(focus assumption)))|exact at_self));rfl;rfl)))
        |(refine gCall ?_;(first
            |((refine S_callN (f := f) rfl hf rfl (fun w hst => (hrk ▸ hs w hst.ext _ (List.mem_of_getElem? hx))) rfl ?_))
            |(refine S_callC rfl ?_)))
        |(refine gBin ?_;(first
            |(refine S_lss rfl rfl rfl ?_)
            |(refine S_add rfl rfl ?_ rfl ?_;(focus (unfold rng;omega)))))
        |(refine S_done ?_)))
    |(refine gC ?_;(first
        |(refine C_seq ?_)
        |(refine gReg ?_;(first
            |(refine gReg (i := 2) ?_;refine C_plain [(0,0)] (by kernel_rfl) (s := [⟨0,none,_,_,_⟩]) rfl ?_)
            |(refine gReg (i := 3) ?_;refine C_plain [(0,0),(1,0)] (by kernel_rfl) (s := [⟨0,none,_,_,_⟩,⟨0,none,_,_,_⟩]) rfl ?_)
            |(refine gReg (i := 4) ?_;refine C_plain [(0,0),(1,0),(2,0),(3,0),(4,0),(5,2)] (by kernel_rfl) (s := [⟨0,none,_,_,_⟩,⟨0,none,_,_,_⟩,⟨0,none,_,_,_⟩,⟨0,none,_,_,_⟩,⟨0,none,_,_,_⟩,⟨2,none,_,_,_⟩]) rfl ?_)
            |(refine gReg (i := 5) ?_;refine C_plain [(0,0),(1,0)] (by kernel_rfl) (s := [⟨0,none,_,_,_⟩,⟨0,none,_,_,_⟩]) rfl ?_)
            |(refine gReg (i := 6) ?_;refine C_plain [(0,0),(1,0)] (by kernel_rfl) (s := [⟨0,none,_,_,_⟩,⟨0,none,_,_,_⟩]) rfl ?_)
            |(refine gReg (i := 7) ?_;refine C_plain [(0,0)] (by kernel_rfl) (s := [⟨0,none,_,_,_⟩]) rfl ?_)))
        |(refine C_split rfl ?_ ?_ <;> (intro hb;(try simp only [decide_eq_true_eq] at hb);(try simp only [decide_eq_false_iff_not] at hb);(try simp only [Bool.not_eq_true'] at hb);(try simp only [Bool.not_eq_false'] at hb);(try (exfalso;first|contradiction|omega));(try (have hx := nthD (l := l) (k := k) hb))))
        |(refine C_skip ?_)
        |(refine C_exit ?_)
        |(refine C_ret ?_)
        |(refine C_block ?_)))
    |(refine gE ?_;(first
        |(refine E_then ?_)
        |(refine E_thenX ?_)
        |(refine E_thenR ?_)
        |(refine E_block ?_)
        |(refine E_blockY ?_)
        |(refine E_blockR ?_)
        |(apply E_ret1 rfl;(first|exact Res.tmp rfl|(apply R_cellAll rfl;(focus ((repeat (first|exact mH|refine mT ?_));done));exact T.rw67)|(apply R_cell1 rfl;(focus ((repeat (first|exact mH|refine mT ?_));done));fail))))))
  · have hrt : rk = true := by assumption
    exact retX (k : Int) (.inr ⟨k, rfl, by omega, hrk.trans hrt, ha⟩) rfl (Ent.pull Pull.nil)
  · have hrf : rk = false := by assumption
    refine E_round (α := Nat) (k + 1) ⟨by omega, fun j hj => ?_⟩ (by omega) ⟨rfl, rfl, rfl, rfl, trivial⟩ (List.nil_sublist _)
    rcases Nat.lt_or_ge j k with h | h
    · exact ha j h
    · have e : j = k := by omega
      rw [e, hrk, hrf]
  · have e : k = l.length := by omega
    exact retX (-1 : Int) (.inl ⟨rfl, fun j hj => ha j (by omega)⟩) rfl (Ent.pull Pull.nil)
def zeroSlot : MFragSlot := ((.slice none 0 0, []), 0, false)
theorem zero_flat (n : Nat) : (List.replicate n [Value.slice none 0 0, .int .i64 0, .bool false]).flatten = (List.replicate n zeroSlot).flatMap clFragSlot := by
  induction n with
  | zero => rfl
  | succ n ih => rw [List.replicate_succ, List.replicate_succ, List.flatten_cons, List.flatMap_cons, ih]; rfl
theorem clear_row {l : List MFragSlot} {i : Nat} (hi : i ≤ l.length) : setAt (l.flatMap clFragSlot) (i * 3) (List.replicate (l.length - i) [Value.slice none 0 0, .int .i64 0, .bool false]).flatten = (l.take i ++ List.replicate (l.length - i) zeroSlot).flatMap clFragSlot := by
  have h1 : ((l.take i).flatMap clFragSlot).length = i * 3 := by rw [flat_len (m := 3) (fun _ => rfl), List.length_take, Nat.min_eq_left hi]
  have h2 : l.flatMap clFragSlot = (l.take i).flatMap clFragSlot ++ (l.drop i).flatMap clFragSlot := by rw [← List.flatMap_append, List.take_append_drop]
  have h3 := rep_flat_len (zs := [Value.slice none 0 0, .int .i64 0, .bool false]) (m := 3) rfl (l.length - i)
  have h4 : (l.flatMap clFragSlot).length = l.length * 3 := flat_len (m := 3) (fun _ => rfl) l
  unfold setAt
  rw [h3, List.drop_eq_nil_of_le (by rw [h4]; omega), List.append_nil, h2, ← h1, List.take_left' rfl, zero_flat, List.flatMap_append]
/-- what holds of the row while it is gone through: i slots kept of the first j -/
structure Mid2 (p : MFragSlot → Bool) (l cur : List MFragSlot) (i j : Nat) : Prop where
  len : cur.length = l.length
  ij : i ≤ j
  jn : j ≤ l.length
  kept : cur.take i = (l.take j).filter (fun y => !p y)
  rest : cur.drop j = l.drop j
end Go.Proofs.Ytodhjpnfokkfeaa

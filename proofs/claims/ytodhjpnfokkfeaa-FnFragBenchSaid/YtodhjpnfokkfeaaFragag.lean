/- Slots looked for and struck by a function handed over. -/
import Derived.Test.YtodhjpnfokkfeaaFragaf
set_option linter.unusedSimpArgs false
set_option linter.unusedVariables false
namespace Go.Proofs.Ytodhjpnfokkfeaa
open Go Go.RowKit
attribute [local irreducible] Calls GoS GoC GoE GoT Mid IsEq IsFl IsSc IsRw IsSl IsEl IsSt IsFs sp Mem Rd LenOf szR joinC alikeC likeC
theorem rng_blk {w0 w : World} {L : List Blk} {b : Nat} {t : TypeId} {cs : List Value} (hs : St w0 w L) (h : .blk b t cs ∈ L) : w.rangeAt b 0 cs := fun j v hj => by
  rw [Nat.zero_add, (hs.own _ h).2.cell]
  exact hj
theorem rng_ext {w w' : World} {b : Nat} {cs : List Value} (h : w.rangeAt b 0 cs) (k : Ext w w') : w'.rangeAt b 0 cs := fun j v hj => k.cell (h j v hj)
theorem set_row {α : Type} {f : α → List Value} {m : Nat} (hm : ∀ x, (f x).length = m) {l : List α} {k : Nat} (hk : k < l.length) (x : α) : setAt (l.flatMap f) (k * m) (f x) = (l.set k x).flatMap f := by
  have h5 : l.set k x = l.take k ++ x :: l.drop (k + 1) := List.set_eq_take_append_cons_drop.trans (if_pos hk)
  have h1 : ((l.take k).flatMap f).length = k * m := by rw [flat_len hm, List.length_take]; congr 1; omega
  have h2 : l.flatMap f = (l.take k).flatMap f ++ (l.drop k).flatMap f := by rw [← List.flatMap_append, List.take_append_drop]
  have h3 : l.flatMap f = (l.take (k + 1)).flatMap f ++ (l.drop (k + 1)).flatMap f := by rw [← List.flatMap_append, List.take_append_drop]
  have h4 : ((l.take (k + 1)).flatMap f).length = k * m + m := by rw [flat_len hm, List.length_take, Nat.min_eq_left (by omega), Nat.add_mul]; omega
  rw [h5, List.flatMap_append, List.flatMap_cons]
  unfold setAt
  rw [hm, ← List.append_assoc]
  congr 1
  · congr 1
    rw [h2, ← h1, List.take_left' rfl]
  · rw [h3, ← h4, List.drop_left' rfl]
/-- the first slot of which p holds -/
def firstOf (p : MFragSlot → Bool) (l : List MFragSlot) (n : Int) : Prop := (n = -1 ∧ ∀ j, j < l.length → p (ix l j) = false) ∨ ∃ k : Nat, n = (k : Int) ∧ k < l.length ∧ p (ix l k) = true ∧ ∀ j, j < k → p (ix l j) = false
/-- called with a slot the function says p of it -/
def Says (f : FuncId) (c : Value) (p : MFragSlot → Bool) (l : List MFragSlot) (w : World) : Prop := ∀ y ∈ l, Calls Try.prog f #[.agg (clFragSlot y).toArray, c] w (RetN (.bool (p y)) w)
set_option maxRecDepth 8192 in
theorem idxSlots_c (f : FuncId) (hf : plainFn Try.prog f = true) (c : Value) (p : MFragSlot → Bool) (v : Value) (l : List MFragSlot) (w : World) (hm : Mem w v 3 l.length (l.flatMap clFragSlot)) (hs : ∀ w', Ext w w' → Says f c p l w') : Calls Try.prog 86 #[v, .func (.func f) #[] #[c]] w (RetX (firstOf p l) (fun n => .int .i64 n) (fun _ => []) w) := by
  have hlen := hm.len
  simp only [maxLen] at hlen
  refine enter (n := 19) (E := [(0, _), (1, _)]) Try.func86 rfl rfl rfl rfl ?_
  repeat' (first
    |(refine gS ?_;(first
        |(refine S_move rfl rfl ?_)
        |(refine S_assign rfl rfl ?_)
        |(refine gCall ?_;(first
            |(apply F_len rfl rfl rfl;(focus exact ⟨_,_,by exact T.sl43⟩);(focus (first|exact len_nil|(apply len_given;assumption)|(apply len_row;(focus ((repeat (first|exact mH|refine mT ?_));done)))|(apply len_isN;assumption))))))
        |(refine S_done ?_)))
    |(refine gC ?_;(first
        |(refine C_seq ?_)
        |(refine gReg ?_;(first
            |(refine gReg (i := 0) ?_;refine C_plain [(0,0)] (by kernel_rfl) (s := [⟨0,none,_,_,_⟩]) rfl ?_)
            |(refine gReg (i := 1) ?_;refine C_plain [(0,0),(1,0),(2,0)] (by kernel_rfl) (s := [⟨0,none,_,_,_⟩,⟨0,none,_,_,_⟩,⟨0,none,_,_,_⟩]) rfl ?_)))
        |(refine C_block ?_)))
    |(refine gE ?_;(first
        |(refine E_then ?_))))
  refine C_loop (α := Nat) (fun k => [(8, .int .i64 (k : Int)), (7, .int .i64 (l.length : Int)), (0, v), (1, .func (.func f) #[] #[c])]) (fun _ => []) (fun k => k ≤ l.length ∧ ∀ j, j < k → p (ix l j) = false) (fun k => l.length - k) 0 ⟨by omega, fun j h => by omega⟩ ⟨rfl, rfl, rfl, rfl, trivial⟩ (List.Sublist.refl _) ?_
  rintro k ⟨hk, ha⟩
  obtain ⟨rk, hrk⟩ : ∃ c, p (ix l k) = c := ⟨_, rfl⟩
  try dsimp only
  repeat' (first
    |(refine gS ?_;(first
        |(refine S_move rfl rfl ?_)
        |(refine S_assign rfl rfl ?_)
        |(apply F_idx rfl rfl rfl;exact T.sl43;(focus rfl);(focus (first|exact len_nil|(apply len_given;assumption)|(apply len_row;(focus ((repeat (first|exact mH|refine mT ?_));done)))|(apply len_isN;assumption)));(focus omega))
        |(refine gLoad ?_;(first
            |(apply F_loadSN rfl rfl;exact T.rw67;(focus (first|exact rd_nil|(apply rd_given;(focus assumption);(focus (first|exact freeG0|exact freeG1)))|(apply rd_row;(focus ((repeat (first|exact mH|refine mT ?_));done));(focus (first|exact freeR0|exact freeR1)))));(focus (first|(focus (apply at_flat;(focus (intro _;rfl));(focus assumption)))|exact at_self));rfl;rfl)))
        |(refine gCall ?_;(first
            |((refine S_callN (f := f) rfl hf rfl (fun w hst => (hrk ▸ hs w hst.ext _ (List.mem_of_getElem? hx))) rfl ?_))
            |(refine S_callC rfl ?_)))
        |(refine gBin ?_;(first
            |(refine S_lss rfl rfl rfl ?_)
            |(refine S_add rfl rfl ?_ rfl ?_;(focus (unfold rng;omega)))))
        |(refine S_done ?_)))
    |(refine gC ?_;(first
        |(refine C_seq ?_)
        |(refine gReg ?_;(first
            |(refine gReg (i := 2) ?_;refine C_plain [(0,0)] (by kernel_rfl) (s := [⟨0,none,_,_,_⟩]) rfl ?_)
            |(refine gReg (i := 3) ?_;refine C_plain [(0,0),(1,0)] (by kernel_rfl) (s := [⟨0,none,_,_,_⟩,⟨0,none,_,_,_⟩]) rfl ?_)
            |(refine gReg (i := 4) ?_;refine C_plain [(0,0),(1,0),(2,0),(3,0),(4,0),(5,2)] (by kernel_rfl) (s := [⟨0,none,_,_,_⟩,⟨0,none,_,_,_⟩,⟨0,none,_,_,_⟩,⟨0,none,_,_,_⟩,⟨0,none,_,_,_⟩,⟨2,none,_,_,_⟩]) rfl ?_)
            |(refine gReg (i := 5) ?_;refine C_plain [(0,0),(1,0)] (by kernel_rfl) (s := [⟨0,none,_,_,_⟩,⟨0,none,_,_,_⟩]) rfl ?_)
            |(refine gReg (i := 6) ?_;refine C_plain [(0,0),(1,0)] (by kernel_rfl) (s := [⟨0,none,_,_,_⟩,⟨0,none,_,_,_⟩]) rfl ?_)
            |(refine gReg (i := 7) ?_;refine C_plain [(0,0)] (by kernel_rfl) (s := [⟨0,none,_,_,_⟩]) rfl ?_)))
        |(refine C_split rfl ?_ ?_ <;> (intro hb;(try simp only [decide_eq_true_eq] at hb);(try simp only [decide_eq_false_iff_not] at hb);(try simp only [Bool.not_eq_true'] at hb);(try simp only [Bool.not_eq_false'] at hb);(try (exfalso;first|contradiction|omega));(try (have hx := nthD (l := l) (k := k) hb))))
        |(refine C_skip ?_)
        |(refine C_exit ?_)
        |(refine C_ret ?_)
        |(refine C_block ?_)))
    |(refine gE ?_;(first
        |(refine E_then ?_)
        |(refine E_thenX ?_)
        |(refine E_thenR ?_)
        |(refine E_block ?_)
        |(refine E_blockY ?_)
        |(refine E_blockR ?_)
        |(apply E_ret1 rfl;(first|exact Res.tmp rfl|(apply R_cellAll rfl;(focus ((repeat (first|exact mH|refine mT ?_));done));exact T.rw67)|(apply R_cell1 rfl;(focus ((repeat (first|exact mH|refine mT ?_));done));fail))))))
  · have hrt : rk = true := by assumption
    exact retX (k : Int) (.inr ⟨k, rfl, by omega, hrk.trans hrt, ha⟩) rfl (Ent.pull Pull.nil)
  · have hrf : rk = false := by assumption
    refine E_round (α := Nat) (k + 1) ⟨by omega, fun j hj => ?_⟩ (by omega) ⟨rfl, rfl, rfl, rfl, trivial⟩ (List.nil_sublist _)
    rcases Nat.lt_or_ge j k with h | h
    · exact ha j h
    · have e : j = k := by omega
      rw [e, hrk, hrf]
  · have e : k = l.length := by omega
    exact retX (-1 : Int) (.inl ⟨rfl, fun j hj => ha j (by omega)⟩) rfl (Ent.pull Pull.nil)
theorem filter_all {p : MFragSlot → Bool} {l : List MFragSlot} (h : ∀ j, j < l.length → p (ix l j) = false) : l.filter (fun y => !p y) = l := by
  refine List.filter_eq_self.2 fun y hy => ?_
  obtain ⟨j, hj⟩ := List.getElem?_of_mem hy
  have hlt : j < l.length := (List.getElem?_eq_some_iff.1 hj).1
  have e : y = ix l j := Option.some.inj (hj.symm.trans (nthD (by omega)))
  rw [e, h j hlt]; rfl
theorem filter_step {p : MFragSlot → Bool} {l : List MFragSlot} {j : Nat} {x : MFragSlot} (h : l[j]? = some x) : (l.take (j + 1)).filter (fun y => !p y) = (l.take j).filter (fun y => !p y) ++ (if p x then [] else [x]) := by
  rw [take_snoc h, List.filter_append]
  cases hp : p x <;> simp [hp]
def zeroSlot : MFragSlot := ((.slice none 0 0, []), 0, false)
theorem zero_flat (n : Nat) : (List.replicate n [Value.slice none 0 0, .int .i64 0, .bool false]).flatten = (List.replicate n zeroSlot).flatMap clFragSlot := by
  induction n with
  | zero => rfl
  | succ n ih => rw [List.replicate_succ, List.replicate_succ, List.flatten_cons, List.flatMap_cons, ih]; rfl
theorem clear_row {l : List MFragSlot} {i : Nat} (hi : i ≤ l.length) : setAt (l.flatMap clFragSlot) (i * 3) (List.replicate (l.length - i) [Value.slice none 0 0, .int .i64 0, .bool false]).flatten = (l.take i ++ List.replicate (l.length - i) zeroSlot).flatMap clFragSlot := by
  have h1 : ((l.take i).flatMap clFragSlot).length = i * 3 := by rw [flat_len (m := 3) (fun _ => rfl), List.length_take, Nat.min_eq_left hi]
  have h2 : l.flatMap clFragSlot = (l.take i).flatMap clFragSlot ++ (l.drop i).flatMap clFragSlot := by rw [← List.flatMap_append, List.take_append_drop]
  have h3 := rep_flat_len (zs := [Value.slice none 0 0, .int .i64 0, .bool false]) (m := 3) rfl (l.length - i)
  have h4 : (l.flatMap clFragSlot).length = l.length * 3 := flat_len (m := 3) (fun _ => rfl) l
  unfold setAt
  rw [h3, List.drop_eq_nil_of_le (by rw [h4]; omega), List.append_nil, h2, ← h1, List.take_left' rfl, zero_flat, List.flatMap_append]
/-- what holds of the row while it is gone through: i slots kept of the first j -/
structure Mid2 (p : MFragSlot → Bool) (l cur : List MFragSlot) (i j : Nat) : Prop where
  len : cur.length = l.length
  ij : i ≤ j
  jn : j ≤ l.length
  kept : cur.take i = (l.take j).filter (fun y => !p y)
  rest : cur.drop j = l.drop j
theorem Mid2.start {p : MFragSlot → Bool} {l : List MFragSlot} {k : Nat} (hk : k < l.length) (hp : p (ix l k) = true) (ha : ∀ j, j < k → p (ix l j) = false) : Mid2 p l l k (k + 1) := by
  refine ⟨rfl, by omega, by omega, ?_, rfl⟩
  have hx := nthD (l := l) (k := k) (by omega)
  rw [filter_step hx, hp, if_pos rfl, List.append_nil]
  refine (List.filter_eq_self.2 fun y hy => ?_).symm
  obtain ⟨j, hj⟩ := List.getElem?_of_mem hy
  have hlt : j < (l.take k).length := (List.getElem?_eq_some_iff.1 hj).1
  rw [List.length_take] at hlt
  rw [List.getElem?_take_of_lt (by omega), nthD (show (j : Int) < (l.length : Int) by omega)] at hj
  rw [← Option.some.inj hj, ha j (by omega)]; rfl
theorem Mid2.at {p : MFragSlot → Bool} {l cur : List MFragSlot} {i j : Nat} (h : Mid2 p l cur i j) (hj : (j : Int) < (l.length : Int)) : cur[j]? = some (ix l j) ∧ ix l j ∈ l := by
  have h1 := nthD (l := l) (k := j) hj
  refine ⟨?_, List.mem_of_getElem? h1⟩
  have h2 : (cur.drop j)[0]? = (l.drop j)[0]? := by rw [h.rest]
  rw [List.getElem?_drop, List.getElem?_drop, Nat.add_zero] at h2
  rw [h2, h1]
theorem Mid2.skip {p : MFragSlot → Bool} {l cur : List MFragSlot} {i j : Nat} (h : Mid2 p l cur i j) (hj : j < l.length) (hp : p (ix l j) = true) : Mid2 p l cur i (j + 1) := by
  refine ⟨h.len, by have := h.ij; omega, by omega, ?_, ?_⟩
  · rw [filter_step (nthD (l := l) (k := j) (by omega)), hp, if_pos rfl, List.append_nil, h.kept]
  · rw [← List.drop_drop, h.rest, List.drop_drop]
theorem Mid2.keep {p : MFragSlot → Bool} {l cur : List MFragSlot} {i j : Nat} (h : Mid2 p l cur i j) (hj : j < l.length) (hp : p (ix l j) = false) : Mid2 p l (cur.set i (ix l j)) (i + 1) (j + 1) := by
  have hij := h.ij
  have hil : i < cur.length := by rw [h.len]; omega
  refine ⟨by rw [List.length_set, h.len], by omega, by omega, ?_, ?_⟩
  · rw [filter_step (nthD (l := l) (k := j) (by omega)), hp, ← h.kept]
    rw [take_snoc (x := ix l j) (by rw [List.getElem?_set_self hil]), List.take_set_of_le (Nat.le_refl _)]
    rfl
  · rw [List.drop_set_of_lt (by omega), ← List.drop_drop, h.rest, List.drop_drop]
set_option maxRecDepth 8192 in
theorem delSlots_c (f : FuncId) (hf : plainFn Try.prog f = true) (c : Value) (p : MFragSlot → Bool) (v : Value) (l : List MFragSlot) {w0 : World} (R : List Blk) (hs : ∀ w' cur, St w0 w' (.row v 67 3 l.length cur :: R) → ∀ u, Ext w' u → Says f c p l u) (hone : ∀ y ∈ l, (clFragSlot y).all (·.oneCell') = true) (w : World) (hst0 : St w0 w ([.row v 67 3 l.length (l.flatMap clFragSlot)] ++ R)) : Calls Try.prog 78 #[v, .func (.func f) #[] #[c]] w (RetS w0 R (fun u : MSFragSlot => u.2 = l.filter (fun y => !p y)) (fun u => u.1) (fun u => [.row u.1 67 3 u.2.length (u.2.flatMap clFragSlot)])) := by
  have hs' := hst0
  rw [List.singleton_append] at hs'
  have hlen : l.length ≤ maxLen := (Mem.row hs' (List.Mem.head _)).len
  simp only [maxLen] at hlen
  refine enterS (n := 42) (E := [(0, _), (1, _)]) Try.func78 rfl rfl rfl rfl hs' ?_
  repeat' (first
    |(refine gS ?_;(first
        |(refine S_move rfl rfl ?_)
        |(refine S_assign rfl rfl ?_)
        |(refine gCall ?_;(first
            |(show GoS _ _ _ _ _ _ _ (⟨_,_,_,.call ⟨.value (.func 86),_,_⟩,_⟩ :: _);refine S_callX (f := 86) rfl T.pf86 rfl (fun w hst => idxSlots_c f hf c p v l w (Mem.row hst (List.Mem.head _)) (fun u hu => hs w _ hst u hu)) rfl (fun zz hzz => ?_);simp only [List.cons_append,List.nil_append];revert hzz;revert zz;intro n hn)))
        |(refine gBin ?_;(first
            |(refine S_eql rfl rfl rfl ?_)))
        |(refine S_done ?_)))
    |(refine gC ?_;(first
        |(refine C_seq ?_)
        |(refine gReg ?_;(first
            |(refine gReg (i := 0) ?_;refine C_plain [(0,0)] (by kernel_rfl) (s := [⟨0,none,_,_,_⟩]) rfl ?_)
            |(refine gReg (i := 1) ?_;refine C_plain [(0,0),(1,0),(2,2),(3,0)] (by kernel_rfl) (s := [⟨0,none,_,_,_⟩,⟨0,none,_,_,_⟩,⟨2,none,_,_,_⟩,⟨0,none,_,_,_⟩]) rfl ?_)
            |(refine gReg (i := 2) ?_;refine C_plain [(0,0),(1,0)] (by kernel_rfl) (s := [⟨0,none,_,_,_⟩,⟨0,none,_,_,_⟩]) rfl ?_)
            |(refine gReg (i := 3) ?_;refine C_plain [(0,0),(1,0)] (by kernel_rfl) (s := [⟨0,none,_,_,_⟩,⟨0,none,_,_,_⟩]) rfl ?_)))
        |(refine C_split rfl ?_ ?_ <;> (intro hb;(try simp only [decide_eq_true_eq] at hb);(try simp only [decide_eq_false_iff_not] at hb);(try simp only [Bool.not_eq_true'] at hb);(try simp only [Bool.not_eq_false'] at hb);(try (exfalso;first|contradiction|omega))))
        |(refine C_skip ?_)
        |(refine C_ret ?_)))
    |(refine gE ?_;(first
        |(refine E_then ?_)
        |(refine E_thenR ?_)
        |(apply E_ret1 rfl;(first|exact Res.tmp rfl|(apply R_cellAll rfl;(focus ((repeat (first|exact mH|refine mT ?_));done));exact T.rw67)|(apply R_cell1 rfl;(focus ((repeat (first|exact mH|refine mT ?_));done));fail))))))
  · refine retS (v, l) ?_ rfl (by rw [List.singleton_append]; exact Ent.refl)
    rcases hn with ⟨_, h⟩ | ⟨k, h, hk, _⟩
    · exact (filter_all h).symm
    · omega
  rcases hn with ⟨h, _⟩ | ⟨k, rfl, hk, hp, ha⟩
  · exact absurd h (by assumption)
  have hst1 := Mid2.start hk hp ha
  repeat' (first
    |(refine gS ?_;(first
        |(refine S_move rfl rfl ?_)
        |(refine S_assign rfl rfl ?_)
        |(refine gBin ?_;(first
            |(refine S_add rfl rfl ?_ rfl ?_;(focus (unfold rng;omega)))))
        |(refine S_done ?_)))
    |(refine gC ?_;(first
        |(refine gReg ?_;(first
            |(refine gReg (i := 4) ?_;refine C_plain [(0,0),(1,0),(2,0)] (by kernel_rfl) (s := [⟨0,none,_,_,_⟩,⟨0,none,_,_,_⟩,⟨0,none,_,_,_⟩]) rfl ?_)))
        |(refine C_block ?_)))
    |(refine gE ?_;(first
        |(refine E_then ?_))))
  refine C_loop (α := Nat × Nat × List MFragSlot) (fun s => [(6, .int .i64 (s.2.1 : Int)), (5, .int .i64 (s.1 : Int)), (0, v), (1, .func (.func f) #[] #[c])]) (fun s => .row v 67 3 l.length (s.2.2.flatMap clFragSlot) :: R) (fun s => Mid2 p l s.2.2 s.1 s.2.1) (fun s => l.length - s.2.1) (k, k + 1, l) hst1 ⟨rfl, rfl, rfl, rfl, trivial⟩ (List.Sublist.refl _) ?_
  rintro ⟨i, j, cur⟩ hmid
  dsimp only at *
  have hij := hmid.ij
  have hjn := hmid.jn
  have hcl := hmid.len
  obtain ⟨rj, hrj⟩ : ∃ c, p (ix l j) = c := ⟨_, rfl⟩
  repeat' (first
    |(refine gS ?_;(first
        |(refine S_move rfl rfl ?_)
        |(refine S_assign rfl rfl ?_)
        |(apply F_idx rfl rfl rfl;exact T.sl43;(focus rfl);(focus (first|(focus (first|exact len_nil|(apply len_given;assumption)|(apply len_row;(focus ((repeat (first|exact mH|refine mT ?_));done)))|(apply len_isN;assumption)))|(apply len_sub;(focus (first|exact len_nil|(apply len_given;assumption)|(apply len_row;(focus ((repeat (first|exact mH|refine mT ?_));done)))|(apply len_isN;assumption)));(focus omega);(focus omega))));(focus omega))
        |(apply F_slice rfl rfl;exact T.sl43;(focus (first|(focus (first|exact len_nil|(apply len_given;assumption)|(apply len_row;(focus ((repeat (first|exact mH|refine mT ?_));done)))|(apply len_isN;assumption)))|(apply len_sub;(focus (first|exact len_nil|(apply len_given;assumption)|(apply len_row;(focus ((repeat (first|exact mH|refine mT ?_));done)))|(apply len_isN;assumption)));(focus omega);(focus omega))));(focus exact ⟨_,_,rfl,by omega,rfl⟩);(focus exact rfl);(focus omega);(focus omega))
        |(apply F_slice rfl rfl;exact T.sl43;(focus (first|(focus (first|exact len_nil|(apply len_given;assumption)|(apply len_row;(focus ((repeat (first|exact mH|refine mT ?_));done)))|(apply len_isN;assumption)))|(apply len_sub;(focus (first|exact len_nil|(apply len_given;assumption)|(apply len_row;(focus ((repeat (first|exact mH|refine mT ?_));done)))|(apply len_isN;assumption)));(focus omega);(focus omega))));(focus exact rfl);(focus exact ⟨_,_,rfl,by omega,rfl⟩);(focus omega);(focus omega))
        |(refine gLoad ?_;(first
            |(apply F_loadAll rfl rfl;(focus ((repeat (first|exact mH|refine mT ?_));done));exact T.rw67;(focus (first|exact free0|exact free1)))
            |(apply F_loadSN rfl rfl;exact T.rw67;(focus (first|exact rd_nil|(apply rd_given;(focus assumption);(focus (first|exact freeG0|exact freeG1)))|(apply rd_row;(focus ((repeat (first|exact mH|refine mT ?_));done));(focus (first|exact freeR0|exact freeR1)))|(apply rd_sub;(focus (apply rd_given;(focus assumption);(focus (first|exact freeG0|exact freeG1))));(focus (intro _;rfl));(focus omega);(focus omega))|(apply rd_sub;(focus (apply rd_row;(focus ((repeat (first|exact mH|refine mT ?_));done));(focus (first|exact freeR0|exact freeR1))));(focus (intro _;rfl));(focus omega);(focus omega))));(focus (first|(focus (apply at_flat;(focus (intro _;rfl));(focus assumption)))|exact at_self));rfl;rfl)))
        |(refine gStore ?_;(first
            |(apply F_storeN rfl rfl;(focus (first|rfl|assumption|(simp only [List.append_nil,List.all_cons,List.all_nil,Bool.and_true,Bool.true_and,one_int,one_bool,one_string,one_slice,one_pointer, *];done)));exact T.rw67;(focus ((repeat (first|exact Upd.here|apply Upd.there));done));(focus ((repeat (first|exact SetSeg.nil|apply SetSeg.here|apply SetSeg.there));done));(first|exact okst2|exact okst1|exact okst1'))
            |(apply F_storeSN rfl rfl;(focus ((repeat (first|exact Upd.here|apply Upd.there));done));exact T.rw67;rfl;(focus (first|rfl|assumption|(simp only [List.append_nil,List.all_cons,List.all_nil,Bool.and_true,Bool.true_and,one_int,one_bool,one_string,one_slice,one_pointer, *];done)));rfl;(focus omega);(first|exact okst2|exact okst1|exact okst1'))))
        |(refine gCall ?_;(first
            |((refine S_callN (f := f) rfl hf rfl (fun w hst => (hrj ▸ hs w (cur.flatMap clFragSlot) (hst.drop (List.sublist_cons_self _ _)) w (Ext.refl w) _ hxm)) rfl ?_))
            |(refine S_callC rfl ?_)
            |(apply F_len rfl rfl rfl;(focus exact ⟨_,_,by exact T.sl43⟩);(focus (first|(focus (first|exact len_nil|(apply len_given;assumption)|(apply len_row;(focus ((repeat (first|exact mH|refine mT ?_));done)))|(apply len_isN;assumption)))|(apply len_sub;(focus (first|exact len_nil|(apply len_given;assumption)|(apply len_row;(focus ((repeat (first|exact mH|refine mT ?_));done)))|(apply len_isN;assumption)));(focus omega);(focus omega)))))
            |((apply F_clear rfl rfl T.el43 rfl;(focus omega);(focus exact Upd.here);(first|exact okst2|exact okst1)))))
        |(refine gBin ?_;(first
            |(refine S_lss rfl rfl rfl ?_)
            |(refine S_add rfl rfl ?_ rfl ?_;(focus (unfold rng;omega)))))
        |(apply S_alloc rfl (hd := rfl);exact T.zc67;intro kb)
        |(refine S_not rfl rfl ?_)
        |(refine S_done ?_)))
    |(refine gC ?_;(first
        |(refine C_seq ?_)
        |(refine gReg ?_;(first
            |(refine gReg (i := 5) ?_;refine C_plain [(0,0),(1,0),(2,0),(3,0)] (by kernel_rfl) (s := [⟨0,none,_,_,_⟩,⟨0,none,_,_,_⟩,⟨0,none,_,_,_⟩,⟨0,none,_,_,_⟩]) rfl ?_)
            |(refine gReg (i := 7) ?_;refine C_plain [(0,0),(1,0),(2,0),(3,0),(4,2),(5,2)] (by kernel_rfl) (s := [⟨0,none,_,_,_⟩,⟨0,none,_,_,_⟩,⟨0,none,_,_,_⟩,⟨0,none,_,_,_⟩,⟨2,none,_,_,_⟩,⟨2,none,_,_,_⟩]) rfl ?_)
            |(refine gReg (i := 8) ?_;refine C_plain [(0,0),(1,0),(2,2),(3,0)] (by kernel_rfl) (s := [⟨0,none,_,_,_⟩,⟨0,none,_,_,_⟩,⟨2,none,_,_,_⟩,⟨0,none,_,_,_⟩]) rfl ?_)
            |(refine gReg (i := 9) ?_;refine C_plain [(0,0),(1,0),(2,0),(3,0),(4,2)] (by kernel_rfl) (s := [⟨0,none,_,_,_⟩,⟨0,none,_,_,_⟩,⟨0,none,_,_,_⟩,⟨0,none,_,_,_⟩,⟨2,none,_,_,_⟩]) rfl ?_)
            |(refine gReg (i := 10) ?_;refine C_plain [(0,0),(1,0),(2,0)] (by kernel_rfl) (s := [⟨0,none,_,_,_⟩,⟨0,none,_,_,_⟩,⟨0,none,_,_,_⟩]) rfl ?_)
            |(refine gReg (i := 6) ?_;refine C_plain [(0,0),(1,0),(2,0)] (by kernel_rfl) (s := [⟨0,none,_,_,_⟩,⟨0,none,_,_,_⟩,⟨0,none,_,_,_⟩]) rfl ?_)
            |(refine gReg (i := 11) ?_;refine C_plain [(0,0),(1,0),(2,0),(3,2)] (by kernel_rfl) (s := [⟨0,none,_,_,_⟩,⟨0,none,_,_,_⟩,⟨0,none,_,_,_⟩,⟨2,none,_,_,_⟩]) rfl ?_)
            |(refine gReg (i := 12) ?_;refine C_plain [(0,0),(1,0),(2,0),(3,0)] (by kernel_rfl) (s := [⟨0,none,_,_,_⟩,⟨0,none,_,_,_⟩,⟨0,none,_,_,_⟩,⟨0,none,_,_,_⟩]) rfl ?_)))
        |(refine C_split rfl ?_ ?_ <;> (intro hb;(try simp only [decide_eq_true_eq] at hb);(try simp only [decide_eq_false_iff_not] at hb);(try simp only [Bool.not_eq_true'] at hb);(try simp only [Bool.not_eq_false'] at hb);(try (exfalso;first|contradiction|omega));(try (have hx := (hmid.at hb).1));(try (have hxm := (hmid.at hb).2));(try (have hx7 := hone _ hxm))))
        |(refine C_skip ?_)
        |(refine C_exit ?_)
        |(refine C_ret ?_)
        |(refine C_block ?_)))
    |(refine gE ?_;(first
        |(refine E_then ?_)
        |(refine E_thenX ?_)
        |(refine E_block ?_)
        |(refine E_blockY ?_)
        |(apply E_ret1 rfl;(first|exact Res.tmp rfl|(apply R_cellAll rfl;(focus ((repeat (first|exact mH|refine mT ?_));done));exact T.rw67)|(apply R_cell1 rfl;(focus ((repeat (first|exact mH|refine mT ?_));done));fail))))))
  · refine E_roundS (α := Nat × Nat × List MFragSlot) (i + 1, j + 1, cur.set i (ix l j)) (hmid.keep (by omega) (hrj.trans hb)) (by dsimp only; omega) ⟨rfl, rfl, rfl, rfl, trivial⟩ ?_
    dsimp only
    rw [← set_row (f := clFragSlot) (m := 3) (fun _ => rfl) (by omega)]
    exact fun w hs => hs.drop (List.sublist_cons_self _ _)
  · exact E_roundS (α := Nat × Nat × List MFragSlot) (i, j + 1, cur) (hmid.skip (by omega) (hrj.trans hb)) (by dsimp only; omega) ⟨rfl, rfl, rfl, rfl, trivial⟩ (fun w hs => hs.drop (List.sublist_cons_self _ _))
  · have e1 : ((i : Int)).toNat = i := by omega
    have e2 : j = l.length := by omega
    rw [e1, ← hcl, clear_row (by omega)]
    refine retS (subV v 3 0 i, (((cur.take i ++ List.replicate (cur.length - i) zeroSlot).drop 0).take (i - 0))) ?_ rfl ?_
    · have h1 := hmid.kept
      rw [e2, List.take_length] at h1
      rw [List.drop_zero, Nat.sub_zero, List.take_left' (by rw [List.length_take]; omega), h1]
    · rw [List.singleton_append]
      have hl3 : (cur.take i ++ List.replicate (cur.length - i) zeroSlot).length = cur.length := by rw [List.length_append, List.length_take, List.length_replicate]; omega
      exact Ent.part (f := clFragSlot) (m := 3) (l := cur.take i ++ List.replicate (cur.length - i) zeroSlot) (lo := 0) (hi := i) (fun _ => rfl) (Nat.zero_le _) (by rw [hl3]; omega) hl3.symm
end Go.Proofs.Ytodhjpnfokkfeaa

/- The fewest prefixes: both recursions. -/
import Derived.Test.YtobgbogglilfjaaNete
set_option linter.unusedSimpArgs false
set_option linter.unusedVariables false
namespace Go.Proofs.Ytobgbogglilfjaa
open Go Go.RowKit
attribute [local irreducible] Calls GoS GoC GoE GoT IsFl IsSc IsRw IsSl IsEl IsSt IsFs sp Mem Rd LenOf szR
theorem touchL_ok {p : MNetPrefix} {l : List MNetPrefix} (h : allOk l) : allOk (touchL p l) := by
  unfold touchL
  split
  · intro q hq; cases hq
  · intro q hq; exact h q (List.mem_filter.1 hq).1
theorem touchL_len (p : MNetPrefix) (l : List MNetPrefix) : (touchL p l).length ≤ l.length := by
  unfold touchL
  split
  · simp
  · exact List.length_filter_le _ _
theorem touchL_nil {p : MNetPrefix} {l : List MNetPrefix} (h : anyIn p l = false) : ((touchL p l).length : Int) = 0 ↔ anyOf l p = false := by
  unfold touchL
  rw [h]
  simp only [Bool.false_eq_true, if_false]
  constructor
  · intro h1
    have h2 : l.filter (fun q => inQ q p) = [] := List.eq_nil_of_length_eq_zero (by omega)
    unfold anyOf
    rw [List.any_eq_false]
    intro q hq
    have := List.filter_eq_nil_iff.1 h2 q hq
    simpa using this
  · intro h1
    have h2 : l.filter (fun q => inQ q p) = [] := List.filter_eq_nil_iff.2 fun q hq => by
      have := List.any_eq_false.1 h1 q hq
      simpa using this
    rw [h2]; rfl
theorem touch_sim {p : MNetPrefix} {l : List MNetPrefix} (hp : okQ p = true) (hl : allOk l) (h : anyIn p l = false) : Sim p l (touchL p l) := by
  unfold touchL
  rw [h]
  exact filter_sim hp hl h
/-- one of length 16 has none but itself within it -/
theorem leaf {p q : MNetPrefix} (hp : okQ p = true) (hq : okQ q = true) (h16 : p.2 = 16) (h : inQ q p = true) : inQ p q = true := by
  obtain ⟨q0, q1, _⟩ := okQ_t hq
  rw [inQ_iff hp] at h
  rw [inQ_iff hq]
  have e : q.2 = 16 := by omega
  rw [h16] at h
  rw [e]
  exact ⟨by omega, h.2.symm⟩
theorem leaf_any {p : MNetPrefix} {l : List MNetPrefix} (hp : okQ p = true) (hl : allOk l) (h16 : p.2 = 16) (h : anyIn p l = false) : anyOf l p = false := by
  unfold anyOf
  rw [List.any_eq_false]
  intro q hq h2
  have h1 := List.any_eq_false.1 h q hq
  exact h1 (leaf hp (hl q hq) h16 h2)
theorem one_ok {p : MNetPrefix} (h : okQ p = true) : allOk [p] := fun q hq => by rw [List.mem_singleton] at hq; subst hq; exact h
theorem partN_a {k : Nat} {p : MNetPrefix} {l o : List MNetPrefix} (h : anyIn p o = true) : partN k p l o = [] := by unfold partN; simp [h]
theorem partN_b {k : Nat} {p : MNetPrefix} {l o : List MNetPrefix} (h1 : anyIn p l = false) (h : anyOf l p = false) : partN k p l o = [] := by unfold partN; simp [h, h1]
theorem partN_c {k : Nat} {p : MNetPrefix} {l o : List MNetPrefix} (h0 : anyIn p o = false) (h1 : anyIn p l = true) (h : anyOf o p = false) : partN k p l o = [p] := by unfold partN; simp [h, h1, h0]
theorem partN_d {k : Nat} {p : MNetPrefix} {l o : List MNetPrefix} (h0 : anyIn p o = false) (h1 : anyIn p l = true ∨ anyOf l p = true) (h : anyIn p l = false ∨ anyOf o p = true) : partN (k + 1) p l o = if partN k (lowQ p) l o = [lowQ p] ∧ partN k (highQ p) l o = [highQ p] then [p] else partN k (lowQ p) l o ++ partN k (highQ p) l o := by
  rw [partN]
  rw [if_neg (by rcases h1 with h1 | h1 <;> simp [h0, h1]), if_neg (by rcases h with h | h <;> simp [h])]
theorem touching_l (p : MNetPrefix) (x : MSNetPrefix) {b : Bool} (hp : okQ p = true) (hl : allOk x.2) (hb : anyIn p x.2 = b) (hle : x.2.length ≤ 65536) (w : World) (hx : Rds w (rwSNetPrefix x)) : Calls Try.prog 66 #[x.1, .agg (clNetPrefix p).toArray] w
    (RetX (fun y : MSNetPrefix => y.2 = touchL p x.2) (fun y => .tuple #[y.1, .bool b]) (fun y => [.many (rwSNetPrefix y)]) w) := by
  have := touching_c p x hp hl w hx hle
  rw [hb] at this
  exact this
theorem touch_ne {p : MNetPrefix} {l : List MNetPrefix} (h : anyIn p l = false) (h2 : ¬ (((touchL p l).length : Int) = 0)) : anyOf l p = true := by
  cases hc : anyOf l p
  · exact absurd ((touchL_nil h).2 hc) h2
  · rfl
theorem clQ_low (p : MNetPrefix) : clNetPrefix (lowQ p) = [.int .i64 p.1, .int .i64 (p.2 + 1)] := rfl
theorem clQ_high (p : MNetPrefix) : clNetPrefix (highQ p) = [.int .i64 (p.1 + size (p.2 + 1)), .int .i64 (p.2 + 1)] := rfl
theorem eqQ {q p : MNetPrefix} (h : (q.1, q.2) = (p.1, p.2)) : q = p := h
/-- what the recursion comes to -/
theorem join_rows {q z1 z2 : List MNetPrefix} {k : Nat} {p : MNetPrefix} {l o l' o' : List MNetPrefix} (hp : okQ p = true) (hk : p.2 + ((k + 1 : Nat) : Int) = 16) (h0 : anyIn p o = false) (h1 : anyIn p l = true ∨ anyOf l p = true) (h : anyIn p l = false ∨ anyOf o p = true)
    (hl : Sim p l l') (ho : Sim p o o') (e1 : z1 = partN k (lowQ p) l' o') (e2 : z2 = partN k (highQ p) l' o') (hq : (z1 = [lowQ p] ∧ z2 = [highQ p] ∧ q = [p]) ∨ (¬ (z1 = [lowQ p] ∧ z2 = [highQ p]) ∧ q = z1 ++ z2)) : q = partN (k + 1) p l o := by
  have hlt : p.2 < 16 := by omega
  have q1 := lowQ_ok hp hlt
  have q2 := highQ_ok hp hlt
  rw [partN_d h0 h1 h, part_sim k (lowQ p) l o l' o' q1.1 (by simp only [lowQ]; omega) (hl.down hp q1.1 q1.2) (ho.down hp q1.1 q1.2), part_sim k (highQ p) l o l' o' q2.1 (by simp only [highQ]; omega) (hl.down hp q2.1 q2.2) (ho.down hp q2.1 q2.2), ← e1, ← e2]
  rcases hq with ⟨h1, h2, h3⟩ | ⟨h1, h3⟩
  · rw [if_pos ⟨h1, h2⟩, h3]
  · rw [if_neg h1, h3]
theorem diff_zero (p : MNetPrefix) : ∀ (x o : MSNetPrefix), okQ p = true → p.2 + (0 : Int) = 16 → allOk x.2 → allOk o.2 → x.2.length ≤ 40 → o.2.length ≤ 40 → ∀ w, Rds w (rwSNetPrefix x) → Rds w (rwSNetPrefix o) →
    Calls Try.prog 61 #[.agg (clNetPrefix p).toArray, x.1, o.1] w (RetX (fun y : MSNetPrefix => y.2 = partN (0) p x.2 o.2) (fun y => y.1) (fun y => [.many (rwSNetPrefix y)]) w) := by
  intro x o hp hk hxo hoo hxl hol w hx ho
  have hk : p.2 = 16 := by omega
  have hlf := @leaf_any p x.2 hp hxo hk
  have hlo := @leaf_any p o.2 hp hoo hk
  cases h2 : anyIn p o.2
  · cases h1 : anyIn p x.2
    · have ht1 := (touchL_nil h1).2 (hlf h1)
      refine enter (n := 88) (E := [(0, _), (1, _), (2, _)]) Try.func61 rfl rfl rfl rfl ?_
      repeat' (first
        | (refine gS ?_; (first
            | (refine gGuard ?_; (first
                | (refine S_on rfl ?_)
                | (refine S_off rfl rfl rfl ?_)
                | (refine S_offn rfl rfl ?_)
                | (refine S_offU rfl rfl ?_)
                | (refine S_offUn rfl ?_)
                | (refine S_gsplit rfl ?_ ?_ <;> (intro hb; (try simp only [decide_eq_true_eq] at hb); (try simp only [decide_eq_false_iff_not] at hb); (try simp only [Bool.not_eq_true'] at hb); (try simp only [Bool.not_eq_false'] at hb); (try (exfalso; first | contradiction | omega))))))
            | (refine S_move rfl rfl ?_)
            | (refine S_assign rfl rfl ?_)
            | (apply F_idx rfl rfl rfl; exact T.sl37; (focus rfl); (focus (first | exact len_nil | (apply len_given; assumption) | (apply len_row; (focus ((repeat (first | exact List.Mem.head _ | refine List.Mem.tail _ ?_)); done))) | (refine len_isN ?_; assumption))); (focus omega))
            | (apply F_idxZ rfl rfl rfl; exact T.sl37; (focus omega); (focus (first | exact len_nil | (apply len_given; assumption) | (apply len_row; (focus ((repeat (first | exact List.Mem.head _ | refine List.Mem.tail _ ?_)); done))) | (refine len_isN ?_; assumption))); (focus omega))
            | (apply F_bs0 rfl rfl; exact T.el37; rfl; intro sv; (try (refine S_fact (row_one (v := sv) (by (focus ((repeat (first | exact List.Mem.head _ | refine List.Mem.tail _ ?_)); done)))) (fun hone => ?_))))
            | (apply F_bs rfl rfl; exact T.el37; rfl; rfl; rfl; rfl; (focus ((repeat (first | exact Dense.nil | (apply Dense.cons; rfl; rfl))); done)); intro sv; (try (refine S_fact (row_one (v := sv) (by (focus ((repeat (first | exact List.Mem.head _ | refine List.Mem.tail _ ?_)); done)))) (fun hone => ?_))))
            | (refine gLoad ?_; (first
                | (apply F_loadAll rfl rfl; (focus ((repeat (first | exact List.Mem.head _ | refine List.Mem.tail _ ?_)); done)); exact T.rw25; (focus (first | exact free0 | exact free1)))
                | (apply F_loadP rfl rfl; (focus ((repeat (first | exact List.Mem.head _ | refine List.Mem.tail _ ?_)); done)); exact T.rw25; (focus ((repeat (first | exact Take.nil | apply Take.here | apply Take.there)); done)); rfl; (focus (first | exact free0 | exact free1)))
                | (apply F_loadSN rfl rfl; exact T.rw25; (focus (first | exact rd_nil | (apply rd_given; (focus assumption); (focus (first | exact freeG0 | exact freeG1))) | (apply rd_row; (focus ((repeat (first | exact List.Mem.head _ | refine List.Mem.tail _ ?_)); done)); (focus (first | exact freeR0 | exact freeR1))))); (focus (first | (focus (apply at_flat; (focus (intro _; rfl)); (focus assumption))) | exact at_self)); rfl; rfl)
                | (apply F_loadSP rfl rfl; exact T.rw25; (focus (first | exact rd_nil | (apply rd_given; (focus assumption); (focus (first | exact freeG0 | exact freeG1))) | (apply rd_row; (focus ((repeat (first | exact List.Mem.head _ | refine List.Mem.tail _ ?_)); done)); (focus (first | exact freeR0 | exact freeR1))))); (focus (apply at_flat; (focus (intro _; rfl)); (focus assumption))); (focus ((repeat (first | exact Take.nil | apply Take.here | apply Take.there)); done)); rfl; rfl)
                | (apply F_loadST rfl rfl; exact T.rw25; (focus (first | exact rd_nil | (apply rd_given; (focus assumption); (focus (first | exact freeG0 | exact freeG1))) | (apply rd_row; (focus ((repeat (first | exact List.Mem.head _ | refine List.Mem.tail _ ?_)); done)); (focus (first | exact freeR0 | exact freeR1))))); (focus ((repeat (first | exact Take.nil | apply Take.here | apply Take.there)); done)); rfl; rfl)))
            | (refine gStore ?_; (first
                | (apply F_storeN rfl rfl; (focus (first | rfl | assumption | (simp only [List.append_nil, List.all_cons, List.all_nil, Bool.and_true, Bool.true_and, one_int, one_bool, one_string, one_slice, one_pointer, *]; done))); exact T.rw25; (focus ((repeat (first | exact Upd.here | apply Upd.there)); done)); (focus ((repeat (first | exact SetSeg.nil | apply SetSeg.here | apply SetSeg.there)); done)); (first | exact okst2 | exact okst1 | exact okst1'))
                | (apply F_storeSN rfl rfl; (focus ((repeat (first | exact Upd.here | apply Upd.there)); done)); exact T.rw25; rfl; (focus (first | rfl | assumption | (simp only [List.append_nil, List.all_cons, List.all_nil, Bool.and_true, Bool.true_and, one_int, one_bool, one_string, one_slice, one_pointer, *]; done))); rfl; (focus omega); (first | exact okst2 | exact okst1 | exact okst1'))))
            | (refine gCall ?_; (first
                | (refine S_callX (f := 66) rfl T.pf66 rfl (fun w hst => touching_l p x hp hxo h1 (by omega) w (by first | (refine Rds.given hst ?_; assumption) | (apply Rds.many hst; (focus ((repeat (first | exact List.Mem.head _ | refine List.Mem.tail _ ?_)); done))) | (apply Rds.row hst; (focus ((repeat (first | exact List.Mem.head _ | refine List.Mem.tail _ ?_)); done))))) rfl (fun zz hzz => ?_); simp only [List.cons_append, List.nil_append]; revert hzz; revert zz; intro y1 hy1; refine S_unrow ?_; have hyl1 := congrArg List.length hy1)
                | (refine S_callX (f := 66) rfl T.pf66 rfl (fun w hst => touching_l p o hp hoo h2 (by omega) w (by first | (refine Rds.given hst ?_; assumption) | (apply Rds.many hst; (focus ((repeat (first | exact List.Mem.head _ | refine List.Mem.tail _ ?_)); done))) | (apply Rds.row hst; (focus ((repeat (first | exact List.Mem.head _ | refine List.Mem.tail _ ?_)); done))))) rfl (fun zz hzz => ?_); simp only [List.cons_append, List.nil_append]; revert hzz; revert zz; intro y2 hy2; refine S_unrow ?_; have hyl2 := congrArg List.length hy2)
                | (apply F_len rfl rfl rfl; (focus exact ⟨_, _, by exact T.sl37⟩); (focus (first | exact len_nil | (apply len_given; assumption) | (apply len_row; (focus ((repeat (first | exact List.Mem.head _ | refine List.Mem.tail _ ?_)); done))) | (refine len_isN ?_; assumption))))
                | (apply F_append rfl rfl rfl rfl; exact T.el37; (focus (intro sv; (focus ((repeat (first | exact Upd.here | apply Upd.there)); done)))); (focus (first | exact rd_nil | (apply rd_given; (focus assumption); (focus (first | exact freeG0 | exact freeG1))) | (apply rd_row; (focus ((repeat (first | exact List.Mem.head _ | refine List.Mem.tail _ ?_)); done)); (focus (first | exact freeR0 | exact freeR1))))); (focus (first | rfl | assumption | (apply all_flat; intro _ _; rfl) | (rw [List.append_nil]; assumption) | (simp only [List.append_nil, List.all_cons, List.all_nil, Bool.and_true, Bool.true_and, one_int, one_bool, one_string, one_slice, one_pointer, *]; done) | simp)); (first | exact okst2 | exact okst1 | exact okst1'); (focus (simp only [maxLen]; first | omega | (simp only [List.length_take, List.length_drop]; omega))); (focus (first | omega | (simp only [List.length_take, List.length_drop]; omega))); intro sv; (try (refine S_fact (row_one (v := sv) (by (focus ((repeat (first | exact List.Mem.head _ | refine List.Mem.tail _ ?_)); done)))) (fun hone => ?_))))))
            | (refine gBin ?_; (first
                | (apply S_eqlS rfl rfl rfl; (focus exact T.eqs25 _ _ _ _))
                | (apply S_neqS rfl rfl rfl; (focus exact T.eqs25 _ _ _ _))
                | (refine S_eql rfl rfl rfl ?_)
                | (refine S_eqlB Try.underlying4 rfl rfl rfl ?_)))
            | (refine gPick ?_; (first
                | (refine S_pickT rfl rfl rfl ?_)
                | (refine S_pickF rfl rfl rfl ?_)))
            | (refine S_box rfl rfl rfl ?_; intro kb)
            | (apply S_alloc rfl (hd := rfl); exact T.zc25; intro kb)
            | (apply F_build2 rfl (hd := rfl); exact T.st25; (focus ((repeat (first | exact BuildR.nil | (apply BuildR.cons; (first | exact T.fs25_0 | exact T.fs25_1); rfl; rfl; (focus ((repeat (first | exact SetSeg.nil | apply SetSeg.here | apply SetSeg.there)); done))) | (apply BuildR.cons1; (first | exact T.fs25_0 | exact T.fs25_1); (focus assumption); (focus ((repeat (first | exact SetSeg.nil | apply SetSeg.here | apply SetSeg.there)); done))))); done)))
            | (refine S_not rfl rfl ?_)
            | (refine S_extract rfl rfl rfl ?_)
            | (refine S_done ?_)
            | (refine S_box1 rfl rfl rfl rfl ?_; intro kb)))
        | (refine gC ?_; (first
            | (refine C_seq ?_)
            | (refine gReg ?_; (first
                | (refine gReg (i := 0) ?_; refine C_plain [(0, 2), (1, 0)] (by kernel_rfl) (s := [⟨2, none, _, _, _⟩, ⟨0, none, _, _, _⟩]) rfl ?_)
                | (refine gReg (i := 1) ?_; refine C_plain [(0, 0), (1, 0), (2, 2), (3, 0), (4, 0), (5, 0), (6, 0), (7, 0)] (by kernel_rfl) (s := [⟨0, none, _, _, _⟩, ⟨0, none, _, _, _⟩, ⟨2, none, _, _, _⟩, ⟨0, none, _, _, _⟩, ⟨0, none, _, _, _⟩, ⟨0, none, _, _, _⟩, ⟨0, none, _, _, _⟩, ⟨0, none, _, _, _⟩]) rfl ?_)
                | (refine gReg (i := 2) ?_; refine C_plain [(0, 0), (1, 0), (2, 2), (3, 0), (4, 0), (5, 0), (6, 0), (7, 0)] (by kernel_rfl) (s := [⟨0, none, _, _, _⟩, ⟨0, none, _, _, _⟩, ⟨2, none, _, _, _⟩, ⟨0, none, _, _, _⟩, ⟨0, none, _, _, _⟩, ⟨0, none, _, _, _⟩, ⟨0, none, _, _, _⟩, ⟨0, none, _, _, _⟩]) rfl ?_)
                | (refine gReg (i := 3) ?_; refine C_plain [(0, 0), (1, 0), (2, 0), (3, 0), (4, 0), (5, 0), (6, 0), (7, 0), (8, 0), (9, 0), (10, 0)] (by kernel_rfl) (s := [⟨0, none, _, _, _⟩, ⟨0, none, _, _, _⟩, ⟨0, some (27, false), _, _, _⟩, ⟨0, some (27, false), _, _, _⟩, ⟨0, some (27, false), _, _, _⟩, ⟨0, some (30, true), _, _, _⟩, ⟨0, some (30, true), _, _, _⟩, ⟨0, some (30, true), _, _, _⟩, ⟨0, some (27, false), _, _, _⟩, ⟨0, none, _, _, _⟩, ⟨0, none, _, _, _⟩]) rfl ?_)
                | (refine gReg (i := 4) ?_; refine C_plain [(0, 0)] (by kernel_rfl) (s := [⟨0, none, _, _, _⟩]) rfl ?_)
                | (refine gReg (i := 5) ?_; refine C_plain [(0, 0), (1, 0), (2, 0), (3, 0), (4, 0), (5, 0), (6, 0)] (by kernel_rfl) (s := [⟨0, none, _, _, _⟩, ⟨0, none, _, _, _⟩, ⟨0, some (38, true), _, _, _⟩, ⟨0, some (38, true), _, _, _⟩, ⟨0, some (38, true), _, _, _⟩, ⟨0, none, _, _, _⟩, ⟨0, none, _, _, _⟩]) rfl ?_)
                | (refine gReg (i := 6) ?_; refine C_plain [(0, 0), (1, 2), (2, 0)] (by kernel_rfl) (s := [⟨0, none, _, _, _⟩, ⟨2, none, _, _, _⟩, ⟨0, none, _, _, _⟩]) rfl ?_)
                | (refine gReg (i := 7) ?_; refine C_plain [(0, 0)] (by kernel_rfl) (s := [⟨0, none, _, _, _⟩]) rfl ?_)
                | (refine gReg (i := 8) ?_; refine C_plain [(0, 0), (1, 2), (2, 0)] (by kernel_rfl) (s := [⟨0, none, _, _, _⟩, ⟨2, none, _, _, _⟩, ⟨0, none, _, _, _⟩]) rfl ?_)
                | (refine gReg (i := 9) ?_; refine C_plain [(0, 0), (1, 2), (2, 0), (3, 0), (4, 0), (5, 2), (6, 2), (7, 2), (8, 2)] (by kernel_rfl) (s := [⟨0, none, _, _, _⟩, ⟨2, none, _, _, _⟩, ⟨0, none, _, _, _⟩, ⟨0, none, _, _, _⟩, ⟨0, none, _, _, _⟩, ⟨2, none, _, _, _⟩, ⟨2, none, _, _, _⟩, ⟨2, none, _, _, _⟩, ⟨2, none, _, _, _⟩]) rfl ?_)
                | (refine gReg (i := 10) ?_; refine C_drawn [(0, 0), (1, 0), (2, 0), (4, 0), (5, 0), (6, 0), (3, 1), (7, 1), (8, 0), (9, 0)] [] T.mixed (by kernel_rfl) (s := [⟨0, none, _, _, _⟩, ⟨0, none, _, _, _⟩, ⟨0, none, _, _, _⟩, ⟨0, none, _, _, _⟩, ⟨0, none, _, _, _⟩, ⟨0, none, _, _, _⟩, ⟨1, none, _, _, _⟩, ⟨1, none, _, _, _⟩, ⟨0, none, _, _, _⟩, ⟨0, none, _, _, _⟩]) rfl ?_)
                | (refine gReg (i := 11) ?_; refine C_drawn [(0, 0), (1, 0), (2, 0), (3, 0), (4, 0), (5, 0), (6, 0), (7, 0), (8, 0), (9, 0), (10, 0), (11, 0), (12, 0), (13, 0), (14, 0), (15, 0), (16, 0), (17, 0), (18, 0), (19, 0), (20, 0), (21, 0)] [] T.mixed (by kernel_rfl) (s := [⟨0, none, _, _, _⟩, ⟨0, none, _, _, _⟩, ⟨0, none, _, _, _⟩, ⟨0, none, _, _, _⟩, ⟨0, some (64, true), _, _, _⟩, ⟨0, some (64, true), _, _, _⟩, ⟨0, some (64, true), _, _, _⟩, ⟨0, some (64, true), _, _, _⟩, ⟨0, some (64, true), _, _, _⟩, ⟨0, none, _, _, _⟩, ⟨0, none, _, _, _⟩, ⟨0, some (71, true), _, _, _⟩, ⟨0, some (71, true), _, _, _⟩, ⟨0, some (71, true), _, _, _⟩, ⟨0, none, _, _, _⟩, ⟨0, none, _, _, _⟩, ⟨0, some (76, true), _, _, _⟩, ⟨0, some (76, true), _, _, _⟩, ⟨0, some (76, true), _, _, _⟩, ⟨0, some (76, true), _, _, _⟩, ⟨0, some (76, true), _, _, _⟩, ⟨0, none, _, _, _⟩]) rfl ?_)
                | (refine gReg (i := 12) ?_; refine C_plain [(0, 0), (1, 2), (2, 0)] (by kernel_rfl) (s := [⟨0, none, _, _, _⟩, ⟨2, none, _, _, _⟩, ⟨0, none, _, _, _⟩]) rfl ?_)
                | (refine gReg (i := 13) ?_; refine C_plain [(0, 0), (1, 0), (2, 2), (3, 0)] (by kernel_rfl) (s := [⟨0, none, _, _, _⟩, ⟨0, none, _, _, _⟩, ⟨2, none, _, _, _⟩, ⟨0, none, _, _, _⟩]) rfl ?_)))
            | (refine C_true rfl ?_)
            | (refine C_false rfl ?_)
            | (refine C_split rfl ?_ ?_ <;> (intro hb; (try simp only [decide_eq_true_eq] at hb); (try simp only [decide_eq_false_iff_not] at hb); (try simp only [Bool.not_eq_true'] at hb); (try simp only [Bool.not_eq_false'] at hb); (try (exfalso; first | contradiction | omega))))
            | (refine C_skip ?_)
            | (refine C_exit ?_)
            | (refine C_ret ?_)
            | (refine C_block ?_)))
        | (refine gE ?_; (first
            | (refine E_then ?_)
            | (refine E_thenX ?_)
            | (refine E_thenR ?_)
            | (refine E_block ?_)
            | (refine E_blockY ?_)
            | (refine E_blockR ?_)
            | (refine E_calm ?_)
            | (refine E_blockX rfl ?_)
            | (apply E_ret1 rfl; (first | exact Res.tmp rfl | (apply R_cellAll rfl; (focus ((repeat (first | exact List.Mem.head _ | refine List.Mem.tail _ ?_)); done)); exact T.rw25) | (apply R_cell1 rfl; (focus ((repeat (first | exact List.Mem.head _ | refine List.Mem.tail _ ?_)); done)); fail)))
            | (apply E_ret2 rfl; (first | exact Res.tmp rfl | (apply R_cellAll rfl; (focus ((repeat (first | exact List.Mem.head _ | refine List.Mem.tail _ ?_)); done)); exact T.rw25) | (apply R_cell1 rfl; (focus ((repeat (first | exact List.Mem.head _ | refine List.Mem.tail _ ?_)); done)); fail)); (first | exact Res.tmp rfl | (apply R_cellAll rfl; (focus ((repeat (first | exact List.Mem.head _ | refine List.Mem.tail _ ?_)); done)); exact T.rw25) | (apply R_cell1 rfl; (focus ((repeat (first | exact List.Mem.head _ | refine List.Mem.tail _ ?_)); done)); fail)))
            | (apply E_ret3 rfl; (first | exact Res.tmp rfl | (apply R_cellAll rfl; (focus ((repeat (first | exact List.Mem.head _ | refine List.Mem.tail _ ?_)); done)); exact T.rw25) | (apply R_cell1 rfl; (focus ((repeat (first | exact List.Mem.head _ | refine List.Mem.tail _ ?_)); done)); fail)); (first | exact Res.tmp rfl | (apply R_cellAll rfl; (focus ((repeat (first | exact List.Mem.head _ | refine List.Mem.tail _ ?_)); done)); exact T.rw25) | (apply R_cell1 rfl; (focus ((repeat (first | exact List.Mem.head _ | refine List.Mem.tail _ ?_)); done)); fail)); (first | exact Res.tmp rfl | (apply R_cellAll rfl; (focus ((repeat (first | exact List.Mem.head _ | refine List.Mem.tail _ ?_)); done)); exact T.rw25) | (apply R_cell1 rfl; (focus ((repeat (first | exact List.Mem.head _ | refine List.Mem.tail _ ?_)); done)); fail))))))
      refine retX (.slice none 0 0, []) ?_ rfl (Ent.trans (Ent.ghost 25 2) ?_)
      · rw [partN_b h1 (hlf h1)]
      · exact (by (focus (apply Ent.flat; (simp only [List.length_append, List.length_cons, List.length_nil, Nat.zero_add, flat_many, flat_row, flat_blk, flat_append, flat_nil, List.map_append, List.map_cons, List.map_nil, List.flatMap_append, List.flatMap_cons, List.flatMap_nil, List.append_assoc, List.append_nil, List.nil_append, List.cons_append, Row.blk_mk, rwSNetPrefix, rwSuint8]); ((repeat (first | exact Pull.nil | (apply Pull.app; (focus ((repeat (first | exact PickA.here | exact PickA.all | apply PickA.there | apply PickA.over)); done))) | (apply Pull.cons; (focus ((repeat (first | exact Pick.here | exact Pick.last | apply Pick.there | apply Pick.over)); done))) | (apply Pull.atom; (focus ((repeat (first | exact PickA.here | exact PickA.all | apply PickA.there | apply PickA.over)); done))))); done))))
    · have ht2 := (touchL_nil h2).2 (hlo h2)
      refine enter (n := 88) (E := [(0, _), (1, _), (2, _)]) Try.func61 rfl rfl rfl rfl ?_
      repeat' (first
        | (refine gS ?_; (first
            | (refine gGuard ?_; (first
                | (refine S_on rfl ?_)
                | (refine S_off rfl rfl rfl ?_)
                | (refine S_offn rfl rfl ?_)
                | (refine S_offU rfl rfl ?_)
                | (refine S_offUn rfl ?_)
                | (refine S_gsplit rfl ?_ ?_ <;> (intro hb; (try simp only [decide_eq_true_eq] at hb); (try simp only [decide_eq_false_iff_not] at hb); (try simp only [Bool.not_eq_true'] at hb); (try simp only [Bool.not_eq_false'] at hb); (try (exfalso; first | contradiction | omega))))))
            | (refine S_move rfl rfl ?_)
            | (refine S_assign rfl rfl ?_)
            | (apply F_idx rfl rfl rfl; exact T.sl37; (focus rfl); (focus (first | exact len_nil | (apply len_given; assumption) | (apply len_row; (focus ((repeat (first | exact List.Mem.head _ | refine List.Mem.tail _ ?_)); done))) | (refine len_isN ?_; assumption))); (focus omega))
            | (apply F_idxZ rfl rfl rfl; exact T.sl37; (focus omega); (focus (first | exact len_nil | (apply len_given; assumption) | (apply len_row; (focus ((repeat (first | exact List.Mem.head _ | refine List.Mem.tail _ ?_)); done))) | (refine len_isN ?_; assumption))); (focus omega))
            | (apply F_bs0 rfl rfl; exact T.el37; rfl; intro sv; (try (refine S_fact (row_one (v := sv) (by (focus ((repeat (first | exact List.Mem.head _ | refine List.Mem.tail _ ?_)); done)))) (fun hone => ?_))))
            | (apply F_bs rfl rfl; exact T.el37; rfl; rfl; rfl; rfl; (focus ((repeat (first | exact Dense.nil | (apply Dense.cons; rfl; rfl))); done)); intro sv; (try (refine S_fact (row_one (v := sv) (by (focus ((repeat (first | exact List.Mem.head _ | refine List.Mem.tail _ ?_)); done)))) (fun hone => ?_))))
            | (refine gLoad ?_; (first
                | (apply F_loadAll rfl rfl; (focus ((repeat (first | exact List.Mem.head _ | refine List.Mem.tail _ ?_)); done)); exact T.rw25; (focus (first | exact free0 | exact free1)))
                | (apply F_loadP rfl rfl; (focus ((repeat (first | exact List.Mem.head _ | refine List.Mem.tail _ ?_)); done)); exact T.rw25; (focus ((repeat (first | exact Take.nil | apply Take.here | apply Take.there)); done)); rfl; (focus (first | exact free0 | exact free1)))
                | (apply F_loadSN rfl rfl; exact T.rw25; (focus (first | exact rd_nil | (apply rd_given; (focus assumption); (focus (first | exact freeG0 | exact freeG1))) | (apply rd_row; (focus ((repeat (first | exact List.Mem.head _ | refine List.Mem.tail _ ?_)); done)); (focus (first | exact freeR0 | exact freeR1))))); (focus (first | (focus (apply at_flat; (focus (intro _; rfl)); (focus assumption))) | exact at_self)); rfl; rfl)
                | (apply F_loadSP rfl rfl; exact T.rw25; (focus (first | exact rd_nil | (apply rd_given; (focus assumption); (focus (first | exact freeG0 | exact freeG1))) | (apply rd_row; (focus ((repeat (first | exact List.Mem.head _ | refine List.Mem.tail _ ?_)); done)); (focus (first | exact freeR0 | exact freeR1))))); (focus (apply at_flat; (focus (intro _; rfl)); (focus assumption))); (focus ((repeat (first | exact Take.nil | apply Take.here | apply Take.there)); done)); rfl; rfl)
                | (apply F_loadST rfl rfl; exact T.rw25; (focus (first | exact rd_nil | (apply rd_given; (focus assumption); (focus (first | exact freeG0 | exact freeG1))) | (apply rd_row; (focus ((repeat (first | exact List.Mem.head _ | refine List.Mem.tail _ ?_)); done)); (focus (first | exact freeR0 | exact freeR1))))); (focus ((repeat (first | exact Take.nil | apply Take.here | apply Take.there)); done)); rfl; rfl)))
            | (refine gStore ?_; (first
                | (apply F_storeN rfl rfl; (focus (first | rfl | assumption | (simp only [List.append_nil, List.all_cons, List.all_nil, Bool.and_true, Bool.true_and, one_int, one_bool, one_string, one_slice, one_pointer, *]; done))); exact T.rw25; (focus ((repeat (first | exact Upd.here | apply Upd.there)); done)); (focus ((repeat (first | exact SetSeg.nil | apply SetSeg.here | apply SetSeg.there)); done)); (first | exact okst2 | exact okst1 | exact okst1'))
                | (apply F_storeSN rfl rfl; (focus ((repeat (first | exact Upd.here | apply Upd.there)); done)); exact T.rw25; rfl; (focus (first | rfl | assumption | (simp only [List.append_nil, List.all_cons, List.all_nil, Bool.and_true, Bool.true_and, one_int, one_bool, one_string, one_slice, one_pointer, *]; done))); rfl; (focus omega); (first | exact okst2 | exact okst1 | exact okst1'))))
            | (refine gCall ?_; (first
                | (refine S_callX (f := 66) rfl T.pf66 rfl (fun w hst => touching_l p x hp hxo h1 (by omega) w (by first | (refine Rds.given hst ?_; assumption) | (apply Rds.many hst; (focus ((repeat (first | exact List.Mem.head _ | refine List.Mem.tail _ ?_)); done))) | (apply Rds.row hst; (focus ((repeat (first | exact List.Mem.head _ | refine List.Mem.tail _ ?_)); done))))) rfl (fun zz hzz => ?_); simp only [List.cons_append, List.nil_append]; revert hzz; revert zz; intro y1 hy1; refine S_unrow ?_; have hyl1 := congrArg List.length hy1)
                | (refine S_callX (f := 66) rfl T.pf66 rfl (fun w hst => touching_l p o hp hoo h2 (by omega) w (by first | (refine Rds.given hst ?_; assumption) | (apply Rds.many hst; (focus ((repeat (first | exact List.Mem.head _ | refine List.Mem.tail _ ?_)); done))) | (apply Rds.row hst; (focus ((repeat (first | exact List.Mem.head _ | refine List.Mem.tail _ ?_)); done))))) rfl (fun zz hzz => ?_); simp only [List.cons_append, List.nil_append]; revert hzz; revert zz; intro y2 hy2; refine S_unrow ?_; have hyl2 := congrArg List.length hy2)
                | (apply F_len rfl rfl rfl; (focus exact ⟨_, _, by exact T.sl37⟩); (focus (first | exact len_nil | (apply len_given; assumption) | (apply len_row; (focus ((repeat (first | exact List.Mem.head _ | refine List.Mem.tail _ ?_)); done))) | (refine len_isN ?_; assumption))))
                | (apply F_append rfl rfl rfl rfl; exact T.el37; (focus (intro sv; (focus ((repeat (first | exact Upd.here | apply Upd.there)); done)))); (focus (first | exact rd_nil | (apply rd_given; (focus assumption); (focus (first | exact freeG0 | exact freeG1))) | (apply rd_row; (focus ((repeat (first | exact List.Mem.head _ | refine List.Mem.tail _ ?_)); done)); (focus (first | exact freeR0 | exact freeR1))))); (focus (first | rfl | assumption | (apply all_flat; intro _ _; rfl) | (rw [List.append_nil]; assumption) | (simp only [List.append_nil, List.all_cons, List.all_nil, Bool.and_true, Bool.true_and, one_int, one_bool, one_string, one_slice, one_pointer, *]; done) | simp)); (first | exact okst2 | exact okst1 | exact okst1'); (focus (simp only [maxLen]; first | omega | (simp only [List.length_take, List.length_drop]; omega))); (focus (first | omega | (simp only [List.length_take, List.length_drop]; omega))); intro sv; (try (refine S_fact (row_one (v := sv) (by (focus ((repeat (first | exact List.Mem.head _ | refine List.Mem.tail _ ?_)); done)))) (fun hone => ?_))))))
            | (refine gBin ?_; (first
                | (apply S_eqlS rfl rfl rfl; (focus exact T.eqs25 _ _ _ _))
                | (apply S_neqS rfl rfl rfl; (focus exact T.eqs25 _ _ _ _))
                | (refine S_eql rfl rfl rfl ?_)
                | (refine S_eqlB Try.underlying4 rfl rfl rfl ?_)))
            | (refine gPick ?_; (first
                | (refine S_pickT rfl rfl rfl ?_)
                | (refine S_pickF rfl rfl rfl ?_)))
            | (refine S_box rfl rfl rfl ?_; intro kb)
            | (apply S_alloc rfl (hd := rfl); exact T.zc25; intro kb)
            | (apply F_build2 rfl (hd := rfl); exact T.st25; (focus ((repeat (first | exact BuildR.nil | (apply BuildR.cons; (first | exact T.fs25_0 | exact T.fs25_1); rfl; rfl; (focus ((repeat (first | exact SetSeg.nil | apply SetSeg.here | apply SetSeg.there)); done))) | (apply BuildR.cons1; (first | exact T.fs25_0 | exact T.fs25_1); (focus assumption); (focus ((repeat (first | exact SetSeg.nil | apply SetSeg.here | apply SetSeg.there)); done))))); done)))
            | (refine S_not rfl rfl ?_)
            | (refine S_extract rfl rfl rfl ?_)
            | (refine S_done ?_)
            | (refine S_box1 rfl rfl rfl rfl ?_; intro kb)))
        | (refine gC ?_; (first
            | (refine C_seq ?_)
            | (refine gReg ?_; (first
                | (refine gReg (i := 0) ?_; refine C_plain [(0, 2), (1, 0)] (by kernel_rfl) (s := [⟨2, none, _, _, _⟩, ⟨0, none, _, _, _⟩]) rfl ?_)
                | (refine gReg (i := 1) ?_; refine C_plain [(0, 0), (1, 0), (2, 2), (3, 0), (4, 0), (5, 0), (6, 0), (7, 0)] (by kernel_rfl) (s := [⟨0, none, _, _, _⟩, ⟨0, none, _, _, _⟩, ⟨2, none, _, _, _⟩, ⟨0, none, _, _, _⟩, ⟨0, none, _, _, _⟩, ⟨0, none, _, _, _⟩, ⟨0, none, _, _, _⟩, ⟨0, none, _, _, _⟩]) rfl ?_)
                | (refine gReg (i := 2) ?_; refine C_plain [(0, 0), (1, 0), (2, 2), (3, 0), (4, 0), (5, 0), (6, 0), (7, 0)] (by kernel_rfl) (s := [⟨0, none, _, _, _⟩, ⟨0, none, _, _, _⟩, ⟨2, none, _, _, _⟩, ⟨0, none, _, _, _⟩, ⟨0, none, _, _, _⟩, ⟨0, none, _, _, _⟩, ⟨0, none, _, _, _⟩, ⟨0, none, _, _, _⟩]) rfl ?_)
                | (refine gReg (i := 3) ?_; refine C_plain [(0, 0), (1, 0), (2, 0), (3, 0), (4, 0), (5, 0), (6, 0), (7, 0), (8, 0), (9, 0), (10, 0)] (by kernel_rfl) (s := [⟨0, none, _, _, _⟩, ⟨0, none, _, _, _⟩, ⟨0, some (27, false), _, _, _⟩, ⟨0, some (27, false), _, _, _⟩, ⟨0, some (27, false), _, _, _⟩, ⟨0, some (30, true), _, _, _⟩, ⟨0, some (30, true), _, _, _⟩, ⟨0, some (30, true), _, _, _⟩, ⟨0, some (27, false), _, _, _⟩, ⟨0, none, _, _, _⟩, ⟨0, none, _, _, _⟩]) rfl ?_)
                | (refine gReg (i := 4) ?_; refine C_plain [(0, 0)] (by kernel_rfl) (s := [⟨0, none, _, _, _⟩]) rfl ?_)
                | (refine gReg (i := 5) ?_; refine C_plain [(0, 0), (1, 0), (2, 0), (3, 0), (4, 0), (5, 0), (6, 0)] (by kernel_rfl) (s := [⟨0, none, _, _, _⟩, ⟨0, none, _, _, _⟩, ⟨0, some (38, true), _, _, _⟩, ⟨0, some (38, true), _, _, _⟩, ⟨0, some (38, true), _, _, _⟩, ⟨0, none, _, _, _⟩, ⟨0, none, _, _, _⟩]) rfl ?_)
                | (refine gReg (i := 6) ?_; refine C_plain [(0, 0), (1, 2), (2, 0)] (by kernel_rfl) (s := [⟨0, none, _, _, _⟩, ⟨2, none, _, _, _⟩, ⟨0, none, _, _, _⟩]) rfl ?_)
                | (refine gReg (i := 7) ?_; refine C_plain [(0, 0)] (by kernel_rfl) (s := [⟨0, none, _, _, _⟩]) rfl ?_)
                | (refine gReg (i := 8) ?_; refine C_plain [(0, 0), (1, 2), (2, 0)] (by kernel_rfl) (s := [⟨0, none, _, _, _⟩, ⟨2, none, _, _, _⟩, ⟨0, none, _, _, _⟩]) rfl ?_)
                | (refine gReg (i := 9) ?_; refine C_plain [(0, 0), (1, 2), (2, 0), (3, 0), (4, 0), (5, 2), (6, 2), (7, 2), (8, 2)] (by kernel_rfl) (s := [⟨0, none, _, _, _⟩, ⟨2, none, _, _, _⟩, ⟨0, none, _, _, _⟩, ⟨0, none, _, _, _⟩, ⟨0, none, _, _, _⟩, ⟨2, none, _, _, _⟩, ⟨2, none, _, _, _⟩, ⟨2, none, _, _, _⟩, ⟨2, none, _, _, _⟩]) rfl ?_)
                | (refine gReg (i := 10) ?_; refine C_drawn [(0, 0), (1, 0), (2, 0), (4, 0), (5, 0), (6, 0), (3, 1), (7, 1), (8, 0), (9, 0)] [] T.mixed (by kernel_rfl) (s := [⟨0, none, _, _, _⟩, ⟨0, none, _, _, _⟩, ⟨0, none, _, _, _⟩, ⟨0, none, _, _, _⟩, ⟨0, none, _, _, _⟩, ⟨0, none, _, _, _⟩, ⟨1, none, _, _, _⟩, ⟨1, none, _, _, _⟩, ⟨0, none, _, _, _⟩, ⟨0, none, _, _, _⟩]) rfl ?_)
                | (refine gReg (i := 11) ?_; refine C_drawn [(0, 0), (1, 0), (2, 0), (3, 0), (4, 0), (5, 0), (6, 0), (7, 0), (8, 0), (9, 0), (10, 0), (11, 0), (12, 0), (13, 0), (14, 0), (15, 0), (16, 0), (17, 0), (18, 0), (19, 0), (20, 0), (21, 0)] [] T.mixed (by kernel_rfl) (s := [⟨0, none, _, _, _⟩, ⟨0, none, _, _, _⟩, ⟨0, none, _, _, _⟩, ⟨0, none, _, _, _⟩, ⟨0, some (64, true), _, _, _⟩, ⟨0, some (64, true), _, _, _⟩, ⟨0, some (64, true), _, _, _⟩, ⟨0, some (64, true), _, _, _⟩, ⟨0, some (64, true), _, _, _⟩, ⟨0, none, _, _, _⟩, ⟨0, none, _, _, _⟩, ⟨0, some (71, true), _, _, _⟩, ⟨0, some (71, true), _, _, _⟩, ⟨0, some (71, true), _, _, _⟩, ⟨0, none, _, _, _⟩, ⟨0, none, _, _, _⟩, ⟨0, some (76, true), _, _, _⟩, ⟨0, some (76, true), _, _, _⟩, ⟨0, some (76, true), _, _, _⟩, ⟨0, some (76, true), _, _, _⟩, ⟨0, some (76, true), _, _, _⟩, ⟨0, none, _, _, _⟩]) rfl ?_)
                | (refine gReg (i := 12) ?_; refine C_plain [(0, 0), (1, 2), (2, 0)] (by kernel_rfl) (s := [⟨0, none, _, _, _⟩, ⟨2, none, _, _, _⟩, ⟨0, none, _, _, _⟩]) rfl ?_)
                | (refine gReg (i := 13) ?_; refine C_plain [(0, 0), (1, 0), (2, 2), (3, 0)] (by kernel_rfl) (s := [⟨0, none, _, _, _⟩, ⟨0, none, _, _, _⟩, ⟨2, none, _, _, _⟩, ⟨0, none, _, _, _⟩]) rfl ?_)))
            | (refine C_true rfl ?_)
            | (refine C_false rfl ?_)
            | (refine C_split rfl ?_ ?_ <;> (intro hb; (try simp only [decide_eq_true_eq] at hb); (try simp only [decide_eq_false_iff_not] at hb); (try simp only [Bool.not_eq_true'] at hb); (try simp only [Bool.not_eq_false'] at hb); (try (exfalso; first | contradiction | omega))))
            | (refine C_skip ?_)
            | (refine C_exit ?_)
            | (refine C_ret ?_)
            | (refine C_block ?_)))
        | (refine gE ?_; (first
            | (refine E_then ?_)
            | (refine E_thenX ?_)
            | (refine E_thenR ?_)
            | (refine E_block ?_)
            | (refine E_blockY ?_)
            | (refine E_blockR ?_)
            | (refine E_calm ?_)
            | (refine E_blockX rfl ?_)
            | (apply E_ret1 rfl; (first | exact Res.tmp rfl | (apply R_cellAll rfl; (focus ((repeat (first | exact List.Mem.head _ | refine List.Mem.tail _ ?_)); done)); exact T.rw25) | (apply R_cell1 rfl; (focus ((repeat (first | exact List.Mem.head _ | refine List.Mem.tail _ ?_)); done)); fail)))
            | (apply E_ret2 rfl; (first | exact Res.tmp rfl | (apply R_cellAll rfl; (focus ((repeat (first | exact List.Mem.head _ | refine List.Mem.tail _ ?_)); done)); exact T.rw25) | (apply R_cell1 rfl; (focus ((repeat (first | exact List.Mem.head _ | refine List.Mem.tail _ ?_)); done)); fail)); (first | exact Res.tmp rfl | (apply R_cellAll rfl; (focus ((repeat (first | exact List.Mem.head _ | refine List.Mem.tail _ ?_)); done)); exact T.rw25) | (apply R_cell1 rfl; (focus ((repeat (first | exact List.Mem.head _ | refine List.Mem.tail _ ?_)); done)); fail)))
            | (apply E_ret3 rfl; (first | exact Res.tmp rfl | (apply R_cellAll rfl; (focus ((repeat (first | exact List.Mem.head _ | refine List.Mem.tail _ ?_)); done)); exact T.rw25) | (apply R_cell1 rfl; (focus ((repeat (first | exact List.Mem.head _ | refine List.Mem.tail _ ?_)); done)); fail)); (first | exact Res.tmp rfl | (apply R_cellAll rfl; (focus ((repeat (first | exact List.Mem.head _ | refine List.Mem.tail _ ?_)); done)); exact T.rw25) | (apply R_cell1 rfl; (focus ((repeat (first | exact List.Mem.head _ | refine List.Mem.tail _ ?_)); done)); fail)); (first | exact Res.tmp rfl | (apply R_cellAll rfl; (focus ((repeat (first | exact List.Mem.head _ | refine List.Mem.tail _ ?_)); done)); exact T.rw25) | (apply R_cell1 rfl; (focus ((repeat (first | exact List.Mem.head _ | refine List.Mem.tail _ ?_)); done)); fail))))))
      refine retX (sv, [p]) ?_ rfl ?_
      · rw [partN_c h2 h1 (hlo h2)]
      · exact (by (focus (apply Ent.flat; (simp only [List.length_append, List.length_cons, List.length_nil, Nat.zero_add, flat_many, flat_row, flat_blk, flat_append, flat_nil, List.map_append, List.map_cons, List.map_nil, List.flatMap_append, List.flatMap_cons, List.flatMap_nil, List.append_assoc, List.append_nil, List.nil_append, List.cons_append, Row.blk_mk, rwSNetPrefix, rwSuint8]); ((repeat (first | exact Pull.nil | (apply Pull.app; (focus ((repeat (first | exact PickA.here | exact PickA.all | apply PickA.there | apply PickA.over)); done))) | (apply Pull.cons; (focus ((repeat (first | exact Pick.here | exact Pick.last | apply Pick.there | apply Pick.over)); done))) | (apply Pull.atom; (focus ((repeat (first | exact PickA.here | exact PickA.all | apply PickA.there | apply PickA.over)); done))))); done))))
  · cases h1 : anyIn p x.2
    all_goals
      refine enter (n := 88) (E := [(0, _), (1, _), (2, _)]) Try.func61 rfl rfl rfl rfl ?_
      repeat' (first
        | (refine gS ?_; (first
            | (refine gGuard ?_; (first
                | (refine S_on rfl ?_)
                | (refine S_off rfl rfl rfl ?_)
                | (refine S_offn rfl rfl ?_)
                | (refine S_offU rfl rfl ?_)
                | (refine S_offUn rfl ?_)
                | (refine S_gsplit rfl ?_ ?_ <;> (intro hb; (try simp only [decide_eq_true_eq] at hb); (try simp only [decide_eq_false_iff_not] at hb); (try simp only [Bool.not_eq_true'] at hb); (try simp only [Bool.not_eq_false'] at hb); (try (exfalso; first | contradiction | omega))))))
            | (refine S_move rfl rfl ?_)
            | (refine S_assign rfl rfl ?_)
            | (apply F_idx rfl rfl rfl; exact T.sl37; (focus rfl); (focus (first | exact len_nil | (apply len_given; assumption) | (apply len_row; (focus ((repeat (first | exact List.Mem.head _ | refine List.Mem.tail _ ?_)); done))) | (refine len_isN ?_; assumption))); (focus omega))
            | (apply F_idxZ rfl rfl rfl; exact T.sl37; (focus omega); (focus (first | exact len_nil | (apply len_given; assumption) | (apply len_row; (focus ((repeat (first | exact List.Mem.head _ | refine List.Mem.tail _ ?_)); done))) | (refine len_isN ?_; assumption))); (focus omega))
            | (apply F_bs0 rfl rfl; exact T.el37; rfl; intro sv; (try (refine S_fact (row_one (v := sv) (by (focus ((repeat (first | exact List.Mem.head _ | refine List.Mem.tail _ ?_)); done)))) (fun hone => ?_))))
            | (apply F_bs rfl rfl; exact T.el37; rfl; rfl; rfl; rfl; (focus ((repeat (first | exact Dense.nil | (apply Dense.cons; rfl; rfl))); done)); intro sv; (try (refine S_fact (row_one (v := sv) (by (focus ((repeat (first | exact List.Mem.head _ | refine List.Mem.tail _ ?_)); done)))) (fun hone => ?_))))
            | (refine gLoad ?_; (first
                | (apply F_loadAll rfl rfl; (focus ((repeat (first | exact List.Mem.head _ | refine List.Mem.tail _ ?_)); done)); exact T.rw25; (focus (first | exact free0 | exact free1)))
                | (apply F_loadP rfl rfl; (focus ((repeat (first | exact List.Mem.head _ | refine List.Mem.tail _ ?_)); done)); exact T.rw25; (focus ((repeat (first | exact Take.nil | apply Take.here | apply Take.there)); done)); rfl; (focus (first | exact free0 | exact free1)))
                | (apply F_loadSN rfl rfl; exact T.rw25; (focus (first | exact rd_nil | (apply rd_given; (focus assumption); (focus (first | exact freeG0 | exact freeG1))) | (apply rd_row; (focus ((repeat (first | exact List.Mem.head _ | refine List.Mem.tail _ ?_)); done)); (focus (first | exact freeR0 | exact freeR1))))); (focus (first | (focus (apply at_flat; (focus (intro _; rfl)); (focus assumption))) | exact at_self)); rfl; rfl)
                | (apply F_loadSP rfl rfl; exact T.rw25; (focus (first | exact rd_nil | (apply rd_given; (focus assumption); (focus (first | exact freeG0 | exact freeG1))) | (apply rd_row; (focus ((repeat (first | exact List.Mem.head _ | refine List.Mem.tail _ ?_)); done)); (focus (first | exact freeR0 | exact freeR1))))); (focus (apply at_flat; (focus (intro _; rfl)); (focus assumption))); (focus ((repeat (first | exact Take.nil | apply Take.here | apply Take.there)); done)); rfl; rfl)
                | (apply F_loadST rfl rfl; exact T.rw25; (focus (first | exact rd_nil | (apply rd_given; (focus assumption); (focus (first | exact freeG0 | exact freeG1))) | (apply rd_row; (focus ((repeat (first | exact List.Mem.head _ | refine List.Mem.tail _ ?_)); done)); (focus (first | exact freeR0 | exact freeR1))))); (focus ((repeat (first | exact Take.nil | apply Take.here | apply Take.there)); done)); rfl; rfl)))
            | (refine gStore ?_; (first
                | (apply F_storeN rfl rfl; (focus (first | rfl | assumption | (simp only [List.append_nil, List.all_cons, List.all_nil, Bool.and_true, Bool.true_and, one_int, one_bool, one_string, one_slice, one_pointer, *]; done))); exact T.rw25; (focus ((repeat (first | exact Upd.here | apply Upd.there)); done)); (focus ((repeat (first | exact SetSeg.nil | apply SetSeg.here | apply SetSeg.there)); done)); (first | exact okst2 | exact okst1 | exact okst1'))
                | (apply F_storeSN rfl rfl; (focus ((repeat (first | exact Upd.here | apply Upd.there)); done)); exact T.rw25; rfl; (focus (first | rfl | assumption | (simp only [List.append_nil, List.all_cons, List.all_nil, Bool.and_true, Bool.true_and, one_int, one_bool, one_string, one_slice, one_pointer, *]; done))); rfl; (focus omega); (first | exact okst2 | exact okst1 | exact okst1'))))
            | (refine gCall ?_; (first
                | (refine S_callX (f := 66) rfl T.pf66 rfl (fun w hst => touching_l p x hp hxo h1 (by omega) w (by first | (refine Rds.given hst ?_; assumption) | (apply Rds.many hst; (focus ((repeat (first | exact List.Mem.head _ | refine List.Mem.tail _ ?_)); done))) | (apply Rds.row hst; (focus ((repeat (first | exact List.Mem.head _ | refine List.Mem.tail _ ?_)); done))))) rfl (fun zz hzz => ?_); simp only [List.cons_append, List.nil_append]; revert hzz; revert zz; intro y1 hy1; refine S_unrow ?_; have hyl1 := congrArg List.length hy1)
                | (refine S_callX (f := 66) rfl T.pf66 rfl (fun w hst => touching_l p o hp hoo h2 (by omega) w (by first | (refine Rds.given hst ?_; assumption) | (apply Rds.many hst; (focus ((repeat (first | exact List.Mem.head _ | refine List.Mem.tail _ ?_)); done))) | (apply Rds.row hst; (focus ((repeat (first | exact List.Mem.head _ | refine List.Mem.tail _ ?_)); done))))) rfl (fun zz hzz => ?_); simp only [List.cons_append, List.nil_append]; revert hzz; revert zz; intro y2 hy2; refine S_unrow ?_; have hyl2 := congrArg List.length hy2)
                | (apply F_len rfl rfl rfl; (focus exact ⟨_, _, by exact T.sl37⟩); (focus (first | exact len_nil | (apply len_given; assumption) | (apply len_row; (focus ((repeat (first | exact List.Mem.head _ | refine List.Mem.tail _ ?_)); done))) | (refine len_isN ?_; assumption))))
                | (apply F_append rfl rfl rfl rfl; exact T.el37; (focus (intro sv; (focus ((repeat (first | exact Upd.here | apply Upd.there)); done)))); (focus (first | exact rd_nil | (apply rd_given; (focus assumption); (focus (first | exact freeG0 | exact freeG1))) | (apply rd_row; (focus ((repeat (first | exact List.Mem.head _ | refine List.Mem.tail _ ?_)); done)); (focus (first | exact freeR0 | exact freeR1))))); (focus (first | rfl | assumption | (apply all_flat; intro _ _; rfl) | (rw [List.append_nil]; assumption) | (simp only [List.append_nil, List.all_cons, List.all_nil, Bool.and_true, Bool.true_and, one_int, one_bool, one_string, one_slice, one_pointer, *]; done) | simp)); (first | exact okst2 | exact okst1 | exact okst1'); (focus (simp only [maxLen]; first | omega | (simp only [List.length_take, List.length_drop]; omega))); (focus (first | omega | (simp only [List.length_take, List.length_drop]; omega))); intro sv; (try (refine S_fact (row_one (v := sv) (by (focus ((repeat (first | exact List.Mem.head _ | refine List.Mem.tail _ ?_)); done)))) (fun hone => ?_))))))
            | (refine gBin ?_; (first
                | (apply S_eqlS rfl rfl rfl; (focus exact T.eqs25 _ _ _ _))
                | (apply S_neqS rfl rfl rfl; (focus exact T.eqs25 _ _ _ _))
                | (refine S_eql rfl rfl rfl ?_)
                | (refine S_eqlB Try.underlying4 rfl rfl rfl ?_)))
            | (refine gPick ?_; (first
                | (refine S_pickT rfl rfl rfl ?_)
                | (refine S_pickF rfl rfl rfl ?_)))
            | (refine S_box rfl rfl rfl ?_; intro kb)
            | (apply S_alloc rfl (hd := rfl); exact T.zc25; intro kb)
            | (apply F_build2 rfl (hd := rfl); exact T.st25; (focus ((repeat (first | exact BuildR.nil | (apply BuildR.cons; (first | exact T.fs25_0 | exact T.fs25_1); rfl; rfl; (focus ((repeat (first | exact SetSeg.nil | apply SetSeg.here | apply SetSeg.there)); done))) | (apply BuildR.cons1; (first | exact T.fs25_0 | exact T.fs25_1); (focus assumption); (focus ((repeat (first | exact SetSeg.nil | apply SetSeg.here | apply SetSeg.there)); done))))); done)))
            | (refine S_not rfl rfl ?_)
            | (refine S_extract rfl rfl rfl ?_)
            | (refine S_done ?_)
            | (refine S_box1 rfl rfl rfl rfl ?_; intro kb)))
        | (refine gC ?_; (first
            | (refine C_seq ?_)
            | (refine gReg ?_; (first
                | (refine gReg (i := 0) ?_; refine C_plain [(0, 2), (1, 0)] (by kernel_rfl) (s := [⟨2, none, _, _, _⟩, ⟨0, none, _, _, _⟩]) rfl ?_)
                | (refine gReg (i := 1) ?_; refine C_plain [(0, 0), (1, 0), (2, 2), (3, 0), (4, 0), (5, 0), (6, 0), (7, 0)] (by kernel_rfl) (s := [⟨0, none, _, _, _⟩, ⟨0, none, _, _, _⟩, ⟨2, none, _, _, _⟩, ⟨0, none, _, _, _⟩, ⟨0, none, _, _, _⟩, ⟨0, none, _, _, _⟩, ⟨0, none, _, _, _⟩, ⟨0, none, _, _, _⟩]) rfl ?_)
                | (refine gReg (i := 2) ?_; refine C_plain [(0, 0), (1, 0), (2, 2), (3, 0), (4, 0), (5, 0), (6, 0), (7, 0)] (by kernel_rfl) (s := [⟨0, none, _, _, _⟩, ⟨0, none, _, _, _⟩, ⟨2, none, _, _, _⟩, ⟨0, none, _, _, _⟩, ⟨0, none, _, _, _⟩, ⟨0, none, _, _, _⟩, ⟨0, none, _, _, _⟩, ⟨0, none, _, _, _⟩]) rfl ?_)
                | (refine gReg (i := 3) ?_; refine C_plain [(0, 0), (1, 0), (2, 0), (3, 0), (4, 0), (5, 0), (6, 0), (7, 0), (8, 0), (9, 0), (10, 0)] (by kernel_rfl) (s := [⟨0, none, _, _, _⟩, ⟨0, none, _, _, _⟩, ⟨0, some (27, false), _, _, _⟩, ⟨0, some (27, false), _, _, _⟩, ⟨0, some (27, false), _, _, _⟩, ⟨0, some (30, true), _, _, _⟩, ⟨0, some (30, true), _, _, _⟩, ⟨0, some (30, true), _, _, _⟩, ⟨0, some (27, false), _, _, _⟩, ⟨0, none, _, _, _⟩, ⟨0, none, _, _, _⟩]) rfl ?_)
                | (refine gReg (i := 4) ?_; refine C_plain [(0, 0)] (by kernel_rfl) (s := [⟨0, none, _, _, _⟩]) rfl ?_)
                | (refine gReg (i := 5) ?_; refine C_plain [(0, 0), (1, 0), (2, 0), (3, 0), (4, 0), (5, 0), (6, 0)] (by kernel_rfl) (s := [⟨0, none, _, _, _⟩, ⟨0, none, _, _, _⟩, ⟨0, some (38, true), _, _, _⟩, ⟨0, some (38, true), _, _, _⟩, ⟨0, some (38, true), _, _, _⟩, ⟨0, none, _, _, _⟩, ⟨0, none, _, _, _⟩]) rfl ?_)
                | (refine gReg (i := 6) ?_; refine C_plain [(0, 0), (1, 2), (2, 0)] (by kernel_rfl) (s := [⟨0, none, _, _, _⟩, ⟨2, none, _, _, _⟩, ⟨0, none, _, _, _⟩]) rfl ?_)
                | (refine gReg (i := 7) ?_; refine C_plain [(0, 0)] (by kernel_rfl) (s := [⟨0, none, _, _, _⟩]) rfl ?_)
                | (refine gReg (i := 8) ?_; refine C_plain [(0, 0), (1, 2), (2, 0)] (by kernel_rfl) (s := [⟨0, none, _, _, _⟩, ⟨2, none, _, _, _⟩, ⟨0, none, _, _, _⟩]) rfl ?_)
                | (refine gReg (i := 9) ?_; refine C_plain [(0, 0), (1, 2), (2, 0), (3, 0), (4, 0), (5, 2), (6, 2), (7, 2), (8, 2)] (by kernel_rfl) (s := [⟨0, none, _, _, _⟩, ⟨2, none, _, _, _⟩, ⟨0, none, _, _, _⟩, ⟨0, none, _, _, _⟩, ⟨0, none, _, _, _⟩, ⟨2, none, _, _, _⟩, ⟨2, none, _, _, _⟩, ⟨2, none, _, _, _⟩, ⟨2, none, _, _, _⟩]) rfl ?_)
                | (refine gReg (i := 10) ?_; refine C_drawn [(0, 0), (1, 0), (2, 0), (4, 0), (5, 0), (6, 0), (3, 1), (7, 1), (8, 0), (9, 0)] [] T.mixed (by kernel_rfl) (s := [⟨0, none, _, _, _⟩, ⟨0, none, _, _, _⟩, ⟨0, none, _, _, _⟩, ⟨0, none, _, _, _⟩, ⟨0, none, _, _, _⟩, ⟨0, none, _, _, _⟩, ⟨1, none, _, _, _⟩, ⟨1, none, _, _, _⟩, ⟨0, none, _, _, _⟩, ⟨0, none, _, _, _⟩]) rfl ?_)
                | (refine gReg (i := 11) ?_; refine C_drawn [(0, 0), (1, 0), (2, 0), (3, 0), (4, 0), (5, 0), (6, 0), (7, 0), (8, 0), (9, 0), (10, 0), (11, 0), (12, 0), (13, 0), (14, 0), (15, 0), (16, 0), (17, 0), (18, 0), (19, 0), (20, 0), (21, 0)] [] T.mixed (by kernel_rfl) (s := [⟨0, none, _, _, _⟩, ⟨0, none, _, _, _⟩, ⟨0, none, _, _, _⟩, ⟨0, none, _, _, _⟩, ⟨0, some (64, true), _, _, _⟩, ⟨0, some (64, true), _, _, _⟩, ⟨0, some (64, true), _, _, _⟩, ⟨0, some (64, true), _, _, _⟩, ⟨0, some (64, true), _, _, _⟩, ⟨0, none, _, _, _⟩, ⟨0, none, _, _, _⟩, ⟨0, some (71, true), _, _, _⟩, ⟨0, some (71, true), _, _, _⟩, ⟨0, some (71, true), _, _, _⟩, ⟨0, none, _, _, _⟩, ⟨0, none, _, _, _⟩, ⟨0, some (76, true), _, _, _⟩, ⟨0, some (76, true), _, _, _⟩, ⟨0, some (76, true), _, _, _⟩, ⟨0, some (76, true), _, _, _⟩, ⟨0, some (76, true), _, _, _⟩, ⟨0, none, _, _, _⟩]) rfl ?_)
                | (refine gReg (i := 12) ?_; refine C_plain [(0, 0), (1, 2), (2, 0)] (by kernel_rfl) (s := [⟨0, none, _, _, _⟩, ⟨2, none, _, _, _⟩, ⟨0, none, _, _, _⟩]) rfl ?_)
                | (refine gReg (i := 13) ?_; refine C_plain [(0, 0), (1, 0), (2, 2), (3, 0)] (by kernel_rfl) (s := [⟨0, none, _, _, _⟩, ⟨0, none, _, _, _⟩, ⟨2, none, _, _, _⟩, ⟨0, none, _, _, _⟩]) rfl ?_)))
            | (refine C_true rfl ?_)
            | (refine C_false rfl ?_)
            | (refine C_split rfl ?_ ?_ <;> (intro hb; (try simp only [decide_eq_true_eq] at hb); (try simp only [decide_eq_false_iff_not] at hb); (try simp only [Bool.not_eq_true'] at hb); (try simp only [Bool.not_eq_false'] at hb); (try (exfalso; first | contradiction | omega))))
            | (refine C_skip ?_)
            | (refine C_exit ?_)
            | (refine C_ret ?_)
            | (refine C_block ?_)))
        | (refine gE ?_; (first
            | (refine E_then ?_)
            | (refine E_thenX ?_)
            | (refine E_thenR ?_)
            | (refine E_block ?_)
            | (refine E_blockY ?_)
            | (refine E_blockR ?_)
            | (refine E_calm ?_)
            | (refine E_blockX rfl ?_)
            | (apply E_ret1 rfl; (first | exact Res.tmp rfl | (apply R_cellAll rfl; (focus ((repeat (first | exact List.Mem.head _ | refine List.Mem.tail _ ?_)); done)); exact T.rw25) | (apply R_cell1 rfl; (focus ((repeat (first | exact List.Mem.head _ | refine List.Mem.tail _ ?_)); done)); fail)))
            | (apply E_ret2 rfl; (first | exact Res.tmp rfl | (apply R_cellAll rfl; (focus ((repeat (first | exact List.Mem.head _ | refine List.Mem.tail _ ?_)); done)); exact T.rw25) | (apply R_cell1 rfl; (focus ((repeat (first | exact List.Mem.head _ | refine List.Mem.tail _ ?_)); done)); fail)); (first | exact Res.tmp rfl | (apply R_cellAll rfl; (focus ((repeat (first | exact List.Mem.head _ | refine List.Mem.tail _ ?_)); done)); exact T.rw25) | (apply R_cell1 rfl; (focus ((repeat (first | exact List.Mem.head _ | refine List.Mem.tail _ ?_)); done)); fail)))
            | (apply E_ret3 rfl; (first | exact Res.tmp rfl | (apply R_cellAll rfl; (focus ((repeat (first | exact List.Mem.head _ | refine List.Mem.tail _ ?_)); done)); exact T.rw25) | (apply R_cell1 rfl; (focus ((repeat (first | exact List.Mem.head _ | refine List.Mem.tail _ ?_)); done)); fail)); (first | exact Res.tmp rfl | (apply R_cellAll rfl; (focus ((repeat (first | exact List.Mem.head _ | refine List.Mem.tail _ ?_)); done)); exact T.rw25) | (apply R_cell1 rfl; (focus ((repeat (first | exact List.Mem.head _ | refine List.Mem.tail _ ?_)); done)); fail)); (first | exact Res.tmp rfl | (apply R_cellAll rfl; (focus ((repeat (first | exact List.Mem.head _ | refine List.Mem.tail _ ?_)); done)); exact T.rw25) | (apply R_cell1 rfl; (focus ((repeat (first | exact List.Mem.head _ | refine List.Mem.tail _ ?_)); done)); fail))))))
      refine retX (.slice none 0 0, []) ?_ rfl (Ent.trans (Ent.ghost 25 2) ?_)
      · rw [partN_a h2]
      · exact (by (focus (apply Ent.flat; (simp only [List.length_append, List.length_cons, List.length_nil, Nat.zero_add, flat_many, flat_row, flat_blk, flat_append, flat_nil, List.map_append, List.map_cons, List.map_nil, List.flatMap_append, List.flatMap_cons, List.flatMap_nil, List.append_assoc, List.append_nil, List.nil_append, List.cons_append, Row.blk_mk, rwSNetPrefix, rwSuint8]); ((repeat (first | exact Pull.nil | (apply Pull.app; (focus ((repeat (first | exact PickA.here | exact PickA.all | apply PickA.there | apply PickA.over)); done))) | (apply Pull.cons; (focus ((repeat (first | exact Pick.here | exact Pick.last | apply Pick.there | apply Pick.over)); done))) | (apply Pull.atom; (focus ((repeat (first | exact PickA.here | exact PickA.all | apply PickA.there | apply PickA.over)); done))))); done))))
end Go.Proofs.Ytobgbogglilfjaa

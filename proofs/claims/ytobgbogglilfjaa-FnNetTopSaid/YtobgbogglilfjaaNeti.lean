/- The fewest prefixes: the reference's recursion, and both functions as a whole. -/
import Derived.Test.YtobgbogglilfjaaNeth
set_option linter.unusedSimpArgs false
set_option linter.unusedVariables false
namespace Go.Proofs.Ytobgbogglilfjaa
open Go Go.RowKit
attribute [local irreducible] Calls GoS GoC GoE GoT IsFl IsSc IsRw IsSl IsEl IsSt IsFs sp Mem Rd LenOf szR
theorem sim_refl {p : MNetPrefix} {l : List MNetPrefix} : Sim p l l := fun _ _ _ => ⟨rfl, fun _ => rfl⟩
attribute [local irreducible] Rds partN anyIn anyOf okQ inQ allOk size
set_option maxHeartbeats 2000000 in
theorem specPart_succ (k : Nat) (ih : ∀ p, ∀ (x o : MSNetPrefix), okQ p = true → p.2 + (k : Int) = 16 → allOk x.2 → allOk o.2 → x.2.length ≤ 40 → o.2.length ≤ 40 → ∀ w, Rds w (rwSNetPrefix x) → Rds w (rwSNetPrefix o) →
    Calls Try.prog 59 #[.agg (clNetPrefix p).toArray, x.1, o.1] w (RetX (fun y : MSNetPrefix => y.2 = partN k p x.2 o.2) (fun y => y.1) (fun y => [.many (rwSNetPrefix y)]) w)) (p : MNetPrefix) : ∀ (x o : MSNetPrefix), okQ p = true → p.2 + ((k + 1 : Nat) : Int) = 16 → allOk x.2 → allOk o.2 → x.2.length ≤ 40 → o.2.length ≤ 40 → ∀ w, Rds w (rwSNetPrefix x) → Rds w (rwSNetPrefix o) →
    Calls Try.prog 59 #[.agg (clNetPrefix p).toArray, x.1, o.1] w (RetX (fun y : MSNetPrefix => y.2 = partN (k + 1) p x.2 o.2) (fun y => y.1) (fun y => [.many (rwSNetPrefix y)]) w) := by
  intro x o hp hk hxo hoo hxl hol w hx ho
  have hp' := okQ_t hp
  have hlt : p.2 < 16 := by omega
  have q1 := lowQ_ok hp hlt
  have q2 := highQ_ok hp hlt
  have hk1 : (lowQ p).2 + (k : Int) = 16 := by simp only [lowQ]; omega
  have hk2 : (highQ p).2 + (k : Int) = 16 := by simp only [highQ]; omega
  have hpow : 2 ^ k ≤ 65536 := by
    have : k ≤ 16 := by omega
    exact Nat.pow_le_pow_right (n := 2) (by omega) this
  have hlen : ∀ q l o, (partN k q l o).length ≤ 65536 := fun q l o => Nat.le_trans (partN_len k q l o) hpow
  clear hpow
  cases h2 : anyIn p o.2
  · cases h1 : anyIn p x.2
    · cases h3 : anyOf x.2 p
      · obtain ⟨d, h4⟩ : ∃ d, anyOf o.2 p = d := ⟨_, rfl⟩
        refine enter (n := 86) (E := [(0, _), (1, _), (2, _)]) Try.func59 rfl rfl rfl rfl ?_
        repeat' (first
          | (refine gS ?_; (first
              | (refine gGuard ?_; (first
                  | (refine S_on rfl ?_)
                  | (refine S_off rfl rfl rfl ?_)
                  | (refine S_offn rfl rfl ?_)
                  | (refine S_offU rfl rfl ?_)
                  | (refine S_offUn rfl ?_)
                  | (refine S_gsplit rfl ?_ ?_ <;> (intro hb; (try simp only [decide_eq_true_eq] at hb); (try simp only [decide_eq_false_iff_not] at hb); (try simp only [Bool.not_eq_true'] at hb); (try simp only [Bool.not_eq_false'] at hb); (try (exfalso; first | contradiction | omega))))))
              | (refine S_move rfl rfl ?_)
              | (refine S_assign rfl rfl ?_)
              | (apply F_idx rfl rfl rfl; exact T.sl37; (focus rfl); (focus (first | exact len_nil | (apply len_given; assumption) | (apply len_row; (focus ((repeat (first | exact List.Mem.head _ | refine List.Mem.tail _ ?_)); done))) | (refine len_isN ?_; assumption))); (focus omega))
              | (apply F_idxZ rfl rfl rfl; exact T.sl37; (focus omega); (focus (first | exact len_nil | (apply len_given; assumption) | (apply len_row; (focus ((repeat (first | exact List.Mem.head _ | refine List.Mem.tail _ ?_)); done))) | (refine len_isN ?_; assumption))); (focus omega))
              | (apply F_bs0 rfl rfl; exact T.el37; rfl; intro sv; (try (refine S_fact (row_one (v := sv) (by (focus ((repeat (first | exact List.Mem.head _ | refine List.Mem.tail _ ?_)); done)))) (fun hone => ?_))))
              | (apply F_bs rfl rfl; exact T.el37; rfl; rfl; rfl; rfl; (focus ((repeat (first | exact Dense.nil | (apply Dense.cons; rfl; rfl))); done)); intro sv; (try (refine S_fact (row_one (v := sv) (by (focus ((repeat (first | exact List.Mem.head _ | refine List.Mem.tail _ ?_)); done)))) (fun hone => ?_))))
              | (refine gLoad ?_; (first
                  | (apply F_loadAll rfl rfl; (focus ((repeat (first | exact List.Mem.head _ | refine List.Mem.tail _ ?_)); done)); exact T.rw25; (focus (first | exact free0 | exact free1)))
                  | (apply F_loadP rfl rfl; (focus ((repeat (first | exact List.Mem.head _ | refine List.Mem.tail _ ?_)); done)); exact T.rw25; (focus ((repeat (first | exact Take.nil | apply Take.here | apply Take.there)); done)); rfl; (focus (first | exact free0 | exact free1)))
                  | (apply F_loadSN rfl rfl; exact T.rw25; (focus (first | exact rd_nil | (apply rd_given; (focus assumption); (focus (first | exact freeG0 | exact freeG1))) | (apply rd_row; (focus ((repeat (first | exact List.Mem.head _ | refine List.Mem.tail _ ?_)); done)); (focus (first | exact freeR0 | exact freeR1))))); (focus (first | (focus (apply at_flat; (focus (intro _; rfl)); (focus assumption))) | exact at_self)); rfl; rfl)
                  | (apply F_loadSP rfl rfl; exact T.rw25; (focus (first | exact rd_nil | (apply rd_given; (focus assumption); (focus (first | exact freeG0 | exact freeG1))) | (apply rd_row; (focus ((repeat (first | exact List.Mem.head _ | refine List.Mem.tail _ ?_)); done)); (focus (first | exact freeR0 | exact freeR1))))); (focus (apply at_flat; (focus (intro _; rfl)); (focus assumption))); (focus ((repeat (first | exact Take.nil | apply Take.here | apply Take.there)); done)); rfl; rfl)
                  | (apply F_loadST rfl rfl; exact T.rw25; (focus (first | exact rd_nil | (apply rd_given; (focus assumption); (focus (first | exact freeG0 | exact freeG1))) | (apply rd_row; (focus ((repeat (first | exact List.Mem.head _ | refine List.Mem.tail _ ?_)); done)); (focus (first | exact freeR0 | exact freeR1))))); (focus ((repeat (first | exact Take.nil | apply Take.here | apply Take.there)); done)); rfl; rfl)))
              | (refine gStore ?_; (first
                  | (apply F_storeN rfl rfl; (focus (first | rfl | assumption | (simp only [List.append_nil, List.all_cons, List.all_nil, Bool.and_true, Bool.true_and, one_int, one_bool, one_string, one_slice, one_pointer, *]; done))); exact T.rw25; (focus ((repeat (first | exact Upd.here | apply Upd.there)); done)); (focus ((repeat (first | exact SetSeg.nil | apply SetSeg.here | apply SetSeg.there)); done)); (first | exact okst2 | exact okst1 | exact okst1'))
                  | (apply F_storeSN rfl rfl; (focus ((repeat (first | exact Upd.here | apply Upd.there)); done)); exact T.rw25; rfl; (focus (first | rfl | assumption | (simp only [List.append_nil, List.all_cons, List.all_nil, Bool.and_true, Bool.true_and, one_int, one_bool, one_string, one_slice, one_pointer, *]; done))); rfl; (focus omega); (first | exact okst2 | exact okst1 | exact okst1'))))
              | (refine gCall ?_; (first
                  | (refine S_callN (f := 65) rfl T.pf65 rfl (fun w hst => some_l x p hp hxo h1 h3 w (by first | (refine Rds.given hst ?_; assumption) | (apply Rds.many hst; (focus ((repeat (first | exact List.Mem.head _ | refine List.Mem.tail _ ?_)); done))) | (apply Rds.row hst; (focus ((repeat (first | exact List.Mem.head _ | refine List.Mem.tail _ ?_)); done))))) rfl ?_)
                  | (refine S_callN (f := 65) rfl T.pf65 rfl (fun w hst => some_l o p hp hoo h2 h4 w (by first | (refine Rds.given hst ?_; assumption) | (apply Rds.many hst; (focus ((repeat (first | exact List.Mem.head _ | refine List.Mem.tail _ ?_)); done))) | (apply Rds.row hst; (focus ((repeat (first | exact List.Mem.head _ | refine List.Mem.tail _ ?_)); done))))) rfl ?_)
                  | (apply F_len rfl rfl rfl; (focus exact ⟨_, _, by exact T.sl37⟩); (focus (first | exact len_nil | (apply len_given; assumption) | (apply len_row; (focus ((repeat (first | exact List.Mem.head _ | refine List.Mem.tail _ ?_)); done))) | (refine len_isN ?_; assumption))))
                  | (apply F_append rfl rfl rfl rfl; exact T.el37; (focus (intro sv; (focus ((repeat (first | exact Upd.here | apply Upd.there)); done)))); (focus (first | exact rd_nil | (apply rd_given; (focus assumption); (focus (first | exact freeG0 | exact freeG1))) | (apply rd_row; (focus ((repeat (first | exact List.Mem.head _ | refine List.Mem.tail _ ?_)); done)); (focus (first | exact freeR0 | exact freeR1))))); (focus (first | rfl | assumption | (apply all_flat; intro _ _; rfl) | (rw [List.append_nil]; assumption) | (simp only [List.append_nil, List.all_cons, List.all_nil, Bool.and_true, Bool.true_and, one_int, one_bool, one_string, one_slice, one_pointer, *]; done) | simp)); (first | exact okst2 | exact okst1 | exact okst1'); (focus (simp only [maxLen]; first | omega | (simp only [List.length_take, List.length_drop]; omega))); (focus (first | omega | (simp only [List.length_take, List.length_drop]; omega))); intro sv; (try (refine S_fact (row_one (v := sv) (by (focus ((repeat (first | exact List.Mem.head _ | refine List.Mem.tail _ ?_)); done)))) (fun hone => ?_))))))
              | (refine gBin ?_; (first
                  | (apply S_eqlS rfl rfl rfl; (focus exact T.eqs25 _ _ _ _))
                  | (apply S_neqS rfl rfl rfl; (focus exact T.eqs25 _ _ _ _))
                  | (refine S_eql rfl rfl rfl ?_)
                  | (refine S_eqlB Try.underlying4 rfl rfl rfl ?_)))
              | (refine gPick ?_; (first
                  | (refine S_pickT rfl rfl rfl ?_)
                  | (refine S_pickF rfl rfl rfl ?_)))
              | (refine S_box rfl rfl rfl ?_; intro kb)
              | (apply S_alloc rfl (hd := rfl); exact T.zc25; intro kb)
              | (apply F_build2 rfl (hd := rfl); exact T.st25; (focus ((repeat (first | exact BuildR.nil | (apply BuildR.cons; (first | exact T.fs25_0 | exact T.fs25_1); rfl; rfl; (focus ((repeat (first | exact SetSeg.nil | apply SetSeg.here | apply SetSeg.there)); done))) | (apply BuildR.cons1; (first | exact T.fs25_0 | exact T.fs25_1); (focus assumption); (focus ((repeat (first | exact SetSeg.nil | apply SetSeg.here | apply SetSeg.there)); done))))); done)))
              | (refine S_not rfl rfl ?_)
              | (refine S_extract rfl rfl rfl ?_)
              | (refine S_done ?_)
              | (refine S_box1 rfl rfl rfl rfl ?_; intro kb)))
          | (refine gC ?_; (first
              | (refine C_seq ?_)
              | (refine gReg ?_; (first
                  | (refine gReg (i := 0) ?_; refine C_plain [(0, 2), (1, 0)] (by kernel_rfl) (s := [⟨2, none, _, _, _⟩, ⟨0, none, _, _, _⟩]) rfl ?_)
                  | (refine gReg (i := 1) ?_; refine C_plain [(0, 0), (1, 0), (2, 2), (3, 0), (4, 0), (5, 0), (6, 0), (7, 0)] (by kernel_rfl) (s := [⟨0, none, _, _, _⟩, ⟨0, none, _, _, _⟩, ⟨2, none, _, _, _⟩, ⟨0, none, _, _, _⟩, ⟨0, none, _, _, _⟩, ⟨0, none, _, _, _⟩, ⟨0, none, _, _, _⟩, ⟨0, none, _, _, _⟩]) rfl ?_)
                  | (refine gReg (i := 2) ?_; refine C_plain [(0, 0), (1, 0), (2, 2), (3, 0), (4, 0), (5, 0), (6, 0), (7, 0)] (by kernel_rfl) (s := [⟨0, none, _, _, _⟩, ⟨0, none, _, _, _⟩, ⟨2, none, _, _, _⟩, ⟨0, none, _, _, _⟩, ⟨0, none, _, _, _⟩, ⟨0, none, _, _, _⟩, ⟨0, none, _, _, _⟩, ⟨0, none, _, _, _⟩]) rfl ?_)
                  | (refine gReg (i := 3) ?_; refine C_plain [(0, 0), (1, 0), (2, 0), (3, 0), (4, 0), (5, 0), (6, 0), (7, 0), (8, 0), (9, 0)] (by kernel_rfl) (s := [⟨0, none, _, _, _⟩, ⟨0, none, _, _, _⟩, ⟨0, some (29, false), _, _, _⟩, ⟨0, some (29, false), _, _, _⟩, ⟨0, some (29, false), _, _, _⟩, ⟨0, some (32, true), _, _, _⟩, ⟨0, some (32, true), _, _, _⟩, ⟨0, some (29, false), _, _, _⟩, ⟨0, none, _, _, _⟩, ⟨0, none, _, _, _⟩]) rfl ?_)
                  | (refine gReg (i := 4) ?_; refine C_plain [(0, 2), (1, 0)] (by kernel_rfl) (s := [⟨2, none, _, _, _⟩, ⟨0, none, _, _, _⟩]) rfl ?_)
                  | (refine gReg (i := 5) ?_; refine C_plain [(0, 0), (1, 0), (2, 0), (3, 0), (4, 0), (5, 0)] (by kernel_rfl) (s := [⟨0, none, _, _, _⟩, ⟨0, none, _, _, _⟩, ⟨0, some (40, true), _, _, _⟩, ⟨0, some (40, true), _, _, _⟩, ⟨0, none, _, _, _⟩, ⟨0, none, _, _, _⟩]) rfl ?_)
                  | (refine gReg (i := 6) ?_; refine C_plain [(0, 0), (1, 2), (2, 0)] (by kernel_rfl) (s := [⟨0, none, _, _, _⟩, ⟨2, none, _, _, _⟩, ⟨0, none, _, _, _⟩]) rfl ?_)
                  | (refine gReg (i := 7) ?_; refine C_plain [(0, 0), (1, 2), (2, 0), (3, 0), (4, 0), (5, 2), (6, 2), (7, 2), (8, 2)] (by kernel_rfl) (s := [⟨0, none, _, _, _⟩, ⟨2, none, _, _, _⟩, ⟨0, none, _, _, _⟩, ⟨0, none, _, _, _⟩, ⟨0, none, _, _, _⟩, ⟨2, none, _, _, _⟩, ⟨2, none, _, _, _⟩, ⟨2, none, _, _, _⟩, ⟨2, none, _, _, _⟩]) rfl ?_)
                  | (refine gReg (i := 8) ?_; refine C_plain [(0, 0), (1, 0), (2, 0), (3, 2), (4, 0)] (by kernel_rfl) (s := [⟨0, none, _, _, _⟩, ⟨0, none, _, _, _⟩, ⟨0, none, _, _, _⟩, ⟨2, none, _, _, _⟩, ⟨0, none, _, _, _⟩]) rfl ?_)
                  | (refine gReg (i := 9) ?_; refine C_plain [(0, 0), (1, 0), (2, 0), (3, 2), (4, 0)] (by kernel_rfl) (s := [⟨0, none, _, _, _⟩, ⟨0, none, _, _, _⟩, ⟨0, none, _, _, _⟩, ⟨2, none, _, _, _⟩, ⟨0, none, _, _, _⟩]) rfl ?_)
                  | (refine gReg (i := 10) ?_; refine C_drawn [(0, 0), (1, 0), (2, 0), (3, 0), (4, 0), (5, 0), (6, 0), (7, 0), (8, 0), (9, 0), (10, 0), (11, 0), (12, 0), (13, 0), (14, 0), (15, 0), (16, 0), (17, 0), (18, 0), (19, 0), (20, 0), (21, 0)] [] T.mixed (by kernel_rfl) (s := [⟨0, none, _, _, _⟩, ⟨0, none, _, _, _⟩, ⟨0, none, _, _, _⟩, ⟨0, none, _, _, _⟩, ⟨0, some (62, true), _, _, _⟩, ⟨0, some (62, true), _, _, _⟩, ⟨0, some (62, true), _, _, _⟩, ⟨0, none, _, _, _⟩, ⟨0, none, _, _, _⟩, ⟨0, some (67, true), _, _, _⟩, ⟨0, some (67, true), _, _, _⟩, ⟨0, some (67, true), _, _, _⟩, ⟨0, some (67, true), _, _, _⟩, ⟨0, some (67, true), _, _, _⟩, ⟨0, none, _, _, _⟩, ⟨0, none, _, _, _⟩, ⟨0, some (74, true), _, _, _⟩, ⟨0, some (74, true), _, _, _⟩, ⟨0, some (74, true), _, _, _⟩, ⟨0, some (74, true), _, _, _⟩, ⟨0, some (74, true), _, _, _⟩, ⟨0, none, _, _, _⟩]) rfl ?_)
                  | (refine gReg (i := 11) ?_; refine C_plain [(0, 0), (1, 2), (2, 0)] (by kernel_rfl) (s := [⟨0, none, _, _, _⟩, ⟨2, none, _, _, _⟩, ⟨0, none, _, _, _⟩]) rfl ?_)
                  | (refine gReg (i := 12) ?_; refine C_plain [(0, 0), (1, 0), (2, 2), (3, 0)] (by kernel_rfl) (s := [⟨0, none, _, _, _⟩, ⟨0, none, _, _, _⟩, ⟨2, none, _, _, _⟩, ⟨0, none, _, _, _⟩]) rfl ?_)))
              | (refine C_true rfl ?_)
              | (refine C_false rfl ?_)
              | (refine C_split rfl ?_ ?_ <;> (intro hb; (try simp only [decide_eq_true_eq] at hb); (try simp only [decide_eq_false_iff_not] at hb); (try simp only [Bool.not_eq_true'] at hb); (try simp only [Bool.not_eq_false'] at hb); (try (exfalso; first | contradiction | omega))))
              | (refine C_skip ?_)
              | (refine C_exit ?_)
              | (refine C_ret ?_)
              | (refine C_block ?_)))
          | (refine gE ?_; (first
              | (refine E_then ?_)
              | (refine E_thenX ?_)
              | (refine E_thenR ?_)
              | (refine E_block ?_)
              | (refine E_blockY ?_)
              | (refine E_blockR ?_)
              | (refine E_calm ?_)
              | (refine E_blockX rfl ?_)
              | (apply E_ret1 rfl; (first | exact Res.tmp rfl | (apply R_cellAll rfl; (focus ((repeat (first | exact List.Mem.head _ | refine List.Mem.tail _ ?_)); done)); exact T.rw25) | (apply R_cell1 rfl; (focus ((repeat (first | exact List.Mem.head _ | refine List.Mem.tail _ ?_)); done)); fail)))
              | (apply E_ret2 rfl; (first | exact Res.tmp rfl | (apply R_cellAll rfl; (focus ((repeat (first | exact List.Mem.head _ | refine List.Mem.tail _ ?_)); done)); exact T.rw25) | (apply R_cell1 rfl; (focus ((repeat (first | exact List.Mem.head _ | refine List.Mem.tail _ ?_)); done)); fail)); (first | exact Res.tmp rfl | (apply R_cellAll rfl; (focus ((repeat (first | exact List.Mem.head _ | refine List.Mem.tail _ ?_)); done)); exact T.rw25) | (apply R_cell1 rfl; (focus ((repeat (first | exact List.Mem.head _ | refine List.Mem.tail _ ?_)); done)); fail)))
              | (apply E_ret3 rfl; (first | exact Res.tmp rfl | (apply R_cellAll rfl; (focus ((repeat (first | exact List.Mem.head _ | refine List.Mem.tail _ ?_)); done)); exact T.rw25) | (apply R_cell1 rfl; (focus ((repeat (first | exact List.Mem.head _ | refine List.Mem.tail _ ?_)); done)); fail)); (first | exact Res.tmp rfl | (apply R_cellAll rfl; (focus ((repeat (first | exact List.Mem.head _ | refine List.Mem.tail _ ?_)); done)); exact T.rw25) | (apply R_cell1 rfl; (focus ((repeat (first | exact List.Mem.head _ | refine List.Mem.tail _ ?_)); done)); fail)); (first | exact Res.tmp rfl | (apply R_cellAll rfl; (focus ((repeat (first | exact List.Mem.head _ | refine List.Mem.tail _ ?_)); done)); exact T.rw25) | (apply R_cell1 rfl; (focus ((repeat (first | exact List.Mem.head _ | refine List.Mem.tail _ ?_)); done)); fail))))))
        refine retX (sv, []) ?_ rfl ?_
        · rw [partN_b h1 h3]
        · exact (by (focus (apply Ent.flat; (simp only [List.length_append, List.length_cons, List.length_nil, Nat.zero_add, flat_many, flat_row, flat_blk, flat_append, flat_nil, List.map_append, List.map_cons, List.map_nil, List.flatMap_append, List.flatMap_cons, List.flatMap_nil, List.append_assoc, List.append_nil, List.nil_append, List.cons_append, Row.blk_mk, rwSNetPrefix, rwSuint8]); ((repeat (first | exact Pull.nil | (apply Pull.app; (focus ((repeat (first | exact PickA.here | exact PickA.all | apply PickA.there | apply PickA.over)); done))) | (apply Pull.cons; (focus ((repeat (first | exact Pick.here | exact Pick.last | apply Pick.there | apply Pick.over)); done))) | (apply Pull.atom; (focus ((repeat (first | exact PickA.here | exact PickA.all | apply PickA.there | apply PickA.over)); done))))); done))))
      · obtain ⟨d, h4⟩ : ∃ d, anyOf o.2 p = d := ⟨_, rfl⟩
        refine enter (n := 86) (E := [(0, _), (1, _), (2, _)]) Try.func59 rfl rfl rfl rfl ?_
        repeat' (first
          | (refine gS ?_; (first
              | (refine gGuard ?_; (first
                  | (refine S_on rfl ?_)
                  | (refine S_off rfl rfl rfl ?_)
                  | (refine S_offn rfl rfl ?_)
                  | (refine S_offU rfl rfl ?_)
                  | (refine S_offUn rfl ?_)
                  | (refine S_gsplit rfl ?_ ?_ <;> (intro hb; (try simp only [decide_eq_true_eq] at hb); (try simp only [decide_eq_false_iff_not] at hb); (try simp only [Bool.not_eq_true'] at hb); (try simp only [Bool.not_eq_false'] at hb); (try (exfalso; first | contradiction | omega)); (try (have hf1 := first1 hb))))))
              | (refine S_move rfl rfl ?_)
              | (refine S_assign rfl rfl ?_)
              | (apply F_idx rfl rfl rfl; exact T.sl37; (focus rfl); (focus (first | exact len_nil | (apply len_given; assumption) | (apply len_row; (focus ((repeat (first | exact List.Mem.head _ | refine List.Mem.tail _ ?_)); done))) | (refine len_isN ?_; assumption))); (focus omega))
              | (apply F_idxZ rfl rfl rfl; exact T.sl37; (focus omega); (focus (first | exact len_nil | (apply len_given; assumption) | (apply len_row; (focus ((repeat (first | exact List.Mem.head _ | refine List.Mem.tail _ ?_)); done))) | (refine len_isN ?_; assumption))); (focus omega))
              | (apply F_bs0 rfl rfl; exact T.el37; rfl; intro sv; (try (refine S_fact (row_one (v := sv) (by (focus ((repeat (first | exact List.Mem.head _ | refine List.Mem.tail _ ?_)); done)))) (fun hone => ?_))))
              | (apply F_bs rfl rfl; exact T.el37; rfl; rfl; rfl; rfl; (focus ((repeat (first | exact Dense.nil | (apply Dense.cons; rfl; rfl))); done)); intro sv; (try (refine S_fact (row_one (v := sv) (by (focus ((repeat (first | exact List.Mem.head _ | refine List.Mem.tail _ ?_)); done)))) (fun hone => ?_))))
              | (refine gLoad ?_; (first
                  | (apply F_loadAll rfl rfl; (focus ((repeat (first | exact List.Mem.head _ | refine List.Mem.tail _ ?_)); done)); exact T.rw25; (focus (first | exact free0 | exact free1)))
                  | (apply F_loadP rfl rfl; (focus ((repeat (first | exact List.Mem.head _ | refine List.Mem.tail _ ?_)); done)); exact T.rw25; (focus ((repeat (first | exact Take.nil | apply Take.here | apply Take.there)); done)); rfl; (focus (first | exact free0 | exact free1)))
                  | (apply F_loadSN rfl rfl; exact T.rw25; (focus (first | exact rd_nil | (apply rd_given; (focus assumption); (focus (first | exact freeG0 | exact freeG1))) | (apply rd_row; (focus ((repeat (first | exact List.Mem.head _ | refine List.Mem.tail _ ?_)); done)); (focus (first | exact freeR0 | exact freeR1))))); (focus (first | (focus (apply at_flat; (focus (intro _; rfl)); (focus assumption))) | exact at_self)); rfl; rfl)
                  | (apply F_loadSP rfl rfl; exact T.rw25; (focus (first | exact rd_nil | (apply rd_given; (focus assumption); (focus (first | exact freeG0 | exact freeG1))) | (apply rd_row; (focus ((repeat (first | exact List.Mem.head _ | refine List.Mem.tail _ ?_)); done)); (focus (first | exact freeR0 | exact freeR1))))); (focus (apply at_flat; (focus (intro _; rfl)); (focus assumption))); (focus ((repeat (first | exact Take.nil | apply Take.here | apply Take.there)); done)); rfl; rfl)
                  | (apply F_loadST rfl rfl; exact T.rw25; (focus (first | exact rd_nil | (apply rd_given; (focus assumption); (focus (first | exact freeG0 | exact freeG1))) | (apply rd_row; (focus ((repeat (first | exact List.Mem.head _ | refine List.Mem.tail _ ?_)); done)); (focus (first | exact freeR0 | exact freeR1))))); (focus ((repeat (first | exact Take.nil | apply Take.here | apply Take.there)); done)); rfl; rfl)))
              | (refine gStore ?_; (first
                  | (apply F_storeN rfl rfl; (focus (first | rfl | assumption | (simp only [List.append_nil, List.all_cons, List.all_nil, Bool.and_true, Bool.true_and, one_int, one_bool, one_string, one_slice, one_pointer, *]; done))); exact T.rw25; (focus ((repeat (first | exact Upd.here | apply Upd.there)); done)); (focus ((repeat (first | exact SetSeg.nil | apply SetSeg.here | apply SetSeg.there)); done)); (first | exact okst2 | exact okst1 | exact okst1'))
                  | (apply F_storeSN rfl rfl; (focus ((repeat (first | exact Upd.here | apply Upd.there)); done)); exact T.rw25; rfl; (focus (first | rfl | assumption | (simp only [List.append_nil, List.all_cons, List.all_nil, Bool.and_true, Bool.true_and, one_int, one_bool, one_string, one_slice, one_pointer, *]; done))); rfl; (focus omega); (first | exact okst2 | exact okst1 | exact okst1'))))
              | (refine gCall ?_; (first
                  | (refine S_callN (f := 65) rfl T.pf65 rfl (fun w hst => some_l x p hp hxo h1 h3 w (by first | (refine Rds.given hst ?_; assumption) | (apply Rds.many hst; (focus ((repeat (first | exact List.Mem.head _ | refine List.Mem.tail _ ?_)); done))) | (apply Rds.row hst; (focus ((repeat (first | exact List.Mem.head _ | refine List.Mem.tail _ ?_)); done))))) rfl ?_)
                  | (refine S_callN (f := 65) rfl T.pf65 rfl (fun w hst => some_l o p hp hoo h2 h4 w (by first | (refine Rds.given hst ?_; assumption) | (apply Rds.many hst; (focus ((repeat (first | exact List.Mem.head _ | refine List.Mem.tail _ ?_)); done))) | (apply Rds.row hst; (focus ((repeat (first | exact List.Mem.head _ | refine List.Mem.tail _ ?_)); done))))) rfl ?_)
                  | (refine S_callN (f := 51) rfl T.pf51 rfl (fun w hst => l1Halves_c _ _ (by omega) (by omega) (by omega) (by omega) w) rfl ?_)
                  | (refine S_callX (f := 59) rfl T.pf59 rfl (fun w hst => ih (lowQ p) x o q1.1 hk1 hxo hoo hxl hol w (by first | (refine Rds.given hst ?_; assumption) | (apply Rds.many hst; (focus ((repeat (first | exact List.Mem.head _ | refine List.Mem.tail _ ?_)); done))) | (apply Rds.row hst; (focus ((repeat (first | exact List.Mem.head _ | refine List.Mem.tail _ ?_)); done)))) (by first | (refine Rds.given hst ?_; assumption) | (apply Rds.many hst; (focus ((repeat (first | exact List.Mem.head _ | refine List.Mem.tail _ ?_)); done))) | (apply Rds.row hst; (focus ((repeat (first | exact List.Mem.head _ | refine List.Mem.tail _ ?_)); done))))) rfl (fun zz hzz => ?_); simp only [List.cons_append, List.nil_append]; revert hzz; revert zz; intro z1 hz1; refine S_unrow ?_; have hzl1 : z1.2.length ≤ 65536 := (by rw [hz1]; exact hlen _ _ _))
                  | (refine S_callX (f := 59) rfl T.pf59 rfl (fun w hst => ih (highQ p) x o q2.1 hk2 hxo hoo hxl hol w (by first | (refine Rds.given hst ?_; assumption) | (apply Rds.many hst; (focus ((repeat (first | exact List.Mem.head _ | refine List.Mem.tail _ ?_)); done))) | (apply Rds.row hst; (focus ((repeat (first | exact List.Mem.head _ | refine List.Mem.tail _ ?_)); done)))) (by first | (refine Rds.given hst ?_; assumption) | (apply Rds.many hst; (focus ((repeat (first | exact List.Mem.head _ | refine List.Mem.tail _ ?_)); done))) | (apply Rds.row hst; (focus ((repeat (first | exact List.Mem.head _ | refine List.Mem.tail _ ?_)); done))))) rfl (fun zz hzz => ?_); simp only [List.cons_append, List.nil_append]; revert hzz; revert zz; intro z2 hz2; refine S_unrow ?_; have hzl2 : z2.2.length ≤ 65536 := (by rw [hz2]; exact hlen _ _ _))
                  | (apply F_len rfl rfl rfl; (focus exact ⟨_, _, by exact T.sl37⟩); (focus (first | exact len_nil | (apply len_given; assumption) | (apply len_row; (focus ((repeat (first | exact List.Mem.head _ | refine List.Mem.tail _ ?_)); done))) | (refine len_isN ?_; assumption))))
                  | (apply F_append rfl rfl rfl rfl; exact T.el37; (focus (intro sv; (focus ((repeat (first | exact Upd.here | apply Upd.there)); done)))); (focus (first | exact rd_nil | (apply rd_given; (focus assumption); (focus (first | exact freeG0 | exact freeG1))) | (apply rd_row; (focus ((repeat (first | exact List.Mem.head _ | refine List.Mem.tail _ ?_)); done)); (focus (first | exact freeR0 | exact freeR1))))); (focus (first | rfl | assumption | (apply all_flat; intro _ _; rfl) | (rw [List.append_nil]; assumption) | (simp only [List.append_nil, List.all_cons, List.all_nil, Bool.and_true, Bool.true_and, one_int, one_bool, one_string, one_slice, one_pointer, *]; done) | simp)); (first | exact okst2 | exact okst1 | exact okst1'); (focus (simp only [maxLen]; first | omega | (simp only [List.length_take, List.length_drop]; omega))); (focus (first | omega | (simp only [List.length_take, List.length_drop]; omega))); intro sv; (try (refine S_fact (row_one (v := sv) (by (focus ((repeat (first | exact List.Mem.head _ | refine List.Mem.tail _ ?_)); done)))) (fun hone => ?_))))))
              | (refine gBin ?_; (first
                  | (apply S_eqlS rfl rfl rfl; (focus exact T.eqs25 _ _ _ _))
                  | (apply S_neqS rfl rfl rfl; (focus exact T.eqs25 _ _ _ _))
                  | (refine S_eql rfl rfl rfl ?_)
                  | (refine S_eqlB Try.underlying4 rfl rfl rfl ?_)))
              | (refine gPick ?_; (first
                  | (refine S_pickT rfl rfl rfl ?_)
                  | (refine S_pickF rfl rfl rfl ?_)))
              | (refine S_box rfl rfl rfl ?_; intro kb)
              | (apply S_alloc rfl (hd := rfl); exact T.zc25; intro kb)
              | (apply F_build2 rfl (hd := rfl); exact T.st25; (focus ((repeat (first | exact BuildR.nil | (apply BuildR.cons; (first | exact T.fs25_0 | exact T.fs25_1); rfl; rfl; (focus ((repeat (first | exact SetSeg.nil | apply SetSeg.here | apply SetSeg.there)); done))) | (apply BuildR.cons1; (first | exact T.fs25_0 | exact T.fs25_1); (focus assumption); (focus ((repeat (first | exact SetSeg.nil | apply SetSeg.here | apply SetSeg.there)); done))))); done)))
              | (refine S_not rfl rfl ?_)
              | (refine S_extract rfl rfl rfl ?_)
              | (refine S_done ?_)
              | (refine S_box1 rfl rfl rfl rfl ?_; intro kb)))
          | (refine gC ?_; (first
              | (refine C_seq ?_)
              | (refine gReg ?_; (first
                  | (refine gReg (i := 0) ?_; refine C_plain [(0, 2), (1, 0)] (by kernel_rfl) (s := [⟨2, none, _, _, _⟩, ⟨0, none, _, _, _⟩]) rfl ?_)
                  | (refine gReg (i := 1) ?_; refine C_plain [(0, 0), (1, 0), (2, 2), (3, 0), (4, 0), (5, 0), (6, 0), (7, 0)] (by kernel_rfl) (s := [⟨0, none, _, _, _⟩, ⟨0, none, _, _, _⟩, ⟨2, none, _, _, _⟩, ⟨0, none, _, _, _⟩, ⟨0, none, _, _, _⟩, ⟨0, none, _, _, _⟩, ⟨0, none, _, _, _⟩, ⟨0, none, _, _, _⟩]) rfl ?_)
                  | (refine gReg (i := 2) ?_; refine C_plain [(0, 0), (1, 0), (2, 2), (3, 0), (4, 0), (5, 0), (6, 0), (7, 0)] (by kernel_rfl) (s := [⟨0, none, _, _, _⟩, ⟨0, none, _, _, _⟩, ⟨2, none, _, _, _⟩, ⟨0, none, _, _, _⟩, ⟨0, none, _, _, _⟩, ⟨0, none, _, _, _⟩, ⟨0, none, _, _, _⟩, ⟨0, none, _, _, _⟩]) rfl ?_)
                  | (refine gReg (i := 3) ?_; refine C_plain [(0, 0), (1, 0), (2, 0), (3, 0), (4, 0), (5, 0), (6, 0), (7, 0), (8, 0), (9, 0)] (by kernel_rfl) (s := [⟨0, none, _, _, _⟩, ⟨0, none, _, _, _⟩, ⟨0, some (29, false), _, _, _⟩, ⟨0, some (29, false), _, _, _⟩, ⟨0, some (29, false), _, _, _⟩, ⟨0, some (32, true), _, _, _⟩, ⟨0, some (32, true), _, _, _⟩, ⟨0, some (29, false), _, _, _⟩, ⟨0, none, _, _, _⟩, ⟨0, none, _, _, _⟩]) rfl ?_)
                  | (refine gReg (i := 4) ?_; refine C_plain [(0, 2), (1, 0)] (by kernel_rfl) (s := [⟨2, none, _, _, _⟩, ⟨0, none, _, _, _⟩]) rfl ?_)
                  | (refine gReg (i := 5) ?_; refine C_plain [(0, 0), (1, 0), (2, 0), (3, 0), (4, 0), (5, 0)] (by kernel_rfl) (s := [⟨0, none, _, _, _⟩, ⟨0, none, _, _, _⟩, ⟨0, some (40, true), _, _, _⟩, ⟨0, some (40, true), _, _, _⟩, ⟨0, none, _, _, _⟩, ⟨0, none, _, _, _⟩]) rfl ?_)
                  | (refine gReg (i := 6) ?_; refine C_plain [(0, 0), (1, 2), (2, 0)] (by kernel_rfl) (s := [⟨0, none, _, _, _⟩, ⟨2, none, _, _, _⟩, ⟨0, none, _, _, _⟩]) rfl ?_)
                  | (refine gReg (i := 7) ?_; refine C_plain [(0, 0), (1, 2), (2, 0), (3, 0), (4, 0), (5, 2), (6, 2), (7, 2), (8, 2)] (by kernel_rfl) (s := [⟨0, none, _, _, _⟩, ⟨2, none, _, _, _⟩, ⟨0, none, _, _, _⟩, ⟨0, none, _, _, _⟩, ⟨0, none, _, _, _⟩, ⟨2, none, _, _, _⟩, ⟨2, none, _, _, _⟩, ⟨2, none, _, _, _⟩, ⟨2, none, _, _, _⟩]) rfl ?_)
                  | (refine gReg (i := 8) ?_; refine C_plain [(0, 0), (1, 0), (2, 0), (3, 2), (4, 0)] (by kernel_rfl) (s := [⟨0, none, _, _, _⟩, ⟨0, none, _, _, _⟩, ⟨0, none, _, _, _⟩, ⟨2, none, _, _, _⟩, ⟨0, none, _, _, _⟩]) rfl ?_)
                  | (refine gReg (i := 9) ?_; refine C_plain [(0, 0), (1, 0), (2, 0), (3, 2), (4, 0)] (by kernel_rfl) (s := [⟨0, none, _, _, _⟩, ⟨0, none, _, _, _⟩, ⟨0, none, _, _, _⟩, ⟨2, none, _, _, _⟩, ⟨0, none, _, _, _⟩]) rfl ?_)
                  | (refine gReg (i := 10) ?_; refine C_drawn [(0, 0), (1, 0), (2, 0), (3, 0), (4, 0), (5, 0), (6, 0), (7, 0), (8, 0), (9, 0), (10, 0), (11, 0), (12, 0), (13, 0), (14, 0), (15, 0), (16, 0), (17, 0), (18, 0), (19, 0), (20, 0), (21, 0)] [] T.mixed (by kernel_rfl) (s := [⟨0, none, _, _, _⟩, ⟨0, none, _, _, _⟩, ⟨0, none, _, _, _⟩, ⟨0, none, _, _, _⟩, ⟨0, some (62, true), _, _, _⟩, ⟨0, some (62, true), _, _, _⟩, ⟨0, some (62, true), _, _, _⟩, ⟨0, none, _, _, _⟩, ⟨0, none, _, _, _⟩, ⟨0, some (67, true), _, _, _⟩, ⟨0, some (67, true), _, _, _⟩, ⟨0, some (67, true), _, _, _⟩, ⟨0, some (67, true), _, _, _⟩, ⟨0, some (67, true), _, _, _⟩, ⟨0, none, _, _, _⟩, ⟨0, none, _, _, _⟩, ⟨0, some (74, true), _, _, _⟩, ⟨0, some (74, true), _, _, _⟩, ⟨0, some (74, true), _, _, _⟩, ⟨0, some (74, true), _, _, _⟩, ⟨0, some (74, true), _, _, _⟩, ⟨0, none, _, _, _⟩]) rfl ?_)
                  | (refine gReg (i := 11) ?_; refine C_plain [(0, 0), (1, 2), (2, 0)] (by kernel_rfl) (s := [⟨0, none, _, _, _⟩, ⟨2, none, _, _, _⟩, ⟨0, none, _, _, _⟩]) rfl ?_)
                  | (refine gReg (i := 12) ?_; refine C_plain [(0, 0), (1, 0), (2, 2), (3, 0)] (by kernel_rfl) (s := [⟨0, none, _, _, _⟩, ⟨0, none, _, _, _⟩, ⟨2, none, _, _, _⟩, ⟨0, none, _, _, _⟩]) rfl ?_)))
              | (refine C_true rfl ?_)
              | (refine C_false rfl ?_)
              | (refine C_split rfl ?_ ?_ <;> (intro hb; (try simp only [decide_eq_true_eq] at hb); (try simp only [decide_eq_false_iff_not] at hb); (try simp only [Bool.not_eq_true'] at hb); (try simp only [Bool.not_eq_false'] at hb); (try (exfalso; first | contradiction | omega)); (try (have hf1 := first1 hb))))
              | (refine C_skip ?_)
              | (refine C_exit ?_)
              | (refine C_ret ?_)
              | (refine C_block ?_)))
          | (refine gE ?_; (first
              | (refine E_then ?_)
              | (refine E_thenX ?_)
              | (refine E_thenR ?_)
              | (refine E_block ?_)
              | (refine E_blockY ?_)
              | (refine E_blockR ?_)
              | (refine E_calm ?_)
              | (refine E_blockX rfl ?_)
              | (apply E_ret1 rfl; (first | exact Res.tmp rfl | (apply R_cellAll rfl; (focus ((repeat (first | exact List.Mem.head _ | refine List.Mem.tail _ ?_)); done)); exact T.rw25) | (apply R_cell1 rfl; (focus ((repeat (first | exact List.Mem.head _ | refine List.Mem.tail _ ?_)); done)); fail)))
              | (apply E_ret2 rfl; (first | exact Res.tmp rfl | (apply R_cellAll rfl; (focus ((repeat (first | exact List.Mem.head _ | refine List.Mem.tail _ ?_)); done)); exact T.rw25) | (apply R_cell1 rfl; (focus ((repeat (first | exact List.Mem.head _ | refine List.Mem.tail _ ?_)); done)); fail)); (first | exact Res.tmp rfl | (apply R_cellAll rfl; (focus ((repeat (first | exact List.Mem.head _ | refine List.Mem.tail _ ?_)); done)); exact T.rw25) | (apply R_cell1 rfl; (focus ((repeat (first | exact List.Mem.head _ | refine List.Mem.tail _ ?_)); done)); fail)))
              | (apply E_ret3 rfl; (first | exact Res.tmp rfl | (apply R_cellAll rfl; (focus ((repeat (first | exact List.Mem.head _ | refine List.Mem.tail _ ?_)); done)); exact T.rw25) | (apply R_cell1 rfl; (focus ((repeat (first | exact List.Mem.head _ | refine List.Mem.tail _ ?_)); done)); fail)); (first | exact Res.tmp rfl | (apply R_cellAll rfl; (focus ((repeat (first | exact List.Mem.head _ | refine List.Mem.tail _ ?_)); done)); exact T.rw25) | (apply R_cell1 rfl; (focus ((repeat (first | exact List.Mem.head _ | refine List.Mem.tail _ ?_)); done)); fail)); (first | exact Res.tmp rfl | (apply R_cellAll rfl; (focus ((repeat (first | exact List.Mem.head _ | refine List.Mem.tail _ ?_)); done)); exact T.rw25) | (apply R_cell1 rfl; (focus ((repeat (first | exact List.Mem.head _ | refine List.Mem.tail _ ?_)); done)); fail))))))
        · refine retX (sv, [p]) ?_ rfl ?_
          · exact join_rows (z1 := z1.2) (z2 := z2.2) hp hk h2 (.inr h3) (.inl h1) sim_refl sim_refl hz1 hz2 (.inl ⟨one_eq (by assumption) (eqQ (by assumption)), one_eq (by assumption) (eqQ (by assumption)), rfl⟩)
          · exact (by (focus (apply Ent.flat; (simp only [List.length_append, List.length_cons, List.length_nil, Nat.zero_add, flat_many, flat_row, flat_blk, flat_append, flat_nil, List.map_append, List.map_cons, List.map_nil, List.flatMap_append, List.flatMap_cons, List.flatMap_nil, List.append_assoc, List.append_nil, List.nil_append, List.cons_append, Row.blk_mk, rwSNetPrefix, rwSuint8]); ((repeat (first | exact Pull.nil | (apply Pull.app; (focus ((repeat (first | exact PickA.here | exact PickA.all | apply PickA.there | apply PickA.over)); done))) | (apply Pull.cons; (focus ((repeat (first | exact Pick.here | exact Pick.last | apply Pick.there | apply Pick.over)); done))) | (apply Pull.atom; (focus ((repeat (first | exact PickA.here | exact PickA.all | apply PickA.there | apply PickA.over)); done))))); done))))
        all_goals
          refine retX (sv, z1.2 ++ z2.2) ?_ rfl ?_
          · exact join_rows (z1 := z1.2) (z2 := z2.2) hp hk h2 (.inr h3) (.inl h1) sim_refl sim_refl hz1 hz2 (.inr ⟨by
              rintro ⟨e1, e2⟩
              refine absurd ?_ hb
              first | (rw [e2]; rfl) | (rw [e1]; rfl), rfl⟩)
          · exact (by (focus (apply Ent.flat; (simp only [List.length_append, List.length_cons, List.length_nil, Nat.zero_add, flat_many, flat_row, flat_blk, flat_append, flat_nil, List.map_append, List.map_cons, List.map_nil, List.flatMap_append, List.flatMap_cons, List.flatMap_nil, List.append_assoc, List.append_nil, List.nil_append, List.cons_append, Row.blk_mk, rwSNetPrefix, rwSuint8]); ((repeat (first | exact Pull.nil | (apply Pull.app; (focus ((repeat (first | exact PickA.here | exact PickA.all | apply PickA.there | apply PickA.over)); done))) | (apply Pull.cons; (focus ((repeat (first | exact Pick.here | exact Pick.last | apply Pick.there | apply Pick.over)); done))) | (apply Pull.atom; (focus ((repeat (first | exact PickA.here | exact PickA.all | apply PickA.there | apply PickA.over)); done))))); done))))
    · obtain ⟨c, h3⟩ : ∃ c, anyOf x.2 p = c := ⟨_, rfl⟩
      cases h4 : anyOf o.2 p
      · have := hp
        refine enter (n := 86) (E := [(0, _), (1, _), (2, _)]) Try.func59 rfl rfl rfl rfl ?_
        repeat' (first
          | (refine gS ?_; (first
              | (refine gGuard ?_; (first
                  | (refine S_on rfl ?_)
                  | (refine S_off rfl rfl rfl ?_)
                  | (refine S_offn rfl rfl ?_)
                  | (refine S_offU rfl rfl ?_)
                  | (refine S_offUn rfl ?_)
                  | (refine S_gsplit rfl ?_ ?_ <;> (intro hb; (try simp only [decide_eq_true_eq] at hb); (try simp only [decide_eq_false_iff_not] at hb); (try simp only [Bool.not_eq_true'] at hb); (try simp only [Bool.not_eq_false'] at hb); (try (exfalso; first | contradiction | omega))))))
              | (refine S_move rfl rfl ?_)
              | (refine S_assign rfl rfl ?_)
              | (apply F_idx rfl rfl rfl; exact T.sl37; (focus rfl); (focus (first | exact len_nil | (apply len_given; assumption) | (apply len_row; (focus ((repeat (first | exact List.Mem.head _ | refine List.Mem.tail _ ?_)); done))) | (refine len_isN ?_; assumption))); (focus omega))
              | (apply F_idxZ rfl rfl rfl; exact T.sl37; (focus omega); (focus (first | exact len_nil | (apply len_given; assumption) | (apply len_row; (focus ((repeat (first | exact List.Mem.head _ | refine List.Mem.tail _ ?_)); done))) | (refine len_isN ?_; assumption))); (focus omega))
              | (apply F_bs0 rfl rfl; exact T.el37; rfl; intro sv; (try (refine S_fact (row_one (v := sv) (by (focus ((repeat (first | exact List.Mem.head _ | refine List.Mem.tail _ ?_)); done)))) (fun hone => ?_))))
              | (apply F_bs rfl rfl; exact T.el37; rfl; rfl; rfl; rfl; (focus ((repeat (first | exact Dense.nil | (apply Dense.cons; rfl; rfl))); done)); intro sv; (try (refine S_fact (row_one (v := sv) (by (focus ((repeat (first | exact List.Mem.head _ | refine List.Mem.tail _ ?_)); done)))) (fun hone => ?_))))
              | (refine gLoad ?_; (first
                  | (apply F_loadAll rfl rfl; (focus ((repeat (first | exact List.Mem.head _ | refine List.Mem.tail _ ?_)); done)); exact T.rw25; (focus (first | exact free0 | exact free1)))
                  | (apply F_loadP rfl rfl; (focus ((repeat (first | exact List.Mem.head _ | refine List.Mem.tail _ ?_)); done)); exact T.rw25; (focus ((repeat (first | exact Take.nil | apply Take.here | apply Take.there)); done)); rfl; (focus (first | exact free0 | exact free1)))
                  | (apply F_loadSN rfl rfl; exact T.rw25; (focus (first | exact rd_nil | (apply rd_given; (focus assumption); (focus (first | exact freeG0 | exact freeG1))) | (apply rd_row; (focus ((repeat (first | exact List.Mem.head _ | refine List.Mem.tail _ ?_)); done)); (focus (first | exact freeR0 | exact freeR1))))); (focus (first | (focus (apply at_flat; (focus (intro _; rfl)); (focus assumption))) | exact at_self)); rfl; rfl)
                  | (apply F_loadSP rfl rfl; exact T.rw25; (focus (first | exact rd_nil | (apply rd_given; (focus assumption); (focus (first | exact freeG0 | exact freeG1))) | (apply rd_row; (focus ((repeat (first | exact List.Mem.head _ | refine List.Mem.tail _ ?_)); done)); (focus (first | exact freeR0 | exact freeR1))))); (focus (apply at_flat; (focus (intro _; rfl)); (focus assumption))); (focus ((repeat (first | exact Take.nil | apply Take.here | apply Take.there)); done)); rfl; rfl)
                  | (apply F_loadST rfl rfl; exact T.rw25; (focus (first | exact rd_nil | (apply rd_given; (focus assumption); (focus (first | exact freeG0 | exact freeG1))) | (apply rd_row; (focus ((repeat (first | exact List.Mem.head _ | refine List.Mem.tail _ ?_)); done)); (focus (first | exact freeR0 | exact freeR1))))); (focus ((repeat (first | exact Take.nil | apply Take.here | apply Take.there)); done)); rfl; rfl)))
              | (refine gStore ?_; (first
                  | (apply F_storeN rfl rfl; (focus (first | rfl | assumption | (simp only [List.append_nil, List.all_cons, List.all_nil, Bool.and_true, Bool.true_and, one_int, one_bool, one_string, one_slice, one_pointer, *]; done))); exact T.rw25; (focus ((repeat (first | exact Upd.here | apply Upd.there)); done)); (focus ((repeat (first | exact SetSeg.nil | apply SetSeg.here | apply SetSeg.there)); done)); (first | exact okst2 | exact okst1 | exact okst1'))
                  | (apply F_storeSN rfl rfl; (focus ((repeat (first | exact Upd.here | apply Upd.there)); done)); exact T.rw25; rfl; (focus (first | rfl | assumption | (simp only [List.append_nil, List.all_cons, List.all_nil, Bool.and_true, Bool.true_and, one_int, one_bool, one_string, one_slice, one_pointer, *]; done))); rfl; (focus omega); (first | exact okst2 | exact okst1 | exact okst1'))))
              | (refine gCall ?_; (first
                  | (refine S_callN (f := 65) rfl T.pf65 rfl (fun w hst => some_l x p hp hxo h1 h3 w (by first | (refine Rds.given hst ?_; assumption) | (apply Rds.many hst; (focus ((repeat (first | exact List.Mem.head _ | refine List.Mem.tail _ ?_)); done))) | (apply Rds.row hst; (focus ((repeat (first | exact List.Mem.head _ | refine List.Mem.tail _ ?_)); done))))) rfl ?_)
                  | (refine S_callN (f := 65) rfl T.pf65 rfl (fun w hst => some_l o p hp hoo h2 h4 w (by first | (refine Rds.given hst ?_; assumption) | (apply Rds.many hst; (focus ((repeat (first | exact List.Mem.head _ | refine List.Mem.tail _ ?_)); done))) | (apply Rds.row hst; (focus ((repeat (first | exact List.Mem.head _ | refine List.Mem.tail _ ?_)); done))))) rfl ?_)
                  | (apply F_len rfl rfl rfl; (focus exact ⟨_, _, by exact T.sl37⟩); (focus (first | exact len_nil | (apply len_given; assumption) | (apply len_row; (focus ((repeat (first | exact List.Mem.head _ | refine List.Mem.tail _ ?_)); done))) | (refine len_isN ?_; assumption))))
                  | (apply F_append rfl rfl rfl rfl; exact T.el37; (focus (intro sv; (focus ((repeat (first | exact Upd.here | apply Upd.there)); done)))); (focus (first | exact rd_nil | (apply rd_given; (focus assumption); (focus (first | exact freeG0 | exact freeG1))) | (apply rd_row; (focus ((repeat (first | exact List.Mem.head _ | refine List.Mem.tail _ ?_)); done)); (focus (first | exact freeR0 | exact freeR1))))); (focus (first | rfl | assumption | (apply all_flat; intro _ _; rfl) | (rw [List.append_nil]; assumption) | (simp only [List.append_nil, List.all_cons, List.all_nil, Bool.and_true, Bool.true_and, one_int, one_bool, one_string, one_slice, one_pointer, *]; done) | simp)); (first | exact okst2 | exact okst1 | exact okst1'); (focus (simp only [maxLen]; first | omega | (simp only [List.length_take, List.length_drop]; omega))); (focus (first | omega | (simp only [List.length_take, List.length_drop]; omega))); intro sv; (try (refine S_fact (row_one (v := sv) (by (focus ((repeat (first | exact List.Mem.head _ | refine List.Mem.tail _ ?_)); done)))) (fun hone => ?_))))))
              | (refine gBin ?_; (first
                  | (apply S_eqlS rfl rfl rfl; (focus exact T.eqs25 _ _ _ _))
                  | (apply S_neqS rfl rfl rfl; (focus exact T.eqs25 _ _ _ _))
                  | (refine S_eql rfl rfl rfl ?_)
                  | (refine S_eqlB Try.underlying4 rfl rfl rfl ?_)))
              | (refine gPick ?_; (first
                  | (refine S_pickT rfl rfl rfl ?_)
                  | (refine S_pickF rfl rfl rfl ?_)))
              | (refine S_box rfl rfl rfl ?_; intro kb)
              | (apply S_alloc rfl (hd := rfl); exact T.zc25; intro kb)
              | (apply F_build2 rfl (hd := rfl); exact T.st25; (focus ((repeat (first | exact BuildR.nil | (apply BuildR.cons; (first | exact T.fs25_0 | exact T.fs25_1); rfl; rfl; (focus ((repeat (first | exact SetSeg.nil | apply SetSeg.here | apply SetSeg.there)); done))) | (apply BuildR.cons1; (first | exact T.fs25_0 | exact T.fs25_1); (focus assumption); (focus ((repeat (first | exact SetSeg.nil | apply SetSeg.here | apply SetSeg.there)); done))))); done)))
              | (refine S_not rfl rfl ?_)
              | (refine S_extract rfl rfl rfl ?_)
              | (refine S_done ?_)
              | (refine S_box1 rfl rfl rfl rfl ?_; intro kb)))
          | (refine gC ?_; (first
              | (refine C_seq ?_)
              | (refine gReg ?_; (first
                  | (refine gReg (i := 0) ?_; refine C_plain [(0, 2), (1, 0)] (by kernel_rfl) (s := [⟨2, none, _, _, _⟩, ⟨0, none, _, _, _⟩]) rfl ?_)
                  | (refine gReg (i := 1) ?_; refine C_plain [(0, 0), (1, 0), (2, 2), (3, 0), (4, 0), (5, 0), (6, 0), (7, 0)] (by kernel_rfl) (s := [⟨0, none, _, _, _⟩, ⟨0, none, _, _, _⟩, ⟨2, none, _, _, _⟩, ⟨0, none, _, _, _⟩, ⟨0, none, _, _, _⟩, ⟨0, none, _, _, _⟩, ⟨0, none, _, _, _⟩, ⟨0, none, _, _, _⟩]) rfl ?_)
                  | (refine gReg (i := 2) ?_; refine C_plain [(0, 0), (1, 0), (2, 2), (3, 0), (4, 0), (5, 0), (6, 0), (7, 0)] (by kernel_rfl) (s := [⟨0, none, _, _, _⟩, ⟨0, none, _, _, _⟩, ⟨2, none, _, _, _⟩, ⟨0, none, _, _, _⟩, ⟨0, none, _, _, _⟩, ⟨0, none, _, _, _⟩, ⟨0, none, _, _, _⟩, ⟨0, none, _, _, _⟩]) rfl ?_)
                  | (refine gReg (i := 3) ?_; refine C_plain [(0, 0), (1, 0), (2, 0), (3, 0), (4, 0), (5, 0), (6, 0), (7, 0), (8, 0), (9, 0)] (by kernel_rfl) (s := [⟨0, none, _, _, _⟩, ⟨0, none, _, _, _⟩, ⟨0, some (29, false), _, _, _⟩, ⟨0, some (29, false), _, _, _⟩, ⟨0, some (29, false), _, _, _⟩, ⟨0, some (32, true), _, _, _⟩, ⟨0, some (32, true), _, _, _⟩, ⟨0, some (29, false), _, _, _⟩, ⟨0, none, _, _, _⟩, ⟨0, none, _, _, _⟩]) rfl ?_)
                  | (refine gReg (i := 4) ?_; refine C_plain [(0, 2), (1, 0)] (by kernel_rfl) (s := [⟨2, none, _, _, _⟩, ⟨0, none, _, _, _⟩]) rfl ?_)
                  | (refine gReg (i := 5) ?_; refine C_plain [(0, 0), (1, 0), (2, 0), (3, 0), (4, 0), (5, 0)] (by kernel_rfl) (s := [⟨0, none, _, _, _⟩, ⟨0, none, _, _, _⟩, ⟨0, some (40, true), _, _, _⟩, ⟨0, some (40, true), _, _, _⟩, ⟨0, none, _, _, _⟩, ⟨0, none, _, _, _⟩]) rfl ?_)
                  | (refine gReg (i := 6) ?_; refine C_plain [(0, 0), (1, 2), (2, 0)] (by kernel_rfl) (s := [⟨0, none, _, _, _⟩, ⟨2, none, _, _, _⟩, ⟨0, none, _, _, _⟩]) rfl ?_)
                  | (refine gReg (i := 7) ?_; refine C_plain [(0, 0), (1, 2), (2, 0), (3, 0), (4, 0), (5, 2), (6, 2), (7, 2), (8, 2)] (by kernel_rfl) (s := [⟨0, none, _, _, _⟩, ⟨2, none, _, _, _⟩, ⟨0, none, _, _, _⟩, ⟨0, none, _, _, _⟩, ⟨0, none, _, _, _⟩, ⟨2, none, _, _, _⟩, ⟨2, none, _, _, _⟩, ⟨2, none, _, _, _⟩, ⟨2, none, _, _, _⟩]) rfl ?_)
                  | (refine gReg (i := 8) ?_; refine C_plain [(0, 0), (1, 0), (2, 0), (3, 2), (4, 0)] (by kernel_rfl) (s := [⟨0, none, _, _, _⟩, ⟨0, none, _, _, _⟩, ⟨0, none, _, _, _⟩, ⟨2, none, _, _, _⟩, ⟨0, none, _, _, _⟩]) rfl ?_)
                  | (refine gReg (i := 9) ?_; refine C_plain [(0, 0), (1, 0), (2, 0), (3, 2), (4, 0)] (by kernel_rfl) (s := [⟨0, none, _, _, _⟩, ⟨0, none, _, _, _⟩, ⟨0, none, _, _, _⟩, ⟨2, none, _, _, _⟩, ⟨0, none, _, _, _⟩]) rfl ?_)
                  | (refine gReg (i := 10) ?_; refine C_drawn [(0, 0), (1, 0), (2, 0), (3, 0), (4, 0), (5, 0), (6, 0), (7, 0), (8, 0), (9, 0), (10, 0), (11, 0), (12, 0), (13, 0), (14, 0), (15, 0), (16, 0), (17, 0), (18, 0), (19, 0), (20, 0), (21, 0)] [] T.mixed (by kernel_rfl) (s := [⟨0, none, _, _, _⟩, ⟨0, none, _, _, _⟩, ⟨0, none, _, _, _⟩, ⟨0, none, _, _, _⟩, ⟨0, some (62, true), _, _, _⟩, ⟨0, some (62, true), _, _, _⟩, ⟨0, some (62, true), _, _, _⟩, ⟨0, none, _, _, _⟩, ⟨0, none, _, _, _⟩, ⟨0, some (67, true), _, _, _⟩, ⟨0, some (67, true), _, _, _⟩, ⟨0, some (67, true), _, _, _⟩, ⟨0, some (67, true), _, _, _⟩, ⟨0, some (67, true), _, _, _⟩, ⟨0, none, _, _, _⟩, ⟨0, none, _, _, _⟩, ⟨0, some (74, true), _, _, _⟩, ⟨0, some (74, true), _, _, _⟩, ⟨0, some (74, true), _, _, _⟩, ⟨0, some (74, true), _, _, _⟩, ⟨0, some (74, true), _, _, _⟩, ⟨0, none, _, _, _⟩]) rfl ?_)
                  | (refine gReg (i := 11) ?_; refine C_plain [(0, 0), (1, 2), (2, 0)] (by kernel_rfl) (s := [⟨0, none, _, _, _⟩, ⟨2, none, _, _, _⟩, ⟨0, none, _, _, _⟩]) rfl ?_)
                  | (refine gReg (i := 12) ?_; refine C_plain [(0, 0), (1, 0), (2, 2), (3, 0)] (by kernel_rfl) (s := [⟨0, none, _, _, _⟩, ⟨0, none, _, _, _⟩, ⟨2, none, _, _, _⟩, ⟨0, none, _, _, _⟩]) rfl ?_)))
              | (refine C_true rfl ?_)
              | (refine C_false rfl ?_)
              | (refine C_split rfl ?_ ?_ <;> (intro hb; (try simp only [decide_eq_true_eq] at hb); (try simp only [decide_eq_false_iff_not] at hb); (try simp only [Bool.not_eq_true'] at hb); (try simp only [Bool.not_eq_false'] at hb); (try (exfalso; first | contradiction | omega))))
              | (refine C_skip ?_)
              | (refine C_exit ?_)
              | (refine C_ret ?_)
              | (refine C_block ?_)))
          | (refine gE ?_; (first
              | (refine E_then ?_)
              | (refine E_thenX ?_)
              | (refine E_thenR ?_)
              | (refine E_block ?_)
              | (refine E_blockY ?_)
              | (refine E_blockR ?_)
              | (refine E_calm ?_)
              | (refine E_blockX rfl ?_)
              | (apply E_ret1 rfl; (first | exact Res.tmp rfl | (apply R_cellAll rfl; (focus ((repeat (first | exact List.Mem.head _ | refine List.Mem.tail _ ?_)); done)); exact T.rw25) | (apply R_cell1 rfl; (focus ((repeat (first | exact List.Mem.head _ | refine List.Mem.tail _ ?_)); done)); fail)))
              | (apply E_ret2 rfl; (first | exact Res.tmp rfl | (apply R_cellAll rfl; (focus ((repeat (first | exact List.Mem.head _ | refine List.Mem.tail _ ?_)); done)); exact T.rw25) | (apply R_cell1 rfl; (focus ((repeat (first | exact List.Mem.head _ | refine List.Mem.tail _ ?_)); done)); fail)); (first | exact Res.tmp rfl | (apply R_cellAll rfl; (focus ((repeat (first | exact List.Mem.head _ | refine List.Mem.tail _ ?_)); done)); exact T.rw25) | (apply R_cell1 rfl; (focus ((repeat (first | exact List.Mem.head _ | refine List.Mem.tail _ ?_)); done)); fail)))
              | (apply E_ret3 rfl; (first | exact Res.tmp rfl | (apply R_cellAll rfl; (focus ((repeat (first | exact List.Mem.head _ | refine List.Mem.tail _ ?_)); done)); exact T.rw25) | (apply R_cell1 rfl; (focus ((repeat (first | exact List.Mem.head _ | refine List.Mem.tail _ ?_)); done)); fail)); (first | exact Res.tmp rfl | (apply R_cellAll rfl; (focus ((repeat (first | exact List.Mem.head _ | refine List.Mem.tail _ ?_)); done)); exact T.rw25) | (apply R_cell1 rfl; (focus ((repeat (first | exact List.Mem.head _ | refine List.Mem.tail _ ?_)); done)); fail)); (first | exact Res.tmp rfl | (apply R_cellAll rfl; (focus ((repeat (first | exact List.Mem.head _ | refine List.Mem.tail _ ?_)); done)); exact T.rw25) | (apply R_cell1 rfl; (focus ((repeat (first | exact List.Mem.head _ | refine List.Mem.tail _ ?_)); done)); fail))))))
        refine retX (sv, [p]) ?_ rfl ?_
        · rw [partN_c h2 h1 h4]
        · exact (by (focus (apply Ent.flat; (simp only [List.length_append, List.length_cons, List.length_nil, Nat.zero_add, flat_many, flat_row, flat_blk, flat_append, flat_nil, List.map_append, List.map_cons, List.map_nil, List.flatMap_append, List.flatMap_cons, List.flatMap_nil, List.append_assoc, List.append_nil, List.nil_append, List.cons_append, Row.blk_mk, rwSNetPrefix, rwSuint8]); ((repeat (first | exact Pull.nil | (apply Pull.app; (focus ((repeat (first | exact PickA.here | exact PickA.all | apply PickA.there | apply PickA.over)); done))) | (apply Pull.cons; (focus ((repeat (first | exact Pick.here | exact Pick.last | apply Pick.there | apply Pick.over)); done))) | (apply Pull.atom; (focus ((repeat (first | exact PickA.here | exact PickA.all | apply PickA.there | apply PickA.over)); done))))); done))))
      · have := hp
        refine enter (n := 86) (E := [(0, _), (1, _), (2, _)]) Try.func59 rfl rfl rfl rfl ?_
        repeat' (first
          | (refine gS ?_; (first
              | (refine gGuard ?_; (first
                  | (refine S_on rfl ?_)
                  | (refine S_off rfl rfl rfl ?_)
                  | (refine S_offn rfl rfl ?_)
                  | (refine S_offU rfl rfl ?_)
                  | (refine S_offUn rfl ?_)
                  | (refine S_gsplit rfl ?_ ?_ <;> (intro hb; (try simp only [decide_eq_true_eq] at hb); (try simp only [decide_eq_false_iff_not] at hb); (try simp only [Bool.not_eq_true'] at hb); (try simp only [Bool.not_eq_false'] at hb); (try (exfalso; first | contradiction | omega)); (try (have hf1 := first1 hb))))))
              | (refine S_move rfl rfl ?_)
              | (refine S_assign rfl rfl ?_)
              | (apply F_idx rfl rfl rfl; exact T.sl37; (focus rfl); (focus (first | exact len_nil | (apply len_given; assumption) | (apply len_row; (focus ((repeat (first | exact List.Mem.head _ | refine List.Mem.tail _ ?_)); done))) | (refine len_isN ?_; assumption))); (focus omega))
              | (apply F_idxZ rfl rfl rfl; exact T.sl37; (focus omega); (focus (first | exact len_nil | (apply len_given; assumption) | (apply len_row; (focus ((repeat (first | exact List.Mem.head _ | refine List.Mem.tail _ ?_)); done))) | (refine len_isN ?_; assumption))); (focus omega))
              | (apply F_bs0 rfl rfl; exact T.el37; rfl; intro sv; (try (refine S_fact (row_one (v := sv) (by (focus ((repeat (first | exact List.Mem.head _ | refine List.Mem.tail _ ?_)); done)))) (fun hone => ?_))))
              | (apply F_bs rfl rfl; exact T.el37; rfl; rfl; rfl; rfl; (focus ((repeat (first | exact Dense.nil | (apply Dense.cons; rfl; rfl))); done)); intro sv; (try (refine S_fact (row_one (v := sv) (by (focus ((repeat (first | exact List.Mem.head _ | refine List.Mem.tail _ ?_)); done)))) (fun hone => ?_))))
              | (refine gLoad ?_; (first
                  | (apply F_loadAll rfl rfl; (focus ((repeat (first | exact List.Mem.head _ | refine List.Mem.tail _ ?_)); done)); exact T.rw25; (focus (first | exact free0 | exact free1)))
                  | (apply F_loadP rfl rfl; (focus ((repeat (first | exact List.Mem.head _ | refine List.Mem.tail _ ?_)); done)); exact T.rw25; (focus ((repeat (first | exact Take.nil | apply Take.here | apply Take.there)); done)); rfl; (focus (first | exact free0 | exact free1)))
                  | (apply F_loadSN rfl rfl; exact T.rw25; (focus (first | exact rd_nil | (apply rd_given; (focus assumption); (focus (first | exact freeG0 | exact freeG1))) | (apply rd_row; (focus ((repeat (first | exact List.Mem.head _ | refine List.Mem.tail _ ?_)); done)); (focus (first | exact freeR0 | exact freeR1))))); (focus (first | (focus (apply at_flat; (focus (intro _; rfl)); (focus assumption))) | exact at_self)); rfl; rfl)
                  | (apply F_loadSP rfl rfl; exact T.rw25; (focus (first | exact rd_nil | (apply rd_given; (focus assumption); (focus (first | exact freeG0 | exact freeG1))) | (apply rd_row; (focus ((repeat (first | exact List.Mem.head _ | refine List.Mem.tail _ ?_)); done)); (focus (first | exact freeR0 | exact freeR1))))); (focus (apply at_flat; (focus (intro _; rfl)); (focus assumption))); (focus ((repeat (first | exact Take.nil | apply Take.here | apply Take.there)); done)); rfl; rfl)
                  | (apply F_loadST rfl rfl; exact T.rw25; (focus (first | exact rd_nil | (apply rd_given; (focus assumption); (focus (first | exact freeG0 | exact freeG1))) | (apply rd_row; (focus ((repeat (first | exact List.Mem.head _ | refine List.Mem.tail _ ?_)); done)); (focus (first | exact freeR0 | exact freeR1))))); (focus ((repeat (first | exact Take.nil | apply Take.here | apply Take.there)); done)); rfl; rfl)))
              | (refine gStore ?_; (first
                  | (apply F_storeN rfl rfl; (focus (first | rfl | assumption | (simp only [List.append_nil, List.all_cons, List.all_nil, Bool.and_true, Bool.true_and, one_int, one_bool, one_string, one_slice, one_pointer, *]; done))); exact T.rw25; (focus ((repeat (first | exact Upd.here | apply Upd.there)); done)); (focus ((repeat (first | exact SetSeg.nil | apply SetSeg.here | apply SetSeg.there)); done)); (first | exact okst2 | exact okst1 | exact okst1'))
                  | (apply F_storeSN rfl rfl; (focus ((repeat (first | exact Upd.here | apply Upd.there)); done)); exact T.rw25; rfl; (focus (first | rfl | assumption | (simp only [List.append_nil, List.all_cons, List.all_nil, Bool.and_true, Bool.true_and, one_int, one_bool, one_string, one_slice, one_pointer, *]; done))); rfl; (focus omega); (first | exact okst2 | exact okst1 | exact okst1'))))
              | (refine gCall ?_; (first
                  | (refine S_callN (f := 65) rfl T.pf65 rfl (fun w hst => some_l x p hp hxo h1 h3 w (by first | (refine Rds.given hst ?_; assumption) | (apply Rds.many hst; (focus ((repeat (first | exact List.Mem.head _ | refine List.Mem.tail _ ?_)); done))) | (apply Rds.row hst; (focus ((repeat (first | exact List.Mem.head _ | refine List.Mem.tail _ ?_)); done))))) rfl ?_)
                  | (refine S_callN (f := 65) rfl T.pf65 rfl (fun w hst => some_l o p hp hoo h2 h4 w (by first | (refine Rds.given hst ?_; assumption) | (apply Rds.many hst; (focus ((repeat (first | exact List.Mem.head _ | refine List.Mem.tail _ ?_)); done))) | (apply Rds.row hst; (focus ((repeat (first | exact List.Mem.head _ | refine List.Mem.tail _ ?_)); done))))) rfl ?_)
                  | (refine S_callN (f := 51) rfl T.pf51 rfl (fun w hst => l1Halves_c _ _ (by omega) (by omega) (by omega) (by omega) w) rfl ?_)
                  | (refine S_callX (f := 59) rfl T.pf59 rfl (fun w hst => ih (lowQ p) x o q1.1 hk1 hxo hoo hxl hol w (by first | (refine Rds.given hst ?_; assumption) | (apply Rds.many hst; (focus ((repeat (first | exact List.Mem.head _ | refine List.Mem.tail _ ?_)); done))) | (apply Rds.row hst; (focus ((repeat (first | exact List.Mem.head _ | refine List.Mem.tail _ ?_)); done)))) (by first | (refine Rds.given hst ?_; assumption) | (apply Rds.many hst; (focus ((repeat (first | exact List.Mem.head _ | refine List.Mem.tail _ ?_)); done))) | (apply Rds.row hst; (focus ((repeat (first | exact List.Mem.head _ | refine List.Mem.tail _ ?_)); done))))) rfl (fun zz hzz => ?_); simp only [List.cons_append, List.nil_append]; revert hzz; revert zz; intro z1 hz1; refine S_unrow ?_; have hzl1 : z1.2.length ≤ 65536 := (by rw [hz1]; exact hlen _ _ _))
                  | (refine S_callX (f := 59) rfl T.pf59 rfl (fun w hst => ih (highQ p) x o q2.1 hk2 hxo hoo hxl hol w (by first | (refine Rds.given hst ?_; assumption) | (apply Rds.many hst; (focus ((repeat (first | exact List.Mem.head _ | refine List.Mem.tail _ ?_)); done))) | (apply Rds.row hst; (focus ((repeat (first | exact List.Mem.head _ | refine List.Mem.tail _ ?_)); done)))) (by first | (refine Rds.given hst ?_; assumption) | (apply Rds.many hst; (focus ((repeat (first | exact List.Mem.head _ | refine List.Mem.tail _ ?_)); done))) | (apply Rds.row hst; (focus ((repeat (first | exact List.Mem.head _ | refine List.Mem.tail _ ?_)); done))))) rfl (fun zz hzz => ?_); simp only [List.cons_append, List.nil_append]; revert hzz; revert zz; intro z2 hz2; refine S_unrow ?_; have hzl2 : z2.2.length ≤ 65536 := (by rw [hz2]; exact hlen _ _ _))
                  | (apply F_len rfl rfl rfl; (focus exact ⟨_, _, by exact T.sl37⟩); (focus (first | exact len_nil | (apply len_given; assumption) | (apply len_row; (focus ((repeat (first | exact List.Mem.head _ | refine List.Mem.tail _ ?_)); done))) | (refine len_isN ?_; assumption))))
                  | (apply F_append rfl rfl rfl rfl; exact T.el37; (focus (intro sv; (focus ((repeat (first | exact Upd.here | apply Upd.there)); done)))); (focus (first | exact rd_nil | (apply rd_given; (focus assumption); (focus (first | exact freeG0 | exact freeG1))) | (apply rd_row; (focus ((repeat (first | exact List.Mem.head _ | refine List.Mem.tail _ ?_)); done)); (focus (first | exact freeR0 | exact freeR1))))); (focus (first | rfl | assumption | (apply all_flat; intro _ _; rfl) | (rw [List.append_nil]; assumption) | (simp only [List.append_nil, List.all_cons, List.all_nil, Bool.and_true, Bool.true_and, one_int, one_bool, one_string, one_slice, one_pointer, *]; done) | simp)); (first | exact okst2 | exact okst1 | exact okst1'); (focus (simp only [maxLen]; first | omega | (simp only [List.length_take, List.length_drop]; omega))); (focus (first | omega | (simp only [List.length_take, List.length_drop]; omega))); intro sv; (try (refine S_fact (row_one (v := sv) (by (focus ((repeat (first | exact List.Mem.head _ | refine List.Mem.tail _ ?_)); done)))) (fun hone => ?_))))))
              | (refine gBin ?_; (first
                  | (apply S_eqlS rfl rfl rfl; (focus exact T.eqs25 _ _ _ _))
                  | (apply S_neqS rfl rfl rfl; (focus exact T.eqs25 _ _ _ _))
                  | (refine S_eql rfl rfl rfl ?_)
                  | (refine S_eqlB Try.underlying4 rfl rfl rfl ?_)))
              | (refine gPick ?_; (first
                  | (refine S_pickT rfl rfl rfl ?_)
                  | (refine S_pickF rfl rfl rfl ?_)))
              | (refine S_box rfl rfl rfl ?_; intro kb)
              | (apply S_alloc rfl (hd := rfl); exact T.zc25; intro kb)
              | (apply F_build2 rfl (hd := rfl); exact T.st25; (focus ((repeat (first | exact BuildR.nil | (apply BuildR.cons; (first | exact T.fs25_0 | exact T.fs25_1); rfl; rfl; (focus ((repeat (first | exact SetSeg.nil | apply SetSeg.here | apply SetSeg.there)); done))) | (apply BuildR.cons1; (first | exact T.fs25_0 | exact T.fs25_1); (focus assumption); (focus ((repeat (first | exact SetSeg.nil | apply SetSeg.here | apply SetSeg.there)); done))))); done)))
              | (refine S_not rfl rfl ?_)
              | (refine S_extract rfl rfl rfl ?_)
              | (refine S_done ?_)
              | (refine S_box1 rfl rfl rfl rfl ?_; intro kb)))
          | (refine gC ?_; (first
              | (refine C_seq ?_)
              | (refine gReg ?_; (first
                  | (refine gReg (i := 0) ?_; refine C_plain [(0, 2), (1, 0)] (by kernel_rfl) (s := [⟨2, none, _, _, _⟩, ⟨0, none, _, _, _⟩]) rfl ?_)
                  | (refine gReg (i := 1) ?_; refine C_plain [(0, 0), (1, 0), (2, 2), (3, 0), (4, 0), (5, 0), (6, 0), (7, 0)] (by kernel_rfl) (s := [⟨0, none, _, _, _⟩, ⟨0, none, _, _, _⟩, ⟨2, none, _, _, _⟩, ⟨0, none, _, _, _⟩, ⟨0, none, _, _, _⟩, ⟨0, none, _, _, _⟩, ⟨0, none, _, _, _⟩, ⟨0, none, _, _, _⟩]) rfl ?_)
                  | (refine gReg (i := 2) ?_; refine C_plain [(0, 0), (1, 0), (2, 2), (3, 0), (4, 0), (5, 0), (6, 0), (7, 0)] (by kernel_rfl) (s := [⟨0, none, _, _, _⟩, ⟨0, none, _, _, _⟩, ⟨2, none, _, _, _⟩, ⟨0, none, _, _, _⟩, ⟨0, none, _, _, _⟩, ⟨0, none, _, _, _⟩, ⟨0, none, _, _, _⟩, ⟨0, none, _, _, _⟩]) rfl ?_)
                  | (refine gReg (i := 3) ?_; refine C_plain [(0, 0), (1, 0), (2, 0), (3, 0), (4, 0), (5, 0), (6, 0), (7, 0), (8, 0), (9, 0)] (by kernel_rfl) (s := [⟨0, none, _, _, _⟩, ⟨0, none, _, _, _⟩, ⟨0, some (29, false), _, _, _⟩, ⟨0, some (29, false), _, _, _⟩, ⟨0, some (29, false), _, _, _⟩, ⟨0, some (32, true), _, _, _⟩, ⟨0, some (32, true), _, _, _⟩, ⟨0, some (29, false), _, _, _⟩, ⟨0, none, _, _, _⟩, ⟨0, none, _, _, _⟩]) rfl ?_)
                  | (refine gReg (i := 4) ?_; refine C_plain [(0, 2), (1, 0)] (by kernel_rfl) (s := [⟨2, none, _, _, _⟩, ⟨0, none, _, _, _⟩]) rfl ?_)
                  | (refine gReg (i := 5) ?_; refine C_plain [(0, 0), (1, 0), (2, 0), (3, 0), (4, 0), (5, 0)] (by kernel_rfl) (s := [⟨0, none, _, _, _⟩, ⟨0, none, _, _, _⟩, ⟨0, some (40, true), _, _, _⟩, ⟨0, some (40, true), _, _, _⟩, ⟨0, none, _, _, _⟩, ⟨0, none, _, _, _⟩]) rfl ?_)
                  | (refine gReg (i := 6) ?_; refine C_plain [(0, 0), (1, 2), (2, 0)] (by kernel_rfl) (s := [⟨0, none, _, _, _⟩, ⟨2, none, _, _, _⟩, ⟨0, none, _, _, _⟩]) rfl ?_)
                  | (refine gReg (i := 7) ?_; refine C_plain [(0, 0), (1, 2), (2, 0), (3, 0), (4, 0), (5, 2), (6, 2), (7, 2), (8, 2)] (by kernel_rfl) (s := [⟨0, none, _, _, _⟩, ⟨2, none, _, _, _⟩, ⟨0, none, _, _, _⟩, ⟨0, none, _, _, _⟩, ⟨0, none, _, _, _⟩, ⟨2, none, _, _, _⟩, ⟨2, none, _, _, _⟩, ⟨2, none, _, _, _⟩, ⟨2, none, _, _, _⟩]) rfl ?_)
                  | (refine gReg (i := 8) ?_; refine C_plain [(0, 0), (1, 0), (2, 0), (3, 2), (4, 0)] (by kernel_rfl) (s := [⟨0, none, _, _, _⟩, ⟨0, none, _, _, _⟩, ⟨0, none, _, _, _⟩, ⟨2, none, _, _, _⟩, ⟨0, none, _, _, _⟩]) rfl ?_)
                  | (refine gReg (i := 9) ?_; refine C_plain [(0, 0), (1, 0), (2, 0), (3, 2), (4, 0)] (by kernel_rfl) (s := [⟨0, none, _, _, _⟩, ⟨0, none, _, _, _⟩, ⟨0, none, _, _, _⟩, ⟨2, none, _, _, _⟩, ⟨0, none, _, _, _⟩]) rfl ?_)
                  | (refine gReg (i := 10) ?_; refine C_drawn [(0, 0), (1, 0), (2, 0), (3, 0), (4, 0), (5, 0), (6, 0), (7, 0), (8, 0), (9, 0), (10, 0), (11, 0), (12, 0), (13, 0), (14, 0), (15, 0), (16, 0), (17, 0), (18, 0), (19, 0), (20, 0), (21, 0)] [] T.mixed (by kernel_rfl) (s := [⟨0, none, _, _, _⟩, ⟨0, none, _, _, _⟩, ⟨0, none, _, _, _⟩, ⟨0, none, _, _, _⟩, ⟨0, some (62, true), _, _, _⟩, ⟨0, some (62, true), _, _, _⟩, ⟨0, some (62, true), _, _, _⟩, ⟨0, none, _, _, _⟩, ⟨0, none, _, _, _⟩, ⟨0, some (67, true), _, _, _⟩, ⟨0, some (67, true), _, _, _⟩, ⟨0, some (67, true), _, _, _⟩, ⟨0, some (67, true), _, _, _⟩, ⟨0, some (67, true), _, _, _⟩, ⟨0, none, _, _, _⟩, ⟨0, none, _, _, _⟩, ⟨0, some (74, true), _, _, _⟩, ⟨0, some (74, true), _, _, _⟩, ⟨0, some (74, true), _, _, _⟩, ⟨0, some (74, true), _, _, _⟩, ⟨0, some (74, true), _, _, _⟩, ⟨0, none, _, _, _⟩]) rfl ?_)
                  | (refine gReg (i := 11) ?_; refine C_plain [(0, 0), (1, 2), (2, 0)] (by kernel_rfl) (s := [⟨0, none, _, _, _⟩, ⟨2, none, _, _, _⟩, ⟨0, none, _, _, _⟩]) rfl ?_)
                  | (refine gReg (i := 12) ?_; refine C_plain [(0, 0), (1, 0), (2, 2), (3, 0)] (by kernel_rfl) (s := [⟨0, none, _, _, _⟩, ⟨0, none, _, _, _⟩, ⟨2, none, _, _, _⟩, ⟨0, none, _, _, _⟩]) rfl ?_)))
              | (refine C_true rfl ?_)
              | (refine C_false rfl ?_)
              | (refine C_split rfl ?_ ?_ <;> (intro hb; (try simp only [decide_eq_true_eq] at hb); (try simp only [decide_eq_false_iff_not] at hb); (try simp only [Bool.not_eq_true'] at hb); (try simp only [Bool.not_eq_false'] at hb); (try (exfalso; first | contradiction | omega)); (try (have hf1 := first1 hb))))
              | (refine C_skip ?_)
              | (refine C_exit ?_)
              | (refine C_ret ?_)
              | (refine C_block ?_)))
          | (refine gE ?_; (first
              | (refine E_then ?_)
              | (refine E_thenX ?_)
              | (refine E_thenR ?_)
              | (refine E_block ?_)
              | (refine E_blockY ?_)
              | (refine E_blockR ?_)
              | (refine E_calm ?_)
              | (refine E_blockX rfl ?_)
              | (apply E_ret1 rfl; (first | exact Res.tmp rfl | (apply R_cellAll rfl; (focus ((repeat (first | exact List.Mem.head _ | refine List.Mem.tail _ ?_)); done)); exact T.rw25) | (apply R_cell1 rfl; (focus ((repeat (first | exact List.Mem.head _ | refine List.Mem.tail _ ?_)); done)); fail)))
              | (apply E_ret2 rfl; (first | exact Res.tmp rfl | (apply R_cellAll rfl; (focus ((repeat (first | exact List.Mem.head _ | refine List.Mem.tail _ ?_)); done)); exact T.rw25) | (apply R_cell1 rfl; (focus ((repeat (first | exact List.Mem.head _ | refine List.Mem.tail _ ?_)); done)); fail)); (first | exact Res.tmp rfl | (apply R_cellAll rfl; (focus ((repeat (first | exact List.Mem.head _ | refine List.Mem.tail _ ?_)); done)); exact T.rw25) | (apply R_cell1 rfl; (focus ((repeat (first | exact List.Mem.head _ | refine List.Mem.tail _ ?_)); done)); fail)))
              | (apply E_ret3 rfl; (first | exact Res.tmp rfl | (apply R_cellAll rfl; (focus ((repeat (first | exact List.Mem.head _ | refine List.Mem.tail _ ?_)); done)); exact T.rw25) | (apply R_cell1 rfl; (focus ((repeat (first | exact List.Mem.head _ | refine List.Mem.tail _ ?_)); done)); fail)); (first | exact Res.tmp rfl | (apply R_cellAll rfl; (focus ((repeat (first | exact List.Mem.head _ | refine List.Mem.tail _ ?_)); done)); exact T.rw25) | (apply R_cell1 rfl; (focus ((repeat (first | exact List.Mem.head _ | refine List.Mem.tail _ ?_)); done)); fail)); (first | exact Res.tmp rfl | (apply R_cellAll rfl; (focus ((repeat (first | exact List.Mem.head _ | refine List.Mem.tail _ ?_)); done)); exact T.rw25) | (apply R_cell1 rfl; (focus ((repeat (first | exact List.Mem.head _ | refine List.Mem.tail _ ?_)); done)); fail))))))
        · refine retX (sv, [p]) ?_ rfl ?_
          · exact join_rows (z1 := z1.2) (z2 := z2.2) hp hk h2 (.inl h1) (.inr h4) sim_refl sim_refl hz1 hz2 (.inl ⟨one_eq (by assumption) (eqQ (by assumption)), one_eq (by assumption) (eqQ (by assumption)), rfl⟩)
          · exact (by (focus (apply Ent.flat; (simp only [List.length_append, List.length_cons, List.length_nil, Nat.zero_add, flat_many, flat_row, flat_blk, flat_append, flat_nil, List.map_append, List.map_cons, List.map_nil, List.flatMap_append, List.flatMap_cons, List.flatMap_nil, List.append_assoc, List.append_nil, List.nil_append, List.cons_append, Row.blk_mk, rwSNetPrefix, rwSuint8]); ((repeat (first | exact Pull.nil | (apply Pull.app; (focus ((repeat (first | exact PickA.here | exact PickA.all | apply PickA.there | apply PickA.over)); done))) | (apply Pull.cons; (focus ((repeat (first | exact Pick.here | exact Pick.last | apply Pick.there | apply Pick.over)); done))) | (apply Pull.atom; (focus ((repeat (first | exact PickA.here | exact PickA.all | apply PickA.there | apply PickA.over)); done))))); done))))
        all_goals
          refine retX (sv, z1.2 ++ z2.2) ?_ rfl ?_
          · exact join_rows (z1 := z1.2) (z2 := z2.2) hp hk h2 (.inl h1) (.inr h4) sim_refl sim_refl hz1 hz2 (.inr ⟨by
              rintro ⟨e1, e2⟩
              refine absurd ?_ hb
              first | (rw [e2]; rfl) | (rw [e1]; rfl), rfl⟩)
          · exact (by (focus (apply Ent.flat; (simp only [List.length_append, List.length_cons, List.length_nil, Nat.zero_add, flat_many, flat_row, flat_blk, flat_append, flat_nil, List.map_append, List.map_cons, List.map_nil, List.flatMap_append, List.flatMap_cons, List.flatMap_nil, List.append_assoc, List.append_nil, List.nil_append, List.cons_append, Row.blk_mk, rwSNetPrefix, rwSuint8]); ((repeat (first | exact Pull.nil | (apply Pull.app; (focus ((repeat (first | exact PickA.here | exact PickA.all | apply PickA.there | apply PickA.over)); done))) | (apply Pull.cons; (focus ((repeat (first | exact Pick.here | exact Pick.last | apply Pick.there | apply Pick.over)); done))) | (apply Pull.atom; (focus ((repeat (first | exact PickA.here | exact PickA.all | apply PickA.there | apply PickA.over)); done))))); done))))
  · obtain ⟨c, h3⟩ : ∃ c, anyOf x.2 p = c := ⟨_, rfl⟩
    obtain ⟨d, h4⟩ : ∃ d, anyOf o.2 p = d := ⟨_, rfl⟩
    obtain ⟨b, h1⟩ : ∃ b, anyIn p x.2 = b := ⟨_, rfl⟩
    refine enter (n := 86) (E := [(0, _), (1, _), (2, _)]) Try.func59 rfl rfl rfl rfl ?_
    repeat' (first
      | (refine gS ?_; (first
          | (refine gGuard ?_; (first
              | (refine S_on rfl ?_)
              | (refine S_off rfl rfl rfl ?_)
              | (refine S_offn rfl rfl ?_)
              | (refine S_offU rfl rfl ?_)
              | (refine S_offUn rfl ?_)
              | (refine S_gsplit rfl ?_ ?_ <;> (intro hb; (try simp only [decide_eq_true_eq] at hb); (try simp only [decide_eq_false_iff_not] at hb); (try simp only [Bool.not_eq_true'] at hb); (try simp only [Bool.not_eq_false'] at hb); (try (exfalso; first | contradiction | omega))))))
          | (refine S_move rfl rfl ?_)
          | (refine S_assign rfl rfl ?_)
          | (apply F_idx rfl rfl rfl; exact T.sl37; (focus rfl); (focus (first | exact len_nil | (apply len_given; assumption) | (apply len_row; (focus ((repeat (first | exact List.Mem.head _ | refine List.Mem.tail _ ?_)); done))) | (refine len_isN ?_; assumption))); (focus omega))
          | (apply F_idxZ rfl rfl rfl; exact T.sl37; (focus omega); (focus (first | exact len_nil | (apply len_given; assumption) | (apply len_row; (focus ((repeat (first | exact List.Mem.head _ | refine List.Mem.tail _ ?_)); done))) | (refine len_isN ?_; assumption))); (focus omega))
          | (apply F_bs0 rfl rfl; exact T.el37; rfl; intro sv; (try (refine S_fact (row_one (v := sv) (by (focus ((repeat (first | exact List.Mem.head _ | refine List.Mem.tail _ ?_)); done)))) (fun hone => ?_))))
          | (apply F_bs rfl rfl; exact T.el37; rfl; rfl; rfl; rfl; (focus ((repeat (first | exact Dense.nil | (apply Dense.cons; rfl; rfl))); done)); intro sv; (try (refine S_fact (row_one (v := sv) (by (focus ((repeat (first | exact List.Mem.head _ | refine List.Mem.tail _ ?_)); done)))) (fun hone => ?_))))
          | (refine gLoad ?_; (first
              | (apply F_loadAll rfl rfl; (focus ((repeat (first | exact List.Mem.head _ | refine List.Mem.tail _ ?_)); done)); exact T.rw25; (focus (first | exact free0 | exact free1)))
              | (apply F_loadP rfl rfl; (focus ((repeat (first | exact List.Mem.head _ | refine List.Mem.tail _ ?_)); done)); exact T.rw25; (focus ((repeat (first | exact Take.nil | apply Take.here | apply Take.there)); done)); rfl; (focus (first | exact free0 | exact free1)))
              | (apply F_loadSN rfl rfl; exact T.rw25; (focus (first | exact rd_nil | (apply rd_given; (focus assumption); (focus (first | exact freeG0 | exact freeG1))) | (apply rd_row; (focus ((repeat (first | exact List.Mem.head _ | refine List.Mem.tail _ ?_)); done)); (focus (first | exact freeR0 | exact freeR1))))); (focus (first | (focus (apply at_flat; (focus (intro _; rfl)); (focus assumption))) | exact at_self)); rfl; rfl)
              | (apply F_loadSP rfl rfl; exact T.rw25; (focus (first | exact rd_nil | (apply rd_given; (focus assumption); (focus (first | exact freeG0 | exact freeG1))) | (apply rd_row; (focus ((repeat (first | exact List.Mem.head _ | refine List.Mem.tail _ ?_)); done)); (focus (first | exact freeR0 | exact freeR1))))); (focus (apply at_flat; (focus (intro _; rfl)); (focus assumption))); (focus ((repeat (first | exact Take.nil | apply Take.here | apply Take.there)); done)); rfl; rfl)
              | (apply F_loadST rfl rfl; exact T.rw25; (focus (first | exact rd_nil | (apply rd_given; (focus assumption); (focus (first | exact freeG0 | exact freeG1))) | (apply rd_row; (focus ((repeat (first | exact List.Mem.head _ | refine List.Mem.tail _ ?_)); done)); (focus (first | exact freeR0 | exact freeR1))))); (focus ((repeat (first | exact Take.nil | apply Take.here | apply Take.there)); done)); rfl; rfl)))
          | (refine gStore ?_; (first
              | (apply F_storeN rfl rfl; (focus (first | rfl | assumption | (simp only [List.append_nil, List.all_cons, List.all_nil, Bool.and_true, Bool.true_and, one_int, one_bool, one_string, one_slice, one_pointer, *]; done))); exact T.rw25; (focus ((repeat (first | exact Upd.here | apply Upd.there)); done)); (focus ((repeat (first | exact SetSeg.nil | apply SetSeg.here | apply SetSeg.there)); done)); (first | exact okst2 | exact okst1 | exact okst1'))
              | (apply F_storeSN rfl rfl; (focus ((repeat (first | exact Upd.here | apply Upd.there)); done)); exact T.rw25; rfl; (focus (first | rfl | assumption | (simp only [List.append_nil, List.all_cons, List.all_nil, Bool.and_true, Bool.true_and, one_int, one_bool, one_string, one_slice, one_pointer, *]; done))); rfl; (focus omega); (first | exact okst2 | exact okst1 | exact okst1'))))
          | (refine gCall ?_; (first
              | (refine S_callN (f := 65) rfl T.pf65 rfl (fun w hst => some_l x p hp hxo h1 h3 w (by first | (refine Rds.given hst ?_; assumption) | (apply Rds.many hst; (focus ((repeat (first | exact List.Mem.head _ | refine List.Mem.tail _ ?_)); done))) | (apply Rds.row hst; (focus ((repeat (first | exact List.Mem.head _ | refine List.Mem.tail _ ?_)); done))))) rfl ?_)
              | (refine S_callN (f := 65) rfl T.pf65 rfl (fun w hst => some_l o p hp hoo h2 h4 w (by first | (refine Rds.given hst ?_; assumption) | (apply Rds.many hst; (focus ((repeat (first | exact List.Mem.head _ | refine List.Mem.tail _ ?_)); done))) | (apply Rds.row hst; (focus ((repeat (first | exact List.Mem.head _ | refine List.Mem.tail _ ?_)); done))))) rfl ?_)
              | (apply F_len rfl rfl rfl; (focus exact ⟨_, _, by exact T.sl37⟩); (focus (first | exact len_nil | (apply len_given; assumption) | (apply len_row; (focus ((repeat (first | exact List.Mem.head _ | refine List.Mem.tail _ ?_)); done))) | (refine len_isN ?_; assumption))))
              | (apply F_append rfl rfl rfl rfl; exact T.el37; (focus (intro sv; (focus ((repeat (first | exact Upd.here | apply Upd.there)); done)))); (focus (first | exact rd_nil | (apply rd_given; (focus assumption); (focus (first | exact freeG0 | exact freeG1))) | (apply rd_row; (focus ((repeat (first | exact List.Mem.head _ | refine List.Mem.tail _ ?_)); done)); (focus (first | exact freeR0 | exact freeR1))))); (focus (first | rfl | assumption | (apply all_flat; intro _ _; rfl) | (rw [List.append_nil]; assumption) | (simp only [List.append_nil, List.all_cons, List.all_nil, Bool.and_true, Bool.true_and, one_int, one_bool, one_string, one_slice, one_pointer, *]; done) | simp)); (first | exact okst2 | exact okst1 | exact okst1'); (focus (simp only [maxLen]; first | omega | (simp only [List.length_take, List.length_drop]; omega))); (focus (first | omega | (simp only [List.length_take, List.length_drop]; omega))); intro sv; (try (refine S_fact (row_one (v := sv) (by (focus ((repeat (first | exact List.Mem.head _ | refine List.Mem.tail _ ?_)); done)))) (fun hone => ?_))))))
          | (refine gBin ?_; (first
              | (apply S_eqlS rfl rfl rfl; (focus exact T.eqs25 _ _ _ _))
              | (apply S_neqS rfl rfl rfl; (focus exact T.eqs25 _ _ _ _))
              | (refine S_eql rfl rfl rfl ?_)
              | (refine S_eqlB Try.underlying4 rfl rfl rfl ?_)))
          | (refine gPick ?_; (first
              | (refine S_pickT rfl rfl rfl ?_)
              | (refine S_pickF rfl rfl rfl ?_)))
          | (refine S_box rfl rfl rfl ?_; intro kb)
          | (apply S_alloc rfl (hd := rfl); exact T.zc25; intro kb)
          | (apply F_build2 rfl (hd := rfl); exact T.st25; (focus ((repeat (first | exact BuildR.nil | (apply BuildR.cons; (first | exact T.fs25_0 | exact T.fs25_1); rfl; rfl; (focus ((repeat (first | exact SetSeg.nil | apply SetSeg.here | apply SetSeg.there)); done))) | (apply BuildR.cons1; (first | exact T.fs25_0 | exact T.fs25_1); (focus assumption); (focus ((repeat (first | exact SetSeg.nil | apply SetSeg.here | apply SetSeg.there)); done))))); done)))
          | (refine S_not rfl rfl ?_)
          | (refine S_extract rfl rfl rfl ?_)
          | (refine S_done ?_)
          | (refine S_box1 rfl rfl rfl rfl ?_; intro kb)))
      | (refine gC ?_; (first
          | (refine C_seq ?_)
          | (refine gReg ?_; (first
              | (refine gReg (i := 0) ?_; refine C_plain [(0, 2), (1, 0)] (by kernel_rfl) (s := [⟨2, none, _, _, _⟩, ⟨0, none, _, _, _⟩]) rfl ?_)
              | (refine gReg (i := 1) ?_; refine C_plain [(0, 0), (1, 0), (2, 2), (3, 0), (4, 0), (5, 0), (6, 0), (7, 0)] (by kernel_rfl) (s := [⟨0, none, _, _, _⟩, ⟨0, none, _, _, _⟩, ⟨2, none, _, _, _⟩, ⟨0, none, _, _, _⟩, ⟨0, none, _, _, _⟩, ⟨0, none, _, _, _⟩, ⟨0, none, _, _, _⟩, ⟨0, none, _, _, _⟩]) rfl ?_)
              | (refine gReg (i := 2) ?_; refine C_plain [(0, 0), (1, 0), (2, 2), (3, 0), (4, 0), (5, 0), (6, 0), (7, 0)] (by kernel_rfl) (s := [⟨0, none, _, _, _⟩, ⟨0, none, _, _, _⟩, ⟨2, none, _, _, _⟩, ⟨0, none, _, _, _⟩, ⟨0, none, _, _, _⟩, ⟨0, none, _, _, _⟩, ⟨0, none, _, _, _⟩, ⟨0, none, _, _, _⟩]) rfl ?_)
              | (refine gReg (i := 3) ?_; refine C_plain [(0, 0), (1, 0), (2, 0), (3, 0), (4, 0), (5, 0), (6, 0), (7, 0), (8, 0), (9, 0)] (by kernel_rfl) (s := [⟨0, none, _, _, _⟩, ⟨0, none, _, _, _⟩, ⟨0, some (29, false), _, _, _⟩, ⟨0, some (29, false), _, _, _⟩, ⟨0, some (29, false), _, _, _⟩, ⟨0, some (32, true), _, _, _⟩, ⟨0, some (32, true), _, _, _⟩, ⟨0, some (29, false), _, _, _⟩, ⟨0, none, _, _, _⟩, ⟨0, none, _, _, _⟩]) rfl ?_)
              | (refine gReg (i := 4) ?_; refine C_plain [(0, 2), (1, 0)] (by kernel_rfl) (s := [⟨2, none, _, _, _⟩, ⟨0, none, _, _, _⟩]) rfl ?_)
              | (refine gReg (i := 5) ?_; refine C_plain [(0, 0), (1, 0), (2, 0), (3, 0), (4, 0), (5, 0)] (by kernel_rfl) (s := [⟨0, none, _, _, _⟩, ⟨0, none, _, _, _⟩, ⟨0, some (40, true), _, _, _⟩, ⟨0, some (40, true), _, _, _⟩, ⟨0, none, _, _, _⟩, ⟨0, none, _, _, _⟩]) rfl ?_)
              | (refine gReg (i := 6) ?_; refine C_plain [(0, 0), (1, 2), (2, 0)] (by kernel_rfl) (s := [⟨0, none, _, _, _⟩, ⟨2, none, _, _, _⟩, ⟨0, none, _, _, _⟩]) rfl ?_)
              | (refine gReg (i := 7) ?_; refine C_plain [(0, 0), (1, 2), (2, 0), (3, 0), (4, 0), (5, 2), (6, 2), (7, 2), (8, 2)] (by kernel_rfl) (s := [⟨0, none, _, _, _⟩, ⟨2, none, _, _, _⟩, ⟨0, none, _, _, _⟩, ⟨0, none, _, _, _⟩, ⟨0, none, _, _, _⟩, ⟨2, none, _, _, _⟩, ⟨2, none, _, _, _⟩, ⟨2, none, _, _, _⟩, ⟨2, none, _, _, _⟩]) rfl ?_)
              | (refine gReg (i := 8) ?_; refine C_plain [(0, 0), (1, 0), (2, 0), (3, 2), (4, 0)] (by kernel_rfl) (s := [⟨0, none, _, _, _⟩, ⟨0, none, _, _, _⟩, ⟨0, none, _, _, _⟩, ⟨2, none, _, _, _⟩, ⟨0, none, _, _, _⟩]) rfl ?_)
              | (refine gReg (i := 9) ?_; refine C_plain [(0, 0), (1, 0), (2, 0), (3, 2), (4, 0)] (by kernel_rfl) (s := [⟨0, none, _, _, _⟩, ⟨0, none, _, _, _⟩, ⟨0, none, _, _, _⟩, ⟨2, none, _, _, _⟩, ⟨0, none, _, _, _⟩]) rfl ?_)
              | (refine gReg (i := 10) ?_; refine C_drawn [(0, 0), (1, 0), (2, 0), (3, 0), (4, 0), (5, 0), (6, 0), (7, 0), (8, 0), (9, 0), (10, 0), (11, 0), (12, 0), (13, 0), (14, 0), (15, 0), (16, 0), (17, 0), (18, 0), (19, 0), (20, 0), (21, 0)] [] T.mixed (by kernel_rfl) (s := [⟨0, none, _, _, _⟩, ⟨0, none, _, _, _⟩, ⟨0, none, _, _, _⟩, ⟨0, none, _, _, _⟩, ⟨0, some (62, true), _, _, _⟩, ⟨0, some (62, true), _, _, _⟩, ⟨0, some (62, true), _, _, _⟩, ⟨0, none, _, _, _⟩, ⟨0, none, _, _, _⟩, ⟨0, some (67, true), _, _, _⟩, ⟨0, some (67, true), _, _, _⟩, ⟨0, some (67, true), _, _, _⟩, ⟨0, some (67, true), _, _, _⟩, ⟨0, some (67, true), _, _, _⟩, ⟨0, none, _, _, _⟩, ⟨0, none, _, _, _⟩, ⟨0, some (74, true), _, _, _⟩, ⟨0, some (74, true), _, _, _⟩, ⟨0, some (74, true), _, _, _⟩, ⟨0, some (74, true), _, _, _⟩, ⟨0, some (74, true), _, _, _⟩, ⟨0, none, _, _, _⟩]) rfl ?_)
              | (refine gReg (i := 11) ?_; refine C_plain [(0, 0), (1, 2), (2, 0)] (by kernel_rfl) (s := [⟨0, none, _, _, _⟩, ⟨2, none, _, _, _⟩, ⟨0, none, _, _, _⟩]) rfl ?_)
              | (refine gReg (i := 12) ?_; refine C_plain [(0, 0), (1, 0), (2, 2), (3, 0)] (by kernel_rfl) (s := [⟨0, none, _, _, _⟩, ⟨0, none, _, _, _⟩, ⟨2, none, _, _, _⟩, ⟨0, none, _, _, _⟩]) rfl ?_)))
          | (refine C_true rfl ?_)
          | (refine C_false rfl ?_)
          | (refine C_split rfl ?_ ?_ <;> (intro hb; (try simp only [decide_eq_true_eq] at hb); (try simp only [decide_eq_false_iff_not] at hb); (try simp only [Bool.not_eq_true'] at hb); (try simp only [Bool.not_eq_false'] at hb); (try (exfalso; first | contradiction | omega))))
          | (refine C_skip ?_)
          | (refine C_exit ?_)
          | (refine C_ret ?_)
          | (refine C_block ?_)))
      | (refine gE ?_; (first
          | (refine E_then ?_)
          | (refine E_thenX ?_)
          | (refine E_thenR ?_)
          | (refine E_block ?_)
          | (refine E_blockY ?_)
          | (refine E_blockR ?_)
          | (refine E_calm ?_)
          | (refine E_blockX rfl ?_)
          | (apply E_ret1 rfl; (first | exact Res.tmp rfl | (apply R_cellAll rfl; (focus ((repeat (first | exact List.Mem.head _ | refine List.Mem.tail _ ?_)); done)); exact T.rw25) | (apply R_cell1 rfl; (focus ((repeat (first | exact List.Mem.head _ | refine List.Mem.tail _ ?_)); done)); fail)))
          | (apply E_ret2 rfl; (first | exact Res.tmp rfl | (apply R_cellAll rfl; (focus ((repeat (first | exact List.Mem.head _ | refine List.Mem.tail _ ?_)); done)); exact T.rw25) | (apply R_cell1 rfl; (focus ((repeat (first | exact List.Mem.head _ | refine List.Mem.tail _ ?_)); done)); fail)); (first | exact Res.tmp rfl | (apply R_cellAll rfl; (focus ((repeat (first | exact List.Mem.head _ | refine List.Mem.tail _ ?_)); done)); exact T.rw25) | (apply R_cell1 rfl; (focus ((repeat (first | exact List.Mem.head _ | refine List.Mem.tail _ ?_)); done)); fail)))
          | (apply E_ret3 rfl; (first | exact Res.tmp rfl | (apply R_cellAll rfl; (focus ((repeat (first | exact List.Mem.head _ | refine List.Mem.tail _ ?_)); done)); exact T.rw25) | (apply R_cell1 rfl; (focus ((repeat (first | exact List.Mem.head _ | refine List.Mem.tail _ ?_)); done)); fail)); (first | exact Res.tmp rfl | (apply R_cellAll rfl; (focus ((repeat (first | exact List.Mem.head _ | refine List.Mem.tail _ ?_)); done)); exact T.rw25) | (apply R_cell1 rfl; (focus ((repeat (first | exact List.Mem.head _ | refine List.Mem.tail _ ?_)); done)); fail)); (first | exact Res.tmp rfl | (apply R_cellAll rfl; (focus ((repeat (first | exact List.Mem.head _ | refine List.Mem.tail _ ?_)); done)); exact T.rw25) | (apply R_cell1 rfl; (focus ((repeat (first | exact List.Mem.head _ | refine List.Mem.tail _ ?_)); done)); fail))))))
    refine retX (sv, []) ?_ rfl ?_
    · rw [partN_a h2]
    · exact (by (focus (apply Ent.flat; (simp only [List.length_append, List.length_cons, List.length_nil, Nat.zero_add, flat_many, flat_row, flat_blk, flat_append, flat_nil, List.map_append, List.map_cons, List.map_nil, List.flatMap_append, List.flatMap_cons, List.flatMap_nil, List.append_assoc, List.append_nil, List.nil_append, List.cons_append, Row.blk_mk, rwSNetPrefix, rwSuint8]); ((repeat (first | exact Pull.nil | (apply Pull.app; (focus ((repeat (first | exact PickA.here | exact PickA.all | apply PickA.there | apply PickA.over)); done))) | (apply Pull.cons; (focus ((repeat (first | exact Pick.here | exact Pick.last | apply Pick.there | apply Pick.over)); done))) | (apply Pull.atom; (focus ((repeat (first | exact PickA.here | exact PickA.all | apply PickA.there | apply PickA.over)); done))))); done))))
theorem specPart_c (k : Nat) : ∀ (p : MNetPrefix) (x o : MSNetPrefix), okQ p = true → p.2 + (k : Int) = 16 → allOk x.2 → allOk o.2 → x.2.length ≤ 40 → o.2.length ≤ 40 → ∀ w, Rds w (rwSNetPrefix x) → Rds w (rwSNetPrefix o) →
    Calls Try.prog 59 #[.agg (clNetPrefix p).toArray, x.1, o.1] w (RetX (fun y : MSNetPrefix => y.2 = partN k p x.2 o.2) (fun y => y.1) (fun y => [.many (rwSNetPrefix y)]) w) := by
  induction k with
  | zero => exact specPart_zero
  | succ k ih => exact specPart_succ k ih
end Go.Proofs.Ytobgbogglilfjaa

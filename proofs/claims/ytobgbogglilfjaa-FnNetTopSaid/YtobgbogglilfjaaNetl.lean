/- The fewest prefixes: lists of prefixes copied, compared, marked; both functions as a whole. -/
import Derived.Test.YtobgbogglilfjaaNetk
import Derived.Test.YtobgbogglilfjaaNeti
set_option linter.unusedSimpArgs false
set_option linter.unusedVariables false
namespace Go.Proofs.Ytobgbogglilfjaa
open Go Go.RowKit
attribute [local irreducible] Calls GoS GoC GoE GoT IsFl IsSc IsRw IsSl IsEl IsSt IsFs sp Mem Rd LenOf szR
theorem szSNetPrefix_c (x : MSNetPrefix) (b : Int) (hb : 0 ≤ b ∧ b ≤ 1048576) (w : World) (hx : Rds w (rwSNetPrefix x)) : Calls Try.prog 24 #[x.1, .int .i64 b] w (RetN (.int .i64 (szR b (x.2.length))) w) := by
  obtain ⟨v, l⟩ := x
  have hm := Rds.head hx
  have hlen := hm.len
  simp only [maxLen] at hlen
  dsimp only at *
  refine enter (n := 12) (E := [(0, _), (1, _)]) Try.func24 rfl rfl rfl rfl ?_
  repeat' (first
    | (refine gS ?_; (first
        | (refine S_move rfl rfl ?_)
        | (refine S_assign rfl rfl ?_)
        | (refine gCall ?_; (first
            | (apply F_len rfl rfl rfl; (focus exact ⟨_, _, by exact T.sl34⟩); (focus (first | exact len_nil | (apply len_given; assumption) | (apply len_row; (focus ((repeat (first | exact List.Mem.head _ | refine List.Mem.tail _ ?_)); done))) | (refine len_isN ?_; assumption))))))
        | (refine gBin ?_; (first
            | (refine S_lss rfl rfl rfl ?_)
            | (refine S_sub rfl rfl ?_ rfl ?_; (focus (unfold rng; omega)))))
        | (refine S_done ?_)))
    | (refine gC ?_; (first
        | (refine C_seq ?_)
        | (refine gReg ?_; (first
            | (refine gReg (i := 0) ?_; refine C_plain [(0, 0)] (by kernel_rfl) (s := [⟨0, none, _, _, _⟩]) rfl ?_)
            | (refine gReg (i := 1) ?_; refine C_plain [(0, 0), (1, 0), (2, 0), (3, 0), (4, 0)] (by kernel_rfl) (s := [⟨0, none, _, _, _⟩, ⟨0, none, _, _, _⟩, ⟨0, none, _, _, _⟩, ⟨0, none, _, _, _⟩, ⟨0, none, _, _, _⟩]) rfl ?_)
            | (refine gReg (i := 2) ?_; refine C_plain [(0, 0), (1, 0)] (by kernel_rfl) (s := [⟨0, none, _, _, _⟩, ⟨0, none, _, _, _⟩]) rfl ?_)
            | (refine gReg (i := 3) ?_; refine C_plain [(0, 0)] (by kernel_rfl) (s := [⟨0, none, _, _, _⟩]) rfl ?_)
            | (refine gReg (i := 4) ?_; refine C_plain [(0, 0), (1, 0)] (by kernel_rfl) (s := [⟨0, none, _, _, _⟩, ⟨0, none, _, _, _⟩]) rfl ?_)))
        | (refine C_true rfl ?_)
        | (refine C_false rfl ?_)
        | (refine C_split rfl ?_ ?_ <;> (intro hb; (try simp only [decide_eq_true_eq] at hb); (try simp only [decide_eq_false_iff_not] at hb); (try simp only [Bool.not_eq_true'] at hb); (try simp only [Bool.not_eq_false'] at hb); (try (exfalso; first | contradiction | omega))))
        | (refine C_skip ?_)
        | (refine C_exit ?_)
        | (refine C_ret ?_)
        | (refine C_block ?_)))
    | (refine gE ?_; (first
        | (refine E_then ?_)
        | (refine E_thenX ?_)
        | (refine E_thenR ?_)
        | (refine E_block ?_)
        | (refine E_blockY ?_)
        | (refine E_blockR ?_)
        | (refine E_calm ?_)
        | (refine E_blockX rfl ?_)
        | (apply E_ret1 rfl; (first | exact Res.tmp rfl | (apply R_cellAll rfl; (focus ((repeat (first | exact List.Mem.head _ | refine List.Mem.tail _ ?_)); done)); fail) | (apply R_cell1 rfl; (focus ((repeat (first | exact List.Mem.head _ | refine List.Mem.tail _ ?_)); done)); fail)))
        | (apply E_ret2 rfl; (first | exact Res.tmp rfl | (apply R_cellAll rfl; (focus ((repeat (first | exact List.Mem.head _ | refine List.Mem.tail _ ?_)); done)); fail) | (apply R_cell1 rfl; (focus ((repeat (first | exact List.Mem.head _ | refine List.Mem.tail _ ?_)); done)); fail)); (first | exact Res.tmp rfl | (apply R_cellAll rfl; (focus ((repeat (first | exact List.Mem.head _ | refine List.Mem.tail _ ?_)); done)); fail) | (apply R_cell1 rfl; (focus ((repeat (first | exact List.Mem.head _ | refine List.Mem.tail _ ?_)); done)); fail)))
        | (apply E_ret3 rfl; (first | exact Res.tmp rfl | (apply R_cellAll rfl; (focus ((repeat (first | exact List.Mem.head _ | refine List.Mem.tail _ ?_)); done)); fail) | (apply R_cell1 rfl; (focus ((repeat (first | exact List.Mem.head _ | refine List.Mem.tail _ ?_)); done)); fail)); (first | exact Res.tmp rfl | (apply R_cellAll rfl; (focus ((repeat (first | exact List.Mem.head _ | refine List.Mem.tail _ ?_)); done)); fail) | (apply R_cell1 rfl; (focus ((repeat (first | exact List.Mem.head _ | refine List.Mem.tail _ ?_)); done)); fail)); (first | exact Res.tmp rfl | (apply R_cellAll rfl; (focus ((repeat (first | exact List.Mem.head _ | refine List.Mem.tail _ ?_)); done)); fail) | (apply R_cell1 rfl; (focus ((repeat (first | exact List.Mem.head _ | refine List.Mem.tail _ ?_)); done)); fail))))))
  all_goals (refine retN ?_; simp [szR, *])
theorem toSNetPrefix_c (x : MSNetPrefix) (w : World) (hx : Rds w (rwSNetPrefix x)) (hl : x.2.length ≤ 1048576) : Calls Try.prog 26 #[x.1] w (RetX (fun y : MSNetPrefix => y.2 = x.2) (fun y => y.1) (fun y => [.many (rwSNetPrefix y)]) w) := by
  obtain ⟨v, l⟩ := x
  have hm := Rds.head hx
  have hlen := hm.len
  simp only [maxLen] at hlen
  dsimp only at *
  refine enter (n := 23) (E := [(0, _)]) Try.func26 rfl rfl rfl rfl ?_
  repeat' (first
    | (refine gS ?_; (first
        | (refine S_move rfl rfl ?_)
        | (refine S_assign rfl rfl ?_)
        | (apply F_idx rfl rfl rfl; (first | exact T.sl34 | exact T.sl37); (focus rfl); (focus (first | exact len_nil | (apply len_given; assumption) | (apply len_row; (focus ((repeat (first | exact List.Mem.head _ | refine List.Mem.tail _ ?_)); done))) | (refine len_isN ?_; assumption))); (focus omega))
        | (apply F_idxZ rfl rfl rfl; (first | exact T.sl34 | exact T.sl37); (focus omega); (focus (first | exact len_nil | (apply len_given; assumption) | (apply len_row; (focus ((repeat (first | exact List.Mem.head _ | refine List.Mem.tail _ ?_)); done))) | (refine len_isN ?_; assumption))); (focus omega))
        | (apply F_make rfl rfl rfl; (first | exact T.el34 | exact T.el37); rfl; (focus omega); (focus (simp only [maxLen]; omega)); intro sv; (try (refine S_fact (row_one (v := sv) (by (focus ((repeat (first | exact List.Mem.head _ | refine List.Mem.tail _ ?_)); done)))) (fun hone => ?_))))
        | (apply F_make0 rfl rfl rfl; (first | exact T.el34 | exact T.el37); rfl; (focus omega); (focus (simp only [maxLen]; omega)); intro sv; (try (refine S_fact (row_one (v := sv) (by (focus ((repeat (first | exact List.Mem.head _ | refine List.Mem.tail _ ?_)); done)))) (fun hone => ?_))))
        | (refine gLoad ?_; (first
            | (apply F_loadAll rfl rfl; (focus ((repeat (first | exact List.Mem.head _ | refine List.Mem.tail _ ?_)); done)); (first | exact T.rw23 | exact T.rw25); (focus (first | exact free0 | exact free1)))
            | (apply F_loadP rfl rfl; (focus ((repeat (first | exact List.Mem.head _ | refine List.Mem.tail _ ?_)); done)); (first | exact T.rw23 | exact T.rw25); (focus ((repeat (first | exact Take.nil | apply Take.here | apply Take.there)); done)); rfl; (focus (first | exact free0 | exact free1)))
            | (apply F_loadSN rfl rfl; (first | exact T.rw23 | exact T.rw25); (focus (first | exact rd_nil | (apply rd_given; (focus assumption); (focus (first | exact freeG0 | exact freeG1))) | (apply rd_row; (focus ((repeat (first | exact List.Mem.head _ | refine List.Mem.tail _ ?_)); done)); (focus (first | exact freeR0 | exact freeR1))))); (focus (first | (focus (apply at_flat; (focus (intro _; rfl)); (focus assumption))) | exact at_self)); rfl; rfl)
            | (apply F_loadSP rfl rfl; (first | exact T.rw23 | exact T.rw25); (focus (first | exact rd_nil | (apply rd_given; (focus assumption); (focus (first | exact freeG0 | exact freeG1))) | (apply rd_row; (focus ((repeat (first | exact List.Mem.head _ | refine List.Mem.tail _ ?_)); done)); (focus (first | exact freeR0 | exact freeR1))))); (focus (apply at_flat; (focus (intro _; rfl)); (focus assumption))); (focus ((repeat (first | exact Take.nil | apply Take.here | apply Take.there)); done)); rfl; rfl)))
        | (refine gStore ?_; (first
            | (apply F_storeN rfl rfl; (focus (first | rfl | assumption | (simp only [List.append_nil, List.all_cons, List.all_nil, Bool.and_true, Bool.true_and, one_int, one_bool, one_string, one_slice, one_pointer, *]; done))); (first | exact T.rw23 | exact T.rw25); (focus ((repeat (first | exact Upd.here | apply Upd.there)); done)); (focus ((repeat (first | exact SetSeg.nil | apply SetSeg.here | apply SetSeg.there)); done)); (first | exact okst2 | exact okst1 | exact okst1'))
            | (apply F_storeSN rfl rfl; (focus ((repeat (first | exact Upd.here | apply Upd.there)); done)); (first | exact T.rw23 | exact T.rw25); rfl; (focus (first | rfl | assumption | (simp only [List.append_nil, List.all_cons, List.all_nil, Bool.and_true, Bool.true_and, one_int, one_bool, one_string, one_slice, one_pointer, *]; done))); rfl; (focus omega); (first | exact okst2 | exact okst1 | exact okst1'))))
        | (refine gCall ?_; (first
            | (apply F_len rfl rfl rfl; (focus exact ⟨_, _, by (first | exact T.sl34 | exact T.sl37)⟩); (focus (first | exact len_nil | (apply len_given; assumption) | (apply len_row; (focus ((repeat (first | exact List.Mem.head _ | refine List.Mem.tail _ ?_)); done))) | (refine len_isN ?_; assumption))))))
        | (refine gBin ?_; (first
            | (refine S_lss rfl rfl rfl ?_)
            | (refine S_add rfl rfl ?_ rfl ?_; (focus (unfold rng; omega)))))
        | (refine S_done ?_)))
    | (refine gC ?_; (first
        | (refine C_seq ?_)
        | (refine gReg ?_; (first
            | (refine gReg (i := 0) ?_; refine C_plain [(0, 0)] (by kernel_rfl) (s := [⟨0, none, _, _, _⟩]) rfl ?_)
            | (refine gReg (i := 1) ?_; refine C_plain [(0, 0), (1, 0), (2, 2), (3, 0)] (by kernel_rfl) (s := [⟨0, none, _, _, _⟩, ⟨0, none, _, _, _⟩, ⟨2, none, _, _, _⟩, ⟨0, none, _, _, _⟩]) rfl ?_)
            | (refine gReg (i := 2) ?_; refine C_plain [(0, 0)] (by kernel_rfl) (s := [⟨0, none, _, _, _⟩]) rfl ?_)
            | (refine gReg (i := 3) ?_; refine C_plain [(0, 0), (1, 0), (2, 0), (3, 0)] (by kernel_rfl) (s := [⟨0, none, _, _, _⟩, ⟨0, none, _, _, _⟩, ⟨0, none, _, _, _⟩, ⟨0, none, _, _, _⟩]) rfl ?_)
            | (refine gReg (i := 5) ?_; refine C_plain [(0, 0), (1, 0), (2, 0), (3, 0), (4, 0), (5, 0), (6, 2), (7, 0), (8, 2)] (by kernel_rfl) (s := [⟨0, none, _, _, _⟩, ⟨0, none, _, _, _⟩, ⟨0, none, _, _, _⟩, ⟨0, none, _, _, _⟩, ⟨0, none, _, _, _⟩, ⟨0, none, _, _, _⟩, ⟨2, none, _, _, _⟩, ⟨0, none, _, _, _⟩, ⟨2, none, _, _, _⟩]) rfl ?_)
            | (refine gReg (i := 4) ?_; refine C_plain [(0, 0), (1, 0), (2, 0)] (by kernel_rfl) (s := [⟨0, none, _, _, _⟩, ⟨0, none, _, _, _⟩, ⟨0, none, _, _, _⟩]) rfl ?_)
            | (refine gReg (i := 6) ?_; refine C_plain [(0, 0), (1, 0)] (by kernel_rfl) (s := [⟨0, none, _, _, _⟩, ⟨0, none, _, _, _⟩]) rfl ?_)))
        | (refine C_true rfl ?_)
        | (refine C_false rfl ?_)
        | (refine C_split rfl ?_ ?_ <;> (intro hb; (try simp only [decide_eq_true_eq] at hb); (try simp only [decide_eq_false_iff_not] at hb); (try simp only [Bool.not_eq_true'] at hb); (try simp only [Bool.not_eq_false'] at hb); (try (exfalso; first | contradiction | omega))))
        | (refine C_skip ?_)
        | (refine C_exit ?_)
        | (refine C_ret ?_)
        | (refine C_block ?_)))
    | (refine gE ?_; (first
        | (refine E_then ?_)
        | (refine E_thenX ?_)
        | (refine E_thenR ?_)
        | (refine E_block ?_)
        | (refine E_blockY ?_)
        | (refine E_blockR ?_)
        | (refine E_calm ?_)
        | (refine E_blockX rfl ?_)
        | (apply E_ret1 rfl; (first | exact Res.tmp rfl | (apply R_cellAll rfl; (focus ((repeat (first | exact List.Mem.head _ | refine List.Mem.tail _ ?_)); done)); (first | exact T.rw23 | exact T.rw25)) | (apply R_cell1 rfl; (focus ((repeat (first | exact List.Mem.head _ | refine List.Mem.tail _ ?_)); done)); fail)))
        | (apply E_ret2 rfl; (first | exact Res.tmp rfl | (apply R_cellAll rfl; (focus ((repeat (first | exact List.Mem.head _ | refine List.Mem.tail _ ?_)); done)); (first | exact T.rw23 | exact T.rw25)) | (apply R_cell1 rfl; (focus ((repeat (first | exact List.Mem.head _ | refine List.Mem.tail _ ?_)); done)); fail)); (first | exact Res.tmp rfl | (apply R_cellAll rfl; (focus ((repeat (first | exact List.Mem.head _ | refine List.Mem.tail _ ?_)); done)); (first | exact T.rw23 | exact T.rw25)) | (apply R_cell1 rfl; (focus ((repeat (first | exact List.Mem.head _ | refine List.Mem.tail _ ?_)); done)); fail)))
        | (apply E_ret3 rfl; (first | exact Res.tmp rfl | (apply R_cellAll rfl; (focus ((repeat (first | exact List.Mem.head _ | refine List.Mem.tail _ ?_)); done)); (first | exact T.rw23 | exact T.rw25)) | (apply R_cell1 rfl; (focus ((repeat (first | exact List.Mem.head _ | refine List.Mem.tail _ ?_)); done)); fail)); (first | exact Res.tmp rfl | (apply R_cellAll rfl; (focus ((repeat (first | exact List.Mem.head _ | refine List.Mem.tail _ ?_)); done)); (first | exact T.rw23 | exact T.rw25)) | (apply R_cell1 rfl; (focus ((repeat (first | exact List.Mem.head _ | refine List.Mem.tail _ ?_)); done)); fail)); (first | exact Res.tmp rfl | (apply R_cellAll rfl; (focus ((repeat (first | exact List.Mem.head _ | refine List.Mem.tail _ ?_)); done)); (first | exact T.rw23 | exact T.rw25)) | (apply R_cell1 rfl; (focus ((repeat (first | exact List.Mem.head _ | refine List.Mem.tail _ ?_)); done)); fail))))))
  rw [← partD_zero (clNetPrefix)]
  refine C_loop (α := Nat × List MNetPrefix) (fun s => [(4, .int .i64 (s.1 : Int)), (3, sv), (0, v)]) (fun s => [.row sv 25 2 l.length (partD clNetPrefix [.int .i64 0, .int .i64 0] s.2 l.length)]) (fun s => s.1 ≤ l.length ∧ s.2.length = s.1 ∧ s.2 = l.take s.1) (fun s => l.length - s.1) (0, []) ⟨Nat.zero_le _, rfl, rfl⟩ ⟨rfl, rfl, rfl, trivial⟩ (List.Sublist.refl _) ?_
  rintro ⟨k, dn⟩ ⟨hk, hdn, hct⟩
  dsimp only at *
  repeat' (first
    | (refine gS ?_; (first
        | (refine S_move rfl rfl ?_)
        | (refine S_assign rfl rfl ?_)
        | (apply F_idx rfl rfl rfl; (first | exact T.sl34 | exact T.sl37); (focus rfl); (focus (first | exact len_nil | (apply len_given; assumption) | (apply len_row; (focus ((repeat (first | exact List.Mem.head _ | refine List.Mem.tail _ ?_)); done))) | (refine len_isN ?_; assumption))); (focus omega))
        | (apply F_idxZ rfl rfl rfl; (first | exact T.sl34 | exact T.sl37); (focus omega); (focus (first | exact len_nil | (apply len_given; assumption) | (apply len_row; (focus ((repeat (first | exact List.Mem.head _ | refine List.Mem.tail _ ?_)); done))) | (refine len_isN ?_; assumption))); (focus omega))
        | (apply F_make rfl rfl rfl; (first | exact T.el34 | exact T.el37); rfl; (focus omega); (focus (simp only [maxLen]; omega)); intro sv; (try (refine S_fact (row_one (v := sv) (by (focus ((repeat (first | exact List.Mem.head _ | refine List.Mem.tail _ ?_)); done)))) (fun hone => ?_))))
        | (apply F_make0 rfl rfl rfl; (first | exact T.el34 | exact T.el37); rfl; (focus omega); (focus (simp only [maxLen]; omega)); intro sv; (try (refine S_fact (row_one (v := sv) (by (focus ((repeat (first | exact List.Mem.head _ | refine List.Mem.tail _ ?_)); done)))) (fun hone => ?_))))
        | (refine gLoad ?_; (first
            | (apply F_loadAll rfl rfl; (focus ((repeat (first | exact List.Mem.head _ | refine List.Mem.tail _ ?_)); done)); (first | exact T.rw23 | exact T.rw25); (focus (first | exact free0 | exact free1)))
            | (apply F_loadP rfl rfl; (focus ((repeat (first | exact List.Mem.head _ | refine List.Mem.tail _ ?_)); done)); (first | exact T.rw23 | exact T.rw25); (focus ((repeat (first | exact Take.nil | apply Take.here | apply Take.there)); done)); rfl; (focus (first | exact free0 | exact free1)))
            | (apply F_loadSN rfl rfl; (first | exact T.rw23 | exact T.rw25); (focus (first | exact rd_nil | (apply rd_given; (focus assumption); (focus (first | exact freeG0 | exact freeG1))) | (apply rd_row; (focus ((repeat (first | exact List.Mem.head _ | refine List.Mem.tail _ ?_)); done)); (focus (first | exact freeR0 | exact freeR1))))); (focus (first | (focus (apply at_flat; (focus (intro _; rfl)); (focus assumption))) | exact at_self)); rfl; rfl)
            | (apply F_loadSP rfl rfl; (first | exact T.rw23 | exact T.rw25); (focus (first | exact rd_nil | (apply rd_given; (focus assumption); (focus (first | exact freeG0 | exact freeG1))) | (apply rd_row; (focus ((repeat (first | exact List.Mem.head _ | refine List.Mem.tail _ ?_)); done)); (focus (first | exact freeR0 | exact freeR1))))); (focus (apply at_flat; (focus (intro _; rfl)); (focus assumption))); (focus ((repeat (first | exact Take.nil | apply Take.here | apply Take.there)); done)); rfl; rfl)))
        | (refine gStore ?_; (first
            | (apply F_storeN rfl rfl; (focus (first | rfl | assumption | (simp only [List.append_nil, List.all_cons, List.all_nil, Bool.and_true, Bool.true_and, one_int, one_bool, one_string, one_slice, one_pointer, *]; done))); (first | exact T.rw23 | exact T.rw25); (focus ((repeat (first | exact Upd.here | apply Upd.there)); done)); (focus ((repeat (first | exact SetSeg.nil | apply SetSeg.here | apply SetSeg.there)); done)); (first | exact okst2 | exact okst1 | exact okst1'))
            | (apply F_storeSN rfl rfl; (focus ((repeat (first | exact Upd.here | apply Upd.there)); done)); (first | exact T.rw23 | exact T.rw25); rfl; (focus (first | rfl | assumption | (simp only [List.append_nil, List.all_cons, List.all_nil, Bool.and_true, Bool.true_and, one_int, one_bool, one_string, one_slice, one_pointer, *]; done))); rfl; (focus omega); (first | exact okst2 | exact okst1 | exact okst1'))))
        | (refine gCall ?_; (first
            | (refine S_callN (f := 15) rfl T.pf15 rfl (fun w hst => toNetPrefix_c _ w) rfl ?_)
            | (apply F_len rfl rfl rfl; (focus exact ⟨_, _, by (first | exact T.sl34 | exact T.sl37)⟩); (focus (first | exact len_nil | (apply len_given; assumption) | (apply len_row; (focus ((repeat (first | exact List.Mem.head _ | refine List.Mem.tail _ ?_)); done))) | (refine len_isN ?_; assumption))))))
        | (refine gBin ?_; (first
            | (refine S_lss rfl rfl rfl ?_)
            | (refine S_add rfl rfl ?_ rfl ?_; (focus (unfold rng; omega)))))
        | (refine S_done ?_)))
    | (refine gC ?_; (first
        | (refine C_seq ?_)
        | (refine gReg ?_; (first
            | (refine gReg (i := 0) ?_; refine C_plain [(0, 0)] (by kernel_rfl) (s := [⟨0, none, _, _, _⟩]) rfl ?_)
            | (refine gReg (i := 1) ?_; refine C_plain [(0, 0), (1, 0), (2, 2), (3, 0)] (by kernel_rfl) (s := [⟨0, none, _, _, _⟩, ⟨0, none, _, _, _⟩, ⟨2, none, _, _, _⟩, ⟨0, none, _, _, _⟩]) rfl ?_)
            | (refine gReg (i := 2) ?_; refine C_plain [(0, 0)] (by kernel_rfl) (s := [⟨0, none, _, _, _⟩]) rfl ?_)
            | (refine gReg (i := 3) ?_; refine C_plain [(0, 0), (1, 0), (2, 0), (3, 0)] (by kernel_rfl) (s := [⟨0, none, _, _, _⟩, ⟨0, none, _, _, _⟩, ⟨0, none, _, _, _⟩, ⟨0, none, _, _, _⟩]) rfl ?_)
            | (refine gReg (i := 5) ?_; refine C_plain [(0, 0), (1, 0), (2, 0), (3, 0), (4, 0), (5, 0), (6, 2), (7, 0), (8, 2)] (by kernel_rfl) (s := [⟨0, none, _, _, _⟩, ⟨0, none, _, _, _⟩, ⟨0, none, _, _, _⟩, ⟨0, none, _, _, _⟩, ⟨0, none, _, _, _⟩, ⟨0, none, _, _, _⟩, ⟨2, none, _, _, _⟩, ⟨0, none, _, _, _⟩, ⟨2, none, _, _, _⟩]) rfl ?_)
            | (refine gReg (i := 4) ?_; refine C_plain [(0, 0), (1, 0), (2, 0)] (by kernel_rfl) (s := [⟨0, none, _, _, _⟩, ⟨0, none, _, _, _⟩, ⟨0, none, _, _, _⟩]) rfl ?_)
            | (refine gReg (i := 6) ?_; refine C_plain [(0, 0), (1, 0)] (by kernel_rfl) (s := [⟨0, none, _, _, _⟩, ⟨0, none, _, _, _⟩]) rfl ?_)))
        | (refine C_true rfl ?_)
        | (refine C_false rfl ?_)
        | (refine C_split rfl ?_ ?_ <;> (intro hb; (try simp only [decide_eq_true_eq] at hb); (try simp only [decide_eq_false_iff_not] at hb); (try simp only [Bool.not_eq_true'] at hb); (try simp only [Bool.not_eq_false'] at hb); (try (exfalso; first | contradiction | omega)); (try (have hx := nthD (l := l) (k := k) hb))))
        | (refine C_skip ?_)
        | (refine C_exit ?_)
        | (refine C_ret ?_)
        | (refine C_block ?_)))
    | (refine gE ?_; (first
        | (refine E_then ?_)
        | (refine E_thenX ?_)
        | (refine E_thenR ?_)
        | (refine E_block ?_)
        | (refine E_blockY ?_)
        | (refine E_blockR ?_)
        | (refine E_calm ?_)
        | (refine E_blockX rfl ?_)
        | (apply E_ret1 rfl; (first | exact Res.tmp rfl | (apply R_cellAll rfl; (focus ((repeat (first | exact List.Mem.head _ | refine List.Mem.tail _ ?_)); done)); (first | exact T.rw23 | exact T.rw25)) | (apply R_cell1 rfl; (focus ((repeat (first | exact List.Mem.head _ | refine List.Mem.tail _ ?_)); done)); fail)))
        | (apply E_ret2 rfl; (first | exact Res.tmp rfl | (apply R_cellAll rfl; (focus ((repeat (first | exact List.Mem.head _ | refine List.Mem.tail _ ?_)); done)); (first | exact T.rw23 | exact T.rw25)) | (apply R_cell1 rfl; (focus ((repeat (first | exact List.Mem.head _ | refine List.Mem.tail _ ?_)); done)); fail)); (first | exact Res.tmp rfl | (apply R_cellAll rfl; (focus ((repeat (first | exact List.Mem.head _ | refine List.Mem.tail _ ?_)); done)); (first | exact T.rw23 | exact T.rw25)) | (apply R_cell1 rfl; (focus ((repeat (first | exact List.Mem.head _ | refine List.Mem.tail _ ?_)); done)); fail)))
        | (apply E_ret3 rfl; (first | exact Res.tmp rfl | (apply R_cellAll rfl; (focus ((repeat (first | exact List.Mem.head _ | refine List.Mem.tail _ ?_)); done)); (first | exact T.rw23 | exact T.rw25)) | (apply R_cell1 rfl; (focus ((repeat (first | exact List.Mem.head _ | refine List.Mem.tail _ ?_)); done)); fail)); (first | exact Res.tmp rfl | (apply R_cellAll rfl; (focus ((repeat (first | exact List.Mem.head _ | refine List.Mem.tail _ ?_)); done)); (first | exact T.rw23 | exact T.rw25)) | (apply R_cell1 rfl; (focus ((repeat (first | exact List.Mem.head _ | refine List.Mem.tail _ ?_)); done)); fail)); (first | exact Res.tmp rfl | (apply R_cellAll rfl; (focus ((repeat (first | exact List.Mem.head _ | refine List.Mem.tail _ ?_)); done)); (first | exact T.rw23 | exact T.rw25)) | (apply R_cell1 rfl; (focus ((repeat (first | exact List.Mem.head _ | refine List.Mem.tail _ ?_)); done)); fail))))))
  · refine E_roundS (α := Nat × List MNetPrefix) (k + 1, dn ++ [(ix l k)]) ?_ ?_ ⟨rfl, rfl, rfl, trivial⟩ ?_
    · refine ⟨by dsimp only; omega, by simp [hdn], ?_⟩
      dsimp only
      rw [take_snoc hx]
      rw [hct]
    · dsimp only; omega
    · dsimp only
      rw [← partD_step (m := 2) (k := k) (fun _ => rfl) rfl hdn (by omega) (ix l k)]
      exact (by (focus (apply Ent.flat; (simp only [List.length_append, List.length_cons, List.length_nil, Nat.zero_add, flat_many, flat_row, flat_blk, flat_append, flat_nil, List.map_append, List.map_cons, List.map_nil, List.flatMap_append, List.flatMap_cons, List.flatMap_nil, List.append_assoc, List.append_nil, List.nil_append, List.cons_append, Row.blk_mk, rwSNetPrefix, rwSuint8]); ((repeat (first | exact Pull.nil | (apply Pull.app; (focus ((repeat (first | exact PickA.here | exact PickA.all | apply PickA.there | apply PickA.over)); done))) | (apply Pull.cons; (focus ((repeat (first | exact Pick.here | exact Pick.last | apply Pick.there | apply Pick.over)); done))) | (apply Pull.atom; (focus ((repeat (first | exact PickA.here | exact PickA.all | apply PickA.there | apply PickA.over)); done))))); done))))
  · have hk' : k = l.length := by omega
    subst hk'
    refine retX (sv, dn) ?_ rfl ?_
    · rw [List.take_length] at hct; exact hct
    · rw [partD_end _ _ _ _ hdn, ← hdn]; exact (by (focus (apply Ent.flat; (simp only [List.length_append, List.length_cons, List.length_nil, Nat.zero_add, flat_many, flat_row, flat_blk, flat_append, flat_nil, List.map_append, List.map_cons, List.map_nil, List.flatMap_append, List.flatMap_cons, List.flatMap_nil, List.append_assoc, List.append_nil, List.nil_append, List.cons_append, Row.blk_mk, rwSNetPrefix, rwSuint8]); ((repeat (first | exact Pull.nil | (apply Pull.app; (focus ((repeat (first | exact PickA.here | exact PickA.all | apply PickA.there | apply PickA.over)); done))) | (apply Pull.cons; (focus ((repeat (first | exact Pick.here | exact Pick.last | apply Pick.there | apply Pick.over)); done))) | (apply Pull.atom; (focus ((repeat (first | exact PickA.here | exact PickA.all | apply PickA.there | apply PickA.over)); done))))); done))))
theorem eqSNetPrefix_c (x y : MSNetPrefix) (w : World) (hx : Rds w (rwSNetPrefix x)) (hy : Rds w (rwSNetPrefix y)) : Calls Try.prog 28 #[x.1, y.1] w (RetN (.bool (decide (x.2 = y.2))) w) := by
  obtain ⟨v, l⟩ := x
  have hm := Rds.head hx
  have hlen := hm.len
  simp only [maxLen] at hlen
  dsimp only at *
  obtain ⟨u, m⟩ := y
  have hm2 := Rds.head hy
  dsimp only at *
  refine enter (n := 27) (E := [(0, _), (1, _)]) Try.func28 rfl rfl rfl rfl ?_
  repeat' (first
    | (refine gS ?_; (first
        | (refine S_move rfl rfl ?_)
        | (refine S_assign rfl rfl ?_)
        | (apply F_idx rfl rfl rfl; exact T.sl37; (focus rfl); (focus (first | exact len_nil | (apply len_given; assumption) | (apply len_row; (focus ((repeat (first | exact List.Mem.head _ | refine List.Mem.tail _ ?_)); done))) | (refine len_isN ?_; assumption))); (focus omega))
        | (apply F_idxZ rfl rfl rfl; exact T.sl37; (focus omega); (focus (first | exact len_nil | (apply len_given; assumption) | (apply len_row; (focus ((repeat (first | exact List.Mem.head _ | refine List.Mem.tail _ ?_)); done))) | (refine len_isN ?_; assumption))); (focus omega))
        | (refine gLoad ?_; (first
            | (apply F_loadAll rfl rfl; (focus ((repeat (first | exact List.Mem.head _ | refine List.Mem.tail _ ?_)); done)); exact T.rw25; (focus (first | exact free0 | exact free1)))
            | (apply F_loadP rfl rfl; (focus ((repeat (first | exact List.Mem.head _ | refine List.Mem.tail _ ?_)); done)); exact T.rw25; (focus ((repeat (first | exact Take.nil | apply Take.here | apply Take.there)); done)); rfl; (focus (first | exact free0 | exact free1)))
            | (apply F_loadSN rfl rfl; exact T.rw25; (focus (first | exact rd_nil | (apply rd_given; (focus assumption); (focus (first | exact freeG0 | exact freeG1))) | (apply rd_row; (focus ((repeat (first | exact List.Mem.head _ | refine List.Mem.tail _ ?_)); done)); (focus (first | exact freeR0 | exact freeR1))))); (focus (first | (focus (apply at_flat; (focus (intro _; rfl)); (focus assumption))) | exact at_self)); rfl; rfl)
            | (apply F_loadSP rfl rfl; exact T.rw25; (focus (first | exact rd_nil | (apply rd_given; (focus assumption); (focus (first | exact freeG0 | exact freeG1))) | (apply rd_row; (focus ((repeat (first | exact List.Mem.head _ | refine List.Mem.tail _ ?_)); done)); (focus (first | exact freeR0 | exact freeR1))))); (focus (apply at_flat; (focus (intro _; rfl)); (focus assumption))); (focus ((repeat (first | exact Take.nil | apply Take.here | apply Take.there)); done)); rfl; rfl)))
        | (refine gCall ?_; (first
            | (apply F_len rfl rfl rfl; (focus exact ⟨_, _, by exact T.sl37⟩); (focus (first | exact len_nil | (apply len_given; assumption) | (apply len_row; (focus ((repeat (first | exact List.Mem.head _ | refine List.Mem.tail _ ?_)); done))) | (refine len_isN ?_; assumption))))))
        | (refine gBin ?_; (first
            | (refine S_lss rfl rfl rfl ?_)
            | (refine S_neq rfl rfl rfl ?_)
            | (refine S_add rfl rfl ?_ rfl ?_; (focus (unfold rng; omega)))
            | (refine S_neqB Try.underlying4 rfl rfl rfl ?_)))
        | (refine S_not rfl rfl ?_)
        | (refine S_done ?_)))
    | (refine gC ?_; (first
        | (refine C_seq ?_)
        | (refine gReg ?_; (first
            | (refine gReg (i := 0) ?_; refine C_plain [(0, 0)] (by kernel_rfl) (s := [⟨0, none, _, _, _⟩]) rfl ?_)
            | (refine gReg (i := 1) ?_; refine C_plain [(0, 0), (1, 0), (2, 0), (3, 0), (4, 0)] (by kernel_rfl) (s := [⟨0, none, _, _, _⟩, ⟨0, none, _, _, _⟩, ⟨0, none, _, _, _⟩, ⟨0, none, _, _, _⟩, ⟨0, none, _, _, _⟩]) rfl ?_)
            | (refine gReg (i := 2) ?_; refine C_plain [(0, 0)] (by kernel_rfl) (s := [⟨0, none, _, _, _⟩]) rfl ?_)
            | (refine gReg (i := 3) ?_; refine C_plain [(0, 0)] (by kernel_rfl) (s := [⟨0, none, _, _, _⟩]) rfl ?_)
            | (refine gReg (i := 4) ?_; refine C_plain [(0, 0), (1, 0), (2, 0), (3, 0)] (by kernel_rfl) (s := [⟨0, none, _, _, _⟩, ⟨0, none, _, _, _⟩, ⟨0, none, _, _, _⟩, ⟨0, none, _, _, _⟩]) rfl ?_)
            | (refine gReg (i := 6) ?_; refine C_drawn [(0, 0), (1, 0), (2, 0), (3, 0), (4, 0), (5, 0), (6, 0), (7, 0), (8, 1), (9, 0)] [] T.mixed (by kernel_rfl) (s := [⟨0, none, _, _, _⟩, ⟨0, none, _, _, _⟩, ⟨0, none, _, _, _⟩, ⟨0, none, _, _, _⟩, ⟨0, none, _, _, _⟩, ⟨0, none, _, _, _⟩, ⟨0, none, _, _, _⟩, ⟨0, none, _, _, _⟩, ⟨1, none, _, _, _⟩, ⟨0, none, _, _, _⟩]) rfl ?_)
            | (refine gReg (i := 7) ?_; refine C_plain [(0, 0)] (by kernel_rfl) (s := [⟨0, none, _, _, _⟩]) rfl ?_)
            | (refine gReg (i := 5) ?_; refine C_plain [(0, 0), (1, 0), (2, 0)] (by kernel_rfl) (s := [⟨0, none, _, _, _⟩, ⟨0, none, _, _, _⟩, ⟨0, none, _, _, _⟩]) rfl ?_)
            | (refine gReg (i := 8) ?_; refine C_plain [(0, 0)] (by kernel_rfl) (s := [⟨0, none, _, _, _⟩]) rfl ?_)))
        | (refine C_true rfl ?_)
        | (refine C_false rfl ?_)
        | (refine C_split rfl ?_ ?_ <;> (intro hb; (try simp only [decide_eq_true_eq] at hb); (try simp only [decide_eq_false_iff_not] at hb); (try simp only [Bool.not_eq_true'] at hb); (try simp only [Bool.not_eq_false'] at hb); (try (exfalso; first | contradiction | omega))))
        | (refine C_skip ?_)
        | (refine C_exit ?_)
        | (refine C_ret ?_)
        | (refine C_block ?_)))
    | (refine gE ?_; (first
        | (refine E_then ?_)
        | (refine E_thenX ?_)
        | (refine E_thenR ?_)
        | (refine E_block ?_)
        | (refine E_blockY ?_)
        | (refine E_blockR ?_)
        | (refine E_calm ?_)
        | (refine E_blockX rfl ?_)
        | (apply E_ret1 rfl; (first | exact Res.tmp rfl | (apply R_cellAll rfl; (focus ((repeat (first | exact List.Mem.head _ | refine List.Mem.tail _ ?_)); done)); exact T.rw25) | (apply R_cell1 rfl; (focus ((repeat (first | exact List.Mem.head _ | refine List.Mem.tail _ ?_)); done)); fail)))
        | (apply E_ret2 rfl; (first | exact Res.tmp rfl | (apply R_cellAll rfl; (focus ((repeat (first | exact List.Mem.head _ | refine List.Mem.tail _ ?_)); done)); exact T.rw25) | (apply R_cell1 rfl; (focus ((repeat (first | exact List.Mem.head _ | refine List.Mem.tail _ ?_)); done)); fail)); (first | exact Res.tmp rfl | (apply R_cellAll rfl; (focus ((repeat (first | exact List.Mem.head _ | refine List.Mem.tail _ ?_)); done)); exact T.rw25) | (apply R_cell1 rfl; (focus ((repeat (first | exact List.Mem.head _ | refine List.Mem.tail _ ?_)); done)); fail)))
        | (apply E_ret3 rfl; (first | exact Res.tmp rfl | (apply R_cellAll rfl; (focus ((repeat (first | exact List.Mem.head _ | refine List.Mem.tail _ ?_)); done)); exact T.rw25) | (apply R_cell1 rfl; (focus ((repeat (first | exact List.Mem.head _ | refine List.Mem.tail _ ?_)); done)); fail)); (first | exact Res.tmp rfl | (apply R_cellAll rfl; (focus ((repeat (first | exact List.Mem.head _ | refine List.Mem.tail _ ?_)); done)); exact T.rw25) | (apply R_cell1 rfl; (focus ((repeat (first | exact List.Mem.head _ | refine List.Mem.tail _ ?_)); done)); fail)); (first | exact Res.tmp rfl | (apply R_cellAll rfl; (focus ((repeat (first | exact List.Mem.head _ | refine List.Mem.tail _ ?_)); done)); exact T.rw25) | (apply R_cell1 rfl; (focus ((repeat (first | exact List.Mem.head _ | refine List.Mem.tail _ ?_)); done)); fail))))))
  · refine retN ?_
    have : l ≠ m := fun e => by
      have := congrArg List.length e
      (try simp only [List.length_map] at this)
      omega
    simp [this]
  have hl : l.length = m.length := by omega
  refine C_loop (α := Nat) (fun k => [(5, .int .i64 (k : Int)), (0, v), (1, u)]) (fun _ => []) (fun k => k ≤ l.length ∧ l.take k = m.take k) (fun k => l.length - k) 0 ⟨by omega, rfl⟩ ⟨rfl, rfl, rfl, trivial⟩ (List.Sublist.refl _) ?_
  rintro k ⟨hk, ha⟩
  have hp : (k : Int) < (l.length : Int) → m[k]? = some (ix m k) := fun h => nthD (by omega)
  try dsimp only
  repeat' (first
    | (refine gS ?_; (first
        | (refine S_move rfl rfl ?_)
        | (refine S_assign rfl rfl ?_)
        | (apply F_idx rfl rfl rfl; exact T.sl37; (focus rfl); (focus (first | exact len_nil | (apply len_given; assumption) | (apply len_row; (focus ((repeat (first | exact List.Mem.head _ | refine List.Mem.tail _ ?_)); done))) | (refine len_isN ?_; assumption))); (focus omega))
        | (apply F_idxZ rfl rfl rfl; exact T.sl37; (focus omega); (focus (first | exact len_nil | (apply len_given; assumption) | (apply len_row; (focus ((repeat (first | exact List.Mem.head _ | refine List.Mem.tail _ ?_)); done))) | (refine len_isN ?_; assumption))); (focus omega))
        | (refine gLoad ?_; (first
            | (apply F_loadAll rfl rfl; (focus ((repeat (first | exact List.Mem.head _ | refine List.Mem.tail _ ?_)); done)); exact T.rw25; (focus (first | exact free0 | exact free1)))
            | (apply F_loadP rfl rfl; (focus ((repeat (first | exact List.Mem.head _ | refine List.Mem.tail _ ?_)); done)); exact T.rw25; (focus ((repeat (first | exact Take.nil | apply Take.here | apply Take.there)); done)); rfl; (focus (first | exact free0 | exact free1)))
            | (apply F_loadSN rfl rfl; exact T.rw25; (focus (first | exact rd_nil | (apply rd_given; (focus assumption); (focus (first | exact freeG0 | exact freeG1))) | (apply rd_row; (focus ((repeat (first | exact List.Mem.head _ | refine List.Mem.tail _ ?_)); done)); (focus (first | exact freeR0 | exact freeR1))))); (focus (first | (focus (apply at_flat; (focus (intro _; rfl)); (focus assumption))) | exact at_self)); rfl; rfl)
            | (apply F_loadSP rfl rfl; exact T.rw25; (focus (first | exact rd_nil | (apply rd_given; (focus assumption); (focus (first | exact freeG0 | exact freeG1))) | (apply rd_row; (focus ((repeat (first | exact List.Mem.head _ | refine List.Mem.tail _ ?_)); done)); (focus (first | exact freeR0 | exact freeR1))))); (focus (apply at_flat; (focus (intro _; rfl)); (focus assumption))); (focus ((repeat (first | exact Take.nil | apply Take.here | apply Take.there)); done)); rfl; rfl)))
        | (refine gCall ?_; (first
            | (refine S_callN (f := 23) rfl T.pf23 rfl (fun w hst => eqNetPrefix_c _ _ w) rfl ?_)
            | (apply F_len rfl rfl rfl; (focus exact ⟨_, _, by exact T.sl37⟩); (focus (first | exact len_nil | (apply len_given; assumption) | (apply len_row; (focus ((repeat (first | exact List.Mem.head _ | refine List.Mem.tail _ ?_)); done))) | (refine len_isN ?_; assumption))))))
        | (refine gBin ?_; (first
            | (refine S_lss rfl rfl rfl ?_)
            | (refine S_neq rfl rfl rfl ?_)
            | (refine S_add rfl rfl ?_ rfl ?_; (focus (unfold rng; omega)))
            | (refine S_neqB Try.underlying4 rfl rfl rfl ?_)))
        | (refine S_not rfl rfl ?_)
        | (refine S_done ?_)))
    | (refine gC ?_; (first
        | (refine C_seq ?_)
        | (refine gReg ?_; (first
            | (refine gReg (i := 0) ?_; refine C_plain [(0, 0)] (by kernel_rfl) (s := [⟨0, none, _, _, _⟩]) rfl ?_)
            | (refine gReg (i := 1) ?_; refine C_plain [(0, 0), (1, 0), (2, 0), (3, 0), (4, 0)] (by kernel_rfl) (s := [⟨0, none, _, _, _⟩, ⟨0, none, _, _, _⟩, ⟨0, none, _, _, _⟩, ⟨0, none, _, _, _⟩, ⟨0, none, _, _, _⟩]) rfl ?_)
            | (refine gReg (i := 2) ?_; refine C_plain [(0, 0)] (by kernel_rfl) (s := [⟨0, none, _, _, _⟩]) rfl ?_)
            | (refine gReg (i := 3) ?_; refine C_plain [(0, 0)] (by kernel_rfl) (s := [⟨0, none, _, _, _⟩]) rfl ?_)
            | (refine gReg (i := 4) ?_; refine C_plain [(0, 0), (1, 0), (2, 0), (3, 0)] (by kernel_rfl) (s := [⟨0, none, _, _, _⟩, ⟨0, none, _, _, _⟩, ⟨0, none, _, _, _⟩, ⟨0, none, _, _, _⟩]) rfl ?_)
            | (refine gReg (i := 6) ?_; refine C_drawn [(0, 0), (1, 0), (2, 0), (3, 0), (4, 0), (5, 0), (6, 0), (7, 0), (8, 1), (9, 0)] [] T.mixed (by kernel_rfl) (s := [⟨0, none, _, _, _⟩, ⟨0, none, _, _, _⟩, ⟨0, none, _, _, _⟩, ⟨0, none, _, _, _⟩, ⟨0, none, _, _, _⟩, ⟨0, none, _, _, _⟩, ⟨0, none, _, _, _⟩, ⟨0, none, _, _, _⟩, ⟨1, none, _, _, _⟩, ⟨0, none, _, _, _⟩]) rfl ?_)
            | (refine gReg (i := 7) ?_; refine C_plain [(0, 0)] (by kernel_rfl) (s := [⟨0, none, _, _, _⟩]) rfl ?_)
            | (refine gReg (i := 5) ?_; refine C_plain [(0, 0), (1, 0), (2, 0)] (by kernel_rfl) (s := [⟨0, none, _, _, _⟩, ⟨0, none, _, _, _⟩, ⟨0, none, _, _, _⟩]) rfl ?_)
            | (refine gReg (i := 8) ?_; refine C_plain [(0, 0)] (by kernel_rfl) (s := [⟨0, none, _, _, _⟩]) rfl ?_)))
        | (refine C_true rfl ?_)
        | (refine C_false rfl ?_)
        | (refine C_split rfl ?_ ?_ <;> (intro hb; (try simp only [decide_eq_true_eq] at hb); (try simp only [decide_eq_false_iff_not] at hb); (try simp only [Bool.not_eq_true'] at hb); (try simp only [Bool.not_eq_false'] at hb); (try (exfalso; first | contradiction | omega)); (try (have hx := nthD (l := l) (k := k) hb)); (try (have hx' := hp hb))))
        | (refine C_skip ?_)
        | (refine C_exit ?_)
        | (refine C_ret ?_)
        | (refine C_block ?_)))
    | (refine gE ?_; (first
        | (refine E_then ?_)
        | (refine E_thenX ?_)
        | (refine E_thenR ?_)
        | (refine E_block ?_)
        | (refine E_blockY ?_)
        | (refine E_blockR ?_)
        | (refine E_calm ?_)
        | (refine E_blockX rfl ?_)
        | (apply E_ret1 rfl; (first | exact Res.tmp rfl | (apply R_cellAll rfl; (focus ((repeat (first | exact List.Mem.head _ | refine List.Mem.tail _ ?_)); done)); exact T.rw25) | (apply R_cell1 rfl; (focus ((repeat (first | exact List.Mem.head _ | refine List.Mem.tail _ ?_)); done)); fail)))
        | (apply E_ret2 rfl; (first | exact Res.tmp rfl | (apply R_cellAll rfl; (focus ((repeat (first | exact List.Mem.head _ | refine List.Mem.tail _ ?_)); done)); exact T.rw25) | (apply R_cell1 rfl; (focus ((repeat (first | exact List.Mem.head _ | refine List.Mem.tail _ ?_)); done)); fail)); (first | exact Res.tmp rfl | (apply R_cellAll rfl; (focus ((repeat (first | exact List.Mem.head _ | refine List.Mem.tail _ ?_)); done)); exact T.rw25) | (apply R_cell1 rfl; (focus ((repeat (first | exact List.Mem.head _ | refine List.Mem.tail _ ?_)); done)); fail)))
        | (apply E_ret3 rfl; (first | exact Res.tmp rfl | (apply R_cellAll rfl; (focus ((repeat (first | exact List.Mem.head _ | refine List.Mem.tail _ ?_)); done)); exact T.rw25) | (apply R_cell1 rfl; (focus ((repeat (first | exact List.Mem.head _ | refine List.Mem.tail _ ?_)); done)); fail)); (first | exact Res.tmp rfl | (apply R_cellAll rfl; (focus ((repeat (first | exact List.Mem.head _ | refine List.Mem.tail _ ?_)); done)); exact T.rw25) | (apply R_cell1 rfl; (focus ((repeat (first | exact List.Mem.head _ | refine List.Mem.tail _ ?_)); done)); fail)); (first | exact Res.tmp rfl | (apply R_cellAll rfl; (focus ((repeat (first | exact List.Mem.head _ | refine List.Mem.tail _ ?_)); done)); exact T.rw25) | (apply R_cell1 rfl; (focus ((repeat (first | exact List.Mem.head _ | refine List.Mem.tail _ ?_)); done)); fail))))))
  · refine retN ?_
    have hb : decide (ix l k = ix m k) = false := by first | assumption | (simp only [decide_eq_false_iff_not]; assumption) | (simp only [decide_eq_false_iff_not]; intro h; simp_all)
    have : l ≠ m := fun e => by subst e; simp at hb
    simp [this]
  · refine E_round (α := Nat) (k + 1) ?_ ?_ ?_ ?_
    · have hb : ix l k = ix m k := by first | exact of_decide_eq_true (by assumption) | omega | simp_all
      exact ⟨by omega, by rw [take_snoc hx, take_snoc hx', ha, hb]⟩
    · omega
    · exact ⟨rfl, rfl, rfl, trivial⟩
    · exact List.nil_sublist _
  · refine retN ?_
    have e : k = l.length := by omega
    subst e
    have : l = m := by rw [List.take_length, hl, List.take_length] at ha; exact ha
    simp [this]
theorem markSNetPrefix_c (x : MSNetPrefix) (k : Int) (hk : 0 ≤ k) (hb : k + (mkSNetPrefix (x.2) : Nat) ≤ 4611686018427387904) {w0 : World} (R : List Blk) (w : World) (hs : St w0 w ([.many (rwSNetPrefix x)] ++ R)) : Calls Try.prog 34 #[x.1, .int .i64 k] w (RetS w0 R (fun y : List MNetPrefix => y.length = x.2.length ∧ hdSNetPrefix (y) k ∧ mkSNetPrefix (y) = mkSNetPrefix (x.2)) (fun _ => .int .i64 (k + (mkSNetPrefix (x.2) : Nat))) (fun y => [.many (rwSNetPrefix (x.1, y))])) := by
  obtain ⟨v, l⟩ := x
  dsimp only at *
  have hs' : St w0 w (.row v 25 2 l.length (l.flatMap clNetPrefix) :: R) := (show Ent w0 _ _ from by (focus (apply Ent.flat; (simp only [List.length_append, List.length_cons, List.length_nil, Nat.zero_add, flat_many, flat_row, flat_blk, flat_append, flat_nil, List.map_append, List.map_cons, List.map_nil, List.flatMap_append, List.flatMap_cons, List.flatMap_nil, List.append_assoc, List.append_nil, List.nil_append, List.cons_append, Row.blk_mk, rwSNetPrefix, rwSuint8]); ((repeat (first | exact Pull.nil | (apply Pull.app; (focus ((repeat (first | exact PickA.here | exact PickA.all | apply PickA.there | apply PickA.over)); done))) | (apply Pull.cons; (focus ((repeat (first | exact Pick.here | exact Pick.last | apply Pick.there | apply Pick.over)); done))) | (apply Pull.atom; (focus ((repeat (first | exact PickA.here | exact PickA.all | apply PickA.there | apply PickA.over)); done))))); done)))) _ hs
  have hlen : l.length ≤ maxLen := (Mem.row hs' (by (focus ((repeat (first | exact List.Mem.head _ | refine List.Mem.tail _ ?_)); done)))).len
  simp only [maxLen] at hlen
  refine enterS (n := 27) (E := [(0, _), (1, _)]) Try.func34 rfl rfl rfl rfl hs' ?_
  repeat' (first
    | (refine gS ?_; (first
        | (refine S_move rfl rfl ?_)
        | (refine S_assign rfl rfl ?_)
        | (apply F_field rfl rfl; (first | exact T.fl25_0 | exact T.fl25_1))
        | (apply F_fieldS rfl rfl; (first | exact T.fl25_0 | exact T.fl25_1); (focus (first | exact len_nil | (apply len_given; assumption) | (apply len_row; (focus ((repeat (first | exact List.Mem.head _ | refine List.Mem.tail _ ?_)); done))) | (refine len_isN ?_; assumption))); (focus omega))
        | (apply F_idx rfl rfl rfl; exact T.sl37; (focus rfl); (focus (first | exact len_nil | (apply len_given; assumption) | (apply len_row; (focus ((repeat (first | exact List.Mem.head _ | refine List.Mem.tail _ ?_)); done))) | (refine len_isN ?_; assumption))); (focus omega))
        | (apply F_idxZ rfl rfl rfl; exact T.sl37; (focus omega); (focus (first | exact len_nil | (apply len_given; assumption) | (apply len_row; (focus ((repeat (first | exact List.Mem.head _ | refine List.Mem.tail _ ?_)); done))) | (refine len_isN ?_; assumption))); (focus omega))
        | (refine gStore ?_; (first
            | (apply F_store1 rfl rfl; (focus (first | rfl | assumption)); exact T.sc3; (focus ((repeat (first | exact Upd.here | apply Upd.there)); done)); (focus ((repeat (first | exact SetSeg.nil | apply SetSeg.here | apply SetSeg.there)); done)); (first | exact okst2 | exact okst1 | exact okst1'))
            | (apply F_storeM0 rfl rfl; (focus ((repeat (first | exact Upd.here | apply Upd.there)); done)); (focus assumption); exact T.sc3; (focus (first | rfl | assumption)); (focus ((repeat (first | exact SetSeg.nil | apply SetSeg.here | apply SetSeg.there)); done)); (focus omega); (first | exact okst2 | exact okst1 | exact okst1'))
            | (apply F_storeM1 rfl rfl; (focus ((repeat (first | exact Upd.here | apply Upd.there)); done)); (focus assumption); exact T.sc3; (focus (first | rfl | assumption)); (focus ((repeat (first | exact SetSeg.nil | apply SetSeg.here | apply SetSeg.there)); done)); (focus omega); (first | exact okst2 | exact okst1 | exact okst1'))
            | (apply F_storeS1 rfl rfl; (focus ((repeat (first | exact Upd.here | apply Upd.there)); done)); exact T.sc3; (focus (first | rfl | assumption)); (focus omega); (first | exact okst2 | exact okst1 | exact okst1'))))
        | (refine gCall ?_; (first
            | (apply F_len rfl rfl rfl; (focus exact ⟨_, _, by exact T.sl37⟩); (focus (first | exact len_nil | (apply len_given; assumption) | (apply len_row; (focus ((repeat (first | exact List.Mem.head _ | refine List.Mem.tail _ ?_)); done))) | (refine len_isN ?_; assumption))))))
        | (refine gBin ?_; (first
            | (refine S_lss rfl rfl rfl ?_)
            | (refine S_add rfl rfl ?_ rfl ?_; (focus (unfold rng; omega)))))
        | (refine S_done ?_)))
    | (refine gC ?_; (first
        | (refine C_seq ?_)
        | (refine gReg ?_; (first
            | (refine gReg (i := 0) ?_; refine C_plain [(0, 0)] (by kernel_rfl) (s := [⟨0, none, _, _, _⟩]) rfl ?_)
            | (refine gReg (i := 1) ?_; refine C_plain [(0, 0)] (by kernel_rfl) (s := [⟨0, none, _, _, _⟩]) rfl ?_)
            | (refine gReg (i := 2) ?_; refine C_plain [(0, 0), (1, 0), (2, 0), (3, 0)] (by kernel_rfl) (s := [⟨0, none, _, _, _⟩, ⟨0, none, _, _, _⟩, ⟨0, none, _, _, _⟩, ⟨0, none, _, _, _⟩]) rfl ?_)
            | (refine gReg (i := 4) ?_; refine C_plain [(0, 0), (1, 0), (2, 0), (3, 0), (4, 0), (5, 2)] (by kernel_rfl) (s := [⟨0, none, _, _, _⟩, ⟨0, none, _, _, _⟩, ⟨0, none, _, _, _⟩, ⟨0, none, _, _, _⟩, ⟨0, none, _, _, _⟩, ⟨2, none, _, _, _⟩]) rfl ?_)
            | (refine gReg (i := 5) ?_; refine C_plain [(0, 0), (1, 0), (2, 0)] (by kernel_rfl) (s := [⟨0, none, _, _, _⟩, ⟨0, none, _, _, _⟩, ⟨0, none, _, _, _⟩]) rfl ?_)
            | (refine gReg (i := 6) ?_; refine C_plain [(0, 0), (1, 0), (2, 0), (3, 0), (4, 0), (5, 2)] (by kernel_rfl) (s := [⟨0, none, _, _, _⟩, ⟨0, none, _, _, _⟩, ⟨0, none, _, _, _⟩, ⟨0, none, _, _, _⟩, ⟨0, none, _, _, _⟩, ⟨2, none, _, _, _⟩]) rfl ?_)
            | (refine gReg (i := 7) ?_; refine C_plain [(0, 0), (1, 0), (2, 0)] (by kernel_rfl) (s := [⟨0, none, _, _, _⟩, ⟨0, none, _, _, _⟩, ⟨0, none, _, _, _⟩]) rfl ?_)
            | (refine gReg (i := 3) ?_; refine C_plain [(0, 0), (1, 0), (2, 0)] (by kernel_rfl) (s := [⟨0, none, _, _, _⟩, ⟨0, none, _, _, _⟩, ⟨0, none, _, _, _⟩]) rfl ?_)
            | (refine gReg (i := 8) ?_; refine C_plain [(0, 0), (1, 0)] (by kernel_rfl) (s := [⟨0, none, _, _, _⟩, ⟨0, none, _, _, _⟩]) rfl ?_)))
        | (refine C_true rfl ?_)
        | (refine C_false rfl ?_)
        | (refine C_split rfl ?_ ?_ <;> (intro hb; (try simp only [decide_eq_true_eq] at hb); (try simp only [decide_eq_false_iff_not] at hb); (try simp only [Bool.not_eq_true'] at hb); (try simp only [Bool.not_eq_false'] at hb); (try (exfalso; first | contradiction | omega))))
        | (refine C_skip ?_)
        | (refine C_exit ?_)
        | (refine C_ret ?_)
        | (refine C_block ?_)))
    | (refine gE ?_; (first
        | (refine E_then ?_)
        | (refine E_thenX ?_)
        | (refine E_thenR ?_)
        | (refine E_block ?_)
        | (refine E_blockY ?_)
        | (refine E_blockR ?_)
        | (refine E_calm ?_)
        | (refine E_blockX rfl ?_)
        | (apply E_ret1 rfl; (first | exact Res.tmp rfl | (apply R_cellAll rfl; (focus ((repeat (first | exact List.Mem.head _ | refine List.Mem.tail _ ?_)); done)); fail) | (apply R_cell1 rfl; (focus ((repeat (first | exact List.Mem.head _ | refine List.Mem.tail _ ?_)); done)); exact T.sc3)))
        | (apply E_ret2 rfl; (first | exact Res.tmp rfl | (apply R_cellAll rfl; (focus ((repeat (first | exact List.Mem.head _ | refine List.Mem.tail _ ?_)); done)); fail) | (apply R_cell1 rfl; (focus ((repeat (first | exact List.Mem.head _ | refine List.Mem.tail _ ?_)); done)); exact T.sc3)); (first | exact Res.tmp rfl | (apply R_cellAll rfl; (focus ((repeat (first | exact List.Mem.head _ | refine List.Mem.tail _ ?_)); done)); fail) | (apply R_cell1 rfl; (focus ((repeat (first | exact List.Mem.head _ | refine List.Mem.tail _ ?_)); done)); exact T.sc3)))
        | (apply E_ret3 rfl; (first | exact Res.tmp rfl | (apply R_cellAll rfl; (focus ((repeat (first | exact List.Mem.head _ | refine List.Mem.tail _ ?_)); done)); fail) | (apply R_cell1 rfl; (focus ((repeat (first | exact List.Mem.head _ | refine List.Mem.tail _ ?_)); done)); exact T.sc3)); (first | exact Res.tmp rfl | (apply R_cellAll rfl; (focus ((repeat (first | exact List.Mem.head _ | refine List.Mem.tail _ ?_)); done)); fail) | (apply R_cell1 rfl; (focus ((repeat (first | exact List.Mem.head _ | refine List.Mem.tail _ ?_)); done)); exact T.sc3)); (first | exact Res.tmp rfl | (apply R_cellAll rfl; (focus ((repeat (first | exact List.Mem.head _ | refine List.Mem.tail _ ?_)); done)); fail) | (apply R_cell1 rfl; (focus ((repeat (first | exact List.Mem.head _ | refine List.Mem.tail _ ?_)); done)); exact T.sc3))))))
  refine C_loop (α := Nat × List MNetPrefix × List MNetPrefix × Int) (fun s => [(5, .int .i64 (s.1 : Int)), (1, .int .i64 s.2.2.2), (0, v)]) (fun s => .row v 25 2 l.length (s.2.1.flatMap clNetPrefix ++ s.2.2.1.flatMap clNetPrefix) :: R) (fun s => s.2.1.length = s.1 ∧ s.1 + s.2.2.1.length = l.length ∧ s.2.2.2 = k + (mkSNetPrefix (s.2.1) : Nat) ∧ mkSNetPrefix (s.2.1) + mkSNetPrefix (s.2.2.1) = mkSNetPrefix (l) ∧ hdSNetPrefix (s.2.1) k) (fun s => l.length - s.1) (0, [], l, k) ⟨rfl, by simp, by simp [mkSNetPrefix], by simp [mkSNetPrefix], trivial⟩ ⟨rfl, rfl, rfl, trivial⟩ (List.Sublist.refl _) ?_
  rintro ⟨i, dn, rest, kc⟩ ⟨hdn, hrest, hkc, hmk, hhd⟩
  dsimp only at *
  cases rest with
  | nil =>
    have hi : i = l.length := by simpa using hrest
    subst hi
    repeat' (first
      | (refine gS ?_; (first
          | (refine S_move rfl rfl ?_)
          | (refine S_assign rfl rfl ?_)
          | (apply F_field rfl rfl; (first | exact T.fl25_0 | exact T.fl25_1))
          | (apply F_fieldS rfl rfl; (first | exact T.fl25_0 | exact T.fl25_1); (focus (first | exact len_nil | (apply len_given; assumption) | (apply len_row; (focus ((repeat (first | exact List.Mem.head _ | refine List.Mem.tail _ ?_)); done))) | (refine len_isN ?_; assumption))); (focus omega))
          | (apply F_idx rfl rfl rfl; exact T.sl37; (focus rfl); (focus (first | exact len_nil | (apply len_given; assumption) | (apply len_row; (focus ((repeat (first | exact List.Mem.head _ | refine List.Mem.tail _ ?_)); done))) | (refine len_isN ?_; assumption))); (focus omega))
          | (apply F_idxZ rfl rfl rfl; exact T.sl37; (focus omega); (focus (first | exact len_nil | (apply len_given; assumption) | (apply len_row; (focus ((repeat (first | exact List.Mem.head _ | refine List.Mem.tail _ ?_)); done))) | (refine len_isN ?_; assumption))); (focus omega))
          | (refine gStore ?_; (first
              | (apply F_store1 rfl rfl; (focus (first | rfl | assumption)); exact T.sc3; (focus ((repeat (first | exact Upd.here | apply Upd.there)); done)); (focus ((repeat (first | exact SetSeg.nil | apply SetSeg.here | apply SetSeg.there)); done)); (first | exact okst2 | exact okst1 | exact okst1'))
              | (apply F_storeM0 rfl rfl; (focus ((repeat (first | exact Upd.here | apply Upd.there)); done)); (focus assumption); exact T.sc3; (focus (first | rfl | assumption)); (focus ((repeat (first | exact SetSeg.nil | apply SetSeg.here | apply SetSeg.there)); done)); (focus omega); (first | exact okst2 | exact okst1 | exact okst1'))
              | (apply F_storeM1 rfl rfl; (focus ((repeat (first | exact Upd.here | apply Upd.there)); done)); (focus assumption); exact T.sc3; (focus (first | rfl | assumption)); (focus ((repeat (first | exact SetSeg.nil | apply SetSeg.here | apply SetSeg.there)); done)); (focus omega); (first | exact okst2 | exact okst1 | exact okst1'))
              | (apply F_storeS1 rfl rfl; (focus ((repeat (first | exact Upd.here | apply Upd.there)); done)); exact T.sc3; (focus (first | rfl | assumption)); (focus omega); (first | exact okst2 | exact okst1 | exact okst1'))))
          | (refine gCall ?_; (first
              | (apply F_len rfl rfl rfl; (focus exact ⟨_, _, by exact T.sl37⟩); (focus (first | exact len_nil | (apply len_given; assumption) | (apply len_row; (focus ((repeat (first | exact List.Mem.head _ | refine List.Mem.tail _ ?_)); done))) | (refine len_isN ?_; assumption))))))
          | (refine gBin ?_; (first
              | (refine S_lss rfl rfl rfl ?_)
              | (refine S_add rfl rfl ?_ rfl ?_; (focus (unfold rng; omega)))))
          | (refine S_done ?_)))
      | (refine gC ?_; (first
          | (refine C_seq ?_)
          | (refine gReg ?_; (first
              | (refine gReg (i := 0) ?_; refine C_plain [(0, 0)] (by kernel_rfl) (s := [⟨0, none, _, _, _⟩]) rfl ?_)
              | (refine gReg (i := 1) ?_; refine C_plain [(0, 0)] (by kernel_rfl) (s := [⟨0, none, _, _, _⟩]) rfl ?_)
              | (refine gReg (i := 2) ?_; refine C_plain [(0, 0), (1, 0), (2, 0), (3, 0)] (by kernel_rfl) (s := [⟨0, none, _, _, _⟩, ⟨0, none, _, _, _⟩, ⟨0, none, _, _, _⟩, ⟨0, none, _, _, _⟩]) rfl ?_)
              | (refine gReg (i := 4) ?_; refine C_plain [(0, 0), (1, 0), (2, 0), (3, 0), (4, 0), (5, 2)] (by kernel_rfl) (s := [⟨0, none, _, _, _⟩, ⟨0, none, _, _, _⟩, ⟨0, none, _, _, _⟩, ⟨0, none, _, _, _⟩, ⟨0, none, _, _, _⟩, ⟨2, none, _, _, _⟩]) rfl ?_)
              | (refine gReg (i := 5) ?_; refine C_plain [(0, 0), (1, 0), (2, 0)] (by kernel_rfl) (s := [⟨0, none, _, _, _⟩, ⟨0, none, _, _, _⟩, ⟨0, none, _, _, _⟩]) rfl ?_)
              | (refine gReg (i := 6) ?_; refine C_plain [(0, 0), (1, 0), (2, 0), (3, 0), (4, 0), (5, 2)] (by kernel_rfl) (s := [⟨0, none, _, _, _⟩, ⟨0, none, _, _, _⟩, ⟨0, none, _, _, _⟩, ⟨0, none, _, _, _⟩, ⟨0, none, _, _, _⟩, ⟨2, none, _, _, _⟩]) rfl ?_)
              | (refine gReg (i := 7) ?_; refine C_plain [(0, 0), (1, 0), (2, 0)] (by kernel_rfl) (s := [⟨0, none, _, _, _⟩, ⟨0, none, _, _, _⟩, ⟨0, none, _, _, _⟩]) rfl ?_)
              | (refine gReg (i := 3) ?_; refine C_plain [(0, 0), (1, 0), (2, 0)] (by kernel_rfl) (s := [⟨0, none, _, _, _⟩, ⟨0, none, _, _, _⟩, ⟨0, none, _, _, _⟩]) rfl ?_)
              | (refine gReg (i := 8) ?_; refine C_plain [(0, 0), (1, 0)] (by kernel_rfl) (s := [⟨0, none, _, _, _⟩, ⟨0, none, _, _, _⟩]) rfl ?_)))
          | (refine C_true rfl ?_)
          | (refine C_false rfl ?_)
          | (refine C_split rfl ?_ ?_ <;> (intro hb; (try simp only [decide_eq_true_eq] at hb); (try simp only [decide_eq_false_iff_not] at hb); (try simp only [Bool.not_eq_true'] at hb); (try simp only [Bool.not_eq_false'] at hb); (try (exfalso; first | contradiction | omega))))
          | (refine C_skip ?_)
          | (refine C_exit ?_)
          | (refine C_ret ?_)
          | (refine C_block ?_)))
      | (refine gE ?_; (first
          | (refine E_then ?_)
          | (refine E_thenX ?_)
          | (refine E_thenR ?_)
          | (refine E_block ?_)
          | (refine E_blockY ?_)
          | (refine E_blockR ?_)
          | (refine E_calm ?_)
          | (refine E_blockX rfl ?_)
          | (apply E_ret1 rfl; (first | exact Res.tmp rfl | (apply R_cellAll rfl; (focus ((repeat (first | exact List.Mem.head _ | refine List.Mem.tail _ ?_)); done)); fail) | (apply R_cell1 rfl; (focus ((repeat (first | exact List.Mem.head _ | refine List.Mem.tail _ ?_)); done)); exact T.sc3)))
          | (apply E_ret2 rfl; (first | exact Res.tmp rfl | (apply R_cellAll rfl; (focus ((repeat (first | exact List.Mem.head _ | refine List.Mem.tail _ ?_)); done)); fail) | (apply R_cell1 rfl; (focus ((repeat (first | exact List.Mem.head _ | refine List.Mem.tail _ ?_)); done)); exact T.sc3)); (first | exact Res.tmp rfl | (apply R_cellAll rfl; (focus ((repeat (first | exact List.Mem.head _ | refine List.Mem.tail _ ?_)); done)); fail) | (apply R_cell1 rfl; (focus ((repeat (first | exact List.Mem.head _ | refine List.Mem.tail _ ?_)); done)); exact T.sc3)))
          | (apply E_ret3 rfl; (first | exact Res.tmp rfl | (apply R_cellAll rfl; (focus ((repeat (first | exact List.Mem.head _ | refine List.Mem.tail _ ?_)); done)); fail) | (apply R_cell1 rfl; (focus ((repeat (first | exact List.Mem.head _ | refine List.Mem.tail _ ?_)); done)); exact T.sc3)); (first | exact Res.tmp rfl | (apply R_cellAll rfl; (focus ((repeat (first | exact List.Mem.head _ | refine List.Mem.tail _ ?_)); done)); fail) | (apply R_cell1 rfl; (focus ((repeat (first | exact List.Mem.head _ | refine List.Mem.tail _ ?_)); done)); exact T.sc3)); (first | exact Res.tmp rfl | (apply R_cellAll rfl; (focus ((repeat (first | exact List.Mem.head _ | refine List.Mem.tail _ ?_)); done)); fail) | (apply R_cell1 rfl; (focus ((repeat (first | exact List.Mem.head _ | refine List.Mem.tail _ ?_)); done)); exact T.sc3))))))
    have hmk' : mkSNetPrefix (dn) = mkSNetPrefix (l) := by simpa [mkSNetPrefix] using hmk
    refine retS dn ⟨hdn, hhd, hmk'⟩ ?_ ?_
    · congr 1; rw [hkc, hmk']
    · rw [← hdn]; exact (by (focus (apply Ent.flat; (simp only [List.length_append, List.length_cons, List.length_nil, Nat.zero_add, flat_many, flat_row, flat_blk, flat_append, flat_nil, List.map_append, List.map_cons, List.map_nil, List.flatMap_append, List.flatMap_cons, List.flatMap_nil, List.append_assoc, List.append_nil, List.nil_append, List.cons_append, Row.blk_mk, rwSNetPrefix, rwSuint8]); ((repeat (first | exact Pull.nil | (apply Pull.app; (focus ((repeat (first | exact PickA.here | exact PickA.all | apply PickA.there | apply PickA.over)); done))) | (apply Pull.cons; (focus ((repeat (first | exact Pick.here | exact Pick.last | apply Pick.there | apply Pick.over)); done))) | (apply Pull.atom; (focus ((repeat (first | exact PickA.here | exact PickA.all | apply PickA.there | apply PickA.over)); done))))); done))))
  | cons x rest =>
    have hlt : i < l.length := by simp at hrest; omega
    have hA : (dn.flatMap clNetPrefix).length = i * 2 := by rw [flat_len (m := 2) (fun _ => rfl), hdn]
    have hmx : mkSNetPrefix (x :: rest) = mkFSNetPrefix x + mkSNetPrefix (rest) := by simp only [mkSNetPrefix, List.map_cons, List.sum_cons]
    have hme : mkFSNetPrefix x = 2 := rfl
    rw [List.flatMap_cons]
    repeat' (first
      | (refine gS ?_; (first
          | (refine S_move rfl rfl ?_)
          | (refine S_assign rfl rfl ?_)
          | (apply F_field rfl rfl; (first | exact T.fl25_0 | exact T.fl25_1))
          | (apply F_fieldS rfl rfl; (first | exact T.fl25_0 | exact T.fl25_1); (focus (first | exact len_nil | (apply len_given; assumption) | (apply len_row; (focus ((repeat (first | exact List.Mem.head _ | refine List.Mem.tail _ ?_)); done))) | (refine len_isN ?_; assumption))); (focus omega))
          | (apply F_idx rfl rfl rfl; exact T.sl37; (focus rfl); (focus (first | exact len_nil | (apply len_given; assumption) | (apply len_row; (focus ((repeat (first | exact List.Mem.head _ | refine List.Mem.tail _ ?_)); done))) | (refine len_isN ?_; assumption))); (focus omega))
          | (apply F_idxZ rfl rfl rfl; exact T.sl37; (focus omega); (focus (first | exact len_nil | (apply len_given; assumption) | (apply len_row; (focus ((repeat (first | exact List.Mem.head _ | refine List.Mem.tail _ ?_)); done))) | (refine len_isN ?_; assumption))); (focus omega))
          | (refine gStore ?_; (first
              | (apply F_store1 rfl rfl; (focus (first | rfl | assumption)); exact T.sc3; (focus ((repeat (first | exact Upd.here | apply Upd.there)); done)); (focus ((repeat (first | exact SetSeg.nil | apply SetSeg.here | apply SetSeg.there)); done)); (first | exact okst2 | exact okst1 | exact okst1'))
              | (apply F_storeM0 rfl rfl; (focus ((repeat (first | exact Upd.here | apply Upd.there)); done)); (focus assumption); exact T.sc3; (focus (first | rfl | assumption)); (focus ((repeat (first | exact SetSeg.nil | apply SetSeg.here | apply SetSeg.there)); done)); (focus omega); (first | exact okst2 | exact okst1 | exact okst1'))
              | (apply F_storeM1 rfl rfl; (focus ((repeat (first | exact Upd.here | apply Upd.there)); done)); (focus assumption); exact T.sc3; (focus (first | rfl | assumption)); (focus ((repeat (first | exact SetSeg.nil | apply SetSeg.here | apply SetSeg.there)); done)); (focus omega); (first | exact okst2 | exact okst1 | exact okst1'))
              | (apply F_storeS1 rfl rfl; (focus ((repeat (first | exact Upd.here | apply Upd.there)); done)); exact T.sc3; (focus (first | rfl | assumption)); (focus omega); (first | exact okst2 | exact okst1 | exact okst1'))))
          | (refine gCall ?_; (first
              | (apply F_len rfl rfl rfl; (focus exact ⟨_, _, by exact T.sl37⟩); (focus (first | exact len_nil | (apply len_given; assumption) | (apply len_row; (focus ((repeat (first | exact List.Mem.head _ | refine List.Mem.tail _ ?_)); done))) | (refine len_isN ?_; assumption))))))
          | (refine gBin ?_; (first
              | (refine S_lss rfl rfl rfl ?_)
              | (refine S_add rfl rfl ?_ rfl ?_; (focus (unfold rng; omega)))))
          | (refine S_done ?_)))
      | (refine gC ?_; (first
          | (refine C_seq ?_)
          | (refine gReg ?_; (first
              | (refine gReg (i := 0) ?_; refine C_plain [(0, 0)] (by kernel_rfl) (s := [⟨0, none, _, _, _⟩]) rfl ?_)
              | (refine gReg (i := 1) ?_; refine C_plain [(0, 0)] (by kernel_rfl) (s := [⟨0, none, _, _, _⟩]) rfl ?_)
              | (refine gReg (i := 2) ?_; refine C_plain [(0, 0), (1, 0), (2, 0), (3, 0)] (by kernel_rfl) (s := [⟨0, none, _, _, _⟩, ⟨0, none, _, _, _⟩, ⟨0, none, _, _, _⟩, ⟨0, none, _, _, _⟩]) rfl ?_)
              | (refine gReg (i := 4) ?_; refine C_plain [(0, 0), (1, 0), (2, 0), (3, 0), (4, 0), (5, 2)] (by kernel_rfl) (s := [⟨0, none, _, _, _⟩, ⟨0, none, _, _, _⟩, ⟨0, none, _, _, _⟩, ⟨0, none, _, _, _⟩, ⟨0, none, _, _, _⟩, ⟨2, none, _, _, _⟩]) rfl ?_)
              | (refine gReg (i := 5) ?_; refine C_plain [(0, 0), (1, 0), (2, 0)] (by kernel_rfl) (s := [⟨0, none, _, _, _⟩, ⟨0, none, _, _, _⟩, ⟨0, none, _, _, _⟩]) rfl ?_)
              | (refine gReg (i := 6) ?_; refine C_plain [(0, 0), (1, 0), (2, 0), (3, 0), (4, 0), (5, 2)] (by kernel_rfl) (s := [⟨0, none, _, _, _⟩, ⟨0, none, _, _, _⟩, ⟨0, none, _, _, _⟩, ⟨0, none, _, _, _⟩, ⟨0, none, _, _, _⟩, ⟨2, none, _, _, _⟩]) rfl ?_)
              | (refine gReg (i := 7) ?_; refine C_plain [(0, 0), (1, 0), (2, 0)] (by kernel_rfl) (s := [⟨0, none, _, _, _⟩, ⟨0, none, _, _, _⟩, ⟨0, none, _, _, _⟩]) rfl ?_)
              | (refine gReg (i := 3) ?_; refine C_plain [(0, 0), (1, 0), (2, 0)] (by kernel_rfl) (s := [⟨0, none, _, _, _⟩, ⟨0, none, _, _, _⟩, ⟨0, none, _, _, _⟩]) rfl ?_)
              | (refine gReg (i := 8) ?_; refine C_plain [(0, 0), (1, 0)] (by kernel_rfl) (s := [⟨0, none, _, _, _⟩, ⟨0, none, _, _, _⟩]) rfl ?_)))
          | (refine C_true rfl ?_)
          | (refine C_false rfl ?_)
          | (refine C_split rfl ?_ ?_ <;> (intro hb; (try simp only [decide_eq_true_eq] at hb); (try simp only [decide_eq_false_iff_not] at hb); (try simp only [Bool.not_eq_true'] at hb); (try simp only [Bool.not_eq_false'] at hb); (try (exfalso; first | contradiction | omega))))
          | (refine C_skip ?_)
          | (refine C_exit ?_)
          | (refine C_ret ?_)
          | (refine C_block ?_)))
      | (refine gE ?_; (first
          | (refine E_then ?_)
          | (refine E_thenX ?_)
          | (refine E_thenR ?_)
          | (refine E_block ?_)
          | (refine E_blockY ?_)
          | (refine E_blockR ?_)
          | (refine E_calm ?_)
          | (refine E_blockX rfl ?_)
          | (apply E_ret1 rfl; (first | exact Res.tmp rfl | (apply R_cellAll rfl; (focus ((repeat (first | exact List.Mem.head _ | refine List.Mem.tail _ ?_)); done)); fail) | (apply R_cell1 rfl; (focus ((repeat (first | exact List.Mem.head _ | refine List.Mem.tail _ ?_)); done)); exact T.sc3)))
          | (apply E_ret2 rfl; (first | exact Res.tmp rfl | (apply R_cellAll rfl; (focus ((repeat (first | exact List.Mem.head _ | refine List.Mem.tail _ ?_)); done)); fail) | (apply R_cell1 rfl; (focus ((repeat (first | exact List.Mem.head _ | refine List.Mem.tail _ ?_)); done)); exact T.sc3)); (first | exact Res.tmp rfl | (apply R_cellAll rfl; (focus ((repeat (first | exact List.Mem.head _ | refine List.Mem.tail _ ?_)); done)); fail) | (apply R_cell1 rfl; (focus ((repeat (first | exact List.Mem.head _ | refine List.Mem.tail _ ?_)); done)); exact T.sc3)))
          | (apply E_ret3 rfl; (first | exact Res.tmp rfl | (apply R_cellAll rfl; (focus ((repeat (first | exact List.Mem.head _ | refine List.Mem.tail _ ?_)); done)); fail) | (apply R_cell1 rfl; (focus ((repeat (first | exact List.Mem.head _ | refine List.Mem.tail _ ?_)); done)); exact T.sc3)); (first | exact Res.tmp rfl | (apply R_cellAll rfl; (focus ((repeat (first | exact List.Mem.head _ | refine List.Mem.tail _ ?_)); done)); fail) | (apply R_cell1 rfl; (focus ((repeat (first | exact List.Mem.head _ | refine List.Mem.tail _ ?_)); done)); exact T.sc3)); (first | exact Res.tmp rfl | (apply R_cellAll rfl; (focus ((repeat (first | exact List.Mem.head _ | refine List.Mem.tail _ ?_)); done)); fail) | (apply R_cell1 rfl; (focus ((repeat (first | exact List.Mem.head _ | refine List.Mem.tail _ ?_)); done)); exact T.sc3))))))
    have hsn : ∀ y : MNetPrefix, hdFSNetPrefix y kc → mkFSNetPrefix y = mkFSNetPrefix x → hdSNetPrefix (dn ++ [y]) k ∧ mkSNetPrefix (dn ++ [y]) = mkSNetPrefix (dn) + mkFSNetPrefix x := fun y h1 h2 => by
      rw [hkc] at h1
      exact ⟨Held.snoc hhd h1, by simp only [mkSNetPrefix, List.map_append, List.sum_append, List.map_singleton, List.sum_singleton] at *; omega⟩
    refine E_roundS (α := Nat × List MNetPrefix × List MNetPrefix × Int) (i + 1, dn ++ [(kc, kc + 1)], rest, _) ((fun q => ⟨by simp [hdn], by simp only [List.length_cons] at hrest; dsimp only; omega, by dsimp only; rw [q.2]; omega, by dsimp only; rw [q.2]; omega, q.1⟩) (hsn _ ?_ ?_)) (by dsimp only; omega) ⟨rfl, rfl, rfl, trivial⟩ (by (focus (apply Ent.flat; (simp only [List.length_append, List.length_cons, List.length_nil, Nat.zero_add, flat_many, flat_row, flat_blk, flat_append, flat_nil, List.map_append, List.map_cons, List.map_nil, List.flatMap_append, List.flatMap_cons, List.flatMap_nil, List.append_assoc, List.append_nil, List.nil_append, List.cons_append, Row.blk_mk, rwSNetPrefix, rwSuint8]); ((repeat (first | exact Pull.nil | (apply Pull.app; (focus ((repeat (first | exact PickA.here | exact PickA.all | apply PickA.there | apply PickA.over)); done))) | (apply Pull.cons; (focus ((repeat (first | exact Pick.here | exact Pick.last | apply Pick.there | apply Pick.over)); done))) | (apply Pull.atom; (focus ((repeat (first | exact PickA.here | exact PickA.all | apply PickA.there | apply PickA.over)); done))))); done))))
    · exact ⟨by first | rfl | (dsimp only [id]; omega), by first | rfl | (dsimp only [id]; omega)⟩
    · rfl
theorem heldSNetPrefix_c (x : MSNetPrefix) (k : Int) (hk : 0 ≤ k) (hb : k + (mkSNetPrefix (x.2) : Nat) ≤ 4611686018427387904) (hh : hdSNetPrefix (x.2) k) (w : World) (hx : Rds w (rwSNetPrefix x)) : Calls Try.prog 35 #[x.1, .int .i64 k] w (RetN (.int .i64 (k + (mkSNetPrefix (x.2) : Nat))) w) := by
  obtain ⟨v, l⟩ := x
  have hm := Rds.head hx
  have hlen := hm.len
  simp only [maxLen] at hlen
  dsimp only at *
  refine enter (n := 31) (E := [(0, _), (1, _)]) Try.func35 rfl rfl rfl rfl ?_
  repeat' (first
    | (refine gS ?_; (first
        | (refine S_move rfl rfl ?_)
        | (refine S_assign rfl rfl ?_)
        | (apply F_field rfl rfl; (first | exact T.fl25_0 | exact T.fl25_1))
        | (apply F_fieldS rfl rfl; (first | exact T.fl25_0 | exact T.fl25_1); (focus (first | exact len_nil | (apply len_given; assumption) | (apply len_row; (focus ((repeat (first | exact List.Mem.head _ | refine List.Mem.tail _ ?_)); done))) | (refine len_isN ?_; assumption))); (focus omega))
        | (apply F_idx rfl rfl rfl; exact T.sl37; (focus rfl); (focus (first | exact len_nil | (apply len_given; assumption) | (apply len_row; (focus ((repeat (first | exact List.Mem.head _ | refine List.Mem.tail _ ?_)); done))) | (refine len_isN ?_; assumption))); (focus omega))
        | (apply F_idxZ rfl rfl rfl; exact T.sl37; (focus omega); (focus (first | exact len_nil | (apply len_given; assumption) | (apply len_row; (focus ((repeat (first | exact List.Mem.head _ | refine List.Mem.tail _ ?_)); done))) | (refine len_isN ?_; assumption))); (focus omega))
        | (refine gLoad ?_; (first
            | (apply F_load1 rfl rfl; (focus ((repeat (first | exact List.Mem.head _ | refine List.Mem.tail _ ?_)); done)); exact T.sc3; rfl; (focus (first | exact free0 | exact free1)))
            | (apply F_loadS1 rfl rfl; exact T.sc3; (focus (first | exact rd_nil | (apply rd_given; (focus assumption); (focus (first | exact freeG0 | exact freeG1))) | (apply rd_row; (focus ((repeat (first | exact List.Mem.head _ | refine List.Mem.tail _ ?_)); done)); (focus (first | exact freeR0 | exact freeR1))))); (focus (first | (apply at_cell; (focus (apply at_flat; (focus (intro _; rfl)); (focus assumption))); rfl) | (apply at_cell0; (focus (apply at_flat; (focus (intro _; rfl)); (focus assumption))); rfl) | (apply at_cell; (focus (apply at_mid0; (focus assumption))); rfl) | (apply at_cell0; (focus (apply at_mid0; (focus assumption))); rfl) | rfl)))))
        | (refine gCall ?_; (first
            | (apply F_len rfl rfl rfl; (focus exact ⟨_, _, by exact T.sl37⟩); (focus (first | exact len_nil | (apply len_given; assumption) | (apply len_row; (focus ((repeat (first | exact List.Mem.head _ | refine List.Mem.tail _ ?_)); done))) | (refine len_isN ?_; assumption))))))
        | (refine gBin ?_; (first
            | (refine S_lss rfl rfl rfl ?_)
            | (refine S_neq rfl rfl rfl ?_)
            | (refine S_add rfl rfl ?_ rfl ?_; (focus (unfold rng; omega)))
            | (refine S_neqB Try.underlying4 rfl rfl rfl ?_)))
        | (refine S_done ?_)))
    | (refine gC ?_; (first
        | (refine C_seq ?_)
        | (refine gReg ?_; (first
            | (refine gReg (i := 0) ?_; refine C_plain [(0, 0)] (by kernel_rfl) (s := [⟨0, none, _, _, _⟩]) rfl ?_)
            | (refine gReg (i := 1) ?_; refine C_plain [(0, 0)] (by kernel_rfl) (s := [⟨0, none, _, _, _⟩]) rfl ?_)
            | (refine gReg (i := 2) ?_; refine C_plain [(0, 0), (1, 0), (2, 0), (3, 0)] (by kernel_rfl) (s := [⟨0, none, _, _, _⟩, ⟨0, none, _, _, _⟩, ⟨0, none, _, _, _⟩, ⟨0, none, _, _, _⟩]) rfl ?_)
            | (refine gReg (i := 4) ?_; refine C_plain [(0, 0), (1, 0), (2, 0), (3, 0), (4, 0), (5, 0), (6, 0)] (by kernel_rfl) (s := [⟨0, none, _, _, _⟩, ⟨0, none, _, _, _⟩, ⟨0, none, _, _, _⟩, ⟨0, none, _, _, _⟩, ⟨0, none, _, _, _⟩, ⟨0, none, _, _, _⟩, ⟨0, none, _, _, _⟩]) rfl ?_)
            | (refine gReg (i := 5) ?_; refine C_plain [(0, 0)] (by kernel_rfl) (s := [⟨0, none, _, _, _⟩]) rfl ?_)
            | (refine gReg (i := 6) ?_; refine C_plain [(0, 0), (1, 0), (2, 0)] (by kernel_rfl) (s := [⟨0, none, _, _, _⟩, ⟨0, none, _, _, _⟩, ⟨0, none, _, _, _⟩]) rfl ?_)
            | (refine gReg (i := 7) ?_; refine C_plain [(0, 0), (1, 0), (2, 0), (3, 0), (4, 0), (5, 0), (6, 0)] (by kernel_rfl) (s := [⟨0, none, _, _, _⟩, ⟨0, none, _, _, _⟩, ⟨0, none, _, _, _⟩, ⟨0, none, _, _, _⟩, ⟨0, none, _, _, _⟩, ⟨0, none, _, _, _⟩, ⟨0, none, _, _, _⟩]) rfl ?_)
            | (refine gReg (i := 8) ?_; refine C_plain [(0, 0)] (by kernel_rfl) (s := [⟨0, none, _, _, _⟩]) rfl ?_)
            | (refine gReg (i := 9) ?_; refine C_plain [(0, 0), (1, 0), (2, 0)] (by kernel_rfl) (s := [⟨0, none, _, _, _⟩, ⟨0, none, _, _, _⟩, ⟨0, none, _, _, _⟩]) rfl ?_)
            | (refine gReg (i := 3) ?_; refine C_plain [(0, 0), (1, 0), (2, 0)] (by kernel_rfl) (s := [⟨0, none, _, _, _⟩, ⟨0, none, _, _, _⟩, ⟨0, none, _, _, _⟩]) rfl ?_)
            | (refine gReg (i := 10) ?_; refine C_plain [(0, 0), (1, 0)] (by kernel_rfl) (s := [⟨0, none, _, _, _⟩, ⟨0, none, _, _, _⟩]) rfl ?_)))
        | (refine C_true rfl ?_)
        | (refine C_false rfl ?_)
        | (refine C_split rfl ?_ ?_ <;> (intro hb; (try simp only [decide_eq_true_eq] at hb); (try simp only [decide_eq_false_iff_not] at hb); (try simp only [Bool.not_eq_true'] at hb); (try simp only [Bool.not_eq_false'] at hb); (try (exfalso; first | contradiction | omega))))
        | (refine C_skip ?_)
        | (refine C_exit ?_)
        | (refine C_ret ?_)
        | (refine C_block ?_)))
    | (refine gE ?_; (first
        | (refine E_then ?_)
        | (refine E_thenX ?_)
        | (refine E_thenR ?_)
        | (refine E_block ?_)
        | (refine E_blockY ?_)
        | (refine E_blockR ?_)
        | (refine E_calm ?_)
        | (refine E_blockX rfl ?_)
        | (apply E_ret1 rfl; (first | exact Res.tmp rfl | (apply R_cellAll rfl; (focus ((repeat (first | exact List.Mem.head _ | refine List.Mem.tail _ ?_)); done)); fail) | (apply R_cell1 rfl; (focus ((repeat (first | exact List.Mem.head _ | refine List.Mem.tail _ ?_)); done)); exact T.sc3)))
        | (apply E_ret2 rfl; (first | exact Res.tmp rfl | (apply R_cellAll rfl; (focus ((repeat (first | exact List.Mem.head _ | refine List.Mem.tail _ ?_)); done)); fail) | (apply R_cell1 rfl; (focus ((repeat (first | exact List.Mem.head _ | refine List.Mem.tail _ ?_)); done)); exact T.sc3)); (first | exact Res.tmp rfl | (apply R_cellAll rfl; (focus ((repeat (first | exact List.Mem.head _ | refine List.Mem.tail _ ?_)); done)); fail) | (apply R_cell1 rfl; (focus ((repeat (first | exact List.Mem.head _ | refine List.Mem.tail _ ?_)); done)); exact T.sc3)))
        | (apply E_ret3 rfl; (first | exact Res.tmp rfl | (apply R_cellAll rfl; (focus ((repeat (first | exact List.Mem.head _ | refine List.Mem.tail _ ?_)); done)); fail) | (apply R_cell1 rfl; (focus ((repeat (first | exact List.Mem.head _ | refine List.Mem.tail _ ?_)); done)); exact T.sc3)); (first | exact Res.tmp rfl | (apply R_cellAll rfl; (focus ((repeat (first | exact List.Mem.head _ | refine List.Mem.tail _ ?_)); done)); fail) | (apply R_cell1 rfl; (focus ((repeat (first | exact List.Mem.head _ | refine List.Mem.tail _ ?_)); done)); exact T.sc3)); (first | exact Res.tmp rfl | (apply R_cellAll rfl; (focus ((repeat (first | exact List.Mem.head _ | refine List.Mem.tail _ ?_)); done)); fail) | (apply R_cell1 rfl; (focus ((repeat (first | exact List.Mem.head _ | refine List.Mem.tail _ ?_)); done)); exact T.sc3))))))
  refine C_loop (α := Nat × Int) (fun s => [(5, .int .i64 (s.1 : Int)), (1, .int .i64 s.2), (0, v)]) (fun _ => []) (fun s => s.1 ≤ l.length ∧ s.2 = k + (pre mkFSNetPrefix (l) s.1 : Nat)) (fun s => l.length - s.1) (0, k) ⟨Nat.zero_le _, by simp [pre_zero]⟩ ⟨rfl, rfl, rfl, trivial⟩ (List.Sublist.refl _) ?_
  rintro ⟨i, kc⟩ ⟨hi, hkc⟩
  dsimp only at *
  have htot : mkSNetPrefix (l) = ((l).map mkFSNetPrefix).sum := rfl
  have ht0 := pre_le mkFSNetPrefix (l) i
  have ht1 := pre_le mkFSNetPrefix (l) (i + 1)
  rcases Nat.lt_or_ge i l.length with hlt | hge
  · obtain ⟨x, hx⟩ : ∃ x, l[i]? = some x := ⟨_, List.getElem?_eq_getElem hlt⟩
    have hxc : (l)[i]? = some x := by exact hx
    have hel := Held.at hh hxc
    have hps := pre_succ (mk := mkFSNetPrefix) hxc
    rw [← hkc] at hel
    obtain ⟨e0, e1⟩ := x
    simp only [hdFSNetPrefix] at hel
    obtain ⟨g0, g1⟩ := hel
    subst g0
    subst g1
    simp only [mkFSNetPrefix] at hps
    repeat' (first
      | (refine gS ?_; (first
          | (refine S_move rfl rfl ?_)
          | (refine S_assign rfl rfl ?_)
          | (apply F_field rfl rfl; (first | exact T.fl25_0 | exact T.fl25_1))
          | (apply F_fieldS rfl rfl; (first | exact T.fl25_0 | exact T.fl25_1); (focus (first | exact len_nil | (apply len_given; assumption) | (apply len_row; (focus ((repeat (first | exact List.Mem.head _ | refine List.Mem.tail _ ?_)); done))) | (refine len_isN ?_; assumption))); (focus omega))
          | (apply F_idx rfl rfl rfl; exact T.sl37; (focus rfl); (focus (first | exact len_nil | (apply len_given; assumption) | (apply len_row; (focus ((repeat (first | exact List.Mem.head _ | refine List.Mem.tail _ ?_)); done))) | (refine len_isN ?_; assumption))); (focus omega))
          | (apply F_idxZ rfl rfl rfl; exact T.sl37; (focus omega); (focus (first | exact len_nil | (apply len_given; assumption) | (apply len_row; (focus ((repeat (first | exact List.Mem.head _ | refine List.Mem.tail _ ?_)); done))) | (refine len_isN ?_; assumption))); (focus omega))
          | (refine gLoad ?_; (first
              | (apply F_load1 rfl rfl; (focus ((repeat (first | exact List.Mem.head _ | refine List.Mem.tail _ ?_)); done)); exact T.sc3; rfl; (focus (first | exact free0 | exact free1)))
              | (apply F_loadS1 rfl rfl; exact T.sc3; (focus (first | exact rd_nil | (apply rd_given; (focus assumption); (focus (first | exact freeG0 | exact freeG1))) | (apply rd_row; (focus ((repeat (first | exact List.Mem.head _ | refine List.Mem.tail _ ?_)); done)); (focus (first | exact freeR0 | exact freeR1))))); (focus (first | (apply at_cell; (focus (apply at_flat; (focus (intro _; rfl)); (focus assumption))); rfl) | (apply at_cell0; (focus (apply at_flat; (focus (intro _; rfl)); (focus assumption))); rfl) | (apply at_cell; (focus (apply at_mid0; (focus assumption))); rfl) | (apply at_cell0; (focus (apply at_mid0; (focus assumption))); rfl) | rfl)))))
          | (refine gCall ?_; (first
              | (apply F_len rfl rfl rfl; (focus exact ⟨_, _, by exact T.sl37⟩); (focus (first | exact len_nil | (apply len_given; assumption) | (apply len_row; (focus ((repeat (first | exact List.Mem.head _ | refine List.Mem.tail _ ?_)); done))) | (refine len_isN ?_; assumption))))))
          | (refine gBin ?_; (first
              | (refine S_lss rfl rfl rfl ?_)
              | (refine S_neq rfl rfl rfl ?_)
              | (refine S_add rfl rfl ?_ rfl ?_; (focus (unfold rng; omega)))
              | (refine S_neqB Try.underlying4 rfl rfl rfl ?_)))
          | (refine S_done ?_)))
      | (refine gC ?_; (first
          | (refine C_seq ?_)
          | (refine gReg ?_; (first
              | (refine gReg (i := 0) ?_; refine C_plain [(0, 0)] (by kernel_rfl) (s := [⟨0, none, _, _, _⟩]) rfl ?_)
              | (refine gReg (i := 1) ?_; refine C_plain [(0, 0)] (by kernel_rfl) (s := [⟨0, none, _, _, _⟩]) rfl ?_)
              | (refine gReg (i := 2) ?_; refine C_plain [(0, 0), (1, 0), (2, 0), (3, 0)] (by kernel_rfl) (s := [⟨0, none, _, _, _⟩, ⟨0, none, _, _, _⟩, ⟨0, none, _, _, _⟩, ⟨0, none, _, _, _⟩]) rfl ?_)
              | (refine gReg (i := 4) ?_; refine C_plain [(0, 0), (1, 0), (2, 0), (3, 0), (4, 0), (5, 0), (6, 0)] (by kernel_rfl) (s := [⟨0, none, _, _, _⟩, ⟨0, none, _, _, _⟩, ⟨0, none, _, _, _⟩, ⟨0, none, _, _, _⟩, ⟨0, none, _, _, _⟩, ⟨0, none, _, _, _⟩, ⟨0, none, _, _, _⟩]) rfl ?_)
              | (refine gReg (i := 5) ?_; refine C_plain [(0, 0)] (by kernel_rfl) (s := [⟨0, none, _, _, _⟩]) rfl ?_)
              | (refine gReg (i := 6) ?_; refine C_plain [(0, 0), (1, 0), (2, 0)] (by kernel_rfl) (s := [⟨0, none, _, _, _⟩, ⟨0, none, _, _, _⟩, ⟨0, none, _, _, _⟩]) rfl ?_)
              | (refine gReg (i := 7) ?_; refine C_plain [(0, 0), (1, 0), (2, 0), (3, 0), (4, 0), (5, 0), (6, 0)] (by kernel_rfl) (s := [⟨0, none, _, _, _⟩, ⟨0, none, _, _, _⟩, ⟨0, none, _, _, _⟩, ⟨0, none, _, _, _⟩, ⟨0, none, _, _, _⟩, ⟨0, none, _, _, _⟩, ⟨0, none, _, _, _⟩]) rfl ?_)
              | (refine gReg (i := 8) ?_; refine C_plain [(0, 0)] (by kernel_rfl) (s := [⟨0, none, _, _, _⟩]) rfl ?_)
              | (refine gReg (i := 9) ?_; refine C_plain [(0, 0), (1, 0), (2, 0)] (by kernel_rfl) (s := [⟨0, none, _, _, _⟩, ⟨0, none, _, _, _⟩, ⟨0, none, _, _, _⟩]) rfl ?_)
              | (refine gReg (i := 3) ?_; refine C_plain [(0, 0), (1, 0), (2, 0)] (by kernel_rfl) (s := [⟨0, none, _, _, _⟩, ⟨0, none, _, _, _⟩, ⟨0, none, _, _, _⟩]) rfl ?_)
              | (refine gReg (i := 10) ?_; refine C_plain [(0, 0), (1, 0)] (by kernel_rfl) (s := [⟨0, none, _, _, _⟩, ⟨0, none, _, _, _⟩]) rfl ?_)))
          | (refine C_true rfl ?_)
          | (refine C_false rfl ?_)
          | (refine C_split rfl ?_ ?_ <;> (intro hb; (try simp only [decide_eq_true_eq] at hb); (try simp only [decide_eq_false_iff_not] at hb); (try simp only [Bool.not_eq_true'] at hb); (try simp only [Bool.not_eq_false'] at hb); (try (exfalso; first | contradiction | omega)); (try ((exfalso; simp [Int.add_assoc] at hb; done)))))
          | (refine C_skip ?_)
          | (refine C_exit ?_)
          | (refine C_ret ?_)
          | (refine C_block ?_)))
      | (refine gE ?_; (first
          | (refine E_then ?_)
          | (refine E_thenX ?_)
          | (refine E_thenR ?_)
          | (refine E_block ?_)
          | (refine E_blockY ?_)
          | (refine E_blockR ?_)
          | (refine E_calm ?_)
          | (refine E_blockX rfl ?_)
          | (apply E_ret1 rfl; (first | exact Res.tmp rfl | (apply R_cellAll rfl; (focus ((repeat (first | exact List.Mem.head _ | refine List.Mem.tail _ ?_)); done)); fail) | (apply R_cell1 rfl; (focus ((repeat (first | exact List.Mem.head _ | refine List.Mem.tail _ ?_)); done)); exact T.sc3)))
          | (apply E_ret2 rfl; (first | exact Res.tmp rfl | (apply R_cellAll rfl; (focus ((repeat (first | exact List.Mem.head _ | refine List.Mem.tail _ ?_)); done)); fail) | (apply R_cell1 rfl; (focus ((repeat (first | exact List.Mem.head _ | refine List.Mem.tail _ ?_)); done)); exact T.sc3)); (first | exact Res.tmp rfl | (apply R_cellAll rfl; (focus ((repeat (first | exact List.Mem.head _ | refine List.Mem.tail _ ?_)); done)); fail) | (apply R_cell1 rfl; (focus ((repeat (first | exact List.Mem.head _ | refine List.Mem.tail _ ?_)); done)); exact T.sc3)))
          | (apply E_ret3 rfl; (first | exact Res.tmp rfl | (apply R_cellAll rfl; (focus ((repeat (first | exact List.Mem.head _ | refine List.Mem.tail _ ?_)); done)); fail) | (apply R_cell1 rfl; (focus ((repeat (first | exact List.Mem.head _ | refine List.Mem.tail _ ?_)); done)); exact T.sc3)); (first | exact Res.tmp rfl | (apply R_cellAll rfl; (focus ((repeat (first | exact List.Mem.head _ | refine List.Mem.tail _ ?_)); done)); fail) | (apply R_cell1 rfl; (focus ((repeat (first | exact List.Mem.head _ | refine List.Mem.tail _ ?_)); done)); exact T.sc3)); (first | exact Res.tmp rfl | (apply R_cellAll rfl; (focus ((repeat (first | exact List.Mem.head _ | refine List.Mem.tail _ ?_)); done)); fail) | (apply R_cell1 rfl; (focus ((repeat (first | exact List.Mem.head _ | refine List.Mem.tail _ ?_)); done)); exact T.sc3))))))
    refine E_round (α := Nat × Int) (i + 1, _) ?_ ?_ ⟨rfl, rfl, rfl, trivial⟩ (List.nil_sublist _)
    · dsimp only; omega
    · dsimp only; omega
  · have hi' : i = l.length := by omega
    subst hi'
    have he := pre_end mkFSNetPrefix (l)
    repeat' (first
      | (refine gS ?_; (first
          | (refine S_move rfl rfl ?_)
          | (refine S_assign rfl rfl ?_)
          | (apply F_field rfl rfl; (first | exact T.fl25_0 | exact T.fl25_1))
          | (apply F_fieldS rfl rfl; (first | exact T.fl25_0 | exact T.fl25_1); (focus (first | exact len_nil | (apply len_given; assumption) | (apply len_row; (focus ((repeat (first | exact List.Mem.head _ | refine List.Mem.tail _ ?_)); done))) | (refine len_isN ?_; assumption))); (focus omega))
          | (apply F_idx rfl rfl rfl; exact T.sl37; (focus rfl); (focus (first | exact len_nil | (apply len_given; assumption) | (apply len_row; (focus ((repeat (first | exact List.Mem.head _ | refine List.Mem.tail _ ?_)); done))) | (refine len_isN ?_; assumption))); (focus omega))
          | (apply F_idxZ rfl rfl rfl; exact T.sl37; (focus omega); (focus (first | exact len_nil | (apply len_given; assumption) | (apply len_row; (focus ((repeat (first | exact List.Mem.head _ | refine List.Mem.tail _ ?_)); done))) | (refine len_isN ?_; assumption))); (focus omega))
          | (refine gLoad ?_; (first
              | (apply F_load1 rfl rfl; (focus ((repeat (first | exact List.Mem.head _ | refine List.Mem.tail _ ?_)); done)); exact T.sc3; rfl; (focus (first | exact free0 | exact free1)))
              | (apply F_loadS1 rfl rfl; exact T.sc3; (focus (first | exact rd_nil | (apply rd_given; (focus assumption); (focus (first | exact freeG0 | exact freeG1))) | (apply rd_row; (focus ((repeat (first | exact List.Mem.head _ | refine List.Mem.tail _ ?_)); done)); (focus (first | exact freeR0 | exact freeR1))))); (focus (first | (apply at_cell; (focus (apply at_flat; (focus (intro _; rfl)); (focus assumption))); rfl) | (apply at_cell0; (focus (apply at_flat; (focus (intro _; rfl)); (focus assumption))); rfl) | (apply at_cell; (focus (apply at_mid0; (focus assumption))); rfl) | (apply at_cell0; (focus (apply at_mid0; (focus assumption))); rfl) | rfl)))))
          | (refine gCall ?_; (first
              | (apply F_len rfl rfl rfl; (focus exact ⟨_, _, by exact T.sl37⟩); (focus (first | exact len_nil | (apply len_given; assumption) | (apply len_row; (focus ((repeat (first | exact List.Mem.head _ | refine List.Mem.tail _ ?_)); done))) | (refine len_isN ?_; assumption))))))
          | (refine gBin ?_; (first
              | (refine S_lss rfl rfl rfl ?_)
              | (refine S_neq rfl rfl rfl ?_)
              | (refine S_add rfl rfl ?_ rfl ?_; (focus (unfold rng; omega)))
              | (refine S_neqB Try.underlying4 rfl rfl rfl ?_)))
          | (refine S_done ?_)))
      | (refine gC ?_; (first
          | (refine C_seq ?_)
          | (refine gReg ?_; (first
              | (refine gReg (i := 0) ?_; refine C_plain [(0, 0)] (by kernel_rfl) (s := [⟨0, none, _, _, _⟩]) rfl ?_)
              | (refine gReg (i := 1) ?_; refine C_plain [(0, 0)] (by kernel_rfl) (s := [⟨0, none, _, _, _⟩]) rfl ?_)
              | (refine gReg (i := 2) ?_; refine C_plain [(0, 0), (1, 0), (2, 0), (3, 0)] (by kernel_rfl) (s := [⟨0, none, _, _, _⟩, ⟨0, none, _, _, _⟩, ⟨0, none, _, _, _⟩, ⟨0, none, _, _, _⟩]) rfl ?_)
              | (refine gReg (i := 4) ?_; refine C_plain [(0, 0), (1, 0), (2, 0), (3, 0), (4, 0), (5, 0), (6, 0)] (by kernel_rfl) (s := [⟨0, none, _, _, _⟩, ⟨0, none, _, _, _⟩, ⟨0, none, _, _, _⟩, ⟨0, none, _, _, _⟩, ⟨0, none, _, _, _⟩, ⟨0, none, _, _, _⟩, ⟨0, none, _, _, _⟩]) rfl ?_)
              | (refine gReg (i := 5) ?_; refine C_plain [(0, 0)] (by kernel_rfl) (s := [⟨0, none, _, _, _⟩]) rfl ?_)
              | (refine gReg (i := 6) ?_; refine C_plain [(0, 0), (1, 0), (2, 0)] (by kernel_rfl) (s := [⟨0, none, _, _, _⟩, ⟨0, none, _, _, _⟩, ⟨0, none, _, _, _⟩]) rfl ?_)
              | (refine gReg (i := 7) ?_; refine C_plain [(0, 0), (1, 0), (2, 0), (3, 0), (4, 0), (5, 0), (6, 0)] (by kernel_rfl) (s := [⟨0, none, _, _, _⟩, ⟨0, none, _, _, _⟩, ⟨0, none, _, _, _⟩, ⟨0, none, _, _, _⟩, ⟨0, none, _, _, _⟩, ⟨0, none, _, _, _⟩, ⟨0, none, _, _, _⟩]) rfl ?_)
              | (refine gReg (i := 8) ?_; refine C_plain [(0, 0)] (by kernel_rfl) (s := [⟨0, none, _, _, _⟩]) rfl ?_)
              | (refine gReg (i := 9) ?_; refine C_plain [(0, 0), (1, 0), (2, 0)] (by kernel_rfl) (s := [⟨0, none, _, _, _⟩, ⟨0, none, _, _, _⟩, ⟨0, none, _, _, _⟩]) rfl ?_)
              | (refine gReg (i := 3) ?_; refine C_plain [(0, 0), (1, 0), (2, 0)] (by kernel_rfl) (s := [⟨0, none, _, _, _⟩, ⟨0, none, _, _, _⟩, ⟨0, none, _, _, _⟩]) rfl ?_)
              | (refine gReg (i := 10) ?_; refine C_plain [(0, 0), (1, 0)] (by kernel_rfl) (s := [⟨0, none, _, _, _⟩, ⟨0, none, _, _, _⟩]) rfl ?_)))
          | (refine C_true rfl ?_)
          | (refine C_false rfl ?_)
          | (refine C_split rfl ?_ ?_ <;> (intro hb; (try simp only [decide_eq_true_eq] at hb); (try simp only [decide_eq_false_iff_not] at hb); (try simp only [Bool.not_eq_true'] at hb); (try simp only [Bool.not_eq_false'] at hb); (try (exfalso; first | contradiction | omega))))
          | (refine C_skip ?_)
          | (refine C_exit ?_)
          | (refine C_ret ?_)
          | (refine C_block ?_)))
      | (refine gE ?_; (first
          | (refine E_then ?_)
          | (refine E_thenX ?_)
          | (refine E_thenR ?_)
          | (refine E_block ?_)
          | (refine E_blockY ?_)
          | (refine E_blockR ?_)
          | (refine E_calm ?_)
          | (refine E_blockX rfl ?_)
          | (apply E_ret1 rfl; (first | exact Res.tmp rfl | (apply R_cellAll rfl; (focus ((repeat (first | exact List.Mem.head _ | refine List.Mem.tail _ ?_)); done)); fail) | (apply R_cell1 rfl; (focus ((repeat (first | exact List.Mem.head _ | refine List.Mem.tail _ ?_)); done)); exact T.sc3)))
          | (apply E_ret2 rfl; (first | exact Res.tmp rfl | (apply R_cellAll rfl; (focus ((repeat (first | exact List.Mem.head _ | refine List.Mem.tail _ ?_)); done)); fail) | (apply R_cell1 rfl; (focus ((repeat (first | exact List.Mem.head _ | refine List.Mem.tail _ ?_)); done)); exact T.sc3)); (first | exact Res.tmp rfl | (apply R_cellAll rfl; (focus ((repeat (first | exact List.Mem.head _ | refine List.Mem.tail _ ?_)); done)); fail) | (apply R_cell1 rfl; (focus ((repeat (first | exact List.Mem.head _ | refine List.Mem.tail _ ?_)); done)); exact T.sc3)))
          | (apply E_ret3 rfl; (first | exact Res.tmp rfl | (apply R_cellAll rfl; (focus ((repeat (first | exact List.Mem.head _ | refine List.Mem.tail _ ?_)); done)); fail) | (apply R_cell1 rfl; (focus ((repeat (first | exact List.Mem.head _ | refine List.Mem.tail _ ?_)); done)); exact T.sc3)); (first | exact Res.tmp rfl | (apply R_cellAll rfl; (focus ((repeat (first | exact List.Mem.head _ | refine List.Mem.tail _ ?_)); done)); fail) | (apply R_cell1 rfl; (focus ((repeat (first | exact List.Mem.head _ | refine List.Mem.tail _ ?_)); done)); exact T.sc3)); (first | exact Res.tmp rfl | (apply R_cellAll rfl; (focus ((repeat (first | exact List.Mem.head _ | refine List.Mem.tail _ ?_)); done)); fail) | (apply R_cell1 rfl; (focus ((repeat (first | exact List.Mem.head _ | refine List.Mem.tail _ ?_)); done)); exact T.sc3))))))
    all_goals (refine retN ?_; congr 1; omega)
attribute [local irreducible] Rds partN anyIn anyOf okQ inQ allOk size setOk
def outN (l o : List MNetPrefix) : List MNetPrefix := if setOk l = true ∧ setOk o = true then partN 16 (0, 0) l o else []
theorem outN_len (l o : List MNetPrefix) : (outN l o).length ≤ 65536 := by
  unfold outN
  split
  · exact Nat.le_trans (partN_len 16 (0, 0) l o) (by decide)
  · exact Nat.zero_le _
theorem isSet_l (x : MSNetPrefix) {b : Bool} (h : setOk x.2 = b) (w : World) (hx : Rds w (rwSNetPrefix x)) : Calls Try.prog 60 #[x.1] w (RetN (.bool b) w) := by
  have := isSet_c x w hx
  rwa [h] at this
theorem specOk_l (x : MSNetPrefix) {b : Bool} (h : setOk x.2 = b) (w : World) (hx : Rds w (rwSNetPrefix x)) : Calls Try.prog 58 #[x.1] w (RetN (.bool b) w) := by
  have := specOk_c x w hx
  rwa [h] at this
theorem zero_ok : okQ (0, 0) = true := by unfold okQ; decide
theorem implNetWithout_c (x o : MSNetPrefix) (w : World) (hx : Rds w (rwSNetPrefix x)) (ho : Rds w (rwSNetPrefix o)) : Calls Try.prog 33 #[x.1, o.1] w (RetX (fun y : MSNetPrefix => y.2 = outN x.2 o.2) (fun y => y.1) (fun y => [.many (rwSNetPrefix y)]) w) := by
  cases h1 : setOk x.2
  · obtain ⟨b, h2⟩ : ∃ b, setOk o.2 = b := ⟨_, rfl⟩
    refine enter (n := 17) (E := [(0, _), (1, _)]) Try.func33 rfl rfl rfl rfl ?_
    repeat' (first
      | (refine gS ?_; (first
          | (refine gGuard ?_; (first
              | (refine S_on rfl ?_)
              | (refine S_off rfl rfl rfl ?_)
              | (refine S_offn rfl rfl ?_)
              | (refine S_offU rfl rfl ?_)
              | (refine S_offUn rfl ?_)
              | (refine S_gsplit rfl ?_ ?_ <;> (intro hb; (try simp only [decide_eq_true_eq] at hb); (try simp only [decide_eq_false_iff_not] at hb); (try simp only [Bool.not_eq_true'] at hb); (try simp only [Bool.not_eq_false'] at hb); (try (exfalso; first | contradiction | omega))))))
          | (refine S_move rfl rfl ?_)
          | (refine S_assign rfl rfl ?_)
          | (refine gCall ?_; (first
              | (refine S_callN (f := 60) rfl T.pf60 rfl (fun w hst => isSet_l x h1 w (by first | (refine Rds.given hst ?_; assumption) | (apply Rds.many hst; (focus ((repeat (first | exact List.Mem.head _ | refine List.Mem.tail _ ?_)); done))) | (apply Rds.row hst; (focus ((repeat (first | exact List.Mem.head _ | refine List.Mem.tail _ ?_)); done))))) rfl ?_)
              | (refine S_callN (f := 60) rfl T.pf60 rfl (fun w hst => isSet_l o h2 w (by first | (refine Rds.given hst ?_; assumption) | (apply Rds.many hst; (focus ((repeat (first | exact List.Mem.head _ | refine List.Mem.tail _ ?_)); done))) | (apply Rds.row hst; (focus ((repeat (first | exact List.Mem.head _ | refine List.Mem.tail _ ?_)); done))))) rfl ?_)))
          | (refine gPick ?_; (first
              | (refine S_pickT rfl rfl rfl ?_)
              | (refine S_pickF rfl rfl rfl ?_)))
          | (apply S_alloc rfl (hd := rfl); exact T.zc25; intro kb)
          | (apply F_build2 rfl (hd := rfl); exact T.st25; (focus ((repeat (first | exact BuildR.nil | (apply BuildR.cons; (first | exact T.fs25_0 | exact T.fs25_1); rfl; rfl; (focus ((repeat (first | exact SetSeg.nil | apply SetSeg.here | apply SetSeg.there)); done))) | (apply BuildR.cons1; (first | exact T.fs25_0 | exact T.fs25_1); (focus assumption); (focus ((repeat (first | exact SetSeg.nil | apply SetSeg.here | apply SetSeg.there)); done))))); done)))
          | (refine S_not rfl rfl ?_)
          | (refine S_done ?_)))
      | (refine gC ?_; (first
          | (refine C_seq ?_)
          | (refine gReg ?_; (first
              | (refine gReg (i := 0) ?_; refine C_plain [(0, 0)] (by kernel_rfl) (s := [⟨0, none, _, _, _⟩]) rfl ?_)
              | (refine gReg (i := 1) ?_; refine C_plain [(0, 0), (1, 2), (2, 0), (3, 0), (4, 0), (5, 2), (6, 0), (7, 0)] (by kernel_rfl) (s := [⟨0, none, _, _, _⟩, ⟨2, none, _, _, _⟩, ⟨0, none, _, _, _⟩, ⟨0, none, _, _, _⟩, ⟨0, some (8, false), _, _, _⟩, ⟨2, some (8, false), _, _, _⟩, ⟨0, some (8, false), _, _, _⟩, ⟨0, none, _, _, _⟩]) rfl ?_)
              | (refine gReg (i := 2) ?_; refine C_plain [(0, 0)] (by kernel_rfl) (s := [⟨0, none, _, _, _⟩]) rfl ?_)
              | (refine gReg (i := 3) ?_; refine C_plain [(0, 0), (1, 0), (2, 0), (3, 2), (4, 0)] (by kernel_rfl) (s := [⟨0, none, _, _, _⟩, ⟨0, none, _, _, _⟩, ⟨0, none, _, _, _⟩, ⟨2, none, _, _, _⟩, ⟨0, none, _, _, _⟩]) rfl ?_)))
          | (refine C_true rfl ?_)
          | (refine C_false rfl ?_)
          | (refine C_split rfl ?_ ?_ <;> (intro hb; (try simp only [decide_eq_true_eq] at hb); (try simp only [decide_eq_false_iff_not] at hb); (try simp only [Bool.not_eq_true'] at hb); (try simp only [Bool.not_eq_false'] at hb); (try (exfalso; first | contradiction | omega))))
          | (refine C_skip ?_)
          | (refine C_exit ?_)
          | (refine C_ret ?_)
          | (refine C_block ?_)))
      | (refine gE ?_; (first
          | (refine E_then ?_)
          | (refine E_thenX ?_)
          | (refine E_thenR ?_)
          | (refine E_block ?_)
          | (refine E_blockY ?_)
          | (refine E_blockR ?_)
          | (refine E_calm ?_)
          | (refine E_blockX rfl ?_)
          | (apply E_ret1 rfl; (first | exact Res.tmp rfl | (apply R_cellAll rfl; (focus ((repeat (first | exact List.Mem.head _ | refine List.Mem.tail _ ?_)); done)); fail) | (apply R_cell1 rfl; (focus ((repeat (first | exact List.Mem.head _ | refine List.Mem.tail _ ?_)); done)); fail)))
          | (apply E_ret2 rfl; (first | exact Res.tmp rfl | (apply R_cellAll rfl; (focus ((repeat (first | exact List.Mem.head _ | refine List.Mem.tail _ ?_)); done)); fail) | (apply R_cell1 rfl; (focus ((repeat (first | exact List.Mem.head _ | refine List.Mem.tail _ ?_)); done)); fail)); (first | exact Res.tmp rfl | (apply R_cellAll rfl; (focus ((repeat (first | exact List.Mem.head _ | refine List.Mem.tail _ ?_)); done)); fail) | (apply R_cell1 rfl; (focus ((repeat (first | exact List.Mem.head _ | refine List.Mem.tail _ ?_)); done)); fail)))
          | (apply E_ret3 rfl; (first | exact Res.tmp rfl | (apply R_cellAll rfl; (focus ((repeat (first | exact List.Mem.head _ | refine List.Mem.tail _ ?_)); done)); fail) | (apply R_cell1 rfl; (focus ((repeat (first | exact List.Mem.head _ | refine List.Mem.tail _ ?_)); done)); fail)); (first | exact Res.tmp rfl | (apply R_cellAll rfl; (focus ((repeat (first | exact List.Mem.head _ | refine List.Mem.tail _ ?_)); done)); fail) | (apply R_cell1 rfl; (focus ((repeat (first | exact List.Mem.head _ | refine List.Mem.tail _ ?_)); done)); fail)); (first | exact Res.tmp rfl | (apply R_cellAll rfl; (focus ((repeat (first | exact List.Mem.head _ | refine List.Mem.tail _ ?_)); done)); fail) | (apply R_cell1 rfl; (focus ((repeat (first | exact List.Mem.head _ | refine List.Mem.tail _ ?_)); done)); fail))))))
    refine retX (.slice none 0 0, []) ?_ rfl (Ent.trans (Ent.ghost 25 2) ?_)
    · simp [outN, h1]
    · exact (by (focus (apply Ent.flat; (simp only [List.length_append, List.length_cons, List.length_nil, Nat.zero_add, flat_many, flat_row, flat_blk, flat_append, flat_nil, List.map_append, List.map_cons, List.map_nil, List.flatMap_append, List.flatMap_cons, List.flatMap_nil, List.append_assoc, List.append_nil, List.nil_append, List.cons_append, Row.blk_mk, rwSNetPrefix, rwSuint8]); ((repeat (first | exact Pull.nil | (apply Pull.app; (focus ((repeat (first | exact PickA.here | exact PickA.all | apply PickA.there | apply PickA.over)); done))) | (apply Pull.cons; (focus ((repeat (first | exact Pick.here | exact Pick.last | apply Pick.there | apply Pick.over)); done))) | (apply Pull.atom; (focus ((repeat (first | exact PickA.here | exact PickA.all | apply PickA.there | apply PickA.over)); done))))); done))))
  · cases h2 : setOk o.2
    · have := h2
      refine enter (n := 17) (E := [(0, _), (1, _)]) Try.func33 rfl rfl rfl rfl ?_
      repeat' (first
        | (refine gS ?_; (first
            | (refine gGuard ?_; (first
                | (refine S_on rfl ?_)
                | (refine S_off rfl rfl rfl ?_)
                | (refine S_offn rfl rfl ?_)
                | (refine S_offU rfl rfl ?_)
                | (refine S_offUn rfl ?_)
                | (refine S_gsplit rfl ?_ ?_ <;> (intro hb; (try simp only [decide_eq_true_eq] at hb); (try simp only [decide_eq_false_iff_not] at hb); (try simp only [Bool.not_eq_true'] at hb); (try simp only [Bool.not_eq_false'] at hb); (try (exfalso; first | contradiction | omega))))))
            | (refine S_move rfl rfl ?_)
            | (refine S_assign rfl rfl ?_)
            | (refine gCall ?_; (first
                | (refine S_callN (f := 60) rfl T.pf60 rfl (fun w hst => isSet_l x h1 w (by first | (refine Rds.given hst ?_; assumption) | (apply Rds.many hst; (focus ((repeat (first | exact List.Mem.head _ | refine List.Mem.tail _ ?_)); done))) | (apply Rds.row hst; (focus ((repeat (first | exact List.Mem.head _ | refine List.Mem.tail _ ?_)); done))))) rfl ?_)
                | (refine S_callN (f := 60) rfl T.pf60 rfl (fun w hst => isSet_l o h2 w (by first | (refine Rds.given hst ?_; assumption) | (apply Rds.many hst; (focus ((repeat (first | exact List.Mem.head _ | refine List.Mem.tail _ ?_)); done))) | (apply Rds.row hst; (focus ((repeat (first | exact List.Mem.head _ | refine List.Mem.tail _ ?_)); done))))) rfl ?_)))
            | (refine gPick ?_; (first
                | (refine S_pickT rfl rfl rfl ?_)
                | (refine S_pickF rfl rfl rfl ?_)))
            | (apply S_alloc rfl (hd := rfl); exact T.zc25; intro kb)
            | (apply F_build2 rfl (hd := rfl); exact T.st25; (focus ((repeat (first | exact BuildR.nil | (apply BuildR.cons; (first | exact T.fs25_0 | exact T.fs25_1); rfl; rfl; (focus ((repeat (first | exact SetSeg.nil | apply SetSeg.here | apply SetSeg.there)); done))) | (apply BuildR.cons1; (first | exact T.fs25_0 | exact T.fs25_1); (focus assumption); (focus ((repeat (first | exact SetSeg.nil | apply SetSeg.here | apply SetSeg.there)); done))))); done)))
            | (refine S_not rfl rfl ?_)
            | (refine S_done ?_)))
        | (refine gC ?_; (first
            | (refine C_seq ?_)
            | (refine gReg ?_; (first
                | (refine gReg (i := 0) ?_; refine C_plain [(0, 0)] (by kernel_rfl) (s := [⟨0, none, _, _, _⟩]) rfl ?_)
                | (refine gReg (i := 1) ?_; refine C_plain [(0, 0), (1, 2), (2, 0), (3, 0), (4, 0), (5, 2), (6, 0), (7, 0)] (by kernel_rfl) (s := [⟨0, none, _, _, _⟩, ⟨2, none, _, _, _⟩, ⟨0, none, _, _, _⟩, ⟨0, none, _, _, _⟩, ⟨0, some (8, false), _, _, _⟩, ⟨2, some (8, false), _, _, _⟩, ⟨0, some (8, false), _, _, _⟩, ⟨0, none, _, _, _⟩]) rfl ?_)
                | (refine gReg (i := 2) ?_; refine C_plain [(0, 0)] (by kernel_rfl) (s := [⟨0, none, _, _, _⟩]) rfl ?_)
                | (refine gReg (i := 3) ?_; refine C_plain [(0, 0), (1, 0), (2, 0), (3, 2), (4, 0)] (by kernel_rfl) (s := [⟨0, none, _, _, _⟩, ⟨0, none, _, _, _⟩, ⟨0, none, _, _, _⟩, ⟨2, none, _, _, _⟩, ⟨0, none, _, _, _⟩]) rfl ?_)))
            | (refine C_true rfl ?_)
            | (refine C_false rfl ?_)
            | (refine C_split rfl ?_ ?_ <;> (intro hb; (try simp only [decide_eq_true_eq] at hb); (try simp only [decide_eq_false_iff_not] at hb); (try simp only [Bool.not_eq_true'] at hb); (try simp only [Bool.not_eq_false'] at hb); (try (exfalso; first | contradiction | omega))))
            | (refine C_skip ?_)
            | (refine C_exit ?_)
            | (refine C_ret ?_)
            | (refine C_block ?_)))
        | (refine gE ?_; (first
            | (refine E_then ?_)
            | (refine E_thenX ?_)
            | (refine E_thenR ?_)
            | (refine E_block ?_)
            | (refine E_blockY ?_)
            | (refine E_blockR ?_)
            | (refine E_calm ?_)
            | (refine E_blockX rfl ?_)
            | (apply E_ret1 rfl; (first | exact Res.tmp rfl | (apply R_cellAll rfl; (focus ((repeat (first | exact List.Mem.head _ | refine List.Mem.tail _ ?_)); done)); fail) | (apply R_cell1 rfl; (focus ((repeat (first | exact List.Mem.head _ | refine List.Mem.tail _ ?_)); done)); fail)))
            | (apply E_ret2 rfl; (first | exact Res.tmp rfl | (apply R_cellAll rfl; (focus ((repeat (first | exact List.Mem.head _ | refine List.Mem.tail _ ?_)); done)); fail) | (apply R_cell1 rfl; (focus ((repeat (first | exact List.Mem.head _ | refine List.Mem.tail _ ?_)); done)); fail)); (first | exact Res.tmp rfl | (apply R_cellAll rfl; (focus ((repeat (first | exact List.Mem.head _ | refine List.Mem.tail _ ?_)); done)); fail) | (apply R_cell1 rfl; (focus ((repeat (first | exact List.Mem.head _ | refine List.Mem.tail _ ?_)); done)); fail)))
            | (apply E_ret3 rfl; (first | exact Res.tmp rfl | (apply R_cellAll rfl; (focus ((repeat (first | exact List.Mem.head _ | refine List.Mem.tail _ ?_)); done)); fail) | (apply R_cell1 rfl; (focus ((repeat (first | exact List.Mem.head _ | refine List.Mem.tail _ ?_)); done)); fail)); (first | exact Res.tmp rfl | (apply R_cellAll rfl; (focus ((repeat (first | exact List.Mem.head _ | refine List.Mem.tail _ ?_)); done)); fail) | (apply R_cell1 rfl; (focus ((repeat (first | exact List.Mem.head _ | refine List.Mem.tail _ ?_)); done)); fail)); (first | exact Res.tmp rfl | (apply R_cellAll rfl; (focus ((repeat (first | exact List.Mem.head _ | refine List.Mem.tail _ ?_)); done)); fail) | (apply R_cell1 rfl; (focus ((repeat (first | exact List.Mem.head _ | refine List.Mem.tail _ ?_)); done)); fail))))))
      refine retX (.slice none 0 0, []) ?_ rfl (Ent.trans (Ent.ghost 25 2) ?_)
      · simp [outN, h2]
      · exact (by (focus (apply Ent.flat; (simp only [List.length_append, List.length_cons, List.length_nil, Nat.zero_add, flat_many, flat_row, flat_blk, flat_append, flat_nil, List.map_append, List.map_cons, List.map_nil, List.flatMap_append, List.flatMap_cons, List.flatMap_nil, List.append_assoc, List.append_nil, List.nil_append, List.cons_append, Row.blk_mk, rwSNetPrefix, rwSuint8]); ((repeat (first | exact Pull.nil | (apply Pull.app; (focus ((repeat (first | exact PickA.here | exact PickA.all | apply PickA.there | apply PickA.over)); done))) | (apply Pull.cons; (focus ((repeat (first | exact Pick.here | exact Pick.last | apply Pick.there | apply Pick.over)); done))) | (apply Pull.atom; (focus ((repeat (first | exact PickA.here | exact PickA.all | apply PickA.there | apply PickA.over)); done))))); done))))
    · obtain ⟨a1, l1⟩ := setOk_t h1
      obtain ⟨a2, l2⟩ := setOk_t h2
      have hk : ((0, 0) : MNetPrefix).2 + ((16 : Nat) : Int) = 16 := rfl
      refine enter (n := 17) (E := [(0, _), (1, _)]) Try.func33 rfl rfl rfl rfl ?_
      repeat' (first
        | (refine gS ?_; (first
            | (refine gGuard ?_; (first
                | (refine S_on rfl ?_)
                | (refine S_off rfl rfl rfl ?_)
                | (refine S_offn rfl rfl ?_)
                | (refine S_offU rfl rfl ?_)
                | (refine S_offUn rfl ?_)
                | (refine S_gsplit rfl ?_ ?_ <;> (intro hb; (try simp only [decide_eq_true_eq] at hb); (try simp only [decide_eq_false_iff_not] at hb); (try simp only [Bool.not_eq_true'] at hb); (try simp only [Bool.not_eq_false'] at hb); (try (exfalso; first | contradiction | omega))))))
            | (refine S_move rfl rfl ?_)
            | (refine S_assign rfl rfl ?_)
            | (refine gCall ?_; (first
                | (refine S_callN (f := 60) rfl T.pf60 rfl (fun w hst => isSet_l x h1 w (by first | (refine Rds.given hst ?_; assumption) | (apply Rds.many hst; (focus ((repeat (first | exact List.Mem.head _ | refine List.Mem.tail _ ?_)); done))) | (apply Rds.row hst; (focus ((repeat (first | exact List.Mem.head _ | refine List.Mem.tail _ ?_)); done))))) rfl ?_)
                | (refine S_callN (f := 60) rfl T.pf60 rfl (fun w hst => isSet_l o h2 w (by first | (refine Rds.given hst ?_; assumption) | (apply Rds.many hst; (focus ((repeat (first | exact List.Mem.head _ | refine List.Mem.tail _ ?_)); done))) | (apply Rds.row hst; (focus ((repeat (first | exact List.Mem.head _ | refine List.Mem.tail _ ?_)); done))))) rfl ?_)
                | (refine S_callX (f := 61) rfl T.pf61 rfl (fun w hst => diff_c 16 (0, 0) x o zero_ok hk a1 a2 l1 l2 w (by first | (refine Rds.given hst ?_; assumption) | (apply Rds.many hst; (focus ((repeat (first | exact List.Mem.head _ | refine List.Mem.tail _ ?_)); done))) | (apply Rds.row hst; (focus ((repeat (first | exact List.Mem.head _ | refine List.Mem.tail _ ?_)); done)))) (by first | (refine Rds.given hst ?_; assumption) | (apply Rds.many hst; (focus ((repeat (first | exact List.Mem.head _ | refine List.Mem.tail _ ?_)); done))) | (apply Rds.row hst; (focus ((repeat (first | exact List.Mem.head _ | refine List.Mem.tail _ ?_)); done))))) rfl (fun zz hzz => ?_); simp only [List.cons_append, List.nil_append]; revert hzz; revert zz; intro z hz; refine S_unrow ?_)))
            | (refine gPick ?_; (first
                | (refine S_pickT rfl rfl rfl ?_)
                | (refine S_pickF rfl rfl rfl ?_)))
            | (apply S_alloc rfl (hd := rfl); exact T.zc25; intro kb)
            | (apply F_build2 rfl (hd := rfl); exact T.st25; (focus ((repeat (first | exact BuildR.nil | (apply BuildR.cons; (first | exact T.fs25_0 | exact T.fs25_1); rfl; rfl; (focus ((repeat (first | exact SetSeg.nil | apply SetSeg.here | apply SetSeg.there)); done))) | (apply BuildR.cons1; (first | exact T.fs25_0 | exact T.fs25_1); (focus assumption); (focus ((repeat (first | exact SetSeg.nil | apply SetSeg.here | apply SetSeg.there)); done))))); done)))
            | (refine S_not rfl rfl ?_)
            | (refine S_done ?_)))
        | (refine gC ?_; (first
            | (refine C_seq ?_)
            | (refine gReg ?_; (first
                | (refine gReg (i := 0) ?_; refine C_plain [(0, 0)] (by kernel_rfl) (s := [⟨0, none, _, _, _⟩]) rfl ?_)
                | (refine gReg (i := 1) ?_; refine C_plain [(0, 0), (1, 2), (2, 0), (3, 0), (4, 0), (5, 2), (6, 0), (7, 0)] (by kernel_rfl) (s := [⟨0, none, _, _, _⟩, ⟨2, none, _, _, _⟩, ⟨0, none, _, _, _⟩, ⟨0, none, _, _, _⟩, ⟨0, some (8, false), _, _, _⟩, ⟨2, some (8, false), _, _, _⟩, ⟨0, some (8, false), _, _, _⟩, ⟨0, none, _, _, _⟩]) rfl ?_)
                | (refine gReg (i := 2) ?_; refine C_plain [(0, 0)] (by kernel_rfl) (s := [⟨0, none, _, _, _⟩]) rfl ?_)
                | (refine gReg (i := 3) ?_; refine C_plain [(0, 0), (1, 0), (2, 0), (3, 2), (4, 0)] (by kernel_rfl) (s := [⟨0, none, _, _, _⟩, ⟨0, none, _, _, _⟩, ⟨0, none, _, _, _⟩, ⟨2, none, _, _, _⟩, ⟨0, none, _, _, _⟩]) rfl ?_)))
            | (refine C_true rfl ?_)
            | (refine C_false rfl ?_)
            | (refine C_split rfl ?_ ?_ <;> (intro hb; (try simp only [decide_eq_true_eq] at hb); (try simp only [decide_eq_false_iff_not] at hb); (try simp only [Bool.not_eq_true'] at hb); (try simp only [Bool.not_eq_false'] at hb); (try (exfalso; first | contradiction | omega))))
            | (refine C_skip ?_)
            | (refine C_exit ?_)
            | (refine C_ret ?_)
            | (refine C_block ?_)))
        | (refine gE ?_; (first
            | (refine E_then ?_)
            | (refine E_thenX ?_)
            | (refine E_thenR ?_)
            | (refine E_block ?_)
            | (refine E_blockY ?_)
            | (refine E_blockR ?_)
            | (refine E_calm ?_)
            | (refine E_blockX rfl ?_)
            | (apply E_ret1 rfl; (first | exact Res.tmp rfl | (apply R_cellAll rfl; (focus ((repeat (first | exact List.Mem.head _ | refine List.Mem.tail _ ?_)); done)); fail) | (apply R_cell1 rfl; (focus ((repeat (first | exact List.Mem.head _ | refine List.Mem.tail _ ?_)); done)); fail)))
            | (apply E_ret2 rfl; (first | exact Res.tmp rfl | (apply R_cellAll rfl; (focus ((repeat (first | exact List.Mem.head _ | refine List.Mem.tail _ ?_)); done)); fail) | (apply R_cell1 rfl; (focus ((repeat (first | exact List.Mem.head _ | refine List.Mem.tail _ ?_)); done)); fail)); (first | exact Res.tmp rfl | (apply R_cellAll rfl; (focus ((repeat (first | exact List.Mem.head _ | refine List.Mem.tail _ ?_)); done)); fail) | (apply R_cell1 rfl; (focus ((repeat (first | exact List.Mem.head _ | refine List.Mem.tail _ ?_)); done)); fail)))
            | (apply E_ret3 rfl; (first | exact Res.tmp rfl | (apply R_cellAll rfl; (focus ((repeat (first | exact List.Mem.head _ | refine List.Mem.tail _ ?_)); done)); fail) | (apply R_cell1 rfl; (focus ((repeat (first | exact List.Mem.head _ | refine List.Mem.tail _ ?_)); done)); fail)); (first | exact Res.tmp rfl | (apply R_cellAll rfl; (focus ((repeat (first | exact List.Mem.head _ | refine List.Mem.tail _ ?_)); done)); fail) | (apply R_cell1 rfl; (focus ((repeat (first | exact List.Mem.head _ | refine List.Mem.tail _ ?_)); done)); fail)); (first | exact Res.tmp rfl | (apply R_cellAll rfl; (focus ((repeat (first | exact List.Mem.head _ | refine List.Mem.tail _ ?_)); done)); fail) | (apply R_cell1 rfl; (focus ((repeat (first | exact List.Mem.head _ | refine List.Mem.tail _ ?_)); done)); fail))))))
      refine retX z ?_ rfl ?_
      · rw [hz, outN, if_pos ⟨h1, h2⟩]
      · exact (by (focus (apply Ent.flat; (simp only [List.length_append, List.length_cons, List.length_nil, Nat.zero_add, flat_many, flat_row, flat_blk, flat_append, flat_nil, List.map_append, List.map_cons, List.map_nil, List.flatMap_append, List.flatMap_cons, List.flatMap_nil, List.append_assoc, List.append_nil, List.nil_append, List.cons_append, Row.blk_mk, rwSNetPrefix, rwSuint8]); ((repeat (first | exact Pull.nil | (apply Pull.app; (focus ((repeat (first | exact PickA.here | exact PickA.all | apply PickA.there | apply PickA.over)); done))) | (apply Pull.cons; (focus ((repeat (first | exact Pick.here | exact Pick.last | apply Pick.there | apply Pick.over)); done))) | (apply Pull.atom; (focus ((repeat (first | exact PickA.here | exact PickA.all | apply PickA.there | apply PickA.over)); done))))); done))))
theorem specNetWithout_c (x o : MSNetPrefix) (w : World) (hx : Rds w (rwSNetPrefix x)) (ho : Rds w (rwSNetPrefix o)) : Calls Try.prog 32 #[x.1, o.1] w (RetX (fun y : MSNetPrefix => y.2 = outN x.2 o.2) (fun y => y.1) (fun y => [.many (rwSNetPrefix y)]) w) := by
  cases h1 : setOk x.2
  · obtain ⟨b, h2⟩ : ∃ b, setOk o.2 = b := ⟨_, rfl⟩
    refine enter (n := 18) (E := [(0, _), (1, _)]) Try.func32 rfl rfl rfl rfl ?_
    repeat' (first
      | (refine gS ?_; (first
          | (refine gGuard ?_; (first
              | (refine S_on rfl ?_)
              | (refine S_off rfl rfl rfl ?_)
              | (refine S_offn rfl rfl ?_)
              | (refine S_offU rfl rfl ?_)
              | (refine S_offUn rfl ?_)
              | (refine S_gsplit rfl ?_ ?_ <;> (intro hb; (try simp only [decide_eq_true_eq] at hb); (try simp only [decide_eq_false_iff_not] at hb); (try simp only [Bool.not_eq_true'] at hb); (try simp only [Bool.not_eq_false'] at hb); (try (exfalso; first | contradiction | omega))))))
          | (refine S_move rfl rfl ?_)
          | (refine S_assign rfl rfl ?_)
          | (apply F_bs0 rfl rfl; exact T.el37; rfl; intro sv; (try (refine S_fact (row_one (v := sv) (by (focus ((repeat (first | exact List.Mem.head _ | refine List.Mem.tail _ ?_)); done)))) (fun hone => ?_))))
          | (apply F_bs rfl rfl; exact T.el37; rfl; rfl; rfl; rfl; (focus ((repeat (first | exact Dense.nil | (apply Dense.cons; rfl; rfl))); done)); intro sv; (try (refine S_fact (row_one (v := sv) (by (focus ((repeat (first | exact List.Mem.head _ | refine List.Mem.tail _ ?_)); done)))) (fun hone => ?_))))
          | (refine gCall ?_; (first
              | (refine S_callN (f := 58) rfl T.pf58 rfl (fun w hst => specOk_l x h1 w (by first | (refine Rds.given hst ?_; assumption) | (apply Rds.many hst; (focus ((repeat (first | exact List.Mem.head _ | refine List.Mem.tail _ ?_)); done))) | (apply Rds.row hst; (focus ((repeat (first | exact List.Mem.head _ | refine List.Mem.tail _ ?_)); done))))) rfl ?_)
              | (refine S_callN (f := 58) rfl T.pf58 rfl (fun w hst => specOk_l o h2 w (by first | (refine Rds.given hst ?_; assumption) | (apply Rds.many hst; (focus ((repeat (first | exact List.Mem.head _ | refine List.Mem.tail _ ?_)); done))) | (apply Rds.row hst; (focus ((repeat (first | exact List.Mem.head _ | refine List.Mem.tail _ ?_)); done))))) rfl ?_)))
          | (refine gPick ?_; (first
              | (refine S_pickT rfl rfl rfl ?_)
              | (refine S_pickF rfl rfl rfl ?_)))
          | (apply S_alloc rfl (hd := rfl); exact T.zc25; intro kb)
          | (apply F_build2 rfl (hd := rfl); exact T.st25; (focus ((repeat (first | exact BuildR.nil | (apply BuildR.cons; (first | exact T.fs25_0 | exact T.fs25_1); rfl; rfl; (focus ((repeat (first | exact SetSeg.nil | apply SetSeg.here | apply SetSeg.there)); done))) | (apply BuildR.cons1; (first | exact T.fs25_0 | exact T.fs25_1); (focus assumption); (focus ((repeat (first | exact SetSeg.nil | apply SetSeg.here | apply SetSeg.there)); done))))); done)))
          | (refine S_not rfl rfl ?_)
          | (refine S_done ?_)))
      | (refine gC ?_; (first
          | (refine C_seq ?_)
          | (refine gReg ?_; (first
              | (refine gReg (i := 0) ?_; refine C_plain [(0, 0)] (by kernel_rfl) (s := [⟨0, none, _, _, _⟩]) rfl ?_)
              | (refine gReg (i := 1) ?_; refine C_plain [(0, 0), (1, 2), (2, 0), (3, 0), (4, 0), (5, 2), (6, 0), (7, 0)] (by kernel_rfl) (s := [⟨0, none, _, _, _⟩, ⟨2, none, _, _, _⟩, ⟨0, none, _, _, _⟩, ⟨0, none, _, _, _⟩, ⟨0, some (8, false), _, _, _⟩, ⟨2, some (8, false), _, _, _⟩, ⟨0, some (8, false), _, _, _⟩, ⟨0, none, _, _, _⟩]) rfl ?_)
              | (refine gReg (i := 2) ?_; refine C_plain [(0, 2), (1, 0)] (by kernel_rfl) (s := [⟨2, none, _, _, _⟩, ⟨0, none, _, _, _⟩]) rfl ?_)
              | (refine gReg (i := 3) ?_; refine C_plain [(0, 0), (1, 0), (2, 0), (3, 2), (4, 0)] (by kernel_rfl) (s := [⟨0, none, _, _, _⟩, ⟨0, none, _, _, _⟩, ⟨0, none, _, _, _⟩, ⟨2, none, _, _, _⟩, ⟨0, none, _, _, _⟩]) rfl ?_)))
          | (refine C_true rfl ?_)
          | (refine C_false rfl ?_)
          | (refine C_split rfl ?_ ?_ <;> (intro hb; (try simp only [decide_eq_true_eq] at hb); (try simp only [decide_eq_false_iff_not] at hb); (try simp only [Bool.not_eq_true'] at hb); (try simp only [Bool.not_eq_false'] at hb); (try (exfalso; first | contradiction | omega))))
          | (refine C_skip ?_)
          | (refine C_exit ?_)
          | (refine C_ret ?_)
          | (refine C_block ?_)))
      | (refine gE ?_; (first
          | (refine E_then ?_)
          | (refine E_thenX ?_)
          | (refine E_thenR ?_)
          | (refine E_block ?_)
          | (refine E_blockY ?_)
          | (refine E_blockR ?_)
          | (refine E_calm ?_)
          | (refine E_blockX rfl ?_)
          | (apply E_ret1 rfl; (first | exact Res.tmp rfl | (apply R_cellAll rfl; (focus ((repeat (first | exact List.Mem.head _ | refine List.Mem.tail _ ?_)); done)); fail) | (apply R_cell1 rfl; (focus ((repeat (first | exact List.Mem.head _ | refine List.Mem.tail _ ?_)); done)); fail)))
          | (apply E_ret2 rfl; (first | exact Res.tmp rfl | (apply R_cellAll rfl; (focus ((repeat (first | exact List.Mem.head _ | refine List.Mem.tail _ ?_)); done)); fail) | (apply R_cell1 rfl; (focus ((repeat (first | exact List.Mem.head _ | refine List.Mem.tail _ ?_)); done)); fail)); (first | exact Res.tmp rfl | (apply R_cellAll rfl; (focus ((repeat (first | exact List.Mem.head _ | refine List.Mem.tail _ ?_)); done)); fail) | (apply R_cell1 rfl; (focus ((repeat (first | exact List.Mem.head _ | refine List.Mem.tail _ ?_)); done)); fail)))
          | (apply E_ret3 rfl; (first | exact Res.tmp rfl | (apply R_cellAll rfl; (focus ((repeat (first | exact List.Mem.head _ | refine List.Mem.tail _ ?_)); done)); fail) | (apply R_cell1 rfl; (focus ((repeat (first | exact List.Mem.head _ | refine List.Mem.tail _ ?_)); done)); fail)); (first | exact Res.tmp rfl | (apply R_cellAll rfl; (focus ((repeat (first | exact List.Mem.head _ | refine List.Mem.tail _ ?_)); done)); fail) | (apply R_cell1 rfl; (focus ((repeat (first | exact List.Mem.head _ | refine List.Mem.tail _ ?_)); done)); fail)); (first | exact Res.tmp rfl | (apply R_cellAll rfl; (focus ((repeat (first | exact List.Mem.head _ | refine List.Mem.tail _ ?_)); done)); fail) | (apply R_cell1 rfl; (focus ((repeat (first | exact List.Mem.head _ | refine List.Mem.tail _ ?_)); done)); fail))))))
    refine retX (sv, []) ?_ rfl ?_
    · simp [outN, h1]
    · exact (by (focus (apply Ent.flat; (simp only [List.length_append, List.length_cons, List.length_nil, Nat.zero_add, flat_many, flat_row, flat_blk, flat_append, flat_nil, List.map_append, List.map_cons, List.map_nil, List.flatMap_append, List.flatMap_cons, List.flatMap_nil, List.append_assoc, List.append_nil, List.nil_append, List.cons_append, Row.blk_mk, rwSNetPrefix, rwSuint8]); ((repeat (first | exact Pull.nil | (apply Pull.app; (focus ((repeat (first | exact PickA.here | exact PickA.all | apply PickA.there | apply PickA.over)); done))) | (apply Pull.cons; (focus ((repeat (first | exact Pick.here | exact Pick.last | apply Pick.there | apply Pick.over)); done))) | (apply Pull.atom; (focus ((repeat (first | exact PickA.here | exact PickA.all | apply PickA.there | apply PickA.over)); done))))); done))))
  · cases h2 : setOk o.2
    · have := h2
      refine enter (n := 18) (E := [(0, _), (1, _)]) Try.func32 rfl rfl rfl rfl ?_
      repeat' (first
        | (refine gS ?_; (first
            | (refine gGuard ?_; (first
                | (refine S_on rfl ?_)
                | (refine S_off rfl rfl rfl ?_)
                | (refine S_offn rfl rfl ?_)
                | (refine S_offU rfl rfl ?_)
                | (refine S_offUn rfl ?_)
                | (refine S_gsplit rfl ?_ ?_ <;> (intro hb; (try simp only [decide_eq_true_eq] at hb); (try simp only [decide_eq_false_iff_not] at hb); (try simp only [Bool.not_eq_true'] at hb); (try simp only [Bool.not_eq_false'] at hb); (try (exfalso; first | contradiction | omega))))))
            | (refine S_move rfl rfl ?_)
            | (refine S_assign rfl rfl ?_)
            | (apply F_bs0 rfl rfl; exact T.el37; rfl; intro sv; (try (refine S_fact (row_one (v := sv) (by (focus ((repeat (first | exact List.Mem.head _ | refine List.Mem.tail _ ?_)); done)))) (fun hone => ?_))))
            | (apply F_bs rfl rfl; exact T.el37; rfl; rfl; rfl; rfl; (focus ((repeat (first | exact Dense.nil | (apply Dense.cons; rfl; rfl))); done)); intro sv; (try (refine S_fact (row_one (v := sv) (by (focus ((repeat (first | exact List.Mem.head _ | refine List.Mem.tail _ ?_)); done)))) (fun hone => ?_))))
            | (refine gCall ?_; (first
                | (refine S_callN (f := 58) rfl T.pf58 rfl (fun w hst => specOk_l x h1 w (by first | (refine Rds.given hst ?_; assumption) | (apply Rds.many hst; (focus ((repeat (first | exact List.Mem.head _ | refine List.Mem.tail _ ?_)); done))) | (apply Rds.row hst; (focus ((repeat (first | exact List.Mem.head _ | refine List.Mem.tail _ ?_)); done))))) rfl ?_)
                | (refine S_callN (f := 58) rfl T.pf58 rfl (fun w hst => specOk_l o h2 w (by first | (refine Rds.given hst ?_; assumption) | (apply Rds.many hst; (focus ((repeat (first | exact List.Mem.head _ | refine List.Mem.tail _ ?_)); done))) | (apply Rds.row hst; (focus ((repeat (first | exact List.Mem.head _ | refine List.Mem.tail _ ?_)); done))))) rfl ?_)))
            | (refine gPick ?_; (first
                | (refine S_pickT rfl rfl rfl ?_)
                | (refine S_pickF rfl rfl rfl ?_)))
            | (apply S_alloc rfl (hd := rfl); exact T.zc25; intro kb)
            | (apply F_build2 rfl (hd := rfl); exact T.st25; (focus ((repeat (first | exact BuildR.nil | (apply BuildR.cons; (first | exact T.fs25_0 | exact T.fs25_1); rfl; rfl; (focus ((repeat (first | exact SetSeg.nil | apply SetSeg.here | apply SetSeg.there)); done))) | (apply BuildR.cons1; (first | exact T.fs25_0 | exact T.fs25_1); (focus assumption); (focus ((repeat (first | exact SetSeg.nil | apply SetSeg.here | apply SetSeg.there)); done))))); done)))
            | (refine S_not rfl rfl ?_)
            | (refine S_done ?_)))
        | (refine gC ?_; (first
            | (refine C_seq ?_)
            | (refine gReg ?_; (first
                | (refine gReg (i := 0) ?_; refine C_plain [(0, 0)] (by kernel_rfl) (s := [⟨0, none, _, _, _⟩]) rfl ?_)
                | (refine gReg (i := 1) ?_; refine C_plain [(0, 0), (1, 2), (2, 0), (3, 0), (4, 0), (5, 2), (6, 0), (7, 0)] (by kernel_rfl) (s := [⟨0, none, _, _, _⟩, ⟨2, none, _, _, _⟩, ⟨0, none, _, _, _⟩, ⟨0, none, _, _, _⟩, ⟨0, some (8, false), _, _, _⟩, ⟨2, some (8, false), _, _, _⟩, ⟨0, some (8, false), _, _, _⟩, ⟨0, none, _, _, _⟩]) rfl ?_)
                | (refine gReg (i := 2) ?_; refine C_plain [(0, 2), (1, 0)] (by kernel_rfl) (s := [⟨2, none, _, _, _⟩, ⟨0, none, _, _, _⟩]) rfl ?_)
                | (refine gReg (i := 3) ?_; refine C_plain [(0, 0), (1, 0), (2, 0), (3, 2), (4, 0)] (by kernel_rfl) (s := [⟨0, none, _, _, _⟩, ⟨0, none, _, _, _⟩, ⟨0, none, _, _, _⟩, ⟨2, none, _, _, _⟩, ⟨0, none, _, _, _⟩]) rfl ?_)))
            | (refine C_true rfl ?_)
            | (refine C_false rfl ?_)
            | (refine C_split rfl ?_ ?_ <;> (intro hb; (try simp only [decide_eq_true_eq] at hb); (try simp only [decide_eq_false_iff_not] at hb); (try simp only [Bool.not_eq_true'] at hb); (try simp only [Bool.not_eq_false'] at hb); (try (exfalso; first | contradiction | omega))))
            | (refine C_skip ?_)
            | (refine C_exit ?_)
            | (refine C_ret ?_)
            | (refine C_block ?_)))
        | (refine gE ?_; (first
            | (refine E_then ?_)
            | (refine E_thenX ?_)
            | (refine E_thenR ?_)
            | (refine E_block ?_)
            | (refine E_blockY ?_)
            | (refine E_blockR ?_)
            | (refine E_calm ?_)
            | (refine E_blockX rfl ?_)
            | (apply E_ret1 rfl; (first | exact Res.tmp rfl | (apply R_cellAll rfl; (focus ((repeat (first | exact List.Mem.head _ | refine List.Mem.tail _ ?_)); done)); fail) | (apply R_cell1 rfl; (focus ((repeat (first | exact List.Mem.head _ | refine List.Mem.tail _ ?_)); done)); fail)))
            | (apply E_ret2 rfl; (first | exact Res.tmp rfl | (apply R_cellAll rfl; (focus ((repeat (first | exact List.Mem.head _ | refine List.Mem.tail _ ?_)); done)); fail) | (apply R_cell1 rfl; (focus ((repeat (first | exact List.Mem.head _ | refine List.Mem.tail _ ?_)); done)); fail)); (first | exact Res.tmp rfl | (apply R_cellAll rfl; (focus ((repeat (first | exact List.Mem.head _ | refine List.Mem.tail _ ?_)); done)); fail) | (apply R_cell1 rfl; (focus ((repeat (first | exact List.Mem.head _ | refine List.Mem.tail _ ?_)); done)); fail)))
            | (apply E_ret3 rfl; (first | exact Res.tmp rfl | (apply R_cellAll rfl; (focus ((repeat (first | exact List.Mem.head _ | refine List.Mem.tail _ ?_)); done)); fail) | (apply R_cell1 rfl; (focus ((repeat (first | exact List.Mem.head _ | refine List.Mem.tail _ ?_)); done)); fail)); (first | exact Res.tmp rfl | (apply R_cellAll rfl; (focus ((repeat (first | exact List.Mem.head _ | refine List.Mem.tail _ ?_)); done)); fail) | (apply R_cell1 rfl; (focus ((repeat (first | exact List.Mem.head _ | refine List.Mem.tail _ ?_)); done)); fail)); (first | exact Res.tmp rfl | (apply R_cellAll rfl; (focus ((repeat (first | exact List.Mem.head _ | refine List.Mem.tail _ ?_)); done)); fail) | (apply R_cell1 rfl; (focus ((repeat (first | exact List.Mem.head _ | refine List.Mem.tail _ ?_)); done)); fail))))))
      refine retX (sv, []) ?_ rfl ?_
      · simp [outN, h2]
      · exact (by (focus (apply Ent.flat; (simp only [List.length_append, List.length_cons, List.length_nil, Nat.zero_add, flat_many, flat_row, flat_blk, flat_append, flat_nil, List.map_append, List.map_cons, List.map_nil, List.flatMap_append, List.flatMap_cons, List.flatMap_nil, List.append_assoc, List.append_nil, List.nil_append, List.cons_append, Row.blk_mk, rwSNetPrefix, rwSuint8]); ((repeat (first | exact Pull.nil | (apply Pull.app; (focus ((repeat (first | exact PickA.here | exact PickA.all | apply PickA.there | apply PickA.over)); done))) | (apply Pull.cons; (focus ((repeat (first | exact Pick.here | exact Pick.last | apply Pick.there | apply Pick.over)); done))) | (apply Pull.atom; (focus ((repeat (first | exact PickA.here | exact PickA.all | apply PickA.there | apply PickA.over)); done))))); done))))
    · obtain ⟨a1, l1⟩ := setOk_t h1
      obtain ⟨a2, l2⟩ := setOk_t h2
      have hk : ((0, 0) : MNetPrefix).2 + ((16 : Nat) : Int) = 16 := rfl
      refine enter (n := 18) (E := [(0, _), (1, _)]) Try.func32 rfl rfl rfl rfl ?_
      repeat' (first
        | (refine gS ?_; (first
            | (refine gGuard ?_; (first
                | (refine S_on rfl ?_)
                | (refine S_off rfl rfl rfl ?_)
                | (refine S_offn rfl rfl ?_)
                | (refine S_offU rfl rfl ?_)
                | (refine S_offUn rfl ?_)
                | (refine S_gsplit rfl ?_ ?_ <;> (intro hb; (try simp only [decide_eq_true_eq] at hb); (try simp only [decide_eq_false_iff_not] at hb); (try simp only [Bool.not_eq_true'] at hb); (try simp only [Bool.not_eq_false'] at hb); (try (exfalso; first | contradiction | omega))))))
            | (refine S_move rfl rfl ?_)
            | (refine S_assign rfl rfl ?_)
            | (apply F_bs0 rfl rfl; exact T.el37; rfl; intro sv; (try (refine S_fact (row_one (v := sv) (by (focus ((repeat (first | exact List.Mem.head _ | refine List.Mem.tail _ ?_)); done)))) (fun hone => ?_))))
            | (apply F_bs rfl rfl; exact T.el37; rfl; rfl; rfl; rfl; (focus ((repeat (first | exact Dense.nil | (apply Dense.cons; rfl; rfl))); done)); intro sv; (try (refine S_fact (row_one (v := sv) (by (focus ((repeat (first | exact List.Mem.head _ | refine List.Mem.tail _ ?_)); done)))) (fun hone => ?_))))
            | (refine gCall ?_; (first
                | (refine S_callN (f := 58) rfl T.pf58 rfl (fun w hst => specOk_l x h1 w (by first | (refine Rds.given hst ?_; assumption) | (apply Rds.many hst; (focus ((repeat (first | exact List.Mem.head _ | refine List.Mem.tail _ ?_)); done))) | (apply Rds.row hst; (focus ((repeat (first | exact List.Mem.head _ | refine List.Mem.tail _ ?_)); done))))) rfl ?_)
                | (refine S_callN (f := 58) rfl T.pf58 rfl (fun w hst => specOk_l o h2 w (by first | (refine Rds.given hst ?_; assumption) | (apply Rds.many hst; (focus ((repeat (first | exact List.Mem.head _ | refine List.Mem.tail _ ?_)); done))) | (apply Rds.row hst; (focus ((repeat (first | exact List.Mem.head _ | refine List.Mem.tail _ ?_)); done))))) rfl ?_)
                | (refine S_callX (f := 59) rfl T.pf59 rfl (fun w hst => specPart_c 16 (0, 0) x o zero_ok hk a1 a2 l1 l2 w (by first | (refine Rds.given hst ?_; assumption) | (apply Rds.many hst; (focus ((repeat (first | exact List.Mem.head _ | refine List.Mem.tail _ ?_)); done))) | (apply Rds.row hst; (focus ((repeat (first | exact List.Mem.head _ | refine List.Mem.tail _ ?_)); done)))) (by first | (refine Rds.given hst ?_; assumption) | (apply Rds.many hst; (focus ((repeat (first | exact List.Mem.head _ | refine List.Mem.tail _ ?_)); done))) | (apply Rds.row hst; (focus ((repeat (first | exact List.Mem.head _ | refine List.Mem.tail _ ?_)); done))))) rfl (fun zz hzz => ?_); simp only [List.cons_append, List.nil_append]; revert hzz; revert zz; intro z hz; refine S_unrow ?_)))
            | (refine gPick ?_; (first
                | (refine S_pickT rfl rfl rfl ?_)
                | (refine S_pickF rfl rfl rfl ?_)))
            | (apply S_alloc rfl (hd := rfl); exact T.zc25; intro kb)
            | (apply F_build2 rfl (hd := rfl); exact T.st25; (focus ((repeat (first | exact BuildR.nil | (apply BuildR.cons; (first | exact T.fs25_0 | exact T.fs25_1); rfl; rfl; (focus ((repeat (first | exact SetSeg.nil | apply SetSeg.here | apply SetSeg.there)); done))) | (apply BuildR.cons1; (first | exact T.fs25_0 | exact T.fs25_1); (focus assumption); (focus ((repeat (first | exact SetSeg.nil | apply SetSeg.here | apply SetSeg.there)); done))))); done)))
            | (refine S_not rfl rfl ?_)
            | (refine S_done ?_)))
        | (refine gC ?_; (first
            | (refine C_seq ?_)
            | (refine gReg ?_; (first
                | (refine gReg (i := 0) ?_; refine C_plain [(0, 0)] (by kernel_rfl) (s := [⟨0, none, _, _, _⟩]) rfl ?_)
                | (refine gReg (i := 1) ?_; refine C_plain [(0, 0), (1, 2), (2, 0), (3, 0), (4, 0), (5, 2), (6, 0), (7, 0)] (by kernel_rfl) (s := [⟨0, none, _, _, _⟩, ⟨2, none, _, _, _⟩, ⟨0, none, _, _, _⟩, ⟨0, none, _, _, _⟩, ⟨0, some (8, false), _, _, _⟩, ⟨2, some (8, false), _, _, _⟩, ⟨0, some (8, false), _, _, _⟩, ⟨0, none, _, _, _⟩]) rfl ?_)
                | (refine gReg (i := 2) ?_; refine C_plain [(0, 2), (1, 0)] (by kernel_rfl) (s := [⟨2, none, _, _, _⟩, ⟨0, none, _, _, _⟩]) rfl ?_)
                | (refine gReg (i := 3) ?_; refine C_plain [(0, 0), (1, 0), (2, 0), (3, 2), (4, 0)] (by kernel_rfl) (s := [⟨0, none, _, _, _⟩, ⟨0, none, _, _, _⟩, ⟨0, none, _, _, _⟩, ⟨2, none, _, _, _⟩, ⟨0, none, _, _, _⟩]) rfl ?_)))
            | (refine C_true rfl ?_)
            | (refine C_false rfl ?_)
            | (refine C_split rfl ?_ ?_ <;> (intro hb; (try simp only [decide_eq_true_eq] at hb); (try simp only [decide_eq_false_iff_not] at hb); (try simp only [Bool.not_eq_true'] at hb); (try simp only [Bool.not_eq_false'] at hb); (try (exfalso; first | contradiction | omega))))
            | (refine C_skip ?_)
            | (refine C_exit ?_)
            | (refine C_ret ?_)
            | (refine C_block ?_)))
        | (refine gE ?_; (first
            | (refine E_then ?_)
            | (refine E_thenX ?_)
            | (refine E_thenR ?_)
            | (refine E_block ?_)
            | (refine E_blockY ?_)
            | (refine E_blockR ?_)
            | (refine E_calm ?_)
            | (refine E_blockX rfl ?_)
            | (apply E_ret1 rfl; (first | exact Res.tmp rfl | (apply R_cellAll rfl; (focus ((repeat (first | exact List.Mem.head _ | refine List.Mem.tail _ ?_)); done)); fail) | (apply R_cell1 rfl; (focus ((repeat (first | exact List.Mem.head _ | refine List.Mem.tail _ ?_)); done)); fail)))
            | (apply E_ret2 rfl; (first | exact Res.tmp rfl | (apply R_cellAll rfl; (focus ((repeat (first | exact List.Mem.head _ | refine List.Mem.tail _ ?_)); done)); fail) | (apply R_cell1 rfl; (focus ((repeat (first | exact List.Mem.head _ | refine List.Mem.tail _ ?_)); done)); fail)); (first | exact Res.tmp rfl | (apply R_cellAll rfl; (focus ((repeat (first | exact List.Mem.head _ | refine List.Mem.tail _ ?_)); done)); fail) | (apply R_cell1 rfl; (focus ((repeat (first | exact List.Mem.head _ | refine List.Mem.tail _ ?_)); done)); fail)))
            | (apply E_ret3 rfl; (first | exact Res.tmp rfl | (apply R_cellAll rfl; (focus ((repeat (first | exact List.Mem.head _ | refine List.Mem.tail _ ?_)); done)); fail) | (apply R_cell1 rfl; (focus ((repeat (first | exact List.Mem.head _ | refine List.Mem.tail _ ?_)); done)); fail)); (first | exact Res.tmp rfl | (apply R_cellAll rfl; (focus ((repeat (first | exact List.Mem.head _ | refine List.Mem.tail _ ?_)); done)); fail) | (apply R_cell1 rfl; (focus ((repeat (first | exact List.Mem.head _ | refine List.Mem.tail _ ?_)); done)); fail)); (first | exact Res.tmp rfl | (apply R_cellAll rfl; (focus ((repeat (first | exact List.Mem.head _ | refine List.Mem.tail _ ?_)); done)); fail) | (apply R_cell1 rfl; (focus ((repeat (first | exact List.Mem.head _ | refine List.Mem.tail _ ?_)); done)); fail))))))
      refine retX z ?_ rfl ?_
      · rw [hz, outN, if_pos ⟨h1, h2⟩]
      · exact (by (focus (apply Ent.flat; (simp only [List.length_append, List.length_cons, List.length_nil, Nat.zero_add, flat_many, flat_row, flat_blk, flat_append, flat_nil, List.map_append, List.map_cons, List.map_nil, List.flatMap_append, List.flatMap_cons, List.flatMap_nil, List.append_assoc, List.append_nil, List.nil_append, List.cons_append, Row.blk_mk, rwSNetPrefix, rwSuint8]); ((repeat (first | exact Pull.nil | (apply Pull.app; (focus ((repeat (first | exact PickA.here | exact PickA.all | apply PickA.there | apply PickA.over)); done))) | (apply Pull.cons; (focus ((repeat (first | exact Pick.here | exact Pick.last | apply Pick.there | apply Pick.over)); done))) | (apply Pull.atom; (focus ((repeat (first | exact PickA.here | exact PickA.all | apply PickA.there | apply PickA.over)); done))))); done))))
theorem rds_nil (w : World) : Rds w (rwSNetPrefix (.slice none 0 0, [])) := Rds.cons (mem_nil w 2) Rds.nil
theorem implNetCover_c (x : MSNetPrefix) (w : World) (hx : Rds w (rwSNetPrefix x)) : Calls Try.prog 37 #[x.1] w (RetX (fun y : MSNetPrefix => y.2 = outN x.2 []) (fun y => y.1) (fun y => [.many (rwSNetPrefix y)]) w) := by
  refine enter (n := 5) (E := [(0, _)]) Try.func37 rfl rfl rfl rfl ?_
  repeat' (first
    | (refine gS ?_; (first
        | (refine S_move rfl rfl ?_)
        | (refine S_assign rfl rfl ?_)
        | (refine gCall ?_; (first
            | (refine S_callX (f := 33) rfl T.pf33 rfl (fun w hst => implNetWithout_c x (.slice none 0 0, []) w (by first | (refine Rds.given hst ?_; assumption) | (apply Rds.many hst; (focus ((repeat (first | exact List.Mem.head _ | refine List.Mem.tail _ ?_)); done))) | (apply Rds.row hst; (focus ((repeat (first | exact List.Mem.head _ | refine List.Mem.tail _ ?_)); done)))) (rds_nil w)) rfl (fun zz hzz => ?_); simp only [List.cons_append, List.nil_append]; revert hzz; revert zz; intro z hz; refine S_unrow ?_)))
        | (refine S_done ?_)))
    | (refine gC ?_; (first
        | (refine C_seq ?_)
        | (refine gReg ?_; (first
            | (refine gReg (i := 0) ?_; refine C_plain [(0, 0)] (by kernel_rfl) (s := [⟨0, none, _, _, _⟩]) rfl ?_)
            | (refine gReg (i := 1) ?_; refine C_plain [(0, 0), (1, 2), (2, 0)] (by kernel_rfl) (s := [⟨0, none, _, _, _⟩, ⟨2, none, _, _, _⟩, ⟨0, none, _, _, _⟩]) rfl ?_)))
        | (refine C_true rfl ?_)
        | (refine C_false rfl ?_)
        | (refine C_split rfl ?_ ?_ <;> (intro hb; (try simp only [decide_eq_true_eq] at hb); (try simp only [decide_eq_false_iff_not] at hb); (try simp only [Bool.not_eq_true'] at hb); (try simp only [Bool.not_eq_false'] at hb); (try (exfalso; first | contradiction | omega))))
        | (refine C_skip ?_)
        | (refine C_exit ?_)
        | (refine C_ret ?_)
        | (refine C_block ?_)))
    | (refine gE ?_; (first
        | (refine E_then ?_)
        | (refine E_thenX ?_)
        | (refine E_thenR ?_)
        | (refine E_block ?_)
        | (refine E_blockY ?_)
        | (refine E_blockR ?_)
        | (refine E_calm ?_)
        | (refine E_blockX rfl ?_)
        | (apply E_ret1 rfl; (first | exact Res.tmp rfl | (apply R_cellAll rfl; (focus ((repeat (first | exact List.Mem.head _ | refine List.Mem.tail _ ?_)); done)); fail) | (apply R_cell1 rfl; (focus ((repeat (first | exact List.Mem.head _ | refine List.Mem.tail _ ?_)); done)); fail)))
        | (apply E_ret2 rfl; (first | exact Res.tmp rfl | (apply R_cellAll rfl; (focus ((repeat (first | exact List.Mem.head _ | refine List.Mem.tail _ ?_)); done)); fail) | (apply R_cell1 rfl; (focus ((repeat (first | exact List.Mem.head _ | refine List.Mem.tail _ ?_)); done)); fail)); (first | exact Res.tmp rfl | (apply R_cellAll rfl; (focus ((repeat (first | exact List.Mem.head _ | refine List.Mem.tail _ ?_)); done)); fail) | (apply R_cell1 rfl; (focus ((repeat (first | exact List.Mem.head _ | refine List.Mem.tail _ ?_)); done)); fail)))
        | (apply E_ret3 rfl; (first | exact Res.tmp rfl | (apply R_cellAll rfl; (focus ((repeat (first | exact List.Mem.head _ | refine List.Mem.tail _ ?_)); done)); fail) | (apply R_cell1 rfl; (focus ((repeat (first | exact List.Mem.head _ | refine List.Mem.tail _ ?_)); done)); fail)); (first | exact Res.tmp rfl | (apply R_cellAll rfl; (focus ((repeat (first | exact List.Mem.head _ | refine List.Mem.tail _ ?_)); done)); fail) | (apply R_cell1 rfl; (focus ((repeat (first | exact List.Mem.head _ | refine List.Mem.tail _ ?_)); done)); fail)); (first | exact Res.tmp rfl | (apply R_cellAll rfl; (focus ((repeat (first | exact List.Mem.head _ | refine List.Mem.tail _ ?_)); done)); fail) | (apply R_cell1 rfl; (focus ((repeat (first | exact List.Mem.head _ | refine List.Mem.tail _ ?_)); done)); fail))))))
  refine retX z hz rfl ?_
  exact (by (focus (apply Ent.flat; (simp only [List.length_append, List.length_cons, List.length_nil, Nat.zero_add, flat_many, flat_row, flat_blk, flat_append, flat_nil, List.map_append, List.map_cons, List.map_nil, List.flatMap_append, List.flatMap_cons, List.flatMap_nil, List.append_assoc, List.append_nil, List.nil_append, List.cons_append, Row.blk_mk, rwSNetPrefix, rwSuint8]); ((repeat (first | exact Pull.nil | (apply Pull.app; (focus ((repeat (first | exact PickA.here | exact PickA.all | apply PickA.there | apply PickA.over)); done))) | (apply Pull.cons; (focus ((repeat (first | exact Pick.here | exact Pick.last | apply Pick.there | apply Pick.over)); done))) | (apply Pull.atom; (focus ((repeat (first | exact PickA.here | exact PickA.all | apply PickA.there | apply PickA.over)); done))))); done))))
theorem setOk_nil : setOk [] = true := by unfold setOk; rfl
theorem specNetCover_c (x : MSNetPrefix) (w : World) (hx : Rds w (rwSNetPrefix x)) : Calls Try.prog 36 #[x.1] w (RetX (fun y : MSNetPrefix => y.2 = outN x.2 []) (fun y => y.1) (fun y => [.many (rwSNetPrefix y)]) w) := by
  have h2 := setOk_nil
  cases h1 : setOk x.2
  · have := h2
    refine enter (n := 11) (E := [(0, _)]) Try.func36 rfl rfl rfl rfl ?_
    repeat' (first
      | (refine gS ?_; (first
          | (refine S_move rfl rfl ?_)
          | (refine S_assign rfl rfl ?_)
          | (apply F_bs0 rfl rfl; exact T.el37; rfl; intro sv; (try (refine S_fact (row_one (v := sv) (by (focus ((repeat (first | exact List.Mem.head _ | refine List.Mem.tail _ ?_)); done)))) (fun hone => ?_))))
          | (apply F_bs rfl rfl; exact T.el37; rfl; rfl; rfl; rfl; (focus ((repeat (first | exact Dense.nil | (apply Dense.cons; rfl; rfl))); done)); intro sv; (try (refine S_fact (row_one (v := sv) (by (focus ((repeat (first | exact List.Mem.head _ | refine List.Mem.tail _ ?_)); done)))) (fun hone => ?_))))
          | (refine gCall ?_; (first
              | (refine S_callN (f := 58) rfl T.pf58 rfl (fun w hst => specOk_l x h1 w (by first | (refine Rds.given hst ?_; assumption) | (apply Rds.many hst; (focus ((repeat (first | exact List.Mem.head _ | refine List.Mem.tail _ ?_)); done))) | (apply Rds.row hst; (focus ((repeat (first | exact List.Mem.head _ | refine List.Mem.tail _ ?_)); done))))) rfl ?_)))
          | (apply S_alloc rfl (hd := rfl); exact T.zc25; intro kb)
          | (apply F_build2 rfl (hd := rfl); exact T.st25; (focus ((repeat (first | exact BuildR.nil | (apply BuildR.cons; (first | exact T.fs25_0 | exact T.fs25_1); rfl; rfl; (focus ((repeat (first | exact SetSeg.nil | apply SetSeg.here | apply SetSeg.there)); done))) | (apply BuildR.cons1; (first | exact T.fs25_0 | exact T.fs25_1); (focus assumption); (focus ((repeat (first | exact SetSeg.nil | apply SetSeg.here | apply SetSeg.there)); done))))); done)))
          | (refine S_not rfl rfl ?_)
          | (refine S_done ?_)))
      | (refine gC ?_; (first
          | (refine C_seq ?_)
          | (refine gReg ?_; (first
              | (refine gReg (i := 0) ?_; refine C_plain [(0, 0)] (by kernel_rfl) (s := [⟨0, none, _, _, _⟩]) rfl ?_)
              | (refine gReg (i := 1) ?_; refine C_plain [(0, 0), (1, 2), (2, 0)] (by kernel_rfl) (s := [⟨0, none, _, _, _⟩, ⟨2, none, _, _, _⟩, ⟨0, none, _, _, _⟩]) rfl ?_)
              | (refine gReg (i := 2) ?_; refine C_plain [(0, 2), (1, 0)] (by kernel_rfl) (s := [⟨2, none, _, _, _⟩, ⟨0, none, _, _, _⟩]) rfl ?_)
              | (refine gReg (i := 3) ?_; refine C_plain [(0, 0), (1, 0), (2, 2), (3, 2), (4, 0)] (by kernel_rfl) (s := [⟨0, none, _, _, _⟩, ⟨0, none, _, _, _⟩, ⟨2, none, _, _, _⟩, ⟨2, none, _, _, _⟩, ⟨0, none, _, _, _⟩]) rfl ?_)))
          | (refine C_true rfl ?_)
          | (refine C_false rfl ?_)
          | (refine C_split rfl ?_ ?_ <;> (intro hb; (try simp only [decide_eq_true_eq] at hb); (try simp only [decide_eq_false_iff_not] at hb); (try simp only [Bool.not_eq_true'] at hb); (try simp only [Bool.not_eq_false'] at hb); (try (exfalso; first | contradiction | omega))))
          | (refine C_skip ?_)
          | (refine C_exit ?_)
          | (refine C_ret ?_)
          | (refine C_block ?_)))
      | (refine gE ?_; (first
          | (refine E_then ?_)
          | (refine E_thenX ?_)
          | (refine E_thenR ?_)
          | (refine E_block ?_)
          | (refine E_blockY ?_)
          | (refine E_blockR ?_)
          | (refine E_calm ?_)
          | (refine E_blockX rfl ?_)
          | (apply E_ret1 rfl; (first | exact Res.tmp rfl | (apply R_cellAll rfl; (focus ((repeat (first | exact List.Mem.head _ | refine List.Mem.tail _ ?_)); done)); fail) | (apply R_cell1 rfl; (focus ((repeat (first | exact List.Mem.head _ | refine List.Mem.tail _ ?_)); done)); fail)))
          | (apply E_ret2 rfl; (first | exact Res.tmp rfl | (apply R_cellAll rfl; (focus ((repeat (first | exact List.Mem.head _ | refine List.Mem.tail _ ?_)); done)); fail) | (apply R_cell1 rfl; (focus ((repeat (first | exact List.Mem.head _ | refine List.Mem.tail _ ?_)); done)); fail)); (first | exact Res.tmp rfl | (apply R_cellAll rfl; (focus ((repeat (first | exact List.Mem.head _ | refine List.Mem.tail _ ?_)); done)); fail) | (apply R_cell1 rfl; (focus ((repeat (first | exact List.Mem.head _ | refine List.Mem.tail _ ?_)); done)); fail)))
          | (apply E_ret3 rfl; (first | exact Res.tmp rfl | (apply R_cellAll rfl; (focus ((repeat (first | exact List.Mem.head _ | refine List.Mem.tail _ ?_)); done)); fail) | (apply R_cell1 rfl; (focus ((repeat (first | exact List.Mem.head _ | refine List.Mem.tail _ ?_)); done)); fail)); (first | exact Res.tmp rfl | (apply R_cellAll rfl; (focus ((repeat (first | exact List.Mem.head _ | refine List.Mem.tail _ ?_)); done)); fail) | (apply R_cell1 rfl; (focus ((repeat (first | exact List.Mem.head _ | refine List.Mem.tail _ ?_)); done)); fail)); (first | exact Res.tmp rfl | (apply R_cellAll rfl; (focus ((repeat (first | exact List.Mem.head _ | refine List.Mem.tail _ ?_)); done)); fail) | (apply R_cell1 rfl; (focus ((repeat (first | exact List.Mem.head _ | refine List.Mem.tail _ ?_)); done)); fail))))))
    refine retX (sv, []) ?_ rfl ?_
    · simp [outN, h1]
    · exact (by (focus (apply Ent.flat; (simp only [List.length_append, List.length_cons, List.length_nil, Nat.zero_add, flat_many, flat_row, flat_blk, flat_append, flat_nil, List.map_append, List.map_cons, List.map_nil, List.flatMap_append, List.flatMap_cons, List.flatMap_nil, List.append_assoc, List.append_nil, List.nil_append, List.cons_append, Row.blk_mk, rwSNetPrefix, rwSuint8]); ((repeat (first | exact Pull.nil | (apply Pull.app; (focus ((repeat (first | exact PickA.here | exact PickA.all | apply PickA.there | apply PickA.over)); done))) | (apply Pull.cons; (focus ((repeat (first | exact Pick.here | exact Pick.last | apply Pick.there | apply Pick.over)); done))) | (apply Pull.atom; (focus ((repeat (first | exact PickA.here | exact PickA.all | apply PickA.there | apply PickA.over)); done))))); done))))
  · obtain ⟨a1, l1⟩ := setOk_t h1
    obtain ⟨a2, l2⟩ := setOk_t h2
    have hk : ((0, 0) : MNetPrefix).2 + ((16 : Nat) : Int) = 16 := rfl
    refine enter (n := 11) (E := [(0, _)]) Try.func36 rfl rfl rfl rfl ?_
    repeat' (first
      | (refine gS ?_; (first
          | (refine S_move rfl rfl ?_)
          | (refine S_assign rfl rfl ?_)
          | (apply F_bs0 rfl rfl; exact T.el37; rfl; intro sv; (try (refine S_fact (row_one (v := sv) (by (focus ((repeat (first | exact List.Mem.head _ | refine List.Mem.tail _ ?_)); done)))) (fun hone => ?_))))
          | (apply F_bs rfl rfl; exact T.el37; rfl; rfl; rfl; rfl; (focus ((repeat (first | exact Dense.nil | (apply Dense.cons; rfl; rfl))); done)); intro sv; (try (refine S_fact (row_one (v := sv) (by (focus ((repeat (first | exact List.Mem.head _ | refine List.Mem.tail _ ?_)); done)))) (fun hone => ?_))))
          | (refine gCall ?_; (first
              | (refine S_callN (f := 58) rfl T.pf58 rfl (fun w hst => specOk_l x h1 w (by first | (refine Rds.given hst ?_; assumption) | (apply Rds.many hst; (focus ((repeat (first | exact List.Mem.head _ | refine List.Mem.tail _ ?_)); done))) | (apply Rds.row hst; (focus ((repeat (first | exact List.Mem.head _ | refine List.Mem.tail _ ?_)); done))))) rfl ?_)
              | (refine S_callX (f := 59) rfl T.pf59 rfl (fun w hst => specPart_c 16 (0, 0) x (_, []) zero_ok hk a1 a2 l1 l2 w (by first | (refine Rds.given hst ?_; assumption) | (apply Rds.many hst; (focus ((repeat (first | exact List.Mem.head _ | refine List.Mem.tail _ ?_)); done))) | (apply Rds.row hst; (focus ((repeat (first | exact List.Mem.head _ | refine List.Mem.tail _ ?_)); done)))) (by first | (refine Rds.given hst ?_; assumption) | (apply Rds.many hst; (focus ((repeat (first | exact List.Mem.head _ | refine List.Mem.tail _ ?_)); done))) | (apply Rds.row hst; (focus ((repeat (first | exact List.Mem.head _ | refine List.Mem.tail _ ?_)); done))))) rfl (fun zz hzz => ?_); simp only [List.cons_append, List.nil_append]; revert hzz; revert zz; intro z hz; refine S_unrow ?_)))
          | (apply S_alloc rfl (hd := rfl); exact T.zc25; intro kb)
          | (apply F_build2 rfl (hd := rfl); exact T.st25; (focus ((repeat (first | exact BuildR.nil | (apply BuildR.cons; (first | exact T.fs25_0 | exact T.fs25_1); rfl; rfl; (focus ((repeat (first | exact SetSeg.nil | apply SetSeg.here | apply SetSeg.there)); done))) | (apply BuildR.cons1; (first | exact T.fs25_0 | exact T.fs25_1); (focus assumption); (focus ((repeat (first | exact SetSeg.nil | apply SetSeg.here | apply SetSeg.there)); done))))); done)))
          | (refine S_not rfl rfl ?_)
          | (refine S_done ?_)))
      | (refine gC ?_; (first
          | (refine C_seq ?_)
          | (refine gReg ?_; (first
              | (refine gReg (i := 0) ?_; refine C_plain [(0, 0)] (by kernel_rfl) (s := [⟨0, none, _, _, _⟩]) rfl ?_)
              | (refine gReg (i := 1) ?_; refine C_plain [(0, 0), (1, 2), (2, 0)] (by kernel_rfl) (s := [⟨0, none, _, _, _⟩, ⟨2, none, _, _, _⟩, ⟨0, none, _, _, _⟩]) rfl ?_)
              | (refine gReg (i := 2) ?_; refine C_plain [(0, 2), (1, 0)] (by kernel_rfl) (s := [⟨2, none, _, _, _⟩, ⟨0, none, _, _, _⟩]) rfl ?_)
              | (refine gReg (i := 3) ?_; refine C_plain [(0, 0), (1, 0), (2, 2), (3, 2), (4, 0)] (by kernel_rfl) (s := [⟨0, none, _, _, _⟩, ⟨0, none, _, _, _⟩, ⟨2, none, _, _, _⟩, ⟨2, none, _, _, _⟩, ⟨0, none, _, _, _⟩]) rfl ?_)))
          | (refine C_true rfl ?_)
          | (refine C_false rfl ?_)
          | (refine C_split rfl ?_ ?_ <;> (intro hb; (try simp only [decide_eq_true_eq] at hb); (try simp only [decide_eq_false_iff_not] at hb); (try simp only [Bool.not_eq_true'] at hb); (try simp only [Bool.not_eq_false'] at hb); (try (exfalso; first | contradiction | omega))))
          | (refine C_skip ?_)
          | (refine C_exit ?_)
          | (refine C_ret ?_)
          | (refine C_block ?_)))
      | (refine gE ?_; (first
          | (refine E_then ?_)
          | (refine E_thenX ?_)
          | (refine E_thenR ?_)
          | (refine E_block ?_)
          | (refine E_blockY ?_)
          | (refine E_blockR ?_)
          | (refine E_calm ?_)
          | (refine E_blockX rfl ?_)
          | (apply E_ret1 rfl; (first | exact Res.tmp rfl | (apply R_cellAll rfl; (focus ((repeat (first | exact List.Mem.head _ | refine List.Mem.tail _ ?_)); done)); fail) | (apply R_cell1 rfl; (focus ((repeat (first | exact List.Mem.head _ | refine List.Mem.tail _ ?_)); done)); fail)))
          | (apply E_ret2 rfl; (first | exact Res.tmp rfl | (apply R_cellAll rfl; (focus ((repeat (first | exact List.Mem.head _ | refine List.Mem.tail _ ?_)); done)); fail) | (apply R_cell1 rfl; (focus ((repeat (first | exact List.Mem.head _ | refine List.Mem.tail _ ?_)); done)); fail)); (first | exact Res.tmp rfl | (apply R_cellAll rfl; (focus ((repeat (first | exact List.Mem.head _ | refine List.Mem.tail _ ?_)); done)); fail) | (apply R_cell1 rfl; (focus ((repeat (first | exact List.Mem.head _ | refine List.Mem.tail _ ?_)); done)); fail)))
          | (apply E_ret3 rfl; (first | exact Res.tmp rfl | (apply R_cellAll rfl; (focus ((repeat (first | exact List.Mem.head _ | refine List.Mem.tail _ ?_)); done)); fail) | (apply R_cell1 rfl; (focus ((repeat (first | exact List.Mem.head _ | refine List.Mem.tail _ ?_)); done)); fail)); (first | exact Res.tmp rfl | (apply R_cellAll rfl; (focus ((repeat (first | exact List.Mem.head _ | refine List.Mem.tail _ ?_)); done)); fail) | (apply R_cell1 rfl; (focus ((repeat (first | exact List.Mem.head _ | refine List.Mem.tail _ ?_)); done)); fail)); (first | exact Res.tmp rfl | (apply R_cellAll rfl; (focus ((repeat (first | exact List.Mem.head _ | refine List.Mem.tail _ ?_)); done)); fail) | (apply R_cell1 rfl; (focus ((repeat (first | exact List.Mem.head _ | refine List.Mem.tail _ ?_)); done)); fail))))))
    refine retX z ?_ rfl ?_
    · rw [hz, outN, if_pos ⟨h1, h2⟩]
    · exact (by (focus (apply Ent.flat; (simp only [List.length_append, List.length_cons, List.length_nil, Nat.zero_add, flat_many, flat_row, flat_blk, flat_append, flat_nil, List.map_append, List.map_cons, List.map_nil, List.flatMap_append, List.flatMap_cons, List.flatMap_nil, List.append_assoc, List.append_nil, List.nil_append, List.cons_append, Row.blk_mk, rwSNetPrefix, rwSuint8]); ((repeat (first | exact Pull.nil | (apply Pull.app; (focus ((repeat (first | exact PickA.here | exact PickA.all | apply PickA.there | apply PickA.over)); done))) | (apply Pull.cons; (focus ((repeat (first | exact Pick.here | exact Pick.last | apply Pick.there | apply Pick.over)); done))) | (apply Pull.atom; (focus ((repeat (first | exact PickA.here | exact PickA.all | apply PickA.there | apply PickA.over)); done))))); done))))
end Go.Proofs.Ytobgbogglilfjaa

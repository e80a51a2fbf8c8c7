/- Lists of prefixes compared and looked at by the laws' own functions; the drawn list for a cover. -/
import Derived.Test.YtobgbogglilfjaaNetw
import Derived.Test.YtobgbogglilfjaaNett
set_option linter.unusedSimpArgs false
set_option linter.unusedVariables false
namespace Go.Proofs.Ytobgbogglilfjaa
open Go Go.RowKit
attribute [local irreducible] Calls GoS GoC GoE GoT Mid IsEq IsFl IsSc IsRw IsSl IsEl IsSt IsFs sp Mem Rd LenOf szR
theorem wnSame_c (x y : MSNetPrefix) (w : World) (hx : Rds w (rwSNetPrefix x)) (hy : Rds w (rwSNetPrefix y)) : Calls Try.prog 39 #[x.1, y.1] w (RetN (.bool (decide (x.2 = y.2))) w) := by
  obtain ⟨v, l⟩ := x
  obtain ⟨u, m⟩ := y
  have hm := Rds.head hx
  have hm2 := Rds.head hy
  have hlen := hm.len
  have hlen2 := hm2.len
  simp only [maxLen] at hlen hlen2
  dsimp only at *
  refine enter (n := 26) (E := [(0, _), (1, _)]) Try.func39 rfl rfl rfl rfl ?_
  repeat' (first
    | (refine gS ?_; (first
        | (refine S_move rfl rfl ?_)
        | (refine S_assign rfl rfl ?_)
        | (apply F_idx rfl rfl rfl; exact T.sl37; (focus rfl); (focus (first | exact len_nil | (apply len_given; assumption) | (apply len_row; (focus ((repeat (first | exact List.Mem.head _ | refine List.Mem.tail _ ?_)); done))) | (refine len_isN ?_; assumption))); (focus omega))
        | (apply F_idxZ rfl rfl rfl; exact T.sl37; (focus omega); (focus (first | exact len_nil | (apply len_given; assumption) | (apply len_row; (focus ((repeat (first | exact List.Mem.head _ | refine List.Mem.tail _ ?_)); done))) | (refine len_isN ?_; assumption))); (focus omega))
        | (refine gLoad ?_; (first
            | (apply F_loadAll rfl rfl; (focus ((repeat (first | exact List.Mem.head _ | refine List.Mem.tail _ ?_)); done)); exact T.rw25; (focus (first | exact free0 | exact free1)))
            | (apply F_loadP rfl rfl; (focus ((repeat (first | exact List.Mem.head _ | refine List.Mem.tail _ ?_)); done)); exact T.rw25; (focus ((repeat (first | exact Take.nil | apply Take.here | apply Take.there)); done)); rfl; (focus (first | exact free0 | exact free1)))
            | (apply F_loadSN rfl rfl; exact T.rw25; (focus (first | exact rd_nil | (apply rd_given; (focus assumption); (focus (first | exact freeG0 | exact freeG1))) | (apply rd_row; (focus ((repeat (first | exact List.Mem.head _ | refine List.Mem.tail _ ?_)); done)); (focus (first | exact freeR0 | exact freeR1))))); (focus (first | (focus (apply at_flat; (focus (intro _; rfl)); (focus assumption))) | exact at_self)); rfl; rfl)
            | (apply F_loadSP rfl rfl; exact T.rw25; (focus (first | exact rd_nil | (apply rd_given; (focus assumption); (focus (first | exact freeG0 | exact freeG1))) | (apply rd_row; (focus ((repeat (first | exact List.Mem.head _ | refine List.Mem.tail _ ?_)); done)); (focus (first | exact freeR0 | exact freeR1))))); (focus (apply at_flat; (focus (intro _; rfl)); (focus assumption))); (focus ((repeat (first | exact Take.nil | apply Take.here | apply Take.there)); done)); rfl; rfl)))
        | (refine gCall ?_; (first
            | (apply F_len rfl rfl rfl; (focus exact ⟨_, _, by exact T.sl37⟩); (focus (first | exact len_nil | (apply len_given; assumption) | (apply len_row; (focus ((repeat (first | exact List.Mem.head _ | refine List.Mem.tail _ ?_)); done))) | (refine len_isN ?_; assumption))))))
        | (refine gBin ?_; (first
            | (apply S_eqlS rfl rfl rfl; (focus exact T.eqs25 _ _ _ _))
            | (apply S_neqS rfl rfl rfl; (focus exact T.eqs25 _ _ _ _))
            | (refine S_lss rfl rfl rfl ?_)
            | (refine S_neq rfl rfl rfl ?_)
            | (refine S_add rfl rfl ?_ rfl ?_; (focus (unfold rng; omega)))
            | (refine S_neqB Try.underlying4 rfl rfl rfl ?_)))
        | (refine S_done ?_)))
    | (refine gC ?_; (first
        | (refine C_seq ?_)
        | (refine gReg ?_; (first
            | (refine gReg (i := 0) ?_; refine C_plain [(0, 0)] (by kernel_rfl) (s := [⟨0, none, _, _, _⟩]) rfl ?_)
            | (refine gReg (i := 1) ?_; refine C_plain [(0, 0), (1, 0), (2, 0), (3, 0), (4, 0)] (by kernel_rfl) (s := [⟨0, none, _, _, _⟩, ⟨0, none, _, _, _⟩, ⟨0, none, _, _, _⟩, ⟨0, none, _, _, _⟩, ⟨0, none, _, _, _⟩]) rfl ?_)
            | (refine gReg (i := 2) ?_; refine C_plain [(0, 0)] (by kernel_rfl) (s := [⟨0, none, _, _, _⟩]) rfl ?_)
            | (refine gReg (i := 3) ?_; refine C_plain [(0, 0)] (by kernel_rfl) (s := [⟨0, none, _, _, _⟩]) rfl ?_)
            | (refine gReg (i := 4) ?_; refine C_plain [(0, 0), (1, 0), (2, 0), (3, 0)] (by kernel_rfl) (s := [⟨0, none, _, _, _⟩, ⟨0, none, _, _, _⟩, ⟨0, none, _, _, _⟩, ⟨0, none, _, _, _⟩]) rfl ?_)
            | (refine gReg (i := 6) ?_; refine C_drawn [(0, 0), (1, 0), (2, 0), (3, 0), (4, 0), (5, 0), (6, 0), (7, 0), (8, 0)] [] T.mixed (by kernel_rfl) (s := [⟨0, none, _, _, _⟩, ⟨0, none, _, _, _⟩, ⟨0, none, _, _, _⟩, ⟨0, none, _, _, _⟩, ⟨0, none, _, _, _⟩, ⟨0, none, _, _, _⟩, ⟨0, none, _, _, _⟩, ⟨0, none, _, _, _⟩, ⟨0, none, _, _, _⟩]) rfl ?_)
            | (refine gReg (i := 7) ?_; refine C_plain [(0, 0)] (by kernel_rfl) (s := [⟨0, none, _, _, _⟩]) rfl ?_)
            | (refine gReg (i := 5) ?_; refine C_plain [(0, 0), (1, 0), (2, 0)] (by kernel_rfl) (s := [⟨0, none, _, _, _⟩, ⟨0, none, _, _, _⟩, ⟨0, none, _, _, _⟩]) rfl ?_)
            | (refine gReg (i := 8) ?_; refine C_plain [(0, 0)] (by kernel_rfl) (s := [⟨0, none, _, _, _⟩]) rfl ?_)))
        | (refine C_true rfl ?_)
        | (refine C_false rfl ?_)
        | (refine C_split rfl ?_ ?_ <;> (intro hb; (try simp only [decide_eq_true_eq] at hb); (try simp only [decide_eq_false_iff_not] at hb); (try simp only [Bool.not_eq_true'] at hb); (try simp only [Bool.not_eq_false'] at hb); (try (exfalso; first | contradiction | omega))))
        | (refine C_skip ?_)
        | (refine C_exit ?_)
        | (refine C_ret ?_)
        | (refine C_block ?_)))
    | (refine gE ?_; (first
        | (refine E_then ?_)
        | (refine E_thenX ?_)
        | (refine E_thenR ?_)
        | (refine E_block ?_)
        | (refine E_blockY ?_)
        | (refine E_blockR ?_)
        | (refine E_calm ?_)
        | (refine E_blockX rfl ?_)
        | (apply E_ret1 rfl; (first | exact Res.tmp rfl | (apply R_cellAll rfl; (focus ((repeat (first | exact List.Mem.head _ | refine List.Mem.tail _ ?_)); done)); exact T.rw25) | (apply R_cell1 rfl; (focus ((repeat (first | exact List.Mem.head _ | refine List.Mem.tail _ ?_)); done)); fail)))
        | (apply E_ret2 rfl; (first | exact Res.tmp rfl | (apply R_cellAll rfl; (focus ((repeat (first | exact List.Mem.head _ | refine List.Mem.tail _ ?_)); done)); exact T.rw25) | (apply R_cell1 rfl; (focus ((repeat (first | exact List.Mem.head _ | refine List.Mem.tail _ ?_)); done)); fail)); (first | exact Res.tmp rfl | (apply R_cellAll rfl; (focus ((repeat (first | exact List.Mem.head _ | refine List.Mem.tail _ ?_)); done)); exact T.rw25) | (apply R_cell1 rfl; (focus ((repeat (first | exact List.Mem.head _ | refine List.Mem.tail _ ?_)); done)); fail)))
        | (apply E_ret3 rfl; (first | exact Res.tmp rfl | (apply R_cellAll rfl; (focus ((repeat (first | exact List.Mem.head _ | refine List.Mem.tail _ ?_)); done)); exact T.rw25) | (apply R_cell1 rfl; (focus ((repeat (first | exact List.Mem.head _ | refine List.Mem.tail _ ?_)); done)); fail)); (first | exact Res.tmp rfl | (apply R_cellAll rfl; (focus ((repeat (first | exact List.Mem.head _ | refine List.Mem.tail _ ?_)); done)); exact T.rw25) | (apply R_cell1 rfl; (focus ((repeat (first | exact List.Mem.head _ | refine List.Mem.tail _ ?_)); done)); fail)); (first | exact Res.tmp rfl | (apply R_cellAll rfl; (focus ((repeat (first | exact List.Mem.head _ | refine List.Mem.tail _ ?_)); done)); exact T.rw25) | (apply R_cell1 rfl; (focus ((repeat (first | exact List.Mem.head _ | refine List.Mem.tail _ ?_)); done)); fail))))))
  · refine retN ?_
    have : l ≠ m := fun e => by subst e; contradiction
    simp [this]
  have hl : l.length = m.length := by omega
  refine C_loop (α := Nat) (fun k => [(5, .int .i64 (k : Int)), (0, v), (1, u)]) (fun _ => []) (fun k => k ≤ l.length ∧ l.take k = m.take k) (fun k => l.length - k) 0 ⟨by omega, rfl⟩ ⟨rfl, rfl, rfl, trivial⟩ (List.Sublist.refl _) ?_
  rintro k ⟨hk, ha⟩
  have hp : (k : Int) < (l.length : Int) → m[k]? = some (ix m k) := fun h => nthD (by omega)
  try dsimp only
  repeat' (first
    | (refine gS ?_; (first
        | (refine S_move rfl rfl ?_)
        | (refine S_assign rfl rfl ?_)
        | (apply F_idx rfl rfl rfl; exact T.sl37; (focus rfl); (focus (first | exact len_nil | (apply len_given; assumption) | (apply len_row; (focus ((repeat (first | exact List.Mem.head _ | refine List.Mem.tail _ ?_)); done))) | (refine len_isN ?_; assumption))); (focus omega))
        | (apply F_idxZ rfl rfl rfl; exact T.sl37; (focus omega); (focus (first | exact len_nil | (apply len_given; assumption) | (apply len_row; (focus ((repeat (first | exact List.Mem.head _ | refine List.Mem.tail _ ?_)); done))) | (refine len_isN ?_; assumption))); (focus omega))
        | (refine gLoad ?_; (first
            | (apply F_loadAll rfl rfl; (focus ((repeat (first | exact List.Mem.head _ | refine List.Mem.tail _ ?_)); done)); exact T.rw25; (focus (first | exact free0 | exact free1)))
            | (apply F_loadP rfl rfl; (focus ((repeat (first | exact List.Mem.head _ | refine List.Mem.tail _ ?_)); done)); exact T.rw25; (focus ((repeat (first | exact Take.nil | apply Take.here | apply Take.there)); done)); rfl; (focus (first | exact free0 | exact free1)))
            | (apply F_loadSN rfl rfl; exact T.rw25; (focus (first | exact rd_nil | (apply rd_given; (focus assumption); (focus (first | exact freeG0 | exact freeG1))) | (apply rd_row; (focus ((repeat (first | exact List.Mem.head _ | refine List.Mem.tail _ ?_)); done)); (focus (first | exact freeR0 | exact freeR1))))); (focus (first | (focus (apply at_flat; (focus (intro _; rfl)); (focus assumption))) | exact at_self)); rfl; rfl)
            | (apply F_loadSP rfl rfl; exact T.rw25; (focus (first | exact rd_nil | (apply rd_given; (focus assumption); (focus (first | exact freeG0 | exact freeG1))) | (apply rd_row; (focus ((repeat (first | exact List.Mem.head _ | refine List.Mem.tail _ ?_)); done)); (focus (first | exact freeR0 | exact freeR1))))); (focus (apply at_flat; (focus (intro _; rfl)); (focus assumption))); (focus ((repeat (first | exact Take.nil | apply Take.here | apply Take.there)); done)); rfl; rfl)))
        | (refine gCall ?_; (first
            | (apply F_len rfl rfl rfl; (focus exact ⟨_, _, by exact T.sl37⟩); (focus (first | exact len_nil | (apply len_given; assumption) | (apply len_row; (focus ((repeat (first | exact List.Mem.head _ | refine List.Mem.tail _ ?_)); done))) | (refine len_isN ?_; assumption))))))
        | (refine gBin ?_; (first
            | (apply S_eqlS rfl rfl rfl; (focus exact T.eqs25 _ _ _ _))
            | (apply S_neqS rfl rfl rfl; (focus exact T.eqs25 _ _ _ _))
            | (refine S_lss rfl rfl rfl ?_)
            | (refine S_neq rfl rfl rfl ?_)
            | (refine S_add rfl rfl ?_ rfl ?_; (focus (unfold rng; omega)))
            | (refine S_neqB Try.underlying4 rfl rfl rfl ?_)))
        | (refine S_done ?_)))
    | (refine gC ?_; (first
        | (refine C_seq ?_)
        | (refine gReg ?_; (first
            | (refine gReg (i := 0) ?_; refine C_plain [(0, 0)] (by kernel_rfl) (s := [⟨0, none, _, _, _⟩]) rfl ?_)
            | (refine gReg (i := 1) ?_; refine C_plain [(0, 0), (1, 0), (2, 0), (3, 0), (4, 0)] (by kernel_rfl) (s := [⟨0, none, _, _, _⟩, ⟨0, none, _, _, _⟩, ⟨0, none, _, _, _⟩, ⟨0, none, _, _, _⟩, ⟨0, none, _, _, _⟩]) rfl ?_)
            | (refine gReg (i := 2) ?_; refine C_plain [(0, 0)] (by kernel_rfl) (s := [⟨0, none, _, _, _⟩]) rfl ?_)
            | (refine gReg (i := 3) ?_; refine C_plain [(0, 0)] (by kernel_rfl) (s := [⟨0, none, _, _, _⟩]) rfl ?_)
            | (refine gReg (i := 4) ?_; refine C_plain [(0, 0), (1, 0), (2, 0), (3, 0)] (by kernel_rfl) (s := [⟨0, none, _, _, _⟩, ⟨0, none, _, _, _⟩, ⟨0, none, _, _, _⟩, ⟨0, none, _, _, _⟩]) rfl ?_)
            | (refine gReg (i := 6) ?_; refine C_drawn [(0, 0), (1, 0), (2, 0), (3, 0), (4, 0), (5, 0), (6, 0), (7, 0), (8, 0)] [] T.mixed (by kernel_rfl) (s := [⟨0, none, _, _, _⟩, ⟨0, none, _, _, _⟩, ⟨0, none, _, _, _⟩, ⟨0, none, _, _, _⟩, ⟨0, none, _, _, _⟩, ⟨0, none, _, _, _⟩, ⟨0, none, _, _, _⟩, ⟨0, none, _, _, _⟩, ⟨0, none, _, _, _⟩]) rfl ?_)
            | (refine gReg (i := 7) ?_; refine C_plain [(0, 0)] (by kernel_rfl) (s := [⟨0, none, _, _, _⟩]) rfl ?_)
            | (refine gReg (i := 5) ?_; refine C_plain [(0, 0), (1, 0), (2, 0)] (by kernel_rfl) (s := [⟨0, none, _, _, _⟩, ⟨0, none, _, _, _⟩, ⟨0, none, _, _, _⟩]) rfl ?_)
            | (refine gReg (i := 8) ?_; refine C_plain [(0, 0)] (by kernel_rfl) (s := [⟨0, none, _, _, _⟩]) rfl ?_)))
        | (refine C_true rfl ?_)
        | (refine C_false rfl ?_)
        | (refine C_split rfl ?_ ?_ <;> (intro hb; (try simp only [decide_eq_true_eq] at hb); (try simp only [decide_eq_false_iff_not] at hb); (try simp only [Bool.not_eq_true'] at hb); (try simp only [Bool.not_eq_false'] at hb); (try (exfalso; first | contradiction | omega)); (try (have hx := nthD (l := l) (k := k) hb)); (try (have hx' := hp hb))))
        | (refine C_skip ?_)
        | (refine C_exit ?_)
        | (refine C_ret ?_)
        | (refine C_block ?_)))
    | (refine gE ?_; (first
        | (refine E_then ?_)
        | (refine E_thenX ?_)
        | (refine E_thenR ?_)
        | (refine E_block ?_)
        | (refine E_blockY ?_)
        | (refine E_blockR ?_)
        | (refine E_calm ?_)
        | (refine E_blockX rfl ?_)
        | (apply E_ret1 rfl; (first | exact Res.tmp rfl | (apply R_cellAll rfl; (focus ((repeat (first | exact List.Mem.head _ | refine List.Mem.tail _ ?_)); done)); exact T.rw25) | (apply R_cell1 rfl; (focus ((repeat (first | exact List.Mem.head _ | refine List.Mem.tail _ ?_)); done)); fail)))
        | (apply E_ret2 rfl; (first | exact Res.tmp rfl | (apply R_cellAll rfl; (focus ((repeat (first | exact List.Mem.head _ | refine List.Mem.tail _ ?_)); done)); exact T.rw25) | (apply R_cell1 rfl; (focus ((repeat (first | exact List.Mem.head _ | refine List.Mem.tail _ ?_)); done)); fail)); (first | exact Res.tmp rfl | (apply R_cellAll rfl; (focus ((repeat (first | exact List.Mem.head _ | refine List.Mem.tail _ ?_)); done)); exact T.rw25) | (apply R_cell1 rfl; (focus ((repeat (first | exact List.Mem.head _ | refine List.Mem.tail _ ?_)); done)); fail)))
        | (apply E_ret3 rfl; (first | exact Res.tmp rfl | (apply R_cellAll rfl; (focus ((repeat (first | exact List.Mem.head _ | refine List.Mem.tail _ ?_)); done)); exact T.rw25) | (apply R_cell1 rfl; (focus ((repeat (first | exact List.Mem.head _ | refine List.Mem.tail _ ?_)); done)); fail)); (first | exact Res.tmp rfl | (apply R_cellAll rfl; (focus ((repeat (first | exact List.Mem.head _ | refine List.Mem.tail _ ?_)); done)); exact T.rw25) | (apply R_cell1 rfl; (focus ((repeat (first | exact List.Mem.head _ | refine List.Mem.tail _ ?_)); done)); fail)); (first | exact Res.tmp rfl | (apply R_cellAll rfl; (focus ((repeat (first | exact List.Mem.head _ | refine List.Mem.tail _ ?_)); done)); exact T.rw25) | (apply R_cell1 rfl; (focus ((repeat (first | exact List.Mem.head _ | refine List.Mem.tail _ ?_)); done)); fail))))))
  · refine retN ?_
    have hb2 : decide (((ix l k).1, (ix l k).2) = ((ix m k).1, (ix m k).2)) = false := by assumption
    have : l ≠ m := fun e => by subst e; simp at hb2
    simp [this]
  · refine E_round (α := Nat) (k + 1) ?_ ?_ ?_ ?_
    · have hb2 : decide (((ix l k).1, (ix l k).2) = ((ix m k).1, (ix m k).2)) = true := by assumption
      have e : ix l k = ix m k := of_decide_eq_true hb2
      exact ⟨by omega, by rw [take_snoc hx, take_snoc hx', ha, e]⟩
    · omega
    · exact ⟨rfl, rfl, rfl, trivial⟩
    · exact List.nil_sublist _
  · refine retN ?_
    have e : k = l.length := by omega
    subst e
    have : l = m := by rw [List.take_length, hl, List.take_length] at ha; exact ha
    simp [this]
theorem wnOk_c (x : MSNetPrefix) (w : World) (hx : Rds w (rwSNetPrefix x)) : Calls Try.prog 40 #[x.1] w (RetN (.bool (setOk x.2)) w) := by
  obtain ⟨v, l⟩ := x
  have hm := Rds.head hx
  have hlen := hm.len
  simp only [maxLen] at hlen
  dsimp only at *
  refine enter (n := 19) (E := [(0, _)]) Try.func40 rfl rfl rfl rfl ?_
  repeat' (first
    | (refine gS ?_; (first
        | (refine S_move rfl rfl ?_)
        | (refine S_assign rfl rfl ?_)
        | (apply F_idx rfl rfl rfl; exact T.sl37; (focus rfl); (focus (first | exact len_nil | (apply len_given; assumption) | (apply len_row; (focus ((repeat (first | exact List.Mem.head _ | refine List.Mem.tail _ ?_)); done))) | (refine len_isN ?_; assumption))); (focus omega))
        | (apply F_idxZ rfl rfl rfl; exact T.sl37; (focus omega); (focus (first | exact len_nil | (apply len_given; assumption) | (apply len_row; (focus ((repeat (first | exact List.Mem.head _ | refine List.Mem.tail _ ?_)); done))) | (refine len_isN ?_; assumption))); (focus omega))
        | (refine gLoad ?_; (first
            | (apply F_loadAll rfl rfl; (focus ((repeat (first | exact List.Mem.head _ | refine List.Mem.tail _ ?_)); done)); exact T.rw25; (focus (first | exact free0 | exact free1)))
            | (apply F_loadP rfl rfl; (focus ((repeat (first | exact List.Mem.head _ | refine List.Mem.tail _ ?_)); done)); exact T.rw25; (focus ((repeat (first | exact Take.nil | apply Take.here | apply Take.there)); done)); rfl; (focus (first | exact free0 | exact free1)))
            | (apply F_loadSN rfl rfl; exact T.rw25; (focus (first | exact rd_nil | (apply rd_given; (focus assumption); (focus (first | exact freeG0 | exact freeG1))) | (apply rd_row; (focus ((repeat (first | exact List.Mem.head _ | refine List.Mem.tail _ ?_)); done)); (focus (first | exact freeR0 | exact freeR1))))); (focus (first | (focus (apply at_flat; (focus (intro _; rfl)); (focus assumption))) | exact at_self)); rfl; rfl)
            | (apply F_loadSP rfl rfl; exact T.rw25; (focus (first | exact rd_nil | (apply rd_given; (focus assumption); (focus (first | exact freeG0 | exact freeG1))) | (apply rd_row; (focus ((repeat (first | exact List.Mem.head _ | refine List.Mem.tail _ ?_)); done)); (focus (first | exact freeR0 | exact freeR1))))); (focus (apply at_flat; (focus (intro _; rfl)); (focus assumption))); (focus ((repeat (first | exact Take.nil | apply Take.here | apply Take.there)); done)); rfl; rfl)))
        | (refine gCall ?_; (first
            | (apply F_len rfl rfl rfl; (focus exact ⟨_, _, by exact T.sl37⟩); (focus (first | exact len_nil | (apply len_given; assumption) | (apply len_row; (focus ((repeat (first | exact List.Mem.head _ | refine List.Mem.tail _ ?_)); done))) | (refine len_isN ?_; assumption))))))
        | (refine gBin ?_; (first
            | (refine S_lss rfl rfl rfl ?_)
            | (refine S_leq rfl rfl rfl ?_)
            | (refine S_add rfl rfl ?_ rfl ?_; (focus (unfold rng; omega)))))
        | (refine S_not rfl rfl ?_)
        | (refine S_done ?_)))
    | (refine gC ?_; (first
        | (refine C_seq ?_)
        | (refine gReg ?_; (first
            | (refine gReg (i := 0) ?_; refine C_plain [(0, 0)] (by kernel_rfl) (s := [⟨0, none, _, _, _⟩]) rfl ?_)
            | (refine gReg (i := 1) ?_; refine C_plain [(0, 0)] (by kernel_rfl) (s := [⟨0, none, _, _, _⟩]) rfl ?_)
            | (refine gReg (i := 2) ?_; refine C_plain [(0, 0), (1, 0), (2, 0), (3, 0)] (by kernel_rfl) (s := [⟨0, none, _, _, _⟩, ⟨0, none, _, _, _⟩, ⟨0, none, _, _, _⟩, ⟨0, none, _, _, _⟩]) rfl ?_)
            | (refine gReg (i := 4) ?_; refine C_plain [(0, 0), (1, 0), (2, 0), (3, 0), (4, 2), (5, 0)] (by kernel_rfl) (s := [⟨0, none, _, _, _⟩, ⟨0, none, _, _, _⟩, ⟨0, none, _, _, _⟩, ⟨0, none, _, _, _⟩, ⟨2, none, _, _, _⟩, ⟨0, none, _, _, _⟩]) rfl ?_)
            | (refine gReg (i := 5) ?_; refine C_plain [(0, 0)] (by kernel_rfl) (s := [⟨0, none, _, _, _⟩]) rfl ?_)
            | (refine gReg (i := 3) ?_; refine C_plain [(0, 0), (1, 0), (2, 0)] (by kernel_rfl) (s := [⟨0, none, _, _, _⟩, ⟨0, none, _, _, _⟩, ⟨0, none, _, _, _⟩]) rfl ?_)
            | (refine gReg (i := 6) ?_; refine C_plain [(0, 0), (1, 0), (2, 0), (3, 0)] (by kernel_rfl) (s := [⟨0, none, _, _, _⟩, ⟨0, none, _, _, _⟩, ⟨0, none, _, _, _⟩, ⟨0, none, _, _, _⟩]) rfl ?_)))
        | (refine C_true rfl ?_)
        | (refine C_false rfl ?_)
        | (refine C_split rfl ?_ ?_ <;> (intro hb; (try simp only [decide_eq_true_eq] at hb); (try simp only [decide_eq_false_iff_not] at hb); (try simp only [Bool.not_eq_true'] at hb); (try simp only [Bool.not_eq_false'] at hb); (try (exfalso; first | contradiction | omega))))
        | (refine C_skip ?_)
        | (refine C_exit ?_)
        | (refine C_ret ?_)
        | (refine C_block ?_)))
    | (refine gE ?_; (first
        | (refine E_then ?_)
        | (refine E_thenX ?_)
        | (refine E_thenR ?_)
        | (refine E_block ?_)
        | (refine E_blockY ?_)
        | (refine E_blockR ?_)
        | (refine E_calm ?_)
        | (refine E_blockX rfl ?_)
        | (apply E_ret1 rfl; (first | exact Res.tmp rfl | (apply R_cellAll rfl; (focus ((repeat (first | exact List.Mem.head _ | refine List.Mem.tail _ ?_)); done)); exact T.rw25) | (apply R_cell1 rfl; (focus ((repeat (first | exact List.Mem.head _ | refine List.Mem.tail _ ?_)); done)); fail)))
        | (apply E_ret2 rfl; (first | exact Res.tmp rfl | (apply R_cellAll rfl; (focus ((repeat (first | exact List.Mem.head _ | refine List.Mem.tail _ ?_)); done)); exact T.rw25) | (apply R_cell1 rfl; (focus ((repeat (first | exact List.Mem.head _ | refine List.Mem.tail _ ?_)); done)); fail)); (first | exact Res.tmp rfl | (apply R_cellAll rfl; (focus ((repeat (first | exact List.Mem.head _ | refine List.Mem.tail _ ?_)); done)); exact T.rw25) | (apply R_cell1 rfl; (focus ((repeat (first | exact List.Mem.head _ | refine List.Mem.tail _ ?_)); done)); fail)))
        | (apply E_ret3 rfl; (first | exact Res.tmp rfl | (apply R_cellAll rfl; (focus ((repeat (first | exact List.Mem.head _ | refine List.Mem.tail _ ?_)); done)); exact T.rw25) | (apply R_cell1 rfl; (focus ((repeat (first | exact List.Mem.head _ | refine List.Mem.tail _ ?_)); done)); fail)); (first | exact Res.tmp rfl | (apply R_cellAll rfl; (focus ((repeat (first | exact List.Mem.head _ | refine List.Mem.tail _ ?_)); done)); exact T.rw25) | (apply R_cell1 rfl; (focus ((repeat (first | exact List.Mem.head _ | refine List.Mem.tail _ ?_)); done)); fail)); (first | exact Res.tmp rfl | (apply R_cellAll rfl; (focus ((repeat (first | exact List.Mem.head _ | refine List.Mem.tail _ ?_)); done)); exact T.rw25) | (apply R_cell1 rfl; (focus ((repeat (first | exact List.Mem.head _ | refine List.Mem.tail _ ?_)); done)); fail))))))
  refine C_loop (α := Nat) (fun k => [(3, .int .i64 (k : Int)), (0, v)]) (fun _ => []) (fun k => k ≤ l.length ∧ (List.range k).all (fun k => okQ (ix l k)) = true) (fun k => l.length - k) 0 ⟨by omega, rfl⟩ ⟨rfl, rfl, trivial⟩ (List.Sublist.refl _) ?_
  rintro k ⟨hk, ha⟩
  try dsimp only
  repeat' (first
    | (refine gS ?_; (first
        | (refine S_move rfl rfl ?_)
        | (refine S_assign rfl rfl ?_)
        | (apply F_idx rfl rfl rfl; exact T.sl37; (focus rfl); (focus (first | exact len_nil | (apply len_given; assumption) | (apply len_row; (focus ((repeat (first | exact List.Mem.head _ | refine List.Mem.tail _ ?_)); done))) | (refine len_isN ?_; assumption))); (focus omega))
        | (apply F_idxZ rfl rfl rfl; exact T.sl37; (focus omega); (focus (first | exact len_nil | (apply len_given; assumption) | (apply len_row; (focus ((repeat (first | exact List.Mem.head _ | refine List.Mem.tail _ ?_)); done))) | (refine len_isN ?_; assumption))); (focus omega))
        | (refine gLoad ?_; (first
            | (apply F_loadAll rfl rfl; (focus ((repeat (first | exact List.Mem.head _ | refine List.Mem.tail _ ?_)); done)); exact T.rw25; (focus (first | exact free0 | exact free1)))
            | (apply F_loadP rfl rfl; (focus ((repeat (first | exact List.Mem.head _ | refine List.Mem.tail _ ?_)); done)); exact T.rw25; (focus ((repeat (first | exact Take.nil | apply Take.here | apply Take.there)); done)); rfl; (focus (first | exact free0 | exact free1)))
            | (apply F_loadSN rfl rfl; exact T.rw25; (focus (first | exact rd_nil | (apply rd_given; (focus assumption); (focus (first | exact freeG0 | exact freeG1))) | (apply rd_row; (focus ((repeat (first | exact List.Mem.head _ | refine List.Mem.tail _ ?_)); done)); (focus (first | exact freeR0 | exact freeR1))))); (focus (first | (focus (apply at_flat; (focus (intro _; rfl)); (focus assumption))) | exact at_self)); rfl; rfl)
            | (apply F_loadSP rfl rfl; exact T.rw25; (focus (first | exact rd_nil | (apply rd_given; (focus assumption); (focus (first | exact freeG0 | exact freeG1))) | (apply rd_row; (focus ((repeat (first | exact List.Mem.head _ | refine List.Mem.tail _ ?_)); done)); (focus (first | exact freeR0 | exact freeR1))))); (focus (apply at_flat; (focus (intro _; rfl)); (focus assumption))); (focus ((repeat (first | exact Take.nil | apply Take.here | apply Take.there)); done)); rfl; rfl)))
        | (refine gCall ?_; (first
            | (refine S_callN (f := 14) rfl T.pf14 rfl (fun w hst => specNetOk_c _ _ w) rfl ?_)
            | (apply F_len rfl rfl rfl; (focus exact ⟨_, _, by exact T.sl37⟩); (focus (first | exact len_nil | (apply len_given; assumption) | (apply len_row; (focus ((repeat (first | exact List.Mem.head _ | refine List.Mem.tail _ ?_)); done))) | (refine len_isN ?_; assumption))))))
        | (refine gBin ?_; (first
            | (refine S_lss rfl rfl rfl ?_)
            | (refine S_leq rfl rfl rfl ?_)
            | (refine S_add rfl rfl ?_ rfl ?_; (focus (unfold rng; omega)))))
        | (refine S_not rfl rfl ?_)
        | (refine S_done ?_)))
    | (refine gC ?_; (first
        | (refine C_seq ?_)
        | (refine gReg ?_; (first
            | (refine gReg (i := 0) ?_; refine C_plain [(0, 0)] (by kernel_rfl) (s := [⟨0, none, _, _, _⟩]) rfl ?_)
            | (refine gReg (i := 1) ?_; refine C_plain [(0, 0)] (by kernel_rfl) (s := [⟨0, none, _, _, _⟩]) rfl ?_)
            | (refine gReg (i := 2) ?_; refine C_plain [(0, 0), (1, 0), (2, 0), (3, 0)] (by kernel_rfl) (s := [⟨0, none, _, _, _⟩, ⟨0, none, _, _, _⟩, ⟨0, none, _, _, _⟩, ⟨0, none, _, _, _⟩]) rfl ?_)
            | (refine gReg (i := 4) ?_; refine C_plain [(0, 0), (1, 0), (2, 0), (3, 0), (4, 2), (5, 0)] (by kernel_rfl) (s := [⟨0, none, _, _, _⟩, ⟨0, none, _, _, _⟩, ⟨0, none, _, _, _⟩, ⟨0, none, _, _, _⟩, ⟨2, none, _, _, _⟩, ⟨0, none, _, _, _⟩]) rfl ?_)
            | (refine gReg (i := 5) ?_; refine C_plain [(0, 0)] (by kernel_rfl) (s := [⟨0, none, _, _, _⟩]) rfl ?_)
            | (refine gReg (i := 3) ?_; refine C_plain [(0, 0), (1, 0), (2, 0)] (by kernel_rfl) (s := [⟨0, none, _, _, _⟩, ⟨0, none, _, _, _⟩, ⟨0, none, _, _, _⟩]) rfl ?_)
            | (refine gReg (i := 6) ?_; refine C_plain [(0, 0), (1, 0), (2, 0), (3, 0)] (by kernel_rfl) (s := [⟨0, none, _, _, _⟩, ⟨0, none, _, _, _⟩, ⟨0, none, _, _, _⟩, ⟨0, none, _, _, _⟩]) rfl ?_)))
        | (refine C_true rfl ?_)
        | (refine C_false rfl ?_)
        | (refine C_split rfl ?_ ?_ <;> (intro hb; (try simp only [decide_eq_true_eq] at hb); (try simp only [decide_eq_false_iff_not] at hb); (try simp only [Bool.not_eq_true'] at hb); (try simp only [Bool.not_eq_false'] at hb); (try (exfalso; first | contradiction | omega)); (try (have hx := nthD (l := l) (k := k) hb))))
        | (refine C_skip ?_)
        | (refine C_exit ?_)
        | (refine C_ret ?_)
        | (refine C_block ?_)))
    | (refine gE ?_; (first
        | (refine E_then ?_)
        | (refine E_thenX ?_)
        | (refine E_thenR ?_)
        | (refine E_block ?_)
        | (refine E_blockY ?_)
        | (refine E_blockR ?_)
        | (refine E_calm ?_)
        | (refine E_blockX rfl ?_)
        | (apply E_ret1 rfl; (first | exact Res.tmp rfl | (apply R_cellAll rfl; (focus ((repeat (first | exact List.Mem.head _ | refine List.Mem.tail _ ?_)); done)); exact T.rw25) | (apply R_cell1 rfl; (focus ((repeat (first | exact List.Mem.head _ | refine List.Mem.tail _ ?_)); done)); fail)))
        | (apply E_ret2 rfl; (first | exact Res.tmp rfl | (apply R_cellAll rfl; (focus ((repeat (first | exact List.Mem.head _ | refine List.Mem.tail _ ?_)); done)); exact T.rw25) | (apply R_cell1 rfl; (focus ((repeat (first | exact List.Mem.head _ | refine List.Mem.tail _ ?_)); done)); fail)); (first | exact Res.tmp rfl | (apply R_cellAll rfl; (focus ((repeat (first | exact List.Mem.head _ | refine List.Mem.tail _ ?_)); done)); exact T.rw25) | (apply R_cell1 rfl; (focus ((repeat (first | exact List.Mem.head _ | refine List.Mem.tail _ ?_)); done)); fail)))
        | (apply E_ret3 rfl; (first | exact Res.tmp rfl | (apply R_cellAll rfl; (focus ((repeat (first | exact List.Mem.head _ | refine List.Mem.tail _ ?_)); done)); exact T.rw25) | (apply R_cell1 rfl; (focus ((repeat (first | exact List.Mem.head _ | refine List.Mem.tail _ ?_)); done)); fail)); (first | exact Res.tmp rfl | (apply R_cellAll rfl; (focus ((repeat (first | exact List.Mem.head _ | refine List.Mem.tail _ ?_)); done)); exact T.rw25) | (apply R_cell1 rfl; (focus ((repeat (first | exact List.Mem.head _ | refine List.Mem.tail _ ?_)); done)); fail)); (first | exact Res.tmp rfl | (apply R_cellAll rfl; (focus ((repeat (first | exact List.Mem.head _ | refine List.Mem.tail _ ?_)); done)); exact T.rw25) | (apply R_cell1 rfl; (focus ((repeat (first | exact List.Mem.head _ | refine List.Mem.tail _ ?_)); done)); fail))))))
  all_goals first
    | (refine E_round (α := Nat) (k + 1) ?_ ?_ ⟨rfl, rfl, trivial⟩ (List.nil_sublist _)
       · exact ⟨by omega, all_step ha (by assumption)⟩
       · omega)
    | (refine retN ?_
       rw [setOk_fail (k := k) (by assumption) (by assumption)]
       done)
    | (refine retN ?_
       have e : k = l.length := by omega
       subst e
       unfold setOk
       rw [ha, Bool.and_true]
       congr 1
       apply decide_eq_decide.2
       omega)
attribute [local irreducible] size okP
theorem drawNetCover_c (v : Value) (l : List Int) (w : World) (hm : Mem w v 1 l.length (l.flatMap fun y : Int => ([.int .u8 y] : List Value))) (hby : ∀ y ∈ l, 0 ≤ y ∧ y ≤ 255) : Calls Try.prog 38 #[v] w
    (RetX (fun y : MSNetPrefix => y.2.length ≤ 41) (fun y => y.1) (fun y => [.many (rwSNetPrefix y)]) w) := by
  refine enter (n := 27) (E := [(0, _)]) Try.func38 rfl rfl rfl rfl ?_
  repeat' (first
    | (refine gS ?_; (first
        | (refine S_move rfl rfl ?_)
        | (refine S_assign rfl rfl ?_)
        | (apply F_bs0 rfl rfl; exact T.el37; rfl; intro sv; (try (refine S_fact (row_one (v := sv) (by (focus ((repeat (first | exact List.Mem.head _ | refine List.Mem.tail _ ?_)); done)))) (fun hone => ?_))))
        | (apply F_bs rfl rfl; exact T.el37; rfl; rfl; rfl; rfl; (focus ((repeat (first | exact Dense.nil | (apply Dense.cons; rfl; rfl))); done)); intro sv; (try (refine S_fact (row_one (v := sv) (by (focus ((repeat (first | exact List.Mem.head _ | refine List.Mem.tail _ ?_)); done)))) (fun hone => ?_))))
        | (refine gCall ?_; (first
            | (refine S_callX (f := 53) rfl T.pf53 rfl (fun w hst => open_c v l hm hby w hst.ext) rfl (fun zz hzz => ?_); simp only [List.cons_append, List.nil_append]; revert hzz; revert zz; intro rd hcr)
            | (apply S_callB (f := 55) (b := rd.1) (hp := T.pf55) (hv := rfl) (hd := rfl); (case hpick => ((repeat (first | exact Pick.here | exact Pick.last | apply Pick.there | apply Pick.over)); done)); (case hc => exact pick_c rd.1 rd.2.1 rd.2.2 _ 30 hcr (by omega)); (case hnb => (intro _ _; exact ⟨_, List.Mem.head _, rfl⟩)); (case hk => (first | exact okst2 | exact okst1 | exact okst1')); intro zz hzz; simp only [List.cons_append, List.nil_append]; revert hzz; revert zz; intro y hy)
            | (apply S_callB (f := 57) (b := rd.1) (hp := T.pf57) (hv := rfl) (hd := rfl); (case hpick => ((repeat (first | exact Pick.here | exact Pick.last | apply Pick.there | apply Pick.over)); done)); (case hc => exact l5List_c rd.1 rd.2.1 rd.2.2 _ 12 (by omega) hcr (by omega)); (case hnb => (intro _ _; exact ⟨_, List.Mem.head _, rfl⟩)); (case hk => (first | exact okst2 | exact okst1 | exact okst1')); intro zz hzz; simp only [List.cons_append, List.nil_append]; revert hzz; revert zz; rintro ⟨⟨sv, dn⟩, q2⟩ ⟨hc1, hc2, hc3, hc4⟩; dsimp only at hc1 hc2 hc3 hc4 ⊢)
            | (apply F_append rfl rfl rfl rfl; exact T.el37; (focus (intro sv; (focus ((repeat (first | exact Upd.here | apply Upd.there)); done)))); (focus (first | exact rd_nil | (apply rd_given; (focus assumption); (focus (first | exact freeG0 | exact freeG1))) | (apply rd_row; (focus ((repeat (first | exact List.Mem.head _ | refine List.Mem.tail _ ?_)); done)); (focus (first | exact freeR0 | exact freeR1))))); (focus (first | rfl | assumption | (apply all_flat; intro _ _; rfl) | (rw [List.append_nil]; assumption) | (simp only [List.append_nil, List.all_cons, List.all_nil, Bool.and_true, Bool.true_and, one_int, one_bool, one_string, one_slice, one_pointer, *]; done) | simp)); (first | exact okst2 | exact okst1 | exact okst1'); (focus (simp only [maxLen]; first | omega | (simp only [List.length_take, List.length_drop]; omega))); (focus (first | omega | (simp only [List.length_take, List.length_drop]; omega))); intro sv; (try (refine S_fact (row_one (v := sv) (by (focus ((repeat (first | exact List.Mem.head _ | refine List.Mem.tail _ ?_)); done)))) (fun hone => ?_))))))
        | (refine gBin ?_; (first
            | (refine S_lss rfl rfl rfl ?_)
            | (refine S_eql rfl rfl rfl ?_)
            | (refine S_add rfl rfl ?_ rfl ?_; (focus (unfold rng; omega)))
            | (refine S_eqlB Try.underlying4 rfl rfl rfl ?_)))
        | (apply S_alloc rfl (hd := rfl); exact T.zc25; intro kb)
        | (apply F_build2 rfl (hd := rfl); exact T.st25; (focus ((repeat (first | exact BuildR.nil | (apply BuildR.cons; (first | exact T.fs25_0 | exact T.fs25_1); rfl; rfl; (focus ((repeat (first | exact SetSeg.nil | apply SetSeg.here | apply SetSeg.there)); done))) | (apply BuildR.cons1; (first | exact T.fs25_0 | exact T.fs25_1); (focus assumption); (focus ((repeat (first | exact SetSeg.nil | apply SetSeg.here | apply SetSeg.there)); done))))); done)))
        | (refine S_done ?_)))
    | (refine gC ?_; (first
        | (refine C_seq ?_)
        | (refine gReg ?_; (first
            | (refine gReg (i := 0) ?_; refine C_plain [(0, 0)] (by kernel_rfl) (s := [⟨0, none, _, _, _⟩]) rfl ?_)
            | (refine gReg (i := 1) ?_; refine C_plain [(0, 0), (1, 2), (2, 0)] (by kernel_rfl) (s := [⟨0, none, _, _, _⟩, ⟨2, none, _, _, _⟩, ⟨0, none, _, _, _⟩]) rfl ?_)
            | (refine gReg (i := 2) ?_; refine C_plain [(0, 0), (1, 2), (2, 0)] (by kernel_rfl) (s := [⟨0, none, _, _, _⟩, ⟨2, none, _, _, _⟩, ⟨0, none, _, _, _⟩]) rfl ?_)
            | (refine gReg (i := 3) ?_; refine C_plain [(0, 2), (1, 0)] (by kernel_rfl) (s := [⟨2, none, _, _, _⟩, ⟨0, none, _, _, _⟩]) rfl ?_)
            | (refine gReg (i := 4) ?_; refine C_plain [(0, 0)] (by kernel_rfl) (s := [⟨0, none, _, _, _⟩]) rfl ?_)
            | (refine gReg (i := 5) ?_; refine C_plain [(0, 0), (1, 0), (2, 2), (3, 0), (4, 0)] (by kernel_rfl) (s := [⟨0, none, _, _, _⟩, ⟨0, none, _, _, _⟩, ⟨2, none, _, _, _⟩, ⟨0, none, _, _, _⟩, ⟨0, none, _, _, _⟩]) rfl ?_)
            | (refine gReg (i := 7) ?_; refine C_plain [(0, 0), (1, 0), (2, 0), (3, 2), (4, 2), (5, 0)] (by kernel_rfl) (s := [⟨0, none, _, _, _⟩, ⟨0, none, _, _, _⟩, ⟨0, none, _, _, _⟩, ⟨2, none, _, _, _⟩, ⟨2, none, _, _, _⟩, ⟨0, none, _, _, _⟩]) rfl ?_)
            | (refine gReg (i := 6) ?_; refine C_plain [(0, 0), (1, 0), (2, 0)] (by kernel_rfl) (s := [⟨0, none, _, _, _⟩, ⟨0, none, _, _, _⟩, ⟨0, none, _, _, _⟩]) rfl ?_)
            | (refine gReg (i := 8) ?_; refine C_plain [(0, 0), (1, 0)] (by kernel_rfl) (s := [⟨0, none, _, _, _⟩, ⟨0, none, _, _, _⟩]) rfl ?_)
            | (refine gReg (i := 9) ?_; refine C_plain [(0, 0), (1, 2), (2, 0)] (by kernel_rfl) (s := [⟨0, none, _, _, _⟩, ⟨2, none, _, _, _⟩, ⟨0, none, _, _, _⟩]) rfl ?_)))
        | (refine C_true rfl ?_)
        | (refine C_false rfl ?_)
        | (refine C_split rfl ?_ ?_ <;> (intro hb; (try simp only [decide_eq_true_eq] at hb); (try simp only [decide_eq_false_iff_not] at hb); (try simp only [Bool.not_eq_true'] at hb); (try simp only [Bool.not_eq_false'] at hb); (try (exfalso; first | contradiction | omega))))
        | (refine C_skip ?_)
        | (refine C_exit ?_)
        | (refine C_ret ?_)
        | (refine C_block ?_)))
    | (refine gE ?_; (first
        | (refine E_then ?_)
        | (refine E_thenX ?_)
        | (refine E_thenR ?_)
        | (refine E_block ?_)
        | (refine E_blockY ?_)
        | (refine E_blockR ?_)
        | (refine E_calm ?_)
        | (refine E_blockX rfl ?_)
        | (apply E_ret1 rfl; (first | exact Res.tmp rfl | (apply R_cellAll rfl; (focus ((repeat (first | exact List.Mem.head _ | refine List.Mem.tail _ ?_)); done)); fail) | (apply R_cell1 rfl; (focus ((repeat (first | exact List.Mem.head _ | refine List.Mem.tail _ ?_)); done)); fail)))
        | (apply E_ret2 rfl; (first | exact Res.tmp rfl | (apply R_cellAll rfl; (focus ((repeat (first | exact List.Mem.head _ | refine List.Mem.tail _ ?_)); done)); fail) | (apply R_cell1 rfl; (focus ((repeat (first | exact List.Mem.head _ | refine List.Mem.tail _ ?_)); done)); fail)); (first | exact Res.tmp rfl | (apply R_cellAll rfl; (focus ((repeat (first | exact List.Mem.head _ | refine List.Mem.tail _ ?_)); done)); fail) | (apply R_cell1 rfl; (focus ((repeat (first | exact List.Mem.head _ | refine List.Mem.tail _ ?_)); done)); fail)))
        | (apply E_ret3 rfl; (first | exact Res.tmp rfl | (apply R_cellAll rfl; (focus ((repeat (first | exact List.Mem.head _ | refine List.Mem.tail _ ?_)); done)); fail) | (apply R_cell1 rfl; (focus ((repeat (first | exact List.Mem.head _ | refine List.Mem.tail _ ?_)); done)); fail)); (first | exact Res.tmp rfl | (apply R_cellAll rfl; (focus ((repeat (first | exact List.Mem.head _ | refine List.Mem.tail _ ?_)); done)); fail) | (apply R_cell1 rfl; (focus ((repeat (first | exact List.Mem.head _ | refine List.Mem.tail _ ?_)); done)); fail)); (first | exact Res.tmp rfl | (apply R_cellAll rfl; (focus ((repeat (first | exact List.Mem.head _ | refine List.Mem.tail _ ?_)); done)); fail) | (apply R_cell1 rfl; (focus ((repeat (first | exact List.Mem.head _ | refine List.Mem.tail _ ?_)); done)); fail))))))
  · refine C_ent (.row sv 25 2 0 [] :: [.blk rd.1 72 (rdr rd.2.1 (0 + 1))]) (by (focus (apply Ent.flat; (simp only [List.length_append, List.length_cons, List.length_nil, Nat.zero_add, flat_many, flat_row, flat_blk, flat_append, flat_nil, List.map_append, List.map_cons, List.map_nil, List.flatMap_append, List.flatMap_cons, List.flatMap_nil, List.append_assoc, List.append_nil, List.nil_append, List.cons_append, Row.blk_mk, rwSNetPrefix, rwSuint8]); ((repeat (first | exact Pull.nil | (apply Pull.app; (focus ((repeat (first | exact PickA.here | exact PickA.all | apply PickA.there | apply PickA.over)); done))) | (apply Pull.cons; (focus ((repeat (first | exact Pick.here | exact Pick.last | apply Pick.there | apply Pick.over)); done))) | (apply Pull.atom; (focus ((repeat (first | exact PickA.here | exact PickA.all | apply PickA.there | apply PickA.over)); done))))); done)))) ?_
    refine C_loop (α := Value × List MNetPrefix × Int) (fun s => [(5, .int .i64 (s.2.1.length : Int)), (4, s.1), (3, .pointer (some ⟨rd.1, 0, none⟩))]) (fun s => [.row s.1 25 2 s.2.1.length (s.2.1.flatMap clNetPrefix), .blk rd.1 72 (rdr rd.2.1 s.2.2)])
      (fun s => s.2.1.length ≤ 41 ∧ 0 ≤ s.2.2 ∧ s.2.2 ≤ (s.2.1.length : Int) + 1) (fun s => 41 - s.2.1.length) (sv, [], 0 + 1) ⟨by dsimp only [List.length_nil]; omega, by dsimp only; omega, by dsimp only [List.length_nil]; omega⟩ ⟨rfl, rfl, rfl, trivial⟩ (List.Sublist.refl _) ?_
    rintro ⟨sv, dn, q⟩ ⟨h1, h2, h3⟩
    dsimp only at *
    repeat' (first
      | (refine gS ?_; (first
          | (refine S_move rfl rfl ?_)
          | (refine S_assign rfl rfl ?_)
          | (apply F_bs0 rfl rfl; exact T.el37; rfl; intro sv; (try (refine S_fact (row_one (v := sv) (by (focus ((repeat (first | exact List.Mem.head _ | refine List.Mem.tail _ ?_)); done)))) (fun hone => ?_))))
          | (apply F_bs rfl rfl; exact T.el37; rfl; rfl; rfl; rfl; (focus ((repeat (first | exact Dense.nil | (apply Dense.cons; rfl; rfl))); done)); intro sv; (try (refine S_fact (row_one (v := sv) (by (focus ((repeat (first | exact List.Mem.head _ | refine List.Mem.tail _ ?_)); done)))) (fun hone => ?_))))
          | (refine gCall ?_; (first
              | (apply S_callB (f := 55) (b := rd.1) (hp := T.pf55) (hv := rfl) (hd := rfl); (case hpick => ((repeat (first | exact Pick.here | exact Pick.last | apply Pick.there | apply Pick.over)); done)); (case hc => exact pick_c rd.1 rd.2.1 rd.2.2 _ 2 hcr (by omega)); (case hnb => (intro _ _; exact ⟨_, List.Mem.head _, rfl⟩)); (case hk => (first | exact okst2 | exact okst1 | exact okst1')); intro zz hzz; simp only [List.cons_append, List.nil_append]; revert hzz; revert zz; intro y hy)
              | (apply F_append rfl rfl rfl rfl; exact T.el37; (focus (intro sv; (focus ((repeat (first | exact Upd.here | apply Upd.there)); done)))); (focus (first | exact rd_nil | (apply rd_given; (focus assumption); (focus (first | exact freeG0 | exact freeG1))) | (apply rd_row; (focus ((repeat (first | exact List.Mem.head _ | refine List.Mem.tail _ ?_)); done)); (focus (first | exact freeR0 | exact freeR1))))); (focus (first | rfl | assumption | (apply all_flat; intro _ _; rfl) | (rw [List.append_nil]; assumption) | (simp only [List.append_nil, List.all_cons, List.all_nil, Bool.and_true, Bool.true_and, one_int, one_bool, one_string, one_slice, one_pointer, *]; done) | simp)); (first | exact okst2 | exact okst1 | exact okst1'); (focus (simp only [maxLen]; first | omega | (simp only [List.length_take, List.length_drop]; omega))); (focus (first | omega | (simp only [List.length_take, List.length_drop]; omega))); intro sv; (try (refine S_fact (row_one (v := sv) (by (focus ((repeat (first | exact List.Mem.head _ | refine List.Mem.tail _ ?_)); done)))) (fun hone => ?_))))))
          | (refine gBin ?_; (first
              | (refine S_lss rfl rfl rfl ?_)
              | (refine S_eql rfl rfl rfl ?_)
              | (refine S_add rfl rfl ?_ rfl ?_; (focus (unfold rng; omega)))
              | (refine S_eqlB Try.underlying4 rfl rfl rfl ?_)))
          | (apply S_alloc rfl (hd := rfl); exact T.zc25; intro kb)
          | (apply F_build2 rfl (hd := rfl); exact T.st25; (focus ((repeat (first | exact BuildR.nil | (apply BuildR.cons; (first | exact T.fs25_0 | exact T.fs25_1); rfl; rfl; (focus ((repeat (first | exact SetSeg.nil | apply SetSeg.here | apply SetSeg.there)); done))) | (apply BuildR.cons1; (first | exact T.fs25_0 | exact T.fs25_1); (focus assumption); (focus ((repeat (first | exact SetSeg.nil | apply SetSeg.here | apply SetSeg.there)); done))))); done)))
          | (refine S_done ?_)))
      | (refine gC ?_; (first
          | (refine C_seq ?_)
          | (refine gReg ?_; (first
              | (refine gReg (i := 0) ?_; refine C_plain [(0, 0)] (by kernel_rfl) (s := [⟨0, none, _, _, _⟩]) rfl ?_)
              | (refine gReg (i := 1) ?_; refine C_plain [(0, 0), (1, 2), (2, 0)] (by kernel_rfl) (s := [⟨0, none, _, _, _⟩, ⟨2, none, _, _, _⟩, ⟨0, none, _, _, _⟩]) rfl ?_)
              | (refine gReg (i := 2) ?_; refine C_plain [(0, 0), (1, 2), (2, 0)] (by kernel_rfl) (s := [⟨0, none, _, _, _⟩, ⟨2, none, _, _, _⟩, ⟨0, none, _, _, _⟩]) rfl ?_)
              | (refine gReg (i := 3) ?_; refine C_plain [(0, 2), (1, 0)] (by kernel_rfl) (s := [⟨2, none, _, _, _⟩, ⟨0, none, _, _, _⟩]) rfl ?_)
              | (refine gReg (i := 4) ?_; refine C_plain [(0, 0)] (by kernel_rfl) (s := [⟨0, none, _, _, _⟩]) rfl ?_)
              | (refine gReg (i := 5) ?_; refine C_plain [(0, 0), (1, 0), (2, 2), (3, 0), (4, 0)] (by kernel_rfl) (s := [⟨0, none, _, _, _⟩, ⟨0, none, _, _, _⟩, ⟨2, none, _, _, _⟩, ⟨0, none, _, _, _⟩, ⟨0, none, _, _, _⟩]) rfl ?_)
              | (refine gReg (i := 7) ?_; refine C_plain [(0, 0), (1, 0), (2, 0), (3, 2), (4, 2), (5, 0)] (by kernel_rfl) (s := [⟨0, none, _, _, _⟩, ⟨0, none, _, _, _⟩, ⟨0, none, _, _, _⟩, ⟨2, none, _, _, _⟩, ⟨2, none, _, _, _⟩, ⟨0, none, _, _, _⟩]) rfl ?_)
              | (refine gReg (i := 6) ?_; refine C_plain [(0, 0), (1, 0), (2, 0)] (by kernel_rfl) (s := [⟨0, none, _, _, _⟩, ⟨0, none, _, _, _⟩, ⟨0, none, _, _, _⟩]) rfl ?_)
              | (refine gReg (i := 8) ?_; refine C_plain [(0, 0), (1, 0)] (by kernel_rfl) (s := [⟨0, none, _, _, _⟩, ⟨0, none, _, _, _⟩]) rfl ?_)
              | (refine gReg (i := 9) ?_; refine C_plain [(0, 0), (1, 2), (2, 0)] (by kernel_rfl) (s := [⟨0, none, _, _, _⟩, ⟨2, none, _, _, _⟩, ⟨0, none, _, _, _⟩]) rfl ?_)))
          | (refine C_true rfl ?_)
          | (refine C_false rfl ?_)
          | (refine C_split rfl ?_ ?_ <;> (intro hb; (try simp only [decide_eq_true_eq] at hb); (try simp only [decide_eq_false_iff_not] at hb); (try simp only [Bool.not_eq_true'] at hb); (try simp only [Bool.not_eq_false'] at hb); (try (exfalso; first | contradiction | omega))))
          | (refine C_skip ?_)
          | (refine C_exit ?_)
          | (refine C_ret ?_)
          | (refine C_block ?_)))
      | (refine gE ?_; (first
          | (refine E_then ?_)
          | (refine E_thenX ?_)
          | (refine E_thenR ?_)
          | (refine E_block ?_)
          | (refine E_blockY ?_)
          | (refine E_blockR ?_)
          | (refine E_calm ?_)
          | (refine E_blockX rfl ?_)
          | (apply E_ret1 rfl; (first | exact Res.tmp rfl | (apply R_cellAll rfl; (focus ((repeat (first | exact List.Mem.head _ | refine List.Mem.tail _ ?_)); done)); fail) | (apply R_cell1 rfl; (focus ((repeat (first | exact List.Mem.head _ | refine List.Mem.tail _ ?_)); done)); fail)))
          | (apply E_ret2 rfl; (first | exact Res.tmp rfl | (apply R_cellAll rfl; (focus ((repeat (first | exact List.Mem.head _ | refine List.Mem.tail _ ?_)); done)); fail) | (apply R_cell1 rfl; (focus ((repeat (first | exact List.Mem.head _ | refine List.Mem.tail _ ?_)); done)); fail)); (first | exact Res.tmp rfl | (apply R_cellAll rfl; (focus ((repeat (first | exact List.Mem.head _ | refine List.Mem.tail _ ?_)); done)); fail) | (apply R_cell1 rfl; (focus ((repeat (first | exact List.Mem.head _ | refine List.Mem.tail _ ?_)); done)); fail)))
          | (apply E_ret3 rfl; (first | exact Res.tmp rfl | (apply R_cellAll rfl; (focus ((repeat (first | exact List.Mem.head _ | refine List.Mem.tail _ ?_)); done)); fail) | (apply R_cell1 rfl; (focus ((repeat (first | exact List.Mem.head _ | refine List.Mem.tail _ ?_)); done)); fail)); (first | exact Res.tmp rfl | (apply R_cellAll rfl; (focus ((repeat (first | exact List.Mem.head _ | refine List.Mem.tail _ ?_)); done)); fail) | (apply R_cell1 rfl; (focus ((repeat (first | exact List.Mem.head _ | refine List.Mem.tail _ ?_)); done)); fail)); (first | exact Res.tmp rfl | (apply R_cellAll rfl; (focus ((repeat (first | exact List.Mem.head _ | refine List.Mem.tail _ ?_)); done)); fail) | (apply R_cell1 rfl; (focus ((repeat (first | exact List.Mem.head _ | refine List.Mem.tail _ ?_)); done)); fail))))))
    · refine E_roundS (α := Value × List MNetPrefix × Int) (sv, dn ++ [((dn.length : Int), 16)], q + 1) ⟨?_, ?_, ?_⟩ ?_ ?_ (by (focus (apply Ent.flat; (simp only [List.length_append, List.length_cons, List.length_nil, Nat.zero_add, flat_many, flat_row, flat_blk, flat_append, flat_nil, List.map_append, List.map_cons, List.map_nil, List.flatMap_append, List.flatMap_cons, List.flatMap_nil, List.append_assoc, List.append_nil, List.nil_append, List.cons_append, Row.blk_mk, rwSNetPrefix, rwSuint8]); ((repeat (first | exact Pull.nil | (apply Pull.app; (focus ((repeat (first | exact PickA.here | exact PickA.all | apply PickA.there | apply PickA.over)); done))) | (apply Pull.cons; (focus ((repeat (first | exact Pick.here | exact Pick.last | apply Pick.there | apply Pick.over)); done))) | (apply Pull.atom; (focus ((repeat (first | exact PickA.here | exact PickA.all | apply PickA.there | apply PickA.over)); done))))); done))))
      · simp only [List.length_append, List.length_cons, List.length_nil]; omega
      · dsimp only; omega
      · simp only [List.length_append, List.length_cons, List.length_nil]; omega
      · simp only [List.length_append, List.length_cons, List.length_nil]; omega
      · have e : ((dn ++ [((dn.length : Int), (16 : Int))]).length : Int) = (dn.length : Int) + 1 := by simp
        dsimp only
        rw [e]
        exact ⟨rfl, rfl, rfl, trivial⟩
    · exact retX (sv, dn) h1 rfl (by (focus (apply Ent.flat; (simp only [List.length_append, List.length_cons, List.length_nil, Nat.zero_add, flat_many, flat_row, flat_blk, flat_append, flat_nil, List.map_append, List.map_cons, List.map_nil, List.flatMap_append, List.flatMap_cons, List.flatMap_nil, List.append_assoc, List.append_nil, List.nil_append, List.cons_append, Row.blk_mk, rwSNetPrefix, rwSuint8]); ((repeat (first | exact Pull.nil | (apply Pull.app; (focus ((repeat (first | exact PickA.here | exact PickA.all | apply PickA.there | apply PickA.over)); done))) | (apply Pull.cons; (focus ((repeat (first | exact Pick.here | exact Pick.last | apply Pick.there | apply Pick.over)); done))) | (apply Pull.atom; (focus ((repeat (first | exact PickA.here | exact PickA.all | apply PickA.there | apply PickA.over)); done))))); done))))
  · exact retX (sv, dn) (by dsimp only; omega) rfl (by (focus (apply Ent.flat; (simp only [List.length_append, List.length_cons, List.length_nil, Nat.zero_add, flat_many, flat_row, flat_blk, flat_append, flat_nil, List.map_append, List.map_cons, List.map_nil, List.flatMap_append, List.flatMap_cons, List.flatMap_nil, List.append_assoc, List.append_nil, List.nil_append, List.cons_append, Row.blk_mk, rwSNetPrefix, rwSuint8]); ((repeat (first | exact Pull.nil | (apply Pull.app; (focus ((repeat (first | exact PickA.here | exact PickA.all | apply PickA.there | apply PickA.over)); done))) | (apply Pull.cons; (focus ((repeat (first | exact Pick.here | exact Pick.last | apply Pick.there | apply Pick.over)); done))) | (apply Pull.atom; (focus ((repeat (first | exact PickA.here | exact PickA.all | apply PickA.there | apply PickA.over)); done))))); done))))
end Go.Proofs.Ytobgbogglilfjaa

/- Drawn books of doors, and drawn flows. -/
import Derived.Test.YtnkbaojmalkchaaNatb
set_option linter.unusedSimpArgs false
set_option linter.unusedVariables false
namespace Go.Proofs.Ytnkbaojmalkchaa
open Go Go.RowKit
attribute [local irreducible] Calls GoS GoC GoE GoT Mid IsEq IsFl IsSc IsRw IsSl IsEl IsSt IsFs sp Mem Rd LenOf szR
attribute [local irreducible] size
theorem S_remB {P : Program} {n : Nat} {w0 : World} {r : Option (List Nat)} {Q : Exit → Act → World → Prop} {E : List (Nat × Value)} {L : List Blk} {l : List Stp} {d : Nat} {ty t t' : TypeId} {x y : Operand} {a b : Int} (hx : ev E x = some (.int .i64 a)) (hy : ev E y = some (.int .i64 b)) (ha : 0 ≤ a) (hb : 0 < b) (hd : Nat.blt d n = true) (h : 0 ≤ a % b ∧ a % b ≤ a ∧ a % b < b → GoS P n w0 r Q ((d, .int .i64 (a % b)) :: E) L l) : GoS P n w0 r Q E L (⟨0, none, some d, .binOp .rem t x y t', ty⟩ :: l) := by
  have h1 := Int.mul_ediv_add_emod a b
  have h2 : 0 ≤ b * (a / b) := Int.mul_nonneg (by omega) (Int.ediv_nonneg ha (by omega))
  exact S_rem hx hy ha hb hd (h ⟨Int.emod_nonneg _ (by omega), by omega, Int.emod_lt_of_pos _ hb⟩)
theorem port_c {w0 : World} (kr : Nat) (v : Value) (l : List Int) (p : Int) (hc : Code w0 v l) (hp : 0 ≤ p ∧ p ≤ 1099511620000) (R : List Blk) (w : World) (hs : St w0 w ([.blk kr 46 (rdr v p)] ++ R)) : Calls Try.prog 23 #[.pointer (some ⟨kr, 0, none⟩)] w
    (RetS w0 R (fun z : Int × Int => p ≤ z.2 ∧ z.2 ≤ p + 1) (fun z => .int .i64 z.1) (fun z => [.blk kr 46 (rdr v z.2)])) := by
  have hs' : St w0 w (.blk kr 46 (rdr v p) :: R) := hs
  refine enterS (n := 8) (E := [(0, _)]) Try.func23 rfl rfl rfl rfl hs' ?_
  repeat' (first
    | (refine gS ?_; (first
        | (refine S_move rfl rfl ?_)
        | (refine S_assign rfl rfl ?_)
        | (apply F_idx rfl rfl rfl; exact T.sl48; (focus rfl); (focus (first | exact len_nil | (apply len_given; assumption) | (apply len_row; (focus ((repeat (first | exact List.Mem.head _ | refine List.Mem.tail _ ?_)); done))) | (refine len_isN ?_; assumption))); (focus omega))
        | (apply F_idxZ rfl rfl rfl; exact T.sl48; (focus omega); (focus (first | exact len_nil | (apply len_given; assumption) | (apply len_row; (focus ((repeat (first | exact List.Mem.head _ | refine List.Mem.tail _ ?_)); done))) | (refine len_isN ?_; assumption))); (focus omega))
        | (apply F_bs0 rfl rfl; exact T.el48; rfl; intro sv; (try (refine S_fact (row_one (v := sv) (by (focus ((repeat (first | exact List.Mem.head _ | refine List.Mem.tail _ ?_)); done)))) (fun hone => ?_))))
        | (apply F_bs rfl rfl; exact T.el48; rfl; rfl; rfl; rfl; (focus ((repeat (first | exact Dense.nil | (apply Dense.cons; rfl; rfl))); done)); intro sv; (try (refine S_fact (row_one (v := sv) (by (focus ((repeat (first | exact List.Mem.head _ | refine List.Mem.tail _ ?_)); done)))) (fun hone => ?_))))
        | (refine gLoad ?_; (first
            | (apply F_load1 rfl rfl; (focus ((repeat (first | exact List.Mem.head _ | refine List.Mem.tail _ ?_)); done)); exact T.sc3; rfl; (focus (first | exact free0 | exact free1)))
            | (apply F_loadS1 rfl rfl; exact T.sc3; (focus (first | exact rd_nil | (apply rd_given; (focus assumption); (focus (first | exact freeG0 | exact freeG1))) | (apply rd_row; (focus ((repeat (first | exact List.Mem.head _ | refine List.Mem.tail _ ?_)); done)); (focus (first | exact freeR0 | exact freeR1))))); (focus (first | (apply at_cell; (focus (apply at_flat; (focus (intro _; rfl)); (focus assumption))); rfl) | (apply at_cell0; (focus (apply at_flat; (focus (intro _; rfl)); (focus assumption))); rfl) | (apply at_cell; (focus (apply at_mid0; (focus assumption))); rfl) | (apply at_cell0; (focus (apply at_mid0; (focus assumption))); rfl) | rfl)))
            | (apply F_loadI rfl rfl; exact T.sc3; (focus (first | exact rd_nil | (apply rd_given; (focus assumption); (focus (first | exact freeG0 | exact freeG1))) | (apply rd_row; (focus ((repeat (first | exact List.Mem.head _ | refine List.Mem.tail _ ?_)); done)); (focus (first | exact freeR0 | exact freeR1))))); (focus ((repeat (first | exact LitI.nil | apply LitI.cons | apply LitI.app)); done)); (focus (simp only [List.length_cons, List.length_nil]; omega)); intro zi hzi; (simp only [List.mem_cons, List.not_mem_nil, or_false] at hzi); (first | (replace hzi : 0 ≤ zi ∧ zi ≤ 16 := by omega) | (replace hzi : 0 ≤ zi ∧ zi ≤ 128 := by omega) | (replace hzi : 0 ≤ zi ∧ zi ≤ 200 := by omega) | (replace hzi : 0 ≤ zi ∧ zi ≤ 65535 := by omega) | (replace hzi : 0 ≤ zi ∧ zi ≤ 70000 := by omega) | (replace hzi : -70000 ≤ zi ∧ zi ≤ 70000 := by omega) | (replace hzi : -70000 ≤ zi ∧ zi ≤ 2199023255552 := by omega) | (replace hzi : -70000 ≤ zi ∧ zi ≤ 4611686018427387904 := by omega) | (replace hzi : -9223372036854775808 ≤ zi ∧ zi ≤ 9223372036854775807 := by omega)))))
        | (refine gCall ?_; (first
            | (apply S_callB (f := 19) (b := kr) (hp := T.pf19) (hv := rfl) (hd := rfl); (case hpick => ((repeat (first | exact Pick.here | exact Pick.last | apply Pick.there | apply Pick.over)); done)); (case hc => exact pick_c kr v l _ _ hc (by omega)); (case hnb => (intro _ _; exact ⟨_, List.Mem.head _, rfl⟩)); (case hk => (first | exact okst2 | exact okst1 | exact okst1')); intro zz hzz; simp only [List.cons_append, List.nil_append]; revert hzz; revert zz; intro z hz)))
        | (refine S_done ?_)))
    | (refine gC ?_; (first
        | (refine C_seq ?_)
        | (refine gReg ?_; (first
            | (refine gReg (i := 0) ?_; refine C_plain [(0, 0)] (by kernel_rfl) (s := [⟨0, none, _, _, _⟩]) rfl ?_)
            | (refine gReg (i := 1) ?_; refine C_plain [(0, 2), (1, 0), (2, 2), (3, 0), (4, 0), (5, 0)] (by kernel_rfl) (s := [⟨2, none, _, _, _⟩, ⟨0, none, _, _, _⟩, ⟨2, none, _, _, _⟩, ⟨0, none, _, _, _⟩, ⟨0, none, _, _, _⟩, ⟨0, none, _, _, _⟩]) rfl ?_)))
        | (refine C_true rfl ?_)
        | (refine C_false rfl ?_)
        | (refine C_split rfl ?_ ?_ <;> (intro hb; (try simp only [decide_eq_true_eq] at hb); (try simp only [decide_eq_false_iff_not] at hb); (try simp only [Bool.not_eq_true'] at hb); (try simp only [Bool.not_eq_false'] at hb); (try (exfalso; first | contradiction | omega))))
        | (refine C_skip ?_)
        | (refine C_exit ?_)
        | (refine C_ret ?_)
        | (refine C_block ?_)))
    | (refine gE ?_; (first
        | (refine E_then ?_)
        | (refine E_thenX ?_)
        | (refine E_thenR ?_)
        | (refine E_block ?_)
        | (refine E_blockY ?_)
        | (refine E_blockR ?_)
        | (refine E_calm ?_)
        | (refine E_blockX rfl ?_)
        | (apply E_ret1 rfl; (first | exact Res.tmp rfl | (apply R_cellAll rfl; (focus ((repeat (first | exact List.Mem.head _ | refine List.Mem.tail _ ?_)); done)); fail) | (apply R_cell1 rfl; (focus ((repeat (first | exact List.Mem.head _ | refine List.Mem.tail _ ?_)); done)); exact T.sc3)))
        | (apply E_ret2 rfl; (first | exact Res.tmp rfl | (apply R_cellAll rfl; (focus ((repeat (first | exact List.Mem.head _ | refine List.Mem.tail _ ?_)); done)); fail) | (apply R_cell1 rfl; (focus ((repeat (first | exact List.Mem.head _ | refine List.Mem.tail _ ?_)); done)); exact T.sc3)); (first | exact Res.tmp rfl | (apply R_cellAll rfl; (focus ((repeat (first | exact List.Mem.head _ | refine List.Mem.tail _ ?_)); done)); fail) | (apply R_cell1 rfl; (focus ((repeat (first | exact List.Mem.head _ | refine List.Mem.tail _ ?_)); done)); exact T.sc3)))
        | (apply E_ret3 rfl; (first | exact Res.tmp rfl | (apply R_cellAll rfl; (focus ((repeat (first | exact List.Mem.head _ | refine List.Mem.tail _ ?_)); done)); fail) | (apply R_cell1 rfl; (focus ((repeat (first | exact List.Mem.head _ | refine List.Mem.tail _ ?_)); done)); exact T.sc3)); (first | exact Res.tmp rfl | (apply R_cellAll rfl; (focus ((repeat (first | exact List.Mem.head _ | refine List.Mem.tail _ ?_)); done)); fail) | (apply R_cell1 rfl; (focus ((repeat (first | exact List.Mem.head _ | refine List.Mem.tail _ ?_)); done)); exact T.sc3)); (first | exact Res.tmp rfl | (apply R_cellAll rfl; (focus ((repeat (first | exact List.Mem.head _ | refine List.Mem.tail _ ?_)); done)); fail) | (apply R_cell1 rfl; (focus ((repeat (first | exact List.Mem.head _ | refine List.Mem.tail _ ?_)); done)); exact T.sc3))))))
  all_goals exact retS (_, p + 1) ⟨by dsimp only; omega, by dsimp only; omega⟩ rfl (by (focus (apply Ent.flat; (simp only [List.length_append, List.length_cons, List.length_nil, Nat.zero_add, flat_many, flat_row, flat_blk, flat_append, flat_nil, List.map_append, List.map_cons, List.map_nil, List.flatMap_append, List.flatMap_cons, List.flatMap_nil, List.append_assoc, List.append_nil, List.nil_append, List.cons_append, Row.blk_mk, rwSuint8]); ((repeat (first | exact Pull.nil | (apply Pull.app; (focus ((repeat (first | exact PickA.here | exact PickA.all | apply PickA.there | apply PickA.over)); done))) | (apply Pull.cons; (focus ((repeat (first | exact Pick.here | exact Pick.last | apply Pick.there | apply Pick.over)); done))) | (apply Pull.atom; (focus ((repeat (first | exact PickA.here | exact PickA.all | apply PickA.there | apply PickA.over)); done))))); done))))
theorem peer_c {w0 : World} (kr : Nat) (v : Value) (l : List Int) (p : Int) (hc : Code w0 v l) (hp : 0 ≤ p ∧ p ≤ 1099511620000) (R : List Blk) (w : World) (hs : St w0 w ([.blk kr 46 (rdr v p)] ++ R)) : Calls Try.prog 21 #[.pointer (some ⟨kr, 0, none⟩)] w
    (RetS w0 R (fun z : Int × Int => p ≤ z.2 ∧ z.2 ≤ p + 1) (fun z => .int .i64 z.1) (fun z => [.blk kr 46 (rdr v z.2)])) := by
  have hs' : St w0 w (.blk kr 46 (rdr v p) :: R) := hs
  refine enterS (n := 8) (E := [(0, _)]) Try.func21 rfl rfl rfl rfl hs' ?_
  repeat' (first
    | (refine gS ?_; (first
        | (refine S_move rfl rfl ?_)
        | (refine S_assign rfl rfl ?_)
        | (apply F_idx rfl rfl rfl; exact T.sl48; (focus rfl); (focus (first | exact len_nil | (apply len_given; assumption) | (apply len_row; (focus ((repeat (first | exact List.Mem.head _ | refine List.Mem.tail _ ?_)); done))) | (refine len_isN ?_; assumption))); (focus omega))
        | (apply F_idxZ rfl rfl rfl; exact T.sl48; (focus omega); (focus (first | exact len_nil | (apply len_given; assumption) | (apply len_row; (focus ((repeat (first | exact List.Mem.head _ | refine List.Mem.tail _ ?_)); done))) | (refine len_isN ?_; assumption))); (focus omega))
        | (apply F_bs0 rfl rfl; exact T.el48; rfl; intro sv; (try (refine S_fact (row_one (v := sv) (by (focus ((repeat (first | exact List.Mem.head _ | refine List.Mem.tail _ ?_)); done)))) (fun hone => ?_))))
        | (apply F_bs rfl rfl; exact T.el48; rfl; rfl; rfl; rfl; (focus ((repeat (first | exact Dense.nil | (apply Dense.cons; rfl; rfl))); done)); intro sv; (try (refine S_fact (row_one (v := sv) (by (focus ((repeat (first | exact List.Mem.head _ | refine List.Mem.tail _ ?_)); done)))) (fun hone => ?_))))
        | (refine gLoad ?_; (first
            | (apply F_load1 rfl rfl; (focus ((repeat (first | exact List.Mem.head _ | refine List.Mem.tail _ ?_)); done)); exact T.sc3; rfl; (focus (first | exact free0 | exact free1)))
            | (apply F_loadS1 rfl rfl; exact T.sc3; (focus (first | exact rd_nil | (apply rd_given; (focus assumption); (focus (first | exact freeG0 | exact freeG1))) | (apply rd_row; (focus ((repeat (first | exact List.Mem.head _ | refine List.Mem.tail _ ?_)); done)); (focus (first | exact freeR0 | exact freeR1))))); (focus (first | (apply at_cell; (focus (apply at_flat; (focus (intro _; rfl)); (focus assumption))); rfl) | (apply at_cell0; (focus (apply at_flat; (focus (intro _; rfl)); (focus assumption))); rfl) | (apply at_cell; (focus (apply at_mid0; (focus assumption))); rfl) | (apply at_cell0; (focus (apply at_mid0; (focus assumption))); rfl) | rfl)))
            | (apply F_loadI rfl rfl; exact T.sc3; (focus (first | exact rd_nil | (apply rd_given; (focus assumption); (focus (first | exact freeG0 | exact freeG1))) | (apply rd_row; (focus ((repeat (first | exact List.Mem.head _ | refine List.Mem.tail _ ?_)); done)); (focus (first | exact freeR0 | exact freeR1))))); (focus ((repeat (first | exact LitI.nil | apply LitI.cons | apply LitI.app)); done)); (focus (simp only [List.length_cons, List.length_nil]; omega)); intro zi hzi; (simp only [List.mem_cons, List.not_mem_nil, or_false] at hzi); (first | (replace hzi : 0 ≤ zi ∧ zi ≤ 16 := by omega) | (replace hzi : 0 ≤ zi ∧ zi ≤ 128 := by omega) | (replace hzi : 0 ≤ zi ∧ zi ≤ 200 := by omega) | (replace hzi : 0 ≤ zi ∧ zi ≤ 65535 := by omega) | (replace hzi : 0 ≤ zi ∧ zi ≤ 70000 := by omega) | (replace hzi : -70000 ≤ zi ∧ zi ≤ 70000 := by omega) | (replace hzi : -70000 ≤ zi ∧ zi ≤ 2199023255552 := by omega) | (replace hzi : -70000 ≤ zi ∧ zi ≤ 4611686018427387904 := by omega) | (replace hzi : -9223372036854775808 ≤ zi ∧ zi ≤ 9223372036854775807 := by omega)))))
        | (refine gCall ?_; (first
            | (apply S_callB (f := 19) (b := kr) (hp := T.pf19) (hv := rfl) (hd := rfl); (case hpick => ((repeat (first | exact Pick.here | exact Pick.last | apply Pick.there | apply Pick.over)); done)); (case hc => exact pick_c kr v l _ _ hc (by omega)); (case hnb => (intro _ _; exact ⟨_, List.Mem.head _, rfl⟩)); (case hk => (first | exact okst2 | exact okst1 | exact okst1')); intro zz hzz; simp only [List.cons_append, List.nil_append]; revert hzz; revert zz; intro z hz)))
        | (refine S_done ?_)))
    | (refine gC ?_; (first
        | (refine C_seq ?_)
        | (refine gReg ?_; (first
            | (refine gReg (i := 0) ?_; refine C_plain [(0, 0)] (by kernel_rfl) (s := [⟨0, none, _, _, _⟩]) rfl ?_)
            | (refine gReg (i := 1) ?_; refine C_plain [(0, 2), (1, 0), (2, 2), (3, 0), (4, 0), (5, 0)] (by kernel_rfl) (s := [⟨2, none, _, _, _⟩, ⟨0, none, _, _, _⟩, ⟨2, none, _, _, _⟩, ⟨0, none, _, _, _⟩, ⟨0, none, _, _, _⟩, ⟨0, none, _, _, _⟩]) rfl ?_)))
        | (refine C_true rfl ?_)
        | (refine C_false rfl ?_)
        | (refine C_split rfl ?_ ?_ <;> (intro hb; (try simp only [decide_eq_true_eq] at hb); (try simp only [decide_eq_false_iff_not] at hb); (try simp only [Bool.not_eq_true'] at hb); (try simp only [Bool.not_eq_false'] at hb); (try (exfalso; first | contradiction | omega))))
        | (refine C_skip ?_)
        | (refine C_exit ?_)
        | (refine C_ret ?_)
        | (refine C_block ?_)))
    | (refine gE ?_; (first
        | (refine E_then ?_)
        | (refine E_thenX ?_)
        | (refine E_thenR ?_)
        | (refine E_block ?_)
        | (refine E_blockY ?_)
        | (refine E_blockR ?_)
        | (refine E_calm ?_)
        | (refine E_blockX rfl ?_)
        | (apply E_ret1 rfl; (first | exact Res.tmp rfl | (apply R_cellAll rfl; (focus ((repeat (first | exact List.Mem.head _ | refine List.Mem.tail _ ?_)); done)); fail) | (apply R_cell1 rfl; (focus ((repeat (first | exact List.Mem.head _ | refine List.Mem.tail _ ?_)); done)); exact T.sc3)))
        | (apply E_ret2 rfl; (first | exact Res.tmp rfl | (apply R_cellAll rfl; (focus ((repeat (first | exact List.Mem.head _ | refine List.Mem.tail _ ?_)); done)); fail) | (apply R_cell1 rfl; (focus ((repeat (first | exact List.Mem.head _ | refine List.Mem.tail _ ?_)); done)); exact T.sc3)); (first | exact Res.tmp rfl | (apply R_cellAll rfl; (focus ((repeat (first | exact List.Mem.head _ | refine List.Mem.tail _ ?_)); done)); fail) | (apply R_cell1 rfl; (focus ((repeat (first | exact List.Mem.head _ | refine List.Mem.tail _ ?_)); done)); exact T.sc3)))
        | (apply E_ret3 rfl; (first | exact Res.tmp rfl | (apply R_cellAll rfl; (focus ((repeat (first | exact List.Mem.head _ | refine List.Mem.tail _ ?_)); done)); fail) | (apply R_cell1 rfl; (focus ((repeat (first | exact List.Mem.head _ | refine List.Mem.tail _ ?_)); done)); exact T.sc3)); (first | exact Res.tmp rfl | (apply R_cellAll rfl; (focus ((repeat (first | exact List.Mem.head _ | refine List.Mem.tail _ ?_)); done)); fail) | (apply R_cell1 rfl; (focus ((repeat (first | exact List.Mem.head _ | refine List.Mem.tail _ ?_)); done)); exact T.sc3)); (first | exact Res.tmp rfl | (apply R_cellAll rfl; (focus ((repeat (first | exact List.Mem.head _ | refine List.Mem.tail _ ?_)); done)); fail) | (apply R_cell1 rfl; (focus ((repeat (first | exact List.Mem.head _ | refine List.Mem.tail _ ?_)); done)); exact T.sc3))))))
  all_goals exact retS (_, p + 1) ⟨by dsimp only; omega, by dsimp only; omega⟩ rfl (by (focus (apply Ent.flat; (simp only [List.length_append, List.length_cons, List.length_nil, Nat.zero_add, flat_many, flat_row, flat_blk, flat_append, flat_nil, List.map_append, List.map_cons, List.map_nil, List.flatMap_append, List.flatMap_cons, List.flatMap_nil, List.append_assoc, List.append_nil, List.nil_append, List.cons_append, Row.blk_mk, rwSuint8]); ((repeat (first | exact Pull.nil | (apply Pull.app; (focus ((repeat (first | exact PickA.here | exact PickA.all | apply PickA.there | apply PickA.over)); done))) | (apply Pull.cons; (focus ((repeat (first | exact Pick.here | exact Pick.last | apply Pick.there | apply Pick.over)); done))) | (apply Pull.atom; (focus ((repeat (first | exact PickA.here | exact PickA.all | apply PickA.there | apply PickA.over)); done))))); done))))
set_option maxHeartbeats 1000000 in
theorem inner_c {w0 : World} (kr : Nat) (v : Value) (l : List Int) (p a n own lo hi now : Int) (dv : Value) (h0 : 0 ≤ n) (h1 : n ≤ 16) (a0 : 0 ≤ a) (a1 : a ≤ 65535) (hc : Code w0 v l) (hp : 0 ≤ p ∧ p ≤ 1099511620000) (R : List Blk) (w : World) (hs : St w0 w ([.blk kr 46 (rdr v p)] ++ R)) : Calls Try.prog 22 #[.pointer (some ⟨kr, 0, none⟩), .agg (bookV a n own lo hi dv now).toArray] w
    (RetS w0 R (fun z : Int × Int => p ≤ z.2 ∧ z.2 ≤ p + 10) (fun z => .int .i64 z.1) (fun z => [.blk kr 46 (rdr v z.2)])) := by
  have hs' : St w0 w (.blk kr 46 (rdr v p) :: R) := hs
  have hz1 := size_pos n
  have hz2 := size_le n h0
  have hin : inB n 0 16 = true := by simp [inB, h0, h1]
  refine enterS (n := 32) (E := [(0, _), (1, _)]) Try.func22 rfl rfl rfl rfl hs' ?_
  repeat' (first
    | (refine gS ?_; (first
        | (refine S_move rfl rfl ?_)
        | (refine S_assign rfl rfl ?_)
        | (apply F_field rfl rfl; (first | exact T.fl41_0 | exact T.fl41_1))
        | (apply F_fieldS rfl rfl; (first | exact T.fl41_0 | exact T.fl41_1); (focus (first | exact len_nil | (apply len_given; assumption) | (apply len_row; (focus ((repeat (first | exact List.Mem.head _ | refine List.Mem.tail _ ?_)); done))) | (refine len_isN ?_; assumption))); (focus omega))
        | (apply F_idx rfl rfl rfl; exact T.sl48; (focus rfl); (focus (first | exact len_nil | (apply len_given; assumption) | (apply len_row; (focus ((repeat (first | exact List.Mem.head _ | refine List.Mem.tail _ ?_)); done))) | (refine len_isN ?_; assumption))); (focus omega))
        | (apply F_idxZ rfl rfl rfl; exact T.sl48; (focus omega); (focus (first | exact len_nil | (apply len_given; assumption) | (apply len_row; (focus ((repeat (first | exact List.Mem.head _ | refine List.Mem.tail _ ?_)); done))) | (refine len_isN ?_; assumption))); (focus omega))
        | (apply F_bs0 rfl rfl; exact T.el48; rfl; intro sv; (try (refine S_fact (row_one (v := sv) (by (focus ((repeat (first | exact List.Mem.head _ | refine List.Mem.tail _ ?_)); done)))) (fun hone => ?_))))
        | (apply F_bs rfl rfl; exact T.el48; rfl; rfl; rfl; rfl; (focus ((repeat (first | exact Dense.nil | (apply Dense.cons; rfl; rfl))); done)); intro sv; (try (refine S_fact (row_one (v := sv) (by (focus ((repeat (first | exact List.Mem.head _ | refine List.Mem.tail _ ?_)); done)))) (fun hone => ?_))))
        | (refine gLoad ?_; (first
            | (apply F_load1 rfl rfl; (focus ((repeat (first | exact List.Mem.head _ | refine List.Mem.tail _ ?_)); done)); exact T.sc3; rfl; (focus (first | exact free0 | exact free1 | (refine free2 ?_ ?_; (focus ((repeat (first | (apply apart1; (repeat (first | exact List.Mem.head _ | refine List.Mem.tail _ ?_)); done) | (apply apart2; (repeat (first | exact List.Mem.head _ | refine List.Mem.tail _ ?_)); done) | refine apart3 ?_)); done)); (first | exact free1 | (refine free2 ?_ ?_; (focus ((repeat (first | (apply apart1; (repeat (first | exact List.Mem.head _ | refine List.Mem.tail _ ?_)); done) | (apply apart2; (repeat (first | exact List.Mem.head _ | refine List.Mem.tail _ ?_)); done) | refine apart3 ?_)); done)); exact free1))))))
            | (apply F_loadS1 rfl rfl; exact T.sc3; (focus (first | exact rd_nil | (apply rd_given; (focus assumption); (focus (first | exact freeG0 | exact freeG1 | (apply freeG2; (focus ((repeat (first | exact List.Mem.head _ | refine List.Mem.tail _ ?_)); done)); (first | exact freeG1 | (apply freeG2; (focus ((repeat (first | exact List.Mem.head _ | refine List.Mem.tail _ ?_)); done)); exact freeG1)))))) | (apply rd_row; (focus ((repeat (first | exact List.Mem.head _ | refine List.Mem.tail _ ?_)); done)); (focus (first | exact freeR0 | exact freeR1 | (refine freeR2 ?_ ?_; (focus ((repeat (first | (apply apartR1; (focus ((repeat (first | exact List.Mem.head _ | refine List.Mem.tail _ ?_)); done)); done) | (apply apartR2; (focus ((repeat (first | exact List.Mem.head _ | refine List.Mem.tail _ ?_)); done)); done) | refine apartR3 ?_)); done)); (first | exact freeR1 | (refine freeR2 ?_ ?_; (focus ((repeat (first | (apply apartR1; (focus ((repeat (first | exact List.Mem.head _ | refine List.Mem.tail _ ?_)); done)); done) | (apply apartR2; (focus ((repeat (first | exact List.Mem.head _ | refine List.Mem.tail _ ?_)); done)); done) | refine apartR3 ?_)); done)); exact freeR1)))))))); (focus (first | (apply at_cell; (focus (apply at_flat; (focus (intro _; rfl)); (focus assumption))); rfl) | (apply at_cell0; (focus (apply at_flat; (focus (intro _; rfl)); (focus assumption))); rfl) | (apply at_cell; (focus (apply at_mid0; (focus assumption))); rfl) | (apply at_cell0; (focus (apply at_mid0; (focus assumption))); rfl) | rfl)))
            | (apply F_loadI rfl rfl; exact T.sc3; (focus (first | exact rd_nil | (apply rd_given; (focus assumption); (focus (first | exact freeG0 | exact freeG1 | (apply freeG2; (focus ((repeat (first | exact List.Mem.head _ | refine List.Mem.tail _ ?_)); done)); (first | exact freeG1 | (apply freeG2; (focus ((repeat (first | exact List.Mem.head _ | refine List.Mem.tail _ ?_)); done)); exact freeG1)))))) | (apply rd_row; (focus ((repeat (first | exact List.Mem.head _ | refine List.Mem.tail _ ?_)); done)); (focus (first | exact freeR0 | exact freeR1 | (refine freeR2 ?_ ?_; (focus ((repeat (first | (apply apartR1; (focus ((repeat (first | exact List.Mem.head _ | refine List.Mem.tail _ ?_)); done)); done) | (apply apartR2; (focus ((repeat (first | exact List.Mem.head _ | refine List.Mem.tail _ ?_)); done)); done) | refine apartR3 ?_)); done)); (first | exact freeR1 | (refine freeR2 ?_ ?_; (focus ((repeat (first | (apply apartR1; (focus ((repeat (first | exact List.Mem.head _ | refine List.Mem.tail _ ?_)); done)); done) | (apply apartR2; (focus ((repeat (first | exact List.Mem.head _ | refine List.Mem.tail _ ?_)); done)); done) | refine apartR3 ?_)); done)); exact freeR1)))))))); (focus ((repeat (first | exact LitI.nil | apply LitI.cons | apply LitI.app)); done)); (focus (simp only [List.length_cons, List.length_nil]; omega)); intro zi hzi; (simp only [List.mem_cons, List.not_mem_nil, or_false] at hzi); (first | (replace hzi : 0 ≤ zi ∧ zi ≤ 16 := by omega) | (replace hzi : 0 ≤ zi ∧ zi ≤ 128 := by omega) | (replace hzi : 0 ≤ zi ∧ zi ≤ 200 := by omega) | (replace hzi : 0 ≤ zi ∧ zi ≤ 65535 := by omega) | (replace hzi : 0 ≤ zi ∧ zi ≤ 70000 := by omega) | (replace hzi : -70000 ≤ zi ∧ zi ≤ 70000 := by omega) | (replace hzi : -70000 ≤ zi ∧ zi ≤ 2199023255552 := by omega) | (replace hzi : -70000 ≤ zi ∧ zi ≤ 4611686018427387904 := by omega) | (replace hzi : -9223372036854775808 ≤ zi ∧ zi ≤ 9223372036854775807 := by omega)))
            | ((refine S_remB rfl rfl (by omega) (size_gt _) rfl (fun hrm => ?_)))))
        | (refine gCall ?_; (first
            | (refine S_callN (f := 14) rfl T.pf14 rfl (fun w hst => (hin ▸ in21_c _ _ _ w)) rfl ?_)
            | (refine S_callN (f := 26) rfl T.pf26 rfl (fun w hst => size22_c _ h0 h1 w) rfl ?_)
            | (apply S_callB (f := 19) (b := kr) (hp := T.pf19) (hv := rfl) (hd := rfl); (case hpick => ((repeat (first | exact Pick.here | exact Pick.last | apply Pick.there | apply Pick.over)); done)); (case hc => exact pick_c kr v l _ _ hc (by omega)); (case hnb => (intro _ _; exact ⟨_, List.Mem.head _, rfl⟩)); (case hk => (first | exact okst2 | exact okst1 | exact okst1')); intro zz hzz; simp only [List.cons_append, List.nil_append]; revert hzz; revert zz; intro z hz)
            | ((refine S_remB rfl rfl (by omega) (size_gt _) rfl (fun hrm => ?_)))))
        | (refine gBin ?_; (first
            | ((refine S_remB rfl rfl (by omega) (size_gt _) rfl (fun hrm => ?_)))
            | (refine S_add rfl rfl ?_ rfl ?_; (focus (unfold rng; omega)))
            | (refine S_sub rfl rfl ?_ rfl ?_; (focus (unfold rng; omega)))
            | (refine S_rem rfl rfl ?_ ?_ rfl ?_; (focus omega); (focus omega))
            | (refine S_remT rfl rfl ?_ rfl ?_; (focus omega))))
        | (refine S_box rfl rfl rfl ?_; intro kb)
        | (refine S_not rfl rfl ?_)
        | (refine S_done ?_)
        | (refine S_box1 rfl rfl rfl rfl ?_; intro kb)
        | ((refine S_remB rfl rfl (by omega) (size_gt _) rfl (fun hrm => ?_)))))
    | ((first
        | (refine C_seq ?_)
        | (refine gReg ?_; (first
            | (refine gReg (i := 0) ?_; refine C_plain [(0, 2), (1, 0)] (by kernel_rfl) (s := [⟨2, none, _, _, _⟩, ⟨0, none, _, _, _⟩]) rfl ?_)
            | (refine gReg (i := 1) ?_; refine C_plain [(0, 0), (1, 0), (2, 2), (3, 0)] (by kernel_rfl) (s := [⟨0, none, _, _, _⟩, ⟨0, none, _, _, _⟩, ⟨2, none, _, _, _⟩, ⟨0, none, _, _, _⟩]) rfl ?_)
            | (refine gReg (i := 2) ?_; refine C_plain [(0, 0), (1, 0), (2, 0)] (by kernel_rfl) (s := [⟨0, none, _, _, _⟩, ⟨0, none, _, _, _⟩, ⟨0, none, _, _, _⟩]) rfl ?_)
            | (refine gReg (i := 3) ?_; refine C_plain [(0, 0), (1, 0), (2, 2), (3, 0)] (by kernel_rfl) (s := [⟨0, none, _, _, _⟩, ⟨0, none, _, _, _⟩, ⟨2, none, _, _, _⟩, ⟨0, none, _, _, _⟩]) rfl ?_)
            | (refine gReg (i := 4) ?_; refine C_drawnT1 0 rfl (.br [(0, 0), (1, 0), (2, 0), (3, 0), (4, 0), (5, 0), (7, 0), (9, 0), (12, 0), (6, 1), (8, 1), (10, 0)] (.fin [(11, 1), (13, 1), (14, 0), (15, 0), (16, 0), (17, 0)]) (.fin [(13, 1), (11, 1), (14, 0), (15, 0), (16, 0), (17, 0)])) T.mixed (by kernel_rfl) (s := (.br [⟨0, none, _, _, _⟩, ⟨0, none, _, _, _⟩, ⟨0, none, _, _, _⟩, ⟨0, none, _, _, _⟩, ⟨0, none, _, _, _⟩, ⟨0, none, _, _, _⟩, ⟨0, none, _, _, _⟩, ⟨0, none, _, _, _⟩, ⟨0, none, _, _, _⟩, ⟨1, none, _, _, _⟩, ⟨1, none, _, _, _⟩, ⟨0, none, _, _, _⟩] (.fin [⟨1, none, _, _, _⟩, ⟨1, none, _, _, _⟩, ⟨0, none, _, _, _⟩, ⟨0, none, _, _, _⟩, ⟨0, none, _, _, _⟩, ⟨0, none, _, _, _⟩]) (.fin [⟨1, none, _, _, _⟩, ⟨1, none, _, _, _⟩, ⟨0, none, _, _, _⟩, ⟨0, none, _, _, _⟩, ⟨0, none, _, _, _⟩, ⟨0, none, _, _, _⟩]))) rfl ?_)))
        | (refine C_true rfl ?_)
        | (refine C_false rfl ?_)
        | (refine C_split rfl ?_ ?_ <;> (intro hb; (try simp only [decide_eq_true_eq] at hb); (try simp only [decide_eq_false_iff_not] at hb); (try simp only [Bool.not_eq_true'] at hb); (try simp only [Bool.not_eq_false'] at hb); (try (exfalso; first | contradiction | omega))))
        | (refine C_skip ?_)
        | (refine C_exit ?_)
        | (refine C_ret ?_)
        | (refine C_block ?_)
        | (refine T_fin ?_)
        | (refine T_br ?_)))
    | (refine gE ?_; (first
        | (refine E_then ?_)
        | (refine E_thenX ?_)
        | (refine E_thenR ?_)
        | (refine E_block ?_)
        | (refine E_blockY ?_)
        | (refine E_blockR ?_)
        | (refine E_calm ?_)
        | (refine E_blockX rfl ?_)
        | (apply E_ret1 rfl; (first | exact Res.tmp rfl | (apply R_cellAll rfl; (focus ((repeat (first | exact List.Mem.head _ | refine List.Mem.tail _ ?_)); done)); fail) | (apply R_cell1 rfl; (focus ((repeat (first | exact List.Mem.head _ | refine List.Mem.tail _ ?_)); done)); exact T.sc3)))
        | (apply E_ret2 rfl; (first | exact Res.tmp rfl | (apply R_cellAll rfl; (focus ((repeat (first | exact List.Mem.head _ | refine List.Mem.tail _ ?_)); done)); fail) | (apply R_cell1 rfl; (focus ((repeat (first | exact List.Mem.head _ | refine List.Mem.tail _ ?_)); done)); exact T.sc3)); (first | exact Res.tmp rfl | (apply R_cellAll rfl; (focus ((repeat (first | exact List.Mem.head _ | refine List.Mem.tail _ ?_)); done)); fail) | (apply R_cell1 rfl; (focus ((repeat (first | exact List.Mem.head _ | refine List.Mem.tail _ ?_)); done)); exact T.sc3)))
        | (apply E_ret3 rfl; (first | exact Res.tmp rfl | (apply R_cellAll rfl; (focus ((repeat (first | exact List.Mem.head _ | refine List.Mem.tail _ ?_)); done)); fail) | (apply R_cell1 rfl; (focus ((repeat (first | exact List.Mem.head _ | refine List.Mem.tail _ ?_)); done)); exact T.sc3)); (first | exact Res.tmp rfl | (apply R_cellAll rfl; (focus ((repeat (first | exact List.Mem.head _ | refine List.Mem.tail _ ?_)); done)); fail) | (apply R_cell1 rfl; (focus ((repeat (first | exact List.Mem.head _ | refine List.Mem.tail _ ?_)); done)); exact T.sc3)); (first | exact Res.tmp rfl | (apply R_cellAll rfl; (focus ((repeat (first | exact List.Mem.head _ | refine List.Mem.tail _ ?_)); done)); fail) | (apply R_cell1 rfl; (focus ((repeat (first | exact List.Mem.head _ | refine List.Mem.tail _ ?_)); done)); exact T.sc3)))
        | (refine E_both ?_ ?_))))
  all_goals exact retS (_, p + 1 + 1 + 1) ⟨by dsimp only; omega, by dsimp only; omega⟩ rfl (by (focus (apply Ent.flat; (simp only [List.length_append, List.length_cons, List.length_nil, Nat.zero_add, flat_many, flat_row, flat_blk, flat_append, flat_nil, List.map_append, List.map_cons, List.map_nil, List.flatMap_append, List.flatMap_cons, List.flatMap_nil, List.append_assoc, List.append_nil, List.nil_append, List.cons_append, Row.blk_mk, rwSuint8]); ((repeat (first | exact Pull.nil | (apply Pull.app; (focus ((repeat (first | exact PickA.here | exact PickA.all | apply PickA.there | apply PickA.over)); done))) | (apply Pull.cons; (focus ((repeat (first | exact Pick.here | exact Pick.last | apply Pick.there | apply Pick.over)); done))) | (apply Pull.atom; (focus ((repeat (first | exact PickA.here | exact PickA.all | apply PickA.there | apply PickA.over)); done))))); done))))
end Go.Proofs.Ytnkbaojmalkchaa

/- Drawn hops and flows. -/
import Derived.Test.YtencglgaldaaiaaFiba
import Derived.Test.YtencglgaldaaiaaDraw
set_option linter.unusedSimpArgs false
set_option linter.unusedVariables false
namespace Go.Proofs.Ytencglgaldaaiaa
open Go Go.RowKit
attribute [local irreducible] GoS GoC GoE GoT IsFl IsSc IsRw IsSl IsEl IsSt IsFs sp Mem Rd LenOf szR
theorem flowOf_eq (f : Int) : flowOf f = f % 65536 := by
  have h1 : f.tmod 65536 = f % 65536 - ((if 0 ≤ f ∨ (65536 : Int) ∣ f then 0 else Int.natAbs 65536 : Nat) : Int) := Int.tmod_eq_emod
  unfold flowOf
  by_cases hc : 0 ≤ f ∨ (65536 : Int) ∣ f
  · rw [if_pos hc] at h1
    rw [h1]
    split <;> omega
  · rw [if_neg hc] at h1
    rw [h1]
    simp only [not_or] at hc
    split <;> omega
theorem score_shift (f a b : Int) : score (f + 65535 + 1) a b = score f a b := by
  unfold score
  rw [flowOf_eq, flowOf_eq, show (f + 65535 + 1) % 65536 = f % 65536 by omega]
theorem mix_rng : ∀ (k : Nat) (s : Int), 0 ≤ s ∧ s < 2147483647 → 0 ≤ mix k s ∧ mix k s < 2147483647
  | 0, s, h => h
  | k + 1, s, h => mix_rng k _ ⟨by omega, by omega⟩
theorem score_rng (f a b : Int) : 0 ≤ score f a b ∧ score f a b < 2147483647 := by
  unfold score
  split
  · rename_i h
    have := hopOk_t h
    have := flowOf_rng f
    exact mix_rng 4 _ (by omega)
  · omega
theorem split5 {z : Int} (h : 0 ≤ z ∧ (1 ≤ (5 : Int) → z < 5) ∧ ((5 : Int) < 1 → z = 0)) : z = 0 ∨ z = 1 ∨ z = 2 ∨ z = 3 ∨ z = 4 := by omega
set_option maxHeartbeats 1000000 in
theorem drawFibScore_c (v : Value) (l : List Int) (w : World) (hm : Mem w v 1 l.length (l.flatMap fun y : Int => ([.int .u8 y] : List Value))) (hby : ∀ y ∈ l, 0 ≤ y ∧ y ≤ 255) : Calls Try.prog 15 #[v] w
    (RetX (fun y : Int × Int × Int => -9223372036854775808 ≤ y.1 ∧ y.1 ≤ 9223372036854775807) (fun y => .tuple #[.int .i64 y.1, .agg #[.int .i64 y.2.1, .int .i64 y.2.2]]) (fun _ => []) w) := by
  refine enter (n := 35) (E := [(0, _)]) Try.func15 rfl rfl rfl rfl ?_
  repeat' (first
    | (refine gS ?_; (first
        | (refine S_move rfl rfl ?_)
        | (refine S_assign rfl rfl ?_)
        | (apply F_idx rfl rfl rfl; (first | exact T.sl35 | exact T.sl69); (focus rfl); (focus (first | exact len_nil | (apply len_given; assumption) | (apply len_row; (focus ((repeat (first | exact List.Mem.head _ | refine List.Mem.tail _ ?_)); done))) | (refine len_isN ?_; assumption))); (focus omega))
        | (apply F_idxZ rfl rfl rfl; (first | exact T.sl35 | exact T.sl69); (focus omega); (focus (first | exact len_nil | (apply len_given; assumption) | (apply len_row; (focus ((repeat (first | exact List.Mem.head _ | refine List.Mem.tail _ ?_)); done))) | (refine len_isN ?_; assumption))); (focus omega))
        | (apply F_bs0 rfl rfl; (first | exact T.el35 | exact T.el69); rfl; intro sv; (try (refine S_fact (row_one (by (focus ((repeat (first | exact List.Mem.head _ | refine List.Mem.tail _ ?_)); done)))) (fun hone => ?_))))
        | (apply F_bs rfl rfl; (first | exact T.el35 | exact T.el69); rfl; rfl; rfl; rfl; (focus ((repeat (first | exact Dense.nil | (apply Dense.cons; rfl; rfl))); done)); intro sv; (try (refine S_fact (row_one (by (focus ((repeat (first | exact List.Mem.head _ | refine List.Mem.tail _ ?_)); done)))) (fun hone => ?_))))
        | (refine gLoad ?_; (first
            | (apply F_load1 rfl rfl; (focus ((repeat (first | exact List.Mem.head _ | refine List.Mem.tail _ ?_)); done)); exact T.sc3; rfl; (focus (first | exact free0 | exact free1 | (refine free2 ?_ ?_; (focus ((repeat (first | (apply apart1; (repeat (first | exact List.Mem.head _ | refine List.Mem.tail _ ?_)); done) | (apply apart2; (repeat (first | exact List.Mem.head _ | refine List.Mem.tail _ ?_)); done) | refine apart3 ?_)); done)); (first | exact free1 | (refine free2 ?_ ?_; (focus ((repeat (first | (apply apart1; (repeat (first | exact List.Mem.head _ | refine List.Mem.tail _ ?_)); done) | (apply apart2; (repeat (first | exact List.Mem.head _ | refine List.Mem.tail _ ?_)); done) | refine apart3 ?_)); done)); exact free1))))))
            | (apply F_loadAll rfl rfl; (focus ((repeat (first | exact List.Mem.head _ | refine List.Mem.tail _ ?_)); done)); exact T.rw25; (focus (first | exact free0 | exact free1 | (refine free2 ?_ ?_; (focus ((repeat (first | (apply apart1; (repeat (first | exact List.Mem.head _ | refine List.Mem.tail _ ?_)); done) | (apply apart2; (repeat (first | exact List.Mem.head _ | refine List.Mem.tail _ ?_)); done) | refine apart3 ?_)); done)); (first | exact free1 | (refine free2 ?_ ?_; (focus ((repeat (first | (apply apart1; (repeat (first | exact List.Mem.head _ | refine List.Mem.tail _ ?_)); done) | (apply apart2; (repeat (first | exact List.Mem.head _ | refine List.Mem.tail _ ?_)); done) | refine apart3 ?_)); done)); exact free1))))))
            | (apply F_loadP rfl rfl; (focus ((repeat (first | exact List.Mem.head _ | refine List.Mem.tail _ ?_)); done)); exact T.rw25; (focus ((repeat (first | exact Take.nil | apply Take.here | apply Take.there)); done)); rfl; (focus (first | exact free0 | exact free1 | (refine free2 ?_ ?_; (focus ((repeat (first | (apply apart1; (repeat (first | exact List.Mem.head _ | refine List.Mem.tail _ ?_)); done) | (apply apart2; (repeat (first | exact List.Mem.head _ | refine List.Mem.tail _ ?_)); done) | refine apart3 ?_)); done)); (first | exact free1 | (refine free2 ?_ ?_; (focus ((repeat (first | (apply apart1; (repeat (first | exact List.Mem.head _ | refine List.Mem.tail _ ?_)); done) | (apply apart2; (repeat (first | exact List.Mem.head _ | refine List.Mem.tail _ ?_)); done) | refine apart3 ?_)); done)); exact free1))))))
            | (apply F_loadS1 rfl rfl; exact T.sc3; (focus (first | exact rd_nil | (apply rd_given; (focus assumption); (focus (first | exact freeG0 | exact freeG1 | (apply freeG2; (focus ((repeat (first | exact List.Mem.head _ | refine List.Mem.tail _ ?_)); done)); (first | exact freeG1 | (apply freeG2; (focus ((repeat (first | exact List.Mem.head _ | refine List.Mem.tail _ ?_)); done)); exact freeG1)))))) | (apply rd_row; (focus ((repeat (first | exact List.Mem.head _ | refine List.Mem.tail _ ?_)); done)); (focus (first | exact freeR0 | exact freeR1 | (refine freeR2 ?_ ?_; (focus ((repeat (first | (apply apartR1; (focus ((repeat (first | exact List.Mem.head _ | refine List.Mem.tail _ ?_)); done)); done) | (apply apartR2; (focus ((repeat (first | exact List.Mem.head _ | refine List.Mem.tail _ ?_)); done)); done) | refine apartR3 ?_)); done)); (first | exact freeR1 | (refine freeR2 ?_ ?_; (focus ((repeat (first | (apply apartR1; (focus ((repeat (first | exact List.Mem.head _ | refine List.Mem.tail _ ?_)); done)); done) | (apply apartR2; (focus ((repeat (first | exact List.Mem.head _ | refine List.Mem.tail _ ?_)); done)); done) | refine apartR3 ?_)); done)); exact freeR1)))))))); (focus (first | (apply at_cell; (focus (apply at_flat; (focus (intro _; rfl)); (focus assumption))); rfl) | (apply at_cell0; (focus (apply at_flat; (focus (intro _; rfl)); (focus assumption))); rfl) | (apply at_cell; (focus (apply at_mid0; (focus assumption))); rfl) | (apply at_cell0; (focus (apply at_mid0; (focus assumption))); rfl) | rfl)))
            | (apply F_loadSN rfl rfl; exact T.rw25; (focus (first | exact rd_nil | (apply rd_given; (focus assumption); (focus (first | exact freeG0 | exact freeG1 | (apply freeG2; (focus ((repeat (first | exact List.Mem.head _ | refine List.Mem.tail _ ?_)); done)); (first | exact freeG1 | (apply freeG2; (focus ((repeat (first | exact List.Mem.head _ | refine List.Mem.tail _ ?_)); done)); exact freeG1)))))) | (apply rd_row; (focus ((repeat (first | exact List.Mem.head _ | refine List.Mem.tail _ ?_)); done)); (focus (first | exact freeR0 | exact freeR1 | (refine freeR2 ?_ ?_; (focus ((repeat (first | (apply apartR1; (focus ((repeat (first | exact List.Mem.head _ | refine List.Mem.tail _ ?_)); done)); done) | (apply apartR2; (focus ((repeat (first | exact List.Mem.head _ | refine List.Mem.tail _ ?_)); done)); done) | refine apartR3 ?_)); done)); (first | exact freeR1 | (refine freeR2 ?_ ?_; (focus ((repeat (first | (apply apartR1; (focus ((repeat (first | exact List.Mem.head _ | refine List.Mem.tail _ ?_)); done)); done) | (apply apartR2; (focus ((repeat (first | exact List.Mem.head _ | refine List.Mem.tail _ ?_)); done)); done) | refine apartR3 ?_)); done)); exact freeR1)))))))); (focus (first | (focus (apply at_flat; (focus (intro _; rfl)); (focus assumption))) | exact at_self)); rfl; rfl)
            | (apply F_loadSP rfl rfl; exact T.rw25; (focus (first | exact rd_nil | (apply rd_given; (focus assumption); (focus (first | exact freeG0 | exact freeG1 | (apply freeG2; (focus ((repeat (first | exact List.Mem.head _ | refine List.Mem.tail _ ?_)); done)); (first | exact freeG1 | (apply freeG2; (focus ((repeat (first | exact List.Mem.head _ | refine List.Mem.tail _ ?_)); done)); exact freeG1)))))) | (apply rd_row; (focus ((repeat (first | exact List.Mem.head _ | refine List.Mem.tail _ ?_)); done)); (focus (first | exact freeR0 | exact freeR1 | (refine freeR2 ?_ ?_; (focus ((repeat (first | (apply apartR1; (focus ((repeat (first | exact List.Mem.head _ | refine List.Mem.tail _ ?_)); done)); done) | (apply apartR2; (focus ((repeat (first | exact List.Mem.head _ | refine List.Mem.tail _ ?_)); done)); done) | refine apartR3 ?_)); done)); (first | exact freeR1 | (refine freeR2 ?_ ?_; (focus ((repeat (first | (apply apartR1; (focus ((repeat (first | exact List.Mem.head _ | refine List.Mem.tail _ ?_)); done)); done) | (apply apartR2; (focus ((repeat (first | exact List.Mem.head _ | refine List.Mem.tail _ ?_)); done)); done) | refine apartR3 ?_)); done)); exact freeR1)))))))); (focus (apply at_flat; (focus (intro _; rfl)); (focus assumption))); (focus ((repeat (first | exact Take.nil | apply Take.here | apply Take.there)); done)); rfl; rfl)
            | (apply F_loadI rfl rfl; exact T.sc3; (focus (first | exact rd_nil | (apply rd_given; (focus assumption); (focus (first | exact freeG0 | exact freeG1 | (apply freeG2; (focus ((repeat (first | exact List.Mem.head _ | refine List.Mem.tail _ ?_)); done)); (first | exact freeG1 | (apply freeG2; (focus ((repeat (first | exact List.Mem.head _ | refine List.Mem.tail _ ?_)); done)); exact freeG1)))))) | (apply rd_row; (focus ((repeat (first | exact List.Mem.head _ | refine List.Mem.tail _ ?_)); done)); (focus (first | exact freeR0 | exact freeR1 | (refine freeR2 ?_ ?_; (focus ((repeat (first | (apply apartR1; (focus ((repeat (first | exact List.Mem.head _ | refine List.Mem.tail _ ?_)); done)); done) | (apply apartR2; (focus ((repeat (first | exact List.Mem.head _ | refine List.Mem.tail _ ?_)); done)); done) | refine apartR3 ?_)); done)); (first | exact freeR1 | (refine freeR2 ?_ ?_; (focus ((repeat (first | (apply apartR1; (focus ((repeat (first | exact List.Mem.head _ | refine List.Mem.tail _ ?_)); done)); done) | (apply apartR2; (focus ((repeat (first | exact List.Mem.head _ | refine List.Mem.tail _ ?_)); done)); done) | refine apartR3 ?_)); done)); exact freeR1)))))))); (focus ((repeat (first | exact LitI.nil | apply LitI.cons | apply LitI.app)); done)); (focus (simp only [List.length_cons, List.length_nil]; omega)); intro zi hzi; (simp only [List.mem_cons, List.not_mem_nil, or_false] at hzi); (first | (replace hzi : 0 ≤ zi ∧ zi ≤ 70000 := by omega) | (replace hzi : -70000 ≤ zi ∧ zi ≤ 2199023255552 := by omega) | (replace hzi : -9223372036854775808 ≤ zi ∧ zi ≤ 9223372036854775807 := by omega)))
            | (apply F_loadST rfl rfl; exact T.rw25; (focus (first | exact rd_nil | (apply rd_given; (focus assumption); (focus (first | exact freeG0 | exact freeG1 | (apply freeG2; (focus ((repeat (first | exact List.Mem.head _ | refine List.Mem.tail _ ?_)); done)); (first | exact freeG1 | (apply freeG2; (focus ((repeat (first | exact List.Mem.head _ | refine List.Mem.tail _ ?_)); done)); exact freeG1)))))) | (apply rd_row; (focus ((repeat (first | exact List.Mem.head _ | refine List.Mem.tail _ ?_)); done)); (focus (first | exact freeR0 | exact freeR1 | (refine freeR2 ?_ ?_; (focus ((repeat (first | (apply apartR1; (focus ((repeat (first | exact List.Mem.head _ | refine List.Mem.tail _ ?_)); done)); done) | (apply apartR2; (focus ((repeat (first | exact List.Mem.head _ | refine List.Mem.tail _ ?_)); done)); done) | refine apartR3 ?_)); done)); (first | exact freeR1 | (refine freeR2 ?_ ?_; (focus ((repeat (first | (apply apartR1; (focus ((repeat (first | exact List.Mem.head _ | refine List.Mem.tail _ ?_)); done)); done) | (apply apartR2; (focus ((repeat (first | exact List.Mem.head _ | refine List.Mem.tail _ ?_)); done)); done) | refine apartR3 ?_)); done)); exact freeR1)))))))); (focus ((repeat (first | exact Take.nil | apply Take.here | apply Take.there)); done)); rfl; rfl)))
        | (refine gStore ?_; (first
            | (apply F_store1 rfl rfl; (focus (first | rfl | assumption)); exact T.sc3; (focus ((repeat (first | exact Upd.here | apply Upd.there)); done)); (focus ((repeat (first | exact SetSeg.nil | apply SetSeg.here | apply SetSeg.there)); done)); (first | exact okst2 | exact okst1 | exact okst1'))
            | (apply F_storeN rfl rfl; (focus (first | rfl | assumption | (simp only [List.append_nil, List.all_cons, List.all_nil, Bool.and_true, Bool.true_and, one_int, one_bool, one_string, one_slice, one_pointer, *]; done))); exact T.rw25; (focus ((repeat (first | exact Upd.here | apply Upd.there)); done)); (focus ((repeat (first | exact SetSeg.nil | apply SetSeg.here | apply SetSeg.there)); done)); (first | exact okst2 | exact okst1 | exact okst1'))
            | (apply F_storeM0 rfl rfl; (focus ((repeat (first | exact Upd.here | apply Upd.there)); done)); (focus assumption); exact T.sc3; (focus (first | rfl | assumption)); (focus ((repeat (first | exact SetSeg.nil | apply SetSeg.here | apply SetSeg.there)); done)); (focus omega); (first | exact okst2 | exact okst1 | exact okst1'))
            | (apply F_storeM1 rfl rfl; (focus ((repeat (first | exact Upd.here | apply Upd.there)); done)); (focus assumption); exact T.sc3; (focus (first | rfl | assumption)); (focus ((repeat (first | exact SetSeg.nil | apply SetSeg.here | apply SetSeg.there)); done)); (focus omega); (first | exact okst2 | exact okst1 | exact okst1'))
            | (apply F_storeS1 rfl rfl; (focus ((repeat (first | exact Upd.here | apply Upd.there)); done)); exact T.sc3; (focus (first | rfl | assumption)); (focus omega); (first | exact okst2 | exact okst1 | exact okst1'))
            | (apply F_storeSN rfl rfl; (focus ((repeat (first | exact Upd.here | apply Upd.there)); done)); exact T.rw25; rfl; (focus (first | rfl | assumption | (simp only [List.append_nil, List.all_cons, List.all_nil, Bool.and_true, Bool.true_and, one_int, one_bool, one_string, one_slice, one_pointer, *]; done))); rfl; (focus omega); (first | exact okst2 | exact okst1 | exact okst1'))))
        | (refine gCall ?_; (first
            | (refine S_callX (f := 39) rfl T.pf39 rfl (fun w hst => open_c v l hm hby w hst.ext) rfl (fun zz hzz => ?_); simp only [List.cons_append, List.nil_append]; revert hzz; revert zz; intro rd hcr)
            | (apply S_callB (f := 40) (b := rd.1) (hp := T.pf40) (hv := rfl) (hd := rfl); (case hpick => ((repeat (first | exact Pick.here | exact Pick.last | apply Pick.there | apply Pick.over)); done)); (case hc => exact pick_c rd.1 rd.2.1 rd.2.2 _ _ hcr (by omega)); (case hnb => (intro _ _; exact ⟨_, List.Mem.head _, rfl⟩)); (case hk => (first | exact okst2 | exact okst1 | exact okst1')); intro zz hzz; simp only [List.cons_append, List.nil_append]; revert hzz; revert zz; intro z hz; (try (have h5 := split5 hz; rcases h5 with rfl | rfl | rfl | rfl | rfl)))))
        | (refine gBin ?_; (first
            | (refine S_eql rfl rfl rfl ?_)
            | (refine S_mul rfl rfl ?_ rfl ?_; (focus (unfold rng; omega)))
            | (refine S_eqlB Try.underlying4 rfl rfl rfl ?_)))
        | (apply S_alloc rfl (hd := rfl); exact T.zc25; intro kb)
        | (apply F_build2 rfl (hd := rfl); exact T.st25; (focus ((repeat (first | exact BuildR.nil | (apply BuildR.cons; (first | exact T.fs25_0 | exact T.fs25_1); rfl; rfl; (focus ((repeat (first | exact SetSeg.nil | apply SetSeg.here | apply SetSeg.there)); done))) | (apply BuildR.cons1; (first | exact T.fs25_0 | exact T.fs25_1); (focus assumption); (focus ((repeat (first | exact SetSeg.nil | apply SetSeg.here | apply SetSeg.there)); done))))); done)))
        | (refine S_done ?_)))
    | ((first
        | (refine C_seq ?_)
        | (refine gReg ?_; (first
            | (refine gReg (i := 0) ?_; refine C_plain [(0, 0), (1, 2)] (by kernel_rfl) (s := [⟨0, none, _, _, _⟩, ⟨2, none, _, _, _⟩]) rfl ?_)
            | (refine gReg (i := 1) ?_; refine C_plain [(0, 0), (1, 2), (2, 0)] (by kernel_rfl) (s := [⟨0, none, _, _, _⟩, ⟨2, none, _, _, _⟩, ⟨0, none, _, _, _⟩]) rfl ?_)
            | (refine gReg (i := 2) ?_; refine C_plain [(0, 0), (1, 2), (2, 0), (3, 0), (4, 2), (5, 0), (6, 2), (7, 2)] (by kernel_rfl) (s := [⟨0, none, _, _, _⟩, ⟨2, none, _, _, _⟩, ⟨0, none, _, _, _⟩, ⟨0, none, _, _, _⟩, ⟨2, none, _, _, _⟩, ⟨0, none, _, _, _⟩, ⟨2, none, _, _, _⟩, ⟨2, none, _, _, _⟩]) rfl ?_)
            | (refine gReg (i := 3) ?_; refine C_plain [(0, 0), (1, 2), (2, 0)] (by kernel_rfl) (s := [⟨0, none, _, _, _⟩, ⟨2, none, _, _, _⟩, ⟨0, none, _, _, _⟩]) rfl ?_)
            | (refine gReg (i := 4) ?_; refine C_plain [(0, 0), (1, 0), (2, 0), (3, 0), (4, 0), (5, 2), (6, 0), (7, 2), (8, 0), (9, 0), (10, 2)] (by kernel_rfl) (s := [⟨0, none, _, _, _⟩, ⟨0, none, _, _, _⟩, ⟨0, none, _, _, _⟩, ⟨0, none, _, _, _⟩, ⟨0, none, _, _, _⟩, ⟨2, none, _, _, _⟩, ⟨0, none, _, _, _⟩, ⟨2, none, _, _, _⟩, ⟨0, none, _, _, _⟩, ⟨0, none, _, _, _⟩, ⟨2, none, _, _, _⟩]) rfl ?_)
            | (refine gReg (i := 5) ?_; refine C_drawnT2 4 3 rfl rfl (.br [(0, 0), (3, 0), (7, 0), (1, 1)] (.fin [(2, 1), (4, 1), (5, 0), (6, 0), (8, 0), (9, 2)]) (.fin [(4, 1), (2, 1), (5, 0), (6, 0), (8, 0), (9, 2)])) T.mixed (by kernel_rfl) (s := (.br [⟨0, none, _, _, _⟩, ⟨0, none, _, _, _⟩, ⟨0, none, _, _, _⟩, ⟨1, none, _, _, _⟩] (.fin [⟨1, none, _, _, _⟩, ⟨1, none, _, _, _⟩, ⟨0, none, _, _, _⟩, ⟨0, none, _, _, _⟩, ⟨0, none, _, _, _⟩, ⟨2, none, _, _, _⟩]) (.fin [⟨1, none, _, _, _⟩, ⟨1, none, _, _, _⟩, ⟨0, none, _, _, _⟩, ⟨0, none, _, _, _⟩, ⟨0, none, _, _, _⟩, ⟨2, none, _, _, _⟩]))) rfl ?_)))
        | (refine C_true rfl ?_)
        | (refine C_false rfl ?_)
        | (refine C_split rfl ?_ ?_ <;> (intro hb; (try simp only [decide_eq_true_eq] at hb); (try simp only [decide_eq_false_iff_not] at hb); (try simp only [Bool.not_eq_true'] at hb); (try simp only [Bool.not_eq_false'] at hb); (try (exfalso; first | contradiction | omega))))
        | (refine C_skip ?_)
        | (refine C_exit ?_)
        | (refine C_ret ?_)
        | (refine C_block ?_)
        | (refine T_fin ?_)
        | (refine T_br ?_)))
    | (refine gE ?_; (first
        | (refine E_then ?_)
        | (refine E_thenX ?_)
        | (refine E_thenR ?_)
        | (refine E_block ?_)
        | (refine E_blockY ?_)
        | (refine E_blockR ?_)
        | (refine E_calm ?_)
        | (refine E_blockX rfl ?_)
        | (apply E_ret1 rfl; (first | exact Res.tmp rfl | (apply R_cellAll rfl; (focus ((repeat (first | exact List.Mem.head _ | refine List.Mem.tail _ ?_)); done)); exact T.rw25) | (apply R_cell1 rfl; (focus ((repeat (first | exact List.Mem.head _ | refine List.Mem.tail _ ?_)); done)); exact T.sc3)))
        | (apply E_ret2 rfl; (first | exact Res.tmp rfl | (apply R_cellAll rfl; (focus ((repeat (first | exact List.Mem.head _ | refine List.Mem.tail _ ?_)); done)); exact T.rw25) | (apply R_cell1 rfl; (focus ((repeat (first | exact List.Mem.head _ | refine List.Mem.tail _ ?_)); done)); exact T.sc3)); (first | exact Res.tmp rfl | (apply R_cellAll rfl; (focus ((repeat (first | exact List.Mem.head _ | refine List.Mem.tail _ ?_)); done)); exact T.rw25) | (apply R_cell1 rfl; (focus ((repeat (first | exact List.Mem.head _ | refine List.Mem.tail _ ?_)); done)); exact T.sc3)))
        | (apply E_ret3 rfl; (first | exact Res.tmp rfl | (apply R_cellAll rfl; (focus ((repeat (first | exact List.Mem.head _ | refine List.Mem.tail _ ?_)); done)); exact T.rw25) | (apply R_cell1 rfl; (focus ((repeat (first | exact List.Mem.head _ | refine List.Mem.tail _ ?_)); done)); exact T.sc3)); (first | exact Res.tmp rfl | (apply R_cellAll rfl; (focus ((repeat (first | exact List.Mem.head _ | refine List.Mem.tail _ ?_)); done)); exact T.rw25) | (apply R_cell1 rfl; (focus ((repeat (first | exact List.Mem.head _ | refine List.Mem.tail _ ?_)); done)); exact T.sc3)); (first | exact Res.tmp rfl | (apply R_cellAll rfl; (focus ((repeat (first | exact List.Mem.head _ | refine List.Mem.tail _ ?_)); done)); exact T.rw25) | (apply R_cell1 rfl; (focus ((repeat (first | exact List.Mem.head _ | refine List.Mem.tail _ ?_)); done)); exact T.sc3)))
        | (refine E_both ?_ ?_))))
  all_goals exact retX (_, _, _) (by dsimp only; omega) rfl (by exact Ent.pull Pull.nil)
end Go.Proofs.Ytencglgaldaaiaa

/- The law FnFibPick: of drawn hops a flow goes by one; when another one goes it stays with its own; when its own goes it goes by one that is left. No condition. -/
import Derived.Test.YtencglgaldaaiaaFibj
import Derived.Test.YtencglgaldaaiaaSymh
import Derived.Test.YtencglgaldaaiaaOpens
set_option linter.unusedSimpArgs false
set_option linter.unusedVariables false
namespace Go.Proofs.Ytencglgaldaaiaa.fnFibPick
open Go Go.ChangeShapes Go.WideShapes Go.ChangeAt Go.RowKit
attribute [local irreducible] Calls GoS GoC GoE GoT Mid IsEq IsFl IsSc IsRw IsSl IsEl IsSt IsFs sp Mem Rd LenOf szR
theorem pickF_shift (l : List MFibHop) (f : Int) : ∀ k, pickF l (f + 65535 + 1) k = pickF l f k
  | 0 => rfl
  | k + 1 => by
    have e : ∀ j, scoreAt l (f + 65535 + 1) j = scoreAt l f j := fun j => score_shift f _ _
    by_cases h : scoreAt l f (pickF l f k) < scoreAt l f k
    · rw [pickF_t h, pickF_t (by rw [pickF_shift l f k, e, e]; exact h)]
    · rw [pickF_f h, pickF_f (by rw [pickF_shift l f k, e, e]; exact h), pickF_shift l f k]
theorem pickV_eq (l : List MFibHop) (f : Int) : pickV l f = if hopsOk l = true then (pickF l f l.length : Int) else -1 := rfl
theorem pickV_shift (l : List MFibHop) (f : Int) : pickV l (f + 65535 + 1) = pickV l f := by unfold pickV; rw [pickF_shift]
theorem pickV_ok {l : List MFibHop} {f : Int} (h : hopsOk l = true) : pickV l f = (pickF l f l.length : Int) := by unfold pickV; rw [h]; rfl
attribute [local irreducible] hopsOk pickF pickV score hopOk
set_option maxHeartbeats 1000000 in
theorem walk (w : World) (x : MSuint8) (hx : okSuint8 w x) : Calls Try.prog 7 #[x.1] w (RetN (.bool true) w) := by
  obtain ⟨v, l⟩ := x
  obtain ⟨hm, hby⟩ := hx
  dsimp only at *
  have hlen := hm.len
  simp only [maxLen] at hlen
  refine enter (n := 117) (E := [(0, _)]) Try.func7 rfl rfl rfl rfl ?_
  repeat' (first
    | (refine gS ?_; (first
        | (refine gGuard ?_; (first
            | (refine S_on rfl ?_)
            | (refine S_off rfl rfl rfl ?_)
            | (refine S_offn rfl rfl ?_)
            | (refine S_offU rfl rfl ?_)
            | (refine S_offUn rfl ?_)
            | (refine S_gsplit rfl ?_ ?_ <;> (intro hb; (try simp only [decide_eq_true_eq] at hb); (try simp only [decide_eq_false_iff_not] at hb); (try simp only [Bool.not_eq_true'] at hb); (try simp only [Bool.not_eq_false'] at hb); (try (exfalso; first | contradiction | omega))))))
        | (refine S_move rfl rfl ?_)
        | (refine S_assign rfl rfl ?_)
        | (apply F_idx rfl rfl rfl; (first | exact T.sl28 | exact T.sl35); (focus rfl); (focus (first | (focus (first | exact len_nil | (apply len_given; assumption) | (apply len_row; (focus ((repeat (first | exact List.Mem.head _ | refine List.Mem.tail _ ?_)); done))) | (refine len_isN ?_; assumption))) | (apply len_sub; (focus (first | exact len_nil | (apply len_given; assumption) | (apply len_row; (focus ((repeat (first | exact List.Mem.head _ | refine List.Mem.tail _ ?_)); done))) | (refine len_isN ?_; assumption))); (focus omega); (focus omega)))); (focus omega))
        | (apply F_idxZ rfl rfl rfl; (first | exact T.sl28 | exact T.sl35); (focus omega); (focus (first | (focus (first | exact len_nil | (apply len_given; assumption) | (apply len_row; (focus ((repeat (first | exact List.Mem.head _ | refine List.Mem.tail _ ?_)); done))) | (refine len_isN ?_; assumption))) | (apply len_sub; (focus (first | exact len_nil | (apply len_given; assumption) | (apply len_row; (focus ((repeat (first | exact List.Mem.head _ | refine List.Mem.tail _ ?_)); done))) | (refine len_isN ?_; assumption))); (focus omega); (focus omega)))); (focus omega))
        | (apply F_slice rfl rfl; (first | exact T.sl28 | exact T.sl35); (focus (first | (focus (first | exact len_nil | (apply len_given; assumption) | (apply len_row; (focus ((repeat (first | exact List.Mem.head _ | refine List.Mem.tail _ ?_)); done))) | (refine len_isN ?_; assumption))) | (apply len_sub; (focus (first | exact len_nil | (apply len_given; assumption) | (apply len_row; (focus ((repeat (first | exact List.Mem.head _ | refine List.Mem.tail _ ?_)); done))) | (refine len_isN ?_; assumption))); (focus omega); (focus omega)))); (focus exact rfl); (focus exact ⟨_, _, rfl, by omega, rfl⟩); (focus omega); (focus omega))
        | (apply F_slice rfl rfl; (first | exact T.sl28 | exact T.sl35); (focus (first | (focus (first | exact len_nil | (apply len_given; assumption) | (apply len_row; (focus ((repeat (first | exact List.Mem.head _ | refine List.Mem.tail _ ?_)); done))) | (refine len_isN ?_; assumption))) | (apply len_sub; (focus (first | exact len_nil | (apply len_given; assumption) | (apply len_row; (focus ((repeat (first | exact List.Mem.head _ | refine List.Mem.tail _ ?_)); done))) | (refine len_isN ?_; assumption))); (focus omega); (focus omega)))); (focus exact ⟨_, _, rfl, by omega, rfl⟩); (focus exact rfl); (focus omega); (focus omega))
        | (apply F_bs0 rfl rfl; (first | exact T.el28 | exact T.el35); rfl; intro sv; (try (refine S_fact (row_one (v := sv) (by (focus ((repeat (first | exact List.Mem.head _ | refine List.Mem.tail _ ?_)); done)))) (fun hone => ?_))))
        | (apply F_bs rfl rfl; (first | exact T.el28 | exact T.el35); rfl; rfl; rfl; rfl; (focus ((repeat (first | exact Dense.nil | (apply Dense.cons; rfl; rfl))); done)); intro sv; (try (refine S_fact (row_one (v := sv) (by (focus ((repeat (first | exact List.Mem.head _ | refine List.Mem.tail _ ?_)); done)))) (fun hone => ?_))))
        | (refine gLoad ?_; (first
            | (apply F_loadAll rfl rfl; (focus ((repeat (first | exact List.Mem.head _ | refine List.Mem.tail _ ?_)); done)); exact T.rw25; (focus (first | exact free0 | exact free1)))
            | (apply F_loadP rfl rfl; (focus ((repeat (first | exact List.Mem.head _ | refine List.Mem.tail _ ?_)); done)); exact T.rw25; (focus ((repeat (first | exact Take.nil | apply Take.here | apply Take.there)); done)); rfl; (focus (first | exact free0 | exact free1)))
            | (apply F_loadSN rfl rfl; exact T.rw25; (focus (first | exact rd_nil | (apply rd_given; (focus assumption); (focus (first | exact freeG0 | exact freeG1))) | (apply rd_row; (focus ((repeat (first | exact List.Mem.head _ | refine List.Mem.tail _ ?_)); done)); (focus (first | exact freeR0 | exact freeR1))) | (apply rd_sub; (focus (apply rd_given; (focus assumption); (focus (first | exact freeG0 | exact freeG1)))); (focus (intro _; rfl)); (focus omega); (focus omega)) | (apply rd_sub; (focus (apply rd_row; (focus ((repeat (first | exact List.Mem.head _ | refine List.Mem.tail _ ?_)); done)); (focus (first | exact freeR0 | exact freeR1)))); (focus (intro _; rfl)); (focus omega); (focus omega)))); (focus (first | (focus (apply at_flat; (focus (intro _; rfl)); (focus assumption))) | exact at_self)); rfl; rfl)
            | (apply F_loadSP rfl rfl; exact T.rw25; (focus (first | exact rd_nil | (apply rd_given; (focus assumption); (focus (first | exact freeG0 | exact freeG1))) | (apply rd_row; (focus ((repeat (first | exact List.Mem.head _ | refine List.Mem.tail _ ?_)); done)); (focus (first | exact freeR0 | exact freeR1))) | (apply rd_sub; (focus (apply rd_given; (focus assumption); (focus (first | exact freeG0 | exact freeG1)))); (focus (intro _; rfl)); (focus omega); (focus omega)) | (apply rd_sub; (focus (apply rd_row; (focus ((repeat (first | exact List.Mem.head _ | refine List.Mem.tail _ ?_)); done)); (focus (first | exact freeR0 | exact freeR1)))); (focus (intro _; rfl)); (focus omega); (focus omega)))); (focus (apply at_flat; (focus (intro _; rfl)); (focus assumption))); (focus ((repeat (first | exact Take.nil | apply Take.here | apply Take.there)); done)); rfl; rfl)
            | (apply F_loadST rfl rfl; exact T.rw25; (focus (first | exact rd_nil | (apply rd_given; (focus assumption); (focus (first | exact freeG0 | exact freeG1))) | (apply rd_row; (focus ((repeat (first | exact List.Mem.head _ | refine List.Mem.tail _ ?_)); done)); (focus (first | exact freeR0 | exact freeR1))) | (apply rd_sub; (focus (apply rd_given; (focus assumption); (focus (first | exact freeG0 | exact freeG1)))); (focus (intro _; rfl)); (focus omega); (focus omega)) | (apply rd_sub; (focus (apply rd_row; (focus ((repeat (first | exact List.Mem.head _ | refine List.Mem.tail _ ?_)); done)); (focus (first | exact freeR0 | exact freeR1)))); (focus (intro _; rfl)); (focus omega); (focus omega)))); (focus ((repeat (first | exact Take.nil | apply Take.here | apply Take.there)); done)); rfl; rfl)))
        | (refine gCall ?_; (first
            | (refine S_callX (f := 23) rfl T.pf23 rfl (fun w hst => drawFibPick_c v l w (Mem.given hst hm) hby) rfl (fun zz hzz => ?_); simp only [List.cons_append, List.nil_append]; revert hzz; revert zz; rintro ⟨x, f⟩ ⟨hxl, hf1, hf2⟩; dsimp only at hxl hf1 hf2 ⊢; refine S_unrow ?_; obtain ⟨k, hk⟩ : ∃ k, pickV x.2 f = k := ⟨_, rfl⟩; have hkv : k = if hopsOk x.2 = true then (pickF x.2 f x.2.length : Int) else -1 := (by rw [← hk]; exact pickV_eq _ _); (cases hok : hopsOk x.2) <;> (rw [hok] at hkv; simp only [if_true, Bool.false_eq_true, if_false] at hkv))
            | (refine S_callN (f := 22) rfl T.pf22 rfl (fun w hst => (hk ▸ implFibPick_c _ x.2 f w (by first | (refine Mem.given hst ?_; assumption) | (apply Mem.row hst; (focus ((repeat (first | exact List.Mem.head _ | refine List.Mem.tail _ ?_)); done)))))) rfl ?_)
            | (refine S_callN (f := 21) rfl T.pf21 rfl (fun w hst => (hk ▸ specFibPick_c _ x.2 f w (by first | (refine Mem.given hst ?_; assumption) | (apply Mem.row hst; (focus ((repeat (first | exact List.Mem.head _ | refine List.Mem.tail _ ?_)); done)))))) rfl ?_)
            | (refine S_callN (f := 19) rfl T.pf19 rfl (fun w hst => (hok ▸ implFibHopsOk_c _ x.2 w (by first | (refine Mem.given hst ?_; assumption) | (apply Mem.row hst; (focus ((repeat (first | exact List.Mem.head _ | refine List.Mem.tail _ ?_)); done)))))) rfl ?_)
            | (refine S_callN (f := 17) rfl T.pf17 rfl (fun w hst => (hok ▸ specFibHopsOk_c _ x.2 w (by first | (refine Mem.given hst ?_; assumption) | (apply Mem.row hst; (focus ((repeat (first | exact List.Mem.head _ | refine List.Mem.tail _ ?_)); done)))))) rfl ?_)
            | (apply F_len rfl rfl rfl; (focus exact ⟨_, _, by (first | exact T.sl28 | exact T.sl35)⟩); (focus (first | (focus (first | exact len_nil | (apply len_given; assumption) | (apply len_row; (focus ((repeat (first | exact List.Mem.head _ | refine List.Mem.tail _ ?_)); done))) | (refine len_isN ?_; assumption))) | (apply len_sub; (focus (first | exact len_nil | (apply len_given; assumption) | (apply len_row; (focus ((repeat (first | exact List.Mem.head _ | refine List.Mem.tail _ ?_)); done))) | (refine len_isN ?_; assumption))); (focus omega); (focus omega)))))
            | (apply F_append rfl rfl rfl rfl; (first | exact T.el28 | exact T.el35); (focus (intro sv; (focus ((repeat (first | exact Upd.here | apply Upd.there)); done)))); (focus (first | exact rd_nil | (apply rd_given; (focus assumption); (focus (first | exact freeG0 | exact freeG1))) | (apply rd_row; (focus ((repeat (first | exact List.Mem.head _ | refine List.Mem.tail _ ?_)); done)); (focus (first | exact freeR0 | exact freeR1))) | (apply rd_sub; (focus (apply rd_given; (focus assumption); (focus (first | exact freeG0 | exact freeG1)))); (focus (intro _; rfl)); (focus omega); (focus omega)) | (apply rd_sub; (focus (apply rd_row; (focus ((repeat (first | exact List.Mem.head _ | refine List.Mem.tail _ ?_)); done)); (focus (first | exact freeR0 | exact freeR1)))); (focus (intro _; rfl)); (focus omega); (focus omega)))); (focus (first | rfl | assumption | (apply all_flat; intro _ _; rfl) | (rw [List.append_nil]; assumption) | (simp only [List.append_nil, List.all_cons, List.all_nil, Bool.and_true, Bool.true_and, one_int, one_bool, one_string, one_slice, one_pointer, *]; done) | simp)); (first | exact okst2 | exact okst1 | exact okst1'); (focus (simp only [maxLen]; first | omega | (simp only [List.length_take, List.length_drop]; omega))); (focus (first | omega | (simp only [List.length_take, List.length_drop]; omega))); intro sv; (try (refine S_fact (row_one (v := sv) (by (focus ((repeat (first | exact List.Mem.head _ | refine List.Mem.tail _ ?_)); done)))) (fun hone => ?_))))))
        | (refine gBin ?_; (first
            | (apply S_eqlS rfl rfl rfl; (focus exact T.eqs25 _ _ _ _))
            | (apply S_neqS rfl rfl rfl; (focus exact T.eqs25 _ _ _ _))
            | (refine S_lss rfl rfl rfl ?_)
            | (refine S_gtr rfl rfl rfl ?_)
            | (refine S_geq rfl rfl rfl ?_)
            | (refine S_eql rfl rfl rfl ?_)
            | (refine S_neq rfl rfl rfl ?_)
            | (refine S_add rfl rfl ?_ rfl ?_; (focus (unfold rng; omega)))
            | (refine S_eqlB Try.underlying4 rfl rfl rfl ?_)
            | (refine S_neqB Try.underlying4 rfl rfl rfl ?_)))
        | (refine gPick ?_; (first
            | (refine S_pickT rfl rfl rfl ?_)
            | (refine S_pickF rfl rfl rfl ?_)))
        | (refine S_not rfl rfl ?_)
        | (refine S_extract rfl rfl rfl ?_)
        | (refine S_done ?_)
        | (refine S_K rfl ?_)))
    | ((first
        | (refine C_seq ?_)
        | (refine gReg ?_; (first
            | (refine gReg (i := 0) ?_; refine C_plain [(0, 0)] (by kernel_rfl) (s := [⟨0, none, _, _, _⟩]) rfl ?_)
            | (refine gReg (i := 1) ?_; refine C_plain [(0, 0), (1, 0), (2, 0)] (by kernel_rfl) (s := [⟨0, none, _, _, _⟩, ⟨0, none, _, _, _⟩, ⟨0, none, _, _, _⟩]) rfl ?_)
            | (refine gReg (i := 2) ?_; refine C_plain [(0, 0)] (by kernel_rfl) (s := [⟨0, none, _, _, _⟩]) rfl ?_)
            | (refine gReg (i := 3) ?_; refine C_plain [(0, 0), (1, 2), (2, 0), (3, 0), (4, 0), (5, 0), (6, 0)] (by kernel_rfl) (s := [⟨0, none, _, _, _⟩, ⟨2, none, _, _, _⟩, ⟨0, none, _, _, _⟩, ⟨0, none, _, _, _⟩, ⟨0, none, _, _, _⟩, ⟨0, none, _, _, _⟩, ⟨0, none, _, _, _⟩]) rfl ?_)
            | (refine gReg (i := 4) ?_; refine C_plain [(0, 0), (1, 0), (2, 2), (3, 0)] (by kernel_rfl) (s := [⟨0, none, _, _, _⟩, ⟨0, none, _, _, _⟩, ⟨2, none, _, _, _⟩, ⟨0, none, _, _, _⟩]) rfl ?_)
            | (refine gReg (i := 5) ?_; refine C_plain [(0, 0), (1, 0), (2, 0), (3, 2), (4, 0), (5, 0), (6, 0), (7, 2), (8, 0), (9, 2), (10, 0), (11, 0)] (by kernel_rfl) (s := [⟨0, none, _, _, _⟩, ⟨0, none, _, _, _⟩, ⟨0, none, _, _, _⟩, ⟨2, none, _, _, _⟩, ⟨0, none, _, _, _⟩, ⟨0, none, _, _, _⟩, ⟨0, some (25, false), _, _, _⟩, ⟨2, some (25, false), _, _, _⟩, ⟨0, some (25, false), _, _, _⟩, ⟨2, some (25, false), _, _, _⟩, ⟨0, some (25, false), _, _, _⟩, ⟨0, none, _, _, _⟩]) rfl ?_)
            | (refine gReg (i := 6) ?_; refine C_plain [(0, 0)] (by kernel_rfl) (s := [⟨0, none, _, _, _⟩]) rfl ?_)
            | (refine gReg (i := 7) ?_; refine C_plain [(0, 0), (1, 2), (2, 0)] (by kernel_rfl) (s := [⟨0, none, _, _, _⟩, ⟨2, none, _, _, _⟩, ⟨0, none, _, _, _⟩]) rfl ?_)
            | (refine gReg (i := 8) ?_; refine C_plain [(0, 0), (1, 0), (2, 0)] (by kernel_rfl) (s := [⟨0, none, _, _, _⟩, ⟨0, none, _, _, _⟩, ⟨0, none, _, _, _⟩]) rfl ?_)
            | (refine gReg (i := 9) ?_; refine C_plain [(0, 0)] (by kernel_rfl) (s := [⟨0, none, _, _, _⟩]) rfl ?_)
            | (refine gReg (i := 10) ?_; refine C_plain [(0, 0), (1, 0), (2, 0), (3, 0), (4, 0), (5, 0), (6, 0), (7, 0), (8, 0)] (by kernel_rfl) (s := [⟨0, none, _, _, _⟩, ⟨0, none, _, _, _⟩, ⟨0, none, _, _, _⟩, ⟨0, none, _, _, _⟩, ⟨0, none, _, _, _⟩, ⟨0, some (41, true), _, _, _⟩, ⟨0, some (41, true), _, _, _⟩, ⟨0, some (41, true), _, _, _⟩, ⟨0, none, _, _, _⟩]) rfl ?_)
            | (refine gReg (i := 12) ?_; refine C_drawnT (.br [(1, 0), (2, 0), (3, 0), (5, 0), (6, 0)] (.br [(0, 1)] (.fin [(4, 2), (7, 1), (8, 1), (9, 2), (10, 0)]) (.br [(7, 1)] (.fin [(4, 2), (8, 1), (9, 2), (10, 0)]) (.fin [(8, 1), (4, 2), (9, 2), (10, 0)]))) (.br [(7, 1)] (.br [(0, 1)] (.fin [(4, 2), (8, 1), (9, 2), (10, 0)]) (.fin [(8, 1), (4, 2), (9, 2), (10, 0)])) (.fin [(8, 1), (0, 1), (4, 2), (9, 2), (10, 0)]))) [] T.mixed (by kernel_rfl) (s := (.br [⟨0, none, _, _, _⟩, ⟨0, none, _, _, _⟩, ⟨0, none, _, _, _⟩, ⟨0, none, _, _, _⟩, ⟨0, none, _, _, _⟩] (.br [⟨1, none, _, _, _⟩] (.fin [⟨2, none, _, _, _⟩, ⟨1, none, _, _, _⟩, ⟨1, none, _, _, _⟩, ⟨2, none, _, _, _⟩, ⟨0, none, _, _, _⟩]) (.br [⟨1, none, _, _, _⟩] (.fin [⟨2, none, _, _, _⟩, ⟨1, none, _, _, _⟩, ⟨2, none, _, _, _⟩, ⟨0, none, _, _, _⟩]) (.fin [⟨1, none, _, _, _⟩, ⟨2, none, _, _, _⟩, ⟨2, none, _, _, _⟩, ⟨0, none, _, _, _⟩]))) (.br [⟨1, none, _, _, _⟩] (.br [⟨1, none, _, _, _⟩] (.fin [⟨2, none, _, _, _⟩, ⟨1, none, _, _, _⟩, ⟨2, none, _, _, _⟩, ⟨0, none, _, _, _⟩]) (.fin [⟨1, none, _, _, _⟩, ⟨2, none, _, _, _⟩, ⟨2, none, _, _, _⟩, ⟨0, none, _, _, _⟩])) (.fin [⟨1, none, _, _, _⟩, ⟨1, none, _, _, _⟩, ⟨2, none, _, _, _⟩, ⟨2, none, _, _, _⟩, ⟨0, none, _, _, _⟩])))) rfl ?_)
            | (refine gReg (i := 13) ?_; refine C_plain [(0, 0), (1, 0), (2, 2), (3, 0)] (by kernel_rfl) (s := [⟨0, none, _, _, _⟩, ⟨0, none, _, _, _⟩, ⟨2, none, _, _, _⟩, ⟨0, none, _, _, _⟩]) rfl ?_)
            | (refine gReg (i := 14) ?_; apply C_drawn [(0, 0), (1, 0), (2, 0), (3, 0), (4, 0), (5, 0), (6, 0), (7, 0), (8, 0), (9, 0), (10, 0), (11, 0), (12, 0), (13, 0), (14, 0), (15, 0), (16, 0), (17, 0), (18, 0), (19, 0), (20, 0), (21, 0), (22, 0), (23, 0), (24, 0), (25, 0), (26, 0), (27, 0), (28, 0), (29, 0), (31, 0), (32, 0), (33, 0), (34, 0), (35, 0), (30, 1), (36, 1), (37, 0), (38, 0)] [] T.mixed (by kernel_rfl); (focus (simp only [mkS, gSlot, List.getElem?_cons_zero, List.getElem?_cons_succ]; rfl)))
            | (refine gReg (i := 15) ?_; refine C_plain [(0, 0)] (by kernel_rfl) (s := [⟨0, none, _, _, _⟩]) rfl ?_)
            | (refine gReg (i := 11) ?_; refine C_plain [(0, 0), (1, 0), (2, 0)] (by kernel_rfl) (s := [⟨0, none, _, _, _⟩, ⟨0, none, _, _, _⟩, ⟨0, none, _, _, _⟩]) rfl ?_)
            | (refine gReg (i := 16) ?_; refine C_plain [(0, 0), (1, 0), (2, 0), (3, 0), (4, 0), (5, 0), (6, 0), (7, 0), (8, 0), (9, 0), (10, 0), (11, 0), (12, 0), (13, 2), (14, 0), (15, 0), (16, 0), (17, 0)] (by kernel_rfl) (s := [⟨0, none, _, _, _⟩, ⟨0, none, _, _, _⟩, ⟨0, none, _, _, _⟩, ⟨0, some (102, true), _, _, _⟩, ⟨0, some (102, true), _, _, _⟩, ⟨0, some (102, true), _, _, _⟩, ⟨0, some (102, true), _, _, _⟩, ⟨0, none, _, _, _⟩, ⟨0, none, _, _, _⟩, ⟨0, some (108, true), _, _, _⟩, ⟨0, some (108, true), _, _, _⟩, ⟨0, some (108, true), _, _, _⟩, ⟨0, some (108, true), _, _, _⟩, ⟨2, some (108, true), _, _, _⟩, ⟨0, some (108, true), _, _, _⟩, ⟨0, some (108, true), _, _, _⟩, ⟨0, none, _, _, _⟩, ⟨0, none, _, _, _⟩]) rfl ?_)))
        | (refine C_true rfl ?_)
        | (refine C_false rfl ?_)
        | (refine C_split rfl ?_ ?_ <;> (intro hb; (try simp only [decide_eq_true_eq] at hb); (try simp only [decide_eq_false_iff_not] at hb); (try simp only [Bool.not_eq_true'] at hb); (try simp only [Bool.not_eq_false'] at hb); (try (exfalso; first | contradiction | omega))))
        | (refine C_skip ?_)
        | (refine C_exit ?_)
        | (refine C_ret ?_)
        | (refine C_block ?_)
        | (refine T_fin ?_)
        | (refine T_br ?_)))
    | (refine gE ?_; (first
        | (refine E_then ?_)
        | (refine E_thenX ?_)
        | (refine E_thenR ?_)
        | (refine E_block ?_)
        | (refine E_blockY ?_)
        | (refine E_blockR ?_)
        | (refine E_calm ?_)
        | (refine E_blockX rfl ?_)
        | (apply E_ret1 rfl; (first | exact Res.tmp rfl | (apply R_cellAll rfl; (focus ((repeat (first | exact List.Mem.head _ | refine List.Mem.tail _ ?_)); done)); exact T.rw25) | (apply R_cell1 rfl; (focus ((repeat (first | exact List.Mem.head _ | refine List.Mem.tail _ ?_)); done)); fail)))
        | (apply E_ret2 rfl; (first | exact Res.tmp rfl | (apply R_cellAll rfl; (focus ((repeat (first | exact List.Mem.head _ | refine List.Mem.tail _ ?_)); done)); exact T.rw25) | (apply R_cell1 rfl; (focus ((repeat (first | exact List.Mem.head _ | refine List.Mem.tail _ ?_)); done)); fail)); (first | exact Res.tmp rfl | (apply R_cellAll rfl; (focus ((repeat (first | exact List.Mem.head _ | refine List.Mem.tail _ ?_)); done)); exact T.rw25) | (apply R_cell1 rfl; (focus ((repeat (first | exact List.Mem.head _ | refine List.Mem.tail _ ?_)); done)); fail)))
        | (apply E_ret3 rfl; (first | exact Res.tmp rfl | (apply R_cellAll rfl; (focus ((repeat (first | exact List.Mem.head _ | refine List.Mem.tail _ ?_)); done)); exact T.rw25) | (apply R_cell1 rfl; (focus ((repeat (first | exact List.Mem.head _ | refine List.Mem.tail _ ?_)); done)); fail)); (first | exact Res.tmp rfl | (apply R_cellAll rfl; (focus ((repeat (first | exact List.Mem.head _ | refine List.Mem.tail _ ?_)); done)); exact T.rw25) | (apply R_cell1 rfl; (focus ((repeat (first | exact List.Mem.head _ | refine List.Mem.tail _ ?_)); done)); fail)); (first | exact Res.tmp rfl | (apply R_cellAll rfl; (focus ((repeat (first | exact List.Mem.head _ | refine List.Mem.tail _ ?_)); done)); exact T.rw25) | (apply R_cell1 rfl; (focus ((repeat (first | exact List.Mem.head _ | refine List.Mem.tail _ ?_)); done)); fail)))
        | (refine E_both ?_ ?_)
        | (refine E_K ?_))))
  · exact retN rfl
  · refine retN ?_
    rw [hkv]; rfl
  have hll := hopsOk_len hok
  have hlaw := pickF_law x.2 f x.2.length (by omega)
  obtain ⟨kn, hkn⟩ : ∃ kn, pickF x.2 f x.2.length = kn := ⟨_, rfl⟩
  rw [hkn] at hkv hlaw
  subst hkv
  obtain ⟨hl1, hl2, _⟩ := hlaw
  have hk2 : pickV x.2 (f + 65535 + 1) = (kn : Int) := by rw [pickV_shift, hk]
  have hxk : x.2[kn]? = some (ix x.2 kn) := nthD (by omega)
  refine C_loop (α := Nat) (fun i => [(6, .int .i64 (i : Int)), (5, .int .i64 (kn : Int)), (4, .int .i64 f), (3, x.1)]) (fun _ => [.row x.1 25 2 x.2.length (x.2.flatMap clFibHop)]) (fun i => i ≤ x.2.length) (fun i => x.2.length - i) 0 (Nat.zero_le _) ⟨rfl, rfl, rfl, rfl, trivial⟩ (List.Sublist.refl _) ?_
  intro i hi
  have hsc : (i : Int) < (x.2.length : Int) → score f (ix x.2 i).1 (ix x.2 i).2 ≤ score f (ix x.2 kn).1 (ix x.2 kn).2 := fun h => hl2 i (by omega)
  repeat' (first
    | (refine gS ?_; (first
        | (refine gGuard ?_; (first
            | (refine S_on rfl ?_)
            | (refine S_off rfl rfl rfl ?_)
            | (refine S_offn rfl rfl ?_)
            | (refine S_offU rfl rfl ?_)
            | (refine S_offUn rfl ?_)
            | (refine S_gsplit rfl ?_ ?_ <;> (intro hb; (try simp only [decide_eq_true_eq] at hb); (try simp only [decide_eq_false_iff_not] at hb); (try simp only [Bool.not_eq_true'] at hb); (try simp only [Bool.not_eq_false'] at hb); (try (exfalso; first | contradiction | omega)); (try (have hx1 := nthD (l := x.2) (k := i) hb)); (try (have hsc1 := hsc hb))))))
        | (refine S_move rfl rfl ?_)
        | (refine S_assign rfl rfl ?_)
        | (apply F_idx rfl rfl rfl; (first | exact T.sl28 | exact T.sl35); (focus rfl); (focus (first | (focus (first | exact len_nil | (apply len_given; assumption) | (apply len_row; (focus ((repeat (first | exact List.Mem.head _ | refine List.Mem.tail _ ?_)); done))) | (refine len_isN ?_; assumption))) | (apply len_sub; (focus (first | exact len_nil | (apply len_given; assumption) | (apply len_row; (focus ((repeat (first | exact List.Mem.head _ | refine List.Mem.tail _ ?_)); done))) | (refine len_isN ?_; assumption))); (focus omega); (focus omega)))); (focus omega))
        | (apply F_idxZ rfl rfl rfl; (first | exact T.sl28 | exact T.sl35); (focus omega); (focus (first | (focus (first | exact len_nil | (apply len_given; assumption) | (apply len_row; (focus ((repeat (first | exact List.Mem.head _ | refine List.Mem.tail _ ?_)); done))) | (refine len_isN ?_; assumption))) | (apply len_sub; (focus (first | exact len_nil | (apply len_given; assumption) | (apply len_row; (focus ((repeat (first | exact List.Mem.head _ | refine List.Mem.tail _ ?_)); done))) | (refine len_isN ?_; assumption))); (focus omega); (focus omega)))); (focus omega))
        | (apply F_slice rfl rfl; (first | exact T.sl28 | exact T.sl35); (focus (first | (focus (first | exact len_nil | (apply len_given; assumption) | (apply len_row; (focus ((repeat (first | exact List.Mem.head _ | refine List.Mem.tail _ ?_)); done))) | (refine len_isN ?_; assumption))) | (apply len_sub; (focus (first | exact len_nil | (apply len_given; assumption) | (apply len_row; (focus ((repeat (first | exact List.Mem.head _ | refine List.Mem.tail _ ?_)); done))) | (refine len_isN ?_; assumption))); (focus omega); (focus omega)))); (focus exact rfl); (focus exact ⟨_, _, rfl, by omega, rfl⟩); (focus omega); (focus omega))
        | (apply F_slice rfl rfl; (first | exact T.sl28 | exact T.sl35); (focus (first | (focus (first | exact len_nil | (apply len_given; assumption) | (apply len_row; (focus ((repeat (first | exact List.Mem.head _ | refine List.Mem.tail _ ?_)); done))) | (refine len_isN ?_; assumption))) | (apply len_sub; (focus (first | exact len_nil | (apply len_given; assumption) | (apply len_row; (focus ((repeat (first | exact List.Mem.head _ | refine List.Mem.tail _ ?_)); done))) | (refine len_isN ?_; assumption))); (focus omega); (focus omega)))); (focus exact ⟨_, _, rfl, by omega, rfl⟩); (focus exact rfl); (focus omega); (focus omega))
        | (apply F_bs0L rfl rfl; (first | exact T.el28 | exact T.el35); rfl; intro kb)
        | (apply F_bs0 rfl rfl; (first | exact T.el28 | exact T.el35); rfl; intro sv; (try (refine S_fact (row_one (v := sv) (by (focus ((repeat (first | exact List.Mem.head _ | refine List.Mem.tail _ ?_)); done)))) (fun hone => ?_))))
        | (apply F_bs rfl rfl; (first | exact T.el28 | exact T.el35); rfl; rfl; rfl; rfl; (focus ((repeat (first | exact Dense.nil | (apply Dense.cons; rfl; rfl))); done)); intro sv; (try (refine S_fact (row_one (v := sv) (by (focus ((repeat (first | exact List.Mem.head _ | refine List.Mem.tail _ ?_)); done)))) (fun hone => ?_))))
        | (refine gLoad ?_; (first
            | (apply F_loadAll rfl rfl; (focus ((repeat (first | exact List.Mem.head _ | refine List.Mem.tail _ ?_)); done)); exact T.rw25; (focus (first | exact free0 | exact free1)))
            | (apply F_loadP rfl rfl; (focus ((repeat (first | exact List.Mem.head _ | refine List.Mem.tail _ ?_)); done)); exact T.rw25; (focus ((repeat (first | exact Take.nil | apply Take.here | apply Take.there)); done)); rfl; (focus (first | exact free0 | exact free1)))
            | (apply F_loadSN rfl rfl; exact T.rw25; (focus (first | exact rd_nil | (apply rd_given; (focus assumption); (focus (first | exact freeG0 | exact freeG1))) | (apply rd_row; (focus ((repeat (first | exact List.Mem.head _ | refine List.Mem.tail _ ?_)); done)); (focus (first | exact freeR0 | exact freeR1))) | (apply rd_sub; (focus (apply rd_given; (focus assumption); (focus (first | exact freeG0 | exact freeG1)))); (focus (intro _; rfl)); (focus omega); (focus omega)) | (apply rd_sub; (focus (apply rd_row; (focus ((repeat (first | exact List.Mem.head _ | refine List.Mem.tail _ ?_)); done)); (focus (first | exact freeR0 | exact freeR1)))); (focus (intro _; rfl)); (focus omega); (focus omega)))); (focus (first | (focus (apply at_flat; (focus (intro _; rfl)); (focus assumption))) | exact at_self)); rfl; rfl)
            | (apply F_loadSP rfl rfl; exact T.rw25; (focus (first | exact rd_nil | (apply rd_given; (focus assumption); (focus (first | exact freeG0 | exact freeG1))) | (apply rd_row; (focus ((repeat (first | exact List.Mem.head _ | refine List.Mem.tail _ ?_)); done)); (focus (first | exact freeR0 | exact freeR1))) | (apply rd_sub; (focus (apply rd_given; (focus assumption); (focus (first | exact freeG0 | exact freeG1)))); (focus (intro _; rfl)); (focus omega); (focus omega)) | (apply rd_sub; (focus (apply rd_row; (focus ((repeat (first | exact List.Mem.head _ | refine List.Mem.tail _ ?_)); done)); (focus (first | exact freeR0 | exact freeR1)))); (focus (intro _; rfl)); (focus omega); (focus omega)))); (focus (apply at_flat; (focus (intro _; rfl)); (focus assumption))); (focus ((repeat (first | exact Take.nil | apply Take.here | apply Take.there)); done)); rfl; rfl)
            | (apply F_loadST rfl rfl; exact T.rw25; (focus (first | exact rd_nil | (apply rd_given; (focus assumption); (focus (first | exact freeG0 | exact freeG1))) | (apply rd_row; (focus ((repeat (first | exact List.Mem.head _ | refine List.Mem.tail _ ?_)); done)); (focus (first | exact freeR0 | exact freeR1))) | (apply rd_sub; (focus (apply rd_given; (focus assumption); (focus (first | exact freeG0 | exact freeG1)))); (focus (intro _; rfl)); (focus omega); (focus omega)) | (apply rd_sub; (focus (apply rd_row; (focus ((repeat (first | exact List.Mem.head _ | refine List.Mem.tail _ ?_)); done)); (focus (first | exact freeR0 | exact freeR1)))); (focus (intro _; rfl)); (focus omega); (focus omega)))); (focus ((repeat (first | exact Take.nil | apply Take.here | apply Take.there)); done)); rfl; rfl)))
        | (refine gCall ?_; (first
            | (refine S_callN (f := 22) rfl T.pf22 rfl (fun w hst => (hk2 ▸ implFibPick_c _ x.2 (f + 65535 + 1) w (by first | (refine Mem.given hst ?_; assumption) | (apply Mem.row hst; (focus ((repeat (first | exact List.Mem.head _ | refine List.Mem.tail _ ?_)); done)))))) rfl ?_)
            | (apply F_len rfl rfl rfl; (focus exact ⟨_, _, by (first | exact T.sl28 | exact T.sl35)⟩); (focus (first | (focus (first | exact len_nil | (apply len_given; assumption) | (apply len_row; (focus ((repeat (first | exact List.Mem.head _ | refine List.Mem.tail _ ?_)); done))) | (refine len_isN ?_; assumption))) | (apply len_sub; (focus (first | exact len_nil | (apply len_given; assumption) | (apply len_row; (focus ((repeat (first | exact List.Mem.head _ | refine List.Mem.tail _ ?_)); done))) | (refine len_isN ?_; assumption))); (focus omega); (focus omega)))))
            | (apply F_append0 rfl rfl rfl rfl; (first | exact T.el28 | exact T.el35); (focus (intro sv; (focus ((repeat (first | exact Upd.here | apply Upd.there)); done)))); (focus (first | exact rd_nil | (apply rd_given; (focus assumption); (focus (first | exact freeG0 | exact freeG1))) | (apply rd_row; (focus ((repeat (first | exact List.Mem.head _ | refine List.Mem.tail _ ?_)); done)); (focus (first | exact freeR0 | exact freeR1))) | (apply rd_sub; (focus (apply rd_given; (focus assumption); (focus (first | exact freeG0 | exact freeG1)))); (focus (intro _; rfl)); (focus omega); (focus omega)) | (apply rd_sub; (focus (apply rd_row; (focus ((repeat (first | exact List.Mem.head _ | refine List.Mem.tail _ ?_)); done)); (focus (first | exact freeR0 | exact freeR1)))); (focus (intro _; rfl)); (focus omega); (focus omega)))); (focus (first | rfl | assumption | (apply all_flat; intro _ _; rfl) | (rw [List.append_nil]; assumption) | (simp only [List.append_nil, List.all_cons, List.all_nil, Bool.and_true, Bool.true_and, one_int, one_bool, one_string, one_slice, one_pointer, *]; done) | simp)); rfl; (focus (simp only [maxLen]; first | omega | (simp only [List.length_take, List.length_drop]; omega))); (focus (first | omega | (simp only [List.length_take, List.length_drop]; omega))); intro sv; (try (refine S_fact (row_one (v := sv) (by (focus ((repeat (first | exact List.Mem.head _ | refine List.Mem.tail _ ?_)); done)))) (fun hone => ?_))))
            | (apply F_append rfl rfl rfl rfl; (first | exact T.el28 | exact T.el35); (focus (intro sv; (focus ((repeat (first | exact Upd.here | apply Upd.there)); done)))); (focus (first | exact rd_nil | (apply rd_given; (focus assumption); (focus (first | exact freeG0 | exact freeG1))) | (apply rd_row; (focus ((repeat (first | exact List.Mem.head _ | refine List.Mem.tail _ ?_)); done)); (focus (first | exact freeR0 | exact freeR1))) | (apply rd_sub; (focus (apply rd_given; (focus assumption); (focus (first | exact freeG0 | exact freeG1)))); (focus (intro _; rfl)); (focus omega); (focus omega)) | (apply rd_sub; (focus (apply rd_row; (focus ((repeat (first | exact List.Mem.head _ | refine List.Mem.tail _ ?_)); done)); (focus (first | exact freeR0 | exact freeR1)))); (focus (intro _; rfl)); (focus omega); (focus omega)))); (focus (first | rfl | assumption | (apply all_flat; intro _ _; rfl) | (rw [List.append_nil]; assumption) | (simp only [List.append_nil, List.all_cons, List.all_nil, Bool.and_true, Bool.true_and, one_int, one_bool, one_string, one_slice, one_pointer, *]; done) | simp)); (first | exact okst2 | exact okst1 | exact okst1'); (focus (simp only [maxLen]; first | omega | (simp only [List.length_take, List.length_drop]; omega))); (focus (first | omega | (simp only [List.length_take, List.length_drop]; omega))); intro sv; (try (refine S_fact (row_one (v := sv) (by (focus ((repeat (first | exact List.Mem.head _ | refine List.Mem.tail _ ?_)); done)))) (fun hone => ?_))))))
        | (refine gBin ?_; (first
            | (apply S_eqlS rfl rfl rfl; (focus exact T.eqs25 _ _ _ _))
            | (apply S_neqS rfl rfl rfl; (focus exact T.eqs25 _ _ _ _))
            | (refine S_lss rfl rfl rfl ?_)
            | (refine S_gtr rfl rfl rfl ?_)
            | (refine S_geq rfl rfl rfl ?_)
            | (refine S_eql rfl rfl rfl ?_)
            | (refine S_neq rfl rfl rfl ?_)
            | (refine S_add rfl rfl ?_ rfl ?_; (focus (unfold rng; omega)))
            | (refine S_eqlB Try.underlying4 rfl rfl rfl ?_)
            | (refine S_neqB Try.underlying4 rfl rfl rfl ?_)))
        | (refine gPick ?_; (first
            | (refine S_pickT rfl rfl rfl ?_)
            | (refine S_pickF rfl rfl rfl ?_)))
        | (refine S_not rfl rfl ?_)
        | (refine S_extract rfl rfl rfl ?_)
        | (refine S_done ?_)))
    | (refine gC ?_; (first
        | (refine C_seq ?_)
        | (refine gReg ?_; (first
            | (refine gReg (i := 0) ?_; refine C_plain [(0, 0)] (by kernel_rfl) (s := [⟨0, none, _, _, _⟩]) rfl ?_)
            | (refine gReg (i := 1) ?_; refine C_plain [(0, 0), (1, 0), (2, 0)] (by kernel_rfl) (s := [⟨0, none, _, _, _⟩, ⟨0, none, _, _, _⟩, ⟨0, none, _, _, _⟩]) rfl ?_)
            | (refine gReg (i := 2) ?_; refine C_plain [(0, 0)] (by kernel_rfl) (s := [⟨0, none, _, _, _⟩]) rfl ?_)
            | (refine gReg (i := 3) ?_; refine C_plain [(0, 0), (1, 2), (2, 0), (3, 0), (4, 0), (5, 0), (6, 0)] (by kernel_rfl) (s := [⟨0, none, _, _, _⟩, ⟨2, none, _, _, _⟩, ⟨0, none, _, _, _⟩, ⟨0, none, _, _, _⟩, ⟨0, none, _, _, _⟩, ⟨0, none, _, _, _⟩, ⟨0, none, _, _, _⟩]) rfl ?_)
            | (refine gReg (i := 4) ?_; refine C_plain [(0, 0), (1, 0), (2, 2), (3, 0)] (by kernel_rfl) (s := [⟨0, none, _, _, _⟩, ⟨0, none, _, _, _⟩, ⟨2, none, _, _, _⟩, ⟨0, none, _, _, _⟩]) rfl ?_)
            | (refine gReg (i := 5) ?_; refine C_plain [(0, 0), (1, 0), (2, 0), (3, 2), (4, 0), (5, 0), (6, 0), (7, 2), (8, 0), (9, 2), (10, 0), (11, 0)] (by kernel_rfl) (s := [⟨0, none, _, _, _⟩, ⟨0, none, _, _, _⟩, ⟨0, none, _, _, _⟩, ⟨2, none, _, _, _⟩, ⟨0, none, _, _, _⟩, ⟨0, none, _, _, _⟩, ⟨0, some (25, false), _, _, _⟩, ⟨2, some (25, false), _, _, _⟩, ⟨0, some (25, false), _, _, _⟩, ⟨2, some (25, false), _, _, _⟩, ⟨0, some (25, false), _, _, _⟩, ⟨0, none, _, _, _⟩]) rfl ?_)
            | (refine gReg (i := 6) ?_; refine C_plain [(0, 0)] (by kernel_rfl) (s := [⟨0, none, _, _, _⟩]) rfl ?_)
            | (refine gReg (i := 7) ?_; refine C_plain [(0, 0), (1, 2), (2, 0)] (by kernel_rfl) (s := [⟨0, none, _, _, _⟩, ⟨2, none, _, _, _⟩, ⟨0, none, _, _, _⟩]) rfl ?_)
            | (refine gReg (i := 8) ?_; refine C_plain [(0, 0), (1, 0), (2, 0)] (by kernel_rfl) (s := [⟨0, none, _, _, _⟩, ⟨0, none, _, _, _⟩, ⟨0, none, _, _, _⟩]) rfl ?_)
            | (refine gReg (i := 9) ?_; refine C_plain [(0, 0)] (by kernel_rfl) (s := [⟨0, none, _, _, _⟩]) rfl ?_)
            | (refine gReg (i := 10) ?_; refine C_plain [(0, 0), (1, 0), (2, 0), (3, 0), (4, 0), (5, 0), (6, 0), (7, 0), (8, 0)] (by kernel_rfl) (s := [⟨0, none, _, _, _⟩, ⟨0, none, _, _, _⟩, ⟨0, none, _, _, _⟩, ⟨0, none, _, _, _⟩, ⟨0, none, _, _, _⟩, ⟨0, some (41, true), _, _, _⟩, ⟨0, some (41, true), _, _, _⟩, ⟨0, some (41, true), _, _, _⟩, ⟨0, none, _, _, _⟩]) rfl ?_)
            | (refine gReg (i := 12) ?_; refine C_drawn [(1, 0), (2, 0), (3, 0), (5, 0), (6, 0), (7, 0), (8, 0), (0, 1), (4, 1), (9, 2), (10, 0)] [] T.mixed (by kernel_rfl) (s := [⟨0, none, _, _, _⟩, ⟨0, none, _, _, _⟩, ⟨0, none, _, _, _⟩, ⟨0, none, _, _, _⟩, ⟨0, none, _, _, _⟩, ⟨0, none, _, _, _⟩, ⟨0, none, _, _, _⟩, ⟨1, none, _, _, _⟩, ⟨1, none, _, _, _⟩, ⟨2, none, _, _, _⟩, ⟨0, none, _, _, _⟩]) rfl ?_)
            | (refine gReg (i := 14) ?_; apply C_drawn [(0, 0), (1, 0), (2, 0), (3, 0), (4, 0), (5, 0), (6, 0), (7, 0), (8, 0), (9, 0), (10, 0), (11, 0), (12, 0), (13, 0), (14, 0), (15, 0), (16, 0), (17, 0), (18, 0), (19, 0), (20, 0), (21, 0), (22, 0), (23, 0), (24, 0), (25, 0), (26, 0), (27, 0), (28, 0), (29, 0), (31, 0), (32, 0), (33, 0), (34, 0), (35, 0), (30, 1), (36, 1), (37, 0), (38, 0)] [] T.mixed (by kernel_rfl); (focus (simp only [mkS, gSlot, List.getElem?_cons_zero, List.getElem?_cons_succ]; rfl)))
            | (refine gReg (i := 15) ?_; refine C_plain [(0, 0)] (by kernel_rfl) (s := [⟨0, none, _, _, _⟩]) rfl ?_)
            | (refine gReg (i := 11) ?_; refine C_plain [(0, 0), (1, 0), (2, 0)] (by kernel_rfl) (s := [⟨0, none, _, _, _⟩, ⟨0, none, _, _, _⟩, ⟨0, none, _, _, _⟩]) rfl ?_)
            | (refine gReg (i := 16) ?_; refine C_plain [(0, 0), (1, 0), (2, 0), (3, 0), (4, 0), (5, 0), (6, 0), (7, 0), (8, 0), (9, 0), (10, 0), (11, 0), (12, 0), (13, 2), (14, 0), (15, 0), (16, 0), (17, 0)] (by kernel_rfl) (s := [⟨0, none, _, _, _⟩, ⟨0, none, _, _, _⟩, ⟨0, none, _, _, _⟩, ⟨0, some (102, true), _, _, _⟩, ⟨0, some (102, true), _, _, _⟩, ⟨0, some (102, true), _, _, _⟩, ⟨0, some (102, true), _, _, _⟩, ⟨0, none, _, _, _⟩, ⟨0, none, _, _, _⟩, ⟨0, some (108, true), _, _, _⟩, ⟨0, some (108, true), _, _, _⟩, ⟨0, some (108, true), _, _, _⟩, ⟨0, some (108, true), _, _, _⟩, ⟨2, some (108, true), _, _, _⟩, ⟨0, some (108, true), _, _, _⟩, ⟨0, some (108, true), _, _, _⟩, ⟨0, none, _, _, _⟩, ⟨0, none, _, _, _⟩]) rfl ?_)))
        | (refine C_true rfl ?_)
        | (refine C_false rfl ?_)
        | (refine C_split rfl ?_ ?_ <;> (intro hb; (try simp only [decide_eq_true_eq] at hb); (try simp only [decide_eq_false_iff_not] at hb); (try simp only [Bool.not_eq_true'] at hb); (try simp only [Bool.not_eq_false'] at hb); (try (exfalso; first | contradiction | omega)); (try (have hx1 := nthD (l := x.2) (k := i) hb)); (try (have hsc1 := hsc hb))))
        | (refine C_skip ?_)
        | (refine C_exit ?_)
        | (refine C_ret ?_)
        | (refine C_block ?_)))
    | (refine gE ?_; (first
        | (refine E_then ?_)
        | (refine E_thenX ?_)
        | (refine E_thenR ?_)
        | (refine E_block ?_)
        | (refine E_blockY ?_)
        | (refine E_blockR ?_)
        | (refine E_calm ?_)
        | (refine E_blockX rfl ?_)
        | (apply E_ret1 rfl; (first | exact Res.tmp rfl | (apply R_cellAll rfl; (focus ((repeat (first | exact List.Mem.head _ | refine List.Mem.tail _ ?_)); done)); exact T.rw25) | (apply R_cell1 rfl; (focus ((repeat (first | exact List.Mem.head _ | refine List.Mem.tail _ ?_)); done)); fail)))
        | (apply E_ret2 rfl; (first | exact Res.tmp rfl | (apply R_cellAll rfl; (focus ((repeat (first | exact List.Mem.head _ | refine List.Mem.tail _ ?_)); done)); exact T.rw25) | (apply R_cell1 rfl; (focus ((repeat (first | exact List.Mem.head _ | refine List.Mem.tail _ ?_)); done)); fail)); (first | exact Res.tmp rfl | (apply R_cellAll rfl; (focus ((repeat (first | exact List.Mem.head _ | refine List.Mem.tail _ ?_)); done)); exact T.rw25) | (apply R_cell1 rfl; (focus ((repeat (first | exact List.Mem.head _ | refine List.Mem.tail _ ?_)); done)); fail)))
        | (apply E_ret3 rfl; (first | exact Res.tmp rfl | (apply R_cellAll rfl; (focus ((repeat (first | exact List.Mem.head _ | refine List.Mem.tail _ ?_)); done)); exact T.rw25) | (apply R_cell1 rfl; (focus ((repeat (first | exact List.Mem.head _ | refine List.Mem.tail _ ?_)); done)); fail)); (first | exact Res.tmp rfl | (apply R_cellAll rfl; (focus ((repeat (first | exact List.Mem.head _ | refine List.Mem.tail _ ?_)); done)); exact T.rw25) | (apply R_cell1 rfl; (focus ((repeat (first | exact List.Mem.head _ | refine List.Mem.tail _ ?_)); done)); fail)); (first | exact Res.tmp rfl | (apply R_cellAll rfl; (focus ((repeat (first | exact List.Mem.head _ | refine List.Mem.tail _ ?_)); done)); exact T.rw25) | (apply R_cell1 rfl; (focus ((repeat (first | exact List.Mem.head _ | refine List.Mem.tail _ ?_)); done)); fail))))))
  · have hA : (List.take ((i : Int).toNat - 0) (List.drop 0 x.2)) = x.2.take i := by simp
    have hB : (List.take (x.2.length - ((i : Int) + 1).toNat) (List.drop ((i : Int) + 1).toNat x.2)) = x.2.drop (i + 1) := by
      rw [show ((i : Int) + 1).toNat = i + 1 by omega, List.take_of_length_le (by rw [List.length_drop]; omega)]
    rw [hA, hB, ← List.flatMap_append, ← List.length_append]
    have hil : i < x.2.length := by omega
    have h1l : 1 < x.2.length := by omega
    have hzl := less_len hil
    have hzok := less_ok hok hil h1l
    have hzp := less_pick (f := f) hil h1l
    have hzw := pickF_law (lessL x.2 i) f (lessL x.2 i).length (by omega)
    rw [← hzl, hkn] at hzp
    obtain ⟨z, hz⟩ : ∃ z, lessL x.2 i = z := ⟨_, rfl⟩
    rw [show x.2.take i ++ x.2.drop (i + 1) = lessL x.2 i from rfl, hz]
    rw [hz] at hzl hzok hzp hzw
    have hzv := pickV_ok (f := f) hzok
    obtain ⟨N, hN⟩ : ∃ N, pickF z f z.length = N := ⟨_, rfl⟩
    rw [hN] at hzv hzp hzw
    have hzx : z[N]? = some (ix z N) := nthD (by omega)
    have hN1 := hzw.1
    refine C_forget (E' := [(7, sv), (6, .int .i64 (i : Int)), (5, .int .i64 (kn : Int)), (4, .int .i64 f), (3, x.1)]) (L' := [.row sv 25 2 z.length (z.flatMap clFibHop), .row x.1 25 2 x.2.length (x.2.flatMap clFibHop)]) ⟨rfl, rfl, rfl, rfl, rfl, trivial⟩ (by repeat (first | exact List.nil_sublist _ | exact List.Sublist.refl _ | (refine List.Sublist.cons_cons _ ?_) | (refine List.Sublist.cons _ ?_))) ?_
    clear hA hB hzw hz hl2 hsc
    repeat' (first
      | (refine gS ?_; (first
          | (refine gGuard ?_; (first
              | (refine S_on rfl ?_)
              | (refine S_off rfl rfl rfl ?_)
              | (refine S_offn rfl rfl ?_)
              | (refine S_offU rfl rfl ?_)
              | (refine S_offUn rfl ?_)
              | (refine S_gsplit rfl ?_ ?_ <;> (intro hb; (try simp only [decide_eq_true_eq] at hb); (try simp only [decide_eq_false_iff_not] at hb); (try simp only [Bool.not_eq_true'] at hb); (try simp only [Bool.not_eq_false'] at hb); (try (exfalso; first | contradiction | omega))))))
          | (refine S_move rfl rfl ?_)
          | (refine S_assign rfl rfl ?_)
          | (apply F_idx rfl rfl rfl; (first | exact T.sl28 | exact T.sl35); (focus rfl); (focus (first | (focus (first | exact len_nil | (apply len_given; assumption) | (apply len_row; (focus ((repeat (first | exact List.Mem.head _ | refine List.Mem.tail _ ?_)); done))) | (refine len_isN ?_; assumption))) | (apply len_sub; (focus (first | exact len_nil | (apply len_given; assumption) | (apply len_row; (focus ((repeat (first | exact List.Mem.head _ | refine List.Mem.tail _ ?_)); done))) | (refine len_isN ?_; assumption))); (focus omega); (focus omega)))); (focus omega))
          | (apply F_idxZ rfl rfl rfl; (first | exact T.sl28 | exact T.sl35); (focus omega); (focus (first | (focus (first | exact len_nil | (apply len_given; assumption) | (apply len_row; (focus ((repeat (first | exact List.Mem.head _ | refine List.Mem.tail _ ?_)); done))) | (refine len_isN ?_; assumption))) | (apply len_sub; (focus (first | exact len_nil | (apply len_given; assumption) | (apply len_row; (focus ((repeat (first | exact List.Mem.head _ | refine List.Mem.tail _ ?_)); done))) | (refine len_isN ?_; assumption))); (focus omega); (focus omega)))); (focus omega))
          | (apply F_slice rfl rfl; (first | exact T.sl28 | exact T.sl35); (focus (first | (focus (first | exact len_nil | (apply len_given; assumption) | (apply len_row; (focus ((repeat (first | exact List.Mem.head _ | refine List.Mem.tail _ ?_)); done))) | (refine len_isN ?_; assumption))) | (apply len_sub; (focus (first | exact len_nil | (apply len_given; assumption) | (apply len_row; (focus ((repeat (first | exact List.Mem.head _ | refine List.Mem.tail _ ?_)); done))) | (refine len_isN ?_; assumption))); (focus omega); (focus omega)))); (focus exact rfl); (focus exact ⟨_, _, rfl, by omega, rfl⟩); (focus omega); (focus omega))
          | (apply F_slice rfl rfl; (first | exact T.sl28 | exact T.sl35); (focus (first | (focus (first | exact len_nil | (apply len_given; assumption) | (apply len_row; (focus ((repeat (first | exact List.Mem.head _ | refine List.Mem.tail _ ?_)); done))) | (refine len_isN ?_; assumption))) | (apply len_sub; (focus (first | exact len_nil | (apply len_given; assumption) | (apply len_row; (focus ((repeat (first | exact List.Mem.head _ | refine List.Mem.tail _ ?_)); done))) | (refine len_isN ?_; assumption))); (focus omega); (focus omega)))); (focus exact ⟨_, _, rfl, by omega, rfl⟩); (focus exact rfl); (focus omega); (focus omega))
          | (apply F_bs0 rfl rfl; (first | exact T.el28 | exact T.el35); rfl; intro sv; (try (refine S_fact (row_one (v := sv) (by (focus ((repeat (first | exact List.Mem.head _ | refine List.Mem.tail _ ?_)); done)))) (fun hone => ?_))))
          | (apply F_bs rfl rfl; (first | exact T.el28 | exact T.el35); rfl; rfl; rfl; rfl; (focus ((repeat (first | exact Dense.nil | (apply Dense.cons; rfl; rfl))); done)); intro sv; (try (refine S_fact (row_one (v := sv) (by (focus ((repeat (first | exact List.Mem.head _ | refine List.Mem.tail _ ?_)); done)))) (fun hone => ?_))))
          | (refine gLoad ?_; (first
              | (apply F_loadAll rfl rfl; (focus ((repeat (first | exact List.Mem.head _ | refine List.Mem.tail _ ?_)); done)); exact T.rw25; (focus (first | exact free0 | exact free1)))
              | (apply F_loadP rfl rfl; (focus ((repeat (first | exact List.Mem.head _ | refine List.Mem.tail _ ?_)); done)); exact T.rw25; (focus ((repeat (first | exact Take.nil | apply Take.here | apply Take.there)); done)); rfl; (focus (first | exact free0 | exact free1)))
              | (apply F_loadSN rfl rfl; exact T.rw25; (focus (first | exact rd_nil | (apply rd_given; (focus assumption); (focus (first | exact freeG0 | exact freeG1))) | (apply rd_row; (focus ((repeat (first | exact List.Mem.head _ | refine List.Mem.tail _ ?_)); done)); (focus (first | exact freeR0 | exact freeR1))) | (apply rd_sub; (focus (apply rd_given; (focus assumption); (focus (first | exact freeG0 | exact freeG1)))); (focus (intro _; rfl)); (focus omega); (focus omega)) | (apply rd_sub; (focus (apply rd_row; (focus ((repeat (first | exact List.Mem.head _ | refine List.Mem.tail _ ?_)); done)); (focus (first | exact freeR0 | exact freeR1)))); (focus (intro _; rfl)); (focus omega); (focus omega)))); (focus (first | (focus (apply at_flat; (focus (intro _; rfl)); (focus assumption))) | exact at_self)); rfl; rfl)
              | (apply F_loadSP rfl rfl; exact T.rw25; (focus (first | exact rd_nil | (apply rd_given; (focus assumption); (focus (first | exact freeG0 | exact freeG1))) | (apply rd_row; (focus ((repeat (first | exact List.Mem.head _ | refine List.Mem.tail _ ?_)); done)); (focus (first | exact freeR0 | exact freeR1))) | (apply rd_sub; (focus (apply rd_given; (focus assumption); (focus (first | exact freeG0 | exact freeG1)))); (focus (intro _; rfl)); (focus omega); (focus omega)) | (apply rd_sub; (focus (apply rd_row; (focus ((repeat (first | exact List.Mem.head _ | refine List.Mem.tail _ ?_)); done)); (focus (first | exact freeR0 | exact freeR1)))); (focus (intro _; rfl)); (focus omega); (focus omega)))); (focus (apply at_flat; (focus (intro _; rfl)); (focus assumption))); (focus ((repeat (first | exact Take.nil | apply Take.here | apply Take.there)); done)); rfl; rfl)
              | (apply F_loadST rfl rfl; exact T.rw25; (focus (first | exact rd_nil | (apply rd_given; (focus assumption); (focus (first | exact freeG0 | exact freeG1))) | (apply rd_row; (focus ((repeat (first | exact List.Mem.head _ | refine List.Mem.tail _ ?_)); done)); (focus (first | exact freeR0 | exact freeR1))) | (apply rd_sub; (focus (apply rd_given; (focus assumption); (focus (first | exact freeG0 | exact freeG1)))); (focus (intro _; rfl)); (focus omega); (focus omega)) | (apply rd_sub; (focus (apply rd_row; (focus ((repeat (first | exact List.Mem.head _ | refine List.Mem.tail _ ?_)); done)); (focus (first | exact freeR0 | exact freeR1)))); (focus (intro _; rfl)); (focus omega); (focus omega)))); (focus ((repeat (first | exact Take.nil | apply Take.here | apply Take.there)); done)); rfl; rfl)))
          | (refine gCall ?_; (first
              | (refine S_callN (f := 22) rfl T.pf22 rfl (fun w hst => (hzv ▸ implFibPick_c _ z f w (by first | (refine Mem.given hst ?_; assumption) | (apply Mem.row hst; (focus ((repeat (first | exact List.Mem.head _ | refine List.Mem.tail _ ?_)); done)))))) rfl ?_)
              | (refine S_callN (f := 14) rfl T.pf14 rfl (fun w hst => implFibScore_c _ _ _ w) rfl ?_)
              | (apply F_len rfl rfl rfl; (focus exact ⟨_, _, by (first | exact T.sl28 | exact T.sl35)⟩); (focus (first | (focus (first | exact len_nil | (apply len_given; assumption) | (apply len_row; (focus ((repeat (first | exact List.Mem.head _ | refine List.Mem.tail _ ?_)); done))) | (refine len_isN ?_; assumption))) | (apply len_sub; (focus (first | exact len_nil | (apply len_given; assumption) | (apply len_row; (focus ((repeat (first | exact List.Mem.head _ | refine List.Mem.tail _ ?_)); done))) | (refine len_isN ?_; assumption))); (focus omega); (focus omega)))))
              | (apply F_append rfl rfl rfl rfl; (first | exact T.el28 | exact T.el35); (focus (intro sv; (focus ((repeat (first | exact Upd.here | apply Upd.there)); done)))); (focus (first | exact rd_nil | (apply rd_given; (focus assumption); (focus (first | exact freeG0 | exact freeG1))) | (apply rd_row; (focus ((repeat (first | exact List.Mem.head _ | refine List.Mem.tail _ ?_)); done)); (focus (first | exact freeR0 | exact freeR1))) | (apply rd_sub; (focus (apply rd_given; (focus assumption); (focus (first | exact freeG0 | exact freeG1)))); (focus (intro _; rfl)); (focus omega); (focus omega)) | (apply rd_sub; (focus (apply rd_row; (focus ((repeat (first | exact List.Mem.head _ | refine List.Mem.tail _ ?_)); done)); (focus (first | exact freeR0 | exact freeR1)))); (focus (intro _; rfl)); (focus omega); (focus omega)))); (focus (first | rfl | assumption | (apply all_flat; intro _ _; rfl) | (rw [List.append_nil]; assumption) | (simp only [List.append_nil, List.all_cons, List.all_nil, Bool.and_true, Bool.true_and, one_int, one_bool, one_string, one_slice, one_pointer, *]; done) | simp)); (first | exact okst2 | exact okst1 | exact okst1'); (focus (simp only [maxLen]; first | omega | (simp only [List.length_take, List.length_drop]; omega))); (focus (first | omega | (simp only [List.length_take, List.length_drop]; omega))); intro sv; (try (refine S_fact (row_one (v := sv) (by (focus ((repeat (first | exact List.Mem.head _ | refine List.Mem.tail _ ?_)); done)))) (fun hone => ?_))))))
          | (refine gBin ?_; (first
              | (apply S_eqlS rfl rfl rfl; (focus exact T.eqs25 _ _ _ _))
              | (apply S_neqS rfl rfl rfl; (focus exact T.eqs25 _ _ _ _))
              | (refine S_lss rfl rfl rfl ?_)
              | (refine S_gtr rfl rfl rfl ?_)
              | (refine S_geq rfl rfl rfl ?_)
              | (refine S_eql rfl rfl rfl ?_)
              | (refine S_neq rfl rfl rfl ?_)
              | (refine S_add rfl rfl ?_ rfl ?_; (focus (unfold rng; omega)))
              | (refine S_eqlB Try.underlying4 rfl rfl rfl ?_)
              | (refine S_neqB Try.underlying4 rfl rfl rfl ?_)))
          | (refine gPick ?_; (first
              | (refine S_pickT rfl rfl rfl ?_)
              | (refine S_pickF rfl rfl rfl ?_)))
          | (refine S_not rfl rfl ?_)
          | (refine S_extract rfl rfl rfl ?_)
          | (refine S_done ?_)
          | (refine S_K rfl ?_)))
      | ((first
          | (refine C_seq ?_)
          | (refine gReg ?_; (first
              | (refine gReg (i := 0) ?_; refine C_plain [(0, 0)] (by kernel_rfl) (s := [⟨0, none, _, _, _⟩]) rfl ?_)
              | (refine gReg (i := 1) ?_; refine C_plain [(0, 0), (1, 0), (2, 0)] (by kernel_rfl) (s := [⟨0, none, _, _, _⟩, ⟨0, none, _, _, _⟩, ⟨0, none, _, _, _⟩]) rfl ?_)
              | (refine gReg (i := 2) ?_; refine C_plain [(0, 0)] (by kernel_rfl) (s := [⟨0, none, _, _, _⟩]) rfl ?_)
              | (refine gReg (i := 3) ?_; refine C_plain [(0, 0), (1, 2), (2, 0), (3, 0), (4, 0), (5, 0), (6, 0)] (by kernel_rfl) (s := [⟨0, none, _, _, _⟩, ⟨2, none, _, _, _⟩, ⟨0, none, _, _, _⟩, ⟨0, none, _, _, _⟩, ⟨0, none, _, _, _⟩, ⟨0, none, _, _, _⟩, ⟨0, none, _, _, _⟩]) rfl ?_)
              | (refine gReg (i := 4) ?_; refine C_plain [(0, 0), (1, 0), (2, 2), (3, 0)] (by kernel_rfl) (s := [⟨0, none, _, _, _⟩, ⟨0, none, _, _, _⟩, ⟨2, none, _, _, _⟩, ⟨0, none, _, _, _⟩]) rfl ?_)
              | (refine gReg (i := 5) ?_; refine C_plain [(0, 0), (1, 0), (2, 0), (3, 2), (4, 0), (5, 0), (6, 0), (7, 2), (8, 0), (9, 2), (10, 0), (11, 0)] (by kernel_rfl) (s := [⟨0, none, _, _, _⟩, ⟨0, none, _, _, _⟩, ⟨0, none, _, _, _⟩, ⟨2, none, _, _, _⟩, ⟨0, none, _, _, _⟩, ⟨0, none, _, _, _⟩, ⟨0, some (25, false), _, _, _⟩, ⟨2, some (25, false), _, _, _⟩, ⟨0, some (25, false), _, _, _⟩, ⟨2, some (25, false), _, _, _⟩, ⟨0, some (25, false), _, _, _⟩, ⟨0, none, _, _, _⟩]) rfl ?_)
              | (refine gReg (i := 6) ?_; refine C_plain [(0, 0)] (by kernel_rfl) (s := [⟨0, none, _, _, _⟩]) rfl ?_)
              | (refine gReg (i := 7) ?_; refine C_plain [(0, 0), (1, 2), (2, 0)] (by kernel_rfl) (s := [⟨0, none, _, _, _⟩, ⟨2, none, _, _, _⟩, ⟨0, none, _, _, _⟩]) rfl ?_)
              | (refine gReg (i := 8) ?_; refine C_plain [(0, 0), (1, 0), (2, 0)] (by kernel_rfl) (s := [⟨0, none, _, _, _⟩, ⟨0, none, _, _, _⟩, ⟨0, none, _, _, _⟩]) rfl ?_)
              | (refine gReg (i := 9) ?_; refine C_plain [(0, 0)] (by kernel_rfl) (s := [⟨0, none, _, _, _⟩]) rfl ?_)
              | (refine gReg (i := 10) ?_; refine C_plain [(0, 0), (1, 0), (2, 0), (3, 0), (4, 0), (5, 0), (6, 0), (7, 0), (8, 0)] (by kernel_rfl) (s := [⟨0, none, _, _, _⟩, ⟨0, none, _, _, _⟩, ⟨0, none, _, _, _⟩, ⟨0, none, _, _, _⟩, ⟨0, none, _, _, _⟩, ⟨0, some (41, true), _, _, _⟩, ⟨0, some (41, true), _, _, _⟩, ⟨0, some (41, true), _, _, _⟩, ⟨0, none, _, _, _⟩]) rfl ?_)
              | (refine gReg (i := 12) ?_; refine C_drawnT (.br [(1, 0), (2, 0), (3, 0), (5, 0), (6, 0)] (.br [(0, 1)] (.fin [(4, 2), (7, 1), (8, 1), (9, 2), (10, 0)]) (.br [(7, 1)] (.fin [(4, 2), (8, 1), (9, 2), (10, 0)]) (.fin [(8, 1), (4, 2), (9, 2), (10, 0)]))) (.br [(7, 1)] (.br [(0, 1)] (.fin [(4, 2), (8, 1), (9, 2), (10, 0)]) (.fin [(8, 1), (4, 2), (9, 2), (10, 0)])) (.fin [(8, 1), (0, 1), (4, 2), (9, 2), (10, 0)]))) [] T.mixed (by kernel_rfl) (s := (.br [⟨0, none, _, _, _⟩, ⟨0, none, _, _, _⟩, ⟨0, none, _, _, _⟩, ⟨0, none, _, _, _⟩, ⟨0, none, _, _, _⟩] (.br [⟨1, none, _, _, _⟩] (.fin [⟨2, none, _, _, _⟩, ⟨1, none, _, _, _⟩, ⟨1, none, _, _, _⟩, ⟨2, none, _, _, _⟩, ⟨0, none, _, _, _⟩]) (.br [⟨1, none, _, _, _⟩] (.fin [⟨2, none, _, _, _⟩, ⟨1, none, _, _, _⟩, ⟨2, none, _, _, _⟩, ⟨0, none, _, _, _⟩]) (.fin [⟨1, none, _, _, _⟩, ⟨2, none, _, _, _⟩, ⟨2, none, _, _, _⟩, ⟨0, none, _, _, _⟩]))) (.br [⟨1, none, _, _, _⟩] (.br [⟨1, none, _, _, _⟩] (.fin [⟨2, none, _, _, _⟩, ⟨1, none, _, _, _⟩, ⟨2, none, _, _, _⟩, ⟨0, none, _, _, _⟩]) (.fin [⟨1, none, _, _, _⟩, ⟨2, none, _, _, _⟩, ⟨2, none, _, _, _⟩, ⟨0, none, _, _, _⟩])) (.fin [⟨1, none, _, _, _⟩, ⟨1, none, _, _, _⟩, ⟨2, none, _, _, _⟩, ⟨2, none, _, _, _⟩, ⟨0, none, _, _, _⟩])))) rfl ?_)
              | (refine gReg (i := 13) ?_; refine C_plain [(0, 0), (1, 0), (2, 2), (3, 0)] (by kernel_rfl) (s := [⟨0, none, _, _, _⟩, ⟨0, none, _, _, _⟩, ⟨2, none, _, _, _⟩, ⟨0, none, _, _, _⟩]) rfl ?_)
              | (refine gReg (i := 14) ?_; apply C_drawn [(0, 0), (1, 0), (2, 0), (3, 0), (4, 0), (5, 0), (6, 0), (7, 0), (8, 0), (9, 0), (10, 0), (11, 0), (12, 0), (13, 0), (14, 0), (15, 0), (16, 0), (17, 0), (18, 0), (19, 0), (20, 0), (21, 0), (22, 0), (23, 0), (24, 0), (25, 0), (26, 0), (27, 0), (28, 0), (29, 0), (31, 0), (32, 0), (33, 0), (34, 0), (35, 0), (30, 1), (36, 1), (37, 0), (38, 0)] [] T.mixed (by kernel_rfl); (focus (simp only [mkS, gSlot, List.getElem?_cons_zero, List.getElem?_cons_succ]; rfl)))
              | (refine gReg (i := 15) ?_; refine C_plain [(0, 0)] (by kernel_rfl) (s := [⟨0, none, _, _, _⟩]) rfl ?_)
              | (refine gReg (i := 11) ?_; refine C_plain [(0, 0), (1, 0), (2, 0)] (by kernel_rfl) (s := [⟨0, none, _, _, _⟩, ⟨0, none, _, _, _⟩, ⟨0, none, _, _, _⟩]) rfl ?_)
              | (refine gReg (i := 16) ?_; refine C_plain [(0, 0), (1, 0), (2, 0), (3, 0), (4, 0), (5, 0), (6, 0), (7, 0), (8, 0), (9, 0), (10, 0), (11, 0), (12, 0), (13, 2), (14, 0), (15, 0), (16, 0), (17, 0)] (by kernel_rfl) (s := [⟨0, none, _, _, _⟩, ⟨0, none, _, _, _⟩, ⟨0, none, _, _, _⟩, ⟨0, some (102, true), _, _, _⟩, ⟨0, some (102, true), _, _, _⟩, ⟨0, some (102, true), _, _, _⟩, ⟨0, some (102, true), _, _, _⟩, ⟨0, none, _, _, _⟩, ⟨0, none, _, _, _⟩, ⟨0, some (108, true), _, _, _⟩, ⟨0, some (108, true), _, _, _⟩, ⟨0, some (108, true), _, _, _⟩, ⟨0, some (108, true), _, _, _⟩, ⟨2, some (108, true), _, _, _⟩, ⟨0, some (108, true), _, _, _⟩, ⟨0, some (108, true), _, _, _⟩, ⟨0, none, _, _, _⟩, ⟨0, none, _, _, _⟩]) rfl ?_)))
          | (refine C_true rfl ?_)
          | (refine C_false rfl ?_)
          | (refine C_split rfl ?_ ?_ <;> (intro hb; (try simp only [decide_eq_true_eq] at hb); (try simp only [decide_eq_false_iff_not] at hb); (try simp only [Bool.not_eq_true'] at hb); (try simp only [Bool.not_eq_false'] at hb); (try (exfalso; first | contradiction | omega))))
          | (refine C_skip ?_)
          | (refine C_exit ?_)
          | (refine C_ret ?_)
          | (refine C_block ?_)
          | (refine T_fin ?_)
          | (refine T_br ?_)))
      | (refine gE ?_; (first
          | (refine E_then ?_)
          | (refine E_thenX ?_)
          | (refine E_thenR ?_)
          | (refine E_block ?_)
          | (refine E_blockY ?_)
          | (refine E_blockR ?_)
          | (refine E_calm ?_)
          | (refine E_blockX rfl ?_)
          | (apply E_ret1 rfl; (first | exact Res.tmp rfl | (apply R_cellAll rfl; (focus ((repeat (first | exact List.Mem.head _ | refine List.Mem.tail _ ?_)); done)); exact T.rw25) | (apply R_cell1 rfl; (focus ((repeat (first | exact List.Mem.head _ | refine List.Mem.tail _ ?_)); done)); fail)))
          | (apply E_ret2 rfl; (first | exact Res.tmp rfl | (apply R_cellAll rfl; (focus ((repeat (first | exact List.Mem.head _ | refine List.Mem.tail _ ?_)); done)); exact T.rw25) | (apply R_cell1 rfl; (focus ((repeat (first | exact List.Mem.head _ | refine List.Mem.tail _ ?_)); done)); fail)); (first | exact Res.tmp rfl | (apply R_cellAll rfl; (focus ((repeat (first | exact List.Mem.head _ | refine List.Mem.tail _ ?_)); done)); exact T.rw25) | (apply R_cell1 rfl; (focus ((repeat (first | exact List.Mem.head _ | refine List.Mem.tail _ ?_)); done)); fail)))
          | (apply E_ret3 rfl; (first | exact Res.tmp rfl | (apply R_cellAll rfl; (focus ((repeat (first | exact List.Mem.head _ | refine List.Mem.tail _ ?_)); done)); exact T.rw25) | (apply R_cell1 rfl; (focus ((repeat (first | exact List.Mem.head _ | refine List.Mem.tail _ ?_)); done)); fail)); (first | exact Res.tmp rfl | (apply R_cellAll rfl; (focus ((repeat (first | exact List.Mem.head _ | refine List.Mem.tail _ ?_)); done)); exact T.rw25) | (apply R_cell1 rfl; (focus ((repeat (first | exact List.Mem.head _ | refine List.Mem.tail _ ?_)); done)); fail)); (first | exact Res.tmp rfl | (apply R_cellAll rfl; (focus ((repeat (first | exact List.Mem.head _ | refine List.Mem.tail _ ?_)); done)); exact T.rw25) | (apply R_cell1 rfl; (focus ((repeat (first | exact List.Mem.head _ | refine List.Mem.tail _ ?_)); done)); fail)))
          | (refine E_both ?_ ?_)
          | (refine E_K ?_))))
    · exfalso
      have h1 : (i : Int) ≠ (kn : Int) := by assumption
      have h2 := hzp (fun e => h1 (by rw [e]))
      have h3 : decide (((ix z N).1, (ix z N).2) = ((ix x.2 kn).1, (ix x.2 kn).2)) = false := by assumption
      rw [h2] at h3
      simp at h3
    all_goals exact E_round (α := Nat) (i + 1) (by omega) (by omega) ⟨rfl, rfl, rfl, rfl, trivial⟩ (List.sublist_cons_self _ _)
  all_goals exact retN (by simp)
set_option maxRecDepth 100000 in
theorem lifted (os : Os) (started : os.Started) (H : Type) (enc : TypeId × Value → H) :
    ReturnsInHanded {} Try.checked os 7 .any (Rows.fnFibPickSpec.pre6 enc Try.prog Try.f7 Rows.fnFibPickRow.domain false) (Rows.fnFibPickSpec.post enc Try.prog Try.f7 false true false false) := by
  refine returnsInHanded_of_change (C := Try.checked) own started (by kernel_rfl) Try.func7
    (ChangeSpec.witness6 (enc := enc) (C := Try.checked) false ⟨#[], #[.slice none 0 0], []⟩ 8 (by kernel_rfl) (by kernel_rfl) (by kernel_rfl) (by kernel_rfl)) ?_
  intro W base args ds gs before hval0 hW hcnd _
  have hval : ∀ (j : Nat) t v, Try.f7.params[j]? = some t → args[j]? = some v → Value.okWide Try.prog W .any base t v := hval0
  have hW' := hW
  obtain ⟨p, q, hA0, hV, rfl, hfz, hnd⟩ := hW
  have hA : DataW.TrodAll enc Try.prog W 0 (fun _ => true) true Try.f7.params.toList args.toList ds p := hA0
  rw [Try.params7] at hA hval
  obtain ⟨v0, vs0, d0, ds0, p0, q0, hargs, rfl, rfl, h0, r0⟩ := trodAll_cons hA
  obtain ⟨rfl, rfl, rfl⟩ := trodAll_nil r0
  obtain rfl : args = #[v0] := by cases args; simp_all
  obtain ⟨rfl, rfl⟩ := trodVars_none hV
  have k0 := h0
  have lt0 : ∀ x ∈ p0, x.block < W.heap.size := by obtain ⟨m, hm⟩ := k0; exact DataW.trod_lt m _ _ _ hm
  obtain ⟨y0, rfl, w0⟩ := par_Suint8 (hval 0 28 v0 rfl rfl) h0
  clear hA0 hval0
  refine (walk W y0 w0).mono fun e W' ⟨he, bel⟩ => ?_
  subst he
  exact ⟨_, rfl, _, _, _, [], _, [], hW', trodAll_mk1 (shut_bool Try.underlying4 _), (trodAll_cons_mk (Below.trod laidOut (by kernel_rfl) (of_decide_eq_true (by kernel_rfl)) k0 bel lt0) trodAll_mk0), rfl, bel.frame _, fun h => by cases h⟩
theorem over : Rows.fnFibPickRow.holds Try.pinned (OpenSpec.ofChange Rows.fnFibPickSpec) :=
  OpenClaim.holds_of_wide 7 Try.f7 rfl rfl rfl rfl rfl rfl rfl ⟨rfl, rfl, rfl, rfl, rfl⟩ rfl rfl rfl rfl rfl (by kernel_rfl) Try.func7 (by kernel_rfl)
    (of_decide_eq_true (by kernel_rfl)) (by unfold Func.isWrapper; rw [if_neg (of_decide_eq_false (by kernel_rfl))]; exact ⟨rfl, rfl⟩)
    (fun os started H enc _ => lifted os started H enc)
theorem proved : Rows.FnFibPickSaid := over
#print axioms proved
end Go.Proofs.Ytencglgaldaaiaa.fnFibPick

/- A list turned around. -/
import Derived.Test.YtodhjpnfokkfeaaFragaa
set_option linter.unusedSimpArgs false
set_option linter.unusedVariables false
namespace Go.Proofs.Ytodhjpnfokkfeaa
open Go Go.RowKit
attribute [local irreducible] Calls GoS GoC GoE GoT Mid IsEq IsFl IsSc IsRw IsSl IsEl IsSt IsFs sp Mem Rd LenOf szR
def backL (l : List MFragPacket) (i : Nat) : List MFragPacket := (l.drop i).reverse
theorem back_row {s : Value} {l : List MFragPacket} {i : Nat} {x : MFragPacket} (h : l[i]? = some x) : Blk.row s 24 9 ((backL l (i + 1)).length + 1) ((backL l (i + 1)).flatMap clFragPacket ++ (clFragPacket x ++ [])) = Blk.row s 24 9 (backL l i).length ((backL l i).flatMap clFragPacket) := by
  obtain ⟨hlt, he⟩ := List.getElem?_eq_some_iff.1 h
  have h3 : backL l i = backL l (i + 1) ++ [x] := by
    unfold backL
    rw [List.drop_eq_getElem_cons hlt, he, List.reverse_cons]
  rw [h3, List.length_append, List.flatMap_append, List.flatMap_cons, List.flatMap_nil]
  rfl
theorem wfBack_c (v : Value) (l : List MFragPacket) (hn : l.length ≤ 1048576) (h1 : ∀ y ∈ l, (clFragPacket y).all (·.oneCell') = true) (w : World) (hm : Mem w v 9 l.length (l.flatMap clFragPacket)) : Calls Try.prog 19 #[v] w
    (RetX (fun y : MSFragPacket => y.2 = l.reverse) (fun y => y.1) (fun y => [.row y.1 24 9 y.2.length (y.2.flatMap clFragPacket)]) w) := by
  refine enter (n := 21) (E := [(0, _)]) Try.func19 rfl rfl rfl rfl ?_
  repeat' (first
    |(refine gS ?_;(first
        |(refine S_move rfl rfl ?_)
        |(refine S_assign rfl rfl ?_)
        |(apply F_idx rfl rfl rfl;exact T.sl27;(focus rfl);(focus (first|exact len_nil|(apply len_given;assumption)|(apply len_row;(focus ((repeat (first|exact mH|refine mT ?_));done)))|(apply len_isN;assumption)));(focus omega))
        |(apply F_idxZ rfl rfl rfl;exact T.sl27;(focus omega);(focus (first|exact len_nil|(apply len_given;assumption)|(apply len_row;(focus ((repeat (first|exact mH|refine mT ?_));done)))|(apply len_isN;assumption)));(focus omega))
        |(apply F_bs0 rfl rfl;exact T.el27;rfl;intro sv;(try (refine S_fact (row_one (v := sv) (by (focus ((repeat (first|exact mH|refine mT ?_));done)))) (fun hone => ?_))))
        |(apply F_bs rfl rfl;exact T.el27;rfl;rfl;rfl;rfl;(focus ((repeat (first|exact Dense.nil|(apply Dense.cons;rfl;rfl)));done));intro sv;(try (refine S_fact (row_one (v := sv) (by (focus ((repeat (first|exact mH|refine mT ?_));done)))) (fun hone => ?_))))
        |(refine gLoad ?_;(first
            |(apply F_loadAll rfl rfl;(focus ((repeat (first|exact mH|refine mT ?_));done));exact T.rw24;(focus (first|exact free0|exact free1)))
            |(apply F_loadP rfl rfl;(focus ((repeat (first|exact mH|refine mT ?_));done));exact T.rw24;(focus ((repeat (first|exact Take.nil|apply Take.here|apply Take.there));done));rfl;(focus (first|exact free0|exact free1)))
            |(apply F_loadSN rfl rfl;exact T.rw24;(focus (first|exact rd_nil|(apply rd_given;(focus assumption);(focus (first|exact freeG0|exact freeG1)))|(apply rd_row;(focus ((repeat (first|exact mH|refine mT ?_));done));(focus (first|exact freeR0|exact freeR1)))));(focus (first|(focus (apply at_flat;(focus (intro _;rfl));(focus assumption)))|exact at_self));rfl;rfl)
            |(apply F_loadSP rfl rfl;exact T.rw24;(focus (first|exact rd_nil|(apply rd_given;(focus assumption);(focus (first|exact freeG0|exact freeG1)))|(apply rd_row;(focus ((repeat (first|exact mH|refine mT ?_));done));(focus (first|exact freeR0|exact freeR1)))));(focus (apply at_flat;(focus (intro _;rfl));(focus assumption)));(focus ((repeat (first|exact Take.nil|apply Take.here|apply Take.there));done));rfl;rfl)
            |(apply F_loadST rfl rfl;exact T.rw24;(focus (first|exact rd_nil|(apply rd_given;(focus assumption);(focus (first|exact freeG0|exact freeG1)))|(apply rd_row;(focus ((repeat (first|exact mH|refine mT ?_));done));(focus (first|exact freeR0|exact freeR1)))));(focus ((repeat (first|exact Take.nil|apply Take.here|apply Take.there));done));rfl;rfl)))
        |(refine gCall ?_;(first
            |(apply F_len rfl rfl rfl;(focus exact ⟨_,_,by exact T.sl27⟩);(focus (first|exact len_nil|(apply len_given;assumption)|(apply len_row;(focus ((repeat (first|exact mH|refine mT ?_));done)))|(apply len_isN;assumption))))
            |(apply F_append rfl rfl rfl rfl;exact T.el27;(focus (intro sv;(focus ((repeat (first|exact Upd.here|apply Upd.there));done))));(focus (first|exact rd_nil|(apply rd_given;(focus assumption);(focus (first|exact freeG0|exact freeG1)))|(apply rd_row;(focus ((repeat (first|exact mH|refine mT ?_));done));(focus (first|exact freeR0|exact freeR1)))));(focus (first|rfl|assumption|(apply all_flat;intro _ _;rfl)|(rw [List.append_nil];assumption)|(simp only [List.append_nil,List.all_cons,List.all_nil,Bool.and_true,Bool.true_and,one_int,one_bool,one_string,one_slice,one_pointer, *];done)|simp));(first|exact okst2|exact okst1|exact okst1');(focus (simp only [maxLen];first|omega|(simp only [List.length_take,List.length_drop];omega)));(focus (first|omega|(simp only [List.length_take,List.length_drop];omega)));intro sv;(try (refine S_fact (row_one (v := sv) (by (focus ((repeat (first|exact mH|refine mT ?_));done)))) (fun hone => ?_))))))
        |(refine gBin ?_;(first
            |(refine S_gtr rfl rfl rfl ?_)
            |(refine S_sub rfl rfl ?_ rfl ?_;(focus (unfold rng;omega)))))
        |(refine S_done ?_)))
    |(refine gC ?_;(first
        |(refine C_seq ?_)
        |(refine gReg ?_;(first
            |(refine gReg (i := 0) ?_;refine C_plain [(0,0)] (by kernel_rfl) (s := [⟨0,none,_,_,_⟩]) rfl ?_)
            |(refine gReg (i := 1) ?_;refine C_plain [(0,2),(1,0)] (by kernel_rfl) (s := [⟨2,none,_,_,_⟩,⟨0,none,_,_,_⟩]) rfl ?_)
            |(refine gReg (i := 2) ?_;refine C_plain [(0,0),(1,0),(2,0)] (by kernel_rfl) (s := [⟨0,none,_,_,_⟩,⟨0,none,_,_,_⟩,⟨0,none,_,_,_⟩]) rfl ?_)
            |(refine gReg (i := 5) ?_;refine C_plain [(0,0),(1,0),(2,0),(3,0),(4,0),(5,0),(6,2),(7,2),(8,0)] (by kernel_rfl) (s := [⟨0,none,_,_,_⟩,⟨0,none,_,_,_⟩,⟨0,none,_,_,_⟩,⟨0,none,_,_,_⟩,⟨0,none,_,_,_⟩,⟨0,none,_,_,_⟩,⟨2,none,_,_,_⟩,⟨2,none,_,_,_⟩,⟨0,none,_,_,_⟩]) rfl ?_)
            |(refine gReg (i := 4) ?_;refine C_plain [(0,0),(1,0),(2,0)] (by kernel_rfl) (s := [⟨0,none,_,_,_⟩,⟨0,none,_,_,_⟩,⟨0,none,_,_,_⟩]) rfl ?_)
            |(refine gReg (i := 6) ?_;refine C_plain [(0,0),(1,0)] (by kernel_rfl) (s := [⟨0,none,_,_,_⟩,⟨0,none,_,_,_⟩]) rfl ?_)))
        |(refine C_true rfl ?_)
        |(refine C_false rfl ?_)
        |(refine C_split rfl ?_ ?_ <;> (intro hb;(try simp only [decide_eq_true_eq] at hb);(try simp only [decide_eq_false_iff_not] at hb);(try simp only [Bool.not_eq_true'] at hb);(try simp only [Bool.not_eq_false'] at hb);(try (exfalso;first|contradiction|omega))))
        |(refine C_skip ?_)
        |(refine C_exit ?_)
        |(refine C_ret ?_)
        |(refine C_block ?_)))
    |(refine gE ?_;(first
        |(refine E_then ?_)
        |(refine E_thenX ?_)
        |(refine E_thenR ?_)
        |(refine E_block ?_)
        |(refine E_blockY ?_)
        |(refine E_blockR ?_)
        |(refine E_calm ?_)
        |(refine E_blockX rfl ?_)
        |(apply E_ret1 rfl;(first|exact Res.tmp rfl|(apply R_cellAll rfl;(focus ((repeat (first|exact mH|refine mT ?_));done));exact T.rw24)|(apply R_cell1 rfl;(focus ((repeat (first|exact mH|refine mT ?_));done));fail)))
        |(apply E_ret2 rfl;(first|exact Res.tmp rfl|(apply R_cellAll rfl;(focus ((repeat (first|exact mH|refine mT ?_));done));exact T.rw24)|(apply R_cell1 rfl;(focus ((repeat (first|exact mH|refine mT ?_));done));fail));(first|exact Res.tmp rfl|(apply R_cellAll rfl;(focus ((repeat (first|exact mH|refine mT ?_));done));exact T.rw24)|(apply R_cell1 rfl;(focus ((repeat (first|exact mH|refine mT ?_));done));fail)))
        | (apply E_ret3 rfl; (first | exact Res.tmp rfl | (apply R_cellAll rfl; (focus ((repeat (first | exact List.Mem.head _ | refine List.Mem.tail _ ?_)); done)); exact T.rw24) | (apply R_cell1 rfl; (focus ((repeat (first | exact List.Mem.head _ | refine List.Mem.tail _ ?_)); done)); fail)); (first | exact Res.tmp rfl | (apply R_cellAll rfl; (focus ((repeat (first | exact List.Mem.head _ | refine List.Mem.tail _ ?_)); done)); exact T.rw24) | (apply R_cell1 rfl; (focus ((repeat (first | exact List.Mem.head _ | refine List.Mem.tail _ ?_)); done)); fail)); (first | exact Res.tmp rfl | (apply R_cellAll rfl; (focus ((repeat (first | exact List.Mem.head _ | refine List.Mem.tail _ ?_)); done)); exact T.rw24) | (apply R_cell1 rfl; (focus ((repeat (first | exact List.Mem.head _ | refine List.Mem.tail _ ?_)); done)); fail))))))
  refine C_loop (α := Nat × Value) (fun s => [(4, .int .i64 (s.1 : Int)), (3, s.2), (0, v)]) (fun s => [.row s.2 24 9 (backL l s.1).length ((backL l s.1).flatMap clFragPacket)]) (fun s => s.1 ≤ l.length) (fun s => s.1) (l.length, sv) (Nat.le_refl _) ⟨rfl, rfl, rfl, trivial⟩ ?_ ?_
  · have e : backL l l.length = [] := by unfold backL; rw [List.drop_length]; rfl
    dsimp only
    rw [e]
    exact List.Sublist.refl _
  rintro ⟨i, s⟩ hi
  dsimp only at hi ⊢
  have hbl : (backL l i).length ≤ 1048576 := by unfold backL; rw [List.length_reverse, List.length_drop]; omega
  repeat' (first
    |(refine gS ?_;(first
        |(refine S_move rfl rfl ?_)
        |(refine S_assign rfl rfl ?_)
        |(apply F_idx rfl rfl rfl;exact T.sl27;(focus rfl);(focus (first|exact len_nil|(apply len_given;assumption)|(apply len_row;(focus ((repeat (first|exact mH|refine mT ?_));done)))|(apply len_isN;assumption)));(focus omega))
        |(apply F_idxZ rfl rfl rfl;exact T.sl27;(focus omega);(focus (first|exact len_nil|(apply len_given;assumption)|(apply len_row;(focus ((repeat (first|exact mH|refine mT ?_));done)))|(apply len_isN;assumption)));(focus omega))
        |(apply F_bs0 rfl rfl;exact T.el27;rfl;intro sv;(try (refine S_fact (row_one (v := sv) (by (focus ((repeat (first|exact mH|refine mT ?_));done)))) (fun hone => ?_))))
        |(apply F_bs rfl rfl;exact T.el27;rfl;rfl;rfl;rfl;(focus ((repeat (first|exact Dense.nil|(apply Dense.cons;rfl;rfl)));done));intro sv;(try (refine S_fact (row_one (v := sv) (by (focus ((repeat (first|exact mH|refine mT ?_));done)))) (fun hone => ?_))))
        |(refine gLoad ?_;(first
            |(apply F_loadAll rfl rfl;(focus ((repeat (first|exact mH|refine mT ?_));done));exact T.rw24;(focus (first|exact free0|exact free1)))
            |(apply F_loadP rfl rfl;(focus ((repeat (first|exact mH|refine mT ?_));done));exact T.rw24;(focus ((repeat (first|exact Take.nil|apply Take.here|apply Take.there));done));rfl;(focus (first|exact free0|exact free1)))
            |(apply F_loadSN rfl rfl;exact T.rw24;(focus (first|exact rd_nil|(apply rd_given;(focus assumption);(focus (first|exact freeG0|exact freeG1)))|(apply rd_row;(focus ((repeat (first|exact mH|refine mT ?_));done));(focus (first|exact freeR0|exact freeR1)))));(focus (first|(focus (apply at_flat;(focus (intro _;rfl));(focus assumption)))|exact at_self));rfl;rfl)
            |(apply F_loadSP rfl rfl;exact T.rw24;(focus (first|exact rd_nil|(apply rd_given;(focus assumption);(focus (first|exact freeG0|exact freeG1)))|(apply rd_row;(focus ((repeat (first|exact mH|refine mT ?_));done));(focus (first|exact freeR0|exact freeR1)))));(focus (apply at_flat;(focus (intro _;rfl));(focus assumption)));(focus ((repeat (first|exact Take.nil|apply Take.here|apply Take.there));done));rfl;rfl)
            |(apply F_loadST rfl rfl;exact T.rw24;(focus (first|exact rd_nil|(apply rd_given;(focus assumption);(focus (first|exact freeG0|exact freeG1)))|(apply rd_row;(focus ((repeat (first|exact mH|refine mT ?_));done));(focus (first|exact freeR0|exact freeR1)))));(focus ((repeat (first|exact Take.nil|apply Take.here|apply Take.there));done));rfl;rfl)))
        |(refine gCall ?_;(first
            |(apply F_len rfl rfl rfl;(focus exact ⟨_,_,by exact T.sl27⟩);(focus (first|exact len_nil|(apply len_given;assumption)|(apply len_row;(focus ((repeat (first|exact mH|refine mT ?_));done)))|(apply len_isN;assumption))))
            |(apply F_append rfl rfl rfl rfl;exact T.el27;(focus (intro sv;(focus ((repeat (first|exact Upd.here|apply Upd.there));done))));(focus (first|exact rd_nil|(apply rd_given;(focus assumption);(focus (first|exact freeG0|exact freeG1)))|(apply rd_row;(focus ((repeat (first|exact mH|refine mT ?_));done));(focus (first|exact freeR0|exact freeR1)))));(focus (first|rfl|assumption|(apply all_flat;intro _ _;rfl)|(rw [List.append_nil];assumption)|(simp only [List.append_nil,List.all_cons,List.all_nil,Bool.and_true,Bool.true_and,one_int,one_bool,one_string,one_slice,one_pointer, *];done)|simp));(first|exact okst2|exact okst1|exact okst1');(focus (simp only [maxLen];first|omega|(simp only [List.length_take,List.length_drop];omega)));(focus (first|omega|(simp only [List.length_take,List.length_drop];omega)));intro sv;(try (refine S_fact (row_one (v := sv) (by (focus ((repeat (first|exact mH|refine mT ?_));done)))) (fun hone => ?_))))))
        |(refine gBin ?_;(first
            |(refine S_gtr rfl rfl rfl ?_)
            |(refine S_sub rfl rfl ?_ rfl ?_;(focus (unfold rng;omega)))))
        |(refine S_done ?_)))
    |(refine gC ?_;(first
        |(refine C_seq ?_)
        |(refine gReg ?_;(first
            |(refine gReg (i := 0) ?_;refine C_plain [(0,0)] (by kernel_rfl) (s := [⟨0,none,_,_,_⟩]) rfl ?_)
            |(refine gReg (i := 1) ?_;refine C_plain [(0,2),(1,0)] (by kernel_rfl) (s := [⟨2,none,_,_,_⟩,⟨0,none,_,_,_⟩]) rfl ?_)
            |(refine gReg (i := 2) ?_;refine C_plain [(0,0),(1,0),(2,0)] (by kernel_rfl) (s := [⟨0,none,_,_,_⟩,⟨0,none,_,_,_⟩,⟨0,none,_,_,_⟩]) rfl ?_)
            |(refine gReg (i := 3) ?_;refine C_plain [(0,0),(1,0)] (by kernel_rfl) (s := [⟨0,none,_,_,_⟩,⟨0,none,_,_,_⟩]) rfl ?_)
            |(refine gReg (i := 4) ?_;refine C_plain [(0,0),(1,0),(2,0)] (by kernel_rfl) (s := [⟨0,none,_,_,_⟩,⟨0,none,_,_,_⟩,⟨0,none,_,_,_⟩]) rfl ?_)
            |(refine gReg (i := 6) ?_;refine C_plain [(0,0),(1,0)] (by kernel_rfl) (s := [⟨0,none,_,_,_⟩,⟨0,none,_,_,_⟩]) rfl ?_)))
        |(refine C_true rfl ?_)
        |(refine C_false rfl ?_)
        |(refine C_split rfl ?_ ?_ <;> (intro hb;(try simp only [decide_eq_true_eq] at hb);(try simp only [decide_eq_false_iff_not] at hb);(try simp only [Bool.not_eq_true'] at hb);(try simp only [Bool.not_eq_false'] at hb);(try (exfalso;first|contradiction|omega))))
        |(refine C_skip ?_)
        |(refine C_exit ?_)
        |(refine C_ret ?_)
        |(refine C_block ?_)))
    |(refine gE ?_;(first
        |(refine E_then ?_)
        |(refine E_thenX ?_)
        |(refine E_thenR ?_)
        |(refine E_block ?_)
        |(refine E_blockY ?_)
        |(refine E_blockR ?_)
        |(refine E_calm ?_)
        |(refine E_blockX rfl ?_)
        |(apply E_ret1 rfl;(first|exact Res.tmp rfl|(apply R_cellAll rfl;(focus ((repeat (first|exact mH|refine mT ?_));done));exact T.rw24)|(apply R_cell1 rfl;(focus ((repeat (first|exact mH|refine mT ?_));done));fail)))
        |(apply E_ret2 rfl;(first|exact Res.tmp rfl|(apply R_cellAll rfl;(focus ((repeat (first|exact mH|refine mT ?_));done));exact T.rw24)|(apply R_cell1 rfl;(focus ((repeat (first|exact mH|refine mT ?_));done));fail));(first|exact Res.tmp rfl|(apply R_cellAll rfl;(focus ((repeat (first|exact mH|refine mT ?_));done));exact T.rw24)|(apply R_cell1 rfl;(focus ((repeat (first|exact mH|refine mT ?_));done));fail)))
        | (apply E_ret3 rfl; (first | exact Res.tmp rfl | (apply R_cellAll rfl; (focus ((repeat (first | exact List.Mem.head _ | refine List.Mem.tail _ ?_)); done)); exact T.rw24) | (apply R_cell1 rfl; (focus ((repeat (first | exact List.Mem.head _ | refine List.Mem.tail _ ?_)); done)); fail)); (first | exact Res.tmp rfl | (apply R_cellAll rfl; (focus ((repeat (first | exact List.Mem.head _ | refine List.Mem.tail _ ?_)); done)); exact T.rw24) | (apply R_cell1 rfl; (focus ((repeat (first | exact List.Mem.head _ | refine List.Mem.tail _ ?_)); done)); fail)); (first | exact Res.tmp rfl | (apply R_cellAll rfl; (focus ((repeat (first | exact List.Mem.head _ | refine List.Mem.tail _ ?_)); done)); exact T.rw24) | (apply R_cell1 rfl; (focus ((repeat (first | exact List.Mem.head _ | refine List.Mem.tail _ ?_)); done)); fail))))))
  · have hb1 : 0 < (i : Int) := by assumption
    obtain ⟨j, rfl⟩ : ∃ j, i = j + 1 := ⟨i - 1, by omega⟩
    have hx1 := nthD (l := l) (k := j) (by omega)
    have hx2 := h1 _ (List.mem_of_getElem? hx1)
    have e1 : ((j + 1 : Nat) : Int) - 1 = (j : Int) := by omega
    have hx3 : l[(((j + 1 : Nat) : Int) - 1).toNat]? = some (ix l j) := by rw [e1]; exact hx1
    repeat' (first
      |(refine gS ?_;(first
          |(refine S_move rfl rfl ?_)
          |(refine S_assign rfl rfl ?_)
          |(apply F_idx rfl rfl rfl;exact T.sl27;(focus rfl);(focus (first|exact len_nil|(apply len_given;assumption)|(apply len_row;(focus ((repeat (first|exact mH|refine mT ?_));done)))|(apply len_isN;assumption)));(focus omega))
          |(apply F_idxZ rfl rfl rfl;exact T.sl27;(focus omega);(focus (first|exact len_nil|(apply len_given;assumption)|(apply len_row;(focus ((repeat (first|exact mH|refine mT ?_));done)))|(apply len_isN;assumption)));(focus omega))
          |(apply F_bs0 rfl rfl;exact T.el27;rfl;intro sv;(try (refine S_fact (row_one (v := sv) (by (focus ((repeat (first|exact mH|refine mT ?_));done)))) (fun hone => ?_))))
          |(apply F_bs rfl rfl;exact T.el27;rfl;rfl;rfl;rfl;(focus ((repeat (first|exact Dense.nil|(apply Dense.cons;rfl;rfl)));done));intro sv;(try (refine S_fact (row_one (v := sv) (by (focus ((repeat (first|exact mH|refine mT ?_));done)))) (fun hone => ?_))))
          |(refine gLoad ?_;(first
              |(apply F_loadAll rfl rfl;(focus ((repeat (first|exact mH|refine mT ?_));done));exact T.rw24;(focus (first|exact free0|exact free1)))
              |(apply F_loadP rfl rfl;(focus ((repeat (first|exact mH|refine mT ?_));done));exact T.rw24;(focus ((repeat (first|exact Take.nil|apply Take.here|apply Take.there));done));rfl;(focus (first|exact free0|exact free1)))
              |(apply F_loadSN rfl rfl;exact T.rw24;(focus (first|exact rd_nil|(apply rd_given;(focus assumption);(focus (first|exact freeG0|exact freeG1)))|(apply rd_row;(focus ((repeat (first|exact mH|refine mT ?_));done));(focus (first|exact freeR0|exact freeR1)))));(focus (first|(focus (apply at_flat;(focus (intro _;rfl));(focus assumption)))|exact at_self));rfl;rfl)
              |(apply F_loadSP rfl rfl;exact T.rw24;(focus (first|exact rd_nil|(apply rd_given;(focus assumption);(focus (first|exact freeG0|exact freeG1)))|(apply rd_row;(focus ((repeat (first|exact mH|refine mT ?_));done));(focus (first|exact freeR0|exact freeR1)))));(focus (apply at_flat;(focus (intro _;rfl));(focus assumption)));(focus ((repeat (first|exact Take.nil|apply Take.here|apply Take.there));done));rfl;rfl)
              |(apply F_loadST rfl rfl;exact T.rw24;(focus (first|exact rd_nil|(apply rd_given;(focus assumption);(focus (first|exact freeG0|exact freeG1)))|(apply rd_row;(focus ((repeat (first|exact mH|refine mT ?_));done));(focus (first|exact freeR0|exact freeR1)))));(focus ((repeat (first|exact Take.nil|apply Take.here|apply Take.there));done));rfl;rfl)))
          |(refine gCall ?_;(first
              |(apply F_len rfl rfl rfl;(focus exact ⟨_,_,by exact T.sl27⟩);(focus (first|exact len_nil|(apply len_given;assumption)|(apply len_row;(focus ((repeat (first|exact mH|refine mT ?_));done)))|(apply len_isN;assumption))))
              |(apply F_append rfl rfl rfl rfl;exact T.el27;(focus (intro sv;(focus ((repeat (first|exact Upd.here|apply Upd.there));done))));(focus (first|exact rd_nil|(apply rd_given;(focus assumption);(focus (first|exact freeG0|exact freeG1)))|(apply rd_row;(focus ((repeat (first|exact mH|refine mT ?_));done));(focus (first|exact freeR0|exact freeR1)))));(focus (first|rfl|assumption|(apply all_flat;intro _ _;rfl)|(rw [List.append_nil];assumption)|(simp only [List.append_nil,List.all_cons,List.all_nil,Bool.and_true,Bool.true_and,one_int,one_bool,one_string,one_slice,one_pointer, *];done)|simp));(first|exact okst2|exact okst1|exact okst1');(focus (simp only [maxLen];first|omega|(simp only [List.length_take,List.length_drop];omega)));(focus (first|omega|(simp only [List.length_take,List.length_drop];omega)));intro sv;(try (refine S_fact (row_one (v := sv) (by (focus ((repeat (first|exact mH|refine mT ?_));done)))) (fun hone => ?_))))))
          |(refine gBin ?_;(first
              |(refine S_gtr rfl rfl rfl ?_)
              |(refine S_sub rfl rfl ?_ rfl ?_;(focus (unfold rng;omega)))))
          |(refine S_done ?_)))
      |(refine gC ?_;(first
          |(refine C_seq ?_)
          |(refine gReg ?_;(first
              |(refine gReg (i := 0) ?_;refine C_plain [(0,0)] (by kernel_rfl) (s := [⟨0,none,_,_,_⟩]) rfl ?_)
              |(refine gReg (i := 1) ?_;refine C_plain [(0,2),(1,0)] (by kernel_rfl) (s := [⟨2,none,_,_,_⟩,⟨0,none,_,_,_⟩]) rfl ?_)
              |(refine gReg (i := 2) ?_;refine C_plain [(0,0),(1,0),(2,0)] (by kernel_rfl) (s := [⟨0,none,_,_,_⟩,⟨0,none,_,_,_⟩,⟨0,none,_,_,_⟩]) rfl ?_)
              |(refine gReg (i := 3) ?_;refine C_plain [(0,0),(1,0)] (by kernel_rfl) (s := [⟨0,none,_,_,_⟩,⟨0,none,_,_,_⟩]) rfl ?_)
              |(refine gReg (i := 5) ?_;refine C_plain [(0,0),(1,0),(2,0),(3,0),(4,0),(5,0),(6,2),(7,2),(8,0)] (by kernel_rfl) (s := [⟨0,none,_,_,_⟩,⟨0,none,_,_,_⟩,⟨0,none,_,_,_⟩,⟨0,none,_,_,_⟩,⟨0,none,_,_,_⟩,⟨0,none,_,_,_⟩,⟨2,none,_,_,_⟩,⟨2,none,_,_,_⟩,⟨0,none,_,_,_⟩]) rfl ?_)
              |(refine gReg (i := 4) ?_;refine C_plain [(0,0),(1,0),(2,0)] (by kernel_rfl) (s := [⟨0,none,_,_,_⟩,⟨0,none,_,_,_⟩,⟨0,none,_,_,_⟩]) rfl ?_)
              |(refine gReg (i := 6) ?_;refine C_plain [(0,0),(1,0)] (by kernel_rfl) (s := [⟨0,none,_,_,_⟩,⟨0,none,_,_,_⟩]) rfl ?_)))
          |(refine C_true rfl ?_)
          |(refine C_false rfl ?_)
          |(refine C_split rfl ?_ ?_ <;> (intro hb;(try simp only [decide_eq_true_eq] at hb);(try simp only [decide_eq_false_iff_not] at hb);(try simp only [Bool.not_eq_true'] at hb);(try simp only [Bool.not_eq_false'] at hb);(try (exfalso;first|contradiction|omega))))
          |(refine C_skip ?_)
          |(refine C_exit ?_)
          |(refine C_ret ?_)
          |(refine C_block ?_)))
      |(refine gE ?_;(first
          |(refine E_then ?_)
          |(refine E_thenX ?_)
          |(refine E_thenR ?_)
          |(refine E_block ?_)
          |(refine E_blockY ?_)
          |(refine E_blockR ?_)
          |(refine E_calm ?_)
          |(refine E_blockX rfl ?_)
          |(apply E_ret1 rfl;(first|exact Res.tmp rfl|(apply R_cellAll rfl;(focus ((repeat (first|exact mH|refine mT ?_));done));exact T.rw24)|(apply R_cell1 rfl;(focus ((repeat (first|exact mH|refine mT ?_));done));fail)))
          |(apply E_ret2 rfl;(first|exact Res.tmp rfl|(apply R_cellAll rfl;(focus ((repeat (first|exact mH|refine mT ?_));done));exact T.rw24)|(apply R_cell1 rfl;(focus ((repeat (first|exact mH|refine mT ?_));done));fail));(first|exact Res.tmp rfl|(apply R_cellAll rfl;(focus ((repeat (first|exact mH|refine mT ?_));done));exact T.rw24)|(apply R_cell1 rfl;(focus ((repeat (first|exact mH|refine mT ?_));done));fail)))
          | (apply E_ret3 rfl; (first | exact Res.tmp rfl | (apply R_cellAll rfl; (focus ((repeat (first | exact List.Mem.head _ | refine List.Mem.tail _ ?_)); done)); exact T.rw24) | (apply R_cell1 rfl; (focus ((repeat (first | exact List.Mem.head _ | refine List.Mem.tail _ ?_)); done)); fail)); (first | exact Res.tmp rfl | (apply R_cellAll rfl; (focus ((repeat (first | exact List.Mem.head _ | refine List.Mem.tail _ ?_)); done)); exact T.rw24) | (apply R_cell1 rfl; (focus ((repeat (first | exact List.Mem.head _ | refine List.Mem.tail _ ?_)); done)); fail)); (first | exact Res.tmp rfl | (apply R_cellAll rfl; (focus ((repeat (first | exact List.Mem.head _ | refine List.Mem.tail _ ?_)); done)); exact T.rw24) | (apply R_cell1 rfl; (focus ((repeat (first | exact List.Mem.head _ | refine List.Mem.tail _ ?_)); done)); fail))))))
    rw [back_row hx1, e1]
    exact E_round (α := Nat × Value) (j, sv) (by dsimp only; omega) (by dsimp only; omega) ⟨rfl, rfl, rfl, trivial⟩ (by (repeat (first | exact List.nil_sublist _ | exact List.Sublist.refl _ | (refine List.Sublist.cons_cons _ ?_) | (refine List.Sublist.cons _ ?_))))
  · have e0 : i = 0 := by omega
    subst e0
    exact retX (s, l.reverse) rfl rfl Ent.refl
end Go.Proofs.Ytodhjpnfokkfeaa

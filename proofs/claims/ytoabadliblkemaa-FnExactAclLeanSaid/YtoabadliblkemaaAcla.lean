/- Rules: copied, compared; whether a list of them is ok. -/
import Derived.Test.YtoabadliblkemaaNeta
import Derived.Test.YtoabadliblkemaaMod
set_option linter.unusedSimpArgs false
set_option linter.unusedVariables false
namespace Go.Proofs.Ytoabadliblkemaa
open Go Go.RowKit
attribute [local irreducible] GoS GoC GoE IsFl IsSc IsRw IsSl IsEl IsSt IsFs sp Mem Rd LenOf
theorem toNetPrefix_c (x : MNetPrefix) (w : World) : Calls Try.prog 30 #[.agg (clNetPrefix x).toArray] w (RetN (.agg (clNetPrefix x).toArray) w) := by
  refine enter (n := 11) (E := [(0, _)]) Try.func30 rfl rfl rfl rfl ?_
  repeat' (first
    |(refine gS ?_;(first
        |(refine S_move rfl rfl ?_)
        |(refine S_assign rfl rfl ?_)
        |(apply F_field rfl rfl;(first|exact T.fl40_0|exact T.fl40_1|exact T.fl44_0|exact T.fl44_1))
        |(refine gLoad ?_;(first
            |(apply F_load1 rfl rfl;(focus ((repeat (first|exact mH|refine mT ?_));done));exact T.sc3;rfl;(focus (first|exact free0|exact free1)))
            |(apply F_loadAll rfl rfl;(focus ((repeat (first|exact mH|refine mT ?_));done));exact T.rw40;(focus (first|exact free0|exact free1)))
            |(apply F_loadP rfl rfl;(focus ((repeat (first|exact mH|refine mT ?_));done));exact T.rw40;(focus ((repeat (first|exact Take.nil|apply Take.here|apply Take.there));done));rfl;(focus (first|exact free0|exact free1)))))
        |(refine gStore ?_;(first
            |(apply F_store1 rfl rfl;(focus (first|rfl|assumption));exact T.sc3;(focus ((repeat (first|exact Upd.here|apply Upd.there));done));(focus ((repeat (first|exact SetSeg.nil|apply SetSeg.here|apply SetSeg.there));done));(first|exact okst2|exact okst1|exact okst1'))
            |(apply F_storeN rfl rfl;(focus (first|rfl|assumption|(simp only [List.append_nil,List.all_cons,List.all_nil,Bool.and_true,Bool.true_and,one_int,one_bool,one_string,one_slice,one_pointer, *];done)));exact T.rw40;(focus ((repeat (first|exact Upd.here|apply Upd.there));done));(focus ((repeat (first|exact SetSeg.nil|apply SetSeg.here|apply SetSeg.there));done));(first|exact okst2|exact okst1|exact okst1'))))
        |(refine S_box rfl rfl rfl ?_;intro kb)
        |(apply S_alloc rfl (hd := rfl);exact T.zc40;intro kb)
        |(apply F_build2 rfl (hd := rfl);exact T.st40;(focus ((repeat (first|exact BuildR.nil|(apply BuildR.cons;(first|exact T.fs40_0|exact T.fs40_1);rfl;rfl;(focus ((repeat (first|exact SetSeg.nil|apply SetSeg.here|apply SetSeg.there));done)))|(apply BuildR.cons1;(first|exact T.fs40_0|exact T.fs40_1);(focus assumption);(focus ((repeat (first|exact SetSeg.nil|apply SetSeg.here|apply SetSeg.there));done)))));done)))
        |(refine S_done ?_)
        |(refine S_box1 rfl rfl rfl rfl ?_;intro kb)))
    |(refine gC ?_;(first
        |(refine C_seq ?_)
        |(refine gReg ?_;(first
            |(refine gReg (i := 0) ?_;refine C_plain [(0,2),(1,2)] (by kernel_rfl) (s := [⟨2,none,_,_,_⟩,⟨2,none,_,_,_⟩]) rfl ?_)
            |(refine gReg (i := 1) ?_;refine C_plain [(0,2)] (by kernel_rfl) (s := [⟨2,none,_,_,_⟩]) rfl ?_)
            |(refine gReg (i := 2) ?_;refine C_plain [(0,0),(1,0),(2,0),(3,2)] (by kernel_rfl) (s := [⟨0,none,_,_,_⟩,⟨0,none,_,_,_⟩,⟨0,none,_,_,_⟩,⟨2,none,_,_,_⟩]) rfl ?_)
            |(refine gReg (i := 3) ?_;refine C_plain [(0,0),(1,0),(2,0),(3,2)] (by kernel_rfl) (s := [⟨0,none,_,_,_⟩,⟨0,none,_,_,_⟩,⟨0,none,_,_,_⟩,⟨2,none,_,_,_⟩]) rfl ?_)
            |(refine gReg (i := 4) ?_;refine C_plain [(0,0),(1,2)] (by kernel_rfl) (s := [⟨0,none,_,_,_⟩,⟨2,none,_,_,_⟩]) rfl ?_)))
        |(refine C_true rfl ?_)
        |(refine C_false rfl ?_)
        |(refine C_split rfl ?_ ?_ <;> (intro hb;(try simp only [decide_eq_true_eq] at hb);(try simp only [decide_eq_false_iff_not] at hb);(try simp only [Bool.not_eq_true'] at hb);(try simp only [Bool.not_eq_false'] at hb);(try (exfalso;first|contradiction|omega))))
        |(refine C_skip ?_)
        |(refine C_exit ?_)
        |(refine C_ret ?_)
        |(refine C_block ?_)))
    |(refine gE ?_;(first
        |(refine E_then ?_)
        |(refine E_thenX ?_)
        |(refine E_thenR ?_)
        |(refine E_block ?_)
        |(refine E_blockY ?_)
        |(refine E_blockR ?_)
        |(refine E_calm ?_)
        |(refine E_blockX rfl ?_)
        |(apply E_ret1 rfl;(first|exact Res.tmp rfl|(apply R_cellAll rfl;(focus ((repeat (first|exact mH|refine mT ?_));done));exact T.rw40)|(apply R_cell1 rfl;(focus ((repeat (first|exact mH|refine mT ?_));done));exact T.sc3)))
        |(apply E_ret2 rfl;(first|exact Res.tmp rfl|(apply R_cellAll rfl;(focus ((repeat (first|exact mH|refine mT ?_));done));exact T.rw40)|(apply R_cell1 rfl;(focus ((repeat (first|exact mH|refine mT ?_));done));exact T.sc3));(first|exact Res.tmp rfl|(apply R_cellAll rfl;(focus ((repeat (first|exact mH|refine mT ?_));done));exact T.rw40)|(apply R_cell1 rfl;(focus ((repeat (first|exact mH|refine mT ?_));done));exact T.sc3)))
        | (apply E_ret3 rfl; (first | exact Res.tmp rfl | (apply R_cellAll rfl; (focus ((repeat (first | exact List.Mem.head _ | refine List.Mem.tail _ ?_)); done)); exact T.rw40) | (apply R_cell1 rfl; (focus ((repeat (first | exact List.Mem.head _ | refine List.Mem.tail _ ?_)); done)); exact T.sc3)); (first | exact Res.tmp rfl | (apply R_cellAll rfl; (focus ((repeat (first | exact List.Mem.head _ | refine List.Mem.tail _ ?_)); done)); exact T.rw40) | (apply R_cell1 rfl; (focus ((repeat (first | exact List.Mem.head _ | refine List.Mem.tail _ ?_)); done)); exact T.sc3)); (first | exact Res.tmp rfl | (apply R_cellAll rfl; (focus ((repeat (first | exact List.Mem.head _ | refine List.Mem.tail _ ?_)); done)); exact T.rw40) | (apply R_cell1 rfl; (focus ((repeat (first | exact List.Mem.head _ | refine List.Mem.tail _ ?_)); done)); exact T.sc3))))))
  all_goals (refine retN ?_; rfl)
theorem eqNetPrefix_c (x y : MNetPrefix) (w : World) : Calls Try.prog 38 #[.agg (clNetPrefix x).toArray, .agg (clNetPrefix y).toArray] w (RetN (.bool (decide (x = y))) w) := by
  obtain ⟨x0, x1⟩ := x
  obtain ⟨y0, y1⟩ := y
  refine enter (n := 15) (E := [(0, _), (1, _)]) Try.func38 rfl rfl rfl rfl ?_
  repeat' (first
    |(refine gS ?_;(first
        |(refine S_move rfl rfl ?_)
        |(refine S_assign rfl rfl ?_)
        |(apply F_field rfl rfl;(first|exact T.fl40_0|exact T.fl40_1))
        |(refine gLoad ?_;(first
            |(apply F_load1 rfl rfl;(focus ((repeat (first|exact mH|refine mT ?_));done));exact T.sc3;rfl;(focus (first|exact free0|exact free1)))))
        |(refine gBin ?_;(first
            |(refine S_neq rfl rfl rfl ?_)
            |(refine S_neqB Try.underlying4 rfl rfl rfl ?_)))
        |(refine S_box rfl rfl rfl ?_;intro kb)
        |(refine S_done ?_)
        |(refine S_box1 rfl rfl rfl rfl ?_;intro kb)))
    |(refine gC ?_;(first
        |(refine C_seq ?_)
        |(refine gReg ?_;(first
            |(refine gReg (i := 0) ?_;refine C_plain [(0,2),(1,2),(2,0)] (by kernel_rfl) (s := [⟨2,none,_,_,_⟩,⟨2,none,_,_,_⟩,⟨0,none,_,_,_⟩]) rfl ?_)
            |(refine gReg (i := 1) ?_;refine C_plain [(0,0),(1,0),(2,0),(3,0),(4,0)] (by kernel_rfl) (s := [⟨0,none,_,_,_⟩,⟨0,none,_,_,_⟩,⟨0,none,_,_,_⟩,⟨0,none,_,_,_⟩,⟨0,none,_,_,_⟩]) rfl ?_)
            |(refine gReg (i := 2) ?_;refine C_plain [(0,0)] (by kernel_rfl) (s := [⟨0,none,_,_,_⟩]) rfl ?_)
            |(refine gReg (i := 3) ?_;refine C_plain [(0,0),(1,0),(2,0),(3,0),(4,0)] (by kernel_rfl) (s := [⟨0,none,_,_,_⟩,⟨0,none,_,_,_⟩,⟨0,none,_,_,_⟩,⟨0,none,_,_,_⟩,⟨0,none,_,_,_⟩]) rfl ?_)
            |(refine gReg (i := 4) ?_;refine C_plain [(0,0)] (by kernel_rfl) (s := [⟨0,none,_,_,_⟩]) rfl ?_)
            |(refine gReg (i := 5) ?_;refine C_plain [(0,0)] (by kernel_rfl) (s := [⟨0,none,_,_,_⟩]) rfl ?_)))
        |(refine C_true rfl ?_)
        |(refine C_false rfl ?_)
        |(refine C_split rfl ?_ ?_ <;> (intro hb;(try simp only [decide_eq_true_eq] at hb);(try simp only [decide_eq_false_iff_not] at hb);(try simp only [Bool.not_eq_true'] at hb);(try simp only [Bool.not_eq_false'] at hb);(try (exfalso;first|contradiction|omega))))
        |(refine C_skip ?_)
        |(refine C_exit ?_)
        |(refine C_ret ?_)
        |(refine C_block ?_)))
    |(refine gE ?_;(first
        |(refine E_then ?_)
        |(refine E_thenX ?_)
        |(refine E_thenR ?_)
        |(refine E_block ?_)
        |(refine E_blockY ?_)
        |(refine E_blockR ?_)
        |(refine E_calm ?_)
        |(refine E_blockX rfl ?_)
        |(apply E_ret1 rfl;(first|exact Res.tmp rfl|(apply R_cellAll rfl;(focus ((repeat (first|exact mH|refine mT ?_));done));fail)|(apply R_cell1 rfl;(focus ((repeat (first|exact mH|refine mT ?_));done));exact T.sc3)))
        |(apply E_ret2 rfl;(first|exact Res.tmp rfl|(apply R_cellAll rfl;(focus ((repeat (first|exact mH|refine mT ?_));done));fail)|(apply R_cell1 rfl;(focus ((repeat (first|exact mH|refine mT ?_));done));exact T.sc3));(first|exact Res.tmp rfl|(apply R_cellAll rfl;(focus ((repeat (first|exact mH|refine mT ?_));done));fail)|(apply R_cell1 rfl;(focus ((repeat (first|exact mH|refine mT ?_));done));exact T.sc3)))
        | (apply E_ret3 rfl; (first | exact Res.tmp rfl | (apply R_cellAll rfl; (focus ((repeat (first | exact List.Mem.head _ | refine List.Mem.tail _ ?_)); done)); fail) | (apply R_cell1 rfl; (focus ((repeat (first | exact List.Mem.head _ | refine List.Mem.tail _ ?_)); done)); exact T.sc3)); (first | exact Res.tmp rfl | (apply R_cellAll rfl; (focus ((repeat (first | exact List.Mem.head _ | refine List.Mem.tail _ ?_)); done)); fail) | (apply R_cell1 rfl; (focus ((repeat (first | exact List.Mem.head _ | refine List.Mem.tail _ ?_)); done)); exact T.sc3)); (first | exact Res.tmp rfl | (apply R_cellAll rfl; (focus ((repeat (first | exact List.Mem.head _ | refine List.Mem.tail _ ?_)); done)); fail) | (apply R_cell1 rfl; (focus ((repeat (first | exact List.Mem.head _ | refine List.Mem.tail _ ?_)); done)); exact T.sc3))))))
  all_goals (refine retN ?_; simp_all)
theorem toAclRule_c (x : MAclRule) (w : World) : Calls Try.prog 18 #[.agg (clAclRule x).toArray] w (RetN (.agg (clAclRule x).toArray) w) := by
  refine enter (n := 19) (E := [(0, _)]) Try.func18 rfl rfl rfl rfl ?_
  repeat' (first
    |(refine gS ?_;(first
        |(refine S_move rfl rfl ?_)
        |(refine S_assign rfl rfl ?_)
        |(apply F_field rfl rfl;(first|exact T.fl42_0|exact T.fl42_1|exact T.fl42_2|exact T.fl42_3|exact T.fl46_0|exact T.fl46_1|exact T.fl46_2|exact T.fl46_3))
        |(refine gLoad ?_;(first
            |(apply F_load1 rfl rfl;(focus ((repeat (first|exact mH|refine mT ?_));done));(first|exact T.sc3|exact T.sc4);rfl;(focus (first|exact free0|exact free1)))
            |(apply F_loadAll rfl rfl;(focus ((repeat (first|exact mH|refine mT ?_));done));(first|exact T.rw40|exact T.rw42|exact T.rw44);(focus (first|exact free0|exact free1)))
            |(apply F_loadP rfl rfl;(focus ((repeat (first|exact mH|refine mT ?_));done));(first|exact T.rw40|exact T.rw42|exact T.rw44);(focus ((repeat (first|exact Take.nil|apply Take.here|apply Take.there));done));rfl;(focus (first|exact free0|exact free1)))))
        |(refine gStore ?_;(first
            |(apply F_store1 rfl rfl;(focus (first|rfl|assumption));(first|exact T.sc3|exact T.sc4);(focus ((repeat (first|exact Upd.here|apply Upd.there));done));(focus ((repeat (first|exact SetSeg.nil|apply SetSeg.here|apply SetSeg.there));done));(first|exact okst2|exact okst1|exact okst1'))
            |(apply F_storeN rfl rfl;(focus (first|rfl|assumption|(simp only [List.append_nil,List.all_cons,List.all_nil,Bool.and_true,Bool.true_and,one_int,one_bool,one_string,one_slice,one_pointer, *];done)));(first|exact T.rw40|exact T.rw42|exact T.rw44);(focus ((repeat (first|exact Upd.here|apply Upd.there));done));(focus ((repeat (first|exact SetSeg.nil|apply SetSeg.here|apply SetSeg.there));done));(first|exact okst2|exact okst1|exact okst1'))))
        |(refine gCall ?_;(first
            |(show GoS _ _ _ _ _ _ _ (⟨_,_,_,.call ⟨.value (.func 30),_,_⟩,_⟩ :: _);refine S_callN (f := 30) rfl T.pf30 rfl (fun w hst => toNetPrefix_c _ w) rfl ?_)))
        |(refine S_box rfl rfl rfl ?_;intro kb)
        |(apply S_alloc rfl (hd := rfl);exact T.zc42;intro kb)
        |(apply F_build2 rfl (hd := rfl);exact T.st42;(focus ((repeat (first|exact BuildR.nil|(apply BuildR.cons;(first|exact T.fs42_0|exact T.fs42_1|exact T.fs42_2|exact T.fs42_3);rfl;rfl;(focus ((repeat (first|exact SetSeg.nil|apply SetSeg.here|apply SetSeg.there));done)))|(apply BuildR.cons1;(first|exact T.fs42_0|exact T.fs42_1|exact T.fs42_2|exact T.fs42_3);(focus assumption);(focus ((repeat (first|exact SetSeg.nil|apply SetSeg.here|apply SetSeg.there));done)))));done)))
        |(refine S_done ?_)
        |(refine S_box1 rfl rfl rfl rfl ?_;intro kb)))
    |(refine gC ?_;(first
        |(refine C_seq ?_)
        |(refine gReg ?_;(first
            |(refine gReg (i := 0) ?_;refine C_plain [(0,2),(1,2)] (by kernel_rfl) (s := [⟨2,none,_,_,_⟩,⟨2,none,_,_,_⟩]) rfl ?_)
            |(refine gReg (i := 1) ?_;refine C_plain [(0,2)] (by kernel_rfl) (s := [⟨2,none,_,_,_⟩]) rfl ?_)
            |(refine gReg (i := 2) ?_;refine C_plain [(0,0),(1,0),(2,0),(3,2)] (by kernel_rfl) (s := [⟨0,none,_,_,_⟩,⟨0,none,_,_,_⟩,⟨0,none,_,_,_⟩,⟨2,none,_,_,_⟩]) rfl ?_)
            |(refine gReg (i := 3) ?_;refine C_plain [(0,0),(1,0),(2,2),(3,0),(4,2)] (by kernel_rfl) (s := [⟨0,none,_,_,_⟩,⟨0,none,_,_,_⟩,⟨2,none,_,_,_⟩,⟨0,none,_,_,_⟩,⟨2,none,_,_,_⟩]) rfl ?_)
            |(refine gReg (i := 4) ?_;refine C_plain [(0,0),(1,0),(2,2),(3,0),(4,2)] (by kernel_rfl) (s := [⟨0,none,_,_,_⟩,⟨0,none,_,_,_⟩,⟨2,none,_,_,_⟩,⟨0,none,_,_,_⟩,⟨2,none,_,_,_⟩]) rfl ?_)
            |(refine gReg (i := 5) ?_;refine C_plain [(0,0),(1,0),(2,0),(3,2)] (by kernel_rfl) (s := [⟨0,none,_,_,_⟩,⟨0,none,_,_,_⟩,⟨0,none,_,_,_⟩,⟨2,none,_,_,_⟩]) rfl ?_)
            |(refine gReg (i := 6) ?_;refine C_plain [(0,0),(1,2)] (by kernel_rfl) (s := [⟨0,none,_,_,_⟩,⟨2,none,_,_,_⟩]) rfl ?_)))
        |(refine C_true rfl ?_)
        |(refine C_false rfl ?_)
        |(refine C_split rfl ?_ ?_ <;> (intro hb;(try simp only [decide_eq_true_eq] at hb);(try simp only [decide_eq_false_iff_not] at hb);(try simp only [Bool.not_eq_true'] at hb);(try simp only [Bool.not_eq_false'] at hb);(try (exfalso;first|contradiction|omega))))
        |(refine C_skip ?_)
        |(refine C_exit ?_)
        |(refine C_ret ?_)
        |(refine C_block ?_)))
    |(refine gE ?_;(first
        |(refine E_then ?_)
        |(refine E_thenX ?_)
        |(refine E_thenR ?_)
        |(refine E_block ?_)
        |(refine E_blockY ?_)
        |(refine E_blockR ?_)
        |(refine E_calm ?_)
        |(refine E_blockX rfl ?_)
        |(apply E_ret1 rfl;(first|exact Res.tmp rfl|(apply R_cellAll rfl;(focus ((repeat (first|exact mH|refine mT ?_));done));(first|exact T.rw40|exact T.rw42|exact T.rw44))|(apply R_cell1 rfl;(focus ((repeat (first|exact mH|refine mT ?_));done));(first|exact T.sc3|exact T.sc4))))
        |(apply E_ret2 rfl;(first|exact Res.tmp rfl|(apply R_cellAll rfl;(focus ((repeat (first|exact mH|refine mT ?_));done));(first|exact T.rw40|exact T.rw42|exact T.rw44))|(apply R_cell1 rfl;(focus ((repeat (first|exact mH|refine mT ?_));done));(first|exact T.sc3|exact T.sc4)));(first|exact Res.tmp rfl|(apply R_cellAll rfl;(focus ((repeat (first|exact mH|refine mT ?_));done));(first|exact T.rw40|exact T.rw42|exact T.rw44))|(apply R_cell1 rfl;(focus ((repeat (first|exact mH|refine mT ?_));done));(first|exact T.sc3|exact T.sc4))))
        | (apply E_ret3 rfl; (first | exact Res.tmp rfl | (apply R_cellAll rfl; (focus ((repeat (first | exact List.Mem.head _ | refine List.Mem.tail _ ?_)); done)); (first | exact T.rw40 | exact T.rw42 | exact T.rw44)) | (apply R_cell1 rfl; (focus ((repeat (first | exact List.Mem.head _ | refine List.Mem.tail _ ?_)); done)); (first | exact T.sc3 | exact T.sc4))); (first | exact Res.tmp rfl | (apply R_cellAll rfl; (focus ((repeat (first | exact List.Mem.head _ | refine List.Mem.tail _ ?_)); done)); (first | exact T.rw40 | exact T.rw42 | exact T.rw44)) | (apply R_cell1 rfl; (focus ((repeat (first | exact List.Mem.head _ | refine List.Mem.tail _ ?_)); done)); (first | exact T.sc3 | exact T.sc4))); (first | exact Res.tmp rfl | (apply R_cellAll rfl; (focus ((repeat (first | exact List.Mem.head _ | refine List.Mem.tail _ ?_)); done)); (first | exact T.rw40 | exact T.rw42 | exact T.rw44)) | (apply R_cell1 rfl; (focus ((repeat (first | exact List.Mem.head _ | refine List.Mem.tail _ ?_)); done)); (first | exact T.sc3 | exact T.sc4)))))))
  all_goals (refine retN ?_; rfl)
theorem szAclRuleS_c (v : Value) (l : List MAclRule) (b : Int) (hb : 0 ≤ b ∧ b ≤ 1048576) (w : World) (hm : Mem w v 6 l.length (l.flatMap clAclRule)) : Calls Try.prog 5 #[v, .int .i64 b] w (RetN (.int .i64 (szR b l.length)) w) := by
  have hlen := hm.len
  simp only [maxLen] at hlen
  refine enter (n := 12) (E := [(0, _), (1, _)]) Try.func5 rfl rfl rfl rfl ?_
  repeat' (first
    |(refine gS ?_;(first
        |(refine S_move rfl rfl ?_)
        |(refine S_assign rfl rfl ?_)
        |(refine gCall ?_;(first
            |(apply F_len rfl rfl rfl;(focus exact ⟨_,_,by exact T.sl22⟩);(focus (first|exact len_nil|(apply len_given;assumption)|(apply len_row;(focus ((repeat (first|exact mH|refine mT ?_));done)))|(apply len_isN;assumption))))))
        |(refine gBin ?_;(first
            |(refine S_lss rfl rfl rfl ?_)
            |(refine S_sub rfl rfl ?_ rfl ?_;(focus (unfold rng;omega)))))
        |(refine S_done ?_)))
    |(refine gC ?_;(first
        |(refine C_seq ?_)
        |(refine gReg ?_;(first
            |(refine gReg (i := 0) ?_;refine C_plain [(0,0)] (by kernel_rfl) (s := [⟨0,none,_,_,_⟩]) rfl ?_)
            |(refine gReg (i := 1) ?_;refine C_plain [(0,0),(1,0),(2,0),(3,0),(4,0)] (by kernel_rfl) (s := [⟨0,none,_,_,_⟩,⟨0,none,_,_,_⟩,⟨0,none,_,_,_⟩,⟨0,none,_,_,_⟩,⟨0,none,_,_,_⟩]) rfl ?_)
            |(refine gReg (i := 2) ?_;refine C_plain [(0,0),(1,0)] (by kernel_rfl) (s := [⟨0,none,_,_,_⟩,⟨0,none,_,_,_⟩]) rfl ?_)
            |(refine gReg (i := 3) ?_;refine C_plain [(0,0)] (by kernel_rfl) (s := [⟨0,none,_,_,_⟩]) rfl ?_)
            |(refine gReg (i := 4) ?_;refine C_plain [(0,0),(1,0)] (by kernel_rfl) (s := [⟨0,none,_,_,_⟩,⟨0,none,_,_,_⟩]) rfl ?_)))
        |(refine C_true rfl ?_)
        |(refine C_false rfl ?_)
        |(refine C_split rfl ?_ ?_ <;> (intro hb;(try simp only [decide_eq_true_eq] at hb);(try simp only [decide_eq_false_iff_not] at hb);(try simp only [Bool.not_eq_true'] at hb);(try simp only [Bool.not_eq_false'] at hb);(try (exfalso;first|contradiction|omega))))
        |(refine C_skip ?_)
        |(refine C_exit ?_)
        |(refine C_ret ?_)
        |(refine C_block ?_)))
    |(refine gE ?_;(first
        |(refine E_then ?_)
        |(refine E_thenX ?_)
        |(refine E_thenR ?_)
        |(refine E_block ?_)
        |(refine E_blockY ?_)
        |(refine E_blockR ?_)
        |(refine E_calm ?_)
        |(refine E_blockX rfl ?_)
        |(apply E_ret1 rfl;(first|exact Res.tmp rfl|(apply R_cellAll rfl;(focus ((repeat (first|exact mH|refine mT ?_));done));fail)|(apply R_cell1 rfl;(focus ((repeat (first|exact mH|refine mT ?_));done));fail)))
        |(apply E_ret2 rfl;(first|exact Res.tmp rfl|(apply R_cellAll rfl;(focus ((repeat (first|exact mH|refine mT ?_));done));fail)|(apply R_cell1 rfl;(focus ((repeat (first|exact mH|refine mT ?_));done));fail));(first|exact Res.tmp rfl|(apply R_cellAll rfl;(focus ((repeat (first|exact mH|refine mT ?_));done));fail)|(apply R_cell1 rfl;(focus ((repeat (first|exact mH|refine mT ?_));done));fail)))
        | (apply E_ret3 rfl; (first | exact Res.tmp rfl | (apply R_cellAll rfl; (focus ((repeat (first | exact List.Mem.head _ | refine List.Mem.tail _ ?_)); done)); fail) | (apply R_cell1 rfl; (focus ((repeat (first | exact List.Mem.head _ | refine List.Mem.tail _ ?_)); done)); fail)); (first | exact Res.tmp rfl | (apply R_cellAll rfl; (focus ((repeat (first | exact List.Mem.head _ | refine List.Mem.tail _ ?_)); done)); fail) | (apply R_cell1 rfl; (focus ((repeat (first | exact List.Mem.head _ | refine List.Mem.tail _ ?_)); done)); fail)); (first | exact Res.tmp rfl | (apply R_cellAll rfl; (focus ((repeat (first | exact List.Mem.head _ | refine List.Mem.tail _ ?_)); done)); fail) | (apply R_cell1 rfl; (focus ((repeat (first | exact List.Mem.head _ | refine List.Mem.tail _ ?_)); done)); fail))))))
  · refine retN ?_; simp [szR, *]
  · refine retN ?_; simp [szR, *]
theorem toAclRuleS_c (v : Value) (l : List MAclRule) (hl : l.length ≤ 1048576) (w : World) (hm : Mem w v 6 l.length (l.flatMap clAclRule)) : Calls Try.prog 7 #[v] w (RetR 42 6 l.length (l.flatMap clAclRule) w) := by
  refine enter (n := 23) (E := [(0, _)]) Try.func7 rfl rfl rfl rfl ?_
  repeat' (first
    |(refine gS ?_;(first
        |(refine S_move rfl rfl ?_)
        |(refine S_assign rfl rfl ?_)
        |(apply F_idx rfl rfl rfl;(first|exact T.sl22|exact T.sl28);(focus rfl);(focus (first|exact len_nil|(apply len_given;assumption)|(apply len_row;(focus ((repeat (first|exact mH|refine mT ?_));done)))|(apply len_isN;assumption)));(focus omega))
        |(apply F_idxZ rfl rfl rfl;(first|exact T.sl22|exact T.sl28);(focus omega);(focus (first|exact len_nil|(apply len_given;assumption)|(apply len_row;(focus ((repeat (first|exact mH|refine mT ?_));done)))|(apply len_isN;assumption)));(focus omega))
        |(apply F_make rfl rfl rfl;(first|exact T.el22|exact T.el28);rfl;(focus omega);(focus (simp only [maxLen];omega));intro sv;(try (refine S_fact (row_one (v := sv) (by (focus ((repeat (first|exact mH|refine mT ?_));done)))) (fun hone => ?_))))
        |(apply F_make0 rfl rfl rfl;(first|exact T.el22|exact T.el28);rfl;(focus omega);(focus (simp only [maxLen];omega));intro sv;(try (refine S_fact (row_one (v := sv) (by (focus ((repeat (first|exact mH|refine mT ?_));done)))) (fun hone => ?_))))
        |(refine gLoad ?_;(first
            |(apply F_loadAll rfl rfl;(focus ((repeat (first|exact mH|refine mT ?_));done));(first|exact T.rw42|exact T.rw46);(focus (first|exact free0|exact free1)))
            |(apply F_loadP rfl rfl;(focus ((repeat (first|exact mH|refine mT ?_));done));(first|exact T.rw42|exact T.rw46);(focus ((repeat (first|exact Take.nil|apply Take.here|apply Take.there));done));rfl;(focus (first|exact free0|exact free1)))
            |(apply F_loadSN rfl rfl;(first|exact T.rw42|exact T.rw46);(focus (first|exact rd_nil|(apply rd_given;(focus assumption);(focus (first|exact freeG0|exact freeG1)))|(apply rd_row;(focus ((repeat (first|exact mH|refine mT ?_));done));(focus (first|exact freeR0|exact freeR1)))));(focus (first|(focus (apply at_flat;(focus (intro _;rfl));(focus assumption)))|exact at_self));rfl;rfl)
            |(apply F_loadSP rfl rfl;(first|exact T.rw42|exact T.rw46);(focus (first|exact rd_nil|(apply rd_given;(focus assumption);(focus (first|exact freeG0|exact freeG1)))|(apply rd_row;(focus ((repeat (first|exact mH|refine mT ?_));done));(focus (first|exact freeR0|exact freeR1)))));(focus (apply at_flat;(focus (intro _;rfl));(focus assumption)));(focus ((repeat (first|exact Take.nil|apply Take.here|apply Take.there));done));rfl;rfl)))
        |(refine gStore ?_;(first
            |(apply F_storeN rfl rfl;(focus (first|rfl|assumption|(simp only [List.append_nil,List.all_cons,List.all_nil,Bool.and_true,Bool.true_and,one_int,one_bool,one_string,one_slice,one_pointer, *];done)));(first|exact T.rw42|exact T.rw46);(focus ((repeat (first|exact Upd.here|apply Upd.there));done));(focus ((repeat (first|exact SetSeg.nil|apply SetSeg.here|apply SetSeg.there));done));(first|exact okst2|exact okst1|exact okst1'))
            |(apply F_storeSN rfl rfl;(focus ((repeat (first|exact Upd.here|apply Upd.there));done));(first|exact T.rw42|exact T.rw46);rfl;(focus (first|rfl|assumption|(simp only [List.append_nil,List.all_cons,List.all_nil,Bool.and_true,Bool.true_and,one_int,one_bool,one_string,one_slice,one_pointer, *];done)));rfl;(focus omega);(first|exact okst2|exact okst1|exact okst1'))))
        |(refine gCall ?_;(first
            |(apply F_len rfl rfl rfl;(focus exact ⟨_,_,by (first|exact T.sl22|exact T.sl28)⟩);(focus (first|exact len_nil|(apply len_given;assumption)|(apply len_row;(focus ((repeat (first|exact mH|refine mT ?_));done)))|(apply len_isN;assumption))))))
        |(refine gBin ?_;(first
            |(refine S_lss rfl rfl rfl ?_)
            |(refine S_add rfl rfl ?_ rfl ?_;(focus (unfold rng;omega)))))
        |(refine S_done ?_)))
    |(refine gC ?_;(first
        |(refine C_seq ?_)
        |(refine gReg ?_;(first
            |(refine gReg (i := 0) ?_;refine C_plain [(0,0)] (by kernel_rfl) (s := [⟨0,none,_,_,_⟩]) rfl ?_)
            |(refine gReg (i := 1) ?_;refine C_plain [(0,0),(1,0),(2,2),(3,0)] (by kernel_rfl) (s := [⟨0,none,_,_,_⟩,⟨0,none,_,_,_⟩,⟨2,none,_,_,_⟩,⟨0,none,_,_,_⟩]) rfl ?_)
            |(refine gReg (i := 2) ?_;refine C_plain [(0,0)] (by kernel_rfl) (s := [⟨0,none,_,_,_⟩]) rfl ?_)
            |(refine gReg (i := 3) ?_;refine C_plain [(0,0),(1,0),(2,0),(3,0)] (by kernel_rfl) (s := [⟨0,none,_,_,_⟩,⟨0,none,_,_,_⟩,⟨0,none,_,_,_⟩,⟨0,none,_,_,_⟩]) rfl ?_)
            |(refine gReg (i := 5) ?_;refine C_plain [(0,0),(1,0),(2,0),(3,0),(4,0),(5,0),(6,2),(7,0),(8,2)] (by kernel_rfl) (s := [⟨0,none,_,_,_⟩,⟨0,none,_,_,_⟩,⟨0,none,_,_,_⟩,⟨0,none,_,_,_⟩,⟨0,none,_,_,_⟩,⟨0,none,_,_,_⟩,⟨2,none,_,_,_⟩,⟨0,none,_,_,_⟩,⟨2,none,_,_,_⟩]) rfl ?_)
            |(refine gReg (i := 4) ?_;refine C_plain [(0,0),(1,0),(2,0)] (by kernel_rfl) (s := [⟨0,none,_,_,_⟩,⟨0,none,_,_,_⟩,⟨0,none,_,_,_⟩]) rfl ?_)
            |(refine gReg (i := 6) ?_;refine C_plain [(0,0),(1,0)] (by kernel_rfl) (s := [⟨0,none,_,_,_⟩,⟨0,none,_,_,_⟩]) rfl ?_)))
        |(refine C_true rfl ?_)
        |(refine C_false rfl ?_)
        |(refine C_split rfl ?_ ?_ <;> (intro hb;(try simp only [decide_eq_true_eq] at hb);(try simp only [decide_eq_false_iff_not] at hb);(try simp only [Bool.not_eq_true'] at hb);(try simp only [Bool.not_eq_false'] at hb);(try (exfalso;first|contradiction|omega))))
        |(refine C_skip ?_)
        |(refine C_exit ?_)
        |(refine C_ret ?_)
        |(refine C_block ?_)))
    |(refine gE ?_;(first
        |(refine E_then ?_)
        |(refine E_thenX ?_)
        |(refine E_thenR ?_)
        |(refine E_block ?_)
        |(refine E_blockY ?_)
        |(refine E_blockR ?_)
        |(refine E_calm ?_)
        |(refine E_blockX rfl ?_)
        |(apply E_ret1 rfl;(first|exact Res.tmp rfl|(apply R_cellAll rfl;(focus ((repeat (first|exact mH|refine mT ?_));done));(first|exact T.rw42|exact T.rw46))|(apply R_cell1 rfl;(focus ((repeat (first|exact mH|refine mT ?_));done));fail)))
        |(apply E_ret2 rfl;(first|exact Res.tmp rfl|(apply R_cellAll rfl;(focus ((repeat (first|exact mH|refine mT ?_));done));(first|exact T.rw42|exact T.rw46))|(apply R_cell1 rfl;(focus ((repeat (first|exact mH|refine mT ?_));done));fail));(first|exact Res.tmp rfl|(apply R_cellAll rfl;(focus ((repeat (first|exact mH|refine mT ?_));done));(first|exact T.rw42|exact T.rw46))|(apply R_cell1 rfl;(focus ((repeat (first|exact mH|refine mT ?_));done));fail)))
        | (apply E_ret3 rfl; (first | exact Res.tmp rfl | (apply R_cellAll rfl; (focus ((repeat (first | exact List.Mem.head _ | refine List.Mem.tail _ ?_)); done)); (first | exact T.rw42 | exact T.rw46)) | (apply R_cell1 rfl; (focus ((repeat (first | exact List.Mem.head _ | refine List.Mem.tail _ ?_)); done)); fail)); (first | exact Res.tmp rfl | (apply R_cellAll rfl; (focus ((repeat (first | exact List.Mem.head _ | refine List.Mem.tail _ ?_)); done)); (first | exact T.rw42 | exact T.rw46)) | (apply R_cell1 rfl; (focus ((repeat (first | exact List.Mem.head _ | refine List.Mem.tail _ ?_)); done)); fail)); (first | exact Res.tmp rfl | (apply R_cellAll rfl; (focus ((repeat (first | exact List.Mem.head _ | refine List.Mem.tail _ ?_)); done)); (first | exact T.rw42 | exact T.rw46)) | (apply R_cell1 rfl; (focus ((repeat (first | exact List.Mem.head _ | refine List.Mem.tail _ ?_)); done)); fail))))))
  rw [← part_zero]
  refine C_loop (α := Nat) (fun k => [(4, .int .i64 (k : Int)), (3, sv), (0, v)]) (fun k => [.row sv 42 6 l.length (part clAclRule [.bool false, .int .i64 0, .int .i64 0, .int .i64 0, .int .i64 0, .int .i64 0] l k)]) (fun k => k ≤ l.length) (fun k => l.length - k) 0 (by omega) ⟨rfl, rfl, rfl, trivial⟩ (List.Sublist.refl _) ?_
  intro k hk
  try dsimp only
  repeat' (first
    |(refine gS ?_;(first
        |(refine S_move rfl rfl ?_)
        |(refine S_assign rfl rfl ?_)
        |(apply F_idx rfl rfl rfl;(first|exact T.sl22|exact T.sl28);(focus rfl);(focus (first|exact len_nil|(apply len_given;assumption)|(apply len_row;(focus ((repeat (first|exact mH|refine mT ?_));done)))|(apply len_isN;assumption)));(focus omega))
        |(apply F_idxZ rfl rfl rfl;(first|exact T.sl22|exact T.sl28);(focus omega);(focus (first|exact len_nil|(apply len_given;assumption)|(apply len_row;(focus ((repeat (first|exact mH|refine mT ?_));done)))|(apply len_isN;assumption)));(focus omega))
        |(apply F_make rfl rfl rfl;(first|exact T.el22|exact T.el28);rfl;(focus omega);(focus (simp only [maxLen];omega));intro sv;(try (refine S_fact (row_one (v := sv) (by (focus ((repeat (first|exact mH|refine mT ?_));done)))) (fun hone => ?_))))
        |(apply F_make0 rfl rfl rfl;(first|exact T.el22|exact T.el28);rfl;(focus omega);(focus (simp only [maxLen];omega));intro sv;(try (refine S_fact (row_one (v := sv) (by (focus ((repeat (first|exact mH|refine mT ?_));done)))) (fun hone => ?_))))
        |(refine gLoad ?_;(first
            |(apply F_loadAll rfl rfl;(focus ((repeat (first|exact mH|refine mT ?_));done));(first|exact T.rw42|exact T.rw46);(focus (first|exact free0|exact free1)))
            |(apply F_loadP rfl rfl;(focus ((repeat (first|exact mH|refine mT ?_));done));(first|exact T.rw42|exact T.rw46);(focus ((repeat (first|exact Take.nil|apply Take.here|apply Take.there));done));rfl;(focus (first|exact free0|exact free1)))
            |(apply F_loadSN rfl rfl;(first|exact T.rw42|exact T.rw46);(focus (first|exact rd_nil|(apply rd_given;(focus assumption);(focus (first|exact freeG0|exact freeG1)))|(apply rd_row;(focus ((repeat (first|exact mH|refine mT ?_));done));(focus (first|exact freeR0|exact freeR1)))));(focus (first|(focus (apply at_flat;(focus (intro _;rfl));(focus assumption)))|exact at_self));rfl;rfl)
            |(apply F_loadSP rfl rfl;(first|exact T.rw42|exact T.rw46);(focus (first|exact rd_nil|(apply rd_given;(focus assumption);(focus (first|exact freeG0|exact freeG1)))|(apply rd_row;(focus ((repeat (first|exact mH|refine mT ?_));done));(focus (first|exact freeR0|exact freeR1)))));(focus (apply at_flat;(focus (intro _;rfl));(focus assumption)));(focus ((repeat (first|exact Take.nil|apply Take.here|apply Take.there));done));rfl;rfl)))
        |(refine gStore ?_;(first
            |(apply F_storeN rfl rfl;(focus (first|rfl|assumption|(simp only [List.append_nil,List.all_cons,List.all_nil,Bool.and_true,Bool.true_and,one_int,one_bool,one_string,one_slice,one_pointer, *];done)));(first|exact T.rw42|exact T.rw46);(focus ((repeat (first|exact Upd.here|apply Upd.there));done));(focus ((repeat (first|exact SetSeg.nil|apply SetSeg.here|apply SetSeg.there));done));(first|exact okst2|exact okst1|exact okst1'))
            |(apply F_storeSN rfl rfl;(focus ((repeat (first|exact Upd.here|apply Upd.there));done));(first|exact T.rw42|exact T.rw46);rfl;(focus (first|rfl|assumption|(simp only [List.append_nil,List.all_cons,List.all_nil,Bool.and_true,Bool.true_and,one_int,one_bool,one_string,one_slice,one_pointer, *];done)));rfl;(focus omega);(first|exact okst2|exact okst1|exact okst1'))))
        |(refine gCall ?_;(first
            |(show GoS _ _ _ _ _ _ _ (⟨_,_,_,.call ⟨.value (.func 18),_,_⟩,_⟩ :: _);refine S_callN (f := 18) rfl T.pf18 rfl (fun w hst => toAclRule_c _ w) rfl ?_)
            |(apply F_len rfl rfl rfl;(focus exact ⟨_,_,by (first|exact T.sl22|exact T.sl28)⟩);(focus (first|exact len_nil|(apply len_given;assumption)|(apply len_row;(focus ((repeat (first|exact mH|refine mT ?_));done)))|(apply len_isN;assumption))))))
        |(refine gBin ?_;(first
            |(refine S_lss rfl rfl rfl ?_)
            |(refine S_add rfl rfl ?_ rfl ?_;(focus (unfold rng;omega)))))
        |(refine S_done ?_)))
    |(refine gC ?_;(first
        |(refine C_seq ?_)
        |(refine gReg ?_;(first
            |(refine gReg (i := 0) ?_;refine C_plain [(0,0)] (by kernel_rfl) (s := [⟨0,none,_,_,_⟩]) rfl ?_)
            |(refine gReg (i := 1) ?_;refine C_plain [(0,0),(1,0),(2,2),(3,0)] (by kernel_rfl) (s := [⟨0,none,_,_,_⟩,⟨0,none,_,_,_⟩,⟨2,none,_,_,_⟩,⟨0,none,_,_,_⟩]) rfl ?_)
            |(refine gReg (i := 2) ?_;refine C_plain [(0,0)] (by kernel_rfl) (s := [⟨0,none,_,_,_⟩]) rfl ?_)
            |(refine gReg (i := 3) ?_;refine C_plain [(0,0),(1,0),(2,0),(3,0)] (by kernel_rfl) (s := [⟨0,none,_,_,_⟩,⟨0,none,_,_,_⟩,⟨0,none,_,_,_⟩,⟨0,none,_,_,_⟩]) rfl ?_)
            |(refine gReg (i := 5) ?_;refine C_plain [(0,0),(1,0),(2,0),(3,0),(4,0),(5,0),(6,2),(7,0),(8,2)] (by kernel_rfl) (s := [⟨0,none,_,_,_⟩,⟨0,none,_,_,_⟩,⟨0,none,_,_,_⟩,⟨0,none,_,_,_⟩,⟨0,none,_,_,_⟩,⟨0,none,_,_,_⟩,⟨2,none,_,_,_⟩,⟨0,none,_,_,_⟩,⟨2,none,_,_,_⟩]) rfl ?_)
            |(refine gReg (i := 4) ?_;refine C_plain [(0,0),(1,0),(2,0)] (by kernel_rfl) (s := [⟨0,none,_,_,_⟩,⟨0,none,_,_,_⟩,⟨0,none,_,_,_⟩]) rfl ?_)
            |(refine gReg (i := 6) ?_;refine C_plain [(0,0),(1,0)] (by kernel_rfl) (s := [⟨0,none,_,_,_⟩,⟨0,none,_,_,_⟩]) rfl ?_)))
        |(refine C_true rfl ?_)
        |(refine C_false rfl ?_)
        |(refine C_split rfl ?_ ?_ <;> (intro hb;(try simp only [decide_eq_true_eq] at hb);(try simp only [decide_eq_false_iff_not] at hb);(try simp only [Bool.not_eq_true'] at hb);(try simp only [Bool.not_eq_false'] at hb);(try (exfalso;first|contradiction|omega));(try (have hx := nthD (l := l) (k := k) hb))))
        |(refine C_skip ?_)
        |(refine C_exit ?_)
        |(refine C_ret ?_)
        |(refine C_block ?_)))
    |(refine gE ?_;(first
        |(refine E_then ?_)
        |(refine E_thenX ?_)
        |(refine E_thenR ?_)
        |(refine E_block ?_)
        |(refine E_blockY ?_)
        |(refine E_blockR ?_)
        |(refine E_calm ?_)
        |(refine E_blockX rfl ?_)
        |(apply E_ret1 rfl;(first|exact Res.tmp rfl|(apply R_cellAll rfl;(focus ((repeat (first|exact mH|refine mT ?_));done));(first|exact T.rw42|exact T.rw46))|(apply R_cell1 rfl;(focus ((repeat (first|exact mH|refine mT ?_));done));fail)))
        |(apply E_ret2 rfl;(first|exact Res.tmp rfl|(apply R_cellAll rfl;(focus ((repeat (first|exact mH|refine mT ?_));done));(first|exact T.rw42|exact T.rw46))|(apply R_cell1 rfl;(focus ((repeat (first|exact mH|refine mT ?_));done));fail));(first|exact Res.tmp rfl|(apply R_cellAll rfl;(focus ((repeat (first|exact mH|refine mT ?_));done));(first|exact T.rw42|exact T.rw46))|(apply R_cell1 rfl;(focus ((repeat (first|exact mH|refine mT ?_));done));fail)))
        | (apply E_ret3 rfl; (first | exact Res.tmp rfl | (apply R_cellAll rfl; (focus ((repeat (first | exact List.Mem.head _ | refine List.Mem.tail _ ?_)); done)); (first | exact T.rw42 | exact T.rw46)) | (apply R_cell1 rfl; (focus ((repeat (first | exact List.Mem.head _ | refine List.Mem.tail _ ?_)); done)); fail)); (first | exact Res.tmp rfl | (apply R_cellAll rfl; (focus ((repeat (first | exact List.Mem.head _ | refine List.Mem.tail _ ?_)); done)); (first | exact T.rw42 | exact T.rw46)) | (apply R_cell1 rfl; (focus ((repeat (first | exact List.Mem.head _ | refine List.Mem.tail _ ?_)); done)); fail)); (first | exact Res.tmp rfl | (apply R_cellAll rfl; (focus ((repeat (first | exact List.Mem.head _ | refine List.Mem.tail _ ?_)); done)); (first | exact T.rw42 | exact T.rw46)) | (apply R_cell1 rfl; (focus ((repeat (first | exact List.Mem.head _ | refine List.Mem.tail _ ?_)); done)); fail))))))
  · refine E_round (α := Nat) (k + 1) ?_ ?_ ?_ ?_
    · omega
    · omega
    · exact ⟨rfl, rfl, rfl, trivial⟩
    rw [← part_step (m := 6) (fun _ => rfl) rfl hx]
    exact List.Sublist.refl _
  · have e : k = l.length := by omega
    subst e
    rw [part_end]
    (apply retR;(focus ((repeat (first|exact mH|refine mT ?_));done))) <;> rfl
theorem eqAclRule_c (x y : MAclRule) (w : World) : Calls Try.prog 24 #[.agg (clAclRule x).toArray, .agg (clAclRule y).toArray] w (RetN (.bool (decide (x = y))) w) := by
  obtain ⟨x0, x1, x2, x3⟩ := x
  obtain ⟨y0, y1, y2, y3⟩ := y
  refine enter (n := 27) (E := [(0, _), (1, _)]) Try.func24 rfl rfl rfl rfl ?_
  repeat' (first
    |(refine gS ?_;(first
        |(refine S_move rfl rfl ?_)
        |(refine S_assign rfl rfl ?_)
        |(apply F_field rfl rfl;(first|exact T.fl42_0|exact T.fl42_1|exact T.fl42_2|exact T.fl42_3))
        |(refine gLoad ?_;(first
            |(apply F_load1 rfl rfl;(focus ((repeat (first|exact mH|refine mT ?_));done));(first|exact T.sc3|exact T.sc4);rfl;(focus (first|exact free0|exact free1)))
            |(apply F_loadAll rfl rfl;(focus ((repeat (first|exact mH|refine mT ?_));done));exact T.rw40;(focus (first|exact free0|exact free1)))
            |(apply F_loadP rfl rfl;(focus ((repeat (first|exact mH|refine mT ?_));done));exact T.rw40;(focus ((repeat (first|exact Take.nil|apply Take.here|apply Take.there));done));rfl;(focus (first|exact free0|exact free1)))))
        |(refine gCall ?_;(first
            |(show GoS _ _ _ _ _ _ _ (⟨_,_,_,.call ⟨.value (.func 38),_,_⟩,_⟩ :: _);refine S_callN (f := 38) rfl T.pf38 rfl (fun w hst => eqNetPrefix_c _ _ w) rfl ?_)))
        |(refine gBin ?_;(first
            |(refine S_neq rfl rfl rfl ?_)
            |(refine S_neqB Try.underlying4 rfl rfl rfl ?_)))
        |(refine S_box rfl rfl rfl ?_;intro kb)
        |(refine S_not rfl rfl ?_)
        |(refine S_done ?_)
        |(refine S_box1 rfl rfl rfl rfl ?_;intro kb)))
    |(refine gC ?_;(first
        |(refine C_seq ?_)
        |(refine gReg ?_;(first
            |(refine gReg (i := 0) ?_;refine C_plain [(0,2),(1,2),(2,0)] (by kernel_rfl) (s := [⟨2,none,_,_,_⟩,⟨2,none,_,_,_⟩,⟨0,none,_,_,_⟩]) rfl ?_)
            |(refine gReg (i := 1) ?_;refine C_plain [(0,0),(1,0),(2,0),(3,0),(4,0)] (by kernel_rfl) (s := [⟨0,none,_,_,_⟩,⟨0,none,_,_,_⟩,⟨0,none,_,_,_⟩,⟨0,none,_,_,_⟩,⟨0,none,_,_,_⟩]) rfl ?_)
            |(refine gReg (i := 2) ?_;refine C_plain [(0,0)] (by kernel_rfl) (s := [⟨0,none,_,_,_⟩]) rfl ?_)
            |(refine gReg (i := 3) ?_;refine C_plain [(0,0),(1,0),(2,0),(3,0),(4,2),(5,0)] (by kernel_rfl) (s := [⟨0,none,_,_,_⟩,⟨0,none,_,_,_⟩,⟨0,none,_,_,_⟩,⟨0,none,_,_,_⟩,⟨2,none,_,_,_⟩,⟨0,none,_,_,_⟩]) rfl ?_)
            |(refine gReg (i := 4) ?_;refine C_plain [(0,0)] (by kernel_rfl) (s := [⟨0,none,_,_,_⟩]) rfl ?_)
            |(refine gReg (i := 5) ?_;refine C_plain [(0,0),(1,0),(2,0),(3,0),(4,2),(5,0)] (by kernel_rfl) (s := [⟨0,none,_,_,_⟩,⟨0,none,_,_,_⟩,⟨0,none,_,_,_⟩,⟨0,none,_,_,_⟩,⟨2,none,_,_,_⟩,⟨0,none,_,_,_⟩]) rfl ?_)
            |(refine gReg (i := 6) ?_;refine C_plain [(0,0)] (by kernel_rfl) (s := [⟨0,none,_,_,_⟩]) rfl ?_)
            |(refine gReg (i := 7) ?_;refine C_plain [(0,0),(1,0),(2,0),(3,0),(4,0)] (by kernel_rfl) (s := [⟨0,none,_,_,_⟩,⟨0,none,_,_,_⟩,⟨0,none,_,_,_⟩,⟨0,none,_,_,_⟩,⟨0,none,_,_,_⟩]) rfl ?_)
            |(refine gReg (i := 8) ?_;refine C_plain [(0,0)] (by kernel_rfl) (s := [⟨0,none,_,_,_⟩]) rfl ?_)
            |(refine gReg (i := 9) ?_;refine C_plain [(0,0)] (by kernel_rfl) (s := [⟨0,none,_,_,_⟩]) rfl ?_)))
        |(refine C_true rfl ?_)
        |(refine C_false rfl ?_)
        |(refine C_split rfl ?_ ?_ <;> (intro hb;(try simp only [decide_eq_true_eq] at hb);(try simp only [decide_eq_false_iff_not] at hb);(try simp only [Bool.not_eq_true'] at hb);(try simp only [Bool.not_eq_false'] at hb);(try (exfalso;first|contradiction|omega))))
        |(refine C_skip ?_)
        |(refine C_exit ?_)
        |(refine C_ret ?_)
        |(refine C_block ?_)))
    |(refine gE ?_;(first
        |(refine E_then ?_)
        |(refine E_thenX ?_)
        |(refine E_thenR ?_)
        |(refine E_block ?_)
        |(refine E_blockY ?_)
        |(refine E_blockR ?_)
        |(refine E_calm ?_)
        |(refine E_blockX rfl ?_)
        |(apply E_ret1 rfl;(first|exact Res.tmp rfl|(apply R_cellAll rfl;(focus ((repeat (first|exact mH|refine mT ?_));done));exact T.rw40)|(apply R_cell1 rfl;(focus ((repeat (first|exact mH|refine mT ?_));done));(first|exact T.sc3|exact T.sc4))))
        |(apply E_ret2 rfl;(first|exact Res.tmp rfl|(apply R_cellAll rfl;(focus ((repeat (first|exact mH|refine mT ?_));done));exact T.rw40)|(apply R_cell1 rfl;(focus ((repeat (first|exact mH|refine mT ?_));done));(first|exact T.sc3|exact T.sc4)));(first|exact Res.tmp rfl|(apply R_cellAll rfl;(focus ((repeat (first|exact mH|refine mT ?_));done));exact T.rw40)|(apply R_cell1 rfl;(focus ((repeat (first|exact mH|refine mT ?_));done));(first|exact T.sc3|exact T.sc4))))
        | (apply E_ret3 rfl; (first | exact Res.tmp rfl | (apply R_cellAll rfl; (focus ((repeat (first | exact List.Mem.head _ | refine List.Mem.tail _ ?_)); done)); exact T.rw40) | (apply R_cell1 rfl; (focus ((repeat (first | exact List.Mem.head _ | refine List.Mem.tail _ ?_)); done)); (first | exact T.sc3 | exact T.sc4))); (first | exact Res.tmp rfl | (apply R_cellAll rfl; (focus ((repeat (first | exact List.Mem.head _ | refine List.Mem.tail _ ?_)); done)); exact T.rw40) | (apply R_cell1 rfl; (focus ((repeat (first | exact List.Mem.head _ | refine List.Mem.tail _ ?_)); done)); (first | exact T.sc3 | exact T.sc4))); (first | exact Res.tmp rfl | (apply R_cellAll rfl; (focus ((repeat (first | exact List.Mem.head _ | refine List.Mem.tail _ ?_)); done)); exact T.rw40) | (apply R_cell1 rfl; (focus ((repeat (first | exact List.Mem.head _ | refine List.Mem.tail _ ?_)); done)); (first | exact T.sc3 | exact T.sc4)))))))
  all_goals (refine retN ?_; simp_all)
theorem eqAclRuleS_c (v u : Value) (l m : List MAclRule) (w : World) (hm : Mem w v 6 l.length (l.flatMap clAclRule)) (hu : Mem w u 6 m.length (m.flatMap clAclRule)) : Calls Try.prog 10 #[v, u] w (RetN (.bool (decide (l = m))) w) := by
  have hlen := hm.len
  simp only [maxLen] at hlen
  refine enter (n := 27) (E := [(0, _), (1, _)]) Try.func10 rfl rfl rfl rfl ?_
  repeat' (first
    |(refine gS ?_;(first
        |(refine S_move rfl rfl ?_)
        |(refine S_assign rfl rfl ?_)
        |(apply F_idx rfl rfl rfl;exact T.sl28;(focus rfl);(focus (first|exact len_nil|(apply len_given;assumption)|(apply len_row;(focus ((repeat (first|exact mH|refine mT ?_));done)))|(apply len_isN;assumption)));(focus omega))
        |(apply F_idxZ rfl rfl rfl;exact T.sl28;(focus omega);(focus (first|exact len_nil|(apply len_given;assumption)|(apply len_row;(focus ((repeat (first|exact mH|refine mT ?_));done)))|(apply len_isN;assumption)));(focus omega))
        |(refine gLoad ?_;(first
            |(apply F_loadAll rfl rfl;(focus ((repeat (first|exact mH|refine mT ?_));done));exact T.rw42;(focus (first|exact free0|exact free1)))
            |(apply F_loadP rfl rfl;(focus ((repeat (first|exact mH|refine mT ?_));done));exact T.rw42;(focus ((repeat (first|exact Take.nil|apply Take.here|apply Take.there));done));rfl;(focus (first|exact free0|exact free1)))
            |(apply F_loadSN rfl rfl;exact T.rw42;(focus (first|exact rd_nil|(apply rd_given;(focus assumption);(focus (first|exact freeG0|exact freeG1)))|(apply rd_row;(focus ((repeat (first|exact mH|refine mT ?_));done));(focus (first|exact freeR0|exact freeR1)))));(focus (first|(focus (apply at_flat;(focus (intro _;rfl));(focus assumption)))|exact at_self));rfl;rfl)
            |(apply F_loadSP rfl rfl;exact T.rw42;(focus (first|exact rd_nil|(apply rd_given;(focus assumption);(focus (first|exact freeG0|exact freeG1)))|(apply rd_row;(focus ((repeat (first|exact mH|refine mT ?_));done));(focus (first|exact freeR0|exact freeR1)))));(focus (apply at_flat;(focus (intro _;rfl));(focus assumption)));(focus ((repeat (first|exact Take.nil|apply Take.here|apply Take.there));done));rfl;rfl)))
        |(refine gCall ?_;(first
            |(apply F_len rfl rfl rfl;(focus exact ⟨_,_,by exact T.sl28⟩);(focus (first|exact len_nil|(apply len_given;assumption)|(apply len_row;(focus ((repeat (first|exact mH|refine mT ?_));done)))|(apply len_isN;assumption))))))
        |(refine gBin ?_;(first
            |(refine S_lss rfl rfl rfl ?_)
            |(refine S_neq rfl rfl rfl ?_)
            |(refine S_add rfl rfl ?_ rfl ?_;(focus (unfold rng;omega)))
            |(refine S_neqB Try.underlying4 rfl rfl rfl ?_)))
        |(refine S_not rfl rfl ?_)
        |(refine S_done ?_)))
    |(refine gC ?_;(first
        |(refine C_seq ?_)
        |(refine gReg ?_;(first
            |(refine gReg (i := 0) ?_;refine C_plain [(0,0)] (by kernel_rfl) (s := [⟨0,none,_,_,_⟩]) rfl ?_)
            |(refine gReg (i := 1) ?_;refine C_plain [(0,0),(1,0),(2,0),(3,0),(4,0)] (by kernel_rfl) (s := [⟨0,none,_,_,_⟩,⟨0,none,_,_,_⟩,⟨0,none,_,_,_⟩,⟨0,none,_,_,_⟩,⟨0,none,_,_,_⟩]) rfl ?_)
            |(refine gReg (i := 2) ?_;refine C_plain [(0,0)] (by kernel_rfl) (s := [⟨0,none,_,_,_⟩]) rfl ?_)
            |(refine gReg (i := 3) ?_;refine C_plain [(0,0)] (by kernel_rfl) (s := [⟨0,none,_,_,_⟩]) rfl ?_)
            |(refine gReg (i := 4) ?_;refine C_plain [(0,0),(1,0),(2,0),(3,0)] (by kernel_rfl) (s := [⟨0,none,_,_,_⟩,⟨0,none,_,_,_⟩,⟨0,none,_,_,_⟩,⟨0,none,_,_,_⟩]) rfl ?_)
            |(refine gReg (i := 6) ?_;refine C_drawn [(0,0),(1,0),(2,0),(3,0),(4,0),(5,0),(6,0),(7,0),(8,1),(9,0)] [] T.mixed (by kernel_rfl) (s := [⟨0,none,_,_,_⟩,⟨0,none,_,_,_⟩,⟨0,none,_,_,_⟩,⟨0,none,_,_,_⟩,⟨0,none,_,_,_⟩,⟨0,none,_,_,_⟩,⟨0,none,_,_,_⟩,⟨0,none,_,_,_⟩,⟨1,none,_,_,_⟩,⟨0,none,_,_,_⟩]) rfl ?_)
            |(refine gReg (i := 7) ?_;refine C_plain [(0,0)] (by kernel_rfl) (s := [⟨0,none,_,_,_⟩]) rfl ?_)
            |(refine gReg (i := 5) ?_;refine C_plain [(0,0),(1,0),(2,0)] (by kernel_rfl) (s := [⟨0,none,_,_,_⟩,⟨0,none,_,_,_⟩,⟨0,none,_,_,_⟩]) rfl ?_)
            |(refine gReg (i := 8) ?_;refine C_plain [(0,0)] (by kernel_rfl) (s := [⟨0,none,_,_,_⟩]) rfl ?_)))
        |(refine C_true rfl ?_)
        |(refine C_false rfl ?_)
        |(refine C_split rfl ?_ ?_ <;> (intro hb;(try simp only [decide_eq_true_eq] at hb);(try simp only [decide_eq_false_iff_not] at hb);(try simp only [Bool.not_eq_true'] at hb);(try simp only [Bool.not_eq_false'] at hb);(try (exfalso;first|contradiction|omega))))
        |(refine C_skip ?_)
        |(refine C_exit ?_)
        |(refine C_ret ?_)
        |(refine C_block ?_)))
    |(refine gE ?_;(first
        |(refine E_then ?_)
        |(refine E_thenX ?_)
        |(refine E_thenR ?_)
        |(refine E_block ?_)
        |(refine E_blockY ?_)
        |(refine E_blockR ?_)
        |(refine E_calm ?_)
        |(refine E_blockX rfl ?_)
        |(apply E_ret1 rfl;(first|exact Res.tmp rfl|(apply R_cellAll rfl;(focus ((repeat (first|exact mH|refine mT ?_));done));exact T.rw42)|(apply R_cell1 rfl;(focus ((repeat (first|exact mH|refine mT ?_));done));fail)))
        |(apply E_ret2 rfl;(first|exact Res.tmp rfl|(apply R_cellAll rfl;(focus ((repeat (first|exact mH|refine mT ?_));done));exact T.rw42)|(apply R_cell1 rfl;(focus ((repeat (first|exact mH|refine mT ?_));done));fail));(first|exact Res.tmp rfl|(apply R_cellAll rfl;(focus ((repeat (first|exact mH|refine mT ?_));done));exact T.rw42)|(apply R_cell1 rfl;(focus ((repeat (first|exact mH|refine mT ?_));done));fail)))
        | (apply E_ret3 rfl; (first | exact Res.tmp rfl | (apply R_cellAll rfl; (focus ((repeat (first | exact List.Mem.head _ | refine List.Mem.tail _ ?_)); done)); exact T.rw42) | (apply R_cell1 rfl; (focus ((repeat (first | exact List.Mem.head _ | refine List.Mem.tail _ ?_)); done)); fail)); (first | exact Res.tmp rfl | (apply R_cellAll rfl; (focus ((repeat (first | exact List.Mem.head _ | refine List.Mem.tail _ ?_)); done)); exact T.rw42) | (apply R_cell1 rfl; (focus ((repeat (first | exact List.Mem.head _ | refine List.Mem.tail _ ?_)); done)); fail)); (first | exact Res.tmp rfl | (apply R_cellAll rfl; (focus ((repeat (first | exact List.Mem.head _ | refine List.Mem.tail _ ?_)); done)); exact T.rw42) | (apply R_cell1 rfl; (focus ((repeat (first | exact List.Mem.head _ | refine List.Mem.tail _ ?_)); done)); fail))))))
  · refine retN ?_
    have : l ≠ m := fun e => by subst e; contradiction
    simp [this]
  have hl : l.length = m.length := by omega
  refine C_loop (α := Nat) (fun k => [(5, .int .i64 (k : Int)), (0, v), (1, u)]) (fun _ => []) (fun k => k ≤ l.length ∧ l.take k = m.take k) (fun k => l.length - k) 0 ⟨by omega, rfl⟩ ⟨rfl, rfl, rfl, trivial⟩ (List.Sublist.refl _) ?_
  rintro k ⟨hk, ha⟩
  have hp : (k : Int) < (l.length : Int) → m[k]? = some (ix m k) := fun h => nthD (by omega)
  try dsimp only
  repeat' (first
    |(refine gS ?_;(first
        |(refine S_move rfl rfl ?_)
        |(refine S_assign rfl rfl ?_)
        |(apply F_idx rfl rfl rfl;exact T.sl28;(focus rfl);(focus (first|exact len_nil|(apply len_given;assumption)|(apply len_row;(focus ((repeat (first|exact mH|refine mT ?_));done)))|(apply len_isN;assumption)));(focus omega))
        |(apply F_idxZ rfl rfl rfl;exact T.sl28;(focus omega);(focus (first|exact len_nil|(apply len_given;assumption)|(apply len_row;(focus ((repeat (first|exact mH|refine mT ?_));done)))|(apply len_isN;assumption)));(focus omega))
        |(refine gLoad ?_;(first
            |(apply F_loadAll rfl rfl;(focus ((repeat (first|exact mH|refine mT ?_));done));exact T.rw42;(focus (first|exact free0|exact free1)))
            |(apply F_loadP rfl rfl;(focus ((repeat (first|exact mH|refine mT ?_));done));exact T.rw42;(focus ((repeat (first|exact Take.nil|apply Take.here|apply Take.there));done));rfl;(focus (first|exact free0|exact free1)))
            |(apply F_loadSN rfl rfl;exact T.rw42;(focus (first|exact rd_nil|(apply rd_given;(focus assumption);(focus (first|exact freeG0|exact freeG1)))|(apply rd_row;(focus ((repeat (first|exact mH|refine mT ?_));done));(focus (first|exact freeR0|exact freeR1)))));(focus (first|(focus (apply at_flat;(focus (intro _;rfl));(focus assumption)))|exact at_self));rfl;rfl)
            |(apply F_loadSP rfl rfl;exact T.rw42;(focus (first|exact rd_nil|(apply rd_given;(focus assumption);(focus (first|exact freeG0|exact freeG1)))|(apply rd_row;(focus ((repeat (first|exact mH|refine mT ?_));done));(focus (first|exact freeR0|exact freeR1)))));(focus (apply at_flat;(focus (intro _;rfl));(focus assumption)));(focus ((repeat (first|exact Take.nil|apply Take.here|apply Take.there));done));rfl;rfl)))
        |(refine gCall ?_;(first
            |(show GoS _ _ _ _ _ _ _ (⟨_,_,_,.call ⟨.value (.func 24),_,_⟩,_⟩ :: _);refine S_callN (f := 24) rfl T.pf24 rfl (fun w hst => eqAclRule_c _ _ w) rfl ?_)
            |(apply F_len rfl rfl rfl;(focus exact ⟨_,_,by exact T.sl28⟩);(focus (first|exact len_nil|(apply len_given;assumption)|(apply len_row;(focus ((repeat (first|exact mH|refine mT ?_));done)))|(apply len_isN;assumption))))))
        |(refine gBin ?_;(first
            |(refine S_lss rfl rfl rfl ?_)
            |(refine S_neq rfl rfl rfl ?_)
            |(refine S_add rfl rfl ?_ rfl ?_;(focus (unfold rng;omega)))
            |(refine S_neqB Try.underlying4 rfl rfl rfl ?_)))
        |(refine S_not rfl rfl ?_)
        |(refine S_done ?_)))
    |(refine gC ?_;(first
        |(refine C_seq ?_)
        |(refine gReg ?_;(first
            |(refine gReg (i := 0) ?_;refine C_plain [(0,0)] (by kernel_rfl) (s := [⟨0,none,_,_,_⟩]) rfl ?_)
            |(refine gReg (i := 1) ?_;refine C_plain [(0,0),(1,0),(2,0),(3,0),(4,0)] (by kernel_rfl) (s := [⟨0,none,_,_,_⟩,⟨0,none,_,_,_⟩,⟨0,none,_,_,_⟩,⟨0,none,_,_,_⟩,⟨0,none,_,_,_⟩]) rfl ?_)
            |(refine gReg (i := 2) ?_;refine C_plain [(0,0)] (by kernel_rfl) (s := [⟨0,none,_,_,_⟩]) rfl ?_)
            |(refine gReg (i := 3) ?_;refine C_plain [(0,0)] (by kernel_rfl) (s := [⟨0,none,_,_,_⟩]) rfl ?_)
            |(refine gReg (i := 4) ?_;refine C_plain [(0,0),(1,0),(2,0),(3,0)] (by kernel_rfl) (s := [⟨0,none,_,_,_⟩,⟨0,none,_,_,_⟩,⟨0,none,_,_,_⟩,⟨0,none,_,_,_⟩]) rfl ?_)
            |(refine gReg (i := 6) ?_;refine C_drawn [(0,0),(1,0),(2,0),(3,0),(4,0),(5,0),(6,0),(7,0),(8,1),(9,0)] [] T.mixed (by kernel_rfl) (s := [⟨0,none,_,_,_⟩,⟨0,none,_,_,_⟩,⟨0,none,_,_,_⟩,⟨0,none,_,_,_⟩,⟨0,none,_,_,_⟩,⟨0,none,_,_,_⟩,⟨0,none,_,_,_⟩,⟨0,none,_,_,_⟩,⟨1,none,_,_,_⟩,⟨0,none,_,_,_⟩]) rfl ?_)
            |(refine gReg (i := 7) ?_;refine C_plain [(0,0)] (by kernel_rfl) (s := [⟨0,none,_,_,_⟩]) rfl ?_)
            |(refine gReg (i := 5) ?_;refine C_plain [(0,0),(1,0),(2,0)] (by kernel_rfl) (s := [⟨0,none,_,_,_⟩,⟨0,none,_,_,_⟩,⟨0,none,_,_,_⟩]) rfl ?_)
            |(refine gReg (i := 8) ?_;refine C_plain [(0,0)] (by kernel_rfl) (s := [⟨0,none,_,_,_⟩]) rfl ?_)))
        |(refine C_true rfl ?_)
        |(refine C_false rfl ?_)
        |(refine C_split rfl ?_ ?_ <;> (intro hb;(try simp only [decide_eq_true_eq] at hb);(try simp only [decide_eq_false_iff_not] at hb);(try simp only [Bool.not_eq_true'] at hb);(try simp only [Bool.not_eq_false'] at hb);(try (exfalso;first|contradiction|omega));(try (have hx := nthD (l := l) (k := k) hb));(try (have hx' := hp hb))))
        |(refine C_skip ?_)
        |(refine C_exit ?_)
        |(refine C_ret ?_)
        |(refine C_block ?_)))
    |(refine gE ?_;(first
        |(refine E_then ?_)
        |(refine E_thenX ?_)
        |(refine E_thenR ?_)
        |(refine E_block ?_)
        |(refine E_blockY ?_)
        |(refine E_blockR ?_)
        |(refine E_calm ?_)
        |(refine E_blockX rfl ?_)
        |(apply E_ret1 rfl;(first|exact Res.tmp rfl|(apply R_cellAll rfl;(focus ((repeat (first|exact mH|refine mT ?_));done));exact T.rw42)|(apply R_cell1 rfl;(focus ((repeat (first|exact mH|refine mT ?_));done));fail)))
        |(apply E_ret2 rfl;(first|exact Res.tmp rfl|(apply R_cellAll rfl;(focus ((repeat (first|exact mH|refine mT ?_));done));exact T.rw42)|(apply R_cell1 rfl;(focus ((repeat (first|exact mH|refine mT ?_));done));fail));(first|exact Res.tmp rfl|(apply R_cellAll rfl;(focus ((repeat (first|exact mH|refine mT ?_));done));exact T.rw42)|(apply R_cell1 rfl;(focus ((repeat (first|exact mH|refine mT ?_));done));fail)))
        | (apply E_ret3 rfl; (first | exact Res.tmp rfl | (apply R_cellAll rfl; (focus ((repeat (first | exact List.Mem.head _ | refine List.Mem.tail _ ?_)); done)); exact T.rw42) | (apply R_cell1 rfl; (focus ((repeat (first | exact List.Mem.head _ | refine List.Mem.tail _ ?_)); done)); fail)); (first | exact Res.tmp rfl | (apply R_cellAll rfl; (focus ((repeat (first | exact List.Mem.head _ | refine List.Mem.tail _ ?_)); done)); exact T.rw42) | (apply R_cell1 rfl; (focus ((repeat (first | exact List.Mem.head _ | refine List.Mem.tail _ ?_)); done)); fail)); (first | exact Res.tmp rfl | (apply R_cellAll rfl; (focus ((repeat (first | exact List.Mem.head _ | refine List.Mem.tail _ ?_)); done)); exact T.rw42) | (apply R_cell1 rfl; (focus ((repeat (first | exact List.Mem.head _ | refine List.Mem.tail _ ?_)); done)); fail))))))
  · refine retN ?_
    have hb : decide (ix l k = ix m k) = false := by first | assumption | (simp only [decide_eq_false_iff_not]; assumption)
    have : l ≠ m := fun e => by subst e; simp at hb
    simp [this]
  · refine E_round (α := Nat) (k + 1) ?_ ?_ ?_ ?_
    · have hb : ix l k = ix m k := by first | exact of_decide_eq_true (by assumption) | omega
      exact ⟨by omega, by rw [take_snoc hx, take_snoc hx', ha, hb]⟩
    · omega
    · exact ⟨rfl, rfl, rfl, trivial⟩
    · exact List.nil_sublist _
  · refine retN ?_
    have e : k = l.length := by omega
    subst e
    have : l = m := by rw [List.take_length, hl, List.take_length] at ha; exact ha
    simp [this]
def ruleOk (x : MAclRule) : Bool := okP x.2.1.1 x.2.1.2 && okP x.2.2.1.1 x.2.2.1.2 && inB x.2.2.2 0 7
def ruleAt (l : List MAclRule) (k : Nat) : Bool := ruleOk (ix l k)
def aclOk (l : List MAclRule) : Bool := decide (l.length ≤ 12) && (List.range l.length).all (ruleAt l)
theorem aclOk_fail {l : List MAclRule} {k : Nat} (h : (k : Int) < (l.length : Int)) (hk : ruleAt l k = false) : aclOk l = false := by
  unfold aclOk
  rw [all_fail (Int.ofNat_lt.1 h) hk]; simp
theorem implAclOk_c (v : Value) (l : List MAclRule) (w : World) (hm : Mem w v 6 l.length (l.flatMap clAclRule)) : Calls Try.prog 19 #[v] w (RetN (.bool (aclOk l)) w) := by
  have hlen := hm.len
  simp only [maxLen] at hlen
  refine enter (n := 31) (E := [(0, _)]) Try.func19 rfl rfl rfl rfl ?_
  repeat' (first
    |(refine gS ?_;(first
        |(refine gGuard ?_;(first
            |(refine S_on rfl ?_)
            |(refine S_off rfl rfl rfl ?_)
            |(refine S_offn rfl rfl ?_)
            |(refine S_offU rfl rfl ?_)
            |(refine S_offUn rfl ?_)
            |(refine S_gsplit rfl ?_ ?_ <;> (intro hb;(try simp only [decide_eq_true_eq] at hb);(try simp only [decide_eq_false_iff_not] at hb);(try simp only [Bool.not_eq_true'] at hb);(try simp only [Bool.not_eq_false'] at hb);(try (exfalso;first|contradiction|omega))))))
        |(refine S_move rfl rfl ?_)
        |(refine S_assign rfl rfl ?_)
        |(apply F_field rfl rfl;(first|exact T.fl42_1|exact T.fl42_2|exact T.fl42_3))
        |(apply F_fieldS rfl rfl;(first|exact T.fl42_1|exact T.fl42_2|exact T.fl42_3);(focus (first|exact len_nil|(apply len_given;assumption)|(apply len_row;(focus ((repeat (first|exact mH|refine mT ?_));done)))|(apply len_isN;assumption)));(focus omega))
        |(apply F_idx rfl rfl rfl;exact T.sl28;(focus rfl);(focus (first|exact len_nil|(apply len_given;assumption)|(apply len_row;(focus ((repeat (first|exact mH|refine mT ?_));done)))|(apply len_isN;assumption)));(focus omega))
        |(apply F_idxZ rfl rfl rfl;exact T.sl28;(focus omega);(focus (first|exact len_nil|(apply len_given;assumption)|(apply len_row;(focus ((repeat (first|exact mH|refine mT ?_));done)))|(apply len_isN;assumption)));(focus omega))
        |(refine gLoad ?_;(first
            |(apply F_load1 rfl rfl;(focus ((repeat (first|exact mH|refine mT ?_));done));exact T.sc3;rfl;(focus (first|exact free0|exact free1)))
            |(apply F_loadAll rfl rfl;(focus ((repeat (first|exact mH|refine mT ?_));done));(first|exact T.rw40|exact T.rw42);(focus (first|exact free0|exact free1)))
            |(apply F_loadP rfl rfl;(focus ((repeat (first|exact mH|refine mT ?_));done));(first|exact T.rw40|exact T.rw42);(focus ((repeat (first|exact Take.nil|apply Take.here|apply Take.there));done));rfl;(focus (first|exact free0|exact free1)))
            |(apply F_loadS1 rfl rfl;exact T.sc3;(focus (first|exact rd_nil|(apply rd_given;(focus assumption);(focus (first|exact freeG0|exact freeG1)))|(apply rd_row;(focus ((repeat (first|exact mH|refine mT ?_));done));(focus (first|exact freeR0|exact freeR1)))));(focus (first|(apply at_cell;(focus (apply at_flat;(focus (intro _;rfl));(focus assumption)));rfl)|(apply at_cell0;(focus (apply at_flat;(focus (intro _;rfl));(focus assumption)));rfl)|(apply at_cell;(focus (apply at_mid0;(focus assumption)));rfl)|(apply at_cell0;(focus (apply at_mid0;(focus assumption)));rfl)|rfl)))
            |(apply F_loadSN rfl rfl;(first|exact T.rw40|exact T.rw42);(focus (first|exact rd_nil|(apply rd_given;(focus assumption);(focus (first|exact freeG0|exact freeG1)))|(apply rd_row;(focus ((repeat (first|exact mH|refine mT ?_));done));(focus (first|exact freeR0|exact freeR1)))));(focus (first|(focus (apply at_flat;(focus (intro _;rfl));(focus assumption)))|exact at_self));rfl;rfl)
            |(apply F_loadSP rfl rfl;(first|exact T.rw40|exact T.rw42);(focus (first|exact rd_nil|(apply rd_given;(focus assumption);(focus (first|exact freeG0|exact freeG1)))|(apply rd_row;(focus ((repeat (first|exact mH|refine mT ?_));done));(focus (first|exact freeR0|exact freeR1)))));(focus (apply at_flat;(focus (intro _;rfl));(focus assumption)));(focus ((repeat (first|exact Take.nil|apply Take.here|apply Take.there));done));rfl;rfl)))
        |(refine gStore ?_;(first
            |(apply F_store1 rfl rfl;(focus (first|rfl|assumption));exact T.sc3;(focus ((repeat (first|exact Upd.here|apply Upd.there));done));(focus ((repeat (first|exact SetSeg.nil|apply SetSeg.here|apply SetSeg.there));done));(first|exact okst2|exact okst1|exact okst1'))
            |(apply F_storeN rfl rfl;(focus (first|rfl|assumption|(simp only [List.append_nil,List.all_cons,List.all_nil,Bool.and_true,Bool.true_and,one_int,one_bool,one_string,one_slice,one_pointer, *];done)));(first|exact T.rw40|exact T.rw42);(focus ((repeat (first|exact Upd.here|apply Upd.there));done));(focus ((repeat (first|exact SetSeg.nil|apply SetSeg.here|apply SetSeg.there));done));(first|exact okst2|exact okst1|exact okst1'))
            |(apply F_storeM0 rfl rfl;(focus ((repeat (first|exact Upd.here|apply Upd.there));done));(focus assumption);exact T.sc3;(focus (first|rfl|assumption));(focus ((repeat (first|exact SetSeg.nil|apply SetSeg.here|apply SetSeg.there));done));(focus omega);(first|exact okst2|exact okst1|exact okst1'))
            |(apply F_storeM1 rfl rfl;(focus ((repeat (first|exact Upd.here|apply Upd.there));done));(focus assumption);exact T.sc3;(focus (first|rfl|assumption));(focus ((repeat (first|exact SetSeg.nil|apply SetSeg.here|apply SetSeg.there));done));(focus omega);(first|exact okst2|exact okst1|exact okst1'))
            |(apply F_storeS1 rfl rfl;(focus ((repeat (first|exact Upd.here|apply Upd.there));done));exact T.sc3;(focus (first|rfl|assumption));(focus omega);(first|exact okst2|exact okst1|exact okst1'))
            |(apply F_storeSN rfl rfl;(focus ((repeat (first|exact Upd.here|apply Upd.there));done));(first|exact T.rw40|exact T.rw42);rfl;(focus (first|rfl|assumption|(simp only [List.append_nil,List.all_cons,List.all_nil,Bool.and_true,Bool.true_and,one_int,one_bool,one_string,one_slice,one_pointer, *];done)));rfl;(focus omega);(first|exact okst2|exact okst1|exact okst1'))))
        |(refine gCall ?_;(first
            |(apply F_len rfl rfl rfl;(focus exact ⟨_,_,by exact T.sl28⟩);(focus (first|exact len_nil|(apply len_given;assumption)|(apply len_row;(focus ((repeat (first|exact mH|refine mT ?_));done)))|(apply len_isN;assumption))))))
        |(refine gBin ?_;(first
            |(refine S_lss rfl rfl rfl ?_)
            |(refine S_leq rfl rfl rfl ?_)
            |(refine S_add rfl rfl ?_ rfl ?_;(focus (unfold rng;omega)))))
        |(refine gPick ?_;(first
            |(refine S_pickT rfl rfl rfl ?_)
            |(refine S_pickF rfl rfl rfl ?_)))
        |(apply S_alloc rfl (hd := rfl);exact T.zc42;intro kb)
        |(apply F_build2 rfl (hd := rfl);exact T.st42;(focus ((repeat (first|exact BuildR.nil|(apply BuildR.cons;(first|exact T.fs42_0|exact T.fs42_1|exact T.fs42_2|exact T.fs42_3);rfl;rfl;(focus ((repeat (first|exact SetSeg.nil|apply SetSeg.here|apply SetSeg.there));done)))|(apply BuildR.cons1;(first|exact T.fs42_0|exact T.fs42_1|exact T.fs42_2|exact T.fs42_3);(focus assumption);(focus ((repeat (first|exact SetSeg.nil|apply SetSeg.here|apply SetSeg.there));done)))));done)))
        |(refine S_not rfl rfl ?_)
        |(refine S_done ?_)))
    |(refine gC ?_;(first
        |(refine C_seq ?_)
        |(refine gReg ?_;(first
            |(refine gReg (i := 0) ?_;refine C_plain [(0,0)] (by kernel_rfl) (s := [⟨0,none,_,_,_⟩]) rfl ?_)
            |(refine gReg (i := 1) ?_;refine C_plain [(0,0),(1,0),(2,0)] (by kernel_rfl) (s := [⟨0,none,_,_,_⟩,⟨0,none,_,_,_⟩,⟨0,none,_,_,_⟩]) rfl ?_)
            |(refine gReg (i := 2) ?_;refine C_plain [(0,0)] (by kernel_rfl) (s := [⟨0,none,_,_,_⟩]) rfl ?_)
            |(refine gReg (i := 3) ?_;refine C_plain [(0,0),(1,0),(2,2),(3,2)] (by kernel_rfl) (s := [⟨0,none,_,_,_⟩,⟨0,none,_,_,_⟩,⟨2,none,_,_,_⟩,⟨2,none,_,_,_⟩]) rfl ?_)
            |(refine gReg (i := 4) ?_;refine C_plain [(0,0),(1,0),(2,2),(3,0),(4,0),(5,0),(6,0),(7,2),(8,0),(9,0),(10,0),(11,0),(12,0),(13,2),(14,0),(15,0)] (by kernel_rfl) (s := [⟨0,none,_,_,_⟩,⟨0,none,_,_,_⟩,⟨2,none,_,_,_⟩,⟨0,none,_,_,_⟩,⟨0,none,_,_,_⟩,⟨0,some (15,false),_,_,_⟩,⟨0,some (15,false),_,_,_⟩,⟨2,some (15,false),_,_,_⟩,⟨0,some (15,false),_,_,_⟩,⟨0,none,_,_,_⟩,⟨0,none,_,_,_⟩,⟨0,some (21,false),_,_,_⟩,⟨0,some (21,false),_,_,_⟩,⟨2,some (21,false),_,_,_⟩,⟨0,some (21,false),_,_,_⟩,⟨0,none,_,_,_⟩]) rfl ?_)
            |(refine gReg (i := 5) ?_;refine C_plain [(0,0)] (by kernel_rfl) (s := [⟨0,none,_,_,_⟩]) rfl ?_)
            |(refine gReg (i := 6) ?_;refine C_plain [(0,0),(1,0)] (by kernel_rfl) (s := [⟨0,none,_,_,_⟩,⟨0,none,_,_,_⟩]) rfl ?_)
            |(refine gReg (i := 7) ?_;refine C_plain [(0,0),(1,0),(2,0),(3,0)] (by kernel_rfl) (s := [⟨0,none,_,_,_⟩,⟨0,none,_,_,_⟩,⟨0,none,_,_,_⟩,⟨0,none,_,_,_⟩]) rfl ?_)))
        |(refine C_true rfl ?_)
        |(refine C_false rfl ?_)
        |(refine C_split rfl ?_ ?_ <;> (intro hb;(try simp only [decide_eq_true_eq] at hb);(try simp only [decide_eq_false_iff_not] at hb);(try simp only [Bool.not_eq_true'] at hb);(try simp only [Bool.not_eq_false'] at hb);(try (exfalso;first|contradiction|omega))))
        |(refine C_skip ?_)
        |(refine C_exit ?_)
        |(refine C_ret ?_)
        |(refine C_block ?_)))
    |(refine gE ?_;(first
        |(refine E_then ?_)
        |(refine E_thenX ?_)
        |(refine E_thenR ?_)
        |(refine E_block ?_)
        |(refine E_blockY ?_)
        |(refine E_blockR ?_)
        |(refine E_calm ?_)
        |(refine E_blockX rfl ?_)
        |(apply E_ret1 rfl;(first|exact Res.tmp rfl|(apply R_cellAll rfl;(focus ((repeat (first|exact mH|refine mT ?_));done));(first|exact T.rw40|exact T.rw42))|(apply R_cell1 rfl;(focus ((repeat (first|exact mH|refine mT ?_));done));exact T.sc3)))
        |(apply E_ret2 rfl;(first|exact Res.tmp rfl|(apply R_cellAll rfl;(focus ((repeat (first|exact mH|refine mT ?_));done));(first|exact T.rw40|exact T.rw42))|(apply R_cell1 rfl;(focus ((repeat (first|exact mH|refine mT ?_));done));exact T.sc3));(first|exact Res.tmp rfl|(apply R_cellAll rfl;(focus ((repeat (first|exact mH|refine mT ?_));done));(first|exact T.rw40|exact T.rw42))|(apply R_cell1 rfl;(focus ((repeat (first|exact mH|refine mT ?_));done));exact T.sc3)))
        | (apply E_ret3 rfl; (first | exact Res.tmp rfl | (apply R_cellAll rfl; (focus ((repeat (first | exact List.Mem.head _ | refine List.Mem.tail _ ?_)); done)); (first | exact T.rw40 | exact T.rw42)) | (apply R_cell1 rfl; (focus ((repeat (first | exact List.Mem.head _ | refine List.Mem.tail _ ?_)); done)); exact T.sc3)); (first | exact Res.tmp rfl | (apply R_cellAll rfl; (focus ((repeat (first | exact List.Mem.head _ | refine List.Mem.tail _ ?_)); done)); (first | exact T.rw40 | exact T.rw42)) | (apply R_cell1 rfl; (focus ((repeat (first | exact List.Mem.head _ | refine List.Mem.tail _ ?_)); done)); exact T.sc3)); (first | exact Res.tmp rfl | (apply R_cellAll rfl; (focus ((repeat (first | exact List.Mem.head _ | refine List.Mem.tail _ ?_)); done)); (first | exact T.rw40 | exact T.rw42)) | (apply R_cell1 rfl; (focus ((repeat (first | exact List.Mem.head _ | refine List.Mem.tail _ ?_)); done)); exact T.sc3))))))
  refine C_loop (α := Nat) (fun k => [(7, .int .i64 (k : Int)), (6, .int .i64 (l.length : Int)), (5, v), (0, v)]) (fun _ => []) (fun k => k ≤ l.length ∧ (List.range k).all (ruleAt l) = true) (fun k => l.length - k) 0 ⟨by omega, rfl⟩ ⟨rfl, rfl, rfl, rfl, trivial⟩ (List.Sublist.refl _) ?_
  rintro k ⟨hk, ha⟩
  try dsimp only
  repeat' (first
    |(refine gS ?_;(first
        |(refine gGuard ?_;(first
            |(refine S_on rfl ?_)
            |(refine S_off rfl rfl rfl ?_)
            |(refine S_offn rfl rfl ?_)
            |(refine S_offU rfl rfl ?_)
            |(refine S_offUn rfl ?_)
            |(refine S_gsplit rfl ?_ ?_ <;> (intro hb;(try simp only [decide_eq_true_eq] at hb);(try simp only [decide_eq_false_iff_not] at hb);(try simp only [Bool.not_eq_true'] at hb);(try simp only [Bool.not_eq_false'] at hb);(try (exfalso;first|contradiction|omega));(try (have hx := nthD (l := l) (k := k) hb))))))
        |(refine S_move rfl rfl ?_)
        |(refine S_assign rfl rfl ?_)
        |(apply F_field rfl rfl;(first|exact T.fl42_1|exact T.fl42_2|exact T.fl42_3))
        |(apply F_fieldS rfl rfl;(first|exact T.fl42_1|exact T.fl42_2|exact T.fl42_3);(focus (first|exact len_nil|(apply len_given;assumption)|(apply len_row;(focus ((repeat (first|exact mH|refine mT ?_));done)))|(apply len_isN;assumption)));(focus omega))
        |(apply F_idx rfl rfl rfl;exact T.sl28;(focus rfl);(focus (first|exact len_nil|(apply len_given;assumption)|(apply len_row;(focus ((repeat (first|exact mH|refine mT ?_));done)))|(apply len_isN;assumption)));(focus omega))
        |(apply F_idxZ rfl rfl rfl;exact T.sl28;(focus omega);(focus (first|exact len_nil|(apply len_given;assumption)|(apply len_row;(focus ((repeat (first|exact mH|refine mT ?_));done)))|(apply len_isN;assumption)));(focus omega))
        |(refine gLoad ?_;(first
            |(apply F_load1 rfl rfl;(focus ((repeat (first|exact mH|refine mT ?_));done));exact T.sc3;rfl;(focus (first|exact free0|exact free1)))
            |(apply F_loadAll rfl rfl;(focus ((repeat (first|exact mH|refine mT ?_));done));(first|exact T.rw40|exact T.rw42);(focus (first|exact free0|exact free1)))
            |(apply F_loadP rfl rfl;(focus ((repeat (first|exact mH|refine mT ?_));done));(first|exact T.rw40|exact T.rw42);(focus ((repeat (first|exact Take.nil|apply Take.here|apply Take.there));done));rfl;(focus (first|exact free0|exact free1)))
            |(apply F_loadS1 rfl rfl;exact T.sc3;(focus (first|exact rd_nil|(apply rd_given;(focus assumption);(focus (first|exact freeG0|exact freeG1)))|(apply rd_row;(focus ((repeat (first|exact mH|refine mT ?_));done));(focus (first|exact freeR0|exact freeR1)))));(focus (first|(apply at_cell;(focus (apply at_flat;(focus (intro _;rfl));(focus assumption)));rfl)|(apply at_cell0;(focus (apply at_flat;(focus (intro _;rfl));(focus assumption)));rfl)|(apply at_cell;(focus (apply at_mid0;(focus assumption)));rfl)|(apply at_cell0;(focus (apply at_mid0;(focus assumption)));rfl)|rfl)))
            |(apply F_loadSN rfl rfl;(first|exact T.rw40|exact T.rw42);(focus (first|exact rd_nil|(apply rd_given;(focus assumption);(focus (first|exact freeG0|exact freeG1)))|(apply rd_row;(focus ((repeat (first|exact mH|refine mT ?_));done));(focus (first|exact freeR0|exact freeR1)))));(focus (first|(focus (apply at_flat;(focus (intro _;rfl));(focus assumption)))|exact at_self));rfl;rfl)
            |(apply F_loadSP rfl rfl;(first|exact T.rw40|exact T.rw42);(focus (first|exact rd_nil|(apply rd_given;(focus assumption);(focus (first|exact freeG0|exact freeG1)))|(apply rd_row;(focus ((repeat (first|exact mH|refine mT ?_));done));(focus (first|exact freeR0|exact freeR1)))));(focus (apply at_flat;(focus (intro _;rfl));(focus assumption)));(focus ((repeat (first|exact Take.nil|apply Take.here|apply Take.there));done));rfl;rfl)))
        |(refine gStore ?_;(first
            |(apply F_store1 rfl rfl;(focus (first|rfl|assumption));exact T.sc3;(focus ((repeat (first|exact Upd.here|apply Upd.there));done));(focus ((repeat (first|exact SetSeg.nil|apply SetSeg.here|apply SetSeg.there));done));(first|exact okst2|exact okst1|exact okst1'))
            |(apply F_storeN rfl rfl;(focus (first|rfl|assumption|(simp only [List.append_nil,List.all_cons,List.all_nil,Bool.and_true,Bool.true_and,one_int,one_bool,one_string,one_slice,one_pointer, *];done)));(first|exact T.rw40|exact T.rw42);(focus ((repeat (first|exact Upd.here|apply Upd.there));done));(focus ((repeat (first|exact SetSeg.nil|apply SetSeg.here|apply SetSeg.there));done));(first|exact okst2|exact okst1|exact okst1'))
            |(apply F_storeM0 rfl rfl;(focus ((repeat (first|exact Upd.here|apply Upd.there));done));(focus assumption);exact T.sc3;(focus (first|rfl|assumption));(focus ((repeat (first|exact SetSeg.nil|apply SetSeg.here|apply SetSeg.there));done));(focus omega);(first|exact okst2|exact okst1|exact okst1'))
            |(apply F_storeM1 rfl rfl;(focus ((repeat (first|exact Upd.here|apply Upd.there));done));(focus assumption);exact T.sc3;(focus (first|rfl|assumption));(focus ((repeat (first|exact SetSeg.nil|apply SetSeg.here|apply SetSeg.there));done));(focus omega);(first|exact okst2|exact okst1|exact okst1'))
            |(apply F_storeS1 rfl rfl;(focus ((repeat (first|exact Upd.here|apply Upd.there));done));exact T.sc3;(focus (first|rfl|assumption));(focus omega);(first|exact okst2|exact okst1|exact okst1'))
            |(apply F_storeSN rfl rfl;(focus ((repeat (first|exact Upd.here|apply Upd.there));done));(first|exact T.rw40|exact T.rw42);rfl;(focus (first|rfl|assumption|(simp only [List.append_nil,List.all_cons,List.all_nil,Bool.and_true,Bool.true_and,one_int,one_bool,one_string,one_slice,one_pointer, *];done)));rfl;(focus omega);(first|exact okst2|exact okst1|exact okst1'))))
        |(refine gCall ?_;(first
            |(show GoS _ _ _ _ _ _ _ (⟨_,_,_,.call ⟨.value (.func 31),_,_⟩,_⟩ :: _);refine S_callN (f := 31) rfl T.pf31 rfl (fun w hst => implNetOk_c _ _ w) rfl ?_)
            |(show GoS _ _ _ _ _ _ _ (⟨_,_,_,.call ⟨.value (.func 20),_,_⟩,_⟩ :: _);refine S_callN (f := 20) rfl T.pf20 rfl (fun w hst => within_c _ _ _ w) rfl ?_)
            |(apply F_len rfl rfl rfl;(focus exact ⟨_,_,by exact T.sl28⟩);(focus (first|exact len_nil|(apply len_given;assumption)|(apply len_row;(focus ((repeat (first|exact mH|refine mT ?_));done)))|(apply len_isN;assumption))))))
        |(refine gBin ?_;(first
            |(refine S_lss rfl rfl rfl ?_)
            |(refine S_leq rfl rfl rfl ?_)
            |(refine S_add rfl rfl ?_ rfl ?_;(focus (unfold rng;omega)))))
        |(refine gPick ?_;(first
            |(refine S_pickT rfl rfl rfl ?_)
            |(refine S_pickF rfl rfl rfl ?_)))
        |(apply S_alloc rfl (hd := rfl);exact T.zc42;intro kb)
        |(apply F_build2 rfl (hd := rfl);exact T.st42;(focus ((repeat (first|exact BuildR.nil|(apply BuildR.cons;(first|exact T.fs42_0|exact T.fs42_1|exact T.fs42_2|exact T.fs42_3);rfl;rfl;(focus ((repeat (first|exact SetSeg.nil|apply SetSeg.here|apply SetSeg.there));done)))|(apply BuildR.cons1;(first|exact T.fs42_0|exact T.fs42_1|exact T.fs42_2|exact T.fs42_3);(focus assumption);(focus ((repeat (first|exact SetSeg.nil|apply SetSeg.here|apply SetSeg.there));done)))));done)))
        |(refine S_not rfl rfl ?_)
        |(refine S_done ?_)))
    |(refine gC ?_;(first
        |(refine C_seq ?_)
        |(refine gReg ?_;(first
            |(refine gReg (i := 0) ?_;refine C_plain [(0,0)] (by kernel_rfl) (s := [⟨0,none,_,_,_⟩]) rfl ?_)
            |(refine gReg (i := 1) ?_;refine C_plain [(0,0),(1,0),(2,0)] (by kernel_rfl) (s := [⟨0,none,_,_,_⟩,⟨0,none,_,_,_⟩,⟨0,none,_,_,_⟩]) rfl ?_)
            |(refine gReg (i := 2) ?_;refine C_plain [(0,0)] (by kernel_rfl) (s := [⟨0,none,_,_,_⟩]) rfl ?_)
            |(refine gReg (i := 3) ?_;refine C_plain [(0,0),(1,0),(2,2),(3,2)] (by kernel_rfl) (s := [⟨0,none,_,_,_⟩,⟨0,none,_,_,_⟩,⟨2,none,_,_,_⟩,⟨2,none,_,_,_⟩]) rfl ?_)
            |(refine gReg (i := 4) ?_;refine C_plain [(0,0),(1,0),(2,2),(3,0),(4,0),(5,0),(6,0),(7,2),(8,0),(9,0),(10,0),(11,0),(12,0),(13,2),(14,0),(15,0)] (by kernel_rfl) (s := [⟨0,none,_,_,_⟩,⟨0,none,_,_,_⟩,⟨2,none,_,_,_⟩,⟨0,none,_,_,_⟩,⟨0,none,_,_,_⟩,⟨0,some (15,false),_,_,_⟩,⟨0,some (15,false),_,_,_⟩,⟨2,some (15,false),_,_,_⟩,⟨0,some (15,false),_,_,_⟩,⟨0,none,_,_,_⟩,⟨0,none,_,_,_⟩,⟨0,some (21,false),_,_,_⟩,⟨0,some (21,false),_,_,_⟩,⟨2,some (21,false),_,_,_⟩,⟨0,some (21,false),_,_,_⟩,⟨0,none,_,_,_⟩]) rfl ?_)
            |(refine gReg (i := 5) ?_;refine C_plain [(0,0)] (by kernel_rfl) (s := [⟨0,none,_,_,_⟩]) rfl ?_)
            |(refine gReg (i := 6) ?_;refine C_plain [(0,0),(1,0)] (by kernel_rfl) (s := [⟨0,none,_,_,_⟩,⟨0,none,_,_,_⟩]) rfl ?_)
            |(refine gReg (i := 7) ?_;refine C_plain [(0,0),(1,0),(2,0),(3,0)] (by kernel_rfl) (s := [⟨0,none,_,_,_⟩,⟨0,none,_,_,_⟩,⟨0,none,_,_,_⟩,⟨0,none,_,_,_⟩]) rfl ?_)))
        |(refine C_true rfl ?_)
        |(refine C_false rfl ?_)
        |(refine C_split rfl ?_ ?_ <;> (intro hb;(try simp only [decide_eq_true_eq] at hb);(try simp only [decide_eq_false_iff_not] at hb);(try simp only [Bool.not_eq_true'] at hb);(try simp only [Bool.not_eq_false'] at hb);(try (exfalso;first|contradiction|omega));(try (have hx := nthD (l := l) (k := k) hb))))
        |(refine C_skip ?_)
        |(refine C_exit ?_)
        |(refine C_ret ?_)
        |(refine C_block ?_)))
    |(refine gE ?_;(first
        |(refine E_then ?_)
        |(refine E_thenX ?_)
        |(refine E_thenR ?_)
        |(refine E_block ?_)
        |(refine E_blockY ?_)
        |(refine E_blockR ?_)
        |(refine E_calm ?_)
        |(refine E_blockX rfl ?_)
        |(apply E_ret1 rfl;(first|exact Res.tmp rfl|(apply R_cellAll rfl;(focus ((repeat (first|exact mH|refine mT ?_));done));(first|exact T.rw40|exact T.rw42))|(apply R_cell1 rfl;(focus ((repeat (first|exact mH|refine mT ?_));done));exact T.sc3)))
        |(apply E_ret2 rfl;(first|exact Res.tmp rfl|(apply R_cellAll rfl;(focus ((repeat (first|exact mH|refine mT ?_));done));(first|exact T.rw40|exact T.rw42))|(apply R_cell1 rfl;(focus ((repeat (first|exact mH|refine mT ?_));done));exact T.sc3));(first|exact Res.tmp rfl|(apply R_cellAll rfl;(focus ((repeat (first|exact mH|refine mT ?_));done));(first|exact T.rw40|exact T.rw42))|(apply R_cell1 rfl;(focus ((repeat (first|exact mH|refine mT ?_));done));exact T.sc3)))
        | (apply E_ret3 rfl; (first | exact Res.tmp rfl | (apply R_cellAll rfl; (focus ((repeat (first | exact List.Mem.head _ | refine List.Mem.tail _ ?_)); done)); (first | exact T.rw40 | exact T.rw42)) | (apply R_cell1 rfl; (focus ((repeat (first | exact List.Mem.head _ | refine List.Mem.tail _ ?_)); done)); exact T.sc3)); (first | exact Res.tmp rfl | (apply R_cellAll rfl; (focus ((repeat (first | exact List.Mem.head _ | refine List.Mem.tail _ ?_)); done)); (first | exact T.rw40 | exact T.rw42)) | (apply R_cell1 rfl; (focus ((repeat (first | exact List.Mem.head _ | refine List.Mem.tail _ ?_)); done)); exact T.sc3)); (first | exact Res.tmp rfl | (apply R_cellAll rfl; (focus ((repeat (first | exact List.Mem.head _ | refine List.Mem.tail _ ?_)); done)); (first | exact T.rw40 | exact T.rw42)) | (apply R_cell1 rfl; (focus ((repeat (first | exact List.Mem.head _ | refine List.Mem.tail _ ?_)); done)); exact T.sc3))))))
  all_goals first
    | (refine E_round (α := Nat) (k + 1) ?_ ?_ ?_ ?_
       · refine ⟨by omega, all_step ha ?_⟩
         simp [ruleAt, ruleOk, *]; done
       · omega
       · exact ⟨rfl, rfl, rfl, rfl, trivial⟩
       · exact List.nil_sublist _)
    | (refine retN ?_
       rw [aclOk_fail (k := k) (by assumption) (by simp [ruleAt, ruleOk, *]; done)]
       done)
    | (refine retN ?_
       have e : k = l.length := by omega
       subst e
       simp [aclOk, ha]; done)
    | (refine retN ?_
       have e : k = l.length := by omega
       subst e
       simp [aclOk, ha]; omega)
theorem specAclOk_c (v : Value) (l : List MAclRule) (w : World) (hm : Mem w v 6 l.length (l.flatMap clAclRule)) : Calls Try.prog 15 #[v] w (RetN (.bool (aclOk l)) w) := by
  have hlen := hm.len
  simp only [maxLen] at hlen
  refine enter (n := 38) (E := [(0, _)]) Try.func15 rfl rfl rfl rfl ?_
  repeat' (first
    |(refine gS ?_;(first
        |(refine gGuard ?_;(first
            |(refine S_on rfl ?_)
            |(refine S_off rfl rfl rfl ?_)
            |(refine S_offn rfl rfl ?_)
            |(refine S_offU rfl rfl ?_)
            |(refine S_offUn rfl ?_)
            |(refine S_gsplit rfl ?_ ?_ <;> (intro hb;(try simp only [decide_eq_true_eq] at hb);(try simp only [decide_eq_false_iff_not] at hb);(try simp only [Bool.not_eq_true'] at hb);(try simp only [Bool.not_eq_false'] at hb);(try (exfalso;first|contradiction|omega))))))
        |(refine S_move rfl rfl ?_)
        |(refine S_assign rfl rfl ?_)
        |(apply F_field rfl rfl;(first|exact T.fl42_1|exact T.fl42_2|exact T.fl42_3))
        |(apply F_fieldS rfl rfl;(first|exact T.fl42_1|exact T.fl42_2|exact T.fl42_3);(focus (first|exact len_nil|(apply len_given;assumption)|(apply len_row;(focus ((repeat (first|exact mH|refine mT ?_));done)))|(apply len_isN;assumption)));(focus omega))
        |(apply F_idx rfl rfl rfl;exact T.sl28;(focus rfl);(focus (first|exact len_nil|(apply len_given;assumption)|(apply len_row;(focus ((repeat (first|exact mH|refine mT ?_));done)))|(apply len_isN;assumption)));(focus omega))
        |(apply F_idxZ rfl rfl rfl;exact T.sl28;(focus omega);(focus (first|exact len_nil|(apply len_given;assumption)|(apply len_row;(focus ((repeat (first|exact mH|refine mT ?_));done)))|(apply len_isN;assumption)));(focus omega))
        |(refine gLoad ?_;(first
            |(apply F_load1 rfl rfl;(focus ((repeat (first|exact mH|refine mT ?_));done));exact T.sc3;rfl;(focus (first|exact free0|exact free1)))
            |(apply F_loadAll rfl rfl;(focus ((repeat (first|exact mH|refine mT ?_));done));exact T.rw40;(focus (first|exact free0|exact free1)))
            |(apply F_loadP rfl rfl;(focus ((repeat (first|exact mH|refine mT ?_));done));exact T.rw40;(focus ((repeat (first|exact Take.nil|apply Take.here|apply Take.there));done));rfl;(focus (first|exact free0|exact free1)))
            |(apply F_loadS1 rfl rfl;exact T.sc3;(focus (first|exact rd_nil|(apply rd_given;(focus assumption);(focus (first|exact freeG0|exact freeG1)))|(apply rd_row;(focus ((repeat (first|exact mH|refine mT ?_));done));(focus (first|exact freeR0|exact freeR1)))));(focus (first|(apply at_cell;(focus (apply at_flat;(focus (intro _;rfl));(focus assumption)));rfl)|(apply at_cell0;(focus (apply at_flat;(focus (intro _;rfl));(focus assumption)));rfl)|(apply at_cell;(focus (apply at_mid0;(focus assumption)));rfl)|(apply at_cell0;(focus (apply at_mid0;(focus assumption)));rfl)|rfl)))
            |(apply F_loadSN rfl rfl;exact T.rw40;(focus (first|exact rd_nil|(apply rd_given;(focus assumption);(focus (first|exact freeG0|exact freeG1)))|(apply rd_row;(focus ((repeat (first|exact mH|refine mT ?_));done));(focus (first|exact freeR0|exact freeR1)))));(focus (first|(focus (apply at_flat;(focus (intro _;rfl));(focus assumption)))|exact at_self));rfl;rfl)
            |(apply F_loadSP rfl rfl;exact T.rw40;(focus (first|exact rd_nil|(apply rd_given;(focus assumption);(focus (first|exact freeG0|exact freeG1)))|(apply rd_row;(focus ((repeat (first|exact mH|refine mT ?_));done));(focus (first|exact freeR0|exact freeR1)))));(focus (apply at_flat;(focus (intro _;rfl));(focus assumption)));(focus ((repeat (first|exact Take.nil|apply Take.here|apply Take.there));done));rfl;rfl)))
        |(refine gCall ?_;(first
            |(apply F_len rfl rfl rfl;(focus exact ⟨_,_,by exact T.sl28⟩);(focus (first|exact len_nil|(apply len_given;assumption)|(apply len_row;(focus ((repeat (first|exact mH|refine mT ?_));done)))|(apply len_isN;assumption))))))
        |(refine gBin ?_;(first
            |(refine S_lss rfl rfl rfl ?_)
            |(refine S_gtr rfl rfl rfl ?_)
            |(refine S_add rfl rfl ?_ rfl ?_;(focus (unfold rng;omega)))))
        |(refine gPick ?_;(first
            |(refine S_pickT rfl rfl rfl ?_)
            |(refine S_pickF rfl rfl rfl ?_)))
        |(refine S_not rfl rfl ?_)
        |(refine S_done ?_)))
    |(refine gC ?_;(first
        |(refine C_seq ?_)
        |(refine gReg ?_;(first
            |(refine gReg (i := 0) ?_;refine C_plain [(0,0)] (by kernel_rfl) (s := [⟨0,none,_,_,_⟩]) rfl ?_)
            |(refine gReg (i := 1) ?_;refine C_plain [(0,0),(1,0),(2,0)] (by kernel_rfl) (s := [⟨0,none,_,_,_⟩,⟨0,none,_,_,_⟩,⟨0,none,_,_,_⟩]) rfl ?_)
            |(refine gReg (i := 2) ?_;refine C_plain [(0,0)] (by kernel_rfl) (s := [⟨0,none,_,_,_⟩]) rfl ?_)
            |(refine gReg (i := 3) ?_;refine C_plain [(0,0)] (by kernel_rfl) (s := [⟨0,none,_,_,_⟩]) rfl ?_)
            |(refine gReg (i := 4) ?_;refine C_plain [(0,0),(1,0),(2,0),(3,0)] (by kernel_rfl) (s := [⟨0,none,_,_,_⟩,⟨0,none,_,_,_⟩,⟨0,none,_,_,_⟩,⟨0,none,_,_,_⟩]) rfl ?_)
            |(refine gReg (i := 6) ?_;refine C_plain [(0,0),(1,0),(2,0),(3,0),(4,0),(5,2),(6,0),(7,0),(8,0),(9,0),(10,0),(11,0),(12,0),(13,2),(14,0),(15,0),(16,0),(17,0),(18,0),(19,0),(20,0),(21,0),(22,2),(23,0),(24,0)] (by kernel_rfl) (s := [⟨0,none,_,_,_⟩,⟨0,none,_,_,_⟩,⟨0,none,_,_,_⟩,⟨0,none,_,_,_⟩,⟨0,none,_,_,_⟩,⟨2,none,_,_,_⟩,⟨0,none,_,_,_⟩,⟨0,none,_,_,_⟩,⟨0,some (20,false),_,_,_⟩,⟨0,some (20,false),_,_,_⟩,⟨0,some (20,false),_,_,_⟩,⟨0,some (20,false),_,_,_⟩,⟨0,some (20,false),_,_,_⟩,⟨2,some (20,false),_,_,_⟩,⟨0,some (20,false),_,_,_⟩,⟨0,none,_,_,_⟩,⟨0,none,_,_,_⟩,⟨0,some (29,false),_,_,_⟩,⟨0,some (29,false),_,_,_⟩,⟨0,some (29,false),_,_,_⟩,⟨0,some (29,false),_,_,_⟩,⟨0,some (29,false),_,_,_⟩,⟨2,some (29,false),_,_,_⟩,⟨0,some (29,false),_,_,_⟩,⟨0,none,_,_,_⟩]) rfl ?_)
            |(refine gReg (i := 7) ?_;refine C_plain [(0,0)] (by kernel_rfl) (s := [⟨0,none,_,_,_⟩]) rfl ?_)
            |(refine gReg (i := 5) ?_;refine C_plain [(0,0),(1,0),(2,0)] (by kernel_rfl) (s := [⟨0,none,_,_,_⟩,⟨0,none,_,_,_⟩,⟨0,none,_,_,_⟩]) rfl ?_)
            |(refine gReg (i := 8) ?_;refine C_plain [(0,0)] (by kernel_rfl) (s := [⟨0,none,_,_,_⟩]) rfl ?_)))
        |(refine C_true rfl ?_)
        |(refine C_false rfl ?_)
        |(refine C_split rfl ?_ ?_ <;> (intro hb;(try simp only [decide_eq_true_eq] at hb);(try simp only [decide_eq_false_iff_not] at hb);(try simp only [Bool.not_eq_true'] at hb);(try simp only [Bool.not_eq_false'] at hb);(try (exfalso;first|contradiction|omega))))
        |(refine C_skip ?_)
        |(refine C_exit ?_)
        |(refine C_ret ?_)
        |(refine C_block ?_)))
    |(refine gE ?_;(first
        |(refine E_then ?_)
        |(refine E_thenX ?_)
        |(refine E_thenR ?_)
        |(refine E_block ?_)
        |(refine E_blockY ?_)
        |(refine E_blockR ?_)
        |(refine E_calm ?_)
        |(refine E_blockX rfl ?_)
        |(apply E_ret1 rfl;(first|exact Res.tmp rfl|(apply R_cellAll rfl;(focus ((repeat (first|exact mH|refine mT ?_));done));exact T.rw40)|(apply R_cell1 rfl;(focus ((repeat (first|exact mH|refine mT ?_));done));exact T.sc3)))
        |(apply E_ret2 rfl;(first|exact Res.tmp rfl|(apply R_cellAll rfl;(focus ((repeat (first|exact mH|refine mT ?_));done));exact T.rw40)|(apply R_cell1 rfl;(focus ((repeat (first|exact mH|refine mT ?_));done));exact T.sc3));(first|exact Res.tmp rfl|(apply R_cellAll rfl;(focus ((repeat (first|exact mH|refine mT ?_));done));exact T.rw40)|(apply R_cell1 rfl;(focus ((repeat (first|exact mH|refine mT ?_));done));exact T.sc3)))
        | (apply E_ret3 rfl; (first | exact Res.tmp rfl | (apply R_cellAll rfl; (focus ((repeat (first | exact List.Mem.head _ | refine List.Mem.tail _ ?_)); done)); exact T.rw40) | (apply R_cell1 rfl; (focus ((repeat (first | exact List.Mem.head _ | refine List.Mem.tail _ ?_)); done)); exact T.sc3)); (first | exact Res.tmp rfl | (apply R_cellAll rfl; (focus ((repeat (first | exact List.Mem.head _ | refine List.Mem.tail _ ?_)); done)); exact T.rw40) | (apply R_cell1 rfl; (focus ((repeat (first | exact List.Mem.head _ | refine List.Mem.tail _ ?_)); done)); exact T.sc3)); (first | exact Res.tmp rfl | (apply R_cellAll rfl; (focus ((repeat (first | exact List.Mem.head _ | refine List.Mem.tail _ ?_)); done)); exact T.rw40) | (apply R_cell1 rfl; (focus ((repeat (first | exact List.Mem.head _ | refine List.Mem.tail _ ?_)); done)); exact T.sc3))))))
  · refine retN ?_; simp [aclOk]; omega
  refine C_loop (α := Nat) (fun k => [(3, .int .i64 (k : Int)), (0, v)]) (fun _ => []) (fun k => k ≤ l.length ∧ (List.range k).all (ruleAt l) = true) (fun k => l.length - k) 0 ⟨by omega, rfl⟩ ⟨rfl, rfl, trivial⟩ (List.Sublist.refl _) ?_
  rintro k ⟨hk, ha⟩
  try dsimp only
  repeat' (first
    |(refine gS ?_;(first
        |(refine gGuard ?_;(first
            |(refine S_on rfl ?_)
            |(refine S_off rfl rfl rfl ?_)
            |(refine S_offn rfl rfl ?_)
            |(refine S_offU rfl rfl ?_)
            |(refine S_offUn rfl ?_)
            |(refine S_gsplit rfl ?_ ?_ <;> (intro hb;(try simp only [decide_eq_true_eq] at hb);(try simp only [decide_eq_false_iff_not] at hb);(try simp only [Bool.not_eq_true'] at hb);(try simp only [Bool.not_eq_false'] at hb);(try (exfalso;first|contradiction|omega));(try (have hx := nthD (l := l) (k := k) hb))))))
        |(refine S_move rfl rfl ?_)
        |(refine S_assign rfl rfl ?_)
        |(apply F_field rfl rfl;(first|exact T.fl42_1|exact T.fl42_2|exact T.fl42_3))
        |(apply F_fieldS rfl rfl;(first|exact T.fl42_1|exact T.fl42_2|exact T.fl42_3);(focus (first|exact len_nil|(apply len_given;assumption)|(apply len_row;(focus ((repeat (first|exact mH|refine mT ?_));done)))|(apply len_isN;assumption)));(focus omega))
        |(apply F_idx rfl rfl rfl;exact T.sl28;(focus rfl);(focus (first|exact len_nil|(apply len_given;assumption)|(apply len_row;(focus ((repeat (first|exact mH|refine mT ?_));done)))|(apply len_isN;assumption)));(focus omega))
        |(apply F_idxZ rfl rfl rfl;exact T.sl28;(focus omega);(focus (first|exact len_nil|(apply len_given;assumption)|(apply len_row;(focus ((repeat (first|exact mH|refine mT ?_));done)))|(apply len_isN;assumption)));(focus omega))
        |(refine gLoad ?_;(first
            |(apply F_load1 rfl rfl;(focus ((repeat (first|exact mH|refine mT ?_));done));exact T.sc3;rfl;(focus (first|exact free0|exact free1)))
            |(apply F_loadAll rfl rfl;(focus ((repeat (first|exact mH|refine mT ?_));done));exact T.rw40;(focus (first|exact free0|exact free1)))
            |(apply F_loadP rfl rfl;(focus ((repeat (first|exact mH|refine mT ?_));done));exact T.rw40;(focus ((repeat (first|exact Take.nil|apply Take.here|apply Take.there));done));rfl;(focus (first|exact free0|exact free1)))
            |(apply F_loadS1 rfl rfl;exact T.sc3;(focus (first|exact rd_nil|(apply rd_given;(focus assumption);(focus (first|exact freeG0|exact freeG1)))|(apply rd_row;(focus ((repeat (first|exact mH|refine mT ?_));done));(focus (first|exact freeR0|exact freeR1)))));(focus (first|(apply at_cell;(focus (apply at_flat;(focus (intro _;rfl));(focus assumption)));rfl)|(apply at_cell0;(focus (apply at_flat;(focus (intro _;rfl));(focus assumption)));rfl)|(apply at_cell;(focus (apply at_mid0;(focus assumption)));rfl)|(apply at_cell0;(focus (apply at_mid0;(focus assumption)));rfl)|rfl)))
            |(apply F_loadSN rfl rfl;exact T.rw40;(focus (first|exact rd_nil|(apply rd_given;(focus assumption);(focus (first|exact freeG0|exact freeG1)))|(apply rd_row;(focus ((repeat (first|exact mH|refine mT ?_));done));(focus (first|exact freeR0|exact freeR1)))));(focus (first|(focus (apply at_flat;(focus (intro _;rfl));(focus assumption)))|exact at_self));rfl;rfl)
            |(apply F_loadSP rfl rfl;exact T.rw40;(focus (first|exact rd_nil|(apply rd_given;(focus assumption);(focus (first|exact freeG0|exact freeG1)))|(apply rd_row;(focus ((repeat (first|exact mH|refine mT ?_));done));(focus (first|exact freeR0|exact freeR1)))));(focus (apply at_flat;(focus (intro _;rfl));(focus assumption)));(focus ((repeat (first|exact Take.nil|apply Take.here|apply Take.there));done));rfl;rfl)))
        |(refine gCall ?_;(first
            |(show GoS _ _ _ _ _ _ _ (⟨_,_,_,.call ⟨.value (.func 25),_,_⟩,_⟩ :: _);refine S_callN (f := 25) rfl T.pf25 rfl (fun w hst => specNetOk_c _ _ w) rfl ?_)
            |(show GoS _ _ _ _ _ _ _ (⟨_,_,_,.call ⟨.value (.func 16),_,_⟩,_⟩ :: _);refine S_callN (f := 16) rfl T.pf16 rfl (fun w hst => l1In_c _ _ _ w) rfl ?_)
            |(apply F_len rfl rfl rfl;(focus exact ⟨_,_,by exact T.sl28⟩);(focus (first|exact len_nil|(apply len_given;assumption)|(apply len_row;(focus ((repeat (first|exact mH|refine mT ?_));done)))|(apply len_isN;assumption))))))
        |(refine gBin ?_;(first
            |(refine S_lss rfl rfl rfl ?_)
            |(refine S_gtr rfl rfl rfl ?_)
            |(refine S_add rfl rfl ?_ rfl ?_;(focus (unfold rng;omega)))))
        |(refine gPick ?_;(first
            |(refine S_pickT rfl rfl rfl ?_)
            |(refine S_pickF rfl rfl rfl ?_)))
        |(refine S_not rfl rfl ?_)
        |(refine S_done ?_)))
    |(refine gC ?_;(first
        |(refine C_seq ?_)
        |(refine gReg ?_;(first
            |(refine gReg (i := 0) ?_;refine C_plain [(0,0)] (by kernel_rfl) (s := [⟨0,none,_,_,_⟩]) rfl ?_)
            |(refine gReg (i := 1) ?_;refine C_plain [(0,0),(1,0),(2,0)] (by kernel_rfl) (s := [⟨0,none,_,_,_⟩,⟨0,none,_,_,_⟩,⟨0,none,_,_,_⟩]) rfl ?_)
            |(refine gReg (i := 2) ?_;refine C_plain [(0,0)] (by kernel_rfl) (s := [⟨0,none,_,_,_⟩]) rfl ?_)
            |(refine gReg (i := 3) ?_;refine C_plain [(0,0)] (by kernel_rfl) (s := [⟨0,none,_,_,_⟩]) rfl ?_)
            |(refine gReg (i := 4) ?_;refine C_plain [(0,0),(1,0),(2,0),(3,0)] (by kernel_rfl) (s := [⟨0,none,_,_,_⟩,⟨0,none,_,_,_⟩,⟨0,none,_,_,_⟩,⟨0,none,_,_,_⟩]) rfl ?_)
            |(refine gReg (i := 6) ?_;refine C_plain [(0,0),(1,0),(2,0),(3,0),(4,0),(5,2),(6,0),(7,0),(8,0),(9,0),(10,0),(11,0),(12,0),(13,2),(14,0),(15,0),(16,0),(17,0),(18,0),(19,0),(20,0),(21,0),(22,2),(23,0),(24,0)] (by kernel_rfl) (s := [⟨0,none,_,_,_⟩,⟨0,none,_,_,_⟩,⟨0,none,_,_,_⟩,⟨0,none,_,_,_⟩,⟨0,none,_,_,_⟩,⟨2,none,_,_,_⟩,⟨0,none,_,_,_⟩,⟨0,none,_,_,_⟩,⟨0,some (20,false),_,_,_⟩,⟨0,some (20,false),_,_,_⟩,⟨0,some (20,false),_,_,_⟩,⟨0,some (20,false),_,_,_⟩,⟨0,some (20,false),_,_,_⟩,⟨2,some (20,false),_,_,_⟩,⟨0,some (20,false),_,_,_⟩,⟨0,none,_,_,_⟩,⟨0,none,_,_,_⟩,⟨0,some (29,false),_,_,_⟩,⟨0,some (29,false),_,_,_⟩,⟨0,some (29,false),_,_,_⟩,⟨0,some (29,false),_,_,_⟩,⟨0,some (29,false),_,_,_⟩,⟨2,some (29,false),_,_,_⟩,⟨0,some (29,false),_,_,_⟩,⟨0,none,_,_,_⟩]) rfl ?_)
            |(refine gReg (i := 7) ?_;refine C_plain [(0,0)] (by kernel_rfl) (s := [⟨0,none,_,_,_⟩]) rfl ?_)
            |(refine gReg (i := 5) ?_;refine C_plain [(0,0),(1,0),(2,0)] (by kernel_rfl) (s := [⟨0,none,_,_,_⟩,⟨0,none,_,_,_⟩,⟨0,none,_,_,_⟩]) rfl ?_)
            |(refine gReg (i := 8) ?_;refine C_plain [(0,0)] (by kernel_rfl) (s := [⟨0,none,_,_,_⟩]) rfl ?_)))
        |(refine C_true rfl ?_)
        |(refine C_false rfl ?_)
        |(refine C_split rfl ?_ ?_ <;> (intro hb;(try simp only [decide_eq_true_eq] at hb);(try simp only [decide_eq_false_iff_not] at hb);(try simp only [Bool.not_eq_true'] at hb);(try simp only [Bool.not_eq_false'] at hb);(try (exfalso;first|contradiction|omega));(try (have hx := nthD (l := l) (k := k) hb))))
        |(refine C_skip ?_)
        |(refine C_exit ?_)
        |(refine C_ret ?_)
        |(refine C_block ?_)))
    |(refine gE ?_;(first
        |(refine E_then ?_)
        |(refine E_thenX ?_)
        |(refine E_thenR ?_)
        |(refine E_block ?_)
        |(refine E_blockY ?_)
        |(refine E_blockR ?_)
        |(refine E_calm ?_)
        |(refine E_blockX rfl ?_)
        |(apply E_ret1 rfl;(first|exact Res.tmp rfl|(apply R_cellAll rfl;(focus ((repeat (first|exact mH|refine mT ?_));done));exact T.rw40)|(apply R_cell1 rfl;(focus ((repeat (first|exact mH|refine mT ?_));done));exact T.sc3)))
        |(apply E_ret2 rfl;(first|exact Res.tmp rfl|(apply R_cellAll rfl;(focus ((repeat (first|exact mH|refine mT ?_));done));exact T.rw40)|(apply R_cell1 rfl;(focus ((repeat (first|exact mH|refine mT ?_));done));exact T.sc3));(first|exact Res.tmp rfl|(apply R_cellAll rfl;(focus ((repeat (first|exact mH|refine mT ?_));done));exact T.rw40)|(apply R_cell1 rfl;(focus ((repeat (first|exact mH|refine mT ?_));done));exact T.sc3)))
        | (apply E_ret3 rfl; (first | exact Res.tmp rfl | (apply R_cellAll rfl; (focus ((repeat (first | exact List.Mem.head _ | refine List.Mem.tail _ ?_)); done)); exact T.rw40) | (apply R_cell1 rfl; (focus ((repeat (first | exact List.Mem.head _ | refine List.Mem.tail _ ?_)); done)); exact T.sc3)); (first | exact Res.tmp rfl | (apply R_cellAll rfl; (focus ((repeat (first | exact List.Mem.head _ | refine List.Mem.tail _ ?_)); done)); exact T.rw40) | (apply R_cell1 rfl; (focus ((repeat (first | exact List.Mem.head _ | refine List.Mem.tail _ ?_)); done)); exact T.sc3)); (first | exact Res.tmp rfl | (apply R_cellAll rfl; (focus ((repeat (first | exact List.Mem.head _ | refine List.Mem.tail _ ?_)); done)); exact T.rw40) | (apply R_cell1 rfl; (focus ((repeat (first | exact List.Mem.head _ | refine List.Mem.tail _ ?_)); done)); exact T.sc3))))))
  all_goals first
    | (refine E_round (α := Nat) (k + 1) ?_ ?_ ?_ ?_
       · refine ⟨by omega, all_step ha ?_⟩
         simp [ruleAt, ruleOk, *]; done
       · omega
       · exact ⟨rfl, rfl, trivial⟩
       · exact List.nil_sublist _)
    | (refine retN ?_
       rw [aclOk_fail (k := k) (by assumption) (by simp [ruleAt, ruleOk, *]; done)]
       done)
    | (refine retN ?_
       have e : k = l.length := by omega
       subst e
       simp [aclOk, ha]; done)
    | (refine retN ?_
       have e : k = l.length := by omega
       subst e
       simp [aclOk, ha]; omega)
end Go.Proofs.Ytoabadliblkemaa

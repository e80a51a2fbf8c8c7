/- Packets: copied by the functions themselves; one hop on. -/
import Derived.Test.YtodhjpnfokkfeaaFragb
set_option linter.unusedSimpArgs false
set_option linter.unusedVariables false
namespace Go.Proofs.Ytodhjpnfokkfeaa
open Go Go.RowKit
attribute [local irreducible] Calls GoS GoC GoE IsFl IsSc IsRw IsSl IsEl IsSt IsFs sp Mem Rd LenOf szR
theorem cloneB_c (x : MSuint8) (w : World) (hx : Rds w (rwSuint8 x)) (hl : x.2.length ≤ 1048576) : Calls Try.prog 53 #[x.1] w (RetX (fun y : MSuint8 => y.2 = x.2) (fun y => y.1) (fun y => [.many (rwSuint8 y)]) w) := by
  obtain ⟨v, l⟩ := x
  have hm := Rds.head hx
  dsimp only at *
  refine enter (n := 8) (E := [(0, _)]) Try.func53 rfl rfl rfl rfl ?_
  repeat' (first
    |(refine gS ?_;(first
        |(refine S_move rfl rfl ?_)
        |(refine S_assign rfl rfl ?_)
        |(apply F_make0 rfl rfl rfl;exact T.el22;rfl;(focus omega);(focus (simp only [maxLen];omega));intro sv;(try (refine S_fact (row_one (v := sv) (by (focus ((repeat (first|exact mH|refine mT ?_));done)))) (fun hone => ?_))))
        |(refine gCall ?_;(first
            |(apply F_len rfl rfl rfl;(focus exact ⟨_,_,by exact T.sl22⟩);(focus (first|exact len_nil|(apply len_given;assumption)|(apply len_row;(focus ((repeat (first|exact mH|refine mT ?_));done)))|(apply len_isN;assumption))))
            |(apply F_append rfl rfl rfl rfl;exact T.el22;(focus (intro sv;(focus ((repeat (first|exact Upd.here|apply Upd.there));done))));(focus (first|exact rd_nil|(apply rd_given;(focus assumption);(focus (first|exact freeG0|exact freeG1)))|(apply rd_row;(focus ((repeat (first|exact mH|refine mT ?_));done));(focus (first|exact freeR0|exact freeR1)))));(focus (first|rfl|assumption|(apply all_flat;intro _ _;rfl)|(rw [List.append_nil];assumption)|(simp only [List.append_nil,List.all_cons,List.all_nil,Bool.and_true,Bool.true_and,one_int,one_bool,one_string,one_slice,one_pointer, *];done)|simp));(first|exact okst2|exact okst1|exact okst1');(focus (simp only [maxLen];first|omega|(simp only [List.length_take,List.length_drop];omega)));(focus (first|omega|(simp only [List.length_take,List.length_drop];omega)));intro sv;(try (refine S_fact (row_one (v := sv) (by (focus ((repeat (first|exact mH|refine mT ?_));done)))) (fun hone => ?_))))))
        |(refine S_done ?_)))
    |(refine gC ?_;(first
        |(refine C_seq ?_)
        |(refine gReg ?_;(first
            |(refine gReg (i := 0) ?_;refine C_plain [(0,0)] (by kernel_rfl) (s := [⟨0,none,_,_,_⟩]) rfl ?_)
            |(refine gReg (i := 1) ?_;refine C_plain [(0,0),(1,0),(2,2),(3,0),(4,2),(5,0)] (by kernel_rfl) (s := [⟨0,none,_,_,_⟩,⟨0,none,_,_,_⟩,⟨2,none,_,_,_⟩,⟨0,none,_,_,_⟩,⟨2,none,_,_,_⟩,⟨0,none,_,_,_⟩]) rfl ?_)))
        |(refine C_ret ?_)))
    |(refine gE ?_;(first
        |(refine E_then ?_)
        |(apply E_ret1 rfl;(first|exact Res.tmp rfl|(apply R_cellAll rfl;(focus ((repeat (first|exact mH|refine mT ?_));done));fail)|(apply R_cell1 rfl;(focus ((repeat (first|exact mH|refine mT ?_));done));fail))))))
  refine retX (sv, l) rfl rfl ?_
  rw [Nat.zero_add, List.nil_append]
  exact entA
theorem copyPacket_c (x : MFragPacket) (hl : x.2.2.2.2.2.2.2.2.2.length ≤ 1048576) (w : World) (hx : Rds w (rwFragPacket x)) : Calls Try.prog 52 #[.agg (clFragPacket x).toArray] w (RetX (fun y : MFragPacket => ctFragPacket y = ctFragPacket x) (fun y => .agg (clFragPacket y).toArray) (fun y => [.many (rwFragPacket y)]) w) := by
  have hx8 : Rds w (rwSuint8 x.2.2.2.2.2.2.2.2) := hx
  have hox := oneFragPacket hx
  refine enter (n := 8) (E := [(0, _)]) Try.func52 rfl rfl rfl rfl ?_
  repeat' (first
    |(refine gS ?_;(first
        |(apply F_field rfl rfl;exact T.fl24_8)
        |(refine gLoad ?_;(first
            |(apply F_load1 rfl rfl;(focus ((repeat (first|exact mH|refine mT ?_));done));exact T.sc22;rfl;(focus (first|exact free0|exact free1)))
            |(apply F_loadAll rfl rfl;(focus ((repeat (first|exact mH|refine mT ?_));done));exact T.rw24;(focus (first|exact free0|exact free1)))))
        |(refine gStore ?_;(first
            |(apply F_store1 rfl rfl;(focus (first|rfl|assumption));exact T.sc22;(focus ((repeat (first|exact Upd.here|apply Upd.there));done));(focus ((repeat (first|exact SetSeg.nil|apply SetSeg.here|apply SetSeg.there));done));(first|exact okst2|exact okst1|exact okst1'))
            |(apply F_storeN rfl rfl;(focus (first|rfl|assumption|(simp only [List.append_nil,List.all_cons,List.all_nil,Bool.and_true,Bool.true_and,one_int,one_bool,one_string,one_slice,one_pointer, *];done)));exact T.rw24;(focus ((repeat (first|exact Upd.here|apply Upd.there));done));(focus ((repeat (first|exact SetSeg.nil|apply SetSeg.here|apply SetSeg.there));done));(first|exact okst2|exact okst1|exact okst1'))))
        |(refine gCall ?_;(first
            |(show GoS _ _ _ _ _ _ _ (⟨_,_,_,.call ⟨.value (.func 53),_,_⟩,_⟩ :: _);refine S_callX (f := 53) rfl T.pf53 rfl (fun w hst => cloneB_c x.2.2.2.2.2.2.2.2 w (by first|(refine Rds.given hst ?_;assumption)|(apply Rds.many hst;(focus ((repeat (first|exact mH|refine mT ?_));done)))|(apply Rds.row hst;(focus ((repeat (first|exact mH|refine mT ?_));done)))) hl) rfl (fun zz hzz => ?_);simp only [List.cons_append,List.nil_append];revert hzz;revert zz;intro y8 hy8;refine S_fact (fun w hs => Rds.one1 (Rds.many hs (by (focus ((repeat (first|exact mH|refine mT ?_));done))))) (fun hone => ?_))))
        |(refine S_box rfl rfl rfl ?_;intro kb)
        |(apply S_alloc rfl (hd := rfl);exact T.zc24;intro kb)
        |(refine S_done ?_)))
    |(refine gC ?_;(first
        |(refine C_seq ?_)
        |(refine gReg ?_;(first
            |(refine gReg (i := 0) ?_;refine C_plain [(0,2),(1,2)] (by kernel_rfl) (s := [⟨2,none,_,_,_⟩,⟨2,none,_,_,_⟩]) rfl ?_)
            |(refine gReg (i := 1) ?_;refine C_plain [(0,0),(1,0),(2,2),(3,0),(4,2)] (by kernel_rfl) (s := [⟨0,none,_,_,_⟩,⟨0,none,_,_,_⟩,⟨2,none,_,_,_⟩,⟨0,none,_,_,_⟩,⟨2,none,_,_,_⟩]) rfl ?_)
            |(refine gReg (i := 2) ?_;refine C_plain [(0,0),(1,2)] (by kernel_rfl) (s := [⟨0,none,_,_,_⟩,⟨2,none,_,_,_⟩]) rfl ?_)))
        |(refine C_ret ?_)))
    |(refine gE ?_;(first
        |(refine E_then ?_)
        |(apply E_ret1 rfl;(first|exact Res.tmp rfl|(apply R_cellAll rfl;(focus ((repeat (first|exact mH|refine mT ?_));done));exact T.rw24)|(apply R_cell1 rfl;(focus ((repeat (first|exact mH|refine mT ?_));done));exact T.sc22))))))
  refine retX (x.1, x.2.1, x.2.2.1, x.2.2.2.1, x.2.2.2.2.1, x.2.2.2.2.2.1, x.2.2.2.2.2.2.1, x.2.2.2.2.2.2.2.1, y8) ?_ rfl ?_
  · simp only [ctFragPacket, hy8]
  · exact entA
theorem l11Copy_c (x : MFragPacket) (hl : x.2.2.2.2.2.2.2.2.2.length ≤ 1048576) (w : World) (hx : Rds w (rwFragPacket x)) : Calls Try.prog 55 #[.agg (clFragPacket x).toArray] w (RetX (fun y : MFragPacket => ctFragPacket y = ctFragPacket x) (fun y => .agg (clFragPacket y).toArray) (fun y => [.many (rwFragPacket y)]) w) := by
  have hm := Rds.head hx
  refine enter (n := 9) (E := [(0, _)]) Try.func55 rfl rfl rfl rfl ?_
  repeat' (first
    |(refine gS ?_;(first
        |(apply F_field rfl rfl;exact T.fl24_8)
        |(apply F_bs0 rfl rfl;exact T.el22;rfl;intro sv;(try (refine S_fact (row_one (v := sv) (by (focus ((repeat (first|exact mH|refine mT ?_));done)))) (fun hone => ?_))))
        |(refine gLoad ?_;(first
            |(apply F_load1 rfl rfl;(focus ((repeat (first|exact mH|refine mT ?_));done));exact T.sc22;rfl;(focus (first|exact free0|exact free1)))
            |(apply F_loadAll rfl rfl;(focus ((repeat (first|exact mH|refine mT ?_));done));exact T.rw24;(focus (first|exact free0|exact free1)))))
        |(refine gStore ?_;(first
            |(apply F_store1 rfl rfl;(focus (first|rfl|assumption));exact T.sc22;(focus ((repeat (first|exact Upd.here|apply Upd.there));done));(focus ((repeat (first|exact SetSeg.nil|apply SetSeg.here|apply SetSeg.there));done));(first|exact okst2|exact okst1|exact okst1'))
            |(apply F_storeN rfl rfl;(focus (first|rfl|assumption|(simp only [List.append_nil,List.all_cons,List.all_nil,Bool.and_true,Bool.true_and,one_int,one_bool,one_string,one_slice,one_pointer, *];done)));exact T.rw24;(focus ((repeat (first|exact Upd.here|apply Upd.there));done));(focus ((repeat (first|exact SetSeg.nil|apply SetSeg.here|apply SetSeg.there));done));(first|exact okst2|exact okst1|exact okst1'))))
        |(refine gCall ?_;(first
            |(apply F_append rfl rfl rfl rfl;exact T.el22;(focus (intro sv;(focus ((repeat (first|exact Upd.here|apply Upd.there));done))));(focus (first|exact rd_nil|(apply rd_given;(focus assumption);(focus (first|exact freeG0|exact freeG1)))|(apply rd_row;(focus ((repeat (first|exact mH|refine mT ?_));done));(focus (first|exact freeR0|exact freeR1)))));(focus (first|rfl|assumption|(apply all_flat;intro _ _;rfl)|(rw [List.append_nil];assumption)|(simp only [List.append_nil,List.all_cons,List.all_nil,Bool.and_true,Bool.true_and,one_int,one_bool,one_string,one_slice,one_pointer, *];done)|simp));(first|exact okst2|exact okst1|exact okst1');(focus (simp only [maxLen];first|omega|(simp only [List.length_take,List.length_drop];omega)));(focus (first|omega|(simp only [List.length_take,List.length_drop];omega)));intro sv;(try (refine S_fact (row_one (v := sv) (by (focus ((repeat (first|exact mH|refine mT ?_));done)))) (fun hone => ?_))))))
        |(refine S_box rfl rfl rfl ?_;intro kb)
        |(apply S_alloc rfl (hd := rfl);exact T.zc24;intro kb)
        |(refine S_done ?_)))
    |(refine gC ?_;(first
        |(refine C_seq ?_)
        |(refine gReg ?_;(first
            |(refine gReg (i := 0) ?_;refine C_plain [(0,2),(1,2)] (by kernel_rfl) (s := [⟨2,none,_,_,_⟩,⟨2,none,_,_,_⟩]) rfl ?_)
            |(refine gReg (i := 1) ?_;refine C_plain [(0,2),(1,0),(2,0),(3,2),(4,0),(5,2)] (by kernel_rfl) (s := [⟨2,none,_,_,_⟩,⟨0,none,_,_,_⟩,⟨0,none,_,_,_⟩,⟨2,none,_,_,_⟩,⟨0,none,_,_,_⟩,⟨2,none,_,_,_⟩]) rfl ?_)
            |(refine gReg (i := 2) ?_;refine C_plain [(0,0),(1,2)] (by kernel_rfl) (s := [⟨0,none,_,_,_⟩,⟨2,none,_,_,_⟩]) rfl ?_)))
        |(refine C_ret ?_)))
    |(refine gE ?_;(first
        |(refine E_then ?_)
        |(apply E_ret1 rfl;(first|exact Res.tmp rfl|(apply R_cellAll rfl;(focus ((repeat (first|exact mH|refine mT ?_));done));exact T.rw24)|(apply R_cell1 rfl;(focus ((repeat (first|exact mH|refine mT ?_));done));exact T.sc22))))))
  refine retX (x.1, x.2.1, x.2.2.1, x.2.2.2.1, x.2.2.2.2.1, x.2.2.2.2.2.1, x.2.2.2.2.2.2.1, x.2.2.2.2.2.2.2.1, (sv, x.2.2.2.2.2.2.2.2.2)) ?_ rfl ?_
  · simp only [ctFragPacket]
  · rw [Nat.zero_add, List.nil_append]
    exact entA
def zeroP : MFragPacket := (0, 0, 0, 0, 0, false, 0, false, (.slice none 0 0, []))
def hopC (c : CFragPacket) : CFragPacket × Int :=
  if fragOk c then
    if c.2.2.2.2.1 = 1 then (ctFragPacket zeroP, 2) else ((c.1, c.2.1, c.2.2.1, c.2.2.2.1, c.2.2.2.2.1 - 1, c.2.2.2.2.2), 0)
  else (ctFragPacket zeroP, 1)
end Go.Proofs.Ytodhjpnfokkfeaa

/- Packets: whether one is ok, its size, whether two are alike, one hop on. -/
import Derived.Test.YtodhjpnfokkfeaaFraga
set_option linter.unusedSimpArgs false
set_option linter.unusedVariables false
namespace Go.Proofs.Ytodhjpnfokkfeaa
open Go Go.RowKit
attribute [local irreducible] Calls GoS GoC GoE IsFl IsSc IsRw IsSl IsEl IsSt IsFs sp Mem Rd LenOf szR
def fragOk : CFragPacket → Bool
  |(a0,a1,a2,a3,a4,a5,a6,a7,l) => inB a0 0 65535 && inB a1 0 65535 && inB a2 1 7 && inB a3 0 255 && inB a4 1 64 && inB a6 0 128 && decide (a6 % 4 = 0) && decide (a6 + (l.length : Int) ≤ 128) && (!a7 || (!(decide ((l.length : Int) = 0)) && decide ((l.length : Int) % 4 = 0))) && (!a5 || (decide (a6 = 0) && !a7))
theorem end_c (x : MFragPacket) (h : 0 ≤ x.2.2.2.2.2.2.1 ∧ x.2.2.2.2.2.2.1 ≤ 128) (hl : x.2.2.2.2.2.2.2.2.2.length ≤ 1048576) (w : World) (hx : Rds w (rwFragPacket x)) : Calls Try.prog 60 #[.agg (clFragPacket x).toArray] w (RetN (.int .i64 (x.2.2.2.2.2.2.1 + (x.2.2.2.2.2.2.2.2.2.length : Int))) w) := by
  have hm := Rds.head hx
  refine enter (n := 9) (E := [(0, _)]) Try.func60 rfl rfl rfl rfl ?_
  repeat' (first
    |(refine gS ?_;(first
        |(refine S_assign rfl rfl ?_)
        |(apply F_field rfl rfl;(first|exact T.fl24_6|exact T.fl24_8))
        |(refine gLoad ?_;(first
            |(apply F_load1 rfl rfl;(focus ((repeat (first|exact mH|refine mT ?_));done));(first|exact T.sc3|exact T.sc22);rfl;(focus (first|exact free0|exact free1)))))
        |(refine gCall ?_;(first
            |(apply F_len rfl rfl rfl;(focus exact ⟨_,_,by exact T.sl22⟩);(focus (first|exact len_nil|(apply len_given;assumption)|(apply len_row;(focus ((repeat (first|exact mH|refine mT ?_));done)))|(apply len_isN;assumption))))))
        |(refine gBin ?_;(first
            |(refine S_add rfl rfl ?_ rfl ?_;(focus (unfold rng;omega)))))
        |(refine S_box rfl rfl rfl ?_;intro kb)
        |(refine S_done ?_)))
    |(refine gC ?_;(first
        |(refine C_seq ?_)
        |(refine gReg ?_;(first
            |(refine gReg (i := 0) ?_;refine C_plain [(0,2),(1,0)] (by kernel_rfl) (s := [⟨2,none,_,_,_⟩,⟨0,none,_,_,_⟩]) rfl ?_)
            |(refine gReg (i := 1) ?_;refine C_plain [(0,0),(1,0),(2,0),(3,0),(4,0),(5,0),(6,0)] (by kernel_rfl) (s := [⟨0,none,_,_,_⟩,⟨0,none,_,_,_⟩,⟨0,none,_,_,_⟩,⟨0,none,_,_,_⟩,⟨0,none,_,_,_⟩,⟨0,none,_,_,_⟩,⟨0,none,_,_,_⟩]) rfl ?_)))
        |(refine C_ret ?_)))
    |(refine gE ?_;(first
        |(refine E_then ?_)
        |(apply E_ret1 rfl;(first|exact Res.tmp rfl|(apply R_cellAll rfl;(focus ((repeat (first|exact mH|refine mT ?_));done));fail)|(apply R_cell1 rfl;(focus ((repeat (first|exact mH|refine mT ?_));done));(first|exact T.sc3|exact T.sc22)))))))
  all_goals (refine retN ?_; rfl)
theorem implFragOk_c (x : MFragPacket) (hl : x.2.2.2.2.2.2.2.2.2.length ≤ 1048576) (w : World) (hx : Rds w (rwFragPacket x)) : Calls Try.prog 20 #[.agg (clFragPacket x).toArray] w (RetN (.bool (fragOk (ctFragPacket x))) w) := by
  have hm := Rds.head hx
  refine enter (n := 77) (E := [(0, _)]) Try.func20 rfl rfl rfl rfl ?_
  repeat' (first
    |(refine gS ?_;(first
        |(refine gGuard ?_;(first
            |(refine S_on rfl ?_)
            |(refine S_off rfl rfl rfl ?_)
            |(refine S_offU rfl rfl ?_)
            |(refine S_gsplit rfl ?_ ?_ <;> (intro hb;(try simp only [decide_eq_true_eq] at hb);(try simp only [decide_eq_false_iff_not] at hb);(try simp only [Bool.not_eq_true'] at hb);(try simp only [Bool.not_eq_false'] at hb);(try (exfalso;first|contradiction|omega));(try (have hin := inB_t hb))))))
        |(refine S_move rfl rfl ?_)
        |(refine S_assign rfl rfl ?_)
        |(apply F_field rfl rfl;(first|exact T.fl24_0|exact T.fl24_1|exact T.fl24_2|exact T.fl24_3|exact T.fl24_4|exact T.fl24_5|exact T.fl24_6|exact T.fl24_7|exact T.fl24_8))
        |(refine gLoad ?_;(first
            |(apply F_load1 rfl rfl;(focus ((repeat (first|exact mH|refine mT ?_));done));(first|exact T.sc3|exact T.sc4|exact T.sc22);rfl;(focus (first|exact free0|exact free1)))
            |(apply F_loadAll rfl rfl;(focus ((repeat (first|exact mH|refine mT ?_));done));exact T.rw24;(focus (first|exact free0|exact free1)))))
        |(refine gCall ?_;(first
            |(show GoS _ _ _ _ _ _ _ (⟨_,_,_,.call ⟨.value (.func 57),_,_⟩,_⟩ :: _);refine S_callN (f := 57) rfl T.pf57 rfl (fun w hst => within_c _ _ _ w) rfl ?_)
            |(show GoS _ _ _ _ _ _ _ (⟨_,_,_,.call ⟨.value (.func 60),_,_⟩,_⟩ :: _);refine S_callN (f := 60) rfl T.pf60 rfl (fun w hst => end_c _ (by omega) hl w (by first|(refine Rds.given hst ?_;assumption)|(apply Rds.many hst;(focus ((repeat (first|exact mH|refine mT ?_));done)))|(apply Rds.row hst;(focus ((repeat (first|exact mH|refine mT ?_));done))))) rfl ?_)
            |(apply F_len rfl rfl rfl;(focus exact ⟨_,_,by exact T.sl22⟩);(focus (first|exact len_nil|(apply len_given;assumption)|(apply len_row;(focus ((repeat (first|exact mH|refine mT ?_));done)))|(apply len_isN;assumption))))))
        |(refine gBin ?_;(first
            |(refine S_gtr rfl rfl rfl ?_)
            |(refine S_eql rfl rfl rfl ?_)
            |(refine S_neq rfl rfl rfl ?_)
            |(refine S_rem rfl rfl ?_ ?_ rfl ?_;(focus omega);(focus omega))))
        |(refine gPick ?_;(first
            |(refine S_pickT rfl rfl rfl ?_)
            |(refine S_pickF rfl rfl rfl ?_)))
        |(refine S_box rfl rfl rfl ?_;intro kb)
        |(refine S_not rfl rfl ?_)
        |(refine S_done ?_)))
    |(refine gC ?_;(first
        |(refine C_seq ?_)
        |(refine gReg ?_;(first
            |(refine gReg (i := 0) ?_;refine C_plain [(0,2),(1,0)] (by kernel_rfl) (s := [⟨2,none,_,_,_⟩,⟨0,none,_,_,_⟩]) rfl ?_)
            |(refine gReg (i := 1) ?_;refine C_plain [(0,0),(1,0),(2,2),(3,0),(4,0),(5,0),(6,0),(7,2),(8,0),(9,0),(10,0),(11,0),(12,0),(13,2),(14,0),(15,0),(16,0)] (by kernel_rfl) (s := [⟨0,none,_,_,_⟩,⟨0,none,_,_,_⟩,⟨2,none,_,_,_⟩,⟨0,none,_,_,_⟩,⟨0,none,_,_,_⟩,⟨0,some (8,false),_,_,_⟩,⟨0,some (8,false),_,_,_⟩,⟨2,some (8,false),_,_,_⟩,⟨0,some (8,false),_,_,_⟩,⟨0,none,_,_,_⟩,⟨0,none,_,_,_⟩,⟨0,some (14,false),_,_,_⟩,⟨0,some (14,false),_,_,_⟩,⟨2,some (14,false),_,_,_⟩,⟨0,some (14,false),_,_,_⟩,⟨0,none,_,_,_⟩,⟨0,none,_,_,_⟩]) rfl ?_)
            |(refine gReg (i := 2) ?_;refine C_plain [(0,0)] (by kernel_rfl) (s := [⟨0,none,_,_,_⟩]) rfl ?_)
            |(refine gReg (i := 3) ?_;refine C_plain [(0,0),(1,0),(2,2),(3,0),(4,0),(5,0),(6,0),(7,2),(8,0),(9,0),(10,0),(11,0),(12,0),(13,2),(14,0),(15,0),(16,0)] (by kernel_rfl) (s := [⟨0,none,_,_,_⟩,⟨0,none,_,_,_⟩,⟨2,none,_,_,_⟩,⟨0,none,_,_,_⟩,⟨0,none,_,_,_⟩,⟨0,some (25,false),_,_,_⟩,⟨0,some (25,false),_,_,_⟩,⟨2,some (25,false),_,_,_⟩,⟨0,some (25,false),_,_,_⟩,⟨0,none,_,_,_⟩,⟨0,none,_,_,_⟩,⟨0,some (31,false),_,_,_⟩,⟨0,some (31,false),_,_,_⟩,⟨2,some (31,false),_,_,_⟩,⟨0,some (31,false),_,_,_⟩,⟨0,none,_,_,_⟩,⟨0,none,_,_,_⟩]) rfl ?_)
            |(refine gReg (i := 4) ?_;refine C_plain [(0,0)] (by kernel_rfl) (s := [⟨0,none,_,_,_⟩]) rfl ?_)
            |(refine gReg (i := 5) ?_;refine C_plain [(0,0),(1,0),(2,0),(3,0),(4,0),(5,0),(6,2),(7,0),(8,0),(9,0),(10,0),(11,0),(12,0),(13,0),(14,0),(15,0),(16,0),(17,0),(18,0),(19,0),(20,0),(21,0),(22,0),(23,0),(24,0),(25,0),(26,0)] (by kernel_rfl) (s := [⟨0,none,_,_,_⟩,⟨0,none,_,_,_⟩,⟨0,none,_,_,_⟩,⟨0,none,_,_,_⟩,⟨0,none,_,_,_⟩,⟨0,some (42,false),_,_,_⟩,⟨2,some (42,false),_,_,_⟩,⟨0,some (42,false),_,_,_⟩,⟨0,none,_,_,_⟩,⟨0,none,_,_,_⟩,⟨0,some (47,false),_,_,_⟩,⟨0,some (47,false),_,_,_⟩,⟨0,some (47,false),_,_,_⟩,⟨0,some (50,true),_,_,_⟩,⟨0,some (50,true),_,_,_⟩,⟨0,some (50,true),_,_,_⟩,⟨0,some (50,true),_,_,_⟩,⟨0,some (50,true),_,_,_⟩,⟨0,some (55,false),_,_,_⟩,⟨0,some (55,false),_,_,_⟩,⟨0,some (55,false),_,_,_⟩,⟨0,some (55,false),_,_,_⟩,⟨0,some (55,false),_,_,_⟩,⟨0,some (50,true),_,_,_⟩,⟨0,some (47,false),_,_,_⟩,⟨0,none,_,_,_⟩,⟨0,none,_,_,_⟩]) rfl ?_)
            |(refine gReg (i := 6) ?_;refine C_plain [(0,0)] (by kernel_rfl) (s := [⟨0,none,_,_,_⟩]) rfl ?_)
            |(refine gReg (i := 7) ?_;refine C_plain [(0,0),(1,0),(2,0),(3,0),(4,0),(5,0),(6,0),(7,0),(8,0),(9,0),(10,0),(11,0),(12,0),(13,0)] (by kernel_rfl) (s := [⟨0,none,_,_,_⟩,⟨0,none,_,_,_⟩,⟨0,none,_,_,_⟩,⟨0,none,_,_,_⟩,⟨0,some (67,false),_,_,_⟩,⟨0,some (67,false),_,_,_⟩,⟨0,some (67,false),_,_,_⟩,⟨0,some (67,false),_,_,_⟩,⟨0,some (71,true),_,_,_⟩,⟨0,some (71,true),_,_,_⟩,⟨0,some (71,true),_,_,_⟩,⟨0,some (67,false),_,_,_⟩,⟨0,none,_,_,_⟩,⟨0,none,_,_,_⟩]) rfl ?_)))
        |(refine C_true rfl ?_)
        |(refine C_false rfl ?_)
        |(refine C_split rfl ?_ ?_ <;> (intro hb;(try simp only [decide_eq_true_eq] at hb);(try simp only [decide_eq_false_iff_not] at hb);(try simp only [Bool.not_eq_true'] at hb);(try simp only [Bool.not_eq_false'] at hb);(try (exfalso;first|contradiction|omega));(try (have hin := inB_t hb))))
        |(refine C_skip ?_)
        |(refine C_ret ?_)
        |(refine C_block ?_)))
    |(refine gE ?_;(first
        |(refine E_then ?_)
        |(refine E_thenR ?_)
        |(refine E_block ?_)
        |(refine E_blockR ?_)
        |(apply E_ret1 rfl;(first|exact Res.tmp rfl|(apply R_cellAll rfl;(focus ((repeat (first|exact mH|refine mT ?_));done));exact T.rw24)|(apply R_cell1 rfl;(focus ((repeat (first|exact mH|refine mT ?_));done));(first|exact T.sc3|exact T.sc4|exact T.sc22)))))))
  all_goals (refine retN ?_; first | (simp [fragOk, ctFragPacket, *]; done) | (simp_all [fragOk, ctFragPacket]; done) | (simp_all [fragOk, ctFragPacket]; omega) | (simp_all [fragOk, ctFragPacket]; intro hz; exfalso; have hz2 := of_decide_eq_true hz; omega))
theorem specFragOk_c (x : MFragPacket) (hl : x.2.2.2.2.2.2.2.2.2.length ≤ 1048576) (w : World) (hx : Rds w (rwFragPacket x)) : Calls Try.prog 22 #[.agg (clFragPacket x).toArray] w (RetN (.bool (fragOk (ctFragPacket x))) w) := by
  have hm := Rds.head hx
  refine enter (n := 78) (E := [(0, _)]) Try.func22 rfl rfl rfl rfl ?_
  repeat' (first
    |(refine gS ?_;(first
        |(refine gGuard ?_;(first
            |(refine S_on rfl ?_)
            |(refine S_off rfl rfl rfl ?_)
            |(refine S_offU rfl rfl ?_)
            |(refine S_gsplit rfl ?_ ?_ <;> (intro hb;(try simp only [decide_eq_true_eq] at hb);(try simp only [decide_eq_false_iff_not] at hb);(try simp only [Bool.not_eq_true'] at hb);(try simp only [Bool.not_eq_false'] at hb);(try (exfalso;first|contradiction|omega));(try (have hin := inB_t hb))))))
        |(refine S_move rfl rfl ?_)
        |(refine S_assign rfl rfl ?_)
        |(apply F_field rfl rfl;(first|exact T.fl24_0|exact T.fl24_1|exact T.fl24_2|exact T.fl24_3|exact T.fl24_4|exact T.fl24_5|exact T.fl24_6|exact T.fl24_7|exact T.fl24_8))
        |(refine gLoad ?_;(first
            |(apply F_load1 rfl rfl;(focus ((repeat (first|exact mH|refine mT ?_));done));(first|exact T.sc3|exact T.sc4|exact T.sc22);rfl;(focus (first|exact free0|exact free1)))))
        |(refine gCall ?_;(first
            |(show GoS _ _ _ _ _ _ _ (⟨_,_,_,.call ⟨.value (.func 69),_,_⟩,_⟩ :: _);refine S_callN (f := 69) rfl T.pf69 rfl (fun w hst => l1In_c _ _ _ w) rfl ?_)
            |(apply F_len rfl rfl rfl;(focus exact ⟨_,_,by exact T.sl22⟩);(focus (first|exact len_nil|(apply len_given;assumption)|(apply len_row;(focus ((repeat (first|exact mH|refine mT ?_));done)))|(apply len_isN;assumption))))))
        |(refine gBin ?_;(first
            |(refine S_gtr rfl rfl rfl ?_)
            |(refine S_eql rfl rfl rfl ?_)
            |(refine S_neq rfl rfl rfl ?_)
            |(refine S_sub rfl rfl ?_ rfl ?_;(focus (unfold rng;omega)))
            |(refine S_rem rfl rfl ?_ ?_ rfl ?_;(focus omega);(focus omega))))
        |(refine gPick ?_;(first
            |(refine S_pickT rfl rfl rfl ?_)
            |(refine S_pickF rfl rfl rfl ?_)))
        |(refine S_box rfl rfl rfl ?_;intro kb)
        |(refine S_not rfl rfl ?_)
        |(refine S_done ?_)))
    |(refine gC ?_;(first
        |(refine C_seq ?_)
        |(refine gReg ?_;(first
            |(refine gReg (i := 0) ?_;refine C_plain [(0,2),(1,0)] (by kernel_rfl) (s := [⟨2,none,_,_,_⟩,⟨0,none,_,_,_⟩]) rfl ?_)
            |(refine gReg (i := 1) ?_;refine C_plain [(0,0),(1,0),(2,2),(3,0),(4,0),(5,0),(6,0),(7,2),(8,0),(9,0),(10,0),(11,0),(12,0),(13,2),(14,0),(15,0),(16,0),(17,0),(18,0),(19,2),(20,0),(21,0),(22,0),(23,0),(24,0),(25,2),(26,0),(27,0)] (by kernel_rfl) (s := [⟨0,none,_,_,_⟩,⟨0,none,_,_,_⟩,⟨2,none,_,_,_⟩,⟨0,none,_,_,_⟩,⟨0,none,_,_,_⟩,⟨0,some (7,false),_,_,_⟩,⟨0,some (7,false),_,_,_⟩,⟨2,some (7,false),_,_,_⟩,⟨0,some (7,false),_,_,_⟩,⟨0,none,_,_,_⟩,⟨0,none,_,_,_⟩,⟨0,some (13,false),_,_,_⟩,⟨0,some (13,false),_,_,_⟩,⟨2,some (13,false),_,_,_⟩,⟨0,some (13,false),_,_,_⟩,⟨0,none,_,_,_⟩,⟨0,none,_,_,_⟩,⟨0,some (19,false),_,_,_⟩,⟨0,some (19,false),_,_,_⟩,⟨2,some (19,false),_,_,_⟩,⟨0,some (19,false),_,_,_⟩,⟨0,none,_,_,_⟩,⟨0,none,_,_,_⟩,⟨0,some (25,false),_,_,_⟩,⟨0,some (25,false),_,_,_⟩,⟨2,some (25,false),_,_,_⟩,⟨0,some (25,false),_,_,_⟩,⟨0,none,_,_,_⟩]) rfl ?_)
            |(refine gReg (i := 2) ?_;refine C_plain [(0,0)] (by kernel_rfl) (s := [⟨0,none,_,_,_⟩]) rfl ?_)
            |(refine gReg (i := 3) ?_;refine C_plain [(0,0),(1,0),(2,2),(3,0),(4,0),(5,0),(6,0),(7,0),(8,0),(9,0),(10,0),(11,0),(12,0),(13,0),(14,0),(15,0),(16,0),(17,0),(18,0)] (by kernel_rfl) (s := [⟨0,none,_,_,_⟩,⟨0,none,_,_,_⟩,⟨2,none,_,_,_⟩,⟨0,none,_,_,_⟩,⟨0,none,_,_,_⟩,⟨0,some (35,false),_,_,_⟩,⟨0,some (35,false),_,_,_⟩,⟨0,some (35,false),_,_,_⟩,⟨0,some (35,false),_,_,_⟩,⟨0,none,_,_,_⟩,⟨0,none,_,_,_⟩,⟨0,some (41,false),_,_,_⟩,⟨0,some (41,false),_,_,_⟩,⟨0,some (41,false),_,_,_⟩,⟨0,some (41,false),_,_,_⟩,⟨0,some (41,false),_,_,_⟩,⟨0,some (41,false),_,_,_⟩,⟨0,some (41,false),_,_,_⟩,⟨0,none,_,_,_⟩]) rfl ?_)
            |(refine gReg (i := 4) ?_;refine C_plain [(0,0)] (by kernel_rfl) (s := [⟨0,none,_,_,_⟩]) rfl ?_)
            |(refine gReg (i := 5) ?_;refine C_plain [(0,0),(1,0),(2,0),(3,0),(4,0),(5,0),(6,0),(7,0),(8,0),(9,0),(10,0),(11,0),(12,0),(13,0),(14,0)] (by kernel_rfl) (s := [⟨0,none,_,_,_⟩,⟨0,none,_,_,_⟩,⟨0,none,_,_,_⟩,⟨0,some (52,true),_,_,_⟩,⟨0,some (52,true),_,_,_⟩,⟨0,some (52,true),_,_,_⟩,⟨0,some (52,true),_,_,_⟩,⟨0,some (52,true),_,_,_⟩,⟨0,some (57,false),_,_,_⟩,⟨0,some (57,false),_,_,_⟩,⟨0,some (57,false),_,_,_⟩,⟨0,some (57,false),_,_,_⟩,⟨0,some (57,false),_,_,_⟩,⟨0,some (52,true),_,_,_⟩,⟨0,none,_,_,_⟩]) rfl ?_)
            |(refine gReg (i := 6) ?_;refine C_plain [(0,0)] (by kernel_rfl) (s := [⟨0,none,_,_,_⟩]) rfl ?_)
            |(refine gReg (i := 7) ?_;refine C_plain [(0,0),(1,0),(2,0),(3,0),(4,0),(5,0),(6,0),(7,0),(8,0),(9,0),(10,0),(11,0),(12,0),(13,0)] (by kernel_rfl) (s := [⟨0,none,_,_,_⟩,⟨0,none,_,_,_⟩,⟨0,none,_,_,_⟩,⟨0,none,_,_,_⟩,⟨0,some (68,false),_,_,_⟩,⟨0,some (68,false),_,_,_⟩,⟨0,some (68,false),_,_,_⟩,⟨0,some (68,false),_,_,_⟩,⟨0,some (72,true),_,_,_⟩,⟨0,some (72,true),_,_,_⟩,⟨0,some (72,true),_,_,_⟩,⟨0,some (68,false),_,_,_⟩,⟨0,none,_,_,_⟩,⟨0,none,_,_,_⟩]) rfl ?_)))
        |(refine C_true rfl ?_)
        |(refine C_false rfl ?_)
        |(refine C_split rfl ?_ ?_ <;> (intro hb;(try simp only [decide_eq_true_eq] at hb);(try simp only [decide_eq_false_iff_not] at hb);(try simp only [Bool.not_eq_true'] at hb);(try simp only [Bool.not_eq_false'] at hb);(try (exfalso;first|contradiction|omega));(try (have hin := inB_t hb))))
        |(refine C_skip ?_)
        |(refine C_ret ?_)))
    |(refine gE ?_;(first
        |(refine E_then ?_)
        |(refine E_thenR ?_)
        |(apply E_ret1 rfl;(first|exact Res.tmp rfl|(apply R_cellAll rfl;(focus ((repeat (first|exact mH|refine mT ?_));done));fail)|(apply R_cell1 rfl;(focus ((repeat (first|exact mH|refine mT ?_));done));(first|exact T.sc3|exact T.sc4|exact T.sc22)))))))
  all_goals (refine retN ?_; first | (simp [fragOk, ctFragPacket, *]; done) | (simp_all [fragOk, ctFragPacket]; done) | (simp_all [fragOk, ctFragPacket]; omega) | (simp_all [fragOk, ctFragPacket]; intro hz; exfalso; have hz2 := of_decide_eq_true hz; omega))
theorem fragOk_t {c : CFragPacket} (h : fragOk c = true) : 1 ≤ c.2.2.2.2.1 ∧ c.2.2.2.2.1 ≤ 64 ∧ 0 ≤ c.2.2.2.2.2.2.1 ∧ c.2.2.2.2.2.2.1 + (c.2.2.2.2.2.2.2.2.length : Int) ≤ 128 := by
  obtain ⟨a0, a1, a2, a3, a4, a5, a6, a7, l⟩ := c
  simp only [fragOk, Bool.and_eq_true, decide_eq_true_eq] at h
  obtain ⟨⟨⟨⟨⟨⟨⟨⟨⟨h0, h1⟩, h2⟩, h3⟩, h4⟩, h6⟩, h7⟩, h8⟩, _⟩, _⟩ := h
  have := inB_t h4
  have := inB_t h6
  dsimp only
  omega
def sizeC (c : CFragPacket) : Int := if fragOk c then 8 + (c.2.2.2.2.2.2.2.2.length : Int) else 0
theorem specFragSize_c (x : MFragPacket) (hl : x.2.2.2.2.2.2.2.2.2.length ≤ 1048576) (w : World) (hx : Rds w (rwFragPacket x)) : Calls Try.prog 54 #[.agg (clFragPacket x).toArray] w (RetN (.int .i64 (sizeC (ctFragPacket x))) w) := by
  have hm := Rds.head hx
  refine enter (n := 10) (E := [(0, _)]) Try.func54 rfl rfl rfl rfl ?_
  repeat' (first
    |(refine gS ?_;(first
        |(refine S_assign rfl rfl ?_)
        |(apply F_field rfl rfl;exact T.fl24_8)
        |(refine gLoad ?_;(first
            |(apply F_load1 rfl rfl;(focus ((repeat (first|exact mH|refine mT ?_));done));exact T.sc22;rfl;(focus (first|exact free0|exact free1)))
            |(apply F_loadAll rfl rfl;(focus ((repeat (first|exact mH|refine mT ?_));done));exact T.rw24;(focus (first|exact free0|exact free1)))))
        |(refine gCall ?_;(first
            |(show GoS _ _ _ _ _ _ _ (⟨_,_,_,.call ⟨.value (.func 22),_,_⟩,_⟩ :: _);refine S_callN (f := 22) rfl T.pf22 rfl (fun w hst => specFragOk_c _ hl w (by first|(refine Rds.given hst ?_;assumption)|(apply Rds.many hst;(focus ((repeat (first|exact mH|refine mT ?_));done)))|(apply Rds.row hst;(focus ((repeat (first|exact mH|refine mT ?_));done))))) rfl ?_)
            |(apply F_len rfl rfl rfl;(focus exact ⟨_,_,by exact T.sl22⟩);(focus (first|exact len_nil|(apply len_given;assumption)|(apply len_row;(focus ((repeat (first|exact mH|refine mT ?_));done)))|(apply len_isN;assumption))))))
        |(refine gBin ?_;(first
            |(refine S_add rfl rfl ?_ rfl ?_;(focus (unfold rng;omega)))))
        |(refine S_box rfl rfl rfl ?_;intro kb)
        |(refine S_not rfl rfl ?_)
        |(refine S_done ?_)))
    |(refine gC ?_;(first
        |(refine C_seq ?_)
        |(refine gReg ?_;(first
            |(refine gReg (i := 0) ?_;refine C_plain [(0,2),(1,0)] (by kernel_rfl) (s := [⟨2,none,_,_,_⟩,⟨0,none,_,_,_⟩]) rfl ?_)
            |(refine gReg (i := 1) ?_;refine C_plain [(0,0),(1,2),(2,0)] (by kernel_rfl) (s := [⟨0,none,_,_,_⟩,⟨2,none,_,_,_⟩,⟨0,none,_,_,_⟩]) rfl ?_)
            |(refine gReg (i := 2) ?_;refine C_plain [(0,0)] (by kernel_rfl) (s := [⟨0,none,_,_,_⟩]) rfl ?_)
            |(refine gReg (i := 3) ?_;refine C_plain [(0,0),(1,0),(2,0),(3,0),(4,0)] (by kernel_rfl) (s := [⟨0,none,_,_,_⟩,⟨0,none,_,_,_⟩,⟨0,none,_,_,_⟩,⟨0,none,_,_,_⟩,⟨0,none,_,_,_⟩]) rfl ?_)))
        |(refine C_split rfl ?_ ?_ <;> (intro hb;(try simp only [decide_eq_true_eq] at hb);(try simp only [decide_eq_false_iff_not] at hb);(try simp only [Bool.not_eq_true'] at hb);(try simp only [Bool.not_eq_false'] at hb);(try (exfalso;first|contradiction|omega))))
        |(refine C_skip ?_)
        |(refine C_ret ?_)))
    |(refine gE ?_;(first
        |(refine E_then ?_)
        |(refine E_thenR ?_)
        |(apply E_ret1 rfl;(first|exact Res.tmp rfl|(apply R_cellAll rfl;(focus ((repeat (first|exact mH|refine mT ?_));done));exact T.rw24)|(apply R_cell1 rfl;(focus ((repeat (first|exact mH|refine mT ?_));done));exact T.sc22))))))
  all_goals (refine retN ?_; simp_all [sizeC, ctFragPacket])
def likeC (c d : CFragPacket) : Bool := decide (c.1 = d.1) && decide (c.2.1 = d.2.1) && decide (c.2.2.1 = d.2.2.1) && decide (c.2.2.2.1 = d.2.2.2.1)
theorem alike_c (x y : MFragPacket) (w : World) : Calls Try.prog 74 #[.agg (clFragPacket x).toArray, .agg (clFragPacket y).toArray] w (RetN (.bool (likeC (ctFragPacket x) (ctFragPacket y))) w) := by
  refine enter (n := 31) (E := [(0, _), (1, _)]) Try.func74 rfl rfl rfl rfl ?_
  repeat' (first
    |(refine gS ?_;(first
        |(refine gGuard ?_;(first
            |(refine S_on rfl ?_)
            |(refine S_off rfl rfl rfl ?_)
            |(refine S_gsplit rfl ?_ ?_ <;> (intro hb;(try simp only [decide_eq_true_eq] at hb);(try simp only [decide_eq_false_iff_not] at hb);(try simp only [Bool.not_eq_true'] at hb);(try simp only [Bool.not_eq_false'] at hb);(try (exfalso;first|contradiction|omega))))))
        |(refine S_move rfl rfl ?_)
        |(refine S_assign rfl rfl ?_)
        |(apply F_field rfl rfl;(first|exact T.fl24_0|exact T.fl24_1|exact T.fl24_2|exact T.fl24_3))
        |(refine gLoad ?_;(first
            |(apply F_load1 rfl rfl;(focus ((repeat (first|exact mH|refine mT ?_));done));exact T.sc3;rfl;(focus (first|exact free0|exact free1)))))
        |(refine gBin ?_;(first
            |(refine S_eql rfl rfl rfl ?_)))
        |(refine gPick ?_;(first
            |(refine S_pickT rfl rfl rfl ?_)
            |(refine S_pickF rfl rfl rfl ?_)))
        |(refine S_box rfl rfl rfl ?_;intro kb)
        |(refine S_done ?_)))
    |(refine gC ?_;(first
        |(refine C_seq ?_)
        |(refine gReg ?_;(first
            |(refine gReg (i := 0) ?_;refine C_plain [(0,2),(1,2),(2,0)] (by kernel_rfl) (s := [⟨2,none,_,_,_⟩,⟨2,none,_,_,_⟩,⟨0,none,_,_,_⟩]) rfl ?_)
            |(refine gReg (i := 1) ?_;refine C_plain [(0,0),(1,0),(2,0),(3,0),(4,0),(5,0),(6,0),(7,0),(8,0),(9,0),(10,0),(11,0),(12,0),(13,0),(14,0),(15,0),(16,0),(17,0),(18,0),(19,0),(20,0),(21,0),(22,0),(23,0),(24,0),(25,0),(26,0)] (by kernel_rfl) (s := [⟨0,none,_,_,_⟩,⟨0,none,_,_,_⟩,⟨0,none,_,_,_⟩,⟨0,none,_,_,_⟩,⟨0,none,_,_,_⟩,⟨0,none,_,_,_⟩,⟨0,some (10,true),_,_,_⟩,⟨0,some (10,true),_,_,_⟩,⟨0,some (10,true),_,_,_⟩,⟨0,some (10,true),_,_,_⟩,⟨0,some (10,true),_,_,_⟩,⟨0,none,_,_,_⟩,⟨0,none,_,_,_⟩,⟨0,some (17,true),_,_,_⟩,⟨0,some (17,true),_,_,_⟩,⟨0,some (17,true),_,_,_⟩,⟨0,some (17,true),_,_,_⟩,⟨0,some (17,true),_,_,_⟩,⟨0,none,_,_,_⟩,⟨0,none,_,_,_⟩,⟨0,some (24,true),_,_,_⟩,⟨0,some (24,true),_,_,_⟩,⟨0,some (24,true),_,_,_⟩,⟨0,some (24,true),_,_,_⟩,⟨0,some (24,true),_,_,_⟩,⟨0,none,_,_,_⟩,⟨0,none,_,_,_⟩]) rfl ?_)))
        |(refine C_ret ?_)))
    |(refine gE ?_;(first
        |(refine E_then ?_)
        |(apply E_ret1 rfl;(first|exact Res.tmp rfl|(apply R_cellAll rfl;(focus ((repeat (first|exact mH|refine mT ?_));done));fail)|(apply R_cell1 rfl;(focus ((repeat (first|exact mH|refine mT ?_));done));exact T.sc3))))))
  all_goals (refine retN ?_; simp_all [likeC, ctFragPacket])
def alikeC (c d : CFragPacket) : Bool := fragOk c && fragOk d && likeC c d
theorem implFragAlike_c (x y : MFragPacket) (hl : x.2.2.2.2.2.2.2.2.2.length ≤ 1048576) (hl2 : y.2.2.2.2.2.2.2.2.2.length ≤ 1048576) (w : World) (hx : Rds w (rwFragPacket x)) (hy : Rds w (rwFragPacket y)) : Calls Try.prog 58 #[.agg (clFragPacket x).toArray, .agg (clFragPacket y).toArray] w (RetN (.bool (alikeC (ctFragPacket x) (ctFragPacket y))) w) := by
  refine enter (n := 16) (E := [(0, _), (1, _)]) Try.func58 rfl rfl rfl rfl ?_
  repeat' (first
    |(refine gS ?_;(first
        |(refine gGuard ?_;(first
            |(refine S_on rfl ?_)
            |(refine S_off rfl rfl rfl ?_)
            |(refine S_gsplit rfl ?_ ?_ <;> (intro hb;(try simp only [decide_eq_true_eq] at hb);(try simp only [decide_eq_false_iff_not] at hb);(try simp only [Bool.not_eq_true'] at hb);(try simp only [Bool.not_eq_false'] at hb);(try (exfalso;first|contradiction|omega))))))
        |(refine S_move rfl rfl ?_)
        |(refine S_assign rfl rfl ?_)
        |(refine gLoad ?_;(first
            |(apply F_loadAll rfl rfl;(focus ((repeat (first|exact mH|refine mT ?_));done));exact T.rw24;(focus (first|exact free0|exact free1)))))
        |(refine gCall ?_;(first
            |(show GoS _ _ _ _ _ _ _ (⟨_,_,_,.call ⟨.value (.func 20),_,_⟩,_⟩ :: _);refine S_callN (f := 20) rfl T.pf20 rfl (fun w hst => implFragOk_c _ (by assumption) w (by first|(refine Rds.given hst ?_;assumption)|(apply Rds.many hst;(focus ((repeat (first|exact mH|refine mT ?_));done)))|(apply Rds.row hst;(focus ((repeat (first|exact mH|refine mT ?_));done))))) rfl ?_)
            |(show GoS _ _ _ _ _ _ _ (⟨_,_,_,.call ⟨.value (.func 74),_,_⟩,_⟩ :: _);refine S_callN (f := 74) rfl T.pf74 rfl (fun w hst => alike_c _ _ w) rfl ?_)))
        |(refine gPick ?_;(first
            |(refine S_pickT rfl rfl rfl ?_)
            |(refine S_pickF rfl rfl rfl ?_)))
        |(refine S_box rfl rfl rfl ?_;intro kb)
        |(refine S_done ?_)))
    |(refine gC ?_;(first
        |(refine C_seq ?_)
        |(refine gReg ?_;(first
            |(refine gReg (i := 0) ?_;refine C_plain [(0,2),(1,2),(2,0)] (by kernel_rfl) (s := [⟨2,none,_,_,_⟩,⟨2,none,_,_,_⟩,⟨0,none,_,_,_⟩]) rfl ?_)
            |(refine gReg (i := 1) ?_;refine C_plain [(0,0),(1,2),(2,0),(3,0),(4,2),(5,0),(6,0),(7,0),(8,0),(9,2),(10,0),(11,0)] (by kernel_rfl) (s := [⟨0,none,_,_,_⟩,⟨2,none,_,_,_⟩,⟨0,none,_,_,_⟩,⟨0,some (7,true),_,_,_⟩,⟨2,some (7,true),_,_,_⟩,⟨0,none,_,_,_⟩,⟨0,none,_,_,_⟩,⟨0,some (11,true),_,_,_⟩,⟨0,some (11,true),_,_,_⟩,⟨2,some (11,true),_,_,_⟩,⟨0,none,_,_,_⟩,⟨0,none,_,_,_⟩]) rfl ?_)))
        |(refine C_ret ?_)))
    |(refine gE ?_;(first
        |(refine E_then ?_)
        |(apply E_ret1 rfl;(first|exact Res.tmp rfl|(apply R_cellAll rfl;(focus ((repeat (first|exact mH|refine mT ?_));done));exact T.rw24)|(apply R_cell1 rfl;(focus ((repeat (first|exact mH|refine mT ?_));done));fail))))))
  all_goals (refine retN ?_; simp_all [alikeC])
theorem specFragAlike_c (x y : MFragPacket) (hl : x.2.2.2.2.2.2.2.2.2.length ≤ 1048576) (hl2 : y.2.2.2.2.2.2.2.2.2.length ≤ 1048576) (w : World) (hx : Rds w (rwFragPacket x)) (hy : Rds w (rwFragPacket y)) : Calls Try.prog 45 #[.agg (clFragPacket x).toArray, .agg (clFragPacket y).toArray] w (RetN (.bool (alikeC (ctFragPacket x) (ctFragPacket y))) w) := by
  refine enter (n := 39) (E := [(0, _), (1, _)]) Try.func45 rfl rfl rfl rfl ?_
  repeat' (first
    |(refine gS ?_;(first
        |(refine gGuard ?_;(first
            |(refine S_on rfl ?_)
            |(refine S_off rfl rfl rfl ?_)
            |(refine S_gsplit rfl ?_ ?_ <;> (intro hb;(try simp only [decide_eq_true_eq] at hb);(try simp only [decide_eq_false_iff_not] at hb);(try simp only [Bool.not_eq_true'] at hb);(try simp only [Bool.not_eq_false'] at hb);(try (exfalso;first|contradiction|omega))))))
        |(refine S_move rfl rfl ?_)
        |(refine S_assign rfl rfl ?_)
        |(apply F_field rfl rfl;(first|exact T.fl24_0|exact T.fl24_1|exact T.fl24_2|exact T.fl24_3))
        |(refine gLoad ?_;(first
            |(apply F_load1 rfl rfl;(focus ((repeat (first|exact mH|refine mT ?_));done));exact T.sc3;rfl;(focus (first|exact free0|exact free1)))
            |(apply F_loadAll rfl rfl;(focus ((repeat (first|exact mH|refine mT ?_));done));exact T.rw24;(focus (first|exact free0|exact free1)))))
        |(refine gCall ?_;(first
            |(show GoS _ _ _ _ _ _ _ (⟨_,_,_,.call ⟨.value (.func 22),_,_⟩,_⟩ :: _);refine S_callN (f := 22) rfl T.pf22 rfl (fun w hst => specFragOk_c _ (by assumption) w (by first|(refine Rds.given hst ?_;assumption)|(apply Rds.many hst;(focus ((repeat (first|exact mH|refine mT ?_));done)))|(apply Rds.row hst;(focus ((repeat (first|exact mH|refine mT ?_));done))))) rfl ?_)))
        |(refine gBin ?_;(first
            |(refine S_eql rfl rfl rfl ?_)))
        |(refine gPick ?_;(first
            |(refine S_pickT rfl rfl rfl ?_)
            |(refine S_pickF rfl rfl rfl ?_)))
        |(refine S_box rfl rfl rfl ?_;intro kb)
        |(refine S_done ?_)))
    |(refine gC ?_;(first
        |(refine C_seq ?_)
        |(refine gReg ?_;(first
            |(refine gReg (i := 0) ?_;refine C_plain [(0,2),(1,2),(2,0)] (by kernel_rfl) (s := [⟨2,none,_,_,_⟩,⟨2,none,_,_,_⟩,⟨0,none,_,_,_⟩]) rfl ?_)
            |(refine gReg (i := 1) ?_;apply C_plain [(0,0),(1,2),(2,0),(3,0),(4,2),(5,0),(6,0),(7,0),(8,0),(9,0),(10,0),(11,0),(12,0),(13,0),(14,0),(15,0),(16,0),(17,0),(18,0),(19,0),(20,0),(21,0),(22,0),(23,0),(24,0),(25,0),(26,0),(27,0),(28,0),(29,0),(30,0),(31,0),(32,0),(33,0),(34,0)] (by kernel_rfl);(focus (simp only [mkS,gSlot,List.getElem?_cons_zero,List.getElem?_cons_succ];rfl)))))
        |(refine C_ret ?_)))
    |(refine gE ?_;(first
        |(refine E_then ?_)
        |(apply E_ret1 rfl;(first|exact Res.tmp rfl|(apply R_cellAll rfl;(focus ((repeat (first|exact mH|refine mT ?_));done));exact T.rw24)|(apply R_cell1 rfl;(focus ((repeat (first|exact mH|refine mT ?_));done));exact T.sc3))))))
  all_goals (refine retN ?_; simp_all [alikeC, likeC, ctFragPacket])
end Go.Proofs.Ytodhjpnfokkfeaa

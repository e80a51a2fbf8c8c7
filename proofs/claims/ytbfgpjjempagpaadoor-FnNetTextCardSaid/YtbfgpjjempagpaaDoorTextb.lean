/- Prefixes as the laws have them. -/
import Derived.Test.YtbfgpjjempagpaaDoorMod
import Derived.Test.YtbfgpjjempagpaaDoorBas
import Derived.Test.YtbfgpjjempagpaaDoorSymi
set_option linter.unusedSimpArgs false
set_option linter.unusedVariables false
namespace Go.Proofs.YtbfgpjjempagpaaDoor
open Go Go.RowKit
attribute [local irreducible] Calls GoS GoC GoE GoT Mid IsFl IsSc IsRw IsSl IsEl IsSt IsFs sp Mem Rd LenOf szR
theorem toNetPrefix_c (x : MNetPrefix) (w : World) : Calls Tryd.prog 11 #[.agg (clNetPrefix x).toArray] w (RetN (.agg (clNetPrefix x).toArray) w) := by
  refine enter (n := 11) (E := [(0, _)]) Tryd.func11 rfl rfl rfl rfl ?_
  repeat' (first
    |(refine gS ?_;(first
        |(refine S_move rfl rfl ?_)
        |(refine S_assign rfl rfl ?_)
        |(apply F_field rfl rfl;(first|exact T.fl25_0|exact T.fl25_1|exact T.fl27_0|exact T.fl27_1))
        |(refine gLoad ?_;(first
            |(apply F_load1 rfl rfl;(focus ((repeat (first|exact mH|refine mT ?_));done));exact T.sc3;rfl;(focus (first|exact free0|exact free1)))
            |(apply F_loadAll rfl rfl;(focus ((repeat (first|exact mH|refine mT ?_));done));exact T.rw27;(focus (first|exact free0|exact free1)))
            |(apply F_loadP rfl rfl;(focus ((repeat (first|exact mH|refine mT ?_));done));exact T.rw27;(focus ((repeat (first|exact Take.nil|apply Take.here|apply Take.there));done));rfl;(focus (first|exact free0|exact free1)))))
        |(refine gStore ?_;(first
            |(apply F_store1 rfl rfl;(focus (first|rfl|assumption));exact T.sc3;(focus ((repeat (first|exact Upd.here|apply Upd.there));done));(focus ((repeat (first|exact SetSeg.nil|apply SetSeg.here|apply SetSeg.there));done));(first|exact okst2|exact okst1|exact okst1'))
            |(apply F_storeN rfl rfl;(focus (first|rfl|assumption|(simp only [List.append_nil,List.all_cons,List.all_nil,Bool.and_true,Bool.true_and,one_int,one_bool,one_string,one_slice,one_pointer, *];done)));exact T.rw27;(focus ((repeat (first|exact Upd.here|apply Upd.there));done));(focus ((repeat (first|exact SetSeg.nil|apply SetSeg.here|apply SetSeg.there));done));(first|exact okst2|exact okst1|exact okst1'))))
        |(refine S_box rfl rfl rfl ?_;intro kb)
        |(apply S_alloc rfl (hd := rfl);exact T.zc27;intro kb)
        |(apply F_build2 rfl (hd := rfl);exact T.st27;(focus ((repeat (first|exact BuildR.nil|(apply BuildR.cons;(first|exact T.fs27_0|exact T.fs27_1);rfl;rfl;(focus ((repeat (first|exact SetSeg.nil|apply SetSeg.here|apply SetSeg.there));done)))|(apply BuildR.cons1;(first|exact T.fs27_0|exact T.fs27_1);(focus assumption);(focus ((repeat (first|exact SetSeg.nil|apply SetSeg.here|apply SetSeg.there));done)))));done)))
        |(refine S_done ?_)
        |(refine S_box1 rfl rfl rfl rfl ?_;intro kb)))
    |(refine gC ?_;(first
        |(refine C_seq ?_)
        |(refine gReg ?_;(first
            |(refine gReg (i := 0) ?_;refine C_plain [(0,2),(1,2)] (by kernel_rfl) (s := [⟨2,none,_,_,_⟩,⟨2,none,_,_,_⟩]) rfl ?_)
            |(refine gReg (i := 1) ?_;refine C_plain [(0,2)] (by kernel_rfl) (s := [⟨2,none,_,_,_⟩]) rfl ?_)
            |(refine gReg (i := 2) ?_;refine C_plain [(0,0),(1,0),(2,0),(3,2)] (by kernel_rfl) (s := [⟨0,none,_,_,_⟩,⟨0,none,_,_,_⟩,⟨0,none,_,_,_⟩,⟨2,none,_,_,_⟩]) rfl ?_)
            |(refine gReg (i := 3) ?_;refine C_plain [(0,0),(1,0),(2,0),(3,2)] (by kernel_rfl) (s := [⟨0,none,_,_,_⟩,⟨0,none,_,_,_⟩,⟨0,none,_,_,_⟩,⟨2,none,_,_,_⟩]) rfl ?_)
            |(refine gReg (i := 4) ?_;refine C_plain [(0,0),(1,2)] (by kernel_rfl) (s := [⟨0,none,_,_,_⟩,⟨2,none,_,_,_⟩]) rfl ?_)))
        |(refine C_true rfl ?_)
        |(refine C_false rfl ?_)
        |(refine C_split rfl ?_ ?_ <;> (intro hb;(try simp only [decide_eq_true_eq] at hb);(try simp only [decide_eq_false_iff_not] at hb);(try simp only [Bool.not_eq_true'] at hb);(try simp only [Bool.not_eq_false'] at hb);(try (exfalso;first|contradiction|omega))))
        |(refine C_skip ?_)
        |(refine C_exit ?_)
        |(refine C_ret ?_)
        |(refine C_block ?_)))
    |(refine gE ?_;(first
        |(refine E_then ?_)
        |(refine E_thenX ?_)
        |(refine E_thenR ?_)
        |(refine E_block ?_)
        |(refine E_blockY ?_)
        |(refine E_blockR ?_)
        |(refine E_calm ?_)
        |(refine E_blockX rfl ?_)
        |(apply E_ret1 rfl;(first|exact Res.tmp rfl|(apply R_cellAll rfl;(focus ((repeat (first|exact mH|refine mT ?_));done));exact T.rw27)|(apply R_cell1 rfl;(focus ((repeat (first|exact mH|refine mT ?_));done));exact T.sc3)))
        |(apply E_ret2 rfl;(first|exact Res.tmp rfl|(apply R_cellAll rfl;(focus ((repeat (first|exact mH|refine mT ?_));done));exact T.rw27)|(apply R_cell1 rfl;(focus ((repeat (first|exact mH|refine mT ?_));done));exact T.sc3));(first|exact Res.tmp rfl|(apply R_cellAll rfl;(focus ((repeat (first|exact mH|refine mT ?_));done));exact T.rw27)|(apply R_cell1 rfl;(focus ((repeat (first|exact mH|refine mT ?_));done));exact T.sc3)))
        | (apply E_ret3 rfl; (first | exact Res.tmp rfl | (apply R_cellAll rfl; (focus ((repeat (first | exact List.Mem.head _ | refine List.Mem.tail _ ?_)); done)); exact T.rw27) | (apply R_cell1 rfl; (focus ((repeat (first | exact List.Mem.head _ | refine List.Mem.tail _ ?_)); done)); exact T.sc3)); (first | exact Res.tmp rfl | (apply R_cellAll rfl; (focus ((repeat (first | exact List.Mem.head _ | refine List.Mem.tail _ ?_)); done)); exact T.rw27) | (apply R_cell1 rfl; (focus ((repeat (first | exact List.Mem.head _ | refine List.Mem.tail _ ?_)); done)); exact T.sc3)); (first | exact Res.tmp rfl | (apply R_cellAll rfl; (focus ((repeat (first | exact List.Mem.head _ | refine List.Mem.tail _ ?_)); done)); exact T.rw27) | (apply R_cell1 rfl; (focus ((repeat (first | exact List.Mem.head _ | refine List.Mem.tail _ ?_)); done)); exact T.sc3))))))
  all_goals (refine retN ?_; rfl)
theorem eqNetPrefix_c (x y : MNetPrefix) (w : World) : Calls Tryd.prog 17 #[.agg (clNetPrefix x).toArray, .agg (clNetPrefix y).toArray] w (RetN (.bool (decide (x = y))) w) := by
  obtain ⟨x0, x1⟩ := x
  obtain ⟨y0, y1⟩ := y
  refine enter (n := 15) (E := [(0, _), (1, _)]) Tryd.func17 rfl rfl rfl rfl ?_
  repeat' (first
    |(refine gS ?_;(first
        |(refine S_move rfl rfl ?_)
        |(refine S_assign rfl rfl ?_)
        |(apply F_field rfl rfl;(first|exact T.fl27_0|exact T.fl27_1))
        |(refine gLoad ?_;(first
            |(apply F_load1 rfl rfl;(focus ((repeat (first|exact mH|refine mT ?_));done));exact T.sc3;rfl;(focus (first|exact free0|exact free1)))))
        |(refine gBin ?_;(first
            |(refine S_neq rfl rfl rfl ?_)
            |(refine S_neqB Tryd.underlying4 rfl rfl rfl ?_)))
        |(refine S_box rfl rfl rfl ?_;intro kb)
        |(refine S_done ?_)
        |(refine S_box1 rfl rfl rfl rfl ?_;intro kb)))
    |(refine gC ?_;(first
        |(refine C_seq ?_)
        |(refine gReg ?_;(first
            |(refine gReg (i := 0) ?_;refine C_plain [(0,2),(1,2),(2,0)] (by kernel_rfl) (s := [⟨2,none,_,_,_⟩,⟨2,none,_,_,_⟩,⟨0,none,_,_,_⟩]) rfl ?_)
            |(refine gReg (i := 1) ?_;refine C_plain [(0,0),(1,0),(2,0),(3,0),(4,0)] (by kernel_rfl) (s := [⟨0,none,_,_,_⟩,⟨0,none,_,_,_⟩,⟨0,none,_,_,_⟩,⟨0,none,_,_,_⟩,⟨0,none,_,_,_⟩]) rfl ?_)
            |(refine gReg (i := 2) ?_;refine C_plain [(0,0)] (by kernel_rfl) (s := [⟨0,none,_,_,_⟩]) rfl ?_)
            |(refine gReg (i := 3) ?_;refine C_plain [(0,0),(1,0),(2,0),(3,0),(4,0)] (by kernel_rfl) (s := [⟨0,none,_,_,_⟩,⟨0,none,_,_,_⟩,⟨0,none,_,_,_⟩,⟨0,none,_,_,_⟩,⟨0,none,_,_,_⟩]) rfl ?_)
            |(refine gReg (i := 4) ?_;refine C_plain [(0,0)] (by kernel_rfl) (s := [⟨0,none,_,_,_⟩]) rfl ?_)
            |(refine gReg (i := 5) ?_;refine C_plain [(0,0)] (by kernel_rfl) (s := [⟨0,none,_,_,_⟩]) rfl ?_)))
        |(refine C_true rfl ?_)
        |(refine C_false rfl ?_)
        |(refine C_split rfl ?_ ?_ <;> (intro hb;(try simp only [decide_eq_true_eq] at hb);(try simp only [decide_eq_false_iff_not] at hb);(try simp only [Bool.not_eq_true'] at hb);(try simp only [Bool.not_eq_false'] at hb);(try (exfalso;first|contradiction|omega))))
        |(refine C_skip ?_)
        |(refine C_exit ?_)
        |(refine C_ret ?_)
        |(refine C_block ?_)))
    |(refine gE ?_;(first
        |(refine E_then ?_)
        |(refine E_thenX ?_)
        |(refine E_thenR ?_)
        |(refine E_block ?_)
        |(refine E_blockY ?_)
        |(refine E_blockR ?_)
        |(refine E_calm ?_)
        |(refine E_blockX rfl ?_)
        |(apply E_ret1 rfl;(first|exact Res.tmp rfl|(apply R_cellAll rfl;(focus ((repeat (first|exact mH|refine mT ?_));done));fail)|(apply R_cell1 rfl;(focus ((repeat (first|exact mH|refine mT ?_));done));exact T.sc3)))
        |(apply E_ret2 rfl;(first|exact Res.tmp rfl|(apply R_cellAll rfl;(focus ((repeat (first|exact mH|refine mT ?_));done));fail)|(apply R_cell1 rfl;(focus ((repeat (first|exact mH|refine mT ?_));done));exact T.sc3));(first|exact Res.tmp rfl|(apply R_cellAll rfl;(focus ((repeat (first|exact mH|refine mT ?_));done));fail)|(apply R_cell1 rfl;(focus ((repeat (first|exact mH|refine mT ?_));done));exact T.sc3)))
        | (apply E_ret3 rfl; (first | exact Res.tmp rfl | (apply R_cellAll rfl; (focus ((repeat (first | exact List.Mem.head _ | refine List.Mem.tail _ ?_)); done)); fail) | (apply R_cell1 rfl; (focus ((repeat (first | exact List.Mem.head _ | refine List.Mem.tail _ ?_)); done)); exact T.sc3)); (first | exact Res.tmp rfl | (apply R_cellAll rfl; (focus ((repeat (first | exact List.Mem.head _ | refine List.Mem.tail _ ?_)); done)); fail) | (apply R_cell1 rfl; (focus ((repeat (first | exact List.Mem.head _ | refine List.Mem.tail _ ?_)); done)); exact T.sc3)); (first | exact Res.tmp rfl | (apply R_cellAll rfl; (focus ((repeat (first | exact List.Mem.head _ | refine List.Mem.tail _ ?_)); done)); fail) | (apply R_cell1 rfl; (focus ((repeat (first | exact List.Mem.head _ | refine List.Mem.tail _ ?_)); done)); exact T.sc3))))))
  all_goals (refine retN ?_; simp_all)
def rwSuint8 (x : MSuint8) : List Row := ⟨x.1, 5, 1, x.2.length, x.2.flatMap (fun y : Int => ([.int .u8 y] : List Value))⟩ :: []
def mkFSuint8 (_ : Int) : Nat := 1
def mkSuint8 (c : List Int) : Nat := (c.map mkFSuint8).sum
theorem mkleSuint8 (c : List Int) : mkSuint8 c ≤ 64 * c.length := mk_le_flat (fun _ => by simp only [mkFSuint8]; omega) c
def hdFSuint8 (c : Int) (k : Int) : Prop := (c = (k) % 256)
def hdSuint8 (c : List Int) (k : Int) : Prop := Held hdFSuint8 mkFSuint8 c k
theorem rdsSuint8 {w : World} {x : MSuint8} (h : okSuint8 w x) : Rds w (rwSuint8 x) := Rds.cons h.1 Rds.nil
end Go.Proofs.YtbfgpjjempagpaaDoor

/- Benches copied: what was copied has the same contents and memory of its own. -/
import Derived.Test.YtodhjpnfokkfeaaFragu
import Derived.Test.YtodhjpnfokkfeaaSymk
set_option linter.unusedSimpArgs false
set_option linter.unusedVariables false
namespace Go.Proofs.Ytodhjpnfokkfeaa
open Go Go.RowKit
attribute [local irreducible] Calls GoS GoC GoE GoT Mid IsFl IsSc IsRw IsSl IsEl IsSt IsFs sp Mem Rd LenOf szR joinC alikeC likeC
theorem copyPackets_c (v : Value) (l : List MFragPacket) (hn : l.length ≤ 1048576) (hl : ∀ p ∈ l, p.2.2.2.2.2.2.2.2.2.length ≤ 1048576) (w : World) (hx : Rds w (rwSFragPacket (v, l))) : Calls Try.prog 105 #[v] w (RetX (fun y : MSFragPacket => y.2.map ctFragPacket = l.map ctFragPacket) (fun y => y.1) (fun y => [.many (rwSFragPacket y)]) w) := by
  have hm := Rds.head hx
  have hel := pk_el (v := v) hl hx
  dsimp only at *
  refine enter (n := 23) (E := [(0, _)]) Try.func105 rfl rfl rfl rfl ?_
  repeat' (first
    |(refine gS ?_;(first
        |(refine S_move rfl rfl ?_)
        |(refine S_assign rfl rfl ?_)
        |(refine gCall ?_;(first
            |(apply F_len rfl rfl rfl;(focus exact ⟨_,_,by exact T.sl27⟩);(focus (first|exact len_nil|(apply len_given;assumption)|(apply len_row;(focus ((repeat (first|exact mH|refine mT ?_));done)))|(apply len_isN;assumption))))))
        |(refine gBin ?_;(first
            |(refine S_add rfl rfl ?_ rfl ?_;(focus (unfold rng;omega)))))
        |(refine S_done ?_)
        |((apply F_make0Z rfl rfl rfl T.el27;rfl;(focus omega);(focus omega);(focus (simp only [maxLen];omega));intro sv;(try (refine S_fact (row_one (v := sv) (by (focus ((repeat (first|exact mH|refine mT ?_));done)))) (fun hone => ?_)))))))
    |(refine gC ?_;(first
        |(refine C_seq ?_)
        |(refine gReg ?_;(first
            |(refine gReg (i := 0) ?_;refine C_plain [(0,0)] (by kernel_rfl) (s := [⟨0,none,_,_,_⟩]) rfl ?_)
            |(refine gReg (i := 1) ?_;refine C_plain [(0,0),(1,0),(2,0),(3,2),(4,0)] (by kernel_rfl) (s := [⟨0,none,_,_,_⟩,⟨0,none,_,_,_⟩,⟨0,none,_,_,_⟩,⟨2,none,_,_,_⟩,⟨0,none,_,_,_⟩]) rfl ?_)
            |(refine gReg (i := 2) ?_;refine C_plain [(0,0),(1,0),(2,0)] (by kernel_rfl) (s := [⟨0,none,_,_,_⟩,⟨0,none,_,_,_⟩,⟨0,none,_,_,_⟩]) rfl ?_)))
        |(refine C_block ?_)))
    |(refine gE ?_;(first
        |(refine E_then ?_))))
  refine C_gnil ?_
  refine C_loop (α := Nat × Value × List MFragPacket) (fun s => [(12, .int .i64 (s.1 : Int)), (11, .int .i64 (l.length : Int)), (10, v), (3, s.2.1)]) (fun s => [.many (s.2.2.flatMap rwFragPacket), .row s.2.1 24 9 s.2.2.length (s.2.2.flatMap clFragPacket)]) (fun s => s.1 ≤ l.length ∧ s.2.2.length = s.1 ∧ s.2.2.map ctFragPacket = (l.take s.1).map ctFragPacket) (fun s => l.length - s.1) (0, sv, []) ⟨Nat.zero_le _, rfl, rfl⟩ ⟨rfl, rfl, rfl, rfl, trivial⟩ (List.Sublist.refl _) ?_
  rintro ⟨i, sv, dn⟩ ⟨hi, hdn, hct⟩
  dsimp only at *
  repeat' (first
    |(refine gS ?_;(first
        |(refine S_move rfl rfl ?_)
        |(refine S_assign rfl rfl ?_)
        |(apply F_idx rfl rfl rfl;exact T.sl27;(focus rfl);(focus (first|exact len_nil|(apply len_given;assumption)|(apply len_row;(focus ((repeat (first|exact mH|refine mT ?_));done)))|(apply len_isN;assumption)));(focus omega))
        |(apply F_bs rfl rfl;exact T.el27;rfl;rfl;rfl;rfl;(focus ((repeat (first|exact Dense.nil|(apply Dense.cons;rfl;rfl)));done));intro sv;(try (refine S_fact (row_one (v := sv) (by (focus ((repeat (first|exact mH|refine mT ?_));done)))) (fun hone => ?_))))
        |(refine gLoad ?_;(first
            |(apply F_loadAll rfl rfl;(focus ((repeat (first|exact mH|refine mT ?_));done));exact T.rw24;(focus (first|exact free0|exact free1)))
            |(apply F_loadSN rfl rfl;exact T.rw24;(focus (first|exact rd_nil|(apply rd_given;(focus assumption);(focus (first|exact freeG0|exact freeG1)))|(apply rd_row;(focus ((repeat (first|exact mH|refine mT ?_));done));(focus (first|exact freeR0|exact freeR1)))));(focus (first|(focus (apply at_flat;(focus (intro _;rfl));(focus assumption)))|exact at_self));rfl;rfl)))
        |(refine gStore ?_;(first
            |(apply F_storeN rfl rfl;(focus (first|rfl|assumption|(simp only [List.append_nil,List.all_cons,List.all_nil,Bool.and_true,Bool.true_and,one_int,one_bool,one_string,one_slice,one_pointer, *];done)));exact T.rw24;(focus ((repeat (first|exact Upd.here|apply Upd.there));done));(focus ((repeat (first|exact SetSeg.nil|apply SetSeg.here|apply SetSeg.there));done));(first|exact okst2|exact okst1|exact okst1'))))
        |(refine gCall ?_;(first
            |(show GoS _ _ _ _ _ _ _ (⟨_,_,_,.call ⟨.value (.func 52),_,_⟩,_⟩ :: _);refine S_callX (f := 52) rfl T.pf52 rfl (fun w hst => copyPacket_c _ hq.2.2 w (Rds.given hst hq.2.1)) rfl (fun zz hzz => ?_);simp only [List.cons_append,List.nil_append];revert hzz;revert zz;intro y hy;refine S_fact (fun w hs => oneFragPacket (Rds.many hs (by (focus ((repeat (first|exact mH|refine mT ?_));done))))) (fun hone => ?_))
            |(apply F_append rfl rfl rfl rfl;exact T.el27;(focus (intro sv;(focus ((repeat (first|exact Upd.here|apply Upd.there));done))));(focus (first|exact rd_nil|(apply rd_given;(focus assumption);(focus (first|exact freeG0|exact freeG1)))|(apply rd_row;(focus ((repeat (first|exact mH|refine mT ?_));done));(focus (first|exact freeR0|exact freeR1)))));(focus (first|rfl|assumption|(apply all_flat;intro _ _;rfl)|(rw [List.append_nil];assumption)|(simp only [List.append_nil,List.all_cons,List.all_nil,Bool.and_true,Bool.true_and,one_int,one_bool,one_string,one_slice,one_pointer, *];done)|simp));(first|exact okst2|exact okst1|exact okst1');(focus (simp only [maxLen];first|omega|(simp only [List.length_take,List.length_drop];omega)));(focus (first|omega|(simp only [List.length_take,List.length_drop];omega)));intro sv;(try (refine S_fact (row_one (v := sv) (by (focus ((repeat (first|exact mH|refine mT ?_));done)))) (fun hone => ?_))))))
        |(refine gBin ?_;(first
            |(refine S_lss rfl rfl rfl ?_)
            |(refine S_add rfl rfl ?_ rfl ?_;(focus (unfold rng;omega)))))
        |(apply S_alloc rfl (hd := rfl);exact T.zc24;intro kb)
        |(refine S_done ?_)))
    |(refine gC ?_;(first
        |(refine C_seq ?_)
        |(refine gReg ?_;(first
            |(refine gReg (i := 3) ?_;refine C_plain [(0,0)] (by kernel_rfl) (s := [⟨0,none,_,_,_⟩]) rfl ?_)
            |(refine gReg (i := 4) ?_;refine C_plain [(0,0),(1,0),(2,2),(3,2)] (by kernel_rfl) (s := [⟨0,none,_,_,_⟩,⟨0,none,_,_,_⟩,⟨2,none,_,_,_⟩,⟨2,none,_,_,_⟩]) rfl ?_)
            |(refine gReg (i := 5) ?_;refine C_plain [(0,0),(1,0),(2,2),(3,2),(4,2),(5,0)] (by kernel_rfl) (s := [⟨0,none,_,_,_⟩,⟨0,none,_,_,_⟩,⟨2,none,_,_,_⟩,⟨2,none,_,_,_⟩,⟨2,none,_,_,_⟩,⟨0,none,_,_,_⟩]) rfl ?_)
            |(refine gReg (i := 6) ?_;refine C_plain [(0,0),(1,0)] (by kernel_rfl) (s := [⟨0,none,_,_,_⟩,⟨0,none,_,_,_⟩]) rfl ?_)
            |(refine gReg (i := 7) ?_;refine C_plain [(0,0),(1,0)] (by kernel_rfl) (s := [⟨0,none,_,_,_⟩,⟨0,none,_,_,_⟩]) rfl ?_)))
        |(refine C_split rfl ?_ ?_ <;> (intro hb;(try simp only [decide_eq_true_eq] at hb);(try simp only [decide_eq_false_iff_not] at hb);(try simp only [Bool.not_eq_true'] at hb);(try simp only [Bool.not_eq_false'] at hb);(try (exfalso;first|contradiction|omega));(try (have hq := hel i hb));(try (have hq1 := hq.1));(try (have hq7 := oneFragPacket hq.2.1))))
        |(refine C_skip ?_)
        |(refine C_exit ?_)
        |(refine C_ret ?_)
        |(refine C_block ?_)))
    |(refine gE ?_;(first
        |(refine E_then ?_)
        |(refine E_thenX ?_)
        |(refine E_block ?_)
        |(refine E_blockY ?_)
        |(apply E_ret1 rfl;(first|exact Res.tmp rfl|(apply R_cellAll rfl;(focus ((repeat (first|exact mH|refine mT ?_));done));exact T.rw24)|(apply R_cell1 rfl;(focus ((repeat (first|exact mH|refine mT ?_));done));fail))))))
  · refine E_roundS (α := Nat × Value × List MFragPacket) (i + 1,_,dn ++ [y]) ⟨by dsimp only;omega,by simp [hdn],?_⟩ (by dsimp only;omega) ⟨rfl,rfl,rfl,rfl,trivial⟩ entA
    dsimp only
    rw [List.map_append, hct, take_snoc hq1, List.map_append, List.map_singleton, List.map_singleton, hy]
  · have e : i = l.length := by omega
    refine retX (sv,dn) ?_ rfl entA
    dsimp only
    rw [hct, e, List.take_length]
theorem l14Pieces_c (v : Value) (l : List MFragPacket) (hn : l.length ≤ 1048576) (hl : ∀ p ∈ l, p.2.2.2.2.2.2.2.2.2.length ≤ 1048576) (w : World) (hx : Rds w (rwSFragPacket (v, l))) : Calls Try.prog 104 #[v] w (RetX (fun y : MSFragPacket => y.2.map ctFragPacket = l.map ctFragPacket) (fun y => y.1) (fun y => [.many (rwSFragPacket y)]) w) := by
  have hm := Rds.head hx
  have hel := pk_el (v := v) hl hx
  dsimp only at *
  refine enter (n := 21) (E := [(0, _)]) Try.func104 rfl rfl rfl rfl ?_
  repeat' (first
    |(refine gS ?_;(first
        |(refine S_assign rfl rfl ?_)
        |(apply F_bs0 rfl rfl;exact T.el27;rfl;intro sv;(try (refine S_fact (row_one (v := sv) (by (focus ((repeat (first|exact mH|refine mT ?_));done)))) (fun hone => ?_))))
        |(refine S_done ?_)))
    |(refine gC ?_;(first
        |(refine C_seq ?_)
        |(refine gReg ?_;(first
            |(refine gReg (i := 0) ?_;refine C_plain [(0,0)] (by kernel_rfl) (s := [⟨0,none,_,_,_⟩]) rfl ?_)
            |(refine gReg (i := 1) ?_;refine C_plain [(0,2),(1,0)] (by kernel_rfl) (s := [⟨2,none,_,_,_⟩,⟨0,none,_,_,_⟩]) rfl ?_)
            |(refine gReg (i := 2) ?_;refine C_plain [(0,0)] (by kernel_rfl) (s := [⟨0,none,_,_,_⟩]) rfl ?_)))
        |(refine C_block ?_)))
    |(refine gE ?_;(first
        |(refine E_then ?_))))
  refine C_gnil ?_
  refine C_loop (α := Nat × Value × List MFragPacket) (fun s => [(4, .int .i64 (s.1 : Int)), (3, s.2.1), (0, v)]) (fun s => [.many (s.2.2.flatMap rwFragPacket), .row s.2.1 24 9 s.2.2.length (s.2.2.flatMap clFragPacket)]) (fun s => s.1 ≤ l.length ∧ s.2.2.length = s.1 ∧ s.2.2.map ctFragPacket = (l.take s.1).map ctFragPacket) (fun s => l.length - s.1) (0, sv, []) ⟨Nat.zero_le _, rfl, rfl⟩ ⟨rfl, rfl, rfl, trivial⟩ (List.Sublist.refl _) ?_
  rintro ⟨i, sv, dn⟩ ⟨hi, hdn, hct⟩
  dsimp only at *
  repeat' (first
    |(refine gS ?_;(first
        |(refine S_move rfl rfl ?_)
        |(refine S_assign rfl rfl ?_)
        |(apply F_idx rfl rfl rfl;exact T.sl27;(focus rfl);(focus (first|exact len_nil|(apply len_given;assumption)|(apply len_row;(focus ((repeat (first|exact mH|refine mT ?_));done)))|(apply len_isN;assumption)));(focus omega))
        |(apply F_bs rfl rfl;exact T.el27;rfl;rfl;rfl;rfl;(focus ((repeat (first|exact Dense.nil|(apply Dense.cons;rfl;rfl)));done));intro sv;(try (refine S_fact (row_one (v := sv) (by (focus ((repeat (first|exact mH|refine mT ?_));done)))) (fun hone => ?_))))
        |(refine gLoad ?_;(first
            |(apply F_loadSN rfl rfl;exact T.rw24;(focus (first|exact rd_nil|(apply rd_given;(focus assumption);(focus (first|exact freeG0|exact freeG1)))|(apply rd_row;(focus ((repeat (first|exact mH|refine mT ?_));done));(focus (first|exact freeR0|exact freeR1)))));(focus (first|(focus (apply at_flat;(focus (intro _;rfl));(focus assumption)))|exact at_self));rfl;rfl)))
        |(refine gCall ?_;(first
            |(show GoS _ _ _ _ _ _ _ (⟨_,_,_,.call ⟨.value (.func 55),_,_⟩,_⟩ :: _);refine S_callX (f := 55) rfl T.pf55 rfl (fun w hst => l11Copy_c _ hq.2.2 w (Rds.given hst hq.2.1)) rfl (fun zz hzz => ?_);simp only [List.cons_append,List.nil_append];revert hzz;revert zz;intro y hy;refine S_fact (fun w hs => oneFragPacket (Rds.many hs (by (focus ((repeat (first|exact mH|refine mT ?_));done))))) (fun hone => ?_))
            |(apply F_len rfl rfl rfl;(focus exact ⟨_,_,by exact T.sl27⟩);(focus (first|exact len_nil|(apply len_given;assumption)|(apply len_row;(focus ((repeat (first|exact mH|refine mT ?_));done)))|(apply len_isN;assumption))))
            |(apply F_append rfl rfl rfl rfl;exact T.el27;(focus (intro sv;(focus ((repeat (first|exact Upd.here|apply Upd.there));done))));(focus (first|exact rd_nil|(apply rd_given;(focus assumption);(focus (first|exact freeG0|exact freeG1)))|(apply rd_row;(focus ((repeat (first|exact mH|refine mT ?_));done));(focus (first|exact freeR0|exact freeR1)))));(focus (first|rfl|assumption|(apply all_flat;intro _ _;rfl)|(rw [List.append_nil];assumption)|(simp only [List.append_nil,List.all_cons,List.all_nil,Bool.and_true,Bool.true_and,one_int,one_bool,one_string,one_slice,one_pointer, *];done)|simp));(first|exact okst2|exact okst1|exact okst1');(focus (simp only [maxLen];first|omega|(simp only [List.length_take,List.length_drop];omega)));(focus (first|omega|(simp only [List.length_take,List.length_drop];omega)));intro sv;(try (refine S_fact (row_one (v := sv) (by (focus ((repeat (first|exact mH|refine mT ?_));done)))) (fun hone => ?_))))))
        |(refine gBin ?_;(first
            |(refine S_lss rfl rfl rfl ?_)
            |(refine S_add rfl rfl ?_ rfl ?_;(focus (unfold rng;omega)))))
        |(refine S_done ?_)))
    |(refine gC ?_;(first
        |(refine C_seq ?_)
        |(refine gReg ?_;(first
            |(refine gReg (i := 3) ?_;refine C_plain [(0,0),(1,0),(2,0),(3,0)] (by kernel_rfl) (s := [⟨0,none,_,_,_⟩,⟨0,none,_,_,_⟩,⟨0,none,_,_,_⟩,⟨0,none,_,_,_⟩]) rfl ?_)
            |(refine gReg (i := 5) ?_;refine C_plain [(0,0),(1,0),(2,0),(3,0),(4,0),(5,2),(6,2),(7,2),(8,0)] (by kernel_rfl) (s := [⟨0,none,_,_,_⟩,⟨0,none,_,_,_⟩,⟨0,none,_,_,_⟩,⟨0,none,_,_,_⟩,⟨0,none,_,_,_⟩,⟨2,none,_,_,_⟩,⟨2,none,_,_,_⟩,⟨2,none,_,_,_⟩,⟨0,none,_,_,_⟩]) rfl ?_)
            |(refine gReg (i := 4) ?_;refine C_plain [(0,0),(1,0),(2,0)] (by kernel_rfl) (s := [⟨0,none,_,_,_⟩,⟨0,none,_,_,_⟩,⟨0,none,_,_,_⟩]) rfl ?_)
            |(refine gReg (i := 6) ?_;refine C_plain [(0,0),(1,0)] (by kernel_rfl) (s := [⟨0,none,_,_,_⟩,⟨0,none,_,_,_⟩]) rfl ?_)))
        |(refine C_split rfl ?_ ?_ <;> (intro hb;(try simp only [decide_eq_true_eq] at hb);(try simp only [decide_eq_false_iff_not] at hb);(try simp only [Bool.not_eq_true'] at hb);(try simp only [Bool.not_eq_false'] at hb);(try (exfalso;first|contradiction|omega));(try (have hq := hel i hb));(try (have hq1 := hq.1));(try (have hq7 := oneFragPacket hq.2.1))))
        |(refine C_skip ?_)
        |(refine C_exit ?_)
        |(refine C_ret ?_)
        |(refine C_block ?_)))
    |(refine gE ?_;(first
        |(refine E_then ?_)
        |(refine E_thenX ?_)
        |(refine E_block ?_)
        |(refine E_blockY ?_)
        |(apply E_ret1 rfl;(first|exact Res.tmp rfl|(apply R_cellAll rfl;(focus ((repeat (first|exact mH|refine mT ?_));done));exact T.rw24)|(apply R_cell1 rfl;(focus ((repeat (first|exact mH|refine mT ?_));done));fail))))))
  · refine E_roundS (α := Nat × Value × List MFragPacket) (i + 1,_,dn ++ [y]) ⟨by dsimp only;omega,by simp [hdn],?_⟩ (by dsimp only;omega) ⟨rfl,rfl,rfl,trivial⟩ entA
    dsimp only
    rw [List.map_append, hct, take_snoc hq1, List.map_append, List.map_singleton, List.map_singleton, hy]
  · have e : i = l.length := by omega
    refine retX (sv,dn) ?_ rfl entA
    dsimp only
    rw [hct, e, List.take_length]
theorem slot_ct {x : MFragSlot} {y : MSFragPacket} (h : y.2.map ctFragPacket = x.1.2.map ctFragPacket) : ctFragSlot (y, x.2.1, x.2.2) = ctFragSlot x := by
  obtain ⟨a, b, c⟩ := x
  simp only [ctFragSlot, h]
set_option maxRecDepth 8192 in
theorem copyBench_c (b : MFragBench) (hn : b.2.2.length ≤ 1048576) (hl : Short b.2.2) (w : World) (hx : Rds w (rwFragBench b)) : Calls Try.prog 77 #[.agg (clFragBench b).toArray] w (RetX (fun y : MFragBench => ctFragBench y = ctFragBench b) (fun y => .agg (clFragBench y).toArray) (fun y => [.many (rwFragBench y)]) w) := by
  obtain ⟨now, v, l⟩ := b
  have hm := Rds.head hx
  have hel := sl_el hl hx
  dsimp only at *
  refine enter (n := 36) (E := [(0, _)]) Try.func77 rfl rfl rfl rfl ?_
  repeat' (first
    |(refine gS ?_;(first
        |(apply F_field rfl rfl;(first|exact T.fl45_0|exact T.fl45_1|exact T.fl67_0|exact T.fl67_1|exact T.fl67_2))
        |(refine gLoad ?_;(first
            |(apply F_load1 rfl rfl;(focus ((repeat (first|exact mH|refine mT ?_));done));(first|exact T.sc3|exact T.sc4|exact T.sc27|exact T.sc43);rfl;(focus (first|exact free0|exact free1|(refine free2 ?_ ?_;(focus ((repeat (first|(apply apart1;(repeat (first|exact mH|refine mT ?_));done)|(apply apart2;(repeat (first|exact mH|refine mT ?_));done)|refine apart3 ?_));done));(first|exact free1|(refine free2 ?_ ?_;(focus ((repeat (first|(apply apart1;(repeat (first|exact mH|refine mT ?_));done)|(apply apart2;(repeat (first|exact mH|refine mT ?_));done)|refine apart3 ?_));done));exact free1))))))))
        |(refine gStore ?_;(first
            |(apply F_storeN rfl rfl;(focus (first|rfl|assumption|(simp only [List.append_nil,List.all_cons,List.all_nil,Bool.and_true,Bool.true_and,one_int,one_bool,one_string,one_slice,one_pointer, *];done)));(first|exact T.rw45|exact T.rw67);(focus ((repeat (first|exact Upd.here|apply Upd.there));done));(focus ((repeat (first|exact SetSeg.nil|apply SetSeg.here|apply SetSeg.there));done));(first|exact okst2|exact okst1|exact okst1'))))
        |(refine gCall ?_;(first
            |(apply F_len rfl rfl rfl;(focus exact ⟨_,_,by exact T.sl43⟩);(focus (first|exact len_nil|(apply len_given;assumption)|(apply len_row;(focus ((repeat (first|exact mH|refine mT ?_));done)))|(apply len_isN;assumption))))))
        |(refine gBin ?_;(first
            |(refine S_add rfl rfl ?_ rfl ?_;(focus (unfold rng;omega)))))
        |(refine S_box rfl rfl rfl ?_;intro kb)
        |(apply S_alloc rfl (hd := rfl);(first|exact T.zc45|exact T.zc67);intro kb)
        |(apply F_build2 rfl (hd := rfl);(first|exact T.st45|exact T.st67);(focus ((repeat (first|exact BuildR.nil|(apply BuildR.cons;(first|exact T.fs45_0|exact T.fs45_1|exact T.fs67_0|exact T.fs67_1|exact T.fs67_2);rfl;rfl;(focus ((repeat (first|exact SetSeg.nil|apply SetSeg.here|apply SetSeg.there));done)))|(apply BuildR.cons1;(first|exact T.fs45_0|exact T.fs45_1|exact T.fs67_0|exact T.fs67_1|exact T.fs67_2);(focus assumption);(focus ((repeat (first|exact SetSeg.nil|apply SetSeg.here|apply SetSeg.there));done)))));done)))
        |(refine S_done ?_)
        |((apply F_make0Z rfl rfl rfl T.el43;rfl;(focus omega);(focus omega);(focus (simp only [maxLen];omega));intro sv;(try (refine S_fact (row_one (v := sv) (by (focus ((repeat (first|exact mH|refine mT ?_));done)))) (fun hone => ?_)))))))
    |((first
        |(refine gSeqReg (i := 1) ?_;refine C_join (α := Nat × Nat × Nat × Value) (fun s => [(3,.pointer (some ⟨s.1,0,none⟩)),(2,.pointer (some ⟨s.2.1,0,none⟩)),(1,.pointer (some ⟨s.2.2.1,0,none⟩))]) (fun s => [.row s.2.2.2 67 3 0 [],.blk s.1 45 [.int .i64 now,s.2.2.2],.blk s.2.1 45 [.int .i64 0,.slice none 0 0],.blk s.2.2.1 45 (clFragBench (now,v,l))]) (fun s => s.2.2.2.oneCell' = true) ?_ ?_)
        |(refine C_seq ?_)
        |(refine gReg ?_;(first
            |(refine gReg (i := 0) ?_;refine C_plain [(0,2),(1,2)] (by kernel_rfl) (s := [⟨2,none,_,_,_⟩,⟨2,none,_,_,_⟩]) rfl ?_)
            |(refine gReg (i := 1) ?_;refine C_drawnT (.br [(0,0),(1,0),(2,0),(3,0),(4,0),(5,0)] (.fin [(6,1),(7,0),(8,1),(9,2)]) (.fin [(8,1),(6,1),(7,0),(9,2)])) [] T.mixed (by kernel_rfl) (s := (.br [⟨0,none,_,_,_⟩,⟨0,none,_,_,_⟩,⟨0,none,_,_,_⟩,⟨0,none,_,_,_⟩,⟨0,none,_,_,_⟩,⟨0,none,_,_,_⟩] (.fin [⟨1,none,_,_,_⟩,⟨0,none,_,_,_⟩,⟨1,none,_,_,_⟩,⟨2,none,_,_,_⟩]) (.fin [⟨1,none,_,_,_⟩,⟨1,none,_,_,_⟩,⟨0,none,_,_,_⟩,⟨2,none,_,_,_⟩]))) rfl ?_)))
        |(refine T_fin ?_)
        |(refine T_br ?_)))
    |(refine gE ?_;(first
        |(refine E_then ?_)
        |(refine E_calm ?_)
        | (refine E_both ?_ ?_))))
  all_goals try exact E_join (α := Nat × Nat × Nat × Value) (_,_,_,sv) hone ⟨rfl,rfl,rfl,trivial⟩ entA
  rintro ⟨k3, k2, k1, sv⟩ hone
  dsimp only at hone ⊢
  repeat' (first
    |(refine gS ?_;(first
        |(refine S_move rfl rfl ?_)
        |(apply F_field rfl rfl;(first|exact T.fl45_0|exact T.fl45_1|exact T.fl67_0|exact T.fl67_1|exact T.fl67_2))
        |(refine gLoad ?_;(first
            |(apply F_load1 rfl rfl;(focus ((repeat (first|exact mH|refine mT ?_));done));(first|exact T.sc3|exact T.sc4|exact T.sc27|exact T.sc43);rfl;(focus (first|exact free0|exact free1|(refine free2 ?_ ?_;(focus ((repeat (first|(apply apart1;(repeat (first|exact mH|refine mT ?_));done)|(apply apart2;(repeat (first|exact mH|refine mT ?_));done)|refine apart3 ?_));done));(first|exact free1|(refine free2 ?_ ?_;(focus ((repeat (first|(apply apart1;(repeat (first|exact mH|refine mT ?_));done)|(apply apart2;(repeat (first|exact mH|refine mT ?_));done)|refine apart3 ?_));done));exact free1))))))))
        |(refine gCall ?_;(first
            |(apply F_len rfl rfl rfl;(focus exact ⟨_,_,by exact T.sl43⟩);(focus (first|exact len_nil|(apply len_given;assumption)|(apply len_row;(focus ((repeat (first|exact mH|refine mT ?_));done)))|(apply len_isN;assumption))))))
        |(refine S_done ?_)))
    |((first
        |(refine C_seq ?_)
        |(refine gReg ?_;(first
            |(refine gReg (i := 2) ?_;refine C_plain [(0,0),(1,0),(2,0),(3,0)] (by kernel_rfl) (s := [⟨0,none,_,_,_⟩,⟨0,none,_,_,_⟩,⟨0,none,_,_,_⟩,⟨0,none,_,_,_⟩]) rfl ?_)))
        |(refine C_block ?_)))
    |(refine gE ?_;(first
        |(refine E_then ?_))))
  refine C_gnil ?_
  refine C_loop (α := Nat × Value × List MFragSlot) (fun s => [(17, .int .i64 (s.1 : Int)), (16, .int .i64 (l.length : Int)), (15, v), (3, .pointer (some ⟨k3, 0, none⟩)), (2, .pointer (some ⟨k2, 0, none⟩))]) (fun s => [.many (s.2.2.flatMap rwFragSlot), .row s.2.1 67 3 s.2.2.length (s.2.2.flatMap clFragSlot), .blk k3 45 [.int .i64 now, s.2.1], .blk k2 45 [.int .i64 0, .slice none 0 0]]) (fun s => s.1 ≤ l.length ∧ s.2.2.length = s.1 ∧ s.2.1.oneCell' = true ∧ s.2.2.map ctFragSlot = (l.take s.1).map ctFragSlot) (fun s => l.length - s.1) (0, sv, []) ⟨Nat.zero_le _, rfl, hone, rfl⟩ ⟨rfl, rfl, rfl, rfl, rfl, trivial⟩ (List.sublist_append_left [_, _, _, _] [_]) ?_
  rintro ⟨i, sv, dn⟩ ⟨hi, hdn, hone, hct⟩
  dsimp only at *
  repeat' (first
    |(refine gS ?_;(first
        |(refine S_move rfl rfl ?_)
        |(apply F_field rfl rfl;(first|exact T.fl45_0|exact T.fl45_1|exact T.fl67_0|exact T.fl67_1|exact T.fl67_2))
        |(apply F_idx rfl rfl rfl;exact T.sl43;(focus rfl);(focus (first|exact len_nil|(apply len_given;assumption)|(apply len_row;(focus ((repeat (first|exact mH|refine mT ?_));done)))|(apply len_isN;assumption)));(focus omega))
        |(apply F_bs rfl rfl;exact T.el43;rfl;rfl;rfl;rfl;(focus ((repeat (first|exact Dense.nil|(apply Dense.cons;rfl;rfl)));done));intro sv;(try (refine S_fact (row_one (v := sv) (by (focus ((repeat (first|exact mH|refine mT ?_));done)))) (fun hone => ?_))))
        |(refine gLoad ?_;(first
            |(apply F_load1 rfl rfl;(focus ((repeat (first|exact mH|refine mT ?_));done));(first|exact T.sc3|exact T.sc4|exact T.sc27|exact T.sc43);rfl;(focus (first|exact free0|exact free1|(refine free2 ?_ ?_;(focus ((repeat (first|(apply apart1;(repeat (first|exact mH|refine mT ?_));done)|(apply apart2;(repeat (first|exact mH|refine mT ?_));done)|refine apart3 ?_));done));(first|exact free1|(refine free2 ?_ ?_;(focus ((repeat (first|(apply apart1;(repeat (first|exact mH|refine mT ?_));done)|(apply apart2;(repeat (first|exact mH|refine mT ?_));done)|refine apart3 ?_));done));exact free1))))))
            |(apply F_loadAll rfl rfl;(focus ((repeat (first|exact mH|refine mT ?_));done));(first|exact T.rw45|exact T.rw67);(focus (first|exact free0|exact free1|(refine free2 ?_ ?_;(focus ((repeat (first|(apply apart1;(repeat (first|exact mH|refine mT ?_));done)|(apply apart2;(repeat (first|exact mH|refine mT ?_));done)|refine apart3 ?_));done));(first|exact free1|(refine free2 ?_ ?_;(focus ((repeat (first|(apply apart1;(repeat (first|exact mH|refine mT ?_));done)|(apply apart2;(repeat (first|exact mH|refine mT ?_));done)|refine apart3 ?_));done));exact free1))))))
            |(apply F_loadSN rfl rfl;(first|exact T.rw45|exact T.rw67);(focus (first|exact rd_nil|(apply rd_given;(focus assumption);(focus (first|exact freeG0|exact freeG1|(apply freeG2;(focus ((repeat (first|exact mH|refine mT ?_));done));(first|exact freeG1|(apply freeG2;(focus ((repeat (first|exact mH|refine mT ?_));done));exact freeG1))))))|(apply rd_row;(focus ((repeat (first|exact mH|refine mT ?_));done));(focus (first|exact freeR0|exact freeR1|(refine freeR2 ?_ ?_;(focus ((repeat (first|(apply apartR1;(focus ((repeat (first|exact mH|refine mT ?_));done));done)|(apply apartR2;(focus ((repeat (first|exact mH|refine mT ?_));done));done)|refine apartR3 ?_));done));(first|exact freeR1|(refine freeR2 ?_ ?_;(focus ((repeat (first|(apply apartR1;(focus ((repeat (first|exact mH|refine mT ?_));done));done)|(apply apartR2;(focus ((repeat (first|exact mH|refine mT ?_));done));done)|refine apartR3 ?_));done));exact freeR1))))))));(focus (first|(focus (apply at_flat;(focus (intro _;rfl));(focus assumption)))|exact at_self));rfl;rfl)))
        |(refine gStore ?_;(first
            |(apply F_store1 rfl rfl;(focus (first|rfl|assumption));(first|exact T.sc3|exact T.sc4|exact T.sc27|exact T.sc43);(focus ((repeat (first|exact Upd.here|apply Upd.there));done));(focus ((repeat (first|exact SetSeg.nil|apply SetSeg.here|apply SetSeg.there));done));(first|exact okst2|exact okst1|exact okst1'))
            |(apply F_storeN rfl rfl;(focus (first|rfl|assumption|(simp only [List.append_nil,List.all_cons,List.all_nil,Bool.and_true,Bool.true_and,one_int,one_bool,one_string,one_slice,one_pointer, *];done)));(first|exact T.rw45|exact T.rw67);(focus ((repeat (first|exact Upd.here|apply Upd.there));done));(focus ((repeat (first|exact SetSeg.nil|apply SetSeg.here|apply SetSeg.there));done));(first|exact okst2|exact okst1|exact okst1'))))
        |(refine gCall ?_;(first
            |(show GoS _ _ _ _ _ _ _ (⟨_,_,_,.call ⟨.value (.func 105),_,_⟩,_⟩ :: _);refine S_callX (f := 105) rfl T.pf105 rfl (fun w hst => copyPackets_c _ _ hq.2.2.1 hq.2.2.2 w (Rds.given hst hq.2.1)) rfl (fun zz hzz => ?_);simp only [List.cons_append,List.nil_append];revert hzz;revert zz;intro y hy;refine S_fact (fun w hs => Rds.one1 (Rds.many hs (by (focus ((repeat (first|exact mH|refine mT ?_));done))))) (fun hone => ?_))
            |(apply F_append rfl rfl rfl rfl;exact T.el43;(focus (intro sv;(focus ((repeat (first|exact Upd.here|apply Upd.there));done))));(focus (first|exact rd_nil|(apply rd_given;(focus assumption);(focus (first|exact freeG0|exact freeG1|(apply freeG2;(focus ((repeat (first|exact mH|refine mT ?_));done));(first|exact freeG1|(apply freeG2;(focus ((repeat (first|exact mH|refine mT ?_));done));exact freeG1))))))|(apply rd_row;(focus ((repeat (first|exact mH|refine mT ?_));done));(focus (first|exact freeR0|exact freeR1|(refine freeR2 ?_ ?_;(focus ((repeat (first|(apply apartR1;(focus ((repeat (first|exact mH|refine mT ?_));done));done)|(apply apartR2;(focus ((repeat (first|exact mH|refine mT ?_));done));done)|refine apartR3 ?_));done));(first|exact freeR1|(refine freeR2 ?_ ?_;(focus ((repeat (first|(apply apartR1;(focus ((repeat (first|exact mH|refine mT ?_));done));done)|(apply apartR2;(focus ((repeat (first|exact mH|refine mT ?_));done));done)|refine apartR3 ?_));done));exact freeR1))))))));(focus (first|rfl|assumption|(apply all_flat;intro _ _;rfl)|(rw [List.append_nil];assumption)|(simp only [List.append_nil,List.all_cons,List.all_nil,Bool.and_true,Bool.true_and,one_int,one_bool,one_string,one_slice,one_pointer, *];done)|simp));(first|exact okst2|exact okst1|exact okst1');(focus (simp only [maxLen];first|omega|(simp only [List.length_take,List.length_drop];omega)));(focus (first|omega|(simp only [List.length_take,List.length_drop];omega)));intro sv;(try (refine S_fact (row_one (v := sv) (by (focus ((repeat (first|exact mH|refine mT ?_));done)))) (fun hone => ?_))))))
        |(refine gBin ?_;(first
            |(refine S_lss rfl rfl rfl ?_)
            |(refine S_add rfl rfl ?_ rfl ?_;(focus (unfold rng;omega)))))
        |(apply S_alloc rfl (hd := rfl);(first|exact T.zc45|exact T.zc67);intro kb)
        |(apply F_build2 rfl (hd := rfl);(first|exact T.st45|exact T.st67);(focus ((repeat (first|exact BuildR.nil|(apply BuildR.cons;(first|exact T.fs45_0|exact T.fs45_1|exact T.fs67_0|exact T.fs67_1|exact T.fs67_2);rfl;rfl;(focus ((repeat (first|exact SetSeg.nil|apply SetSeg.here|apply SetSeg.there));done)))|(apply BuildR.cons1;(first|exact T.fs45_0|exact T.fs45_1|exact T.fs67_0|exact T.fs67_1|exact T.fs67_2);(focus assumption);(focus ((repeat (first|exact SetSeg.nil|apply SetSeg.here|apply SetSeg.there));done)))));done)))
        |(refine S_done ?_)))
    |((first
        |(refine C_seq ?_)
        |(refine gReg ?_;(first
            |(refine gReg (i := 3) ?_;refine C_plain [(0,0)] (by kernel_rfl) (s := [⟨0,none,_,_,_⟩]) rfl ?_)
            |(refine gReg (i := 4) ?_;refine C_plain [(0,0),(1,0),(2,2),(3,2)] (by kernel_rfl) (s := [⟨0,none,_,_,_⟩,⟨0,none,_,_,_⟩,⟨2,none,_,_,_⟩,⟨2,none,_,_,_⟩]) rfl ?_)
            |(refine gReg (i := 5) ?_;refine C_drawn [(0,0),(1,0),(2,0),(3,0),(5,0),(6,0),(7,0),(8,0),(4,1),(9,0),(10,1),(11,2),(12,0),(13,2)] [] T.mixed (by kernel_rfl) (s := [⟨0,none,_,_,_⟩,⟨0,none,_,_,_⟩,⟨0,none,_,_,_⟩,⟨0,none,_,_,_⟩,⟨0,none,_,_,_⟩,⟨0,none,_,_,_⟩,⟨0,none,_,_,_⟩,⟨0,none,_,_,_⟩,⟨1,none,_,_,_⟩,⟨0,none,_,_,_⟩,⟨1,none,_,_,_⟩,⟨2,none,_,_,_⟩,⟨0,none,_,_,_⟩,⟨2,none,_,_,_⟩]) rfl ?_)
            |(refine gReg (i := 6) ?_;refine C_plain [(0,0),(1,0)] (by kernel_rfl) (s := [⟨0,none,_,_,_⟩,⟨0,none,_,_,_⟩]) rfl ?_)
            |(refine gReg (i := 7) ?_;refine C_plain [(0,0),(1,2)] (by kernel_rfl) (s := [⟨0,none,_,_,_⟩,⟨2,none,_,_,_⟩]) rfl ?_)))
        |(refine C_split rfl ?_ ?_ <;> (intro hb;(try simp only [decide_eq_true_eq] at hb);(try simp only [decide_eq_false_iff_not] at hb);(try simp only [Bool.not_eq_true'] at hb);(try simp only [Bool.not_eq_false'] at hb);(try (exfalso;first|contradiction|omega));(try (have hq := hel i hb));(try (have hq1 := hq.1));(try (have hq7 := oneFragSlot hq.2.1))))
        |(refine C_skip ?_)
        |(refine C_exit ?_)
        |(refine C_ret ?_)
        |(refine C_block ?_)))
    |(refine gE ?_;(first
        |(refine E_then ?_)
        |(refine E_thenX ?_)
        |(refine E_block ?_)
        |(refine E_blockY ?_)
        |(refine E_calm ?_)
        |(apply E_ret1 rfl;(first|exact Res.tmp rfl|(apply R_cellAll rfl;(focus ((repeat (first|exact mH|refine mT ?_));done));(first|exact T.rw45|exact T.rw67))|(apply R_cell1 rfl;(focus ((repeat (first|exact mH|refine mT ?_));done));(first|exact T.sc3|exact T.sc4|exact T.sc27|exact T.sc43)))))))
  · refine E_roundS (α := Nat × Value × List MFragSlot) (i + 1,sv,dn ++ [(y,(ix l i).2.1,(ix l i).2.2)]) ⟨by dsimp only;omega,by simp [hdn],hone,?_⟩ (by dsimp only;omega) ⟨rfl,rfl,rfl,rfl,rfl,trivial⟩ entA
    dsimp only
    rw [List.map_append, hct, take_snoc hq1, List.map_append, List.map_singleton, List.map_singleton, slot_ct hy]
  · have e : i = l.length := by omega
    refine retX (now,sv,dn) ?_ rfl entA
    simp only [ctFragBench]
    rw [hct, e, List.take_length]
set_option maxRecDepth 8192 in
theorem l14Copy_c (b : MFragBench) (hn : b.2.2.length ≤ 1048576) (hl : Short b.2.2) (w : World) (hx : Rds w (rwFragBench b)) : Calls Try.prog 76 #[.agg (clFragBench b).toArray] w (RetX (fun y : MFragBench => ctFragBench y = ctFragBench b) (fun y => .agg (clFragBench y).toArray) (fun y => [.many (rwFragBench y)]) w) := by
  obtain ⟨now, v, l⟩ := b
  have hm := Rds.head hx
  have hel := sl_el hl hx
  dsimp only at *
  refine enter (n := 42) (E := [(0, _)]) Try.func76 rfl rfl rfl rfl ?_
  repeat' (first
    |(refine gS ?_;(first
        |(apply F_field rfl rfl;(first|exact T.fl45_0|exact T.fl45_1|exact T.fl67_0|exact T.fl67_1|exact T.fl67_2))
        |(apply F_bs0 rfl rfl;exact T.el43;rfl;intro sv;(try (refine S_fact (row_one (v := sv) (by (focus ((repeat (first|exact mH|refine mT ?_));done)))) (fun hone => ?_))))
        |(refine gLoad ?_;(first
            |(apply F_load1 rfl rfl;(focus ((repeat (first|exact mH|refine mT ?_));done));(first|exact T.sc3|exact T.sc4|exact T.sc27|exact T.sc43);rfl;(focus (first|exact free0|exact free1|(refine free2 ?_ ?_;(focus ((repeat (first|(apply apart1;(repeat (first|exact mH|refine mT ?_));done)|(apply apart2;(repeat (first|exact mH|refine mT ?_));done)|refine apart3 ?_));done));(first|exact free1|(refine free2 ?_ ?_;(focus ((repeat (first|(apply apart1;(repeat (first|exact mH|refine mT ?_));done)|(apply apart2;(repeat (first|exact mH|refine mT ?_));done)|refine apart3 ?_));done));exact free1))))))))
        |(refine gStore ?_;(first
            |(apply F_storeN rfl rfl;(focus (first|rfl|assumption|(simp only [List.append_nil,List.all_cons,List.all_nil,Bool.and_true,Bool.true_and,one_int,one_bool,one_string,one_slice,one_pointer, *];done)));exact T.rw45;(focus ((repeat (first|exact Upd.here|apply Upd.there));done));(focus ((repeat (first|exact SetSeg.nil|apply SetSeg.here|apply SetSeg.there));done));(first|exact okst2|exact okst1|exact okst1'))))
        |(refine S_box rfl rfl rfl ?_;intro kb)
        |(apply S_alloc rfl (hd := rfl);(first|exact T.zc45|exact T.zc67);intro kb)
        |(apply F_build2 rfl (hd := rfl);(first|exact T.st45|exact T.st67);(focus ((repeat (first|exact BuildR.nil|(apply BuildR.cons;(first|exact T.fs45_0|exact T.fs45_1|exact T.fs67_0|exact T.fs67_1|exact T.fs67_2);rfl;rfl;(focus ((repeat (first|exact SetSeg.nil|apply SetSeg.here|apply SetSeg.there));done)))|(apply BuildR.cons1;(first|exact T.fs45_0|exact T.fs45_1|exact T.fs67_0|exact T.fs67_1|exact T.fs67_2);(focus assumption);(focus ((repeat (first|exact SetSeg.nil|apply SetSeg.here|apply SetSeg.there));done)))));done)))
        |(refine S_done ?_)))
    |(refine gC ?_;(first
        |(refine gSeqReg (i := 1) ?_;refine C_join (α := Nat × Nat × Nat × Value) (fun s => [(3,.pointer (some ⟨s.1,0,none⟩)),(2,.pointer (some ⟨s.2.1,0,none⟩)),(1,.pointer (some ⟨s.2.2.1,0,none⟩))]) (fun s => [.row s.2.2.2 67 3 0 [],.blk s.1 45 [.int .i64 now,s.2.2.2],.blk s.2.1 45 [.int .i64 0,.slice none 0 0],.blk s.2.2.1 45 (clFragBench (now,v,l))]) (fun s => s.2.2.2.oneCell' = true) ?_ ?_)
        |(refine C_seq ?_)
        |(refine gReg ?_;(first
            |(refine gReg (i := 0) ?_;refine C_plain [(0,2),(1,2)] (by kernel_rfl) (s := [⟨2,none,_,_,_⟩,⟨2,none,_,_,_⟩]) rfl ?_)
            |(refine gReg (i := 1) ?_;refine C_plain [(0,0),(1,0),(2,2),(3,0),(4,2),(5,2)] (by kernel_rfl) (s := [⟨0,none,_,_,_⟩,⟨0,none,_,_,_⟩,⟨2,none,_,_,_⟩,⟨0,none,_,_,_⟩,⟨2,none,_,_,_⟩,⟨2,none,_,_,_⟩]) rfl ?_)))))
    |(refine gE ?_;(first
        |(refine E_then ?_))))
  all_goals try exact E_join (α := Nat × Nat × Nat × Value) (_,_,_,sv) hone ⟨rfl,rfl,rfl,trivial⟩ entA
  rintro ⟨k3, k2, k1, sv⟩ hone
  dsimp only at hone ⊢
  repeat' (first
    |(refine gS ?_;(first
        |(refine S_assign rfl rfl ?_)
        |(refine S_done ?_)))
    |(refine gC ?_;(first
        |(refine C_seq ?_)
        |(refine gReg ?_;(first
            |(refine gReg (i := 2) ?_;refine C_plain [(0,0)] (by kernel_rfl) (s := [⟨0,none,_,_,_⟩]) rfl ?_)))
        |(refine C_block ?_)))
    |(refine gE ?_;(first
        |(refine E_then ?_))))
  refine C_gnil ?_
  refine C_loop (α := Nat × Value × List MFragSlot) (fun s => [(4, .int .i64 (s.1 : Int)), (3, .pointer (some ⟨k3, 0, none⟩)), (2, .pointer (some ⟨k2, 0, none⟩)), (1, .pointer (some ⟨k1, 0, none⟩))]) (fun s => [.many (s.2.2.flatMap rwFragSlot), .row s.2.1 67 3 s.2.2.length (s.2.2.flatMap clFragSlot), .blk k3 45 [.int .i64 now, s.2.1], .blk k2 45 [.int .i64 0, .slice none 0 0], .blk k1 45 (clFragBench (now, v, l))]) (fun s => s.1 ≤ l.length ∧ s.2.2.length = s.1 ∧ s.2.1.oneCell' = true ∧ s.2.2.map ctFragSlot = (l.take s.1).map ctFragSlot) (fun s => l.length - s.1) (0, sv, []) ⟨Nat.zero_le _, rfl, hone, rfl⟩ ⟨rfl, rfl, rfl, rfl, trivial⟩ (List.Sublist.refl _) ?_
  rintro ⟨i, sv, dn⟩ ⟨hi, hdn, hone, hct⟩
  dsimp only at *
  repeat' (first
    |(refine gS ?_;(first
        |(refine S_move rfl rfl ?_)
        |(refine S_assign rfl rfl ?_)
        |(apply F_field rfl rfl;(first|exact T.fl45_0|exact T.fl45_1|exact T.fl67_0|exact T.fl67_1|exact T.fl67_2))
        |(apply F_fieldS rfl rfl;(first|exact T.fl45_0|exact T.fl45_1|exact T.fl67_0|exact T.fl67_1|exact T.fl67_2);(focus (first|exact len_nil|(apply len_given;assumption)|(apply len_row;(focus ((repeat (first|exact mH|refine mT ?_));done)))|(apply len_isN;assumption)));(focus omega))
        |(apply F_idx rfl rfl rfl;exact T.sl43;(focus rfl);(focus (first|exact len_nil|(apply len_given;assumption)|(apply len_row;(focus ((repeat (first|exact mH|refine mT ?_));done)))|(apply len_isN;assumption)));(focus omega))
        |(apply F_bs rfl rfl;exact T.el43;rfl;rfl;rfl;rfl;(focus ((repeat (first|exact Dense.nil|(apply Dense.cons;rfl;rfl)));done));intro sv;(try (refine S_fact (row_one (v := sv) (by (focus ((repeat (first|exact mH|refine mT ?_));done)))) (fun hone => ?_))))
        |(refine gLoad ?_;(first
            |(apply F_load1 rfl rfl;(focus ((repeat (first|exact mH|refine mT ?_));done));(first|exact T.sc3|exact T.sc4|exact T.sc27|exact T.sc43);rfl;(focus (first|exact free0|exact free1|(refine free2 ?_ ?_;(focus ((repeat (first|(apply apart1;(repeat (first|exact mH|refine mT ?_));done)|(apply apart2;(repeat (first|exact mH|refine mT ?_));done)|refine apart3 ?_));done));(first|exact free1|(refine free2 ?_ ?_;(focus ((repeat (first|(apply apart1;(repeat (first|exact mH|refine mT ?_));done)|(apply apart2;(repeat (first|exact mH|refine mT ?_));done)|refine apart3 ?_));done));exact free1))))))
            |(apply F_loadAll rfl rfl;(focus ((repeat (first|exact mH|refine mT ?_));done));exact T.rw45;(focus (first|exact free0|exact free1|(refine free2 ?_ ?_;(focus ((repeat (first|(apply apart1;(repeat (first|exact mH|refine mT ?_));done)|(apply apart2;(repeat (first|exact mH|refine mT ?_));done)|refine apart3 ?_));done));(first|exact free1|(refine free2 ?_ ?_;(focus ((repeat (first|(apply apart1;(repeat (first|exact mH|refine mT ?_));done)|(apply apart2;(repeat (first|exact mH|refine mT ?_));done)|refine apart3 ?_));done));exact free1))))))
            |(apply F_loadS1 rfl rfl;(first|exact T.sc3|exact T.sc4|exact T.sc27|exact T.sc43);(focus (first|exact rd_nil|(apply rd_given;(focus assumption);(focus (first|exact freeG0|exact freeG1|(apply freeG2;(focus ((repeat (first|exact mH|refine mT ?_));done));(first|exact freeG1|(apply freeG2;(focus ((repeat (first|exact mH|refine mT ?_));done));exact freeG1))))))|(apply rd_row;(focus ((repeat (first|exact mH|refine mT ?_));done));(focus (first|exact freeR0|exact freeR1|(refine freeR2 ?_ ?_;(focus ((repeat (first|(apply apartR1;(focus ((repeat (first|exact mH|refine mT ?_));done));done)|(apply apartR2;(focus ((repeat (first|exact mH|refine mT ?_));done));done)|refine apartR3 ?_));done));(first|exact freeR1|(refine freeR2 ?_ ?_;(focus ((repeat (first|(apply apartR1;(focus ((repeat (first|exact mH|refine mT ?_));done));done)|(apply apartR2;(focus ((repeat (first|exact mH|refine mT ?_));done));done)|refine apartR3 ?_));done));exact freeR1))))))));(focus (first|(apply at_cell;(focus (apply at_flat;(focus (intro _;rfl));(focus assumption)));rfl)|(apply at_cell0;(focus (apply at_flat;(focus (intro _;rfl));(focus assumption)));rfl)|(apply at_cell;(focus (apply at_mid0;(focus assumption)));rfl)|(apply at_cell0;(focus (apply at_mid0;(focus assumption)));rfl)|rfl)))))
        |(refine gStore ?_;(first
            |(apply F_store1 rfl rfl;(focus (first|rfl|assumption));(first|exact T.sc3|exact T.sc4|exact T.sc27|exact T.sc43);(focus ((repeat (first|exact Upd.here|apply Upd.there));done));(focus ((repeat (first|exact SetSeg.nil|apply SetSeg.here|apply SetSeg.there));done));(first|exact okst2|exact okst1|exact okst1'))
            |(apply F_storeN rfl rfl;(focus (first|rfl|assumption|(simp only [List.append_nil,List.all_cons,List.all_nil,Bool.and_true,Bool.true_and,one_int,one_bool,one_string,one_slice,one_pointer, *];done)));exact T.rw45;(focus ((repeat (first|exact Upd.here|apply Upd.there));done));(focus ((repeat (first|exact SetSeg.nil|apply SetSeg.here|apply SetSeg.there));done));(first|exact okst2|exact okst1|exact okst1'))))
        |(refine gCall ?_;(first
            |(show GoS _ _ _ _ _ _ _ (⟨_,_,_,.call ⟨.value (.func 104),_,_⟩,_⟩ :: _);refine S_callX (f := 104) rfl T.pf104 rfl (fun w hst => l14Pieces_c _ _ hq.2.2.1 hq.2.2.2 w (Rds.given hst hq.2.1)) rfl (fun zz hzz => ?_);simp only [List.cons_append,List.nil_append];revert hzz;revert zz;intro y hy;refine S_fact (fun w hs => Rds.one1 (Rds.many hs (by (focus ((repeat (first|exact mH|refine mT ?_));done))))) (fun hone => ?_))
            |(apply F_len rfl rfl rfl;(focus exact ⟨_,_,by exact T.sl43⟩);(focus (first|exact len_nil|(apply len_given;assumption)|(apply len_row;(focus ((repeat (first|exact mH|refine mT ?_));done)))|(apply len_isN;assumption))))
            |(apply F_append rfl rfl rfl rfl;exact T.el43;(focus (intro sv;(focus ((repeat (first|exact Upd.here|apply Upd.there));done))));(focus (first|exact rd_nil|(apply rd_given;(focus assumption);(focus (first|exact freeG0|exact freeG1|(apply freeG2;(focus ((repeat (first|exact mH|refine mT ?_));done));(first|exact freeG1|(apply freeG2;(focus ((repeat (first|exact mH|refine mT ?_));done));exact freeG1))))))|(apply rd_row;(focus ((repeat (first|exact mH|refine mT ?_));done));(focus (first|exact freeR0|exact freeR1|(refine freeR2 ?_ ?_;(focus ((repeat (first|(apply apartR1;(focus ((repeat (first|exact mH|refine mT ?_));done));done)|(apply apartR2;(focus ((repeat (first|exact mH|refine mT ?_));done));done)|refine apartR3 ?_));done));(first|exact freeR1|(refine freeR2 ?_ ?_;(focus ((repeat (first|(apply apartR1;(focus ((repeat (first|exact mH|refine mT ?_));done));done)|(apply apartR2;(focus ((repeat (first|exact mH|refine mT ?_));done));done)|refine apartR3 ?_));done));exact freeR1))))))));(focus (first|rfl|assumption|(apply all_flat;intro _ _;rfl)|(rw [List.append_nil];assumption)|(simp only [List.append_nil,List.all_cons,List.all_nil,Bool.and_true,Bool.true_and,one_int,one_bool,one_string,one_slice,one_pointer, *];done)|simp));(first|exact okst2|exact okst1|exact okst1');(focus (simp only [maxLen];first|omega|(simp only [List.length_take,List.length_drop];omega)));(focus (first|omega|(simp only [List.length_take,List.length_drop];omega)));intro sv;(try (refine S_fact (row_one (v := sv) (by (focus ((repeat (first|exact mH|refine mT ?_));done)))) (fun hone => ?_))))))
        |(refine gBin ?_;(first
            |(refine S_lss rfl rfl rfl ?_)
            |(refine S_add rfl rfl ?_ rfl ?_;(focus (unfold rng;omega)))))
        |(apply F_build2 rfl (hd := rfl);(first|exact T.st45|exact T.st67);(focus ((repeat (first|exact BuildR.nil|(apply BuildR.cons;(first|exact T.fs45_0|exact T.fs45_1|exact T.fs67_0|exact T.fs67_1|exact T.fs67_2);rfl;rfl;(focus ((repeat (first|exact SetSeg.nil|apply SetSeg.here|apply SetSeg.there));done)))|(apply BuildR.cons1;(first|exact T.fs45_0|exact T.fs45_1|exact T.fs67_0|exact T.fs67_1|exact T.fs67_2);(focus assumption);(focus ((repeat (first|exact SetSeg.nil|apply SetSeg.here|apply SetSeg.there));done)))));done)))
        |(refine S_done ?_)))
    |(refine gC ?_;(first
        |(refine C_seq ?_)
        |(refine gReg ?_;(first
            |(refine gReg (i := 3) ?_;refine C_plain [(0,0),(1,0),(2,0),(3,0),(4,0)] (by kernel_rfl) (s := [⟨0,none,_,_,_⟩,⟨0,none,_,_,_⟩,⟨0,none,_,_,_⟩,⟨0,none,_,_,_⟩,⟨0,none,_,_,_⟩]) rfl ?_)
            |(refine gReg (i := 5) ?_;refine C_drawn [(0,0),(1,0),(2,0),(3,0),(4,0),(5,0),(6,0),(7,0),(9,0),(10,0),(11,0),(12,0),(13,0),(14,0),(15,0),(16,0),(17,0),(18,0),(19,0),(20,0),(8,1),(21,0),(22,1),(23,2),(24,0),(25,2)] [] T.mixed (by kernel_rfl) (s := [⟨0,none,_,_,_⟩,⟨0,none,_,_,_⟩,⟨0,none,_,_,_⟩,⟨0,none,_,_,_⟩,⟨0,none,_,_,_⟩,⟨0,none,_,_,_⟩,⟨0,none,_,_,_⟩,⟨0,none,_,_,_⟩,⟨0,none,_,_,_⟩,⟨0,none,_,_,_⟩,⟨0,none,_,_,_⟩,⟨0,none,_,_,_⟩,⟨0,none,_,_,_⟩,⟨0,none,_,_,_⟩,⟨0,none,_,_,_⟩,⟨0,none,_,_,_⟩,⟨0,none,_,_,_⟩,⟨0,none,_,_,_⟩,⟨0,none,_,_,_⟩,⟨0,none,_,_,_⟩,⟨1,none,_,_,_⟩,⟨0,none,_,_,_⟩,⟨1,none,_,_,_⟩,⟨2,none,_,_,_⟩,⟨0,none,_,_,_⟩,⟨2,none,_,_,_⟩]) rfl ?_)
            |(refine gReg (i := 4) ?_;refine C_plain [(0,0),(1,0),(2,0)] (by kernel_rfl) (s := [⟨0,none,_,_,_⟩,⟨0,none,_,_,_⟩,⟨0,none,_,_,_⟩]) rfl ?_)
            |(refine gReg (i := 6) ?_;refine C_plain [(0,0),(1,2)] (by kernel_rfl) (s := [⟨0,none,_,_,_⟩,⟨2,none,_,_,_⟩]) rfl ?_)))
        |(refine C_split rfl ?_ ?_ <;> (intro hb;(try simp only [decide_eq_true_eq] at hb);(try simp only [decide_eq_false_iff_not] at hb);(try simp only [Bool.not_eq_true'] at hb);(try simp only [Bool.not_eq_false'] at hb);(try (exfalso;first|contradiction|omega));(try (have hq := hel i hb));(try (have hq1 := hq.1));(try (have hq7 := oneFragSlot hq.2.1))))
        |(refine C_skip ?_)
        |(refine C_exit ?_)
        |(refine C_ret ?_)
        |(refine C_block ?_)))
    |(refine gE ?_;(first
        |(refine E_then ?_)
        |(refine E_thenX ?_)
        |(refine E_block ?_)
        |(refine E_blockY ?_)
        |(refine E_calm ?_)
        |(apply E_ret1 rfl;(first|exact Res.tmp rfl|(apply R_cellAll rfl;(focus ((repeat (first|exact mH|refine mT ?_));done));exact T.rw45)|(apply R_cell1 rfl;(focus ((repeat (first|exact mH|refine mT ?_));done));(first|exact T.sc3|exact T.sc4|exact T.sc27|exact T.sc43)))))))
  · refine E_roundS (α := Nat × Value × List MFragSlot) (i + 1,sv,dn ++ [(y,(ix l i).2.1,(ix l i).2.2)]) ⟨by dsimp only;omega,by simp [hdn],hone,?_⟩ (by dsimp only;omega) ⟨rfl,rfl,rfl,rfl,trivial⟩ entA
    dsimp only
    rw [List.map_append, hct, take_snoc hq1, List.map_append, List.map_singleton, List.map_singleton, slot_ct hy]
  · have e : i = l.length := by omega
    refine retX (now,sv,dn) ?_ rfl entA
    simp only [ctFragBench]
    rw [hct, e, List.take_length]
end Go.Proofs.Ytodhjpnfokkfeaa

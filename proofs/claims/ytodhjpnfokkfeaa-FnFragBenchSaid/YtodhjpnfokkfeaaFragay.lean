/- The place of a packet's slot: the laws' own. -/
import Derived.Test.YtodhjpnfokkfeaaFragau
import Derived.Test.YtodhjpnfokkfeaaFragai
set_option linter.unusedSimpArgs false
set_option linter.unusedVariables false
namespace Go.Proofs.Ytodhjpnfokkfeaa
open Go Go.RowKit
attribute [local irreducible] Calls GoS GoC GoE GoT Mid IsEq IsFl IsSc IsRw IsSl IsEl IsSt IsFs sp Mem Rd LenOf szR joinC alikeC likeC
theorem wfOf_c (b : MFragBench) (p : MFragPacket) (hl : Short b.2.2) (he : ∀ y ∈ b.2.2, 1 ≤ y.1.2.length ∧ fragOk (headS y) = true) (hp : p.2.2.2.2.2.2.2.2.2.length ≤ 1048576) (hpo : fragOk (ctFragPacket p) = true) (w : World) (hx : Rds w (rwFragBench b)) (hr : Rds w (rwFragPacket p)) :
    Calls Try.prog 44 #[.agg (clFragBench b).toArray, .agg (clFragPacket p).toArray] w (RetX (firstOf (fun y => likeC (headS y) (ctFragPacket p)) b.2.2) (fun k => .int .i64 k) (fun _ => []) w) := by
  obtain ⟨bn, v, l⟩ := b
  have hx0 : Rds w (rwSFragSlot (v, l)) := hx
  have hm := Rds.head hx
  have hlen := hm.len
  simp only [maxLen] at hlen
  have hel := sl_el hl hx0
  dsimp only at *
  have hal1 : ∀ y ∈ l, alikeC (headS y) (ctFragPacket p) = likeC (headS y) (ctFragPacket p) := fun y hy => by
    unfold alikeC; rw [(he y hy).2, hpo]; rfl
  refine enter (n := 24) (E := [(0, _), (1, _)]) Try.func44 rfl rfl rfl rfl ?_
  repeat' (first
    |(refine gS ?_;(first
        |(refine S_assign rfl rfl ?_)
        |(refine S_box rfl rfl rfl ?_;intro kb)
        |(refine S_done ?_)))
    |(refine gC ?_;(first
        |(refine C_seq ?_)
        |(refine gReg ?_;(first
            |(refine gReg (i := 0) ?_;refine C_plain [(0,2),(1,2),(2,0)] (by kernel_rfl) (s := [⟨2,none,_,_,_⟩,⟨2,none,_,_,_⟩,⟨0,none,_,_,_⟩]) rfl ?_)
            |(refine gReg (i := 1) ?_;refine C_plain [(0,0)] (by kernel_rfl) (s := [⟨0,none,_,_,_⟩]) rfl ?_)))
        |(refine C_block ?_)))
    |(refine gE ?_;(first
        |(refine E_then ?_))))
  revert kb; intro kr
  refine C_loop (α := Nat) (fun i => [(5, .int .i64 (i : Int)), (4, .int .i64 0), (3, .pointer (some ⟨kr, 0, none⟩)), (2, .pointer (some ⟨kb, 0, none⟩))]) (fun _ => [.blk kr 24 (clFragPacket p), .blk kb 45 (clFragBench (bn, v, l))]) (fun i => i ≤ l.length ∧ ∀ j, j < i → likeC (headS (ix l j)) (ctFragPacket p) = false) (fun i => l.length - i) 0 ⟨Nat.zero_le _, fun j h => by omega⟩ ⟨rfl, rfl, rfl, rfl, trivial⟩ (List.Sublist.refl _) ?_
  rintro i ⟨hi, hal⟩
  repeat' (first
    |(refine gS ?_;(first
        |(refine S_move rfl rfl ?_)
        |(refine S_assign rfl rfl ?_)
        |(apply F_field rfl rfl;(first|exact T.fl45_1|exact T.fl67_0))
        |(apply F_fieldS rfl rfl;(first|exact T.fl45_1|exact T.fl67_0);(focus (first|exact len_nil|(apply len_given;assumption)|(apply len_row;(focus ((repeat (first|exact mH|refine mT ?_));done)))|(apply len_isN;assumption)));(focus omega))
        |(apply F_idx rfl rfl rfl;(first|exact T.sl27|exact T.sl43);(focus rfl);(focus (first|exact len_nil|(apply len_given;assumption)|(apply len_row;(focus ((repeat (first|exact mH|refine mT ?_));done)))|(apply len_isN;assumption)));(focus omega))
        |(refine gLoad ?_;(first
            |(apply F_load1 rfl rfl;(focus ((repeat (first|exact mH|refine mT ?_));done));(first|exact T.sc27|exact T.sc43);rfl;(focus (first|exact free0|exact free1)))
            |(apply F_loadAll rfl rfl;(focus ((repeat (first|exact mH|refine mT ?_));done));exact T.rw24;(focus (first|exact free0|exact free1)))
            |(apply F_loadS1 rfl rfl;(first|exact T.sc27|exact T.sc43);(focus (first|exact rd_nil|(apply rd_given;(focus assumption);(focus (first|exact freeG0|exact freeG1)))|(apply rd_row;(focus ((repeat (first|exact mH|refine mT ?_));done));(focus (first|exact freeR0|exact freeR1)))));(focus (first|(apply at_cell;(focus (apply at_flat;(focus (intro _;rfl));(focus assumption)));rfl)|(apply at_cell0;(focus (apply at_flat;(focus (intro _;rfl));(focus assumption)));rfl)|(apply at_cell;(focus (apply at_mid0;(focus assumption)));rfl)|(apply at_cell0;(focus (apply at_mid0;(focus assumption)));rfl)|rfl)))
            |(apply F_loadSN rfl rfl;exact T.rw24;(focus (first|exact rd_nil|(apply rd_given;(focus assumption);(focus (first|exact freeG0|exact freeG1)))|(apply rd_row;(focus ((repeat (first|exact mH|refine mT ?_));done));(focus (first|exact freeR0|exact freeR1)))));(focus (first|(focus (apply at_flat;(focus (intro _;rfl));(focus assumption)))|exact at_self));rfl;rfl)))
        |(refine gCall ?_;(first
            |(show GoS _ _ _ _ _ _ _ (⟨_,_,_,.call ⟨.value (.func 45),_,_⟩,_⟩ :: _);refine S_callN (f := 45) rfl T.pf45 rfl (fun w hst => specFragAlike_c _ _ (by assumption) hp w (by first|(refine Rds.given hst ?_;assumption)|(apply Rds.many hst;(focus ((repeat (first|exact mH|refine mT ?_));done)))|(apply Rds.row hst;(focus ((repeat (first|exact mH|refine mT ?_));done)))) (Rds.given hst hr)) rfl ?_)
            |(apply F_len rfl rfl rfl;(focus exact ⟨_,_,by (first|exact T.sl27|exact T.sl43)⟩);(focus (first|exact len_nil|(apply len_given;assumption)|(apply len_row;(focus ((repeat (first|exact mH|refine mT ?_));done)))|(apply len_isN;assumption))))))
        |(refine gBin ?_;(first
            |(refine S_lss rfl rfl rfl ?_)
            |(refine S_add rfl rfl ?_ rfl ?_;(focus (unfold rng;omega)))))
        |(refine S_done ?_)))
    |(refine gC ?_;(first
        |(refine C_seq ?_)
        |(refine gReg ?_;(first
            |(refine gReg (i := 2) ?_;refine C_plain [(0,0),(1,0),(2,0),(3,0),(4,0)] (by kernel_rfl) (s := [⟨0,none,_,_,_⟩,⟨0,none,_,_,_⟩,⟨0,none,_,_,_⟩,⟨0,none,_,_,_⟩,⟨0,none,_,_,_⟩]) rfl ?_)
            |(refine gReg (i := 4) ?_;refine C_drawn [(0,0),(1,0),(2,0),(3,0),(4,0),(5,0),(6,0),(7,0),(8,0),(9,1)] [] T.mixed (by kernel_rfl) (s := [⟨0,none,_,_,_⟩,⟨0,none,_,_,_⟩,⟨0,none,_,_,_⟩,⟨0,none,_,_,_⟩,⟨0,none,_,_,_⟩,⟨0,none,_,_,_⟩,⟨0,none,_,_,_⟩,⟨0,none,_,_,_⟩,⟨0,none,_,_,_⟩,⟨1,none,_,_,_⟩]) rfl ?_)
            |(refine gReg (i := 5) ?_;refine C_plain [(0,0),(1,0)] (by kernel_rfl) (s := [⟨0,none,_,_,_⟩,⟨0,none,_,_,_⟩]) rfl ?_)
            |(refine gReg (i := 3) ?_;refine C_plain [(0,0),(1,0),(2,0)] (by kernel_rfl) (s := [⟨0,none,_,_,_⟩,⟨0,none,_,_,_⟩,⟨0,none,_,_,_⟩]) rfl ?_)
            |(refine gReg (i := 6) ?_;refine C_plain [(0,0)] (by kernel_rfl) (s := [⟨0,none,_,_,_⟩]) rfl ?_)))
        |(refine C_split rfl ?_ ?_ <;> (intro hb;(try simp only [decide_eq_true_eq] at hb);(try simp only [decide_eq_false_iff_not] at hb);(try simp only [Bool.not_eq_true'] at hb);(try simp only [Bool.not_eq_false'] at hb);(try (exfalso;first|contradiction|omega));(try (have hq := hel i hb));(try (have hq1 := hq.1));(try (have hmm := List.mem_of_getElem? hq.1));(try (have hg := sl_head hq.2.1 (he _ hmm).1 hq.2.2.2));(try (have hg1 := hg.1));(try (have hg2 := hg.2.1));(try (have hg3 := hg.2.2.1));(try (have hg4 := hg.2.2.2.1));(try (have hg5 := hg.2.2.2.2.1));(try (have hg6 := hg.2.2.2.2.2));(try (have hg7 := oneFragPacket hg3))))
        |(refine C_skip ?_)
        |(refine C_exit ?_)
        |(refine C_ret ?_)
        |(refine C_block ?_)))
    |(refine gE ?_;(first
        |(refine E_then ?_)
        |(refine E_thenX ?_)
        |(refine E_thenR ?_)
        |(refine E_block ?_)
        |(refine E_blockY ?_)
        |(refine E_blockR ?_)
        |(refine E_calm ?_)
        |(apply E_ret1 rfl;(first|exact Res.tmp rfl|(apply R_cellAll rfl;(focus ((repeat (first|exact mH|refine mT ?_));done));exact T.rw24)|(apply R_cell1 rfl;(focus ((repeat (first|exact mH|refine mT ?_));done));(first|exact T.sc27|exact T.sc43)))))))
  · refine retX (i : Int) (.inr ⟨i,rfl,by omega,?_,hal⟩) rfl entA
    show likeC (headS (ix l i)) _ = true
    rw [← hal1 _ hmm, hg5]; assumption
  · refine E_round (α := Nat) (i + 1) ⟨by omega, fun j hj => ?_⟩ (by omega) ⟨rfl, rfl, rfl, rfl, trivial⟩ (List.Sublist.refl _)
    rcases Nat.lt_or_ge j i with h | h
    · exact hal j h
    · have : j = i := by omega
      subst this
      rw [← hal1 _ hmm, hg5]; assumption
  · exact retX (-1 : Int) (.inl ⟨rfl,fun j hj => hal j (by omega)⟩) rfl entA
end Go.Proofs.Ytodhjpnfokkfeaa

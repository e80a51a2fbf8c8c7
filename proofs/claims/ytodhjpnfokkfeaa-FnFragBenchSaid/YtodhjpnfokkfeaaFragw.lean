/- A drawn packet and a size. -/
import Derived.Test.YtodhjpnfokkfeaaFragr
set_option linter.unusedSimpArgs false
set_option linter.unusedVariables false
namespace Go.Proofs.Ytodhjpnfokkfeaa
open Go Go.RowKit
theorem mem_isN {w : World} {v : Value} {m n : Nat} {cs : List Value} (h : Mem w v m n cs) : IsN v n := h.1
attribute [local irreducible] Calls GoS GoC GoE GoT Mid IsEq IsFl IsSc IsRw IsSl IsEl IsSt IsFs sp Mem Rd LenOf szR
theorem many_one {w0 w : World} {L : List Blk} {l : List MFragPacket} (hs : St w0 w L) (h2 : .many (l.flatMap rwFragPacket) ∈ L) : ∀ y ∈ l, (clFragPacket y).all (·.oneCell') = true := fun y hy => oneFragPacket ((Rds.flatMap.1 (Rds.many hs h2)) y hy)
set_option maxHeartbeats 1000000 in
theorem wfList_c (x y : MSFragPacket) (w : World) (hx : Rds w (rwSFragPacket x)) (hy : Rds w (rwSFragPacket y)) : Calls Try.prog 14 #[x.1, y.1] w (RetN (.bool (decide (x.2.map ctFragPacket = y.2.map ctFragPacket))) w) := by
  obtain ⟨xv, xl⟩ := x
  obtain ⟨yv, yl⟩ := y
  have hm := Rds.head hx
  have hm2 := Rds.head hy
  have hl1 := hm.len
  have hl2 := hm2.len
  simp only [maxLen] at hl1 hl2
  dsimp only at *
  refine enter (n := 27) (E := [(0, _), (1, _)]) Try.func14 rfl rfl rfl rfl ?_
  repeat' (first
    |(refine gS ?_;(first
        |(refine S_move rfl rfl ?_)
        |(refine S_assign rfl rfl ?_)
        |(refine gCall ?_;(first
            |(apply F_len rfl rfl rfl;(focus exact ⟨_,_,by exact T.sl27⟩);(focus (first|exact len_nil|(apply len_given;assumption)|(apply len_row;(focus ((repeat (first|exact mH|refine mT ?_));done)))|(apply len_isN;assumption))))))
        |(refine gBin ?_;(first
            |(refine S_neq rfl rfl rfl ?_)))
        |(refine S_done ?_)))
    |(refine gC ?_;(first
        |(refine C_seq ?_)
        |(refine gReg ?_;(first
            |(refine gReg (i := 0) ?_;refine C_plain [(0,0)] (by kernel_rfl) (s := [⟨0,none,_,_,_⟩]) rfl ?_)
            |(refine gReg (i := 1) ?_;refine C_plain [(0,0),(1,0),(2,0),(3,0),(4,0)] (by kernel_rfl) (s := [⟨0,none,_,_,_⟩,⟨0,none,_,_,_⟩,⟨0,none,_,_,_⟩,⟨0,none,_,_,_⟩,⟨0,none,_,_,_⟩]) rfl ?_)
            |(refine gReg (i := 2) ?_;refine C_plain [(0,0)] (by kernel_rfl) (s := [⟨0,none,_,_,_⟩]) rfl ?_)
            |(refine gReg (i := 3) ?_;refine C_plain [(0,0)] (by kernel_rfl) (s := [⟨0,none,_,_,_⟩]) rfl ?_)))
        |(refine C_split rfl ?_ ?_ <;> (intro hb;(try simp only [decide_eq_true_eq] at hb);(try simp only [decide_eq_false_iff_not] at hb);(try simp only [Bool.not_eq_true'] at hb);(try simp only [Bool.not_eq_false'] at hb);(try (exfalso;first|contradiction|omega))))
        |(refine C_skip ?_)
        |(refine C_ret ?_)
        |(refine C_block ?_)))
    |(refine gE ?_;(first
        |(refine E_then ?_)
        |(refine E_thenR ?_)
        |(apply E_ret1 rfl;(first|exact Res.tmp rfl|(apply R_cellAll rfl;(focus ((repeat (first|exact mH|refine mT ?_));done));exact T.rw24)|(apply R_cell1 rfl;(focus ((repeat (first|exact mH|refine mT ?_));done));fail))))))
  · refine retN ?_
    congr 1
    refine (decide_eq_false fun e => ?_).symm
    have e9 := congrArg List.length e
    rw [List.length_map, List.length_map] at e9
    omega
  have hll : xl.length = yl.length := by omega
  refine C_loop (α := Nat) (fun i => [(5, .int .i64 (i : Int)), (0, xv), (1, yv)]) (fun _ => []) (fun i => i ≤ xl.length ∧ (xl.map ctFragPacket).take i = (yl.map ctFragPacket).take i) (fun i => xl.length - i) 0 ⟨Nat.zero_le _, rfl⟩ ⟨rfl, rfl, rfl, trivial⟩ (List.Sublist.refl _) ?_
  rintro i ⟨hi, hta⟩
  have hx1 : (i : Int) < (xl.length : Int) → xl[i]? = some (ix xl i) := fun h => nthD h
  have hy1 : (i : Int) < (xl.length : Int) → yl[i]? = some (ix yl i) := fun h => nthD (by omega)
  repeat' (first
    |(refine gS ?_;(first
        |(refine S_move rfl rfl ?_)
        |(refine S_assign rfl rfl ?_)
        |(apply F_idx rfl rfl rfl;exact T.sl27;(focus rfl);(focus (first|exact len_nil|(apply len_given;assumption)|(apply len_row;(focus ((repeat (first|exact mH|refine mT ?_));done)))|(apply len_isN;assumption)));(focus omega))
        |(refine gLoad ?_;(first
            |(apply F_loadSN rfl rfl;exact T.rw24;(focus (first|exact rd_nil|(apply rd_given;(focus assumption);(focus (first|exact freeG0|exact freeG1)))|(apply rd_row;(focus ((repeat (first|exact mH|refine mT ?_));done));(focus (first|exact freeR0|exact freeR1)))));(focus (first|(focus (apply at_flat;(focus (intro _;rfl));(focus assumption)))|exact at_self));rfl;rfl)))
        |(refine gCall ?_;(first
            |(show GoS _ _ _ _ _ _ _ (⟨_,_,_,.call ⟨.value (.func 18),_,_⟩,_⟩ :: _);refine S_callN (f := 18) rfl T.pf18 rfl (fun w hst => wfSame_c _ _ w (Rds.given hst hx3) (Rds.given hst hy3)) rfl ?_)
            |(apply F_len rfl rfl rfl;(focus exact ⟨_,_,by exact T.sl27⟩);(focus (first|exact len_nil|(apply len_given;assumption)|(apply len_row;(focus ((repeat (first|exact mH|refine mT ?_));done)))|(apply len_isN;assumption))))))
        |(refine gBin ?_;(first
            |(refine S_lss rfl rfl rfl ?_)
            |(refine S_add rfl rfl ?_ rfl ?_;(focus (unfold rng;omega)))))
        |(refine S_not rfl rfl ?_)
        |(refine S_done ?_)))
    |(refine gC ?_;(first
        |(refine C_seq ?_)
        |(refine gReg ?_;(first
            |(refine gReg (i := 4) ?_;refine C_plain [(0,0),(1,0),(2,0),(3,0)] (by kernel_rfl) (s := [⟨0,none,_,_,_⟩,⟨0,none,_,_,_⟩,⟨0,none,_,_,_⟩,⟨0,none,_,_,_⟩]) rfl ?_)
            |(refine gReg (i := 6) ?_;refine C_drawn [(0,0),(1,0),(2,0),(3,0),(4,0),(5,0),(6,0),(7,0),(8,1),(9,0)] [] T.mixed (by kernel_rfl) (s := [⟨0,none,_,_,_⟩,⟨0,none,_,_,_⟩,⟨0,none,_,_,_⟩,⟨0,none,_,_,_⟩,⟨0,none,_,_,_⟩,⟨0,none,_,_,_⟩,⟨0,none,_,_,_⟩,⟨0,none,_,_,_⟩,⟨1,none,_,_,_⟩,⟨0,none,_,_,_⟩]) rfl ?_)
            |(refine gReg (i := 7) ?_;refine C_plain [(0,0)] (by kernel_rfl) (s := [⟨0,none,_,_,_⟩]) rfl ?_)
            |(refine gReg (i := 5) ?_;refine C_plain [(0,0),(1,0),(2,0)] (by kernel_rfl) (s := [⟨0,none,_,_,_⟩,⟨0,none,_,_,_⟩,⟨0,none,_,_,_⟩]) rfl ?_)
            |(refine gReg (i := 8) ?_;refine C_plain [(0,0)] (by kernel_rfl) (s := [⟨0,none,_,_,_⟩]) rfl ?_)))
        |(refine C_split rfl ?_ ?_ <;> (intro hb;(try simp only [decide_eq_true_eq] at hb);(try simp only [decide_eq_false_iff_not] at hb);(try simp only [Bool.not_eq_true'] at hb);(try simp only [Bool.not_eq_false'] at hb);(try (exfalso;first|contradiction|omega));(try (have hx2 := hx1 hb));(try (have hy2 := hy1 hb));(try (have hx3 := rds_el hx hx2));(try (have hy3 := rds_el hy hy2));(try (have hx4 := oneFragPacket hx3));(try (have hy4 := oneFragPacket hy3))))
        |(refine C_skip ?_)
        |(refine C_exit ?_)
        |(refine C_ret ?_)
        |(refine C_block ?_)))
    |(refine gE ?_;(first
        |(refine E_then ?_)
        |(refine E_thenX ?_)
        |(refine E_thenR ?_)
        |(refine E_block ?_)
        |(refine E_blockY ?_)
        |(refine E_blockR ?_)
        |(refine E_calm ?_)
        |(apply E_ret1 rfl;(first|exact Res.tmp rfl|(apply R_cellAll rfl;(focus ((repeat (first|exact mH|refine mT ?_));done));exact T.rw24)|(apply R_cell1 rfl;(focus ((repeat (first|exact mH|refine mT ?_));done));fail))))))
  · refine retN ?_
    congr 1
    refine (decide_eq_false fun e => ?_).symm
    have e1 : (xl.map ctFragPacket)[i]? = (yl.map ctFragPacket)[i]? := by rw [e]
    rw [List.getElem?_map, List.getElem?_map, hx2, hy2] at e1
    have e2 : ctFragPacket (ix xl i) = ctFragPacket (ix yl i) := Option.some.inj e1
    exact absurd e2 (of_decide_eq_false hb)
  · refine E_round (α := Nat) (i + 1) ⟨by omega, ?_⟩ (by omega) ⟨rfl, rfl, rfl, trivial⟩ (List.Sublist.refl _)
    have e1 : (xl.map ctFragPacket)[i]? = some (ctFragPacket (ix xl i)) := by rw [List.getElem?_map, hx2]; rfl
    have e2 : (yl.map ctFragPacket)[i]? = some (ctFragPacket (ix yl i)) := by rw [List.getElem?_map, hy2]; rfl
    rw [take_snoc e1, take_snoc e2, hta, of_decide_eq_true hb]
  · refine retN ?_
    congr 1
    have hie : i = xl.length := by omega
    rw [hie, List.take_of_length_le (by rw [List.length_map]; omega), List.take_of_length_le (by rw [List.length_map]; omega)] at hta
    exact (decide_eq_true hta).symm
end Go.Proofs.Ytodhjpnfokkfeaa

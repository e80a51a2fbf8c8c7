/- Pieces joined by the reference. -/
import Derived.Test.YtodhjpnfokkfeaaFragk
set_option linter.unusedSimpArgs false
set_option linter.unusedVariables false
namespace Go.Proofs.Ytodhjpnfokkfeaa
open Go Go.RowKit
attribute [local irreducible] Calls GoS GoC GoE GoT Mid IsFl IsSc IsRw IsSl IsEl IsSt IsFs sp Mem Rd LenOf szR
/-- what is known of the elements of a list of pieces -/
theorem pk_el {w : World} {v : Value} {l : List MFragPacket} (hl : ∀ y ∈ l, y.2.2.2.2.2.2.2.2.2.length ≤ 1048576) (hx : Rds w (rwSFragPacket (v, l))) (i : Nat) (h : (i : Int) < (l.length : Int)) : l[i]? = some (ix l i) ∧ Rds w (rwFragPacket (ix l i)) ∧ (ix l i).2.2.2.2.2.2.2.2.2.length ≤ 1048576 := by
  have hr := Rds.flatMap.1 (Rds.tail hx)
  have hx := nthD h
  have hmem := List.mem_of_getElem? hx
  exact ⟨hx, hr _ hmem, hl _ hmem⟩
theorem pk_map {l : List MFragPacket} (i : Nat) (h : (i : Int) < (l.length : Int)) : (l.map ctFragPacket)[i]? = some (ctFragPacket (ix l i)) := by rw [List.getElem?_map, nthD h]; rfl
theorem pk_mem {l : List MFragPacket} (c : CFragPacket) (hc : c ∈ l.map ctFragPacket) : ∃ i : Nat, i < l.length ∧ c = ctFragPacket (ix l i) := by
  obtain ⟨i, hi⟩ := List.getElem?_of_mem hc
  have hlt : i < (l.map ctFragPacket).length := (List.getElem?_eq_some_iff.1 hi).1
  rw [List.length_map] at hlt
  rw [pk_map i (by omega)] at hi
  exact ⟨i, hlt, (Option.some.inj hi).symm⟩
theorem pk_head {l : List MFragPacket} (h : 1 ≤ l.length) : headC (l.map ctFragPacket) = ctFragPacket (ix l 0) := by
  cases l with
  | nil => simp at h
  | cons a l => rfl
theorem pk_off {l : List MFragPacket} (h : okJ (l.map ctFragPacket) = true) (j : Nat) (hj : (j : Int) < (l.length : Int)) : 0 ≤ (ix l j).2.2.2.2.2.2.1 ∧ (ix l j).2.2.2.2.2.2.1 ≤ 128 ∧ (ix l j).2.2.2.2.2.2.1 + ((ix l j).2.2.2.2.2.2.2.2.2.length : Int) ≤ 128 := by
  have h2 := (okJ_iff.1 h).2.2 _ (List.mem_of_getElem? (pk_map j hj))
  simp only [alikeC, Bool.and_eq_true] at h2
  have h := fragOk_t h2.1.1
  have e1 : (ctFragPacket (ix l j)).2.2.2.2.2.2.1 = (ix l j).2.2.2.2.2.2.1 := rfl
  have e2 : (ctFragPacket (ix l j)).2.2.2.2.2.2.2.2 = (ix l j).2.2.2.2.2.2.2.2.2 := rfl
  rw [e1, e2] at h
  omega
theorem l13Alike_c (x : MSFragPacket) (hn : x.2.length ≤ 1048576) (hl : ∀ y ∈ x.2, y.2.2.2.2.2.2.2.2.2.length ≤ 1048576) (w : World) (hx : Rds w (rwSFragPacket x)) : Calls Try.prog 63 #[x.1] w (RetN (.bool (okJ (x.2.map ctFragPacket))) w) := by
  obtain ⟨v, l⟩ := x
  have hm := Rds.head hx
  have hel := pk_el hl hx
  dsimp only at *
  refine enter (n := 23) (E := [(0, _)]) Try.func63 rfl rfl rfl rfl ?_
  repeat' (first
    |(refine gS ?_;(first
        |(refine S_move rfl rfl ?_)
        |(refine S_assign rfl rfl ?_)
        |(refine gCall ?_;(first
            |(show GoS _ _ _ _ _ _ _ (⟨_,_,_,.call ⟨.value (.func 69),_,_⟩,_⟩ :: _);refine S_callN (f := 69) rfl T.pf69 rfl (fun w hst => l1In_c _ _ _ w) rfl ?_)
            |(apply F_len rfl rfl rfl;(focus exact ⟨_,_,by exact T.sl27⟩);(focus (first|exact len_nil|(apply len_given;assumption)|(apply len_row;(focus ((repeat (first|exact mH|refine mT ?_));done)))|(apply len_isN;assumption))))))
        |(refine S_not rfl rfl ?_)
        |(refine S_done ?_)))
    |(refine gC ?_;(first
        |(refine C_seq ?_)
        |(refine gReg ?_;(first
            |(refine gReg (i := 0) ?_;refine C_plain [(0,0)] (by kernel_rfl) (s := [⟨0,none,_,_,_⟩]) rfl ?_)
            |(refine gReg (i := 1) ?_;refine C_plain [(0,0),(1,0),(2,2),(3,0)] (by kernel_rfl) (s := [⟨0,none,_,_,_⟩,⟨0,none,_,_,_⟩,⟨2,none,_,_,_⟩,⟨0,none,_,_,_⟩]) rfl ?_)
            |(refine gReg (i := 2) ?_;refine C_plain [(0,0)] (by kernel_rfl) (s := [⟨0,none,_,_,_⟩]) rfl ?_)
            |(refine gReg (i := 3) ?_;refine C_plain [(0,0)] (by kernel_rfl) (s := [⟨0,none,_,_,_⟩]) rfl ?_)))
        |(refine C_split rfl ?_ ?_ <;> (intro hb;(try simp only [decide_eq_true_eq] at hb);(try simp only [decide_eq_false_iff_not] at hb);(try simp only [Bool.not_eq_true'] at hb);(try simp only [Bool.not_eq_false'] at hb);(try (exfalso;first|contradiction|omega));(try (have hin := inB_t hb))))
        |(refine C_skip ?_)
        |(refine C_ret ?_)
        |(refine C_block ?_)))
    |(refine gE ?_;(first
        |(refine E_then ?_)
        |(refine E_thenR ?_)
        |(apply E_ret1 rfl;(first|exact Res.tmp rfl|(apply R_cellAll rfl;(focus ((repeat (first|exact mH|refine mT ?_));done));exact T.rw24)|(apply R_cell1 rfl;(focus ((repeat (first|exact mH|refine mT ?_));done));fail))))))
  · refine retN ?_
    have : okJ (l.map ctFragPacket) = false := by
      cases h : okJ (l.map ctFragPacket)
      · rfl
      · have h2 := okJ_iff.1 h
        rw [List.length_map] at h2
        have h3 : inB (l.length : Int) 1 40 = false := by assumption
        simp [inB] at h3
        omega
    rw [this]
  have h00 := hel 0 (by omega)
  have hz0 : l[(0 : Int).toNat]? = some (ix l 0) := h00.1
  have hhd := pk_head (l := l) (by omega)
  refine C_loop (α := Nat) (fun i => [(3, .int .i64 (i : Int)), (0, v)]) (fun _ => []) (fun i => i ≤ l.length ∧ ∀ j, j < i → alikeC (ctFragPacket (ix l j)) (ctFragPacket (ix l 0)) = true) (fun i => l.length - i) 0 ⟨Nat.zero_le _, fun j h => by omega⟩ ⟨rfl, rfl, trivial⟩ (List.Sublist.refl _) ?_
  rintro i ⟨hi, hal⟩
  obtain ⟨b, hbe⟩ : ∃ b, alikeC (ctFragPacket (ix l 0)) (ctFragPacket (ix l i)) = b := ⟨_, rfl⟩
  have hal2 : (i : Int) < (l.length : Int) → ∀ w1, Ext w w1 → Calls Try.prog 45 #[.agg (clFragPacket (ix l 0)).toArray, .agg (clFragPacket (ix l i)).toArray] w1 (RetN (.bool b) w1) := fun h w1 hw => by
    have h1 := hel i h
    have := specFragAlike_c (ix l 0) (ix l i) h00.2.2 h1.2.2 w1 (h00.2.1.ext hw) (h1.2.1.ext hw)
    rwa [hbe] at this
  repeat' (first
    |(refine gS ?_;(first
        |(refine S_move rfl rfl ?_)
        |(refine S_assign rfl rfl ?_)
        |(apply F_idx rfl rfl rfl;exact T.sl27;(focus rfl);(focus (first|exact len_nil|(apply len_given;assumption)|(apply len_row;(focus ((repeat (first|exact mH|refine mT ?_));done)))|(apply len_isN;assumption)));(focus omega))
        |(apply F_idxZ rfl rfl rfl;exact T.sl27;(focus omega);(focus (first|exact len_nil|(apply len_given;assumption)|(apply len_row;(focus ((repeat (first|exact mH|refine mT ?_));done)))|(apply len_isN;assumption)));(focus omega))
        |(refine gLoad ?_;(first
            |(apply F_loadSN rfl rfl;exact T.rw24;(focus (first|exact rd_nil|(apply rd_given;(focus assumption);(focus (first|exact freeG0|exact freeG1)))|(apply rd_row;(focus ((repeat (first|exact mH|refine mT ?_));done));(focus (first|exact freeR0|exact freeR1)))));(focus (first|(focus (apply at_flat;(focus (intro _;rfl));(focus assumption)))|exact at_self));rfl;rfl)))
        |(refine gCall ?_;(first
            |(show GoS _ _ _ _ _ _ _ (⟨_,_,_,.call ⟨.value (.func 45),_,_⟩,_⟩ :: _);refine S_callN (f := 45) rfl T.pf45 rfl (fun w hst => hal2 (by omega) w hst.ext) rfl ?_)
            |(apply F_len rfl rfl rfl;(focus exact ⟨_,_,by exact T.sl27⟩);(focus (first|exact len_nil|(apply len_given;assumption)|(apply len_row;(focus ((repeat (first|exact mH|refine mT ?_));done)))|(apply len_isN;assumption))))))
        |(refine gBin ?_;(first
            |(refine S_lss rfl rfl rfl ?_)
            |(refine S_add rfl rfl ?_ rfl ?_;(focus (unfold rng;omega)))))
        |(refine S_not rfl rfl ?_)
        |(refine S_done ?_)))
    |(refine gC ?_;(first
        |(refine C_seq ?_)
        |(refine gReg ?_;(first
            |(refine gReg (i := 4) ?_;refine C_plain [(0,0),(1,0),(2,0),(3,0)] (by kernel_rfl) (s := [⟨0,none,_,_,_⟩,⟨0,none,_,_,_⟩,⟨0,none,_,_,_⟩,⟨0,none,_,_,_⟩]) rfl ?_)
            |(refine gReg (i := 6) ?_;refine C_drawn [(0,0),(1,0),(2,0),(3,0),(4,0),(5,0),(6,0),(7,1),(8,0)] [] T.mixed (by kernel_rfl) (s := [⟨0,none,_,_,_⟩,⟨0,none,_,_,_⟩,⟨0,none,_,_,_⟩,⟨0,none,_,_,_⟩,⟨0,none,_,_,_⟩,⟨0,none,_,_,_⟩,⟨0,none,_,_,_⟩,⟨1,none,_,_,_⟩,⟨0,none,_,_,_⟩]) rfl ?_)
            |(refine gReg (i := 7) ?_;refine C_plain [(0,0)] (by kernel_rfl) (s := [⟨0,none,_,_,_⟩]) rfl ?_)
            |(refine gReg (i := 5) ?_;refine C_plain [(0,0),(1,0),(2,0)] (by kernel_rfl) (s := [⟨0,none,_,_,_⟩,⟨0,none,_,_,_⟩,⟨0,none,_,_,_⟩]) rfl ?_)
            |(refine gReg (i := 8) ?_;refine C_plain [(0,0)] (by kernel_rfl) (s := [⟨0,none,_,_,_⟩]) rfl ?_)))
        |(refine C_split rfl ?_ ?_ <;> (intro hb;(try simp only [decide_eq_true_eq] at hb);(try simp only [decide_eq_false_iff_not] at hb);(try simp only [Bool.not_eq_true'] at hb);(try simp only [Bool.not_eq_false'] at hb);(try (exfalso;first|contradiction|omega));(try (have hq := hel i hb));(try (have hq1 := hq.1))))
        |(refine C_skip ?_)
        |(refine C_exit ?_)
        |(refine C_ret ?_)
        |(refine C_block ?_)))
    |(refine gE ?_;(first
        |(refine E_then ?_)
        |(refine E_thenX ?_)
        |(refine E_thenR ?_)
        |(refine E_block ?_)
        |(refine E_blockY ?_)
        |(refine E_blockR ?_)
        |(refine E_calm ?_)
        |(apply E_ret1 rfl;(first|exact Res.tmp rfl|(apply R_cellAll rfl;(focus ((repeat (first|exact mH|refine mT ?_));done));exact T.rw24)|(apply R_cell1 rfl;(focus ((repeat (first|exact mH|refine mT ?_));done));fail))))))
  · refine retN ?_
    have : okJ (l.map ctFragPacket) = false := by
      cases h : okJ (l.map ctFragPacket)
      · rfl
      · have h2 := (okJ_iff.1 h).2.2 _ (List.mem_of_getElem? (pk_map i (by omega)))
        rw [hhd, alikeC_symm, hbe] at h2
        have h3 : b = false := by assumption
        rw [h3] at h2; cases h2
    rw [this]
  · refine E_round (α := Nat) (i + 1) ⟨by omega, fun j hj => ?_⟩ (by omega) ⟨rfl, rfl, trivial⟩ (List.Sublist.refl _)
    rcases Nat.lt_or_ge j i with h | h
    · exact hal j h
    · have : j = i := by omega
      subst this
      rw [alikeC_symm, hbe]; assumption
  · refine retN ?_
    have : okJ (l.map ctFragPacket) = true := okJ_iff.2 ⟨by rw [List.length_map]; omega, by rw [List.length_map]; omega, fun c hc => by
      obtain ⟨j, hj, rfl⟩ := pk_mem c hc
      rw [hhd]
      exact hal j (by omega)⟩
    rw [this]
theorem l13Disagree_c (x : MSFragPacket) (hn : x.2.length ≤ 1048576) (hl : ∀ y ∈ x.2, y.2.2.2.2.2.2.2.2.2.length ≤ 1048576) (hok : okJ (x.2.map ctFragPacket) = true) (w : World) (hx : Rds w (rwSFragPacket x)) : Calls Try.prog 64 #[x.1] w (RetN (.bool (!allAgree (x.2.map ctFragPacket))) w) := by
  obtain ⟨v, l⟩ := x
  have hm := Rds.head hx
  have hel := pk_el hl hx
  have hof := pk_off hok
  dsimp only at *
  refine enter (n := 26) (E := [(0, _)]) Try.func64 rfl rfl rfl rfl ?_
  repeat' (first
    |(refine gS ?_;(first
        |(refine S_assign rfl rfl ?_)
        |(refine S_done ?_)))
    |(refine gC ?_;(first
        |(refine C_seq ?_)
        |(refine gReg ?_;(first
            |(refine gReg (i := 0) ?_;refine C_plain [(0,0)] (by kernel_rfl) (s := [⟨0,none,_,_,_⟩]) rfl ?_)
            |(refine gReg (i := 1) ?_;refine C_plain [(0,0)] (by kernel_rfl) (s := [⟨0,none,_,_,_⟩]) rfl ?_)))
        |(refine C_block ?_)))
    |(refine gE ?_;(first
        |(refine E_then ?_))))
  refine C_loop (α := Nat) (fun i => [(3, .int .i64 (i : Int)), (0, v)]) (fun _ => []) (fun i => i ≤ l.length ∧ ∀ a b, a < i → b < l.length → Side (ctFragPacket (ix l a)) (ctFragPacket (ix l b))) (fun i => l.length - i) 0 ⟨Nat.zero_le _, fun a b h => by omega⟩ ⟨rfl, rfl, trivial⟩ (List.Sublist.refl _) ?_
  rintro i ⟨hi, hal⟩
  repeat' (first
    |(refine gS ?_;(first
        |(refine S_move rfl rfl ?_)
        |(refine S_assign rfl rfl ?_)
        |(refine gCall ?_;(first
            |(apply F_len rfl rfl rfl;(focus exact ⟨_,_,by exact T.sl27⟩);(focus (first|exact len_nil|(apply len_given;assumption)|(apply len_row;(focus ((repeat (first|exact mH|refine mT ?_));done)))|(apply len_isN;assumption))))))
        |(refine gBin ?_;(first
            |(refine S_lss rfl rfl rfl ?_)))
        |(refine S_done ?_)))
    |(refine gC ?_;(first
        |(refine C_seq ?_)
        |(refine gReg ?_;(first
            |(refine gReg (i := 2) ?_;refine C_plain [(0,0),(1,0),(2,0),(3,0)] (by kernel_rfl) (s := [⟨0,none,_,_,_⟩,⟨0,none,_,_,_⟩,⟨0,none,_,_,_⟩,⟨0,none,_,_,_⟩]) rfl ?_)
            |(refine gReg (i := 4) ?_;refine C_plain [(0,0)] (by kernel_rfl) (s := [⟨0,none,_,_,_⟩]) rfl ?_)
            |(refine gReg (i := 9) ?_;refine C_plain [(0,0)] (by kernel_rfl) (s := [⟨0,none,_,_,_⟩]) rfl ?_)))
        |(refine C_split rfl ?_ ?_ <;> (intro hb;(try simp only [decide_eq_true_eq] at hb);(try simp only [decide_eq_false_iff_not] at hb);(try simp only [Bool.not_eq_true'] at hb);(try simp only [Bool.not_eq_false'] at hb);(try (exfalso;first|contradiction|omega))))
        |(refine C_skip ?_)
        |(refine C_exit ?_)
        |(refine C_ret ?_)
        |(refine C_block ?_)))
    |(refine gE ?_;(first
        |(refine E_then ?_)
        |(refine E_thenX ?_)
        |(refine E_blockY ?_)
        |(apply E_ret1 rfl;(first|exact Res.tmp rfl|(apply R_cellAll rfl;(focus ((repeat (first|exact mH|refine mT ?_));done));exact T.rw24)|(apply R_cell1 rfl;(focus ((repeat (first|exact mH|refine mT ?_));done));fail))))))
  · refine C_loop (α := Nat) (fun j => [(4, .int .i64 (j : Int)), (3, .int .i64 (i : Int)), (0, v)]) (fun _ => []) (fun j => j ≤ l.length ∧ ∀ b, b < j → Side (ctFragPacket (ix l i)) (ctFragPacket (ix l b))) (fun j => l.length - j) 0 ⟨Nat.zero_le _, fun b h => by omega⟩ ⟨rfl, rfl, rfl, trivial⟩ (List.Sublist.refl _) ?_
    rintro j ⟨hj, hsd⟩
    have hni : (i : Int) < (l.length : Int) := by assumption
    have hqi := hel i hni
    have hqi1 := hqi.1
    have hfi := hof i hni
    have hag : (j : Int) < (l.length : Int) → ∀ w1, Ext w w1 → Calls Try.prog 99 #[.agg (clFragPacket (ix l i)).toArray, .agg (clFragPacket (ix l j)).toArray] w1 (RetX (fun b : Bool => b = false ↔ Side (ctFragPacket (ix l i)) (ctFragPacket (ix l j))) (fun b => .bool b) (fun _ => []) w1) := fun h w1 hw => by
      have h1 := hel j h
      have h2 := hof j h
      exact l13Against_c (ix l i) (ix l j) ⟨hfi.1, hfi.2.1⟩ ⟨h2.1, h2.2.1⟩ hqi.2.2 h1.2.2 w1 (hqi.2.1.ext hw) (h1.2.1.ext hw)
    repeat' (first
      |(refine gS ?_;(first
          |(refine S_move rfl rfl ?_)
          |(refine S_assign rfl rfl ?_)
          |(apply F_idx rfl rfl rfl;exact T.sl27;(focus rfl);(focus (first|exact len_nil|(apply len_given;assumption)|(apply len_row;(focus ((repeat (first|exact mH|refine mT ?_));done)))|(apply len_isN;assumption)));(focus omega))
          |(refine gLoad ?_;(first
              |(apply F_loadSN rfl rfl;exact T.rw24;(focus (first|exact rd_nil|(apply rd_given;(focus assumption);(focus (first|exact freeG0|exact freeG1)))|(apply rd_row;(focus ((repeat (first|exact mH|refine mT ?_));done));(focus (first|exact freeR0|exact freeR1)))));(focus (first|(focus (apply at_flat;(focus (intro _;rfl));(focus assumption)))|exact at_self));rfl;rfl)))
          |(refine gCall ?_;(first
              |(show GoS _ _ _ _ _ _ _ (⟨_,_,_,.call ⟨.value (.func 99),_,_⟩,_⟩ :: _);refine S_callX (f := 99) rfl T.pf99 rfl (fun w hst => hag (by omega) w hst.ext) rfl (fun zz hzz => ?_);simp only [List.cons_append,List.nil_append];revert hzz;revert zz;intro bb hbb)
              |(apply F_len rfl rfl rfl;(focus exact ⟨_,_,by exact T.sl27⟩);(focus (first|exact len_nil|(apply len_given;assumption)|(apply len_row;(focus ((repeat (first|exact mH|refine mT ?_));done)))|(apply len_isN;assumption))))))
          |(refine gBin ?_;(first
              |(refine S_lss rfl rfl rfl ?_)
              |(refine S_add rfl rfl ?_ rfl ?_;(focus (unfold rng;omega)))))
          |(refine S_done ?_)))
      |(refine gC ?_;(first
          |(refine C_seq ?_)
          |(refine gReg ?_;(first
              |(refine gReg (i := 5) ?_;refine C_plain [(0,0),(1,0),(2,0),(3,0)] (by kernel_rfl) (s := [⟨0,none,_,_,_⟩,⟨0,none,_,_,_⟩,⟨0,none,_,_,_⟩,⟨0,none,_,_,_⟩]) rfl ?_)
              |(refine gReg (i := 7) ?_;refine C_drawn [(0,0),(1,0),(2,0),(3,0),(4,0),(5,0),(6,0),(7,0),(8,1)] [] T.mixed (by kernel_rfl) (s := [⟨0,none,_,_,_⟩,⟨0,none,_,_,_⟩,⟨0,none,_,_,_⟩,⟨0,none,_,_,_⟩,⟨0,none,_,_,_⟩,⟨0,none,_,_,_⟩,⟨0,none,_,_,_⟩,⟨0,none,_,_,_⟩,⟨1,none,_,_,_⟩]) rfl ?_)
              |(refine gReg (i := 8) ?_;refine C_plain [(0,0)] (by kernel_rfl) (s := [⟨0,none,_,_,_⟩]) rfl ?_)
              |(refine gReg (i := 6) ?_;refine C_plain [(0,0),(1,0),(2,0)] (by kernel_rfl) (s := [⟨0,none,_,_,_⟩,⟨0,none,_,_,_⟩,⟨0,none,_,_,_⟩]) rfl ?_)
              |(refine gReg (i := 3) ?_;refine C_plain [(0,0),(1,0),(2,0)] (by kernel_rfl) (s := [⟨0,none,_,_,_⟩,⟨0,none,_,_,_⟩,⟨0,none,_,_,_⟩]) rfl ?_)))
          |(refine C_split rfl ?_ ?_ <;> (intro hb;(try simp only [decide_eq_true_eq] at hb);(try simp only [decide_eq_false_iff_not] at hb);(try simp only [Bool.not_eq_true'] at hb);(try simp only [Bool.not_eq_false'] at hb);(try (exfalso;first|contradiction|omega));(try (have hq := hel j hb));(try (have hq1 := hq.1))))
          |(refine C_skip ?_)
          |(refine C_exit ?_)
          |(refine C_ret ?_)
          |(refine C_block ?_)))
      |(refine gE ?_;(first
          |(refine E_then ?_)
          |(refine E_thenX ?_)
          |(refine E_thenR ?_)
          |(refine E_block ?_)
          |(refine E_blockY ?_)
          |(refine E_blockR ?_)
          |(refine E_calm ?_)
          |(apply E_ret1 rfl;(first|exact Res.tmp rfl|(apply R_cellAll rfl;(focus ((repeat (first|exact mH|refine mT ?_));done));exact T.rw24)|(apply R_cell1 rfl;(focus ((repeat (first|exact mH|refine mT ?_));done));fail))))))
    · refine retN ?_
      have : allAgree (l.map ctFragPacket) = false := by
        cases h : allAgree (l.map ctFragPacket)
        · rfl
        · have h2 := (agree_side.1 (allAgree_iff.1 h _ (List.mem_of_getElem? (pk_map i hni)) _ (List.mem_of_getElem? (pk_map j (by omega))))).1
          have h3 := hbb.2 h2
          have h4 : bb = true := by assumption
          rw [h4] at h3; cases h3
      rw [this]; rfl
    · refine E_round (α := Nat) (j + 1) ⟨by omega, fun b hb => ?_⟩ (by omega) ⟨rfl, rfl, rfl, trivial⟩ (List.Sublist.refl _)
      rcases Nat.lt_or_ge b j with h | h
      · exact hsd b h
      · have : b = j := by omega
        subst this
        exact hbb.1 (by assumption)
    · refine E_round (α := Nat) (i + 1) ⟨by omega, fun a b ha hb => ?_⟩ (by omega) ⟨rfl, rfl, trivial⟩ (List.Sublist.refl _)
      rcases Nat.lt_or_ge a i with h | h
      · exact hal a b h hb
      · have : a = i := by omega
        subst this
        exact hsd b (by omega)
  · refine retN ?_
    have : allAgree (l.map ctFragPacket) = true := allAgree_iff.2 fun c hc d hd => by
      obtain ⟨a, ha, rfl⟩ := pk_mem c hc
      obtain ⟨b, hb, rfl⟩ := pk_mem d hd
      exact agree_side.2 ⟨hal a b (by omega) hb, hal b a (by omega) ha⟩
    rw [this]; rfl
theorem endL_snoc : ∀ (l : List CFragPacket) (c : CFragPacket), (∀ d ∈ l, moreP d = true) → moreP c = false → ∀ r, endL (l ++ c :: r) = endP c
  | [], c, _, hc, r => by simp [endL, hc]
  | d :: l, c, h, hc, r => by
    have h1 := h d (by simp)
    rw [List.cons_append]
    unfold endL
    rw [if_pos h1]
    exact endL_snoc l c (fun e he => h e (by simp [he])) hc r
theorem endL_at {l : List CFragPacket} {i : Nat} {c : CFragPacket} (h : l[i]? = some c) (ha : ∀ d ∈ l.take i, moreP d = true) (hm : moreP c = false) : endL l = endP c := by
  obtain ⟨hlt, he⟩ := List.getElem?_eq_some_iff.1 h
  have h2 : l.drop i = c :: l.drop (i + 1) := by rw [List.drop_eq_getElem_cons hlt, he]
  have h3 := endL_snoc (l.take i) c ha hm (l.drop (i + 1))
  rwa [← h2, List.take_append_drop] at h3
theorem pk_take {l : List MFragPacket} {i : Nat} {p : CFragPacket → Prop} (hi : i ≤ l.length) (h : ∀ a, a < i → p (ctFragPacket (ix l a))) : ∀ d ∈ (l.map ctFragPacket).take i, p d := fun d hd => by
  obtain ⟨a, ha⟩ := List.getElem?_of_mem hd
  have hlt := (List.getElem?_eq_some_iff.1 ha).1
  rw [List.length_take, List.length_map] at hlt
  rw [List.getElem?_take_of_lt (by omega), pk_map a (by omega)] at ha
  rw [← Option.some.inj ha]
  exact h a (by omega)
theorem l13End_c (x : MSFragPacket) (hn : x.2.length ≤ 1048576) (hl : ∀ y ∈ x.2, y.2.2.2.2.2.2.2.2.2.length ≤ 1048576) (hok : okJ (x.2.map ctFragPacket) = true) (w : World) (hx : Rds w (rwSFragPacket x)) : Calls Try.prog 65 #[x.1] w (RetN (.int .i64 (endL (x.2.map ctFragPacket))) w) := by
  obtain ⟨v, l⟩ := x
  have hm := Rds.head hx
  have hel := pk_el hl hx
  have hof := pk_off hok
  dsimp only at *
  refine enter (n := 28) (E := [(0, _)]) Try.func65 rfl rfl rfl rfl ?_
  repeat' (first
    |(refine gS ?_;(first
        |(refine S_assign rfl rfl ?_)
        |(refine S_done ?_)))
    |(refine gC ?_;(first
        |(refine C_seq ?_)
        |(refine gReg ?_;(first
            |(refine gReg (i := 0) ?_;refine C_plain [(0,0)] (by kernel_rfl) (s := [⟨0,none,_,_,_⟩]) rfl ?_)
            |(refine gReg (i := 1) ?_;refine C_plain [(0,0)] (by kernel_rfl) (s := [⟨0,none,_,_,_⟩]) rfl ?_)))
        |(refine C_block ?_)))
    |(refine gE ?_;(first
        |(refine E_then ?_))))
  refine C_loop (α := Nat) (fun i => [(3, .int .i64 (i : Int)), (0, v)]) (fun _ => []) (fun i => i ≤ l.length ∧ ∀ a, a < i → moreP (ctFragPacket (ix l a)) = true) (fun i => l.length - i) 0 ⟨Nat.zero_le _, fun a h => by omega⟩ ⟨rfl, rfl, trivial⟩ (List.Sublist.refl _) ?_
  rintro i ⟨hi, hal⟩
  repeat' (first
    |(refine gS ?_;(first
        |(refine S_move rfl rfl ?_)
        |(refine S_assign rfl rfl ?_)
        |(apply F_fieldS rfl rfl;(first|exact T.fl24_6|exact T.fl24_7|exact T.fl24_8);(focus (first|exact len_nil|(apply len_given;assumption)|(apply len_row;(focus ((repeat (first|exact mH|refine mT ?_));done)))|(apply len_isN;assumption)));(focus omega))
        |(apply F_idx rfl rfl rfl;(first|exact T.sl22|exact T.sl27);(focus rfl);(focus (first|exact len_nil|(apply len_given;assumption)|(apply len_row;(focus ((repeat (first|exact mH|refine mT ?_));done)))|(apply len_isN;assumption)));(focus omega))
        |(refine gLoad ?_;(first
            |(apply F_loadS1 rfl rfl;(first|exact T.sc3|exact T.sc4|exact T.sc22);(focus (first|exact rd_nil|(apply rd_given;(focus assumption);(focus (first|exact freeG0|exact freeG1)))|(apply rd_row;(focus ((repeat (first|exact mH|refine mT ?_));done));(focus (first|exact freeR0|exact freeR1)))));(focus (first|(apply at_cell;(focus (apply at_flat;(focus (intro _;rfl));(focus assumption)));rfl)|(apply at_cell0;(focus (apply at_flat;(focus (intro _;rfl));(focus assumption)));rfl)|(apply at_cell;(focus (apply at_mid0;(focus assumption)));rfl)|(apply at_cell0;(focus (apply at_mid0;(focus assumption)));rfl)|rfl)))))
        |(refine gCall ?_;(first
            |(apply F_len rfl rfl rfl;(focus exact ⟨_,_,by (first|exact T.sl22|exact T.sl27)⟩);(focus (first|exact len_nil|(apply len_given;assumption)|(apply len_row;(focus ((repeat (first|exact mH|refine mT ?_));done)))|(apply len_isN;assumption))))))
        |(refine gBin ?_;(first
            |(refine S_lss rfl rfl rfl ?_)
            |(refine S_add rfl rfl ?_ rfl ?_;(focus (unfold rng;omega)))))
        |(refine S_not rfl rfl ?_)
        |(refine S_done ?_)))
    |(refine gC ?_;(first
        |(refine C_seq ?_)
        |(refine gReg ?_;(first
            |(refine gReg (i := 2) ?_;refine C_plain [(0,0),(1,0),(2,0),(3,0)] (by kernel_rfl) (s := [⟨0,none,_,_,_⟩,⟨0,none,_,_,_⟩,⟨0,none,_,_,_⟩,⟨0,none,_,_,_⟩]) rfl ?_)
            |(refine gReg (i := 4) ?_;refine C_plain [(0,0),(1,0),(2,0),(3,0),(4,0),(5,0)] (by kernel_rfl) (s := [⟨0,none,_,_,_⟩,⟨0,none,_,_,_⟩,⟨0,none,_,_,_⟩,⟨0,none,_,_,_⟩,⟨0,none,_,_,_⟩,⟨0,none,_,_,_⟩]) rfl ?_)
            |(refine gReg (i := 5) ?_;refine C_drawn [(0,0),(1,0),(2,0),(3,0),(4,0),(5,0),(6,0),(7,0),(8,0),(9,0),(10,0),(11,0),(12,0)] [] T.mixed (by kernel_rfl) (s := [⟨0,none,_,_,_⟩,⟨0,none,_,_,_⟩,⟨0,none,_,_,_⟩,⟨0,none,_,_,_⟩,⟨0,none,_,_,_⟩,⟨0,none,_,_,_⟩,⟨0,none,_,_,_⟩,⟨0,none,_,_,_⟩,⟨0,none,_,_,_⟩,⟨0,none,_,_,_⟩,⟨0,none,_,_,_⟩,⟨0,none,_,_,_⟩,⟨0,none,_,_,_⟩]) rfl ?_)
            |(refine gReg (i := 3) ?_;refine C_plain [(0,0),(1,0),(2,0)] (by kernel_rfl) (s := [⟨0,none,_,_,_⟩,⟨0,none,_,_,_⟩,⟨0,none,_,_,_⟩]) rfl ?_)
            |(refine gReg (i := 6) ?_;refine C_plain [(0,0)] (by kernel_rfl) (s := [⟨0,none,_,_,_⟩]) rfl ?_)))
        |(refine C_split rfl ?_ ?_ <;> (intro hb;(try simp only [decide_eq_true_eq] at hb);(try simp only [decide_eq_false_iff_not] at hb);(try simp only [Bool.not_eq_true'] at hb);(try simp only [Bool.not_eq_false'] at hb);(try (exfalso;first|contradiction|omega));(try (have hq := hel i hb));(try (have hq1 := hq.1));(try (have hq2 := hq.2.1));(try (have hq3 := hq.2.2));(try (have hq4 := Rds.head hq2));(try (have hf := hof i hb))))
        |(refine C_skip ?_)
        |(refine C_exit ?_)
        |(refine C_ret ?_)
        |(refine C_block ?_)))
    |(refine gE ?_;(first
        |(refine E_then ?_)
        |(refine E_thenX ?_)
        |(refine E_thenR ?_)
        |(refine E_block ?_)
        |(refine E_blockY ?_)
        |(refine E_blockR ?_)
        |(refine E_calm ?_)
        |(apply E_ret1 rfl;(first|exact Res.tmp rfl|(apply R_cellAll rfl;(focus ((repeat (first|exact mH|refine mT ?_));done));fail)|(apply R_cell1 rfl;(focus ((repeat (first|exact mH|refine mT ?_));done));(first|exact T.sc3|exact T.sc4|exact T.sc22)))))))
  · refine retN ?_
    have hm2 : (ix l i).2.2.2.2.2.2.2.1 = false := by assumption
    rw [endL_at (pk_map i (by omega)) (pk_take hi hal) hm2]; rfl
  · refine E_round (α := Nat) (i + 1) ⟨by omega, fun a ha => ?_⟩ (by omega) ⟨rfl, rfl, trivial⟩ (List.Sublist.refl _)
    rcases Nat.lt_or_ge a i with h | h
    · exact hal a h
    · have : a = i := by omega
      subst this
      assumption
  · refine retN ?_
    rw [endL_all fun c hc => by obtain ⟨a, ha, rfl⟩ := pk_mem c hc; exact hal a (by omega)]
theorem l13Who_c (x : MSFragPacket) (z : Int) (hn : x.2.length ≤ 1048576) (hl : ∀ y ∈ x.2, y.2.2.2.2.2.2.2.2.2.length ≤ 1048576) (hok : okJ (x.2.map ctFragPacket) = true) (w : World) (hx : Rds w (rwSFragPacket x)) : Calls Try.prog 67 #[x.1, .int .i64 z] w
    (RetX (fun k : Int => (k = -1 ∧ ∀ c ∈ x.2.map ctFragPacket, hasB c z = false) ∨ (0 ≤ k ∧ k < (x.2.length : Int) ∧ hasB (ctFragPacket (ix x.2 k.toNat)) z = true ∧ whoL (x.2.map ctFragPacket) z = some (ctFragPacket (ix x.2 k.toNat)))) (fun k => .int .i64 k) (fun _ => []) w) := by
  obtain ⟨v, l⟩ := x
  have hm := Rds.head hx
  have hel := pk_el hl hx
  have hof := pk_off hok
  dsimp only at *
  refine enter (n := 19) (E := [(0, _), (1, _)]) Try.func67 rfl rfl rfl rfl ?_
  repeat' (first
    |(refine gS ?_;(first
        |(refine S_assign rfl rfl ?_)
        |(refine S_done ?_)))
    |(refine gC ?_;(first
        |(refine C_seq ?_)
        |(refine gReg ?_;(first
            |(refine gReg (i := 0) ?_;refine C_plain [(0,0)] (by kernel_rfl) (s := [⟨0,none,_,_,_⟩]) rfl ?_)
            |(refine gReg (i := 1) ?_;refine C_plain [(0,0)] (by kernel_rfl) (s := [⟨0,none,_,_,_⟩]) rfl ?_)))
        |(refine C_block ?_)))
    |(refine gE ?_;(first
        |(refine E_then ?_))))
  refine C_loop (α := Nat) (fun i => [(5, .int .i64 (i : Int)), (0, v), (1, .int .i64 z)]) (fun _ => []) (fun i => i ≤ l.length ∧ ∀ a, a < i → hasB (ctFragPacket (ix l a)) z = false) (fun i => l.length - i) 0 ⟨Nat.zero_le _, fun a h => by omega⟩ ⟨rfl, rfl, rfl, trivial⟩ (List.Sublist.refl _) ?_
  rintro i ⟨hi, hal⟩
  obtain ⟨b, hbe⟩ : ∃ b, hasB (ctFragPacket (ix l i)) z = b := ⟨_, rfl⟩
  have hha : (i : Int) < (l.length : Int) → ∀ w1, Ext w w1 → Calls Try.prog 100 #[.agg (clFragPacket (ix l i)).toArray, .int .i64 z] w1 (RetN (.bool b) w1) := fun h w1 hw => by
    have h1 := hel i h
    have h2 := hof i h
    have := l13Has_c (ix l i) z ⟨h2.1, h2.2.1⟩ h1.2.2 w1 (h1.2.1.ext hw)
    rwa [hbe] at this
  repeat' (first
    |(refine gS ?_;(first
        |(refine S_move rfl rfl ?_)
        |(refine S_assign rfl rfl ?_)
        |(apply F_idx rfl rfl rfl;exact T.sl27;(focus rfl);(focus (first|exact len_nil|(apply len_given;assumption)|(apply len_row;(focus ((repeat (first|exact mH|refine mT ?_));done)))|(apply len_isN;assumption)));(focus omega))
        |(refine gLoad ?_;(first
            |(apply F_loadSN rfl rfl;exact T.rw24;(focus (first|exact rd_nil|(apply rd_given;(focus assumption);(focus (first|exact freeG0|exact freeG1)))|(apply rd_row;(focus ((repeat (first|exact mH|refine mT ?_));done));(focus (first|exact freeR0|exact freeR1)))));(focus (first|(focus (apply at_flat;(focus (intro _;rfl));(focus assumption)))|exact at_self));rfl;rfl)))
        |(refine gCall ?_;(first
            |(show GoS _ _ _ _ _ _ _ (⟨_,_,_,.call ⟨.value (.func 100),_,_⟩,_⟩ :: _);refine S_callN (f := 100) rfl T.pf100 rfl (fun w hst => hha (by omega) w hst.ext) rfl ?_)
            |(apply F_len rfl rfl rfl;(focus exact ⟨_,_,by exact T.sl27⟩);(focus (first|exact len_nil|(apply len_given;assumption)|(apply len_row;(focus ((repeat (first|exact mH|refine mT ?_));done)))|(apply len_isN;assumption))))))
        |(refine gBin ?_;(first
            |(refine S_lss rfl rfl rfl ?_)
            |(refine S_add rfl rfl ?_ rfl ?_;(focus (unfold rng;omega)))))
        |(refine S_done ?_)))
    |(refine gC ?_;(first
        |(refine C_seq ?_)
        |(refine gReg ?_;(first
            |(refine gReg (i := 2) ?_;refine C_plain [(0,0),(1,0),(2,0),(3,0)] (by kernel_rfl) (s := [⟨0,none,_,_,_⟩,⟨0,none,_,_,_⟩,⟨0,none,_,_,_⟩,⟨0,none,_,_,_⟩]) rfl ?_)
            |(refine gReg (i := 4) ?_;refine C_plain [(0,0),(1,0),(2,0),(3,0),(4,0),(5,2)] (by kernel_rfl) (s := [⟨0,none,_,_,_⟩,⟨0,none,_,_,_⟩,⟨0,none,_,_,_⟩,⟨0,none,_,_,_⟩,⟨0,none,_,_,_⟩,⟨2,none,_,_,_⟩]) rfl ?_)
            |(refine gReg (i := 5) ?_;refine C_plain [(0,0),(1,0)] (by kernel_rfl) (s := [⟨0,none,_,_,_⟩,⟨0,none,_,_,_⟩]) rfl ?_)
            |(refine gReg (i := 3) ?_;refine C_plain [(0,0),(1,0),(2,0)] (by kernel_rfl) (s := [⟨0,none,_,_,_⟩,⟨0,none,_,_,_⟩,⟨0,none,_,_,_⟩]) rfl ?_)
            |(refine gReg (i := 6) ?_;refine C_plain [(0,0)] (by kernel_rfl) (s := [⟨0,none,_,_,_⟩]) rfl ?_)))
        |(refine C_split rfl ?_ ?_ <;> (intro hb;(try simp only [decide_eq_true_eq] at hb);(try simp only [decide_eq_false_iff_not] at hb);(try simp only [Bool.not_eq_true'] at hb);(try simp only [Bool.not_eq_false'] at hb);(try (exfalso;first|contradiction|omega));(try (have hq := hel i hb));(try (have hq1 := hq.1))))
        |(refine C_skip ?_)
        |(refine C_exit ?_)
        |(refine C_ret ?_)
        |(refine C_block ?_)))
    |(refine gE ?_;(first
        |(refine E_then ?_)
        |(refine E_thenX ?_)
        |(refine E_thenR ?_)
        |(refine E_block ?_)
        |(refine E_blockY ?_)
        |(refine E_blockR ?_)
        |(apply E_ret1 rfl;(first|exact Res.tmp rfl|(apply R_cellAll rfl;(focus ((repeat (first|exact mH|refine mT ?_));done));exact T.rw24)|(apply R_cell1 rfl;(focus ((repeat (first|exact mH|refine mT ?_));done));fail))))))
  · have hbt : b = true := by assumption
    refine retX (i : Int) ?_ rfl (Ent.pull Pull.nil)
    refine .inr ⟨by omega, by omega, hbe.trans hbt, ?_⟩
    obtain ⟨hlt, he⟩ := List.getElem?_eq_some_iff.1 (pk_map i (by omega))
    have h2 : (l.map ctFragPacket).drop i = ctFragPacket (ix l i) :: (l.map ctFragPacket).drop (i + 1) := by rw [List.drop_eq_getElem_cons hlt, he]
    unfold whoL
    rw [← List.take_append_drop i (l.map ctFragPacket), List.find?_append, h2, List.find?_cons_of_pos (by simpa using hbe.trans hbt), List.find?_eq_none.2 (fun d hd => by have := pk_take (p := fun d => hasB d z = false) hi hal d hd; simp [this])]
    rfl
  · refine E_round (α := Nat) (i + 1) ⟨by omega, fun a ha => ?_⟩ (by omega) ⟨rfl, rfl, rfl, trivial⟩ (List.Sublist.refl _)
    rcases Nat.lt_or_ge a i with h | h
    · exact hal a h
    · have : a = i := by omega
      subst this
      rw [hbe]; assumption
  · refine retX (-1) ?_ rfl (Ent.pull Pull.nil)
    exact .inl ⟨rfl, fun c hc => by obtain ⟨a, ha, rfl⟩ := pk_mem c hc; exact hal a (by omega)⟩
theorem l13Head_c (x : MSFragPacket) (hn : x.2.length ≤ 1048576) (hl : ∀ y ∈ x.2, y.2.2.2.2.2.2.2.2.2.length ≤ 1048576) (hok : okJ (x.2.map ctFragPacket) = true) (w : World) (hx : Rds w (rwSFragPacket x)) : Calls Try.prog 66 #[x.1] w
    (RetX (fun y : MFragPacket => ctFragPacket y = ((ix x.2 0).1, (ix x.2 0).2.1, (ix x.2 0).2.2.1, (ix x.2 0).2.2.2.1, minHops (x.2.map ctFragPacket) (ix x.2 0).2.2.2.2.1, anyWhole (x.2.map ctFragPacket), 0, false, [])) (fun y => .agg (clFragPacket y).toArray) (fun y => [.many (rwFragPacket y)]) w) := by
  obtain ⟨v, l⟩ := x
  have hm := Rds.head hx
  have hel := pk_el hl hx
  have hof := pk_off hok
  have hlen := okJ_iff.1 hok
  rw [List.length_map] at hlen
  dsimp only at *
  have h00 := hel 0 (by omega)
  have hz0 : l[(0 : Int).toNat]? = some (ix l 0) := h00.1
  refine enter (n := 58) (E := [(0, _)]) Try.func66 rfl rfl rfl rfl ?_
  repeat' (first
    |(refine gS ?_;(first
        |(refine S_move rfl rfl ?_)
        |(apply F_fieldS rfl rfl;(first|exact T.fl24_0|exact T.fl24_1|exact T.fl24_2|exact T.fl24_3|exact T.fl24_4|exact T.fl24_5);(focus (first|exact len_nil|(apply len_given;assumption)|(apply len_row;(focus ((repeat (first|exact mH|refine mT ?_));done)))|(apply len_isN;assumption)));(focus omega))
        |(apply F_idxZ rfl rfl rfl;(first|exact T.sl22|exact T.sl27);(focus omega);(focus (first|exact len_nil|(apply len_given;assumption)|(apply len_row;(focus ((repeat (first|exact mH|refine mT ?_));done)))|(apply len_isN;assumption)));(focus omega))
        |(apply F_bs0 rfl rfl;(first|exact T.el22|exact T.el27);rfl;intro sv;(try (refine S_fact (row_one (v := sv) (by (focus ((repeat (first|exact mH|refine mT ?_));done)))) (fun hone => ?_))))
        |(refine gLoad ?_;(first
            |(apply F_loadS1 rfl rfl;(first|exact T.sc3|exact T.sc4);(focus (first|exact rd_nil|(apply rd_given;(focus assumption);(focus (first|exact freeG0|exact freeG1)))|(apply rd_row;(focus ((repeat (first|exact mH|refine mT ?_));done));(focus (first|exact freeR0|exact freeR1)))));(focus (first|(apply at_cell;(focus (apply at_flat;(focus (intro _;rfl));(focus assumption)));rfl)|(apply at_cell0;(focus (apply at_flat;(focus (intro _;rfl));(focus assumption)));rfl)|(apply at_cell;(focus (apply at_mid0;(focus assumption)));rfl)|(apply at_cell0;(focus (apply at_mid0;(focus assumption)));rfl)|rfl)))))
        |(refine gStore ?_;(first
            |(apply F_storeN rfl rfl;(focus (first|rfl|assumption|(simp only [List.append_nil,List.all_cons,List.all_nil,Bool.and_true,Bool.true_and,one_int,one_bool,one_string,one_slice,one_pointer, *];done)));exact T.rw24;(focus ((repeat (first|exact Upd.here|apply Upd.there));done));(focus ((repeat (first|exact SetSeg.nil|apply SetSeg.here|apply SetSeg.there));done));(first|exact okst2|exact okst1|exact okst1'))))
        |(apply S_alloc rfl (hd := rfl);exact T.zc24;intro kb)
        |(apply F_build2 rfl (hd := rfl);exact T.st24;(focus ((repeat (first|exact BuildR.nil|(apply BuildR.cons;(first|exact T.fs24_0|exact T.fs24_1|exact T.fs24_2|exact T.fs24_3|exact T.fs24_4|exact T.fs24_5|exact T.fs24_6|exact T.fs24_7|exact T.fs24_8);rfl;rfl;(focus ((repeat (first|exact SetSeg.nil|apply SetSeg.here|apply SetSeg.there));done)))|(apply BuildR.cons1;(first|exact T.fs24_0|exact T.fs24_1|exact T.fs24_2|exact T.fs24_3|exact T.fs24_4|exact T.fs24_5|exact T.fs24_6|exact T.fs24_7|exact T.fs24_8);(focus assumption);(focus ((repeat (first|exact SetSeg.nil|apply SetSeg.here|apply SetSeg.there));done)))));done)))
        |(refine S_done ?_)))
    |((first
        |(refine gSeqReg (i := 1) ?_;refine C_join (α := Nat × Value) (fun s => [(3,.pointer (some ⟨s.1,0,none⟩)),(2,.pointer (some ⟨kb,0,none⟩)),(0,v)]) (fun s => [.row s.2 5 1 0 [],.blk s.1 24 (clFragPacket ((ix l 0).1,(ix l 0).2.1,(ix l 0).2.2.1,(ix l 0).2.2.2.1,(ix l 0).2.2.2.2.1,false,0,false,s.2,[])),.blk kb 24 (clFragPacket zeroP)]) (fun s => s.2.oneCell' = true) ?_ ?_)
        |(refine C_seq ?_)
        |(refine gReg ?_;(first
            |(refine gReg (i := 0) ?_;refine C_plain [(0,2)] (by kernel_rfl) (s := [⟨2,none,_,_,_⟩]) rfl ?_)
            |(refine gReg (i := 1) ?_;refine C_drawnT (.br [(0,0),(1,0),(2,0),(3,0),(4,0),(5,0),(6,0),(7,0),(8,0),(9,0),(10,0),(11,0),(12,0),(13,0),(14,0),(15,0),(16,0),(17,0),(18,0),(19,0)] (.fin [(20,1),(21,0),(22,1),(23,2)]) (.fin [(22,1),(20,1),(21,0),(23,2)])) [] T.mixed (by kernel_rfl) (s := (.br [⟨0,none,_,_,_⟩,⟨0,none,_,_,_⟩,⟨0,none,_,_,_⟩,⟨0,none,_,_,_⟩,⟨0,none,_,_,_⟩,⟨0,none,_,_,_⟩,⟨0,none,_,_,_⟩,⟨0,none,_,_,_⟩,⟨0,none,_,_,_⟩,⟨0,none,_,_,_⟩,⟨0,none,_,_,_⟩,⟨0,none,_,_,_⟩,⟨0,none,_,_,_⟩,⟨0,none,_,_,_⟩,⟨0,none,_,_,_⟩,⟨0,none,_,_,_⟩,⟨0,none,_,_,_⟩,⟨0,none,_,_,_⟩,⟨0,none,_,_,_⟩,⟨0,none,_,_,_⟩] (.fin [⟨1,none,_,_,_⟩,⟨0,none,_,_,_⟩,⟨1,none,_,_,_⟩,⟨2,none,_,_,_⟩]) (.fin [⟨1,none,_,_,_⟩,⟨1,none,_,_,_⟩,⟨0,none,_,_,_⟩,⟨2,none,_,_,_⟩]))) rfl ?_)))
        |(refine T_fin ?_)
        |(refine T_br ?_)))
    |(refine gE ?_;(first
        |(refine E_then ?_)
        |(refine E_calm ?_)
        | (refine E_both ?_ ?_))))
  · rename_i kr
    exact E_join (α := Nat × Value) (kb,sv) hone ⟨rfl,rfl,rfl,trivial⟩ entA
  · rename_i kr
    exact E_join (α := Nat × Value) (kb,sv) hone ⟨rfl,rfl,rfl,trivial⟩ entA
  revert kb; intro kr
  rintro ⟨ko, sv⟩ hone
  dsimp only at hone ⊢
  repeat' (first
    |(refine gS ?_;(first
        |(refine S_assign rfl rfl ?_)
        |(refine S_done ?_)))
    |((first
        |(refine C_seq ?_)
        |(refine gReg ?_;(first
            |(refine gReg (i := 2) ?_;refine C_plain [(0,0)] (by kernel_rfl) (s := [⟨0,none,_,_,_⟩]) rfl ?_)))
        |(refine C_block ?_)))
    |(refine gE ?_;(first
        |(refine E_then ?_))))
  refine C_loop (α := Nat × Int × Bool) (fun s => [(4, .int .i64 (s.1 : Int)), (3, .pointer (some ⟨ko, 0, none⟩)), (2, .pointer (some ⟨kr, 0, none⟩)), (0, v)]) (fun s => [.row sv 5 1 0 [], .blk ko 24 (clFragPacket ((ix l 0).1, (ix l 0).2.1, (ix l 0).2.2.1, (ix l 0).2.2.2.1, s.2.1, s.2.2, 0, false, sv, [])), .blk kr 24 (clFragPacket zeroP)])
    (fun s => s.1 ≤ l.length ∧ s.2.1 = minHops ((l.map ctFragPacket).take s.1) (ix l 0).2.2.2.2.1 ∧ s.2.2 = anyWhole ((l.map ctFragPacket).take s.1)) (fun s => l.length - s.1) (0, (ix l 0).2.2.2.2.1, false) ⟨Nat.zero_le _, rfl, rfl⟩ ⟨rfl, rfl, rfl, rfl, trivial⟩ (List.Sublist.refl _) ?_
  rintro ⟨i, hp, wh⟩ ⟨hi, hhp, hwh⟩
  dsimp only at *
  have h1c : (clFragPacket ((ix l 0).1, (ix l 0).2.1, (ix l 0).2.2.1, (ix l 0).2.2.2.1, hp, wh, 0, false, sv, [])).all (·.oneCell') = true := by simp [clFragPacket, one_int, one_bool, hone]
  repeat' (first
    |(refine gS ?_;(first
        |(refine gGuard ?_;(first
            |(refine S_on rfl ?_)
            |(refine S_off rfl rfl rfl ?_)
            |(refine S_gsplit rfl ?_ ?_ <;> (intro hb;(try simp only [decide_eq_true_eq] at hb);(try simp only [decide_eq_false_iff_not] at hb);(try simp only [Bool.not_eq_true'] at hb);(try simp only [Bool.not_eq_false'] at hb);(try (exfalso;first|contradiction|omega));(try (have hq := hel i hb));(try (have hq1 := hq.1))))))
        |(refine S_move rfl rfl ?_)
        |(refine S_assign rfl rfl ?_)
        |(apply F_field rfl rfl;(first|exact T.fl24_0|exact T.fl24_1|exact T.fl24_2|exact T.fl24_3|exact T.fl24_4|exact T.fl24_5))
        |(apply F_fieldS rfl rfl;(first|exact T.fl24_0|exact T.fl24_1|exact T.fl24_2|exact T.fl24_3|exact T.fl24_4|exact T.fl24_5);(focus (first|exact len_nil|(apply len_given;assumption)|(apply len_row;(focus ((repeat (first|exact mH|refine mT ?_));done)))|(apply len_isN;assumption)));(focus omega))
        |(apply F_idx rfl rfl rfl;(first|exact T.sl22|exact T.sl27);(focus rfl);(focus (first|exact len_nil|(apply len_given;assumption)|(apply len_row;(focus ((repeat (first|exact mH|refine mT ?_));done)))|(apply len_isN;assumption)));(focus omega))
        |(refine gLoad ?_;(first
            |(apply F_load1 rfl rfl;(focus ((repeat (first|exact mH|refine mT ?_));done));(first|exact T.sc3|exact T.sc4);rfl;(focus (first|exact free0|exact free1)))
            |(apply F_loadAll rfl rfl;(focus ((repeat (first|exact mH|refine mT ?_));done));exact T.rw24;(focus (first|exact free0|exact free1)))
            |(apply F_loadS1 rfl rfl;(first|exact T.sc3|exact T.sc4);(focus (first|exact rd_nil|(apply rd_given;(focus assumption);(focus (first|exact freeG0|exact freeG1)))|(apply rd_row;(focus ((repeat (first|exact mH|refine mT ?_));done));(focus (first|exact freeR0|exact freeR1)))));(focus (first|(apply at_cell;(focus (apply at_flat;(focus (intro _;rfl));(focus assumption)));rfl)|(apply at_cell0;(focus (apply at_flat;(focus (intro _;rfl));(focus assumption)));rfl)|(apply at_cell;(focus (apply at_mid0;(focus assumption)));rfl)|(apply at_cell0;(focus (apply at_mid0;(focus assumption)));rfl)|rfl)))))
        |(refine gStore ?_;(first
            |(apply F_store1 rfl rfl;(focus (first|rfl|assumption));(first|exact T.sc3|exact T.sc4);(focus ((repeat (first|exact Upd.here|apply Upd.there));done));(focus ((repeat (first|exact SetSeg.nil|apply SetSeg.here|apply SetSeg.there));done));(first|exact okst2|exact okst1|exact okst1'))
            |(apply F_storeN rfl rfl;(focus (first|rfl|assumption|(simp only [List.append_nil,List.all_cons,List.all_nil,Bool.and_true,Bool.true_and,one_int,one_bool,one_string,one_slice,one_pointer, *];done)));exact T.rw24;(focus ((repeat (first|exact Upd.here|apply Upd.there));done));(focus ((repeat (first|exact SetSeg.nil|apply SetSeg.here|apply SetSeg.there));done));(first|exact okst2|exact okst1|exact okst1'))))
        |(refine gCall ?_;(first
            |(apply F_len rfl rfl rfl;(focus exact ⟨_,_,by (first|exact T.sl22|exact T.sl27)⟩);(focus (first|exact len_nil|(apply len_given;assumption)|(apply len_row;(focus ((repeat (first|exact mH|refine mT ?_));done)))|(apply len_isN;assumption))))))
        |(refine gBin ?_;(first
            |(refine S_lss rfl rfl rfl ?_)
            |(refine S_add rfl rfl ?_ rfl ?_;(focus (unfold rng;omega)))))
        |(refine gPick ?_;(first
            |(refine S_pickT rfl rfl rfl ?_)
            |(refine S_pickF rfl rfl rfl ?_)))
        |(refine S_done ?_)))
    |((first
        |(refine C_seq ?_)
        |(refine gReg ?_;(first
            |(refine gReg (i := 3) ?_;refine C_plain [(0,0),(1,0),(2,0),(3,0)] (by kernel_rfl) (s := [⟨0,none,_,_,_⟩,⟨0,none,_,_,_⟩,⟨0,none,_,_,_⟩,⟨0,none,_,_,_⟩]) rfl ?_)
            |(refine gReg (i := 5) ?_;refine C_drawn [(0,0),(1,0),(2,0),(3,0),(4,0),(5,0),(6,0),(7,0)] [] T.mixed (by kernel_rfl) (s := [⟨0,none,_,_,_⟩,⟨0,none,_,_,_⟩,⟨0,none,_,_,_⟩,⟨0,none,_,_,_⟩,⟨0,none,_,_,_⟩,⟨0,none,_,_,_⟩,⟨0,none,_,_,_⟩,⟨0,none,_,_,_⟩]) rfl ?_)
            |(refine gReg (i := 6) ?_;refine C_plain [(0,0),(1,0),(2,0),(3,0),(4,0),(5,0),(6,2)] (by kernel_rfl) (s := [⟨0,none,_,_,_⟩,⟨0,none,_,_,_⟩,⟨0,none,_,_,_⟩,⟨0,none,_,_,_⟩,⟨0,none,_,_,_⟩,⟨0,none,_,_,_⟩,⟨2,none,_,_,_⟩]) rfl ?_)
            |(refine gReg (i := 7) ?_;refine C_plain [(0,0),(1,0),(2,0),(3,0),(4,0),(5,0),(6,0),(7,0),(8,0),(9,0),(10,2)] (by kernel_rfl) (s := [⟨0,none,_,_,_⟩,⟨0,none,_,_,_⟩,⟨0,none,_,_,_⟩,⟨0,some (49,false),_,_,_⟩,⟨0,some (49,false),_,_,_⟩,⟨0,some (49,false),_,_,_⟩,⟨0,some (49,false),_,_,_⟩,⟨0,some (49,false),_,_,_⟩,⟨0,none,_,_,_⟩,⟨0,none,_,_,_⟩,⟨2,none,_,_,_⟩]) rfl ?_)
            |(refine gReg (i := 4) ?_;refine C_plain [(0,0),(1,0),(2,0)] (by kernel_rfl) (s := [⟨0,none,_,_,_⟩,⟨0,none,_,_,_⟩,⟨0,none,_,_,_⟩]) rfl ?_)
            |(refine gReg (i := 8) ?_;refine C_plain [(0,0),(1,2)] (by kernel_rfl) (s := [⟨0,none,_,_,_⟩,⟨2,none,_,_,_⟩]) rfl ?_)))
        |(refine C_split rfl ?_ ?_ <;> (intro hb;(try simp only [decide_eq_true_eq] at hb);(try simp only [decide_eq_false_iff_not] at hb);(try simp only [Bool.not_eq_true'] at hb);(try simp only [Bool.not_eq_false'] at hb);(try (exfalso;first|contradiction|omega));(try (have hq := hel i hb));(try (have hq1 := hq.1))))
        |(refine C_skip ?_)
        |(refine C_exit ?_)
        |(refine C_ret ?_)
        |(refine C_block ?_)))
    |(refine gE ?_;(first
        |(refine E_then ?_)
        |(refine E_thenX ?_)
        |(refine E_block ?_)
        |(refine E_blockY ?_)
        |(refine E_calm ?_)
        |(apply E_ret1 rfl;(first|exact Res.tmp rfl|(apply R_cellAll rfl;(focus ((repeat (first|exact mH|refine mT ?_));done));exact T.rw24)|(apply R_cell1 rfl;(focus ((repeat (first|exact mH|refine mT ?_));done));(first|exact T.sc3|exact T.sc4)))))))
  all_goals try (
    dsimp only at *
    have hstep : ∀ (hp' : Int) (wh' : Bool), hp' = min hp (ix l i).2.2.2.2.1 → wh' = (wh || (ix l i).2.2.2.2.2.1) → (i : Int) < (l.length : Int) → i + 1 ≤ l.length ∧ hp' = minHops ((l.map ctFragPacket).take (i + 1)) (ix l 0).2.2.2.2.1 ∧ wh' = anyWhole ((l.map ctFragPacket).take (i + 1)) := (by
      intro hp' wh' h1 h2 h3
      have ht := take_snoc (pk_map i h3)
      refine ⟨by omega, ?_, ?_⟩
      · rw [ht, minHops_snoc, ← hhp, h1]; rfl
      · rw [ht, anyWhole_snoc, ← hwh, h2]; rfl)
    first
      |(refine E_roundS (α := Nat × Int × Bool) (i + 1,(ix l i).2.2.2.2.1,true) (hstep (ix l i).2.2.2.2.1 true (by omega) (by rw [show wh = true by assumption];rfl) (by assumption)) (by dsimp only;omega) ⟨rfl,rfl,rfl,rfl,trivial⟩ entA;done)
      |(refine E_roundS (α := Nat × Int × Bool) (i + 1,(ix l i).2.2.2.2.1,(ix l i).2.2.2.2.2.1) (hstep (ix l i).2.2.2.2.1 (ix l i).2.2.2.2.2.1 (by omega) (by rw [show wh = false by assumption];rfl) (by assumption)) (by dsimp only;omega) ⟨rfl,rfl,rfl,rfl,trivial⟩ entA;done)
      |(refine E_roundS (α := Nat × Int × Bool) (i + 1,hp,true) (hstep hp true (by omega) (by rw [show wh = true by assumption];rfl) (by assumption)) (by dsimp only;omega) ⟨rfl,rfl,rfl,rfl,trivial⟩ entA;done)
      | (refine E_roundS (α := Nat × Int × Bool) (i + 1, hp, (ix l i).2.2.2.2.2.1) (hstep hp (ix l i).2.2.2.2.2.1 (by omega) (by rw [show wh = false by assumption]; rfl) (by assumption)) (by dsimp only; omega) ⟨rfl, rfl, rfl, rfl, trivial⟩ (by (focus (apply Ent.flat; (simp only [List.length_append, List.length_cons, List.length_nil, Nat.zero_add, flat_many, flat_row, flat_blk, flat_append, flat_nil, List.map_append, List.map_cons, List.map_nil, List.flatMap_append, List.flatMap_cons, List.flatMap_nil, List.append_assoc, List.append_nil, List.nil_append, List.cons_append, Row.blk_mk, rwSuint8, rwFragPacket, rwSFragPacket, rwFragSlot, rwSFragSlot, rwFragBench]); ((repeat (first | exact Pull.nil | (apply Pull.app; (focus ((repeat (first | exact PickA.here | exact PickA.all | apply PickA.there | apply PickA.over)); done))) | (apply Pull.cons; (focus ((repeat (first | exact Pick.here | exact Pick.last | apply Pick.there | apply Pick.over)); done))) | (apply Pull.atom; (focus ((repeat (first | exact PickA.here | exact PickA.all | apply PickA.there | apply PickA.over)); done))))); done)))); done))
  have hie : i = l.length := by omega
  subst hie
  have htk : (l.map ctFragPacket).take l.length = l.map ctFragPacket := List.take_of_length_le (by simp)
  rw [htk] at hhp hwh
  refine retX ((ix l 0).1, (ix l 0).2.1, (ix l 0).2.2.1, (ix l 0).2.2.2.1, hp, wh, 0, false, sv, []) ?_ rfl ?_
  · simp only [ctFragPacket, hhp, hwh]
  · exact entA
theorem specFragJoin_c (x : MSFragPacket) (hn : x.2.length ≤ 1048576) (hl : ∀ y ∈ x.2, y.2.2.2.2.2.2.2.2.2.length ≤ 1048576) (w : World) (hx : Rds w (rwSFragPacket x)) : Calls Try.prog 17 #[x.1] w
    (RetX (fun y : MFragPacket => ctFragPacket y = (joinC (x.2.map ctFragPacket)).1) (fun y => .tuple #[.agg (clFragPacket y).toArray, .int .i64 (joinC (x.2.map ctFragPacket)).2]) (fun y => [.many (rwFragPacket y)]) w) := by
  have hxx := hx
  obtain ⟨v, l⟩ := x
  have hm := Rds.head hx
  have hel := pk_el hl hx
  dsimp only at *
  obtain ⟨bo, hbo⟩ : ∃ b, okJ (l.map ctFragPacket) = b := ⟨_, rfl⟩
  have hA : ∀ w1, Ext w w1 → Calls Try.prog 63 #[v] w1 (RetN (.bool bo) w1) := fun w1 hw => by
    have := l13Alike_c (v, l) hn hl w1 (hxx.ext hw)
    rwa [hbo] at this
  cases bo
  ·
    refine enter (n := 53) (E := [(0, _)]) Try.func17 rfl rfl rfl rfl ?_
    repeat' (first
      |(refine gS ?_;(first
          |(refine S_move rfl rfl ?_)
          |(refine S_assign rfl rfl ?_)
          |(refine gStore ?_;(first
              |(apply F_storeN rfl rfl;(focus (first|rfl|assumption|(simp only [List.append_nil,List.all_cons,List.all_nil,Bool.and_true,Bool.true_and,one_int,one_bool,one_string,one_slice,one_pointer, *];done)));exact T.rw24;(focus ((repeat (first|exact Upd.here|apply Upd.there));done));(focus ((repeat (first|exact SetSeg.nil|apply SetSeg.here|apply SetSeg.there));done));(first|exact okst2|exact okst1|exact okst1'))))
          |(refine gCall ?_;(first
              |(show GoS _ _ _ _ _ _ _ (⟨_,_,_,.call ⟨.value (.func 63),_,_⟩,_⟩ :: _);refine S_callN (f := 63) rfl T.pf63 rfl (fun w hst => hA w hst.ext) rfl ?_)))
          |(apply S_alloc rfl (hd := rfl);exact T.zc24;intro kb)
          |(apply F_build2 rfl (hd := rfl);exact T.st24;(focus ((repeat (first|exact BuildR.nil|(apply BuildR.cons;(first|exact T.fs24_0|exact T.fs24_1|exact T.fs24_2|exact T.fs24_3|exact T.fs24_4|exact T.fs24_5|exact T.fs24_6|exact T.fs24_7|exact T.fs24_8);rfl;rfl;(focus ((repeat (first|exact SetSeg.nil|apply SetSeg.here|apply SetSeg.there));done)))|(apply BuildR.cons1;(first|exact T.fs24_0|exact T.fs24_1|exact T.fs24_2|exact T.fs24_3|exact T.fs24_4|exact T.fs24_5|exact T.fs24_6|exact T.fs24_7|exact T.fs24_8);(focus assumption);(focus ((repeat (first|exact SetSeg.nil|apply SetSeg.here|apply SetSeg.there));done)))));done)))
          |(refine S_not rfl rfl ?_)
          |(refine S_done ?_)))
      |(refine gC ?_;(first
          |(refine C_seq ?_)
          |(refine gReg ?_;(first
              |(refine gReg (i := 0) ?_;refine C_plain [(0,2),(1,0)] (by kernel_rfl) (s := [⟨2,none,_,_,_⟩,⟨0,none,_,_,_⟩]) rfl ?_)
              |(refine gReg (i := 1) ?_;refine C_plain [(0,0),(1,2),(2,0)] (by kernel_rfl) (s := [⟨0,none,_,_,_⟩,⟨2,none,_,_,_⟩,⟨0,none,_,_,_⟩]) rfl ?_)
              |(refine gReg (i := 2) ?_;refine C_plain [(0,0),(1,2),(2,0)] (by kernel_rfl) (s := [⟨0,none,_,_,_⟩,⟨2,none,_,_,_⟩,⟨0,none,_,_,_⟩]) rfl ?_)))
          |(refine C_true rfl ?_)
          |(refine C_ret ?_)))
      |(refine gE ?_;(first
          |(refine E_then ?_)
          |(refine E_thenR ?_)
          |(apply E_ret2 rfl;(first|exact Res.tmp rfl|(apply R_cellAll rfl;(focus ((repeat (first|exact mH|refine mT ?_));done));exact T.rw24)|(apply R_cell1 rfl;(focus ((repeat (first|exact mH|refine mT ?_));done));(first|exact T.sc3|exact T.sc5|exact T.sc22)));(first|exact Res.tmp rfl|(apply R_cellAll rfl;(focus ((repeat (first|exact mH|refine mT ?_));done));exact T.rw24)|(apply R_cell1 rfl;(focus ((repeat (first|exact mH|refine mT ?_));done));(first|exact T.sc3|exact T.sc5|exact T.sc22)))))))
    have hj : joinC (l.map ctFragPacket) = (ctFragPacket zeroP, 1) := by simp [joinC, hbo]
    refine retX zeroP (by rw [hj]) (by rw [hj]; rfl) (Ent.trans (Ent.ghost 5 1) ?_)
    simp only [zeroP, rwFragPacket]
    exact entA
  have hof := pk_off hbo
  have hlen := okJ_iff.1 hbo
  rw [List.length_map] at hlen
  obtain ⟨ba, hba⟩ : ∃ b, (!allAgree (l.map ctFragPacket)) = b := ⟨_, rfl⟩
  have hD : ∀ w1, Ext w w1 → Calls Try.prog 64 #[v] w1 (RetN (.bool ba) w1) := fun w1 hw => by
    have := l13Disagree_c (v, l) hn hl hbo w1 (hxx.ext hw)
    rwa [hba] at this
  have hEr : endL (l.map ctFragPacket) = -1 ∨ (0 ≤ endL (l.map ctFragPacket) ∧ endL (l.map ctFragPacket) ≤ 128) := by
    by_cases h : endL (l.map ctFragPacket) < 0
    · left
      cases hf : (l.map ctFragPacket).find? fun c => !moreP c with
      | none => exact endL_all fun c hc => by have := List.find?_eq_none.1 hf c hc; simpa using this
      | some c =>
        exfalso
        have h1 := List.find?_some hf
        have h2 := List.mem_of_find?_eq_some hf
        obtain ⟨i, hi⟩ := List.getElem?_of_mem h2
        have : ∀ L : List CFragPacket, (∀ c ∈ L, 0 ≤ endP c) → endL L < 0 → ∀ c ∈ L, moreP c = true := fun L => by
          induction L with
          | nil => intro _ _ c hc; cases hc
          | cons d L ih =>
            intro g1 g2 c hc
            unfold endL at g2
            cases hd : moreP d
            · rw [hd] at g2
              have := g1 d (by simp)
              simp at g2; omega
            · rw [hd] at g2
              rcases List.mem_cons.1 hc with rfl | hc
              · exact hd
              · exact ih (fun c hc => g1 c (by simp [hc])) (by simpa using g2) c hc
        have h3 := this _ (fun c hc => by
          obtain ⟨a, ha, rfl⟩ := pk_mem c hc
          have := hof a (by omega)
          show 0 ≤ (ix l a).2.2.2.2.2.2.1 + ((ix l a).2.2.2.2.2.2.2.2.2.length : Int)
          omega) h c h2
        simp [h3] at h1
    · right
      obtain ⟨c, hc, _, h2⟩ := endL_mem (fun c hc => by
        obtain ⟨a, ha, rfl⟩ := pk_mem c hc
        exact (hof a (by omega)).1) h
      obtain ⟨a, ha, rfl⟩ := pk_mem c hc
      have h3 := (hof a (by omega)).2.2
      have h6 : endP (ctFragPacket (ix l a)) = (ix l a).2.2.2.2.2.2.1 + ((ix l a).2.2.2.2.2.2.2.2.2.length : Int) := rfl
      omega
  refine enter (n := 53) (E := [(0, _)]) Try.func17 rfl rfl rfl rfl ?_
  repeat' (first
    |(refine gS ?_;(first
        |(refine S_move rfl rfl ?_)
        |(refine S_assign rfl rfl ?_)
        |(refine gStore ?_;(first
            |(apply F_storeN rfl rfl;(focus (first|rfl|assumption|(simp only [List.append_nil,List.all_cons,List.all_nil,Bool.and_true,Bool.true_and,one_int,one_bool,one_string,one_slice,one_pointer, *];done)));exact T.rw24;(focus ((repeat (first|exact Upd.here|apply Upd.there));done));(focus ((repeat (first|exact SetSeg.nil|apply SetSeg.here|apply SetSeg.there));done));(first|exact okst2|exact okst1|exact okst1'))))
        |(refine gCall ?_;(first
            |(show GoS _ _ _ _ _ _ _ (⟨_,_,_,.call ⟨.value (.func 63),_,_⟩,_⟩ :: _);refine S_callN (f := 63) rfl T.pf63 rfl (fun w hst => hA w hst.ext) rfl ?_)
            |(show GoS _ _ _ _ _ _ _ (⟨_,_,_,.call ⟨.value (.func 64),_,_⟩,_⟩ :: _);refine S_callN (f := 64) rfl T.pf64 rfl (fun w hst => hD w hst.ext) rfl ?_)
            |(show GoS _ _ _ _ _ _ _ (⟨_,_,_,.call ⟨.value (.func 65),_,_⟩,_⟩ :: _);refine S_callN (f := 65) rfl T.pf65 rfl (fun w hst => l13End_c (v,l) hn hl hbo w (hxx.ext hst.ext)) rfl ?_)
            |(show GoS _ _ _ _ _ _ _ (⟨_,_,_,.call ⟨.value (.func 66),_,_⟩,_⟩ :: _);refine S_callX (f := 66) rfl T.pf66 rfl (fun w hst => l13Head_c (v,l) hn hl hbo w (hxx.ext hst.ext)) rfl (fun zz hzz => ?_);simp only [List.cons_append,List.nil_append];revert hzz;revert zz;rintro y hy;refine S_fact (fun w hs => oneFragPacket (Rds.many hs (by (focus ((repeat (first|exact mH|refine mT ?_));done))))) (fun hone => ?_))))
        |(refine gBin ?_;(first
            |(refine S_lss rfl rfl rfl ?_)))
        |(apply S_alloc rfl (hd := rfl);exact T.zc24;intro kb)
        |(apply F_build2 rfl (hd := rfl);exact T.st24;(focus ((repeat (first|exact BuildR.nil|(apply BuildR.cons;(first|exact T.fs24_0|exact T.fs24_1|exact T.fs24_2|exact T.fs24_3|exact T.fs24_4|exact T.fs24_5|exact T.fs24_6|exact T.fs24_7|exact T.fs24_8);rfl;rfl;(focus ((repeat (first|exact SetSeg.nil|apply SetSeg.here|apply SetSeg.there));done)))|(apply BuildR.cons1;(first|exact T.fs24_0|exact T.fs24_1|exact T.fs24_2|exact T.fs24_3|exact T.fs24_4|exact T.fs24_5|exact T.fs24_6|exact T.fs24_7|exact T.fs24_8);(focus assumption);(focus ((repeat (first|exact SetSeg.nil|apply SetSeg.here|apply SetSeg.there));done)))));done)))
        |(refine S_not rfl rfl ?_)
        |(refine S_done ?_)))
    |(refine gC ?_;(first
        |(refine C_seq ?_)
        |(refine gReg ?_;(first
            |(refine gReg (i := 0) ?_;refine C_plain [(0,2),(1,0)] (by kernel_rfl) (s := [⟨2,none,_,_,_⟩,⟨0,none,_,_,_⟩]) rfl ?_)
            |(refine gReg (i := 1) ?_;refine C_plain [(0,0),(1,2),(2,0)] (by kernel_rfl) (s := [⟨0,none,_,_,_⟩,⟨2,none,_,_,_⟩,⟨0,none,_,_,_⟩]) rfl ?_)
            |(refine gReg (i := 3) ?_;refine C_plain [(0,0),(1,2)] (by kernel_rfl) (s := [⟨0,none,_,_,_⟩,⟨2,none,_,_,_⟩]) rfl ?_)
            |(refine gReg (i := 4) ?_;refine C_plain [(0,0),(1,2),(2,0)] (by kernel_rfl) (s := [⟨0,none,_,_,_⟩,⟨2,none,_,_,_⟩,⟨0,none,_,_,_⟩]) rfl ?_)
            |(refine gReg (i := 5) ?_;refine C_plain [(0,0),(1,2),(2,0)] (by kernel_rfl) (s := [⟨0,none,_,_,_⟩,⟨2,none,_,_,_⟩,⟨0,none,_,_,_⟩]) rfl ?_)
            |(refine gReg (i := 6) ?_;refine C_plain [(0,0),(1,0)] (by kernel_rfl) (s := [⟨0,none,_,_,_⟩,⟨0,none,_,_,_⟩]) rfl ?_)
            |(refine gReg (i := 7) ?_;refine C_plain [(0,0),(1,2),(2,0)] (by kernel_rfl) (s := [⟨0,none,_,_,_⟩,⟨2,none,_,_,_⟩,⟨0,none,_,_,_⟩]) rfl ?_)
            |(refine gReg (i := 8) ?_;refine C_plain [(0,0),(1,2),(2,2),(3,2)] (by kernel_rfl) (s := [⟨0,none,_,_,_⟩,⟨2,none,_,_,_⟩,⟨2,none,_,_,_⟩,⟨2,none,_,_,_⟩]) rfl ?_)
            |(refine gReg (i := 9) ?_;refine C_plain [(0,0)] (by kernel_rfl) (s := [⟨0,none,_,_,_⟩]) rfl ?_)))
        |(refine C_false rfl ?_)
        |(refine C_split rfl ?_ ?_ <;> (intro hb;(try simp only [decide_eq_true_eq] at hb);(try simp only [decide_eq_false_iff_not] at hb);(try simp only [Bool.not_eq_true'] at hb);(try simp only [Bool.not_eq_false'] at hb);(try (exfalso;first|contradiction|omega))))
        |(refine C_skip ?_)
        |(refine C_ret ?_)
        |(refine C_block ?_)))
    |(refine gE ?_;(first
        |(refine E_then ?_)
        |(refine E_thenR ?_)
        |(apply E_ret2 rfl;(first|exact Res.tmp rfl|(apply R_cellAll rfl;(focus ((repeat (first|exact mH|refine mT ?_));done));exact T.rw24)|(apply R_cell1 rfl;(focus ((repeat (first|exact mH|refine mT ?_));done));(first|exact T.sc3|exact T.sc5|exact T.sc22)));(first|exact Res.tmp rfl|(apply R_cellAll rfl;(focus ((repeat (first|exact mH|refine mT ?_));done));exact T.rw24)|(apply R_cell1 rfl;(focus ((repeat (first|exact mH|refine mT ?_));done));(first|exact T.sc3|exact T.sc5|exact T.sc22)))))))
  · have hj : joinC (l.map ctFragPacket) = (ctFragPacket zeroP, 2) := by
      have h1 : ba = true := by assumption
      have h2 : allAgree (l.map ctFragPacket) = false := by rw [h1] at hba; simpa using hba
      simp [joinC, hbo, h2]
    refine retX zeroP (by rw [hj]) (by rw [hj]; rfl) (Ent.trans (Ent.ghost 5 1) ?_)
    simp only [zeroP, rwFragPacket]
    exact entA
  all_goals have hbaf : ba = false := by assumption
  all_goals have hAA : allAgree (l.map ctFragPacket) = true := (by rw [hbaf] at hba; simpa using hba)
  · have hj : joinC (l.map ctFragPacket) = (ctFragPacket zeroP, 3) := by
      have h1 : endL (l.map ctFragPacket) < 0 := by assumption
      simp [joinC, hbo, hAA, h1]
    refine retX zeroP (by rw [hj]) (by rw [hj]; rfl) (Ent.trans (Ent.ghost 5 1) ?_)
    simp only [zeroP, rwFragPacket]
    exact entA
  have hnn : ¬ endL (l.map ctFragPacket) < 0 := by assumption
  have hAg := allAgree_iff.1 hAA
  have hhd := pk_head (l := l) hlen.1
  dsimp only at hy
  obtain ⟨e, he⟩ : ∃ e : Nat, endL (l.map ctFragPacket) = (e : Int) := ⟨(endL (l.map ctFragPacket)).toNat, by omega⟩
  rename_i kr _
  revert kb; intro ko
  obtain ⟨y0, y1, y2, y3, y4, y5, y6, y7, yv, yl⟩ := y
  simp only [ctFragPacket, Prod.mk.injEq] at hy
  obtain ⟨rfl, rfl, rfl, rfl, rfl, rfl, rfl, rfl, rfl⟩ := hy
  rw [he]
  refine C_ent [.row yv 5 1 0 [],.blk ko 24 (clFragPacket ((ix l 0).1,(ix l 0).2.1,(ix l 0).2.2.1,(ix l 0).2.2.2.1,minHops (l.map ctFragPacket) (ix l 0).2.2.2.2.1,anyWhole (l.map ctFragPacket),0,false,yv,[])),.blk kr 24 (clFragPacket zeroP)] entA ?_
  refine C_loop (α := Nat × Value) (fun s => [(6, .int .i64 (s.1 : Int)), (5, .pointer (some ⟨ko, 0, none⟩)), (4, .int .i64 (e : Int)), (2, .pointer (some ⟨kr, 0, none⟩)), (3, .int .i64 0), (0, v)])
    (fun s => [.row s.2 5 1 s.1 (((List.range s.1).map fun a : Nat => byteL (l.map ctFragPacket) (a : Int)).flatMap clBy), .blk ko 24 (clFragPacket ((ix l 0).1, (ix l 0).2.1, (ix l 0).2.2.1, (ix l 0).2.2.2.1, minHops (l.map ctFragPacket) (ix l 0).2.2.2.2.1, anyWhole (l.map ctFragPacket), 0, false, s.2, [])), .blk kr 24 (clFragPacket zeroP)])
    (fun s => s.1 ≤ e ∧ ∀ a : Nat, a < s.1 → ((l.map ctFragPacket).any fun c => hasB c (a : Int)) = true) (fun s => e - s.1) (0, yv) ⟨Nat.zero_le _, fun a h => by dsimp only at h; omega⟩ ⟨rfl, rfl, rfl, rfl, rfl, rfl, trivial⟩ (List.Sublist.refl _) ?_
  rintro ⟨a, sv⟩ ⟨ha, hal⟩
  dsimp only at *
  refine C_fact (row_one (v := sv) (List.Mem.head _)) fun hsv => ?_
  have h1c : ∀ u : Value, u.oneCell' = true → (clFragPacket ((ix l 0).1, (ix l 0).2.1, (ix l 0).2.2.1, (ix l 0).2.2.2.1, minHops (l.map ctFragPacket) (ix l 0).2.2.2.2.1, anyWhole (l.map ctFragPacket), 0, false, u, [])).all (·.oneCell') = true := fun u hu => by simp [clFragPacket, one_int, one_bool, hu]
  have h1c2 := h1c sv hsv
  have hw2 : ∀ k : Int, (0 ≤ k ∧ k < (l.length : Int) ∧ hasB (ctFragPacket (ix l k.toNat)) (a : Int) = true) → l[k.toNat]? = some (ix l k.toNat) ∧ Mem w (ix l k.toNat).2.2.2.2.2.2.2.2.1 1 (ix l k.toNat).2.2.2.2.2.2.2.2.2.length ((ix l k.toNat).2.2.2.2.2.2.2.2.2.flatMap fun y : Int => ([.int .u8 y] : List Value)) ∧ (ix l k.toNat).2.2.2.2.2.2.1 ≤ (a : Int) ∧ (a : Int) < (ix l k.toNat).2.2.2.2.2.2.1 + ((ix l k.toNat).2.2.2.2.2.2.2.2.2.length : Int) ∧ (ix l k.toNat).2.2.2.2.2.2.2.2.2[((a : Int) - (ix l k.toNat).2.2.2.2.2.2.1).toNat]? = some (byteP (ctFragPacket (ix l k.toNat)) (a : Int)) := fun k hk => by
    have h1 := hel k.toNat (by omega)
    have h2 := hasB_iff.1 hk.2.2
    have h3 : offP (ctFragPacket (ix l k.toNat)) = (ix l k.toNat).2.2.2.2.2.2.1 := rfl
    have h4 : endP (ctFragPacket (ix l k.toNat)) = (ix l k.toNat).2.2.2.2.2.2.1 + ((ix l k.toNat).2.2.2.2.2.2.2.2.2.length : Int) := rfl
    rw [h3, h4] at h2
    exact ⟨h1.1, Rds.head h1.2.1, h2.1, h2.2, nthD (by omega)⟩
  repeat' (first
    |(refine gS ?_;(first
        |(refine S_move rfl rfl ?_)
        |(refine S_assign rfl rfl ?_)
        |(apply F_field rfl rfl;(first|exact T.fl24_6|exact T.fl24_8))
        |(apply F_fieldS rfl rfl;(first|exact T.fl24_6|exact T.fl24_8);(focus (first|exact len_nil|(apply len_given;assumption)|(apply len_row;(focus ((repeat (first|exact mH|refine mT ?_));done)))|(apply len_isN;assumption)));(focus omega))
        |(apply F_idxZ rfl rfl rfl;(first|exact T.sl22|exact T.sl27);(focus omega);(focus (first|exact len_nil|(apply len_given;assumption)|(apply len_row;(focus ((repeat (first|exact mH|refine mT ?_));done)))|(apply len_isN;assumption)));(focus omega))
        |(apply F_bs rfl rfl;(first|exact T.el22|exact T.el27);rfl;rfl;rfl;rfl;(focus ((repeat (first|exact Dense.nil|(apply Dense.cons;rfl;rfl)));done));intro sv;(try (refine S_fact (row_one (v := sv) (by (focus ((repeat (first|exact mH|refine mT ?_));done)))) (fun hone => ?_))))
        |(refine gLoad ?_;(first
            |(apply F_load1 rfl rfl;(focus ((repeat (first|exact mH|refine mT ?_));done));(first|exact T.sc3|exact T.sc5|exact T.sc22);rfl;(focus (first|exact free0|exact free1|(refine free2 ?_ ?_;(focus ((repeat (first|(apply apart1;(repeat (first|exact mH|refine mT ?_));done)|(apply apart2;(repeat (first|exact mH|refine mT ?_));done)|refine apart3 ?_));done));(first|exact free1|(refine free2 ?_ ?_;(focus ((repeat (first|(apply apart1;(repeat (first|exact mH|refine mT ?_));done)|(apply apart2;(repeat (first|exact mH|refine mT ?_));done)|refine apart3 ?_));done));exact free1))))))
            |(apply F_loadAll rfl rfl;(focus ((repeat (first|exact mH|refine mT ?_));done));exact T.rw24;(focus (first|exact free0|exact free1|(refine free2 ?_ ?_;(focus ((repeat (first|(apply apart1;(repeat (first|exact mH|refine mT ?_));done)|(apply apart2;(repeat (first|exact mH|refine mT ?_));done)|refine apart3 ?_));done));(first|exact free1|(refine free2 ?_ ?_;(focus ((repeat (first|(apply apart1;(repeat (first|exact mH|refine mT ?_));done)|(apply apart2;(repeat (first|exact mH|refine mT ?_));done)|refine apart3 ?_));done));exact free1))))))
            |(apply F_loadS1 rfl rfl;(first|exact T.sc3|exact T.sc5|exact T.sc22);(focus (first|exact rd_nil|(apply rd_given;(focus assumption);(focus (first|exact freeG0|exact freeG1|(apply freeG2;(focus ((repeat (first|exact mH|refine mT ?_));done));(first|exact freeG1|(apply freeG2;(focus ((repeat (first|exact mH|refine mT ?_));done));exact freeG1))))))|(apply rd_row;(focus ((repeat (first|exact mH|refine mT ?_));done));(focus (first|exact freeR0|exact freeR1|(refine freeR2 ?_ ?_;(focus ((repeat (first|(apply apartR1;(focus ((repeat (first|exact mH|refine mT ?_));done));done)|(apply apartR2;(focus ((repeat (first|exact mH|refine mT ?_));done));done)|refine apartR3 ?_));done));(first|exact freeR1|(refine freeR2 ?_ ?_;(focus ((repeat (first|(apply apartR1;(focus ((repeat (first|exact mH|refine mT ?_));done));done)|(apply apartR2;(focus ((repeat (first|exact mH|refine mT ?_));done));done)|refine apartR3 ?_));done));exact freeR1))))))));(focus (first|(apply at_cell;(focus (apply at_flat;(focus (intro _;rfl));(focus assumption)));rfl)|(apply at_cell0;(focus (apply at_flat;(focus (intro _;rfl));(focus assumption)));rfl)|(apply at_cell;(focus (apply at_mid0;(focus assumption)));rfl)|(apply at_cell0;(focus (apply at_mid0;(focus assumption)));rfl)|rfl)))))
        |(refine gStore ?_;(first
            |(apply F_store1 rfl rfl;(focus (first|rfl|assumption));(first|exact T.sc3|exact T.sc5|exact T.sc22);(focus ((repeat (first|exact Upd.here|apply Upd.there));done));(focus ((repeat (first|exact SetSeg.nil|apply SetSeg.here|apply SetSeg.there));done));(first|exact okst2|exact okst1|exact okst1'))
            |(apply F_storeN rfl rfl;(focus (first|rfl|assumption|(simp only [List.append_nil,List.all_cons,List.all_nil,Bool.and_true,Bool.true_and,one_int,one_bool,one_string,one_slice,one_pointer, *];done)));exact T.rw24;(focus ((repeat (first|exact Upd.here|apply Upd.there));done));(focus ((repeat (first|exact SetSeg.nil|apply SetSeg.here|apply SetSeg.there));done));(first|exact okst2|exact okst1|exact okst1'))))
        |(refine gCall ?_;(first
            |(show GoS _ _ _ _ _ _ _ (⟨_,_,_,.call ⟨.value (.func 67),_,_⟩,_⟩ :: _);refine S_callX (f := 67) rfl T.pf67 rfl (fun w hst => l13Who_c (v,l) (a : Int) hn hl hbo w (hxx.ext hst.ext)) rfl (fun zz hzz => ?_);simp only [List.cons_append,List.nil_append];revert hzz;revert zz;intro k hk;dsimp only at hk;(rcases hk with ⟨hk1,hk2⟩|⟨hk1,hk2,hk3,hk4⟩) <;> (try (have hkk := hw2 k ⟨hk1,hk2,hk3⟩;have g1 := hkk.1;have g2 := hkk.2.1;have g3 := hkk.2.2.1;have g4 := hkk.2.2.2.1;have g5 := hkk.2.2.2.2;have hf := hof k.toNat (by omega))))
            |(apply F_append rfl rfl rfl rfl;(first|exact T.el22|exact T.el27);(focus (intro sv;(focus ((repeat (first|exact Upd.here|apply Upd.there));done))));(focus (first|exact rd_nil|(apply rd_given;(focus assumption);(focus (first|exact freeG0|exact freeG1|(apply freeG2;(focus ((repeat (first|exact mH|refine mT ?_));done));(first|exact freeG1|(apply freeG2;(focus ((repeat (first|exact mH|refine mT ?_));done));exact freeG1))))))|(apply rd_row;(focus ((repeat (first|exact mH|refine mT ?_));done));(focus (first|exact freeR0|exact freeR1|(refine freeR2 ?_ ?_;(focus ((repeat (first|(apply apartR1;(focus ((repeat (first|exact mH|refine mT ?_));done));done)|(apply apartR2;(focus ((repeat (first|exact mH|refine mT ?_));done));done)|refine apartR3 ?_));done));(first|exact freeR1|(refine freeR2 ?_ ?_;(focus ((repeat (first|(apply apartR1;(focus ((repeat (first|exact mH|refine mT ?_));done));done)|(apply apartR2;(focus ((repeat (first|exact mH|refine mT ?_));done));done)|refine apartR3 ?_));done));exact freeR1))))))));(focus (first|rfl|assumption|(apply all_flat;intro _ _;rfl)|(rw [List.append_nil];assumption)|(simp only [List.append_nil,List.all_cons,List.all_nil,Bool.and_true,Bool.true_and,one_int,one_bool,one_string,one_slice,one_pointer, *];done)|simp));(first|exact okst2|exact okst1|exact okst1');(focus (simp only [maxLen];first|omega|(simp only [List.length_take,List.length_drop];omega)));(focus (first|omega|(simp only [List.length_take,List.length_drop];omega)));intro sv;(try (refine S_fact (row_one (v := sv) (by (focus ((repeat (first|exact mH|refine mT ?_));done)))) (fun hone => ?_))))))
        |(refine gBin ?_;(first
            |(refine S_lss rfl rfl rfl ?_)
            |(refine S_add rfl rfl ?_ rfl ?_;(focus (unfold rng;omega)))
            |(refine S_sub rfl rfl ?_ rfl ?_;(focus (unfold rng;omega)))))
        |(apply F_build2 rfl (hd := rfl);exact T.st24;(focus ((repeat (first|exact BuildR.nil|(apply BuildR.cons;(first|exact T.fs24_0|exact T.fs24_1|exact T.fs24_2|exact T.fs24_3|exact T.fs24_4|exact T.fs24_5|exact T.fs24_6|exact T.fs24_7|exact T.fs24_8);rfl;rfl;(focus ((repeat (first|exact SetSeg.nil|apply SetSeg.here|apply SetSeg.there));done)))|(apply BuildR.cons1;(first|exact T.fs24_0|exact T.fs24_1|exact T.fs24_2|exact T.fs24_3|exact T.fs24_4|exact T.fs24_5|exact T.fs24_6|exact T.fs24_7|exact T.fs24_8);(focus assumption);(focus ((repeat (first|exact SetSeg.nil|apply SetSeg.here|apply SetSeg.there));done)))));done)))
        |(refine S_done ?_)))
    |(refine gC ?_;(first
        |(refine C_seq ?_)
        |(refine gReg ?_;(first
            |(refine gReg (i := 10) ?_;refine C_plain [(0,0),(1,0),(2,0)] (by kernel_rfl) (s := [⟨0,none,_,_,_⟩,⟨0,none,_,_,_⟩,⟨0,none,_,_,_⟩]) rfl ?_)
            |(refine gReg (i := 12) ?_;refine C_plain [(0,0),(1,0),(2,2),(3,0)] (by kernel_rfl) (s := [⟨0,none,_,_,_⟩,⟨0,none,_,_,_⟩,⟨2,none,_,_,_⟩,⟨0,none,_,_,_⟩]) rfl ?_)
            |(refine gReg (i := 13) ?_;refine C_plain [(0,0),(1,0)] (by kernel_rfl) (s := [⟨0,none,_,_,_⟩,⟨0,none,_,_,_⟩]) rfl ?_)
            |(refine gReg (i := 14) ?_;refine C_plain [(0,0),(1,2),(2,0)] (by kernel_rfl) (s := [⟨0,none,_,_,_⟩,⟨2,none,_,_,_⟩,⟨0,none,_,_,_⟩]) rfl ?_)
            |(refine gReg (i := 15) ?_;refine C_drawn [(0,0),(1,0),(2,0),(3,0),(4,0),(5,0),(6,0),(7,0),(8,0),(9,0),(10,0),(11,0),(12,0),(13,0),(14,0),(15,0),(16,1),(17,2),(18,0),(19,2)] [] T.mixed (by kernel_rfl) (s := [⟨0,none,_,_,_⟩,⟨0,none,_,_,_⟩,⟨0,none,_,_,_⟩,⟨0,none,_,_,_⟩,⟨0,none,_,_,_⟩,⟨0,none,_,_,_⟩,⟨0,none,_,_,_⟩,⟨0,none,_,_,_⟩,⟨0,none,_,_,_⟩,⟨0,none,_,_,_⟩,⟨0,none,_,_,_⟩,⟨0,none,_,_,_⟩,⟨0,none,_,_,_⟩,⟨0,none,_,_,_⟩,⟨0,none,_,_,_⟩,⟨0,none,_,_,_⟩,⟨1,none,_,_,_⟩,⟨2,none,_,_,_⟩,⟨0,none,_,_,_⟩,⟨2,none,_,_,_⟩]) rfl ?_)
            |(refine gReg (i := 11) ?_;refine C_plain [(0,0),(1,0),(2,0)] (by kernel_rfl) (s := [⟨0,none,_,_,_⟩,⟨0,none,_,_,_⟩,⟨0,none,_,_,_⟩]) rfl ?_)
            |(refine gReg (i := 16) ?_;refine C_plain [(0,0),(1,2),(2,0)] (by kernel_rfl) (s := [⟨0,none,_,_,_⟩,⟨2,none,_,_,_⟩,⟨0,none,_,_,_⟩]) rfl ?_)))
        |(refine C_split rfl ?_ ?_ <;> (intro hb;(try simp only [decide_eq_true_eq] at hb);(try simp only [decide_eq_false_iff_not] at hb);(try simp only [Bool.not_eq_true'] at hb);(try simp only [Bool.not_eq_false'] at hb);(try (exfalso;first|contradiction|omega))))
        |(refine C_skip ?_)
        |(refine C_exit ?_)
        |(refine C_ret ?_)
        |(refine C_block ?_)))
    |(refine gE ?_;(first
        |(refine E_then ?_)
        |(refine E_thenX ?_)
        |(refine E_thenR ?_)
        |(refine E_block ?_)
        |(refine E_blockY ?_)
        |(refine E_blockR ?_)
        |(refine E_calm ?_)
        |(apply E_ret2 rfl;(first|exact Res.tmp rfl|(apply R_cellAll rfl;(focus ((repeat (first|exact mH|refine mT ?_));done));exact T.rw24)|(apply R_cell1 rfl;(focus ((repeat (first|exact mH|refine mT ?_));done));(first|exact T.sc3|exact T.sc5|exact T.sc22)));(first|exact Res.tmp rfl|(apply R_cellAll rfl;(focus ((repeat (first|exact mH|refine mT ?_));done));exact T.rw24)|(apply R_cell1 rfl;(focus ((repeat (first|exact mH|refine mT ?_));done));(first|exact T.sc3|exact T.sc5|exact T.sc22)))))))
  · have hj : joinC (l.map ctFragPacket) = (ctFragPacket zeroP, 3) := by
      have h1 : ¬ endL (l.map ctFragPacket) < 0 := hnn
      have h2 : fullL (l.map ctFragPacket) = false := by
        cases h : fullL (l.map ctFragPacket)
        · rfl
        · exfalso
          unfold fullL at h
          rw [he] at h
          have h3 := List.all_eq_true.1 h a (List.mem_range.2 (by show a < e; omega))
          obtain ⟨c, hc, hcb⟩ := List.any_eq_true.1 h3
          have h4 := hk2 c hc
          rw [h4] at hcb; cases hcb
      simp [joinC, hbo, hAA, h1, h2]
    refine retX zeroP (by rw [hj]) (by rw [hj]; rfl) (Ent.trans (Ent.ghost 5 1) ?_)
    simp only [zeroP, rwFragPacket]
    exact entA
  · have hby : byteL (l.map ctFragPacket) (a : Int) = byteP (ctFragPacket (ix l k.toNat)) (a : Int) := by
      unfold byteL
      rw [hk4]
    have hcat : ((List.range (a + 1)).map fun a : Nat => byteL (l.map ctFragPacket) (a : Int)).flatMap clBy = ((List.range a).map fun a : Nat => byteL (l.map ctFragPacket) (a : Int)).flatMap clBy ++ ([Value.int .u8 (byteP (ctFragPacket (ix l k.toNat)) (a : Int))] ++ []) := by
      rw [List.range_succ, List.map_append, List.flatMap_append, List.map_singleton, hby]; rfl
    refine E_roundS (α := Nat × Value) (a + 1, sv) ⟨by dsimp only; omega, fun j hj => ?_⟩ (by dsimp only; omega) ⟨rfl, rfl, rfl, rfl, rfl, rfl, trivial⟩ ?_
    · dsimp only at hj
      rcases Nat.lt_or_ge j a with h | h
      · exact hal j h
      · have : j = a := by omega
        subst this
        exact List.any_eq_true.2 ⟨_, List.mem_of_getElem? (pk_map k.toNat (by omega)), hk3⟩
    · dsimp only
      rw [hcat]
      exact entA
  · have hae : a = e := by omega
    subst hae
    have hj : joinC (l.map ctFragPacket) = (wholeC (l.map ctFragPacket), 0) := by
      have h2 : fullL (l.map ctFragPacket) = true := by
        unfold fullL
        rw [he]
        exact List.all_eq_true.2 fun j hj => hal j (List.mem_range.1 hj)
      simp [joinC, hbo, hAA, hnn, h2]
    refine retX ((ix l 0).1, (ix l 0).2.1, (ix l 0).2.2.1, (ix l 0).2.2.2.1, minHops (l.map ctFragPacket) (ix l 0).2.2.2.2.1, anyWhole (l.map ctFragPacket), 0, false, sv, (List.range a).map fun a : Nat => byteL (l.map ctFragPacket) (a : Int)) ?_ (by rw [hj]; rfl) ?_
    · rw [hj]
      have heE : (endL (l.map ctFragPacket)).toNat = a := by rw [he]; rfl
      simp only [wholeC, hhd, heE, ctFragPacket]
    · have hE : Blk.row sv 5 1 a (((List.range a).map fun a : Nat => byteL (l.map ctFragPacket) (a : Int)).flatMap clBy) = Blk.row sv 5 1 ((List.range a).map fun a : Nat => byteL (l.map ctFragPacket) (a : Int)).length (((List.range a).map fun a : Nat => byteL (l.map ctFragPacket) (a : Int)).flatMap fun y : Int => ([.int .u8 y] : List Value)) := by rw [List.length_map, List.length_range]; rfl
      rw [hE]
      exact entA
end Go.Proofs.Ytodhjpnfokkfeaa

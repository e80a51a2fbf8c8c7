/- Pieces joined by the program's function. -/
import Derived.Test.YtodhjpnfokkfeaaFragk
set_option linter.unusedSimpArgs false
set_option linter.unusedVariables false
namespace Go.Proofs.Ytodhjpnfokkfeaa
open Go Go.RowKit
attribute [local irreducible] Calls GoS GoC GoE GoT Mid IsFl IsSc IsRw IsSl IsEl IsSt IsFs sp Mem Rd LenOf szR
theorem implFragJoin_c (x : MSFragPacket) (hn : x.2.length ≤ 1048576) (hl : ∀ y ∈ x.2, y.2.2.2.2.2.2.2.2.2.length ≤ 1048576) (w : World) (hx : Rds w (rwSFragPacket x)) : Calls Try.prog 15 #[x.1] w
    (RetX (fun y : MFragPacket => ctFragPacket y = (joinC (x.2.map ctFragPacket)).1) (fun y => .tuple #[.agg (clFragPacket y).toArray, .int .i64 (joinC (x.2.map ctFragPacket)).2]) (fun y => [.many (rwFragPacket y)]) w) := by
  have hxx := hx
  obtain ⟨v, l⟩ := x
  have hm := Rds.head hx
  have hr := Rds.flatMap.1 (Rds.tail hx)
  dsimp only at *
  have hel : ∀ i : Nat, (i : Int) < (l.length : Int) → l[i]? = some (ix l i) ∧ Rds w (rwFragPacket (ix l i)) ∧ (ix l i).2.2.2.2.2.2.2.2.2.length ≤ 1048576 := fun i h => by
    have hx := nthD h
    have hmem := List.mem_of_getElem? hx
    exact ⟨hx, hr _ hmem, hl _ hmem⟩
  refine enter (n := 92) (E := [(0, _)]) Try.func15 rfl rfl rfl rfl ?_
  repeat' (first
    |(refine gS ?_;(first
        |(refine S_move rfl rfl ?_)
        |(refine S_assign rfl rfl ?_)
        |(refine gStore ?_;(first
            |(apply F_storeN rfl rfl;(focus (first|rfl|assumption|(simp only [List.append_nil,List.all_cons,List.all_nil,Bool.and_true,Bool.true_and,one_int,one_bool,one_string,one_slice,one_pointer, *];done)));exact T.rw24;(focus ((repeat (first|exact Upd.here|apply Upd.there));done));(focus ((repeat (first|exact SetSeg.nil|apply SetSeg.here|apply SetSeg.there));done));(first|exact okst2|exact okst1|exact okst1'))))
        |(refine gCall ?_;(first
            |(show GoS _ _ _ _ _ _ _ (⟨_,_,_,.call ⟨.value (.func 57),_,_⟩,_⟩ :: _);refine S_callN (f := 57) rfl T.pf57 rfl (fun w hst => within_c _ _ _ w) rfl ?_)
            |(apply F_len rfl rfl rfl;(focus exact ⟨_,_,by exact T.sl27⟩);(focus (first|(focus (first|exact len_nil|(apply len_given;assumption)|(apply len_row;(focus ((repeat (first|exact mH|refine mT ?_));done)))|(apply len_isN;assumption)))|(apply len_sub;(focus (first|exact len_nil|(apply len_given;assumption)|(apply len_row;(focus ((repeat (first|exact mH|refine mT ?_));done)))|(apply len_isN;assumption)));(focus omega);(focus omega)))))))
        |(apply S_alloc rfl (hd := rfl);exact T.zc24;intro kb)
        |(apply F_build2 rfl (hd := rfl);exact T.st24;(focus ((repeat (first|exact BuildR.nil|(apply BuildR.cons;(first|exact T.fs24_0|exact T.fs24_1|exact T.fs24_2|exact T.fs24_3|exact T.fs24_4|exact T.fs24_5|exact T.fs24_6|exact T.fs24_7|exact T.fs24_8);rfl;rfl;(focus ((repeat (first|exact SetSeg.nil|apply SetSeg.here|apply SetSeg.there));done)))|(apply BuildR.cons1;(first|exact T.fs24_0|exact T.fs24_1|exact T.fs24_2|exact T.fs24_3|exact T.fs24_4|exact T.fs24_5|exact T.fs24_6|exact T.fs24_7|exact T.fs24_8);(focus assumption);(focus ((repeat (first|exact SetSeg.nil|apply SetSeg.here|apply SetSeg.there));done)))));done)))
        |(refine S_not rfl rfl ?_)
        |(refine S_done ?_)))
    |((first
        |(refine C_seq ?_)
        |(refine gReg ?_;(first
            |(refine gReg (i := 0) ?_;refine C_plain [(0,2),(1,0)] (by kernel_rfl) (s := [⟨2,none,_,_,_⟩,⟨0,none,_,_,_⟩]) rfl ?_)
            |(refine gReg (i := 1) ?_;refine C_plain [(0,0),(1,0),(2,2),(3,0)] (by kernel_rfl) (s := [⟨0,none,_,_,_⟩,⟨0,none,_,_,_⟩,⟨2,none,_,_,_⟩,⟨0,none,_,_,_⟩]) rfl ?_)
            |(refine gReg (i := 2) ?_;refine C_plain [(0,0),(1,2),(2,0)] (by kernel_rfl) (s := [⟨0,none,_,_,_⟩,⟨2,none,_,_,_⟩,⟨0,none,_,_,_⟩]) rfl ?_)
            |(refine gReg (i := 3) ?_;refine C_plain [(0,0),(1,0),(2,0)] (by kernel_rfl) (s := [⟨0,none,_,_,_⟩,⟨0,none,_,_,_⟩,⟨0,none,_,_,_⟩]) rfl ?_)))
        |(refine C_split rfl ?_ ?_ <;> (intro hb;(try simp only [decide_eq_true_eq] at hb);(try simp only [decide_eq_false_iff_not] at hb);(try simp only [Bool.not_eq_true'] at hb);(try simp only [Bool.not_eq_false'] at hb);(try (exfalso;first|contradiction|omega));(try (have hin := inB_t hb))))
        |(refine C_skip ?_)
        |(refine C_ret ?_)
        |(refine C_block ?_)))
    |(refine gE ?_;(first
        |(refine E_then ?_)
        |(refine E_thenR ?_)
        |(apply E_ret2 rfl;(first|exact Res.tmp rfl|(apply R_cellAll rfl;(focus ((repeat (first|exact mH|refine mT ?_));done));exact T.rw24)|(apply R_cell1 rfl;(focus ((repeat (first|exact mH|refine mT ?_));done));(first|exact T.sc3|exact T.sc4|exact T.sc22)));(first|exact Res.tmp rfl|(apply R_cellAll rfl;(focus ((repeat (first|exact mH|refine mT ?_));done));exact T.rw24)|(apply R_cell1 rfl;(focus ((repeat (first|exact mH|refine mT ?_));done));(first|exact T.sc3|exact T.sc4|exact T.sc22)))))))
  · have hj : joinC (l.map ctFragPacket) = (ctFragPacket zeroP, 1) := by
      have : okJ (l.map ctFragPacket) = false := by
        cases h : okJ (l.map ctFragPacket)
        · rfl
        · have h2 := okJ_iff.1 h
          rw [List.length_map] at h2
          have h3 : inB (l.length : Int) 1 40 = false := by assumption
          simp [inB] at h3
          omega
      simp [joinC, this]
    refine retX zeroP (by rw [hj]) (by rw [hj]; rfl) (Ent.trans (Ent.ghost 5 1) ?_)
    simp only [zeroP, rwFragPacket]
    exact entA
  revert kb; intro kr
  have h00 := hel 0 (by omega)
  have h07 := oneFragPacket h00.2.1
  have hz0 : l[(0 : Int).toNat]? = some (ix l 0) := h00.1
  have hhd : headC (l.map ctFragPacket) = ctFragPacket (ix l 0) := by
    cases l with
    | nil => simp at hin
    | cons a l => rfl
  have hmemL : ∀ i : Nat, (i : Int) < (l.length : Int) → (l.map ctFragPacket)[i]? = some (ctFragPacket (ix l i)) := fun i h => by rw [List.getElem?_map, (hel i h).1]; rfl
  have hLmem : ∀ c ∈ l.map ctFragPacket, ∃ i : Nat, i < l.length ∧ c = ctFragPacket (ix l i) := fun c hc => by
    obtain ⟨i, hi⟩ := List.getElem?_of_mem hc
    have hlt : i < (l.map ctFragPacket).length := (List.getElem?_eq_some_iff.1 hi).1
    rw [List.length_map] at hlt
    rw [hmemL i (by omega)] at hi
    exact ⟨i, hlt, (Option.some.inj hi).symm⟩
  refine C_loop (α := Nat) (fun i => [(21, .int .i64 (i : Int)), (20, .int .i64 (l.length : Int)), (19, v), (3, .int .i64 0), (2, .pointer (some ⟨kr, 0, none⟩)), (0, v)]) (fun _ => [.blk kr 24 (clFragPacket zeroP)])
    (fun i => i ≤ l.length ∧ ∀ j, j < i → alikeC (ctFragPacket (ix l j)) (ctFragPacket (ix l 0)) = true) (fun i => l.length - i) 0 ⟨Nat.zero_le _, fun j h => by omega⟩ ⟨rfl, rfl, rfl, rfl, rfl, rfl, trivial⟩ (List.Sublist.refl _) ?_
  rintro i ⟨hi, hal⟩
  repeat' (first
    |(refine gS ?_;(first
        |(refine S_move rfl rfl ?_)
        |(refine S_assign rfl rfl ?_)
        |(apply F_idx rfl rfl rfl;exact T.sl27;(focus rfl);(focus (first|(focus (first|exact len_nil|(apply len_given;assumption)|(apply len_row;(focus ((repeat (first|exact mH|refine mT ?_));done)))|(apply len_isN;assumption)))|(apply len_sub;(focus (first|exact len_nil|(apply len_given;assumption)|(apply len_row;(focus ((repeat (first|exact mH|refine mT ?_));done)))|(apply len_isN;assumption)));(focus omega);(focus omega))));(focus omega))
        |(apply F_idxZ rfl rfl rfl;exact T.sl27;(focus omega);(focus (first|(focus (first|exact len_nil|(apply len_given;assumption)|(apply len_row;(focus ((repeat (first|exact mH|refine mT ?_));done)))|(apply len_isN;assumption)))|(apply len_sub;(focus (first|exact len_nil|(apply len_given;assumption)|(apply len_row;(focus ((repeat (first|exact mH|refine mT ?_));done)))|(apply len_isN;assumption)));(focus omega);(focus omega))));(focus omega))
        |(refine gLoad ?_;(first
            |(apply F_loadAll rfl rfl;(focus ((repeat (first|exact mH|refine mT ?_));done));exact T.rw24;(focus (first|exact free0|exact free1|(refine free2 ?_ ?_;(focus ((repeat (first|(apply apart1;(repeat (first|exact mH|refine mT ?_));done)|(apply apart2;(repeat (first|exact mH|refine mT ?_));done)|refine apart3 ?_));done));(first|exact free1|(refine free2 ?_ ?_;(focus ((repeat (first|(apply apart1;(repeat (first|exact mH|refine mT ?_));done)|(apply apart2;(repeat (first|exact mH|refine mT ?_));done)|refine apart3 ?_));done));exact free1))))))
            |(apply F_loadSN rfl rfl;exact T.rw24;(focus (first|exact rd_nil|(apply rd_given;(focus assumption);(focus (first|exact freeG0|exact freeG1|(apply freeG2;(focus ((repeat (first|exact mH|refine mT ?_));done));(first|exact freeG1|(apply freeG2;(focus ((repeat (first|exact mH|refine mT ?_));done));exact freeG1))))))|(apply rd_row;(focus ((repeat (first|exact mH|refine mT ?_));done));(focus (first|exact freeR0|exact freeR1|(refine freeR2 ?_ ?_;(focus ((repeat (first|(apply apartR1;(focus ((repeat (first|exact mH|refine mT ?_));done));done)|(apply apartR2;(focus ((repeat (first|exact mH|refine mT ?_));done));done)|refine apartR3 ?_));done));(first|exact freeR1|(refine freeR2 ?_ ?_;(focus ((repeat (first|(apply apartR1;(focus ((repeat (first|exact mH|refine mT ?_));done));done)|(apply apartR2;(focus ((repeat (first|exact mH|refine mT ?_));done));done)|refine apartR3 ?_));done));exact freeR1))))))|(apply rd_sub;(focus (apply rd_given;(focus assumption);(focus (first|exact freeG0|exact freeG1|(apply freeG2;(focus ((repeat (first|exact mH|refine mT ?_));done));(first|exact freeG1|(apply freeG2;(focus ((repeat (first|exact mH|refine mT ?_));done));exact freeG1)))))));(focus (intro _;rfl));(focus omega);(focus omega))|(apply rd_sub;(focus (apply rd_row;(focus ((repeat (first|exact mH|refine mT ?_));done));(focus (first|exact freeR0|exact freeR1|(refine freeR2 ?_ ?_;(focus ((repeat (first|(apply apartR1;(focus ((repeat (first|exact mH|refine mT ?_));done));done)|(apply apartR2;(focus ((repeat (first|exact mH|refine mT ?_));done));done)|refine apartR3 ?_));done));(first|exact freeR1|(refine freeR2 ?_ ?_;(focus ((repeat (first|(apply apartR1;(focus ((repeat (first|exact mH|refine mT ?_));done));done)|(apply apartR2;(focus ((repeat (first|exact mH|refine mT ?_));done));done)|refine apartR3 ?_));done));exact freeR1)))))));(focus (intro _;rfl));(focus omega);(focus omega))));(focus (first|(focus (apply at_flat;(focus (intro _;rfl));(focus assumption)))|exact at_self));rfl;rfl)))
        |(refine gStore ?_;(first
            |(apply F_storeN rfl rfl;(focus (first|rfl|assumption|(simp only [List.append_nil,List.all_cons,List.all_nil,Bool.and_true,Bool.true_and,one_int,one_bool,one_string,one_slice,one_pointer, *];done)));exact T.rw24;(focus ((repeat (first|exact Upd.here|apply Upd.there));done));(focus ((repeat (first|exact SetSeg.nil|apply SetSeg.here|apply SetSeg.there));done));(first|exact okst2|exact okst1|exact okst1'))))
        |(refine gCall ?_;(first
            |(show GoS _ _ _ _ _ _ _ (⟨_,_,_,.call ⟨.value (.func 58),_,_⟩,_⟩ :: _);refine S_callN (f := 58) rfl T.pf58 rfl (fun w hst => implFragAlike_c _ _ (by assumption) h00.2.2 w (by first|(refine Rds.given hst ?_;assumption)|(apply Rds.many hst;(focus ((repeat (first|exact mH|refine mT ?_));done)))|(apply Rds.row hst;(focus ((repeat (first|exact mH|refine mT ?_));done)))) (Rds.given hst h00.2.1)) rfl ?_)
            |(apply F_len rfl rfl rfl;(focus exact ⟨_,_,by exact T.sl27⟩);(focus (first|(focus (first|exact len_nil|(apply len_given;assumption)|(apply len_row;(focus ((repeat (first|exact mH|refine mT ?_));done)))|(apply len_isN;assumption)))|(apply len_sub;(focus (first|exact len_nil|(apply len_given;assumption)|(apply len_row;(focus ((repeat (first|exact mH|refine mT ?_));done)))|(apply len_isN;assumption)));(focus omega);(focus omega)))))))
        |(refine gBin ?_;(first
            |(refine S_lss rfl rfl rfl ?_)
            |(refine S_add rfl rfl ?_ rfl ?_;(focus (unfold rng;omega)))))
        |(apply S_alloc rfl (hd := rfl);exact T.zc24;intro kb)
        |(apply F_build2 rfl (hd := rfl);exact T.st24;(focus ((repeat (first|exact BuildR.nil|(apply BuildR.cons;(first|exact T.fs24_0|exact T.fs24_1|exact T.fs24_2|exact T.fs24_3|exact T.fs24_4|exact T.fs24_5|exact T.fs24_6|exact T.fs24_7|exact T.fs24_8);rfl;rfl;(focus ((repeat (first|exact SetSeg.nil|apply SetSeg.here|apply SetSeg.there));done)))|(apply BuildR.cons1;(first|exact T.fs24_0|exact T.fs24_1|exact T.fs24_2|exact T.fs24_3|exact T.fs24_4|exact T.fs24_5|exact T.fs24_6|exact T.fs24_7|exact T.fs24_8);(focus assumption);(focus ((repeat (first|exact SetSeg.nil|apply SetSeg.here|apply SetSeg.there));done)))));done)))
        |(refine S_not rfl rfl ?_)
        |(refine S_done ?_)))
    |((first
        |(refine C_seq ?_)
        |(refine gReg ?_;(first
            |(refine gReg (i := 4) ?_;refine C_plain [(0,0)] (by kernel_rfl) (s := [⟨0,none,_,_,_⟩]) rfl ?_)
            |(refine gReg (i := 5) ?_;refine C_plain [(0,0),(1,0),(2,2),(3,2)] (by kernel_rfl) (s := [⟨0,none,_,_,_⟩,⟨0,none,_,_,_⟩,⟨2,none,_,_,_⟩,⟨2,none,_,_,_⟩]) rfl ?_)
            |(refine gReg (i := 6) ?_;refine C_drawn [(0,0),(1,0),(2,0),(3,0),(4,1),(5,0)] [] T.mixed (by kernel_rfl) (s := [⟨0,none,_,_,_⟩,⟨0,none,_,_,_⟩,⟨0,none,_,_,_⟩,⟨0,none,_,_,_⟩,⟨1,none,_,_,_⟩,⟨0,none,_,_,_⟩]) rfl ?_)
            |(refine gReg (i := 7) ?_;refine C_plain [(0,0),(1,2),(2,0)] (by kernel_rfl) (s := [⟨0,none,_,_,_⟩,⟨2,none,_,_,_⟩,⟨0,none,_,_,_⟩]) rfl ?_)
            |(refine gReg (i := 8) ?_;refine C_plain [(0,0),(1,0)] (by kernel_rfl) (s := [⟨0,none,_,_,_⟩,⟨0,none,_,_,_⟩]) rfl ?_)
            |(refine gReg (i := 9) ?_;refine C_plain [(0,0),(1,0),(2,0),(3,2),(4,2)] (by kernel_rfl) (s := [⟨0,none,_,_,_⟩,⟨0,none,_,_,_⟩,⟨0,none,_,_,_⟩,⟨2,none,_,_,_⟩,⟨2,none,_,_,_⟩]) rfl ?_)
            |(refine gReg (i := 10) ?_;refine C_plain [(0,0)] (by kernel_rfl) (s := [⟨0,none,_,_,_⟩]) rfl ?_)
            |(refine gReg (i := 11) ?_;refine C_plain [(0,0),(1,0),(2,0)] (by kernel_rfl) (s := [⟨0,none,_,_,_⟩,⟨0,none,_,_,_⟩,⟨0,none,_,_,_⟩]) rfl ?_)))
        |(refine C_split rfl ?_ ?_ <;> (intro hb;(try simp only [decide_eq_true_eq] at hb);(try simp only [decide_eq_false_iff_not] at hb);(try simp only [Bool.not_eq_true'] at hb);(try simp only [Bool.not_eq_false'] at hb);(try (exfalso;first|contradiction|omega));(try (have hq := hel i hb));(try (have hq1 := hq.1));(try (have hq2 := hq.2.1));(try (have hq3 := hq.2.2));(try (have hq7 := oneFragPacket hq2))))
        |(refine C_skip ?_)
        |(refine C_exit ?_)
        |(refine C_ret ?_)
        |(refine C_block ?_)))
    |(refine gE ?_;(first
        |(refine E_then ?_)
        |(refine E_thenX ?_)
        |(refine E_thenR ?_)
        |(refine E_block ?_)
        |(refine E_blockY ?_)
        |(refine E_blockR ?_)
        |(refine E_calm ?_)
        |(apply E_ret2 rfl;(first|exact Res.tmp rfl|(apply R_cellAll rfl;(focus ((repeat (first|exact mH|refine mT ?_));done));exact T.rw24)|(apply R_cell1 rfl;(focus ((repeat (first|exact mH|refine mT ?_));done));(first|exact T.sc3|exact T.sc4|exact T.sc22)));(first|exact Res.tmp rfl|(apply R_cellAll rfl;(focus ((repeat (first|exact mH|refine mT ?_));done));exact T.rw24)|(apply R_cell1 rfl;(focus ((repeat (first|exact mH|refine mT ?_));done));(first|exact T.sc3|exact T.sc4|exact T.sc22)))))))
  · have hj : joinC (l.map ctFragPacket) = (ctFragPacket zeroP, 1) := by
      have : okJ (l.map ctFragPacket) = false := by
        cases h : okJ (l.map ctFragPacket)
        · rfl
        · have h2 := (okJ_iff.1 h).2.2 _ (List.mem_of_getElem? (hmemL i (by omega)))
          rw [hhd] at h2
          have h3 : alikeC (ctFragPacket (ix l i)) (ctFragPacket (ix l 0)) = false := by assumption
          rw [h3] at h2; cases h2
      simp [joinC, this]
    refine retX zeroP (by rw [hj]) (by rw [hj]; rfl) (Ent.trans (Ent.ghost 5 1) ?_)
    simp only [zeroP, rwFragPacket]
    exact entA
  · refine E_roundS (α := Nat) (i + 1) ⟨by omega,fun j hj => ?_⟩ (by omega) ⟨rfl,rfl,rfl,rfl,rfl,rfl,trivial⟩ entA
    rcases Nat.lt_or_ge j i with h | h
    · exact hal j h
    · have : j = i := by omega
      subst this
      assumption
  have hok : okJ (l.map ctFragPacket) = true := okJ_iff.2 ⟨by rw [List.length_map]; omega, by rw [List.length_map]; omega, fun c hc => by
    obtain ⟨j, hj, rfl⟩ := hLmem c hc
    rw [hhd]
    exact hal j (by omega)⟩
  have hfo : ∀ j : Nat, (j : Int) < (l.length : Int) → fragOk (ctFragPacket (ix l j)) = true := fun j hj => by
    have := hal j (by omega)
    simp only [alikeC, Bool.and_eq_true] at this
    exact this.1.1
  have hof : ∀ j : Nat, (j : Int) < (l.length : Int) → 0 ≤ (ix l j).2.2.2.2.2.2.1 ∧ (ix l j).2.2.2.2.2.2.1 ≤ 128 ∧ (ix l j).2.2.2.2.2.2.1 + ((ix l j).2.2.2.2.2.2.2.2.2.length : Int) ≤ 128 := fun j hj => by
    have h := fragOk_t (hfo j hj)
    have e1 : (ctFragPacket (ix l j)).2.2.2.2.2.2.1 = (ix l j).2.2.2.2.2.2.1 := rfl
    have e2 : (ctFragPacket (ix l j)).2.2.2.2.2.2.2.2 = (ix l j).2.2.2.2.2.2.2.2.2 := rfl
    rw [e1, e2] at h
    omega
  revert kb; intro ko
  refine C_loop (α := Nat × Int × Bool × Int) (fun s => [(38, .int .i64 (s.1 : Int)), (37, .int .i64 (l.length : Int)), (36, v), (7, .int .i64 s.2.2.2), (6, .pointer (some ⟨ko, 0, none⟩)), (3, .int .i64 0), (2, .pointer (some ⟨kr, 0, none⟩)), (0, v)])
    (fun s => [.blk ko 24 (clFragPacket ((ix l 0).1, (ix l 0).2.1, (ix l 0).2.2.1, (ix l 0).2.2.2.1, s.2.1, s.2.2.1, (ix l 0).2.2.2.2.2.2)), .blk kr 24 (clFragPacket zeroP)])
    (fun s => s.1 ≤ l.length ∧ s.2.1 = minHops ((l.map ctFragPacket).take s.1) (ix l 0).2.2.2.2.1 ∧ s.2.2.1 = ((ix l 0).2.2.2.2.2.1 || anyWhole ((l.map ctFragPacket).take s.1)) ∧ (∀ a b, a < s.1 → b < a → Agree (ctFragPacket (ix l a)) (ctFragPacket (ix l b))) ∧
      ((s.2.2.2 = -1 ∧ ∀ a, a < s.1 → moreP (ctFragPacket (ix l a)) = true) ∨ ∃ a, a < s.1 ∧ moreP (ctFragPacket (ix l a)) = false ∧ s.2.2.2 = endP (ctFragPacket (ix l a)))) (fun s => l.length - s.1) (0, (ix l 0).2.2.2.2.1, (ix l 0).2.2.2.2.2.1, -1)
    ⟨Nat.zero_le _, rfl, by simp [anyWhole], fun a b h => by dsimp only at h; omega, .inl ⟨rfl, fun a h => by dsimp only at h; omega⟩⟩ ⟨rfl, rfl, rfl, rfl, rfl, rfl, rfl, rfl, trivial⟩ (List.Sublist.refl _) ?_
  rintro ⟨i, hp, wh, en⟩ ⟨hi, hhp, hwh, hpa, hen⟩
  dsimp only at *
  repeat' (first
    |(refine gS ?_;(first
        |(refine S_move rfl rfl ?_)
        |(refine S_assign rfl rfl ?_)
        |(apply F_idx rfl rfl rfl;exact T.sl27;(focus rfl);(focus (first|(focus (first|exact len_nil|(apply len_given;assumption)|(apply len_row;(focus ((repeat (first|exact mH|refine mT ?_));done)))|(apply len_isN;assumption)))|(apply len_sub;(focus (first|exact len_nil|(apply len_given;assumption)|(apply len_row;(focus ((repeat (first|exact mH|refine mT ?_));done)))|(apply len_isN;assumption)));(focus omega);(focus omega))));(focus omega))
        |(apply F_slice rfl rfl;exact T.sl27;(focus (first|(focus (first|exact len_nil|(apply len_given;assumption)|(apply len_row;(focus ((repeat (first|exact mH|refine mT ?_));done)))|(apply len_isN;assumption)))|(apply len_sub;(focus (first|exact len_nil|(apply len_given;assumption)|(apply len_row;(focus ((repeat (first|exact mH|refine mT ?_));done)))|(apply len_isN;assumption)));(focus omega);(focus omega))));(focus exact rfl);(focus exact ⟨_,_,rfl,by omega,rfl⟩);(focus omega);(focus omega))
        |(refine gLoad ?_;(first
            |(apply F_loadSN rfl rfl;exact T.rw24;(focus (first|exact rd_nil|(apply rd_given;(focus assumption);(focus (first|exact freeG0|exact freeG1|(apply freeG2;(focus ((repeat (first|exact mH|refine mT ?_));done));(first|exact freeG1|(apply freeG2;(focus ((repeat (first|exact mH|refine mT ?_));done));exact freeG1))))))|(apply rd_row;(focus ((repeat (first|exact mH|refine mT ?_));done));(focus (first|exact freeR0|exact freeR1|(refine freeR2 ?_ ?_;(focus ((repeat (first|(apply apartR1;(focus ((repeat (first|exact mH|refine mT ?_));done));done)|(apply apartR2;(focus ((repeat (first|exact mH|refine mT ?_));done));done)|refine apartR3 ?_));done));(first|exact freeR1|(refine freeR2 ?_ ?_;(focus ((repeat (first|(apply apartR1;(focus ((repeat (first|exact mH|refine mT ?_));done));done)|(apply apartR2;(focus ((repeat (first|exact mH|refine mT ?_));done));done)|refine apartR3 ?_));done));exact freeR1))))))|(apply rd_sub;(focus (apply rd_given;(focus assumption);(focus (first|exact freeG0|exact freeG1|(apply freeG2;(focus ((repeat (first|exact mH|refine mT ?_));done));(first|exact freeG1|(apply freeG2;(focus ((repeat (first|exact mH|refine mT ?_));done));exact freeG1)))))));(focus (intro _;rfl));(focus omega);(focus omega))|(apply rd_sub;(focus (apply rd_row;(focus ((repeat (first|exact mH|refine mT ?_));done));(focus (first|exact freeR0|exact freeR1|(refine freeR2 ?_ ?_;(focus ((repeat (first|(apply apartR1;(focus ((repeat (first|exact mH|refine mT ?_));done));done)|(apply apartR2;(focus ((repeat (first|exact mH|refine mT ?_));done));done)|refine apartR3 ?_));done));(first|exact freeR1|(refine freeR2 ?_ ?_;(focus ((repeat (first|(apply apartR1;(focus ((repeat (first|exact mH|refine mT ?_));done));done)|(apply apartR2;(focus ((repeat (first|exact mH|refine mT ?_));done));done)|refine apartR3 ?_));done));exact freeR1)))))));(focus (intro _;rfl));(focus omega);(focus omega))));(focus (first|(focus (apply at_flat;(focus (intro _;rfl));(focus assumption)))|exact at_self));rfl;rfl)))
        |(refine gStore ?_;(first
            |(apply F_storeN rfl rfl;(focus (first|rfl|assumption|(simp only [List.append_nil,List.all_cons,List.all_nil,Bool.and_true,Bool.true_and,one_int,one_bool,one_string,one_slice,one_pointer, *];done)));exact T.rw24;(focus ((repeat (first|exact Upd.here|apply Upd.there));done));(focus ((repeat (first|exact SetSeg.nil|apply SetSeg.here|apply SetSeg.there));done));(first|exact okst2|exact okst1|exact okst1'))))
        |(refine gCall ?_;(first
            |(apply F_len rfl rfl rfl;(focus exact ⟨_,_,by exact T.sl27⟩);(focus (first|(focus (first|exact len_nil|(apply len_given;assumption)|(apply len_row;(focus ((repeat (first|exact mH|refine mT ?_));done)))|(apply len_isN;assumption)))|(apply len_sub;(focus (first|exact len_nil|(apply len_given;assumption)|(apply len_row;(focus ((repeat (first|exact mH|refine mT ?_));done)))|(apply len_isN;assumption)));(focus omega);(focus omega)))))))
        |(refine gBin ?_;(first
            |(refine S_lss rfl rfl rfl ?_)))
        |(apply S_alloc rfl (hd := rfl);exact T.zc24;intro kb)
        |(apply F_build2 rfl (hd := rfl);exact T.st24;(focus ((repeat (first|exact BuildR.nil|(apply BuildR.cons;(first|exact T.fs24_0|exact T.fs24_1|exact T.fs24_2|exact T.fs24_3|exact T.fs24_4|exact T.fs24_5|exact T.fs24_6|exact T.fs24_7|exact T.fs24_8);rfl;rfl;(focus ((repeat (first|exact SetSeg.nil|apply SetSeg.here|apply SetSeg.there));done)))|(apply BuildR.cons1;(first|exact T.fs24_0|exact T.fs24_1|exact T.fs24_2|exact T.fs24_3|exact T.fs24_4|exact T.fs24_5|exact T.fs24_6|exact T.fs24_7|exact T.fs24_8);(focus assumption);(focus ((repeat (first|exact SetSeg.nil|apply SetSeg.here|apply SetSeg.there));done)))));done)))
        |(refine S_done ?_)))
    |((first
        |(refine C_seq ?_)
        |(refine gReg ?_;(first
            |(refine gReg (i := 12) ?_;refine C_plain [(0,0)] (by kernel_rfl) (s := [⟨0,none,_,_,_⟩]) rfl ?_)
            |(refine gReg (i := 13) ?_;refine C_plain [(0,0),(1,0),(2,0),(3,2),(4,0),(5,2)] (by kernel_rfl) (s := [⟨0,none,_,_,_⟩,⟨0,none,_,_,_⟩,⟨0,none,_,_,_⟩,⟨2,none,_,_,_⟩,⟨0,none,_,_,_⟩,⟨2,none,_,_,_⟩]) rfl ?_)
            |(refine gReg (i := 14) ?_;refine C_plain [(0,0),(1,0),(2,0),(3,0),(4,0)] (by kernel_rfl) (s := [⟨0,none,_,_,_⟩,⟨0,none,_,_,_⟩,⟨0,none,_,_,_⟩,⟨0,none,_,_,_⟩,⟨0,none,_,_,_⟩]) rfl ?_)
            |(refine gReg (i := 24) ?_;refine C_plain [(0,0),(1,0)] (by kernel_rfl) (s := [⟨0,none,_,_,_⟩,⟨0,none,_,_,_⟩]) rfl ?_)
            |(refine gReg (i := 25) ?_;refine C_plain [(0,0),(1,2),(2,0)] (by kernel_rfl) (s := [⟨0,none,_,_,_⟩,⟨2,none,_,_,_⟩,⟨0,none,_,_,_⟩]) rfl ?_)
            |(refine gReg (i := 26) ?_;refine C_plain [(0,0),(1,0),(2,2),(3,0),(4,0),(5,0),(6,0),(7,0)] (by kernel_rfl) (s := [⟨0,none,_,_,_⟩,⟨0,none,_,_,_⟩,⟨2,none,_,_,_⟩,⟨0,none,_,_,_⟩,⟨0,none,_,_,_⟩,⟨0,none,_,_,_⟩,⟨0,none,_,_,_⟩,⟨0,none,_,_,_⟩]) rfl ?_)))
        |(refine C_split rfl ?_ ?_ <;> (intro hb;(try simp only [decide_eq_true_eq] at hb);(try simp only [decide_eq_false_iff_not] at hb);(try simp only [Bool.not_eq_true'] at hb);(try simp only [Bool.not_eq_false'] at hb);(try (exfalso;first|contradiction|omega));(try (have hq := hel i hb));(try (have hq1 := hq.1));(try (have hq2 := hq.2.1));(try (have hq3 := hq.2.2));(try (have hq7 := oneFragPacket hq2))))
        |(refine C_skip ?_)
        |(refine C_exit ?_)
        |(refine C_ret ?_)
        |(refine C_block ?_)))
    |(refine gE ?_;(first
        |(refine E_then ?_)
        |(refine E_thenX ?_)
        |(refine E_thenR ?_)
        |(refine E_blockY ?_)
        |(apply E_ret2 rfl;(first|exact Res.tmp rfl|(apply R_cellAll rfl;(focus ((repeat (first|exact mH|refine mT ?_));done));exact T.rw24)|(apply R_cell1 rfl;(focus ((repeat (first|exact mH|refine mT ?_));done));(first|exact T.sc3|exact T.sc4|exact T.sc22)));(first|exact Res.tmp rfl|(apply R_cellAll rfl;(focus ((repeat (first|exact mH|refine mT ?_));done));exact T.rw24)|(apply R_cell1 rfl;(focus ((repeat (first|exact mH|refine mT ?_));done));(first|exact T.sc3|exact T.sc4|exact T.sc22)))))))
  · have hni : (i : Int) < (l.length : Int) := by assumption
    have hfi := hof i hni
    have hof' : 0 ≤ (ix l i).2.2.2.2.2.2.1 ∧ (ix l i).2.2.2.2.2.2.1 ≤ 128 := ⟨hfi.1, hfi.2.1⟩
    refine C_loop (α := Nat) (fun j => [(47, .int .i64 (j : Int)), (46, .int .i64 (i : Int)), (45, subV v 9 0 i), (9, .pointer (some ⟨kb, 0, none⟩)), (38, .int .i64 (i : Int)), (37, .int .i64 (l.length : Int)), (36, v), (7, .int .i64 en), (6, .pointer (some ⟨ko, 0, none⟩)), (3, .int .i64 0), (2, .pointer (some ⟨kr, 0, none⟩)), (0, v)])
      (fun _ => [.blk kb 24 (clFragPacket (ix l i)), .blk ko 24 (clFragPacket ((ix l 0).1, (ix l 0).2.1, (ix l 0).2.2.1, (ix l 0).2.2.2.1, hp, wh, (ix l 0).2.2.2.2.2.2)), .blk kr 24 (clFragPacket zeroP)])
      (fun j => j ≤ i ∧ ∀ b, b < j → Agree (ctFragPacket (ix l i)) (ctFragPacket (ix l b))) (fun j => i - j) 0 ⟨Nat.zero_le _, fun b h => by omega⟩ ⟨rfl, rfl, rfl, rfl, rfl, rfl, rfl, rfl, rfl, rfl, rfl, rfl, trivial⟩ (List.Sublist.refl _) ?_
    rintro j ⟨hj, hag⟩
    have hsub : (j : Int) < (i : Int) → ((l.drop 0).take (i - 0))[j]? = some (ix l j) ∧ Rds w (rwFragPacket (ix l j)) ∧ (ix l j).2.2.2.2.2.2.2.2.2.length ≤ 1048576 ∧ 0 ≤ (ix l j).2.2.2.2.2.2.1 ∧ (ix l j).2.2.2.2.2.2.1 ≤ 128 := fun h => by
      have h1 := hel j (by omega)
      have h2 := hof j (by omega)
      refine ⟨?_, h1.2.1, h1.2.2, h2.1, h2.2.1⟩
      rw [List.drop_zero, Nat.sub_zero, List.getElem?_take_of_lt (by omega)]
      exact h1.1
    obtain ⟨bb, hbb⟩ : ∃ b, (!agreeB (ctFragPacket (ix l i)) (ctFragPacket (ix l j))) = b := ⟨_, rfl⟩
    have hdis : (j : Int) < (i : Int) → ∀ w1, Ext w w1 → Calls Try.prog 59 #[.agg (clFragPacket (ix l i)).toArray, .agg (clFragPacket (ix l j)).toArray] w1 (RetN (.bool bb) w1) := fun h w1 hw => by
      have hs := hsub h
      have := disagree_c (ix l i) (ix l j) hof' ⟨hs.2.2.2.1, hs.2.2.2.2⟩ hq3 hs.2.2.1 w1 (hq2.ext hw) (hs.2.1.ext hw)
      rwa [hbb] at this
    repeat' (first
      |(refine gS ?_;(first
          |(refine gGuard ?_;(first
              |(refine S_on rfl ?_)
              |(refine S_off rfl rfl rfl ?_)
              |(refine S_gsplit rfl ?_ ?_ <;> (intro hb;(try simp only [decide_eq_true_eq] at hb);(try simp only [decide_eq_false_iff_not] at hb);(try simp only [Bool.not_eq_true'] at hb);(try simp only [Bool.not_eq_false'] at hb);(try (exfalso;first|contradiction|omega));(try (have hs := hsub hb));(try (have hs1 := hs.1));(try (have hs2 := hs.2.1));(try (have hs7 := oneFragPacket hs2))))))
          |(refine S_move rfl rfl ?_)
          |(refine S_assign rfl rfl ?_)
          |(apply F_field rfl rfl;(first|exact T.fl24_4|exact T.fl24_5|exact T.fl24_6|exact T.fl24_7|exact T.fl24_8))
          |(apply F_idx rfl rfl rfl;exact T.sl27;(focus rfl);(focus (first|(focus (first|exact len_nil|(apply len_given;assumption)|(apply len_row;(focus ((repeat (first|exact mH|refine mT ?_));done)))|(apply len_isN;assumption)))|(apply len_sub;(focus (first|exact len_nil|(apply len_given;assumption)|(apply len_row;(focus ((repeat (first|exact mH|refine mT ?_));done)))|(apply len_isN;assumption)));(focus omega);(focus omega))));(focus omega))
          |(refine gLoad ?_;(first
              |(apply F_load1 rfl rfl;(focus ((repeat (first|exact mH|refine mT ?_));done));(first|exact T.sc3|exact T.sc4|exact T.sc22);rfl;(focus (first|exact free0|exact free1|(refine free2 ?_ ?_;(focus ((repeat (first|(apply apart1;(repeat (first|exact mH|refine mT ?_));done)|(apply apart2;(repeat (first|exact mH|refine mT ?_));done)|refine apart3 ?_));done));(first|exact free1|(refine free2 ?_ ?_;(focus ((repeat (first|(apply apart1;(repeat (first|exact mH|refine mT ?_));done)|(apply apart2;(repeat (first|exact mH|refine mT ?_));done)|refine apart3 ?_));done));exact free1))))))
              |(apply F_loadAll rfl rfl;(focus ((repeat (first|exact mH|refine mT ?_));done));exact T.rw24;(focus (first|exact free0|exact free1|(refine free2 ?_ ?_;(focus ((repeat (first|(apply apart1;(repeat (first|exact mH|refine mT ?_));done)|(apply apart2;(repeat (first|exact mH|refine mT ?_));done)|refine apart3 ?_));done));(first|exact free1|(refine free2 ?_ ?_;(focus ((repeat (first|(apply apart1;(repeat (first|exact mH|refine mT ?_));done)|(apply apart2;(repeat (first|exact mH|refine mT ?_));done)|refine apart3 ?_));done));exact free1))))))
              |(apply F_loadSN rfl rfl;exact T.rw24;(focus (first|exact rd_nil|(apply rd_given;(focus assumption);(focus (first|exact freeG0|exact freeG1|(apply freeG2;(focus ((repeat (first|exact mH|refine mT ?_));done));(first|exact freeG1|(apply freeG2;(focus ((repeat (first|exact mH|refine mT ?_));done));exact freeG1))))))|(apply rd_row;(focus ((repeat (first|exact mH|refine mT ?_));done));(focus (first|exact freeR0|exact freeR1|(refine freeR2 ?_ ?_;(focus ((repeat (first|(apply apartR1;(focus ((repeat (first|exact mH|refine mT ?_));done));done)|(apply apartR2;(focus ((repeat (first|exact mH|refine mT ?_));done));done)|refine apartR3 ?_));done));(first|exact freeR1|(refine freeR2 ?_ ?_;(focus ((repeat (first|(apply apartR1;(focus ((repeat (first|exact mH|refine mT ?_));done));done)|(apply apartR2;(focus ((repeat (first|exact mH|refine mT ?_));done));done)|refine apartR3 ?_));done));exact freeR1))))))|(apply rd_sub;(focus (apply rd_given;(focus assumption);(focus (first|exact freeG0|exact freeG1|(apply freeG2;(focus ((repeat (first|exact mH|refine mT ?_));done));(first|exact freeG1|(apply freeG2;(focus ((repeat (first|exact mH|refine mT ?_));done));exact freeG1)))))));(focus (intro _;rfl));(focus omega);(focus omega))|(apply rd_sub;(focus (apply rd_row;(focus ((repeat (first|exact mH|refine mT ?_));done));(focus (first|exact freeR0|exact freeR1|(refine freeR2 ?_ ?_;(focus ((repeat (first|(apply apartR1;(focus ((repeat (first|exact mH|refine mT ?_));done));done)|(apply apartR2;(focus ((repeat (first|exact mH|refine mT ?_));done));done)|refine apartR3 ?_));done));(first|exact freeR1|(refine freeR2 ?_ ?_;(focus ((repeat (first|(apply apartR1;(focus ((repeat (first|exact mH|refine mT ?_));done));done)|(apply apartR2;(focus ((repeat (first|exact mH|refine mT ?_));done));done)|refine apartR3 ?_));done));exact freeR1)))))));(focus (intro _;rfl));(focus omega);(focus omega))));(focus (first|(focus (apply at_flat;(focus (intro _;rfl));(focus assumption)))|exact at_self));rfl;rfl)))
          |(refine gStore ?_;(first
              |(apply F_store1 rfl rfl;(focus (first|rfl|assumption));(first|exact T.sc3|exact T.sc4|exact T.sc22);(focus ((repeat (first|exact Upd.here|apply Upd.there));done));(focus ((repeat (first|exact SetSeg.nil|apply SetSeg.here|apply SetSeg.there));done));(first|exact okst2|exact okst1|exact okst1'))
              |(apply F_storeN rfl rfl;(focus (first|rfl|assumption|(simp only [List.append_nil,List.all_cons,List.all_nil,Bool.and_true,Bool.true_and,one_int,one_bool,one_string,one_slice,one_pointer, *];done)));exact T.rw24;(focus ((repeat (first|exact Upd.here|apply Upd.there));done));(focus ((repeat (first|exact SetSeg.nil|apply SetSeg.here|apply SetSeg.there));done));(first|exact okst2|exact okst1|exact okst1'))))
          |(refine gCall ?_;(first
              |(show GoS _ _ _ _ _ _ _ (⟨_,_,_,.call ⟨.value (.func 59),_,_⟩,_⟩ :: _);refine S_callN (f := 59) rfl T.pf59 rfl (fun w hst => hdis (by omega) w hst.ext) rfl ?_)
              |(show GoS _ _ _ _ _ _ _ (⟨_,_,_,.call ⟨.value (.func 60),_,_⟩,_⟩ :: _);refine S_callN (f := 60) rfl T.pf60 rfl (fun w hst => end_c _ hof' hq3 w (by first|(refine Rds.given hst ?_;assumption)|(apply Rds.many hst;(focus ((repeat (first|exact mH|refine mT ?_));done)))|(apply Rds.row hst;(focus ((repeat (first|exact mH|refine mT ?_));done))))) rfl ?_)
              |(refine S_min rfl rfl rfl ?_)))
          |(refine gBin ?_;(first
              |(refine S_lss rfl rfl rfl ?_)
              |(refine S_add rfl rfl ?_ rfl ?_;(focus (unfold rng;omega)))))
          |(refine gPick ?_;(first
              |(refine S_pickT rfl rfl rfl ?_)
              |(refine S_pickF rfl rfl rfl ?_)))
          |(apply S_alloc rfl (hd := rfl);exact T.zc24;intro kb)
          |(apply F_build2 rfl (hd := rfl);exact T.st24;(focus ((repeat (first|exact BuildR.nil|(apply BuildR.cons;(first|exact T.fs24_0|exact T.fs24_1|exact T.fs24_2|exact T.fs24_3|exact T.fs24_4|exact T.fs24_5|exact T.fs24_6|exact T.fs24_7|exact T.fs24_8);rfl;rfl;(focus ((repeat (first|exact SetSeg.nil|apply SetSeg.here|apply SetSeg.there));done)))|(apply BuildR.cons1;(first|exact T.fs24_0|exact T.fs24_1|exact T.fs24_2|exact T.fs24_3|exact T.fs24_4|exact T.fs24_5|exact T.fs24_6|exact T.fs24_7|exact T.fs24_8);(focus assumption);(focus ((repeat (first|exact SetSeg.nil|apply SetSeg.here|apply SetSeg.there));done)))));done)))
          |(refine S_not rfl rfl ?_)
          |(refine S_done ?_)
          |(refine S_K rfl ?_)))
      |((first
          |(refine C_seq ?_)
          |(refine gReg ?_;(first
              |(refine gReg (i := 15) ?_;refine C_plain [(0,0)] (by kernel_rfl) (s := [⟨0,none,_,_,_⟩]) rfl ?_)
              |(refine gReg (i := 16) ?_;refine C_plain [(0,0),(1,0),(2,2),(3,2)] (by kernel_rfl) (s := [⟨0,none,_,_,_⟩,⟨0,none,_,_,_⟩,⟨2,none,_,_,_⟩,⟨2,none,_,_,_⟩]) rfl ?_)
              |(refine gReg (i := 17) ?_;refine C_plain [(0,0),(1,0),(2,2)] (by kernel_rfl) (s := [⟨0,none,_,_,_⟩,⟨0,none,_,_,_⟩,⟨2,none,_,_,_⟩]) rfl ?_)
              |(refine gReg (i := 18) ?_;refine C_plain [(0,0),(1,2),(2,0)] (by kernel_rfl) (s := [⟨0,none,_,_,_⟩,⟨2,none,_,_,_⟩,⟨0,none,_,_,_⟩]) rfl ?_)
              |(refine gReg (i := 19) ?_;refine C_plain [(0,0),(1,0)] (by kernel_rfl) (s := [⟨0,none,_,_,_⟩,⟨0,none,_,_,_⟩]) rfl ?_)
              |(refine gReg (i := 20) ?_;refine C_plain [(0,0),(1,0),(2,0)] (by kernel_rfl) (s := [⟨0,none,_,_,_⟩,⟨0,none,_,_,_⟩,⟨0,none,_,_,_⟩]) rfl ?_)
              |(refine gReg (i := 21) ?_;refine C_plain [(0,0),(1,2),(2,0)] (by kernel_rfl) (s := [⟨0,none,_,_,_⟩,⟨2,none,_,_,_⟩,⟨0,none,_,_,_⟩]) rfl ?_)
              |(refine gReg (i := 22) ?_;refine C_drawnT1 6 rfl (.br [(0,0),(2,0),(3,0),(5,0)] (.fin [(1,1),(4,0),(6,1),(7,0),(8,0),(9,0),(10,0),(11,0),(12,1),(13,0),(14,2)]) (.fin [(6,1),(7,0),(8,0),(9,0),(10,0),(1,1),(4,0),(11,0),(12,1),(13,0),(14,2)])) T.mixed (by kernel_rfl) (s := (.br [⟨0,none,_,_,_⟩,⟨0,none,_,_,_⟩,⟨0,none,_,_,_⟩,⟨0,none,_,_,_⟩] (.fin [⟨1,none,_,_,_⟩,⟨0,none,_,_,_⟩,⟨1,none,_,_,_⟩,⟨0,none,_,_,_⟩,⟨0,some (68,false),_,_,_⟩,⟨0,some (68,false),_,_,_⟩,⟨0,none,_,_,_⟩,⟨0,none,_,_,_⟩,⟨1,none,_,_,_⟩,⟨0,none,_,_,_⟩,⟨2,none,_,_,_⟩]) (.fin [⟨1,none,_,_,_⟩,⟨0,none,_,_,_⟩,⟨0,some (68,false),_,_,_⟩,⟨0,some (68,false),_,_,_⟩,⟨0,none,_,_,_⟩,⟨1,none,_,_,_⟩,⟨0,none,_,_,_⟩,⟨0,none,_,_,_⟩,⟨1,none,_,_,_⟩,⟨0,none,_,_,_⟩,⟨2,none,_,_,_⟩]))) rfl ?_)
              |(refine gReg (i := 23) ?_;refine C_plain [(0,0),(1,0)] (by kernel_rfl) (s := [⟨0,none,_,_,_⟩,⟨0,none,_,_,_⟩]) rfl ?_)))
          |(refine C_split rfl ?_ ?_ <;> (intro hb;(try simp only [decide_eq_true_eq] at hb);(try simp only [decide_eq_false_iff_not] at hb);(try simp only [Bool.not_eq_true'] at hb);(try simp only [Bool.not_eq_false'] at hb);(try (exfalso;first|contradiction|omega));(try (have hs := hsub hb));(try (have hs1 := hs.1));(try (have hs2 := hs.2.1));(try (have hs7 := oneFragPacket hs2))))
          |(refine C_skip ?_)
          |(refine C_exit ?_)
          |(refine C_ret ?_)
          |(refine C_block ?_)
          |(refine T_fin ?_)
          |(refine T_br ?_)))
      |(refine gE ?_;(first
          |(refine E_then ?_)
          |(refine E_thenX ?_)
          |(refine E_thenR ?_)
          |(refine E_block ?_)
          |(refine E_blockY ?_)
          |(refine E_blockR ?_)
          |(refine E_calm ?_)
          |(apply E_ret2 rfl;(first|exact Res.tmp rfl|(apply R_cellAll rfl;(focus ((repeat (first|exact mH|refine mT ?_));done));exact T.rw24)|(apply R_cell1 rfl;(focus ((repeat (first|exact mH|refine mT ?_));done));(first|exact T.sc3|exact T.sc4|exact T.sc22)));(first|exact Res.tmp rfl|(apply R_cellAll rfl;(focus ((repeat (first|exact mH|refine mT ?_));done));exact T.rw24)|(apply R_cell1 rfl;(focus ((repeat (first|exact mH|refine mT ?_));done));(first|exact T.sc3|exact T.sc4|exact T.sc22))))
          |(refine E_both ?_ ?_)
          | (refine E_K ?_))))
    · have hbt : bb = true := by assumption
      have hna : ¬ Agree (ctFragPacket (ix l i)) (ctFragPacket (ix l j)) := agreeB_f.1 (by rw [hbt] at hbb; simpa using hbb)
      have hj : joinC (l.map ctFragPacket) = (ctFragPacket zeroP, 2) := by
        have : allAgree (l.map ctFragPacket) = false := by
          cases h : allAgree (l.map ctFragPacket)
          · rfl
          · exact absurd (allAgree_iff.1 h _ (List.mem_of_getElem? (hmemL i (by omega))) _ (List.mem_of_getElem? (hmemL j (by omega)))) hna
        simp [joinC, hok, this]
      refine retX zeroP (by rw [hj]) (by rw [hj]; rfl) (Ent.trans (Ent.ghost 5 1) ?_)
      simp only [zeroP, rwFragPacket]
      exact entA
    · have hbt : bb = false := by assumption
      have hna : Agree (ctFragPacket (ix l i)) (ctFragPacket (ix l j)) := agreeB_iff.1 (by rw [hbt] at hbb; simpa using hbb)
      refine E_roundS (α := Nat) (j + 1) ⟨by omega,fun b hb => ?_⟩ (by omega) ⟨rfl,rfl,rfl,rfl,rfl,rfl,rfl,rfl,rfl,rfl,rfl,rfl,trivial⟩ entA
      rcases Nat.lt_or_ge b j with h | h
      · exact hag b h
      · have : b = j := by omega
        subst this
        exact hna
    all_goals have hji : j = i := by omega
    all_goals subst hji
    all_goals
      have hstep : ∀ (wh' : Bool) (en' : Int), wh' = (wh || (ix l j).2.2.2.2.2.1) → (((ix l j).2.2.2.2.2.2.2.1 = true ∧ en' = en) ∨ ((ix l j).2.2.2.2.2.2.2.1 = false ∧ en' = endP (ctFragPacket (ix l j)))) → (j + 1 ≤ l.length ∧ min hp (ix l j).2.2.2.2.1 = minHops ((l.map ctFragPacket).take (j + 1)) (ix l 0).2.2.2.2.1 ∧ wh' = ((ix l 0).2.2.2.2.2.1 || anyWhole ((l.map ctFragPacket).take (j + 1))) ∧ (∀ a b, a < j + 1 → b < a → Agree (ctFragPacket (ix l a)) (ctFragPacket (ix l b))) ∧ ((en' = -1 ∧ ∀ a, a < j + 1 → moreP (ctFragPacket (ix l a)) = true) ∨ ∃ a, a < j + 1 ∧ moreP (ctFragPacket (ix l a)) = false ∧ en' = endP (ctFragPacket (ix l a)))) := by
        intro wh' en' hw he
        have ht := take_snoc (hmemL j hni)
        refine ⟨by omega, ?_, ?_, ?_, ?_⟩
        · rw [ht, minHops_snoc, ← hhp]; rfl
        · rw [ht, anyWhole_snoc, ← Bool.or_assoc, ← hwh, hw]; rfl
        · intro a b ha hba
          rcases Nat.lt_or_ge a j with h | h
          · exact hpa a b h hba
          · have : a = j := by omega
            subst this
            exact hag b hba
        · rcases he with ⟨hm, he⟩ | ⟨hm, he⟩
          · rcases hen with ⟨h1, h2⟩ | ⟨a, h1, h2, h3⟩
            · refine .inl ⟨he.trans h1, fun a ha => ?_⟩
              rcases Nat.lt_or_ge a j with h | h
              · exact h2 a h
              · have : a = j := by omega
                subst this
                exact hm
            · exact .inr ⟨a, by omega, h2, he.trans h3⟩
          · exact .inr ⟨j, by omega, hm, he⟩
    all_goals first
      |(refine E_roundS (α := Nat × Int × Bool × Int) (j + 1,min hp (ix l j).2.2.2.2.1,true,en) (hstep _ _ (by first|(rw [show wh = true by assumption];rfl)|(rw [show wh = false by assumption];rfl)) (.inl ⟨by assumption,rfl⟩)) (by dsimp only;omega) ⟨rfl,rfl,rfl,rfl,rfl,rfl,rfl,rfl,trivial⟩ entA;done)
      |(refine E_roundS (α := Nat × Int × Bool × Int) (j + 1,min hp (ix l j).2.2.2.2.1,(ix l j).2.2.2.2.2.1,en) (hstep _ _ (by first|(rw [show wh = true by assumption];rfl)|(rw [show wh = false by assumption];rfl)) (.inl ⟨by assumption,rfl⟩)) (by dsimp only;omega) ⟨rfl,rfl,rfl,rfl,rfl,rfl,rfl,rfl,trivial⟩ entA;done)
      |(refine E_roundS (α := Nat × Int × Bool × Int) (j + 1,min hp (ix l j).2.2.2.2.1,true,endP (ctFragPacket (ix l j))) (hstep _ _ (by first|(rw [show wh = true by assumption];rfl)|(rw [show wh = false by assumption];rfl)) (.inr ⟨by assumption,rfl⟩)) (by dsimp only;omega) ⟨rfl,rfl,rfl,rfl,rfl,rfl,rfl,rfl,trivial⟩ entA;done)
      |(refine E_roundS (α := Nat × Int × Bool × Int) (j + 1,min hp (ix l j).2.2.2.2.1,(ix l j).2.2.2.2.2.1,endP (ctFragPacket (ix l j))) (hstep _ _ (by first|(rw [show wh = true by assumption];rfl)|(rw [show wh = false by assumption];rfl)) (.inr ⟨by assumption,rfl⟩)) (by dsimp only;omega) ⟨rfl,rfl,rfl,rfl,rfl,rfl,rfl,rfl,trivial⟩ entA;done)
  all_goals have hie : i = l.length := by omega
  all_goals subst hie
  all_goals have hAg : ∀ c ∈ l.map ctFragPacket, ∀ d ∈ l.map ctFragPacket, Agree c d := (fun c hc d hd => by
    obtain ⟨a, ha, rfl⟩ := hLmem c hc
    obtain ⟨b, hb, rfl⟩ := hLmem d hd
    rcases Nat.lt_trichotomy a b with h | h | h
    · exact (hpa b a hb h).symm
    · subst h; exact Agree.refl _
    · exact hpa a b ha h)
  all_goals have hEn : endL (l.map ctFragPacket) = en := (by
    rcases hen with ⟨h1, h2⟩ | ⟨a, h1, h2, h3⟩
    · rw [h1]
      exact endL_all fun c hc => by
        obtain ⟨a, ha, rfl⟩ := hLmem c hc
        exact h2 a ha
    · rw [h3]
      exact endL_of hAg (List.mem_of_getElem? (hmemL a (by omega))) h2)
  all_goals have hAA : allAgree (l.map ctFragPacket) = true := allAgree_iff.2 hAg
  · have hj : joinC (l.map ctFragPacket) = (ctFragPacket zeroP, 3) := by
      have : endL (l.map ctFragPacket) < 0 := by rw [hEn]; assumption
      simp [joinC, hok, hAA, this]
    refine retX zeroP (by rw [hj]) (by rw [hj]; rfl) (Ent.trans (Ent.ghost 5 1) ?_)
    simp only [zeroP, rwFragPacket]
    exact entA
  have hnn : ¬ en < 0 := by assumption
  obtain ⟨e, rfl⟩ : ∃ e : Nat, en = (e : Int) := ⟨en.toNat, by omega⟩
  have hex : ∃ a, a < l.length ∧ moreP (ctFragPacket (ix l a)) = false ∧ (e : Int) = endP (ctFragPacket (ix l a)) := by
    rcases hen with ⟨h1, h2⟩ | h
    · omega
    · exact h
  have hle : ∀ y ∈ l, 0 ≤ y.2.2.2.2.2.2.1 ∧ y.2.2.2.2.2.2.1 + (y.2.2.2.2.2.2.2.2.2.length : Int) ≤ (e : Int) := fun y hy => by
    obtain ⟨b, hb⟩ := List.getElem?_of_mem hy
    have hbl : b < l.length := (List.getElem?_eq_some_iff.1 hb).1
    have hyb : y = ix l b := by
      have := (hel b (by omega)).1
      rw [hb] at this
      exact Option.some.inj this
    obtain ⟨a, ha, h2, h3⟩ := hex
    have h4 := (hAg _ (List.mem_of_getElem? (hmemL a (by omega))) _ (List.mem_of_getElem? (hmemL b (by omega)))).left h2
    rw [← h3] at h4
    subst hyb
    exact ⟨(hof b (by omega)).1, h4⟩
  have he128 : e ≤ 128 := by
    obtain ⟨a, ha, h2, h3⟩ := hex
    have h5 := (hof a (by omega)).2.2
    have h6 : endP (ctFragPacket (ix l a)) = (ix l a).2.2.2.2.2.2.1 + ((ix l a).2.2.2.2.2.2.2.2.2.length : Int) := rfl
    omega
  have hfull : fullL (l.map ctFragPacket) = ((List.range e).all fun a : Nat => (l.map ctFragPacket).any fun c => hasB c (a : Int)) := by
    unfold fullL
    rw [hEn]; rfl
  repeat' (first
    |(refine gS ?_;(first
        |(refine S_move rfl rfl ?_)
        |(refine S_assign rfl rfl ?_)
        |(apply F_field rfl rfl;(first|exact T.fl24_4|exact T.fl24_5|exact T.fl24_6|exact T.fl24_7|exact T.fl24_8))
        |(refine gLoad ?_;(first
            |(apply F_loadAll rfl rfl;(focus ((repeat (first|exact mH|refine mT ?_));done));exact T.rw24;(focus (first|exact free0|exact free1|(refine free2 ?_ ?_;(focus ((repeat (first|(apply apart1;(repeat (first|exact mH|refine mT ?_));done)|(apply apart2;(repeat (first|exact mH|refine mT ?_));done)|refine apart3 ?_));done));(first|exact free1|(refine free2 ?_ ?_;(focus ((repeat (first|(apply apart1;(repeat (first|exact mH|refine mT ?_));done)|(apply apart2;(repeat (first|exact mH|refine mT ?_));done)|refine apart3 ?_));done));exact free1))))))))
        |(refine gStore ?_;(first
            |(apply F_store1 rfl rfl;(focus (first|rfl|assumption));(first|exact T.sc3|exact T.sc4|exact T.sc22);(focus ((repeat (first|exact Upd.here|apply Upd.there));done));(focus ((repeat (first|exact SetSeg.nil|apply SetSeg.here|apply SetSeg.there));done));(first|exact okst2|exact okst1|exact okst1'))
            |(apply F_storeN rfl rfl;(focus (first|rfl|assumption|(simp only [List.append_nil,List.all_cons,List.all_nil,Bool.and_true,Bool.true_and,one_int,one_bool,one_string,one_slice,one_pointer, *];done)));exact T.rw24;(focus ((repeat (first|exact Upd.here|apply Upd.there));done));(focus ((repeat (first|exact SetSeg.nil|apply SetSeg.here|apply SetSeg.there));done));(first|exact okst2|exact okst1|exact okst1'))))
        |(refine gCall ?_;(first
            |(show GoS _ _ _ _ _ _ _ (⟨_,_,_,.call ⟨.value (.func 61),_,_⟩,_⟩ :: _);refine S_callX (f := 61) rfl T.pf61 rfl (fun w hst => filled_c (v,l) e (by omega) hn hle hAg w (hxx.ext hst.ext)) rfl (fun zz hzz => ?_);simp only [List.cons_append,List.nil_append];revert hzz;revert zz;rintro ⟨⟨sd,ds⟩,okf⟩ ⟨hd1,hd2,hd3⟩;dsimp only at hd1 hd2 hd3 ⊢;refine S_fact (fun w hs => Rds.one1 (Rds.many hs (by (focus ((repeat (first|exact mH|refine mT ?_));done))))) (fun hone => ?_))))
        |(apply F_build2 rfl (hd := rfl);exact T.st24;(focus ((repeat (first|exact BuildR.nil|(apply BuildR.cons;(first|exact T.fs24_0|exact T.fs24_1|exact T.fs24_2|exact T.fs24_3|exact T.fs24_4|exact T.fs24_5|exact T.fs24_6|exact T.fs24_7|exact T.fs24_8);rfl;rfl;(focus ((repeat (first|exact SetSeg.nil|apply SetSeg.here|apply SetSeg.there));done)))|(apply BuildR.cons1;(first|exact T.fs24_0|exact T.fs24_1|exact T.fs24_2|exact T.fs24_3|exact T.fs24_4|exact T.fs24_5|exact T.fs24_6|exact T.fs24_7|exact T.fs24_8);(focus assumption);(focus ((repeat (first|exact SetSeg.nil|apply SetSeg.here|apply SetSeg.there));done)))));done)))
        |(refine S_not rfl rfl ?_)
        |(refine S_extract rfl rfl rfl ?_)
        |(refine S_done ?_)))
    |((first
        |(refine C_seq ?_)
        |(refine gReg ?_;(first
            |(refine gReg (i := 27) ?_;refine C_plain [(0,0),(1,0)] (by kernel_rfl) (s := [⟨0,none,_,_,_⟩,⟨0,none,_,_,_⟩]) rfl ?_)
            |(refine gReg (i := 28) ?_;refine C_plain [(0,0),(1,2),(2,0)] (by kernel_rfl) (s := [⟨0,none,_,_,_⟩,⟨2,none,_,_,_⟩,⟨0,none,_,_,_⟩]) rfl ?_)
            |(refine gReg (i := 29) ?_;refine C_plain [(0,0),(1,0),(2,2),(3,0),(4,2),(5,0),(6,2)] (by kernel_rfl) (s := [⟨0,none,_,_,_⟩,⟨0,none,_,_,_⟩,⟨2,none,_,_,_⟩,⟨0,none,_,_,_⟩,⟨2,none,_,_,_⟩,⟨0,none,_,_,_⟩,⟨2,none,_,_,_⟩]) rfl ?_)
            |(refine gReg (i := 30) ?_;refine C_plain [(0,0),(1,2),(2,0)] (by kernel_rfl) (s := [⟨0,none,_,_,_⟩,⟨2,none,_,_,_⟩,⟨0,none,_,_,_⟩]) rfl ?_)))
        |(refine C_split rfl ?_ ?_ <;> (intro hb;(try simp only [decide_eq_true_eq] at hb);(try simp only [decide_eq_false_iff_not] at hb);(try simp only [Bool.not_eq_true'] at hb);(try simp only [Bool.not_eq_false'] at hb);(try (exfalso;first|contradiction|omega))))
        |(refine C_skip ?_)
        |(refine C_ret ?_)))
    |(refine gE ?_;(first
        |(refine E_then ?_)
        |(refine E_thenR ?_)
        |(apply E_ret2 rfl;(first|exact Res.tmp rfl|(apply R_cellAll rfl;(focus ((repeat (first|exact mH|refine mT ?_));done));exact T.rw24)|(apply R_cell1 rfl;(focus ((repeat (first|exact mH|refine mT ?_));done));(first|exact T.sc3|exact T.sc4|exact T.sc22)));(first|exact Res.tmp rfl|(apply R_cellAll rfl;(focus ((repeat (first|exact mH|refine mT ?_));done));exact T.rw24)|(apply R_cell1 rfl;(focus ((repeat (first|exact mH|refine mT ?_));done));(first|exact T.sc3|exact T.sc4|exact T.sc22)))))))
  · have hof2 : okf = false := by assumption
    have hj : joinC (l.map ctFragPacket) = (ctFragPacket zeroP, 3) := by
      have h1 : ¬ endL (l.map ctFragPacket) < 0 := by rw [hEn]; exact hnn
      have h2 : fullL (l.map ctFragPacket) = false := by
        rw [hfull]
        cases h : ((List.range e).all fun a : Nat => (l.map ctFragPacket).any fun c => hasB c (a : Int))
        · rfl
        · have := hd2.2 h
          rw [hof2] at this; cases this
      simp [joinC, hok, hAA, h1, h2]
    refine retX zeroP (by rw [hj]) (by rw [hj]; rfl) (Ent.trans (Ent.ghost 5 1) ?_)
    simp only [zeroP, rwFragPacket]
    exact entA
  · have hof2 : okf = true := by assumption
    have hj : joinC (l.map ctFragPacket) = (wholeC (l.map ctFragPacket), 0) := by
      have h1 : ¬ endL (l.map ctFragPacket) < 0 := by rw [hEn]; exact hnn
      have h2 : fullL (l.map ctFragPacket) = true := by rw [hfull]; exact hd2.1 hof2
      simp [joinC, hok, hAA, h1, h2]
    have htk : (l.map ctFragPacket).take l.length = l.map ctFragPacket := List.take_of_length_le (by simp)
    rw [htk] at hhp hwh
    have hwh2 : wh = anyWhole (l.map ctFragPacket) := by
      rw [hwh]
      have h5 : (ctFragPacket (ix l 0)) ∈ l.map ctFragPacket := List.mem_of_getElem? (hmemL 0 (by omega))
      cases h6 : (ix l 0).2.2.2.2.2.1
      · rfl
      · rw [Bool.true_or]
        exact (List.any_eq_true.2 ⟨_, h5, h6⟩).symm
    refine retX ((ix l 0).1, (ix l 0).2.1, (ix l 0).2.2.1, (ix l 0).2.2.2.1, hp, wh, 0, false, sd, ds) ?_ (by rw [hj]; rfl) ?_
    · rw [hj]
      have hds := hd1 hof2
      have heE : (endL (l.map ctFragPacket)).toNat = e := by rw [hEn]; rfl
      simp only [wholeC, hhd, heE, ← hwh2, ctFragPacket, hds]
      have : minHops (l.map ctFragPacket) (ix l 0).2.2.2.2.1 = hp := hhp.symm
      rw [← this]
    · exact entA
end Go.Proofs.Ytodhjpnfokkfeaa

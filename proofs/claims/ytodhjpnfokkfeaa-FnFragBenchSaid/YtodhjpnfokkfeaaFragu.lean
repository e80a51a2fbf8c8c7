/- The good bench by the implementation. -/
import Derived.Test.YtodhjpnfokkfeaaFragl
import Derived.Test.YtodhjpnfokkfeaaFragt
set_option linter.unusedSimpArgs false
set_option linter.unusedVariables false
namespace Go.Proofs.Ytodhjpnfokkfeaa
open Go Go.RowKit
attribute [local irreducible] Calls GoS GoC GoE GoT Mid IsFl IsSc IsRw IsSl IsEl IsSt IsFs sp Mem Rd LenOf szR joinC alikeC likeC
set_option maxHeartbeats 2000000 in
set_option maxRecDepth 8192 in
theorem implFragBenchOk_c (b : MFragBench) (hn : b.2.2.length ≤ 1048576) (hl : Short b.2.2) (w : World) (hx : Rds w (rwFragBench b)) : Calls Try.prog 26 #[.agg (clFragBench b).toArray] w (RetX (fun r : Bool => r = true ↔ BenchGood (ctFragBench b)) (fun r => .bool r) (fun _ => []) w) := by
  obtain ⟨now, v, l⟩ := b
  have hm := Rds.head hx
  have hel := sl_el hl hx
  dsimp only at *
  refine enter (n := 92) (E := [(0, _)]) Try.func26 rfl rfl rfl rfl ?_
  repeat' (first
    |(refine gS ?_;(first
        |(refine gGuard ?_;(first
            |(refine S_on rfl ?_)
            |(refine S_off rfl rfl rfl ?_)
            |(refine S_gsplit rfl ?_ ?_ <;> (intro hb;(try simp only [decide_eq_true_eq] at hb);(try simp only [decide_eq_false_iff_not] at hb);(try simp only [Bool.not_eq_true'] at hb);(try simp only [Bool.not_eq_false'] at hb);(try (exfalso;first|contradiction|omega));(try (have hin := inB_t hb))))))
        |(refine S_move rfl rfl ?_)
        |(refine S_assign rfl rfl ?_)
        |(apply F_field rfl rfl;(first|exact T.fl45_0|exact T.fl45_1|exact T.fl67_0|exact T.fl67_1|exact T.fl67_2))
        |(refine gLoad ?_;(first
            |(apply F_load1 rfl rfl;(focus ((repeat (first|exact mH|refine mT ?_));done));(first|exact T.sc3|exact T.sc4|exact T.sc27|exact T.sc43);rfl;(focus (first|exact free0|exact free1)))))
        |(refine gCall ?_;(first
            |(show GoS _ _ _ _ _ _ _ (⟨_,_,_,.call ⟨.value (.func 57),_,_⟩,_⟩ :: _);refine S_callN (f := 57) rfl T.pf57 rfl (fun w hst => within_c _ _ _ w) rfl ?_)
            |(apply F_len rfl rfl rfl;(focus exact ⟨_,_,by (first|exact T.sl27|exact T.sl43)⟩);(focus (first|(focus (first|exact len_nil|(apply len_given;assumption)|(apply len_row;(focus ((repeat (first|exact mH|refine mT ?_));done)))|(apply len_isN;assumption)))|(apply len_sub;(focus (first|exact len_nil|(apply len_given;assumption)|(apply len_row;(focus ((repeat (first|exact mH|refine mT ?_));done)))|(apply len_isN;assumption)));(focus omega);(focus omega)))))))
        |(refine gBin ?_;(first
            |(refine S_gtr rfl rfl rfl ?_)))
        |(refine gPick ?_;(first
            |(refine S_pickT rfl rfl rfl ?_)
            |(refine S_pickF rfl rfl rfl ?_)))
        |(refine S_box rfl rfl rfl ?_;intro kb)
        |(refine S_not rfl rfl ?_)
        |(refine S_done ?_)))
    |(refine gC ?_;(first
        |(refine C_seq ?_)
        |(refine gReg ?_;(first
            |(refine gReg (i := 0) ?_;refine C_plain [(0,2),(1,0)] (by kernel_rfl) (s := [⟨2,none,_,_,_⟩,⟨0,none,_,_,_⟩]) rfl ?_)
            |(refine gReg (i := 1) ?_;refine C_plain [(0,0),(1,0),(2,2),(3,0),(4,0),(5,0),(6,0),(7,0),(8,0),(9,0)] (by kernel_rfl) (s := [⟨0,none,_,_,_⟩,⟨0,none,_,_,_⟩,⟨2,none,_,_,_⟩,⟨0,none,_,_,_⟩,⟨0,none,_,_,_⟩,⟨0,some (13,false),_,_,_⟩,⟨0,some (13,false),_,_,_⟩,⟨0,some (13,false),_,_,_⟩,⟨0,some (13,false),_,_,_⟩,⟨0,none,_,_,_⟩]) rfl ?_)
            |(refine gReg (i := 2) ?_;refine C_plain [(0,0)] (by kernel_rfl) (s := [⟨0,none,_,_,_⟩]) rfl ?_)
            |(refine gReg (i := 3) ?_;refine C_plain [(0,0),(1,0),(2,0),(3,0)] (by kernel_rfl) (s := [⟨0,none,_,_,_⟩,⟨0,none,_,_,_⟩,⟨0,none,_,_,_⟩,⟨0,none,_,_,_⟩]) rfl ?_)))
        |(refine C_true rfl ?_)
        |(refine C_split rfl ?_ ?_ <;> (intro hb;(try simp only [decide_eq_true_eq] at hb);(try simp only [decide_eq_false_iff_not] at hb);(try simp only [Bool.not_eq_true'] at hb);(try simp only [Bool.not_eq_false'] at hb);(try (exfalso;first|contradiction|omega));(try (have hin := inB_t hb))))
        |(refine C_skip ?_)
        |(refine C_ret ?_)
        |(refine C_block ?_)))
    |(refine gE ?_;(first
        |(refine E_then ?_)
        |(refine E_thenR ?_)
        |(apply E_ret1 rfl;(first|exact Res.tmp rfl|(apply R_cellAll rfl;(focus ((repeat (first|exact mH|refine mT ?_));done));(first|exact T.rw24|exact T.rw67))|(apply R_cell1 rfl;(focus ((repeat (first|exact mH|refine mT ?_));done));(first|exact T.sc3|exact T.sc4|exact T.sc27|exact T.sc43)))))))
  · refine retX false ?_ rfl entA
    refine ⟨fun h => (by cases h), fun h => ?_⟩
    have h1 : 0 ≤ now := h.1
    have h2 : now ≤ 1000000 := h.2.1
    have h3 : inB now 0 1000000 = false := by assumption
    simp [inB] at h3
    omega
  · refine retX false ?_ rfl entA
    refine ⟨fun h => (by cases h), fun h => ?_⟩
    have h1 : (l.map ctFragSlot).length ≤ 4 := h.2.2.1
    rw [List.length_map] at h1
    omega
  revert kb; intro kr
  refine C_loop (α := Nat) (fun i => [(22, .int .i64 (i : Int)), (21, .int .i64 (l.length : Int)), (20, v), (2, .bool false), (1, .pointer (some ⟨kr, 0, none⟩))]) (fun _ => [.blk kr 45 (clFragBench (now, v, l))]) (fun i => i ≤ l.length ∧ ∀ j, j < i → SlotAt now (l.map ctFragSlot) j) (fun i => l.length - i) 0 ⟨Nat.zero_le _, fun j h => by omega⟩ ⟨rfl, rfl, rfl, rfl, rfl, trivial⟩ (List.Sublist.refl _) ?_
  rintro i ⟨hi, hal⟩
  have hok : ∀ j, j < i → 1 ≤ (ix l j).1.2.length ∧ fragOk (headS (ix l j)) = true := fun j hj => good_ok ((slotAt_iff (by omega)).1 (hal j hj)).1
  have hsub := sub_rds hx hi
  have hsm := sub_mem hi
  have hbg : BenchGood (ctFragBench (now, v, l)) → (i : Int) < (l.length : Int) → SlotGood now (ctFragSlot (ix l i)) ∧ ∀ j, j < i → (j + 1 = i → (ix l j).2.1 ≤ (ix l i).2.1) ∧ likeC (headS (ix l j)) (headS (ix l i)) = false := fun h hlt => (slotAt_iff (by omega)).1 (h.2.2.2 i (by show i < (l.map ctFragSlot).length; rw [List.length_map]; omega))
  have hsl : ((l.drop 0).take ((i : Int).toNat - 0)).length = i := by rw [List.length_take, List.drop_zero]; omega
  have hm2 := Rds.head hsub
  dsimp only at hm2
  repeat' (first
    |(refine gS ?_;(first
        |(refine gGuard ?_;(first
            |(refine S_on rfl ?_)
            |(refine S_off rfl rfl rfl ?_)
            |(refine S_offU rfl rfl ?_)
            |(refine S_gsplit rfl ?_ ?_ <;> (intro hb;(try simp only [decide_eq_true_eq] at hb);(try simp only [decide_eq_false_iff_not] at hb);(try simp only [Bool.not_eq_true'] at hb);(try simp only [Bool.not_eq_false'] at hb);(try (exfalso;first|contradiction|omega));(try (have hq := hel i hb));(try (have hq1 := hq.1));(try (have hqo := oneFragSlot hq.2.1));(try (have hg1 : Mem w (ix l i).1.1 9 (ix l i).1.2.length ((ix l i).1.2.flatMap clFragPacket) := Rds.head hq.2.1));(try (have hpz : l[((i : Int) - 1).toNat]? = some (ix l (i - 1)) := (by rw [show ((i : Int) - 1).toNat = i - 1 by omega];exact (hel (i - 1) (by omega)).1)))))))
        |(refine S_move rfl rfl ?_)
        |(refine S_assign rfl rfl ?_)
        |(apply F_field rfl rfl;(first|exact T.fl45_0|exact T.fl45_1|exact T.fl67_0|exact T.fl67_1|exact T.fl67_2))
        |(apply F_fieldS rfl rfl;(first|exact T.fl45_0|exact T.fl45_1|exact T.fl67_0|exact T.fl67_1|exact T.fl67_2);(focus (first|(focus (first|exact len_nil|(apply len_given;assumption)|(apply len_row;(focus ((repeat (first|exact mH|refine mT ?_));done)))|(apply len_isN;assumption)))|(apply len_sub;(focus (first|exact len_nil|(apply len_given;assumption)|(apply len_row;(focus ((repeat (first|exact mH|refine mT ?_));done)))|(apply len_isN;assumption)));(focus omega);(focus omega))));(focus omega))
        |(apply F_idx rfl rfl rfl;(first|exact T.sl27|exact T.sl43);(focus rfl);(focus (first|(focus (first|exact len_nil|(apply len_given;assumption)|(apply len_row;(focus ((repeat (first|exact mH|refine mT ?_));done)))|(apply len_isN;assumption)))|(apply len_sub;(focus (first|exact len_nil|(apply len_given;assumption)|(apply len_row;(focus ((repeat (first|exact mH|refine mT ?_));done)))|(apply len_isN;assumption)));(focus omega);(focus omega))));(focus omega))
        |(apply F_idxZ rfl rfl rfl;(first|exact T.sl27|exact T.sl43);(focus omega);(focus (first|(focus (first|exact len_nil|(apply len_given;assumption)|(apply len_row;(focus ((repeat (first|exact mH|refine mT ?_));done)))|(apply len_isN;assumption)))|(apply len_sub;(focus (first|exact len_nil|(apply len_given;assumption)|(apply len_row;(focus ((repeat (first|exact mH|refine mT ?_));done)))|(apply len_isN;assumption)));(focus omega);(focus omega))));(focus omega))
        |(apply F_slice rfl rfl;(first|exact T.sl27|exact T.sl43);(focus (first|(focus (first|exact len_nil|(apply len_given;assumption)|(apply len_row;(focus ((repeat (first|exact mH|refine mT ?_));done)))|(apply len_isN;assumption)))|(apply len_sub;(focus (first|exact len_nil|(apply len_given;assumption)|(apply len_row;(focus ((repeat (first|exact mH|refine mT ?_));done)))|(apply len_isN;assumption)));(focus omega);(focus omega))));(focus exact rfl);(focus exact ⟨_,_,rfl,by omega,rfl⟩);(focus omega);(focus omega))
        |(refine gLoad ?_;(first
            |(apply F_load1 rfl rfl;(focus ((repeat (first|exact mH|refine mT ?_));done));(first|exact T.sc3|exact T.sc4|exact T.sc27|exact T.sc43);rfl;(focus (first|exact free0|exact free1)))
            |(apply F_loadS1 rfl rfl;(first|exact T.sc3|exact T.sc4|exact T.sc27|exact T.sc43);(focus (first|exact rd_nil|(apply rd_given;(focus assumption);(focus (first|exact freeG0|exact freeG1)))|(apply rd_row;(focus ((repeat (first|exact mH|refine mT ?_));done));(focus (first|exact freeR0|exact freeR1)))|(apply rd_sub;(focus (apply rd_given;(focus assumption);(focus (first|exact freeG0|exact freeG1))));(focus (intro _;rfl));(focus omega);(focus omega))|(apply rd_sub;(focus (apply rd_row;(focus ((repeat (first|exact mH|refine mT ?_));done));(focus (first|exact freeR0|exact freeR1))));(focus (intro _;rfl));(focus omega);(focus omega))));(focus (first|(apply at_cell;(focus (apply at_flat;(focus (intro _;rfl));(focus assumption)));rfl)|(apply at_cell0;(focus (apply at_flat;(focus (intro _;rfl));(focus assumption)));rfl)|(apply at_cell;(focus (apply at_mid0;(focus assumption)));rfl)|(apply at_cell0;(focus (apply at_mid0;(focus assumption)));rfl)|rfl)))
            |(apply F_loadSN rfl rfl;(first|exact T.rw24|exact T.rw67);(focus (first|exact rd_nil|(apply rd_given;(focus assumption);(focus (first|exact freeG0|exact freeG1)))|(apply rd_row;(focus ((repeat (first|exact mH|refine mT ?_));done));(focus (first|exact freeR0|exact freeR1)))|(apply rd_sub;(focus (apply rd_given;(focus assumption);(focus (first|exact freeG0|exact freeG1))));(focus (intro _;rfl));(focus omega);(focus omega))|(apply rd_sub;(focus (apply rd_row;(focus ((repeat (first|exact mH|refine mT ?_));done));(focus (first|exact freeR0|exact freeR1))));(focus (intro _;rfl));(focus omega);(focus omega))));(focus (first|(focus (apply at_flat;(focus (intro _;rfl));(focus assumption)))|exact at_self));rfl;rfl)))
        |(refine gStore ?_;(first
            |(apply F_storeN rfl rfl;(focus (first|rfl|assumption|(simp only [List.append_nil,List.all_cons,List.all_nil,Bool.and_true,Bool.true_and,one_int,one_bool,one_string,one_slice,one_pointer, *];done)));(first|exact T.rw24|exact T.rw67);(focus ((repeat (first|exact Upd.here|apply Upd.there));done));(focus ((repeat (first|exact SetSeg.nil|apply SetSeg.here|apply SetSeg.there));done));(first|exact okst2|exact okst1|exact okst1'))))
        |(refine gCall ?_;(first
            |(show GoS _ _ _ _ _ _ _ (⟨_,_,_,.call ⟨.value (.func 57),_,_⟩,_⟩ :: _);refine S_callN (f := 57) rfl T.pf57 rfl (fun w hst => within_c _ _ _ w) rfl ?_)
            |(show GoS _ _ _ _ _ _ _ (⟨_,_,_,.call ⟨.value (.func 15),_,_⟩,_⟩ :: _);refine S_callX (f := 15) rfl T.pf15 rfl (fun w hst => implFragJoin_c (ix l i).1 hq.2.2.1 hq.2.2.2 w (Rds.given hst hq.2.1)) rfl (fun zz hzz => ?_);simp only [List.cons_append,List.nil_append];revert hzz;revert zz;revert kb;intro ks z hz;refine S_fact (fun w hs => oneFragPacket (Rds.many hs (by (focus ((repeat (first|exact mH|refine mT ?_));done))))) (fun hone => ?_))
            |(refine S_max rfl rfl rfl ?_)
            |(apply F_len rfl rfl rfl;(focus exact ⟨_,_,by (first|exact T.sl27|exact T.sl43)⟩);(focus (first|(focus (first|exact len_nil|(apply len_given;assumption)|(apply len_row;(focus ((repeat (first|exact mH|refine mT ?_));done)))|(apply len_isN;assumption)))|(apply len_sub;(focus (first|exact len_nil|(apply len_given;assumption)|(apply len_row;(focus ((repeat (first|exact mH|refine mT ?_));done)))|(apply len_isN;assumption)));(focus omega);(focus omega)))))))
        |(refine gBin ?_;(first
            |(refine S_lss rfl rfl rfl ?_)
            |(refine S_gtr rfl rfl rfl ?_)
            |(refine S_neq rfl rfl rfl ?_)
            |(refine S_add rfl rfl ?_ rfl ?_;(focus (unfold rng;omega)))
            |(refine S_sub rfl rfl ?_ rfl ?_;(focus (unfold rng;omega)))))
        |(refine gPick ?_;(first
            |(refine S_pickT rfl rfl rfl ?_)
            |(refine S_pickF rfl rfl rfl ?_)))
        |(apply S_alloc rfl (hd := rfl);(first|exact T.zc24|exact T.zc67);intro kb)
        |(refine S_not rfl rfl ?_)
        |(refine S_extract rfl rfl rfl ?_)
        |(refine S_done ?_)))
    |(refine gC ?_;(first
        |(refine C_seq ?_)
        |(refine gReg ?_;(first
            |(refine gReg (i := 4) ?_;refine C_plain [(0,0)] (by kernel_rfl) (s := [⟨0,none,_,_,_⟩]) rfl ?_)
            |(refine gReg (i := 5) ?_;refine C_plain [(0,0),(1,0),(2,0),(3,2),(4,0),(5,2)] (by kernel_rfl) (s := [⟨0,none,_,_,_⟩,⟨0,none,_,_,_⟩,⟨0,none,_,_,_⟩,⟨2,none,_,_,_⟩,⟨0,none,_,_,_⟩,⟨2,none,_,_,_⟩]) rfl ?_)
            |(refine gReg (i := 6) ?_;refine C_drawn [(0,0),(1,0),(2,0),(3,0),(4,0),(5,0),(6,0),(7,0),(8,0),(9,1),(10,0),(11,0),(12,0),(13,0),(14,0),(15,0),(16,0),(17,0),(18,0),(19,0),(20,0),(21,0),(22,0),(23,0),(24,0),(25,0),(26,0)] [] T.mixed (by kernel_rfl) (s := [⟨0,none,_,_,_⟩,⟨0,none,_,_,_⟩,⟨0,none,_,_,_⟩,⟨0,none,_,_,_⟩,⟨0,none,_,_,_⟩,⟨0,none,_,_,_⟩,⟨0,none,_,_,_⟩,⟨0,none,_,_,_⟩,⟨0,none,_,_,_⟩,⟨1,none,_,_,_⟩,⟨0,none,_,_,_⟩,⟨0,none,_,_,_⟩,⟨0,some (38,false),_,_,_⟩,⟨0,some (38,false),_,_,_⟩,⟨0,some (38,false),_,_,_⟩,⟨0,some (41,true),_,_,_⟩,⟨0,some (41,true),_,_,_⟩,⟨0,some (41,true),_,_,_⟩,⟨0,some (41,true),_,_,_⟩,⟨0,some (41,true),_,_,_⟩,⟨0,some (41,true),_,_,_⟩,⟨0,some (41,true),_,_,_⟩,⟨0,some (41,true),_,_,_⟩,⟨0,some (41,true),_,_,_⟩,⟨0,some (41,true),_,_,_⟩,⟨0,some (38,false),_,_,_⟩,⟨0,none,_,_,_⟩]) rfl ?_)
            |(refine gReg (i := 7) ?_;refine C_plain [(0,0)] (by kernel_rfl) (s := [⟨0,none,_,_,_⟩]) rfl ?_)
            |(refine gReg (i := 8) ?_;refine C_plain [(0,0),(1,0),(2,2),(3,0),(4,0),(5,0),(6,2),(7,2),(8,0)] (by kernel_rfl) (s := [⟨0,none,_,_,_⟩,⟨0,none,_,_,_⟩,⟨2,none,_,_,_⟩,⟨0,none,_,_,_⟩,⟨0,none,_,_,_⟩,⟨0,none,_,_,_⟩,⟨2,none,_,_,_⟩,⟨2,none,_,_,_⟩,⟨0,none,_,_,_⟩]) rfl ?_)
            |(refine gReg (i := 9) ?_;refine C_plain [(0,0),(1,0),(2,0),(3,0),(4,0),(5,0),(6,0),(7,0),(8,0),(9,0),(10,0),(11,0)] (by kernel_rfl) (s := [⟨0,none,_,_,_⟩,⟨0,none,_,_,_⟩,⟨0,none,_,_,_⟩,⟨0,some (62,false),_,_,_⟩,⟨0,some (62,false),_,_,_⟩,⟨0,some (62,false),_,_,_⟩,⟨0,some (65,true),_,_,_⟩,⟨0,some (65,true),_,_,_⟩,⟨0,some (65,true),_,_,_⟩,⟨0,some (65,true),_,_,_⟩,⟨0,some (62,false),_,_,_⟩,⟨0,none,_,_,_⟩]) rfl ?_)
            |(refine gReg (i := 10) ?_;refine C_plain [(0,0)] (by kernel_rfl) (s := [⟨0,none,_,_,_⟩]) rfl ?_)
            |(refine gReg (i := 11) ?_;refine C_plain [(0,0),(1,0),(2,0),(3,0),(4,0),(5,0)] (by kernel_rfl) (s := [⟨0,none,_,_,_⟩,⟨0,none,_,_,_⟩,⟨0,none,_,_,_⟩,⟨0,none,_,_,_⟩,⟨0,none,_,_,_⟩,⟨0,none,_,_,_⟩]) rfl ?_)
            |(refine gReg (i := 18) ?_;refine C_plain [(0,0)] (by kernel_rfl) (s := [⟨0,none,_,_,_⟩]) rfl ?_)))
        |(refine C_true rfl ?_)
        |(refine C_false rfl ?_)
        |(refine C_split rfl ?_ ?_ <;> (intro hb;(try simp only [decide_eq_true_eq] at hb);(try simp only [decide_eq_false_iff_not] at hb);(try simp only [Bool.not_eq_true'] at hb);(try simp only [Bool.not_eq_false'] at hb);(try (exfalso;first|contradiction|omega));(try (have hq := hel i hb));(try (have hq1 := hq.1));(try (have hqo := oneFragSlot hq.2.1));(try (have hg1 : Mem w (ix l i).1.1 9 (ix l i).1.2.length ((ix l i).1.2.flatMap clFragPacket) := Rds.head hq.2.1));(try (have hpz : l[((i : Int) - 1).toNat]? = some (ix l (i - 1)) := (by rw [show ((i : Int) - 1).toNat = i - 1 by omega];exact (hel (i - 1) (by omega)).1)))))
        |(refine C_skip ?_)
        |(refine C_exit ?_)
        |(refine C_ret ?_)
        |(refine C_block ?_)))
    |(refine gE ?_;(first
        |(refine E_then ?_)
        |(refine E_thenX ?_)
        |(refine E_thenR ?_)
        |(refine E_blockY ?_)
        |(refine E_blockR ?_)
        |(refine E_calm ?_)
        |(apply E_ret1 rfl;(first|exact Res.tmp rfl|(apply R_cellAll rfl;(focus ((repeat (first|exact mH|refine mT ?_));done));(first|exact T.rw24|exact T.rw67))|(apply R_cell1 rfl;(focus ((repeat (first|exact mH|refine mT ?_));done));(first|exact T.sc3|exact T.sc4|exact T.sc27|exact T.sc43)))))))
  rotate_right
  · refine retX true ?_ rfl entA
    exact ⟨fun _ => ⟨hin.1, hin.2, by show (l.map ctFragSlot).length ≤ 4; rw [List.length_map]; omega, fun j hj => hal j (by have hj : j < (l.map ctFragSlot).length := hj; rw [List.length_map] at hj; omega)⟩, fun _ => rfl⟩
  all_goals try
    (refine retX false ?_ rfl (by (focus (apply Ent.flat; (simp only [List.length_append, List.length_cons, List.length_nil, Nat.zero_add, flat_many, flat_row, flat_blk, flat_append, flat_nil, List.map_append, List.map_cons, List.map_nil, List.flatMap_append, List.flatMap_cons, List.flatMap_nil, List.append_assoc, List.append_nil, List.nil_append, List.cons_append, Row.blk_mk, rwSuint8, rwFragPacket, rwSFragPacket, rwFragSlot, rwSFragSlot, rwFragBench]); ((repeat (first | exact Pull.nil | (apply Pull.app; (focus ((repeat (first | exact PickA.here | exact PickA.all | apply PickA.there | apply PickA.over)); done))) | (apply Pull.cons; (focus ((repeat (first | exact Pick.here | exact Pick.last | apply Pick.there | apply Pick.over)); done))) | (apply Pull.atom; (focus ((repeat (first | exact PickA.here | exact PickA.all | apply PickA.there | apply PickA.over)); done))))); done))))
     refine ⟨fun h => (by cases h), fun h => ?_⟩
     have h1 := hbg h (by omega)
     have h2 : 0 ≤ (ix l i).2.1 := h1.1.1
     have h3 : now - 5 ≤ (ix l i).2.1 := h1.1.2.1
     have h4 : (ix l i).2.1 ≤ now := h1.1.2.2.1
     have h5 : (joinC (List.map ctFragPacket (ix l i).1.2)).2 = 3 := h1.1.2.2.2.1
     have h6 : (ix l i).2.2 = true → ((ix l i).1.2.map ctFragPacket).length = 1 := h1.1.2.2.2.2
     rw [List.length_map] at h6
     first
       | (have h7 : inB (ix l i).2.1 (max 0 (now - 6 + 1)) now = false := by assumption
          simp [inB] at h7; omega)
       | (have h7 : (joinC (List.map ctFragPacket (ix l i).1.2)).2 ≠ 3 := by assumption
          exact absurd h5 h7)
       | (have h7 : (ix l i).2.2 = true := by assumption
          have h8 := h6 h7
          omega)
       | (have h8 := (h1.2 (i - 1) (by omega)).1 (by omega)
          omega))
  all_goals
    have hlt : (i : Int) < (l.length : Int) := by assumption
    have hgd : SlotGood now (ctFragSlot (ix l i)) := by
      have h1 : inB (ix l i).2.1 (max 0 (now - 6 + 1)) now = true := by assumption
      have h2 := inB_t h1
      have h3 : ¬ (joinC (List.map ctFragPacket (ix l i).1.2)).2 ≠ 3 := by assumption
      refine ⟨?_, ?_, ?_, Decidable.not_not.1 h3, ?_⟩
      · show 0 ≤ (ix l i).2.1; omega
      · show now - 5 ≤ (ix l i).2.1; omega
      · show (ix l i).2.1 ≤ now; omega
      · intro hbad
        have hbad : (ix l i).2.2 = true := hbad
        show ((ix l i).1.2.map ctFragPacket).length = 1
        rw [List.length_map]
        first
          | (have h4 : ¬ ((ix l i).1.2.length : Int) ≠ 1 := by assumption
             omega)
          | (have h4 : (ix l i).2.2 = false := by assumption
             rw [h4] at hbad; cases hbad)
    have hor : 0 < i → (ix l (i - 1)).2.1 ≤ (ix l i).2.1 := fun h => by omega
    refine C_loop (α := Nat) (fun j => [(77, .int .i64 (j : Int)), (76, .int .i64 (((l.drop 0).take ((i : Int).toNat - 0)).length : Int)), (75, subV v 3 0 (i : Int).toNat), (4, .pointer (some ⟨ks, 0, none⟩)), (22, .int .i64 (i : Int)), (21, .int .i64 (l.length : Int)), (20, v), (2, .bool false), (1, .pointer (some ⟨kr, 0, none⟩))]) (fun _ => [.blk ks 67 (clFragSlot (ix l i)), .blk kr 45 (clFragBench (now, v, l))]) (fun j => j ≤ i ∧ ∀ k, k < j → likeC (headS (ix l k)) (headS (ix l i)) = false) (fun j => i - j) 0 ⟨Nat.zero_le _, fun j h => by omega⟩ ⟨rfl, rfl, rfl, rfl, rfl, rfl, rfl, rfl, rfl, trivial⟩ (by first | exact List.Sublist.cons _ (List.Sublist.refl _) | exact List.Sublist.cons _ (List.Sublist.cons _ (List.Sublist.refl _))) ?_
    rintro j ⟨hj, hsd⟩
    have hjq : (j : Int) < (((l.drop 0).take ((i : Int).toNat - 0)).length : Int) → ((l.drop 0).take ((i : Int).toNat - 0))[j]? = some (ix l j) := fun h => by
      rw [List.drop_zero, show (i : Int).toNat - 0 = i by omega, List.getElem?_take_of_lt (by omega), nthD (show (j : Int) < (l.length : Int) by omega)]
  all_goals
    repeat' (first
      |(refine gS ?_;(first
          |(refine S_move rfl rfl ?_)
          |(refine S_assign rfl rfl ?_)
          |(apply F_field rfl rfl;(first|exact T.fl45_0|exact T.fl45_1|exact T.fl67_0|exact T.fl67_1|exact T.fl67_2))
          |(apply F_idx rfl rfl rfl;(first|exact T.sl27|exact T.sl43);(focus rfl);(focus (first|(focus (first|exact len_nil|(apply len_given;assumption)|(apply len_row;(focus ((repeat (first|exact mH|refine mT ?_));done)))|(apply len_isN;assumption)))|(apply len_sub;(focus (first|exact len_nil|(apply len_given;assumption)|(apply len_row;(focus ((repeat (first|exact mH|refine mT ?_));done)))|(apply len_isN;assumption)));(focus omega);(focus omega))));(focus omega))
          |(refine gLoad ?_;(first
              |(apply F_load1 rfl rfl;(focus ((repeat (first|exact mH|refine mT ?_));done));(first|exact T.sc3|exact T.sc4|exact T.sc27|exact T.sc43);rfl;(focus (first|exact free0|exact free1)))
              |(apply F_loadSN rfl rfl;(first|exact T.rw24|exact T.rw67);(focus (first|exact rd_nil|(apply rd_given;(focus assumption);(focus (first|exact freeG0|exact freeG1)))|(apply rd_row;(focus ((repeat (first|exact mH|refine mT ?_));done));(focus (first|exact freeR0|exact freeR1)))|(apply rd_sub;(focus (apply rd_given;(focus assumption);(focus (first|exact freeG0|exact freeG1))));(focus (intro _;rfl));(focus omega);(focus omega))|(apply rd_sub;(focus (apply rd_row;(focus ((repeat (first|exact mH|refine mT ?_));done));(focus (first|exact freeR0|exact freeR1))));(focus (intro _;rfl));(focus omega);(focus omega))));(focus (first|(focus (apply at_flat;(focus (intro _;rfl));(focus assumption)))|exact at_self));rfl;rfl)))
          |(refine gStore ?_;(first
              |(apply F_storeN rfl rfl;(focus (first|rfl|assumption|(simp only [List.append_nil,List.all_cons,List.all_nil,Bool.and_true,Bool.true_and,one_int,one_bool,one_string,one_slice,one_pointer, *];done)));(first|exact T.rw24|exact T.rw67);(focus ((repeat (first|exact Upd.here|apply Upd.there));done));(focus ((repeat (first|exact SetSeg.nil|apply SetSeg.here|apply SetSeg.there));done));(first|exact okst2|exact okst1|exact okst1'))))
          |(refine gCall ?_;(first
              |(show GoS _ _ _ _ _ _ _ (⟨_,_,_,.call ⟨.value (.func 74),_,_⟩,_⟩ :: _);refine S_callN (f := 74) rfl T.pf74 rfl (fun w hst => alike_c _ _ w) rfl ?_)))
          |(refine gBin ?_;(first
              |(refine S_lss rfl rfl rfl ?_)
              |(refine S_add rfl rfl ?_ rfl ?_;(focus (unfold rng;omega)))))
          |(apply S_alloc rfl (hd := rfl);(first|exact T.zc24|exact T.zc67);intro kb)
          |(refine S_done ?_)))
      |(refine gC ?_;(first
          |(refine C_seq ?_)
          |(refine gReg ?_;(first
              |(refine gReg (i := 12) ?_;refine C_plain [(0,0)] (by kernel_rfl) (s := [⟨0,none,_,_,_⟩]) rfl ?_)
              |(refine gReg (i := 13) ?_;refine C_plain [(0,0),(1,0),(2,2),(3,2)] (by kernel_rfl) (s := [⟨0,none,_,_,_⟩,⟨0,none,_,_,_⟩,⟨2,none,_,_,_⟩,⟨2,none,_,_,_⟩]) rfl ?_)
              |(refine gReg (i := 14) ?_;refine C_drawn [(0,0),(1,0),(2,0),(3,0),(4,0),(5,0),(6,0),(7,0),(8,1)] [] T.mixed (by kernel_rfl) (s := [⟨0,none,_,_,_⟩,⟨0,none,_,_,_⟩,⟨0,none,_,_,_⟩,⟨0,none,_,_,_⟩,⟨0,none,_,_,_⟩,⟨0,none,_,_,_⟩,⟨0,none,_,_,_⟩,⟨0,none,_,_,_⟩,⟨1,none,_,_,_⟩]) rfl ?_)
              |(refine gReg (i := 15) ?_;refine C_plain [(0,0)] (by kernel_rfl) (s := [⟨0,none,_,_,_⟩]) rfl ?_)
              |(refine gReg (i := 16) ?_;refine C_plain [(0,0),(1,0)] (by kernel_rfl) (s := [⟨0,none,_,_,_⟩,⟨0,none,_,_,_⟩]) rfl ?_)
              |(refine gReg (i := 17) ?_;refine C_plain [(0,0),(1,0)] (by kernel_rfl) (s := [⟨0,none,_,_,_⟩,⟨0,none,_,_,_⟩]) rfl ?_)))
          |(refine C_split rfl ?_ ?_ <;> (intro hb;(try simp only [decide_eq_true_eq] at hb);(try simp only [decide_eq_false_iff_not] at hb);(try simp only [Bool.not_eq_true'] at hb);(try simp only [Bool.not_eq_false'] at hb);(try (exfalso;first|contradiction|omega));(try (have hjz := hjq hb));(try (have hq0 := hel j (by omega)));(try (have hqo2 := oneFragSlot hq0.2.1));(try (have hg := sl_head hq0.2.1 (hok j (by omega)).1 hq0.2.2.2));(try (have hga := hg.1));(try (have hgb := hg.2.1));(try (have hgc := hg.2.2.2.2.1));(try (have hgl := hg.2.2.2.2.2));(try (have hg7 := oneFragPacket hg.2.2.1));(try (have hf := sl_head hq.2.1 (good_ok hgd).1 hq.2.2.2));(try (have hfa := hf.1));(try (have hfb := hf.2.1));(try (have hfc := hf.2.2.2.2.1));(try (have hfl := hf.2.2.2.2.2));(try (have hf7 := oneFragPacket hf.2.2.1))))
          |(refine C_skip ?_)
          |(refine C_exit ?_)
          |(refine C_ret ?_)
          |(refine C_block ?_)))
      |(refine gE ?_;(first
          |(refine E_then ?_)
          |(refine E_thenX ?_)
          |(refine E_thenR ?_)
          |(refine E_block ?_)
          |(refine E_blockY ?_)
          |(refine E_blockR ?_)
          |(refine E_calm ?_)
          |(apply E_ret1 rfl;(first|exact Res.tmp rfl|(apply R_cellAll rfl;(focus ((repeat (first|exact mH|refine mT ?_));done));(first|exact T.rw24|exact T.rw67))|(apply R_cell1 rfl;(focus ((repeat (first|exact mH|refine mT ?_));done));(first|exact T.sc3|exact T.sc4|exact T.sc27|exact T.sc43)))))))
  all_goals first
    | (refine retX false ?_ rfl (by (focus (apply Ent.flat; (simp only [List.length_append, List.length_cons, List.length_nil, Nat.zero_add, flat_many, flat_row, flat_blk, flat_append, flat_nil, List.map_append, List.map_cons, List.map_nil, List.flatMap_append, List.flatMap_cons, List.flatMap_nil, List.append_assoc, List.append_nil, List.nil_append, List.cons_append, Row.blk_mk, rwSuint8, rwFragPacket, rwSFragPacket, rwFragSlot, rwSFragSlot, rwFragBench]); ((repeat (first | exact Pull.nil | (apply Pull.app; (focus ((repeat (first | exact PickA.here | exact PickA.all | apply PickA.there | apply PickA.over)); done))) | (apply Pull.cons; (focus ((repeat (first | exact Pick.here | exact Pick.last | apply Pick.there | apply Pick.over)); done))) | (apply Pull.atom; (focus ((repeat (first | exact PickA.here | exact PickA.all | apply PickA.there | apply PickA.over)); done))))); done))))
       refine ⟨fun h => (by cases h), fun h => ?_⟩
       have h1 := ((hbg h hlt).2 j (by omega)).2
       rw [hgc, hfc] at h1
       have h2 : likeC (ctFragPacket (ix (ix l j).1.2 0)) (ctFragPacket (ix (ix l i).1.2 0)) = true := by assumption
       rw [h1] at h2; cases h2)
    | (refine E_round (α := Nat) (j + 1) ⟨by omega, fun k hk => ?_⟩ (by omega) ⟨rfl, rfl, rfl, rfl, rfl, rfl, rfl, rfl, rfl, trivial⟩ (List.sublist_cons_self _ _)
       rcases Nat.lt_or_ge k j with h | h
       · exact hsd k h
       · have e : k = j := by omega
         rw [e, hgc, hfc]; assumption)
    | (refine E_round (α := Nat) (i + 1) ⟨by omega, fun k hk => ?_⟩ (by omega) ⟨rfl, rfl, rfl, rfl, rfl, trivial⟩ (List.sublist_cons_self _ _)
       rcases Nat.lt_or_ge k i with h | h
       · exact hal k h
       · have e : k = i := by omega
         rw [e]
         refine (slotAt_iff (by omega)).2 ⟨hgd, fun m hm1 => ⟨fun e2 => ?_, hsd m (by omega)⟩⟩
         have e3 : m = i - 1 := by omega
         rw [e3]; exact hor (by omega))
end Go.Proofs.Ytodhjpnfokkfeaa

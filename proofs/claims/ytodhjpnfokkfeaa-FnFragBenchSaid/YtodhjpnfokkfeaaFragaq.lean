/- Benches compared by the laws; drawn benches. -/
import Derived.Test.YtodhjpnfokkfeaaFragap
import Derived.Test.YtodhjpnfokkfeaaFragad
set_option linter.unusedSimpArgs false
set_option linter.unusedVariables false
namespace Go.Proofs.Ytodhjpnfokkfeaa
open Go Go.RowKit
/-- a drawn bench: small, its pieces small -/
def SmallB (c : CFragBench) : Prop := -70000 ≤ c.1 ∧ c.1 ≤ 2199023255552 ∧ c.2.length ≤ 4 ∧ ∀ s ∈ c.2, (1 ≤ s.1.length ∧ s.1.length ≤ 41) ∧ ∀ q ∈ s.1, SmallW q
theorem smallB_short {y : MFragBench} (h : SmallB (ctFragBench y)) : y.2.2.length ≤ 1048576 ∧ Short y.2.2 := by
  have h1 : (y.2.2.map ctFragSlot).length ≤ 4 := h.2.2.1
  rw [List.length_map] at h1
  refine ⟨by omega, short_ct fun c hc => ?_⟩
  have h2 := h.2.2.2 c hc
  exact ⟨by omega, fun q hq => Nat.le_trans (h2.2 q hq).len (by decide)⟩
theorem tick_small {b c : CFragBench} {k : Int} (h : TickR b c k) (hs : SmallB b) : SmallB c := by
  rcases h with ⟨_, rfl, _⟩ | ⟨_, _, rfl, _⟩ | ⟨hg, h2, rfl, _⟩
  · exact ⟨by decide, by decide, by decide, fun s hs => by cases hs⟩
  · exact hs
  · have hn := good_now hg
    refine ⟨by dsimp only; omega, by dsimp only; omega, Nat.le_trans (List.length_filter_le _ _) hs.2.2.1, fun s h => hs.2.2.2 s (List.mem_filter.1 h).1⟩
theorem inI_small {s : CFragSlot} {p : CFragPacket} (hs0 : 1 ≤ s.1.length) (hs : s.1.length ≤ 40) (hq : ∀ q ∈ s.1, SmallW q) (hp : SmallW p) : (1 ≤ (inI s p).1.1.length ∧ (inI s p).1.1.length ≤ 41) ∧ ∀ q ∈ (inI s p).1.1, SmallW q := by
  unfold inI
  split
  · exact ⟨⟨by dsimp only; omega, by dsimp only; omega⟩, hq⟩
  · split
    · exact ⟨⟨by dsimp only; omega, by dsimp only; omega⟩, hq⟩
    · split
      · exact ⟨⟨by dsimp only; rw [List.length_take]; omega, by dsimp only; rw [List.length_take]; omega⟩, fun q h => hq q (List.mem_of_mem_take h)⟩
      · split
        · refine ⟨⟨by simp, by simp; omega⟩, fun q h => ?_⟩
          rcases List.mem_append.1 h with h | h
          · exact hq q h
          · rw [List.mem_singleton] at h
            rw [h]; exact hp
        · exact ⟨⟨by dsimp only; omega, by dsimp only; omega⟩, hq⟩
theorem good_len2 {now : Int} {c : CFragSlot} (h : SlotGood now c) : c.1.length ≤ 40 := by
  have h1 : (joinC c.1).2 = 3 := h.2.2.2.1
  have h2 : okJ c.1 = true := by
    cases h3 : okJ c.1
    · rw [joinC, h3] at h1; simp at h1
    · rfl
  exact (okJ_iff.1 h2).2.1
theorem take_small {n : Int} {l : List CFragSlot} {p q : CFragPacket} {c : CFragBench} {k : Int} (h : takeC n l p = (c, q, k)) (hs : SmallB (n, l)) (hp : SmallW p) : SmallB c := by
  have h0 : SmallB (0, []) := ⟨by decide, by decide, by decide, fun s hs => by cases hs⟩
  unfold takeC at h
  split at h
  · rename_i hg
    have hn := good_now hg
    have hga := good_all hg
    split at h
    · split at h
      · simp only [Prod.mk.injEq] at h
        rw [← h.1]; exact hs
      · split at h
        · simp only [Prod.mk.injEq] at h
          rw [← h.1]
          refine ⟨hs.1, hs.2.1, ?_, fun s hm => ?_⟩
          · have h4 := hs.2.2.1
            dsimp only at h4 ⊢
            rw [List.length_append, List.length_singleton]
            split
            · rw [List.length_drop]; omega
            · omega
          · rcases List.mem_append.1 hm with h5 | h5
            · refine hs.2.2.2 s ?_
              split at h5
              · exact List.mem_of_mem_drop h5
              · exact h5
            · rw [List.mem_singleton] at h5
              rw [h5]
              exact ⟨by simp, fun q hq => by rw [List.mem_singleton] at hq; rw [hq]; exact hp⟩
        · rename_i s B e
          have hl : l = l.takeWhile (npC p) ++ s :: B := by rw [← e, List.takeWhile_append_dropWhile]
          generalize l.takeWhile (npC p) = T at hl h
          have hlen : l.length = T.length + (B.length + 1) := by rw [hl]; simp
          have h4 : l.length ≤ 4 := hs.2.2.1
          have hsm : s ∈ l := by rw [hl]; simp
          have hi := inI_small (hs.2.2.2 s hsm).1.1 (good_len2 (hga s hsm)) (hs.2.2.2 s hsm).2 hp
          split at h
          · simp only [Prod.mk.injEq] at h
            rw [← h.1]
            refine ⟨hs.1, hs.2.1, by dsimp only; rw [List.length_append]; omega, fun r hr => hs.2.2.2 r ?_⟩
            show r ∈ l
            rw [hl]
            rcases List.mem_append.1 hr with h5 | h5
            · exact List.mem_append_left _ h5
            · exact List.mem_append_right _ (List.mem_cons_of_mem _ h5)
          · simp only [Prod.mk.injEq] at h
            rw [← h.1]
            refine ⟨hs.1, hs.2.1, by dsimp only; rw [List.length_append, List.length_cons]; omega, fun r hr => ?_⟩
            rcases List.mem_append.1 hr with h5 | h5
            · exact hs.2.2.2 r (by show r ∈ l; rw [hl]; exact List.mem_append_left _ h5)
            · rcases List.mem_cons.1 h5 with h5 | h5
              · rw [h5]; exact hi
              · exact hs.2.2.2 r (by show r ∈ l; rw [hl]; exact List.mem_append_right _ (List.mem_cons_of_mem _ h5))
    · simp only [Prod.mk.injEq] at h
      rw [← h.1]; exact hs
  · simp only [Prod.mk.injEq] at h
    rw [← h.1]; exact h0
attribute [local irreducible] Calls GoS GoC GoE GoT Mid IsEq IsFl IsSc IsRw IsSl IsEl IsSt IsFs sp Mem Rd LenOf szR joinC alikeC likeC takeC
set_option maxRecDepth 8192 in
theorem wfBench_c (x y : MFragBench) (w : World) (hx : Rds w (rwFragBench x)) (hy : Rds w (rwFragBench y)) : Calls Try.prog 40 #[.agg (clFragBench x).toArray, .agg (clFragBench y).toArray] w (RetN (.bool (decide (ctFragBench x = ctFragBench y))) w) := by
  obtain ⟨xn, xv, xl⟩ := x
  obtain ⟨yn, yv, yl⟩ := y
  have hm := Rds.head hx
  have hm2 := Rds.head hy
  have hl1 := hm.len
  have hl2 := hm2.len
  simp only [maxLen] at hl1 hl2
  dsimp only at *
  refine enter (n := 71) (E := [(0, _), (1, _)]) Try.func40 rfl rfl rfl rfl ?_
  repeat' (first
    |(refine gS ?_;(first
        |(refine gGuard ?_;(first
            |(refine S_on rfl ?_)
            |(refine S_off rfl rfl rfl ?_)
            |(refine S_gsplit rfl ?_ ?_ <;> (intro hb;(try simp only [decide_eq_true_eq] at hb);(try simp only [decide_eq_false_iff_not] at hb);(try simp only [Bool.not_eq_true'] at hb);(try simp only [Bool.not_eq_false'] at hb);(try (exfalso;first|contradiction|omega))))))
        |(refine S_move rfl rfl ?_)
        |(refine S_assign rfl rfl ?_)
        |(apply F_field rfl rfl;(first|exact T.fl45_0|exact T.fl45_1|exact T.fl67_0|exact T.fl67_1|exact T.fl67_2))
        |(refine gLoad ?_;(first
            |(apply F_load1 rfl rfl;(focus ((repeat (first|exact mH|refine mT ?_));done));(first|exact T.sc3|exact T.sc4|exact T.sc27|exact T.sc43);rfl;(focus (first|exact free0|exact free1)))))
        |(refine gCall ?_;(first
            |(apply F_len rfl rfl rfl;(focus exact ⟨_,_,by exact T.sl43⟩);(focus (first|exact len_nil|(apply len_given;assumption)|(apply len_row;(focus ((repeat (first|exact mH|refine mT ?_));done)))|(apply len_isN;assumption))))))
        |(refine gBin ?_;(first
            |(refine S_neq rfl rfl rfl ?_)))
        |(refine gPick ?_;(first
            |(refine S_pickT rfl rfl rfl ?_)
            |(refine S_pickF rfl rfl rfl ?_)))
        |(refine S_box rfl rfl rfl ?_;intro kb)
        |(refine S_done ?_)))
    |(refine gC ?_;(first
        |(refine C_seq ?_)
        |(refine gReg ?_;(first
            |(refine gReg (i := 0) ?_;refine C_plain [(0,2),(1,2),(2,0)] (by kernel_rfl) (s := [⟨2,none,_,_,_⟩,⟨2,none,_,_,_⟩,⟨0,none,_,_,_⟩]) rfl ?_)
            |(refine gReg (i := 1) ?_;refine C_plain [(0,0),(1,0),(2,0),(3,0),(4,0),(5,0),(6,0),(7,0),(8,0),(9,0),(10,0),(11,0),(12,0),(13,0)] (by kernel_rfl) (s := [⟨0,none,_,_,_⟩,⟨0,none,_,_,_⟩,⟨0,none,_,_,_⟩,⟨0,none,_,_,_⟩,⟨0,none,_,_,_⟩,⟨0,none,_,_,_⟩,⟨0,some (11,false),_,_,_⟩,⟨0,some (11,false),_,_,_⟩,⟨0,some (11,false),_,_,_⟩,⟨0,some (11,false),_,_,_⟩,⟨0,some (11,false),_,_,_⟩,⟨0,some (11,false),_,_,_⟩,⟨0,some (11,false),_,_,_⟩,⟨0,none,_,_,_⟩]) rfl ?_)
            |(refine gReg (i := 2) ?_;refine C_plain [(0,0)] (by kernel_rfl) (s := [⟨0,none,_,_,_⟩]) rfl ?_)
            |(refine gReg (i := 3) ?_;refine C_plain [(0,0)] (by kernel_rfl) (s := [⟨0,none,_,_,_⟩]) rfl ?_)))
        |(refine C_true rfl ?_)
        |(refine C_split rfl ?_ ?_ <;> (intro hb;(try simp only [decide_eq_true_eq] at hb);(try simp only [decide_eq_false_iff_not] at hb);(try simp only [Bool.not_eq_true'] at hb);(try simp only [Bool.not_eq_false'] at hb);(try (exfalso;first|contradiction|omega))))
        |(refine C_skip ?_)
        |(refine C_ret ?_)
        |(refine C_block ?_)))
    |(refine gE ?_;(first
        |(refine E_then ?_)
        |(refine E_thenR ?_)
        |(apply E_ret1 rfl;(first|exact Res.tmp rfl|(apply R_cellAll rfl;(focus ((repeat (first|exact mH|refine mT ?_));done));fail)|(apply R_cell1 rfl;(focus ((repeat (first|exact mH|refine mT ?_));done));(first|exact T.sc3|exact T.sc4|exact T.sc27|exact T.sc43)))))))
  all_goals try (
    refine retN ?_
    congr 1
    refine (decide_eq_false fun e => ?_).symm
    simp only [ctFragBench, Prod.mk.injEq] at e
    have e9 := congrArg List.length e.2
    rw [List.length_map, List.length_map] at e9
    omega)
  rename_i kx hn1
  have hll : xl.length = yl.length := by omega
  have hnn : xn = yn := by omega
  refine C_loop (α := Nat) (fun i => [(5, .int .i64 (i : Int)), (2, .pointer (some ⟨kx, 0, none⟩)), (3, .pointer (some ⟨kb, 0, none⟩))]) (fun _ => [.blk kb 45 (clFragBench (yn, yv, yl)), .blk kx 45 (clFragBench (xn, xv, xl))]) (fun i => i ≤ xl.length ∧ (xl.map ctFragSlot).take i = (yl.map ctFragSlot).take i) (fun i => xl.length - i) 0 ⟨Nat.zero_le _, rfl⟩ ⟨rfl, rfl, rfl, trivial⟩ (List.Sublist.refl _) ?_
  rintro i ⟨hi, hta⟩
  have hx1 : (i : Int) < (xl.length : Int) → xl[i]? = some (ix xl i) ∧ Rds w (rwFragSlot (ix xl i)) := fun h => ⟨nthD h, Rds.flatMap.1 (Rds.tail hx) _ (List.mem_of_getElem? (nthD h))⟩
  have hy1 : (i : Int) < (xl.length : Int) → yl[i]? = some (ix yl i) ∧ Rds w (rwFragSlot (ix yl i)) := fun h => ⟨nthD (by omega), Rds.flatMap.1 (Rds.tail hy) _ (List.mem_of_getElem? (nthD (l := yl) (k := i) (by omega)))⟩
  repeat' (first
    |(refine gS ?_;(first
        |(refine gGuard ?_;(first
            |(refine S_on rfl ?_)
            |(refine S_off rfl rfl rfl ?_)
            |(refine S_gsplit rfl ?_ ?_ <;> (intro hb;(try simp only [decide_eq_true_eq] at hb);(try simp only [decide_eq_false_iff_not] at hb);(try simp only [Bool.not_eq_true'] at hb);(try simp only [Bool.not_eq_false'] at hb);(try (exfalso;first|contradiction|omega));(try (have hx2 := (hx1 hb).1));(try (have hy2 := (hy1 hb).1));(try (have hx3 := (hx1 hb).2));(try (have hy3 := (hy1 hb).2))))))
        |(refine S_move rfl rfl ?_)
        |(refine S_assign rfl rfl ?_)
        |(apply F_field rfl rfl;(first|exact T.fl45_0|exact T.fl45_1|exact T.fl67_0|exact T.fl67_1|exact T.fl67_2))
        |(apply F_fieldS rfl rfl;(first|exact T.fl45_0|exact T.fl45_1|exact T.fl67_0|exact T.fl67_1|exact T.fl67_2);(focus (first|exact len_nil|(apply len_given;assumption)|(apply len_row;(focus ((repeat (first|exact mH|refine mT ?_));done)))|(apply len_isN;assumption)));(focus omega))
        |(apply F_idx rfl rfl rfl;exact T.sl43;(focus rfl);(focus (first|exact len_nil|(apply len_given;assumption)|(apply len_row;(focus ((repeat (first|exact mH|refine mT ?_));done)))|(apply len_isN;assumption)));(focus omega))
        |(refine gLoad ?_;(first
            |(apply F_load1 rfl rfl;(focus ((repeat (first|exact mH|refine mT ?_));done));(first|exact T.sc3|exact T.sc4|exact T.sc27|exact T.sc43);rfl;(focus (first|exact free0|exact free1)))
            |(apply F_loadS1 rfl rfl;(first|exact T.sc3|exact T.sc4|exact T.sc27|exact T.sc43);(focus (first|exact rd_nil|(apply rd_given;(focus assumption);(focus (first|exact freeG0|exact freeG1)))|(apply rd_row;(focus ((repeat (first|exact mH|refine mT ?_));done));(focus (first|exact freeR0|exact freeR1)))));(focus (first|(apply at_cell;(focus (apply at_flat;(focus (intro _;rfl));(focus assumption)));rfl)|(apply at_cell0;(focus (apply at_flat;(focus (intro _;rfl));(focus assumption)));rfl)|(apply at_cell;(focus (apply at_mid0;(focus assumption)));rfl)|(apply at_cell0;(focus (apply at_mid0;(focus assumption)));rfl)|rfl)))))
        |(refine gCall ?_;(first
            |(show GoS _ _ _ _ _ _ _ (⟨_,_,_,.call ⟨.value (.func 14),_,_⟩,_⟩ :: _);refine S_callN (f := 14) rfl T.pf14 rfl (fun w hst => wfList_c (ix xl i).1 (ix yl i).1 w (Rds.given hst hx3) (Rds.given hst hy3)) rfl ?_)
            |(apply F_len rfl rfl rfl;(focus exact ⟨_,_,by exact T.sl43⟩);(focus (first|exact len_nil|(apply len_given;assumption)|(apply len_row;(focus ((repeat (first|exact mH|refine mT ?_));done)))|(apply len_isN;assumption))))))
        |(refine gBin ?_;(first
            |(refine S_lss rfl rfl rfl ?_)
            |(refine S_neq rfl rfl rfl ?_)
            |(refine S_add rfl rfl ?_ rfl ?_;(focus (unfold rng;omega)))
            |(refine S_neqB Try.underlying4 rfl rfl rfl ?_)))
        |(refine gPick ?_;(first
            |(refine S_pickT rfl rfl rfl ?_)
            |(refine S_pickF rfl rfl rfl ?_)))
        |(refine S_not rfl rfl ?_)
        |(refine S_done ?_)))
    |(refine gC ?_;(first
        |(refine C_seq ?_)
        |(refine gReg ?_;(first
            |(refine gReg (i := 4) ?_;refine C_plain [(0,0),(1,0),(2,0),(3,0),(4,0)] (by kernel_rfl) (s := [⟨0,none,_,_,_⟩,⟨0,none,_,_,_⟩,⟨0,none,_,_,_⟩,⟨0,none,_,_,_⟩,⟨0,none,_,_,_⟩]) rfl ?_)
            |(refine gReg (i := 6) ?_;apply C_drawn [(0,0),(1,0),(2,0),(3,0),(4,0),(5,0),(6,0),(7,0),(8,0),(9,0),(10,0),(11,0),(12,0),(13,0),(14,0),(15,0),(16,0),(17,0),(18,0),(19,0),(20,0),(21,0),(22,0),(23,0),(24,0),(25,0),(26,0),(27,0),(28,0),(29,0),(30,0),(31,0),(32,0),(33,0),(34,0),(35,0),(36,0),(37,0),(38,0),(39,0),(40,0),(41,1),(42,0),(43,0)] [] T.mixed (by kernel_rfl);(focus (simp only [mkS,gSlot,List.getElem?_cons_zero,List.getElem?_cons_succ];rfl)))
            |(refine gReg (i := 7) ?_;refine C_plain [(0,0)] (by kernel_rfl) (s := [⟨0,none,_,_,_⟩]) rfl ?_)
            |(refine gReg (i := 5) ?_;refine C_plain [(0,0),(1,0),(2,0)] (by kernel_rfl) (s := [⟨0,none,_,_,_⟩,⟨0,none,_,_,_⟩,⟨0,none,_,_,_⟩]) rfl ?_)
            |(refine gReg (i := 8) ?_;refine C_plain [(0,0)] (by kernel_rfl) (s := [⟨0,none,_,_,_⟩]) rfl ?_)))
        |(refine C_true rfl ?_)
        |(refine C_split rfl ?_ ?_ <;> (intro hb;(try simp only [decide_eq_true_eq] at hb);(try simp only [decide_eq_false_iff_not] at hb);(try simp only [Bool.not_eq_true'] at hb);(try simp only [Bool.not_eq_false'] at hb);(try (exfalso;first|contradiction|omega));(try (have hx2 := (hx1 hb).1));(try (have hy2 := (hy1 hb).1));(try (have hx3 := (hx1 hb).2));(try (have hy3 := (hy1 hb).2))))
        |(refine C_skip ?_)
        |(refine C_exit ?_)
        |(refine C_ret ?_)
        |(refine C_block ?_)))
    |(refine gE ?_;(first
        |(refine E_then ?_)
        |(refine E_thenX ?_)
        |(refine E_thenR ?_)
        |(refine E_block ?_)
        |(refine E_blockY ?_)
        |(refine E_blockR ?_)
        |(refine E_calm ?_)
        |(apply E_ret1 rfl;(first|exact Res.tmp rfl|(apply R_cellAll rfl;(focus ((repeat (first|exact mH|refine mT ?_));done));fail)|(apply R_cell1 rfl;(focus ((repeat (first|exact mH|refine mT ?_));done));(first|exact T.sc3|exact T.sc4|exact T.sc27|exact T.sc43)))))))
  iterate 3
    · refine retN ?_
      congr 1
      refine (decide_eq_false fun e => ?_).symm
      have e0 : xl.map ctFragSlot = yl.map ctFragSlot := congrArg (fun c : CFragBench => c.2) e
      have e1 : (xl.map ctFragSlot)[i]? = (yl.map ctFragSlot)[i]? := by rw [e0]
      rw [List.getElem?_map, List.getElem?_map, hx2, hy2] at e1
      have e2 : ctFragSlot (ix xl i) = ctFragSlot (ix yl i) := Option.some.inj e1
      simp only [ctFragSlot, Prod.mk.injEq] at e2
      obtain ⟨f1, f2, f3⟩ := e2
      first
        | exact absurd f2 hb
        |(rw [f3] at hb;simp at hb;done)
        |(rw [decide_eq_true f1] at hb;cases hb;done)
  · refine E_round (α := Nat) (i + 1) ⟨by omega, ?_⟩ (by omega) ⟨rfl, rfl, rfl, trivial⟩ (List.Sublist.refl _)
    have e1 : (xl.map ctFragSlot)[i]? = some (ctFragSlot (ix xl i)) := by rw [List.getElem?_map, hx2]; rfl
    have e2 : (yl.map ctFragSlot)[i]? = some (ctFragSlot (ix yl i)) := by rw [List.getElem?_map, hy2]; rfl
    have f1 := of_decide_eq_true hb
    have f2 : (ix xl i).2.1 = (ix yl i).2.1 := Classical.not_not.1 (by assumption)
    have f3 : (ix xl i).2.2 = (ix yl i).2.2 := by
      have h9 : ((ix xl i).2.2 != (ix yl i).2.2) = false := by assumption
      simpa using h9
    have e3 : ctFragSlot (ix xl i) = ctFragSlot (ix yl i) := by simp only [ctFragSlot, f1, f2, f3]
    rw [take_snoc e1, take_snoc e2, hta, e3]
  · refine retN ?_
    congr 1
    have hie : i = xl.length := by omega
    rw [hie, List.take_of_length_le (by rw [List.length_map]; omega), List.take_of_length_le (by rw [List.length_map]; omega)] at hta
    refine (decide_eq_true ?_).symm
    simp only [ctFragBench, hta, hnn]
end Go.Proofs.Ytodhjpnfokkfeaa

/- The law FnExactFragTake: for every bench and packet both functions answer the same, none changes its arguments, and what is handed back shares no memory. No condition. -/
import Derived.Test.YtodhjpnfokkfeaaFragao
import Derived.Test.YtodhjpnfokkfeaaOpens
set_option linter.unusedSimpArgs false
set_option linter.unusedVariables false
namespace Go.Proofs.Ytodhjpnfokkfeaa.fnExactFragTake
open Go Go.ChangeShapes Go.WideShapes Go.ChangeAt Go.RowKit
attribute [local irreducible] Calls GoS GoC GoE GoT Mid IsEq IsFl IsSc IsRw IsSl IsEl IsSt IsFs sp Mem Rd LenOf szR
theorem short_of {b : MFragBench} (h : wtFragBench (ctFragBench b) ≤ 1048576) : b.2.2.length ≤ 1048576 ∧ Short b.2.2 := by
  obtain ⟨now, v, l⟩ := b
  simp only [wtFragBench, ctFragBench, wtSFragSlot, List.length_map] at h
  refine ⟨by simp only; omega, fun y hy => ?_⟩
  have h2 : wtFragSlot (ctFragSlot y) ≤ ((l.map ctFragSlot).map wtFragSlot).sum := sum_mem (by
    rw [List.map_map]
    exact List.mem_map.2 ⟨y, hy, rfl⟩)
  have h3 : wtSFragPacket (y.1.2.map ctFragPacket) ≤ 1048576 := by
    simp only [wtFragSlot, ctFragSlot] at h2; omega
  simp only [wtSFragPacket, List.length_map] at h3
  refine ⟨by omega, fun p hp => ?_⟩
  have h4 : wtFragPacket (ctFragPacket p) ≤ ((y.1.2.map ctFragPacket).map wtFragPacket).sum := sum_mem (by
    rw [List.map_map]
    exact List.mem_map.2 ⟨p, hp, rfl⟩)
  simp only [wtFragPacket, ctFragPacket] at h4
  omega
theorem eqB_c (x y : MFragBench) (w : World) (hx : Rds w (rwFragBench x)) (hy : Rds w (rwFragBench y)) (h : ctFragBench x = ctFragBench y) : Calls Try.prog 27 #[.agg (clFragBench x).toArray, .agg (clFragBench y).toArray] w (RetN (.bool true) w) := by
  have h1 := eqFragBench_c x y w hx hy
  rw [decide_eq_true h] at h1
  exact h1
theorem eqP_c (x y : MFragPacket) (w : World) (hx : Rds w (rwFragPacket x)) (hy : Rds w (rwFragPacket y)) (h : ctFragPacket x = ctFragPacket y) : Calls Try.prog 36 #[.agg (clFragPacket x).toArray, .agg (clFragPacket y).toArray] w (RetN (.bool true) w) := by
  have h1 := eqFragPacket_c x y w hx hy
  rw [decide_eq_true h] at h1
  exact h1
theorem toP_c (u : MFragPacket) (hu : wtFragPacket (ctFragPacket u) ≤ 1048576) (w : World) (hx : Rds w (rwFragPacket u)) : Calls Try.prog 34 #[.agg (clFragPacket u).toArray] w (RetX (fun y : MFragPacket => ctFragPacket y = ctFragPacket u ∧ y.2.2.2.2.2.2.2.2.2.length ≤ 1048576 ∧ mkFragPacket (ctFragPacket y) ≤ 67108864) (fun y => .agg (clFragPacket y).toArray) (fun y => [.many (rwFragPacket y)]) w) := by
  refine (toFragPacket_c u w hx hu).mono ?_
  rintro e w' ⟨y, h1, h2⟩
  refine ⟨y, ⟨h1, by rw [← h1] at hu; exact hu, ?_⟩, h2⟩
  have h3 := mkleFragPacket (ctFragPacket y)
  rw [h1] at h3 ⊢
  omega
theorem toB_c (x : MFragBench) (hx0 : wtFragBench (ctFragBench x) ≤ 1048576) (w : World) (hx : Rds w (rwFragBench x)) : Calls Try.prog 25 #[.agg (clFragBench x).toArray] w (RetX (fun y : MFragBench => ctFragBench y = ctFragBench x ∧ y.2.2.length ≤ 1048576 ∧ Short y.2.2 ∧ mkFragBench (ctFragBench y) ≤ 67108864) (fun y => .agg (clFragBench y).toArray) (fun y => [.many (rwFragBench y)]) w) := by
  refine (toFragBench_c x w hx hx0).mono ?_
  rintro e w' ⟨y, h1, h2⟩
  have h4 := short_of (b := y) (by rw [h1]; exact hx0)
  refine ⟨y, ⟨h1, h4.1, h4.2, ?_⟩, h2⟩
  have h3 := mkleFragBench (ctFragBench y)
  rw [h1] at h3 ⊢
  omega
theorem take_wtB {x : MFragBench} {p q : CFragPacket} {c : CFragBench} {k : Int} (h : takeC x.1 (x.2.2.map ctFragSlot) p = (c, q, k)) (hb : wtFragBench (ctFragBench x) ≤ 1048576) (hp : wtFragPacket p ≤ 1048576) : mkFragBench c ≤ 268435456 ∧ mkFragPacket q ≤ 268435456 := by
  have h1 := take_wt h hb hp
  have h2 := mkleFragBench c
  have h3 := mkleFragPacket q
  omega
attribute [local irreducible] BenchGood wtFragBench Short takeC mkFragBench mkFragPacket hdFragBench hdFragPacket wtFragPacket octB octP
set_option maxRecDepth 16384 in
set_option maxHeartbeats 2000000 in
theorem walk (w : World) (x : MFragBench) (hx : okFragBench w x) (u : MFragPacket) (hu : okFragPacket w u) : Calls Try.prog 7 #[.agg (clFragBench x).toArray, .agg (clFragPacket u).toArray] w (RetN (.bool true) w) := by
  have hr := rdsFragBench hx
  have hr2 := rdsFragPacket hu
  have hob := octB_of hx
  have hop := oct_of hu
  obtain ⟨⟨tb, tp, tk⟩, hT⟩ : ∃ r, takeC x.1 (x.2.2.map ctFragSlot) (ctFragPacket u) = r := ⟨_, rfl⟩
  refine enter (n := 156) (E := [(0, _), (1, _)]) Try.func7 rfl rfl rfl rfl ?_
  repeat' (first
    |(refine gS ?_;(first
        |(refine gGuard ?_;(first
            |(refine S_on rfl ?_)
            |(refine S_off rfl rfl rfl ?_)
            |(refine S_offn rfl rfl ?_)
            |(refine S_offU rfl rfl ?_)
            |(refine S_offUn rfl ?_)
            |(refine S_gsplit rfl ?_ ?_ <;> (intro hb;(try simp only [decide_eq_true_eq] at hb);(try simp only [decide_eq_false_iff_not] at hb);(try simp only [Bool.not_eq_true'] at hb);(try simp only [Bool.not_eq_false'] at hb);(try (exfalso;first|contradiction|omega));(try (have hsz := szR_ok hb));(try (have hwt : wtFragBench (ctFragBench x) ≤ 1048576 := by omega));(try (have hwu : wtFragPacket (ctFragPacket u) ≤ 1048576 := by omega))))))
        |(refine S_move rfl rfl ?_)
        |(refine S_assign rfl rfl ?_)
        |(refine gLoad ?_;(first
            |(apply F_loadAll rfl rfl;(focus ((repeat (first|exact mH|refine mT ?_));done));(first|exact T.rw24|exact T.rw40|exact T.rw45|exact T.rw52);(focus (first|exact free0|exact free1)))
            |(apply F_loadP rfl rfl;(focus ((repeat (first|exact mH|refine mT ?_));done));(first|exact T.rw24|exact T.rw40|exact T.rw45|exact T.rw52);(focus ((repeat (first|exact Take.nil|apply Take.here|apply Take.there));done));rfl;(focus (first|exact free0|exact free1)))))
        |(refine gStore ?_;(first
            |(apply F_storeN rfl rfl;(focus (first|rfl|assumption|(simp only [List.append_nil,List.all_cons,List.all_nil,Bool.and_true,Bool.true_and,one_int,one_bool,one_string,one_slice,one_pointer, *];done)));(first|exact T.rw24|exact T.rw40|exact T.rw45|exact T.rw52);(focus ((repeat (first|exact Upd.here|apply Upd.there));done));(focus ((repeat (first|exact SetSeg.nil|apply SetSeg.here|apply SetSeg.there));done));(first|exact okst2|exact okst1|exact okst1'))))
        |(refine gCall ?_;(first
            |(show GoS _ _ _ _ _ _ _ (⟨_,_,_,.call ⟨.value (.func 23),_,_⟩,_⟩ :: _);refine S_callN (f := 23) rfl T.pf23 rfl (fun w hst => szFragBench_c _ _ (by omega) w (by first|(refine Rds.given hst ?_;assumption)|(apply Rds.many hst;(focus ((repeat (first|exact mH|refine mT ?_));done)))|(apply Rds.row hst;(focus ((repeat (first|exact mH|refine mT ?_));done))))) rfl ?_)
            |(show GoS _ _ _ _ _ _ _ (⟨_,_,_,.call ⟨.value (.func 32),_,_⟩,_⟩ :: _);refine S_callN (f := 32) rfl T.pf32 rfl (fun w hst => szFragPacket_c _ _ (by omega) w (by first|(refine Rds.given hst ?_;assumption)|(apply Rds.many hst;(focus ((repeat (first|exact mH|refine mT ?_));done)))|(apply Rds.row hst;(focus ((repeat (first|exact mH|refine mT ?_));done))))) rfl ?_)
            |(show GoS _ _ _ _ _ _ _ (⟨_,_,_,.call ⟨.value (.func 25),_,_⟩,_⟩ :: _);refine S_callX (f := 25) rfl T.pf25 rfl (fun w hst => toB_c x hwt w (by first|(refine Rds.given hst ?_;assumption)|(apply Rds.many hst;(focus ((repeat (first|exact mH|refine mT ?_));done)))|(apply Rds.row hst;(focus ((repeat (first|exact mH|refine mT ?_));done))))) rfl (fun zz hzz => ?_);simp only [List.cons_append,List.nil_append];revert hzz;revert zz;rintro y ⟨hy,hy1,hy2,hy3⟩;refine S_fact (fun w hs => oneFragBench (Rds.many hs (by (focus ((repeat (first|exact mH|refine mT ?_));done))))) (fun hone => ?_))
            |(show GoS _ _ _ _ _ _ _ (⟨_,_,_,.call ⟨.value (.func 34),_,_⟩,_⟩ :: _);refine S_callX (f := 34) rfl T.pf34 rfl (fun w hst => toP_c u hwu w (by first|(refine Rds.given hst ?_;assumption)|(apply Rds.many hst;(focus ((repeat (first|exact mH|refine mT ?_));done)))|(apply Rds.row hst;(focus ((repeat (first|exact mH|refine mT ?_));done))))) rfl (fun zz hzz => ?_);simp only [List.cons_append,List.nil_append];revert hzz;revert zz;rintro p ⟨hp,hp1,hp2⟩;refine S_fact (fun w hs => oneFragPacket (Rds.many hs (by (focus ((repeat (first|exact mH|refine mT ?_));done))))) (fun hone => ?_))
            |(show GoS _ _ _ _ _ _ _ (⟨_,_,_,.call ⟨.value (.func 33),_,_⟩,_⟩ :: _);refine S_callX (f := 33) rfl T.pf33 rfl (fun w hst => specTakeX_c x _ u _ (by assumption) (by assumption) hT (by assumption) (by assumption) (by assumption) w (by first|(refine Rds.given hst ?_;assumption)|(apply Rds.many hst;(focus ((repeat (first|exact mH|refine mT ?_));done)))|(apply Rds.row hst;(focus ((repeat (first|exact mH|refine mT ?_));done)))) (by first|(refine Rds.given hst ?_;assumption)|(apply Rds.many hst;(focus ((repeat (first|exact mH|refine mT ?_));done)))|(apply Rds.row hst;(focus ((repeat (first|exact mH|refine mT ?_));done))))) rfl (fun zz hzz => ?_);simp only [List.cons_append,List.nil_append];revert hzz;revert zz;rintro ⟨z0,q0⟩ ⟨hz0,hq0⟩;dsimp only at hz0 hq0 ⊢;refine S_fact (fun w hs => oneFragBench (Rds.many hs (by (focus ((repeat (first|exact mH|refine mT ?_));done))))) (fun hone => ?_);have hob1 := hone;refine S_fact (fun w hs => oneFragPacket (Rds.many hs (by (focus ((repeat (first|exact mH|refine mT ?_));done))))) (fun hone => ?_))))
        |(refine gBin ?_;(first
            |(refine S_lss rfl rfl rfl ?_)
            |(refine S_neq rfl rfl rfl ?_)
            |(refine S_neqB Try.underlying4 rfl rfl rfl ?_)))
        |(refine gPick ?_;(first
            |(refine S_pickT rfl rfl rfl ?_)
            |(refine S_pickF rfl rfl rfl ?_)))
        |(refine S_box rfl rfl rfl ?_;intro kb)
        |(apply S_alloc rfl (hd := rfl);(first|exact T.zc24|exact T.zc45);intro kb)
        |(apply F_build2 rfl (hd := rfl);(first|exact T.st24|exact T.st45);(focus ((repeat (first|exact BuildR.nil|(apply BuildR.cons;(first|exact T.fs24_0|exact T.fs24_1|exact T.fs24_2|exact T.fs24_3|exact T.fs24_4|exact T.fs24_5|exact T.fs24_6|exact T.fs24_7|exact T.fs24_8|exact T.fs45_0|exact T.fs45_1);rfl;rfl;(focus ((repeat (first|exact SetSeg.nil|apply SetSeg.here|apply SetSeg.there));done)))|(apply BuildR.cons1;(first|exact T.fs24_0|exact T.fs24_1|exact T.fs24_2|exact T.fs24_3|exact T.fs24_4|exact T.fs24_5|exact T.fs24_6|exact T.fs24_7|exact T.fs24_8|exact T.fs45_0|exact T.fs45_1);(focus assumption);(focus ((repeat (first|exact SetSeg.nil|apply SetSeg.here|apply SetSeg.there));done)))));done)))
        |(refine S_not rfl rfl ?_)
        |(refine S_extract rfl rfl rfl ?_)
        |(refine S_done ?_)
        |(refine S_box1 rfl rfl rfl rfl ?_;intro kb)))
    |((first
        |(refine gSeqReg (i := 8) ?_;refine C_join (α := Nat × Nat × Nat × Nat × MFragBench × MFragPacket) (fun s => [(8,.int .i64 tk),(6,.pointer (some ⟨s.1,0,none⟩)),(7,.pointer (some ⟨s.2.1,0,none⟩)),(2,.pointer (some ⟨s.2.2.1,0,none⟩)),(3,.pointer (some ⟨s.2.2.2.1,0,none⟩))]) (fun s => [.blk s.1 45 (clFragBench s.2.2.2.2.1),.blk s.2.1 24 (clFragPacket s.2.2.2.2.2),.many (rwFragBench s.2.2.2.2.1),.many (rwFragPacket s.2.2.2.2.2),.blk s.2.2.1 40 (clFragBench x),.blk s.2.2.2.1 52 (clFragPacket u)]) (fun s => ctFragBench s.2.2.2.2.1 = tb ∧ ctFragPacket s.2.2.2.2.2 = tp) ?_ ?_)
        |(refine C_seq ?_)
        |(refine gReg ?_;(first
            |(refine gReg (i := 0) ?_;refine C_plain [(0,2),(1,2),(2,0)] (by kernel_rfl) (s := [⟨2,none,_,_,_⟩,⟨2,none,_,_,_⟩,⟨0,none,_,_,_⟩]) rfl ?_)
            |(refine gReg (i := 1) ?_;refine C_plain [(0,0)] (by kernel_rfl) (s := [⟨0,none,_,_,_⟩]) rfl ?_)
            |(refine gReg (i := 2) ?_;refine C_plain [(0,0),(1,0),(2,2),(3,0)] (by kernel_rfl) (s := [⟨0,none,_,_,_⟩,⟨0,none,_,_,_⟩,⟨2,none,_,_,_⟩,⟨0,none,_,_,_⟩]) rfl ?_)
            |(refine gReg (i := 3) ?_;refine C_plain [(0,0),(1,0)] (by kernel_rfl) (s := [⟨0,none,_,_,_⟩,⟨0,none,_,_,_⟩]) rfl ?_)
            |(refine gReg (i := 4) ?_;refine C_plain [(0,0)] (by kernel_rfl) (s := [⟨0,none,_,_,_⟩]) rfl ?_)
            |(refine gReg (i := 5) ?_;refine C_plain [(0,0),(1,0),(2,2),(3,0)] (by kernel_rfl) (s := [⟨0,none,_,_,_⟩,⟨0,none,_,_,_⟩,⟨2,none,_,_,_⟩,⟨0,none,_,_,_⟩]) rfl ?_)
            |(refine gReg (i := 6) ?_;refine C_plain [(0,0),(1,0)] (by kernel_rfl) (s := [⟨0,none,_,_,_⟩,⟨0,none,_,_,_⟩]) rfl ?_)
            |(refine gReg (i := 7) ?_;refine C_plain [(0,0)] (by kernel_rfl) (s := [⟨0,none,_,_,_⟩]) rfl ?_)
            |(refine gReg (i := 8) ?_;refine C_drawnT (.br [(0,0),(2,0)] (.br [(1,1)] (.br [(3,1)] (.br [(4,1),(5,0),(6,0),(7,0),(8,0)] (.fin [(9,1),(10,1),(11,2),(12,2),(13,0)]) (.fin [(10,1),(9,1),(11,2),(12,2),(13,0)])) (.br [] (.br [(9,1)] (.fin [(4,1),(5,0),(6,0),(7,0),(8,0),(10,1),(11,2),(12,2),(13,0)]) (.fin [(10,1),(4,1),(5,0),(6,0),(7,0),(8,0),(11,2),(12,2),(13,0)])) (.br [(10,1)] (.fin [(4,1),(5,0),(6,0),(7,0),(8,0),(9,1),(11,2),(12,2),(13,0)]) (.fin [(9,1),(4,1),(5,0),(6,0),(7,0),(8,0),(11,2),(12,2),(13,0)])))) (.br [] (.br [(9,1)] (.br [(3,1)] (.fin [(4,1),(5,0),(6,0),(7,0),(8,0),(10,1),(11,2),(12,2),(13,0)]) (.fin [(10,1),(4,1),(5,0),(6,0),(7,0),(8,0),(11,2),(12,2),(13,0)])) (.fin [(10,1),(3,1),(4,1),(5,0),(6,0),(7,0),(8,0),(11,2),(12,2),(13,0)])) (.br [(10,1)] (.br [(3,1)] (.fin [(4,1),(5,0),(6,0),(7,0),(8,0),(9,1),(11,2),(12,2),(13,0)]) (.fin [(9,1),(4,1),(5,0),(6,0),(7,0),(8,0),(11,2),(12,2),(13,0)])) (.fin [(9,1),(3,1),(4,1),(5,0),(6,0),(7,0),(8,0),(11,2),(12,2),(13,0)])))) (.br [] (.br [(9,1)] (.br [(1,1)] (.br [(3,1)] (.fin [(4,1),(5,0),(6,0),(7,0),(8,0),(10,1),(11,2),(12,2),(13,0)]) (.fin [(10,1),(4,1),(5,0),(6,0),(7,0),(8,0),(11,2),(12,2),(13,0)])) (.fin [(10,1),(3,1),(4,1),(5,0),(6,0),(7,0),(8,0),(11,2),(12,2),(13,0)])) (.fin [(10,1),(1,1),(3,1),(4,1),(5,0),(6,0),(7,0),(8,0),(11,2),(12,2),(13,0)])) (.br [(10,1)] (.br [(1,1)] (.br [(3,1)] (.fin [(4,1),(5,0),(6,0),(7,0),(8,0),(9,1),(11,2),(12,2),(13,0)]) (.fin [(9,1),(4,1),(5,0),(6,0),(7,0),(8,0),(11,2),(12,2),(13,0)])) (.fin [(9,1),(3,1),(4,1),(5,0),(6,0),(7,0),(8,0),(11,2),(12,2),(13,0)])) (.fin [(9,1),(1,1),(3,1),(4,1),(5,0),(6,0),(7,0),(8,0),(11,2),(12,2),(13,0)])))) [] T.mixed (by kernel_rfl) (s := (.br [⟨0,none,_,_,_⟩,⟨0,none,_,_,_⟩] (.br [⟨1,none,_,_,_⟩] (.br [⟨1,none,_,_,_⟩] (.br [⟨1,none,_,_,_⟩,⟨0,none,_,_,_⟩,⟨0,none,_,_,_⟩,⟨0,none,_,_,_⟩,⟨0,none,_,_,_⟩] (.fin [⟨1,none,_,_,_⟩,⟨1,none,_,_,_⟩,⟨2,none,_,_,_⟩,⟨2,none,_,_,_⟩,⟨0,none,_,_,_⟩]) (.fin [⟨1,none,_,_,_⟩,⟨1,none,_,_,_⟩,⟨2,none,_,_,_⟩,⟨2,none,_,_,_⟩,⟨0,none,_,_,_⟩])) (.br [] (.br [⟨1,none,_,_,_⟩] (.fin [⟨1,none,_,_,_⟩,⟨0,none,_,_,_⟩,⟨0,none,_,_,_⟩,⟨0,none,_,_,_⟩,⟨0,none,_,_,_⟩,⟨1,none,_,_,_⟩,⟨2,none,_,_,_⟩,⟨2,none,_,_,_⟩,⟨0,none,_,_,_⟩]) (.fin [⟨1,none,_,_,_⟩,⟨1,none,_,_,_⟩,⟨0,none,_,_,_⟩,⟨0,none,_,_,_⟩,⟨0,none,_,_,_⟩,⟨0,none,_,_,_⟩,⟨2,none,_,_,_⟩,⟨2,none,_,_,_⟩,⟨0,none,_,_,_⟩])) (.br [⟨1,none,_,_,_⟩] (.fin [⟨1,none,_,_,_⟩,⟨0,none,_,_,_⟩,⟨0,none,_,_,_⟩,⟨0,none,_,_,_⟩,⟨0,none,_,_,_⟩,⟨1,none,_,_,_⟩,⟨2,none,_,_,_⟩,⟨2,none,_,_,_⟩,⟨0,none,_,_,_⟩]) (.fin [⟨1,none,_,_,_⟩,⟨1,none,_,_,_⟩,⟨0,none,_,_,_⟩,⟨0,none,_,_,_⟩,⟨0,none,_,_,_⟩,⟨0,none,_,_,_⟩,⟨2,none,_,_,_⟩,⟨2,none,_,_,_⟩,⟨0,none,_,_,_⟩])))) (.br [] (.br [⟨1,none,_,_,_⟩] (.br [⟨1,none,_,_,_⟩] (.fin [⟨1,none,_,_,_⟩,⟨0,none,_,_,_⟩,⟨0,none,_,_,_⟩,⟨0,none,_,_,_⟩,⟨0,none,_,_,_⟩,⟨1,none,_,_,_⟩,⟨2,none,_,_,_⟩,⟨2,none,_,_,_⟩,⟨0,none,_,_,_⟩]) (.fin [⟨1,none,_,_,_⟩,⟨1,none,_,_,_⟩,⟨0,none,_,_,_⟩,⟨0,none,_,_,_⟩,⟨0,none,_,_,_⟩,⟨0,none,_,_,_⟩,⟨2,none,_,_,_⟩,⟨2,none,_,_,_⟩,⟨0,none,_,_,_⟩])) (.fin [⟨1,none,_,_,_⟩,⟨1,none,_,_,_⟩,⟨1,none,_,_,_⟩,⟨0,none,_,_,_⟩,⟨0,none,_,_,_⟩,⟨0,none,_,_,_⟩,⟨0,none,_,_,_⟩,⟨2,none,_,_,_⟩,⟨2,none,_,_,_⟩,⟨0,none,_,_,_⟩])) (.br [⟨1,none,_,_,_⟩] (.br [⟨1,none,_,_,_⟩] (.fin [⟨1,none,_,_,_⟩,⟨0,none,_,_,_⟩,⟨0,none,_,_,_⟩,⟨0,none,_,_,_⟩,⟨0,none,_,_,_⟩,⟨1,none,_,_,_⟩,⟨2,none,_,_,_⟩,⟨2,none,_,_,_⟩,⟨0,none,_,_,_⟩]) (.fin [⟨1,none,_,_,_⟩,⟨1,none,_,_,_⟩,⟨0,none,_,_,_⟩,⟨0,none,_,_,_⟩,⟨0,none,_,_,_⟩,⟨0,none,_,_,_⟩,⟨2,none,_,_,_⟩,⟨2,none,_,_,_⟩,⟨0,none,_,_,_⟩])) (.fin [⟨1,none,_,_,_⟩,⟨1,none,_,_,_⟩,⟨1,none,_,_,_⟩,⟨0,none,_,_,_⟩,⟨0,none,_,_,_⟩,⟨0,none,_,_,_⟩,⟨0,none,_,_,_⟩,⟨2,none,_,_,_⟩,⟨2,none,_,_,_⟩,⟨0,none,_,_,_⟩])))) (.br [] (.br [⟨1,none,_,_,_⟩] (.br [⟨1,none,_,_,_⟩] (.br [⟨1,none,_,_,_⟩] (.fin [⟨1,none,_,_,_⟩,⟨0,none,_,_,_⟩,⟨0,none,_,_,_⟩,⟨0,none,_,_,_⟩,⟨0,none,_,_,_⟩,⟨1,none,_,_,_⟩,⟨2,none,_,_,_⟩,⟨2,none,_,_,_⟩,⟨0,none,_,_,_⟩]) (.fin [⟨1,none,_,_,_⟩,⟨1,none,_,_,_⟩,⟨0,none,_,_,_⟩,⟨0,none,_,_,_⟩,⟨0,none,_,_,_⟩,⟨0,none,_,_,_⟩,⟨2,none,_,_,_⟩,⟨2,none,_,_,_⟩,⟨0,none,_,_,_⟩])) (.fin [⟨1,none,_,_,_⟩,⟨1,none,_,_,_⟩,⟨1,none,_,_,_⟩,⟨0,none,_,_,_⟩,⟨0,none,_,_,_⟩,⟨0,none,_,_,_⟩,⟨0,none,_,_,_⟩,⟨2,none,_,_,_⟩,⟨2,none,_,_,_⟩,⟨0,none,_,_,_⟩])) (.fin [⟨1,none,_,_,_⟩,⟨1,none,_,_,_⟩,⟨1,none,_,_,_⟩,⟨1,none,_,_,_⟩,⟨0,none,_,_,_⟩,⟨0,none,_,_,_⟩,⟨0,none,_,_,_⟩,⟨0,none,_,_,_⟩,⟨2,none,_,_,_⟩,⟨2,none,_,_,_⟩,⟨0,none,_,_,_⟩])) (.br [⟨1,none,_,_,_⟩] (.br [⟨1,none,_,_,_⟩] (.br [⟨1,none,_,_,_⟩] (.fin [⟨1,none,_,_,_⟩,⟨0,none,_,_,_⟩,⟨0,none,_,_,_⟩,⟨0,none,_,_,_⟩,⟨0,none,_,_,_⟩,⟨1,none,_,_,_⟩,⟨2,none,_,_,_⟩,⟨2,none,_,_,_⟩,⟨0,none,_,_,_⟩]) (.fin [⟨1,none,_,_,_⟩,⟨1,none,_,_,_⟩,⟨0,none,_,_,_⟩,⟨0,none,_,_,_⟩,⟨0,none,_,_,_⟩,⟨0,none,_,_,_⟩,⟨2,none,_,_,_⟩,⟨2,none,_,_,_⟩,⟨0,none,_,_,_⟩])) (.fin [⟨1,none,_,_,_⟩,⟨1,none,_,_,_⟩,⟨1,none,_,_,_⟩,⟨0,none,_,_,_⟩,⟨0,none,_,_,_⟩,⟨0,none,_,_,_⟩,⟨0,none,_,_,_⟩,⟨2,none,_,_,_⟩,⟨2,none,_,_,_⟩,⟨0,none,_,_,_⟩])) (.fin [⟨1,none,_,_,_⟩,⟨1,none,_,_,_⟩,⟨1,none,_,_,_⟩,⟨1,none,_,_,_⟩,⟨0,none,_,_,_⟩,⟨0,none,_,_,_⟩,⟨0,none,_,_,_⟩,⟨0,none,_,_,_⟩,⟨2,none,_,_,_⟩,⟨2,none,_,_,_⟩,⟨0,none,_,_,_⟩]))))) rfl ?_)
            |(refine gReg (i := 9) ?_;refine C_plain [(0,0),(1,2),(2,2),(3,2)] (by kernel_rfl) (s := [⟨0,none,_,_,_⟩,⟨2,none,_,_,_⟩,⟨2,none,_,_,_⟩,⟨2,none,_,_,_⟩]) rfl ?_)
            |(refine gReg (i := 10) ?_;refine C_plain [(0,0),(1,2),(2,2),(3,2)] (by kernel_rfl) (s := [⟨0,none,_,_,_⟩,⟨2,none,_,_,_⟩,⟨2,none,_,_,_⟩,⟨2,none,_,_,_⟩]) rfl ?_)
            |(refine gReg (i := 11) ?_;refine C_plain [(0,0),(1,0),(2,2),(3,0),(4,0),(5,0),(6,0),(7,2),(8,2),(9,2),(10,2),(11,0)] (by kernel_rfl) (s := [⟨0,none,_,_,_⟩,⟨0,none,_,_,_⟩,⟨2,none,_,_,_⟩,⟨0,none,_,_,_⟩,⟨0,none,_,_,_⟩,⟨0,none,_,_,_⟩,⟨0,none,_,_,_⟩,⟨2,none,_,_,_⟩,⟨2,none,_,_,_⟩,⟨2,none,_,_,_⟩,⟨2,none,_,_,_⟩,⟨0,none,_,_,_⟩]) rfl ?_)
            |(refine gReg (i := 12) ?_;refine C_plain [(0,0),(1,0),(2,2),(3,0),(4,0),(5,0),(6,0),(7,2),(8,0),(9,0),(10,0),(11,0),(12,0),(13,0),(14,0)] (by kernel_rfl) (s := [⟨0,none,_,_,_⟩,⟨0,none,_,_,_⟩,⟨2,none,_,_,_⟩,⟨0,none,_,_,_⟩,⟨0,none,_,_,_⟩,⟨0,some (54,false),_,_,_⟩,⟨0,some (54,false),_,_,_⟩,⟨2,some (54,false),_,_,_⟩,⟨0,some (54,false),_,_,_⟩,⟨0,none,_,_,_⟩,⟨0,none,_,_,_⟩,⟨0,some (60,false),_,_,_⟩,⟨0,some (60,false),_,_,_⟩,⟨0,some (60,false),_,_,_⟩,⟨0,none,_,_,_⟩]) rfl ?_)
            |(refine gReg (i := 13) ?_;refine C_plain [(0,0)] (by kernel_rfl) (s := [⟨0,none,_,_,_⟩]) rfl ?_)
            |(refine gReg (i := 14) ?_;refine C_drawn [(0,0),(1,0),(2,1),(3,1),(4,0)] [] T.mixed (by kernel_rfl) (s := [⟨0,none,_,_,_⟩,⟨0,none,_,_,_⟩,⟨1,none,_,_,_⟩,⟨1,none,_,_,_⟩,⟨0,none,_,_,_⟩]) rfl ?_)
            |(refine gReg (i := 15) ?_;refine C_plain [(0,0)] (by kernel_rfl) (s := [⟨0,none,_,_,_⟩]) rfl ?_)
            |(refine gReg (i := 16) ?_;refine C_drawn [(0,0),(1,0),(2,1),(3,1),(4,0)] [] T.mixed (by kernel_rfl) (s := [⟨0,none,_,_,_⟩,⟨0,none,_,_,_⟩,⟨1,none,_,_,_⟩,⟨1,none,_,_,_⟩,⟨0,none,_,_,_⟩]) rfl ?_)
            |(refine gReg (i := 17) ?_;refine C_plain [(0,0)] (by kernel_rfl) (s := [⟨0,none,_,_,_⟩]) rfl ?_)
            |(refine gReg (i := 18) ?_;refine C_plain [(0,0)] (by kernel_rfl) (s := [⟨0,none,_,_,_⟩]) rfl ?_)
            |(refine gReg (i := 19) ?_;refine C_plain [(0,0),(1,0),(2,2),(3,0)] (by kernel_rfl) (s := [⟨0,none,_,_,_⟩,⟨0,none,_,_,_⟩,⟨2,none,_,_,_⟩,⟨0,none,_,_,_⟩]) rfl ?_)
            |(refine gReg (i := 20) ?_;refine C_plain [(0,0),(1,0),(2,2),(3,0)] (by kernel_rfl) (s := [⟨0,none,_,_,_⟩,⟨0,none,_,_,_⟩,⟨2,none,_,_,_⟩,⟨0,none,_,_,_⟩]) rfl ?_)
            |(refine gReg (i := 21) ?_;refine C_plain [(0,0),(1,0),(2,0),(3,0),(4,0),(5,2),(6,0),(7,0),(8,0),(9,0),(10,0),(11,2),(12,0),(13,0),(14,0),(15,0),(16,0),(17,0),(18,0)] (by kernel_rfl) (s := [⟨0,none,_,_,_⟩,⟨0,none,_,_,_⟩,⟨0,none,_,_,_⟩,⟨0,some (83,false),_,_,_⟩,⟨0,some (83,false),_,_,_⟩,⟨2,some (83,false),_,_,_⟩,⟨0,some (83,false),_,_,_⟩,⟨0,none,_,_,_⟩,⟨0,none,_,_,_⟩,⟨0,some (89,false),_,_,_⟩,⟨0,some (89,false),_,_,_⟩,⟨2,some (89,false),_,_,_⟩,⟨0,some (89,false),_,_,_⟩,⟨0,none,_,_,_⟩,⟨0,none,_,_,_⟩,⟨0,some (95,false),_,_,_⟩,⟨0,some (95,false),_,_,_⟩,⟨0,some (95,false),_,_,_⟩,⟨0,none,_,_,_⟩]) rfl ?_)
            |(refine gReg (i := 22) ?_;refine C_plain [(0,0)] (by kernel_rfl) (s := [⟨0,none,_,_,_⟩]) rfl ?_)
            |(refine gReg (i := 23) ?_;refine C_plain [(0,0)] (by kernel_rfl) (s := [⟨0,none,_,_,_⟩]) rfl ?_)
            |(refine gReg (i := 24) ?_;refine C_plain [(0,0),(1,0),(2,2),(3,0)] (by kernel_rfl) (s := [⟨0,none,_,_,_⟩,⟨0,none,_,_,_⟩,⟨2,none,_,_,_⟩,⟨0,none,_,_,_⟩]) rfl ?_)
            |(refine gReg (i := 25) ?_;refine C_plain [(0,0),(1,0),(2,2),(3,0)] (by kernel_rfl) (s := [⟨0,none,_,_,_⟩,⟨0,none,_,_,_⟩,⟨2,none,_,_,_⟩,⟨0,none,_,_,_⟩]) rfl ?_)
            |(refine gReg (i := 26) ?_;refine C_plain [(0,0)] (by kernel_rfl) (s := [⟨0,none,_,_,_⟩]) rfl ?_)
            |(refine gReg (i := 27) ?_;refine C_plain [(0,0),(1,0),(2,2),(3,0)] (by kernel_rfl) (s := [⟨0,none,_,_,_⟩,⟨0,none,_,_,_⟩,⟨2,none,_,_,_⟩,⟨0,none,_,_,_⟩]) rfl ?_)
            |(refine gReg (i := 28) ?_;refine C_plain [(0,0),(1,0)] (by kernel_rfl) (s := [⟨0,none,_,_,_⟩,⟨0,none,_,_,_⟩]) rfl ?_)
            |(refine gReg (i := 29) ?_;refine C_plain [(0,0)] (by kernel_rfl) (s := [⟨0,none,_,_,_⟩]) rfl ?_)
            |(refine gReg (i := 30) ?_;refine C_plain [(0,0),(1,0),(2,2),(3,0)] (by kernel_rfl) (s := [⟨0,none,_,_,_⟩,⟨0,none,_,_,_⟩,⟨2,none,_,_,_⟩,⟨0,none,_,_,_⟩]) rfl ?_)
            |(refine gReg (i := 31) ?_;refine C_plain [(0,0),(1,0)] (by kernel_rfl) (s := [⟨0,none,_,_,_⟩,⟨0,none,_,_,_⟩]) rfl ?_)
            |(refine gReg (i := 32) ?_;refine C_plain [(0,0)] (by kernel_rfl) (s := [⟨0,none,_,_,_⟩]) rfl ?_)
            |(refine gReg (i := 33) ?_;refine C_plain [(0,0),(1,0),(2,0)] (by kernel_rfl) (s := [⟨0,none,_,_,_⟩,⟨0,none,_,_,_⟩,⟨0,none,_,_,_⟩]) rfl ?_)
            |(refine gReg (i := 34) ?_;refine C_plain [(0,0)] (by kernel_rfl) (s := [⟨0,none,_,_,_⟩]) rfl ?_)
            |(refine gReg (i := 35) ?_;refine C_drawnT (.br [(0,0),(2,0)] (.br [(1,1)] (.br [(3,1)] (.br [(4,1),(5,0),(6,0),(7,0),(8,0)] (.fin [(9,1),(10,1),(11,2),(12,2),(13,0)]) (.fin [(10,1),(9,1),(11,2),(12,2),(13,0)])) (.br [] (.br [(9,1)] (.fin [(4,1),(5,0),(6,0),(7,0),(8,0),(10,1),(11,2),(12,2),(13,0)]) (.fin [(10,1),(4,1),(5,0),(6,0),(7,0),(8,0),(11,2),(12,2),(13,0)])) (.br [(10,1)] (.fin [(4,1),(5,0),(6,0),(7,0),(8,0),(9,1),(11,2),(12,2),(13,0)]) (.fin [(9,1),(4,1),(5,0),(6,0),(7,0),(8,0),(11,2),(12,2),(13,0)])))) (.br [] (.br [(9,1)] (.br [(3,1)] (.fin [(4,1),(5,0),(6,0),(7,0),(8,0),(10,1),(11,2),(12,2),(13,0)]) (.fin [(10,1),(4,1),(5,0),(6,0),(7,0),(8,0),(11,2),(12,2),(13,0)])) (.fin [(10,1),(3,1),(4,1),(5,0),(6,0),(7,0),(8,0),(11,2),(12,2),(13,0)])) (.br [(10,1)] (.br [(3,1)] (.fin [(4,1),(5,0),(6,0),(7,0),(8,0),(9,1),(11,2),(12,2),(13,0)]) (.fin [(9,1),(4,1),(5,0),(6,0),(7,0),(8,0),(11,2),(12,2),(13,0)])) (.fin [(9,1),(3,1),(4,1),(5,0),(6,0),(7,0),(8,0),(11,2),(12,2),(13,0)])))) (.br [] (.br [(9,1)] (.br [(1,1)] (.br [(3,1)] (.fin [(4,1),(5,0),(6,0),(7,0),(8,0),(10,1),(11,2),(12,2),(13,0)]) (.fin [(10,1),(4,1),(5,0),(6,0),(7,0),(8,0),(11,2),(12,2),(13,0)])) (.fin [(10,1),(3,1),(4,1),(5,0),(6,0),(7,0),(8,0),(11,2),(12,2),(13,0)])) (.fin [(10,1),(1,1),(3,1),(4,1),(5,0),(6,0),(7,0),(8,0),(11,2),(12,2),(13,0)])) (.br [(10,1)] (.br [(1,1)] (.br [(3,1)] (.fin [(4,1),(5,0),(6,0),(7,0),(8,0),(9,1),(11,2),(12,2),(13,0)]) (.fin [(9,1),(4,1),(5,0),(6,0),(7,0),(8,0),(11,2),(12,2),(13,0)])) (.fin [(9,1),(3,1),(4,1),(5,0),(6,0),(7,0),(8,0),(11,2),(12,2),(13,0)])) (.fin [(9,1),(1,1),(3,1),(4,1),(5,0),(6,0),(7,0),(8,0),(11,2),(12,2),(13,0)])))) [] T.mixed (by kernel_rfl) (s := (.br [⟨0,none,_,_,_⟩,⟨0,none,_,_,_⟩] (.br [⟨1,none,_,_,_⟩] (.br [⟨1,none,_,_,_⟩] (.br [⟨1,none,_,_,_⟩,⟨0,none,_,_,_⟩,⟨0,none,_,_,_⟩,⟨0,none,_,_,_⟩,⟨0,none,_,_,_⟩] (.fin [⟨1,none,_,_,_⟩,⟨1,none,_,_,_⟩,⟨2,none,_,_,_⟩,⟨2,none,_,_,_⟩,⟨0,none,_,_,_⟩]) (.fin [⟨1,none,_,_,_⟩,⟨1,none,_,_,_⟩,⟨2,none,_,_,_⟩,⟨2,none,_,_,_⟩,⟨0,none,_,_,_⟩])) (.br [] (.br [⟨1,none,_,_,_⟩] (.fin [⟨1,none,_,_,_⟩,⟨0,none,_,_,_⟩,⟨0,none,_,_,_⟩,⟨0,none,_,_,_⟩,⟨0,none,_,_,_⟩,⟨1,none,_,_,_⟩,⟨2,none,_,_,_⟩,⟨2,none,_,_,_⟩,⟨0,none,_,_,_⟩]) (.fin [⟨1,none,_,_,_⟩,⟨1,none,_,_,_⟩,⟨0,none,_,_,_⟩,⟨0,none,_,_,_⟩,⟨0,none,_,_,_⟩,⟨0,none,_,_,_⟩,⟨2,none,_,_,_⟩,⟨2,none,_,_,_⟩,⟨0,none,_,_,_⟩])) (.br [⟨1,none,_,_,_⟩] (.fin [⟨1,none,_,_,_⟩,⟨0,none,_,_,_⟩,⟨0,none,_,_,_⟩,⟨0,none,_,_,_⟩,⟨0,none,_,_,_⟩,⟨1,none,_,_,_⟩,⟨2,none,_,_,_⟩,⟨2,none,_,_,_⟩,⟨0,none,_,_,_⟩]) (.fin [⟨1,none,_,_,_⟩,⟨1,none,_,_,_⟩,⟨0,none,_,_,_⟩,⟨0,none,_,_,_⟩,⟨0,none,_,_,_⟩,⟨0,none,_,_,_⟩,⟨2,none,_,_,_⟩,⟨2,none,_,_,_⟩,⟨0,none,_,_,_⟩])))) (.br [] (.br [⟨1,none,_,_,_⟩] (.br [⟨1,none,_,_,_⟩] (.fin [⟨1,none,_,_,_⟩,⟨0,none,_,_,_⟩,⟨0,none,_,_,_⟩,⟨0,none,_,_,_⟩,⟨0,none,_,_,_⟩,⟨1,none,_,_,_⟩,⟨2,none,_,_,_⟩,⟨2,none,_,_,_⟩,⟨0,none,_,_,_⟩]) (.fin [⟨1,none,_,_,_⟩,⟨1,none,_,_,_⟩,⟨0,none,_,_,_⟩,⟨0,none,_,_,_⟩,⟨0,none,_,_,_⟩,⟨0,none,_,_,_⟩,⟨2,none,_,_,_⟩,⟨2,none,_,_,_⟩,⟨0,none,_,_,_⟩])) (.fin [⟨1,none,_,_,_⟩,⟨1,none,_,_,_⟩,⟨1,none,_,_,_⟩,⟨0,none,_,_,_⟩,⟨0,none,_,_,_⟩,⟨0,none,_,_,_⟩,⟨0,none,_,_,_⟩,⟨2,none,_,_,_⟩,⟨2,none,_,_,_⟩,⟨0,none,_,_,_⟩])) (.br [⟨1,none,_,_,_⟩] (.br [⟨1,none,_,_,_⟩] (.fin [⟨1,none,_,_,_⟩,⟨0,none,_,_,_⟩,⟨0,none,_,_,_⟩,⟨0,none,_,_,_⟩,⟨0,none,_,_,_⟩,⟨1,none,_,_,_⟩,⟨2,none,_,_,_⟩,⟨2,none,_,_,_⟩,⟨0,none,_,_,_⟩]) (.fin [⟨1,none,_,_,_⟩,⟨1,none,_,_,_⟩,⟨0,none,_,_,_⟩,⟨0,none,_,_,_⟩,⟨0,none,_,_,_⟩,⟨0,none,_,_,_⟩,⟨2,none,_,_,_⟩,⟨2,none,_,_,_⟩,⟨0,none,_,_,_⟩])) (.fin [⟨1,none,_,_,_⟩,⟨1,none,_,_,_⟩,⟨1,none,_,_,_⟩,⟨0,none,_,_,_⟩,⟨0,none,_,_,_⟩,⟨0,none,_,_,_⟩,⟨0,none,_,_,_⟩,⟨2,none,_,_,_⟩,⟨2,none,_,_,_⟩,⟨0,none,_,_,_⟩])))) (.br [] (.br [⟨1,none,_,_,_⟩] (.br [⟨1,none,_,_,_⟩] (.br [⟨1,none,_,_,_⟩] (.fin [⟨1,none,_,_,_⟩,⟨0,none,_,_,_⟩,⟨0,none,_,_,_⟩,⟨0,none,_,_,_⟩,⟨0,none,_,_,_⟩,⟨1,none,_,_,_⟩,⟨2,none,_,_,_⟩,⟨2,none,_,_,_⟩,⟨0,none,_,_,_⟩]) (.fin [⟨1,none,_,_,_⟩,⟨1,none,_,_,_⟩,⟨0,none,_,_,_⟩,⟨0,none,_,_,_⟩,⟨0,none,_,_,_⟩,⟨0,none,_,_,_⟩,⟨2,none,_,_,_⟩,⟨2,none,_,_,_⟩,⟨0,none,_,_,_⟩])) (.fin [⟨1,none,_,_,_⟩,⟨1,none,_,_,_⟩,⟨1,none,_,_,_⟩,⟨0,none,_,_,_⟩,⟨0,none,_,_,_⟩,⟨0,none,_,_,_⟩,⟨0,none,_,_,_⟩,⟨2,none,_,_,_⟩,⟨2,none,_,_,_⟩,⟨0,none,_,_,_⟩])) (.fin [⟨1,none,_,_,_⟩,⟨1,none,_,_,_⟩,⟨1,none,_,_,_⟩,⟨1,none,_,_,_⟩,⟨0,none,_,_,_⟩,⟨0,none,_,_,_⟩,⟨0,none,_,_,_⟩,⟨0,none,_,_,_⟩,⟨2,none,_,_,_⟩,⟨2,none,_,_,_⟩,⟨0,none,_,_,_⟩])) (.br [⟨1,none,_,_,_⟩] (.br [⟨1,none,_,_,_⟩] (.br [⟨1,none,_,_,_⟩] (.fin [⟨1,none,_,_,_⟩,⟨0,none,_,_,_⟩,⟨0,none,_,_,_⟩,⟨0,none,_,_,_⟩,⟨0,none,_,_,_⟩,⟨1,none,_,_,_⟩,⟨2,none,_,_,_⟩,⟨2,none,_,_,_⟩,⟨0,none,_,_,_⟩]) (.fin [⟨1,none,_,_,_⟩,⟨1,none,_,_,_⟩,⟨0,none,_,_,_⟩,⟨0,none,_,_,_⟩,⟨0,none,_,_,_⟩,⟨0,none,_,_,_⟩,⟨2,none,_,_,_⟩,⟨2,none,_,_,_⟩,⟨0,none,_,_,_⟩])) (.fin [⟨1,none,_,_,_⟩,⟨1,none,_,_,_⟩,⟨1,none,_,_,_⟩,⟨0,none,_,_,_⟩,⟨0,none,_,_,_⟩,⟨0,none,_,_,_⟩,⟨0,none,_,_,_⟩,⟨2,none,_,_,_⟩,⟨2,none,_,_,_⟩,⟨0,none,_,_,_⟩])) (.fin [⟨1,none,_,_,_⟩,⟨1,none,_,_,_⟩,⟨1,none,_,_,_⟩,⟨1,none,_,_,_⟩,⟨0,none,_,_,_⟩,⟨0,none,_,_,_⟩,⟨0,none,_,_,_⟩,⟨0,none,_,_,_⟩,⟨2,none,_,_,_⟩,⟨2,none,_,_,_⟩,⟨0,none,_,_,_⟩]))))) rfl ?_)
            |(refine gReg (i := 36) ?_;refine C_plain [(0,0),(1,0),(2,2),(3,0),(4,0),(5,0),(6,0),(7,2),(8,0),(9,0),(10,0),(11,0),(12,0),(13,0),(14,0)] (by kernel_rfl) (s := [⟨0,none,_,_,_⟩,⟨0,none,_,_,_⟩,⟨2,none,_,_,_⟩,⟨0,none,_,_,_⟩,⟨0,none,_,_,_⟩,⟨0,some (132,false),_,_,_⟩,⟨0,some (132,false),_,_,_⟩,⟨2,some (132,false),_,_,_⟩,⟨0,some (132,false),_,_,_⟩,⟨0,none,_,_,_⟩,⟨0,none,_,_,_⟩,⟨0,some (138,false),_,_,_⟩,⟨0,some (138,false),_,_,_⟩,⟨0,some (138,false),_,_,_⟩,⟨0,none,_,_,_⟩]) rfl ?_)
            |(refine gReg (i := 37) ?_;refine C_plain [(0,0)] (by kernel_rfl) (s := [⟨0,none,_,_,_⟩]) rfl ?_)
            |(refine gReg (i := 38) ?_;refine C_plain [(0,0)] (by kernel_rfl) (s := [⟨0,none,_,_,_⟩]) rfl ?_)
            |(refine gReg (i := 39) ?_;refine C_plain [(0,0),(1,0),(2,2),(3,0)] (by kernel_rfl) (s := [⟨0,none,_,_,_⟩,⟨0,none,_,_,_⟩,⟨2,none,_,_,_⟩,⟨0,none,_,_,_⟩]) rfl ?_)
            |(refine gReg (i := 40) ?_;refine C_plain [(0,0),(1,0)] (by kernel_rfl) (s := [⟨0,none,_,_,_⟩,⟨0,none,_,_,_⟩]) rfl ?_)
            |(refine gReg (i := 41) ?_;refine C_plain [(0,0)] (by kernel_rfl) (s := [⟨0,none,_,_,_⟩]) rfl ?_)
            |(refine gReg (i := 42) ?_;refine C_plain [(0,0),(1,0),(2,2),(3,0)] (by kernel_rfl) (s := [⟨0,none,_,_,_⟩,⟨0,none,_,_,_⟩,⟨2,none,_,_,_⟩,⟨0,none,_,_,_⟩]) rfl ?_)
            |(refine gReg (i := 43) ?_;refine C_plain [(0,0),(1,0)] (by kernel_rfl) (s := [⟨0,none,_,_,_⟩,⟨0,none,_,_,_⟩]) rfl ?_)
            |(refine gReg (i := 44) ?_;refine C_plain [(0,0)] (by kernel_rfl) (s := [⟨0,none,_,_,_⟩]) rfl ?_)
            |(refine gReg (i := 45) ?_;refine C_plain [(0,0),(1,0),(2,0)] (by kernel_rfl) (s := [⟨0,none,_,_,_⟩,⟨0,none,_,_,_⟩,⟨0,none,_,_,_⟩]) rfl ?_)
            |(refine gReg (i := 46) ?_;refine C_plain [(0,0)] (by kernel_rfl) (s := [⟨0,none,_,_,_⟩]) rfl ?_)
            |(refine gReg (i := 47) ?_;refine C_plain [(0,0)] (by kernel_rfl) (s := [⟨0,none,_,_,_⟩]) rfl ?_)))
        |(refine C_true rfl ?_)
        |(refine C_false rfl ?_)
        |(refine C_split rfl ?_ ?_ <;> (intro hb;(try simp only [decide_eq_true_eq] at hb);(try simp only [decide_eq_false_iff_not] at hb);(try simp only [Bool.not_eq_true'] at hb);(try simp only [Bool.not_eq_false'] at hb);(try (exfalso;first|contradiction|omega));(try (have hsz := szR_ok hb));(try (have hwt : wtFragBench (ctFragBench x) ≤ 1048576 := by omega));(try (have hwu : wtFragPacket (ctFragPacket u) ≤ 1048576 := by omega))))
        |(refine C_skip ?_)
        |(refine C_exit ?_)
        |(refine C_ret ?_)
        |(refine C_block ?_)
        |(refine T_fin ?_)
        |(refine T_br ?_)))
    |(refine gE ?_;(first
        |(refine E_then ?_)
        |(refine E_thenX ?_)
        |(refine E_thenR ?_)
        |(refine E_block ?_)
        |(refine E_blockY ?_)
        |(refine E_blockR ?_)
        |(refine E_calm ?_)
        |(refine E_blockX rfl ?_)
        |(apply E_ret1 rfl;(first|exact Res.tmp rfl|(apply R_cellAll rfl;(focus ((repeat (first|exact mH|refine mT ?_));done));(first|exact T.rw24|exact T.rw40|exact T.rw45|exact T.rw52))|(apply R_cell1 rfl;(focus ((repeat (first|exact mH|refine mT ?_));done));fail)))
        |(apply E_ret2 rfl;(first|exact Res.tmp rfl|(apply R_cellAll rfl;(focus ((repeat (first|exact mH|refine mT ?_));done));(first|exact T.rw24|exact T.rw40|exact T.rw45|exact T.rw52))|(apply R_cell1 rfl;(focus ((repeat (first|exact mH|refine mT ?_));done));fail));(first|exact Res.tmp rfl|(apply R_cellAll rfl;(focus ((repeat (first|exact mH|refine mT ?_));done));(first|exact T.rw24|exact T.rw40|exact T.rw45|exact T.rw52))|(apply R_cell1 rfl;(focus ((repeat (first|exact mH|refine mT ?_));done));fail)))
        |(apply E_ret3 rfl;(first|exact Res.tmp rfl|(apply R_cellAll rfl;(focus ((repeat (first|exact mH|refine mT ?_));done));(first|exact T.rw24|exact T.rw40|exact T.rw45|exact T.rw52))|(apply R_cell1 rfl;(focus ((repeat (first|exact mH|refine mT ?_));done));fail));(first|exact Res.tmp rfl|(apply R_cellAll rfl;(focus ((repeat (first|exact mH|refine mT ?_));done));(first|exact T.rw24|exact T.rw40|exact T.rw45|exact T.rw52))|(apply R_cell1 rfl;(focus ((repeat (first|exact mH|refine mT ?_));done));fail));(first|exact Res.tmp rfl|(apply R_cellAll rfl;(focus ((repeat (first|exact mH|refine mT ?_));done));(first|exact T.rw24|exact T.rw40|exact T.rw45|exact T.rw52))|(apply R_cell1 rfl;(focus ((repeat (first|exact mH|refine mT ?_));done));fail)))
        | (refine E_both ?_ ?_))))
  all_goals try exact retN rfl
  all_goals try exact E_join (α := Nat × Nat × Nat × Nat × MFragBench × MFragPacket) (_,_,_,_,z0,q0) ⟨hz0,hq0⟩ ⟨rfl,rfl,rfl,rfl,rfl,trivial⟩ (by (focus (apply Ent.flat;(simp only [List.length_append,List.length_cons,List.length_nil,Nat.zero_add,flat_many,flat_row,flat_blk,flat_append,flat_nil,List.map_append,List.map_cons,List.map_nil,List.flatMap_append,List.flatMap_cons,List.flatMap_nil,List.append_assoc,List.append_nil,List.nil_append,List.cons_append,Row.blk_mk,rwSuint8,rwFragPacket,rwSFragPacket,rwFragSlot,rwSFragSlot,rwFragBench]);((repeat (first|exact Pull.nil|(apply Pull.app;(focus ((repeat (first|exact PickA.here|exact PickA.all|apply PickA.there|apply PickA.over));done)))|(apply Pull.cons;(focus ((repeat (first|exact Pick.here|exact Pick.last|apply Pick.there|apply Pick.over));done)))|(apply Pull.atom;(focus ((repeat (first|exact PickA.here|exact PickA.all|apply PickA.there|apply PickA.over));done)))));done))))
  rintro ⟨k6, k7, k2, k3, z0, q0⟩ ⟨hz0, hq0⟩
  dsimp only at hz0 hq0 ⊢
  have hmk := take_wtB hT hwt hwu
  obtain ⟨hmb, hmp⟩ := hmk
  repeat' (first
    |(refine gS ?_;(first
        |(refine gGuard ?_;(first
            |(refine S_on rfl ?_)
            |(refine S_off rfl rfl rfl ?_)
            |(refine S_offn rfl rfl ?_)
            |(refine S_offU rfl rfl ?_)
            |(refine S_offUn rfl ?_)
            |(refine S_gsplit rfl ?_ ?_ <;> (intro hb;(try simp only [decide_eq_true_eq] at hb);(try simp only [decide_eq_false_iff_not] at hb);(try simp only [Bool.not_eq_true'] at hb);(try simp only [Bool.not_eq_false'] at hb);(try (exfalso;first|contradiction|omega))))))
        |(refine S_move rfl rfl ?_)
        |(refine S_assign rfl rfl ?_)
        |(refine gLoad ?_;(first
            |(apply F_loadAll rfl rfl;(focus ((repeat (first|exact mH|refine mT ?_));done));(first|exact T.rw24|exact T.rw40|exact T.rw45|exact T.rw52);(focus (first|exact free0|exact free1)))
            |(apply F_loadP rfl rfl;(focus ((repeat (first|exact mH|refine mT ?_));done));(first|exact T.rw24|exact T.rw40|exact T.rw45|exact T.rw52);(focus ((repeat (first|exact Take.nil|apply Take.here|apply Take.there));done));rfl;(focus (first|exact free0|exact free1)))))
        |(refine gStore ?_;(first
            |(apply F_storeN rfl rfl;(focus (first|rfl|assumption|(simp only [List.append_nil,List.all_cons,List.all_nil,Bool.and_true,Bool.true_and,one_int,one_bool,one_string,one_slice,one_pointer, *];done)));(first|exact T.rw24|exact T.rw40|exact T.rw45|exact T.rw52);(focus ((repeat (first|exact Upd.here|apply Upd.there));done));(focus ((repeat (first|exact SetSeg.nil|apply SetSeg.here|apply SetSeg.there));done));(first|exact okst2|exact okst1|exact okst1'))))
        |(refine gCall ?_;(first
            |(show GoS _ _ _ _ _ _ _ (⟨_,_,_,.call ⟨.value (.func 25),_,_⟩,_⟩ :: _);refine S_callX (f := 25) rfl T.pf25 rfl (fun w hst => toB_c x hwt w (by first|(refine Rds.given hst ?_;assumption)|(apply Rds.many hst;(focus ((repeat (first|exact mH|refine mT ?_));done)))|(apply Rds.row hst;(focus ((repeat (first|exact mH|refine mT ?_));done))))) rfl (fun zz hzz => ?_);simp only [List.cons_append,List.nil_append];revert hzz;revert zz;rintro y ⟨hy,hy1,hy2,hy3⟩;refine S_fact (fun w hs => oneFragBench (Rds.many hs (by (focus ((repeat (first|exact mH|refine mT ?_));done))))) (fun hone => ?_))
            |(show GoS _ _ _ _ _ _ _ (⟨_,_,_,.call ⟨.value (.func 34),_,_⟩,_⟩ :: _);refine S_callX (f := 34) rfl T.pf34 rfl (fun w hst => toP_c u hwu w (by first|(refine Rds.given hst ?_;assumption)|(apply Rds.many hst;(focus ((repeat (first|exact mH|refine mT ?_));done)))|(apply Rds.row hst;(focus ((repeat (first|exact mH|refine mT ?_));done))))) rfl (fun zz hzz => ?_);simp only [List.cons_append,List.nil_append];revert hzz;revert zz;rintro p ⟨hp,hp1,hp2⟩;refine S_fact (fun w hs => oneFragPacket (Rds.many hs (by (focus ((repeat (first|exact mH|refine mT ?_));done))))) (fun hone => ?_))
            |(show GoS _ _ _ _ _ _ _ (⟨_,_,_,.call ⟨.value (.func 35),_,_⟩,_⟩ :: _);refine S_callX (f := 35) rfl T.pf35 rfl (fun w hst => implTakeX_c x _ u _ (by assumption) (by assumption) hT hob hop (by assumption) (by assumption) (by assumption) w (by first|(refine Rds.given hst ?_;assumption)|(apply Rds.many hst;(focus ((repeat (first|exact mH|refine mT ?_));done)))|(apply Rds.row hst;(focus ((repeat (first|exact mH|refine mT ?_));done)))) (by first|(refine Rds.given hst ?_;assumption)|(apply Rds.many hst;(focus ((repeat (first|exact mH|refine mT ?_));done)))|(apply Rds.row hst;(focus ((repeat (first|exact mH|refine mT ?_));done))))) rfl (fun zz hzz => ?_);simp only [List.cons_append,List.nil_append];revert hzz;revert zz;rintro ⟨z,q⟩ ⟨hz,hq⟩;dsimp only at hz hq ⊢;refine S_fact (fun w hs => oneFragBench (Rds.many hs (by (focus ((repeat (first|exact mH|refine mT ?_));done))))) (fun hone => ?_);have hob1 := hone;refine S_fact (fun w hs => oneFragPacket (Rds.many hs (by (focus ((repeat (first|exact mH|refine mT ?_));done))))) (fun hone => ?_);have hmz : mkFragBench (ctFragBench z) ≤ 268435456 := hz ▸ hmb;have hmq : mkFragPacket (ctFragPacket q) ≤ 268435456 := hq ▸ hmp)
            |(show GoS _ _ _ _ _ _ _ (⟨_,_,_,.call ⟨.value (.func 27),_,_⟩,_⟩ :: _);refine S_callN (f := 27) rfl T.pf27 rfl (fun w hst => eqB_c _ _ w (by first|(refine Rds.given hst ?_;assumption)|(apply Rds.many hst;(focus ((repeat (first|exact mH|refine mT ?_));done)))|(apply Rds.row hst;(focus ((repeat (first|exact mH|refine mT ?_));done)))) (by first|(refine Rds.given hst ?_;assumption)|(apply Rds.many hst;(focus ((repeat (first|exact mH|refine mT ?_));done)))|(apply Rds.row hst;(focus ((repeat (first|exact mH|refine mT ?_));done)))) (by first|assumption|exact Eq.trans (b := tb) (by assumption) (Eq.symm (by assumption))|exact Eq.trans (b := ctFragBench x) (by assumption) (Eq.symm (by assumption)))) rfl ?_)
            |(show GoS _ _ _ _ _ _ _ (⟨_,_,_,.call ⟨.value (.func 36),_,_⟩,_⟩ :: _);refine S_callN (f := 36) rfl T.pf36 rfl (fun w hst => eqP_c _ _ w (by first|(refine Rds.given hst ?_;assumption)|(apply Rds.many hst;(focus ((repeat (first|exact mH|refine mT ?_));done)))|(apply Rds.row hst;(focus ((repeat (first|exact mH|refine mT ?_));done)))) (by first|(refine Rds.given hst ?_;assumption)|(apply Rds.many hst;(focus ((repeat (first|exact mH|refine mT ?_));done)))|(apply Rds.row hst;(focus ((repeat (first|exact mH|refine mT ?_));done)))) (by first|assumption|exact Eq.trans (b := tp) (by assumption) (Eq.symm (by assumption))|exact Eq.trans (b := ctFragPacket u) (by assumption) (Eq.symm (by assumption)))) rfl ?_)
            |(show GoS _ _ _ _ _ _ _ (⟨_,_,_,.call ⟨.value (.func 30),_,_⟩,_⟩ :: _);apply S_callS (f := 30) T.pf30 rfl rfl (fun w hst => markFragBench_c _ _ (by omega) (by omega) _ w hst);(focus ((repeat (first|exact Pull.nil|(apply Pull.app;(focus ((repeat (first|exact PickA.here|exact PickA.all|apply PickA.there|apply PickA.over));done)))|(apply Pull.cons;(focus ((repeat (first|exact Pick.here|exact Pick.last|apply Pick.there|apply Pick.over));done)))|(apply Pull.atom;(focus ((repeat (first|exact PickA.here|exact PickA.all|apply PickA.there|apply PickA.over));done)))));done));intro zz hzz;simp only [List.cons_append,List.nil_append];revert hzz;revert zz;rintro m ⟨hm1,hm2,hm3⟩)
            |(show GoS _ _ _ _ _ _ _ (⟨_,_,_,.call ⟨.value (.func 37),_,_⟩,_⟩ :: _);apply S_callS (f := 37) T.pf37 rfl rfl (fun w hst => markFragPacket_c _ _ (by omega) (by omega) _ w hst);(focus ((repeat (first|exact Pull.nil|(apply Pull.app;(focus ((repeat (first|exact PickA.here|exact PickA.all|apply PickA.there|apply PickA.over));done)))|(apply Pull.cons;(focus ((repeat (first|exact Pick.here|exact Pick.last|apply Pick.there|apply Pick.over));done)))|(apply Pull.atom;(focus ((repeat (first|exact PickA.here|exact PickA.all|apply PickA.there|apply PickA.over));done)))));done));intro zz hzz;simp only [List.cons_append,List.nil_append];revert hzz;revert zz;rintro mq ⟨hn1,hn2,hn3⟩)
            |(show GoS _ _ _ _ _ _ _ (⟨_,_,_,.call ⟨.value (.func 31),_,_⟩,_⟩ :: _);refine S_callN (f := 31) rfl T.pf31 rfl (fun w hst => heldFragBench_c m _ hm1 _ (by omega) (by omega) (by assumption) w (by first|(refine Rds.given hst ?_;assumption)|(apply Rds.many hst;(focus ((repeat (first|exact mH|refine mT ?_));done)))|(apply Rds.row hst;(focus ((repeat (first|exact mH|refine mT ?_));done))))) rfl ?_)
            |(show GoS _ _ _ _ _ _ _ (⟨_,_,_,.call ⟨.value (.func 38),_,_⟩,_⟩ :: _);refine S_callN (f := 38) rfl T.pf38 rfl (fun w hst => heldFragPacket_c mq _ hn1 _ (by omega) (by omega) (by rw [hm3];exact hn2) w (by first|(refine Rds.given hst ?_;assumption)|(apply Rds.many hst;(focus ((repeat (first|exact mH|refine mT ?_));done)))|(apply Rds.row hst;(focus ((repeat (first|exact mH|refine mT ?_));done))))) rfl ?_)))
        |(refine gBin ?_;(first
            |(refine S_lss rfl rfl rfl ?_)
            |(refine S_neq rfl rfl rfl ?_)
            |(refine S_neqB Try.underlying4 rfl rfl rfl ?_)))
        |(refine gPick ?_;(first
            |(refine S_pickT rfl rfl rfl ?_)
            |(refine S_pickF rfl rfl rfl ?_)))
        |(refine S_box rfl rfl rfl ?_;intro kb)
        |(apply S_alloc rfl (hd := rfl);(first|exact T.zc24|exact T.zc45);intro kb)
        |(apply F_build2 rfl (hd := rfl);(first|exact T.st24|exact T.st45);(focus ((repeat (first|exact BuildR.nil|(apply BuildR.cons;(first|exact T.fs24_0|exact T.fs24_1|exact T.fs24_2|exact T.fs24_3|exact T.fs24_4|exact T.fs24_5|exact T.fs24_6|exact T.fs24_7|exact T.fs24_8|exact T.fs45_0|exact T.fs45_1);rfl;rfl;(focus ((repeat (first|exact SetSeg.nil|apply SetSeg.here|apply SetSeg.there));done)))|(apply BuildR.cons1;(first|exact T.fs24_0|exact T.fs24_1|exact T.fs24_2|exact T.fs24_3|exact T.fs24_4|exact T.fs24_5|exact T.fs24_6|exact T.fs24_7|exact T.fs24_8|exact T.fs45_0|exact T.fs45_1);(focus assumption);(focus ((repeat (first|exact SetSeg.nil|apply SetSeg.here|apply SetSeg.there));done)))));done)))
        |(refine S_not rfl rfl ?_)
        |(refine S_extract rfl rfl rfl ?_)
        |(refine S_done ?_)
        |(refine S_box1 rfl rfl rfl rfl ?_;intro kb)))
    |((first
        |(refine C_seq ?_)
        |(refine gReg ?_;(first
            |(refine gReg (i := 0) ?_;refine C_plain [(0,2),(1,2),(2,0)] (by kernel_rfl) (s := [⟨2,none,_,_,_⟩,⟨2,none,_,_,_⟩,⟨0,none,_,_,_⟩]) rfl ?_)
            |(refine gReg (i := 1) ?_;refine C_plain [(0,0)] (by kernel_rfl) (s := [⟨0,none,_,_,_⟩]) rfl ?_)
            |(refine gReg (i := 2) ?_;refine C_plain [(0,0),(1,0),(2,2),(3,0)] (by kernel_rfl) (s := [⟨0,none,_,_,_⟩,⟨0,none,_,_,_⟩,⟨2,none,_,_,_⟩,⟨0,none,_,_,_⟩]) rfl ?_)
            |(refine gReg (i := 3) ?_;refine C_plain [(0,0),(1,0)] (by kernel_rfl) (s := [⟨0,none,_,_,_⟩,⟨0,none,_,_,_⟩]) rfl ?_)
            |(refine gReg (i := 4) ?_;refine C_plain [(0,0)] (by kernel_rfl) (s := [⟨0,none,_,_,_⟩]) rfl ?_)
            |(refine gReg (i := 5) ?_;refine C_plain [(0,0),(1,0),(2,2),(3,0)] (by kernel_rfl) (s := [⟨0,none,_,_,_⟩,⟨0,none,_,_,_⟩,⟨2,none,_,_,_⟩,⟨0,none,_,_,_⟩]) rfl ?_)
            |(refine gReg (i := 6) ?_;refine C_plain [(0,0),(1,0)] (by kernel_rfl) (s := [⟨0,none,_,_,_⟩,⟨0,none,_,_,_⟩]) rfl ?_)
            |(refine gReg (i := 7) ?_;refine C_plain [(0,0)] (by kernel_rfl) (s := [⟨0,none,_,_,_⟩]) rfl ?_)
            |(refine gReg (i := 8) ?_;refine C_drawnT (.br [(0,0),(2,0)] (.br [(1,1)] (.br [(3,1)] (.br [(4,1),(5,0),(6,0),(7,0),(8,0)] (.fin [(9,1),(10,1),(11,2),(12,2),(13,0)]) (.fin [(10,1),(9,1),(11,2),(12,2),(13,0)])) (.br [] (.br [(9,1)] (.fin [(4,1),(5,0),(6,0),(7,0),(8,0),(10,1),(11,2),(12,2),(13,0)]) (.fin [(10,1),(4,1),(5,0),(6,0),(7,0),(8,0),(11,2),(12,2),(13,0)])) (.br [(10,1)] (.fin [(4,1),(5,0),(6,0),(7,0),(8,0),(9,1),(11,2),(12,2),(13,0)]) (.fin [(9,1),(4,1),(5,0),(6,0),(7,0),(8,0),(11,2),(12,2),(13,0)])))) (.br [] (.br [(9,1)] (.br [(3,1)] (.fin [(4,1),(5,0),(6,0),(7,0),(8,0),(10,1),(11,2),(12,2),(13,0)]) (.fin [(10,1),(4,1),(5,0),(6,0),(7,0),(8,0),(11,2),(12,2),(13,0)])) (.fin [(10,1),(3,1),(4,1),(5,0),(6,0),(7,0),(8,0),(11,2),(12,2),(13,0)])) (.br [(10,1)] (.br [(3,1)] (.fin [(4,1),(5,0),(6,0),(7,0),(8,0),(9,1),(11,2),(12,2),(13,0)]) (.fin [(9,1),(4,1),(5,0),(6,0),(7,0),(8,0),(11,2),(12,2),(13,0)])) (.fin [(9,1),(3,1),(4,1),(5,0),(6,0),(7,0),(8,0),(11,2),(12,2),(13,0)])))) (.br [] (.br [(9,1)] (.br [(1,1)] (.br [(3,1)] (.fin [(4,1),(5,0),(6,0),(7,0),(8,0),(10,1),(11,2),(12,2),(13,0)]) (.fin [(10,1),(4,1),(5,0),(6,0),(7,0),(8,0),(11,2),(12,2),(13,0)])) (.fin [(10,1),(3,1),(4,1),(5,0),(6,0),(7,0),(8,0),(11,2),(12,2),(13,0)])) (.fin [(10,1),(1,1),(3,1),(4,1),(5,0),(6,0),(7,0),(8,0),(11,2),(12,2),(13,0)])) (.br [(10,1)] (.br [(1,1)] (.br [(3,1)] (.fin [(4,1),(5,0),(6,0),(7,0),(8,0),(9,1),(11,2),(12,2),(13,0)]) (.fin [(9,1),(4,1),(5,0),(6,0),(7,0),(8,0),(11,2),(12,2),(13,0)])) (.fin [(9,1),(3,1),(4,1),(5,0),(6,0),(7,0),(8,0),(11,2),(12,2),(13,0)])) (.fin [(9,1),(1,1),(3,1),(4,1),(5,0),(6,0),(7,0),(8,0),(11,2),(12,2),(13,0)])))) [] T.mixed (by kernel_rfl) (s := (.br [⟨0,none,_,_,_⟩,⟨0,none,_,_,_⟩] (.br [⟨1,none,_,_,_⟩] (.br [⟨1,none,_,_,_⟩] (.br [⟨1,none,_,_,_⟩,⟨0,none,_,_,_⟩,⟨0,none,_,_,_⟩,⟨0,none,_,_,_⟩,⟨0,none,_,_,_⟩] (.fin [⟨1,none,_,_,_⟩,⟨1,none,_,_,_⟩,⟨2,none,_,_,_⟩,⟨2,none,_,_,_⟩,⟨0,none,_,_,_⟩]) (.fin [⟨1,none,_,_,_⟩,⟨1,none,_,_,_⟩,⟨2,none,_,_,_⟩,⟨2,none,_,_,_⟩,⟨0,none,_,_,_⟩])) (.br [] (.br [⟨1,none,_,_,_⟩] (.fin [⟨1,none,_,_,_⟩,⟨0,none,_,_,_⟩,⟨0,none,_,_,_⟩,⟨0,none,_,_,_⟩,⟨0,none,_,_,_⟩,⟨1,none,_,_,_⟩,⟨2,none,_,_,_⟩,⟨2,none,_,_,_⟩,⟨0,none,_,_,_⟩]) (.fin [⟨1,none,_,_,_⟩,⟨1,none,_,_,_⟩,⟨0,none,_,_,_⟩,⟨0,none,_,_,_⟩,⟨0,none,_,_,_⟩,⟨0,none,_,_,_⟩,⟨2,none,_,_,_⟩,⟨2,none,_,_,_⟩,⟨0,none,_,_,_⟩])) (.br [⟨1,none,_,_,_⟩] (.fin [⟨1,none,_,_,_⟩,⟨0,none,_,_,_⟩,⟨0,none,_,_,_⟩,⟨0,none,_,_,_⟩,⟨0,none,_,_,_⟩,⟨1,none,_,_,_⟩,⟨2,none,_,_,_⟩,⟨2,none,_,_,_⟩,⟨0,none,_,_,_⟩]) (.fin [⟨1,none,_,_,_⟩,⟨1,none,_,_,_⟩,⟨0,none,_,_,_⟩,⟨0,none,_,_,_⟩,⟨0,none,_,_,_⟩,⟨0,none,_,_,_⟩,⟨2,none,_,_,_⟩,⟨2,none,_,_,_⟩,⟨0,none,_,_,_⟩])))) (.br [] (.br [⟨1,none,_,_,_⟩] (.br [⟨1,none,_,_,_⟩] (.fin [⟨1,none,_,_,_⟩,⟨0,none,_,_,_⟩,⟨0,none,_,_,_⟩,⟨0,none,_,_,_⟩,⟨0,none,_,_,_⟩,⟨1,none,_,_,_⟩,⟨2,none,_,_,_⟩,⟨2,none,_,_,_⟩,⟨0,none,_,_,_⟩]) (.fin [⟨1,none,_,_,_⟩,⟨1,none,_,_,_⟩,⟨0,none,_,_,_⟩,⟨0,none,_,_,_⟩,⟨0,none,_,_,_⟩,⟨0,none,_,_,_⟩,⟨2,none,_,_,_⟩,⟨2,none,_,_,_⟩,⟨0,none,_,_,_⟩])) (.fin [⟨1,none,_,_,_⟩,⟨1,none,_,_,_⟩,⟨1,none,_,_,_⟩,⟨0,none,_,_,_⟩,⟨0,none,_,_,_⟩,⟨0,none,_,_,_⟩,⟨0,none,_,_,_⟩,⟨2,none,_,_,_⟩,⟨2,none,_,_,_⟩,⟨0,none,_,_,_⟩])) (.br [⟨1,none,_,_,_⟩] (.br [⟨1,none,_,_,_⟩] (.fin [⟨1,none,_,_,_⟩,⟨0,none,_,_,_⟩,⟨0,none,_,_,_⟩,⟨0,none,_,_,_⟩,⟨0,none,_,_,_⟩,⟨1,none,_,_,_⟩,⟨2,none,_,_,_⟩,⟨2,none,_,_,_⟩,⟨0,none,_,_,_⟩]) (.fin [⟨1,none,_,_,_⟩,⟨1,none,_,_,_⟩,⟨0,none,_,_,_⟩,⟨0,none,_,_,_⟩,⟨0,none,_,_,_⟩,⟨0,none,_,_,_⟩,⟨2,none,_,_,_⟩,⟨2,none,_,_,_⟩,⟨0,none,_,_,_⟩])) (.fin [⟨1,none,_,_,_⟩,⟨1,none,_,_,_⟩,⟨1,none,_,_,_⟩,⟨0,none,_,_,_⟩,⟨0,none,_,_,_⟩,⟨0,none,_,_,_⟩,⟨0,none,_,_,_⟩,⟨2,none,_,_,_⟩,⟨2,none,_,_,_⟩,⟨0,none,_,_,_⟩])))) (.br [] (.br [⟨1,none,_,_,_⟩] (.br [⟨1,none,_,_,_⟩] (.br [⟨1,none,_,_,_⟩] (.fin [⟨1,none,_,_,_⟩,⟨0,none,_,_,_⟩,⟨0,none,_,_,_⟩,⟨0,none,_,_,_⟩,⟨0,none,_,_,_⟩,⟨1,none,_,_,_⟩,⟨2,none,_,_,_⟩,⟨2,none,_,_,_⟩,⟨0,none,_,_,_⟩]) (.fin [⟨1,none,_,_,_⟩,⟨1,none,_,_,_⟩,⟨0,none,_,_,_⟩,⟨0,none,_,_,_⟩,⟨0,none,_,_,_⟩,⟨0,none,_,_,_⟩,⟨2,none,_,_,_⟩,⟨2,none,_,_,_⟩,⟨0,none,_,_,_⟩])) (.fin [⟨1,none,_,_,_⟩,⟨1,none,_,_,_⟩,⟨1,none,_,_,_⟩,⟨0,none,_,_,_⟩,⟨0,none,_,_,_⟩,⟨0,none,_,_,_⟩,⟨0,none,_,_,_⟩,⟨2,none,_,_,_⟩,⟨2,none,_,_,_⟩,⟨0,none,_,_,_⟩])) (.fin [⟨1,none,_,_,_⟩,⟨1,none,_,_,_⟩,⟨1,none,_,_,_⟩,⟨1,none,_,_,_⟩,⟨0,none,_,_,_⟩,⟨0,none,_,_,_⟩,⟨0,none,_,_,_⟩,⟨0,none,_,_,_⟩,⟨2,none,_,_,_⟩,⟨2,none,_,_,_⟩,⟨0,none,_,_,_⟩])) (.br [⟨1,none,_,_,_⟩] (.br [⟨1,none,_,_,_⟩] (.br [⟨1,none,_,_,_⟩] (.fin [⟨1,none,_,_,_⟩,⟨0,none,_,_,_⟩,⟨0,none,_,_,_⟩,⟨0,none,_,_,_⟩,⟨0,none,_,_,_⟩,⟨1,none,_,_,_⟩,⟨2,none,_,_,_⟩,⟨2,none,_,_,_⟩,⟨0,none,_,_,_⟩]) (.fin [⟨1,none,_,_,_⟩,⟨1,none,_,_,_⟩,⟨0,none,_,_,_⟩,⟨0,none,_,_,_⟩,⟨0,none,_,_,_⟩,⟨0,none,_,_,_⟩,⟨2,none,_,_,_⟩,⟨2,none,_,_,_⟩,⟨0,none,_,_,_⟩])) (.fin [⟨1,none,_,_,_⟩,⟨1,none,_,_,_⟩,⟨1,none,_,_,_⟩,⟨0,none,_,_,_⟩,⟨0,none,_,_,_⟩,⟨0,none,_,_,_⟩,⟨0,none,_,_,_⟩,⟨2,none,_,_,_⟩,⟨2,none,_,_,_⟩,⟨0,none,_,_,_⟩])) (.fin [⟨1,none,_,_,_⟩,⟨1,none,_,_,_⟩,⟨1,none,_,_,_⟩,⟨1,none,_,_,_⟩,⟨0,none,_,_,_⟩,⟨0,none,_,_,_⟩,⟨0,none,_,_,_⟩,⟨0,none,_,_,_⟩,⟨2,none,_,_,_⟩,⟨2,none,_,_,_⟩,⟨0,none,_,_,_⟩]))))) rfl ?_)
            |(refine gReg (i := 9) ?_;refine C_plain [(0,0),(1,2),(2,2),(3,2)] (by kernel_rfl) (s := [⟨0,none,_,_,_⟩,⟨2,none,_,_,_⟩,⟨2,none,_,_,_⟩,⟨2,none,_,_,_⟩]) rfl ?_)
            |(refine gReg (i := 10) ?_;refine C_plain [(0,0),(1,2),(2,2),(3,2)] (by kernel_rfl) (s := [⟨0,none,_,_,_⟩,⟨2,none,_,_,_⟩,⟨2,none,_,_,_⟩,⟨2,none,_,_,_⟩]) rfl ?_)
            |(refine gReg (i := 11) ?_;refine C_plain [(0,0),(1,0),(2,2),(3,0),(4,0),(5,0),(6,0),(7,2),(8,2),(9,2),(10,2),(11,0)] (by kernel_rfl) (s := [⟨0,none,_,_,_⟩,⟨0,none,_,_,_⟩,⟨2,none,_,_,_⟩,⟨0,none,_,_,_⟩,⟨0,none,_,_,_⟩,⟨0,none,_,_,_⟩,⟨0,none,_,_,_⟩,⟨2,none,_,_,_⟩,⟨2,none,_,_,_⟩,⟨2,none,_,_,_⟩,⟨2,none,_,_,_⟩,⟨0,none,_,_,_⟩]) rfl ?_)
            |(refine gReg (i := 12) ?_;refine C_plain [(0,0),(1,0),(2,2),(3,0),(4,0),(5,0),(6,0),(7,2),(8,0),(9,0),(10,0),(11,0),(12,0),(13,0),(14,0)] (by kernel_rfl) (s := [⟨0,none,_,_,_⟩,⟨0,none,_,_,_⟩,⟨2,none,_,_,_⟩,⟨0,none,_,_,_⟩,⟨0,none,_,_,_⟩,⟨0,some (54,false),_,_,_⟩,⟨0,some (54,false),_,_,_⟩,⟨2,some (54,false),_,_,_⟩,⟨0,some (54,false),_,_,_⟩,⟨0,none,_,_,_⟩,⟨0,none,_,_,_⟩,⟨0,some (60,false),_,_,_⟩,⟨0,some (60,false),_,_,_⟩,⟨0,some (60,false),_,_,_⟩,⟨0,none,_,_,_⟩]) rfl ?_)
            |(refine gReg (i := 13) ?_;refine C_plain [(0,0)] (by kernel_rfl) (s := [⟨0,none,_,_,_⟩]) rfl ?_)
            |(refine gReg (i := 14) ?_;refine C_drawn [(0,0),(1,0),(2,1),(3,1),(4,0)] [] T.mixed (by kernel_rfl) (s := [⟨0,none,_,_,_⟩,⟨0,none,_,_,_⟩,⟨1,none,_,_,_⟩,⟨1,none,_,_,_⟩,⟨0,none,_,_,_⟩]) rfl ?_)
            |(refine gReg (i := 15) ?_;refine C_plain [(0,0)] (by kernel_rfl) (s := [⟨0,none,_,_,_⟩]) rfl ?_)
            |(refine gReg (i := 16) ?_;refine C_drawn [(0,0),(1,0),(2,1),(3,1),(4,0)] [] T.mixed (by kernel_rfl) (s := [⟨0,none,_,_,_⟩,⟨0,none,_,_,_⟩,⟨1,none,_,_,_⟩,⟨1,none,_,_,_⟩,⟨0,none,_,_,_⟩]) rfl ?_)
            |(refine gReg (i := 17) ?_;refine C_plain [(0,0)] (by kernel_rfl) (s := [⟨0,none,_,_,_⟩]) rfl ?_)
            |(refine gReg (i := 18) ?_;refine C_plain [(0,0)] (by kernel_rfl) (s := [⟨0,none,_,_,_⟩]) rfl ?_)
            |(refine gReg (i := 19) ?_;refine C_plain [(0,0),(1,0),(2,2),(3,0)] (by kernel_rfl) (s := [⟨0,none,_,_,_⟩,⟨0,none,_,_,_⟩,⟨2,none,_,_,_⟩,⟨0,none,_,_,_⟩]) rfl ?_)
            |(refine gReg (i := 20) ?_;refine C_plain [(0,0),(1,0),(2,2),(3,0)] (by kernel_rfl) (s := [⟨0,none,_,_,_⟩,⟨0,none,_,_,_⟩,⟨2,none,_,_,_⟩,⟨0,none,_,_,_⟩]) rfl ?_)
            |(refine gReg (i := 21) ?_;refine C_plain [(0,0),(1,0),(2,0),(3,0),(4,0),(5,2),(6,0),(7,0),(8,0),(9,0),(10,0),(11,2),(12,0),(13,0),(14,0),(15,0),(16,0),(17,0),(18,0)] (by kernel_rfl) (s := [⟨0,none,_,_,_⟩,⟨0,none,_,_,_⟩,⟨0,none,_,_,_⟩,⟨0,some (83,false),_,_,_⟩,⟨0,some (83,false),_,_,_⟩,⟨2,some (83,false),_,_,_⟩,⟨0,some (83,false),_,_,_⟩,⟨0,none,_,_,_⟩,⟨0,none,_,_,_⟩,⟨0,some (89,false),_,_,_⟩,⟨0,some (89,false),_,_,_⟩,⟨2,some (89,false),_,_,_⟩,⟨0,some (89,false),_,_,_⟩,⟨0,none,_,_,_⟩,⟨0,none,_,_,_⟩,⟨0,some (95,false),_,_,_⟩,⟨0,some (95,false),_,_,_⟩,⟨0,some (95,false),_,_,_⟩,⟨0,none,_,_,_⟩]) rfl ?_)
            |(refine gReg (i := 22) ?_;refine C_plain [(0,0)] (by kernel_rfl) (s := [⟨0,none,_,_,_⟩]) rfl ?_)
            |(refine gReg (i := 23) ?_;refine C_plain [(0,0)] (by kernel_rfl) (s := [⟨0,none,_,_,_⟩]) rfl ?_)
            |(refine gReg (i := 24) ?_;refine C_plain [(0,0),(1,0),(2,2),(3,0)] (by kernel_rfl) (s := [⟨0,none,_,_,_⟩,⟨0,none,_,_,_⟩,⟨2,none,_,_,_⟩,⟨0,none,_,_,_⟩]) rfl ?_)
            |(refine gReg (i := 25) ?_;refine C_plain [(0,0),(1,0),(2,2),(3,0)] (by kernel_rfl) (s := [⟨0,none,_,_,_⟩,⟨0,none,_,_,_⟩,⟨2,none,_,_,_⟩,⟨0,none,_,_,_⟩]) rfl ?_)
            |(refine gReg (i := 26) ?_;refine C_plain [(0,0)] (by kernel_rfl) (s := [⟨0,none,_,_,_⟩]) rfl ?_)
            |(refine gReg (i := 27) ?_;refine C_plain [(0,0),(1,0),(2,2),(3,0)] (by kernel_rfl) (s := [⟨0,none,_,_,_⟩,⟨0,none,_,_,_⟩,⟨2,none,_,_,_⟩,⟨0,none,_,_,_⟩]) rfl ?_)
            |(refine gReg (i := 28) ?_;refine C_plain [(0,0),(1,0)] (by kernel_rfl) (s := [⟨0,none,_,_,_⟩,⟨0,none,_,_,_⟩]) rfl ?_)
            |(refine gReg (i := 29) ?_;refine C_plain [(0,0)] (by kernel_rfl) (s := [⟨0,none,_,_,_⟩]) rfl ?_)
            |(refine gReg (i := 30) ?_;refine C_plain [(0,0),(1,0),(2,2),(3,0)] (by kernel_rfl) (s := [⟨0,none,_,_,_⟩,⟨0,none,_,_,_⟩,⟨2,none,_,_,_⟩,⟨0,none,_,_,_⟩]) rfl ?_)
            |(refine gReg (i := 31) ?_;refine C_plain [(0,0),(1,0)] (by kernel_rfl) (s := [⟨0,none,_,_,_⟩,⟨0,none,_,_,_⟩]) rfl ?_)
            |(refine gReg (i := 32) ?_;refine C_plain [(0,0)] (by kernel_rfl) (s := [⟨0,none,_,_,_⟩]) rfl ?_)
            |(refine gReg (i := 33) ?_;refine C_plain [(0,0),(1,0),(2,0)] (by kernel_rfl) (s := [⟨0,none,_,_,_⟩,⟨0,none,_,_,_⟩,⟨0,none,_,_,_⟩]) rfl ?_)
            |(refine gReg (i := 34) ?_;refine C_plain [(0,0)] (by kernel_rfl) (s := [⟨0,none,_,_,_⟩]) rfl ?_)
            |(refine gReg (i := 35) ?_;refine C_drawnT (.br [(0,0),(2,0)] (.br [(1,1)] (.br [(3,1)] (.br [(4,1),(5,0),(6,0),(7,0),(8,0)] (.fin [(9,1),(10,1),(11,2),(12,2),(13,0)]) (.fin [(10,1),(9,1),(11,2),(12,2),(13,0)])) (.br [] (.br [(9,1)] (.fin [(4,1),(5,0),(6,0),(7,0),(8,0),(10,1),(11,2),(12,2),(13,0)]) (.fin [(10,1),(4,1),(5,0),(6,0),(7,0),(8,0),(11,2),(12,2),(13,0)])) (.br [(10,1)] (.fin [(4,1),(5,0),(6,0),(7,0),(8,0),(9,1),(11,2),(12,2),(13,0)]) (.fin [(9,1),(4,1),(5,0),(6,0),(7,0),(8,0),(11,2),(12,2),(13,0)])))) (.br [] (.br [(9,1)] (.br [(3,1)] (.fin [(4,1),(5,0),(6,0),(7,0),(8,0),(10,1),(11,2),(12,2),(13,0)]) (.fin [(10,1),(4,1),(5,0),(6,0),(7,0),(8,0),(11,2),(12,2),(13,0)])) (.fin [(10,1),(3,1),(4,1),(5,0),(6,0),(7,0),(8,0),(11,2),(12,2),(13,0)])) (.br [(10,1)] (.br [(3,1)] (.fin [(4,1),(5,0),(6,0),(7,0),(8,0),(9,1),(11,2),(12,2),(13,0)]) (.fin [(9,1),(4,1),(5,0),(6,0),(7,0),(8,0),(11,2),(12,2),(13,0)])) (.fin [(9,1),(3,1),(4,1),(5,0),(6,0),(7,0),(8,0),(11,2),(12,2),(13,0)])))) (.br [] (.br [(9,1)] (.br [(1,1)] (.br [(3,1)] (.fin [(4,1),(5,0),(6,0),(7,0),(8,0),(10,1),(11,2),(12,2),(13,0)]) (.fin [(10,1),(4,1),(5,0),(6,0),(7,0),(8,0),(11,2),(12,2),(13,0)])) (.fin [(10,1),(3,1),(4,1),(5,0),(6,0),(7,0),(8,0),(11,2),(12,2),(13,0)])) (.fin [(10,1),(1,1),(3,1),(4,1),(5,0),(6,0),(7,0),(8,0),(11,2),(12,2),(13,0)])) (.br [(10,1)] (.br [(1,1)] (.br [(3,1)] (.fin [(4,1),(5,0),(6,0),(7,0),(8,0),(9,1),(11,2),(12,2),(13,0)]) (.fin [(9,1),(4,1),(5,0),(6,0),(7,0),(8,0),(11,2),(12,2),(13,0)])) (.fin [(9,1),(3,1),(4,1),(5,0),(6,0),(7,0),(8,0),(11,2),(12,2),(13,0)])) (.fin [(9,1),(1,1),(3,1),(4,1),(5,0),(6,0),(7,0),(8,0),(11,2),(12,2),(13,0)])))) [] T.mixed (by kernel_rfl) (s := (.br [⟨0,none,_,_,_⟩,⟨0,none,_,_,_⟩] (.br [⟨1,none,_,_,_⟩] (.br [⟨1,none,_,_,_⟩] (.br [⟨1,none,_,_,_⟩,⟨0,none,_,_,_⟩,⟨0,none,_,_,_⟩,⟨0,none,_,_,_⟩,⟨0,none,_,_,_⟩] (.fin [⟨1,none,_,_,_⟩,⟨1,none,_,_,_⟩,⟨2,none,_,_,_⟩,⟨2,none,_,_,_⟩,⟨0,none,_,_,_⟩]) (.fin [⟨1,none,_,_,_⟩,⟨1,none,_,_,_⟩,⟨2,none,_,_,_⟩,⟨2,none,_,_,_⟩,⟨0,none,_,_,_⟩])) (.br [] (.br [⟨1,none,_,_,_⟩] (.fin [⟨1,none,_,_,_⟩,⟨0,none,_,_,_⟩,⟨0,none,_,_,_⟩,⟨0,none,_,_,_⟩,⟨0,none,_,_,_⟩,⟨1,none,_,_,_⟩,⟨2,none,_,_,_⟩,⟨2,none,_,_,_⟩,⟨0,none,_,_,_⟩]) (.fin [⟨1,none,_,_,_⟩,⟨1,none,_,_,_⟩,⟨0,none,_,_,_⟩,⟨0,none,_,_,_⟩,⟨0,none,_,_,_⟩,⟨0,none,_,_,_⟩,⟨2,none,_,_,_⟩,⟨2,none,_,_,_⟩,⟨0,none,_,_,_⟩])) (.br [⟨1,none,_,_,_⟩] (.fin [⟨1,none,_,_,_⟩,⟨0,none,_,_,_⟩,⟨0,none,_,_,_⟩,⟨0,none,_,_,_⟩,⟨0,none,_,_,_⟩,⟨1,none,_,_,_⟩,⟨2,none,_,_,_⟩,⟨2,none,_,_,_⟩,⟨0,none,_,_,_⟩]) (.fin [⟨1,none,_,_,_⟩,⟨1,none,_,_,_⟩,⟨0,none,_,_,_⟩,⟨0,none,_,_,_⟩,⟨0,none,_,_,_⟩,⟨0,none,_,_,_⟩,⟨2,none,_,_,_⟩,⟨2,none,_,_,_⟩,⟨0,none,_,_,_⟩])))) (.br [] (.br [⟨1,none,_,_,_⟩] (.br [⟨1,none,_,_,_⟩] (.fin [⟨1,none,_,_,_⟩,⟨0,none,_,_,_⟩,⟨0,none,_,_,_⟩,⟨0,none,_,_,_⟩,⟨0,none,_,_,_⟩,⟨1,none,_,_,_⟩,⟨2,none,_,_,_⟩,⟨2,none,_,_,_⟩,⟨0,none,_,_,_⟩]) (.fin [⟨1,none,_,_,_⟩,⟨1,none,_,_,_⟩,⟨0,none,_,_,_⟩,⟨0,none,_,_,_⟩,⟨0,none,_,_,_⟩,⟨0,none,_,_,_⟩,⟨2,none,_,_,_⟩,⟨2,none,_,_,_⟩,⟨0,none,_,_,_⟩])) (.fin [⟨1,none,_,_,_⟩,⟨1,none,_,_,_⟩,⟨1,none,_,_,_⟩,⟨0,none,_,_,_⟩,⟨0,none,_,_,_⟩,⟨0,none,_,_,_⟩,⟨0,none,_,_,_⟩,⟨2,none,_,_,_⟩,⟨2,none,_,_,_⟩,⟨0,none,_,_,_⟩])) (.br [⟨1,none,_,_,_⟩] (.br [⟨1,none,_,_,_⟩] (.fin [⟨1,none,_,_,_⟩,⟨0,none,_,_,_⟩,⟨0,none,_,_,_⟩,⟨0,none,_,_,_⟩,⟨0,none,_,_,_⟩,⟨1,none,_,_,_⟩,⟨2,none,_,_,_⟩,⟨2,none,_,_,_⟩,⟨0,none,_,_,_⟩]) (.fin [⟨1,none,_,_,_⟩,⟨1,none,_,_,_⟩,⟨0,none,_,_,_⟩,⟨0,none,_,_,_⟩,⟨0,none,_,_,_⟩,⟨0,none,_,_,_⟩,⟨2,none,_,_,_⟩,⟨2,none,_,_,_⟩,⟨0,none,_,_,_⟩])) (.fin [⟨1,none,_,_,_⟩,⟨1,none,_,_,_⟩,⟨1,none,_,_,_⟩,⟨0,none,_,_,_⟩,⟨0,none,_,_,_⟩,⟨0,none,_,_,_⟩,⟨0,none,_,_,_⟩,⟨2,none,_,_,_⟩,⟨2,none,_,_,_⟩,⟨0,none,_,_,_⟩])))) (.br [] (.br [⟨1,none,_,_,_⟩] (.br [⟨1,none,_,_,_⟩] (.br [⟨1,none,_,_,_⟩] (.fin [⟨1,none,_,_,_⟩,⟨0,none,_,_,_⟩,⟨0,none,_,_,_⟩,⟨0,none,_,_,_⟩,⟨0,none,_,_,_⟩,⟨1,none,_,_,_⟩,⟨2,none,_,_,_⟩,⟨2,none,_,_,_⟩,⟨0,none,_,_,_⟩]) (.fin [⟨1,none,_,_,_⟩,⟨1,none,_,_,_⟩,⟨0,none,_,_,_⟩,⟨0,none,_,_,_⟩,⟨0,none,_,_,_⟩,⟨0,none,_,_,_⟩,⟨2,none,_,_,_⟩,⟨2,none,_,_,_⟩,⟨0,none,_,_,_⟩])) (.fin [⟨1,none,_,_,_⟩,⟨1,none,_,_,_⟩,⟨1,none,_,_,_⟩,⟨0,none,_,_,_⟩,⟨0,none,_,_,_⟩,⟨0,none,_,_,_⟩,⟨0,none,_,_,_⟩,⟨2,none,_,_,_⟩,⟨2,none,_,_,_⟩,⟨0,none,_,_,_⟩])) (.fin [⟨1,none,_,_,_⟩,⟨1,none,_,_,_⟩,⟨1,none,_,_,_⟩,⟨1,none,_,_,_⟩,⟨0,none,_,_,_⟩,⟨0,none,_,_,_⟩,⟨0,none,_,_,_⟩,⟨0,none,_,_,_⟩,⟨2,none,_,_,_⟩,⟨2,none,_,_,_⟩,⟨0,none,_,_,_⟩])) (.br [⟨1,none,_,_,_⟩] (.br [⟨1,none,_,_,_⟩] (.br [⟨1,none,_,_,_⟩] (.fin [⟨1,none,_,_,_⟩,⟨0,none,_,_,_⟩,⟨0,none,_,_,_⟩,⟨0,none,_,_,_⟩,⟨0,none,_,_,_⟩,⟨1,none,_,_,_⟩,⟨2,none,_,_,_⟩,⟨2,none,_,_,_⟩,⟨0,none,_,_,_⟩]) (.fin [⟨1,none,_,_,_⟩,⟨1,none,_,_,_⟩,⟨0,none,_,_,_⟩,⟨0,none,_,_,_⟩,⟨0,none,_,_,_⟩,⟨0,none,_,_,_⟩,⟨2,none,_,_,_⟩,⟨2,none,_,_,_⟩,⟨0,none,_,_,_⟩])) (.fin [⟨1,none,_,_,_⟩,⟨1,none,_,_,_⟩,⟨1,none,_,_,_⟩,⟨0,none,_,_,_⟩,⟨0,none,_,_,_⟩,⟨0,none,_,_,_⟩,⟨0,none,_,_,_⟩,⟨2,none,_,_,_⟩,⟨2,none,_,_,_⟩,⟨0,none,_,_,_⟩])) (.fin [⟨1,none,_,_,_⟩,⟨1,none,_,_,_⟩,⟨1,none,_,_,_⟩,⟨1,none,_,_,_⟩,⟨0,none,_,_,_⟩,⟨0,none,_,_,_⟩,⟨0,none,_,_,_⟩,⟨0,none,_,_,_⟩,⟨2,none,_,_,_⟩,⟨2,none,_,_,_⟩,⟨0,none,_,_,_⟩]))))) rfl ?_)
            |(refine gReg (i := 36) ?_;refine C_plain [(0,0),(1,0),(2,2),(3,0),(4,0),(5,0),(6,0),(7,2),(8,0),(9,0),(10,0),(11,0),(12,0),(13,0),(14,0)] (by kernel_rfl) (s := [⟨0,none,_,_,_⟩,⟨0,none,_,_,_⟩,⟨2,none,_,_,_⟩,⟨0,none,_,_,_⟩,⟨0,none,_,_,_⟩,⟨0,some (132,false),_,_,_⟩,⟨0,some (132,false),_,_,_⟩,⟨2,some (132,false),_,_,_⟩,⟨0,some (132,false),_,_,_⟩,⟨0,none,_,_,_⟩,⟨0,none,_,_,_⟩,⟨0,some (138,false),_,_,_⟩,⟨0,some (138,false),_,_,_⟩,⟨0,some (138,false),_,_,_⟩,⟨0,none,_,_,_⟩]) rfl ?_)
            |(refine gReg (i := 37) ?_;refine C_plain [(0,0)] (by kernel_rfl) (s := [⟨0,none,_,_,_⟩]) rfl ?_)
            |(refine gReg (i := 38) ?_;refine C_plain [(0,0)] (by kernel_rfl) (s := [⟨0,none,_,_,_⟩]) rfl ?_)
            |(refine gReg (i := 39) ?_;refine C_plain [(0,0),(1,0),(2,2),(3,0)] (by kernel_rfl) (s := [⟨0,none,_,_,_⟩,⟨0,none,_,_,_⟩,⟨2,none,_,_,_⟩,⟨0,none,_,_,_⟩]) rfl ?_)
            |(refine gReg (i := 40) ?_;refine C_plain [(0,0),(1,0)] (by kernel_rfl) (s := [⟨0,none,_,_,_⟩,⟨0,none,_,_,_⟩]) rfl ?_)
            |(refine gReg (i := 41) ?_;refine C_plain [(0,0)] (by kernel_rfl) (s := [⟨0,none,_,_,_⟩]) rfl ?_)
            |(refine gReg (i := 42) ?_;refine C_plain [(0,0),(1,0),(2,2),(3,0)] (by kernel_rfl) (s := [⟨0,none,_,_,_⟩,⟨0,none,_,_,_⟩,⟨2,none,_,_,_⟩,⟨0,none,_,_,_⟩]) rfl ?_)
            |(refine gReg (i := 43) ?_;refine C_plain [(0,0),(1,0)] (by kernel_rfl) (s := [⟨0,none,_,_,_⟩,⟨0,none,_,_,_⟩]) rfl ?_)
            |(refine gReg (i := 44) ?_;refine C_plain [(0,0)] (by kernel_rfl) (s := [⟨0,none,_,_,_⟩]) rfl ?_)
            |(refine gReg (i := 45) ?_;refine C_plain [(0,0),(1,0),(2,0)] (by kernel_rfl) (s := [⟨0,none,_,_,_⟩,⟨0,none,_,_,_⟩,⟨0,none,_,_,_⟩]) rfl ?_)
            |(refine gReg (i := 46) ?_;refine C_plain [(0,0)] (by kernel_rfl) (s := [⟨0,none,_,_,_⟩]) rfl ?_)
            |(refine gReg (i := 47) ?_;refine C_plain [(0,0)] (by kernel_rfl) (s := [⟨0,none,_,_,_⟩]) rfl ?_)))
        |(refine C_true rfl ?_)
        |(refine C_false rfl ?_)
        |(refine C_split rfl ?_ ?_ <;> (intro hb;(try simp only [decide_eq_true_eq] at hb);(try simp only [decide_eq_false_iff_not] at hb);(try simp only [Bool.not_eq_true'] at hb);(try simp only [Bool.not_eq_false'] at hb);(try (exfalso;first|contradiction|omega))))
        |(refine C_skip ?_)
        |(refine C_exit ?_)
        |(refine C_ret ?_)
        |(refine C_block ?_)
        |(refine T_fin ?_)
        |(refine T_br ?_)))
    |(refine gE ?_;(first
        |(refine E_then ?_)
        |(refine E_thenX ?_)
        |(refine E_thenR ?_)
        |(refine E_block ?_)
        |(refine E_blockY ?_)
        |(refine E_blockR ?_)
        |(refine E_calm ?_)
        |(refine E_blockX rfl ?_)
        |(apply E_ret1 rfl;(first|exact Res.tmp rfl|(apply R_cellAll rfl;(focus ((repeat (first|exact mH|refine mT ?_));done));(first|exact T.rw24|exact T.rw40|exact T.rw45|exact T.rw52))|(apply R_cell1 rfl;(focus ((repeat (first|exact mH|refine mT ?_));done));fail)))
        |(apply E_ret2 rfl;(first|exact Res.tmp rfl|(apply R_cellAll rfl;(focus ((repeat (first|exact mH|refine mT ?_));done));(first|exact T.rw24|exact T.rw40|exact T.rw45|exact T.rw52))|(apply R_cell1 rfl;(focus ((repeat (first|exact mH|refine mT ?_));done));fail));(first|exact Res.tmp rfl|(apply R_cellAll rfl;(focus ((repeat (first|exact mH|refine mT ?_));done));(first|exact T.rw24|exact T.rw40|exact T.rw45|exact T.rw52))|(apply R_cell1 rfl;(focus ((repeat (first|exact mH|refine mT ?_));done));fail)))
        |(apply E_ret3 rfl;(first|exact Res.tmp rfl|(apply R_cellAll rfl;(focus ((repeat (first|exact mH|refine mT ?_));done));(first|exact T.rw24|exact T.rw40|exact T.rw45|exact T.rw52))|(apply R_cell1 rfl;(focus ((repeat (first|exact mH|refine mT ?_));done));fail));(first|exact Res.tmp rfl|(apply R_cellAll rfl;(focus ((repeat (first|exact mH|refine mT ?_));done));(first|exact T.rw24|exact T.rw40|exact T.rw45|exact T.rw52))|(apply R_cell1 rfl;(focus ((repeat (first|exact mH|refine mT ?_));done));fail));(first|exact Res.tmp rfl|(apply R_cellAll rfl;(focus ((repeat (first|exact mH|refine mT ?_));done));(first|exact T.rw24|exact T.rw40|exact T.rw45|exact T.rw52))|(apply R_cell1 rfl;(focus ((repeat (first|exact mH|refine mT ?_));done));fail)))
        | (refine E_both ?_ ?_))))
  all_goals first | (exact retN rfl) | (refine retN ?_; simp_all; done) | (exfalso; simp_all; done)
set_option maxRecDepth 100000 in
theorem lifted (os : Os) (started : os.Started) (H : Type) (enc : TypeId × Value → H) :
    ReturnsInHanded {} Try.checked os 7 .any (Rows.fnExactFragTakeSpec.pre6 enc Try.prog Try.f7 Rows.fnExactFragTakeRow.domain false) (Rows.fnExactFragTakeSpec.post enc Try.prog Try.f7 false true false false) := by
  refine returnsInHanded_of_change (C := Try.checked) own started (by kernel_rfl) Try.func7
    (ChangeSpec.witness6 (enc := enc) (C := Try.checked) false ⟨#[], #[.agg #[.int .i64 0, .slice none 0 0], .agg #[.int .i64 0, .int .i64 0, .int .i64 0, .int .i64 0, .int .i64 0, .bool false, .int .i64 0, .bool false, .slice none 0 0]], []⟩ 8 (by kernel_rfl) (by kernel_rfl) (by kernel_rfl) (by kernel_rfl)) ?_
  intro W base args ds gs before hval0 hW hcnd _
  have hval : ∀ (j : Nat) t v, Try.f7.params[j]? = some t → args[j]? = some v → Value.okWide Try.prog W .any base t v := hval0
  have hW' := hW
  obtain ⟨p, q, hA0, hV, rfl, hfz, hnd⟩ := hW
  have hA : DataW.TrodAll enc Try.prog W 0 (fun _ => true) true Try.f7.params.toList args.toList ds p := hA0
  rw [Try.params7] at hA hval
  obtain ⟨v0, vs0, d0, ds0, p0, q0, hargs, rfl, rfl, h0, r0⟩ := trodAll_cons hA
  obtain ⟨v1, vs1, d1, ds1, p1, q1, rfl, rfl, rfl, h1, r1⟩ := trodAll_cons r0
  obtain ⟨rfl, rfl, rfl⟩ := trodAll_nil r1
  obtain rfl : args = #[v0, v1] := by cases args; simp_all
  obtain ⟨rfl, rfl⟩ := trodVars_none hV
  have k0 := h0
  have lt0 : ∀ x ∈ p0, x.block < W.heap.size := by obtain ⟨m, hm⟩ := k0; exact DataW.trod_lt m _ _ _ hm
  have k1 := h1
  have lt1 : ∀ x ∈ p1, x.block < W.heap.size := by obtain ⟨m, hm⟩ := k1; exact DataW.trod_lt m _ _ _ hm
  obtain ⟨y0, rfl, w0⟩ := par_FragBench (hval 0 40 v0 rfl rfl) h0
  obtain ⟨y1, rfl, w1⟩ := par_FragPacket (hval 1 52 v1 rfl rfl) h1
  clear hA0 hval0
  refine (walk W y0 w0 y1 w1).mono fun e W' ⟨he, bel⟩ => ?_
  subst he
  exact ⟨_, rfl, _, _, _, [], _, [], hW', trodAll_mk1 (shut_bool Try.underlying4 _), (trodAll_cons_mk (Below.trod laidOut (by kernel_rfl) (of_decide_eq_true (by kernel_rfl)) k0 bel lt0) (trodAll_cons_mk (Below.trod laidOut (by kernel_rfl) (of_decide_eq_true (by kernel_rfl)) k1 bel lt1) trodAll_mk0)), rfl, bel.frame _, fun h => by cases h⟩
theorem over : Rows.fnExactFragTakeRow.holds Try.pinned (OpenSpec.ofChange Rows.fnExactFragTakeSpec) :=
  OpenClaim.holds_of_wide 7 Try.f7 rfl rfl rfl rfl rfl rfl rfl ⟨rfl, rfl, rfl, rfl, rfl⟩ rfl rfl rfl rfl rfl (by kernel_rfl) Try.func7 (by kernel_rfl)
    (of_decide_eq_true (by kernel_rfl)) (by unfold Func.isWrapper; rw [if_neg (of_decide_eq_false (by kernel_rfl))]; exact ⟨rfl, rfl⟩)
    (fun os started H enc _ => lifted os started H enc)
theorem proved : Rows.FnExactFragTakeSaid := over
#print axioms proved
end Go.Proofs.Ytodhjpnfokkfeaa.fnExactFragTake

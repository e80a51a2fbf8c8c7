/- The law FnFragForget: behind six ticks a drawn bench has forgotten all that waited, unless its time is over ahead of that. No condition. -/
import Derived.Test.YtodhjpnfokkfeaaFragat
import Derived.Test.YtodhjpnfokkfeaaOpens
set_option linter.unusedSimpArgs false
set_option linter.unusedVariables false
namespace Go.Proofs.Ytodhjpnfokkfeaa.fnFragForget
open Go Go.ChangeShapes Go.WideShapes Go.ChangeAt Go.RowKit
attribute [local irreducible] Calls GoS GoC GoE GoT Mid IsEq IsFl IsSc IsRw IsSl IsEl IsSt IsFs sp Mem Rd LenOf szR joinC alikeC likeC takeC
theorem smallC_short {y : MFragBench} (h : SmallC (ctFragBench y)) : y.2.2.length ≤ 1048576 ∧ Short y.2.2 := by
  have h1 : (y.2.2.map ctFragSlot).length ≤ 10 := h.2.2.1
  rw [List.length_map] at h1
  refine ⟨by omega, short_ct fun c hc => ?_⟩
  have h2 := h.2.2.2 c hc
  exact ⟨by omega, fun q hq => Nat.le_trans (h2.2 q hq).len (by decide)⟩
theorem tick_smallC {b c : CFragBench} {k : Int} (h : TickR b c k) (hs : SmallC b) : SmallC c := by
  rcases h with ⟨_, rfl, _⟩ | ⟨_, _, rfl, _⟩ | ⟨hg, h2, rfl, _⟩
  · exact ⟨by decide, by decide, by decide, fun s hs => by cases hs⟩
  · exact hs
  · have hn := good_now hg
    refine ⟨by dsimp only; omega, by dsimp only; omega, Nat.le_trans (List.length_filter_le _ _) hs.2.2.1, fun s h => hs.2.2.2 s (List.mem_filter.1 h).1⟩
theorem boolX {f : Nat} {args : Array Value} {w : World} {G : Prop} {b : Bool} (hb : b = true ↔ G) (h : Calls Try.prog f args w (RetX (fun r : Bool => r = true ↔ G) (fun r => .bool r) (fun _ => []) w)) : Calls Try.prog f args w (RetN (.bool b) w) := by
  refine h.mono ?_
  rintro e w' ⟨r, h1, h2, h3, _⟩
  have h4 : r = b := Bool.eq_iff_iff.2 (h1.trans hb.symm)
  exact ⟨by rw [h2, h4], h3⟩
theorem implOk_c (b : MFragBench) (hs : SmallC (ctFragBench b)) {g : Bool} (hg : g = true ↔ BenchGood (ctFragBench b)) (w : World) (hx : Rds w (rwFragBench b)) : Calls Try.prog 26 #[.agg (clFragBench b).toArray] w (RetN (.bool g) w) := boolX hg (implFragBenchOk_c b (smallC_short hs).1 (smallC_short hs).2 w hx)
theorem specOk_c (b : MFragBench) (hs : SmallC (ctFragBench b)) {g : Bool} (hg : g = true ↔ BenchGood (ctFragBench b)) (w : World) (hx : Rds w (rwFragBench b)) : Calls Try.prog 24 #[.agg (clFragBench b).toArray] w (RetN (.bool g) w) := boolX hg (specFragBenchOk_c b (smallC_short hs).1 (smallC_short hs).2 w hx)
theorem wfB_l (x y : MFragBench) (h : ctFragBench x = ctFragBench y) (w : World) (hx : Rds w (rwFragBench x)) (hy : Rds w (rwFragBench y)) : Calls Try.prog 40 #[.agg (clFragBench x).toArray, .agg (clFragBench y).toArray] w (RetN (.bool true) w) := by
  have h1 := wfBench_c x y w hx hy
  rwa [decide_eq_true h] at h1
theorem rds_zero {w : World} : Rds w (rwFragBench (0, .slice none 0 0, [])) := Rds.cons (mem_nil w 3) Rds.nil
theorem tick_bad {b c : CFragBench} {k : Int} (h : TickR b c k) (hg : ¬ BenchGood b) : c = (0, []) ∧ k = 1 := by
  rcases h with ⟨_, h1, h2⟩ | ⟨h1, _⟩ | ⟨h1, _⟩
  · exact ⟨h1, h2⟩
  · exact absurd h1 hg
  · exact absurd h1 hg
theorem good_dec (b : CFragBench) : ∃ g : Bool, g = true ↔ BenchGood b := by
  rcases Classical.em (BenchGood b) with h | h
  · exact ⟨true, by simp [h]⟩
  · exact ⟨false, by simp [h]⟩
theorem take_code {n c : Int} {p q : CFragPacket} {b : CFragBench} (hg : BenchGood (n, [])) (h : takeC n [] p = (b, q, c)) : (fragOk p = false ∧ c = 2) ∨ (fragOk p = true ∧ p.2.2.2.2.2.2.1 = 0 ∧ p.2.2.2.2.2.2.2.1 = false ∧ c = 0) ∨ (fragOk p = true ∧ c = 3) := by
  have h1 := take_empty (p := p) hg
  rw [h] at h1
  exact h1
theorem octB_nil {n : Int} : octB (n, []) := fun s hs => by cases hs
theorem dat_len {c : CFragPacket} (h : DatOk c) : c.2.2.2.2.2.2.2.2.length ≤ 1048576 := Nat.le_trans h.1 (by decide)
theorem dat_oct {c : CFragPacket} (h : DatOk c) : octP c := h.2
theorem bin_left {y : MFragBench} {base : List Row} (h : BinB y base) : BinB y (base ++ []) := fun r hr => List.mem_append_left _ (h r hr)
theorem bin_right (y : MFragBench) (base : List Row) : BinB y (base ++ rwFragBench y) := fun r hr => List.mem_append_right _ hr
theorem fok_l {p : MFragPacket} {f : Bool} (h : fragOk (ctFragPacket p) = f) (hl : p.2.2.2.2.2.2.2.2.2.length ≤ 1048576) (w : World) (hx : Rds w (rwFragPacket p)) : Calls Try.prog 22 #[.agg (clFragPacket p).toArray] w (RetN (.bool f) w) := by
  have h1 := specFragOk_c p hl w hx
  rwa [h] at h1
attribute [local irreducible] BenchGood SmallC TickR BinB DatOk octP octB Short
set_option maxRecDepth 16384 in
set_option maxHeartbeats 2000000 in
theorem walk (w : World) (x : MSuint8) (hx : okSuint8 w x) : Calls Try.prog 8 #[x.1] w (RetN (.bool true) w) := by
  obtain ⟨v, lc⟩ := x
  obtain ⟨hm, hby⟩ := hx
  dsimp only at *
  have hlen := hm.len
  simp only [maxLen] at hlen
  refine enter (n := 119) (E := [(0, _)]) Try.func8 rfl rfl rfl rfl ?_
  repeat' (first
    |(refine gS ?_;(first
        |(refine gGuard ?_;(first
            |(refine S_on rfl ?_)
            |(refine S_off rfl rfl rfl ?_)
            |(refine S_gsplit rfl ?_ ?_ <;> (intro hb;(try simp only [decide_eq_true_eq] at hb);(try simp only [decide_eq_false_iff_not] at hb);(try simp only [Bool.not_eq_true'] at hb);(try simp only [Bool.not_eq_false'] at hb);(try (exfalso;first|contradiction|omega))))))
        |(refine S_move rfl rfl ?_)
        |(refine S_assign rfl rfl ?_)
        |(refine gLoad ?_;(first
            |(apply F_loadAll rfl rfl;(focus ((repeat (first|exact mH|refine mT ?_));done));(first|exact T.rw24|exact T.rw45);(focus (first|exact free0|exact free1)))))
        |(refine gStore ?_;(first
            |(apply F_storeN rfl rfl;(focus (first|rfl|assumption|(simp only [List.append_nil,List.all_cons,List.all_nil,Bool.and_true,Bool.true_and,one_int,one_bool,one_string,one_slice,one_pointer, *];done)));(first|exact T.rw24|exact T.rw45);(focus ((repeat (first|exact Upd.here|apply Upd.there));done));(focus ((repeat (first|exact SetSeg.nil|apply SetSeg.here|apply SetSeg.there));done));(first|exact okst2|exact okst1|exact okst1'))))
        |(refine gCall ?_;(first
            |(show GoS _ _ _ _ _ _ _ (⟨_,_,_,.call ⟨.value (.func 39),_,_⟩,_⟩ :: _);refine S_callX (f := 39) rfl T.pf39 rfl (fun w hst => drawFragTake_c v lc w (Mem.given hst hm) hby) rfl (fun zz hzz => ?_);simp only [List.cons_append,List.nil_append];revert hzz;revert zz;rintro ⟨b,pk,base⟩ ⟨hb1,hb2,hb3,hb4⟩;dsimp only at hb1 hb2 hb3 hb4 ⊢;(obtain ⟨g,hg⟩ := good_dec (ctFragBench b));refine S_fact (fun w hs => oneFragBench (rds_bin hb3 (Rds.many (l := base) hs (by (focus ((repeat (first|exact mH|refine mT ?_));done)))))) (fun hone2 => ?_);refine S_fact (fun w hs => oneFragPacket (fun r hr => Rds.many (l := base) hs (by (focus ((repeat (first|exact mH|refine mT ?_));done))) r (hb4 r hr))) (fun hone3 => ?_))
            |(show GoS _ _ _ _ _ _ _ (⟨_,_,_,.call ⟨.value (.func 26),_,_⟩,_⟩ :: _);refine S_callN (f := 26) rfl T.pf26 rfl (fun w hst => implOk_c b hb1 hg w (rds_bin hb3 (Rds.many hst (by (focus ((repeat (first|exact mH|refine mT ?_));done)))))) rfl ?_)
            |(show GoS _ _ _ _ _ _ _ (⟨_,_,_,.call ⟨.value (.func 24),_,_⟩,_⟩ :: _);refine S_callN (f := 24) rfl T.pf24 rfl (fun w hst => specOk_c b hb1 hg w (rds_bin hb3 (Rds.many hst (by (focus ((repeat (first|exact mH|refine mT ?_));done)))))) rfl ?_)
            |(show GoS _ _ _ _ _ _ _ (⟨_,_,_,.call ⟨.value (.func 29),_,_⟩,_⟩ :: _);refine S_callX (f := 29) rfl T.pf29 rfl (fun w hst => implFragTick_c b (smallC_short hb1).1 (smallC_short hb1).2 w (rds_bin hb3 (Rds.many hst (by (focus ((repeat (first|exact mH|refine mT ?_));done)))))) rfl (fun zz hzz => ?_);simp only [List.cons_append,List.nil_append];revert hzz;revert zz;rintro ⟨y,k⟩ hy;dsimp only at hy ⊢;refine S_fact (fun w hs => oneFragBench (Rds.many hs (by (focus ((repeat (first|exact mH|refine mT ?_));done))))) (fun hone => ?_);have hbad : g = false → ctFragBench y = (0,[]) ∧ k = 1 := (fun h => tick_bad hy (fun h2 => by rw [hg.2 h2] at h;cases h)))
            |(show GoS _ _ _ _ _ _ _ (⟨_,_,_,.call ⟨.value (.func 40),_,_⟩,_⟩ :: _);refine S_callN (f := 40) rfl T.pf40 rfl (fun w hst => wfB_l y (0,.slice none 0 0,[]) (hbad (by assumption)).1 w (by first|(refine Rds.given hst ?_;assumption)|(apply Rds.many hst;(focus ((repeat (first|exact mH|refine mT ?_));done)))|(apply Rds.row hst;(focus ((repeat (first|exact mH|refine mT ?_));done)))) rds_zero) rfl ?_)
            |(apply F_len rfl rfl rfl;(focus exact ⟨_,_,by (first|exact T.sl22|exact T.sl43)⟩);(focus (first|exact len_nil|(apply len_given;assumption)|(apply len_row;(focus ((repeat (first|exact mH|refine mT ?_));done)))|(apply len_isN;assumption))))))
        |(refine gBin ?_;(first
            |(refine S_gtr rfl rfl rfl ?_)
            |(refine S_eql rfl rfl rfl ?_)
            |(refine S_neqB Try.underlying4 rfl rfl rfl ?_)))
        |(refine gPick ?_;(first
            |(refine S_pickT rfl rfl rfl ?_)
            |(refine S_pickF rfl rfl rfl ?_)))
        |(apply S_alloc rfl (hd := rfl);(first|exact T.zc24|exact T.zc45);intro kb)
        |(apply F_build2 rfl (hd := rfl);(first|exact T.st24|exact T.st45);(focus ((repeat (first|exact BuildR.nil|(apply BuildR.cons;(first|exact T.fs24_0|exact T.fs24_1|exact T.fs24_2|exact T.fs24_3|exact T.fs24_4|exact T.fs24_5|exact T.fs24_6|exact T.fs24_7|exact T.fs24_8|exact T.fs45_0|exact T.fs45_1);rfl;rfl;(focus ((repeat (first|exact SetSeg.nil|apply SetSeg.here|apply SetSeg.there));done)))|(apply BuildR.cons1;(first|exact T.fs24_0|exact T.fs24_1|exact T.fs24_2|exact T.fs24_3|exact T.fs24_4|exact T.fs24_5|exact T.fs24_6|exact T.fs24_7|exact T.fs24_8|exact T.fs45_0|exact T.fs45_1);(focus assumption);(focus ((repeat (first|exact SetSeg.nil|apply SetSeg.here|apply SetSeg.there));done)))));done)))
        |(refine S_not rfl rfl ?_)
        |(refine S_extract rfl rfl rfl ?_)
        |(refine S_done ?_)))
    |(refine gC ?_;(first
        |(refine C_seq ?_)
        |(refine gReg ?_;(first
            |(refine gReg (i := 0) ?_;refine C_plain [(0,0)] (by kernel_rfl) (s := [⟨0,none,_,_,_⟩]) rfl ?_)
            |(refine gReg (i := 1) ?_;refine C_plain [(0,0),(1,0),(2,0)] (by kernel_rfl) (s := [⟨0,none,_,_,_⟩,⟨0,none,_,_,_⟩,⟨0,none,_,_,_⟩]) rfl ?_)
            |(refine gReg (i := 2) ?_;refine C_plain [(0,0)] (by kernel_rfl) (s := [⟨0,none,_,_,_⟩]) rfl ?_)
            |(refine gReg (i := 3) ?_;refine C_plain [(0,0),(1,2),(2,0),(3,0),(4,0),(5,2),(6,2),(7,2),(8,2)] (by kernel_rfl) (s := [⟨0,none,_,_,_⟩,⟨2,none,_,_,_⟩,⟨0,none,_,_,_⟩,⟨0,none,_,_,_⟩,⟨0,none,_,_,_⟩,⟨2,none,_,_,_⟩,⟨2,none,_,_,_⟩,⟨2,none,_,_,_⟩,⟨2,none,_,_,_⟩]) rfl ?_)
            |(refine gReg (i := 4) ?_;refine C_drawn [(0,0),(2,0),(1,1),(3,1),(4,0)] [] T.mixed (by kernel_rfl) (s := [⟨0,none,_,_,_⟩,⟨0,none,_,_,_⟩,⟨1,none,_,_,_⟩,⟨1,none,_,_,_⟩,⟨0,none,_,_,_⟩]) rfl ?_)
            |(refine gReg (i := 5) ?_;refine C_plain [(0,0)] (by kernel_rfl) (s := [⟨0,none,_,_,_⟩]) rfl ?_)
            |(refine gReg (i := 6) ?_;refine C_plain [(0,0),(1,2),(2,0),(3,0),(4,0),(5,2),(6,2),(7,0)] (by kernel_rfl) (s := [⟨0,none,_,_,_⟩,⟨2,none,_,_,_⟩,⟨0,none,_,_,_⟩,⟨0,none,_,_,_⟩,⟨0,none,_,_,_⟩,⟨2,none,_,_,_⟩,⟨2,none,_,_,_⟩,⟨0,none,_,_,_⟩]) rfl ?_)
            |(refine gReg (i := 7) ?_;refine C_plain [(0,0),(1,2),(2,0)] (by kernel_rfl) (s := [⟨0,none,_,_,_⟩,⟨2,none,_,_,_⟩,⟨0,none,_,_,_⟩]) rfl ?_)
            |(refine gReg (i := 8) ?_;refine C_plain [(0,0),(1,0),(2,0),(3,0),(4,0),(5,2),(6,0),(7,0)] (by kernel_rfl) (s := [⟨0,none,_,_,_⟩,⟨0,none,_,_,_⟩,⟨0,none,_,_,_⟩,⟨0,some (38,true),_,_,_⟩,⟨0,some (38,true),_,_,_⟩,⟨2,some (38,true),_,_,_⟩,⟨0,none,_,_,_⟩,⟨0,none,_,_,_⟩]) rfl ?_)))
        |(refine C_split rfl ?_ ?_ <;> (intro hb;(try simp only [decide_eq_true_eq] at hb);(try simp only [decide_eq_false_iff_not] at hb);(try simp only [Bool.not_eq_true'] at hb);(try simp only [Bool.not_eq_false'] at hb);(try (exfalso;first|contradiction|omega))))
        |(refine C_skip ?_)
        |(refine C_ret ?_)))
    |(refine gE ?_;(first
        |(refine E_then ?_)
        |(refine E_thenR ?_)
        |(refine E_calm ?_)
        |(apply E_ret1 rfl;(first|exact Res.tmp rfl|(apply R_cellAll rfl;(focus ((repeat (first|exact mH|refine mT ?_));done));(first|exact T.rw24|exact T.rw45))|(apply R_cell1 rfl;(focus ((repeat (first|exact mH|refine mT ?_));done));(first|exact T.sc3|exact T.sc4|exact T.sc43)))))))
  · exact retN rfl
  · exfalso; simp at hb
  · exact retN rfl
  · exact absurd (hbad (by assumption)).2 hb
  rename_i k3 k4 hgg
  have hgood : BenchGood (ctFragBench b) := hg.1 hb
  have hpl := dat_len hb2
  have hpo := dat_oct hb2
  refine C_ent [.many (base ++ []),.blk kb 45 (clFragBench y),.blk k4 24 (clFragPacket pk),.blk k3 45 (clFragBench b)] entA ?_
  refine C_forget (E' := [(5, .pointer (some ⟨kb, 0, none⟩)), (4, .pointer (some ⟨k4, 0, none⟩)), (3, .pointer (some ⟨k3, 0, none⟩))]) ⟨rfl, rfl, rfl, trivial⟩ (List.Sublist.refl _) ?_
  clear hbad hy hone hb hgg hg
  repeat' (first
    |(refine gS ?_;(first
        |(refine S_assign rfl rfl ?_)
        |(refine gLoad ?_;(first
            |(apply F_loadAll rfl rfl;(focus ((repeat (first|exact mH|refine mT ?_));done));(first|exact T.rw24|exact T.rw45);(focus (first|exact free0|exact free1)))))
        |(refine gStore ?_;(first
            |(apply F_storeN rfl rfl;(focus (first|rfl|assumption|(simp only [List.append_nil,List.all_cons,List.all_nil,Bool.and_true,Bool.true_and,one_int,one_bool,one_string,one_slice,one_pointer, *];done)));(first|exact T.rw24|exact T.rw45);(focus ((repeat (first|exact Upd.here|apply Upd.there));done));(focus ((repeat (first|exact SetSeg.nil|apply SetSeg.here|apply SetSeg.there));done));(first|exact okst2|exact okst1|exact okst1'))))
        |(refine S_done ?_)))
    |(refine gC ?_;(first
        |(refine C_seq ?_)
        |(refine gReg ?_;(first
            |(refine gReg (i := 9) ?_;refine C_plain [(0,0),(1,2)] (by kernel_rfl) (s := [⟨0,none,_,_,_⟩,⟨2,none,_,_,_⟩]) rfl ?_)
            |(refine gReg (i := 10) ?_;refine C_plain [(0,0)] (by kernel_rfl) (s := [⟨0,none,_,_,_⟩]) rfl ?_)))
        |(refine C_block ?_)))
    |(refine gE ?_;(first
        |(refine E_then ?_))))
  refine C_loop (α := Nat × MFragBench × List Row) (fun s => [(7, .int .i64 (s.1 : Int)), (5, .pointer (some ⟨kb, 0, none⟩)), (4, .pointer (some ⟨k4, 0, none⟩)), (3, .pointer (some ⟨k3, 0, none⟩))]) (fun s => [.many (base ++ s.2.2), .blk kb 45 (clFragBench s.2.1), .blk k4 24 (clFragPacket pk), .blk k3 45 (clFragBench b)]) (fun s => s.1 ≤ 6 ∧ Later (ctFragBench b) (ctFragBench s.2.1) s.1 ∧ BinB s.2.1 (base ++ s.2.2) ∧ SmallC (ctFragBench s.2.1)) (fun s => 6 - s.1) (0, b, []) ⟨Nat.zero_le _, Later.start hgood, bin_left hb3, hb1⟩ ⟨rfl, rfl, rfl, rfl, trivial⟩ (List.Sublist.refl _) ?_
  rintro ⟨i, x, bs⟩ ⟨hi, hl, hbx, hsx⟩
  dsimp only at hi hl hbx hsx ⊢
  have hsh := smallC_short hsx
  refine C_fact (fun w hs => oneFragBench (rds_bin hbx (Rds.many hs (by (focus ((repeat (first|exact mH|refine mT ?_));done)))))) (fun honex => ?_)
  repeat' (first
    |(refine gS ?_;(first
        |(refine gGuard ?_;(first
            |(refine S_on rfl ?_)
            |(refine S_gsplit rfl ?_ ?_ <;> (intro hb;(try simp only [decide_eq_true_eq] at hb);(try simp only [decide_eq_false_iff_not] at hb);(try simp only [Bool.not_eq_true'] at hb);(try simp only [Bool.not_eq_false'] at hb);(try (exfalso;first|contradiction|omega))))))
        |(refine S_move rfl rfl ?_)
        |(refine S_assign rfl rfl ?_)
        |(refine gLoad ?_;(first
            |(apply F_loadAll rfl rfl;(focus ((repeat (first|exact mH|refine mT ?_));done));(first|exact T.rw24|exact T.rw45);(focus (first|exact free0|exact free1)))))
        |(refine gStore ?_;(first
            |(apply F_storeN rfl rfl;(focus (first|rfl|assumption|(simp only [List.append_nil,List.all_cons,List.all_nil,Bool.and_true,Bool.true_and,one_int,one_bool,one_string,one_slice,one_pointer, *];done)));(first|exact T.rw24|exact T.rw45);(focus ((repeat (first|exact Upd.here|apply Upd.there));done));(focus ((repeat (first|exact SetSeg.nil|apply SetSeg.here|apply SetSeg.there));done));(first|exact okst2|exact okst1|exact okst1'))))
        |(refine gCall ?_;(first
            |(show GoS _ _ _ _ _ _ _ (⟨_,_,_,.call ⟨.value (.func 29),_,_⟩,_⟩ :: _);refine S_callX (f := 29) rfl T.pf29 rfl (fun w hst => implFragTick_c x hsh.1 hsh.2 w (rds_bin hbx (Rds.many hst (by (focus ((repeat (first|exact mH|refine mT ?_));done)))))) rfl (fun zz hzz => ?_);simp only [List.cons_append,List.nil_append];revert hzz;revert zz;rintro ⟨y,k1⟩ hy;dsimp only at hy ⊢;refine S_fact (fun w hs => oneFragBench (Rds.many hs (by (focus ((repeat (first|exact mH|refine mT ?_));done))))) (fun hone => ?_))
            |(show GoS _ _ _ _ _ _ _ (⟨_,_,_,.call ⟨.value (.func 28),_,_⟩,_⟩ :: _);refine S_callX (f := 28) rfl T.pf28 rfl (fun w hst => specFragTick_c x hsh.1 hsh.2 w (rds_bin hbx (Rds.many hst (by (focus ((repeat (first|exact mH|refine mT ?_));done)))))) rfl (fun zz hzz => ?_);simp only [List.cons_append,List.nil_append];revert hzz;revert zz;rintro ⟨z,k2⟩ hz;dsimp only at hz ⊢;refine S_fact (fun w hs => oneFragBench (Rds.many hs (by (focus ((repeat (first|exact mH|refine mT ?_));done))))) (fun hone => ?_);obtain ⟨hu1,hu2⟩ := hy.uniq hz;subst hu2)
            |(show GoS _ _ _ _ _ _ _ (⟨_,_,_,.call ⟨.value (.func 40),_,_⟩,_⟩ :: _);refine S_callN (f := 40) rfl T.pf40 rfl (fun w hst => wfB_l y z hu1 w (by first|(refine Rds.given hst ?_;assumption)|(apply Rds.many hst;(focus ((repeat (first|exact mH|refine mT ?_));done)))|(apply Rds.row hst;(focus ((repeat (first|exact mH|refine mT ?_));done)))) (by first|(refine Rds.given hst ?_;assumption)|(apply Rds.many hst;(focus ((repeat (first|exact mH|refine mT ?_));done)))|(apply Rds.row hst;(focus ((repeat (first|exact mH|refine mT ?_));done))))) rfl ?_)))
        |(refine gBin ?_;(first
            |(refine S_lss rfl rfl rfl ?_)
            |(refine S_neq rfl rfl rfl ?_)
            |(refine S_add rfl rfl ?_ rfl ?_;(focus (unfold rng;omega)))))
        |(refine gPick ?_;(first
            |(refine S_pickF rfl rfl rfl ?_)))
        |(apply S_alloc rfl (hd := rfl);(first|exact T.zc24|exact T.zc45);intro kb)
        |(refine S_not rfl rfl ?_)
        |(refine S_extract rfl rfl rfl ?_)
        |(refine S_done ?_)))
    |(refine gC ?_;(first
        |(refine C_seq ?_)
        |(refine gReg ?_;(first
            |(refine gReg (i := 11) ?_;refine C_plain [(0,0),(1,0)] (by kernel_rfl) (s := [⟨0,none,_,_,_⟩,⟨0,none,_,_,_⟩]) rfl ?_)
            |(refine gReg (i := 13) ?_;refine C_plain [(0,0),(1,2),(2,0),(3,0),(4,0),(5,2),(6,2),(7,0)] (by kernel_rfl) (s := [⟨0,none,_,_,_⟩,⟨2,none,_,_,_⟩,⟨0,none,_,_,_⟩,⟨0,none,_,_,_⟩,⟨0,none,_,_,_⟩,⟨2,none,_,_,_⟩,⟨2,none,_,_,_⟩,⟨0,none,_,_,_⟩]) rfl ?_)
            |(refine gReg (i := 14) ?_;refine C_plain [(0,0),(1,2),(2,0),(3,0),(4,0),(5,2),(6,2),(7,0)] (by kernel_rfl) (s := [⟨0,none,_,_,_⟩,⟨2,none,_,_,_⟩,⟨0,none,_,_,_⟩,⟨0,none,_,_,_⟩,⟨0,none,_,_,_⟩,⟨2,none,_,_,_⟩,⟨2,none,_,_,_⟩,⟨0,none,_,_,_⟩]) rfl ?_)
            |(refine gReg (i := 15) ?_;refine C_plain [(0,0),(1,0),(2,0),(3,0),(4,0),(5,0),(6,2),(7,0),(8,0)] (by kernel_rfl) (s := [⟨0,none,_,_,_⟩,⟨0,none,_,_,_⟩,⟨0,none,_,_,_⟩,⟨0,none,_,_,_⟩,⟨0,some (61,false),_,_,_⟩,⟨0,some (61,false),_,_,_⟩,⟨2,some (61,false),_,_,_⟩,⟨0,some (61,false),_,_,_⟩,⟨0,none,_,_,_⟩]) rfl ?_)
            |(refine gReg (i := 17) ?_;refine C_plain [(0,0),(1,2)] (by kernel_rfl) (s := [⟨0,none,_,_,_⟩,⟨2,none,_,_,_⟩]) rfl ?_)
            |(refine gReg (i := 12) ?_;refine C_plain [(0,0),(1,0),(2,0)] (by kernel_rfl) (s := [⟨0,none,_,_,_⟩,⟨0,none,_,_,_⟩,⟨0,none,_,_,_⟩]) rfl ?_)))
        |(refine C_false rfl ?_)
        |(refine C_split rfl ?_ ?_ <;> (intro hb;(try simp only [decide_eq_true_eq] at hb);(try simp only [decide_eq_false_iff_not] at hb);(try simp only [Bool.not_eq_true'] at hb);(try simp only [Bool.not_eq_false'] at hb);(try (exfalso;first|contradiction|omega))))
        |(refine C_skip ?_)
        |(refine C_exit ?_)
        |(refine C_block ?_)))
    |(refine gE ?_;(first
        |(refine E_then ?_)
        |(refine E_thenX ?_)
        |(refine E_block ?_)
        |(refine E_blockY ?_))))
  · exact E_roundS (α := Nat × MFragBench × List Row) (i + 1,y,rwFragBench y) ⟨by dsimp only;omega,hl.step hy,bin_right y base,tick_smallC hy hsx⟩ (by dsimp only;omega) ⟨rfl,rfl,rfl,rfl,trivial⟩ entA
  have hi6 : i = 6 := by omega
  subst hi6
  obtain ⟨xn, xv, xl⟩ := x
  have hgx := hl.good
  have hbn : 0 ≤ b.1 ∧ b.1 ≤ 1000000 := ⟨(good_now hgood).1, (good_now hgood).2.1⟩
  rcases hl.six with ⟨h1, h2⟩ | ⟨h1, h2, h3⟩
  · have h4 : 1000000 < b.1 + 6 := h1
    have h5 : xn = 1000000 := h2
    repeat' (first
      |(refine gS ?_;(first
          |(refine S_assign rfl rfl ?_)
          |(apply F_field rfl rfl;(first|exact T.fl24_6|exact T.fl24_7|exact T.fl45_0|exact T.fl45_1))
          |(refine gLoad ?_;(first
              |(apply F_load1 rfl rfl;(focus ((repeat (first|exact mH|refine mT ?_));done));(first|exact T.sc3|exact T.sc4|exact T.sc43);rfl;(focus (first|exact free0|exact free1)))))
          |(refine gBin ?_;(first
              |(refine S_gtr rfl rfl rfl ?_)
              |(refine S_eql rfl rfl rfl ?_)
              |(refine S_add rfl rfl ?_ rfl ?_;(focus (unfold rng;omega)))))
          |(refine S_done ?_)))
      |(refine gC ?_;(first
          |(refine C_seq ?_)
          |(refine gReg ?_;(first
              |(refine gReg (i := 18) ?_;refine C_plain [(0,0),(1,0),(2,0),(3,0)] (by kernel_rfl) (s := [⟨0,none,_,_,_⟩,⟨0,none,_,_,_⟩,⟨0,none,_,_,_⟩,⟨0,none,_,_,_⟩]) rfl ?_)
              |(refine gReg (i := 19) ?_;refine C_plain [(0,0),(1,0),(2,0),(3,0)] (by kernel_rfl) (s := [⟨0,none,_,_,_⟩,⟨0,none,_,_,_⟩,⟨0,none,_,_,_⟩,⟨0,none,_,_,_⟩]) rfl ?_)))
          |(refine C_split rfl ?_ ?_ <;> (intro hb;(try simp only [decide_eq_true_eq] at hb);(try simp only [decide_eq_false_iff_not] at hb);(try simp only [Bool.not_eq_true'] at hb);(try simp only [Bool.not_eq_false'] at hb);(try (exfalso;first|contradiction|omega))))
          |(refine C_ret ?_)))
      |(refine gE ?_;(first
          |(refine E_then ?_)
          |(refine E_thenR ?_)
          |(apply E_ret1 rfl;(first|exact Res.tmp rfl|(apply R_cellAll rfl;(focus ((repeat (first|exact mH|refine mT ?_));done));(first|exact T.rw24|exact T.rw45))|(apply R_cell1 rfl;(focus ((repeat (first|exact mH|refine mT ?_));done));(first|exact T.sc3|exact T.sc4|exact T.sc43)))))))
    all_goals (refine retN ?_; first | rfl | (rw [decide_eq_true h5]))
  have h4 : b.1 + 6 ≤ 1000000 := h1
  have h5 : xn = b.1 + 6 := h2
  have hxl : xl = [] := List.map_eq_nil_iff.1 h3
  subst hxl
  have h0 : ([] : List MFragSlot).length = 0 := rfl
  refine C_fact (fun w hs => (isN_mem (Rds.head (rds_bin hbx (Rds.many hs (by (focus ((repeat (first|exact mH|refine mT ?_));done)))))) : IsN xv ([] : List MFragSlot).length)) (fun hisN => ?_)
  obtain ⟨⟨tb, tq, tc⟩, hT⟩ : ∃ r, takeC xn [] (ctFragPacket pk) = r := ⟨_, rfl⟩
  have hcc := take_code hgx hT
  clear hl h1 h2 h3
  rcases hcc with ⟨f1, rfl⟩ | ⟨f1, f2, f3, rfl⟩ | ⟨f1, rfl⟩
  all_goals
    repeat' (first
      |(refine gS ?_;(first
          |(refine gGuard ?_;(first
              |(refine S_on rfl ?_)
              |(refine S_off rfl rfl rfl ?_)
              |(refine S_offU rfl rfl ?_)
              |(refine S_gsplit rfl ?_ ?_ <;> (intro hb;(try simp only [decide_eq_true_eq] at hb);(try simp only [decide_eq_false_iff_not] at hb);(try simp only [Bool.not_eq_true'] at hb);(try simp only [Bool.not_eq_false'] at hb);(try (exfalso;first|contradiction|omega))))))
          |(refine S_move rfl rfl ?_)
          |(refine S_assign rfl rfl ?_)
          |(apply F_field rfl rfl;(first|exact T.fl24_6|exact T.fl24_7|exact T.fl45_0|exact T.fl45_1))
          |(refine gLoad ?_;(first
              |(apply F_load1 rfl rfl;(focus ((repeat (first|exact mH|refine mT ?_));done));(first|exact T.sc3|exact T.sc4|exact T.sc43);rfl;(focus (first|exact free0|exact free1)))
              |(apply F_loadAll rfl rfl;(focus ((repeat (first|exact mH|refine mT ?_));done));(first|exact T.rw24|exact T.rw45);(focus (first|exact free0|exact free1)))))
          |(refine gStore ?_;(first
              |(apply F_storeN rfl rfl;(focus (first|rfl|assumption|(simp only [List.append_nil,List.all_cons,List.all_nil,Bool.and_true,Bool.true_and,one_int,one_bool,one_string,one_slice,one_pointer, *];done)));(first|exact T.rw24|exact T.rw45);(focus ((repeat (first|exact Upd.here|apply Upd.there));done));(focus ((repeat (first|exact SetSeg.nil|apply SetSeg.here|apply SetSeg.there));done));(first|exact okst2|exact okst1|exact okst1'))))
          |(refine gCall ?_;(first
              |(show GoS _ _ _ _ _ _ _ (⟨_,_,_,.call ⟨.value (.func 35),_,_⟩,_⟩ :: _);refine S_callX (f := 35) rfl T.pf35 rfl (fun w hst => takeX_of hT (implFragTake_c (xn,xv,[]) pk hsh.1 hsh.2 hpl octB_nil hpo w (rds_bin hbx (Rds.many hst (by (focus ((repeat (first|exact mH|refine mT ?_));done))))) (fun r hr => Rds.many hst (by (focus ((repeat (first|exact mH|refine mT ?_));done))) r (List.mem_append_left _ (hb4 r hr))))) rfl (fun zz hzz => ?_);simp only [List.cons_append,List.nil_append];revert hzz;revert zz;rintro ⟨y2,q2⟩ ⟨hy2,hq2⟩;dsimp only at hy2 hq2 ⊢;refine S_fact (fun w hs => oneFragBench (Rds.many hs (by (focus ((repeat (first|exact mH|refine mT ?_));done))))) (fun hone => ?_);have hob1 := hone;refine S_fact (fun w hs => oneFragPacket (Rds.many hs (by (focus ((repeat (first|exact mH|refine mT ?_));done))))) (fun hone => ?_))
              |(show GoS _ _ _ _ _ _ _ (⟨_,_,_,.call ⟨.value (.func 22),_,_⟩,_⟩ :: _);refine S_callN (f := 22) rfl T.pf22 rfl (fun w hst => fok_l f1 hpl w (fun r hr => Rds.many hst (by (focus ((repeat (first|exact mH|refine mT ?_));done))) r (List.mem_append_left _ (hb4 r hr)))) rfl ?_)
              |(apply F_len rfl rfl rfl;(focus exact ⟨_,_,by (first|exact T.sl22|exact T.sl43)⟩);(focus (first|exact len_nil|(apply len_given;assumption)|(apply len_row;(focus ((repeat (first|exact mH|refine mT ?_));done)))|(apply len_isN;assumption))))))
          |(refine gBin ?_;(first
              |(refine S_gtr rfl rfl rfl ?_)
              |(refine S_eql rfl rfl rfl ?_)
              |(refine S_neq rfl rfl rfl ?_)
              |(refine S_add rfl rfl ?_ rfl ?_;(focus (unfold rng;omega)))))
          |(refine gPick ?_;(first
              |(refine S_pickT rfl rfl rfl ?_)
              |(refine S_pickF rfl rfl rfl ?_)))
          |(apply S_alloc rfl (hd := rfl);(first|exact T.zc24|exact T.zc45);intro kb)
          |(refine S_not rfl rfl ?_)
          |(refine S_extract rfl rfl rfl ?_)
          |(refine S_done ?_)))
      |(refine gC ?_;(first
          |(refine C_seq ?_)
          |(refine gReg ?_;(first
              |(refine gReg (i := 18) ?_;refine C_plain [(0,0),(1,0),(2,0),(3,0)] (by kernel_rfl) (s := [⟨0,none,_,_,_⟩,⟨0,none,_,_,_⟩,⟨0,none,_,_,_⟩,⟨0,none,_,_,_⟩]) rfl ?_)
              |(refine gReg (i := 20) ?_;refine C_plain [(0,0),(1,0),(2,0),(3,0),(4,0),(5,0),(6,0),(7,0),(8,0),(9,0),(10,0),(11,0)] (by kernel_rfl) (s := [⟨0,none,_,_,_⟩,⟨0,none,_,_,_⟩,⟨0,none,_,_,_⟩,⟨0,none,_,_,_⟩,⟨0,none,_,_,_⟩,⟨0,some (79,false),_,_,_⟩,⟨0,some (79,false),_,_,_⟩,⟨0,some (79,false),_,_,_⟩,⟨0,some (79,false),_,_,_⟩,⟨0,some (79,false),_,_,_⟩,⟨0,some (79,false),_,_,_⟩,⟨0,none,_,_,_⟩]) rfl ?_)
              |(refine gReg (i := 22) ?_;refine C_plain [(0,0),(1,0),(2,2),(3,0),(4,0),(5,0),(6,0),(7,2),(8,2),(9,2),(10,2),(11,0)] (by kernel_rfl) (s := [⟨0,none,_,_,_⟩,⟨0,none,_,_,_⟩,⟨2,none,_,_,_⟩,⟨0,none,_,_,_⟩,⟨0,none,_,_,_⟩,⟨0,none,_,_,_⟩,⟨0,none,_,_,_⟩,⟨2,none,_,_,_⟩,⟨2,none,_,_,_⟩,⟨2,none,_,_,_⟩,⟨2,none,_,_,_⟩,⟨0,none,_,_,_⟩]) rfl ?_)
              |(refine gReg (i := 23) ?_;refine C_plain [(0,0),(1,0),(2,0),(3,0),(4,2),(5,0),(6,0),(7,0),(8,0),(9,0),(10,0),(11,0),(12,0),(13,0),(14,0),(15,0),(16,0),(17,0),(18,0),(19,0),(20,0),(21,0),(22,0),(23,0),(24,0),(25,0)] (by kernel_rfl) (s := [⟨0,none,_,_,_⟩,⟨0,none,_,_,_⟩,⟨0,none,_,_,_⟩,⟨0,some (96,true),_,_,_⟩,⟨2,some (96,true),_,_,_⟩,⟨0,some (96,true),_,_,_⟩,⟨0,none,_,_,_⟩,⟨0,none,_,_,_⟩,⟨0,some (101,false),_,_,_⟩,⟨0,some (101,false),_,_,_⟩,⟨0,some (101,false),_,_,_⟩,⟨0,some (104,true),_,_,_⟩,⟨0,some (104,true),_,_,_⟩,⟨0,some (104,true),_,_,_⟩,⟨0,some (101,false),_,_,_⟩,⟨0,some (101,false),_,_,_⟩,⟨0,some (109,true),_,_,_⟩,⟨0,some (109,true),_,_,_⟩,⟨0,some (109,true),_,_,_⟩,⟨0,some (101,false),_,_,_⟩,⟨0,none,_,_,_⟩,⟨0,none,_,_,_⟩,⟨0,some (115,false),_,_,_⟩,⟨0,some (115,false),_,_,_⟩,⟨0,none,_,_,_⟩,⟨0,none,_,_,_⟩]) rfl ?_)))
          |(refine C_split rfl ?_ ?_ <;> (intro hb;(try simp only [decide_eq_true_eq] at hb);(try simp only [decide_eq_false_iff_not] at hb);(try simp only [Bool.not_eq_true'] at hb);(try simp only [Bool.not_eq_false'] at hb);(try (exfalso;first|contradiction|omega))))
          |(refine C_skip ?_)
          |(refine C_ret ?_)))
      |(refine gE ?_;(first
          |(refine E_then ?_)
          |(apply E_ret1 rfl;(first|exact Res.tmp rfl|(apply R_cellAll rfl;(focus ((repeat (first|exact mH|refine mT ?_));done));(first|exact T.rw24|exact T.rw45))|(apply R_cell1 rfl;(focus ((repeat (first|exact mH|refine mT ?_));done));(first|exact T.sc3|exact T.sc4|exact T.sc43)))))))
  all_goals first | (exact retN rfl) | (exfalso; have h8 := f3.symm.trans hb; cases h8; done) | (refine retN ?_; simp; done)
set_option maxRecDepth 100000 in
theorem lifted (os : Os) (started : os.Started) (H : Type) (enc : TypeId × Value → H) :
    ReturnsInHanded {} Try.checked os 8 .any (Rows.fnFragForgetSpec.pre6 enc Try.prog Try.f8 Rows.fnFragForgetRow.domain false) (Rows.fnFragForgetSpec.post enc Try.prog Try.f8 false true false false) := by
  refine returnsInHanded_of_change (C := Try.checked) own started (by kernel_rfl) Try.func8
    (ChangeSpec.witness6 (enc := enc) (C := Try.checked) false ⟨#[], #[.slice none 0 0], []⟩ 8 (by kernel_rfl) (by kernel_rfl) (by kernel_rfl) (by kernel_rfl)) ?_
  intro W base args ds gs before hval0 hW hcnd _
  have hval : ∀ (j : Nat) t v, Try.f8.params[j]? = some t → args[j]? = some v → Value.okWide Try.prog W .any base t v := hval0
  have hW' := hW
  obtain ⟨p, q, hA0, hV, rfl, hfz, hnd⟩ := hW
  have hA : DataW.TrodAll enc Try.prog W 0 (fun _ => true) true Try.f8.params.toList args.toList ds p := hA0
  rw [Try.params8] at hA hval
  obtain ⟨v0, vs0, d0, ds0, p0, q0, hargs, rfl, rfl, h0, r0⟩ := trodAll_cons hA
  obtain ⟨rfl, rfl, rfl⟩ := trodAll_nil r0
  obtain rfl : args = #[v0] := by cases args; simp_all
  obtain ⟨rfl, rfl⟩ := trodVars_none hV
  have k0 := h0
  have lt0 : ∀ x ∈ p0, x.block < W.heap.size := by obtain ⟨m, hm⟩ := k0; exact DataW.trod_lt m _ _ _ hm
  obtain ⟨y0, rfl, w0⟩ := par_Suint8 (hval 0 22 v0 rfl rfl) h0
  clear hA0 hval0
  refine (walk W y0 w0).mono fun e W' ⟨he, bel⟩ => ?_
  subst he
  exact ⟨_, rfl, _, _, _, [], _, [], hW', trodAll_mk1 (shut_bool Try.underlying4 _), (trodAll_cons_mk (Below.trod laidOut (by kernel_rfl) (of_decide_eq_true (by kernel_rfl)) k0 bel lt0) trodAll_mk0), rfl, bel.frame _, fun h => by cases h⟩
theorem over : Rows.fnFragForgetRow.holds Try.pinned (OpenSpec.ofChange Rows.fnFragForgetSpec) :=
  OpenClaim.holds_of_wide 8 Try.f8 rfl rfl rfl rfl rfl rfl rfl ⟨rfl, rfl, rfl, rfl, rfl⟩ rfl rfl rfl rfl rfl (by kernel_rfl) Try.func8 (by kernel_rfl)
    (of_decide_eq_true (by kernel_rfl)) (by unfold Func.isWrapper; rw [if_neg (of_decide_eq_false (by kernel_rfl))]; exact ⟨rfl, rfl⟩)
    (fun os started H enc _ => lifted os started H enc)
theorem proved : Rows.FnFragForgetSaid := over
#print axioms proved
end Go.Proofs.Ytodhjpnfokkfeaa.fnFragForget

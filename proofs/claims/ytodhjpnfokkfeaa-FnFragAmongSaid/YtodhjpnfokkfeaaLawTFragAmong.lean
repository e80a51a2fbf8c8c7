/- The law FnFragAmong: in whatever order the pieces of a drawn packet come among those of others, the packet is told when the last of them has come, and not ahead. No condition. -/
import Derived.Test.YtodhjpnfokkfeaaFragax
import Derived.Test.YtodhjpnfokkfeaaOpens
set_option linter.unusedSimpArgs false
set_option linter.unusedVariables false
namespace Go.Proofs.Ytodhjpnfokkfeaa.fnFragAmong
open Go Go.ChangeShapes Go.WideShapes Go.ChangeAt Go.RowKit
attribute [local irreducible] Calls GoS GoC GoE GoT Mid IsEq IsFl IsSc IsRw IsSl IsEl IsSt IsFs sp Mem Rd LenOf szR joinC alikeC likeC takeC cutC
theorem oct_small {c : CFragPacket} (h : Small c) : octP c := h.byte
theorem octB_small {c : CFragBench} (h : SmallB c) : octB c := fun s hs q hq => ((h.2.2.2 s hs).2 q hq).byte
/-- what a step does to the bench of the law -/
theorem step {P : CFragPacket} {m : Int} {l : List CFragSlot} {got : List CFragPacket} {e : CFragPacket} (h : CutIn P m) (hi : Inv P m l got) (he : e ∈ (cutC P m).1 ∨ Other e) : ∃ (c : List CFragSlot) (q : CFragPacket) (k : Int), takeC 0 l e = ((0, c), q, k) ∧
    ((k = 0 ∧ q.1 = 9 ∧ q = P ∧ e.2.2.2.2.2.1 = false ∧ e.1 = 9 ∧ (40 < got.length + 1 ∨ ((joinC got).2 ≠ 0 ∧ joinC (got ++ [e]) = (P, 0)))) ∨ (¬ (k = 0 ∧ q.1 = 9) ∧ e.1 = 9 ∧ Inv P m c (got ++ [e])) ∨ (¬ (k = 0 ∧ q.1 = 9) ∧ ¬ e.1 = 9 ∧ Inv P m c got)) := by
  obtain ⟨c, q, k, hT, hR⟩ := take_cases hi.good e
  refine ⟨c, q, k, hT, ?_⟩
  rcases he with he | he
  · have hf := cut_fine h he
    rcases among_cut h hi he hR with ⟨k0, hq, hw⟩ | ⟨k0, hinv⟩
    · exact .inl ⟨k0, by rw [hq]; exact h.src, hq, hf.2.2.2.2.2, hf.2.2.2.2.1, hw⟩
    · exact .inr (.inl ⟨fun hk => k0 hk.1, hf.2.2.2.2.1, hinv⟩)
  · have ho := among_other h hi he hR
    exact .inr (.inr ⟨ho.1, (not9 h he).2, ho.2⟩)
theorem small0 : SmallB (ctFragBench (0, .slice none 0 0, [])) := ⟨by show (-70000 : Int) ≤ 0; decide, by show (0 : Int) ≤ 2199023255552; decide, by show (0 : Nat) ≤ 4; decide, fun s hs => by cases hs⟩
attribute [local irreducible] SmallB octB octP Short
set_option maxRecDepth 16384 in
set_option maxHeartbeats 4000000 in
theorem walk (w : World) (x : MSuint8) (hx : okSuint8 w x) : Calls Try.prog 9 #[x.1] w (RetN (.bool true) w) := by
  obtain ⟨v, lc⟩ := x
  obtain ⟨hm, hby⟩ := hx
  dsimp only at *
  have hlen := hm.len
  simp only [maxLen] at hlen
  refine enter (n := 82) (E := [(0, _)]) Try.func9 rfl rfl rfl rfl ?_
  repeat' (first
    |(refine gS ?_;(first
        |(refine S_move rfl rfl ?_)
        |(refine S_assign rfl rfl ?_)
        |(apply F_bs0 rfl rfl;(first|exact T.el22|exact T.el27);rfl;intro sv;(try (refine S_fact (row_one (v := sv) (by (focus ((repeat (first|exact mH|refine mT ?_));done)))) (fun hone => ?_))))
        |(refine gStore ?_;(first
            |(apply F_storeN rfl rfl;(focus (first|rfl|assumption|(simp only [List.append_nil,List.all_cons,List.all_nil,Bool.and_true,Bool.true_and,one_int,one_bool,one_string,one_slice,one_pointer, *];done)));(first|exact T.rw24|exact T.rw45);(focus ((repeat (first|exact Upd.here|apply Upd.there));done));(focus ((repeat (first|exact SetSeg.nil|apply SetSeg.here|apply SetSeg.there));done));(first|exact okst2|exact okst1|exact okst1'))))
        |(refine gCall ?_;(first
            |(show GoS _ _ _ _ _ _ _ (⟨_,_,_,.call ⟨.value (.func 41),_,_⟩,_⟩ :: _);refine S_callX (f := 41) rfl T.pf41 rfl (fun w hst => drawFragAmong_c v lc w (Mem.given hst hm) hby) rfl (fun zz hzz => ?_);simp only [List.cons_append,List.nil_append];revert hzz;revert zz;rintro ⟨z,lv,ll,base⟩ ⟨⟨m,ham⟩,hzl,hin,hn⟩;dsimp only at ham hzl hin hn ⊢;refine S_fact (fun w hs => oneFragPacket (Rds.many hs (by (focus ((repeat (first|exact mH|refine mT ?_));done))))) (fun hone => ?_))
            |(apply F_len rfl rfl rfl;(focus exact ⟨_,_,by (first|exact T.sl22|exact T.sl27)⟩);(focus (first|exact len_nil|(apply len_given;assumption)|(apply len_row;(focus ((repeat (first|exact mH|refine mT ?_));done)))|(apply len_isN;assumption))))))
        |(refine gBin ?_;(first
            |(refine S_gtr rfl rfl rfl ?_)))
        |(apply S_alloc rfl (hd := rfl);(first|exact T.zc24|exact T.zc45);intro kb)
        |(apply F_build2 rfl (hd := rfl);(first|exact T.st24|exact T.st45);(focus ((repeat (first|exact BuildR.nil|(apply BuildR.cons;(first|exact T.fs24_0|exact T.fs24_1|exact T.fs24_2|exact T.fs24_3|exact T.fs24_4|exact T.fs24_5|exact T.fs24_6|exact T.fs24_7|exact T.fs24_8|exact T.fs45_0|exact T.fs45_1);rfl;rfl;(focus ((repeat (first|exact SetSeg.nil|apply SetSeg.here|apply SetSeg.there));done)))|(apply BuildR.cons1;(first|exact T.fs24_0|exact T.fs24_1|exact T.fs24_2|exact T.fs24_3|exact T.fs24_4|exact T.fs24_5|exact T.fs24_6|exact T.fs24_7|exact T.fs24_8|exact T.fs45_0|exact T.fs45_1);(focus assumption);(focus ((repeat (first|exact SetSeg.nil|apply SetSeg.here|apply SetSeg.there));done)))));done)))
        |(refine S_extract rfl rfl rfl ?_)
        |(refine S_done ?_)))
    |((first
        |(refine C_seq ?_)
        |(refine gReg ?_;(first
            |(refine gReg (i := 0) ?_;refine C_plain [(0,0)] (by kernel_rfl) (s := [⟨0,none,_,_,_⟩]) rfl ?_)
            |(refine gReg (i := 1) ?_;refine C_plain [(0,0),(1,0),(2,0)] (by kernel_rfl) (s := [⟨0,none,_,_,_⟩,⟨0,none,_,_,_⟩,⟨0,none,_,_,_⟩]) rfl ?_)
            |(refine gReg (i := 2) ?_;refine C_plain [(0,0)] (by kernel_rfl) (s := [⟨0,none,_,_,_⟩]) rfl ?_)
            |(refine gReg (i := 3) ?_;refine C_plain [(0,0),(1,2),(2,0),(3,0),(4,0),(5,2),(6,2),(7,0)] (by kernel_rfl) (s := [⟨0,none,_,_,_⟩,⟨2,none,_,_,_⟩,⟨0,none,_,_,_⟩,⟨0,none,_,_,_⟩,⟨0,none,_,_,_⟩,⟨2,none,_,_,_⟩,⟨2,none,_,_,_⟩,⟨0,none,_,_,_⟩]) rfl ?_)
            |(refine gReg (i := 4) ?_;refine C_plain [(0,0),(1,2),(2,2)] (by kernel_rfl) (s := [⟨0,none,_,_,_⟩,⟨2,none,_,_,_⟩,⟨2,none,_,_,_⟩]) rfl ?_)
            |(refine gReg (i := 5) ?_;refine C_plain [(0,2),(1,0)] (by kernel_rfl) (s := [⟨2,none,_,_,_⟩,⟨0,none,_,_,_⟩]) rfl ?_)
            |(refine gReg (i := 6) ?_;refine C_plain [(0,0)] (by kernel_rfl) (s := [⟨0,none,_,_,_⟩]) rfl ?_)))
        |(refine C_split rfl ?_ ?_ <;> (intro hb;(try simp only [decide_eq_true_eq] at hb);(try simp only [decide_eq_false_iff_not] at hb);(try simp only [Bool.not_eq_true'] at hb);(try simp only [Bool.not_eq_false'] at hb);(try (exfalso;first|contradiction|omega))))
        |(refine C_skip ?_)
        |(refine C_ret ?_)
        |(refine C_block ?_)))
    |(refine gE ?_;(first
        |(refine E_then ?_)
        |(refine E_thenR ?_)
        |(apply E_ret1 rfl;(first|exact Res.tmp rfl|(apply R_cellAll rfl;(focus ((repeat (first|exact mH|refine mT ?_));done));(first|exact T.rw24|exact T.rw45))|(apply R_cell1 rfl;(focus ((repeat (first|exact mH|refine mT ?_));done));(first|exact T.sc3|exact T.sc4)))))))
  · exact retN rfl
  rename_i k3
  have hz9 : z.1 = 9 := ham.cut.src
  refine C_ent [.blk kb 45 (clFragBench (0,.slice none 0 0,[])),.many (rwFragBench (0,.slice none 0 0,[])),.row sv 24 9 ([] : List MFragPacket).length (([] : List MFragPacket).flatMap clFragPacket),.row lv 24 9 ll.length (ll.flatMap clFragPacket),.many base,.blk k3 24 (clFragPacket z),.many (rwFragPacket z)] (Ent.trans (Ent.ghost 67 3) (by (focus (apply Ent.flat;(simp only [List.length_append,List.length_cons,List.length_nil,Nat.zero_add,flat_many,flat_row,flat_blk,flat_append,flat_nil,List.map_append,List.map_cons,List.map_nil,List.flatMap_append,List.flatMap_cons,List.flatMap_nil,List.append_assoc,List.append_nil,List.nil_append,List.cons_append,Row.blk_mk,rwSuint8,rwFragPacket,rwSFragPacket,rwFragSlot,rwSFragSlot,rwFragBench]);((repeat (first|exact Pull.nil|(apply Pull.app;(focus ((repeat (first|exact PickA.here|exact PickA.all|apply PickA.there|apply PickA.over));done)))|(apply Pull.cons;(focus ((repeat (first|exact Pick.here|exact Pick.last|apply Pick.there|apply Pick.over));done)))|(apply Pull.atom;(focus ((repeat (first|exact PickA.here|exact PickA.all|apply PickA.there|apply PickA.over));done)))));done))))) ?_
  refine C_loop (α := Nat × MFragBench × Value × List MFragPacket) (fun s => [(7, .int .i64 (s.1 : Int)), (6, s.2.2.1), (5, .pointer (some ⟨kb, 0, none⟩)), (4, lv), (3, .pointer (some ⟨k3, 0, none⟩))])
    (fun s => [.blk kb 45 (clFragBench s.2.1), .many (rwFragBench s.2.1), .row s.2.2.1 24 9 s.2.2.2.length (s.2.2.2.flatMap clFragPacket), .row lv 24 9 ll.length (ll.flatMap clFragPacket), .many base, .blk k3 24 (clFragPacket z), .many (rwFragPacket z)])
    (fun s => s.1 ≤ ll.length ∧ s.2.1.1 = 0 ∧ Inv (ctFragPacket z) m (s.2.1.2.2.map ctFragSlot) (s.2.2.2.map ctFragPacket) ∧ SmallB (ctFragBench s.2.1) ∧ (∀ y ∈ s.2.2.2, y ∈ ll) ∧ s.2.2.2.length ≤ s.1 ∧ (∀ j, j < s.1 → (ix ll j).1 = 9 → ctFragPacket (ix ll j) ∈ s.2.2.2.map ctFragPacket)) (fun s => ll.length - s.1) (0, (0, .slice none 0 0, []), sv, [])
    ⟨Nat.zero_le _, rfl, inv_start _ _, small0, fun y hy => (by cases hy), Nat.le_refl _, fun j hj => absurd hj (Nat.not_lt_zero _)⟩ ⟨rfl, rfl, rfl, rfl, rfl, trivial⟩ (List.Sublist.refl _) ?_
  rintro ⟨i, ⟨xn, xv, xl⟩, gv, gl⟩ ⟨h1, h2, h3, h4, h5, h6, h7⟩
  dsimp only at h1 h2 h3 h4 h5 h6 h7 ⊢
  subst h2
  rcases Nat.lt_or_ge i ll.length with hlt | hge
  · have hxe : ll[i]? = some (ix ll i) := nthD (by omega)
    have hmem : ix ll i ∈ ll := List.mem_of_getElem? hxe
    have hes := (ham.each _ hmem).2
    obtain ⟨c, q, k, hT, hcase⟩ := step ham.cut h3 (ham.each _ hmem).1
    have hsh := smallB_short h4
    have hob := octB_small h4
    have hop : octP (ctFragPacket (ix ll i)) := oct_small hes
    have hel := smallP_len hes
    have hgs : ∀ y ∈ gl, Small (ctFragPacket y) := fun y hy => (ham.each y (h5 y hy)).2
    have hsm : SmallB (0, c) := take_small hT h4 hes.wide
    refine C_fact (fun w hs => inB_one hs hin (by (focus ((repeat (first|exact mH|refine mT ?_));done)))) (fun holl => ?_)
    refine C_fact (fun w hs => oneFragBench (Rds.many (l := rwFragBench (0,xv,xl)) hs (by (focus ((repeat (first|exact mH|refine mT ?_));done))))) (fun honex => ?_)
    have hoe := holl _ hmem
    have hgn : gl.length ≤ 100 := by omega
    have hnext : ∀ y2 : MFragBench, ctFragBench y2 = (0, c) → y2.1 = 0 ∧ y2.2.2.map ctFragSlot = c ∧ SmallB (ctFragBench y2) := fun y2 h => ⟨congrArg (fun c : CFragBench => c.1) h, congrArg (fun c : CFragBench => c.2) h, by rw [h]; exact hsm⟩
    repeat' (first
      |(refine gS ?_;(first
          |(refine S_move rfl rfl ?_)
          |(refine S_assign rfl rfl ?_)
          |(apply F_idx rfl rfl rfl;(first|exact T.sl22|exact T.sl27);(focus rfl);(focus (first|exact len_nil|(apply len_given;assumption)|(apply len_row;(focus ((repeat (first|exact mH|refine mT ?_));done)))|(apply len_isN;assumption)));(focus omega))
          |(refine gLoad ?_;(first
              |(apply F_loadAll rfl rfl;(focus ((repeat (first|exact mH|refine mT ?_));done));(first|exact T.rw24|exact T.rw45);(focus (first|exact free0|exact free1)))
              |(apply F_loadSN rfl rfl;(first|exact T.rw24|exact T.rw45);(focus (first|exact rd_nil|(apply rd_given;(focus assumption);(focus (first|exact freeG0|exact freeG1)))|(apply rd_row;(focus ((repeat (first|exact mH|refine mT ?_));done));(focus (first|exact freeR0|exact freeR1)))));(focus (first|(focus (apply at_flat;(focus (intro _;rfl));(focus assumption)))|exact at_self));rfl;rfl)))
          |(refine gStore ?_;(first
              |(apply F_storeN rfl rfl;(focus (first|rfl|assumption|(simp only [List.append_nil,List.all_cons,List.all_nil,Bool.and_true,Bool.true_and,one_int,one_bool,one_string,one_slice,one_pointer, *];done)));(first|exact T.rw24|exact T.rw45);(focus ((repeat (first|exact Upd.here|apply Upd.there));done));(focus ((repeat (first|exact SetSeg.nil|apply SetSeg.here|apply SetSeg.there));done));(first|exact okst2|exact okst1|exact okst1'))))
          |(refine gCall ?_;(first
              |(show GoS _ _ _ _ _ _ _ (⟨_,_,_,.call ⟨.value (.func 35),_,_⟩,_⟩ :: _);refine S_callX (f := 35) rfl T.pf35 rfl (fun w hst => takeX_of hT (implFragTake_c (0,xv,xl) (ix ll i) hsh.1 hsh.2 hel hob hop w (by first|(refine Rds.given hst ?_;assumption)|(apply Rds.many hst;(focus ((repeat (first|exact mH|refine mT ?_));done)))|(apply Rds.row hst;(focus ((repeat (first|exact mH|refine mT ?_));done)))) (rds_inB hin hmem (Rds.many hst (by (focus ((repeat (first|exact mH|refine mT ?_));done))))))) rfl (fun zz hzz => ?_);simp only [List.cons_append,List.nil_append];revert hzz;revert zz;rintro ⟨y2,q2⟩ ⟨hy2,hq2⟩;dsimp only at hy2 hq2 ⊢;refine S_fact (fun w hs => oneFragBench (Rds.many hs (by (focus ((repeat (first|exact mH|refine mT ?_));done))))) (fun hone => ?_);have hob1 := hone;refine S_fact (fun w hs => oneFragPacket (Rds.many hs (by (focus ((repeat (first|exact mH|refine mT ?_));done))))) (fun hone => ?_))
              |(apply F_len rfl rfl rfl;(focus exact ⟨_,_,by (first|exact T.sl22|exact T.sl27)⟩);(focus (first|exact len_nil|(apply len_given;assumption)|(apply len_row;(focus ((repeat (first|exact mH|refine mT ?_));done)))|(apply len_isN;assumption))))))
          |(refine gBin ?_;(first
              |(refine S_lss rfl rfl rfl ?_)))
          |(apply S_alloc rfl (hd := rfl);(first|exact T.zc24|exact T.zc45);intro kb)
          |(refine S_extract rfl rfl rfl ?_)
          |(refine S_done ?_)))
      |((first
          |(refine gSeqReg (i := 9) ?_;refine C_join (α := MFragBench × MFragPacket × Nat × Nat) (fun s => [(10,.int .i64 k),(9,.pointer (some ⟨s.2.2.2,0,none⟩)),(8,.pointer (some ⟨s.2.2.1,0,none⟩)),(7,.int .i64 (i : Int)),(6,gv),(5,.pointer (some ⟨kb,0,none⟩)),(4,lv),(3,.pointer (some ⟨k3,0,none⟩))]) (fun s => [.blk s.2.2.1 45 (clFragBench s.1),.blk s.2.2.2 24 (clFragPacket s.2.1),.many (rwFragBench s.1),.many (rwFragPacket s.2.1),.blk kb 45 (clFragBench (0,xv,xl)),.row gv 24 9 gl.length (gl.flatMap clFragPacket),.row lv 24 9 ll.length (ll.flatMap clFragPacket),.many base,.blk k3 24 (clFragPacket z),.many (rwFragPacket z)]) (fun s => ctFragBench s.1 = (0,c) ∧ ctFragPacket s.2.1 = q) ?_ ?_)
          |(refine C_seq ?_)
          |(refine gReg ?_;(first
              |(refine gReg (i := 7) ?_;refine C_plain [(0,0),(1,0),(2,0),(3,0)] (by kernel_rfl) (s := [⟨0,none,_,_,_⟩,⟨0,none,_,_,_⟩,⟨0,none,_,_,_⟩,⟨0,none,_,_,_⟩]) rfl ?_)
              |(refine gReg (i := 9) ?_;refine C_drawnT (.br [(0,0),(1,0),(2,0),(3,0),(4,0)] (.br [(5,1),(6,0),(7,0),(8,0),(9,0)] (.fin [(10,1),(11,1),(12,2),(13,2),(14,0)]) (.fin [(11,1),(10,1),(12,2),(13,2),(14,0)])) (.br [] (.br [(10,1)] (.fin [(5,1),(6,0),(7,0),(8,0),(9,0),(11,1),(12,2),(13,2),(14,0)]) (.fin [(11,1),(5,1),(6,0),(7,0),(8,0),(9,0),(12,2),(13,2),(14,0)])) (.br [(11,1)] (.fin [(5,1),(6,0),(7,0),(8,0),(9,0),(10,1),(12,2),(13,2),(14,0)]) (.fin [(10,1),(5,1),(6,0),(7,0),(8,0),(9,0),(12,2),(13,2),(14,0)])))) [] T.mixed (by kernel_rfl) (s := (.br [⟨0,none,_,_,_⟩,⟨0,none,_,_,_⟩,⟨0,none,_,_,_⟩,⟨0,none,_,_,_⟩,⟨0,none,_,_,_⟩] (.br [⟨1,none,_,_,_⟩,⟨0,none,_,_,_⟩,⟨0,none,_,_,_⟩,⟨0,none,_,_,_⟩,⟨0,none,_,_,_⟩] (.fin [⟨1,none,_,_,_⟩,⟨1,none,_,_,_⟩,⟨2,none,_,_,_⟩,⟨2,none,_,_,_⟩,⟨0,none,_,_,_⟩]) (.fin [⟨1,none,_,_,_⟩,⟨1,none,_,_,_⟩,⟨2,none,_,_,_⟩,⟨2,none,_,_,_⟩,⟨0,none,_,_,_⟩])) (.br [] (.br [⟨1,none,_,_,_⟩] (.fin [⟨1,none,_,_,_⟩,⟨0,none,_,_,_⟩,⟨0,none,_,_,_⟩,⟨0,none,_,_,_⟩,⟨0,none,_,_,_⟩,⟨1,none,_,_,_⟩,⟨2,none,_,_,_⟩,⟨2,none,_,_,_⟩,⟨0,none,_,_,_⟩]) (.fin [⟨1,none,_,_,_⟩,⟨1,none,_,_,_⟩,⟨0,none,_,_,_⟩,⟨0,none,_,_,_⟩,⟨0,none,_,_,_⟩,⟨0,none,_,_,_⟩,⟨2,none,_,_,_⟩,⟨2,none,_,_,_⟩,⟨0,none,_,_,_⟩])) (.br [⟨1,none,_,_,_⟩] (.fin [⟨1,none,_,_,_⟩,⟨0,none,_,_,_⟩,⟨0,none,_,_,_⟩,⟨0,none,_,_,_⟩,⟨0,none,_,_,_⟩,⟨1,none,_,_,_⟩,⟨2,none,_,_,_⟩,⟨2,none,_,_,_⟩,⟨0,none,_,_,_⟩]) (.fin [⟨1,none,_,_,_⟩,⟨1,none,_,_,_⟩,⟨0,none,_,_,_⟩,⟨0,none,_,_,_⟩,⟨0,none,_,_,_⟩,⟨0,none,_,_,_⟩,⟨2,none,_,_,_⟩,⟨2,none,_,_,_⟩,⟨0,none,_,_,_⟩]))))) rfl ?_)))
          |(refine C_split rfl ?_ ?_ <;> (intro hb;(try simp only [decide_eq_true_eq] at hb);(try simp only [decide_eq_false_iff_not] at hb);(try simp only [Bool.not_eq_true'] at hb);(try simp only [Bool.not_eq_false'] at hb);(try (exfalso;first|contradiction|omega));(try (have hx := hxe))))
          |(refine C_skip ?_)
          |(refine C_block ?_)
          |(refine T_fin ?_)
          |(refine T_br ?_)))
      |(refine gE ?_;(first
          |(refine E_then ?_)
          |(refine E_calm ?_)
          | (refine E_both ?_ ?_))))
    rotate_left 6
    · rintro ⟨y2, q2, k8, k9⟩ ⟨hy2, hq2⟩
      dsimp only at hy2 hq2 ⊢
      refine C_fact (fun w hs => oneFragBench (Rds.many (l := rwFragBench y2) hs (by (focus ((repeat (first|exact mH|refine mT ?_));done))))) (fun hob1 => ?_)
      refine C_fact (fun w hs => oneFragPacket (Rds.many (l := rwFragPacket q2) hs (by (focus ((repeat (first|exact mH|refine mT ?_));done))))) (fun hone => ?_)
      have hq9 : q2.1 = q.1 := congrArg (fun c : CFragPacket => c.1) hq2
      rcases hcase with ⟨rfl, hq1, hqP, hew0, he9, hwl0⟩ | ⟨hnk, he9, hinv⟩ | ⟨hnk, he9, hinv⟩
      · have hew : (ix ll i).2.2.2.2.2.1 = false := hew0
        have hwl : 40 < gl.length + 1 ∨ ((joinC (gl.map ctFragPacket)).2 ≠ 0 ∧ joinC (gl.map ctFragPacket ++ [ctFragPacket (ix ll i)]) = (ctFragPacket z, 0)) := by rw [List.length_map] at hwl0; exact hwl0
        repeat' (first
          |(refine gS ?_;(first
              |(refine gGuard ?_;(first
                  |(refine S_on rfl ?_)
                  |(refine S_gsplit rfl ?_ ?_ <;> (intro hb;(try simp only [decide_eq_true_eq] at hb);(try simp only [decide_eq_false_iff_not] at hb);(try simp only [Bool.not_eq_true'] at hb);(try simp only [Bool.not_eq_false'] at hb);(try (exfalso;first|contradiction|omega));(try (have hx := hxe));(try ((exfalso;rw [hew] at hb;cases hb;done)))))))
              |(refine S_move rfl rfl ?_)
              |(refine S_assign rfl rfl ?_)
              |(apply F_field rfl rfl;(first|exact T.fl24_0|exact T.fl24_5))
              |(apply F_fieldS rfl rfl;(first|exact T.fl24_0|exact T.fl24_5);(focus (first|exact len_nil|(apply len_given;assumption)|(apply len_row;(focus ((repeat (first|exact mH|refine mT ?_));done)))|(apply len_isN;assumption)));(focus omega))
              |(apply F_idx rfl rfl rfl;(first|exact T.sl22|exact T.sl27);(focus rfl);(focus (first|exact len_nil|(apply len_given;assumption)|(apply len_row;(focus ((repeat (first|exact mH|refine mT ?_));done)))|(apply len_isN;assumption)));(focus omega))
              |(refine gLoad ?_;(first
                  |(apply F_load1 rfl rfl;(focus ((repeat (first|exact mH|refine mT ?_));done));(first|exact T.sc3|exact T.sc4);rfl;(focus (first|exact free0|exact free1)))
                  |(apply F_loadAll rfl rfl;(focus ((repeat (first|exact mH|refine mT ?_));done));(first|exact T.rw24|exact T.rw45);(focus (first|exact free0|exact free1)))
                  |(apply F_loadS1 rfl rfl;(first|exact T.sc3|exact T.sc4);(focus (first|exact rd_nil|(apply rd_given;(focus assumption);(focus (first|exact freeG0|exact freeG1)))|(apply rd_row;(focus ((repeat (first|exact mH|refine mT ?_));done));(focus (first|exact freeR0|exact freeR1)))));(focus (first|(apply at_cell;(focus (apply at_flat;(focus (intro _;rfl));(focus assumption)));rfl)|(apply at_cell0;(focus (apply at_flat;(focus (intro _;rfl));(focus assumption)));rfl)|(apply at_cell;(focus (apply at_mid0;(focus assumption)));rfl)|(apply at_cell0;(focus (apply at_mid0;(focus assumption)));rfl)|rfl)))
                  |(apply F_loadSN rfl rfl;(first|exact T.rw24|exact T.rw45);(focus (first|exact rd_nil|(apply rd_given;(focus assumption);(focus (first|exact freeG0|exact freeG1)))|(apply rd_row;(focus ((repeat (first|exact mH|refine mT ?_));done));(focus (first|exact freeR0|exact freeR1)))));(focus (first|(focus (apply at_flat;(focus (intro _;rfl));(focus assumption)))|exact at_self));rfl;rfl)))
              |(refine gCall ?_;(first
                  |(show GoS _ _ _ _ _ _ _ (⟨_,_,_,.call ⟨.value (.func 18),_,_⟩,_⟩ :: _);refine S_callN (f := 18) rfl T.pf18 rfl (fun w hst => same_l _ z (by rw [hq2];exact hqP) w (by first|(refine Rds.given hst ?_;assumption)|(apply Rds.many hst;(focus ((repeat (first|exact mH|refine mT ?_));done)))|(apply Rds.row hst;(focus ((repeat (first|exact mH|refine mT ?_));done)))) (by first|(refine Rds.given hst ?_;assumption)|(apply Rds.many hst;(focus ((repeat (first|exact mH|refine mT ?_));done)))|(apply Rds.row hst;(focus ((repeat (first|exact mH|refine mT ?_));done))))) rfl ?_)
                  |(show GoS _ _ _ _ _ _ _ (⟨_,_,_,.call ⟨.value (.func 42),_,_⟩,_⟩ :: _);refine S_callN (f := 42) rfl T.pf42 rfl (fun w hst => wfLast_c gv gl (ix ll i) z (by omega) hgs hes hwl w (by first|(refine Mem.given hst ?_;assumption)|(apply Mem.row hst;(focus ((repeat (first|exact mH|refine mT ?_));done)))) (fun y hy => rds_inB hin (h5 y hy) (Rds.many hst (by (focus ((repeat (first|exact mH|refine mT ?_));done))))) (rds_inB hin hmem (Rds.many hst (by (focus ((repeat (first|exact mH|refine mT ?_));done))))) (by first|(refine Rds.given hst ?_;assumption)|(apply Rds.many hst;(focus ((repeat (first|exact mH|refine mT ?_));done)))|(apply Rds.row hst;(focus ((repeat (first|exact mH|refine mT ?_));done))))) rfl ?_)))
              |(refine gBin ?_;(first
                  |(refine S_eql rfl rfl rfl ?_)))
              |(refine gPick ?_;(first
                  |(refine S_pickT rfl rfl rfl ?_)))
              |(refine S_not rfl rfl ?_)
              |(refine S_done ?_)))
          |((first
              |(refine C_seq ?_)
              |(refine gReg ?_;(first
                  |(refine gReg (i := 10) ?_;refine C_plain [(0,0),(1,0),(2,0),(3,0),(4,0),(5,0),(6,0),(7,0),(8,0)] (by kernel_rfl) (s := [⟨0,none,_,_,_⟩,⟨0,none,_,_,_⟩,⟨0,none,_,_,_⟩,⟨0,some (39,true),_,_,_⟩,⟨0,some (39,true),_,_,_⟩,⟨0,some (39,true),_,_,_⟩,⟨0,some (39,true),_,_,_⟩,⟨0,some (39,true),_,_,_⟩,⟨0,none,_,_,_⟩]) rfl ?_)
                  |(refine gReg (i := 11) ?_;refine C_drawn [(0,0),(1,0),(2,1),(3,0),(4,0),(5,0),(6,0),(7,0),(8,0),(9,0),(10,0),(11,0),(12,0),(13,0),(14,0),(15,0),(16,0),(17,0),(18,1),(19,0),(20,0)] [] T.mixed (by kernel_rfl) (s := [⟨0,none,_,_,_⟩,⟨0,none,_,_,_⟩,⟨1,none,_,_,_⟩,⟨0,none,_,_,_⟩,⟨0,some (49,true),_,_,_⟩,⟨0,some (49,true),_,_,_⟩,⟨0,some (49,true),_,_,_⟩,⟨0,some (49,true),_,_,_⟩,⟨0,some (49,true),_,_,_⟩,⟨0,some (49,true),_,_,_⟩,⟨0,none,_,_,_⟩,⟨0,none,_,_,_⟩,⟨0,some (57,true),_,_,_⟩,⟨0,some (57,true),_,_,_⟩,⟨0,some (57,true),_,_,_⟩,⟨0,some (57,true),_,_,_⟩,⟨0,some (57,true),_,_,_⟩,⟨0,some (57,true),_,_,_⟩,⟨1,some (57,true),_,_,_⟩,⟨0,none,_,_,_⟩,⟨0,none,_,_,_⟩]) rfl ?_)))
              |(refine C_split rfl ?_ ?_ <;> (intro hb;(try simp only [decide_eq_true_eq] at hb);(try simp only [decide_eq_false_iff_not] at hb);(try simp only [Bool.not_eq_true'] at hb);(try simp only [Bool.not_eq_false'] at hb);(try (exfalso;first|contradiction|omega));(try (have hx := hxe));(try ((exfalso;rw [hew] at hb;cases hb;done)))))
              |(refine C_ret ?_)))
          |(refine gE ?_;(first
              |(refine E_then ?_)
              |(refine E_thenR ?_)
              |(refine E_blockR ?_)
              |(refine E_calm ?_)
              |(apply E_ret1 rfl;(first|exact Res.tmp rfl|(apply R_cellAll rfl;(focus ((repeat (first|exact mH|refine mT ?_));done));(first|exact T.rw24|exact T.rw45))|(apply R_cell1 rfl;(focus ((repeat (first|exact mH|refine mT ?_));done));(first|exact T.sc3|exact T.sc4)))))))
        exact retN rfl
      · have he9' : (ix ll i).1 = 9 := he9
        have hI : Inv (ctFragPacket z) m (y2.2.2.map ctFragSlot) ((gl ++ [ix ll i]).map ctFragPacket) := by rw [(hnext y2 hy2).2.1, List.map_append]; exact hinv
        have hM : ∀ y ∈ gl ++ [ix ll i], y ∈ ll := fun y hy => by
          rcases List.mem_append.1 hy with hy | hy
          · exact h5 y hy
          · rw [List.mem_singleton] at hy; rw [hy]; exact hmem
        have hL : (gl ++ [ix ll i]).length ≤ i + 1 := by rw [List.length_append, List.length_singleton]; omega
        have hA : ∀ j, j < i + 1 → (ix ll j).1 = 9 → ctFragPacket (ix ll j) ∈ (gl ++ [ix ll i]).map ctFragPacket := fun j hj h9 => by
          rw [List.map_append]
          rcases Nat.lt_or_ge j i with h | h
          · exact List.mem_append_left _ (h7 j h h9)
          · have : j = i := by omega
            subst this
            exact List.mem_append_right _ (by simp)
        repeat' (first
          |(refine gS ?_;(first
              |(refine gGuard ?_;(first
                  |(refine S_on rfl ?_)
                  |(refine S_off rfl rfl rfl ?_)
                  |(refine S_gsplit rfl ?_ ?_ <;> (intro hb;(try simp only [decide_eq_true_eq] at hb);(try simp only [decide_eq_false_iff_not] at hb);(try simp only [Bool.not_eq_true'] at hb);(try simp only [Bool.not_eq_false'] at hb);(try (exfalso;first|contradiction|omega));(try (have hx := hxe));(try ((exfalso;rw [hew] at hb;cases hb;done)))))))
              |(refine S_move rfl rfl ?_)
              |(refine S_assign rfl rfl ?_)
              |(apply F_field rfl rfl;(first|exact T.fl24_0|exact T.fl24_5))
              |(apply F_fieldS rfl rfl;(first|exact T.fl24_0|exact T.fl24_5);(focus (first|exact len_nil|(apply len_given;assumption)|(apply len_row;(focus ((repeat (first|exact mH|refine mT ?_));done)))|(apply len_isN;assumption)));(focus omega))
              |(apply F_idx rfl rfl rfl;(first|exact T.sl22|exact T.sl27);(focus rfl);(focus (first|exact len_nil|(apply len_given;assumption)|(apply len_row;(focus ((repeat (first|exact mH|refine mT ?_));done)))|(apply len_isN;assumption)));(focus omega))
              |(apply F_bs rfl rfl;(first|exact T.el22|exact T.el27);rfl;rfl;rfl;rfl;(focus ((repeat (first|exact Dense.nil|(apply Dense.cons;rfl;rfl)));done));intro sv;(try (refine S_fact (row_one (v := sv) (by (focus ((repeat (first|exact mH|refine mT ?_));done)))) (fun hone => ?_))))
              |(refine gLoad ?_;(first
                  |(apply F_load1 rfl rfl;(focus ((repeat (first|exact mH|refine mT ?_));done));(first|exact T.sc3|exact T.sc4);rfl;(focus (first|exact free0|exact free1)))
                  |(apply F_loadAll rfl rfl;(focus ((repeat (first|exact mH|refine mT ?_));done));(first|exact T.rw24|exact T.rw45);(focus (first|exact free0|exact free1)))
                  |(apply F_loadS1 rfl rfl;(first|exact T.sc3|exact T.sc4);(focus (first|exact rd_nil|(apply rd_given;(focus assumption);(focus (first|exact freeG0|exact freeG1)))|(apply rd_row;(focus ((repeat (first|exact mH|refine mT ?_));done));(focus (first|exact freeR0|exact freeR1)))));(focus (first|(apply at_cell;(focus (apply at_flat;(focus (intro _;rfl));(focus assumption)));rfl)|(apply at_cell0;(focus (apply at_flat;(focus (intro _;rfl));(focus assumption)));rfl)|(apply at_cell;(focus (apply at_mid0;(focus assumption)));rfl)|(apply at_cell0;(focus (apply at_mid0;(focus assumption)));rfl)|rfl)))
                  |(apply F_loadSN rfl rfl;(first|exact T.rw24|exact T.rw45);(focus (first|exact rd_nil|(apply rd_given;(focus assumption);(focus (first|exact freeG0|exact freeG1)))|(apply rd_row;(focus ((repeat (first|exact mH|refine mT ?_));done));(focus (first|exact freeR0|exact freeR1)))));(focus (first|(focus (apply at_flat;(focus (intro _;rfl));(focus assumption)))|exact at_self));rfl;rfl)))
              |(refine gStore ?_;(first
                  |(apply F_storeN rfl rfl;(focus (first|rfl|assumption|(simp only [List.append_nil,List.all_cons,List.all_nil,Bool.and_true,Bool.true_and,one_int,one_bool,one_string,one_slice,one_pointer, *];done)));(first|exact T.rw24|exact T.rw45);(focus ((repeat (first|exact Upd.here|apply Upd.there));done));(focus ((repeat (first|exact SetSeg.nil|apply SetSeg.here|apply SetSeg.there));done));(first|exact okst2|exact okst1|exact okst1'))))
              |(refine gCall ?_;(first
                  |(apply F_append rfl rfl rfl rfl;(first|exact T.el22|exact T.el27);(focus (intro sv;(focus ((repeat (first|exact Upd.here|apply Upd.there));done))));(focus (first|exact rd_nil|(apply rd_given;(focus assumption);(focus (first|exact freeG0|exact freeG1)))|(apply rd_row;(focus ((repeat (first|exact mH|refine mT ?_));done));(focus (first|exact freeR0|exact freeR1)))));(focus (first|rfl|assumption|(apply all_flat;intro _ _;rfl)|(rw [List.append_nil];assumption)|(simp only [List.append_nil,List.all_cons,List.all_nil,Bool.and_true,Bool.true_and,one_int,one_bool,one_string,one_slice,one_pointer, *];done)|simp));(first|exact okst2|exact okst1|exact okst1');(focus (simp only [maxLen];first|omega|(simp only [List.length_take,List.length_drop];omega)));(focus (first|omega|(simp only [List.length_take,List.length_drop];omega)));intro sv;(try (refine S_fact (row_one (v := sv) (by (focus ((repeat (first|exact mH|refine mT ?_));done)))) (fun hone => ?_))))))
              |(refine gBin ?_;(first
                  |(refine S_eql rfl rfl rfl ?_)
                  |(refine S_add rfl rfl ?_ rfl ?_;(focus (unfold rng;omega)))))
              |(refine gPick ?_;(first
                  |(refine S_pickT rfl rfl rfl ?_)
                  |(refine S_pickF rfl rfl rfl ?_)))
              |(refine S_done ?_)))
          |((first
              |(refine C_seq ?_)
              |(refine gReg ?_;(first
                  |(refine gReg (i := 10) ?_;refine C_plain [(0,0),(1,0),(2,0),(3,0),(4,0),(5,0),(6,0),(7,0),(8,0)] (by kernel_rfl) (s := [⟨0,none,_,_,_⟩,⟨0,none,_,_,_⟩,⟨0,none,_,_,_⟩,⟨0,some (39,true),_,_,_⟩,⟨0,some (39,true),_,_,_⟩,⟨0,some (39,true),_,_,_⟩,⟨0,some (39,true),_,_,_⟩,⟨0,some (39,true),_,_,_⟩,⟨0,none,_,_,_⟩]) rfl ?_)
                  |(refine gReg (i := 12) ?_;refine C_drawn [(0,0),(1,0),(2,0),(3,0),(4,0),(5,0),(6,0),(7,0)] [] T.mixed (by kernel_rfl) (s := [⟨0,none,_,_,_⟩,⟨0,none,_,_,_⟩,⟨0,none,_,_,_⟩,⟨0,none,_,_,_⟩,⟨0,none,_,_,_⟩,⟨0,none,_,_,_⟩,⟨0,none,_,_,_⟩,⟨0,none,_,_,_⟩]) rfl ?_)
                  |(refine gReg (i := 13) ?_;refine C_plain [(0,0),(1,0),(2,0),(3,0),(4,0),(5,2),(6,2),(7,0)] (by kernel_rfl) (s := [⟨0,none,_,_,_⟩,⟨0,none,_,_,_⟩,⟨0,none,_,_,_⟩,⟨0,none,_,_,_⟩,⟨0,none,_,_,_⟩,⟨2,none,_,_,_⟩,⟨2,none,_,_,_⟩,⟨0,none,_,_,_⟩]) rfl ?_)
                  |(refine gReg (i := 14) ?_;refine C_plain [(0,0),(1,2)] (by kernel_rfl) (s := [⟨0,none,_,_,_⟩,⟨2,none,_,_,_⟩]) rfl ?_)
                  |(refine gReg (i := 8) ?_;refine C_plain [(0,0),(1,0),(2,0)] (by kernel_rfl) (s := [⟨0,none,_,_,_⟩,⟨0,none,_,_,_⟩,⟨0,none,_,_,_⟩]) rfl ?_)))
              |(refine C_false rfl ?_)
              |(refine C_split rfl ?_ ?_ <;> (intro hb;(try simp only [decide_eq_true_eq] at hb);(try simp only [decide_eq_false_iff_not] at hb);(try simp only [Bool.not_eq_true'] at hb);(try simp only [Bool.not_eq_false'] at hb);(try (exfalso;first|contradiction|omega));(try (have hx := hxe));(try ((exfalso;rw [hew] at hb;cases hb;done)))))
              |(refine C_skip ?_)))
          |(refine gE ?_;(first
              |(refine E_then ?_)
              |(refine E_block ?_)
              |(refine E_calm ?_))))
        all_goals
          rw [push_row]
          exact E_roundS (α := Nat × MFragBench × Value × List MFragPacket) (i + 1,y2,sv,gl ++ [ix ll i]) ⟨hlt,(hnext y2 hy2).1,hI,(hnext y2 hy2).2.2,hM,hL,hA⟩ (by dsimp only;omega) ⟨rfl,rfl,rfl,rfl,rfl,trivial⟩ (by (focus (apply Ent.flat;(simp only [List.length_append,List.length_cons,List.length_nil,Nat.zero_add,flat_many,flat_row,flat_blk,flat_append,flat_nil,List.map_append,List.map_cons,List.map_nil,List.flatMap_append,List.flatMap_cons,List.flatMap_nil,List.append_assoc,List.append_nil,List.nil_append,List.cons_append,Row.blk_mk,rwSuint8,rwFragPacket,rwSFragPacket,rwFragSlot,rwSFragSlot,rwFragBench]);((repeat (first|exact Pull.nil|(apply Pull.app;(focus ((repeat (first|exact PickA.here|exact PickA.all|apply PickA.there|apply PickA.over));done)))|(apply Pull.cons;(focus ((repeat (first|exact Pick.here|exact Pick.last|apply Pick.there|apply Pick.over));done)))|(apply Pull.atom;(focus ((repeat (first|exact PickA.here|exact PickA.all|apply PickA.there|apply PickA.over));done)))));done))))
      · have he9' : ¬ (ix ll i).1 = 9 := he9
        have hI : Inv (ctFragPacket z) m (y2.2.2.map ctFragSlot) (gl.map ctFragPacket) := by rw [(hnext y2 hy2).2.1]; exact hinv
        have hA : ∀ j, j < i + 1 → (ix ll j).1 = 9 → ctFragPacket (ix ll j) ∈ gl.map ctFragPacket := fun j hj h9 => by
          rcases Nat.lt_or_ge j i with h | h
          · exact h7 j h h9
          · have : j = i := by omega
            subst this
            exact absurd h9 he9'
        repeat' (first
          |(refine gS ?_;(first
              |(refine gGuard ?_;(first
                  |(refine S_on rfl ?_)
                  |(refine S_off rfl rfl rfl ?_)
                  |(refine S_gsplit rfl ?_ ?_ <;> (intro hb;(try simp only [decide_eq_true_eq] at hb);(try simp only [decide_eq_false_iff_not] at hb);(try simp only [Bool.not_eq_true'] at hb);(try simp only [Bool.not_eq_false'] at hb);(try (exfalso;first|contradiction|omega));(try (have hx := hxe));(try ((exfalso;rw [hew] at hb;cases hb;done)))))))
              |(refine S_move rfl rfl ?_)
              |(refine S_assign rfl rfl ?_)
              |(apply F_field rfl rfl;(first|exact T.fl24_0|exact T.fl24_5))
              |(apply F_fieldS rfl rfl;(first|exact T.fl24_0|exact T.fl24_5);(focus (first|exact len_nil|(apply len_given;assumption)|(apply len_row;(focus ((repeat (first|exact mH|refine mT ?_));done)))|(apply len_isN;assumption)));(focus omega))
              |(apply F_idx rfl rfl rfl;(first|exact T.sl22|exact T.sl27);(focus rfl);(focus (first|exact len_nil|(apply len_given;assumption)|(apply len_row;(focus ((repeat (first|exact mH|refine mT ?_));done)))|(apply len_isN;assumption)));(focus omega))
              |(refine gLoad ?_;(first
                  |(apply F_load1 rfl rfl;(focus ((repeat (first|exact mH|refine mT ?_));done));(first|exact T.sc3|exact T.sc4);rfl;(focus (first|exact free0|exact free1)))
                  |(apply F_loadAll rfl rfl;(focus ((repeat (first|exact mH|refine mT ?_));done));(first|exact T.rw24|exact T.rw45);(focus (first|exact free0|exact free1)))
                  |(apply F_loadS1 rfl rfl;(first|exact T.sc3|exact T.sc4);(focus (first|exact rd_nil|(apply rd_given;(focus assumption);(focus (first|exact freeG0|exact freeG1)))|(apply rd_row;(focus ((repeat (first|exact mH|refine mT ?_));done));(focus (first|exact freeR0|exact freeR1)))));(focus (first|(apply at_cell;(focus (apply at_flat;(focus (intro _;rfl));(focus assumption)));rfl)|(apply at_cell0;(focus (apply at_flat;(focus (intro _;rfl));(focus assumption)));rfl)|(apply at_cell;(focus (apply at_mid0;(focus assumption)));rfl)|(apply at_cell0;(focus (apply at_mid0;(focus assumption)));rfl)|rfl)))))
              |(refine gStore ?_;(first
                  |(apply F_storeN rfl rfl;(focus (first|rfl|assumption|(simp only [List.append_nil,List.all_cons,List.all_nil,Bool.and_true,Bool.true_and,one_int,one_bool,one_string,one_slice,one_pointer, *];done)));(first|exact T.rw24|exact T.rw45);(focus ((repeat (first|exact Upd.here|apply Upd.there));done));(focus ((repeat (first|exact SetSeg.nil|apply SetSeg.here|apply SetSeg.there));done));(first|exact okst2|exact okst1|exact okst1'))))
              |(refine gBin ?_;(first
                  |(refine S_eql rfl rfl rfl ?_)
                  |(refine S_add rfl rfl ?_ rfl ?_;(focus (unfold rng;omega)))))
              |(refine gPick ?_;(first
                  |(refine S_pickT rfl rfl rfl ?_)
                  |(refine S_pickF rfl rfl rfl ?_)))
              |(refine S_done ?_)))
          |((first
              |(refine C_seq ?_)
              |(refine gReg ?_;(first
                  |(refine gReg (i := 10) ?_;refine C_plain [(0,0),(1,0),(2,0),(3,0),(4,0),(5,0),(6,0),(7,0),(8,0)] (by kernel_rfl) (s := [⟨0,none,_,_,_⟩,⟨0,none,_,_,_⟩,⟨0,none,_,_,_⟩,⟨0,some (39,true),_,_,_⟩,⟨0,some (39,true),_,_,_⟩,⟨0,some (39,true),_,_,_⟩,⟨0,some (39,true),_,_,_⟩,⟨0,some (39,true),_,_,_⟩,⟨0,none,_,_,_⟩]) rfl ?_)
                  |(refine gReg (i := 12) ?_;refine C_drawn [(0,0),(1,0),(2,0),(3,0),(4,0),(5,0),(6,0),(7,0)] [] T.mixed (by kernel_rfl) (s := [⟨0,none,_,_,_⟩,⟨0,none,_,_,_⟩,⟨0,none,_,_,_⟩,⟨0,none,_,_,_⟩,⟨0,none,_,_,_⟩,⟨0,none,_,_,_⟩,⟨0,none,_,_,_⟩,⟨0,none,_,_,_⟩]) rfl ?_)
                  |(refine gReg (i := 14) ?_;refine C_plain [(0,0),(1,2)] (by kernel_rfl) (s := [⟨0,none,_,_,_⟩,⟨2,none,_,_,_⟩]) rfl ?_)
                  |(refine gReg (i := 8) ?_;refine C_plain [(0,0),(1,0),(2,0)] (by kernel_rfl) (s := [⟨0,none,_,_,_⟩,⟨0,none,_,_,_⟩,⟨0,none,_,_,_⟩]) rfl ?_)))
              |(refine C_false rfl ?_)
              |(refine C_split rfl ?_ ?_ <;> (intro hb;(try simp only [decide_eq_true_eq] at hb);(try simp only [decide_eq_false_iff_not] at hb);(try simp only [Bool.not_eq_true'] at hb);(try simp only [Bool.not_eq_false'] at hb);(try (exfalso;first|contradiction|omega));(try (have hx := hxe));(try ((exfalso;rw [hew] at hb;cases hb;done)))))
              |(refine C_skip ?_)))
          |(refine gE ?_;(first
              |(refine E_then ?_)
              |(refine E_block ?_)
              |(refine E_calm ?_))))
        all_goals exact E_roundS (α := Nat × MFragBench × Value × List MFragPacket) (i + 1,y2,gv,gl) ⟨hlt,(hnext y2 hy2).1,hI,(hnext y2 hy2).2.2,h5,Nat.le_succ_of_le h6,hA⟩ (by dsimp only;omega) ⟨rfl,rfl,rfl,rfl,rfl,trivial⟩ (by (focus (apply Ent.flat;(simp only [List.length_append,List.length_cons,List.length_nil,Nat.zero_add,flat_many,flat_row,flat_blk,flat_append,flat_nil,List.map_append,List.map_cons,List.map_nil,List.flatMap_append,List.flatMap_cons,List.flatMap_nil,List.append_assoc,List.append_nil,List.nil_append,List.cons_append,Row.blk_mk,rwSuint8,rwFragPacket,rwSFragPacket,rwFragSlot,rwSFragSlot,rwFragBench]);((repeat (first|exact Pull.nil|(apply Pull.app;(focus ((repeat (first|exact PickA.here|exact PickA.all|apply PickA.there|apply PickA.over));done)))|(apply Pull.cons;(focus ((repeat (first|exact Pick.here|exact Pick.last|apply Pick.there|apply Pick.over));done)))|(apply Pull.atom;(focus ((repeat (first|exact PickA.here|exact PickA.all|apply PickA.there|apply PickA.over));done)))));done))))
    all_goals exact E_join (α := MFragBench × MFragPacket × Nat × Nat) (y2,q2,_,_) ⟨hy2,hq2⟩ ⟨rfl,rfl,rfl,rfl,rfl,rfl,rfl,rfl,trivial⟩ (by (focus (apply Ent.flat;(simp only [List.length_append,List.length_cons,List.length_nil,Nat.zero_add,flat_many,flat_row,flat_blk,flat_append,flat_nil,List.map_append,List.map_cons,List.map_nil,List.flatMap_append,List.flatMap_cons,List.flatMap_nil,List.append_assoc,List.append_nil,List.nil_append,List.cons_append,Row.blk_mk,rwSuint8,rwFragPacket,rwSFragPacket,rwFragSlot,rwSFragSlot,rwFragBench]);((repeat (first|exact Pull.nil|(apply Pull.app;(focus ((repeat (first|exact PickA.here|exact PickA.all|apply PickA.there|apply PickA.over));done)))|(apply Pull.cons;(focus ((repeat (first|exact Pick.here|exact Pick.last|apply Pick.there|apply Pick.over));done)))|(apply Pull.atom;(focus ((repeat (first|exact PickA.here|exact PickA.all|apply PickA.there|apply PickA.over));done)))));done))))
  · exfalso
    refine among_end ham.cut h3 fun d hd => ?_
    obtain ⟨y, hy, e⟩ := ham.all d hd
    obtain ⟨j, hj, e2⟩ := List.getElem_of_mem hy
    have e3 : ix ll j = y := by rw [← e2]; simp [ix, hj]
    have h9 := (cut_fine ham.cut hd).2.2.2.2.1
    rw [← e, ← e3] at h9 ⊢
    exact h7 j (by omega) h9
set_option maxRecDepth 100000 in
theorem lifted (os : Os) (started : os.Started) (H : Type) (enc : TypeId × Value → H) :
    ReturnsInHanded {} Try.checked os 9 .any (Rows.fnFragAmongSpec.pre6 enc Try.prog Try.f9 Rows.fnFragAmongRow.domain false) (Rows.fnFragAmongSpec.post enc Try.prog Try.f9 false true false false) := by
  refine returnsInHanded_of_change (C := Try.checked) own started (by kernel_rfl) Try.func9
    (ChangeSpec.witness6 (enc := enc) (C := Try.checked) false ⟨#[], #[.slice none 0 0], []⟩ 8 (by kernel_rfl) (by kernel_rfl) (by kernel_rfl) (by kernel_rfl)) ?_
  intro W base args ds gs before hval0 hW hcnd _
  have hval : ∀ (j : Nat) t v, Try.f9.params[j]? = some t → args[j]? = some v → Value.okWide Try.prog W .any base t v := hval0
  have hW' := hW
  obtain ⟨p, q, hA0, hV, rfl, hfz, hnd⟩ := hW
  have hA : DataW.TrodAll enc Try.prog W 0 (fun _ => true) true Try.f9.params.toList args.toList ds p := hA0
  rw [Try.params9] at hA hval
  obtain ⟨v0, vs0, d0, ds0, p0, q0, hargs, rfl, rfl, h0, r0⟩ := trodAll_cons hA
  obtain ⟨rfl, rfl, rfl⟩ := trodAll_nil r0
  obtain rfl : args = #[v0] := by cases args; simp_all
  obtain ⟨rfl, rfl⟩ := trodVars_none hV
  have k0 := h0
  have lt0 : ∀ x ∈ p0, x.block < W.heap.size := by obtain ⟨m, hm⟩ := k0; exact DataW.trod_lt m _ _ _ hm
  obtain ⟨y0, rfl, w0⟩ := par_Suint8 (hval 0 22 v0 rfl rfl) h0
  clear hA0 hval0
  refine (walk W y0 w0).mono fun e W' ⟨he, bel⟩ => ?_
  subst he
  exact ⟨_, rfl, _, _, _, [], _, [], hW', trodAll_mk1 (shut_bool Try.underlying4 _), (trodAll_cons_mk (Below.trod laidOut (by kernel_rfl) (of_decide_eq_true (by kernel_rfl)) k0 bel lt0) trodAll_mk0), rfl, bel.frame _, fun h => by cases h⟩
theorem over : Rows.fnFragAmongRow.holds Try.pinned (OpenSpec.ofChange Rows.fnFragAmongSpec) :=
  OpenClaim.holds_of_wide 9 Try.f9 rfl rfl rfl rfl rfl rfl rfl ⟨rfl, rfl, rfl, rfl, rfl⟩ rfl rfl rfl rfl rfl (by kernel_rfl) Try.func9 (by kernel_rfl)
    (of_decide_eq_true (by kernel_rfl)) (by unfold Func.isWrapper; rw [if_neg (of_decide_eq_false (by kernel_rfl))]; exact ⟨rfl, rfl⟩)
    (fun os started H enc _ => lifted os started H enc)
theorem proved : Rows.FnFragAmongSaid := over
#print axioms proved
end Go.Proofs.Ytodhjpnfokkfeaa.fnFragAmong

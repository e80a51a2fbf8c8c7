/- A drawn packet and a size. -/
import Derived.Test.YtodhjpnfokkfeaaFragr
set_option linter.unusedSimpArgs false
set_option linter.unusedVariables false
namespace Go.Proofs.Ytodhjpnfokkfeaa
open Go Go.RowKit
theorem mem_isN {w : World} {v : Value} {m n : Nat} {cs : List Value} (h : Mem w v m n cs) : IsN v n := h.1
attribute [local irreducible] Calls GoS GoC GoE GoT Mid IsEq IsFl IsSc IsRw IsSl IsEl IsSt IsFs sp Mem Rd LenOf szR
theorem retX_rows {f : Nat} {args : Array Value} {w : World} {phi : MSFragPacket → Prop} {val : MSFragPacket → Value} (h : Calls Try.prog f args w (RetX phi val (fun y => [.many (rwSFragPacket y)]) w)) : Calls Try.prog f args w (RetX phi val (fun y => [.row y.1 24 9 y.2.length (y.2.flatMap clFragPacket), .many (y.2.flatMap rwFragPacket)]) w) := by
  refine h.mono ?_
  rintro e w' ⟨⟨v, l⟩, h1, h2, h3, h4, h5⟩
  have h6 : Ent w [.many (rwSFragPacket (v,l))] [.row v 24 9 l.length (l.flatMap clFragPacket),.many (l.flatMap rwFragPacket)] := (by (focus (apply Ent.flat;(simp only [List.length_append,List.length_cons,List.length_nil,Nat.zero_add,flat_many,flat_row,flat_blk,flat_append,flat_nil,List.map_append,List.map_cons,List.map_nil,List.flatMap_append,List.flatMap_cons,List.flatMap_nil,List.append_assoc,List.append_nil,List.nil_append,List.cons_append,Row.blk_mk,rwSuint8,rwFragPacket,rwSFragPacket,rwFragSlot,rwSFragSlot,rwFragBench]);((repeat (first|exact Pull.nil|(apply Pull.app;(focus ((repeat (first|exact PickA.here|exact PickA.all|apply PickA.there|apply PickA.over));done)))|(apply Pull.cons;(focus ((repeat (first|exact Pick.here|exact Pick.last|apply Pick.there|apply Pick.over));done)))|(apply Pull.atom;(focus ((repeat (first|exact PickA.here|exact PickA.all|apply PickA.there|apply PickA.over));done)))));done))))
  have h7 := h6 w' ⟨h3, h4, h5⟩
  exact ⟨(v, l), h1, h2, h7.ext, h7.own, h7.nd⟩
theorem rds_both {w0 w : World} {L : List Blk} {v : Value} {l : List MFragPacket} (hs : St w0 w L) (h1 : .row v 24 9 l.length (l.flatMap clFragPacket) ∈ L) (h2 : .many (l.flatMap rwFragPacket) ∈ L) : Rds w (rwSFragPacket (v, l)) := Rds.cons (Rds.head (Rds.row hs h1 24)) (Rds.many hs h2)
theorem many_one {w0 w : World} {L : List Blk} {l : List MFragPacket} (hs : St w0 w L) (h2 : .many (l.flatMap rwFragPacket) ∈ L) : ∀ y ∈ l, (clFragPacket y).all (·.oneCell') = true := fun y hy => oneFragPacket ((Rds.flatMap.1 (Rds.many hs h2)) y hy)
theorem many_isN {w0 w : World} {L : List Blk} {x : MFragPacket} (hs : St w0 w L) (h2 : .many (rwFragPacket x) ∈ L) : IsN x.2.2.2.2.2.2.2.2.1 x.2.2.2.2.2.2.2.2.2.length := mem_isN (Rds.head (Rds.many (l := rwFragPacket x) hs h2))
theorem many_isN2 {w0 w : World} {L : List Blk} {l : List MFragPacket} {x : MFragPacket} {i : Nat} (hs : St w0 w L) (h1 : l[i]? = some x) (h2 : .many (l.flatMap rwFragPacket) ∈ L) : IsN x.2.2.2.2.2.2.2.2.1 x.2.2.2.2.2.2.2.2.2.length := mem_isN (Rds.head (l := []) ((Rds.flatMap.1 (Rds.many hs h2)) _ (List.mem_of_getElem? h1)))
set_option maxHeartbeats 1000000 in
theorem wfList_c (x y : MSFragPacket) (w : World) (hx : Rds w (rwSFragPacket x)) (hy : Rds w (rwSFragPacket y)) : Calls Try.prog 14 #[x.1, y.1] w (RetN (.bool (decide (x.2.map ctFragPacket = y.2.map ctFragPacket))) w) := by
  obtain ⟨xv, xl⟩ := x
  obtain ⟨yv, yl⟩ := y
  have hm := Rds.head hx
  have hm2 := Rds.head hy
  have hl1 := hm.len
  have hl2 := hm2.len
  simp only [maxLen] at hl1 hl2
  dsimp only at *
  refine enter (n := 27) (E := [(0, _), (1, _)]) Try.func14 rfl rfl rfl rfl ?_
  repeat' (first
    |(refine gS ?_;(first
        |(refine S_move rfl rfl ?_)
        |(refine S_assign rfl rfl ?_)
        |(refine gCall ?_;(first
            |(apply F_len rfl rfl rfl;(focus exact ⟨_,_,by exact T.sl27⟩);(focus (first|exact len_nil|(apply len_given;assumption)|(apply len_row;(focus ((repeat (first|exact mH|refine mT ?_));done)))|(apply len_isN;assumption))))))
        |(refine gBin ?_;(first
            |(refine S_neq rfl rfl rfl ?_)))
        |(refine S_done ?_)))
    |(refine gC ?_;(first
        |(refine C_seq ?_)
        |(refine gReg ?_;(first
            |(refine gReg (i := 0) ?_;refine C_plain [(0,0)] (by kernel_rfl) (s := [⟨0,none,_,_,_⟩]) rfl ?_)
            |(refine gReg (i := 1) ?_;refine C_plain [(0,0),(1,0),(2,0),(3,0),(4,0)] (by kernel_rfl) (s := [⟨0,none,_,_,_⟩,⟨0,none,_,_,_⟩,⟨0,none,_,_,_⟩,⟨0,none,_,_,_⟩,⟨0,none,_,_,_⟩]) rfl ?_)
            |(refine gReg (i := 2) ?_;refine C_plain [(0,0)] (by kernel_rfl) (s := [⟨0,none,_,_,_⟩]) rfl ?_)
            |(refine gReg (i := 3) ?_;refine C_plain [(0,0)] (by kernel_rfl) (s := [⟨0,none,_,_,_⟩]) rfl ?_)))
        |(refine C_split rfl ?_ ?_ <;> (intro hb;(try simp only [decide_eq_true_eq] at hb);(try simp only [decide_eq_false_iff_not] at hb);(try simp only [Bool.not_eq_true'] at hb);(try simp only [Bool.not_eq_false'] at hb);(try (exfalso;first|contradiction|omega))))
        |(refine C_skip ?_)
        |(refine C_ret ?_)
        |(refine C_block ?_)))
    |(refine gE ?_;(first
        |(refine E_then ?_)
        |(refine E_thenR ?_)
        |(apply E_ret1 rfl;(first|exact Res.tmp rfl|(apply R_cellAll rfl;(focus ((repeat (first|exact mH|refine mT ?_));done));exact T.rw24)|(apply R_cell1 rfl;(focus ((repeat (first|exact mH|refine mT ?_));done));fail))))))
  · refine retN ?_
    congr 1
    refine (decide_eq_false fun e => ?_).symm
    have e9 := congrArg List.length e
    rw [List.length_map, List.length_map] at e9
    omega
  have hll : xl.length = yl.length := by omega
  refine C_loop (α := Nat) (fun i => [(5, .int .i64 (i : Int)), (0, xv), (1, yv)]) (fun _ => []) (fun i => i ≤ xl.length ∧ (xl.map ctFragPacket).take i = (yl.map ctFragPacket).take i) (fun i => xl.length - i) 0 ⟨Nat.zero_le _, rfl⟩ ⟨rfl, rfl, rfl, trivial⟩ (List.Sublist.refl _) ?_
  rintro i ⟨hi, hta⟩
  have hx1 : (i : Int) < (xl.length : Int) → xl[i]? = some (ix xl i) := fun h => nthD h
  have hy1 : (i : Int) < (xl.length : Int) → yl[i]? = some (ix yl i) := fun h => nthD (by omega)
  repeat' (first
    |(refine gS ?_;(first
        |(refine S_move rfl rfl ?_)
        |(refine S_assign rfl rfl ?_)
        |(apply F_idx rfl rfl rfl;exact T.sl27;(focus rfl);(focus (first|exact len_nil|(apply len_given;assumption)|(apply len_row;(focus ((repeat (first|exact mH|refine mT ?_));done)))|(apply len_isN;assumption)));(focus omega))
        |(refine gLoad ?_;(first
            |(apply F_loadSN rfl rfl;exact T.rw24;(focus (first|exact rd_nil|(apply rd_given;(focus assumption);(focus (first|exact freeG0|exact freeG1)))|(apply rd_row;(focus ((repeat (first|exact mH|refine mT ?_));done));(focus (first|exact freeR0|exact freeR1)))));(focus (first|(focus (apply at_flat;(focus (intro _;rfl));(focus assumption)))|exact at_self));rfl;rfl)))
        |(refine gCall ?_;(first
            |(show GoS _ _ _ _ _ _ _ (⟨_,_,_,.call ⟨.value (.func 18),_,_⟩,_⟩ :: _);refine S_callN (f := 18) rfl T.pf18 rfl (fun w hst => wfSame_c _ _ w (Rds.given hst hx3) (Rds.given hst hy3)) rfl ?_)
            |(apply F_len rfl rfl rfl;(focus exact ⟨_,_,by exact T.sl27⟩);(focus (first|exact len_nil|(apply len_given;assumption)|(apply len_row;(focus ((repeat (first|exact mH|refine mT ?_));done)))|(apply len_isN;assumption))))))
        |(refine gBin ?_;(first
            |(refine S_lss rfl rfl rfl ?_)
            |(refine S_add rfl rfl ?_ rfl ?_;(focus (unfold rng;omega)))))
        |(refine S_not rfl rfl ?_)
        |(refine S_done ?_)))
    |(refine gC ?_;(first
        |(refine C_seq ?_)
        |(refine gReg ?_;(first
            |(refine gReg (i := 4) ?_;refine C_plain [(0,0),(1,0),(2,0),(3,0)] (by kernel_rfl) (s := [⟨0,none,_,_,_⟩,⟨0,none,_,_,_⟩,⟨0,none,_,_,_⟩,⟨0,none,_,_,_⟩]) rfl ?_)
            |(refine gReg (i := 6) ?_;refine C_drawn [(0,0),(1,0),(2,0),(3,0),(4,0),(5,0),(6,0),(7,0),(8,1),(9,0)] [] T.mixed (by kernel_rfl) (s := [⟨0,none,_,_,_⟩,⟨0,none,_,_,_⟩,⟨0,none,_,_,_⟩,⟨0,none,_,_,_⟩,⟨0,none,_,_,_⟩,⟨0,none,_,_,_⟩,⟨0,none,_,_,_⟩,⟨0,none,_,_,_⟩,⟨1,none,_,_,_⟩,⟨0,none,_,_,_⟩]) rfl ?_)
            |(refine gReg (i := 7) ?_;refine C_plain [(0,0)] (by kernel_rfl) (s := [⟨0,none,_,_,_⟩]) rfl ?_)
            |(refine gReg (i := 5) ?_;refine C_plain [(0,0),(1,0),(2,0)] (by kernel_rfl) (s := [⟨0,none,_,_,_⟩,⟨0,none,_,_,_⟩,⟨0,none,_,_,_⟩]) rfl ?_)
            |(refine gReg (i := 8) ?_;refine C_plain [(0,0)] (by kernel_rfl) (s := [⟨0,none,_,_,_⟩]) rfl ?_)))
        |(refine C_split rfl ?_ ?_ <;> (intro hb;(try simp only [decide_eq_true_eq] at hb);(try simp only [decide_eq_false_iff_not] at hb);(try simp only [Bool.not_eq_true'] at hb);(try simp only [Bool.not_eq_false'] at hb);(try (exfalso;first|contradiction|omega));(try (have hx2 := hx1 hb));(try (have hy2 := hy1 hb));(try (have hx3 := rds_el hx hx2));(try (have hy3 := rds_el hy hy2));(try (have hx4 := oneFragPacket hx3));(try (have hy4 := oneFragPacket hy3))))
        |(refine C_skip ?_)
        |(refine C_exit ?_)
        |(refine C_ret ?_)
        |(refine C_block ?_)))
    |(refine gE ?_;(first
        |(refine E_then ?_)
        |(refine E_thenX ?_)
        |(refine E_thenR ?_)
        |(refine E_block ?_)
        |(refine E_blockY ?_)
        |(refine E_blockR ?_)
        |(refine E_calm ?_)
        |(apply E_ret1 rfl;(first|exact Res.tmp rfl|(apply R_cellAll rfl;(focus ((repeat (first|exact mH|refine mT ?_));done));exact T.rw24)|(apply R_cell1 rfl;(focus ((repeat (first|exact mH|refine mT ?_));done));fail))))))
  · refine retN ?_
    congr 1
    refine (decide_eq_false fun e => ?_).symm
    have e1 : (xl.map ctFragPacket)[i]? = (yl.map ctFragPacket)[i]? := by rw [e]
    rw [List.getElem?_map, List.getElem?_map, hx2, hy2] at e1
    have e2 : ctFragPacket (ix xl i) = ctFragPacket (ix yl i) := Option.some.inj e1
    exact absurd e2 (of_decide_eq_false hb)
  · refine E_round (α := Nat) (i + 1) ⟨by omega, ?_⟩ (by omega) ⟨rfl, rfl, rfl, trivial⟩ (List.Sublist.refl _)
    have e1 : (xl.map ctFragPacket)[i]? = some (ctFragPacket (ix xl i)) := by rw [List.getElem?_map, hx2]; rfl
    have e2 : (yl.map ctFragPacket)[i]? = some (ctFragPacket (ix yl i)) := by rw [List.getElem?_map, hy2]; rfl
    rw [take_snoc e1, take_snoc e2, hta, of_decide_eq_true hb]
  · refine retN ?_
    congr 1
    have hie : i = xl.length := by omega
    rw [hie, List.take_of_length_le (by rw [List.length_map]; omega), List.take_of_length_le (by rw [List.length_map]; omega)] at hta
    exact (decide_eq_true hta).symm
theorem drawFragCut_c (v : Value) (l : List Int) (w : World) (hm : Mem w v 1 l.length (l.flatMap fun y : Int => ([.int .u8 y] : List Value))) (hby : ∀ y ∈ l, 0 ≤ y ∧ y ≤ 255) : Calls Try.prog 11 #[v] w
    (RetX (fun y : MFragPacket × Int => SmallW (ctFragPacket y.1) ∧ -70000 ≤ y.2 ∧ y.2 ≤ 4611686018427387904) (fun y => .tuple #[.agg (clFragPacket y.1).toArray, .int .i64 y.2]) (fun y => [.many (rwFragPacket y.1)]) w) := by
  refine enter (n := 43) (E := [(0, _)]) Try.func11 rfl rfl rfl rfl ?_
  repeat' (first
    |(refine gS ?_;(first
        |(refine S_move rfl rfl ?_)
        |(refine S_assign rfl rfl ?_)
        |(refine gStore ?_;(first
            |(apply F_storeN rfl rfl;(focus (first|rfl|assumption|(simp only [List.append_nil,List.all_cons,List.all_nil,Bool.and_true,Bool.true_and,one_int,one_bool,one_string,one_slice,one_pointer, *];done)));exact T.rw24;(focus ((repeat (first|exact Upd.here|apply Upd.there));done));(focus ((repeat (first|exact SetSeg.nil|apply SetSeg.here|apply SetSeg.there));done));(first|exact okst2|exact okst1|exact okst1'))))
        |(refine gCall ?_;(first
            |(show GoS _ _ _ _ _ _ _ (⟨_,_,_,.call ⟨.value (.func 46),_,_⟩,_⟩ :: _);refine S_callX (f := 46) rfl T.pf46 rfl (fun w hst => open_c v l hm hby w hst.ext) rfl (fun zz hzz => ?_);simp only [List.cons_append,List.nil_append];revert hzz;revert zz;intro rd hcr)
            |(show GoS _ _ _ _ _ _ _ (⟨_,_,_,.call ⟨.value (.func 47),_,_⟩,_⟩ :: _);apply S_callB (f := 47) (b := rd.1) (hp := T.pf47) (hv := rfl) (hd := rfl);(case hpick => ((repeat (first|exact Pick.here|exact Pick.last|apply Pick.there|apply Pick.over));done));(case hc => exact l15Whole_c rd.1 rd.2.1 rd.2.2 _ hcr (by omega));(case hnb => (intro _ _;exact ⟨_,List.Mem.head _,rfl⟩));(case hk => (first|exact okst2|exact okst1|exact okst1'));intro zz hzz;simp only [List.cons_append,List.nil_append];revert hzz;revert zz;rintro ⟨x,q⟩ ⟨hx1,hx2,hx3,hx4,hx5,hx6,hx7⟩;dsimp only at hx1 hx2 hx3 hx4 hx5 hx6 hx7 ⊢;refine S_fact (fun w hs => oneFragPacket (Rds.many hs (by (focus ((repeat (first|exact mH|refine mT ?_));done))))) (fun hone => ?_);have hsm := small_ok hx1 hx5;revert kb;intro k2)
            |(show GoS _ _ _ _ _ _ _ (⟨_,_,_,.call ⟨.value (.func 49),_,_⟩,_⟩ :: _);apply S_callB (f := 49) (b := rd.1) (hp := T.pf49) (hv := rfl) (hd := rfl);(case hpick => ((repeat (first|exact Pick.here|exact Pick.last|apply Pick.there|apply Pick.over));done));(case hc => exact l15Piece_c rd.1 rd.2.1 rd.2.2 _ hcr (by omega));(case hnb => (intro _ _;exact ⟨_,List.Mem.head _,rfl⟩));(case hk => (first|exact okst2|exact okst1|exact okst1'));intro zz hzz;simp only [List.cons_append,List.nil_append];revert hzz;revert zz;rintro ⟨z,q2⟩ ⟨hz1,hz2,hz3⟩;dsimp only at hz1 hz2 hz3 ⊢;refine S_fact (fun w hs => oneFragPacket (Rds.many hs (by (focus ((repeat (first|exact mH|refine mT ?_));done))))) (fun hone => ?_))
            |(show GoS _ _ _ _ _ _ _ (⟨_,_,_,.call ⟨.value (.func 48),_,_⟩,_⟩ :: _);apply S_callB (f := 48) (b := rd.1) (hp := T.pf48) (hv := rfl) (hd := rfl);(case hpick => ((repeat (first|exact Pick.here|exact Pick.last|apply Pick.there|apply Pick.over));done));(case hc => exact pick_c rd.1 rd.2.1 rd.2.2 _ _ hcr (by omega));(case hnb => (intro _ _;exact ⟨_,List.Mem.head _,rfl⟩));(case hk => (first|exact okst2|exact okst1|exact okst1'));intro zz hzz;simp only [List.cons_append,List.nil_append];revert hzz;revert zz;intro y hy)))
        |(refine gBin ?_;(first
            |(refine S_eql rfl rfl rfl ?_)))
        |(apply S_alloc rfl (hd := rfl);exact T.zc24;intro kb)
        |(refine S_done ?_)))
    |((first
        |(refine gSeqCond (i := 3) ?_;refine C_join (α := MFragPacket × Int) (fun s => [(5,.pointer (some ⟨kb,0,none⟩)),(4,.pointer (some ⟨rd.1,0,none⟩)),(2,.pointer (some ⟨k2,0,none⟩))]) (fun s => [.blk rd.1 108 (rdr rd.2.1 s.2),.blk kb 24 (clFragPacket s.1),.blk k2 24 (clFragPacket zeroP),.many (rwFragPacket s.1)]) (fun s => Small (ctFragPacket s.1) ∧ 0 ≤ s.2 ∧ s.2 ≤ 3000) ?_ ?_)
        |(refine C_seq ?_)
        |(refine gReg ?_;(first
            |(refine gReg (i := 0) ?_;refine C_plain [(0,2),(1,0)] (by kernel_rfl) (s := [⟨2,none,_,_,_⟩,⟨0,none,_,_,_⟩]) rfl ?_)
            |(refine gReg (i := 1) ?_;refine C_plain [(0,0),(1,2),(2,0)] (by kernel_rfl) (s := [⟨0,none,_,_,_⟩,⟨2,none,_,_,_⟩,⟨0,none,_,_,_⟩]) rfl ?_)
            |(refine gReg (i := 2) ?_;refine C_plain [(0,0),(1,2),(2,2),(3,2)] (by kernel_rfl) (s := [⟨0,none,_,_,_⟩,⟨2,none,_,_,_⟩,⟨2,none,_,_,_⟩,⟨2,none,_,_,_⟩]) rfl ?_)
            |(refine gReg (i := 3) ?_;refine C_plain [(0,0),(1,2),(2,0)] (by kernel_rfl) (s := [⟨0,none,_,_,_⟩,⟨2,none,_,_,_⟩,⟨0,none,_,_,_⟩]) rfl ?_)
            |(refine gReg (i := 4) ?_;refine C_plain [(0,0),(1,2),(2,2)] (by kernel_rfl) (s := [⟨0,none,_,_,_⟩,⟨2,none,_,_,_⟩,⟨2,none,_,_,_⟩]) rfl ?_)))
        |(refine C_split rfl ?_ ?_ <;> (intro hb;(try simp only [decide_eq_true_eq] at hb);(try simp only [decide_eq_false_iff_not] at hb);(try simp only [Bool.not_eq_true'] at hb);(try simp only [Bool.not_eq_false'] at hb);(try (exfalso;first|contradiction|omega))))
        |(refine C_skip ?_)))
    |(refine gE ?_;(first
        |(refine E_then ?_))))
  · exact E_join (α := MFragPacket × Int) (z,q2) ⟨hz1,by dsimp only;omega,by dsimp only;omega⟩ ⟨rfl,rfl,rfl,trivial⟩ (by (focus (apply Ent.flat;(simp only [List.length_append,List.length_cons,List.length_nil,Nat.zero_add,flat_many,flat_row,flat_blk,flat_append,flat_nil,List.map_append,List.map_cons,List.map_nil,List.flatMap_append,List.flatMap_cons,List.flatMap_nil,List.append_assoc,List.append_nil,List.nil_append,List.cons_append,Row.blk_mk,rwSuint8,rwFragPacket,rwSFragPacket,rwFragSlot,rwSFragSlot,rwFragBench]);((repeat (first|exact Pull.nil|(apply Pull.app;(focus ((repeat (first|exact PickA.here|exact PickA.all|apply PickA.there|apply PickA.over));done)))|(apply Pull.cons;(focus ((repeat (first|exact Pick.here|exact Pick.last|apply Pick.there|apply Pick.over));done)))|(apply Pull.atom;(focus ((repeat (first|exact PickA.here|exact PickA.all|apply PickA.there|apply PickA.over));done)))));done))))
  · exact E_join (α := MFragPacket × Int) (x,q + 1) ⟨hsm,by dsimp only;omega,by dsimp only;omega⟩ ⟨rfl,rfl,rfl,trivial⟩ (by (focus (apply Ent.flat;(simp only [List.length_append,List.length_cons,List.length_nil,Nat.zero_add,flat_many,flat_row,flat_blk,flat_append,flat_nil,List.map_append,List.map_cons,List.map_nil,List.flatMap_append,List.flatMap_cons,List.flatMap_nil,List.append_assoc,List.append_nil,List.nil_append,List.cons_append,Row.blk_mk,rwSuint8,rwFragPacket,rwSFragPacket,rwFragSlot,rwSFragSlot,rwFragBench]);((repeat (first|exact Pull.nil|(apply Pull.app;(focus ((repeat (first|exact PickA.here|exact PickA.all|apply PickA.there|apply PickA.over));done)))|(apply Pull.cons;(focus ((repeat (first|exact Pick.here|exact Pick.last|apply Pick.there|apply Pick.over));done)))|(apply Pull.atom;(focus ((repeat (first|exact PickA.here|exact PickA.all|apply PickA.there|apply PickA.over));done)))));done))))
  clear hx1 hx2 hx3 hx4 hx5 hx6 hx7 hsm
  revert kb
  intro k5
  rintro ⟨z, q⟩ ⟨hz, h1, h2⟩
  dsimp only at hz h1 h2 ⊢
  refine C_fact (fun w hs => oneFragPacket (Rds.many (l := rwFragPacket z) hs (by repeat (first | exact List.Mem.head _ | refine List.Mem.tail _ ?_)))) (fun hone => ?_)
  repeat' (first
    |(refine gS ?_;(first
        |(refine S_move rfl rfl ?_)
        |(refine gLoad ?_;(first
            |(apply F_loadAll rfl rfl;(focus ((repeat (first|exact mH|refine mT ?_));done));exact T.rw24;(focus (first|exact free0|exact free1|(refine free2 ?_ ?_;(focus ((repeat (first|(apply apart1;(repeat (first|exact mH|refine mT ?_));done)|(apply apart2;(repeat (first|exact mH|refine mT ?_));done)|refine apart3 ?_));done));(first|exact free1|(refine free2 ?_ ?_;(focus ((repeat (first|(apply apart1;(repeat (first|exact mH|refine mT ?_));done)|(apply apart2;(repeat (first|exact mH|refine mT ?_));done)|refine apart3 ?_));done));exact free1))))))))
        |(refine gStore ?_;(first
            |(apply F_storeN rfl rfl;(focus (first|rfl|assumption|(simp only [List.append_nil,List.all_cons,List.all_nil,Bool.and_true,Bool.true_and,one_int,one_bool,one_string,one_slice,one_pointer, *];done)));exact T.rw24;(focus ((repeat (first|exact Upd.here|apply Upd.there));done));(focus ((repeat (first|exact SetSeg.nil|apply SetSeg.here|apply SetSeg.there));done));(first|exact okst2|exact okst1|exact okst1'))))
        |(refine gCall ?_;(first
            |(show GoS _ _ _ _ _ _ _ (⟨_,_,_,.call ⟨.value (.func 50),_,_⟩,_⟩ :: _);apply S_callS (f := 50) T.pf50 rfl rfl (fun w hst => l15Spoil_c rd.1 rd.2.1 rd.2.2 (q + 1) z hz hcr (by omega) _ w hst);(focus ((repeat (first|exact Pull.nil|(apply Pull.app;(focus ((repeat (first|exact PickA.here|exact PickA.all|apply PickA.there|apply PickA.over));done)))|(apply Pull.cons;(focus ((repeat (first|exact Pick.here|exact Pick.last|apply Pick.there|apply Pick.over));done)))|(apply Pull.atom;(focus ((repeat (first|exact PickA.here|exact PickA.all|apply PickA.there|apply PickA.over));done)))));done));intro zz hzz;simp only [List.cons_append,List.nil_append];revert hzz;revert zz;rintro ⟨z2,q2⟩ ⟨hz1,hz2,hz3⟩;dsimp only at hz1 hz2 hz3 ⊢;refine S_fact (fun w hs => oneFragPacket (Rds.many hs (by (focus ((repeat (first|exact mH|refine mT ?_));done))))) (fun hone => ?_))
            |(show GoS _ _ _ _ _ _ _ (⟨_,_,_,.call ⟨.value (.func 48),_,_⟩,_⟩ :: _);apply S_callB (f := 48) (b := rd.1) (hp := T.pf48) (hv := rfl) (hd := rfl);(case hpick => ((repeat (first|exact Pick.here|exact Pick.last|apply Pick.there|apply Pick.over));done));(case hc => exact pick_c rd.1 rd.2.1 rd.2.2 _ _ hcr (by omega));(case hnb => (intro _ _;exact ⟨_,List.Mem.head _,rfl⟩));(case hk => (first|exact okst2|exact okst1|exact okst1'));intro zz hzz;simp only [List.cons_append,List.nil_append];revert hzz;revert zz;intro y hy)))
        |(refine gBin ?_;(first
            |(refine S_eql rfl rfl rfl ?_)))
        |(refine S_done ?_)))
    |((first
        |(refine gSeqCond (i := 5) ?_;refine C_join (α := MFragPacket × Int) (fun s => [(5,.pointer (some ⟨k5,0,none⟩)),(4,.pointer (some ⟨rd.1,0,none⟩)),(2,.pointer (some ⟨k2,0,none⟩))]) (fun s => [.blk rd.1 108 (rdr rd.2.1 s.2),.blk k5 24 (clFragPacket s.1),.blk k2 24 (clFragPacket zeroP),.many (rwFragPacket s.1)]) (fun s => SmallW (ctFragPacket s.1) ∧ 0 ≤ s.2 ∧ s.2 ≤ 6000) ?_ ?_)
        |(refine C_seq ?_)
        |(refine gReg ?_;(first
            |(refine gReg (i := 5) ?_;refine C_plain [(0,0),(1,2),(2,0)] (by kernel_rfl) (s := [⟨0,none,_,_,_⟩,⟨2,none,_,_,_⟩,⟨0,none,_,_,_⟩]) rfl ?_)
            |(refine gReg (i := 6) ?_;refine C_plain [(0,0),(1,0),(2,2),(3,2)] (by kernel_rfl) (s := [⟨0,none,_,_,_⟩,⟨0,none,_,_,_⟩,⟨2,none,_,_,_⟩,⟨2,none,_,_,_⟩]) rfl ?_)))
        |(refine C_split rfl ?_ ?_ <;> (intro hb;(try simp only [decide_eq_true_eq] at hb);(try simp only [decide_eq_false_iff_not] at hb);(try simp only [Bool.not_eq_true'] at hb);(try simp only [Bool.not_eq_false'] at hb);(try (exfalso;first|contradiction|omega))))
        |(refine C_skip ?_)))
    |(refine gE ?_;(first
        |(refine E_then ?_))))
  · exact E_join (α := MFragPacket × Int) (z2,q2) ⟨hz1,by dsimp only;omega,by dsimp only;omega⟩ ⟨rfl,rfl,rfl,trivial⟩ (by (focus (apply Ent.flat;(simp only [List.length_append,List.length_cons,List.length_nil,Nat.zero_add,flat_many,flat_row,flat_blk,flat_append,flat_nil,List.map_append,List.map_cons,List.map_nil,List.flatMap_append,List.flatMap_cons,List.flatMap_nil,List.append_assoc,List.append_nil,List.nil_append,List.cons_append,Row.blk_mk,rwSuint8,rwFragPacket,rwSFragPacket,rwFragSlot,rwSFragSlot,rwFragBench]);((repeat (first|exact Pull.nil|(apply Pull.app;(focus ((repeat (first|exact PickA.here|exact PickA.all|apply PickA.there|apply PickA.over));done)))|(apply Pull.cons;(focus ((repeat (first|exact Pick.here|exact Pick.last|apply Pick.there|apply Pick.over));done)))|(apply Pull.atom;(focus ((repeat (first|exact PickA.here|exact PickA.all|apply PickA.there|apply PickA.over));done)))));done))))
  · exact E_join (α := MFragPacket × Int) (z,q + 1) ⟨hz.wide,by dsimp only;omega,by dsimp only;omega⟩ ⟨rfl,rfl,rfl,trivial⟩ (by (focus (apply Ent.flat;(simp only [List.length_append,List.length_cons,List.length_nil,Nat.zero_add,flat_many,flat_row,flat_blk,flat_append,flat_nil,List.map_append,List.map_cons,List.map_nil,List.flatMap_append,List.flatMap_cons,List.flatMap_nil,List.append_assoc,List.append_nil,List.nil_append,List.cons_append,Row.blk_mk,rwSuint8,rwFragPacket,rwSFragPacket,rwFragSlot,rwSFragSlot,rwFragBench]);((repeat (first|exact Pull.nil|(apply Pull.app;(focus ((repeat (first|exact PickA.here|exact PickA.all|apply PickA.there|apply PickA.over));done)))|(apply Pull.cons;(focus ((repeat (first|exact Pick.here|exact Pick.last|apply Pick.there|apply Pick.over));done)))|(apply Pull.atom;(focus ((repeat (first|exact PickA.here|exact PickA.all|apply PickA.there|apply PickA.over));done)))));done))))
  clear hz h1 h2
  rintro ⟨z, q⟩ ⟨hz, h1, h2⟩
  dsimp only at hz h1 h2 ⊢
  have hlz : z.2.2.2.2.2.2.2.2.2.length ≤ 200 := hz.len
  refine C_fact (fun w hs => mem_isN (Rds.head (Rds.many (l := rwFragPacket z) hs (by repeat (first | exact List.Mem.head _ | refine List.Mem.tail _ ?_))))) (fun hisn => ?_)
  refine C_fact (fun w hs => oneFragPacket (Rds.many (l := rwFragPacket z) hs (by repeat (first | exact List.Mem.head _ | refine List.Mem.tail _ ?_)))) (fun hone => ?_)
  repeat' (first
    |(refine gS ?_;(first
        |(refine S_move rfl rfl ?_)
        |(refine S_assign rfl rfl ?_)
        |(apply F_field rfl rfl;exact T.fl24_8)
        |(apply F_idxZ rfl rfl rfl;(first|exact T.sl22|exact T.sl73);(focus omega);(focus (first|exact len_nil|(apply len_given;assumption)|(apply len_row;(focus ((repeat (first|exact mH|refine mT ?_));done)))|(apply len_isN;assumption)));(focus omega))
        |(apply F_bs rfl rfl;(first|exact T.el22|exact T.el73);rfl;rfl;rfl;rfl;(focus ((repeat (first|exact Dense.nil|(apply Dense.cons;rfl;rfl)));done));intro sv;(try (refine S_fact (row_one (v := sv) (by (focus ((repeat (first|exact mH|refine mT ?_));done)))) (fun hone => ?_))))
        |(refine gLoad ?_;(first
            |(apply F_load1 rfl rfl;(focus ((repeat (first|exact mH|refine mT ?_));done));(first|exact T.sc3|exact T.sc22);rfl;(focus (first|exact free0|exact free1|(refine free2 ?_ ?_;(focus ((repeat (first|(apply apart1;(repeat (first|exact mH|refine mT ?_));done)|(apply apart2;(repeat (first|exact mH|refine mT ?_));done)|refine apart3 ?_));done));(first|exact free1|(refine free2 ?_ ?_;(focus ((repeat (first|(apply apart1;(repeat (first|exact mH|refine mT ?_));done)|(apply apart2;(repeat (first|exact mH|refine mT ?_));done)|refine apart3 ?_));done));exact free1))))))
            |(apply F_loadI rfl rfl;(first|exact T.sc3|exact T.sc22);(focus (first|exact rd_nil|(apply rd_given;(focus assumption);(focus (first|exact freeG0|exact freeG1|(apply freeG2;(focus ((repeat (first|exact mH|refine mT ?_));done));(first|exact freeG1|(apply freeG2;(focus ((repeat (first|exact mH|refine mT ?_));done));exact freeG1))))))|(apply rd_row;(focus ((repeat (first|exact mH|refine mT ?_));done));(focus (first|exact freeR0|exact freeR1|(refine freeR2 ?_ ?_;(focus ((repeat (first|(apply apartR1;(focus ((repeat (first|exact mH|refine mT ?_));done));done)|(apply apartR2;(focus ((repeat (first|exact mH|refine mT ?_));done));done)|refine apartR3 ?_));done));(first|exact freeR1|(refine freeR2 ?_ ?_;(focus ((repeat (first|(apply apartR1;(focus ((repeat (first|exact mH|refine mT ?_));done));done)|(apply apartR2;(focus ((repeat (first|exact mH|refine mT ?_));done));done)|refine apartR3 ?_));done));exact freeR1))))))));(focus ((repeat (first|exact LitI.nil|apply LitI.cons|apply LitI.app));done));(focus (simp only [List.length_cons,List.length_nil];omega));intro zi hzi;(simp only [List.mem_cons,List.not_mem_nil,or_false] at hzi);(first|(replace hzi : 0 ≤ zi ∧ zi ≤ 16 := by omega)|(replace hzi : 0 ≤ zi ∧ zi ≤ 128 := by omega)|(replace hzi : 0 ≤ zi ∧ zi ≤ 200 := by omega)|(replace hzi : 0 ≤ zi ∧ zi ≤ 65535 := by omega)|(replace hzi : 0 ≤ zi ∧ zi ≤ 70000 := by omega)|(replace hzi : -70000 ≤ zi ∧ zi ≤ 70000 := by omega)|(replace hzi : -70000 ≤ zi ∧ zi ≤ 2199023255552 := by omega)|(replace hzi : -70000 ≤ zi ∧ zi ≤ 4611686018427387904 := by omega)|(replace hzi : -9223372036854775808 ≤ zi ∧ zi ≤ 9223372036854775807 := by omega)))))
        |(refine gCall ?_;(first
            |(show GoS _ _ _ _ _ _ _ (⟨_,_,_,.call ⟨.value (.func 48),_,_⟩,_⟩ :: _);apply S_callB (f := 48) (b := rd.1) (hp := T.pf48) (hv := rfl) (hd := rfl);(case hpick => ((repeat (first|exact Pick.here|exact Pick.last|apply Pick.there|apply Pick.over));done));(case hc => exact pick_c rd.1 rd.2.1 rd.2.2 _ 40 hcr (by omega));(case hnb => (intro _ _;exact ⟨_,List.Mem.head _,rfl⟩));(case hk => (first|exact okst2|exact okst1|exact okst1'));intro zz hzz;simp only [List.cons_append,List.nil_append];revert hzz;revert zz;intro y40 hy40)
            |(show GoS _ _ _ _ _ _ _ (⟨_,_,_,.call ⟨.value (.func 48),_,_⟩,_⟩ :: _);apply S_callB (f := 48) (b := rd.1) (hp := T.pf48) (hv := rfl) (hd := rfl);(case hpick => ((repeat (first|exact Pick.here|exact Pick.last|apply Pick.there|apply Pick.over));done));(case hc => exact pick_c rd.1 rd.2.1 rd.2.2 _ _ hcr (by omega));(case hnb => (intro _ _;exact ⟨_,List.Mem.head _,rfl⟩));(case hk => (first|exact okst2|exact okst1|exact okst1'));intro zz hzz;simp only [List.cons_append,List.nil_append];revert hzz;revert zz;intro y hy)
            |(apply F_len rfl rfl rfl;(focus exact ⟨_,_,by (first|exact T.sl22|exact T.sl73)⟩);(focus (first|exact len_nil|(apply len_given;assumption)|(apply len_row;(focus ((repeat (first|exact mH|refine mT ?_));done)))|(apply len_isN;assumption))))))
        |(refine gBin ?_;(first
            |(refine S_eql rfl rfl rfl ?_)
            |(refine S_add rfl rfl ?_ rfl ?_;(focus (unfold rng;omega)))))
        |(refine S_done ?_)))
    |((first
        |(refine gSeqCond (i := 8) ?_;refine C_join (α := Int × Int) (fun s => [(6,.int .i64 s.1),(5,.pointer (some ⟨k5,0,none⟩)),(4,.pointer (some ⟨rd.1,0,none⟩)),(2,.pointer (some ⟨k2,0,none⟩))]) (fun s => [.blk rd.1 108 (rdr rd.2.1 s.2),.blk k5 24 (clFragPacket z),.blk k2 24 (clFragPacket zeroP),.many (rwFragPacket z)]) (fun s => -70000 ≤ s.1 ∧ s.1 ≤ 4611686018427387904) ?_ ?_)
        |(refine C_seq ?_)
        |(refine gReg ?_;(first
            |(refine gReg (i := 7) ?_;refine C_plain [(0,0),(1,2),(2,0),(3,0)] (by kernel_rfl) (s := [⟨0,none,_,_,_⟩,⟨2,none,_,_,_⟩,⟨0,none,_,_,_⟩,⟨0,none,_,_,_⟩]) rfl ?_)
            |(refine gReg (i := 8) ?_;refine C_plain [(0,0),(1,2),(2,0)] (by kernel_rfl) (s := [⟨0,none,_,_,_⟩,⟨2,none,_,_,_⟩,⟨0,none,_,_,_⟩]) rfl ?_)
            |(refine gReg (i := 9) ?_;refine C_drawnT1 4 rfl (.br [(0,0),(1,0),(2,0),(3,0),(4,0),(5,0),(6,0),(7,0),(9,0)] (.fin [(8,1),(10,1),(11,0),(12,0),(13,0)]) (.fin [(10,1),(8,1),(11,0),(12,0),(13,0)])) T.mixed (by kernel_rfl) (s := (.br [⟨0,none,_,_,_⟩,⟨0,none,_,_,_⟩,⟨0,none,_,_,_⟩,⟨0,none,_,_,_⟩,⟨0,none,_,_,_⟩,⟨0,none,_,_,_⟩,⟨0,none,_,_,_⟩,⟨0,none,_,_,_⟩,⟨0,none,_,_,_⟩] (.fin [⟨1,none,_,_,_⟩,⟨1,none,_,_,_⟩,⟨0,none,_,_,_⟩,⟨0,none,_,_,_⟩,⟨0,none,_,_,_⟩]) (.fin [⟨1,none,_,_,_⟩,⟨1,none,_,_,_⟩,⟨0,none,_,_,_⟩,⟨0,none,_,_,_⟩,⟨0,none,_,_,_⟩]))) rfl ?_)))
        |(refine C_split rfl ?_ ?_ <;> (intro hb;(try simp only [decide_eq_true_eq] at hb);(try simp only [decide_eq_false_iff_not] at hb);(try simp only [Bool.not_eq_true'] at hb);(try simp only [Bool.not_eq_false'] at hb);(try (exfalso;first|contradiction|omega))))
        |(refine C_skip ?_)
        |(refine T_fin ?_)
        |(refine T_br ?_)))
    |(refine gE ?_;(first
        |(refine E_then ?_)
        |(refine E_calm ?_)
        | (refine E_both ?_ ?_))))
  · exact E_join (α := Int × Int) (zi,q + 1 + 1 + 1) ⟨by dsimp only;omega,by dsimp only;omega⟩ ⟨rfl,rfl,rfl,rfl,trivial⟩ (by (focus (apply Ent.flat;(simp only [List.length_append,List.length_cons,List.length_nil,Nat.zero_add,flat_many,flat_row,flat_blk,flat_append,flat_nil,List.map_append,List.map_cons,List.map_nil,List.flatMap_append,List.flatMap_cons,List.flatMap_nil,List.append_assoc,List.append_nil,List.nil_append,List.cons_append,Row.blk_mk,rwSuint8,rwFragPacket,rwSFragPacket,rwFragSlot,rwSFragSlot,rwFragBench]);((repeat (first|exact Pull.nil|(apply Pull.app;(focus ((repeat (first|exact PickA.here|exact PickA.all|apply PickA.there|apply PickA.over));done)))|(apply Pull.cons;(focus ((repeat (first|exact Pick.here|exact Pick.last|apply Pick.there|apply Pick.over));done)))|(apply Pull.atom;(focus ((repeat (first|exact PickA.here|exact PickA.all|apply PickA.there|apply PickA.over));done)))));done))))
  · exact E_join (α := Int × Int) (zi,q + 1 + 1 + 1) ⟨by dsimp only;omega,by dsimp only;omega⟩ ⟨rfl,rfl,rfl,rfl,trivial⟩ (by (focus (apply Ent.flat;(simp only [List.length_append,List.length_cons,List.length_nil,Nat.zero_add,flat_many,flat_row,flat_blk,flat_append,flat_nil,List.map_append,List.map_cons,List.map_nil,List.flatMap_append,List.flatMap_cons,List.flatMap_nil,List.append_assoc,List.append_nil,List.nil_append,List.cons_append,Row.blk_mk,rwSuint8,rwFragPacket,rwSFragPacket,rwFragSlot,rwSFragSlot,rwFragBench]);((repeat (first|exact Pull.nil|(apply Pull.app;(focus ((repeat (first|exact PickA.here|exact PickA.all|apply PickA.there|apply PickA.over));done)))|(apply Pull.cons;(focus ((repeat (first|exact Pick.here|exact Pick.last|apply Pick.there|apply Pick.over));done)))|(apply Pull.atom;(focus ((repeat (first|exact PickA.here|exact PickA.all|apply PickA.there|apply PickA.over));done)))));done))))
  · exact E_join (α := Int × Int) (12 + y40,q + 1 + 1) ⟨by dsimp only;omega,by dsimp only;omega⟩ ⟨rfl,rfl,rfl,rfl,trivial⟩ (by (focus (apply Ent.flat;(simp only [List.length_append,List.length_cons,List.length_nil,Nat.zero_add,flat_many,flat_row,flat_blk,flat_append,flat_nil,List.map_append,List.map_cons,List.map_nil,List.flatMap_append,List.flatMap_cons,List.flatMap_nil,List.append_assoc,List.append_nil,List.nil_append,List.cons_append,Row.blk_mk,rwSuint8,rwFragPacket,rwSFragPacket,rwFragSlot,rwSFragSlot,rwFragBench]);((repeat (first|exact Pull.nil|(apply Pull.app;(focus ((repeat (first|exact PickA.here|exact PickA.all|apply PickA.there|apply PickA.over));done)))|(apply Pull.cons;(focus ((repeat (first|exact Pick.here|exact Pick.last|apply Pick.there|apply Pick.over));done)))|(apply Pull.atom;(focus ((repeat (first|exact PickA.here|exact PickA.all|apply PickA.there|apply PickA.over));done)))));done))))
  clear h1 h2
  rintro ⟨m, q3⟩ ⟨h1, h2⟩
  dsimp only at h1 h2 ⊢
  repeat' (first
    |(refine gS ?_;(first
        |(refine S_move rfl rfl ?_)
        |(refine S_assign rfl rfl ?_)
        |(refine gLoad ?_;(first
            |(apply F_loadAll rfl rfl;(focus ((repeat (first|exact mH|refine mT ?_));done));exact T.rw24;(focus (first|exact free0|exact free1|(refine free2 ?_ ?_;(focus ((repeat (first|(apply apart1;(repeat (first|exact mH|refine mT ?_));done)|(apply apart2;(repeat (first|exact mH|refine mT ?_));done)|refine apart3 ?_));done));(first|exact free1|(refine free2 ?_ ?_;(focus ((repeat (first|(apply apart1;(repeat (first|exact mH|refine mT ?_));done)|(apply apart2;(repeat (first|exact mH|refine mT ?_));done)|refine apart3 ?_));done));exact free1))))))))
        |(refine gStore ?_;(first
            |(apply F_storeN rfl rfl;(focus (first|rfl|assumption|(simp only [List.append_nil,List.all_cons,List.all_nil,Bool.and_true,Bool.true_and,one_int,one_bool,one_string,one_slice,one_pointer, *];done)));exact T.rw24;(focus ((repeat (first|exact Upd.here|apply Upd.there));done));(focus ((repeat (first|exact SetSeg.nil|apply SetSeg.here|apply SetSeg.there));done));(first|exact okst2|exact okst1|exact okst1'))))
        |(refine S_done ?_)))
    |((first
        |(refine C_seq ?_)
        |(refine gReg ?_;(first
            |(refine gReg (i := 10) ?_;refine C_plain [(0,0),(1,0),(2,2),(3,0)] (by kernel_rfl) (s := [⟨0,none,_,_,_⟩,⟨0,none,_,_,_⟩,⟨2,none,_,_,_⟩,⟨0,none,_,_,_⟩]) rfl ?_)))
        |(refine C_ret ?_)))
    |(refine gE ?_;(first
        |(refine E_then ?_)
        |(apply E_ret2 rfl;(first|exact Res.tmp rfl|(apply R_cellAll rfl;(focus ((repeat (first|exact mH|refine mT ?_));done));exact T.rw24)|(apply R_cell1 rfl;(focus ((repeat (first|exact mH|refine mT ?_));done));(first|exact T.sc3|exact T.sc22)));(first|exact Res.tmp rfl|(apply R_cellAll rfl;(focus ((repeat (first|exact mH|refine mT ?_));done));exact T.rw24)|(apply R_cell1 rfl;(focus ((repeat (first|exact mH|refine mT ?_));done));(first|exact T.sc3|exact T.sc22)))))))
  exact retX (z,m) ⟨hz,h1,h2⟩ rfl (by (focus (apply Ent.flat;(simp only [List.length_append,List.length_cons,List.length_nil,Nat.zero_add,flat_many,flat_row,flat_blk,flat_append,flat_nil,List.map_append,List.map_cons,List.map_nil,List.flatMap_append,List.flatMap_cons,List.flatMap_nil,List.append_assoc,List.append_nil,List.nil_append,List.cons_append,Row.blk_mk,rwSuint8,rwFragPacket,rwSFragPacket,rwFragSlot,rwSFragSlot,rwFragBench]);((repeat (first|exact Pull.nil|(apply Pull.app;(focus ((repeat (first|exact PickA.here|exact PickA.all|apply PickA.there|apply PickA.over));done)))|(apply Pull.cons;(focus ((repeat (first|exact Pick.here|exact Pick.last|apply Pick.there|apply Pick.over));done)))|(apply Pull.atom;(focus ((repeat (first|exact PickA.here|exact PickA.all|apply PickA.there|apply PickA.over));done)))));done))))
end Go.Proofs.Ytodhjpnfokkfeaa

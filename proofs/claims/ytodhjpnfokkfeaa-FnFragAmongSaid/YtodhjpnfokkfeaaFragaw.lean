/- Drawn: a packet whose pieces come among those of others. -/
import Derived.Test.YtodhjpnfokkfeaaFragav
import Derived.Test.YtodhjpnfokkfeaaFragaa
import Derived.Test.YtodhjpnfokkfeaaFragq
set_option linter.unusedSimpArgs false
set_option linter.unusedVariables false
namespace Go.Proofs.Ytodhjpnfokkfeaa
open Go Go.RowKit
attribute [local irreducible] Calls GoS GoC GoE GoT Mid IsEq IsFl IsSc IsRw IsSl IsEl IsSt IsFs sp Mem Rd LenOf szR
theorem many_of {P : CFragPacket} {m : Int} (h : (cutC P m).2 = 0) (hs : ¬ sizeC P ≤ m) (ho : offP P = 0) (hm : moreP P = false) : 2 ≤ (cutC P m).1.length := by
  have h1 := cut_40 h
  by_cases h2 : 2 ≤ (cutC P m).1.length
  · exact h2
  · exfalso
    have hl : (cutC P m).1.length = 1 := by omega
    obtain ⟨d, hd⟩ : ∃ d, (cutC P m).1[0]? = some d := ⟨_, List.getElem?_eq_getElem (by omega)⟩
    have hc := cut_at h hd
    have hmo : moreP d = false := by rw [hc.more, hm, hl]; rfl
    have h3 := (hc.piece.last hmo).2
    have h4 : offP d = 0 := by rw [hc.off, cut_0, ho]
    have hPok := (cutC_0 h).1
    refine hs ?_
    have h5 := hc.size
    unfold sizeC at h5 ⊢
    rw [if_pos hc.piece.ok] at h5
    rw [if_pos hPok]
    unfold endP at h3
    rw [h4, ho] at h3
    unfold datP at h3
    omega
/-- what is asked of the packet that is cut -/
structure Cut9 (c : CFragPacket) : Prop where
  ok : fragOk c = true
  whole : c.2.2.2.2.2.1 = false
  off : offP c = 0
  more : moreP c = false
  src : c.1 = 9
  len : 13 ≤ (datP c).length ∧ (datP c).length ≤ 128
  byte : ∀ b ∈ datP c, 0 ≤ b ∧ b ≤ 255
theorem cut9_in {c : CFragPacket} {m : Int} (h : Cut9 c) (h1 : 12 ≤ m) (h2 : m < 8 + ((datP c).length : Int)) : CutIn c m := by
  have hc := cut_code h.ok h.whole h1
  refine ⟨hc, many_of hc ?_ h.off h.more, h.off, h.more, h.src, h.whole⟩
  unfold sizeC
  rw [if_pos h.ok]
  unfold datP at h2
  omega
theorem src9_ok {c : CFragPacket} (h : fragOk c = true) : fragOk (9, c.2) = true := by
  rw [fragOk_iff] at h ⊢
  exact ⟨by dsimp only; omega, h.2⟩
theorem data_ok {a1 a2 a3 a4 : Int} {l k : List Int} (h : fragOk (9, a1, a2, a3, a4, false, 0, false, l) = true) (hk : k.length ≤ 128) : fragOk (9, a1, a2, a3, a4, false, 0, false, k) = true := by
  rw [fragOk_iff] at h ⊢
  obtain ⟨h0, h1, h2, h3, h4, h5, h6⟩ := h
  refine ⟨h0, h1, h2, h3, h4, ?_⟩
  simp only [offP, moreP, datP, endP] at h5 h6 ⊢
  simp
  omega
/-- what is asked of the list -/
structure Among (c : CFragPacket) (m : Int) (l : List MFragPacket) : Prop where
  cut : CutIn c m
  all : ∀ d ∈ (cutC c m).1, ∃ y ∈ l, ctFragPacket y = d
  each : ∀ y ∈ l, (ctFragPacket y ∈ (cutC c m).1 ∨ Other (ctFragPacket y)) ∧ Small (ctFragPacket y)
set_option maxHeartbeats 2000000 in
theorem drawFragAmong_c (v : Value) (l : List Int) (w : World) (hm : Mem w v 1 l.length (l.flatMap fun y : Int => ([.int .u8 y] : List Value))) (hby : ∀ y ∈ l, 0 ≤ y ∧ y ≤ 255) : Calls Try.prog 41 #[v] w
    (RetX (fun y : MFragPacket × Value × List MFragPacket × List Row => (∃ m, Among (ctFragPacket y.1) m y.2.2.1) ∧ (datP (ctFragPacket y.1)).length ≤ 128 ∧ InB y.2.2.1 y.2.2.2 ∧ y.2.2.1.length ≤ 100) (fun y => .tuple #[.agg (clFragPacket y.1).toArray, y.2.1]) (fun y => [.row y.2.1 24 9 y.2.2.1.length (y.2.2.1.flatMap clFragPacket), .many y.2.2.2, .many (rwFragPacket y.1)]) w) := by
  refine enter (n := 75) (E := [(0, _)]) Try.func41 rfl rfl rfl rfl ?_
  repeat' (first
    |(refine gS ?_;(first
        |(refine S_move rfl rfl ?_)
        |(refine S_assign rfl rfl ?_)
        |(apply F_field rfl rfl;(first|exact T.fl24_0|exact T.fl24_1|exact T.fl24_2|exact T.fl24_3|exact T.fl24_8))
        |(refine gLoad ?_;(first
            |(apply F_load1 rfl rfl;(focus ((repeat (first|exact mH|refine mT ?_));done));(first|exact T.sc3|exact T.sc22);rfl;(focus (first|exact free0|exact free1|(refine free2 ?_ ?_;(focus ((repeat (first|(apply apart1;(repeat (first|exact mH|refine mT ?_));done)|(apply apart2;(repeat (first|exact mH|refine mT ?_));done)|refine apart3 ?_));done));(first|exact free1|(refine free2 ?_ ?_;(focus ((repeat (first|(apply apart1;(repeat (first|exact mH|refine mT ?_));done)|(apply apart2;(repeat (first|exact mH|refine mT ?_));done)|refine apart3 ?_));done));exact free1))))))))
        |(refine gStore ?_;(first
            |(apply F_store1 rfl rfl;(focus (first|rfl|assumption));(first|exact T.sc3|exact T.sc22);(focus ((repeat (first|exact Upd.here|apply Upd.there));done));(focus ((repeat (first|exact SetSeg.nil|apply SetSeg.here|apply SetSeg.there));done));(first|exact okst2|exact okst1|exact okst1'))
            |(apply F_storeN rfl rfl;(focus (first|rfl|assumption|(simp only [List.append_nil,List.all_cons,List.all_nil,Bool.and_true,Bool.true_and,one_int,one_bool,one_string,one_slice,one_pointer, *];done)));exact T.rw24;(focus ((repeat (first|exact Upd.here|apply Upd.there));done));(focus ((repeat (first|exact SetSeg.nil|apply SetSeg.here|apply SetSeg.there));done));(first|exact okst2|exact okst1|exact okst1'))))
        |(refine gCall ?_;(first
            |(show GoS _ _ _ _ _ _ _ (⟨_,_,_,.call ⟨.value (.func 46),_,_⟩,_⟩ :: _);refine S_callX (f := 46) rfl T.pf46 rfl (fun w hst => open_c v l hm hby w hst.ext) rfl (fun zz hzz => ?_);simp only [List.cons_append,List.nil_append];revert hzz;revert zz;intro rd hcr)
            |(show GoS _ _ _ _ _ _ _ (⟨_,_,_,.call ⟨.value (.func 47),_,_⟩,_⟩ :: _);apply S_callB (f := 47) (b := rd.1) (hp := T.pf47) (hv := rfl) (hd := rfl);(case hpick => ((repeat (first|exact Pick.here|exact Pick.last|apply Pick.there|apply Pick.over));done));(case hc => exact l15Whole_c rd.1 rd.2.1 rd.2.2 _ hcr (by omega));(case hnb => (intro _ _;exact ⟨_,List.Mem.head _,rfl⟩));(case hk => (first|exact okst2|exact okst1|exact okst1'));intro zz hzz;simp only [List.cons_append,List.nil_append];revert hzz;revert zz;rintro ⟨x,q⟩ ⟨hx1,hx2,hx3,hx4,hx5,hx6,hx7⟩;dsimp only at hx1 hx2 hx3 hx4 hx5 hx6 hx7 ⊢;refine S_fact (fun w hs => oneFragPacket (Rds.many hs (by (focus ((repeat (first|exact mH|refine mT ?_));done))))) (fun hone => ?_);refine S_fact (fun w hs => many_isN (x := x) hs (by repeat (first|exact mH|refine mT ?_))) (fun hisx => ?_);revert kb;intro k2)
            |(show GoS _ _ _ _ _ _ _ (⟨_,_,_,.call ⟨.value (.func 48),_,_⟩,_⟩ :: _);apply S_callB (f := 48) (b := rd.1) (hp := T.pf48) (hv := rfl) (hd := rfl);(case hpick => ((repeat (first|exact Pick.here|exact Pick.last|apply Pick.there|apply Pick.over));done));(case hc => exact pick_c rd.1 rd.2.1 rd.2.2 _ 60 hcr (by omega));(case hnb => (intro _ _;exact ⟨_,List.Mem.head _,rfl⟩));(case hk => (first|exact okst2|exact okst1|exact okst1'));intro zz hzz;simp only [List.cons_append,List.nil_append];revert hzz;revert zz;intro yn hyn;have hyb : yn < 60 := hyn.2.1 (by omega))
            |(show GoS _ _ _ _ _ _ _ (⟨_,_,_,.call ⟨.value (.func 96),_,_⟩,_⟩ :: _);apply S_callS (f := 96) T.pf96 rfl rfl (fun w hst => l15Data_c rd.1 rd.2.1 rd.2.2 (q + 1) (13 + yn) (by omega) hcr (by omega) _ w hst);(focus ((repeat (first|exact Pull.nil|(apply Pull.app;(focus ((repeat (first|exact PickA.here|exact PickA.all|apply PickA.there|apply PickA.over));done)))|(apply Pull.cons;(focus ((repeat (first|exact Pick.here|exact Pick.last|apply Pick.there|apply Pick.over));done)))|(apply Pull.atom;(focus ((repeat (first|exact PickA.here|exact PickA.all|apply PickA.there|apply PickA.over));done)))));done));intro zz hzz;simp only [List.cons_append,List.nil_append];revert hzz;revert zz;rintro ⟨⟨dv,dl⟩,q2⟩ ⟨hd1,hd2,hd3,hd4⟩;dsimp only at hd1 hd2 hd3 hd4 ⊢;refine S_fact (fun w hs => Rds.one1 (Rds.many hs (by (focus ((repeat (first|exact mH|refine mT ?_));done))))) (fun hone => ?_))
            |(apply F_len rfl rfl rfl;(focus exact ⟨_,_,by (first|exact T.sl22|exact T.sl27)⟩);(focus (first|(focus (first|exact len_nil|(apply len_given;assumption)|(apply len_row;(focus ((repeat (first|exact mH|refine mT ?_));done)))|(apply len_isN;assumption)))|(apply len_sub;(focus (first|exact len_nil|(apply len_given;assumption)|(apply len_row;(focus ((repeat (first|exact mH|refine mT ?_));done)))|(apply len_isN;assumption)));(focus omega);(focus omega)))))))
        |(refine gBin ?_;(first
            |(refine S_lss rfl rfl rfl ?_)
            |(refine S_add rfl rfl ?_ rfl ?_;(focus (unfold rng;omega)))))
        |(apply S_alloc rfl (hd := rfl);exact T.zc24;intro kb)
        |(refine S_done ?_)))
    |((first
        |(refine gSeqCond (i := 4) ?_;refine C_join (α := MFragPacket × Int) (fun s => [(5,.pointer (some ⟨kb,0,none⟩)),(4,.pointer (some ⟨rd.1,0,none⟩)),(2,.pointer (some ⟨k2,0,none⟩))]) (fun s => [.blk rd.1 108 (rdr rd.2.1 s.2),.blk kb 24 (clFragPacket s.1),.blk k2 24 (clFragPacket zeroP),.many (rwFragPacket s.1)]) (fun s => Cut9 (ctFragPacket s.1) ∧ 0 ≤ s.2 ∧ s.2 ≤ 3000) ?_ ?_)
        |(refine C_seq ?_)
        |(refine gReg ?_;(first
            |(refine gReg (i := 0) ?_;refine C_plain [(0,2),(1,0)] (by kernel_rfl) (s := [⟨2,none,_,_,_⟩,⟨0,none,_,_,_⟩]) rfl ?_)
            |(refine gReg (i := 1) ?_;refine C_plain [(0,0),(1,2),(2,0)] (by kernel_rfl) (s := [⟨0,none,_,_,_⟩,⟨2,none,_,_,_⟩,⟨0,none,_,_,_⟩]) rfl ?_)
            |(refine gReg (i := 2) ?_;refine C_plain [(0,0),(1,2),(2,2),(3,2)] (by kernel_rfl) (s := [⟨0,none,_,_,_⟩,⟨2,none,_,_,_⟩,⟨2,none,_,_,_⟩,⟨2,none,_,_,_⟩]) rfl ?_)
            |(refine gReg (i := 3) ?_;refine C_plain [(0,0),(1,2)] (by kernel_rfl) (s := [⟨0,none,_,_,_⟩,⟨2,none,_,_,_⟩]) rfl ?_)
            |(refine gReg (i := 4) ?_;refine C_plain [(0,0),(1,0),(2,0),(3,0)] (by kernel_rfl) (s := [⟨0,none,_,_,_⟩,⟨0,none,_,_,_⟩,⟨0,none,_,_,_⟩,⟨0,none,_,_,_⟩]) rfl ?_)
            |(refine gReg (i := 5) ?_;refine C_plain [(0,0),(1,0),(2,2),(3,0),(4,2),(5,0),(6,2)] (by kernel_rfl) (s := [⟨0,none,_,_,_⟩,⟨0,none,_,_,_⟩,⟨2,none,_,_,_⟩,⟨0,none,_,_,_⟩,⟨2,none,_,_,_⟩,⟨0,none,_,_,_⟩,⟨2,none,_,_,_⟩]) rfl ?_)))
        |(refine C_split rfl ?_ ?_ <;> (intro hb;(try simp only [decide_eq_true_eq] at hb);(try simp only [decide_eq_false_iff_not] at hb);(try simp only [Bool.not_eq_true'] at hb);(try simp only [Bool.not_eq_false'] at hb);(try (exfalso;first|contradiction|omega))))
        |(refine C_skip ?_)))
    |(refine gE ?_;(first
        |(refine E_then ?_))))
  · obtain ⟨a0, a1, a2, a3, a4, a5, a6, a7, xv, xl⟩ := x
    have e5 : a5 = false := hx2
    have e6 : a6 = 0 := hx3
    have e7 : a7 = false := hx4
    subst e5 e6 e7
    have h9 := src9_ok hx1
    have hdl : 13 ≤ dl.length ∧ dl.length ≤ 128 := by omega
    exact E_join (α := MFragPacket × Int) ((9,a1,a2,a3,a4,false,0,false,dv,dl),q2) ⟨⟨data_ok h9 hdl.2,rfl,rfl,rfl,rfl,hdl,hd2⟩,by dsimp only;omega,by dsimp only;omega⟩ ⟨rfl,rfl,rfl,trivial⟩ (by (focus (apply Ent.flat;(simp only [List.length_append,List.length_cons,List.length_nil,Nat.zero_add,flat_many,flat_row,flat_blk,flat_append,flat_nil,List.map_append,List.map_cons,List.map_nil,List.flatMap_append,List.flatMap_cons,List.flatMap_nil,List.append_assoc,List.append_nil,List.nil_append,List.cons_append,Row.blk_mk,rwSuint8,rwFragPacket,rwSFragPacket,rwFragSlot,rwSFragSlot,rwFragBench]);((repeat (first|exact Pull.nil|(apply Pull.app;(focus ((repeat (first|exact PickA.here|exact PickA.all|apply PickA.there|apply PickA.over));done)))|(apply Pull.cons;(focus ((repeat (first|exact Pick.here|exact Pick.last|apply Pick.there|apply Pick.over));done)))|(apply Pull.atom;(focus ((repeat (first|exact PickA.here|exact PickA.all|apply PickA.there|apply PickA.over));done)))));done))))
  · have h9 := src9_ok hx1
    have hok := fragOk_t hx1
    refine E_join (α := MFragPacket × Int) ((9,x.2),q) ⟨⟨h9,hx2,hx3,hx4,rfl,⟨?_,?_⟩,hx5⟩,by dsimp only;omega,by dsimp only;omega⟩ ⟨rfl,rfl,rfl,trivial⟩ (by (focus (apply Ent.flat;(simp only [List.length_append,List.length_cons,List.length_nil,Nat.zero_add,flat_many,flat_row,flat_blk,flat_append,flat_nil,List.map_append,List.map_cons,List.map_nil,List.flatMap_append,List.flatMap_cons,List.flatMap_nil,List.append_assoc,List.append_nil,List.nil_append,List.cons_append,Row.blk_mk,rwSuint8,rwFragPacket,rwSFragPacket,rwFragSlot,rwSFragSlot,rwFragBench]);((repeat (first|exact Pull.nil|(apply Pull.app;(focus ((repeat (first|exact PickA.here|exact PickA.all|apply PickA.there|apply PickA.over));done)))|(apply Pull.cons;(focus ((repeat (first|exact Pick.here|exact Pick.last|apply Pick.there|apply Pick.over));done)))|(apply Pull.atom;(focus ((repeat (first|exact PickA.here|exact PickA.all|apply PickA.there|apply PickA.over));done)))));done))))
    · show 13 ≤ x.2.2.2.2.2.2.2.2.2.length
      omega
    · show (ctFragPacket x).2.2.2.2.2.2.2.2.length ≤ 128
      omega
  clear hx1 hx2 hx3 hx4 hx5 hx6 hx7 hone hisx
  rintro ⟨z, q⟩ ⟨hz, hq0, hq1⟩
  dsimp only at hz hq0 hq1 ⊢
  have hzl : z.2.2.2.2.2.2.2.2.2.length ≤ 128 := hz.len.2
  have hzl0 : 13 ≤ z.2.2.2.2.2.2.2.2.2.length := hz.len.1
  refine C_fact (fun w hs => oneFragPacket (Rds.many (l := rwFragPacket z) hs (by repeat (first | exact List.Mem.head _ | refine List.Mem.tail _ ?_)))) (fun hone => ?_)
  refine C_fact (fun w hs => many_isN (x := z) hs (by repeat (first | exact List.Mem.head _ | refine List.Mem.tail _ ?_))) (fun hisz => ?_)
  repeat' (first
    |(refine gS ?_;(first
        |(refine S_move rfl rfl ?_)
        |(refine S_assign rfl rfl ?_)
        |(apply F_field rfl rfl;(first|exact T.fl24_0|exact T.fl24_1|exact T.fl24_2|exact T.fl24_3|exact T.fl24_8))
        |(refine gLoad ?_;(first
            |(apply F_load1 rfl rfl;(focus ((repeat (first|exact mH|refine mT ?_));done));(first|exact T.sc3|exact T.sc22);rfl;(focus (first|exact free0|exact free1|(refine free2 ?_ ?_;(focus ((repeat (first|(apply apart1;(repeat (first|exact mH|refine mT ?_));done)|(apply apart2;(repeat (first|exact mH|refine mT ?_));done)|refine apart3 ?_));done));(first|exact free1|(refine free2 ?_ ?_;(focus ((repeat (first|(apply apart1;(repeat (first|exact mH|refine mT ?_));done)|(apply apart2;(repeat (first|exact mH|refine mT ?_));done)|refine apart3 ?_));done));exact free1))))))
            |(apply F_loadAll rfl rfl;(focus ((repeat (first|exact mH|refine mT ?_));done));exact T.rw24;(focus (first|exact free0|exact free1|(refine free2 ?_ ?_;(focus ((repeat (first|(apply apart1;(repeat (first|exact mH|refine mT ?_));done)|(apply apart2;(repeat (first|exact mH|refine mT ?_));done)|refine apart3 ?_));done));(first|exact free1|(refine free2 ?_ ?_;(focus ((repeat (first|(apply apart1;(repeat (first|exact mH|refine mT ?_));done)|(apply apart2;(repeat (first|exact mH|refine mT ?_));done)|refine apart3 ?_));done));exact free1))))))))
        |(refine gCall ?_;(first
            |(show GoS _ _ _ _ _ _ _ (⟨_,_,_,.call ⟨.value (.func 48),_,_⟩,_⟩ :: _);apply S_callB (f := 48) (b := rd.1) (hp := T.pf48) (hv := rfl) (hd := rfl);(case hpick => ((repeat (first|exact Pick.here|exact Pick.last|apply Pick.there|apply Pick.over));done));(case hc => exact pick_c rd.1 rd.2.1 rd.2.2 _ 12 hcr (by omega));(case hnb => (intro _ _;exact ⟨_,List.Mem.head _,rfl⟩));(case hk => (first|exact okst2|exact okst1|exact okst1'));intro zz hzz;simp only [List.cons_append,List.nil_append];revert hzz;revert zz;intro n9 hn9;(try obtain ⟨n0,rfl⟩ : ∃ n : Nat,n9 = (n : Int) := ⟨n9.toNat,by omega⟩);have hnb := hn9.2.1 (by omega))
            |(show GoS _ _ _ _ _ _ _ (⟨_,_,_,.call ⟨.value (.func 48),_,_⟩,_⟩ :: _);apply S_callB (f := 48) (b := rd.1) (hp := T.pf48) (hv := rfl) (hd := rfl);(case hpick => ((repeat (first|exact Pick.here|exact Pick.last|apply Pick.there|apply Pick.over));done));(case hc => exact pick_c rd.1 rd.2.1 rd.2.2 _ _ hcr (by omega));(case hnb => (intro _ _;exact ⟨_,List.Mem.head _,rfl⟩));(case hk => (first|exact okst2|exact okst1|exact okst1'));intro zz hzz;simp only [List.cons_append,List.nil_append];revert hzz;revert zz;intro yn hyn;have hyb := hyn.2.1 (by omega))
            |(show GoS _ _ _ _ _ _ _ (⟨_,_,_,.call ⟨.value (.func 13),_,_⟩,_⟩ :: _);refine S_callX (f := 13) rfl T.pf13 rfl (fun w hst => retX_rows (specFragCut_c z (12 + yn) (by omega) (by omega) w (by first|(refine Rds.given hst ?_;assumption)|(apply Rds.many hst;(focus ((repeat (first|exact mH|refine mT ?_));done)))|(apply Rds.row hst;(focus ((repeat (first|exact mH|refine mT ?_));done)))))) rfl (fun zz hzz => ?_);simp only [List.cons_append,List.nil_append];revert hzz;revert zz;rintro ⟨tv,tl⟩ htl;dsimp only at htl ⊢;have hcut : CutIn (ctFragPacket z) (12 + yn) := cut9_in hz (by omega) (by show 12 + yn < 8 + (z.2.2.2.2.2.2.2.2.2.length : Int);omega);have htn : tl.length ≤ 32 := (by have h := congrArg List.length htl;rw [List.length_map] at h;rw [h];exact (cut_40 hcut.code).2))
            |(show GoS _ _ _ _ _ _ _ (⟨_,_,_,.call ⟨.value (.func 97),_,_⟩,_⟩ :: _);apply S_callS (f := 97) T.pf97 rfl rfl (fun w hst => l15Mix_c rd.1 rd.2.1 rd.2.2 (q + 1) hcr (by omega) tv tl (tl.flatMap rwFragPacket) (inB_self tl) (by omega) _ w hst);(focus ((repeat (first|exact Pull.nil|(apply Pull.app;(focus ((repeat (first|exact PickA.here|exact PickA.all|apply PickA.there|apply PickA.over));done)))|(apply Pull.cons;(focus ((repeat (first|exact Pick.here|exact Pick.last|apply Pick.there|apply Pick.over));done)))|(apply Pull.atom;(focus ((repeat (first|exact PickA.here|exact PickA.all|apply PickA.there|apply PickA.over));done)))));done));intro zz hzz;simp only [List.cons_append,List.nil_append];revert hzz;revert zz;rintro ⟨⟨mv,ml⟩,q6⟩ ⟨m1,m2,m3,m4,m5⟩;dsimp only at m1 m2 m3 m4 m5 ⊢)
            |(apply F_len rfl rfl rfl;(focus exact ⟨_,_,by (first|exact T.sl22|exact T.sl27)⟩);(focus (first|(focus (first|exact len_nil|(apply len_given;assumption)|(apply len_row;(focus ((repeat (first|exact mH|refine mT ?_));done)))|(apply len_isN;assumption)))|(apply len_sub;(focus (first|exact len_nil|(apply len_given;assumption)|(apply len_row;(focus ((repeat (first|exact mH|refine mT ?_));done)))|(apply len_isN;assumption)));(focus omega);(focus omega)))))))
        |(refine gBin ?_;(first
            |(refine S_add rfl rfl ?_ rfl ?_;(focus (unfold rng;omega)))
            |(refine S_sub rfl rfl ?_ rfl ?_;(focus (unfold rng;omega)))))
        |(refine S_extract rfl rfl rfl ?_)
        |(refine S_done ?_)))
    |((first
        |(refine C_seq ?_)
        |(refine gReg ?_;(first
            |(refine gReg (i := 6) ?_;refine C_drawn1 4 rfl [(0,0),(1,0),(2,0),(3,0),(4,0),(5,0),(6,1),(7,0),(8,1),(9,0),(10,0),(11,0),(12,0),(13,0)] T.mixed (by kernel_rfl) (s := [⟨0,none,_,_,_⟩,⟨0,none,_,_,_⟩,⟨0,none,_,_,_⟩,⟨0,none,_,_,_⟩,⟨0,none,_,_,_⟩,⟨0,none,_,_,_⟩,⟨1,none,_,_,_⟩,⟨0,none,_,_,_⟩,⟨1,none,_,_,_⟩,⟨0,none,_,_,_⟩,⟨0,none,_,_,_⟩,⟨0,none,_,_,_⟩,⟨0,none,_,_,_⟩,⟨0,none,_,_,_⟩]) rfl ?_)
            |(refine gReg (i := 7) ?_;refine C_plain [(0,0),(1,0),(2,2),(3,0)] (by kernel_rfl) (s := [⟨0,none,_,_,_⟩,⟨0,none,_,_,_⟩,⟨2,none,_,_,_⟩,⟨0,none,_,_,_⟩]) rfl ?_)
            |(refine gReg (i := 8) ?_;refine C_plain [(0,0),(1,2),(2,0)] (by kernel_rfl) (s := [⟨0,none,_,_,_⟩,⟨2,none,_,_,_⟩,⟨0,none,_,_,_⟩]) rfl ?_)))
        |(refine C_block ?_)))
    |(refine gE ?_;(first
        |(refine E_then ?_)
        |(refine E_calm ?_))))
  revert kb
  intro k5
  have hzs := small_ok hz.ok hz.byte
  have hmem : ∀ y ∈ ml, ctFragPacket y ∈ (cutC (ctFragPacket z) (12 + yn)).1 := fun y hy => by rw [← htl]; exact List.mem_map_of_mem ((m1 y).1 hy)
  refine C_loop (α := Nat × Value × List MFragPacket × List Row × Int) (fun s => [(9, .int .i64 (s.1 : Int)), (8, s.2.1), (5, .pointer (some ⟨k5, 0, none⟩)), (4, .pointer (some ⟨rd.1, 0, none⟩)), (2, .pointer (some ⟨k2, 0, none⟩))])
    (fun s => [.blk rd.1 108 (rdr rd.2.1 s.2.2.2.2), .row s.2.1 24 9 s.2.2.1.length (s.2.2.1.flatMap clFragPacket), .many s.2.2.2.1, .blk k5 24 (clFragPacket z), .blk k2 24 (clFragPacket zeroP), .many (rwFragPacket z)])
    (fun s => s.1 ≤ 11 ∧ Among (ctFragPacket z) (12 + yn) s.2.2.1 ∧ InB s.2.2.1 s.2.2.2.1 ∧ s.2.2.1.length + s.1 ≤ 60 ∧ 0 ≤ s.2.2.2.2 ∧ s.2.2.2.2 + 1000 * (s.1 : Int) ≤ 20000) (fun s => s.1) (n0, mv, ml, tl.flatMap rwFragPacket, q6 + 1)
    ⟨by dsimp only; omega, ⟨hcut, fun d hd => ?_, fun y hy => ⟨.inl (hmem y hy), hzs.part (cut_part (hmem y hy)).2⟩⟩, fun y hy => inB_self tl y ((m1 y).1 hy), by dsimp only; omega, by dsimp only; omega, by dsimp only; omega⟩ ⟨rfl, rfl, rfl, rfl, rfl, trivial⟩ (.cons_cons _ (.cons_cons _ (.cons _ (.refl _)))) ?_
  · rw [← htl] at hd
    obtain ⟨y, hy, e⟩ := List.mem_map.1 hd
    exact ⟨y, (m1 y).2 hy, e⟩
  clear m1 m2 m3 m4 m5 hmem hn9 hnb hyn hyb htl htn hq0 hq1
  rintro ⟨n, sv, ol, base, q⟩ ⟨h1, h2, h3, h4, h5, h6⟩
  dsimp only at h1 h2 h3 h4 h5 h6 ⊢
  refine C_fact (fun w hs => inB_one hs h3 (by repeat (first | exact List.Mem.head _ | refine List.Mem.tail _ ?_))) (fun hol => ?_)
  repeat' (first
    |(refine gS ?_;(first
        |(refine S_move rfl rfl ?_)
        |(refine S_assign rfl rfl ?_)
        |(apply F_field rfl rfl;(first|exact T.fl24_0|exact T.fl24_1|exact T.fl24_2|exact T.fl24_3|exact T.fl24_8))
        |(refine gLoad ?_;(first
            |(apply F_loadAll rfl rfl;(focus ((repeat (first|exact mH|refine mT ?_));done));exact T.rw24;(focus (first|exact free0|exact free1|(refine free2 ?_ ?_;(focus ((repeat (first|(apply apart1;(repeat (first|exact mH|refine mT ?_));done)|(apply apart2;(repeat (first|exact mH|refine mT ?_));done)|refine apart3 ?_));done));(first|exact free1|(refine free2 ?_ ?_;(focus ((repeat (first|(apply apart1;(repeat (first|exact mH|refine mT ?_));done)|(apply apart2;(repeat (first|exact mH|refine mT ?_));done)|refine apart3 ?_));done));exact free1))))))))
        |(refine gStore ?_;(first
            |(apply F_store1 rfl rfl;(focus (first|rfl|assumption));(first|exact T.sc3|exact T.sc22);(focus ((repeat (first|exact Upd.here|apply Upd.there));done));(focus ((repeat (first|exact SetSeg.nil|apply SetSeg.here|apply SetSeg.there));done));(first|exact okst2|exact okst1|exact okst1'))
            |(apply F_storeN rfl rfl;(focus (first|rfl|assumption|(simp only [List.append_nil,List.all_cons,List.all_nil,Bool.and_true,Bool.true_and,one_int,one_bool,one_string,one_slice,one_pointer, *];done)));exact T.rw24;(focus ((repeat (first|exact Upd.here|apply Upd.there));done));(focus ((repeat (first|exact SetSeg.nil|apply SetSeg.here|apply SetSeg.there));done));(first|exact okst2|exact okst1|exact okst1'))))
        |(refine gCall ?_;(first
            |(show GoS _ _ _ _ _ _ _ (⟨_,_,_,.call ⟨.value (.func 49),_,_⟩,_⟩ :: _);apply S_callB (f := 49) (b := rd.1) (hp := T.pf49) (hv := rfl) (hd := rfl);(case hpick => ((repeat (first|exact Pick.here|exact Pick.last|apply Pick.there|apply Pick.over));done));(case hc => exact l15Piece_c rd.1 rd.2.1 rd.2.2 _ hcr (by omega));(case hnb => (intro _ _;exact ⟨_,List.Mem.head _,rfl⟩));(case hk => (first|exact okst2|exact okst1|exact okst1'));intro zz hzz;simp only [List.cons_append,List.nil_append];revert hzz;revert zz;rintro ⟨x,q7⟩ ⟨hx1,hx2,hx3⟩;dsimp only at hx1 hx2 hx3 ⊢;refine S_fact (fun w hs => oneFragPacket (Rds.many hs (by (focus ((repeat (first|exact mH|refine mT ?_));done))))) (fun hone => ?_))
            |(show GoS _ _ _ _ _ _ _ (⟨_,_,_,.call ⟨.value (.func 48),_,_⟩,_⟩ :: _);apply S_callB (f := 48) (b := rd.1) (hp := T.pf48) (hv := rfl) (hd := rfl);(case hpick => ((repeat (first|exact Pick.here|exact Pick.last|apply Pick.there|apply Pick.over));done));(case hc => exact pick_c rd.1 rd.2.1 rd.2.2 _ 3 hcr (by omega));(case hnb => (intro _ _;exact ⟨_,List.Mem.head _,rfl⟩));(case hk => (first|exact okst2|exact okst1|exact okst1'));intro zz hzz;simp only [List.cons_append,List.nil_append];revert hzz;revert zz;intro yi hyi;have hyb := hyi.2.1 (by omega))
            |(show GoS _ _ _ _ _ _ _ (⟨_,_,_,.call ⟨.value (.func 48),_,_⟩,_⟩ :: _);apply S_callB (f := 48) (b := rd.1) (hp := T.pf48) (hv := rfl) (hd := rfl);(case hpick => ((repeat (first|exact Pick.here|exact Pick.last|apply Pick.there|apply Pick.over));done));(case hc => exact pick_c rd.1 rd.2.1 rd.2.2 _ _ hcr (by omega));(case hnb => (intro _ _;exact ⟨_,List.Mem.head _,rfl⟩));(case hk => (first|exact okst2|exact okst1|exact okst1'));intro zz hzz;simp only [List.cons_append,List.nil_append];revert hzz;revert zz;intro ki hki;have hkb := hki.2.1 (by omega))
            |(apply F_len rfl rfl rfl;(focus exact ⟨_,_,by (first|exact T.sl22|exact T.sl27)⟩);(focus (first|(focus (first|exact len_nil|(apply len_given;assumption)|(apply len_row;(focus ((repeat (first|exact mH|refine mT ?_));done)))|(apply len_isN;assumption)))|(apply len_sub;(focus (first|exact len_nil|(apply len_given;assumption)|(apply len_row;(focus ((repeat (first|exact mH|refine mT ?_));done)))|(apply len_isN;assumption)));(focus omega);(focus omega)))))))
        |(refine gBin ?_;(first
            |(refine S_gtr rfl rfl rfl ?_)
            |(refine S_add rfl rfl ?_ rfl ?_;(focus (unfold rng;omega)))))
        |(apply S_alloc rfl (hd := rfl);exact T.zc24;intro kb)
        |(refine S_done ?_)))
    |(refine gC ?_;(first
        |(refine C_seq ?_)
        |(refine gReg ?_;(first
            |(refine gReg (i := 9) ?_;refine C_plain [(0,0),(1,0)] (by kernel_rfl) (s := [⟨0,none,_,_,_⟩,⟨0,none,_,_,_⟩]) rfl ?_)
            |(refine gReg (i := 11) ?_;refine C_plain [(0,0),(1,2),(2,2),(3,2)] (by kernel_rfl) (s := [⟨0,none,_,_,_⟩,⟨2,none,_,_,_⟩,⟨2,none,_,_,_⟩,⟨2,none,_,_,_⟩]) rfl ?_)
            |(refine gReg (i := 12) ?_;refine C_plain [(0,0),(1,2),(2,0),(3,2)] (by kernel_rfl) (s := [⟨0,none,_,_,_⟩,⟨2,none,_,_,_⟩,⟨0,none,_,_,_⟩,⟨2,none,_,_,_⟩]) rfl ?_)
            |(refine gReg (i := 13) ?_;refine C_plain [(0,0),(1,2)] (by kernel_rfl) (s := [⟨0,none,_,_,_⟩,⟨2,none,_,_,_⟩]) rfl ?_)
            |(refine gReg (i := 14) ?_;refine C_plain [(0,0),(1,2)] (by kernel_rfl) (s := [⟨0,none,_,_,_⟩,⟨2,none,_,_,_⟩]) rfl ?_)
            |(refine gReg (i := 15) ?_;refine C_plain [(0,0),(1,2)] (by kernel_rfl) (s := [⟨0,none,_,_,_⟩,⟨2,none,_,_,_⟩]) rfl ?_)
            |(refine gReg (i := 16) ?_;refine C_plain [(0,0),(1,0),(2,0),(3,0),(4,2),(5,0)] (by kernel_rfl) (s := [⟨0,none,_,_,_⟩,⟨0,none,_,_,_⟩,⟨0,none,_,_,_⟩,⟨0,none,_,_,_⟩,⟨2,none,_,_,_⟩,⟨0,none,_,_,_⟩]) rfl ?_)
            |(refine gReg (i := 18) ?_;refine C_plain [(0,0),(1,0),(2,2),(3,0)] (by kernel_rfl) (s := [⟨0,none,_,_,_⟩,⟨0,none,_,_,_⟩,⟨2,none,_,_,_⟩,⟨0,none,_,_,_⟩]) rfl ?_)))
        |(refine C_split rfl ?_ ?_ <;> (intro hb;(try simp only [decide_eq_true_eq] at hb);(try simp only [decide_eq_false_iff_not] at hb);(try simp only [Bool.not_eq_true'] at hb);(try simp only [Bool.not_eq_false'] at hb);(try (exfalso;first|contradiction|omega))))
        |(refine C_skip ?_)
        |(refine C_exit ?_)
        |(refine C_ret ?_)
        |(refine C_block ?_)))
    |(refine gE ?_;(first
        |(refine E_then ?_)
        |(refine E_thenX ?_)
        |(refine E_blockY ?_)
        |(apply E_ret2 rfl;(first|exact Res.tmp rfl|(apply R_cellAll rfl;(focus ((repeat (first|exact mH|refine mT ?_));done));exact T.rw24)|(apply R_cell1 rfl;(focus ((repeat (first|exact mH|refine mT ?_));done));(first|exact T.sc3|exact T.sc22)));(first|exact Res.tmp rfl|(apply R_cellAll rfl;(focus ((repeat (first|exact mH|refine mT ?_));done));exact T.rw24)|(apply R_cell1 rfl;(focus ((repeat (first|exact mH|refine mT ?_));done));(first|exact T.sc3|exact T.sc22)))))))
  · have hn : 0 < (n : Int) := by assumption
    obtain ⟨e, hee⟩ : ∃ e : MFragPacket, e = (yi, 0, 1, 0, x.2.2.2.2) := ⟨_, rfl⟩
    have hce : [Value.int .i64 yi, .int .i64 0, .int .i64 1, .int .i64 0, .int .i64 x.2.2.2.2.1, .bool x.2.2.2.2.2.1, .int .i64 x.2.2.2.2.2.2.1, .bool x.2.2.2.2.2.2.2.1, x.2.2.2.2.2.2.2.2.1] = clFragPacket e := by rw [hee]; rfl
    have hre : rwFragPacket x = rwFragPacket e := by rw [hee]; rfl
    have heo : Other (ctFragPacket e) := by
      rw [hee]
      exact ⟨by show yi = 0 ∨ yi = 1 ∨ yi = 2; omega, rfl, rfl, rfl⟩
    have hes : Small (ctFragPacket e) := by
      rw [hee]
      exact ⟨by show -70000 ≤ yi ∧ yi ≤ 70000; omega, by show (-70000 : Int) ≤ 0 ∧ (0 : Int) ≤ 70000; omega, by show (-70000 : Int) ≤ 1 ∧ (1 : Int) ≤ 70000; omega, by show (-70000 : Int) ≤ 0 ∧ (0 : Int) ≤ 70000; omega, hx1.h4, hx1.off, hx1.len, hx1.byte⟩
    have ht3 : (clFragPacket e).all (·.oneCell') = true := by
      rw [← hce]
      simp only [clFragPacket, List.all_cons, one_int, one_bool, Bool.true_and] at hone ⊢
      exact hone
    rw [hce, hre]
    have ht1 : ((ol.drop 0).take (ki.toNat - 0)).flatMap clFragPacket |>.all (·.oneCell') := all_flat fun y hy => hol y (List.mem_of_mem_drop (List.mem_of_mem_take hy))
    have ht2 : ((ol.drop ki.toNat).take (ol.length - ki.toNat)).flatMap clFragPacket |>.all (·.oneCell') := all_flat fun y hy => hol y (List.mem_of_mem_drop (List.mem_of_mem_take hy))
    refine C_forget (E' := [(11, .int .i64 ki), (10, .pointer (some ⟨kb, 0, none⟩)), (9, .int .i64 (n : Int)), (8, sv), (5, .pointer (some ⟨k5, 0, none⟩)), (4, .pointer (some ⟨rd.1, 0, none⟩)), (2, .pointer (some ⟨k2, 0, none⟩))]) ⟨rfl, rfl, rfl, rfl, rfl, rfl, rfl, trivial⟩ (List.Sublist.refl _) ?_
    repeat' (first
      |(refine gS ?_;(first
          |(refine S_move rfl rfl ?_)
          |(refine S_assign rfl rfl ?_)
          |(apply F_slice rfl rfl;(first|exact T.sl22|exact T.sl27);(focus (first|(focus (first|exact len_nil|(apply len_given;assumption)|(apply len_row;(focus ((repeat (first|exact mH|refine mT ?_));done)))|(apply len_isN;assumption)))|(apply len_sub;(focus (first|exact len_nil|(apply len_given;assumption)|(apply len_row;(focus ((repeat (first|exact mH|refine mT ?_));done)))|(apply len_isN;assumption)));(focus omega);(focus omega))));(focus exact rfl);(focus exact ⟨_,_,rfl,by omega,rfl⟩);(focus omega);(focus omega))
          |(apply F_slice rfl rfl;(first|exact T.sl22|exact T.sl27);(focus (first|(focus (first|exact len_nil|(apply len_given;assumption)|(apply len_row;(focus ((repeat (first|exact mH|refine mT ?_));done)))|(apply len_isN;assumption)))|(apply len_sub;(focus (first|exact len_nil|(apply len_given;assumption)|(apply len_row;(focus ((repeat (first|exact mH|refine mT ?_));done)))|(apply len_isN;assumption)));(focus omega);(focus omega))));(focus exact ⟨_,_,rfl,by omega,rfl⟩);(focus exact rfl);(focus omega);(focus omega))
          |(apply F_bs0 rfl rfl;(first|exact T.el22|exact T.el27);rfl;intro sv;(try (refine S_fact (row_one (v := sv) (by (focus ((repeat (first|exact mH|refine mT ?_));done)))) (fun hone => ?_))))
          |(apply F_bs rfl rfl;(first|exact T.el22|exact T.el27);rfl;rfl;rfl;rfl;(focus ((repeat (first|exact Dense.nil|(apply Dense.cons;rfl;rfl)));done));intro sv;(try (refine S_fact (row_one (v := sv) (by (focus ((repeat (first|exact mH|refine mT ?_));done)))) (fun hone => ?_))))
          |(refine gLoad ?_;(first
              |(apply F_loadAll rfl rfl;(focus ((repeat (first|exact mH|refine mT ?_));done));exact T.rw24;(focus (first|exact free0|exact free1|(refine free2 ?_ ?_;(focus ((repeat (first|(apply apart1;(repeat (first|exact mH|refine mT ?_));done)|(apply apart2;(repeat (first|exact mH|refine mT ?_));done)|refine apart3 ?_));done));(first|exact free1|(refine free2 ?_ ?_;(focus ((repeat (first|(apply apart1;(repeat (first|exact mH|refine mT ?_));done)|(apply apart2;(repeat (first|exact mH|refine mT ?_));done)|refine apart3 ?_));done));exact free1))))))))
          |(refine gCall ?_;(first
              |(apply F_append rfl rfl rfl rfl;(first|exact T.el22|exact T.el27);(focus (intro sv;(focus ((repeat (first|exact Upd.here|apply Upd.there));done))));(focus (first|exact rd_nil|(apply rd_given;(focus assumption);(focus (first|exact freeG0|exact freeG1|(apply freeG2;(focus ((repeat (first|exact mH|refine mT ?_));done));(first|exact freeG1|(apply freeG2;(focus ((repeat (first|exact mH|refine mT ?_));done));exact freeG1))))))|(apply rd_row;(focus ((repeat (first|exact mH|refine mT ?_));done));(focus (first|exact freeR0|exact freeR1|(refine freeR2 ?_ ?_;(focus ((repeat (first|(apply apartR1;(focus ((repeat (first|exact mH|refine mT ?_));done));done)|(apply apartR2;(focus ((repeat (first|exact mH|refine mT ?_));done));done)|refine apartR3 ?_));done));(first|exact freeR1|(refine freeR2 ?_ ?_;(focus ((repeat (first|(apply apartR1;(focus ((repeat (first|exact mH|refine mT ?_));done));done)|(apply apartR2;(focus ((repeat (first|exact mH|refine mT ?_));done));done)|refine apartR3 ?_));done));exact freeR1))))))|(apply rd_sub;(focus (apply rd_given;(focus assumption);(focus (first|exact freeG0|exact freeG1|(apply freeG2;(focus ((repeat (first|exact mH|refine mT ?_));done));(first|exact freeG1|(apply freeG2;(focus ((repeat (first|exact mH|refine mT ?_));done));exact freeG1)))))));(focus (intro _;rfl));(focus omega);(focus omega))|(apply rd_sub;(focus (apply rd_row;(focus ((repeat (first|exact mH|refine mT ?_));done));(focus (first|exact freeR0|exact freeR1|(refine freeR2 ?_ ?_;(focus ((repeat (first|(apply apartR1;(focus ((repeat (first|exact mH|refine mT ?_));done));done)|(apply apartR2;(focus ((repeat (first|exact mH|refine mT ?_));done));done)|refine apartR3 ?_));done));(first|exact freeR1|(refine freeR2 ?_ ?_;(focus ((repeat (first|(apply apartR1;(focus ((repeat (first|exact mH|refine mT ?_));done));done)|(apply apartR2;(focus ((repeat (first|exact mH|refine mT ?_));done));done)|refine apartR3 ?_));done));exact freeR1)))))));(focus (intro _;rfl));(focus omega);(focus omega))));(focus (first|rfl|assumption|(apply all_flat;intro _ _;rfl)|(rw [List.append_nil];assumption)|(simp only [List.append_nil,List.all_cons,List.all_nil,Bool.and_true,Bool.true_and,one_int,one_bool,one_string,one_slice,one_pointer, *];done)|simp));(first|exact okst2|exact okst1|exact okst1');(focus (simp only [maxLen];first|omega|(simp only [List.length_take,List.length_drop];omega)));(focus (first|omega|(simp only [List.length_take,List.length_drop];omega)));intro sv;(try (refine S_fact (row_one (v := sv) (by (focus ((repeat (first|exact mH|refine mT ?_));done)))) (fun hone => ?_))))))
          |(refine gBin ?_;(first
              |(refine S_sub rfl rfl ?_ rfl ?_;(focus (unfold rng;omega)))))
          |(refine S_done ?_)
          |(refine S_K rfl ?_)))
      |((first
          |(refine gReg ?_;(first
              |(refine gReg (i := 17) ?_;refine C_drawnT (.br [(1,0),(2,0),(3,0),(8,0),(9,0)] (.br [(0,1)] (.br [(4,2)] (.br [(5,1)] (.br [(6,1)] (.fin [(7,2),(10,1),(11,2),(12,0)]) (.fin [(10,1),(7,2),(11,2),(12,0)])) (.fin [(10,1),(6,1),(7,2),(11,2),(12,0)])) (.fin [(10,1),(5,1),(6,1),(7,2),(11,2),(12,0)])) (.br [] (.br [(5,1)] (.br [(4,2)] (.br [(6,1)] (.fin [(7,2),(10,1),(11,2),(12,0)]) (.fin [(10,1),(7,2),(11,2),(12,0)])) (.fin [(10,1),(6,1),(7,2),(11,2),(12,0)])) (.br [] (.br [(6,1)] (.br [(4,2)] (.fin [(7,2),(10,1),(11,2),(12,0)]) (.fin [(10,1),(7,2),(11,2),(12,0)])) (.fin [(10,1),(4,2),(7,2),(11,2),(12,0)])) (.br [(10,1)] (.fin [(4,2),(6,1),(7,2),(11,2),(12,0)]) (.fin [(6,1),(4,2),(7,2),(11,2),(12,0)])))) (.br [(10,1)] (.fin [(4,2),(5,1),(6,1),(7,2),(11,2),(12,0)]) (.br [(5,1)] (.fin [(4,2),(6,1),(7,2),(11,2),(12,0)]) (.fin [(6,1),(4,2),(7,2),(11,2),(12,0)]))))) (.br [] (.br [(5,1)] (.br [(0,1)] (.br [(4,2)] (.br [(6,1)] (.fin [(7,2),(10,1),(11,2),(12,0)]) (.fin [(10,1),(7,2),(11,2),(12,0)])) (.fin [(10,1),(6,1),(7,2),(11,2),(12,0)])) (.br [] (.br [(6,1)] (.br [(4,2)] (.fin [(7,2),(10,1),(11,2),(12,0)]) (.fin [(10,1),(7,2),(11,2),(12,0)])) (.fin [(10,1),(4,2),(7,2),(11,2),(12,0)])) (.br [(10,1)] (.fin [(4,2),(6,1),(7,2),(11,2),(12,0)]) (.fin [(6,1),(4,2),(7,2),(11,2),(12,0)])))) (.br [] (.br [(6,1)] (.br [(0,1)] (.br [(4,2)] (.fin [(7,2),(10,1),(11,2),(12,0)]) (.fin [(10,1),(7,2),(11,2),(12,0)])) (.fin [(10,1),(4,2),(7,2),(11,2),(12,0)])) (.fin [(10,1),(0,1),(4,2),(7,2),(11,2),(12,0)])) (.br [(10,1)] (.br [(0,1)] (.fin [(4,2),(6,1),(7,2),(11,2),(12,0)]) (.fin [(6,1),(4,2),(7,2),(11,2),(12,0)])) (.fin [(6,1),(0,1),(4,2),(7,2),(11,2),(12,0)])))) (.br [(10,1)] (.br [(0,1)] (.fin [(4,2),(5,1),(6,1),(7,2),(11,2),(12,0)]) (.br [(5,1)] (.fin [(4,2),(6,1),(7,2),(11,2),(12,0)]) (.fin [(6,1),(4,2),(7,2),(11,2),(12,0)]))) (.br [(5,1)] (.br [(0,1)] (.fin [(4,2),(6,1),(7,2),(11,2),(12,0)]) (.fin [(6,1),(4,2),(7,2),(11,2),(12,0)])) (.fin [(6,1),(0,1),(4,2),(7,2),(11,2),(12,0)]))))) [] T.mixed (by kernel_rfl) (s := (.br [⟨0,none,_,_,_⟩,⟨0,none,_,_,_⟩,⟨0,none,_,_,_⟩,⟨0,none,_,_,_⟩,⟨0,none,_,_,_⟩] (.br [⟨1,none,_,_,_⟩] (.br [⟨2,none,_,_,_⟩] (.br [⟨1,none,_,_,_⟩] (.br [⟨1,none,_,_,_⟩] (.fin [⟨2,none,_,_,_⟩,⟨1,none,_,_,_⟩,⟨2,none,_,_,_⟩,⟨0,none,_,_,_⟩]) (.fin [⟨1,none,_,_,_⟩,⟨2,none,_,_,_⟩,⟨2,none,_,_,_⟩,⟨0,none,_,_,_⟩])) (.fin [⟨1,none,_,_,_⟩,⟨1,none,_,_,_⟩,⟨2,none,_,_,_⟩,⟨2,none,_,_,_⟩,⟨0,none,_,_,_⟩])) (.fin [⟨1,none,_,_,_⟩,⟨1,none,_,_,_⟩,⟨1,none,_,_,_⟩,⟨2,none,_,_,_⟩,⟨2,none,_,_,_⟩,⟨0,none,_,_,_⟩])) (.br [] (.br [⟨1,none,_,_,_⟩] (.br [⟨2,none,_,_,_⟩] (.br [⟨1,none,_,_,_⟩] (.fin [⟨2,none,_,_,_⟩,⟨1,none,_,_,_⟩,⟨2,none,_,_,_⟩,⟨0,none,_,_,_⟩]) (.fin [⟨1,none,_,_,_⟩,⟨2,none,_,_,_⟩,⟨2,none,_,_,_⟩,⟨0,none,_,_,_⟩])) (.fin [⟨1,none,_,_,_⟩,⟨1,none,_,_,_⟩,⟨2,none,_,_,_⟩,⟨2,none,_,_,_⟩,⟨0,none,_,_,_⟩])) (.br [] (.br [⟨1,none,_,_,_⟩] (.br [⟨2,none,_,_,_⟩] (.fin [⟨2,none,_,_,_⟩,⟨1,none,_,_,_⟩,⟨2,none,_,_,_⟩,⟨0,none,_,_,_⟩]) (.fin [⟨1,none,_,_,_⟩,⟨2,none,_,_,_⟩,⟨2,none,_,_,_⟩,⟨0,none,_,_,_⟩])) (.fin [⟨1,none,_,_,_⟩,⟨2,none,_,_,_⟩,⟨2,none,_,_,_⟩,⟨2,none,_,_,_⟩,⟨0,none,_,_,_⟩])) (.br [⟨1,none,_,_,_⟩] (.fin [⟨2,none,_,_,_⟩,⟨1,none,_,_,_⟩,⟨2,none,_,_,_⟩,⟨2,none,_,_,_⟩,⟨0,none,_,_,_⟩]) (.fin [⟨1,none,_,_,_⟩,⟨2,none,_,_,_⟩,⟨2,none,_,_,_⟩,⟨2,none,_,_,_⟩,⟨0,none,_,_,_⟩])))) (.br [⟨1,none,_,_,_⟩] (.fin [⟨2,none,_,_,_⟩,⟨1,none,_,_,_⟩,⟨1,none,_,_,_⟩,⟨2,none,_,_,_⟩,⟨2,none,_,_,_⟩,⟨0,none,_,_,_⟩]) (.br [⟨1,none,_,_,_⟩] (.fin [⟨2,none,_,_,_⟩,⟨1,none,_,_,_⟩,⟨2,none,_,_,_⟩,⟨2,none,_,_,_⟩,⟨0,none,_,_,_⟩]) (.fin [⟨1,none,_,_,_⟩,⟨2,none,_,_,_⟩,⟨2,none,_,_,_⟩,⟨2,none,_,_,_⟩,⟨0,none,_,_,_⟩]))))) (.br [] (.br [⟨1,none,_,_,_⟩] (.br [⟨1,none,_,_,_⟩] (.br [⟨2,none,_,_,_⟩] (.br [⟨1,none,_,_,_⟩] (.fin [⟨2,none,_,_,_⟩,⟨1,none,_,_,_⟩,⟨2,none,_,_,_⟩,⟨0,none,_,_,_⟩]) (.fin [⟨1,none,_,_,_⟩,⟨2,none,_,_,_⟩,⟨2,none,_,_,_⟩,⟨0,none,_,_,_⟩])) (.fin [⟨1,none,_,_,_⟩,⟨1,none,_,_,_⟩,⟨2,none,_,_,_⟩,⟨2,none,_,_,_⟩,⟨0,none,_,_,_⟩])) (.br [] (.br [⟨1,none,_,_,_⟩] (.br [⟨2,none,_,_,_⟩] (.fin [⟨2,none,_,_,_⟩,⟨1,none,_,_,_⟩,⟨2,none,_,_,_⟩,⟨0,none,_,_,_⟩]) (.fin [⟨1,none,_,_,_⟩,⟨2,none,_,_,_⟩,⟨2,none,_,_,_⟩,⟨0,none,_,_,_⟩])) (.fin [⟨1,none,_,_,_⟩,⟨2,none,_,_,_⟩,⟨2,none,_,_,_⟩,⟨2,none,_,_,_⟩,⟨0,none,_,_,_⟩])) (.br [⟨1,none,_,_,_⟩] (.fin [⟨2,none,_,_,_⟩,⟨1,none,_,_,_⟩,⟨2,none,_,_,_⟩,⟨2,none,_,_,_⟩,⟨0,none,_,_,_⟩]) (.fin [⟨1,none,_,_,_⟩,⟨2,none,_,_,_⟩,⟨2,none,_,_,_⟩,⟨2,none,_,_,_⟩,⟨0,none,_,_,_⟩])))) (.br [] (.br [⟨1,none,_,_,_⟩] (.br [⟨1,none,_,_,_⟩] (.br [⟨2,none,_,_,_⟩] (.fin [⟨2,none,_,_,_⟩,⟨1,none,_,_,_⟩,⟨2,none,_,_,_⟩,⟨0,none,_,_,_⟩]) (.fin [⟨1,none,_,_,_⟩,⟨2,none,_,_,_⟩,⟨2,none,_,_,_⟩,⟨0,none,_,_,_⟩])) (.fin [⟨1,none,_,_,_⟩,⟨2,none,_,_,_⟩,⟨2,none,_,_,_⟩,⟨2,none,_,_,_⟩,⟨0,none,_,_,_⟩])) (.fin [⟨1,none,_,_,_⟩,⟨1,none,_,_,_⟩,⟨2,none,_,_,_⟩,⟨2,none,_,_,_⟩,⟨2,none,_,_,_⟩,⟨0,none,_,_,_⟩])) (.br [⟨1,none,_,_,_⟩] (.br [⟨1,none,_,_,_⟩] (.fin [⟨2,none,_,_,_⟩,⟨1,none,_,_,_⟩,⟨2,none,_,_,_⟩,⟨2,none,_,_,_⟩,⟨0,none,_,_,_⟩]) (.fin [⟨1,none,_,_,_⟩,⟨2,none,_,_,_⟩,⟨2,none,_,_,_⟩,⟨2,none,_,_,_⟩,⟨0,none,_,_,_⟩])) (.fin [⟨1,none,_,_,_⟩,⟨1,none,_,_,_⟩,⟨2,none,_,_,_⟩,⟨2,none,_,_,_⟩,⟨2,none,_,_,_⟩,⟨0,none,_,_,_⟩])))) (.br [⟨1,none,_,_,_⟩] (.br [⟨1,none,_,_,_⟩] (.fin [⟨2,none,_,_,_⟩,⟨1,none,_,_,_⟩,⟨1,none,_,_,_⟩,⟨2,none,_,_,_⟩,⟨2,none,_,_,_⟩,⟨0,none,_,_,_⟩]) (.br [⟨1,none,_,_,_⟩] (.fin [⟨2,none,_,_,_⟩,⟨1,none,_,_,_⟩,⟨2,none,_,_,_⟩,⟨2,none,_,_,_⟩,⟨0,none,_,_,_⟩]) (.fin [⟨1,none,_,_,_⟩,⟨2,none,_,_,_⟩,⟨2,none,_,_,_⟩,⟨2,none,_,_,_⟩,⟨0,none,_,_,_⟩]))) (.br [⟨1,none,_,_,_⟩] (.br [⟨1,none,_,_,_⟩] (.fin [⟨2,none,_,_,_⟩,⟨1,none,_,_,_⟩,⟨2,none,_,_,_⟩,⟨2,none,_,_,_⟩,⟨0,none,_,_,_⟩]) (.fin [⟨1,none,_,_,_⟩,⟨2,none,_,_,_⟩,⟨2,none,_,_,_⟩,⟨2,none,_,_,_⟩,⟨0,none,_,_,_⟩])) (.fin [⟨1,none,_,_,_⟩,⟨1,none,_,_,_⟩,⟨2,none,_,_,_⟩,⟨2,none,_,_,_⟩,⟨2,none,_,_,_⟩,⟨0,none,_,_,_⟩])))))) rfl ?_)
              |(refine gReg (i := 10) ?_;refine C_plain [(0,0),(1,0),(2,0)] (by kernel_rfl) (s := [⟨0,none,_,_,_⟩,⟨0,none,_,_,_⟩,⟨0,none,_,_,_⟩]) rfl ?_)))
          |(refine T_fin ?_)
          |(refine T_br ?_)))
      |(refine gE ?_;(first
          |(refine E_then ?_)
          |(refine E_block ?_)
          |(refine E_calm ?_)
          |(refine E_both ?_ ?_)
          | (refine E_K ?_))))
    all_goals (
      rw [mix_row, show (n : Int) - 1 = ((n - 1 : Nat) : Int) by omega]
      refine E_roundS (α := Nat × Value × List MFragPacket × List Row × Int) (n - 1,sv,mixL ol ki.toNat e,rwFragPacket e ++ base,q7 + 1 + 1) ⟨by dsimp only;omega,⟨hcut,fun d hd => ?_,fun y hy => ?_⟩,fun y hy r hr => ?_,by dsimp only;rw [mix_len];omega,by dsimp only;omega,by dsimp only;omega⟩ (by dsimp only;omega) ⟨rfl,rfl,rfl,rfl,rfl,trivial⟩ (by (focus (apply Ent.flat;(simp only [List.length_append,List.length_cons,List.length_nil,Nat.zero_add,flat_many,flat_row,flat_blk,flat_append,flat_nil,List.map_append,List.map_cons,List.map_nil,List.flatMap_append,List.flatMap_cons,List.flatMap_nil,List.append_assoc,List.append_nil,List.nil_append,List.cons_append,Row.blk_mk,rwSuint8,rwFragPacket,rwSFragPacket,rwFragSlot,rwSFragSlot,rwFragBench]);((repeat (first|exact Pull.nil|(apply Pull.app;(focus ((repeat (first|exact PickA.here|exact PickA.all|apply PickA.there|apply PickA.over));done)))|(apply Pull.cons;(focus ((repeat (first|exact Pick.here|exact Pick.last|apply Pick.there|apply Pick.over));done)))|(apply Pull.atom;(focus ((repeat (first|exact PickA.here|exact PickA.all|apply PickA.there|apply PickA.over));done)))));done))))
      · obtain ⟨y, hy, e1⟩ := h2.all d hd
        exact ⟨y, mix_mem.2 (.inl hy), e1⟩
      · rcases mix_mem.1 hy with hy | hy
        · exact h2.each y hy
        · rw [hy]; exact ⟨.inr heo, hes⟩
      · rcases mix_mem.1 hy with hy | hy
        · exact List.mem_append_right _ (h3 y hy r hr)
        · rw [hy] at hr; exact List.mem_append_left _ hr)
  · exact retX (z,sv,ol,base) ⟨⟨12 + yn,h2⟩,hz.len.2,h3,by dsimp only;omega⟩ rfl (by (focus (apply Ent.flat;(simp only [List.length_append,List.length_cons,List.length_nil,Nat.zero_add,flat_many,flat_row,flat_blk,flat_append,flat_nil,List.map_append,List.map_cons,List.map_nil,List.flatMap_append,List.flatMap_cons,List.flatMap_nil,List.append_assoc,List.append_nil,List.nil_append,List.cons_append,Row.blk_mk,rwSuint8,rwFragPacket,rwSFragPacket,rwFragSlot,rwSFragSlot,rwFragBench]);((repeat (first|exact Pull.nil|(apply Pull.app;(focus ((repeat (first|exact PickA.here|exact PickA.all|apply PickA.there|apply PickA.over));done)))|(apply Pull.cons;(focus ((repeat (first|exact Pick.here|exact Pick.last|apply Pick.there|apply Pick.over));done)))|(apply Pull.atom;(focus ((repeat (first|exact PickA.here|exact PickA.all|apply PickA.there|apply PickA.over));done)))));done))))
end Go.Proofs.Ytodhjpnfokkfeaa

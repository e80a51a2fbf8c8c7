/- Drawn pieces: one spoilt whose memory others may share. -/
import Derived.Test.YtodhjpnfokkfeaaFragz
import Derived.Test.YtodhjpnfokkfeaaFragv
import Derived.Test.YtodhjpnfokkfeaaSymi
set_option linter.unusedSimpArgs false
set_option linter.unusedVariables false
namespace Go.Proofs.Ytodhjpnfokkfeaa
open Go Go.RowKit
theorem cut_code {c : CFragPacket} {m : Int} (hok : fragOk c = true) (hw : c.2.2.2.2.2.1 = false) (hm : 12 ≤ m) : (cutC c m).2 = 0 := by
  unfold cutC
  rw [if_pos hok, if_neg (by omega)]
  split
  · rfl
  · rw [hw]; rfl
theorem cuts_cover {c : CFragPacket} {r : List CFragPacket} (hok : fragOk c = true) (hw : c.2.2.2.2.2.1 = false) (h : CutsOf c r) : Cover c r ∧ r.length ≤ 64 := by
  obtain ⟨m, hm, _, h⟩ := h
  have h0 := cut_code hok hw hm
  have hc := cut_cover h0
  have h40 := cut_40 h0
  rcases h with rfl | ⟨k, d, n, hd, hn, _, rfl⟩
  · exact ⟨hc, by omega⟩
  · have hmem := List.mem_of_getElem? hd
    have hp := hc.piece d hmem
    have h1 := cut_code hp.ok (hp.whole.trans hw) hn
    have hc1 := cut_cover h1
    have h41 := cut_40 h1
    refine ⟨⟨fun e => ?_, fun e he => ?_, fun a ha hb => ?_⟩, ?_⟩
    · have := congrArg List.length e
      rw [List.length_append, List.length_append, List.length_nil] at this
      omega
    · rcases List.mem_append.1 he with he | he
      · rcases List.mem_append.1 he with he | he
        · exact hc.piece e (List.mem_of_mem_take he)
        · exact hp.trans (hc1.piece e he)
      · exact hc.piece e (List.mem_of_mem_drop he)
    · obtain ⟨e, he, heb⟩ := hc.all a ha hb
      obtain ⟨j, hj⟩ := List.getElem?_of_mem he
      by_cases h2 : j = k
      · subst h2
        rw [hd] at hj
        obtain rfl := Option.some.inj hj
        have h3 := hasB_iff.1 heb
        obtain ⟨f, hf, hfb⟩ := hc1.all a h3.1 h3.2
        exact ⟨f, List.mem_append_left _ (List.mem_append_right _ hf), hfb⟩
      · refine ⟨e, ?_, heb⟩
        rcases Nat.lt_or_ge j k with h3 | h3
        · refine List.mem_append_left _ (List.mem_append_left _ (List.mem_of_getElem? (i := j) ?_))
          rw [List.getElem?_take_of_lt h3]; exact hj
        · refine List.mem_append_right _ (List.mem_of_getElem? (i := j - (k + 1)) ?_)
          rw [List.getElem?_drop, show k + 1 + (j - (k + 1)) = j by omega]; exact hj
    · rw [List.length_append, List.length_append, List.length_take, List.length_drop]
      omega
/-- a packet of which the first k bytes are kept -/
def headP (x : MFragPacket) (k : Nat) : MFragPacket := (x.1, x.2.1, x.2.2.1, x.2.2.2.1, x.2.2.2.2.1, x.2.2.2.2.2.1, x.2.2.2.2.2.2.1, x.2.2.2.2.2.2.2.1, subV x.2.2.2.2.2.2.2.2.1 1 0 k, x.2.2.2.2.2.2.2.2.2.take k)
attribute [local irreducible] Calls GoS GoC GoE GoT Mid IsEq IsFl IsSc IsRw IsSl IsEl IsSt IsFs sp Mem Rd LenOf szR
/-- a whole packet -/
structure Whole0 (c : CFragPacket) : Prop where
  ok : fragOk c = true
  whole : c.2.2.2.2.2.1 = false
  off : offP c = 0
  more : moreP c = false
theorem inB_self (l : List MFragPacket) : InB l (l.flatMap rwFragPacket) := fun y hy _ hr => List.mem_flatMap.2 ⟨y, hy, hr⟩
theorem InB.append {l k : List MFragPacket} {a b : List Row} (h : InB l a) (g : InB k b) : InB (l ++ k) (a ++ b) := fun y hy r hr => by
  rcases List.mem_append.1 hy with h1 | h1
  · exact List.mem_append_left _ (h y h1 r hr)
  · exact List.mem_append_right _ (g y h1 r hr)
attribute [local irreducible] fragOk
end Go.Proofs.Ytodhjpnfokkfeaa
namespace Go.Proofs.Ytodhjpnfokkfeaa
open Go Go.RowKit
attribute [local irreducible] Calls GoS GoC GoE GoT Mid IsEq IsFl IsSc IsRw IsSl IsEl IsSt IsFs sp Mem Rd LenOf szR
theorem l15SpoilB_c {w0 : World} (kr : Nat) (v : Value) (l : List Int) (p : Int) (x : MFragPacket) (base : List Row) (hxb : ∀ r ∈ rwFragPacket x, r ∈ base) (hx : Small (ctFragPacket x)) (hc : Code w0 v l) (hp : 0 ≤ p ∧ p ≤ 1099511500000) (R : List Blk) (w : World) (hs : St w0 w ([.blk kr 108 (rdr v p), .many base] ++ R)) : Calls Try.prog 50 #[.pointer (some ⟨kr, 0, none⟩), .agg (clFragPacket x).toArray] w
    (RetS w0 R (fun z : MFragPacket × List Row × Int => SmallW (ctFragPacket z.1) ∧ (∀ r ∈ rwFragPacket z.1, r ∈ z.2.1) ∧ (∀ r ∈ base, r ∈ z.2.1) ∧ p ≤ z.2.2 ∧ z.2.2 ≤ p + 700) (fun z => .agg (clFragPacket z.1).toArray) (fun z => [.blk kr 108 (rdr v z.2.2), .many z.2.1])) := by
  have hs' : St w0 w (.blk kr 108 (rdr v p) :: .many base :: R) := hs
  have hone0 := oneFragPacket (x := x) (fun r hr => (Rds.many (l := base) hs' (by repeat (first | exact List.Mem.head _ | refine List.Mem.tail _ ?_))) r (hxb r hr))
  have g0 : -70000 ≤ x.1 ∧ x.1 ≤ 70000 := hx.h0
  have g1 : -70000 ≤ x.2.1 ∧ x.2.1 ≤ 70000 := hx.h1
  have g2 : -70000 ≤ x.2.2.1 ∧ x.2.2.1 ≤ 70000 := hx.h2
  have g3 : -70000 ≤ x.2.2.2.1 ∧ x.2.2.2.1 ≤ 70000 := hx.h3
  have g4 : -70000 ≤ x.2.2.2.2.1 ∧ x.2.2.2.2.1 ≤ 70000 := hx.h4
  have g5 : -70000 ≤ x.2.2.2.2.2.2.1 ∧ x.2.2.2.2.2.2.1 ≤ 70000 := hx.off
  refine enterS (n := 79) (E := [(0, _), (1, _)]) Try.func50 rfl rfl rfl rfl hs' ?_
  repeat' (first
    |(refine gS ?_;(first
        |(refine S_move rfl rfl ?_)
        |(refine S_assign rfl rfl ?_)
        |(apply F_field rfl rfl;(first|exact T.fl24_0|exact T.fl24_1|exact T.fl24_2|exact T.fl24_3|exact T.fl24_4|exact T.fl24_5|exact T.fl24_6|exact T.fl24_7|exact T.fl24_8))
        |(apply F_idxZ rfl rfl rfl;exact T.sl73;(focus omega);(focus (first|exact len_nil|(apply len_given;assumption)|(apply len_row;(focus ((repeat (first|exact mH|refine mT ?_));done)))|(apply len_isN;assumption)));(focus omega))
        |(apply F_bs rfl rfl;exact T.el73;rfl;rfl;rfl;rfl;(focus ((repeat (first|exact Dense.nil|(apply Dense.cons;rfl;rfl)));done));intro sv;(try (refine S_fact (row_one (v := sv) (by (focus ((repeat (first|exact mH|refine mT ?_));done)))) (fun hone => ?_))))
        |(refine gLoad ?_;(first
            |(apply F_load1 rfl rfl;(focus ((repeat (first|exact mH|refine mT ?_));done));(first|exact T.sc3|exact T.sc4|exact T.sc22);rfl;(focus (first|exact free0|exact free1|(refine free2 ?_ ?_;(focus ((repeat (first|(apply apart1;(repeat (first|exact mH|refine mT ?_));done)|(apply apart2;(repeat (first|exact mH|refine mT ?_));done)|refine apart3 ?_));done));(first|exact free1|(refine free2 ?_ ?_;(focus ((repeat (first|(apply apart1;(repeat (first|exact mH|refine mT ?_));done)|(apply apart2;(repeat (first|exact mH|refine mT ?_));done)|refine apart3 ?_));done));exact free1))))))
            |(apply F_loadI rfl rfl;(first|exact T.sc3|exact T.sc4|exact T.sc22);(focus (first|exact rd_nil|(apply rd_given;(focus assumption);(focus (first|exact freeG0|exact freeG1|(apply freeG2;(focus ((repeat (first|exact mH|refine mT ?_));done));(first|exact freeG1|(apply freeG2;(focus ((repeat (first|exact mH|refine mT ?_));done));exact freeG1))))))|(apply rd_row;(focus ((repeat (first|exact mH|refine mT ?_));done));(focus (first|exact freeR0|exact freeR1|(refine freeR2 ?_ ?_;(focus ((repeat (first|(apply apartR1;(focus ((repeat (first|exact mH|refine mT ?_));done));done)|(apply apartR2;(focus ((repeat (first|exact mH|refine mT ?_));done));done)|refine apartR3 ?_));done));(first|exact freeR1|(refine freeR2 ?_ ?_;(focus ((repeat (first|(apply apartR1;(focus ((repeat (first|exact mH|refine mT ?_));done));done)|(apply apartR2;(focus ((repeat (first|exact mH|refine mT ?_));done));done)|refine apartR3 ?_));done));exact freeR1))))))));(focus ((repeat (first|exact LitI.nil|apply LitI.cons|apply LitI.app));done));(focus (simp only [List.length_cons,List.length_nil];omega));intro zi hzi;(simp only [List.mem_cons,List.not_mem_nil,or_false] at hzi);(first|(replace hzi : 0 ≤ zi ∧ zi ≤ 16 := by omega)|(replace hzi : 0 ≤ zi ∧ zi ≤ 128 := by omega)|(replace hzi : 0 ≤ zi ∧ zi ≤ 200 := by omega)|(replace hzi : 0 ≤ zi ∧ zi ≤ 65535 := by omega)|(replace hzi : 0 ≤ zi ∧ zi ≤ 70000 := by omega)|(replace hzi : -70000 ≤ zi ∧ zi ≤ 70000 := by omega)|(replace hzi : -70000 ≤ zi ∧ zi ≤ 2199023255552 := by omega)|(replace hzi : -70000 ≤ zi ∧ zi ≤ 4611686018427387904 := by omega)|(replace hzi : -9223372036854775808 ≤ zi ∧ zi ≤ 9223372036854775807 := by omega)))))
        |(refine gStore ?_;(first
            |(apply F_store1 rfl rfl;(focus (first|rfl|assumption));(first|exact T.sc3|exact T.sc4|exact T.sc22);(focus ((repeat (first|exact Upd.here|apply Upd.there));done));(focus ((repeat (first|exact SetSeg.nil|apply SetSeg.here|apply SetSeg.there));done));(first|exact okst2|exact okst1|exact okst1'))))
        |(refine gCall ?_;(first
            |(show GoS _ _ _ _ _ _ _ (⟨_,_,_,.call ⟨.value (.func 48),_,_⟩,_⟩ :: _);apply S_callB (f := 48) (b := kr) (hp := T.pf48) (hv := rfl) (hd := rfl);(case hpick => ((repeat (first|exact Pick.here|exact Pick.last|apply Pick.there|apply Pick.over));done));(case hc => exact pick_c kr v l _ _ hc (by omega));(case hnb => (intro _ _;exact ⟨_,List.Mem.head _,rfl⟩));(case hk => (first|exact okst2|exact okst1|exact okst1'));intro zz hzz;simp only [List.cons_append,List.nil_append];revert hzz;revert zz;intro y hy)
            |(show GoS _ _ _ _ _ _ _ (⟨_,_,_,.call ⟨.value (.func 96),_,_⟩,_⟩ :: _);apply S_callB (f := 96) (b := kr) (hp := T.pf96) (hv := rfl) (hd := rfl);(case hpick => ((repeat (first|exact Pick.here|exact Pick.last|apply Pick.there|apply Pick.over));done));(case hc => exact l15Data_c kr v l _ _ (by omega) hc (by omega));(case hnb => (intro _ _;exact ⟨_,List.Mem.head _,rfl⟩));(case hk => (first|exact okst2|exact okst1|exact okst1'));intro zz hzz;simp only [List.cons_append,List.nil_append];revert hzz;revert zz;rintro ⟨⟨dv,dl⟩,q3⟩ ⟨hd1,hd2,hd3,hd4⟩;dsimp only at hd1 hd2 hd3 hd4 ⊢;refine S_fact (fun w hs => Rds.one1 (Rds.many hs (by (focus ((repeat (first|exact mH|refine mT ?_));done))))) (fun hone => ?_))))
        |(refine gBin ?_;(first
            |(refine S_eql rfl rfl rfl ?_)
            |(refine S_add rfl rfl ?_ rfl ?_;(focus (unfold rng;omega)))))
        |(refine S_box rfl rfl rfl ?_;intro kb)
        |(apply S_alloc rfl (hd := rfl);exact T.zc24;intro kb)
        |(refine S_not rfl rfl ?_)
        |(refine S_done ?_)))
    |((first
        |(refine gSeqCond (i := 1) ?_;rename_i k3;refine C_join (α := MFragPacket × List Row × Int) (fun s => [(3,.pointer (some ⟨k3,0,none⟩)),(4,.pointer (some ⟨kb,0,none⟩)),(0,.pointer (some ⟨kr,0,none⟩))]) (fun s => .blk k3 24 (clFragPacket s.1) :: .many s.2.1 :: .blk kr 108 (rdr v s.2.2) :: .blk kb 24 (clFragPacket zeroP) :: R) (fun s => SmallW (ctFragPacket s.1) ∧ (∀ r ∈ rwFragPacket s.1,r ∈ s.2.1) ∧ (∀ r ∈ base,r ∈ s.2.1) ∧ p ≤ s.2.2 ∧ s.2.2 ≤ p + 700) ?_ ?_)
        |(refine C_seq ?_)
        |(refine gReg ?_;(first
            |(refine gReg (i := 0) ?_;refine C_plain [(0,2),(1,2)] (by kernel_rfl) (s := [⟨2,none,_,_,_⟩,⟨2,none,_,_,_⟩]) rfl ?_)
            |(refine gReg (i := 1) ?_;refine C_plain [(0,0),(1,2)] (by kernel_rfl) (s := [⟨0,none,_,_,_⟩,⟨2,none,_,_,_⟩]) rfl ?_)
            |(refine gReg (i := 3) ?_;refine C_plain [(0,0),(1,0)] (by kernel_rfl) (s := [⟨0,none,_,_,_⟩,⟨0,none,_,_,_⟩]) rfl ?_)
            |(refine gReg (i := 4) ?_;refine C_plain [(0,2),(1,0),(2,2),(3,0),(4,0),(5,0),(6,2)] (by kernel_rfl) (s := [⟨2,none,_,_,_⟩,⟨0,none,_,_,_⟩,⟨2,none,_,_,_⟩,⟨0,none,_,_,_⟩,⟨0,none,_,_,_⟩,⟨0,none,_,_,_⟩,⟨2,none,_,_,_⟩]) rfl ?_)
            |(refine gReg (i := 5) ?_;refine C_plain [(0,0),(1,0)] (by kernel_rfl) (s := [⟨0,none,_,_,_⟩,⟨0,none,_,_,_⟩]) rfl ?_)
            |(refine gReg (i := 6) ?_;refine C_plain [(0,2),(1,0),(2,2),(3,0),(4,0),(5,0),(6,2)] (by kernel_rfl) (s := [⟨2,none,_,_,_⟩,⟨0,none,_,_,_⟩,⟨2,none,_,_,_⟩,⟨0,none,_,_,_⟩,⟨0,none,_,_,_⟩,⟨0,none,_,_,_⟩,⟨2,none,_,_,_⟩]) rfl ?_)
            |(refine gReg (i := 7) ?_;refine C_plain [(0,0),(1,0)] (by kernel_rfl) (s := [⟨0,none,_,_,_⟩,⟨0,none,_,_,_⟩]) rfl ?_)
            |(refine gReg (i := 8) ?_;refine C_plain [(0,2),(1,0),(2,2),(3,0),(4,0),(5,0),(6,2)] (by kernel_rfl) (s := [⟨2,none,_,_,_⟩,⟨0,none,_,_,_⟩,⟨2,none,_,_,_⟩,⟨0,none,_,_,_⟩,⟨0,none,_,_,_⟩,⟨0,none,_,_,_⟩,⟨2,none,_,_,_⟩]) rfl ?_)
            |(refine gReg (i := 9) ?_;refine C_plain [(0,0),(1,0)] (by kernel_rfl) (s := [⟨0,none,_,_,_⟩,⟨0,none,_,_,_⟩]) rfl ?_)
            |(refine gReg (i := 10) ?_;refine C_plain [(0,2),(1,0),(2,2),(3,0),(4,0),(5,0),(6,2)] (by kernel_rfl) (s := [⟨2,none,_,_,_⟩,⟨0,none,_,_,_⟩,⟨2,none,_,_,_⟩,⟨0,none,_,_,_⟩,⟨0,none,_,_,_⟩,⟨0,none,_,_,_⟩,⟨2,none,_,_,_⟩]) rfl ?_)
            |(refine gReg (i := 11) ?_;refine C_plain [(0,0),(1,0)] (by kernel_rfl) (s := [⟨0,none,_,_,_⟩,⟨0,none,_,_,_⟩]) rfl ?_)
            |(refine gReg (i := 12) ?_;refine C_plain [(0,2),(1,0),(2,2),(3,0),(4,0),(5,0),(6,2)] (by kernel_rfl) (s := [⟨2,none,_,_,_⟩,⟨0,none,_,_,_⟩,⟨2,none,_,_,_⟩,⟨0,none,_,_,_⟩,⟨0,none,_,_,_⟩,⟨0,none,_,_,_⟩,⟨2,none,_,_,_⟩]) rfl ?_)
            |(refine gReg (i := 13) ?_;refine C_plain [(0,0),(1,0)] (by kernel_rfl) (s := [⟨0,none,_,_,_⟩,⟨0,none,_,_,_⟩]) rfl ?_)
            |(refine gReg (i := 14) ?_;refine C_drawnT1 0 rfl (.br [(0,0),(1,0),(3,0)] (.fin [(2,1),(4,1),(5,0),(6,0),(7,0),(8,0),(9,2)]) (.fin [(4,1),(2,1),(5,0),(6,0),(7,0),(8,0),(9,2)])) T.mixed (by kernel_rfl) (s := (.br [⟨0,none,_,_,_⟩,⟨0,none,_,_,_⟩,⟨0,none,_,_,_⟩] (.fin [⟨1,none,_,_,_⟩,⟨1,none,_,_,_⟩,⟨0,none,_,_,_⟩,⟨0,none,_,_,_⟩,⟨0,none,_,_,_⟩,⟨0,none,_,_,_⟩,⟨2,none,_,_,_⟩]) (.fin [⟨1,none,_,_,_⟩,⟨1,none,_,_,_⟩,⟨0,none,_,_,_⟩,⟨0,none,_,_,_⟩,⟨0,none,_,_,_⟩,⟨0,none,_,_,_⟩,⟨2,none,_,_,_⟩]))) rfl ?_)
            |(refine gReg (i := 15) ?_;refine C_plain [(0,0),(1,0)] (by kernel_rfl) (s := [⟨0,none,_,_,_⟩,⟨0,none,_,_,_⟩]) rfl ?_)
            |(refine gReg (i := 16) ?_;refine C_plain [(0,0),(1,0),(2,0),(3,0),(4,2)] (by kernel_rfl) (s := [⟨0,none,_,_,_⟩,⟨0,none,_,_,_⟩,⟨0,none,_,_,_⟩,⟨0,none,_,_,_⟩,⟨2,none,_,_,_⟩]) rfl ?_)
            |(refine gReg (i := 17) ?_;refine C_plain [(0,0),(1,0)] (by kernel_rfl) (s := [⟨0,none,_,_,_⟩,⟨0,none,_,_,_⟩]) rfl ?_)
            |(refine gReg (i := 18) ?_;refine C_plain [(0,0),(1,0),(2,0),(3,0),(4,2)] (by kernel_rfl) (s := [⟨0,none,_,_,_⟩,⟨0,none,_,_,_⟩,⟨0,none,_,_,_⟩,⟨0,none,_,_,_⟩,⟨2,none,_,_,_⟩]) rfl ?_)
            |(refine gReg (i := 2) ?_;refine C_plain [(0,0),(1,2),(2,0),(3,2),(4,0),(5,0),(6,2),(7,0),(8,2)] (by kernel_rfl) (s := [⟨0,none,_,_,_⟩,⟨2,none,_,_,_⟩,⟨0,none,_,_,_⟩,⟨2,none,_,_,_⟩,⟨0,none,_,_,_⟩,⟨0,none,_,_,_⟩,⟨2,none,_,_,_⟩,⟨0,none,_,_,_⟩,⟨2,none,_,_,_⟩]) rfl ?_)))
        |(refine C_split rfl ?_ ?_ <;> (intro hb;(try simp only [decide_eq_true_eq] at hb);(try simp only [decide_eq_false_iff_not] at hb);(try simp only [Bool.not_eq_true'] at hb);(try simp only [Bool.not_eq_false'] at hb);(try (exfalso;first|contradiction|omega))))
        |(refine C_block ?_)
        |(refine T_fin ?_)
        |(refine T_br ?_)))
    |(refine gE ?_;(first
        |(refine E_then ?_)
        |(refine E_block ?_)
        |(refine E_calm ?_)
        | (refine E_both ?_ ?_))))
  all_goals try (first
    |(refine E_join (α := MFragPacket × List Row × Int) ((zi,x.2.1,x.2.2.1,x.2.2.2.1,x.2.2.2.2.1,x.2.2.2.2.2.1,x.2.2.2.2.2.2.1,x.2.2.2.2.2.2.2.1,x.2.2.2.2.2.2.2.2),base,p + 1 + 1) ?h1 ?h2 ?h3;(case h3 => (focus (apply Ent.flat;(simp only [List.length_append,List.length_cons,List.length_nil,Nat.zero_add,flat_many,flat_row,flat_blk,flat_append,flat_nil,List.map_append,List.map_cons,List.map_nil,List.flatMap_append,List.flatMap_cons,List.flatMap_nil,List.append_assoc,List.append_nil,List.nil_append,List.cons_append,Row.blk_mk,rwSuint8,rwFragPacket,rwSFragPacket,rwFragSlot,rwSFragSlot,rwFragBench]);((repeat (first|exact Pull.nil|(apply Pull.app;(focus ((repeat (first|exact PickA.here|exact PickA.all|apply PickA.there|apply PickA.over));done)))|(apply Pull.cons;(focus ((repeat (first|exact Pick.here|exact Pick.last|apply Pick.there|apply Pick.over));done)))|(apply Pull.atom;(focus ((repeat (first|exact PickA.here|exact PickA.all|apply PickA.there|apply PickA.over));done)))));done))));(case h2 => exact ⟨rfl,rfl,rfl,trivial⟩);(case h1 => exact ⟨⟨by dsimp only [ctFragPacket];omega,by dsimp only [ctFragPacket];omega,by dsimp only [ctFragPacket];omega,by dsimp only [ctFragPacket];omega,by dsimp only [ctFragPacket];omega,by dsimp only [ctFragPacket,offP];omega,hx.len,hx.byte⟩,fun r hr => hxb r hr,fun r hr => hr,by dsimp only;omega,by dsimp only;omega⟩))
    |(refine E_join (α := MFragPacket × List Row × Int) ((x.1,zi,x.2.2.1,x.2.2.2.1,x.2.2.2.2.1,x.2.2.2.2.2.1,x.2.2.2.2.2.2.1,x.2.2.2.2.2.2.2.1,x.2.2.2.2.2.2.2.2),base,p + 1 + 1) ?h1 ?h2 ?h3;(case h3 => (focus (apply Ent.flat;(simp only [List.length_append,List.length_cons,List.length_nil,Nat.zero_add,flat_many,flat_row,flat_blk,flat_append,flat_nil,List.map_append,List.map_cons,List.map_nil,List.flatMap_append,List.flatMap_cons,List.flatMap_nil,List.append_assoc,List.append_nil,List.nil_append,List.cons_append,Row.blk_mk,rwSuint8,rwFragPacket,rwSFragPacket,rwFragSlot,rwSFragSlot,rwFragBench]);((repeat (first|exact Pull.nil|(apply Pull.app;(focus ((repeat (first|exact PickA.here|exact PickA.all|apply PickA.there|apply PickA.over));done)))|(apply Pull.cons;(focus ((repeat (first|exact Pick.here|exact Pick.last|apply Pick.there|apply Pick.over));done)))|(apply Pull.atom;(focus ((repeat (first|exact PickA.here|exact PickA.all|apply PickA.there|apply PickA.over));done)))));done))));(case h2 => exact ⟨rfl,rfl,rfl,trivial⟩);(case h1 => exact ⟨⟨by dsimp only [ctFragPacket];omega,by dsimp only [ctFragPacket];omega,by dsimp only [ctFragPacket];omega,by dsimp only [ctFragPacket];omega,by dsimp only [ctFragPacket];omega,by dsimp only [ctFragPacket,offP];omega,hx.len,hx.byte⟩,fun r hr => hxb r hr,fun r hr => hr,by dsimp only;omega,by dsimp only;omega⟩))
    |(refine E_join (α := MFragPacket × List Row × Int) ((x.1,x.2.1,zi,x.2.2.2.1,x.2.2.2.2.1,x.2.2.2.2.2.1,x.2.2.2.2.2.2.1,x.2.2.2.2.2.2.2.1,x.2.2.2.2.2.2.2.2),base,p + 1 + 1) ?h1 ?h2 ?h3;(case h3 => (focus (apply Ent.flat;(simp only [List.length_append,List.length_cons,List.length_nil,Nat.zero_add,flat_many,flat_row,flat_blk,flat_append,flat_nil,List.map_append,List.map_cons,List.map_nil,List.flatMap_append,List.flatMap_cons,List.flatMap_nil,List.append_assoc,List.append_nil,List.nil_append,List.cons_append,Row.blk_mk,rwSuint8,rwFragPacket,rwSFragPacket,rwFragSlot,rwSFragSlot,rwFragBench]);((repeat (first|exact Pull.nil|(apply Pull.app;(focus ((repeat (first|exact PickA.here|exact PickA.all|apply PickA.there|apply PickA.over));done)))|(apply Pull.cons;(focus ((repeat (first|exact Pick.here|exact Pick.last|apply Pick.there|apply Pick.over));done)))|(apply Pull.atom;(focus ((repeat (first|exact PickA.here|exact PickA.all|apply PickA.there|apply PickA.over));done)))));done))));(case h2 => exact ⟨rfl,rfl,rfl,trivial⟩);(case h1 => exact ⟨⟨by dsimp only [ctFragPacket];omega,by dsimp only [ctFragPacket];omega,by dsimp only [ctFragPacket];omega,by dsimp only [ctFragPacket];omega,by dsimp only [ctFragPacket];omega,by dsimp only [ctFragPacket,offP];omega,hx.len,hx.byte⟩,fun r hr => hxb r hr,fun r hr => hr,by dsimp only;omega,by dsimp only;omega⟩))
    |(refine E_join (α := MFragPacket × List Row × Int) ((x.1,x.2.1,x.2.2.1,zi,x.2.2.2.2.1,x.2.2.2.2.2.1,x.2.2.2.2.2.2.1,x.2.2.2.2.2.2.2.1,x.2.2.2.2.2.2.2.2),base,p + 1 + 1) ?h1 ?h2 ?h3;(case h3 => (focus (apply Ent.flat;(simp only [List.length_append,List.length_cons,List.length_nil,Nat.zero_add,flat_many,flat_row,flat_blk,flat_append,flat_nil,List.map_append,List.map_cons,List.map_nil,List.flatMap_append,List.flatMap_cons,List.flatMap_nil,List.append_assoc,List.append_nil,List.nil_append,List.cons_append,Row.blk_mk,rwSuint8,rwFragPacket,rwSFragPacket,rwFragSlot,rwSFragSlot,rwFragBench]);((repeat (first|exact Pull.nil|(apply Pull.app;(focus ((repeat (first|exact PickA.here|exact PickA.all|apply PickA.there|apply PickA.over));done)))|(apply Pull.cons;(focus ((repeat (first|exact Pick.here|exact Pick.last|apply Pick.there|apply Pick.over));done)))|(apply Pull.atom;(focus ((repeat (first|exact PickA.here|exact PickA.all|apply PickA.there|apply PickA.over));done)))));done))));(case h2 => exact ⟨rfl,rfl,rfl,trivial⟩);(case h1 => exact ⟨⟨by dsimp only [ctFragPacket];omega,by dsimp only [ctFragPacket];omega,by dsimp only [ctFragPacket];omega,by dsimp only [ctFragPacket];omega,by dsimp only [ctFragPacket];omega,by dsimp only [ctFragPacket,offP];omega,hx.len,hx.byte⟩,fun r hr => hxb r hr,fun r hr => hr,by dsimp only;omega,by dsimp only;omega⟩))
    |(refine E_join (α := MFragPacket × List Row × Int) ((x.1,x.2.1,x.2.2.1,x.2.2.2.1,zi,x.2.2.2.2.2.1,x.2.2.2.2.2.2.1,x.2.2.2.2.2.2.2.1,x.2.2.2.2.2.2.2.2),base,p + 1 + 1) ?h1 ?h2 ?h3;(case h3 => (focus (apply Ent.flat;(simp only [List.length_append,List.length_cons,List.length_nil,Nat.zero_add,flat_many,flat_row,flat_blk,flat_append,flat_nil,List.map_append,List.map_cons,List.map_nil,List.flatMap_append,List.flatMap_cons,List.flatMap_nil,List.append_assoc,List.append_nil,List.nil_append,List.cons_append,Row.blk_mk,rwSuint8,rwFragPacket,rwSFragPacket,rwFragSlot,rwSFragSlot,rwFragBench]);((repeat (first|exact Pull.nil|(apply Pull.app;(focus ((repeat (first|exact PickA.here|exact PickA.all|apply PickA.there|apply PickA.over));done)))|(apply Pull.cons;(focus ((repeat (first|exact Pick.here|exact Pick.last|apply Pick.there|apply Pick.over));done)))|(apply Pull.atom;(focus ((repeat (first|exact PickA.here|exact PickA.all|apply PickA.there|apply PickA.over));done)))));done))));(case h2 => exact ⟨rfl,rfl,rfl,trivial⟩);(case h1 => exact ⟨⟨by dsimp only [ctFragPacket];omega,by dsimp only [ctFragPacket];omega,by dsimp only [ctFragPacket];omega,by dsimp only [ctFragPacket];omega,by dsimp only [ctFragPacket];omega,by dsimp only [ctFragPacket,offP];omega,hx.len,hx.byte⟩,fun r hr => hxb r hr,fun r hr => hr,by dsimp only;omega,by dsimp only;omega⟩))
    |(refine E_join (α := MFragPacket × List Row × Int) ((x.1,x.2.1,x.2.2.1,x.2.2.2.1,x.2.2.2.2.1,x.2.2.2.2.2.1,x.2.2.2.2.2.2.1 + zi,x.2.2.2.2.2.2.2.1,x.2.2.2.2.2.2.2.2),base,p + 1 + 1) ?h1 ?h2 ?h3;(case h3 => (focus (apply Ent.flat;(simp only [List.length_append,List.length_cons,List.length_nil,Nat.zero_add,flat_many,flat_row,flat_blk,flat_append,flat_nil,List.map_append,List.map_cons,List.map_nil,List.flatMap_append,List.flatMap_cons,List.flatMap_nil,List.append_assoc,List.append_nil,List.nil_append,List.cons_append,Row.blk_mk,rwSuint8,rwFragPacket,rwSFragPacket,rwFragSlot,rwSFragSlot,rwFragBench]);((repeat (first|exact Pull.nil|(apply Pull.app;(focus ((repeat (first|exact PickA.here|exact PickA.all|apply PickA.there|apply PickA.over));done)))|(apply Pull.cons;(focus ((repeat (first|exact Pick.here|exact Pick.last|apply Pick.there|apply Pick.over));done)))|(apply Pull.atom;(focus ((repeat (first|exact PickA.here|exact PickA.all|apply PickA.there|apply PickA.over));done)))));done))));(case h2 => exact ⟨rfl,rfl,rfl,trivial⟩);(case h1 => exact ⟨⟨by dsimp only [ctFragPacket];omega,by dsimp only [ctFragPacket];omega,by dsimp only [ctFragPacket];omega,by dsimp only [ctFragPacket];omega,by dsimp only [ctFragPacket];omega,by dsimp only [ctFragPacket,offP];omega,hx.len,hx.byte⟩,fun r hr => hxb r hr,fun r hr => hr,by dsimp only;omega,by dsimp only;omega⟩))
    |(refine E_join (α := MFragPacket × List Row × Int) ((x.1,x.2.1,x.2.2.1,x.2.2.2.1,x.2.2.2.2.1,x.2.2.2.2.2.1,x.2.2.2.2.2.2.1,!x.2.2.2.2.2.2.2.1,x.2.2.2.2.2.2.2.2),base,p + 1) ?h1 ?h2 ?h3;(case h3 => (focus (apply Ent.flat;(simp only [List.length_append,List.length_cons,List.length_nil,Nat.zero_add,flat_many,flat_row,flat_blk,flat_append,flat_nil,List.map_append,List.map_cons,List.map_nil,List.flatMap_append,List.flatMap_cons,List.flatMap_nil,List.append_assoc,List.append_nil,List.nil_append,List.cons_append,Row.blk_mk,rwSuint8,rwFragPacket,rwSFragPacket,rwFragSlot,rwSFragSlot,rwFragBench]);((repeat (first|exact Pull.nil|(apply Pull.app;(focus ((repeat (first|exact PickA.here|exact PickA.all|apply PickA.there|apply PickA.over));done)))|(apply Pull.cons;(focus ((repeat (first|exact Pick.here|exact Pick.last|apply Pick.there|apply Pick.over));done)))|(apply Pull.atom;(focus ((repeat (first|exact PickA.here|exact PickA.all|apply PickA.there|apply PickA.over));done)))));done))));(case h2 => exact ⟨rfl,rfl,rfl,trivial⟩);(case h1 => exact ⟨⟨by dsimp only [ctFragPacket];omega,by dsimp only [ctFragPacket];omega,by dsimp only [ctFragPacket];omega,by dsimp only [ctFragPacket];omega,by dsimp only [ctFragPacket];omega,by dsimp only [ctFragPacket,offP];omega,hx.len,hx.byte⟩,fun r hr => hxb r hr,fun r hr => hr,by dsimp only;omega,by dsimp only;omega⟩))
    |(refine E_join (α := MFragPacket × List Row × Int) ((x.1,x.2.1,x.2.2.1,x.2.2.2.1,x.2.2.2.2.1,!x.2.2.2.2.2.1,x.2.2.2.2.2.2.1,x.2.2.2.2.2.2.2.1,x.2.2.2.2.2.2.2.2),base,p + 1) ?h1 ?h2 ?h3;(case h3 => (focus (apply Ent.flat;(simp only [List.length_append,List.length_cons,List.length_nil,Nat.zero_add,flat_many,flat_row,flat_blk,flat_append,flat_nil,List.map_append,List.map_cons,List.map_nil,List.flatMap_append,List.flatMap_cons,List.flatMap_nil,List.append_assoc,List.append_nil,List.nil_append,List.cons_append,Row.blk_mk,rwSuint8,rwFragPacket,rwSFragPacket,rwFragSlot,rwSFragSlot,rwFragBench]);((repeat (first|exact Pull.nil|(apply Pull.app;(focus ((repeat (first|exact PickA.here|exact PickA.all|apply PickA.there|apply PickA.over));done)))|(apply Pull.cons;(focus ((repeat (first|exact Pick.here|exact Pick.last|apply Pick.there|apply Pick.over));done)))|(apply Pull.atom;(focus ((repeat (first|exact PickA.here|exact PickA.all|apply PickA.there|apply PickA.over));done)))));done))));(case h2 => exact ⟨rfl,rfl,rfl,trivial⟩);(case h1 => exact ⟨⟨by dsimp only [ctFragPacket];omega,by dsimp only [ctFragPacket];omega,by dsimp only [ctFragPacket];omega,by dsimp only [ctFragPacket];omega,by dsimp only [ctFragPacket];omega,by dsimp only [ctFragPacket,offP];omega,hx.len,hx.byte⟩,fun r hr => hxb r hr,fun r hr => hr,by dsimp only;omega,by dsimp only;omega⟩))
    | (refine E_join (α := MFragPacket × List Row × Int) ((x.1, x.2.1, x.2.2.1, x.2.2.2.1, x.2.2.2.2.1, x.2.2.2.2.2.1, x.2.2.2.2.2.2.1, x.2.2.2.2.2.2.2.1, (dv, dl)), base ++ rwSuint8 (dv, dl), q3) ?h1 ?h2 ?h3; (case h3 => (focus (apply Ent.flat; (simp only [List.length_append, List.length_cons, List.length_nil, Nat.zero_add, flat_many, flat_row, flat_blk, flat_append, flat_nil, List.map_append, List.map_cons, List.map_nil, List.flatMap_append, List.flatMap_cons, List.flatMap_nil, List.append_assoc, List.append_nil, List.nil_append, List.cons_append, Row.blk_mk, rwSuint8, rwFragPacket, rwSFragPacket, rwFragSlot, rwSFragSlot, rwFragBench]); ((repeat (first | exact Pull.nil | (apply Pull.app; (focus ((repeat (first | exact PickA.here | exact PickA.all | apply PickA.there | apply PickA.over)); done))) | (apply Pull.cons; (focus ((repeat (first | exact Pick.here | exact Pick.last | apply Pick.there | apply Pick.over)); done))) | (apply Pull.atom; (focus ((repeat (first | exact PickA.here | exact PickA.all | apply PickA.there | apply PickA.over)); done))))); done)))); (case h2 => exact ⟨rfl, rfl, rfl, trivial⟩); (case h1 => exact ⟨⟨by dsimp only [ctFragPacket]; omega, by dsimp only [ctFragPacket]; omega, by dsimp only [ctFragPacket]; omega, by dsimp only [ctFragPacket]; omega, by dsimp only [ctFragPacket]; omega, by dsimp only [ctFragPacket, offP]; omega, by show dl.length ≤ 200; omega, hd2⟩, fun r hr => List.mem_append_right _ hr, fun r hr => List.mem_append_left _ hr, by dsimp only; omega, by dsimp only; omega⟩)))
  rintro ⟨z, bs, q⟩ ⟨hz, hzb, hbb, h1, h2⟩
  dsimp only at hz hzb hbb h1 h2 ⊢
  refine C_fact (fun w hs => oneFragPacket (x := z) (fun r hr => (Rds.many (l := bs) hs (by repeat (first | exact List.Mem.head _ | refine List.Mem.tail _ ?_))) r (hzb r hr))) (fun hone => ?_)
  repeat' (first
    |(refine gS ?_;(first
        |(refine gLoad ?_;(first
            |(apply F_loadAll rfl rfl;(focus ((repeat (first|exact mH|refine mT ?_));done));exact T.rw24;(focus (first|exact free0|exact free1|(refine free2 ?_ ?_;(focus ((repeat (first|(apply apart1;(repeat (first|exact mH|refine mT ?_));done)|(apply apart2;(repeat (first|exact mH|refine mT ?_));done)|refine apart3 ?_));done));(first|exact free1|(refine free2 ?_ ?_;(focus ((repeat (first|(apply apart1;(repeat (first|exact mH|refine mT ?_));done)|(apply apart2;(repeat (first|exact mH|refine mT ?_));done)|refine apart3 ?_));done));exact free1))))))))
        |(refine gStore ?_;(first
            |(apply F_storeN rfl rfl;(focus (first|rfl|assumption|(simp only [List.append_nil,List.all_cons,List.all_nil,Bool.and_true,Bool.true_and,one_int,one_bool,one_string,one_slice,one_pointer, *];done)));exact T.rw24;(focus ((repeat (first|exact Upd.here|apply Upd.there));done));(focus ((repeat (first|exact SetSeg.nil|apply SetSeg.here|apply SetSeg.there));done));(first|exact okst2|exact okst1|exact okst1'))))
        |(refine S_done ?_)))
    |((first
        |(refine C_seq ?_)
        |(refine gReg ?_;(first
            |(refine gReg (i := 19) ?_;refine C_plain [(0,0),(1,2)] (by kernel_rfl) (s := [⟨0,none,_,_,_⟩,⟨2,none,_,_,_⟩]) rfl ?_)))
        |(refine C_ret ?_)))
    |(refine gE ?_;(first
        |(refine E_then ?_)
        |(apply E_ret1 rfl;(first|exact Res.tmp rfl|(apply R_cellAll rfl;(focus ((repeat (first|exact mH|refine mT ?_));done));exact T.rw24)|(apply R_cell1 rfl;(focus ((repeat (first|exact mH|refine mT ?_));done));(first|exact T.sc3|exact T.sc4|exact T.sc22)))))))
  exact retS (z,bs,q) ⟨hz,hzb,hbb,h1,h2⟩ rfl entA
end Go.Proofs.Ytodhjpnfokkfeaa

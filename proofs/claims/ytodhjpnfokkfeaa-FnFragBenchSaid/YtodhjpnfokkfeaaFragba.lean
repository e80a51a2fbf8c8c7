/- Drawn: packets and pieces that come, and ticks. -/
import Derived.Test.YtodhjpnfokkfeaaFragay
import Derived.Test.YtodhjpnfokkfeaaFragaq
set_option linter.unusedSimpArgs false
set_option linter.unusedVariables false
namespace Go.Proofs.Ytodhjpnfokkfeaa
open Go Go.RowKit
theorem snocW2 {l : List MFragPacket} {z : MFragPacket} (h : ∀ y ∈ l, SmallW (ctFragPacket y)) (g : SmallW (ctFragPacket z)) : ∀ y ∈ l ++ [z], SmallW (ctFragPacket y) := fun y hy => by
  rcases List.mem_append.1 hy with h1 | h1
  · exact h y h1
  · rw [List.mem_singleton] at h1
    subst h1
    exact g
theorem appW {l k : List MFragPacket} (h : ∀ y ∈ l, SmallW (ctFragPacket y)) (g : ∀ y ∈ k, SmallW (ctFragPacket y)) : ∀ y ∈ l ++ k, SmallW (ctFragPacket y) := fun y hy => by
  rcases List.mem_append.1 hy with h1 | h1
  · exact h y h1
  · exact g y h1
theorem zero_smallW : SmallW (ctFragPacket zeroP) := ⟨by decide, by decide, by decide, by decide, by decide, by decide, by decide, fun b hb => by cases hb⟩
attribute [local irreducible] Calls GoS GoC GoE GoT Mid IsEq IsFl IsSc IsRw IsSl IsEl IsSt IsFs sp Mem Rd LenOf szR
set_option maxHeartbeats 2000000 in
theorem drawFragCome_c (v : Value) (l : List Int) (w : World) (hm : Mem w v 1 l.length (l.flatMap fun y : Int => ([.int .u8 y] : List Value))) (hby : ∀ y ∈ l, 0 ≤ y ∧ y ≤ 255) : Calls Try.prog 43 #[v] w
    (RetX (fun y : Value × List MFragPacket × List Row => (∀ z ∈ y.2.1, SmallW (ctFragPacket z)) ∧ InB y.2.1 y.2.2 ∧ y.2.1.length ≤ 112) (fun y => y.1) (fun y => [.row y.1 24 9 y.2.1.length (y.2.1.flatMap clFragPacket), .many y.2.2]) w) := by
  refine enter (n := 43) (E := [(0, _)]) Try.func43 rfl rfl rfl rfl ?_
  repeat' (first
    |(refine gS ?_;(first
        |(refine S_move rfl rfl ?_)
        |(refine S_assign rfl rfl ?_)
        |(apply F_bs0 rfl rfl;exact T.el27;rfl;intro sv;(try (refine S_fact (row_one (v := sv) (by (focus ((repeat (first|exact mH|refine mT ?_));done)))) (fun hone => ?_))))
        |(refine gCall ?_;(first
            |(show GoS _ _ _ _ _ _ _ (⟨_,_,_,.call ⟨.value (.func 46),_,_⟩,_⟩ :: _);refine S_callX (f := 46) rfl T.pf46 rfl (fun w hst => open_c v l hm hby w hst.ext) rfl (fun zz hzz => ?_);simp only [List.cons_append,List.nil_append];revert hzz;revert zz;intro rd hcr)
            |(show GoS _ _ _ _ _ _ _ (⟨_,_,_,.call ⟨.value (.func 48),_,_⟩,_⟩ :: _);apply S_callB (f := 48) (b := rd.1) (hp := T.pf48) (hv := rfl) (hd := rfl);(case hpick => ((repeat (first|exact Pick.here|exact Pick.last|apply Pick.there|apply Pick.over));done));(case hc => exact pick_c rd.1 rd.2.1 rd.2.2 _ 8 hcr (by omega));(case hnb => (intro _ _;exact ⟨_,List.Mem.head _,rfl⟩));(case hk => (first|exact okst2|exact okst1|exact okst1'));intro zz hzz;simp only [List.cons_append,List.nil_append];revert hzz;revert zz;intro yn hyn;have hyb := hyn.2.1 (by omega))))
        |(refine gBin ?_;(first
            |(refine S_add rfl rfl ?_ rfl ?_;(focus (unfold rng;omega)))))
        |(refine S_done ?_)))
    |(refine gC ?_;(first
        |(refine C_seq ?_)
        |(refine gReg ?_;(first
            |(refine gReg (i := 0) ?_;refine C_plain [(0,0)] (by kernel_rfl) (s := [⟨0,none,_,_,_⟩]) rfl ?_)
            |(refine gReg (i := 1) ?_;refine C_plain [(0,0),(1,2),(2,0)] (by kernel_rfl) (s := [⟨0,none,_,_,_⟩,⟨2,none,_,_,_⟩,⟨0,none,_,_,_⟩]) rfl ?_)
            |(refine gReg (i := 2) ?_;refine C_plain [(0,2),(1,0)] (by kernel_rfl) (s := [⟨2,none,_,_,_⟩,⟨0,none,_,_,_⟩]) rfl ?_)
            |(refine gReg (i := 3) ?_;refine C_plain [(0,0),(1,2),(2,0),(3,0)] (by kernel_rfl) (s := [⟨0,none,_,_,_⟩,⟨2,none,_,_,_⟩,⟨0,none,_,_,_⟩,⟨0,none,_,_,_⟩]) rfl ?_)))
        |(refine C_block ?_)))
    |(refine gE ?_;(first
        |(refine E_then ?_))))
  obtain ⟨n0, hn0⟩ : ∃ n : Nat, 1 + yn = (n : Int) := ⟨(1 + yn).toNat, by omega⟩
  rw [hn0]
  refine C_ent [.blk rd.1 108 (rdr rd.2.1 (0 + 1)),.row sv 24 9 0 [],.many []] entA ?_
  refine C_loop (α := Nat × Value × List MFragPacket × List Row × Int) (fun s => [(5, .int .i64 (s.1 : Int)), (4, s.2.1), (3, .pointer (some ⟨rd.1, 0, none⟩))])
    (fun s => [.blk rd.1 108 (rdr rd.2.1 s.2.2.2.2), .row s.2.1 24 9 s.2.2.1.length (s.2.2.1.flatMap clFragPacket), .many s.2.2.2.1])
    (fun s => s.1 ≤ 8 ∧ (∀ y ∈ s.2.2.1, SmallW (ctFragPacket y)) ∧ InB s.2.2.1 s.2.2.2.1 ∧ s.2.2.1.length + 14 * s.1 ≤ 112 ∧ 0 ≤ s.2.2.2.2 ∧ s.2.2.2.2 + 30000 * (s.1 : Int) ≤ 300000) (fun s => s.1) (n0, sv, [], [], 0 + 1)
    ⟨by dsimp only; omega, fun y hy => (by cases hy), fun y hy => (by cases hy), by dsimp only [List.length_nil]; omega, by dsimp only; omega, by dsimp only; omega⟩ ⟨rfl, rfl, rfl, trivial⟩ (List.Sublist.refl _) ?_
  clear hn0 hyn hyb yn hone
  rintro ⟨n, sv, ol, base, q⟩ ⟨h1, h2, h3, h4, h5, h6⟩
  dsimp only at h1 h2 h3 h4 h5 h6 ⊢
  repeat' (first
    |(refine gS ?_;(first
        |(refine S_move rfl rfl ?_)
        |(refine S_assign rfl rfl ?_)
        |(apply F_slice rfl rfl;exact T.sl27;(focus (first|(focus (first|exact len_nil|(apply len_given;assumption)|(apply len_row;(focus ((repeat (first|exact mH|refine mT ?_));done)))|(apply len_isN;assumption)))|(apply len_sub;(focus (first|exact len_nil|(apply len_given;assumption)|(apply len_row;(focus ((repeat (first|exact mH|refine mT ?_));done)))|(apply len_isN;assumption)));(focus omega);(focus omega))));(focus exact rfl);(focus exact ⟨_,_,rfl,by omega,rfl⟩);(focus omega);(focus omega))
        |(apply F_bs rfl rfl;exact T.el27;rfl;rfl;rfl;rfl;(focus ((repeat (first|exact Dense.nil|(apply Dense.cons;rfl;rfl)));done));intro sv;(try (refine S_fact (row_one (v := sv) (by (focus ((repeat (first|exact mH|refine mT ?_));done)))) (fun hone => ?_))))
        |(refine gCall ?_;(first
            |(show GoS _ _ _ _ _ _ _ (⟨_,_,_,.call ⟨.value (.func 48),_,_⟩,_⟩ :: _);apply S_callB (f := 48) (b := rd.1) (hp := T.pf48) (hv := rfl) (hd := rfl);(case hpick => ((repeat (first|exact Pick.here|exact Pick.last|apply Pick.there|apply Pick.over));done));(case hc => exact pick_c rd.1 rd.2.1 rd.2.2 _ 5 hcr (by omega));(case hnb => (intro _ _;exact ⟨_,List.Mem.head _,rfl⟩));(case hk => (first|exact okst2|exact okst1|exact okst1'));intro zz hzz;simp only [List.cons_append,List.nil_append];revert hzz;revert zz;intro y5 hy5)
            |(show GoS _ _ _ _ _ _ _ (⟨_,_,_,.call ⟨.value (.func 68),_,_⟩,_⟩ :: _);apply S_callB (f := 68) (b := rd.1) (hp := T.pf68) (hv := rfl) (hd := rfl);(case hpick => ((repeat (first|exact Pick.here|exact Pick.last|apply Pick.there|apply Pick.over));done));(case hc => exact l15Any_c rd.1 rd.2.1 rd.2.2 _ hcr (by omega));(case hnb => (intro _ _;exact ⟨_,List.Mem.head _,rfl⟩));(case hk => (first|exact okst2|exact okst1|exact okst1'));intro zz hzz;simp only [List.cons_append,List.nil_append];revert hzz;revert zz;rintro ⟨x,q5⟩ ⟨hx1,hx2,hx3⟩;dsimp only at hx1 hx2 hx3 ⊢;refine S_fact (fun w hs => oneFragPacket (Rds.many hs (by (focus ((repeat (first|exact mH|refine mT ?_));done))))) (fun hone => ?_))
            |(show GoS _ _ _ _ _ _ _ (⟨_,_,_,.call ⟨.value (.func 62),_,_⟩,_⟩ :: _);apply S_callB (f := 62) (b := rd.1) (hp := T.pf62) (hv := rfl) (hd := rfl);(case hpick => ((repeat (first|exact Pick.here|exact Pick.last|apply Pick.there|apply Pick.over));done));(case hc => exact l15List_c rd.1 rd.2.1 rd.2.2 _ hcr (by omega));(case hnb => (intro _ _;exact ⟨_,List.Mem.head _,rfl⟩));(case hk => (first|exact okst2|exact okst1|exact okst1'));intro zz hzz;simp only [List.cons_append,List.nil_append];revert hzz;revert zz;rintro ⟨sv2,l2,base2,q2⟩ ⟨g1,g2,g3,g4,g5⟩;dsimp only at g1 g2 g3 g4 g5 ⊢;refine S_fact (fun w hs => inB_one hs g2 (by repeat (first|exact mH|refine mT ?_))) (fun hol2 => ?_);have ht0 := all_flat (l := l2) (f := clFragPacket) hol2;have ht1 : ((l2.drop 0).take ((14 : Int).toNat - 0)).flatMap clFragPacket |>.all (·.oneCell') := all_flat fun y hy => hol2 y (List.mem_of_mem_drop (List.mem_of_mem_take hy)))
            |(apply F_len rfl rfl rfl;(focus exact ⟨_,_,by exact T.sl27⟩);(focus (first|(focus (first|exact len_nil|(apply len_given;assumption)|(apply len_row;(focus ((repeat (first|exact mH|refine mT ?_));done)))|(apply len_isN;assumption)))|(apply len_sub;(focus (first|exact len_nil|(apply len_given;assumption)|(apply len_row;(focus ((repeat (first|exact mH|refine mT ?_));done)))|(apply len_isN;assumption)));(focus omega);(focus omega)))))
            |(apply F_append rfl rfl rfl rfl;exact T.el27;(focus (intro sv;(focus ((repeat (first|exact Upd.here|apply Upd.there));done))));(focus (first|exact rd_nil|(apply rd_given;(focus assumption);(focus (first|exact freeG0|exact freeG1)))|(apply rd_row;(focus ((repeat (first|exact mH|refine mT ?_));done));(focus (first|exact freeR0|exact freeR1)))|(apply rd_sub;(focus (apply rd_given;(focus assumption);(focus (first|exact freeG0|exact freeG1))));(focus (intro _;rfl));(focus omega);(focus omega))|(apply rd_sub;(focus (apply rd_row;(focus ((repeat (first|exact mH|refine mT ?_));done));(focus (first|exact freeR0|exact freeR1))));(focus (intro _;rfl));(focus omega);(focus omega))));(focus (first|rfl|assumption|(apply all_flat;intro _ _;rfl)|(rw [List.append_nil];assumption)|(simp only [List.append_nil,List.all_cons,List.all_nil,Bool.and_true,Bool.true_and,one_int,one_bool,one_string,one_slice,one_pointer, *];done)|simp));(first|exact okst2|exact okst1|exact okst1');(focus (simp only [maxLen];first|omega|(simp only [List.length_take,List.length_drop];omega)));(focus (first|omega|(simp only [List.length_take,List.length_drop];omega)));intro sv;(try (refine S_fact (row_one (v := sv) (by (focus ((repeat (first|exact mH|refine mT ?_));done)))) (fun hone => ?_))))))
        |(refine gBin ?_;(first
            |(refine S_gtr rfl rfl rfl ?_)
            |(refine S_eql rfl rfl rfl ?_)
            |(refine S_sub rfl rfl ?_ rfl ?_;(focus (unfold rng;omega)))))
        |(apply F_build2 rfl (hd := rfl);exact T.st24;(focus ((repeat (first|exact BuildR.nil|(apply BuildR.cons;(first|exact T.fs24_0|exact T.fs24_1|exact T.fs24_2|exact T.fs24_3|exact T.fs24_4|exact T.fs24_5|exact T.fs24_6|exact T.fs24_7|exact T.fs24_8);rfl;rfl;(focus ((repeat (first|exact SetSeg.nil|apply SetSeg.here|apply SetSeg.there));done)))|(apply BuildR.cons1;(first|exact T.fs24_0|exact T.fs24_1|exact T.fs24_2|exact T.fs24_3|exact T.fs24_4|exact T.fs24_5|exact T.fs24_6|exact T.fs24_7|exact T.fs24_8);(focus assumption);(focus ((repeat (first|exact SetSeg.nil|apply SetSeg.here|apply SetSeg.there));done)))));done)))
        |(refine S_done ?_)))
    |(refine gC ?_;(first
        |(refine C_seq ?_)
        |(refine gReg ?_;(first
            |(refine gReg (i := 4) ?_;refine C_plain [(0,0),(1,0)] (by kernel_rfl) (s := [⟨0,none,_,_,_⟩,⟨0,none,_,_,_⟩]) rfl ?_)
            |(refine gReg (i := 6) ?_;refine C_plain [(0,0),(1,2)] (by kernel_rfl) (s := [⟨0,none,_,_,_⟩,⟨2,none,_,_,_⟩]) rfl ?_)
            |(refine gReg (i := 11) ?_;refine C_plain [(0,0),(1,0)] (by kernel_rfl) (s := [⟨0,none,_,_,_⟩,⟨0,none,_,_,_⟩]) rfl ?_)
            |(refine gReg (i := 12) ?_;refine C_plain [(0,0),(1,0),(2,2),(3,2),(4,0)] (by kernel_rfl) (s := [⟨0,none,_,_,_⟩,⟨0,none,_,_,_⟩,⟨2,none,_,_,_⟩,⟨2,none,_,_,_⟩,⟨0,none,_,_,_⟩]) rfl ?_)
            |(refine gReg (i := 13) ?_;refine C_plain [(0,0),(1,0)] (by kernel_rfl) (s := [⟨0,none,_,_,_⟩,⟨0,none,_,_,_⟩]) rfl ?_)
            |(refine gReg (i := 14) ?_;refine C_plain [(0,0),(1,0),(2,2),(3,2),(4,2),(5,0)] (by kernel_rfl) (s := [⟨0,none,_,_,_⟩,⟨0,none,_,_,_⟩,⟨2,none,_,_,_⟩,⟨2,none,_,_,_⟩,⟨2,none,_,_,_⟩,⟨0,none,_,_,_⟩]) rfl ?_)
            |(refine gReg (i := 7) ?_;refine C_plain [(0,0),(1,2),(2,0)] (by kernel_rfl) (s := [⟨0,none,_,_,_⟩,⟨2,none,_,_,_⟩,⟨0,none,_,_,_⟩]) rfl ?_)
            |(refine gReg (i := 8) ?_;refine C_plain [(0,0),(1,0),(2,0)] (by kernel_rfl) (s := [⟨0,none,_,_,_⟩,⟨0,none,_,_,_⟩,⟨0,none,_,_,_⟩]) rfl ?_)
            |(refine gReg (i := 9) ?_;refine C_plain [(0,0),(1,0),(2,0)] (by kernel_rfl) (s := [⟨0,none,_,_,_⟩,⟨0,none,_,_,_⟩,⟨0,none,_,_,_⟩]) rfl ?_)
            |(refine gReg (i := 10) ?_;refine C_plain [(0,0),(1,0),(2,2),(3,0)] (by kernel_rfl) (s := [⟨0,none,_,_,_⟩,⟨0,none,_,_,_⟩,⟨2,none,_,_,_⟩,⟨0,none,_,_,_⟩]) rfl ?_)
            |(refine gReg (i := 5) ?_;refine C_plain [(0,0),(1,0),(2,0)] (by kernel_rfl) (s := [⟨0,none,_,_,_⟩,⟨0,none,_,_,_⟩,⟨0,none,_,_,_⟩]) rfl ?_)
            |(refine gReg (i := 15) ?_;refine C_plain [(0,0),(1,0)] (by kernel_rfl) (s := [⟨0,none,_,_,_⟩,⟨0,none,_,_,_⟩]) rfl ?_)))
        |(refine C_split rfl ?_ ?_ <;> (intro hb;(try simp only [decide_eq_true_eq] at hb);(try simp only [decide_eq_false_iff_not] at hb);(try simp only [Bool.not_eq_true'] at hb);(try simp only [Bool.not_eq_false'] at hb);(try (exfalso;first|contradiction|omega))))
        |(refine C_skip ?_)
        |(refine C_exit ?_)
        |(refine C_ret ?_)
        |(refine C_block ?_)))
    |(refine gE ?_;(first
        |(refine E_then ?_)
        |(refine E_thenX ?_)
        |(refine E_block ?_)
        |(refine E_blockY ?_)
        |(apply E_ret1 rfl;(first|exact Res.tmp rfl|(apply R_cellAll rfl;(focus ((repeat (first|exact mH|refine mT ?_));done));fail)|(apply R_cell1 rfl;(focus ((repeat (first|exact mH|refine mT ?_));done));fail))))))
  · rw [show ([Value.int .i64 0, .int .i64 0, .int .i64 0, .int .i64 0, .int .i64 0, .bool false, .int .i64 0, .bool false, .slice none 0 0] : List Value) = clFragPacket zeroP from rfl, push_row, show (n : Int) - 1 = ((n - 1 : Nat) : Int) by omega]
    exact E_roundS (α := Nat × Value × List MFragPacket × List Row × Int) (n - 1,sv,ol ++ [zeroP],base ++ rwFragPacket zeroP,q + 1) ⟨by dsimp only;omega,snocW2 h2 zero_smallW,inB_snoc h3 (fun r hr => hr),by dsimp only;rw [List.length_append,List.length_singleton];omega,by dsimp only;omega,by dsimp only;omega⟩ (by dsimp only;omega) ⟨rfl,rfl,rfl,trivial⟩ (Ent.trans (Ent.ghost 5 1) entA)
  · rw [push_row, show (n : Int) - 1 = ((n - 1 : Nat) : Int) by omega]
    exact E_roundS (α := Nat × Value × List MFragPacket × List Row × Int) (n - 1,sv,ol ++ [x],base ++ rwFragPacket x,q5) ⟨by dsimp only;omega,snocW2 h2 hx1,inB_snoc h3 (fun r hr => hr),by dsimp only;rw [List.length_append,List.length_singleton];omega,by dsimp only;omega,by dsimp only;omega⟩ (by dsimp only;omega) ⟨rfl,rfl,rfl,trivial⟩ entA
  · rw [← List.length_append, ← List.flatMap_append, show (n : Int) - 1 = ((n - 1 : Nat) : Int) by omega]
    have hs14 : ∀ y ∈ (l2.drop 0).take ((14 : Int).toNat - 0), y ∈ l2 := fun y hy => List.mem_of_mem_drop (List.mem_of_mem_take hy)
    have hl14 : ((l2.drop 0).take ((14 : Int).toNat - 0)).length ≤ 14 := by rw [List.length_take]; omega
    exact E_roundS (α := Nat × Value × List MFragPacket × List Row × Int) (n - 1,sv,ol ++ (l2.drop 0).take ((14 : Int).toNat - 0),base ++ base2,q2) ⟨by dsimp only;omega,appW h2 (fun y hy => g1 y (hs14 y hy)),h3.append (fun y hy => g2 y (hs14 y hy)),by dsimp only;rw [List.length_append];omega,by dsimp only;omega,by dsimp only;omega⟩ (by dsimp only;omega) ⟨rfl,rfl,rfl,trivial⟩ entA
  · rw [← List.length_append, ← List.flatMap_append, show (n : Int) - 1 = ((n - 1 : Nat) : Int) by omega]
    exact E_roundS (α := Nat × Value × List MFragPacket × List Row × Int) (n - 1,sv,ol ++ l2,base ++ base2,q2) ⟨by dsimp only;omega,appW h2 g1,h3.append g2,by dsimp only;rw [List.length_append];omega,by dsimp only;omega,by dsimp only;omega⟩ (by dsimp only;omega) ⟨rfl,rfl,rfl,trivial⟩ entA
  · exact retX (sv,ol,base) ⟨h2,h3,by dsimp only;omega⟩ rfl entA
end Go.Proofs.Ytodhjpnfokkfeaa

/- The law FnFragTop: the same again: a drawn packet cut in ways, turned around and doubled, joins to the packet that was cut. No condition. -/
import Derived.Test.YtkfgfebendkihaaFragab
import Derived.Test.YtkfgfebendkihaaFragl
import Derived.Test.YtkfgfebendkihaaFragm
import Derived.Test.YtkfgfebendkihaaOpens
set_option linter.unusedSimpArgs false
set_option linter.unusedVariables false
namespace Go.Proofs.Ytkfgfebendkihaa.fnFragTop
open Go Go.ChangeShapes Go.WideShapes Go.ChangeAt Go.RowKit
attribute [local irreducible] Calls GoS GoC GoE GoT Mid IsEq IsFl IsSc IsRw IsSl IsEl IsSt IsFs sp Mem Rd LenOf szR
theorem long_code {l : List CFragPacket} (h : 40 < l.length) : (joinC l).2 = 1 := by
  have h1 : okJ l = false := by
    refine Bool.eq_false_iff.2 fun h2 => ?_
    have := (okJ_iff.1 h2).2.1
    omega
  unfold joinC
  rw [h1]; rfl
theorem pay {c : CFragPacket} {l : List MFragPacket} (h : Cover c (l.map ctFragPacket)) : ∀ y ∈ l, y.2.2.2.2.2.2.2.2.2.length ≤ 1048576 := fun y hy => by
  have h1 := fragOk_t (h.piece _ (List.mem_map_of_mem hy)).ok
  have h2 : (ctFragPacket y).2.2.2.2.2.2.2.2.length ≤ 128 := by omega
  exact Nat.le_trans h2 (by decide)
theorem same_1 (x y : MFragPacket) (w : World) (hx : Rds w (rwFragPacket x)) (hy : Rds w (rwFragPacket y)) (h : ctFragPacket x = ctFragPacket y) : Calls Try.prog 29 #[.agg (clFragPacket x).toArray, .agg (clFragPacket y).toArray] w (RetN (.bool true) w) := by
  have h1 := wfSame_c x y w hx hy
  rw [decide_eq_true h] at h1
  exact h1
/-- turned -/
def turnL (l : List MFragPacket) (i : Nat) : List MFragPacket := l.drop i ++ l.take i
theorem turn_row {sv : Value} {l : List MFragPacket} {i : Nat} : Blk.row sv 27 9 (0 + ((l.drop (i : Int).toNat).take (l.length - (i : Int).toNat)).length + ((l.drop 0).take ((i : Int).toNat - 0)).length) ([] ++ ((l.drop (i : Int).toNat).take (l.length - (i : Int).toNat)).flatMap clFragPacket ++ ((l.drop 0).take ((i : Int).toNat - 0)).flatMap clFragPacket) = Blk.row sv 27 9 (turnL l i).length ((turnL l i).flatMap clFragPacket) := by
  have e1 : (l.drop 0).take ((i : Int).toNat - 0) = l.take i := by rw [List.drop_zero]; rfl
  have e3 : (l.drop (i : Int).toNat).take (l.length - (i : Int).toNat) = l.drop i := List.take_of_length_le (by rw [List.length_drop]; omega)
  rw [e1, e3]
  unfold turnL
  rw [List.length_append, List.flatMap_append, List.nil_append, Nat.zero_add]
theorem turn_mem {l : List MFragPacket} {i : Nat} (y : MFragPacket) : y ∈ turnL l i ↔ y ∈ l := by
  unfold turnL
  have h : y ∈ l ↔ y ∈ l.take i ++ l.drop i := by rw [List.take_append_drop]
  rw [h, List.mem_append, List.mem_append]
  exact Or.comm
theorem turn_len {l : List MFragPacket} {i : Nat} : (turnL l i).length = l.length := by
  unfold turnL
  rw [List.length_append, List.length_take, List.length_drop]; omega
theorem join_c {p : MFragPacket} (hp : Whole0 (ctFragPacket p)) (s : Value) (l : List MFragPacket) (hc : Cover (ctFragPacket p) (l.map ctFragPacket)) (h40 : l.length ≤ 40) (w : World) (hx : Rds w (rwSFragPacket (s, l))) : Calls Try.prog 37 #[s] w (RetX (fun y : MFragPacket => ctFragPacket y = ctFragPacket p) (fun y => .tuple #[.agg (clFragPacket y).toArray, .int .i64 0]) (fun y => [.many (rwFragPacket y)]) w) := by
  have h := implFragJoin_c (s, l) (by dsimp only; omega) (pay hc) w hx
  dsimp only at h
  rw [join_cover hc (by rw [List.length_map]; omega) hp.off hp.more] at h
  exact h
attribute [local irreducible] joinC fragOk
set_option maxHeartbeats 2000000 in
theorem walk (w : World) (x : MSuint8) (hx : okSuint8 w x) : Calls Try.prog 11 #[x.1] w (RetN (.bool true) w) := by
  obtain ⟨v, l⟩ := x
  obtain ⟨hm, hby⟩ := hx
  dsimp only at *
  have hlen := hm.len
  simp only [maxLen] at hlen
  refine enter (n := 99) (E := [(0, _)]) Try.func11 rfl rfl rfl rfl ?_
  repeat' (first
    |(refine gS ?_;(first
        |(refine gGuard ?_;(first
            |(refine S_on rfl ?_)
            |(refine S_gsplit rfl ?_ ?_ <;> (intro hb;(try simp only [decide_eq_true_eq] at hb);(try simp only [decide_eq_false_iff_not] at hb);(try simp only [Bool.not_eq_true'] at hb);(try simp only [Bool.not_eq_false'] at hb);(try (exfalso;first|contradiction|omega))))))
        |(refine S_move rfl rfl ?_)
        |(refine S_assign rfl rfl ?_)
        |(refine gLoad ?_;(first
            |(apply F_loadAll rfl rfl;(focus ((repeat (first|exact mH|refine mT ?_));done));exact T.rw27;(focus (first|exact free0|exact free1)))))
        |(refine gStore ?_;(first
            |(apply F_storeN rfl rfl;(focus (first|rfl|assumption|(simp only [List.append_nil,List.all_cons,List.all_nil,Bool.and_true,Bool.true_and,one_int,one_bool,one_string,one_slice,one_pointer, *];done)));exact T.rw27;(focus ((repeat (first|exact Upd.here|apply Upd.there));done));(focus ((repeat (first|exact SetSeg.nil|apply SetSeg.here|apply SetSeg.there));done));(first|exact okst2|exact okst1|exact okst1'))))
        |(refine gCall ?_;(first
            |(refine S_callX (f := 38) rfl T.pf38 rfl (fun w hst => drawFragWays_c v l w (Mem.given hst hm) hby) rfl (fun zz hzz => ?_);simp only [List.cons_append,List.nil_append];revert hzz;revert zz;rintro ⟨p,av,al,base⟩ ⟨hp,hc,hin,hal⟩;dsimp only at hp hc hin hal ⊢;refine S_fact (fun w hs => oneFragPacket (Rds.many hs (by (focus ((repeat (first|exact mH|refine mT ?_));done))))) (fun hone => ?_);have hpay := pay hc)
            |(refine S_callX (f := 37) rfl T.pf37 rfl (fun w hst => implFragJoin_c (av,al) (by dsimp only;omega) hpay w (rds_inL hin hst (by (focus ((repeat (first|exact mH|refine mT ?_));done))) (by (focus ((repeat (first|exact mH|refine mT ?_));done))))) rfl (fun zz hzz => ?_);simp only [List.cons_append,List.nil_append];revert hzz;revert zz;intro y hy;refine S_fact (fun w hs => oneFragPacket (Rds.many hs (by (focus ((repeat (first|exact mH|refine mT ?_));done))))) (fun hone => ?_);revert kb;intro kp)
            |(refine S_callX (f := 39) rfl T.pf39 rfl (fun w hst => specFragJoin_c (av,al) (by dsimp only;omega) hpay w (rds_inL hin hst (by (focus ((repeat (first|exact mH|refine mT ?_));done))) (by (focus ((repeat (first|exact mH|refine mT ?_));done))))) rfl (fun zz hzz => ?_);simp only [List.cons_append,List.nil_append];revert hzz;revert zz;intro z hz;refine S_fact (fun w hs => oneFragPacket (Rds.many hs (by (focus ((repeat (first|exact mH|refine mT ?_));done))))) (fun hone => ?_))
            |(refine S_callN (f := 29) rfl T.pf29 rfl (fun w hst => wfSame_c _ _ w (by first|(refine Rds.given hst ?_;assumption)|(apply Rds.many hst;(focus ((repeat (first|exact mH|refine mT ?_));done)))|(apply Rds.row hst;(focus ((repeat (first|exact mH|refine mT ?_));done)))) (by first|(refine Rds.given hst ?_;assumption)|(apply Rds.many hst;(focus ((repeat (first|exact mH|refine mT ?_));done)))|(apply Rds.row hst;(focus ((repeat (first|exact mH|refine mT ?_));done))))) rfl ?_)
            |(apply F_len rfl rfl rfl;(focus exact ⟨_,_,by (first|exact T.sl22|exact T.sl38)⟩);(focus (first|(focus (first|exact len_nil|(apply len_given;assumption)|(apply len_row;(focus ((repeat (first|exact mH|refine mT ?_));done)))|(apply len_isN;assumption)))|(apply len_sub;(focus (first|exact len_nil|(apply len_given;assumption)|(apply len_row;(focus ((repeat (first|exact mH|refine mT ?_));done)))|(apply len_isN;assumption)));(focus omega);(focus omega)))))))
        |(refine gBin ?_;(first
            |(refine S_gtr rfl rfl rfl ?_)
            |(refine S_neq rfl rfl rfl ?_)))
        |(refine gPick ?_;(first
            |(refine S_pickF rfl rfl rfl ?_)))
        |(apply S_alloc rfl (hd := rfl);exact T.zc27;intro kb)
        |(refine S_not rfl rfl ?_)
        |(refine S_extract rfl rfl rfl ?_)
        |(refine S_done ?_)))
    |((first
        |(refine C_seq ?_)
        |(refine gReg ?_;(first
            |(refine gReg (i := 0) ?_;refine C_plain [(0,0)] (by kernel_rfl) (s := [⟨0,none,_,_,_⟩]) rfl ?_)
            |(refine gReg (i := 1) ?_;refine C_plain [(0,0),(1,0),(2,0)] (by kernel_rfl) (s := [⟨0,none,_,_,_⟩,⟨0,none,_,_,_⟩,⟨0,none,_,_,_⟩]) rfl ?_)
            |(refine gReg (i := 2) ?_;refine C_plain [(0,0)] (by kernel_rfl) (s := [⟨0,none,_,_,_⟩]) rfl ?_)
            |(refine gReg (i := 3) ?_;refine C_plain [(0,0),(1,2),(2,0),(3,0),(4,0),(5,2),(6,2),(7,0)] (by kernel_rfl) (s := [⟨0,none,_,_,_⟩,⟨2,none,_,_,_⟩,⟨0,none,_,_,_⟩,⟨0,none,_,_,_⟩,⟨0,none,_,_,_⟩,⟨2,none,_,_,_⟩,⟨2,none,_,_,_⟩,⟨0,none,_,_,_⟩]) rfl ?_)
            |(refine gReg (i := 4) ?_;refine C_plain [(0,0),(1,2),(2,0),(3,0),(4,0),(5,2),(6,2),(7,0)] (by kernel_rfl) (s := [⟨0,none,_,_,_⟩,⟨2,none,_,_,_⟩,⟨0,none,_,_,_⟩,⟨0,none,_,_,_⟩,⟨0,none,_,_,_⟩,⟨2,none,_,_,_⟩,⟨2,none,_,_,_⟩,⟨0,none,_,_,_⟩]) rfl ?_)
            |(refine gReg (i := 5) ?_;refine C_plain [(0,0),(1,2),(2,0),(3,0),(4,0),(5,2),(6,2),(7,0)] (by kernel_rfl) (s := [⟨0,none,_,_,_⟩,⟨2,none,_,_,_⟩,⟨0,none,_,_,_⟩,⟨0,none,_,_,_⟩,⟨0,none,_,_,_⟩,⟨2,none,_,_,_⟩,⟨2,none,_,_,_⟩,⟨0,none,_,_,_⟩]) rfl ?_)
            |(refine gReg (i := 6) ?_;refine C_plain [(0,0),(1,0),(2,0),(3,0),(4,0),(5,0),(6,2),(7,0),(8,0)] (by kernel_rfl) (s := [⟨0,none,_,_,_⟩,⟨0,none,_,_,_⟩,⟨0,none,_,_,_⟩,⟨0,none,_,_,_⟩,⟨0,some (36,false),_,_,_⟩,⟨0,some (36,false),_,_,_⟩,⟨2,some (36,false),_,_,_⟩,⟨0,some (36,false),_,_,_⟩,⟨0,none,_,_,_⟩]) rfl ?_)
            |(refine gReg (i := 7) ?_;refine C_plain [(0,0)] (by kernel_rfl) (s := [⟨0,none,_,_,_⟩]) rfl ?_)))
        |(refine C_split rfl ?_ ?_ <;> (intro hb;(try simp only [decide_eq_true_eq] at hb);(try simp only [decide_eq_false_iff_not] at hb);(try simp only [Bool.not_eq_true'] at hb);(try simp only [Bool.not_eq_false'] at hb);(try (exfalso;first|contradiction|omega))))
        |(refine C_skip ?_)
        |(refine C_ret ?_)))
    |(refine gE ?_;(first
        |(refine E_then ?_)
        |(refine E_thenR ?_)
        |(apply E_ret1 rfl;(first|exact Res.tmp rfl|(apply R_cellAll rfl;(focus ((repeat (first|exact mH|refine mT ?_));done));exact T.rw27)|(apply R_cell1 rfl;(focus ((repeat (first|exact mH|refine mT ?_));done));fail))))))
  · exact retN rfl
  · exact absurd (hy.trans hz.symm) (of_decide_eq_false (show decide (ctFragPacket y = ctFragPacket z) = false by assumption))
  repeat' (first
    |(refine gS ?_;(first
        |(refine S_move rfl rfl ?_)
        |(refine S_assign rfl rfl ?_)
        |(refine gCall ?_;(first
            |(apply F_len rfl rfl rfl;(focus exact ⟨_,_,by (first|exact T.sl22|exact T.sl38)⟩);(focus (first|(focus (first|exact len_nil|(apply len_given;assumption)|(apply len_row;(focus ((repeat (first|exact mH|refine mT ?_));done)))|(apply len_isN;assumption)))|(apply len_sub;(focus (first|exact len_nil|(apply len_given;assumption)|(apply len_row;(focus ((repeat (first|exact mH|refine mT ?_));done)))|(apply len_isN;assumption)));(focus omega);(focus omega)))))))
        |(refine gBin ?_;(first
            |(refine S_gtr rfl rfl rfl ?_)
            |(refine S_eql rfl rfl rfl ?_)))
        |(refine S_done ?_)))
    |((first
        |(refine C_seq ?_)
        |(refine gReg ?_;(first
            |(refine gReg (i := 8) ?_;refine C_plain [(0,0),(1,0),(2,0)] (by kernel_rfl) (s := [⟨0,none,_,_,_⟩,⟨0,none,_,_,_⟩,⟨0,none,_,_,_⟩]) rfl ?_)
            |(refine gReg (i := 9) ?_;refine C_plain [(0,0),(1,0),(2,0)] (by kernel_rfl) (s := [⟨0,none,_,_,_⟩,⟨0,none,_,_,_⟩,⟨0,none,_,_,_⟩]) rfl ?_)))
        |(refine C_split rfl ?_ ?_ <;> (intro hb;(try simp only [decide_eq_true_eq] at hb);(try simp only [decide_eq_false_iff_not] at hb);(try simp only [Bool.not_eq_true'] at hb);(try simp only [Bool.not_eq_false'] at hb);(try (exfalso;first|contradiction|omega))))
        |(refine C_skip ?_)
        |(refine C_ret ?_)))
    |(refine gE ?_;(first
        |(refine E_then ?_)
        |(refine E_thenR ?_)
        |(apply E_ret1 rfl;(first|exact Res.tmp rfl|(apply R_cellAll rfl;(focus ((repeat (first|exact mH|refine mT ?_));done));exact T.rw27)|(apply R_cell1 rfl;(focus ((repeat (first|exact mH|refine mT ?_));done));fail))))))
  · refine retN ?_
    rw [long_code (by rw [List.length_map]; omega)]
    rfl
  have hl40 : al.length ≤ 40 := by omega
  have hj := join_cover hc (by rw [List.length_map]; omega) hp.off hp.more
  have hyp : ctFragPacket y = ctFragPacket p := hy.trans (by dsimp only; rw [hj])
  rw [hj]
  dsimp only
  repeat' (first
    |(refine gS ?_;(first
        |(refine gGuard ?_;(first
            |(refine S_on rfl ?_)))
        |(refine S_move rfl rfl ?_)
        |(refine S_assign rfl rfl ?_)
        |(refine gLoad ?_;(first
            |(apply F_loadAll rfl rfl;(focus ((repeat (first|exact mH|refine mT ?_));done));exact T.rw27;(focus (first|exact free0|exact free1)))))
        |(refine gCall ?_;(first
            |(refine S_callN (f := 29) rfl T.pf29 rfl (fun w hst => same_1 y p w (by first|(refine Rds.given hst ?_;assumption)|(apply Rds.many hst;(focus ((repeat (first|exact mH|refine mT ?_));done)))|(apply Rds.row hst;(focus ((repeat (first|exact mH|refine mT ?_));done)))) (by first|(refine Rds.given hst ?_;assumption)|(apply Rds.many hst;(focus ((repeat (first|exact mH|refine mT ?_));done)))|(apply Rds.row hst;(focus ((repeat (first|exact mH|refine mT ?_));done)))) hyp) rfl ?_)))
        |(refine gBin ?_;(first
            |(refine S_neq rfl rfl rfl ?_)))
        |(refine gPick ?_;(first
            |(refine S_pickF rfl rfl rfl ?_)))
        |(refine S_not rfl rfl ?_)
        |(refine S_done ?_)))
    |((first
        |(refine C_seq ?_)
        |(refine gReg ?_;(first
            |(refine gReg (i := 10) ?_;refine C_plain [(0,0),(1,0),(2,0),(3,0),(4,0),(5,2),(6,0),(7,0)] (by kernel_rfl) (s := [⟨0,none,_,_,_⟩,⟨0,none,_,_,_⟩,⟨0,none,_,_,_⟩,⟨0,some (49,false),_,_,_⟩,⟨0,some (49,false),_,_,_⟩,⟨2,some (49,false),_,_,_⟩,⟨0,some (49,false),_,_,_⟩,⟨0,none,_,_,_⟩]) rfl ?_)
            |(refine gReg (i := 12) ?_;refine C_plain [(0,0)] (by kernel_rfl) (s := [⟨0,none,_,_,_⟩]) rfl ?_)))
        |(refine C_false rfl ?_)
        |(refine C_skip ?_)
        |(refine C_block ?_)))
    |(refine gE ?_;(first
        |(refine E_then ?_))))
  all_goals try (refine retN ?_; exfalso; simp_all; done)
  refine C_loop (α := Nat) (fun i => [(9, .int .i64 (i : Int)), (4, av), (3, .pointer (some ⟨kp, 0, none⟩))]) (fun _ => [.blk kp 27 (clFragPacket p), .row av 27 9 al.length (al.flatMap clFragPacket), .many base, .many (rwFragPacket p)]) (fun i => i ≤ al.length) (fun i => al.length - i) 0 (Nat.zero_le _) ⟨rfl, rfl, rfl, trivial⟩ ?_ ?_
  · (repeat (first | exact List.nil_sublist _ | exact List.Sublist.refl _ | (refine List.Sublist.cons_cons _ ?_) | (refine List.Sublist.cons _ ?_)))
  intro i hi
  refine C_fact (fun w hs => inB_one hs hin (by repeat (first | exact List.Mem.head _ | refine List.Mem.tail _ ?_))) (fun hone0 => ?_)
  have ht1 : ((al.drop (i : Int).toNat).take (al.length - (i : Int).toNat)).flatMap clFragPacket |>.all (·.oneCell') := all_flat fun y hy => hone0 y (List.mem_of_mem_drop (List.mem_of_mem_take hy))
  have ht2 : ((al.drop 0).take ((i : Int).toNat - 0)).flatMap clFragPacket |>.all (·.oneCell') := all_flat fun y hy => hone0 y (List.mem_of_mem_drop (List.mem_of_mem_take hy))
  repeat' (first
    |(refine gS ?_;(first
        |(refine S_move rfl rfl ?_)
        |(refine S_assign rfl rfl ?_)
        |(apply F_slice rfl rfl;(first|exact T.sl22|exact T.sl38);(focus (first|(focus (first|exact len_nil|(apply len_given;assumption)|(apply len_row;(focus ((repeat (first|exact mH|refine mT ?_));done)))|(apply len_isN;assumption)))|(apply len_sub;(focus (first|exact len_nil|(apply len_given;assumption)|(apply len_row;(focus ((repeat (first|exact mH|refine mT ?_));done)))|(apply len_isN;assumption)));(focus omega);(focus omega))));(focus exact ⟨_,_,rfl,by omega,rfl⟩);(focus exact rfl);(focus omega);(focus omega))
        |(apply F_slice rfl rfl;(first|exact T.sl22|exact T.sl38);(focus (first|(focus (first|exact len_nil|(apply len_given;assumption)|(apply len_row;(focus ((repeat (first|exact mH|refine mT ?_));done)))|(apply len_isN;assumption)))|(apply len_sub;(focus (first|exact len_nil|(apply len_given;assumption)|(apply len_row;(focus ((repeat (first|exact mH|refine mT ?_));done)))|(apply len_isN;assumption)));(focus omega);(focus omega))));(focus exact rfl);(focus exact ⟨_,_,rfl,by omega,rfl⟩);(focus omega);(focus omega))
        |(apply F_bs0 rfl rfl;(first|exact T.el22|exact T.el38);rfl;intro sv;(try (refine S_fact (row_one (v := sv) (by (focus ((repeat (first|exact mH|refine mT ?_));done)))) (fun hone => ?_))))
        |(refine gCall ?_;(first
            |(apply F_len rfl rfl rfl;(focus exact ⟨_,_,by (first|exact T.sl22|exact T.sl38)⟩);(focus (first|(focus (first|exact len_nil|(apply len_given;assumption)|(apply len_row;(focus ((repeat (first|exact mH|refine mT ?_));done)))|(apply len_isN;assumption)))|(apply len_sub;(focus (first|exact len_nil|(apply len_given;assumption)|(apply len_row;(focus ((repeat (first|exact mH|refine mT ?_));done)))|(apply len_isN;assumption)));(focus omega);(focus omega)))))
            |(apply F_append rfl rfl rfl rfl;(first|exact T.el22|exact T.el38);(focus (intro sv;(focus ((repeat (first|exact Upd.here|apply Upd.there));done))));(focus (first|exact rd_nil|(apply rd_given;(focus assumption);(focus (first|exact freeG0|exact freeG1)))|(apply rd_row;(focus ((repeat (first|exact mH|refine mT ?_));done));(focus (first|exact freeR0|exact freeR1)))|(apply rd_sub;(focus (apply rd_given;(focus assumption);(focus (first|exact freeG0|exact freeG1))));(focus (intro _;rfl));(focus omega);(focus omega))|(apply rd_sub;(focus (apply rd_row;(focus ((repeat (first|exact mH|refine mT ?_));done));(focus (first|exact freeR0|exact freeR1))));(focus (intro _;rfl));(focus omega);(focus omega))));(focus (first|rfl|assumption|(apply all_flat;intro _ _;rfl)|(rw [List.append_nil];assumption)|(simp only [List.append_nil,List.all_cons,List.all_nil,Bool.and_true,Bool.true_and,one_int,one_bool,one_string,one_slice,one_pointer, *];done)|simp));(first|exact okst2|exact okst1|exact okst1');(focus (simp only [maxLen];first|omega|(simp only [List.length_take,List.length_drop];omega)));(focus (first|omega|(simp only [List.length_take,List.length_drop];omega)));intro sv;(try (refine S_fact (row_one (v := sv) (by (focus ((repeat (first|exact mH|refine mT ?_));done)))) (fun hone => ?_))))))
        |(refine gBin ?_;(first
            |(refine S_lss rfl rfl rfl ?_)))
        |(refine S_done ?_)
        |(refine S_K rfl ?_)))
    |((first
        |(refine gSeqReg (i := 15) ?_;refine C_join (α := Value) (fun s => [(10,s),(9,.int .i64 (i : Int)),(4,av),(3,.pointer (some ⟨kp,0,none⟩))]) (fun s => [.row s 27 9 (turnL al i).length ((turnL al i).flatMap clFragPacket),.blk kp 27 (clFragPacket p),.row av 27 9 al.length (al.flatMap clFragPacket),.many base,.many (rwFragPacket p)]) (fun _ => True) ?_ ?_)
        |(refine C_seq ?_)
        |(refine gReg ?_;(first
            |(refine gReg (i := 13) ?_;refine C_plain [(0,0),(1,0),(2,0),(3,0)] (by kernel_rfl) (s := [⟨0,none,_,_,_⟩,⟨0,none,_,_,_⟩,⟨0,none,_,_,_⟩,⟨0,none,_,_,_⟩]) rfl ?_)
            |(refine gReg (i := 15) ?_;refine C_drawnT (.br [(1,0),(2,0),(3,0),(5,0),(6,0)] (.br [(0,1)] (.fin [(4,2),(7,1),(8,2),(9,0)]) (.fin [(7,1),(4,2),(8,2),(9,0)])) (.fin [(7,1),(0,1),(4,2),(8,2),(9,0)])) [] T.mixed (by kernel_rfl) (s := (.br [⟨0,none,_,_,_⟩,⟨0,none,_,_,_⟩,⟨0,none,_,_,_⟩,⟨0,none,_,_,_⟩,⟨0,none,_,_,_⟩] (.br [⟨1,none,_,_,_⟩] (.fin [⟨2,none,_,_,_⟩,⟨1,none,_,_,_⟩,⟨2,none,_,_,_⟩,⟨0,none,_,_,_⟩]) (.fin [⟨1,none,_,_,_⟩,⟨2,none,_,_,_⟩,⟨2,none,_,_,_⟩,⟨0,none,_,_,_⟩])) (.fin [⟨1,none,_,_,_⟩,⟨1,none,_,_,_⟩,⟨2,none,_,_,_⟩,⟨2,none,_,_,_⟩,⟨0,none,_,_,_⟩]))) rfl ?_)
            |(refine gReg (i := 20) ?_;refine C_plain [(0,0)] (by kernel_rfl) (s := [⟨0,none,_,_,_⟩]) rfl ?_)))
        |(refine C_split rfl ?_ ?_ <;> (intro hb;(try simp only [decide_eq_true_eq] at hb);(try simp only [decide_eq_false_iff_not] at hb);(try simp only [Bool.not_eq_true'] at hb);(try simp only [Bool.not_eq_false'] at hb);(try (exfalso;first|contradiction|omega))))
        |(refine C_skip ?_)
        |(refine C_exit ?_)
        |(refine C_ret ?_)
        |(refine C_block ?_)
        |(refine T_fin ?_)
        |(refine T_br ?_)))
    |(refine gE ?_;(first
        |(refine E_then ?_)
        |(refine E_thenX ?_)
        |(refine E_blockY ?_)
        |(refine E_calm ?_)
        |(apply E_ret1 rfl;(first|exact Res.tmp rfl|(apply R_cellAll rfl;(focus ((repeat (first|exact mH|refine mT ?_));done));exact T.rw27)|(apply R_cell1 rfl;(focus ((repeat (first|exact mH|refine mT ?_));done));fail)))
        |(refine E_both ?_ ?_)
        | (refine E_K ?_))))
  all_goals try exact E_join (α := Value) sv trivial ⟨rfl, rfl, rfl, rfl, trivial⟩ (by rw [turn_row]; exact Ent.refl)
  rotate_left
  · exact retN rfl
  intro sv _
  have hct : Cover (ctFragPacket p) ((turnL al i).map ctFragPacket) := hc.set (map_mem_iff turn_mem)
  have hctr : Cover (ctFragPacket p) ((turnL al i).reverse.map ctFragPacket) := hct.set (map_mem_iff fun y => List.mem_reverse)
  have hinT : InB (turnL al i) base := fun y hy => hin y ((turn_mem y).1 hy)
  have hinR : InB (turnL al i).reverse base := fun y hy => hinT y (List.mem_reverse.1 hy)
  have htl := turn_len (l := al) (i := i)
  have hrl : (turnL al i).reverse.length = al.length := by rw [List.length_reverse, htl]
  have honeT : ∀ y ∈ turnL al i, (clFragPacket y).all (·.oneCell') = true := fun y hy => hone0 y ((turn_mem y).1 hy)
  repeat' (first
    |(refine gS ?_;(first
        |(refine gGuard ?_;(first
            |(refine S_on rfl ?_)))
        |(refine S_move rfl rfl ?_)
        |(refine S_assign rfl rfl ?_)
        |(refine gLoad ?_;(first
            |(apply F_loadAll rfl rfl;(focus ((repeat (first|exact mH|refine mT ?_));done));exact T.rw27;(focus (first|exact free0|exact free1)))))
        |(refine gStore ?_;(first
            |(apply F_storeN rfl rfl;(focus (first|rfl|assumption|(simp only [List.append_nil,List.all_cons,List.all_nil,Bool.and_true,Bool.true_and,one_int,one_bool,one_string,one_slice,one_pointer, *];done)));exact T.rw27;(focus ((repeat (first|exact Upd.here|apply Upd.there));done));(focus ((repeat (first|exact SetSeg.nil|apply SetSeg.here|apply SetSeg.there));done));(first|exact okst2|exact okst1|exact okst1'))))
        |(refine gCall ?_;(first
            |(refine S_callX (f := 37) rfl T.pf37 rfl (fun w hst => join_c hp sv (turnL al i) hct (by omega) w (rds_inL hinT hst (by (focus ((repeat (first|exact mH|refine mT ?_));done))) (by (focus ((repeat (first|exact mH|refine mT ?_));done))))) rfl (fun zz hzz => ?_);simp only [List.cons_append,List.nil_append];revert hzz;revert zz;intro y2 hy2;refine S_fact (fun w hs => oneFragPacket (Rds.many hs (by (focus ((repeat (first|exact mH|refine mT ?_));done))))) (fun hone => ?_))
            |(refine S_callX (f := 40) rfl T.pf40 rfl (fun w hst => wfBack_c sv (turnL al i) (by omega) honeT w (Rds.head (Rds.row hst (by (focus ((repeat (first|exact mH|refine mT ?_));done))) 27))) rfl (fun zz hzz => ?_);simp only [List.cons_append,List.nil_append];revert hzz;revert zz;rintro ⟨bv,bl⟩ hbl;dsimp only at hbl;subst hbl)
            |(refine S_callX (f := 37) rfl T.pf37 rfl (fun w hst => join_c hp bv (turnL al i).reverse hctr (by omega) w (rds_inL hinR hst (by (focus ((repeat (first|exact mH|refine mT ?_));done))) (by (focus ((repeat (first|exact mH|refine mT ?_));done))))) rfl (fun zz hzz => ?_);simp only [List.cons_append,List.nil_append];revert hzz;revert zz;intro y3 hy3;refine S_fact (fun w hs => oneFragPacket (Rds.many hs (by (focus ((repeat (first|exact mH|refine mT ?_));done))))) (fun hone => ?_))
            |(refine S_callN (f := 29) rfl T.pf29 rfl (fun w hst => same_1 _ p w (by first|(refine Rds.given hst ?_;assumption)|(apply Rds.many hst;(focus ((repeat (first|exact mH|refine mT ?_));done)))|(apply Rds.row hst;(focus ((repeat (first|exact mH|refine mT ?_));done)))) (by first|(refine Rds.given hst ?_;assumption)|(apply Rds.many hst;(focus ((repeat (first|exact mH|refine mT ?_));done)))|(apply Rds.row hst;(focus ((repeat (first|exact mH|refine mT ?_));done)))) (by assumption)) rfl ?_)))
        |(refine gBin ?_;(first
            |(refine S_neq rfl rfl rfl ?_)
            |(refine S_add rfl rfl ?_ rfl ?_;(focus (unfold rng;omega)))))
        |(refine gPick ?_;(first
            |(refine S_pickF rfl rfl rfl ?_)))
        |(apply S_alloc rfl (hd := rfl);exact T.zc27;intro kb)
        |(refine S_not rfl rfl ?_)
        |(refine S_extract rfl rfl rfl ?_)
        |(refine S_done ?_)))
    |((first
        |(refine C_seq ?_)
        |(refine gReg ?_;(first
            |(refine gReg (i := 16) ?_;refine C_plain [(0,0),(1,2),(2,0),(3,0),(4,0),(5,2),(6,2),(7,0)] (by kernel_rfl) (s := [⟨0,none,_,_,_⟩,⟨2,none,_,_,_⟩,⟨0,none,_,_,_⟩,⟨0,none,_,_,_⟩,⟨0,none,_,_,_⟩,⟨2,none,_,_,_⟩,⟨2,none,_,_,_⟩,⟨0,none,_,_,_⟩]) rfl ?_)
            |(refine gReg (i := 17) ?_;refine C_plain [(0,0),(1,2),(2,2),(3,0),(4,0),(5,0),(6,2),(7,2),(8,0)] (by kernel_rfl) (s := [⟨0,none,_,_,_⟩,⟨2,none,_,_,_⟩,⟨2,none,_,_,_⟩,⟨0,none,_,_,_⟩,⟨0,none,_,_,_⟩,⟨0,none,_,_,_⟩,⟨2,none,_,_,_⟩,⟨2,none,_,_,_⟩,⟨0,none,_,_,_⟩]) rfl ?_)
            |(refine gReg (i := 18) ?_;refine C_plain [(0,0),(1,0),(2,0),(3,0),(4,0),(5,0),(6,0),(7,0),(8,0),(9,2),(10,0),(11,0),(12,0),(13,0),(14,0),(15,2),(16,0),(17,0)] (by kernel_rfl) (s := [⟨0,none,_,_,_⟩,⟨0,none,_,_,_⟩,⟨0,none,_,_,_⟩,⟨0,some (83,false),_,_,_⟩,⟨0,some (83,false),_,_,_⟩,⟨0,none,_,_,_⟩,⟨0,none,_,_,_⟩,⟨0,some (87,false),_,_,_⟩,⟨0,some (87,false),_,_,_⟩,⟨2,some (87,false),_,_,_⟩,⟨0,some (87,false),_,_,_⟩,⟨0,none,_,_,_⟩,⟨0,none,_,_,_⟩,⟨0,some (93,false),_,_,_⟩,⟨0,some (93,false),_,_,_⟩,⟨2,some (93,false),_,_,_⟩,⟨0,some (93,false),_,_,_⟩,⟨0,none,_,_,_⟩]) rfl ?_)
            |(refine gReg (i := 14) ?_;refine C_plain [(0,0),(1,0),(2,0)] (by kernel_rfl) (s := [⟨0,none,_,_,_⟩,⟨0,none,_,_,_⟩,⟨0,none,_,_,_⟩]) rfl ?_)))
        |(refine C_false rfl ?_)
        |(refine C_skip ?_)))
    |(refine gE ?_;(first
        |(refine E_then ?_)
        |(refine E_block ?_))))
  refine E_round (α := Nat) (i + 1) (by omega) (by omega) ⟨rfl, rfl, rfl, trivial⟩ ?_
  (repeat (first | exact List.nil_sublist _ | exact List.Sublist.refl _ | (refine List.Sublist.cons_cons _ ?_) | (refine List.Sublist.cons _ ?_)))
set_option maxRecDepth 100000 in
theorem lifted (os : Os) (started : os.Started) (H : Type) (enc : TypeId × Value → H) :
    ReturnsInHanded {} Try.checked os 11 .any (Rows.fnFragTopSpec.pre6 enc Try.prog Try.f11 Rows.fnFragTopRow.domain false) (Rows.fnFragTopSpec.post enc Try.prog Try.f11 false true false false) := by
  refine returnsInHanded_of_change (C := Try.checked) own started (by kernel_rfl) Try.func11
    (ChangeSpec.witness6 (enc := enc) (C := Try.checked) false ⟨#[], #[.slice none 0 0], []⟩ 8 (by kernel_rfl) (by kernel_rfl) (by kernel_rfl) (by kernel_rfl)) ?_
  intro W base args ds gs before hval0 hW hcnd _
  have hval : ∀ (j : Nat) t v, Try.f11.params[j]? = some t → args[j]? = some v → Value.okWide Try.prog W .any base t v := hval0
  have hW' := hW
  obtain ⟨p, q, hA0, hV, rfl, hfz, hnd⟩ := hW
  have hA : DataW.TrodAll enc Try.prog W 0 (fun _ => true) true Try.f11.params.toList args.toList ds p := hA0
  rw [Try.params11] at hA hval
  obtain ⟨v0, vs0, d0, ds0, p0, q0, hargs, rfl, rfl, h0, r0⟩ := trodAll_cons hA
  obtain ⟨rfl, rfl, rfl⟩ := trodAll_nil r0
  obtain rfl : args = #[v0] := by cases args; simp_all
  obtain ⟨rfl, rfl⟩ := trodVars_none hV
  have k0 := h0
  have lt0 : ∀ x ∈ p0, x.block < W.heap.size := by obtain ⟨m, hm⟩ := k0; exact DataW.trod_lt m _ _ _ hm
  obtain ⟨y0, rfl, w0⟩ := par_Suint8 (hval 0 22 v0 rfl rfl) h0
  clear hA0 hval0
  refine (walk W y0 w0).mono fun e W' ⟨he, bel⟩ => ?_
  subst he
  exact ⟨_, rfl, _, _, _, [], _, [], hW', trodAll_mk1 (shut_bool Try.underlying4 _), (trodAll_cons_mk (Below.trod laidOut (by kernel_rfl) (of_decide_eq_true (by kernel_rfl)) k0 bel lt0) trodAll_mk0), rfl, bel.frame _, fun h => by cases h⟩
theorem over : Rows.fnFragTopRow.holds Try.pinned (OpenSpec.ofChange Rows.fnFragTopSpec) :=
  OpenClaim.holds_of_wide 11 Try.f11 rfl rfl rfl rfl rfl rfl rfl ⟨rfl, rfl, rfl, rfl, rfl⟩ rfl rfl rfl rfl rfl (by kernel_rfl) Try.func11 (by kernel_rfl)
    (of_decide_eq_true (by kernel_rfl)) (by unfold Func.isWrapper; rw [if_neg (of_decide_eq_false (by kernel_rfl))]; exact ⟨rfl, rfl⟩)
    (fun os started H enc _ => lifted os started H enc)
theorem proved : Rows.FnFragTopSaid := over
#print axioms proved
end Go.Proofs.Ytkfgfebendkihaa.fnFragTop

/- A piece taken on a bench: the reference's parts: a new slot; a slot gone bad. -/
import Derived.Test.YtodhjpnfokkfeaaFragal
set_option linter.unusedSimpArgs false
set_option linter.unusedVariables false
namespace Go.Proofs.Ytodhjpnfokkfeaa
open Go Go.RowKit
attribute [local irreducible] Calls GoS GoC GoE GoT Mid IsEq IsFl IsSc IsRw IsSl IsEl IsSt IsFs sp Mem Rd LenOf szR joinC alikeC likeC
set_option maxRecDepth 8192 in
theorem l14New_c (n : Int) (v : Value) (l : List MFragSlot) (p : MFragPacket) (hlen : l.length ≤ 4) (hlp : p.2.2.2.2.2.2.2.2.2.length ≤ 1048576) {w0 : World} (R : List Blk) (hp : Rds w0 (rwFragPacket p)) (w : World) (hst0 : St w0 w ([.row v 67 3 l.length (l.flatMap clFragSlot), .many (l.flatMap rwFragSlot)] ++ R)) : Calls Try.prog 83 #[.agg #[.int .i64 n, v], .agg (clFragPacket p).toArray] w
    (RetS w0 R (fun q : MFragBench => ctFragBench q = (n, (if (l.map ctFragSlot).length = 4 then (l.map ctFragSlot).drop 1 else l.map ctFragSlot) ++ [([ctFragPacket p], n, false)])) (fun q => .agg (clFragBench q).toArray) (fun q => [.many (rwFragBench q)])) := by
  have hs' : St w0 w (.row v 67 3 l.length (l.flatMap clFragSlot) :: .many (l.flatMap rwFragSlot) :: R) := hst0
  have hopp := oneFragPacket hp
  have honev : v.oneCell' = true := row_one (v := v) (List.Mem.head _) w hs'
  have hsub1 : 1 ≤ l.length → (subV v 3 1 l.length).oneCell' = true := fun h1 => mem_one3 (Row.In.mem (Row.In.part (lo := 1) (hi := l.length) (hs'.own (.row v 67 3 l.length (l.flatMap clFragSlot)) (by (focus ((repeat (first|exact mH|refine mT ?_));done)))).2 h1 (Nat.le_refl _)).1)
  refine enterS (n := 25) (E := [(0, _), (1, _)]) Try.func83 rfl rfl rfl rfl hs' ?_
  repeat' (first
    |(refine gS ?_;(first
        |(apply F_field rfl rfl;(first|exact T.fl45_0|exact T.fl45_1))
        |(apply F_slice rfl rfl;(first|exact T.sl27|exact T.sl43);(focus (first|(focus (first|exact len_nil|(apply len_given;assumption)|(apply len_row;(focus ((repeat (first|exact mH|refine mT ?_));done)))|(apply len_isN;assumption)))|(apply len_sub;(focus (first|exact len_nil|(apply len_given;assumption)|(apply len_row;(focus ((repeat (first|exact mH|refine mT ?_));done)))|(apply len_isN;assumption)));(focus omega);(focus omega))));(focus exact ⟨_,_,rfl,by omega,rfl⟩);(focus exact rfl);(focus omega);(focus omega))
        |(refine gLoad ?_;(first
            |(apply F_load1 rfl rfl;(focus ((repeat (first|exact mH|refine mT ?_));done));(first|exact T.sc3|exact T.sc43);rfl;(focus (first|exact free0|exact free1|(refine free2 ?_ ?_;(focus ((repeat (first|(apply apart1;(repeat (first|exact mH|refine mT ?_));done)|(apply apart2;(repeat (first|exact mH|refine mT ?_));done)|refine apart3 ?_));done));(first|exact free1|(refine free2 ?_ ?_;(focus ((repeat (first|(apply apart1;(repeat (first|exact mH|refine mT ?_));done)|(apply apart2;(repeat (first|exact mH|refine mT ?_));done)|refine apart3 ?_));done));exact free1))))))))
        |(refine gStore ?_;(first
            |(apply F_store1 rfl rfl;(focus (first|rfl|assumption));(first|exact T.sc3|exact T.sc43);(focus ((repeat (first|exact Upd.here|apply Upd.there));done));(focus ((repeat (first|exact SetSeg.nil|apply SetSeg.here|apply SetSeg.there));done));(first|exact okst2|exact okst1|exact okst1'))))
        |(refine gCall ?_;(first
            |(apply F_len rfl rfl rfl;(focus exact ⟨_,_,by (first|exact T.sl27|exact T.sl43)⟩);(focus (first|(focus (first|exact len_nil|(apply len_given;assumption)|(apply len_row;(focus ((repeat (first|exact mH|refine mT ?_));done)))|(apply len_isN;assumption)))|(apply len_sub;(focus (first|exact len_nil|(apply len_given;assumption)|(apply len_row;(focus ((repeat (first|exact mH|refine mT ?_));done)))|(apply len_isN;assumption)));(focus omega);(focus omega)))))))
        |(refine gBin ?_;(first
            |(refine S_eql rfl rfl rfl ?_)))
        |(refine S_box rfl rfl rfl ?_;intro kb)
        |(apply S_alloc rfl (hd := rfl);(first|exact T.zc45|exact T.zc67);intro kb)
        |(refine S_done ?_)))
    |(refine gC ?_;(first
        |(refine gSeqCond (i := 1) ?_;refine C_join (α := Nat × Nat × Nat × Value × List MFragSlot) (fun s => [(2,.pointer (some ⟨s.1,0,none⟩)),(3,.pointer (some ⟨s.2.1,0,none⟩)),(4,.pointer (some ⟨s.2.2.1,0,none⟩))]) (fun s => .blk s.1 45 [.int .i64 n,s.2.2.2.1] :: .row s.2.2.2.1 67 3 s.2.2.2.2.length (s.2.2.2.2.flatMap clFragSlot) :: .many (s.2.2.2.2.flatMap rwFragSlot) :: .blk s.2.1 24 (clFragPacket p) :: .blk s.2.2.1 45 [.int .i64 0,.slice none 0 0] :: R) (fun s => s.2.2.2.2.map ctFragSlot = (if (l.map ctFragSlot).length = 4 then (l.map ctFragSlot).drop 1 else l.map ctFragSlot) ∧ s.2.2.2.2.length ≤ 4) ?_ ?_)
        |(refine C_seq ?_)
        |(refine gReg ?_;(first
            |(refine gReg (i := 0) ?_;refine C_plain [(0,2),(1,2),(2,2)] (by kernel_rfl) (s := [⟨2,none,_,_,_⟩,⟨2,none,_,_,_⟩,⟨2,none,_,_,_⟩]) rfl ?_)
            |(refine gReg (i := 1) ?_;refine C_plain [(0,0),(1,0),(2,0),(3,0)] (by kernel_rfl) (s := [⟨0,none,_,_,_⟩,⟨0,none,_,_,_⟩,⟨0,none,_,_,_⟩,⟨0,none,_,_,_⟩]) rfl ?_)
            |(refine gReg (i := 2) ?_;refine C_plain [(0,0),(1,0),(2,0),(3,0),(4,2)] (by kernel_rfl) (s := [⟨0,none,_,_,_⟩,⟨0,none,_,_,_⟩,⟨0,none,_,_,_⟩,⟨0,none,_,_,_⟩,⟨2,none,_,_,_⟩]) rfl ?_)))
        |(refine C_split rfl ?_ ?_ <;> (intro hb;(try simp only [decide_eq_true_eq] at hb);(try simp only [decide_eq_false_iff_not] at hb);(try simp only [Bool.not_eq_true'] at hb);(try simp only [Bool.not_eq_false'] at hb);(try (exfalso;first|contradiction|omega));(try (have hs1 := hsub1 (by omega)))))
        |(refine C_skip ?_)))
    |(refine gE ?_;(first
        |(refine E_then ?_))))
  · have hml : (l.map ctFragSlot).length = 4 := by rw [List.length_map]; omega
    rename_i ka kc
    refine E_join (α := Nat × Nat × Nat × Value × List MFragSlot) (ka, kc, kb, subV v 3 1 l.length, (l.drop 1).take (l.length - 1)) ⟨?_, ?_⟩ ⟨rfl, rfl, rfl, trivial⟩ ?_
    · dsimp only
      rw [if_pos hml, List.take_of_length_le (by rw [List.length_drop]; omega), List.map_drop]
    · dsimp only
      rw [List.length_take, List.length_drop]; omega
    · exact Ent.trans (L' := .row v 67 3 l.length (l.flatMap clFragSlot) :: .many (l.flatMap rwFragSlot) :: .blk ka 45 [.int .i64 n,subV v 3 1 l.length] :: .blk kc 24 (clFragPacket p) :: .blk kb 45 [.int .i64 0,.slice none 0 0] :: R) entA (Ent.trans (Ent.part (f := clFragSlot) (m := 3) (l := l) (lo := 1) (hi := l.length) (fun _ => rfl) (by omega) (Nat.le_refl _) rfl) (Ent.trans (L' := .many (l.flatMap rwFragSlot) :: .row (subV v 3 1 l.length) 67 3 ((l.drop 1).take (l.length - 1)).length (((l.drop 1).take (l.length - 1)).flatMap clFragSlot) :: .blk ka 45 [.int .i64 n,subV v 3 1 l.length] :: .blk kc 24 (clFragPacket p) :: .blk kb 45 [.int .i64 0,.slice none 0 0] :: R) entA (Ent.trans (Ent.sublist (flat_sub ((List.take_sublist _ _).trans (List.drop_sublist _ _)))) entA)))
  · have hml : ¬ (l.map ctFragSlot).length = 4 := by rw [List.length_map]; omega
    exact E_join (α := Nat × Nat × Nat × Value × List MFragSlot) (_,_,_,v,l) ⟨by rw [if_neg hml],hlen⟩ ⟨rfl,rfl,rfl,trivial⟩ entA
  rintro ⟨k2, k3, k4, lv, l2⟩ ⟨hl2c, hl2n⟩
  dsimp only at hl2c hl2n ⊢
  repeat' (first
    |(refine gS ?_;(first
        |(apply F_field rfl rfl;(first|exact T.fl45_0|exact T.fl45_1))
        |(apply F_bs rfl rfl;(first|exact T.el27|exact T.el43);rfl;rfl;rfl;rfl;(focus ((repeat (first|exact Dense.nil|(apply Dense.cons;rfl;rfl)));done));intro sv;(try (refine S_fact (row_one (v := sv) (by (focus ((repeat (first|exact mH|refine mT ?_));done)))) (fun hone => ?_))))
        |(refine gLoad ?_;(first
            |(apply F_load1 rfl rfl;(focus ((repeat (first|exact mH|refine mT ?_));done));(first|exact T.sc3|exact T.sc43);rfl;(focus (first|exact free0|exact free1|(refine free2 ?_ ?_;(focus ((repeat (first|(apply apart1;(repeat (first|exact mH|refine mT ?_));done)|(apply apart2;(repeat (first|exact mH|refine mT ?_));done)|refine apart3 ?_));done));(first|exact free1|(refine free2 ?_ ?_;(focus ((repeat (first|(apply apart1;(repeat (first|exact mH|refine mT ?_));done)|(apply apart2;(repeat (first|exact mH|refine mT ?_));done)|refine apart3 ?_));done));exact free1))))))
            |(apply F_loadAll rfl rfl;(focus ((repeat (first|exact mH|refine mT ?_));done));(first|exact T.rw24|exact T.rw45);(focus (first|exact free0|exact free1|(refine free2 ?_ ?_;(focus ((repeat (first|(apply apart1;(repeat (first|exact mH|refine mT ?_));done)|(apply apart2;(repeat (first|exact mH|refine mT ?_));done)|refine apart3 ?_));done));(first|exact free1|(refine free2 ?_ ?_;(focus ((repeat (first|(apply apart1;(repeat (first|exact mH|refine mT ?_));done)|(apply apart2;(repeat (first|exact mH|refine mT ?_));done)|refine apart3 ?_));done));exact free1))))))))
        |(refine gStore ?_;(first
            |(apply F_store1 rfl rfl;(focus (first|rfl|assumption));(first|exact T.sc3|exact T.sc43);(focus ((repeat (first|exact Upd.here|apply Upd.there));done));(focus ((repeat (first|exact SetSeg.nil|apply SetSeg.here|apply SetSeg.there));done));(first|exact okst2|exact okst1|exact okst1'))
            |(apply F_storeN rfl rfl;(focus (first|rfl|assumption|(simp only [List.append_nil,List.all_cons,List.all_nil,Bool.and_true,Bool.true_and,one_int,one_bool,one_string,one_slice,one_pointer, *];done)));(first|exact T.rw24|exact T.rw45);(focus ((repeat (first|exact Upd.here|apply Upd.there));done));(focus ((repeat (first|exact SetSeg.nil|apply SetSeg.here|apply SetSeg.there));done));(first|exact okst2|exact okst1|exact okst1'))))
        |(refine gCall ?_;(first
            |(show GoS _ _ _ _ _ _ _ (⟨_,_,_,.call ⟨.value (.func 55),_,_⟩,_⟩ :: _);refine S_callX (f := 55) rfl T.pf55 rfl (fun w hst => l11Copy_c p hlp w (Rds.given hst hp)) rfl (fun zz hzz => ?_);simp only [List.cons_append,List.nil_append];revert hzz;revert zz;intro pc hpc;refine S_fact (fun w hs => oneFragPacket (Rds.many hs (by (focus ((repeat (first|exact mH|refine mT ?_));done))))) (fun hone => ?_))
            |(apply F_append rfl rfl rfl rfl;(first|exact T.el27|exact T.el43);(focus (intro sv;(focus ((repeat (first|exact Upd.here|apply Upd.there));done))));(focus (first|exact rd_nil|(apply rd_given;(focus assumption);(focus (first|exact freeG0|exact freeG1|(apply freeG2;(focus ((repeat (first|exact mH|refine mT ?_));done));(first|exact freeG1|(apply freeG2;(focus ((repeat (first|exact mH|refine mT ?_));done));exact freeG1))))))|(apply rd_row;(focus ((repeat (first|exact mH|refine mT ?_));done));(focus (first|exact freeR0|exact freeR1|(refine freeR2 ?_ ?_;(focus ((repeat (first|(apply apartR1;(focus ((repeat (first|exact mH|refine mT ?_));done));done)|(apply apartR2;(focus ((repeat (first|exact mH|refine mT ?_));done));done)|refine apartR3 ?_));done));(first|exact freeR1|(refine freeR2 ?_ ?_;(focus ((repeat (first|(apply apartR1;(focus ((repeat (first|exact mH|refine mT ?_));done));done)|(apply apartR2;(focus ((repeat (first|exact mH|refine mT ?_));done));done)|refine apartR3 ?_));done));exact freeR1))))))|(apply rd_sub;(focus (apply rd_given;(focus assumption);(focus (first|exact freeG0|exact freeG1|(apply freeG2;(focus ((repeat (first|exact mH|refine mT ?_));done));(first|exact freeG1|(apply freeG2;(focus ((repeat (first|exact mH|refine mT ?_));done));exact freeG1)))))));(focus (intro _;rfl));(focus omega);(focus omega))|(apply rd_sub;(focus (apply rd_row;(focus ((repeat (first|exact mH|refine mT ?_));done));(focus (first|exact freeR0|exact freeR1|(refine freeR2 ?_ ?_;(focus ((repeat (first|(apply apartR1;(focus ((repeat (first|exact mH|refine mT ?_));done));done)|(apply apartR2;(focus ((repeat (first|exact mH|refine mT ?_));done));done)|refine apartR3 ?_));done));(first|exact freeR1|(refine freeR2 ?_ ?_;(focus ((repeat (first|(apply apartR1;(focus ((repeat (first|exact mH|refine mT ?_));done));done)|(apply apartR2;(focus ((repeat (first|exact mH|refine mT ?_));done));done)|refine apartR3 ?_));done));exact freeR1)))))));(focus (intro _;rfl));(focus omega);(focus omega))));(focus (first|rfl|assumption|(apply all_flat;intro _ _;rfl)|(rw [List.append_nil];assumption)|(simp only [List.append_nil,List.all_cons,List.all_nil,Bool.and_true,Bool.true_and,one_int,one_bool,one_string,one_slice,one_pointer, *];done)|simp));(first|exact okst2|exact okst1|exact okst1');(focus (simp only [maxLen];first|omega|(simp only [List.length_take,List.length_drop];omega)));(focus (first|omega|(simp only [List.length_take,List.length_drop];omega)));intro sv;(try (refine S_fact (row_one (v := sv) (by (focus ((repeat (first|exact mH|refine mT ?_));done)))) (fun hone => ?_))))))
        |(apply F_build2 rfl (hd := rfl);(first|exact T.st45|exact T.st67);(focus ((repeat (first|exact BuildR.nil|(apply BuildR.cons;(first|exact T.fs45_0|exact T.fs45_1|exact T.fs67_0|exact T.fs67_1|exact T.fs67_2);rfl;rfl;(focus ((repeat (first|exact SetSeg.nil|apply SetSeg.here|apply SetSeg.there));done)))|(apply BuildR.cons1;(first|exact T.fs45_0|exact T.fs45_1|exact T.fs67_0|exact T.fs67_1|exact T.fs67_2);(focus assumption);(focus ((repeat (first|exact SetSeg.nil|apply SetSeg.here|apply SetSeg.there));done)))));done)))
        |(refine S_done ?_)))
    |(refine gC ?_;(first
        |(refine C_seq ?_)
        |(refine gReg ?_;(first
            |(refine gReg (i := 3) ?_;refine C_drawn [(0,0),(1,0),(2,0),(5,0),(6,0),(3,1),(4,1),(7,0),(8,1),(9,2),(10,0),(11,2)] [] T.mixed (by kernel_rfl) (s := [⟨0,none,_,_,_⟩,⟨0,none,_,_,_⟩,⟨0,none,_,_,_⟩,⟨0,none,_,_,_⟩,⟨0,none,_,_,_⟩,⟨1,none,_,_,_⟩,⟨1,none,_,_,_⟩,⟨0,none,_,_,_⟩,⟨1,none,_,_,_⟩,⟨2,none,_,_,_⟩,⟨0,none,_,_,_⟩,⟨2,none,_,_,_⟩]) rfl ?_)
            |(refine gReg (i := 4) ?_;refine C_plain [(0,0),(1,2)] (by kernel_rfl) (s := [⟨0,none,_,_,_⟩,⟨2,none,_,_,_⟩]) rfl ?_)))
        |(refine C_ret ?_)))
    |(refine gE ?_;(first
        |(refine E_then ?_)
        |(refine E_calm ?_)
        |(apply E_ret1 rfl;(first|exact Res.tmp rfl|(apply R_cellAll rfl;(focus ((repeat (first|exact mH|refine mT ?_));done));(first|exact T.rw24|exact T.rw45))|(apply R_cell1 rfl;(focus ((repeat (first|exact mH|refine mT ?_));done));(first|exact T.sc3|exact T.sc43)))))))
  rename_i o1 sp1 o2 s3 o3
  refine retS (n,sv,l2 ++ [((sp1,[pc]),n,false)]) ?_ rfl entA
  show (n, (l2 ++ [((sp1, [pc]), n, false)]).map ctFragSlot) = _
  rw [← hl2c, List.map_append, ← hpc]
  rfl
set_option maxRecDepth 8192 in
theorem l14Bad_c (n : Int) (v : Value) (N : Nat) (A B : List MFragSlot) (s : MFragSlot) (hA : (A.flatMap clFragSlot).length = A.length * 3) (hN : N = A.length + (B.length + 1)) (hs1 : 1 ≤ s.1.2.length) {w0 : World} (R : List Blk) (w : World) (hst0 : St w0 w ([.row v 67 3 N (A.flatMap clFragSlot ++ (clFragSlot s ++ B.flatMap clFragSlot)), .many (rwFragSlot s)] ++ R)) : Calls Try.prog 109 #[.agg #[.int .i64 n, v], .int .i64 (A.length : Int)] w
    (RetS w0 R (fun q : MFragSlot => ctFragSlot q = ((ctFragSlot s).1.take 1, s.2.1, true)) (fun _ => .agg #[.int .i64 n, v]) (fun q => [.row v 67 3 N (A.flatMap clFragSlot ++ (clFragSlot q ++ B.flatMap clFragSlot)), .many (rwFragSlot q)])) := by
  obtain ⟨⟨pv, sl⟩, since, bad⟩ := s
  dsimp only at hs1
  have hs0 : St w0 w (.row v 67 3 N (A.flatMap clFragSlot ++ (clFragSlot ((pv,sl),since,bad) ++ B.flatMap clFragSlot)) :: .row pv 24 9 sl.length (sl.flatMap clFragPacket) :: .many (sl.flatMap rwFragPacket) :: R) := (show Ent w0 _ _ from entA) _ hst0
  have hs' := hs0
  have honev : v.oneCell' = true := row_one (v := v) (List.Mem.head _) w hs'
  have h3one : (subV pv 9 0 1).oneCell' = true := mem_one3 (Row.In.mem (Row.In.part (lo := 0) (hi := 1) (hs'.own (.row pv 24 9 sl.length (sl.flatMap clFragPacket)) (by (focus ((repeat (first|exact mH|refine mT ?_));done)))).2 (by omega) hs1).1)
  refine enterS (n := 23) (E := [(0, _), (1, _)]) Try.func109 rfl rfl rfl rfl hs' ?_
  repeat' (first
    |(refine gS ?_;(first
        |(refine S_move rfl rfl ?_)
        |(apply F_field rfl rfl;(first|exact T.fl45_1|exact T.fl67_0|exact T.fl67_2))
        |(apply F_fieldS rfl rfl;(first|exact T.fl45_1|exact T.fl67_0|exact T.fl67_2);(focus (first|(focus (first|exact len_nil|(apply len_given;assumption)|(apply len_row;(focus ((repeat (first|exact mH|refine mT ?_));done)))|(apply len_isN;assumption)))|(apply len_sub;(focus (first|exact len_nil|(apply len_given;assumption)|(apply len_row;(focus ((repeat (first|exact mH|refine mT ?_));done)))|(apply len_isN;assumption)));(focus omega);(focus omega))));(focus omega))
        |(apply F_idx rfl rfl rfl;(first|exact T.sl27|exact T.sl43);(focus rfl);(focus (first|(focus (first|exact len_nil|(apply len_given;assumption)|(apply len_row;(focus ((repeat (first|exact mH|refine mT ?_));done)))|(apply len_isN;assumption)))|(apply len_sub;(focus (first|exact len_nil|(apply len_given;assumption)|(apply len_row;(focus ((repeat (first|exact mH|refine mT ?_));done)))|(apply len_isN;assumption)));(focus omega);(focus omega))));(focus omega))
        |(apply F_slice rfl rfl;(first|exact T.sl27|exact T.sl43);(focus (first|(focus (first|exact len_nil|(apply len_given;assumption)|(apply len_row;(focus ((repeat (first|exact mH|refine mT ?_));done)))|(apply len_isN;assumption)))|(apply len_sub;(focus (first|exact len_nil|(apply len_given;assumption)|(apply len_row;(focus ((repeat (first|exact mH|refine mT ?_));done)))|(apply len_isN;assumption)));(focus omega);(focus omega))));(focus exact rfl);(focus exact ⟨_,_,rfl,by omega,rfl⟩);(focus omega);(focus omega))
        |(refine gLoad ?_;(first
            |(apply F_load1 rfl rfl;(focus ((repeat (first|exact mH|refine mT ?_));done));(first|exact T.sc4|exact T.sc27|exact T.sc43);rfl;(focus (first|exact free0|exact free1)))
            |(apply F_loadAll rfl rfl;(focus ((repeat (first|exact mH|refine mT ?_));done));exact T.rw45;(focus (first|exact free0|exact free1)))
            |(apply F_loadS1 rfl rfl;(first|exact T.sc4|exact T.sc27|exact T.sc43);(focus (first|exact rd_nil|(apply rd_given;(focus assumption);(focus (first|exact freeG0|exact freeG1)))|(apply rd_row;(focus ((repeat (first|exact mH|refine mT ?_));done));(focus (first|exact freeR0|exact freeR1)))|(apply rd_sub;(focus (apply rd_given;(focus assumption);(focus (first|exact freeG0|exact freeG1))));(focus (intro _;rfl));(focus omega);(focus omega))|(apply rd_sub;(focus (apply rd_row;(focus ((repeat (first|exact mH|refine mT ?_));done));(focus (first|exact freeR0|exact freeR1))));(focus (intro _;rfl));(focus omega);(focus omega))));(focus (first|(apply at_cell;(focus (apply at_flat;(focus (intro _;rfl));(focus assumption)));rfl)|(apply at_cell0;(focus (apply at_flat;(focus (intro _;rfl));(focus assumption)));rfl)|(apply at_cell;(focus (apply at_mid0;(focus assumption)));rfl)|(apply at_cell0;(focus (apply at_mid0;(focus assumption)));rfl)|rfl)))))
        |(refine gStore ?_;(first
            |(apply F_storeN rfl rfl;(focus (first|rfl|assumption|(simp only [List.append_nil,List.all_cons,List.all_nil,Bool.and_true,Bool.true_and,one_int,one_bool,one_string,one_slice,one_pointer, *];done)));exact T.rw45;(focus ((repeat (first|exact Upd.here|apply Upd.there));done));(focus ((repeat (first|exact SetSeg.nil|apply SetSeg.here|apply SetSeg.there));done));(first|exact okst2|exact okst1|exact okst1'))
            |(apply F_storeM0 rfl rfl;(focus ((repeat (first|exact Upd.here|apply Upd.there));done));(focus assumption);(first|exact T.sc4|exact T.sc27|exact T.sc43);(focus (first|rfl|assumption));(focus ((repeat (first|exact SetSeg.nil|apply SetSeg.here|apply SetSeg.there));done));(focus omega);(first|exact okst2|exact okst1|exact okst1'))
            |(apply F_storeM1 rfl rfl;(focus ((repeat (first|exact Upd.here|apply Upd.there));done));(focus assumption);(first|exact T.sc4|exact T.sc27|exact T.sc43);(focus (first|rfl|assumption));(focus ((repeat (first|exact SetSeg.nil|apply SetSeg.here|apply SetSeg.there));done));(focus omega);(first|exact okst2|exact okst1|exact okst1'))))
        |(refine S_box rfl rfl rfl ?_;intro kb)
        |(apply S_alloc rfl (hd := rfl);exact T.zc45;intro kb)
        |(refine S_done ?_)))
    |(refine gC ?_;(first
        |(refine C_seq ?_)
        |(refine gReg ?_;(first
            |(refine gReg (i := 0) ?_;refine C_plain [(0,2),(1,2)] (by kernel_rfl) (s := [⟨2,none,_,_,_⟩,⟨2,none,_,_,_⟩]) rfl ?_)
            |(refine gReg (i := 1) ?_;refine C_plain [(0,0),(1,0),(2,0),(3,0),(4,0),(5,2)] (by kernel_rfl) (s := [⟨0,none,_,_,_⟩,⟨0,none,_,_,_⟩,⟨0,none,_,_,_⟩,⟨0,none,_,_,_⟩,⟨0,none,_,_,_⟩,⟨2,none,_,_,_⟩]) rfl ?_)
            |(refine gReg (i := 2) ?_;refine C_drawn [(0,0),(1,0),(2,0),(3,0),(4,0),(5,0),(6,0),(7,0),(8,0),(9,0),(10,0),(11,0),(12,2)] [] T.mixed (by kernel_rfl) (s := [⟨0,none,_,_,_⟩,⟨0,none,_,_,_⟩,⟨0,none,_,_,_⟩,⟨0,none,_,_,_⟩,⟨0,none,_,_,_⟩,⟨0,none,_,_,_⟩,⟨0,none,_,_,_⟩,⟨0,none,_,_,_⟩,⟨0,none,_,_,_⟩,⟨0,none,_,_,_⟩,⟨0,none,_,_,_⟩,⟨0,none,_,_,_⟩,⟨2,none,_,_,_⟩]) rfl ?_)
            |(refine gReg (i := 3) ?_;refine C_plain [(0,0),(1,2)] (by kernel_rfl) (s := [⟨0,none,_,_,_⟩,⟨2,none,_,_,_⟩]) rfl ?_)))
        |(refine C_ret ?_)))
    |(refine gE ?_;(first
        |(refine E_then ?_)
        |(refine E_calm ?_)
        |(apply E_ret1 rfl;(first|exact Res.tmp rfl|(apply R_cellAll rfl;(focus ((repeat (first|exact mH|refine mT ?_));done));exact T.rw45)|(apply R_cell1 rfl;(focus ((repeat (first|exact mH|refine mT ?_));done));(first|exact T.sc4|exact T.sc27|exact T.sc43)))))))
  refine retS ((subV pv 9 0 1,(sl.drop 0).take (1 - 0)),since,true) ?_ rfl (Ent.trans (L' := .row pv 24 9 sl.length (sl.flatMap clFragPacket) :: .many (sl.flatMap rwFragPacket) :: .row v 67 3 N (A.flatMap clFragSlot ++ (clFragSlot ((subV pv 9 0 1,(sl.drop 0).take (1 - 0)),since,true) ++ B.flatMap clFragSlot)) :: R) entA (Ent.trans (Ent.part (f := clFragPacket) (m := 9) (l := sl) (lo := 0) (hi := 1) (fun _ => rfl) (by omega) hs1 rfl) (Ent.trans (L' := .many (sl.flatMap rwFragPacket) :: .row (subV pv 9 0 1) 24 9 ((sl.drop 0).take (1 - 0)).length (((sl.drop 0).take (1 - 0)).flatMap clFragPacket) :: .row v 67 3 N (A.flatMap clFragSlot ++ (clFragSlot ((subV pv 9 0 1,(sl.drop 0).take (1 - 0)),since,true) ++ B.flatMap clFragSlot)) :: R) entA (Ent.trans (Ent.sublist (head_sub sl 1)) entA))))
  show ((((sl.drop 0).take (1 - 0)).map ctFragPacket), since, true) = ((sl.map ctFragPacket).take 1, since, true)
  rw [List.drop_zero, Nat.sub_zero, List.map_take]
end Go.Proofs.Ytodhjpnfokkfeaa

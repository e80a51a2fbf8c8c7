/- The law FnNetText: drawn texts, prefixes and addresses are read, written and read again. What the row lists of the library's variables is tied to the program's text by the given tie. -/
import Derived.Test.YtbfgpjjempagpaaDoorTextf
import Derived.Test.YtbfgpjjempagpaaDoorTextg
import Derived.Test.YtbfgpjjempagpaaDoorOpens
import Derived.Test.YtbfgpjjempagpaaDoorCards
import Derived.Test.YtbfgpjjempagpaaDoorTie
import Derived.SevenTiedAt
set_option linter.unusedSimpArgs false
set_option linter.unusedVariables false
namespace Go.Proofs.YtbfgpjjempagpaaDoor.fnNetText
open Go Go.ChangeShapes Go.WideShapes Go.ChangeAt Go.RowKit
attribute [local irreducible] Calls GoS GoC GoE GoT Mid IsEq IsFl IsSc IsRw IsSl IsEl IsSt IsFs sp Mem Rd LenOf szR Tab
theorem given {W : World} (h : laidMetH Tryd.prog Rows.fnNetTextRow.laid W) (hs : W.ShapedOpen Tryd.prog) : LaidW W ∧ Errs W := by
  rw [MakeChecks.laidMetH_plain _ _ _ (by kernel_rfl)] at h
  exact ⟨⟨tab_of h, most_of hs⟩, errs_of h⟩
theorem implParse_l {l : List UInt8} {a n : Int} {b : Bool} (h : parseS l = ((a, n), b)) (hl : l.length ≤ 1048576) (w : World) (hw : LaidW w) (he : Errs w) : Calls Tryd.prog 16 #[.string (str l)] w (RetN (.tuple #[.agg #[.int .i64 a, .int .i64 n], .bool b]) w) := by
  have := implNetParse_c l hl w hw he
  rwa [parse_eq, h] at this
theorem specParse_l {l : List UInt8} {a n : Int} {b : Bool} (h : parseS l = ((a, n), b)) (hl : l.length ≤ 1048576) (w : World) : Calls Tryd.prog 15 #[.string (str l)] w (RetN (.tuple #[.agg #[.int .i64 a, .int .i64 n], .bool b]) w) := by
  have := specNetParse_c l hl w
  rwa [h] at this
theorem implAddr_l {l : List UInt8} {q : Int} (h : addrS l = q) (hl : l.length ≤ 1048576) (w : World) (hw : LaidW w) (he : Errs w) : Calls Tryd.prog 14 #[.string (str l)] w (RetN (.int .i64 q) w) := by
  have := implNetAddr_c l hl w hw he
  rwa [addr_eq, h] at this
theorem specAddr_l {l : List UInt8} {q : Int} (h : addrS l = q) (hl : l.length ≤ 1048576) (w : World) : Calls Tryd.prog 13 #[.string (str l)] w (RetN (.int .i64 q) w) := by
  have := specNetAddr_c l hl w
  rwa [h] at this
theorem implNet_l {a n : Int} {l : List UInt8} (h : netText a n = l) (w : World) (ht : Tab w) : Calls Tryd.prog 12 #[.agg #[.int .i64 a, .int .i64 n]] w (RetN (.string (str l)) w) := by
  have := implNetText_c a n w ht
  rwa [h] at this
theorem specNet_l {a n : Int} {l : List UInt8} (h : netText a n = l) (w : World) : Calls Tryd.prog 10 #[.agg #[.int .i64 a, .int .i64 n]] w (RetN (.string (str l)) w) := by
  have := specNetText_c a n w
  rwa [h] at this
theorem implAT_l {a : Int} {l : List UInt8} (h : addrText a = l) (w : World) (ht : Tab w) : Calls Tryd.prog 9 #[.int .i64 a] w (RetN (.string (str l)) w) := by
  have := implNetAddrText_c a w ht
  rwa [h] at this
theorem specAT_l {a : Int} {l : List UInt8} (h : addrText a = l) (w : World) : Calls Tryd.prog 8 #[.int .i64 a] w (RetN (.string (str l)) w) := by
  have := specNetAddrText_c a w
  rwa [h] at this
theorem implOk_l {a l : Int} {b : Bool} (h : okP a l = b) (w : World) : Calls Tryd.prog 19 #[.agg #[.int .i64 a, .int .i64 l]] w (RetN (.bool b) w) := by
  have := implNetOk_c a l w
  rwa [h] at this
attribute [local irreducible] okP parseS addrS netText addrText size
theorem S_sNeqR {P : Program} {n : Nat} {w0 : World} {r : Option (List Nat)} {Q : Exit → Act → World → Prop} {E : List (Nat × Value)} {L : List Blk} {l : List Stp} {d : Nat} {ty t t' : TypeId} {x y : Operand} {p : List UInt8} (hx : ev E x = some (.string (str p))) (hy : ev E y = some (.string (str p))) (hd : Nat.blt d n = true) (h : GoS P n w0 r Q ((d, .bool false) :: E) L l) : GoS P n w0 r Q E L (⟨0, none, some d, .binOp .neq t x y t', ty⟩ :: l) := by
  refine S_sNeq hx hy hd ?_
  rwa [decide_eq_false (fun h => h rfl)]
theorem S_sEqlR {P : Program} {n : Nat} {w0 : World} {r : Option (List Nat)} {Q : Exit → Act → World → Prop} {E : List (Nat × Value)} {L : List Blk} {l : List Stp} {d : Nat} {ty t t' : TypeId} {x y : Operand} {p : List UInt8} (hx : ev E x = some (.string (str p))) (hy : ev E y = some (.string (str p))) (hd : Nat.blt d n = true) (h : GoS P n w0 r Q ((d, .bool true) :: E) L l) : GoS P n w0 r Q E L (⟨0, none, some d, .binOp .eql t x y t', ty⟩ :: l) := by
  refine S_sEql hx hy hd ?_
  rwa [decide_eq_true rfl]
theorem isEq_r (a n : Int) : IsEq Tryd.prog 27 (.agg #[.int .i64 a, .int .i64 n]) (.agg #[.int .i64 a, .int .i64 n]) true := by
  have := T.eqs27 a n a n
  rwa [decide_eq_true rfl] at this
set_option maxHeartbeats 1000000 in
theorem walk (w : World) (ht : LaidW w ∧ Errs w) (x : MSuint8) (hx : okSuint8 w x) (y : MSuint8) (hy : okSuint8 w y) : Calls Tryd.prog 7 #[x.1, y.1] w (RetN (.bool true) w) := by
  obtain ⟨hw, he⟩ := ht
  obtain ⟨v, l⟩ := x
  obtain ⟨hm, hby⟩ := hx
  obtain ⟨u, k⟩ := y
  obtain ⟨hu, huy⟩ := hy
  dsimp only at *
  have hlen := hm.len
  have hlen2 := hu.len
  simp only [maxLen] at hlen hlen2
  refine enter (n := 129) (E := [(0, _), (1, _)]) Tryd.func7 rfl rfl rfl rfl ?_
  repeat' (first
    |(refine gS ?_;(first
        |(refine gGuard ?_;(first
            |(refine S_on rfl ?_)
            |(refine S_off rfl rfl rfl ?_)
            |(refine S_offn rfl rfl ?_)
            |(refine S_offU rfl rfl ?_)
            |(refine S_offUn rfl ?_)
            |(refine S_gsplit rfl ?_ ?_ <;> (intro hb;(try simp only [decide_eq_true_eq] at hb);(try simp only [decide_eq_false_iff_not] at hb);(try simp only [Bool.not_eq_true'] at hb);(try simp only [Bool.not_eq_false'] at hb);(try (exfalso;first|contradiction|omega))))))
        |(refine S_move rfl rfl ?_)
        |(refine S_assign rfl rfl ?_)
        |(refine gLoad ?_;(first
            |(apply F_loadAll rfl rfl;(focus ((repeat (first|exact mH|refine mT ?_));done));exact T.rw27;(focus (first|exact free0|exact free1)))
            |(apply F_loadP rfl rfl;(focus ((repeat (first|exact mH|refine mT ?_));done));exact T.rw27;(focus ((repeat (first|exact Take.nil|apply Take.here|apply Take.there));done));rfl;(focus (first|exact free0|exact free1)))
            |(apply F_loadSN rfl rfl;exact T.rw27;(focus (first|exact rd_nil|(apply rd_given;(focus assumption);(focus (first|exact freeG0|exact freeG1)))|(apply rd_row;(focus ((repeat (first|exact mH|refine mT ?_));done));(focus (first|exact freeR0|exact freeR1)))));(focus (first|(focus (apply at_flat;(focus (intro _;rfl));(focus assumption)))|exact at_self));rfl;rfl)
            |(apply F_loadSP rfl rfl;exact T.rw27;(focus (first|exact rd_nil|(apply rd_given;(focus assumption);(focus (first|exact freeG0|exact freeG1)))|(apply rd_row;(focus ((repeat (first|exact mH|refine mT ?_));done));(focus (first|exact freeR0|exact freeR1)))));(focus (apply at_flat;(focus (intro _;rfl));(focus assumption)));(focus ((repeat (first|exact Take.nil|apply Take.here|apply Take.there));done));rfl;rfl)
            |((refine S_sNeqR rfl rfl rfl ?_))
            |((refine S_sEqlR rfl rfl rfl ?_))
            |((refine S_neqS rfl rfl rfl (isEq_r _ _) ?_;simp only [Bool.not_true]))))
        |(refine gStore ?_;(first
            |(apply F_storeN rfl rfl;(focus (first|rfl|assumption|(simp only [List.append_nil,List.all_cons,List.all_nil,Bool.and_true,Bool.true_and,one_int,one_bool,one_string,one_slice,one_pointer, *];done)));exact T.rw27;(focus ((repeat (first|exact Upd.here|apply Upd.there));done));(focus ((repeat (first|exact SetSeg.nil|apply SetSeg.here|apply SetSeg.there));done));(first|exact okst2|exact okst1|exact okst1'))
            |(apply F_storeSN rfl rfl;(focus ((repeat (first|exact Upd.here|apply Upd.there));done));exact T.rw27;rfl;(focus (first|rfl|assumption|(simp only [List.append_nil,List.all_cons,List.all_nil,Bool.and_true,Bool.true_and,one_int,one_bool,one_string,one_slice,one_pointer, *];done)));rfl;(focus omega);(first|exact okst2|exact okst1|exact okst1'))
            |((refine S_sNeqR rfl rfl rfl ?_))
            |((refine S_sEqlR rfl rfl rfl ?_))
            |((refine S_neqS rfl rfl rfl (isEq_r _ _) ?_;simp only [Bool.not_true]))))
        |(refine gCall ?_;(first
            |(show GoS _ _ _ _ _ _ _ (⟨_,_,_,.call ⟨.value (.func 18),_,_⟩,_⟩ :: _);refine S_callX (f := 18) rfl T.pf18 rfl (fun w hst => drawNetParse_c v l w (Mem.given hst hm) hby) rfl (fun zz hzz => ?_);simp only [List.cons_append,List.nil_append];revert hzz;revert zz;intro t1 (ht1 : t1.length ≤ 200);rcases parse_case t1 with hp|⟨a,n,hp,hok,hnt⟩)
            |(show GoS _ _ _ _ _ _ _ (⟨_,_,_,.call ⟨.value (.func 20),_,_⟩,_⟩ :: _);refine S_callX (f := 20) rfl T.pf20 rfl (fun w hst => drawNetText_c u k w (Mem.given hst hu) huy) rfl (fun zz hzz => ?_);simp only [List.cons_append,List.nil_append];revert hzz;revert zz;rintro ⟨b,m⟩ ⟨hr1,hr2⟩;dsimp only at hr1 hr2 ⊢;obtain ⟨t2,hn2⟩ : ∃ t,netText b m = t := ⟨_,rfl⟩;have hl2 := netText_len b m;rw [hn2] at hl2;obtain ⟨ob,hok2⟩ : ∃ o,okP b m = o := ⟨_,rfl⟩;have hp2 : parseS t2 = (bif ob then ((b,m),true) else ((0,0),false)) := (by cases ob;exact hn2 ▸ parse_none hok2;exact hn2 ▸ parse_forth hok2);cases ob <;> (simp only [cond_true,cond_false] at hp2))
            |(show GoS _ _ _ _ _ _ _ (⟨_,_,_,.call ⟨.value (.func 16),_,_⟩,_⟩ :: _);refine S_callN (f := 16) rfl T.pf16 rfl (fun w hst => implParse_l hp (by omega) w (hw.ext hst.ext) (he.ext hst.ext)) rfl ?_)
            |(show GoS _ _ _ _ _ _ _ (⟨_,_,_,.call ⟨.value (.func 15),_,_⟩,_⟩ :: _);refine S_callN (f := 15) rfl T.pf15 rfl (fun w hst => specParse_l hp (by omega) w) rfl ?_)
            |(show GoS _ _ _ _ _ _ _ (⟨_,_,_,.call ⟨.value (.func 16),_,_⟩,_⟩ :: _);refine S_callN (f := 16) rfl T.pf16 rfl (fun w hst => implParse_l hp2 (by omega) w (hw.ext hst.ext) (he.ext hst.ext)) rfl ?_)
            |(show GoS _ _ _ _ _ _ _ (⟨_,_,_,.call ⟨.value (.func 19),_,_⟩,_⟩ :: _);refine S_callN (f := 19) rfl T.pf19 rfl (fun w hst => implOk_l hok w) rfl ?_)
            |(show GoS _ _ _ _ _ _ _ (⟨_,_,_,.call ⟨.value (.func 21),_,_⟩,_⟩ :: _);refine S_callN (f := 21) rfl T.pf21 rfl (fun w hst => specNetOk_l hok2 w) rfl ?_)
            |(show GoS _ _ _ _ _ _ _ (⟨_,_,_,.call ⟨.value (.func 12),_,_⟩,_⟩ :: _);refine S_callN (f := 12) rfl T.pf12 rfl (fun w hst => implNet_l hnt w (hw.tab.ext hst.ext)) rfl ?_)
            |(show GoS _ _ _ _ _ _ _ (⟨_,_,_,.call ⟨.value (.func 12),_,_⟩,_⟩ :: _);refine S_callN (f := 12) rfl T.pf12 rfl (fun w hst => implNet_l hn2 w (hw.tab.ext hst.ext)) rfl ?_)
            |(show GoS _ _ _ _ _ _ _ (⟨_,_,_,.call ⟨.value (.func 10),_,_⟩,_⟩ :: _);refine S_callN (f := 10) rfl T.pf10 rfl (fun w hst => specNet_l hn2 w) rfl ?_)
            |(show GoS _ _ _ _ _ _ _ (⟨_,_,_,.call ⟨.value (.func 22),_,_⟩,_⟩ :: _);refine S_callX (f := 22) rfl T.pf22 rfl (fun w hst => drawNetAddrText_c v l w (Mem.given hst hm) hby) rfl (fun zz hzz => ?_);simp only [List.cons_append,List.nil_append];revert hzz;revert zz;intro c (hc : -70000 ≤ c ∧ c ≤ 70000);obtain ⟨t3,ht3⟩ : ∃ t,addrText c = t := ⟨_,rfl⟩;have hl3 := addrText_len c;rw [ht3] at hl3;have hback : 0 ≤ c → c ≤ 65535 → addrS t3 = c := fun h0 h1 => ht3 ▸ addr_forth h0 h1)
            |(show GoS _ _ _ _ _ _ _ (⟨_,_,_,.call ⟨.value (.func 23),_,_⟩,_⟩ :: _);refine S_callX (f := 23) rfl T.pf23 rfl (fun w hst => drawNetAddr_c u k w (Mem.given hst hu) huy) rfl (fun zz hzz => ?_);simp only [List.cons_append,List.nil_append];revert hzz;revert zz;intro t4 (ht4 : t4.length ≤ 200);obtain ⟨z4,hz4⟩ : ∃ z,addrS t4 = z := ⟨_,rfl⟩;have hfor : 0 ≤ z4 → addrText z4 = t4 := fun h0 => by subst hz4;exact (addr_back h0).1)
            |(show GoS _ _ _ _ _ _ _ (⟨_,_,_,.call ⟨.value (.func 9),_,_⟩,_⟩ :: _);refine S_callN (f := 9) rfl T.pf9 rfl (fun w hst => implAT_l ht3 w (hw.tab.ext hst.ext)) rfl ?_)
            |(show GoS _ _ _ _ _ _ _ (⟨_,_,_,.call ⟨.value (.func 8),_,_⟩,_⟩ :: _);refine S_callN (f := 8) rfl T.pf8 rfl (fun w hst => specAT_l ht3 w) rfl ?_)
            |(show GoS _ _ _ _ _ _ _ (⟨_,_,_,.call ⟨.value (.func 14),_,_⟩,_⟩ :: _);refine S_callN (f := 14) rfl T.pf14 rfl (fun w hst => implAddr_l hz4 (by omega) w (hw.ext hst.ext) (he.ext hst.ext)) rfl ?_)
            |(show GoS _ _ _ _ _ _ _ (⟨_,_,_,.call ⟨.value (.func 13),_,_⟩,_⟩ :: _);refine S_callN (f := 13) rfl T.pf13 rfl (fun w hst => specAddr_l hz4 (by omega) w) rfl ?_)
            |(show GoS _ _ _ _ _ _ _ (⟨_,_,_,.call ⟨.value (.func 14),_,_⟩,_⟩ :: _);refine S_callN (f := 14) rfl T.pf14 rfl (fun w hst => implAddr_l (hback (by omega) (by omega)) (by omega) w (hw.ext hst.ext) (he.ext hst.ext)) rfl ?_)
            |(show GoS _ _ _ _ _ _ _ (⟨_,_,_,.call ⟨.value (.func 9),_,_⟩,_⟩ :: _);refine S_callN (f := 9) rfl T.pf9 rfl (fun w hst => implAT_l (hfor (by omega)) w (hw.tab.ext hst.ext)) rfl ?_)
            |(apply F_len rfl rfl rfl;(focus exact ⟨_,_,by exact T.sl35⟩);(focus (first|exact len_nil|(apply len_given;assumption)|(apply len_row;(focus ((repeat (first|exact mH|refine mT ?_));done)))|(apply len_isN;assumption))))
            |((refine S_sNeqR rfl rfl rfl ?_))
            |((refine S_sEqlR rfl rfl rfl ?_))
            |((refine S_neqS rfl rfl rfl (isEq_r _ _) ?_;simp only [Bool.not_true]))))
        |(refine gBin ?_;(first
            |((refine S_sNeqR rfl rfl rfl ?_))
            |((refine S_sEqlR rfl rfl rfl ?_))
            |((refine S_neqS rfl rfl rfl (isEq_r _ _) ?_;simp only [Bool.not_true]))
            |(apply S_eqlS rfl rfl rfl;(focus exact T.eqs27 _ _ _ _))
            |(apply S_neqS rfl rfl rfl;(focus exact T.eqs27 _ _ _ _))
            |(refine S_lss rfl rfl rfl ?_)
            |(refine S_gtr rfl rfl rfl ?_)
            |(refine S_eql rfl rfl rfl ?_)
            |(refine S_neq rfl rfl rfl ?_)
            |(refine S_eqlB Tryd.underlying4 rfl rfl rfl ?_)
            |(refine S_neqB Tryd.underlying4 rfl rfl rfl ?_)))
        |(refine gPick ?_;(first
            |(refine S_pickT rfl rfl rfl ?_)
            |(refine S_pickF rfl rfl rfl ?_)))
        |(apply S_alloc rfl (hd := rfl);exact T.zc27;intro kb)
        |(apply F_build2 rfl (hd := rfl);exact T.st27;(focus ((repeat (first|exact BuildR.nil|(apply BuildR.cons;(first|exact T.fs27_0|exact T.fs27_1);rfl;rfl;(focus ((repeat (first|exact SetSeg.nil|apply SetSeg.here|apply SetSeg.there));done)))|(apply BuildR.cons1;(first|exact T.fs27_0|exact T.fs27_1);(focus assumption);(focus ((repeat (first|exact SetSeg.nil|apply SetSeg.here|apply SetSeg.there));done)))));done)))
        |(refine S_not rfl rfl ?_)
        |(refine S_extract rfl rfl rfl ?_)
        |(refine S_done ?_)
        |((refine S_sNeqR rfl rfl rfl ?_))
        |((refine S_sEqlR rfl rfl rfl ?_))
        |((refine S_neqS rfl rfl rfl (isEq_r _ _) ?_;simp only [Bool.not_true]))))
    |(refine gC ?_;(first
        |(refine C_seq ?_)
        |(refine gReg ?_;(first
            |(refine gReg (i := 0) ?_;refine C_plain [(0,0)] (by kernel_rfl) (s := [⟨0,none,_,_,_⟩]) rfl ?_)
            |(refine gReg (i := 1) ?_;refine C_plain [(0,0),(1,0),(2,0),(3,0),(4,0),(5,0),(6,0),(7,0)] (by kernel_rfl) (s := [⟨0,none,_,_,_⟩,⟨0,none,_,_,_⟩,⟨0,none,_,_,_⟩,⟨0,none,_,_,_⟩,⟨0,some (21,false),_,_,_⟩,⟨0,some (21,false),_,_,_⟩,⟨0,some (21,false),_,_,_⟩,⟨0,none,_,_,_⟩]) rfl ?_)
            |(refine gReg (i := 2) ?_;refine C_plain [(0,0)] (by kernel_rfl) (s := [⟨0,none,_,_,_⟩]) rfl ?_)
            |(refine gReg (i := 3) ?_;refine C_plain [(0,0),(1,2),(2,0)] (by kernel_rfl) (s := [⟨0,none,_,_,_⟩,⟨2,none,_,_,_⟩,⟨0,none,_,_,_⟩]) rfl ?_)
            |(refine gReg (i := 4) ?_;refine C_plain [(0,0),(1,2),(2,0),(3,0),(4,0),(5,2),(6,2),(7,0)] (by kernel_rfl) (s := [⟨0,none,_,_,_⟩,⟨2,none,_,_,_⟩,⟨0,none,_,_,_⟩,⟨0,none,_,_,_⟩,⟨0,none,_,_,_⟩,⟨2,none,_,_,_⟩,⟨2,none,_,_,_⟩,⟨0,none,_,_,_⟩]) rfl ?_)
            |(refine gReg (i := 5) ?_;refine C_plain [(0,0),(1,2),(2,0),(3,0),(4,0),(5,2),(6,2),(7,0)] (by kernel_rfl) (s := [⟨0,none,_,_,_⟩,⟨2,none,_,_,_⟩,⟨0,none,_,_,_⟩,⟨0,none,_,_,_⟩,⟨0,none,_,_,_⟩,⟨2,none,_,_,_⟩,⟨2,none,_,_,_⟩,⟨0,none,_,_,_⟩]) rfl ?_)
            |(refine gReg (i := 6) ?_;refine C_plain [(0,0),(1,0),(2,0),(3,0),(4,0),(5,0),(6,0),(7,0),(8,0),(9,0),(10,0),(11,0),(12,2),(13,0),(14,0),(15,0),(16,2),(17,0),(18,0),(19,0),(20,0),(21,0)] (by kernel_rfl) (s := [⟨0,none,_,_,_⟩,⟨0,none,_,_,_⟩,⟨0,none,_,_,_⟩,⟨0,none,_,_,_⟩,⟨0,some (41,false),_,_,_⟩,⟨0,some (41,false),_,_,_⟩,⟨0,some (41,false),_,_,_⟩,⟨0,none,_,_,_⟩,⟨0,none,_,_,_⟩,⟨0,some (46,false),_,_,_⟩,⟨0,some (46,false),_,_,_⟩,⟨0,some (48,true),_,_,_⟩,⟨2,some (48,true),_,_,_⟩,⟨0,some (48,true),_,_,_⟩,⟨0,some (48,true),_,_,_⟩,⟨0,some (52,false),_,_,_⟩,⟨2,some (52,false),_,_,_⟩,⟨0,some (52,false),_,_,_⟩,⟨0,some (52,false),_,_,_⟩,⟨0,some (48,true),_,_,_⟩,⟨0,some (46,false),_,_,_⟩,⟨0,none,_,_,_⟩]) rfl ?_)
            |(refine gReg (i := 7) ?_;refine C_plain [(0,0)] (by kernel_rfl) (s := [⟨0,none,_,_,_⟩]) rfl ?_)
            |(refine gReg (i := 8) ?_;refine C_plain [(0,0),(1,2),(2,2),(3,2)] (by kernel_rfl) (s := [⟨0,none,_,_,_⟩,⟨2,none,_,_,_⟩,⟨2,none,_,_,_⟩,⟨2,none,_,_,_⟩]) rfl ?_)
            |(refine gReg (i := 9) ?_;refine C_plain [(0,0),(1,2),(2,0)] (by kernel_rfl) (s := [⟨0,none,_,_,_⟩,⟨2,none,_,_,_⟩,⟨0,none,_,_,_⟩]) rfl ?_)
            |(refine gReg (i := 10) ?_;refine C_plain [(0,0),(1,2),(2,0),(3,0),(4,0),(5,2),(6,2),(7,0)] (by kernel_rfl) (s := [⟨0,none,_,_,_⟩,⟨2,none,_,_,_⟩,⟨0,none,_,_,_⟩,⟨0,none,_,_,_⟩,⟨0,none,_,_,_⟩,⟨2,none,_,_,_⟩,⟨2,none,_,_,_⟩,⟨0,none,_,_,_⟩]) rfl ?_)
            |(refine gReg (i := 11) ?_;refine C_plain [(0,0),(1,0),(2,2),(3,0),(4,0),(5,0),(6,0),(7,2),(8,0),(9,0),(10,0),(11,0),(12,0),(13,0),(14,0),(15,0),(16,0),(17,0)] (by kernel_rfl) (s := [⟨0,none,_,_,_⟩,⟨0,none,_,_,_⟩,⟨2,none,_,_,_⟩,⟨0,none,_,_,_⟩,⟨0,none,_,_,_⟩,⟨0,some (73,false),_,_,_⟩,⟨0,some (73,false),_,_,_⟩,⟨2,some (73,false),_,_,_⟩,⟨0,some (73,false),_,_,_⟩,⟨0,none,_,_,_⟩,⟨0,none,_,_,_⟩,⟨0,some (79,false),_,_,_⟩,⟨0,some (79,false),_,_,_⟩,⟨0,some (81,true),_,_,_⟩,⟨0,some (81,true),_,_,_⟩,⟨0,some (81,true),_,_,_⟩,⟨0,some (79,false),_,_,_⟩,⟨0,none,_,_,_⟩]) rfl ?_)
            |(refine gReg (i := 12) ?_;refine C_plain [(0,0)] (by kernel_rfl) (s := [⟨0,none,_,_,_⟩]) rfl ?_)
            |(refine gReg (i := 13) ?_;refine C_plain [(0,0),(1,2),(2,0)] (by kernel_rfl) (s := [⟨0,none,_,_,_⟩,⟨2,none,_,_,_⟩,⟨0,none,_,_,_⟩]) rfl ?_)
            |(refine gReg (i := 14) ?_;refine C_plain [(0,0),(1,2),(2,0)] (by kernel_rfl) (s := [⟨0,none,_,_,_⟩,⟨2,none,_,_,_⟩,⟨0,none,_,_,_⟩]) rfl ?_)
            |(refine gReg (i := 15) ?_;refine C_plain [(0,0),(1,2),(2,0)] (by kernel_rfl) (s := [⟨0,none,_,_,_⟩,⟨2,none,_,_,_⟩,⟨0,none,_,_,_⟩]) rfl ?_)
            |(refine gReg (i := 16) ?_;refine C_plain [(0,0),(1,2),(2,0)] (by kernel_rfl) (s := [⟨0,none,_,_,_⟩,⟨2,none,_,_,_⟩,⟨0,none,_,_,_⟩]) rfl ?_)
            |(refine gReg (i := 17) ?_;apply C_plain [(0,0),(1,0),(2,2),(3,0),(4,0),(5,0),(6,0),(7,2),(8,0),(9,0),(10,0),(11,0),(12,0),(13,0),(14,0),(15,0),(16,0),(17,0),(18,0),(19,2),(20,0),(21,0),(22,0),(23,0),(24,0),(25,0),(26,0),(27,0),(28,0),(29,2),(30,0),(31,0),(32,0),(33,0),(34,0)] (by kernel_rfl);(focus (simp only [mkS,gSlot,List.getElem?_cons_zero,List.getElem?_cons_succ];rfl)))))
        |(refine C_true rfl ?_)
        |(refine C_false rfl ?_)
        |(refine C_split rfl ?_ ?_ <;> (intro hb;(try simp only [decide_eq_true_eq] at hb);(try simp only [decide_eq_false_iff_not] at hb);(try simp only [Bool.not_eq_true'] at hb);(try simp only [Bool.not_eq_false'] at hb);(try (exfalso;first|contradiction|omega))))
        |(refine C_skip ?_)
        |(refine C_exit ?_)
        |(refine C_ret ?_)
        |(refine C_block ?_)))
    |(refine gE ?_;(first
        |(refine E_then ?_)
        |(refine E_thenX ?_)
        |(refine E_thenR ?_)
        |(refine E_block ?_)
        |(refine E_blockY ?_)
        |(refine E_blockR ?_)
        |(refine E_calm ?_)
        |(refine E_blockX rfl ?_)
        |(apply E_ret1 rfl;(first|exact Res.tmp rfl|(apply R_cellAll rfl;(focus ((repeat (first|exact mH|refine mT ?_));done));exact T.rw27)|(apply R_cell1 rfl;(focus ((repeat (first|exact mH|refine mT ?_));done));fail)))
        |(apply E_ret2 rfl;(first|exact Res.tmp rfl|(apply R_cellAll rfl;(focus ((repeat (first|exact mH|refine mT ?_));done));exact T.rw27)|(apply R_cell1 rfl;(focus ((repeat (first|exact mH|refine mT ?_));done));fail));(first|exact Res.tmp rfl|(apply R_cellAll rfl;(focus ((repeat (first|exact mH|refine mT ?_));done));exact T.rw27)|(apply R_cell1 rfl;(focus ((repeat (first|exact mH|refine mT ?_));done));fail)))
        | (apply E_ret3 rfl; (first | exact Res.tmp rfl | (apply R_cellAll rfl; (focus ((repeat (first | exact List.Mem.head _ | refine List.Mem.tail _ ?_)); done)); exact T.rw27) | (apply R_cell1 rfl; (focus ((repeat (first | exact List.Mem.head _ | refine List.Mem.tail _ ?_)); done)); fail)); (first | exact Res.tmp rfl | (apply R_cellAll rfl; (focus ((repeat (first | exact List.Mem.head _ | refine List.Mem.tail _ ?_)); done)); exact T.rw27) | (apply R_cell1 rfl; (focus ((repeat (first | exact List.Mem.head _ | refine List.Mem.tail _ ?_)); done)); fail)); (first | exact Res.tmp rfl | (apply R_cellAll rfl; (focus ((repeat (first | exact List.Mem.head _ | refine List.Mem.tail _ ?_)); done)); exact T.rw27) | (apply R_cell1 rfl; (focus ((repeat (first | exact List.Mem.head _ | refine List.Mem.tail _ ?_)); done)); fail))))))
  all_goals first | (exact retN rfl) | (refine retN ?_; simp_all; done) | (exfalso; simp_all; done)
set_option maxRecDepth 100000 in
theorem door_met (os : Os) (args : Array Value) : laidMetH Tryd.prog Rows.fnNetTextRow.laid ((World.doorLaid Tryd.prog 4000 os).forCall (fun _ _ => 0) ⟨#[], args, []⟩).memory := by
  rw [MakeChecks.laidMetH_plain _ _ _ (by kernel_rfl)]
  exact laidMet_of_run' 8 (by kernel_rfl) (by kernel_rfl)
set_option maxRecDepth 100000 in
theorem lifted (os : Os) (started : os.Started) (H : Type) (enc : TypeId × Value → H) :
    ReturnsInHanded {} Tryd.checked os 7 .any (fun w args => (Rows.fnNetTextSpec.pre enc Tryd.prog Tryd.f7 Rows.fnNetTextRow.domain false w args ∧ laidMetH Tryd.prog Rows.fnNetTextRow.laid w) ∧ sizedMet enc Tryd.prog Tryd.f7 (OpenSpec.ofChange Rows.fnNetTextSpec) false w args)
      (Rows.fnNetTextSpec.post enc Tryd.prog Tryd.f7 false true false false) := by
  refine returns_and_shaped (C := Tryd.checked) (X := (fun w _ => laidMetH Tryd.prog Rows.fnNetTextRow.laid w)) (fun _ _ _ hh h => h.of_heap hh) own started (by kernel_rfl) Tryd.func7
    (ChangeSpec.witness_shaped (enc := enc) (C := Tryd.checked) (os := os) (X := (fun w _ => laidMetH Tryd.prog Rows.fnNetTextRow.laid w)) false (World.doorLaid Tryd.prog 4000 os) #[.slice none 0 0, .slice none 0 0] 8 rfl (World.shaped_of_RefB (by kernel_rfl) (by kernel_rfl)) (by kernel_rfl) (by kernel_rfl) (by kernel_rfl) (door_met os _)) ?_
  intro W base args ds gs before hval0 hW hcnd hL hsh
  have hval : ∀ (j : Nat) t v, Tryd.f7.params[j]? = some t → args[j]? = some v → Value.okWide Tryd.prog W .any base t v := hval0
  have hW' := hW
  obtain ⟨p, q, hA0, hV, rfl, hfz, hnd⟩ := hW
  have hA : DataW.TrodAll enc Tryd.prog W 0 (fun _ => true) true Tryd.f7.params.toList args.toList ds p := hA0
  rw [Tryd.params7] at hA hval
  obtain ⟨v0, vs0, d0, ds0, p0, q0, hargs, rfl, rfl, h0, r0⟩ := trodAll_cons hA
  obtain ⟨v1, vs1, d1, ds1, p1, q1, rfl, rfl, rfl, h1, r1⟩ := trodAll_cons r0
  obtain ⟨rfl, rfl, rfl⟩ := trodAll_nil r1
  obtain rfl : args = #[v0, v1] := by cases args; simp_all
  obtain ⟨rfl, rfl⟩ := trodVars_none hV
  have k0 := h0
  have lt0 : ∀ x ∈ p0, x.block < W.heap.size := by obtain ⟨m, hm⟩ := k0; exact DataW.trod_lt m _ _ _ hm
  have k1 := h1
  have lt1 : ∀ x ∈ p1, x.block < W.heap.size := by obtain ⟨m, hm⟩ := k1; exact DataW.trod_lt m _ _ _ hm
  obtain ⟨y0, rfl, w0⟩ := par_Suint8 (hval 0 35 v0 rfl rfl) h0
  obtain ⟨y1, rfl, w1⟩ := par_Suint8 (hval 1 35 v1 rfl rfl) h1
  clear hA0 hval0
  refine (walk W (given hL hsh) y0 w0 y1 w1).mono fun e W' ⟨he, bel⟩ => ?_
  subst he
  exact ⟨_, rfl, _, _, _, [], _, [], hW', trodAll_mk1 (shut_bool Tryd.underlying4 _), (trodAll_cons_mk (Below.trod laidOut (by kernel_rfl) (of_decide_eq_true (by kernel_rfl)) k0 bel lt0) (trodAll_cons_mk (Below.trod laidOut (by kernel_rfl) (of_decide_eq_true (by kernel_rfl)) k1 bel lt1) trodAll_mk0)), rfl, bel.frame _, fun h => by cases h⟩
theorem over : Rows.fnNetTextRow.holds Tryd.pinned (OpenSpec.ofChange Rows.fnNetTextSpec) :=
  OpenClaim.holds_of_wide 7 Tryd.f7 rfl rfl rfl rfl rfl rfl rfl ⟨rfl, rfl, rfl, rfl, rfl⟩ rfl rfl rfl rfl rfl (by kernel_rfl) Tryd.func7 (by kernel_rfl)
    (of_decide_eq_true (by kernel_rfl)) (by unfold Func.isWrapper; rw [if_neg (of_decide_eq_false (by kernel_rfl))]; exact ⟨rfl, rfl⟩)
    (fun os started H enc _ => lifted os started H enc)
theorem proved : Rows.FnNetTextCardSaid :=
  Claim7.holds_tied_plain_at .later [] Rows.fnNetTextCard.laidKinds true Rows.fnNetTextCard.stood.harness Rows.fnNetTextCard.stood.looks
    over (fun _ h => by cases h) (by kernel_rfl) (fun _ h => by cases h) fnNetText_row_tie rfl ⟨rfl, rfl⟩ (by kernel_rfl) rfl
    (fun f fn hf hfn => by
      obtain rfl : f = 7 := Option.some.inj ((show Tryd.prog.funcNamed Rows.fnNetTextRow.func = some 7 by kernel_rfl).symm.trans hf) |>.symm
      obtain rfl : fn = Tryd.f7 := (Option.some.inj (Tryd.func7.symm.trans hfn)).symm
      exact ⟨by kernel_rfl, fun j t ht => by
        rw [Tryd.params7] at ht
        have hm : t ∈ ([35, 35] : List TypeId) := by simpa using Array.mem_of_getElem? ht
        have hall : (([35, 35] : List TypeId).all fun u => !Tryd.prog.wantsStandIn u) = true := by kernel_rfl
        exact (show Tryd.prog.wantsStandIn t = false by simpa using List.all_eq_true.1 hall t hm)⟩)
    (by kernel_rfl)
#print axioms proved
end Go.Proofs.YtbfgpjjempagpaaDoor.fnNetText

/- The law FnFragBench: packets and pieces come to a bench, ticks pass. No condition. -/
import Derived.Test.YtodhjpnfokkfeaaFragbb
import Derived.Test.YtodhjpnfokkfeaaFragac
import Derived.Test.YtodhjpnfokkfeaaFragq
import Derived.Test.YtodhjpnfokkfeaaFragaq
import Derived.Test.YtodhjpnfokkfeaaFragr
import Derived.Test.YtodhjpnfokkfeaaFragba
import Derived.Test.YtodhjpnfokkfeaaFragl
import Derived.Test.YtodhjpnfokkfeaaOpens
set_option linter.unusedSimpArgs false
set_option linter.unusedVariables false
namespace Go.Proofs.Ytodhjpnfokkfeaa
open Go Go.RowKit
attribute [local irreducible] Calls GoS GoC GoE GoT Mid IsEq IsFl IsSc IsRw IsSl IsEl IsSt IsFs sp Mem Rd LenOf szR joinC alikeC likeC takeC
theorem same_l (x y : MFragPacket) (h : ctFragPacket x = ctFragPacket y) (w : World) (hx : Rds w (rwFragPacket x)) (hy : Rds w (rwFragPacket y)) : Calls Try.prog 18 #[.agg (clFragPacket x).toArray, .agg (clFragPacket y).toArray] w (RetN (.bool true) w) := by
  have h1 := wfSame_c x y w hx hy
  rwa [decide_eq_true h] at h1
end Go.Proofs.Ytodhjpnfokkfeaa
namespace Go.Proofs.Ytodhjpnfokkfeaa.fnFragBench
open Go Go.ChangeShapes Go.WideShapes Go.ChangeAt Go.RowKit
attribute [local irreducible] Calls GoS GoC GoE GoT Mid IsEq IsFl IsSc IsRw IsSl IsEl IsSt IsFs sp Mem Rd LenOf szR joinC alikeC likeC takeC
theorem octB_small {c : CFragBench} (h : SmallB c) : octB c := fun s hs q hq => ((h.2.2.2 s hs).2 q hq).byte
theorem oct_smallW {c : CFragPacket} (h : SmallW c) : octP c := h.byte
theorem lenW {x : MFragPacket} (h : SmallW (ctFragPacket x)) : x.2.2.2.2.2.2.2.2.2.length ≤ 1048576 := Nat.le_trans h.len (by decide)
theorem small0 : SmallB (ctFragBench (0, .slice none 0 0, [])) := ⟨by show (-70000 : Int) ≤ 0; decide, by show (0 : Int) ≤ 2199023255552; decide, by show (0 : Nat) ≤ 4; decide, fun s hs => by cases hs⟩
theorem good0 : BenchGood (ctFragBench (0, .slice none 0 0, [])) := good_of (by omega) (by omega) (by simp) (fun s hs => by cases hs) .nil
theorem tick_next {b y : MFragBench} {k : Int} (hg : BenchGood (ctFragBench b)) (hn : b.1 < 1000000) (hs : SmallB (ctFragBench b)) (hy : TickR (ctFragBench b) (ctFragBench y) k) : k = 0 ∧ y.1 = b.1 + 1 ∧ BenchGood (ctFragBench y) ∧ SmallB (ctFragBench y) := by
  have h1 := (tick_good hy hg).1
  have h2 := tick_small hy hs
  have h0 : b.1 ≠ 1000000 := by omega
  rcases hy with ⟨h, _⟩ | ⟨_, h, _⟩ | ⟨_, _, h, rfl⟩
  · exact absurd hg h
  · exact absurd h h0
  · exact ⟨rfl, congrArg (fun c : CFragBench => c.1) h, h1, h2⟩
theorem wfB_l (x y : MFragBench) (h : ctFragBench x = ctFragBench y) (w : World) (hx : Rds w (rwFragBench x)) (hy : Rds w (rwFragBench y)) : Calls Try.prog 40 #[.agg (clFragBench x).toArray, .agg (clFragBench y).toArray] w (RetN (.bool true) w) := by
  have h1 := wfBench_c x y w hx hy
  rwa [decide_eq_true h] at h1
theorem boolX {f : Nat} {args : Array Value} {w : World} {G : Prop} {b : Bool} (hb : b = true ↔ G) (h : Calls Try.prog f args w (RetX (fun r : Bool => r = true ↔ G) (fun r => .bool r) (fun _ => []) w)) : Calls Try.prog f args w (RetN (.bool b) w) := by
  refine h.mono ?_
  rintro e w' ⟨r, h1, h2, h3, _⟩
  have h4 : r = b := Bool.eq_iff_iff.2 (h1.trans hb.symm)
  exact ⟨by rw [h2, h4], h3⟩
theorem implOk_t (b : MFragBench) (hs : SmallB (ctFragBench b)) (hg : BenchGood (ctFragBench b)) (w : World) (hx : Rds w (rwFragBench b)) : Calls Try.prog 26 #[.agg (clFragBench b).toArray] w (RetN (.bool true) w) := boolX (iff_of_true rfl hg) (implFragBenchOk_c b (smallB_short hs).1 (smallB_short hs).2 w hx)
theorem piece_len {b : MFragBench} (h : SmallB (ctFragBench b)) {y : MFragSlot} (hy : y ∈ b.2.2) {p : MFragPacket} (hp : p ∈ y.1.2) : p.2.2.2.2.2.2.2.2.2.length ≤ 1048576 := ((smallB_short h).2 y hy).2 p hp
theorem pieces_le {b : MFragBench} (h : BenchGood (ctFragBench b)) {y : MFragSlot} (hy : y ∈ b.2.2) : y.1.2.length ≤ 40 := by
  have h1 := (good_headC (l := b.2.2.map ctFragSlot) h (List.mem_map_of_mem hy)).2.1
  have h2 : (y.1.2.map ctFragPacket).length ≤ 40 := h1
  rwa [List.length_map] at h2
theorem same_ne (x y : MFragPacket) (h : ctFragPacket x ≠ ctFragPacket y) (w : World) (hx : Rds w (rwFragPacket x)) (hy : Rds w (rwFragPacket y)) : Calls Try.prog 18 #[.agg (clFragPacket x).toArray, .agg (clFragPacket y).toArray] w (RetN (.bool false) w) := by
  have h1 := wfSame_c x y w hx hy
  rwa [decide_eq_false h] at h1
theorem join_li (x : MSFragPacket) {p : CFragPacket} {k : Int} (hj : joinC (x.2.map ctFragPacket) = (p, k)) (hn : x.2.length ≤ 1048576) (hl : ∀ y ∈ x.2, y.2.2.2.2.2.2.2.2.2.length ≤ 1048576) (w : World) (hx : Rds w (rwSFragPacket x)) : Calls Try.prog 15 #[x.1] w
    (RetX (fun y : MFragPacket => ctFragPacket y = p) (fun y => .tuple #[.agg (clFragPacket y).toArray, .int .i64 k]) (fun y => [.many (rwFragPacket y)]) w) := by
  have h := implFragJoin_c x hn hl w hx
  rw [hj] at h
  exact h
theorem rds_newP3 {w0 w : World} {L : List Blk} {v : Value} {l : List MFragPacket} {e : MFragPacket} (hs : St w0 w L) (h1 : .row v 24 9 (l.length + 1) (l.flatMap clFragPacket ++ (clFragPacket e ++ [])) ∈ L) (h2 : ∀ y ∈ l, Rds w (rwFragPacket y)) (h3 : Rds w (rwFragPacket e)) : Rds w (rwSFragPacket (v, l ++ [e])) := by
  have h4 := Rds.head (Rds.row hs h1 24)
  rw [List.append_nil, ← List.flatMap_singleton clFragPacket e, ← List.flatMap_append, ← List.length_singleton (a := e), ← List.length_append] at h4
  refine Rds.cons h4 (Rds.flatMap.2 fun y hy => ?_)
  rcases List.mem_append.1 hy with hy | hy
  · exact h2 y hy
  · rw [List.mem_singleton] at hy; rw [hy]; exact h3
theorem head_ix {b : MFragBench} {j : Nat} (h1 : 1 ≤ (ix b.2.2 j).1.2.length) : headS (ix b.2.2 j) = ctFragPacket (ix (ix b.2.2 j).1.2 0) := pk_head h1
theorem lost_of {b y2 : MFragBench} {c : List CFragSlot} {q : CFragPacket} {k : Int} {p : CFragPacket} (h2 : BenchGood (ctFragBench b)) (hR : TakeR b.1 (b.2.2.map ctFragSlot) p c q k) (hy2 : ctFragBench y2 = (b.1, c)) {j : Nat} (hj : j < b.2.2.length) (h1 : 1 ≤ (ix b.2.2 j).1.2.length) {k5 : Int} (hk : firstOf (fun y => likeC (headS y) (ctFragPacket (ix (ix b.2.2 j).1.2 0))) y2.2.2 k5) (h : k5 < 0) (hn : alikeC (ctFragPacket (ix (ix b.2.2 j).1.2 0)) p = false) : j = 0 ∧ b.2.2.length = 4 := by
  have h3 := first_neg hk h
  have e1 := head_ix h1
  have h4 := come_lost (j := j) (s := ctFragSlot (ix b.2.2 j)) h2 hR (sl_map j hj) (by show alikeC (headS (ix b.2.2 j)) p = false; rw [e1]; exact hn) (fun r hr => by
    have e2 : y2.2.2.map ctFragSlot = c := congrArg (fun c : CFragBench => c.2) hy2
    rw [← e2] at hr
    obtain ⟨y, hy, rfl⟩ := List.mem_map.1 hr
    show likeC (headS y) (headS (ix b.2.2 j)) = false
    rw [e1]
    exact h3 y hy)
  rw [List.length_map] at h4
  exact h4
theorem slot_row (b : MFragBench) : (⟨b.2.1, 67, 3, b.2.2.length, b.2.2.flatMap clFragSlot⟩ : Row) ∈ rwFragBench b := List.Mem.head _
theorem piece_row {b : MFragBench} {j : Nat} (hj : j < b.2.2.length) : (⟨(ix b.2.2 j).1.1, 24, 9, (ix b.2.2 j).1.2.length, (ix b.2.2 j).1.2.flatMap clFragPacket⟩ : Row) ∈ rwFragBench b := List.Mem.tail _ (List.mem_flatMap.2 ⟨_, List.mem_of_getElem? (nthD (l := b.2.2) (k := j) (by omega)), List.Mem.head _⟩)
theorem rds_slotP {b : MFragBench} {j : Nat} (hj : j < b.2.2.length) {w : World} (hx : Rds w (rwFragBench b)) : ∀ y ∈ (ix b.2.2 j).1.2, Rds w (rwFragPacket y) := fun y hy => Rds.flatMap.1 (Rds.tail (Rds.flatMap.1 (Rds.tail hx) _ (List.mem_of_getElem? (nthD (l := b.2.2) (k := j) (by omega))))) y hy
theorem rds_headP {b : MFragBench} {j : Nat} (hj : j < b.2.2.length) (h1 : 1 ≤ (ix b.2.2 j).1.2.length) {w : World} (hx : Rds w (rwFragBench b)) : Rds w (rwFragPacket (ix (ix b.2.2 j).1.2 0)) := rds_slotP hj hx _ (List.mem_of_getElem? (nthD (l := (ix b.2.2 j).1.2) (k := 0) (by omega)))
theorem isN_slots {w0 w : World} {L : List Blk} {b : MFragBench} (hs : St w0 w L) (h : .many (rwFragBench b) ∈ L) : IsN b.2.1 b.2.2.length := mem_isN (Rds.head (Rds.many (l := rwFragBench b) hs h))
theorem isN_piece {w0 w : World} {L : List Blk} {b : MFragBench} {j : Nat} (hj : j < b.2.2.length) (hs : St w0 w L) (h : .many (rwFragBench b) ∈ L) : IsN (ix b.2.2 j).1.1 (ix b.2.2 j).1.2.length := mem_isN (Rds.head (Rds.flatMap.1 (Rds.tail (Rds.many (l := rwFragBench b) hs h)) _ (List.mem_of_getElem? (nthD (l := b.2.2) (k := j) (by omega)))))
attribute [local irreducible] BenchGood SmallB octB octP Short TickR
set_option maxRecDepth 16384 in
set_option maxHeartbeats 4000000 in
theorem walk (w : World) (x : MSuint8) (hx : okSuint8 w x) : Calls Try.prog 10 #[x.1] w (RetN (.bool true) w) := by
  obtain ⟨v, lc⟩ := x
  obtain ⟨hm, hby⟩ := hx
  dsimp only at *
  have hlen := hm.len
  simp only [maxLen] at hlen
  refine enter (n := 237) (E := [(0, _)]) Try.func10 rfl rfl rfl rfl ?_
  repeat' (first
    |(refine gS ?_;(first
        |(refine S_move rfl rfl ?_)
        |(refine S_assign rfl rfl ?_)
        |(refine gStore ?_;(first
            |(apply F_storeN rfl rfl;(focus (first|rfl|assumption|(simp only [List.append_nil,List.all_cons,List.all_nil,Bool.and_true,Bool.true_and,one_int,one_bool,one_string,one_slice,one_pointer, *];done)));(first|exact T.rw24|exact T.rw45);(focus ((repeat (first|exact Upd.here|apply Upd.there));done));(focus ((repeat (first|exact SetSeg.nil|apply SetSeg.here|apply SetSeg.there));done));(first|exact okst2|exact okst1|exact okst1'))))
        |(refine gCall ?_;(first
            |(show GoS _ _ _ _ _ _ _ (⟨_,_,_,.call ⟨.value (.func 43),_,_⟩,_⟩ :: _);refine S_callX (f := 43) rfl T.pf43 rfl (fun w hst => drawFragCome_c v lc w (Mem.given hst hm) hby) rfl (fun zz hzz => ?_);simp only [List.cons_append,List.nil_append];revert hzz;revert zz;rintro ⟨lv,ll,base⟩ ⟨hsm,hin,hn⟩;dsimp only at hsm hin hn ⊢)
            |(apply F_len rfl rfl rfl;(focus exact ⟨_,_,by (first|exact T.sl22|exact T.sl27|exact T.sl43)⟩);(focus (first|exact len_nil|(apply len_given;assumption)|(apply len_row;(focus ((repeat (first|exact mH|refine mT ?_));done)))|(apply len_isN;assumption))))))
        |(refine gBin ?_;(first
            |(refine S_gtr rfl rfl rfl ?_)))
        |(apply S_alloc rfl (hd := rfl);(first|exact T.zc24|exact T.zc45);intro kb)
        |(apply F_build2 rfl (hd := rfl);(first|exact T.st24|exact T.st45);(focus ((repeat (first|exact BuildR.nil|(apply BuildR.cons;(first|exact T.fs24_0|exact T.fs24_1|exact T.fs24_2|exact T.fs24_3|exact T.fs24_4|exact T.fs24_5|exact T.fs24_6|exact T.fs24_7|exact T.fs24_8|exact T.fs45_0|exact T.fs45_1);rfl;rfl;(focus ((repeat (first|exact SetSeg.nil|apply SetSeg.here|apply SetSeg.there));done)))|(apply BuildR.cons1;(first|exact T.fs24_0|exact T.fs24_1|exact T.fs24_2|exact T.fs24_3|exact T.fs24_4|exact T.fs24_5|exact T.fs24_6|exact T.fs24_7|exact T.fs24_8|exact T.fs45_0|exact T.fs45_1);(focus assumption);(focus ((repeat (first|exact SetSeg.nil|apply SetSeg.here|apply SetSeg.there));done)))));done)))
        |(refine S_done ?_)))
    |((first
        |(refine C_seq ?_)
        |(refine gReg ?_;(first
            |(refine gReg (i := 0) ?_;refine C_plain [(0,0)] (by kernel_rfl) (s := [⟨0,none,_,_,_⟩]) rfl ?_)
            |(refine gReg (i := 1) ?_;refine C_plain [(0,0),(1,0),(2,0)] (by kernel_rfl) (s := [⟨0,none,_,_,_⟩,⟨0,none,_,_,_⟩,⟨0,none,_,_,_⟩]) rfl ?_)
            |(refine gReg (i := 2) ?_;refine C_plain [(0,0)] (by kernel_rfl) (s := [⟨0,none,_,_,_⟩]) rfl ?_)
            |(refine gReg (i := 3) ?_;refine C_plain [(0,0),(1,2),(2,0)] (by kernel_rfl) (s := [⟨0,none,_,_,_⟩,⟨2,none,_,_,_⟩,⟨0,none,_,_,_⟩]) rfl ?_)
            |(refine gReg (i := 4) ?_;refine C_plain [(0,0),(1,2),(2,2)] (by kernel_rfl) (s := [⟨0,none,_,_,_⟩,⟨2,none,_,_,_⟩,⟨2,none,_,_,_⟩]) rfl ?_)
            |(refine gReg (i := 5) ?_;refine C_plain [(0,0)] (by kernel_rfl) (s := [⟨0,none,_,_,_⟩]) rfl ?_)))
        |(refine C_split rfl ?_ ?_ <;> (intro hb;(try simp only [decide_eq_true_eq] at hb);(try simp only [decide_eq_false_iff_not] at hb);(try simp only [Bool.not_eq_true'] at hb);(try simp only [Bool.not_eq_false'] at hb);(try (exfalso;first|contradiction|omega))))
        |(refine C_skip ?_)
        |(refine C_ret ?_)
        |(refine C_block ?_)))
    |(refine gE ?_;(first
        |(refine E_then ?_)
        |(refine E_thenR ?_)
        |(apply E_ret1 rfl;(first|exact Res.tmp rfl|(apply R_cellAll rfl;(focus ((repeat (first|exact mH|refine mT ?_));done));(first|exact T.rw24|exact T.rw45))|(apply R_cell1 rfl;(focus ((repeat (first|exact mH|refine mT ?_));done));(first|exact T.sc3|exact T.sc4|exact T.sc27|exact T.sc43)))))))
  · exact retN rfl
  refine C_ent [.blk kb 45 (clFragBench (0,.slice none 0 0,[])),.many (rwFragBench (0,.slice none 0 0,[])),.row lv 24 9 ll.length (ll.flatMap clFragPacket),.many base] (Ent.trans (Ent.ghost 67 3) entA) ?_
  refine C_loop (α := Nat × MFragBench) (fun s => [(5, .int .i64 (s.1 : Int)), (4, .pointer (some ⟨kb, 0, none⟩)), (3, lv)])
    (fun s => [.blk kb 45 (clFragBench s.2), .many (rwFragBench s.2), .row lv 24 9 ll.length (ll.flatMap clFragPacket), .many base])
    (fun s => s.1 ≤ ll.length ∧ BenchGood (ctFragBench s.2) ∧ s.2.1 ≤ (s.1 : Int) ∧ SmallB (ctFragBench s.2)) (fun s => ll.length - s.1) (0, (0, .slice none 0 0, []))
    ⟨Nat.zero_le _, good0, Int.le_refl _, small0⟩ ⟨rfl, rfl, rfl, trivial⟩ (List.Sublist.refl _) ?_
  rintro ⟨i, b⟩ ⟨h1, h2, h3, h4⟩
  dsimp only at h1 h2 h3 h4 ⊢
  rcases Nat.lt_or_ge i ll.length with hlt | hge
  · have hxe : ll[i]? = some (ix ll i) := nthD (by omega)
    have hmem : ix ll i ∈ ll := List.mem_of_getElem? hxe
    have hes := hsm _ hmem
    obtain ⟨c, q, k, hT, hR⟩ := take_cases (n := b.1) (l := b.2.2.map ctFragSlot) h2 (ctFragPacket (ix ll i))
    have hsh := smallB_short h4
    have hob := octB_small h4
    have hop := oct_smallW hes
    have hel := lenW hes
    have hgc : BenchGood (b.1, c) := take_good h2 hR
    have hsc : SmallB (b.1, c) := take_small hT h4 hes
    have hn6 : b.1 < 1000000 := by omega
    have hn0 : 0 ≤ b.1 := (good_now h2).1
    refine C_fact (fun w hs => inB_one hs hin (by (focus ((repeat (first|exact mH|refine mT ?_));done)))) (fun holl => ?_)
    refine C_fact (fun w hs => oneFragBench (Rds.many (l := rwFragBench b) hs (by (focus ((repeat (first|exact mH|refine mT ?_));done))))) (fun honex => ?_)
    have hoe := holl _ hmem
    repeat' (first
      |(refine gS ?_;(first
          |(refine gGuard ?_;(first
              |(refine S_on rfl ?_)
              |(refine S_off rfl rfl rfl ?_)
              |(refine S_gsplit rfl ?_ ?_ <;> (intro hb;(try simp only [decide_eq_true_eq] at hb);(try simp only [decide_eq_false_iff_not] at hb);(try simp only [Bool.not_eq_true'] at hb);(try simp only [Bool.not_eq_false'] at hb);(try (exfalso;first|contradiction|omega));(try (have hx := hxe))))))
          |(refine S_move rfl rfl ?_)
          |(refine S_assign rfl rfl ?_)
          |(apply F_field rfl rfl;(first|exact T.fl24_2|exact T.fl24_4|exact T.fl45_0|exact T.fl45_1|exact T.fl67_0|exact T.fl67_2))
          |(apply F_fieldS rfl rfl;(first|exact T.fl24_2|exact T.fl24_4|exact T.fl45_0|exact T.fl45_1|exact T.fl67_0|exact T.fl67_2);(focus (first|exact len_nil|(apply len_given;assumption)|(apply len_row;(focus ((repeat (first|exact mH|refine mT ?_));done)))|(apply len_isN;assumption)));(focus omega))
          |(apply F_idx rfl rfl rfl;(first|exact T.sl22|exact T.sl27|exact T.sl43);(focus rfl);(focus (first|exact len_nil|(apply len_given;assumption)|(apply len_row;(focus ((repeat (first|exact mH|refine mT ?_));done)))|(apply len_isN;assumption)));(focus omega))
          |(refine gLoad ?_;(first
              |(apply F_load1 rfl rfl;(focus ((repeat (first|exact mH|refine mT ?_));done));(first|exact T.sc3|exact T.sc4|exact T.sc27|exact T.sc43);rfl;(focus (first|exact free0|exact free1)))
              |(apply F_loadAll rfl rfl;(focus ((repeat (first|exact mH|refine mT ?_));done));(first|exact T.rw24|exact T.rw45);(focus (first|exact free0|exact free1)))
              |(apply F_loadS1 rfl rfl;(first|exact T.sc3|exact T.sc4|exact T.sc27|exact T.sc43);(focus (first|exact rd_nil|(apply rd_given;(focus assumption);(focus (first|exact freeG0|exact freeG1)))|(apply rd_row;(focus ((repeat (first|exact mH|refine mT ?_));done));(focus (first|exact freeR0|exact freeR1)))));(focus (first|(apply at_cell;(focus (apply at_flat;(focus (intro _;rfl));(focus assumption)));rfl)|(apply at_cell0;(focus (apply at_flat;(focus (intro _;rfl));(focus assumption)));rfl)|(apply at_cell;(focus (apply at_mid0;(focus assumption)));rfl)|(apply at_cell0;(focus (apply at_mid0;(focus assumption)));rfl)|rfl)))))
          |(refine gStore ?_;(first
              |(apply F_storeN rfl rfl;(focus (first|rfl|assumption|(simp only [List.append_nil,List.all_cons,List.all_nil,Bool.and_true,Bool.true_and,one_int,one_bool,one_string,one_slice,one_pointer, *];done)));(first|exact T.rw24|exact T.rw45);(focus ((repeat (first|exact Upd.here|apply Upd.there));done));(focus ((repeat (first|exact SetSeg.nil|apply SetSeg.here|apply SetSeg.there));done));(first|exact okst2|exact okst1|exact okst1'))))
          |(refine gCall ?_;(first
              |(show GoS _ _ _ _ _ _ _ (⟨_,_,_,.call ⟨.value (.func 29),_,_⟩,_⟩ :: _);refine S_callX (f := 29) rfl T.pf29 rfl (fun w hst => implFragTick_c b hsh.1 hsh.2 w (by first|(refine Rds.given hst ?_;assumption)|(apply Rds.many hst;(focus ((repeat (first|exact mH|refine mT ?_));done)))|(apply Rds.row hst;(focus ((repeat (first|exact mH|refine mT ?_));done))))) rfl (fun zz hzz => ?_);simp only [List.cons_append,List.nil_append];revert hzz;revert zz;rintro ⟨y,k1⟩ hy;dsimp only at hy ⊢;refine S_fact (fun w hs => oneFragBench (Rds.many hs (by (focus ((repeat (first|exact mH|refine mT ?_));done))))) (fun hone => ?_);obtain ⟨rfl,hy1,hy2,hy3⟩ := tick_next h2 hn6 h4 hy)
              |(show GoS _ _ _ _ _ _ _ (⟨_,_,_,.call ⟨.value (.func 28),_,_⟩,_⟩ :: _);refine S_callX (f := 28) rfl T.pf28 rfl (fun w hst => specFragTick_c b hsh.1 hsh.2 w (by first|(refine Rds.given hst ?_;assumption)|(apply Rds.many hst;(focus ((repeat (first|exact mH|refine mT ?_));done)))|(apply Rds.row hst;(focus ((repeat (first|exact mH|refine mT ?_));done))))) rfl (fun zz hzz => ?_);simp only [List.cons_append,List.nil_append];revert hzz;revert zz;rintro ⟨z,k2⟩ hz;dsimp only at hz ⊢;refine S_fact (fun w hs => oneFragBench (Rds.many hs (by (focus ((repeat (first|exact mH|refine mT ?_));done))))) (fun hone => ?_);obtain ⟨hu1,hu2⟩ := hy.uniq hz;subst hu2)
              |(show GoS _ _ _ _ _ _ _ (⟨_,_,_,.call ⟨.value (.func 40),_,_⟩,_⟩ :: _);refine S_callN (f := 40) rfl T.pf40 rfl (fun w hst => wfB_l y z hu1 w (by first|(refine Rds.given hst ?_;assumption)|(apply Rds.many hst;(focus ((repeat (first|exact mH|refine mT ?_));done)))|(apply Rds.row hst;(focus ((repeat (first|exact mH|refine mT ?_));done)))) (by first|(refine Rds.given hst ?_;assumption)|(apply Rds.many hst;(focus ((repeat (first|exact mH|refine mT ?_));done)))|(apply Rds.row hst;(focus ((repeat (first|exact mH|refine mT ?_));done))))) rfl ?_)
              |(apply F_len rfl rfl rfl;(focus exact ⟨_,_,by (first|exact T.sl22|exact T.sl27|exact T.sl43)⟩);(focus (first|exact len_nil|(apply len_given;assumption)|(apply len_row;(focus ((repeat (first|exact mH|refine mT ?_));done)))|(apply len_isN;assumption))))))
          |(refine gBin ?_;(first
              |(refine S_lss rfl rfl rfl ?_)
              |(refine S_eql rfl rfl rfl ?_)
              |(refine S_neq rfl rfl rfl ?_)
              |(refine S_add rfl rfl ?_ rfl ?_;(focus (unfold rng;omega)))))
          |(refine gPick ?_;(first
              |(refine S_pickT rfl rfl rfl ?_)
              |(refine S_pickF rfl rfl rfl ?_)))
          |(apply S_alloc rfl (hd := rfl);(first|exact T.zc24|exact T.zc45);intro kb)
          |(refine S_not rfl rfl ?_)
          |(refine S_extract rfl rfl rfl ?_)
          |(refine S_done ?_)))
      |((first
          |(refine gSeqCond (i := 8) ?_;refine C_join (α := Unit) (fun _ => [(5,.int .i64 (i : Int)),(4,.pointer (some ⟨kb,0,none⟩)),(3,lv)]) (fun _ => [.blk kb 45 (clFragBench b),.many (rwFragBench b),.row lv 24 9 ll.length (ll.flatMap clFragPacket),.many base]) (fun _ => True) ?_ ?_)
          |(refine C_seq ?_)
          |(refine gReg ?_;(first
              |(refine gReg (i := 6) ?_;refine C_plain [(0,0),(1,0),(2,0),(3,0)] (by kernel_rfl) (s := [⟨0,none,_,_,_⟩,⟨0,none,_,_,_⟩,⟨0,none,_,_,_⟩,⟨0,none,_,_,_⟩]) rfl ?_)
              |(refine gReg (i := 8) ?_;refine C_plain [(0,0),(1,0),(2,0),(3,0),(4,0),(5,0),(6,0),(7,0),(8,0),(9,0),(10,0),(11,0),(12,0),(13,0)] (by kernel_rfl) (s := [⟨0,none,_,_,_⟩,⟨0,none,_,_,_⟩,⟨0,none,_,_,_⟩,⟨0,none,_,_,_⟩,⟨0,none,_,_,_⟩,⟨0,none,_,_,_⟩,⟨0,none,_,_,_⟩,⟨0,some (39,true),_,_,_⟩,⟨0,some (39,true),_,_,_⟩,⟨0,some (39,true),_,_,_⟩,⟨0,some (39,true),_,_,_⟩,⟨0,some (39,true),_,_,_⟩,⟨0,some (39,true),_,_,_⟩,⟨0,none,_,_,_⟩]) rfl ?_)
              |(refine gReg (i := 9) ?_;refine C_plain [(0,0),(1,2),(2,0),(3,0),(4,0),(5,2),(6,2),(7,0)] (by kernel_rfl) (s := [⟨0,none,_,_,_⟩,⟨2,none,_,_,_⟩,⟨0,none,_,_,_⟩,⟨0,none,_,_,_⟩,⟨0,none,_,_,_⟩,⟨2,none,_,_,_⟩,⟨2,none,_,_,_⟩,⟨0,none,_,_,_⟩]) rfl ?_)
              |(refine gReg (i := 10) ?_;refine C_plain [(0,0),(1,2),(2,0),(3,0),(4,0),(5,2),(6,2),(7,0)] (by kernel_rfl) (s := [⟨0,none,_,_,_⟩,⟨2,none,_,_,_⟩,⟨0,none,_,_,_⟩,⟨0,none,_,_,_⟩,⟨0,none,_,_,_⟩,⟨2,none,_,_,_⟩,⟨2,none,_,_,_⟩,⟨0,none,_,_,_⟩]) rfl ?_)
              |(refine gReg (i := 11) ?_;refine C_plain [(0,0),(1,0),(2,0),(3,0),(4,0),(5,0),(6,2),(7,0),(8,0),(9,0),(10,0),(11,0),(12,0),(13,0),(14,0),(15,0),(16,0),(17,0),(18,0),(19,0),(20,0)] (by kernel_rfl) (s := [⟨0,none,_,_,_⟩,⟨0,none,_,_,_⟩,⟨0,none,_,_,_⟩,⟨0,none,_,_,_⟩,⟨0,some (60,false),_,_,_⟩,⟨0,some (60,false),_,_,_⟩,⟨2,some (60,false),_,_,_⟩,⟨0,some (60,false),_,_,_⟩,⟨0,none,_,_,_⟩,⟨0,none,_,_,_⟩,⟨0,some (66,false),_,_,_⟩,⟨0,some (66,false),_,_,_⟩,⟨0,none,_,_,_⟩,⟨0,none,_,_,_⟩,⟨0,some (70,false),_,_,_⟩,⟨0,some (70,false),_,_,_⟩,⟨0,some (70,false),_,_,_⟩,⟨0,some (70,false),_,_,_⟩,⟨0,some (70,false),_,_,_⟩,⟨0,some (70,false),_,_,_⟩,⟨0,none,_,_,_⟩]) rfl ?_)
              |(refine gReg (i := 13) ?_;refine C_plain [(0,0),(1,2)] (by kernel_rfl) (s := [⟨0,none,_,_,_⟩,⟨2,none,_,_,_⟩]) rfl ?_)
              |(refine gReg (i := 7) ?_;refine C_plain [(0,0),(1,0),(2,0)] (by kernel_rfl) (s := [⟨0,none,_,_,_⟩,⟨0,none,_,_,_⟩,⟨0,none,_,_,_⟩]) rfl ?_)))
          |(refine C_false rfl ?_)
          |(refine C_split rfl ?_ ?_ <;> (intro hb;(try simp only [decide_eq_true_eq] at hb);(try simp only [decide_eq_false_iff_not] at hb);(try simp only [Bool.not_eq_true'] at hb);(try simp only [Bool.not_eq_false'] at hb);(try (exfalso;first|contradiction|omega));(try (have hx := hxe))))
          |(refine C_skip ?_)
          |(refine C_exit ?_)
          |(refine C_block ?_)))
      |(refine gE ?_;(first
          |(refine E_then ?_)
          |(refine E_thenX ?_)
          |(refine E_blockY ?_))))
    · exact E_roundS (α := Nat × MFragBench) (i + 1,y) ⟨hlt,hy2,by dsimp only;omega,hy3⟩ (by dsimp only;omega) ⟨rfl,rfl,rfl,trivial⟩ entA
    · exact E_join (α := Unit) () trivial ⟨rfl,rfl,rfl,trivial⟩ entA
    · exact E_join (α := Unit) () trivial ⟨rfl,rfl,rfl,trivial⟩ entA
    rintro _ _
    repeat' (first
      |(refine gS ?_;(first
          |(refine S_move rfl rfl ?_)
          |(refine S_assign rfl rfl ?_)
          |(apply F_idx rfl rfl rfl;(first|exact T.sl22|exact T.sl27|exact T.sl43);(focus rfl);(focus (first|exact len_nil|(apply len_given;assumption)|(apply len_row;(focus ((repeat (first|exact mH|refine mT ?_));done)))|(apply len_isN;assumption)));(focus omega))
          |(refine gLoad ?_;(first
              |(apply F_loadAll rfl rfl;(focus ((repeat (first|exact mH|refine mT ?_));done));(first|exact T.rw24|exact T.rw45);(focus (first|exact free0|exact free1)))
              |(apply F_loadSN rfl rfl;(first|exact T.rw24|exact T.rw45);(focus (first|exact rd_nil|(apply rd_given;(focus assumption);(focus (first|exact freeG0|exact freeG1)))|(apply rd_row;(focus ((repeat (first|exact mH|refine mT ?_));done));(focus (first|exact freeR0|exact freeR1)))));(focus (first|(focus (apply at_flat;(focus (intro _;rfl));(focus assumption)))|exact at_self));rfl;rfl)))
          |(refine gStore ?_;(first
              |(apply F_storeN rfl rfl;(focus (first|rfl|assumption|(simp only [List.append_nil,List.all_cons,List.all_nil,Bool.and_true,Bool.true_and,one_int,one_bool,one_string,one_slice,one_pointer, *];done)));(first|exact T.rw24|exact T.rw45);(focus ((repeat (first|exact Upd.here|apply Upd.there));done));(focus ((repeat (first|exact SetSeg.nil|apply SetSeg.here|apply SetSeg.there));done));(first|exact okst2|exact okst1|exact okst1'))))
          |(refine gCall ?_;(first
              |(show GoS _ _ _ _ _ _ _ (⟨_,_,_,.call ⟨.value (.func 35),_,_⟩,_⟩ :: _);refine S_callX (f := 35) rfl T.pf35 rfl (fun w hst => takeX_of hT (implFragTake_c b (ix ll i) hsh.1 hsh.2 hel hob hop w (by first|(refine Rds.given hst ?_;assumption)|(apply Rds.many hst;(focus ((repeat (first|exact mH|refine mT ?_));done)))|(apply Rds.row hst;(focus ((repeat (first|exact mH|refine mT ?_));done)))) (rds_inB hin hmem (Rds.many hst (by (focus ((repeat (first|exact mH|refine mT ?_));done))))))) rfl (fun zz hzz => ?_);simp only [List.cons_append,List.nil_append];revert hzz;revert zz;rintro ⟨y2,q2⟩ ⟨hy2,hq2⟩;dsimp only at hy2 hq2 ⊢;refine S_fact (fun w hs => oneFragBench (Rds.many hs (by (focus ((repeat (first|exact mH|refine mT ?_));done))))) (fun hone => ?_);have hob1 := hone;refine S_fact (fun w hs => oneFragPacket (Rds.many hs (by (focus ((repeat (first|exact mH|refine mT ?_));done))))) (fun hone => ?_))))
          |(apply S_alloc rfl (hd := rfl);(first|exact T.zc24|exact T.zc45);intro kb)
          |(refine S_extract rfl rfl rfl ?_)
          |(refine S_done ?_)))
      |((first
          |(refine gSeqReg (i := 14) ?_;refine C_join (α := MFragBench × MFragPacket × Nat × Nat) (fun s => [(12,.int .i64 k),(11,.pointer (some ⟨s.2.2.2,0,none⟩)),(10,.pointer (some ⟨s.2.2.1,0,none⟩)),(5,.int .i64 (i : Int)),(4,.pointer (some ⟨kb,0,none⟩)),(3,lv)]) (fun s => [.blk s.2.2.1 45 (clFragBench s.1),.blk s.2.2.2 24 (clFragPacket s.2.1),.many (rwFragBench s.1),.many (rwFragPacket s.2.1),.blk kb 45 (clFragBench b),.many (rwFragBench b),.row lv 24 9 ll.length (ll.flatMap clFragPacket),.many base]) (fun s => ctFragBench s.1 = (b.1,c) ∧ ctFragPacket s.2.1 = q) ?_ ?_)
          |(refine gReg ?_;(first
              |(refine gReg (i := 14) ?_;refine C_drawnT (.br [(0,0),(1,0),(2,0),(3,0),(4,0)] (.br [(5,1),(6,0),(7,0),(8,0),(9,0)] (.fin [(10,1),(11,1),(12,2),(13,2),(14,0)]) (.fin [(11,1),(10,1),(12,2),(13,2),(14,0)])) (.br [] (.br [(10,1)] (.fin [(5,1),(6,0),(7,0),(8,0),(9,0),(11,1),(12,2),(13,2),(14,0)]) (.fin [(11,1),(5,1),(6,0),(7,0),(8,0),(9,0),(12,2),(13,2),(14,0)])) (.br [(11,1)] (.fin [(5,1),(6,0),(7,0),(8,0),(9,0),(10,1),(12,2),(13,2),(14,0)]) (.fin [(10,1),(5,1),(6,0),(7,0),(8,0),(9,0),(12,2),(13,2),(14,0)])))) [] T.mixed (by kernel_rfl) (s := (.br [⟨0,none,_,_,_⟩,⟨0,none,_,_,_⟩,⟨0,none,_,_,_⟩,⟨0,none,_,_,_⟩,⟨0,none,_,_,_⟩] (.br [⟨1,none,_,_,_⟩,⟨0,none,_,_,_⟩,⟨0,none,_,_,_⟩,⟨0,none,_,_,_⟩,⟨0,none,_,_,_⟩] (.fin [⟨1,none,_,_,_⟩,⟨1,none,_,_,_⟩,⟨2,none,_,_,_⟩,⟨2,none,_,_,_⟩,⟨0,none,_,_,_⟩]) (.fin [⟨1,none,_,_,_⟩,⟨1,none,_,_,_⟩,⟨2,none,_,_,_⟩,⟨2,none,_,_,_⟩,⟨0,none,_,_,_⟩])) (.br [] (.br [⟨1,none,_,_,_⟩] (.fin [⟨1,none,_,_,_⟩,⟨0,none,_,_,_⟩,⟨0,none,_,_,_⟩,⟨0,none,_,_,_⟩,⟨0,none,_,_,_⟩,⟨1,none,_,_,_⟩,⟨2,none,_,_,_⟩,⟨2,none,_,_,_⟩,⟨0,none,_,_,_⟩]) (.fin [⟨1,none,_,_,_⟩,⟨1,none,_,_,_⟩,⟨0,none,_,_,_⟩,⟨0,none,_,_,_⟩,⟨0,none,_,_,_⟩,⟨0,none,_,_,_⟩,⟨2,none,_,_,_⟩,⟨2,none,_,_,_⟩,⟨0,none,_,_,_⟩])) (.br [⟨1,none,_,_,_⟩] (.fin [⟨1,none,_,_,_⟩,⟨0,none,_,_,_⟩,⟨0,none,_,_,_⟩,⟨0,none,_,_,_⟩,⟨0,none,_,_,_⟩,⟨1,none,_,_,_⟩,⟨2,none,_,_,_⟩,⟨2,none,_,_,_⟩,⟨0,none,_,_,_⟩]) (.fin [⟨1,none,_,_,_⟩,⟨1,none,_,_,_⟩,⟨0,none,_,_,_⟩,⟨0,none,_,_,_⟩,⟨0,none,_,_,_⟩,⟨0,none,_,_,_⟩,⟨2,none,_,_,_⟩,⟨2,none,_,_,_⟩,⟨0,none,_,_,_⟩]))))) rfl ?_)))
          |(refine T_fin ?_)
          |(refine T_br ?_)))
      |(refine gE ?_;(first
          |(refine E_calm ?_)
          |(refine E_both ?_ ?_))))
    rotate_left 6
    · rintro ⟨y2, q2, k10, k11⟩ ⟨hy2, hq2⟩
      dsimp only at hy2 hq2 ⊢
      refine C_fact (fun w hs => oneFragBench (Rds.many (l := rwFragBench y2) hs (by (focus ((repeat (first|exact mH|refine mT ?_));done))))) (fun hob1 => ?_)
      refine C_fact (fun w hs => oneFragPacket (Rds.many (l := rwFragPacket q2) hs (by (focus ((repeat (first|exact mH|refine mT ?_));done))))) (fun hone1 => ?_)
      repeat' (first
        |(refine gS ?_;(first
            |(refine S_move rfl rfl ?_)
            |(refine S_assign rfl rfl ?_)
            |(apply F_idx rfl rfl rfl;(first|exact T.sl22|exact T.sl27|exact T.sl43);(focus rfl);(focus (first|exact len_nil|(apply len_given;assumption)|(apply len_row;(focus ((repeat (first|exact mH|refine mT ?_));done)))|(apply len_isN;assumption)));(focus omega))
            |(refine gLoad ?_;(first
                |(apply F_loadAll rfl rfl;(focus ((repeat (first|exact mH|refine mT ?_));done));(first|exact T.rw24|exact T.rw45);(focus (first|exact free0|exact free1)))
                |(apply F_loadSN rfl rfl;(first|exact T.rw24|exact T.rw45);(focus (first|exact rd_nil|(apply rd_given;(focus assumption);(focus (first|exact freeG0|exact freeG1)))|(apply rd_row;(focus ((repeat (first|exact mH|refine mT ?_));done));(focus (first|exact freeR0|exact freeR1)))));(focus (first|(focus (apply at_flat;(focus (intro _;rfl));(focus assumption)))|exact at_self));rfl;rfl)))
            |(refine gStore ?_;(first
                |(apply F_storeN rfl rfl;(focus (first|rfl|assumption|(simp only [List.append_nil,List.all_cons,List.all_nil,Bool.and_true,Bool.true_and,one_int,one_bool,one_string,one_slice,one_pointer, *];done)));(first|exact T.rw24|exact T.rw45);(focus ((repeat (first|exact Upd.here|apply Upd.there));done));(focus ((repeat (first|exact SetSeg.nil|apply SetSeg.here|apply SetSeg.there));done));(first|exact okst2|exact okst1|exact okst1'))))
            |(refine gCall ?_;(first
                |(show GoS _ _ _ _ _ _ _ (⟨_,_,_,.call ⟨.value (.func 33),_,_⟩,_⟩ :: _);refine S_callX (f := 33) rfl T.pf33 rfl (fun w hst => takeX_of hT (specFragTake_c b (ix ll i) hsh.1 hsh.2 hel w (by first|(refine Rds.given hst ?_;assumption)|(apply Rds.many hst;(focus ((repeat (first|exact mH|refine mT ?_));done)))|(apply Rds.row hst;(focus ((repeat (first|exact mH|refine mT ?_));done)))) (rds_inB hin hmem (Rds.many hst (by (focus ((repeat (first|exact mH|refine mT ?_));done))))))) rfl (fun zz hzz => ?_);simp only [List.cons_append,List.nil_append];revert hzz;revert zz;rintro ⟨y3,q3⟩ ⟨hy3,hq3⟩;dsimp only at hy3 hq3 ⊢;refine S_fact (fun w hs => oneFragBench (Rds.many hs (by (focus ((repeat (first|exact mH|refine mT ?_));done))))) (fun hone => ?_);have hob2 := hone;refine S_fact (fun w hs => oneFragPacket (Rds.many hs (by (focus ((repeat (first|exact mH|refine mT ?_));done))))) (fun hone => ?_))))
            |(apply S_alloc rfl (hd := rfl);(first|exact T.zc24|exact T.zc45);intro kb)
            |(refine S_extract rfl rfl rfl ?_)
            |(refine S_done ?_)))
        |((first
            |(refine gSeqReg (i := 15) ?_;refine C_join (α := MFragBench × MFragPacket × Nat × Nat) (fun s => [(15,.int .i64 k),(14,.pointer (some ⟨s.2.2.2,0,none⟩)),(13,.pointer (some ⟨s.2.2.1,0,none⟩)),(12,.int .i64 k),(11,.pointer (some ⟨k11,0,none⟩)),(10,.pointer (some ⟨k10,0,none⟩)),(5,.int .i64 (i : Int)),(4,.pointer (some ⟨kb,0,none⟩)),(3,lv)]) (fun s => [.blk s.2.2.1 45 (clFragBench s.1),.blk s.2.2.2 24 (clFragPacket s.2.1),.many (rwFragBench s.1),.many (rwFragPacket s.2.1),.blk k10 45 (clFragBench y2),.blk k11 24 (clFragPacket q2),.many (rwFragBench y2),.many (rwFragPacket q2),.blk kb 45 (clFragBench b),.many (rwFragBench b),.row lv 24 9 ll.length (ll.flatMap clFragPacket),.many base]) (fun s => ctFragBench s.1 = (b.1,c) ∧ ctFragPacket s.2.1 = q) ?_ ?_)
            |(refine gReg ?_;(first
                |(refine gReg (i := 15) ?_;refine C_drawnT (.br [(0,0),(1,0),(2,0),(3,0),(4,0)] (.br [(5,1),(6,0),(7,0),(8,0),(9,0)] (.fin [(10,1),(11,1),(12,2),(13,2),(14,0)]) (.fin [(11,1),(10,1),(12,2),(13,2),(14,0)])) (.br [] (.br [(10,1)] (.fin [(5,1),(6,0),(7,0),(8,0),(9,0),(11,1),(12,2),(13,2),(14,0)]) (.fin [(11,1),(5,1),(6,0),(7,0),(8,0),(9,0),(12,2),(13,2),(14,0)])) (.br [(11,1)] (.fin [(5,1),(6,0),(7,0),(8,0),(9,0),(10,1),(12,2),(13,2),(14,0)]) (.fin [(10,1),(5,1),(6,0),(7,0),(8,0),(9,0),(12,2),(13,2),(14,0)])))) [] T.mixed (by kernel_rfl) (s := (.br [⟨0,none,_,_,_⟩,⟨0,none,_,_,_⟩,⟨0,none,_,_,_⟩,⟨0,none,_,_,_⟩,⟨0,none,_,_,_⟩] (.br [⟨1,none,_,_,_⟩,⟨0,none,_,_,_⟩,⟨0,none,_,_,_⟩,⟨0,none,_,_,_⟩,⟨0,none,_,_,_⟩] (.fin [⟨1,none,_,_,_⟩,⟨1,none,_,_,_⟩,⟨2,none,_,_,_⟩,⟨2,none,_,_,_⟩,⟨0,none,_,_,_⟩]) (.fin [⟨1,none,_,_,_⟩,⟨1,none,_,_,_⟩,⟨2,none,_,_,_⟩,⟨2,none,_,_,_⟩,⟨0,none,_,_,_⟩])) (.br [] (.br [⟨1,none,_,_,_⟩] (.fin [⟨1,none,_,_,_⟩,⟨0,none,_,_,_⟩,⟨0,none,_,_,_⟩,⟨0,none,_,_,_⟩,⟨0,none,_,_,_⟩,⟨1,none,_,_,_⟩,⟨2,none,_,_,_⟩,⟨2,none,_,_,_⟩,⟨0,none,_,_,_⟩]) (.fin [⟨1,none,_,_,_⟩,⟨1,none,_,_,_⟩,⟨0,none,_,_,_⟩,⟨0,none,_,_,_⟩,⟨0,none,_,_,_⟩,⟨0,none,_,_,_⟩,⟨2,none,_,_,_⟩,⟨2,none,_,_,_⟩,⟨0,none,_,_,_⟩])) (.br [⟨1,none,_,_,_⟩] (.fin [⟨1,none,_,_,_⟩,⟨0,none,_,_,_⟩,⟨0,none,_,_,_⟩,⟨0,none,_,_,_⟩,⟨0,none,_,_,_⟩,⟨1,none,_,_,_⟩,⟨2,none,_,_,_⟩,⟨2,none,_,_,_⟩,⟨0,none,_,_,_⟩]) (.fin [⟨1,none,_,_,_⟩,⟨1,none,_,_,_⟩,⟨0,none,_,_,_⟩,⟨0,none,_,_,_⟩,⟨0,none,_,_,_⟩,⟨0,none,_,_,_⟩,⟨2,none,_,_,_⟩,⟨2,none,_,_,_⟩,⟨0,none,_,_,_⟩]))))) rfl ?_)))
            |(refine T_fin ?_)
            |(refine T_br ?_)))
        |(refine gE ?_;(first
            |(refine E_calm ?_)
            |(refine E_both ?_ ?_))))
      rotate_left 6
      · rintro ⟨y3, q3, k13, k14⟩ ⟨hy3, hq3⟩
        dsimp only at hy3 hq3 ⊢
        refine C_fact (fun w hs => oneFragBench (Rds.many (l := rwFragBench y3) hs (by (focus ((repeat (first|exact mH|refine mT ?_));done))))) (fun hob2 => ?_)
        refine C_fact (fun w hs => oneFragPacket (Rds.many (l := rwFragPacket q3) hs (by (focus ((repeat (first|exact mH|refine mT ?_));done))))) (fun hone2 => ?_)
        have hn2 : y2.1 = b.1 := congrArg (fun c : CFragBench => c.1) hy2
        have hg2 : BenchGood (ctFragBench y2) := by rw [hy2]; exact hgc
        have hs2 : SmallB (ctFragBench y2) := by rw [hy2]; exact hsc
        repeat' (first
          |(refine gS ?_;(first
              |(refine gGuard ?_;(first
                  |(refine S_on rfl ?_)
                  |(refine S_gsplit rfl ?_ ?_ <;> (intro hb;(try simp only [decide_eq_true_eq] at hb);(try simp only [decide_eq_false_iff_not] at hb);(try simp only [Bool.not_eq_true'] at hb);(try simp only [Bool.not_eq_false'] at hb);(try (exfalso;first|contradiction|omega));(try (have hx := hxe))))))
              |(refine S_move rfl rfl ?_)
              |(apply F_field rfl rfl;(first|exact T.fl24_2|exact T.fl24_4|exact T.fl45_0|exact T.fl45_1|exact T.fl67_0|exact T.fl67_2))
              |(refine gLoad ?_;(first
                  |(apply F_load1 rfl rfl;(focus ((repeat (first|exact mH|refine mT ?_));done));(first|exact T.sc3|exact T.sc4|exact T.sc27|exact T.sc43);rfl;(focus (first|exact free0|exact free1)))
                  |(apply F_loadAll rfl rfl;(focus ((repeat (first|exact mH|refine mT ?_));done));(first|exact T.rw24|exact T.rw45);(focus (first|exact free0|exact free1)))))
              |(refine gCall ?_;(first
                  |(show GoS _ _ _ _ _ _ _ (⟨_,_,_,.call ⟨.value (.func 18),_,_⟩,_⟩ :: _);refine S_callN (f := 18) rfl T.pf18 rfl (fun w hst => same_l q2 q3 (hq2.trans hq3.symm) w (by first|(refine Rds.given hst ?_;assumption)|(apply Rds.many hst;(focus ((repeat (first|exact mH|refine mT ?_));done)))|(apply Rds.row hst;(focus ((repeat (first|exact mH|refine mT ?_));done)))) (by first|(refine Rds.given hst ?_;assumption)|(apply Rds.many hst;(focus ((repeat (first|exact mH|refine mT ?_));done)))|(apply Rds.row hst;(focus ((repeat (first|exact mH|refine mT ?_));done))))) rfl ?_)
                  |(show GoS _ _ _ _ _ _ _ (⟨_,_,_,.call ⟨.value (.func 40),_,_⟩,_⟩ :: _);refine S_callN (f := 40) rfl T.pf40 rfl (fun w hst => wfB_l y2 y3 (hy2.trans hy3.symm) w (by first|(refine Rds.given hst ?_;assumption)|(apply Rds.many hst;(focus ((repeat (first|exact mH|refine mT ?_));done)))|(apply Rds.row hst;(focus ((repeat (first|exact mH|refine mT ?_));done)))) (by first|(refine Rds.given hst ?_;assumption)|(apply Rds.many hst;(focus ((repeat (first|exact mH|refine mT ?_));done)))|(apply Rds.row hst;(focus ((repeat (first|exact mH|refine mT ?_));done))))) rfl ?_)
                  |(show GoS _ _ _ _ _ _ _ (⟨_,_,_,.call ⟨.value (.func 26),_,_⟩,_⟩ :: _);refine S_callN (f := 26) rfl T.pf26 rfl (fun w hst => implOk_t y2 hs2 hg2 w (by first|(refine Rds.given hst ?_;assumption)|(apply Rds.many hst;(focus ((repeat (first|exact mH|refine mT ?_));done)))|(apply Rds.row hst;(focus ((repeat (first|exact mH|refine mT ?_));done))))) rfl ?_)))
              |(refine gBin ?_;(first
                  |(refine S_neq rfl rfl rfl ?_)))
              |(refine gPick ?_;(first
                  |(refine S_pickF rfl rfl rfl ?_)))
              |(refine S_not rfl rfl ?_)
              |(refine S_done ?_)))
          |((first
              |(refine gSeqCond (i := 18) ?_;refine C_join (α := Unit) (fun _ => [(10,.pointer (some ⟨k10,0,none⟩)),(5,.int .i64 (i : Int)),(4,.pointer (some ⟨kb,0,none⟩)),(3,lv)]) (fun _ => [.blk k10 45 (clFragBench y2),.many (rwFragBench y2),.blk kb 45 (clFragBench b),.many (rwFragBench b),.row lv 24 9 ll.length (ll.flatMap clFragPacket),.many base]) (fun _ => True) ?_ ?_)
              |(refine C_seq ?_)
              |(refine gReg ?_;(first
                  |(refine gReg (i := 16) ?_;refine C_plain [(0,0),(1,0),(2,0),(3,0),(4,0),(5,0),(6,2),(7,0),(8,0),(9,0),(10,0),(11,0),(12,2),(13,0),(14,0),(15,0),(16,0),(17,2),(18,0),(19,0),(20,0),(21,0),(22,0),(23,0),(24,0),(25,0),(26,0)] (by kernel_rfl) (s := [⟨0,none,_,_,_⟩,⟨0,none,_,_,_⟩,⟨0,none,_,_,_⟩,⟨0,none,_,_,_⟩,⟨0,some (102,false),_,_,_⟩,⟨0,some (102,false),_,_,_⟩,⟨2,some (102,false),_,_,_⟩,⟨0,some (102,false),_,_,_⟩,⟨0,none,_,_,_⟩,⟨0,none,_,_,_⟩,⟨0,some (108,false),_,_,_⟩,⟨0,some (108,false),_,_,_⟩,⟨2,some (108,false),_,_,_⟩,⟨0,some (108,false),_,_,_⟩,⟨0,none,_,_,_⟩,⟨0,none,_,_,_⟩,⟨0,some (114,false),_,_,_⟩,⟨2,some (114,false),_,_,_⟩,⟨0,some (114,false),_,_,_⟩,⟨0,none,_,_,_⟩,⟨0,none,_,_,_⟩,⟨0,some (119,false),_,_,_⟩,⟨0,some (119,false),_,_,_⟩,⟨0,some (119,false),_,_,_⟩,⟨0,some (119,false),_,_,_⟩,⟨0,some (119,false),_,_,_⟩,⟨0,none,_,_,_⟩]) rfl ?_)))
              |(refine C_split rfl ?_ ?_ <;> (intro hb;(try simp only [decide_eq_true_eq] at hb);(try simp only [decide_eq_false_iff_not] at hb);(try simp only [Bool.not_eq_true'] at hb);(try simp only [Bool.not_eq_false'] at hb);(try (exfalso;first|contradiction|omega));(try (have hx := hxe))))
              |(refine C_skip ?_)))
          |(refine gE ?_;(first
              |(refine E_then ?_))))
        · have hsub2 : y2.2.2.map ctFragSlot = c := congrArg (fun c : CFragBench => c.2) hy2
          refine C_fact (fun w hs => isN_slots (b := b) hs (by (focus ((repeat (first|exact mH|refine mT ?_));done)))) (fun hisb => ?_)
          by_cases hk0 : k = 0
          · by_cases hqp : q = ctFragPacket (ix ll i)
            · subst hk0
              repeat' (first
                |(refine gS ?_;(first
                    |(refine gGuard ?_;(first
                        |(refine S_on rfl ?_)))
                    |(refine S_move rfl rfl ?_)
                    |(apply F_idx rfl rfl rfl;(first|exact T.sl22|exact T.sl27|exact T.sl43);(focus rfl);(focus (first|exact len_nil|(apply len_given;assumption)|(apply len_row;(focus ((repeat (first|exact mH|refine mT ?_));done)))|(apply len_isN;assumption)));(focus omega))
                    |(refine gLoad ?_;(first
                        |(apply F_loadAll rfl rfl;(focus ((repeat (first|exact mH|refine mT ?_));done));(first|exact T.rw24|exact T.rw45);(focus (first|exact free0|exact free1)))
                        |(apply F_loadSN rfl rfl;(first|exact T.rw24|exact T.rw45);(focus (first|exact rd_nil|(apply rd_given;(focus assumption);(focus (first|exact freeG0|exact freeG1)))|(apply rd_row;(focus ((repeat (first|exact mH|refine mT ?_));done));(focus (first|exact freeR0|exact freeR1)))));(focus (first|(focus (apply at_flat;(focus (intro _;rfl));(focus assumption)))|exact at_self));rfl;rfl)))
                    |(refine gCall ?_;(first
                        |(show GoS _ _ _ _ _ _ _ (⟨_,_,_,.call ⟨.value (.func 18),_,_⟩,_⟩ :: _);refine S_callN (f := 18) rfl T.pf18 rfl (fun w hst => same_l q2 (ix ll i) (hq2.trans hqp) w (by first|(refine Rds.given hst ?_;assumption)|(apply Rds.many hst;(focus ((repeat (first|exact mH|refine mT ?_));done)))|(apply Rds.row hst;(focus ((repeat (first|exact mH|refine mT ?_));done)))) (rds_inB hin hmem (Rds.many hst (by (focus ((repeat (first|exact mH|refine mT ?_));done)))))) rfl ?_)))
                    |(refine gBin ?_;(first
                        |(refine S_eql rfl rfl rfl ?_)))
                    |(refine gPick ?_;(first
                        |(refine S_pickT rfl rfl rfl ?_)))
                    |(refine S_not rfl rfl ?_)
                    |(refine S_done ?_)))
                |((first
                    |(refine gReg ?_;(first
                        |(refine gReg (i := 18) ?_;refine C_drawn [(0,0),(1,0),(2,0),(3,0),(4,0),(5,0),(6,0),(7,0),(8,1),(9,0),(10,0)] [] T.mixed (by kernel_rfl) (s := [⟨0,none,_,_,_⟩,⟨0,none,_,_,_⟩,⟨0,none,_,_,_⟩,⟨0,some (128,true),_,_,_⟩,⟨0,some (128,true),_,_,_⟩,⟨0,some (128,true),_,_,_⟩,⟨0,some (128,true),_,_,_⟩,⟨0,some (128,true),_,_,_⟩,⟨1,some (128,true),_,_,_⟩,⟨0,some (128,true),_,_,_⟩,⟨0,none,_,_,_⟩]) rfl ?_)))
                    |(refine C_false rfl ?_)
                    |(refine C_skip ?_)))
                |(refine gE ?_;(first
                    |(refine E_then ?_)
                    |(refine E_calm ?_))))
              all_goals exact E_join (α := Unit) () trivial ⟨rfl,rfl,rfl,rfl,trivial⟩ entA
            · obtain ⟨hf, hex, hall, hno⟩ := come_told h2 hR hk0 hqp
              subst hk0
              have hhd := good_heads h2
              have hhd2 : ∀ y ∈ y2.2.2, 1 ≤ y.1.2.length ∧ fragOk (headS y) = true := good_heads (n := y2.1) hg2
              have hsh2 := smallB_short hs2
              have hpos : ∀ k5 : Int, firstOf (fun y => likeC (headS y) (ctFragPacket (ix ll i))) b.2.2 k5 → ¬ k5 < 0 := fun k5 h5 h6 => by
                obtain ⟨s, hs, hl⟩ := hex
                obtain ⟨y, hy, rfl⟩ := List.mem_map.1 hs
                have h7 := first_neg h5 h6 y hy
                have h8 : likeC (headS y) (ctFragPacket (ix ll i)) = true := hl
                rw [h8] at h7; cases h7
              have hnone : ∀ k6 : Int, firstOf (fun y => likeC (headS y) (ctFragPacket (ix ll i))) y2.2.2 k6 → k6 = -1 := fun k6 h6 => first_none h6 fun y hy => hno (ctFragSlot y) (by rw [← hsub2]; exact List.mem_map_of_mem hy)
              repeat' (first
                |(refine gS ?_;(first
                    |(refine gGuard ?_;(first
                        |(refine S_on rfl ?_)))
                    |(refine S_move rfl rfl ?_)
                    |(refine S_assign rfl rfl ?_)
                    |(apply F_idx rfl rfl rfl;(first|exact T.sl22|exact T.sl27|exact T.sl43);(focus rfl);(focus (first|exact len_nil|(apply len_given;assumption)|(apply len_row;(focus ((repeat (first|exact mH|refine mT ?_));done)))|(apply len_isN;assumption)));(focus omega))
                    |(refine gLoad ?_;(first
                        |(apply F_loadAll rfl rfl;(focus ((repeat (first|exact mH|refine mT ?_));done));(first|exact T.rw24|exact T.rw45);(focus (first|exact free0|exact free1)))
                        |(apply F_loadSN rfl rfl;(first|exact T.rw24|exact T.rw45);(focus (first|exact rd_nil|(apply rd_given;(focus assumption);(focus (first|exact freeG0|exact freeG1)))|(apply rd_row;(focus ((repeat (first|exact mH|refine mT ?_));done));(focus (first|exact freeR0|exact freeR1)))));(focus (first|(focus (apply at_flat;(focus (intro _;rfl));(focus assumption)))|exact at_self));rfl;rfl)))
                    |(refine gCall ?_;(first
                        |(show GoS _ _ _ _ _ _ _ (⟨_,_,_,.call ⟨.value (.func 18),_,_⟩,_⟩ :: _);refine S_callN (f := 18) rfl T.pf18 rfl (fun w hst => same_ne q2 (ix ll i) (fun e => hqp (hq2.symm.trans e)) w (by first|(refine Rds.given hst ?_;assumption)|(apply Rds.many hst;(focus ((repeat (first|exact mH|refine mT ?_));done)))|(apply Rds.row hst;(focus ((repeat (first|exact mH|refine mT ?_));done)))) (rds_inB hin hmem (Rds.many hst (by (focus ((repeat (first|exact mH|refine mT ?_));done)))))) rfl ?_)
                        |(show GoS _ _ _ _ _ _ _ (⟨_,_,_,.call ⟨.value (.func 44),_,_⟩,_⟩ :: _);refine S_callX (f := 44) rfl T.pf44 rfl (fun w hst => wfOf_c b (ix ll i) hsh.2 hhd hel hf w (by first|(refine Rds.given hst ?_;assumption)|(apply Rds.many hst;(focus ((repeat (first|exact mH|refine mT ?_));done)))|(apply Rds.row hst;(focus ((repeat (first|exact mH|refine mT ?_));done)))) (rds_inB hin hmem (Rds.many hst (by (focus ((repeat (first|exact mH|refine mT ?_));done)))))) rfl (fun zz hzz => ?_);simp only [List.cons_append,List.nil_append];revert hzz;revert zz;intro k5 hk5;obtain ⟨j,rfl,hjl,hjk⟩ := first_pos hk5 (hpos k5 hk5))))
                    |(refine gBin ?_;(first
                        |(refine S_eql rfl rfl rfl ?_)))
                    |(refine gPick ?_;(first
                        |(refine S_pickT rfl rfl rfl ?_)))
                    |(refine S_not rfl rfl ?_)
                    |(refine S_done ?_)))
                |((first
                    |(refine C_seq ?_)
                    |(refine gReg ?_;(first
                        |(refine gReg (i := 18) ?_;refine C_drawn [(0,0),(1,0),(2,0),(3,0),(4,0),(5,0),(6,0),(7,0),(8,1),(9,0),(10,0)] [] T.mixed (by kernel_rfl) (s := [⟨0,none,_,_,_⟩,⟨0,none,_,_,_⟩,⟨0,none,_,_,_⟩,⟨0,some (128,true),_,_,_⟩,⟨0,some (128,true),_,_,_⟩,⟨0,some (128,true),_,_,_⟩,⟨0,some (128,true),_,_,_⟩,⟨0,some (128,true),_,_,_⟩,⟨1,some (128,true),_,_,_⟩,⟨0,some (128,true),_,_,_⟩,⟨0,none,_,_,_⟩]) rfl ?_)
                        |(refine gReg (i := 19) ?_;refine C_drawn [(0,0),(1,0),(2,0),(3,0),(4,0),(5,1),(6,0)] [] T.mixed (by kernel_rfl) (s := [⟨0,none,_,_,_⟩,⟨0,none,_,_,_⟩,⟨0,none,_,_,_⟩,⟨0,none,_,_,_⟩,⟨0,none,_,_,_⟩,⟨1,none,_,_,_⟩,⟨0,none,_,_,_⟩]) rfl ?_)))
                    |(refine C_true rfl ?_)))
                |(refine gE ?_;(first
                    |(refine E_then ?_)
                    |(refine E_calm ?_))))
              have hjx : b.2.2[j]? = some (ix b.2.2 j) := nthD (by omega)
              have hjm : ix b.2.2 j ∈ b.2.2 := List.mem_of_getElem? hjx
              obtain ⟨hbad, hjoin⟩ := hall _ (List.mem_map_of_mem hjm) hjk
              have hbad2 : (ix b.2.2 j).2.2 = false := hbad
              have hjoin2 : joinC ((ix b.2.2 j).1.2.map ctFragPacket ++ [ctFragPacket (ix ll i)]) = (q, 0) := hjoin
              have hrow1 := slot_row b
              have hrow2 := piece_row hjl
              have hnp := pieces_le h2 hjm
              have hpll : ∀ y ∈ (ix b.2.2 j).1.2, y.2.2.2.2.2.2.2.2.2.length ≤ 1048576 := fun y hy => piece_len h4 hjm hy
              have hprd : ∀ w : World, Rds w (rwFragBench b) → ∀ y ∈ (ix b.2.2 j).1.2, Rds w (rwFragPacket y) := fun w h => rds_slotP hjl h
              refine C_fact (fun w hs => isN_piece hjl hs (by (focus ((repeat (first|exact mH|refine mT ?_));done)))) (fun hisp => ?_)
              refine C_fact (fun w hs => all_flat (l := (ix b.2.2 j).1.2) (f := clFragPacket) fun y hy => oneFragPacket (rds_slotP hjl (Rds.many hs (by (focus ((repeat (first|exact mH|refine mT ?_));done)))) y hy)) (fun honep => ?_)
              clear hjk hbad hjoin hjm
              generalize ix b.2.2 j = sl at hjx hbad2 hjoin2 hrow2 hnp hpll hprd hisp honep
              obtain ⟨⟨pv, pl⟩, sn, bad⟩ := sl
              dsimp only at hjx hbad2 hjoin2 hrow2 hnp hpll hprd hisp honep
              have hj4 := fun s : Value => join_li (s, pl ++ [ix ll i]) (p := q) (k := 0) (by dsimp only; rw [List.map_append, List.map_singleton]; exact hjoin2) (by simp only [List.length_append, List.length_singleton]; omega) (fun y hy => by
                rcases List.mem_append.1 hy with hy | hy
                · exact hpll y hy
                · rw [List.mem_singleton] at hy; rw [hy]; exact hel)
              refine C_ent [.blk k10 45 (clFragBench y2),.blk k11 24 (clFragPacket q2),.many (rwFragBench y2),.many (rwFragPacket q2),.blk kb 45 (clFragBench b),.many (rwFragBench b),.row lv 24 9 ll.length (ll.flatMap clFragPacket),.many base] entA ?_
              refine C_forget (E' := [(16, .int .i64 (j : Int)), (11, .pointer (some ⟨k11, 0, none⟩)), (10, .pointer (some ⟨k10, 0, none⟩)), (5, .int .i64 (i : Int)), (4, .pointer (some ⟨kb, 0, none⟩)), (3, lv)]) ⟨rfl, rfl, rfl, rfl, rfl, rfl, trivial⟩ (List.Sublist.refl _) ?_
              clear hpos hex hall hT hR hob2 hone2 hy3 hq3 hlen hn0 hn6 hgc hsc hob hop hes hm hby
              repeat' (first
                |(refine gS ?_;(first
                    |(refine gGuard ?_;(first
                        |(refine S_on rfl ?_)))
                    |(refine S_move rfl rfl ?_)
                    |(apply F_field rfl rfl;(first|exact T.fl24_2|exact T.fl24_4|exact T.fl45_0|exact T.fl45_1|exact T.fl67_0|exact T.fl67_2))
                    |(apply F_fieldS rfl rfl;(first|exact T.fl24_2|exact T.fl24_4|exact T.fl45_0|exact T.fl45_1|exact T.fl67_0|exact T.fl67_2);(focus (first|exact len_nil|(apply len_given;assumption)|(apply len_row;(focus ((repeat (first|exact mH|refine mT ?_));done)))|(apply len_isN;assumption)));(focus omega))
                    |(apply F_idx rfl rfl rfl;(first|exact T.sl22|exact T.sl27|exact T.sl43);(focus rfl);(focus (first|exact len_nil|(apply len_given;assumption)|(apply len_row;(focus ((repeat (first|exact mH|refine mT ?_));done)))|(apply len_isN;assumption)));(focus omega))
                    |(refine gLoad ?_;(first
                        |(apply F_load1 rfl rfl;(focus ((repeat (first|exact mH|refine mT ?_));done));(first|exact T.sc3|exact T.sc4|exact T.sc27|exact T.sc43);rfl;(focus (first|exact free0|exact free1)))
                        |(apply F_loadS1 rfl rfl;(first|exact T.sc3|exact T.sc4|exact T.sc27|exact T.sc43);(focus (first|exact rd_nil|(apply rd_given;(focus assumption);(focus (first|exact freeG0|exact freeG1)))|(apply rd_row;(focus ((repeat (first|exact mH|refine mT ?_));done));(focus (first|exact freeR0|exact freeR1)))|(apply rd_many (x := ⟨_,_,_,_,_⟩);(focus assumption);(focus ((repeat (first|exact mH|refine mT ?_));done));(focus (first|exact freeR0|exact freeR1)))));(focus (first|(apply at_cell;(focus (apply at_flat;(focus (intro _;rfl));(focus assumption)));rfl)|(apply at_cell0;(focus (apply at_flat;(focus (intro _;rfl));(focus assumption)));rfl)|(apply at_cell;(focus (apply at_mid0;(focus assumption)));rfl)|(apply at_cell0;(focus (apply at_mid0;(focus assumption)));rfl)|rfl)))))
                    |(refine gBin ?_;(first
                        |(refine S_lss rfl rfl rfl ?_)))
                    |(refine gPick ?_;(first
                        |(refine S_pickF rfl rfl rfl ?_)))
                    |(refine S_done ?_)))
                |((first
                    |(refine gSeqReg (i := 22) ?_;refine C_join (α := MFragPacket × Nat) (fun s => [(18,.int .i64 0),(17,.pointer (some ⟨s.2,0,none⟩)),(11,.pointer (some ⟨k11,0,none⟩)),(10,.pointer (some ⟨k10,0,none⟩)),(5,.int .i64 (i : Int)),(4,.pointer (some ⟨kb,0,none⟩)),(3,lv)]) (fun s => [.blk s.2 24 (clFragPacket s.1),.many (rwFragPacket s.1),.blk k10 45 (clFragBench y2),.blk k11 24 (clFragPacket q2),.many (rwFragBench y2),.many (rwFragPacket q2),.blk kb 45 (clFragBench b),.many (rwFragBench b),.row lv 24 9 ll.length (ll.flatMap clFragPacket),.many base]) (fun s => ctFragPacket s.1 = q) ?_ ?_)
                    |(refine gReg ?_;(first
                        |(refine gReg (i := 20) ?_;refine C_plain [(0,0),(1,0),(2,0),(3,0),(4,0),(5,0),(6,0),(7,0),(8,0),(9,0)] (by kernel_rfl) (s := [⟨0,none,_,_,_⟩,⟨0,none,_,_,_⟩,⟨0,none,_,_,_⟩,⟨0,some (145,false),_,_,_⟩,⟨0,some (145,false),_,_,_⟩,⟨0,some (145,false),_,_,_⟩,⟨0,some (145,false),_,_,_⟩,⟨0,some (145,false),_,_,_⟩,⟨0,some (145,false),_,_,_⟩,⟨0,none,_,_,_⟩]) rfl ?_)))
                    |(refine C_split rfl ?_ ?_ <;> (intro hb;(try simp only [decide_eq_true_eq] at hb);(try simp only [decide_eq_false_iff_not] at hb);(try simp only [Bool.not_eq_true'] at hb);(try simp only [Bool.not_eq_false'] at hb);(try (exfalso;first|contradiction|omega));(try (have hx := hxe));(try ((exfalso;rw [hbad2] at hb;cases hb;done)))))
                    |(refine C_skip ?_)))
                |(refine gE ?_;(first
                    |(refine E_then ?_))))
              · refine C_forget (E' := [(16, .int .i64 (j : Int)), (11, .pointer (some ⟨k11, 0, none⟩)), (10, .pointer (some ⟨k10, 0, none⟩)), (5, .int .i64 (i : Int)), (4, .pointer (some ⟨kb, 0, none⟩)), (3, lv)]) ⟨rfl, rfl, rfl, rfl, rfl, rfl, trivial⟩ (List.Sublist.refl _) ?_
                repeat' (first
                  |(refine gS ?_;(first
                      |(refine S_move rfl rfl ?_)
                      |(refine S_assign rfl rfl ?_)
                      |(apply F_field rfl rfl;(first|exact T.fl24_2|exact T.fl24_4|exact T.fl45_0|exact T.fl45_1|exact T.fl67_0|exact T.fl67_2))
                      |(apply F_fieldS rfl rfl;(first|exact T.fl24_2|exact T.fl24_4|exact T.fl45_0|exact T.fl45_1|exact T.fl67_0|exact T.fl67_2);(focus (first|exact len_nil|(apply len_given;assumption)|(apply len_row;(focus ((repeat (first|exact mH|refine mT ?_));done)))|(apply len_isN;assumption)));(focus omega))
                      |(apply F_idx rfl rfl rfl;(first|exact T.sl22|exact T.sl27|exact T.sl43);(focus rfl);(focus (first|exact len_nil|(apply len_given;assumption)|(apply len_row;(focus ((repeat (first|exact mH|refine mT ?_));done)))|(apply len_isN;assumption)));(focus omega))
                      |(apply F_bs0L rfl rfl;(first|exact T.el22|exact T.el27|exact T.el43);rfl;intro kb)
                      |(apply F_bs rfl rfl;(first|exact T.el22|exact T.el27|exact T.el43);rfl;rfl;rfl;rfl;(focus ((repeat (first|exact Dense.nil|(apply Dense.cons;rfl;rfl)));done));intro sv;(try (refine S_fact (row_one (v := sv) (by (focus ((repeat (first|exact mH|refine mT ?_));done)))) (fun hone => ?_))))
                      |(refine gLoad ?_;(first
                          |(apply F_load1 rfl rfl;(focus ((repeat (first|exact mH|refine mT ?_));done));(first|exact T.sc3|exact T.sc4|exact T.sc27|exact T.sc43);rfl;(focus (first|exact free0|exact free1)))
                          |(apply F_loadS1 rfl rfl;(first|exact T.sc3|exact T.sc4|exact T.sc27|exact T.sc43);(focus (first|exact rd_nil|(apply rd_given;(focus assumption);(focus (first|exact freeG0|exact freeG1)))|(apply rd_row;(focus ((repeat (first|exact mH|refine mT ?_));done));(focus (first|exact freeR0|exact freeR1)))|(apply rd_many (x := ⟨_,_,_,_,_⟩);(focus assumption);(focus ((repeat (first|exact mH|refine mT ?_));done));(focus (first|exact freeR0|exact freeR1)))));(focus (first|(apply at_cell;(focus (apply at_flat;(focus (intro _;rfl));(focus assumption)));rfl)|(apply at_cell0;(focus (apply at_flat;(focus (intro _;rfl));(focus assumption)));rfl)|(apply at_cell;(focus (apply at_mid0;(focus assumption)));rfl)|(apply at_cell0;(focus (apply at_mid0;(focus assumption)));rfl)|rfl)))
                          |(apply F_loadSN rfl rfl;(first|exact T.rw24|exact T.rw45);(focus (first|exact rd_nil|(apply rd_given;(focus assumption);(focus (first|exact freeG0|exact freeG1)))|(apply rd_row;(focus ((repeat (first|exact mH|refine mT ?_));done));(focus (first|exact freeR0|exact freeR1)))|(apply rd_many (x := ⟨_,_,_,_,_⟩);(focus assumption);(focus ((repeat (first|exact mH|refine mT ?_));done));(focus (first|exact freeR0|exact freeR1)))));(focus (first|(focus (apply at_flat;(focus (intro _;rfl));(focus assumption)))|exact at_self));rfl;rfl)))
                      |(refine gStore ?_;(first
                          |(apply F_storeN rfl rfl;(focus (first|rfl|assumption|(simp only [List.append_nil,List.all_cons,List.all_nil,Bool.and_true,Bool.true_and,one_int,one_bool,one_string,one_slice,one_pointer, *];done)));(first|exact T.rw24|exact T.rw45);(focus ((repeat (first|exact Upd.here|apply Upd.there));done));(focus ((repeat (first|exact SetSeg.nil|apply SetSeg.here|apply SetSeg.there));done));(first|exact okst2|exact okst1|exact okst1'))))
                      |(refine gCall ?_;(first
                          |(show GoS _ _ _ _ _ _ _ (⟨_,_,_,.call ⟨.value (.func 15),_,_⟩,_⟩ :: _);refine S_callX (f := 15) rfl T.pf15 rfl (fun w hst => hj4 _ w (rds_newP3 hst (by (focus ((repeat (first|exact mH|refine mT ?_));done))) (hprd w (Rds.many hst (by (focus ((repeat (first|exact mH|refine mT ?_));done))))) (rds_inB hin hmem (Rds.many hst (by (focus ((repeat (first|exact mH|refine mT ?_));done))))))) rfl (fun zz hzz => ?_);simp only [List.cons_append,List.nil_append];revert hzz;revert zz;intro y4 hy4;refine S_fact (fun w hs => oneFragPacket (Rds.many hs (by (focus ((repeat (first|exact mH|refine mT ?_));done))))) (fun hone => ?_))
                          |(apply F_append0 rfl rfl rfl rfl;(first|exact T.el22|exact T.el27|exact T.el43);(focus (intro sv;(focus ((repeat (first|exact Upd.here|apply Upd.there));done))));(focus (first|exact rd_nil|(apply rd_given;(focus assumption);(focus (first|exact freeG0|exact freeG1)))|(apply rd_row;(focus ((repeat (first|exact mH|refine mT ?_));done));(focus (first|exact freeR0|exact freeR1)))|(apply rd_many (x := ⟨_,_,_,_,_⟩);(focus assumption);(focus ((repeat (first|exact mH|refine mT ?_));done));(focus (first|exact freeR0|exact freeR1)))));(focus (first|rfl|assumption|(apply all_flat;intro _ _;rfl)|(rw [List.append_nil];assumption)|(simp only [List.append_nil,List.all_cons,List.all_nil,Bool.and_true,Bool.true_and,one_int,one_bool,one_string,one_slice,one_pointer, *];done)|simp));rfl;(focus (simp only [maxLen];first|omega|(simp only [List.length_take,List.length_drop];omega)));(focus (first|omega|(simp only [List.length_take,List.length_drop];omega)));intro sv;(try (refine S_fact (row_one (v := sv) (by (focus ((repeat (first|exact mH|refine mT ?_));done)))) (fun hone => ?_))))
                          |(apply F_append rfl rfl rfl rfl;(first|exact T.el22|exact T.el27|exact T.el43);(focus (intro sv;(focus ((repeat (first|exact Upd.here|apply Upd.there));done))));(focus (first|exact rd_nil|(apply rd_given;(focus assumption);(focus (first|exact freeG0|exact freeG1)))|(apply rd_row;(focus ((repeat (first|exact mH|refine mT ?_));done));(focus (first|exact freeR0|exact freeR1)))|(apply rd_many (x := ⟨_,_,_,_,_⟩);(focus assumption);(focus ((repeat (first|exact mH|refine mT ?_));done));(focus (first|exact freeR0|exact freeR1)))));(focus (first|rfl|assumption|(apply all_flat;intro _ _;rfl)|(rw [List.append_nil];assumption)|(simp only [List.append_nil,List.all_cons,List.all_nil,Bool.and_true,Bool.true_and,one_int,one_bool,one_string,one_slice,one_pointer, *];done)|simp));(first|exact okst2|exact okst1|exact okst1');(focus (simp only [maxLen];first|omega|(simp only [List.length_take,List.length_drop];omega)));(focus (first|omega|(simp only [List.length_take,List.length_drop];omega)));intro sv;(try (refine S_fact (row_one (v := sv) (by (focus ((repeat (first|exact mH|refine mT ?_));done)))) (fun hone => ?_))))))
                      |(apply S_alloc rfl (hd := rfl);(first|exact T.zc24|exact T.zc45);intro kb)
                      |(refine S_extract rfl rfl rfl ?_)
                      |(refine S_done ?_)))
                  |((first
                      |(refine gReg ?_;(first
                          |(refine gReg (i := 22) ?_;refine C_drawnT (.br [(1,0),(2,0),(3,0),(4,0),(5,0),(6,0),(8,0),(9,0),(10,0),(11,0)] (.br [(0,1)] (.br [(7,1)] (.br [(12,1)] (.br [(13,2)] (.fin [(14,1),(15,0),(16,0),(17,0),(18,1),(19,2),(20,0)]) (.fin [(18,1),(14,1),(15,0),(16,0),(17,0),(19,2),(20,0)])) (.fin [(18,1),(13,2),(14,1),(15,0),(16,0),(17,0),(19,2),(20,0)])) (.fin [(18,1),(12,1),(13,2),(14,1),(15,0),(16,0),(17,0),(19,2),(20,0)])) (.br [] (.br [(12,1)] (.br [(7,1)] (.br [(13,2)] (.fin [(14,1),(15,0),(16,0),(17,0),(18,1),(19,2),(20,0)]) (.fin [(18,1),(14,1),(15,0),(16,0),(17,0),(19,2),(20,0)])) (.fin [(18,1),(13,2),(14,1),(15,0),(16,0),(17,0),(19,2),(20,0)])) (.fin [(18,1),(7,1),(13,2),(14,1),(15,0),(16,0),(17,0),(19,2),(20,0)])) (.br [(18,1)] (.fin [(7,1),(12,1),(13,2),(14,1),(15,0),(16,0),(17,0),(19,2),(20,0)]) (.fin [(12,1),(7,1),(13,2),(14,1),(15,0),(16,0),(17,0),(19,2),(20,0)])))) (.br [] (.br [(12,1)] (.br [(0,1)] (.br [(7,1)] (.br [(13,2)] (.fin [(14,1),(15,0),(16,0),(17,0),(18,1),(19,2),(20,0)]) (.fin [(18,1),(14,1),(15,0),(16,0),(17,0),(19,2),(20,0)])) (.fin [(18,1),(13,2),(14,1),(15,0),(16,0),(17,0),(19,2),(20,0)])) (.fin [(18,1),(7,1),(13,2),(14,1),(15,0),(16,0),(17,0),(19,2),(20,0)])) (.fin [(18,1),(0,1),(7,1),(13,2),(14,1),(15,0),(16,0),(17,0),(19,2),(20,0)])) (.br [(18,1)] (.br [(0,1)] (.fin [(7,1),(12,1),(13,2),(14,1),(15,0),(16,0),(17,0),(19,2),(20,0)]) (.fin [(12,1),(7,1),(13,2),(14,1),(15,0),(16,0),(17,0),(19,2),(20,0)])) (.fin [(12,1),(0,1),(7,1),(13,2),(14,1),(15,0),(16,0),(17,0),(19,2),(20,0)])))) [] T.mixed (by kernel_rfl) (s := (.br [⟨0,none,_,_,_⟩,⟨0,none,_,_,_⟩,⟨0,none,_,_,_⟩,⟨0,none,_,_,_⟩,⟨0,none,_,_,_⟩,⟨0,none,_,_,_⟩,⟨0,none,_,_,_⟩,⟨0,none,_,_,_⟩,⟨0,none,_,_,_⟩,⟨0,none,_,_,_⟩] (.br [⟨1,none,_,_,_⟩] (.br [⟨1,none,_,_,_⟩] (.br [⟨1,none,_,_,_⟩] (.br [⟨2,none,_,_,_⟩] (.fin [⟨1,none,_,_,_⟩,⟨0,none,_,_,_⟩,⟨0,none,_,_,_⟩,⟨0,none,_,_,_⟩,⟨1,none,_,_,_⟩,⟨2,none,_,_,_⟩,⟨0,none,_,_,_⟩]) (.fin [⟨1,none,_,_,_⟩,⟨1,none,_,_,_⟩,⟨0,none,_,_,_⟩,⟨0,none,_,_,_⟩,⟨0,none,_,_,_⟩,⟨2,none,_,_,_⟩,⟨0,none,_,_,_⟩])) (.fin [⟨1,none,_,_,_⟩,⟨2,none,_,_,_⟩,⟨1,none,_,_,_⟩,⟨0,none,_,_,_⟩,⟨0,none,_,_,_⟩,⟨0,none,_,_,_⟩,⟨2,none,_,_,_⟩,⟨0,none,_,_,_⟩])) (.fin [⟨1,none,_,_,_⟩,⟨1,none,_,_,_⟩,⟨2,none,_,_,_⟩,⟨1,none,_,_,_⟩,⟨0,none,_,_,_⟩,⟨0,none,_,_,_⟩,⟨0,none,_,_,_⟩,⟨2,none,_,_,_⟩,⟨0,none,_,_,_⟩])) (.br [] (.br [⟨1,none,_,_,_⟩] (.br [⟨1,none,_,_,_⟩] (.br [⟨2,none,_,_,_⟩] (.fin [⟨1,none,_,_,_⟩,⟨0,none,_,_,_⟩,⟨0,none,_,_,_⟩,⟨0,none,_,_,_⟩,⟨1,none,_,_,_⟩,⟨2,none,_,_,_⟩,⟨0,none,_,_,_⟩]) (.fin [⟨1,none,_,_,_⟩,⟨1,none,_,_,_⟩,⟨0,none,_,_,_⟩,⟨0,none,_,_,_⟩,⟨0,none,_,_,_⟩,⟨2,none,_,_,_⟩,⟨0,none,_,_,_⟩])) (.fin [⟨1,none,_,_,_⟩,⟨2,none,_,_,_⟩,⟨1,none,_,_,_⟩,⟨0,none,_,_,_⟩,⟨0,none,_,_,_⟩,⟨0,none,_,_,_⟩,⟨2,none,_,_,_⟩,⟨0,none,_,_,_⟩])) (.fin [⟨1,none,_,_,_⟩,⟨1,none,_,_,_⟩,⟨2,none,_,_,_⟩,⟨1,none,_,_,_⟩,⟨0,none,_,_,_⟩,⟨0,none,_,_,_⟩,⟨0,none,_,_,_⟩,⟨2,none,_,_,_⟩,⟨0,none,_,_,_⟩])) (.br [⟨1,none,_,_,_⟩] (.fin [⟨1,none,_,_,_⟩,⟨1,none,_,_,_⟩,⟨2,none,_,_,_⟩,⟨1,none,_,_,_⟩,⟨0,none,_,_,_⟩,⟨0,none,_,_,_⟩,⟨0,none,_,_,_⟩,⟨2,none,_,_,_⟩,⟨0,none,_,_,_⟩]) (.fin [⟨1,none,_,_,_⟩,⟨1,none,_,_,_⟩,⟨2,none,_,_,_⟩,⟨1,none,_,_,_⟩,⟨0,none,_,_,_⟩,⟨0,none,_,_,_⟩,⟨0,none,_,_,_⟩,⟨2,none,_,_,_⟩,⟨0,none,_,_,_⟩])))) (.br [] (.br [⟨1,none,_,_,_⟩] (.br [⟨1,none,_,_,_⟩] (.br [⟨1,none,_,_,_⟩] (.br [⟨2,none,_,_,_⟩] (.fin [⟨1,none,_,_,_⟩,⟨0,none,_,_,_⟩,⟨0,none,_,_,_⟩,⟨0,none,_,_,_⟩,⟨1,none,_,_,_⟩,⟨2,none,_,_,_⟩,⟨0,none,_,_,_⟩]) (.fin [⟨1,none,_,_,_⟩,⟨1,none,_,_,_⟩,⟨0,none,_,_,_⟩,⟨0,none,_,_,_⟩,⟨0,none,_,_,_⟩,⟨2,none,_,_,_⟩,⟨0,none,_,_,_⟩])) (.fin [⟨1,none,_,_,_⟩,⟨2,none,_,_,_⟩,⟨1,none,_,_,_⟩,⟨0,none,_,_,_⟩,⟨0,none,_,_,_⟩,⟨0,none,_,_,_⟩,⟨2,none,_,_,_⟩,⟨0,none,_,_,_⟩])) (.fin [⟨1,none,_,_,_⟩,⟨1,none,_,_,_⟩,⟨2,none,_,_,_⟩,⟨1,none,_,_,_⟩,⟨0,none,_,_,_⟩,⟨0,none,_,_,_⟩,⟨0,none,_,_,_⟩,⟨2,none,_,_,_⟩,⟨0,none,_,_,_⟩])) (.fin [⟨1,none,_,_,_⟩,⟨1,none,_,_,_⟩,⟨1,none,_,_,_⟩,⟨2,none,_,_,_⟩,⟨1,none,_,_,_⟩,⟨0,none,_,_,_⟩,⟨0,none,_,_,_⟩,⟨0,none,_,_,_⟩,⟨2,none,_,_,_⟩,⟨0,none,_,_,_⟩])) (.br [⟨1,none,_,_,_⟩] (.br [⟨1,none,_,_,_⟩] (.fin [⟨1,none,_,_,_⟩,⟨1,none,_,_,_⟩,⟨2,none,_,_,_⟩,⟨1,none,_,_,_⟩,⟨0,none,_,_,_⟩,⟨0,none,_,_,_⟩,⟨0,none,_,_,_⟩,⟨2,none,_,_,_⟩,⟨0,none,_,_,_⟩]) (.fin [⟨1,none,_,_,_⟩,⟨1,none,_,_,_⟩,⟨2,none,_,_,_⟩,⟨1,none,_,_,_⟩,⟨0,none,_,_,_⟩,⟨0,none,_,_,_⟩,⟨0,none,_,_,_⟩,⟨2,none,_,_,_⟩,⟨0,none,_,_,_⟩])) (.fin [⟨1,none,_,_,_⟩,⟨1,none,_,_,_⟩,⟨1,none,_,_,_⟩,⟨2,none,_,_,_⟩,⟨1,none,_,_,_⟩,⟨0,none,_,_,_⟩,⟨0,none,_,_,_⟩,⟨0,none,_,_,_⟩,⟨2,none,_,_,_⟩,⟨0,none,_,_,_⟩]))))) rfl ?_)))
                      |(refine T_fin ?_)
                      |(refine T_br ?_)))
                  |(refine gE ?_;(first
                      |(refine E_calm ?_)
                      | (refine E_both ?_ ?_))))
                all_goals exact E_join (α := MFragPacket × Nat) (y4,_) hy4 ⟨rfl,rfl,rfl,rfl,rfl,rfl,rfl,trivial⟩ entA
              rintro ⟨y4, k17⟩ hy4
              dsimp only at hy4 ⊢
              refine C_fact (fun w hs => oneFragPacket (Rds.many (l := rwFragPacket y4) hs (by (focus ((repeat (first|exact mH|refine mT ?_));done))))) (fun hone4 => ?_)
              repeat' (first
                |(refine gS ?_;(first
                    |(refine gGuard ?_;(first
                        |(refine S_on rfl ?_)))
                    |(refine S_move rfl rfl ?_)
                    |(apply F_idx rfl rfl rfl;(first|exact T.sl22|exact T.sl27|exact T.sl43);(focus rfl);(focus (first|exact len_nil|(apply len_given;assumption)|(apply len_row;(focus ((repeat (first|exact mH|refine mT ?_));done)))|(apply len_isN;assumption)));(focus omega))
                    |(refine gLoad ?_;(first
                        |(apply F_loadAll rfl rfl;(focus ((repeat (first|exact mH|refine mT ?_));done));(first|exact T.rw24|exact T.rw45);(focus (first|exact free0|exact free1)))
                        |(apply F_loadSN rfl rfl;(first|exact T.rw24|exact T.rw45);(focus (first|exact rd_nil|(apply rd_given;(focus assumption);(focus (first|exact freeG0|exact freeG1)))|(apply rd_row;(focus ((repeat (first|exact mH|refine mT ?_));done));(focus (first|exact freeR0|exact freeR1)))));(focus (first|(focus (apply at_flat;(focus (intro _;rfl));(focus assumption)))|exact at_self));rfl;rfl)))
                    |(refine gCall ?_;(first
                        |(show GoS _ _ _ _ _ _ _ (⟨_,_,_,.call ⟨.value (.func 18),_,_⟩,_⟩ :: _);refine S_callN (f := 18) rfl T.pf18 rfl (fun w hst => same_l y4 q2 (hy4.trans hq2.symm) w (by first|(refine Rds.given hst ?_;assumption)|(apply Rds.many hst;(focus ((repeat (first|exact mH|refine mT ?_));done)))|(apply Rds.row hst;(focus ((repeat (first|exact mH|refine mT ?_));done)))) (by first|(refine Rds.given hst ?_;assumption)|(apply Rds.many hst;(focus ((repeat (first|exact mH|refine mT ?_));done)))|(apply Rds.row hst;(focus ((repeat (first|exact mH|refine mT ?_));done))))) rfl ?_)
                        |(show GoS _ _ _ _ _ _ _ (⟨_,_,_,.call ⟨.value (.func 44),_,_⟩,_⟩ :: _);refine S_callX (f := 44) rfl T.pf44 rfl (fun w hst => wfOf_c y2 (ix ll i) hsh2.2 hhd2 hel hf w (by first|(refine Rds.given hst ?_;assumption)|(apply Rds.many hst;(focus ((repeat (first|exact mH|refine mT ?_));done)))|(apply Rds.row hst;(focus ((repeat (first|exact mH|refine mT ?_));done)))) (rds_inB hin hmem (Rds.many hst (by (focus ((repeat (first|exact mH|refine mT ?_));done)))))) rfl (fun zz hzz => ?_);simp only [List.cons_append,List.nil_append];revert hzz;revert zz;intro k6 hk6;obtain rfl := hnone k6 hk6)))
                    |(refine gBin ?_;(first
                        |(refine S_geq rfl rfl rfl ?_)
                        |(refine S_neq rfl rfl rfl ?_)))
                    |(refine gPick ?_;(first
                        |(refine S_pickF rfl rfl rfl ?_)))
                    |(refine S_not rfl rfl ?_)
                    |(refine S_done ?_)))
                |((first
                    |(refine C_seq ?_)
                    |(refine gReg ?_;(first
                        |(refine gReg (i := 23) ?_;refine C_drawn [(0,0),(1,0),(2,0),(3,0),(4,0),(5,1),(6,0),(7,0),(8,0),(9,0),(10,0),(11,0),(12,0),(13,0),(14,1),(15,0),(16,0)] [] T.mixed (by kernel_rfl) (s := [⟨0,none,_,_,_⟩,⟨0,none,_,_,_⟩,⟨0,none,_,_,_⟩,⟨0,some (173,false),_,_,_⟩,⟨0,some (173,false),_,_,_⟩,⟨1,some (173,false),_,_,_⟩,⟨0,some (173,false),_,_,_⟩,⟨0,none,_,_,_⟩,⟨0,none,_,_,_⟩,⟨0,some (179,false),_,_,_⟩,⟨0,some (179,false),_,_,_⟩,⟨0,some (179,false),_,_,_⟩,⟨0,some (179,false),_,_,_⟩,⟨0,some (179,false),_,_,_⟩,⟨1,some (179,false),_,_,_⟩,⟨0,some (179,false),_,_,_⟩,⟨0,none,_,_,_⟩]) rfl ?_)))
                    |(refine C_false rfl ?_)
                    |(refine C_skip ?_)))
                |(refine gE ?_;(first
                    |(refine E_then ?_)
                    |(refine E_calm ?_))))
              all_goals exact E_join (α := Unit) () trivial ⟨rfl,rfl,rfl,rfl,trivial⟩ entA
          · skip
            repeat' (first
              |(refine gS ?_;(first
                  |(refine gGuard ?_;(first
                      |(refine S_off rfl rfl rfl ?_)
                      |(refine S_gsplit rfl ?_ ?_ <;> (intro hb;(try simp only [decide_eq_true_eq] at hb);(try simp only [decide_eq_false_iff_not] at hb);(try simp only [Bool.not_eq_true'] at hb);(try simp only [Bool.not_eq_false'] at hb);(try (exfalso;first|contradiction|omega));(try (have hx := hxe))))))
                  |(refine S_move rfl rfl ?_)
                  |(refine gBin ?_;(first
                      |(refine S_eql rfl rfl rfl ?_)))
                  |(refine gPick ?_;(first
                      |(refine S_pickF rfl rfl rfl ?_)))
                  |(refine S_done ?_)))
              |((first
                  |(refine gReg ?_;(first
                      |(refine gReg (i := 18) ?_;refine C_drawn [(0,0),(1,0),(2,0),(3,0),(4,0),(5,0),(6,0),(7,0),(8,1),(9,0),(10,0)] [] T.mixed (by kernel_rfl) (s := [⟨0,none,_,_,_⟩,⟨0,none,_,_,_⟩,⟨0,none,_,_,_⟩,⟨0,some (128,true),_,_,_⟩,⟨0,some (128,true),_,_,_⟩,⟨0,some (128,true),_,_,_⟩,⟨0,some (128,true),_,_,_⟩,⟨0,some (128,true),_,_,_⟩,⟨1,some (128,true),_,_,_⟩,⟨0,some (128,true),_,_,_⟩,⟨0,none,_,_,_⟩]) rfl ?_)))
                  |(refine C_false rfl ?_)
                  |(refine C_skip ?_)))
              |(refine gE ?_;(first
                  |(refine E_then ?_)
                  |(refine E_calm ?_))))
            all_goals exact E_join (α := Unit) () trivial ⟨rfl,rfl,rfl,rfl,trivial⟩ entA
        rintro _ _
        clear hy3 hq3 hob2 hone2
        clear hq2 hone1
        refine C_fact (fun w hs => isN_slots (b := b) hs (by (focus ((repeat (first|exact mH|refine mT ?_));done)))) (fun hisb => ?_)
        have hhd := good_heads h2
        have hhd2 : ∀ y ∈ y2.2.2, 1 ≤ y.1.2.length ∧ fragOk (headS y) = true := good_heads (n := y2.1) hg2
        have hsh2 := smallB_short hs2
        repeat' (first
          |(refine gS ?_;(first
              |(refine S_assign rfl rfl ?_)
              |(refine S_done ?_)))
          |((first
              |(refine C_seq ?_)
              |(refine gReg ?_;(first
                  |(refine gReg (i := 25) ?_;refine C_plain [(0,0)] (by kernel_rfl) (s := [⟨0,none,_,_,_⟩]) rfl ?_)
                  |(refine gReg (i := 26) ?_;refine C_plain [(0,0)] (by kernel_rfl) (s := [⟨0,none,_,_,_⟩]) rfl ?_)))
              |(refine C_block ?_)))
          |(refine gE ?_;(first
              |(refine E_then ?_))))
        refine C_loop (α := Nat × Int) (fun s => [(20, .int .i64 (s.1 : Int)), (19, .int .i64 s.2), (10, .pointer (some ⟨k10, 0, none⟩)), (5, .int .i64 (i : Int)), (4, .pointer (some ⟨kb, 0, none⟩)), (3, lv)]) (fun _ => [.blk k10 45 (clFragBench y2), .many (rwFragBench y2), .blk kb 45 (clFragBench b), .many (rwFragBench b), .row lv 24 9 ll.length (ll.flatMap clFragPacket), .many base]) (fun s => s.1 ≤ b.2.2.length ∧ 0 ≤ s.2 ∧ s.2 ≤ 1 ∧ (s.1 = 0 → s.2 = 0)) (fun s => b.2.2.length - s.1) (0, 0) ⟨Nat.zero_le _, Int.le_refl _, by dsimp only; omega, fun _ => rfl⟩ ⟨rfl, rfl, rfl, rfl, rfl, rfl, trivial⟩ (List.Sublist.refl _) ?_
        rintro ⟨j, t⟩ ⟨g1, g2, g3, g4⟩
        dsimp only at g1 g2 g3 g4 ⊢
        rcases Nat.lt_or_ge j b.2.2.length with hjl | hjg
        · have hjx : b.2.2[j]? = some (ix b.2.2 j) := nthD (by omega)
          have hjm : ix b.2.2 j ∈ b.2.2 := List.mem_of_getElem? hjx
          have hh1 := (hhd _ hjm).1
          have hh2 := (hhd _ hjm).2
          rw [head_ix hh1] at hh2
          have hpx : (ix b.2.2 j).1.2[(0 : Int).toNat]? = some (ix (ix b.2.2 j).1.2 0) := nthD (show ((0 : Nat) : Int) < _ by omega)
          have hpl : (ix (ix b.2.2 j).1.2 0).2.2.2.2.2.2.2.2.2.length ≤ 1048576 := piece_len h4 hjm (List.mem_of_getElem? hpx)
          have hrow1 := slot_row b
          have hrow2 := piece_row hjl
          refine C_fact (fun w hs => isN_piece hjl hs (by (focus ((repeat (first|exact mH|refine mT ?_));done)))) (fun hisp => ?_)
          refine C_fact (fun w hs => oneFragPacket (rds_headP hjl hh1 (Rds.many hs (by (focus ((repeat (first|exact mH|refine mT ?_));done)))))) (fun honeh => ?_)
          obtain ⟨u, hu⟩ : ∃ u, alikeC (ctFragPacket (ix (ix b.2.2 j).1.2 0)) (ctFragPacket (ix ll i)) = u := ⟨_, rfl⟩
          have hal := fun w h1 h2 => specFragAlike_c (ix (ix b.2.2 j).1.2 0) (ix ll i) hpl hel w h1 h2
          rw [hu] at hal
          repeat' (first
            |(refine gS ?_;(first
                |(refine gGuard ?_;(first
                    |(refine S_on rfl ?_)
                    |(refine S_off rfl rfl rfl ?_)
                    |(refine S_gsplit rfl ?_ ?_ <;> (intro hb;(try simp only [decide_eq_true_eq] at hb);(try simp only [decide_eq_false_iff_not] at hb);(try simp only [Bool.not_eq_true'] at hb);(try simp only [Bool.not_eq_false'] at hb);(try (exfalso;first|contradiction|omega));(try (have hx := hxe))))))
                |(refine S_move rfl rfl ?_)
                |(refine S_assign rfl rfl ?_)
                |(apply F_field rfl rfl;(first|exact T.fl24_2|exact T.fl24_4|exact T.fl45_0|exact T.fl45_1|exact T.fl67_0|exact T.fl67_2))
                |(apply F_fieldS rfl rfl;(first|exact T.fl24_2|exact T.fl24_4|exact T.fl45_0|exact T.fl45_1|exact T.fl67_0|exact T.fl67_2);(focus (first|exact len_nil|(apply len_given;assumption)|(apply len_row;(focus ((repeat (first|exact mH|refine mT ?_));done)))|(apply len_isN;assumption)));(focus omega))
                |(apply F_idx rfl rfl rfl;(first|exact T.sl22|exact T.sl27|exact T.sl43);(focus rfl);(focus (first|exact len_nil|(apply len_given;assumption)|(apply len_row;(focus ((repeat (first|exact mH|refine mT ?_));done)))|(apply len_isN;assumption)));(focus omega))
                |(apply F_idxZ rfl rfl rfl;(first|exact T.sl22|exact T.sl27|exact T.sl43);(focus omega);(focus (first|exact len_nil|(apply len_given;assumption)|(apply len_row;(focus ((repeat (first|exact mH|refine mT ?_));done)))|(apply len_isN;assumption)));(focus omega))
                |(refine gLoad ?_;(first
                    |(apply F_load1 rfl rfl;(focus ((repeat (first|exact mH|refine mT ?_));done));(first|exact T.sc3|exact T.sc4|exact T.sc27|exact T.sc43);rfl;(focus (first|exact free0|exact free1)))
                    |(apply F_loadAll rfl rfl;(focus ((repeat (first|exact mH|refine mT ?_));done));(first|exact T.rw24|exact T.rw45);(focus (first|exact free0|exact free1)))
                    |(apply F_loadS1 rfl rfl;(first|exact T.sc3|exact T.sc4|exact T.sc27|exact T.sc43);(focus (first|exact rd_nil|(apply rd_given;(focus assumption);(focus (first|exact freeG0|exact freeG1)))|(apply rd_row;(focus ((repeat (first|exact mH|refine mT ?_));done));(focus (first|exact freeR0|exact freeR1)))|(apply rd_many (x := ⟨_,_,_,_,_⟩);(focus assumption);(focus ((repeat (first|exact mH|refine mT ?_));done));(focus (first|exact freeR0|exact freeR1)))));(focus (first|(apply at_cell;(focus (apply at_flat;(focus (intro _;rfl));(focus assumption)));rfl)|(apply at_cell0;(focus (apply at_flat;(focus (intro _;rfl));(focus assumption)));rfl)|(apply at_cell;(focus (apply at_mid0;(focus assumption)));rfl)|(apply at_cell0;(focus (apply at_mid0;(focus assumption)));rfl)|rfl)))
                    |(apply F_loadSN rfl rfl;(first|exact T.rw24|exact T.rw45);(focus (first|exact rd_nil|(apply rd_given;(focus assumption);(focus (first|exact freeG0|exact freeG1)))|(apply rd_row;(focus ((repeat (first|exact mH|refine mT ?_));done));(focus (first|exact freeR0|exact freeR1)))|(apply rd_many (x := ⟨_,_,_,_,_⟩);(focus assumption);(focus ((repeat (first|exact mH|refine mT ?_));done));(focus (first|exact freeR0|exact freeR1)))));(focus (first|(focus (apply at_flat;(focus (intro _;rfl));(focus assumption)))|exact at_self));rfl;rfl)))
                |(refine gCall ?_;(first
                    |(show GoS _ _ _ _ _ _ _ (⟨_,_,_,.call ⟨.value (.func 45),_,_⟩,_⟩ :: _);refine S_callN (f := 45) rfl T.pf45 rfl (fun w hst => hal w (rds_headP hjl hh1 (Rds.many hst (by (focus ((repeat (first|exact mH|refine mT ?_));done))))) (rds_inB hin hmem (Rds.many hst (by (focus ((repeat (first|exact mH|refine mT ?_));done)))))) rfl ?_)
                    |(show GoS _ _ _ _ _ _ _ (⟨_,_,_,.call ⟨.value (.func 44),_,_⟩,_⟩ :: _);refine S_callX (f := 44) rfl T.pf44 rfl (fun w hst => wfOf_c y2 (ix (ix b.2.2 j).1.2 0) hsh2.2 hhd2 hpl hh2 w (by first|(refine Rds.given hst ?_;assumption)|(apply Rds.many hst;(focus ((repeat (first|exact mH|refine mT ?_));done)))|(apply Rds.row hst;(focus ((repeat (first|exact mH|refine mT ?_));done)))) (rds_headP hjl hh1 (Rds.many hst (by (focus ((repeat (first|exact mH|refine mT ?_));done)))))) rfl (fun zz hzz => ?_);simp only [List.cons_append,List.nil_append];revert hzz;revert zz;intro k5 hk5;have hlost : k5 < 0 → u = false → j = 0 ∧ b.2.2.length = 4 := (fun h6 h7 => lost_of h2 hR hy2 hjl hh1 hk5 h6 (hu.trans h7)))
                    |(apply F_len rfl rfl rfl;(focus exact ⟨_,_,by (first|exact T.sl22|exact T.sl27|exact T.sl43)⟩);(focus (first|exact len_nil|(apply len_given;assumption)|(apply len_row;(focus ((repeat (first|exact mH|refine mT ?_));done)))|(apply len_isN;assumption))))))
                |(refine gBin ?_;(first
                    |(refine S_lss rfl rfl rfl ?_)
                    |(refine S_gtr rfl rfl rfl ?_)
                    |(refine S_add rfl rfl ?_ rfl ?_;(focus (unfold rng;omega)))))
                |(refine gPick ?_;(first
                    |(refine S_pickT rfl rfl rfl ?_)
                    |(refine S_pickF rfl rfl rfl ?_)))
                |(refine S_not rfl rfl ?_)
                |(refine S_done ?_)))
            |((first
                |(refine C_seq ?_)
                |(refine gReg ?_;(first
                    |(refine gReg (i := 27) ?_;refine C_plain [(0,0),(1,0),(2,0),(3,0),(4,0)] (by kernel_rfl) (s := [⟨0,none,_,_,_⟩,⟨0,none,_,_,_⟩,⟨0,none,_,_,_⟩,⟨0,none,_,_,_⟩,⟨0,none,_,_,_⟩]) rfl ?_)
                    |(refine gReg (i := 29) ?_;refine C_drawn [(0,0),(1,0),(2,0),(3,0),(4,0),(5,0),(6,0),(7,0),(8,0),(9,0),(10,0),(11,0),(12,1),(13,0),(14,0),(15,0),(16,0),(17,0),(18,0),(19,0),(20,0),(21,0),(22,0),(23,0),(24,1),(25,0),(26,0)] [] T.mixed (by kernel_rfl) (s := [⟨0,none,_,_,_⟩,⟨0,none,_,_,_⟩,⟨0,none,_,_,_⟩,⟨0,none,_,_,_⟩,⟨0,none,_,_,_⟩,⟨0,none,_,_,_⟩,⟨0,none,_,_,_⟩,⟨0,none,_,_,_⟩,⟨0,none,_,_,_⟩,⟨0,none,_,_,_⟩,⟨0,none,_,_,_⟩,⟨0,none,_,_,_⟩,⟨1,none,_,_,_⟩,⟨0,none,_,_,_⟩,⟨0,none,_,_,_⟩,⟨0,some (209,true),_,_,_⟩,⟨0,some (209,true),_,_,_⟩,⟨0,some (209,true),_,_,_⟩,⟨0,some (209,true),_,_,_⟩,⟨0,some (209,true),_,_,_⟩,⟨0,some (209,true),_,_,_⟩,⟨0,some (209,true),_,_,_⟩,⟨0,some (209,true),_,_,_⟩,⟨0,some (209,true),_,_,_⟩,⟨1,some (209,true),_,_,_⟩,⟨0,some (209,true),_,_,_⟩,⟨0,none,_,_,_⟩]) rfl ?_)
                    |(refine gReg (i := 30) ?_;refine C_plain [(0,0),(1,0),(2,0)] (by kernel_rfl) (s := [⟨0,none,_,_,_⟩,⟨0,none,_,_,_⟩,⟨0,none,_,_,_⟩]) rfl ?_)
                    |(refine gReg (i := 31) ?_;refine C_plain [(0,0),(1,0),(2,0),(3,0),(4,0),(5,0),(6,0),(7,0)] (by kernel_rfl) (s := [⟨0,none,_,_,_⟩,⟨0,none,_,_,_⟩,⟨0,none,_,_,_⟩,⟨0,some (226,false),_,_,_⟩,⟨0,some (226,false),_,_,_⟩,⟨0,some (226,false),_,_,_⟩,⟨0,some (226,false),_,_,_⟩,⟨0,none,_,_,_⟩]) rfl ?_)
                    |(refine gReg (i := 32) ?_;refine C_plain [(0,0)] (by kernel_rfl) (s := [⟨0,none,_,_,_⟩]) rfl ?_)
                    |(refine gReg (i := 28) ?_;refine C_plain [(0,0),(1,0),(2,0)] (by kernel_rfl) (s := [⟨0,none,_,_,_⟩,⟨0,none,_,_,_⟩,⟨0,none,_,_,_⟩]) rfl ?_)))
                |(refine C_true rfl ?_)
                |(refine C_false rfl ?_)
                |(refine C_split rfl ?_ ?_ <;> (intro hb;(try simp only [decide_eq_true_eq] at hb);(try simp only [decide_eq_false_iff_not] at hb);(try simp only [Bool.not_eq_true'] at hb);(try simp only [Bool.not_eq_false'] at hb);(try (exfalso;first|contradiction|omega));(try (have hx := hxe))))
                |(refine C_skip ?_)
                |(refine C_ret ?_)
                |(refine C_block ?_)))
            |(refine gE ?_;(first
                |(refine E_then ?_)
                |(refine E_thenR ?_)
                |(refine E_block ?_)
                |(refine E_blockR ?_)
                |(refine E_calm ?_)
                |(apply E_ret1 rfl;(first|exact Res.tmp rfl|(apply R_cellAll rfl;(focus ((repeat (first|exact mH|refine mT ?_));done));(first|exact T.rw24|exact T.rw45))|(apply R_cell1 rfl;(focus ((repeat (first|exact mH|refine mT ?_));done));(first|exact T.sc3|exact T.sc4|exact T.sc27|exact T.sc43)))))))
          all_goals try (exfalso; obtain ⟨f1, f2⟩ := hlost (by assumption) (by assumption); omega)
          · obtain ⟨f1, f2⟩ := hlost (by assumption) (by assumption)
            exact E_roundS (α := Nat × Int) (j + 1,t + 1) ⟨hjl,by dsimp only;omega,by dsimp only;omega,fun h => absurd h (Nat.succ_ne_zero _)⟩ (by dsimp only;omega) ⟨rfl,rfl,rfl,rfl,rfl,rfl,trivial⟩ entA
          · exact E_roundS (α := Nat × Int) (j + 1,t) ⟨hjl,g2,g3,fun h => absurd h (Nat.succ_ne_zero _)⟩ (by dsimp only;omega) ⟨rfl,rfl,rfl,rfl,rfl,rfl,trivial⟩ entA
          · exact E_roundS (α := Nat × Int) (j + 1,t) ⟨hjl,g2,g3,fun h => absurd h (Nat.succ_ne_zero _)⟩ (by dsimp only;omega) ⟨rfl,rfl,rfl,rfl,rfl,rfl,trivial⟩ entA
        · obtain rfl : j = b.2.2.length := by omega
          repeat' (first
            |(refine gS ?_;(first
                |(refine S_move rfl rfl ?_)
                |(refine S_assign rfl rfl ?_)
                |(apply F_field rfl rfl;(first|exact T.fl24_2|exact T.fl24_4|exact T.fl45_0|exact T.fl45_1|exact T.fl67_0|exact T.fl67_2))
                |(refine gLoad ?_;(first
                    |(apply F_load1 rfl rfl;(focus ((repeat (first|exact mH|refine mT ?_));done));(first|exact T.sc3|exact T.sc4|exact T.sc27|exact T.sc43);rfl;(focus (first|exact free0|exact free1)))
                    |(apply F_loadAll rfl rfl;(focus ((repeat (first|exact mH|refine mT ?_));done));(first|exact T.rw24|exact T.rw45);(focus (first|exact free0|exact free1)))))
                |(refine gStore ?_;(first
                    |(apply F_storeN rfl rfl;(focus (first|rfl|assumption|(simp only [List.append_nil,List.all_cons,List.all_nil,Bool.and_true,Bool.true_and,one_int,one_bool,one_string,one_slice,one_pointer, *];done)));(first|exact T.rw24|exact T.rw45);(focus ((repeat (first|exact Upd.here|apply Upd.there));done));(focus ((repeat (first|exact SetSeg.nil|apply SetSeg.here|apply SetSeg.there));done));(first|exact okst2|exact okst1|exact okst1'))))
                |(refine gCall ?_;(first
                    |(apply F_len rfl rfl rfl;(focus exact ⟨_,_,by (first|exact T.sl22|exact T.sl27|exact T.sl43)⟩);(focus (first|exact len_nil|(apply len_given;assumption)|(apply len_row;(focus ((repeat (first|exact mH|refine mT ?_));done)))|(apply len_isN;assumption))))))
                |(refine gBin ?_;(first
                    |(refine S_lss rfl rfl rfl ?_)
                    |(refine S_gtr rfl rfl rfl ?_)
                    |(refine S_add rfl rfl ?_ rfl ?_;(focus (unfold rng;omega)))))
                |(refine S_done ?_)))
            |((first
                |(refine C_seq ?_)
                |(refine gReg ?_;(first
                    |(refine gReg (i := 27) ?_;refine C_plain [(0,0),(1,0),(2,0),(3,0),(4,0)] (by kernel_rfl) (s := [⟨0,none,_,_,_⟩,⟨0,none,_,_,_⟩,⟨0,none,_,_,_⟩,⟨0,none,_,_,_⟩,⟨0,none,_,_,_⟩]) rfl ?_)
                    |(refine gReg (i := 33) ?_;refine C_plain [(0,0),(1,0)] (by kernel_rfl) (s := [⟨0,none,_,_,_⟩,⟨0,none,_,_,_⟩]) rfl ?_)
                    |(refine gReg (i := 35) ?_;refine C_plain [(0,0),(1,2)] (by kernel_rfl) (s := [⟨0,none,_,_,_⟩,⟨2,none,_,_,_⟩]) rfl ?_)
                    |(refine gReg (i := 7) ?_;refine C_plain [(0,0),(1,0),(2,0)] (by kernel_rfl) (s := [⟨0,none,_,_,_⟩,⟨0,none,_,_,_⟩,⟨0,none,_,_,_⟩]) rfl ?_)))
                |(refine C_split rfl ?_ ?_ <;> (intro hb;(try simp only [decide_eq_true_eq] at hb);(try simp only [decide_eq_false_iff_not] at hb);(try simp only [Bool.not_eq_true'] at hb);(try simp only [Bool.not_eq_false'] at hb);(try (exfalso;first|contradiction|omega));(try (have hx := hxe))))
                |(refine C_skip ?_)
                |(refine C_exit ?_)))
            |(refine gE ?_;(first
                |(refine E_then ?_)
                |(refine E_thenX ?_)
                |(refine E_block ?_)
                |(refine E_blockY ?_))))
          exact E_roundS (α := Nat × MFragBench) (i + 1,y2) ⟨hlt,hg2,by dsimp only;omega,hs2⟩ (by dsimp only;omega) ⟨rfl,rfl,rfl,trivial⟩ entA
      all_goals exact E_join (α := MFragBench × MFragPacket × Nat × Nat) (y3,q3,_,_) ⟨hy3,hq3⟩ ⟨rfl,rfl,rfl,rfl,rfl,rfl,rfl,rfl,rfl,trivial⟩ entA
    all_goals exact E_join (α := MFragBench × MFragPacket × Nat × Nat) (y2,q2,_,_) ⟨hy2,hq2⟩ ⟨rfl,rfl,rfl,rfl,rfl,rfl,trivial⟩ entA
  · skip
    repeat' (first
      |(refine gS ?_;(first
          |(refine S_move rfl rfl ?_)
          |(refine S_assign rfl rfl ?_)
          |(refine gLoad ?_;(first
              |(apply F_loadAll rfl rfl;(focus ((repeat (first|exact mH|refine mT ?_));done));(first|exact T.rw24|exact T.rw45);(focus (first|exact free0|exact free1)))))
          |(refine gCall ?_;(first
              |(show GoS _ _ _ _ _ _ _ (⟨_,_,_,.call ⟨.value (.func 26),_,_⟩,_⟩ :: _);refine S_callN (f := 26) rfl T.pf26 rfl (fun w hst => implOk_t b h4 h2 w (by first|(refine Rds.given hst ?_;assumption)|(apply Rds.many hst;(focus ((repeat (first|exact mH|refine mT ?_));done)))|(apply Rds.row hst;(focus ((repeat (first|exact mH|refine mT ?_));done))))) rfl ?_)
              |(apply F_len rfl rfl rfl;(focus exact ⟨_,_,by (first|exact T.sl22|exact T.sl27|exact T.sl43)⟩);(focus (first|exact len_nil|(apply len_given;assumption)|(apply len_row;(focus ((repeat (first|exact mH|refine mT ?_));done)))|(apply len_isN;assumption))))))
          |(refine gBin ?_;(first
              |(refine S_lss rfl rfl rfl ?_)))
          |(refine S_done ?_)))
      |((first
          |(refine C_seq ?_)
          |(refine gReg ?_;(first
              |(refine gReg (i := 6) ?_;refine C_plain [(0,0),(1,0),(2,0),(3,0)] (by kernel_rfl) (s := [⟨0,none,_,_,_⟩,⟨0,none,_,_,_⟩,⟨0,none,_,_,_⟩,⟨0,none,_,_,_⟩]) rfl ?_)
              |(refine gReg (i := 36) ?_;refine C_plain [(0,0),(1,2),(2,0)] (by kernel_rfl) (s := [⟨0,none,_,_,_⟩,⟨2,none,_,_,_⟩,⟨0,none,_,_,_⟩]) rfl ?_)))
          |(refine C_split rfl ?_ ?_ <;> (intro hb;(try simp only [decide_eq_true_eq] at hb);(try simp only [decide_eq_false_iff_not] at hb);(try simp only [Bool.not_eq_true'] at hb);(try simp only [Bool.not_eq_false'] at hb);(try (exfalso;first|contradiction|omega))))
          |(refine C_exit ?_)
          |(refine C_ret ?_)))
      |(refine gE ?_;(first
          |(refine E_then ?_)
          |(refine E_thenX ?_)
          |(refine E_blockY ?_)
          |(apply E_ret1 rfl;(first|exact Res.tmp rfl|(apply R_cellAll rfl;(focus ((repeat (first|exact mH|refine mT ?_));done));(first|exact T.rw24|exact T.rw45))|(apply R_cell1 rfl;(focus ((repeat (first|exact mH|refine mT ?_));done));(first|exact T.sc3|exact T.sc4|exact T.sc27|exact T.sc43)))))))
    all_goals exact retN rfl
set_option maxRecDepth 100000 in
theorem lifted (os : Os) (started : os.Started) (H : Type) (enc : TypeId × Value → H) :
    ReturnsInHanded {} Try.checked os 10 .any (Rows.fnFragBenchSpec.pre6 enc Try.prog Try.f10 Rows.fnFragBenchRow.domain false) (Rows.fnFragBenchSpec.post enc Try.prog Try.f10 false true false false) := by
  refine returnsInHanded_of_change (C := Try.checked) own started (by kernel_rfl) Try.func10
    (ChangeSpec.witness6 (enc := enc) (C := Try.checked) false ⟨#[], #[.slice none 0 0], []⟩ 8 (by kernel_rfl) (by kernel_rfl) (by kernel_rfl) (by kernel_rfl)) ?_
  intro W base args ds gs before hval0 hW hcnd _
  have hval : ∀ (j : Nat) t v, Try.f10.params[j]? = some t → args[j]? = some v → Value.okWide Try.prog W .any base t v := hval0
  have hW' := hW
  obtain ⟨p, q, hA0, hV, rfl, hfz, hnd⟩ := hW
  have hA : DataW.TrodAll enc Try.prog W 0 (fun _ => true) true Try.f10.params.toList args.toList ds p := hA0
  rw [Try.params10] at hA hval
  obtain ⟨v0, vs0, d0, ds0, p0, q0, hargs, rfl, rfl, h0, r0⟩ := trodAll_cons hA
  obtain ⟨rfl, rfl, rfl⟩ := trodAll_nil r0
  obtain rfl : args = #[v0] := by cases args; simp_all
  obtain ⟨rfl, rfl⟩ := trodVars_none hV
  have k0 := h0
  have lt0 : ∀ x ∈ p0, x.block < W.heap.size := by obtain ⟨m, hm⟩ := k0; exact DataW.trod_lt m _ _ _ hm
  obtain ⟨y0, rfl, w0⟩ := par_Suint8 (hval 0 22 v0 rfl rfl) h0
  clear hA0 hval0
  refine (walk W y0 w0).mono fun e W' ⟨he, bel⟩ => ?_
  subst he
  exact ⟨_, rfl, _, _, _, [], _, [], hW', trodAll_mk1 (shut_bool Try.underlying4 _), (trodAll_cons_mk (Below.trod laidOut (by kernel_rfl) (of_decide_eq_true (by kernel_rfl)) k0 bel lt0) trodAll_mk0), rfl, bel.frame _, fun h => by cases h⟩
theorem over : Rows.fnFragBenchRow.holds Try.pinned (OpenSpec.ofChange Rows.fnFragBenchSpec) :=
  OpenClaim.holds_of_wide 10 Try.f10 rfl rfl rfl rfl rfl rfl rfl ⟨rfl, rfl, rfl, rfl, rfl⟩ rfl rfl rfl rfl rfl (by kernel_rfl) Try.func10 (by kernel_rfl)
    (of_decide_eq_true (by kernel_rfl)) (by unfold Func.isWrapper; rw [if_neg (of_decide_eq_false (by kernel_rfl))]; exact ⟨rfl, rfl⟩)
    (fun os started H enc _ => lifted os started H enc)
theorem proved : Rows.FnFragBenchSaid := over
#print axioms proved
end Go.Proofs.Ytodhjpnfokkfeaa.fnFragBench

/- Benches: their slots looked at. -/
import Derived.Test.YtodhjpnfokkfeaaFragm
import Derived.Test.YtodhjpnfokkfeaaFraga
set_option linter.unusedSimpArgs false
set_option linter.unusedVariables false
namespace Go.Proofs.Ytodhjpnfokkfeaa
open Go Go.RowKit
attribute [local irreducible] Calls GoS GoC GoE GoT Mid IsFl IsSc IsRw IsSl IsEl IsSt IsFs sp Mem Rd LenOf szR joinC alikeC likeC
def SlotGood (now : Int) (s : CFragSlot) : Prop := 0 ≤ s.2.1 ∧ now - 5 ≤ s.2.1 ∧ s.2.1 ≤ now ∧ (joinC s.1).2 = 3 ∧ (s.2.2 = true → s.1.length = 1)
theorem l14SlotOk_c (b : MFragBench) (y : MFragSlot) (hb0 : 0 ≤ b.1) (hb1 : b.1 ≤ 1000000) (hn : y.1.2.length ≤ 1048576) (hl : ∀ p ∈ y.1.2, p.2.2.2.2.2.2.2.2.2.length ≤ 1048576) (w : World) (hx : Rds w (rwFragSlot y)) :
    Calls Try.prog 71 #[.agg (clFragBench b).toArray, .agg (clFragSlot y).toArray] w (RetX (fun r : Bool => r = true ↔ SlotGood b.1 (ctFragSlot y)) (fun r => .bool r) (fun _ => []) w) := by
  obtain ⟨now, v0, sl⟩ := b
  obtain ⟨⟨v, l⟩, since, bad⟩ := y
  have hm := Rds.head hx
  have hj := specFragJoin_c (v, l) hn hl
  dsimp only [ctFragSlot] at *
  refine enter (n := 44) (E := [(0, _), (1, _)]) Try.func71 rfl rfl rfl rfl ?_
  repeat' (first
    |(refine gS ?_;(first
        |(refine gGuard ?_;(first
            |(refine S_on rfl ?_)
            |(refine S_off rfl rfl rfl ?_)
            |(refine S_offU rfl rfl ?_)
            |(refine S_gsplit rfl ?_ ?_ <;> (intro hb;(try simp only [decide_eq_true_eq] at hb);(try simp only [decide_eq_false_iff_not] at hb);(try simp only [Bool.not_eq_true'] at hb);(try simp only [Bool.not_eq_false'] at hb);(try (exfalso;first|contradiction|omega))))))
        |(refine S_move rfl rfl ?_)
        |(refine S_assign rfl rfl ?_)
        |(apply F_field rfl rfl;(first|exact T.fl45_0|exact T.fl67_0|exact T.fl67_1|exact T.fl67_2))
        |(refine gLoad ?_;(first
            |(apply F_load1 rfl rfl;(focus ((repeat (first|exact mH|refine mT ?_));done));(first|exact T.sc3|exact T.sc4|exact T.sc27);rfl;(focus (first|exact free0|exact free1)))))
        |(refine gStore ?_;(first
            |(apply F_storeN rfl rfl;(focus (first|rfl|assumption|(simp only [List.append_nil,List.all_cons,List.all_nil,Bool.and_true,Bool.true_and,one_int,one_bool,one_string,one_slice,one_pointer, *];done)));exact T.rw24;(focus ((repeat (first|exact Upd.here|apply Upd.there));done));(focus ((repeat (first|exact SetSeg.nil|apply SetSeg.here|apply SetSeg.there));done));(first|exact okst2|exact okst1|exact okst1'))))
        |(refine gCall ?_;(first
            |(show GoS _ _ _ _ _ _ _ (⟨_,_,_,.call ⟨.value (.func 17),_,_⟩,_⟩ :: _);refine S_callX (f := 17) rfl T.pf17 rfl (fun w hst => hj w (by first|(refine Rds.given hst ?_;assumption)|(apply Rds.many hst;(focus ((repeat (first|exact mH|refine mT ?_));done)))|(apply Rds.row hst;(focus ((repeat (first|exact mH|refine mT ?_));done))))) rfl (fun zz hzz => ?_);simp only [List.cons_append,List.nil_append];revert hzz;revert zz;intro z hz;refine S_fact (fun w hs => oneFragPacket (Rds.many hs (by (focus ((repeat (first|exact mH|refine mT ?_));done))))) (fun hone => ?_))
            |(apply F_len rfl rfl rfl;(focus exact ⟨_,_,by exact T.sl27⟩);(focus (first|exact len_nil|(apply len_given;assumption)|(apply len_row;(focus ((repeat (first|exact mH|refine mT ?_));done)))|(apply len_isN;assumption))))))
        |(refine gBin ?_;(first
            |(refine S_lss rfl rfl rfl ?_)
            |(refine S_leq rfl rfl rfl ?_)
            |(refine S_gtr rfl rfl rfl ?_)
            |(refine S_eql rfl rfl rfl ?_)
            |(refine S_sub rfl rfl ?_ rfl ?_;(focus (unfold rng;omega)))))
        |(refine gPick ?_;(first
            |(refine S_pickT rfl rfl rfl ?_)
            |(refine S_pickF rfl rfl rfl ?_)))
        |(refine S_box rfl rfl rfl ?_;intro kb)
        |(apply S_alloc rfl (hd := rfl);exact T.zc24;intro kb)
        |(refine S_not rfl rfl ?_)
        |(refine S_extract rfl rfl rfl ?_)
        |(refine S_done ?_)))
    |(refine gC ?_;(first
        |(refine C_seq ?_)
        |(refine gReg ?_;(first
            |(refine gReg (i := 0) ?_;refine C_plain [(0,2),(1,2),(2,0)] (by kernel_rfl) (s := [⟨2,none,_,_,_⟩,⟨2,none,_,_,_⟩,⟨0,none,_,_,_⟩]) rfl ?_)
            |(refine gReg (i := 1) ?_;refine C_plain [(0,0),(1,0),(2,0),(3,0),(4,0),(5,0),(6,0),(7,0),(8,0),(9,0),(10,0),(11,0),(12,0),(13,0),(14,0),(15,0),(16,0),(17,0)] (by kernel_rfl) (s := [⟨0,none,_,_,_⟩,⟨0,none,_,_,_⟩,⟨0,none,_,_,_⟩,⟨0,none,_,_,_⟩,⟨0,none,_,_,_⟩,⟨0,none,_,_,_⟩,⟨0,some (12,false),_,_,_⟩,⟨0,some (12,false),_,_,_⟩,⟨0,some (12,false),_,_,_⟩,⟨0,none,_,_,_⟩,⟨0,none,_,_,_⟩,⟨0,some (17,false),_,_,_⟩,⟨0,some (17,false),_,_,_⟩,⟨0,some (17,false),_,_,_⟩,⟨0,some (17,false),_,_,_⟩,⟨0,some (17,false),_,_,_⟩,⟨0,some (17,false),_,_,_⟩,⟨0,none,_,_,_⟩]) rfl ?_)
            |(refine gReg (i := 2) ?_;refine C_plain [(0,0)] (by kernel_rfl) (s := [⟨0,none,_,_,_⟩]) rfl ?_)
            |(refine gReg (i := 3) ?_;refine C_plain [(0,0),(1,0),(2,2),(3,0),(4,0),(5,0),(6,2),(7,2),(8,0)] (by kernel_rfl) (s := [⟨0,none,_,_,_⟩,⟨0,none,_,_,_⟩,⟨2,none,_,_,_⟩,⟨0,none,_,_,_⟩,⟨0,none,_,_,_⟩,⟨0,none,_,_,_⟩,⟨2,none,_,_,_⟩,⟨2,none,_,_,_⟩,⟨0,none,_,_,_⟩]) rfl ?_)
            |(refine gReg (i := 4) ?_;refine C_plain [(0,0),(1,0),(2,0),(3,0),(4,0),(5,0),(6,0),(7,0),(8,0),(9,0),(10,0),(11,0),(12,0),(13,0)] (by kernel_rfl) (s := [⟨0,none,_,_,_⟩,⟨0,none,_,_,_⟩,⟨0,none,_,_,_⟩,⟨0,some (33,true),_,_,_⟩,⟨0,some (33,true),_,_,_⟩,⟨0,some (33,true),_,_,_⟩,⟨0,some (33,true),_,_,_⟩,⟨0,some (37,false),_,_,_⟩,⟨0,some (37,false),_,_,_⟩,⟨0,some (37,false),_,_,_⟩,⟨0,some (37,false),_,_,_⟩,⟨0,some (33,true),_,_,_⟩,⟨0,none,_,_,_⟩,⟨0,none,_,_,_⟩]) rfl ?_)))
        |(refine C_true rfl ?_)
        |(refine C_split rfl ?_ ?_ <;> (intro hb;(try simp only [decide_eq_true_eq] at hb);(try simp only [decide_eq_false_iff_not] at hb);(try simp only [Bool.not_eq_true'] at hb);(try simp only [Bool.not_eq_false'] at hb);(try (exfalso;first|contradiction|omega))))
        |(refine C_skip ?_)
        |(refine C_ret ?_)))
    |(refine gE ?_;(first
        |(refine E_then ?_)
        |(refine E_thenR ?_)
        |(apply E_ret1 rfl;(first|exact Res.tmp rfl|(apply R_cellAll rfl;(focus ((repeat (first|exact mH|refine mT ?_));done));exact T.rw24)|(apply R_cell1 rfl;(focus ((repeat (first|exact mH|refine mT ?_));done));(first|exact T.sc3|exact T.sc4|exact T.sc27)))))))
  all_goals (refine retX _ ?_ rfl entA;simp only [SlotGood,List.length_map,Bool.and_eq_true,Bool.or_eq_true,decide_eq_true_eq,Bool.not_eq_true',Bool.false_eq_true,false_iff];try omega)
  · have h1 : (joinC (List.map ctFragPacket l)).2 = 3 := by assumption
    have h2 : bad = false := by assumption
    rw [h1, h2]; simp; omega
  · have h1 : (joinC (List.map ctFragPacket l)).2 = 3 := by assumption
    have h2 : bad = true := by assumption
    rw [h1, h2]; simp; omega
/-- pieces and payloads of each slot are short -/
def Short (l : List MFragSlot) : Prop := ∀ y ∈ l, y.1.2.length ≤ 1048576 ∧ ∀ p ∈ y.1.2, p.2.2.2.2.2.2.2.2.2.length ≤ 1048576
def headS (y : MFragSlot) : CFragPacket := headC (y.1.2.map ctFragPacket)
theorem sl_el {w : World} {v : Value} {l : List MFragSlot} (hl : Short l) (hx : Rds w (rwSFragSlot (v, l))) (i : Nat) (h : (i : Int) < (l.length : Int)) : l[i]? = some (ix l i) ∧ Rds w (rwFragSlot (ix l i)) ∧ (ix l i).1.2.length ≤ 1048576 ∧ ∀ p ∈ (ix l i).1.2, p.2.2.2.2.2.2.2.2.2.length ≤ 1048576 := by
  have hr := Rds.flatMap.1 (Rds.tail hx)
  have hx := nthD h
  have hmem := List.mem_of_getElem? hx
  exact ⟨hx, hr _ hmem, hl _ hmem⟩
theorem sl_head {w : World} {y : MFragSlot} (h : Rds w (rwFragSlot y)) (h1 : 1 ≤ y.1.2.length) (hl : ∀ p ∈ y.1.2, p.2.2.2.2.2.2.2.2.2.length ≤ 1048576) : Mem w y.1.1 9 y.1.2.length (y.1.2.flatMap clFragPacket) ∧ y.1.2[(0 : Int).toNat]? = some (ix y.1.2 0) ∧ Rds w (rwFragPacket (ix y.1.2 0)) ∧ (ix y.1.2 0).2.2.2.2.2.2.2.2.2.length ≤ 1048576 ∧ headS y = ctFragPacket (ix y.1.2 0) ∧ 0 < y.1.2.length := by
  have h2 := pk_el (v := y.1.1) (l := y.1.2) hl h 0 (by omega)
  exact ⟨Rds.head h, h2.1, h2.2.1, h2.2.2, pk_head h1, h1⟩
theorem l14Slot_c (x : MSFragSlot) (p : MFragPacket) (hn : x.2.length ≤ 1048576) (hl : Short x.2) (he : ∀ y ∈ x.2, 1 ≤ y.1.2.length) (hp : p.2.2.2.2.2.2.2.2.2.length ≤ 1048576) (w : World) (hx : Rds w (rwSFragSlot x)) (hr : Rds w (rwFragPacket p)) :
    Calls Try.prog 72 #[x.1, .agg (clFragPacket p).toArray] w (RetX (fun k : Int => 0 ≤ k ↔ ∃ y ∈ x.2, alikeC (headS y) (ctFragPacket p) = true) (fun k => .int .i64 k) (fun _ => []) w) := by
  obtain ⟨v, l⟩ := x
  have hm := Rds.head hx
  have hel := sl_el hl hx
  dsimp only at *
  refine enter (n := 22) (E := [(0, _), (1, _)]) Try.func72 rfl rfl rfl rfl ?_
  repeat' (first
    |(refine gS ?_;(first
        |(refine S_assign rfl rfl ?_)
        |(refine S_box rfl rfl rfl ?_;intro kb)
        |(refine S_done ?_)))
    |(refine gC ?_;(first
        |(refine C_seq ?_)
        |(refine gReg ?_;(first
            |(refine gReg (i := 0) ?_;refine C_plain [(0,2),(1,0)] (by kernel_rfl) (s := [⟨2,none,_,_,_⟩,⟨0,none,_,_,_⟩]) rfl ?_)
            |(refine gReg (i := 1) ?_;refine C_plain [(0,0)] (by kernel_rfl) (s := [⟨0,none,_,_,_⟩]) rfl ?_)))
        |(refine C_block ?_)))
    |(refine gE ?_;(first
        |(refine E_then ?_))))
  revert kb; intro kr
  refine C_loop (α := Nat) (fun i => [(5, .int .i64 (i : Int)), (4, .int .i64 0), (3, .pointer (some ⟨kr, 0, none⟩)), (0, v)]) (fun _ => [.blk kr 24 (clFragPacket p)]) (fun i => i ≤ l.length ∧ ∀ j, j < i → alikeC (headS (ix l j)) (ctFragPacket p) = false) (fun i => l.length - i) 0 ⟨Nat.zero_le _, fun j h => by omega⟩ ⟨rfl, rfl, rfl, rfl, trivial⟩ (List.Sublist.refl _) ?_
  rintro i ⟨hi, hal⟩
  repeat' (first
    |(refine gS ?_;(first
        |(refine S_move rfl rfl ?_)
        |(refine S_assign rfl rfl ?_)
        |(apply F_fieldS rfl rfl;exact T.fl67_0;(focus (first|exact len_nil|(apply len_given;assumption)|(apply len_row;(focus ((repeat (first|exact mH|refine mT ?_));done)))|(apply len_isN;assumption)));(focus omega))
        |(apply F_idx rfl rfl rfl;(first|exact T.sl27|exact T.sl43);(focus rfl);(focus (first|exact len_nil|(apply len_given;assumption)|(apply len_row;(focus ((repeat (first|exact mH|refine mT ?_));done)))|(apply len_isN;assumption)));(focus omega))
        |(refine gLoad ?_;(first
            |(apply F_loadAll rfl rfl;(focus ((repeat (first|exact mH|refine mT ?_));done));exact T.rw24;(focus (first|exact free0|exact free1)))
            |(apply F_loadS1 rfl rfl;exact T.sc27;(focus (first|exact rd_nil|(apply rd_given;(focus assumption);(focus (first|exact freeG0|exact freeG1)))|(apply rd_row;(focus ((repeat (first|exact mH|refine mT ?_));done));(focus (first|exact freeR0|exact freeR1)))));(focus (first|(apply at_cell;(focus (apply at_flat;(focus (intro _;rfl));(focus assumption)));rfl)|(apply at_cell0;(focus (apply at_flat;(focus (intro _;rfl));(focus assumption)));rfl)|(apply at_cell;(focus (apply at_mid0;(focus assumption)));rfl)|(apply at_cell0;(focus (apply at_mid0;(focus assumption)));rfl)|rfl)))
            |(apply F_loadSN rfl rfl;exact T.rw24;(focus (first|exact rd_nil|(apply rd_given;(focus assumption);(focus (first|exact freeG0|exact freeG1)))|(apply rd_row;(focus ((repeat (first|exact mH|refine mT ?_));done));(focus (first|exact freeR0|exact freeR1)))));(focus (first|(focus (apply at_flat;(focus (intro _;rfl));(focus assumption)))|exact at_self));rfl;rfl)))
        |(refine gCall ?_;(first
            |(show GoS _ _ _ _ _ _ _ (⟨_,_,_,.call ⟨.value (.func 45),_,_⟩,_⟩ :: _);refine S_callN (f := 45) rfl T.pf45 rfl (fun w hst => specFragAlike_c _ _ (by assumption) hp w (by first|(refine Rds.given hst ?_;assumption)|(apply Rds.many hst;(focus ((repeat (first|exact mH|refine mT ?_));done)))|(apply Rds.row hst;(focus ((repeat (first|exact mH|refine mT ?_));done)))) (Rds.given hst hr)) rfl ?_)
            |(apply F_len rfl rfl rfl;(focus exact ⟨_,_,by (first|exact T.sl27|exact T.sl43)⟩);(focus (first|exact len_nil|(apply len_given;assumption)|(apply len_row;(focus ((repeat (first|exact mH|refine mT ?_));done)))|(apply len_isN;assumption))))))
        |(refine gBin ?_;(first
            |(refine S_lss rfl rfl rfl ?_)
            |(refine S_add rfl rfl ?_ rfl ?_;(focus (unfold rng;omega)))))
        |(refine S_done ?_)))
    |(refine gC ?_;(first
        |(refine C_seq ?_)
        |(refine gReg ?_;(first
            |(refine gReg (i := 2) ?_;refine C_plain [(0,0),(1,0),(2,0),(3,0)] (by kernel_rfl) (s := [⟨0,none,_,_,_⟩,⟨0,none,_,_,_⟩,⟨0,none,_,_,_⟩,⟨0,none,_,_,_⟩]) rfl ?_)
            |(refine gReg (i := 4) ?_;refine C_drawn [(0,0),(1,0),(2,0),(3,0),(4,0),(5,0),(6,0),(7,0),(8,1)] [] T.mixed (by kernel_rfl) (s := [⟨0,none,_,_,_⟩,⟨0,none,_,_,_⟩,⟨0,none,_,_,_⟩,⟨0,none,_,_,_⟩,⟨0,none,_,_,_⟩,⟨0,none,_,_,_⟩,⟨0,none,_,_,_⟩,⟨0,none,_,_,_⟩,⟨1,none,_,_,_⟩]) rfl ?_)
            |(refine gReg (i := 5) ?_;refine C_plain [(0,0),(1,0)] (by kernel_rfl) (s := [⟨0,none,_,_,_⟩,⟨0,none,_,_,_⟩]) rfl ?_)
            |(refine gReg (i := 3) ?_;refine C_plain [(0,0),(1,0),(2,0)] (by kernel_rfl) (s := [⟨0,none,_,_,_⟩,⟨0,none,_,_,_⟩,⟨0,none,_,_,_⟩]) rfl ?_)
            |(refine gReg (i := 6) ?_;refine C_plain [(0,0)] (by kernel_rfl) (s := [⟨0,none,_,_,_⟩]) rfl ?_)))
        |(refine C_split rfl ?_ ?_ <;> (intro hb;(try simp only [decide_eq_true_eq] at hb);(try simp only [decide_eq_false_iff_not] at hb);(try simp only [Bool.not_eq_true'] at hb);(try simp only [Bool.not_eq_false'] at hb);(try (exfalso;first|contradiction|omega));(try (have hq := hel i hb));(try (have hq1 := hq.1));(try (have hg := sl_head hq.2.1 (he _ (List.mem_of_getElem? hq.1)) hq.2.2.2));(try (have hg1 := hg.1));(try (have hg2 := hg.2.1));(try (have hg3 := hg.2.2.1));(try (have hg4 := hg.2.2.2.1));(try (have hg5 := hg.2.2.2.2.1));(try (have hg6 := hg.2.2.2.2.2));(try (have hg7 := oneFragPacket hg3))))
        |(refine C_skip ?_)
        |(refine C_exit ?_)
        |(refine C_ret ?_)
        |(refine C_block ?_)))
    |(refine gE ?_;(first
        |(refine E_then ?_)
        |(refine E_thenX ?_)
        |(refine E_thenR ?_)
        |(refine E_block ?_)
        |(refine E_blockY ?_)
        |(refine E_blockR ?_)
        |(refine E_calm ?_)
        |(apply E_ret1 rfl;(first|exact Res.tmp rfl|(apply R_cellAll rfl;(focus ((repeat (first|exact mH|refine mT ?_));done));exact T.rw24)|(apply R_cell1 rfl;(focus ((repeat (first|exact mH|refine mT ?_));done));exact T.sc27))))))
  · refine retX _ ?_ rfl entA
    exact ⟨fun _ => ⟨_, List.mem_of_getElem? hq1, by rw [hg5]; assumption⟩, fun _ => by omega⟩
  · refine E_round (α := Nat) (i + 1) ⟨by omega, fun j hj => ?_⟩ (by omega) ⟨rfl, rfl, rfl, rfl, trivial⟩ (List.Sublist.refl _)
    rcases Nat.lt_or_ge j i with h | h
    · exact hal j h
    · have : j = i := by omega
      subst this
      rw [hg5]; assumption
  · refine retX _ ?_ rfl entA
    refine ⟨fun h => by omega, fun h => ?_⟩
    obtain ⟨y, hy, h⟩ := h
    obtain ⟨j, hj⟩ := List.getElem?_of_mem hy
    have hlt : j < l.length := (List.getElem?_eq_some_iff.1 hj).1
    have e : y = ix l j := Option.some.inj (hj.symm.trans (hel j (by omega)).1)
    have h2 := hal j (by omega)
    rw [e, h2] at h; cases h
/-- slot i is good and later than, and unlike, those before it -/
def SlotAt (now : Int) (l : List CFragSlot) (i : Nat) : Prop := ∀ s, l[i]? = some s → SlotGood now s ∧ ∀ j r, j < i → l[j]? = some r → (j + 1 = i → r.2.1 ≤ s.2.1) ∧ likeC (headC r.1) (headC s.1) = false
def BenchGood (b : CFragBench) : Prop := 0 ≤ b.1 ∧ b.1 ≤ 1000000 ∧ b.2.length ≤ 4 ∧ ∀ i, i < b.2.length → SlotAt b.1 b.2 i
theorem sl_map {l : List MFragSlot} (i : Nat) (h : i < l.length) : (l.map ctFragSlot)[i]? = some (ctFragSlot (ix l i)) := by rw [List.getElem?_map, nthD (by omega)]; rfl
theorem slotAt_iff {now : Int} {l : List MFragSlot} {i : Nat} (h : i < l.length) : SlotAt now (l.map ctFragSlot) i ↔ SlotGood now (ctFragSlot (ix l i)) ∧ ∀ j, j < i → (j + 1 = i → (ix l j).2.1 ≤ (ix l i).2.1) ∧ likeC (headS (ix l j)) (headS (ix l i)) = false := by
  constructor
  · intro g
    have g1 := g _ (sl_map i h)
    exact ⟨g1.1, fun j hj => g1.2 j _ hj (sl_map j (by omega))⟩
  · intro g s hs
    rw [sl_map i h] at hs
    obtain rfl := Option.some.inj hs
    refine ⟨g.1, fun j r hj hr => ?_⟩
    rw [sl_map j (by omega)] at hr
    obtain rfl := Option.some.inj hr
    exact g.2 j hj
theorem good_ok {now : Int} {y : MFragSlot} (h : SlotGood now (ctFragSlot y)) : 1 ≤ y.1.2.length ∧ fragOk (headS y) = true := by
  have h1 : (joinC (y.1.2.map ctFragPacket)).2 = 3 := h.2.2.2.1
  have h2 : okJ (y.1.2.map ctFragPacket) = true := by
    cases h3 : okJ (y.1.2.map ctFragPacket)
    · rw [joinC, h3] at h1; simp at h1
    · rfl
  have h3 := okJ_iff.1 h2
  rw [List.length_map] at h3
  refine ⟨h3.1, ?_⟩
  have h4 : headS y = ctFragPacket (ix y.1.2 0) := pk_head h3.1
  have h5 := h3.2.2 _ (List.mem_of_getElem? (pk_map (l := y.1.2) 0 (by omega)))
  simp only [alikeC, Bool.and_eq_true] at h5
  rw [h4]; exact h5.1.1
theorem sub_mem {l : List MFragSlot} {i : Nat} (hi : i ≤ l.length) (y : MFragSlot) : y ∈ (l.drop 0).take ((i : Int).toNat - 0) ↔ ∃ j, j < i ∧ y = ix l j := by
  rw [List.drop_zero, show (i : Int).toNat - 0 = i by omega]
  constructor
  · intro h
    obtain ⟨j, hj⟩ := List.getElem?_of_mem h
    have hlt : j < i := by
      have := (List.getElem?_eq_some_iff.1 hj).1
      rw [List.length_take] at this; omega
    rw [List.getElem?_take_of_lt hlt, nthD (show (j : Int) < (l.length : Int) by omega)] at hj
    exact ⟨j, hlt, (Option.some.inj hj).symm⟩
  · rintro ⟨j, hj, rfl⟩
    have : (l.take i)[j]? = some (ix l j) := by rw [List.getElem?_take_of_lt hj, nthD (show (j : Int) < (l.length : Int) by omega)]
    exact List.mem_of_getElem? this
theorem sub_rds {w : World} {v : Value} {l : List MFragSlot} (hx : Rds w (rwSFragSlot (v, l))) {i : Nat} (hi : i ≤ l.length) : Rds w (rwSFragSlot (subV v 3 0 (i : Int).toNat, (l.drop 0).take ((i : Int).toNat - 0))) := by
  have hm : Mem w v 3 l.length (l.flatMap clFragSlot) := Rds.head hx
  exact Rds.cons (hm.sub (fun _ => rfl) (by omega) (by omega)) (Rds.flatMap.2 fun y hy => Rds.flatMap.1 (Rds.tail hx) y (List.mem_of_mem_drop (List.mem_of_mem_take hy)))
theorem specFragBenchOk_c (b : MFragBench) (hn : b.2.2.length ≤ 1048576) (hl : Short b.2.2) (w : World) (hx : Rds w (rwFragBench b)) : Calls Try.prog 24 #[.agg (clFragBench b).toArray] w (RetX (fun r : Bool => r = true ↔ BenchGood (ctFragBench b)) (fun r => .bool r) (fun _ => []) w) := by
  obtain ⟨now, v, l⟩ := b
  have hm := Rds.head hx
  have hel := sl_el hl hx
  dsimp only at *
  refine enter (n := 63) (E := [(0, _)]) Try.func24 rfl rfl rfl rfl ?_
  repeat' (first
    |(refine gS ?_;(first
        |(refine gGuard ?_;(first
            |(refine S_on rfl ?_)
            |(refine S_off rfl rfl rfl ?_)
            |(refine S_gsplit rfl ?_ ?_ <;> (intro hb;(try simp only [decide_eq_true_eq] at hb);(try simp only [decide_eq_false_iff_not] at hb);(try simp only [Bool.not_eq_true'] at hb);(try simp only [Bool.not_eq_false'] at hb);(try (exfalso;first|contradiction|omega));(try (have hin := inB_t hb))))))
        |(refine S_move rfl rfl ?_)
        |(refine S_assign rfl rfl ?_)
        |(apply F_field rfl rfl;(first|exact T.fl45_0|exact T.fl45_1|exact T.fl67_0|exact T.fl67_1))
        |(refine gLoad ?_;(first
            |(apply F_load1 rfl rfl;(focus ((repeat (first|exact mH|refine mT ?_));done));(first|exact T.sc3|exact T.sc27|exact T.sc43);rfl;(focus (first|exact free0|exact free1)))))
        |(refine gCall ?_;(first
            |(show GoS _ _ _ _ _ _ _ (⟨_,_,_,.call ⟨.value (.func 69),_,_⟩,_⟩ :: _);refine S_callN (f := 69) rfl T.pf69 rfl (fun w hst => l1In_c _ _ _ w) rfl ?_)
            |(apply F_len rfl rfl rfl;(focus exact ⟨_,_,by (first|exact T.sl27|exact T.sl43)⟩);(focus (first|(focus (first|exact len_nil|(apply len_given;assumption)|(apply len_row;(focus ((repeat (first|exact mH|refine mT ?_));done)))|(apply len_isN;assumption)))|(apply len_sub;(focus (first|exact len_nil|(apply len_given;assumption)|(apply len_row;(focus ((repeat (first|exact mH|refine mT ?_));done)))|(apply len_isN;assumption)));(focus omega);(focus omega)))))))
        |(refine gBin ?_;(first
            |(refine S_gtr rfl rfl rfl ?_)))
        |(refine gPick ?_;(first
            |(refine S_pickT rfl rfl rfl ?_)
            |(refine S_pickF rfl rfl rfl ?_)))
        |(refine S_box rfl rfl rfl ?_;intro kb)
        |(refine S_not rfl rfl ?_)
        |(refine S_done ?_)))
    |(refine gC ?_;(first
        |(refine C_seq ?_)
        |(refine gReg ?_;(first
            |(refine gReg (i := 0) ?_;refine C_plain [(0,2),(1,0)] (by kernel_rfl) (s := [⟨2,none,_,_,_⟩,⟨0,none,_,_,_⟩]) rfl ?_)
            |(refine gReg (i := 1) ?_;refine C_plain [(0,0),(1,0),(2,2),(3,0),(4,0),(5,0),(6,0),(7,0),(8,0),(9,0)] (by kernel_rfl) (s := [⟨0,none,_,_,_⟩,⟨0,none,_,_,_⟩,⟨2,none,_,_,_⟩,⟨0,none,_,_,_⟩,⟨0,none,_,_,_⟩,⟨0,some (8,false),_,_,_⟩,⟨0,some (8,false),_,_,_⟩,⟨0,some (8,false),_,_,_⟩,⟨0,some (8,false),_,_,_⟩,⟨0,none,_,_,_⟩]) rfl ?_)
            |(refine gReg (i := 2) ?_;refine C_plain [(0,0)] (by kernel_rfl) (s := [⟨0,none,_,_,_⟩]) rfl ?_)
            |(refine gReg (i := 3) ?_;refine C_plain [(0,0)] (by kernel_rfl) (s := [⟨0,none,_,_,_⟩]) rfl ?_)))
        |(refine C_true rfl ?_)
        |(refine C_split rfl ?_ ?_ <;> (intro hb;(try simp only [decide_eq_true_eq] at hb);(try simp only [decide_eq_false_iff_not] at hb);(try simp only [Bool.not_eq_true'] at hb);(try simp only [Bool.not_eq_false'] at hb);(try (exfalso;first|contradiction|omega));(try (have hin := inB_t hb))))
        |(refine C_skip ?_)
        |(refine C_ret ?_)
        |(refine C_block ?_)))
    |(refine gE ?_;(first
        |(refine E_then ?_)
        |(refine E_thenR ?_)
        |(apply E_ret1 rfl;(first|exact Res.tmp rfl|(apply R_cellAll rfl;(focus ((repeat (first|exact mH|refine mT ?_));done));(first|exact T.rw24|exact T.rw45|exact T.rw67))|(apply R_cell1 rfl;(focus ((repeat (first|exact mH|refine mT ?_));done));(first|exact T.sc3|exact T.sc27|exact T.sc43)))))))
  · refine retX false ?_ rfl entA
    refine ⟨fun h => (by cases h), fun h => ?_⟩
    have h1 : 0 ≤ now := h.1
    have h2 : now ≤ 1000000 := h.2.1
    have h3 : inB now 0 1000000 = false := by assumption
    simp [inB] at h3
    omega
  · refine retX false ?_ rfl entA
    refine ⟨fun h => (by cases h), fun h => ?_⟩
    have h1 : (l.map ctFragSlot).length ≤ 4 := h.2.2.1
    rw [List.length_map] at h1
    omega
  revert kb; intro kr
  refine C_loop (α := Nat) (fun i => [(3, .int .i64 (i : Int)), (2, .bool false), (1, .pointer (some ⟨kr, 0, none⟩))]) (fun _ => [.blk kr 45 (clFragBench (now, v, l))]) (fun i => i ≤ l.length ∧ ∀ j, j < i → SlotAt now (l.map ctFragSlot) j) (fun i => l.length - i) 0 ⟨Nat.zero_le _, fun j h => by omega⟩ ⟨rfl, rfl, rfl, trivial⟩ (List.Sublist.refl _) ?_
  rintro i ⟨hi, hal⟩
  have hok : ∀ j, j < i → 1 ≤ (ix l j).1.2.length ∧ fragOk (headS (ix l j)) = true := fun j hj => good_ok ((slotAt_iff (by omega)).1 (hal j hj)).1
  have hsub := sub_rds hx hi
  have hsm := sub_mem hi
  have hsn : ((l.drop 0).take ((i : Int).toNat - 0)).length ≤ 1048576 := by rw [List.length_take]; omega
  have hsh : Short ((l.drop 0).take ((i : Int).toNat - 0)) := fun y hy => hl y (List.mem_of_mem_drop (List.mem_of_mem_take hy))
  have hse : ∀ y ∈ (l.drop 0).take ((i : Int).toNat - 0), 1 ≤ y.1.2.length := fun y hy => by
    obtain ⟨j, hj, rfl⟩ := (hsm y).1 hy
    exact (hok j hj).1
  have hbg : BenchGood (ctFragBench (now, v, l)) → (i : Int) < (l.length : Int) → SlotGood now (ctFragSlot (ix l i)) ∧ ∀ j, j < i → (j + 1 = i → (ix l j).2.1 ≤ (ix l i).2.1) ∧ likeC (headS (ix l j)) (headS (ix l i)) = false := fun h hlt => (slotAt_iff (by omega)).1 (h.2.2.2 i (by show i < (l.map ctFragSlot).length; rw [List.length_map]; omega))
  generalize hsl : (l.drop 0).take ((i : Int).toNat - 0) = sl at hsub hsm hsn hsh hse
  repeat' (first
    |(refine gS ?_;(first
        |(refine gGuard ?_;(first
            |(refine S_on rfl ?_)
            |(refine S_off rfl rfl rfl ?_)
            |(refine S_offU rfl rfl ?_)
            |(refine S_gsplit rfl ?_ ?_ <;> (intro hb;(try simp only [decide_eq_true_eq] at hb);(try simp only [decide_eq_false_iff_not] at hb);(try simp only [Bool.not_eq_true'] at hb);(try simp only [Bool.not_eq_false'] at hb);(try (exfalso;first|contradiction|omega));(try (have hq := hel i hb));(try (have hq1 := hq.1));(try (have hqo := oneFragSlot hq.2.1));(try (have hpz : l[((i : Int) - 1).toNat]? = some (ix l (i - 1)) := (by rw [show ((i : Int) - 1).toNat = i - 1 by omega];exact (hel (i - 1) (by omega)).1)));(try (have hgd := good_ok (hrr.1 hb)));(try (have hg := sl_head hq.2.1 hgd.1 hq.2.2.2));(try (have hg1 := hg.1));(try (have hg2 := hg.2.1));(try (have hg3 := hg.2.2.1));(try (have hg4 := hg.2.2.2.1));(try (have hg5 := hg.2.2.2.2.1));(try (have hg6 := hg.2.2.2.2.2));(try (have hg7 := oneFragPacket hg3))))))
        |(refine S_move rfl rfl ?_)
        |(refine S_assign rfl rfl ?_)
        |(apply F_field rfl rfl;(first|exact T.fl45_0|exact T.fl45_1|exact T.fl67_0|exact T.fl67_1))
        |(apply F_fieldS rfl rfl;(first|exact T.fl45_0|exact T.fl45_1|exact T.fl67_0|exact T.fl67_1);(focus (first|(focus (first|exact len_nil|(apply len_given;assumption)|(apply len_row;(focus ((repeat (first|exact mH|refine mT ?_));done)))|(apply len_isN;assumption)))|(apply len_sub;(focus (first|exact len_nil|(apply len_given;assumption)|(apply len_row;(focus ((repeat (first|exact mH|refine mT ?_));done)))|(apply len_isN;assumption)));(focus omega);(focus omega))));(focus omega))
        |(apply F_idx rfl rfl rfl;(first|exact T.sl27|exact T.sl43);(focus rfl);(focus (first|(focus (first|exact len_nil|(apply len_given;assumption)|(apply len_row;(focus ((repeat (first|exact mH|refine mT ?_));done)))|(apply len_isN;assumption)))|(apply len_sub;(focus (first|exact len_nil|(apply len_given;assumption)|(apply len_row;(focus ((repeat (first|exact mH|refine mT ?_));done)))|(apply len_isN;assumption)));(focus omega);(focus omega))));(focus omega))
        |(apply F_idxZ rfl rfl rfl;(first|exact T.sl27|exact T.sl43);(focus omega);(focus (first|(focus (first|exact len_nil|(apply len_given;assumption)|(apply len_row;(focus ((repeat (first|exact mH|refine mT ?_));done)))|(apply len_isN;assumption)))|(apply len_sub;(focus (first|exact len_nil|(apply len_given;assumption)|(apply len_row;(focus ((repeat (first|exact mH|refine mT ?_));done)))|(apply len_isN;assumption)));(focus omega);(focus omega))));(focus omega))
        |(apply F_slice rfl rfl;(first|exact T.sl27|exact T.sl43);(focus (first|(focus (first|exact len_nil|(apply len_given;assumption)|(apply len_row;(focus ((repeat (first|exact mH|refine mT ?_));done)))|(apply len_isN;assumption)))|(apply len_sub;(focus (first|exact len_nil|(apply len_given;assumption)|(apply len_row;(focus ((repeat (first|exact mH|refine mT ?_));done)))|(apply len_isN;assumption)));(focus omega);(focus omega))));(focus exact rfl);(focus exact ⟨_,_,rfl,by omega,rfl⟩);(focus omega);(focus omega))
        |(refine gLoad ?_;(first
            |(apply F_load1 rfl rfl;(focus ((repeat (first|exact mH|refine mT ?_));done));(first|exact T.sc3|exact T.sc27|exact T.sc43);rfl;(focus (first|exact free0|exact free1)))
            |(apply F_loadAll rfl rfl;(focus ((repeat (first|exact mH|refine mT ?_));done));(first|exact T.rw24|exact T.rw45|exact T.rw67);(focus (first|exact free0|exact free1)))
            |(apply F_loadS1 rfl rfl;(first|exact T.sc3|exact T.sc27|exact T.sc43);(focus (first|exact rd_nil|(apply rd_given;(focus assumption);(focus (first|exact freeG0|exact freeG1)))|(apply rd_row;(focus ((repeat (first|exact mH|refine mT ?_));done));(focus (first|exact freeR0|exact freeR1)))|(apply rd_sub;(focus (apply rd_given;(focus assumption);(focus (first|exact freeG0|exact freeG1))));(focus (intro _;rfl));(focus omega);(focus omega))|(apply rd_sub;(focus (apply rd_row;(focus ((repeat (first|exact mH|refine mT ?_));done));(focus (first|exact freeR0|exact freeR1))));(focus (intro _;rfl));(focus omega);(focus omega))));(focus (first|(apply at_cell;(focus (apply at_flat;(focus (intro _;rfl));(focus assumption)));rfl)|(apply at_cell0;(focus (apply at_flat;(focus (intro _;rfl));(focus assumption)));rfl)|(apply at_cell;(focus (apply at_mid0;(focus assumption)));rfl)|(apply at_cell0;(focus (apply at_mid0;(focus assumption)));rfl)|rfl)))
            |(apply F_loadSN rfl rfl;(first|exact T.rw24|exact T.rw45|exact T.rw67);(focus (first|exact rd_nil|(apply rd_given;(focus assumption);(focus (first|exact freeG0|exact freeG1)))|(apply rd_row;(focus ((repeat (first|exact mH|refine mT ?_));done));(focus (first|exact freeR0|exact freeR1)))|(apply rd_sub;(focus (apply rd_given;(focus assumption);(focus (first|exact freeG0|exact freeG1))));(focus (intro _;rfl));(focus omega);(focus omega))|(apply rd_sub;(focus (apply rd_row;(focus ((repeat (first|exact mH|refine mT ?_));done));(focus (first|exact freeR0|exact freeR1))));(focus (intro _;rfl));(focus omega);(focus omega))));(focus (first|(focus (apply at_flat;(focus (intro _;rfl));(focus assumption)))|exact at_self));rfl;rfl)))
        |(refine gCall ?_;(first
            |(show GoS _ _ _ _ _ _ _ (⟨_,_,_,.call ⟨.value (.func 71),_,_⟩,_⟩ :: _);refine S_callX (f := 71) rfl T.pf71 rfl (fun w hst => l14SlotOk_c (now,v,l) _ hin.1 hin.2 hq.2.2.1 hq.2.2.2 w (Rds.given hst hq.2.1)) rfl (fun zz hzz => ?_);simp only [List.cons_append,List.nil_append];revert hzz;revert zz;intro rr hrr)
            |(show GoS _ _ _ _ _ _ _ (⟨_,_,_,.call ⟨.value (.func 72),_,_⟩,_⟩ :: _);refine S_callX (f := 72) rfl T.pf72 rfl (fun w hst => l14Slot_c (subV v 3 0 (i : Int).toNat,sl) _ hsn hsh hse hg4 w (Rds.given hst hsub) (Rds.given hst hg3)) rfl (fun zz hzz => ?_);simp only [List.cons_append,List.nil_append];revert hzz;revert zz;intro kk hkk)
            |(apply F_len rfl rfl rfl;(focus exact ⟨_,_,by (first|exact T.sl27|exact T.sl43)⟩);(focus (first|(focus (first|exact len_nil|(apply len_given;assumption)|(apply len_row;(focus ((repeat (first|exact mH|refine mT ?_));done)))|(apply len_isN;assumption)))|(apply len_sub;(focus (first|exact len_nil|(apply len_given;assumption)|(apply len_row;(focus ((repeat (first|exact mH|refine mT ?_));done)))|(apply len_isN;assumption)));(focus omega);(focus omega)))))))
        |(refine gBin ?_;(first
            |(refine S_lss rfl rfl rfl ?_)
            |(refine S_gtr rfl rfl rfl ?_)
            |(refine S_geq rfl rfl rfl ?_)
            |(refine S_add rfl rfl ?_ rfl ?_;(focus (unfold rng;omega)))
            |(refine S_sub rfl rfl ?_ rfl ?_;(focus (unfold rng;omega)))))
        |(refine gPick ?_;(first
            |(refine S_pickT rfl rfl rfl ?_)
            |(refine S_pickF rfl rfl rfl ?_)))
        |(refine S_not rfl rfl ?_)
        |(refine S_done ?_)))
    |(refine gC ?_;(first
        |(refine C_seq ?_)
        |(refine gReg ?_;(first
            |(refine gReg (i := 4) ?_;refine C_plain [(0,0),(1,0),(2,0),(3,0),(4,0)] (by kernel_rfl) (s := [⟨0,none,_,_,_⟩,⟨0,none,_,_,_⟩,⟨0,none,_,_,_⟩,⟨0,none,_,_,_⟩,⟨0,none,_,_,_⟩]) rfl ?_)
            |(refine gReg (i := 6) ?_;refine C_drawn [(0,0),(1,0),(2,0),(3,0),(4,0),(5,0),(6,1),(7,0),(8,0),(9,0),(10,0),(11,0),(12,0),(13,0),(14,0),(15,0),(16,0),(17,0),(18,0),(19,0),(20,0),(21,0),(22,0),(23,0),(24,0),(25,0),(26,0),(27,0)] [] T.mixed (by kernel_rfl) (s := [⟨0,none,_,_,_⟩,⟨0,none,_,_,_⟩,⟨0,none,_,_,_⟩,⟨0,none,_,_,_⟩,⟨0,none,_,_,_⟩,⟨0,none,_,_,_⟩,⟨1,none,_,_,_⟩,⟨0,none,_,_,_⟩,⟨0,none,_,_,_⟩,⟨0,some (29,false),_,_,_⟩,⟨0,some (29,false),_,_,_⟩,⟨0,some (29,false),_,_,_⟩,⟨0,some (32,true),_,_,_⟩,⟨0,some (32,true),_,_,_⟩,⟨0,some (32,true),_,_,_⟩,⟨0,some (32,true),_,_,_⟩,⟨0,some (32,true),_,_,_⟩,⟨0,some (32,true),_,_,_⟩,⟨0,some (32,true),_,_,_⟩,⟨0,some (32,true),_,_,_⟩,⟨0,some (32,true),_,_,_⟩,⟨0,some (32,true),_,_,_⟩,⟨0,some (32,true),_,_,_⟩,⟨0,some (32,true),_,_,_⟩,⟨0,some (32,true),_,_,_⟩,⟨0,some (32,true),_,_,_⟩,⟨0,some (29,false),_,_,_⟩,⟨0,none,_,_,_⟩]) rfl ?_)
            |(refine gReg (i := 7) ?_;refine C_plain [(0,0)] (by kernel_rfl) (s := [⟨0,none,_,_,_⟩]) rfl ?_)
            |(refine gReg (i := 8) ?_;refine C_drawn [(0,0),(1,0),(2,0),(3,0),(4,0),(5,0),(6,0),(7,0),(8,0),(9,0),(10,0),(11,0),(12,1),(13,0)] [] T.mixed (by kernel_rfl) (s := [⟨0,none,_,_,_⟩,⟨0,none,_,_,_⟩,⟨0,none,_,_,_⟩,⟨0,none,_,_,_⟩,⟨0,none,_,_,_⟩,⟨0,none,_,_,_⟩,⟨0,none,_,_,_⟩,⟨0,none,_,_,_⟩,⟨0,none,_,_,_⟩,⟨0,none,_,_,_⟩,⟨0,none,_,_,_⟩,⟨0,none,_,_,_⟩,⟨1,none,_,_,_⟩,⟨0,none,_,_,_⟩]) rfl ?_)
            |(refine gReg (i := 9) ?_;refine C_plain [(0,0)] (by kernel_rfl) (s := [⟨0,none,_,_,_⟩]) rfl ?_)
            |(refine gReg (i := 5) ?_;refine C_plain [(0,0),(1,0),(2,0)] (by kernel_rfl) (s := [⟨0,none,_,_,_⟩,⟨0,none,_,_,_⟩,⟨0,none,_,_,_⟩]) rfl ?_)
            |(refine gReg (i := 10) ?_;refine C_plain [(0,0)] (by kernel_rfl) (s := [⟨0,none,_,_,_⟩]) rfl ?_)))
        |(refine C_true rfl ?_)
        |(refine C_false rfl ?_)
        |(refine C_split rfl ?_ ?_ <;> (intro hb;(try simp only [decide_eq_true_eq] at hb);(try simp only [decide_eq_false_iff_not] at hb);(try simp only [Bool.not_eq_true'] at hb);(try simp only [Bool.not_eq_false'] at hb);(try (exfalso;first|contradiction|omega));(try (have hq := hel i hb));(try (have hq1 := hq.1));(try (have hqo := oneFragSlot hq.2.1));(try (have hpz : l[((i : Int) - 1).toNat]? = some (ix l (i - 1)) := (by rw [show ((i : Int) - 1).toNat = i - 1 by omega];exact (hel (i - 1) (by omega)).1)));(try (have hgd := good_ok (hrr.1 hb)));(try (have hg := sl_head hq.2.1 hgd.1 hq.2.2.2));(try (have hg1 := hg.1));(try (have hg2 := hg.2.1));(try (have hg3 := hg.2.2.1));(try (have hg4 := hg.2.2.2.1));(try (have hg5 := hg.2.2.2.2.1));(try (have hg6 := hg.2.2.2.2.2));(try (have hg7 := oneFragPacket hg3))))
        |(refine C_skip ?_)
        |(refine C_exit ?_)
        |(refine C_ret ?_)
        |(refine C_block ?_)))
    |(refine gE ?_;(first
        |(refine E_then ?_)
        |(refine E_thenX ?_)
        |(refine E_thenR ?_)
        |(refine E_block ?_)
        |(refine E_blockY ?_)
        |(refine E_blockR ?_)
        |(refine E_calm ?_)
        |(apply E_ret1 rfl;(first|exact Res.tmp rfl|(apply R_cellAll rfl;(focus ((repeat (first|exact mH|refine mT ?_));done));(first|exact T.rw24|exact T.rw45|exact T.rw67))|(apply R_cell1 rfl;(focus ((repeat (first|exact mH|refine mT ?_));done));(first|exact T.sc3|exact T.sc27|exact T.sc43)))))))
  · refine retX false ?_ rfl entA
    refine ⟨fun h => (by cases h), fun h => ?_⟩
    have h1 := hrr.2 (hbg h (by omega)).1
    have h2 : rr = false := by assumption
    rw [h2] at h1; cases h1
  · refine retX false ?_ rfl entA
    refine ⟨fun h => (by cases h), fun h => ?_⟩
    have h1 := ((hbg h (by omega)).2 (i - 1) (by omega)).1 (by omega)
    omega
  rotate_right
  · refine retX true ?_ rfl entA
    exact ⟨fun _ => ⟨hin.1, hin.2, by show (l.map ctFragSlot).length ≤ 4; rw [List.length_map]; omega, fun j hj => hal j (by have hj : j < (l.map ctFragSlot).length := hj; rw [List.length_map] at hj; omega)⟩, fun _ => rfl⟩
  all_goals first
    | (refine retX false ?_ rfl (by (focus (apply Ent.flat; (simp only [List.length_append, List.length_cons, List.length_nil, Nat.zero_add, flat_many, flat_row, flat_blk, flat_append, flat_nil, List.map_append, List.map_cons, List.map_nil, List.flatMap_append, List.flatMap_cons, List.flatMap_nil, List.append_assoc, List.append_nil, List.nil_append, List.cons_append, Row.blk_mk, rwSuint8, rwFragPacket, rwSFragPacket, rwFragSlot, rwSFragSlot, rwFragBench]); ((repeat (first | exact Pull.nil | (apply Pull.app; (focus ((repeat (first | exact PickA.here | exact PickA.all | apply PickA.there | apply PickA.over)); done))) | (apply Pull.cons; (focus ((repeat (first | exact Pick.here | exact Pick.last | apply Pick.there | apply Pick.over)); done))) | (apply Pull.atom; (focus ((repeat (first | exact PickA.here | exact PickA.all | apply PickA.there | apply PickA.over)); done))))); done))))
       refine ⟨fun h => (by cases h), fun h => ?_⟩
       obtain ⟨y, hy, ha⟩ := hkk.1 (by assumption)
       obtain ⟨j, hj, rfl⟩ := (hsm y).1 hy
       have h1 := ((hbg h (by omega)).2 j hj).2
       rw [hg5] at h1
       simp only [alikeC, Bool.and_eq_true] at ha
       rw [h1] at ha
       cases ha.2)
    | (refine E_round (α := Nat) (i + 1) ⟨by omega, fun j hj => ?_⟩ (by omega) ⟨rfl, rfl, rfl, trivial⟩ (List.Sublist.refl _)
       rcases Nat.lt_or_ge j i with h | h
       · exact hal j h
       · have : j = i := by omega
         subst this
         refine (slotAt_iff (by omega)).2 ⟨hrr.1 (by assumption), fun k hk => ⟨fun e => ?_, ?_⟩⟩
         · have e2 : k = j - 1 := by omega
           rw [e2]; omega
         · cases hlk : likeC (headS (ix l k)) (headS (ix l j))
           · rfl
           · have h1 := hkk.2 ⟨_, (hsm _).2 ⟨k, hk, rfl⟩, by
               rw [← hg5]
               simp only [alikeC, Bool.and_eq_true]
               exact ⟨⟨(hok k hk).2, hgd.2⟩, hlk⟩⟩
             omega)
end Go.Proofs.Ytodhjpnfokkfeaa

/- Packets compared in every part, looked for among pieces; the place of a packet's slot. -/
import Derived.Test.YtodhjpnfokkfeaaFragah
import Derived.Test.YtodhjpnfokkfeaaSymj
set_option linter.unusedSimpArgs false
set_option linter.unusedVariables false
namespace Go.Proofs.Ytodhjpnfokkfeaa
open Go Go.RowKit
def bs8 (l : List Int) : List UInt8 := l.map fun z => UInt8.ofNat z.toNat
def octP (c : CFragPacket) : Prop := ∀ z ∈ c.2.2.2.2.2.2.2.2, 0 ≤ z ∧ z ≤ 255
theorem bs8_at {z : Int} (h : 0 ≤ z ∧ z ≤ 255) : (((UInt8.ofNat z.toNat).toNat : Nat) : Int) = z := by rw [UInt8.toNat_ofNat']; omega
theorem bs8_cells : ∀ {l : List Int}, (∀ z ∈ l, 0 ≤ z ∧ z ≤ 255) → ((bs8 l).map fun b => Value.int .u8 (b.toNat : Int)) = l.flatMap fun y : Int => ([.int .u8 y] : List Value)
  | [], _ => rfl
  | a :: l, h => by
    have ih := bs8_cells fun z hz => h z (List.mem_cons_of_mem _ hz)
    rw [List.flatMap_cons, ← ih]
    simp only [bs8, List.map_cons, List.singleton_append]
    rw [bs8_at (h a (by simp))]
theorem bs8_back : ∀ {l : List Int}, (∀ z ∈ l, 0 ≤ z ∧ z ≤ 255) → ((bs8 l).map fun b => ((b.toNat : Nat) : Int)) = l
  | [], _ => rfl
  | a :: l, h => by
    have ih := bs8_back fun z hz => h z (List.mem_cons_of_mem _ hz)
    simp only [bs8, List.map_cons] at ih ⊢
    rw [bs8_at (h a (by simp)), ih]
theorem bs8_inj {l k : List Int} (hl : ∀ z ∈ l, 0 ≤ z ∧ z ≤ 255) (hk : ∀ z ∈ k, 0 ≤ z ∧ z ≤ 255) : decide (bs8 l = bs8 k) = decide (l = k) :=
  decide_eq_decide.2 ⟨fun h => by rw [← bs8_back hl, h, bs8_back hk], fun h => by rw [h]⟩
attribute [local irreducible] Calls GoS GoC GoE GoT Mid IsEq IsFl IsSc IsRw IsSl IsEl IsSt IsFs sp Mem Rd LenOf szR joinC alikeC likeC
theorem bytesEqual_c (v u : Value) (l k : List Int) (hl : ∀ z ∈ l, 0 ≤ z ∧ z ≤ 255) (hk : ∀ z ∈ k, 0 ≤ z ∧ z ≤ 255) (w : World) (hv : Mem w v 1 l.length (l.flatMap fun y : Int => ([.int .u8 y] : List Value))) (hu : Mem w u 1 k.length (k.flatMap fun y : Int => ([.int .u8 y] : List Value))) : Calls Try.prog 120 #[v, u] w (RetN (.bool (decide (l = k))) w) := by
  rw [← bs8_inj hl hk]
  rw [← bs8_cells hl] at hv
  rw [← bs8_cells hk] at hu
  refine enter (n := 10) (E := [(0, _), (1, _)]) Try.func120 rfl rfl rfl rfl ?_
  repeat' (first
    |(refine gS ?_;(first
        |(refine S_move rfl rfl ?_)
        |(refine S_assign rfl rfl ?_)
        |(refine gBin ?_;(first
            |((refine S_sEql rfl rfl rfl ?_))))
        |(refine S_done ?_)
        |((refine S_sOf (bs := bs8 l) Try.underlying22 Try.underlying5 Try.underlying9 rfl (rd_given hv (by first|exact freeG0|exact freeG1)) rfl ?_))
        |((refine S_sOf (bs := bs8 k) Try.underlying22 Try.underlying5 Try.underlying9 rfl (rd_given hu (by first|exact freeG0|exact freeG1)) rfl ?_))))
    |(refine gC ?_;(first
        |(refine C_seq ?_)
        |(refine gReg ?_;(first
            |(refine gReg (i := 0) ?_;refine C_plain [(0,0)] (by kernel_rfl) (s := [⟨0,none,_,_,_⟩]) rfl ?_)
            |(refine gReg (i := 1) ?_;refine C_plain [(0,0),(1,0),(2,0),(3,0),(4,0),(5,0)] (by kernel_rfl) (s := [⟨0,none,_,_,_⟩,⟨0,none,_,_,_⟩,⟨0,none,_,_,_⟩,⟨0,none,_,_,_⟩,⟨0,none,_,_,_⟩,⟨0,none,_,_,_⟩]) rfl ?_)))
        |(refine C_ret ?_)))
    |(refine gE ?_;(first
        |(refine E_then ?_)
        |(apply E_ret1 rfl;(first|exact Res.tmp rfl|(apply R_cellAll rfl;(focus ((repeat (first|exact mH|refine mT ?_));done));fail)|(apply R_cell1 rfl;(focus ((repeat (first|exact mH|refine mT ?_));done));fail))))))
  all_goals (exact retN rfl)
theorem samePackets_c (x y : MFragPacket) (hbx : octP (ctFragPacket x)) (hby : octP (ctFragPacket y)) (w : World) (hx : Rds w (rwFragPacket x)) (hy : Rds w (rwFragPacket y)) : Calls Try.prog 112 #[.agg (clFragPacket x).toArray, .agg (clFragPacket y).toArray] w (RetN (.bool (decide (ctFragPacket x = ctFragPacket y))) w) := by
  have hmx := Rds.head hx
  have hmy := Rds.head hy
  refine enter (n := 66) (E := [(0, _), (1, _)]) Try.func112 rfl rfl rfl rfl ?_
  repeat' (first
    |(refine gS ?_;(first
        |(refine gGuard ?_;(first
            |(refine S_on rfl ?_)
            |(refine S_off rfl rfl rfl ?_)
            |(refine S_gsplit rfl ?_ ?_ <;> (intro hb;(try simp only [decide_eq_true_eq] at hb);(try simp only [decide_eq_false_iff_not] at hb);(try simp only [Bool.not_eq_true'] at hb);(try simp only [Bool.not_eq_false'] at hb);(try (exfalso;first|contradiction|omega))))))
        |(refine S_move rfl rfl ?_)
        |(refine S_assign rfl rfl ?_)
        |(apply F_field rfl rfl;(first|exact T.fl24_0|exact T.fl24_1|exact T.fl24_2|exact T.fl24_3|exact T.fl24_4|exact T.fl24_5|exact T.fl24_6|exact T.fl24_7|exact T.fl24_8))
        |(refine gLoad ?_;(first
            |(apply F_load1 rfl rfl;(focus ((repeat (first|exact mH|refine mT ?_));done));(first|exact T.sc3|exact T.sc4|exact T.sc22);rfl;(focus (first|exact free0|exact free1)))))
        |(refine gCall ?_;(first
            |(show GoS _ _ _ _ _ _ _ (⟨_,_,_,.call ⟨.value (.func 120),_,_⟩,_⟩ :: _);refine S_callN (f := 120) rfl T.pf120 rfl (fun w hst => bytesEqual_c _ _ _ _ hbx hby w (Mem.given hst hmx) (Mem.given hst hmy)) rfl ?_)))
        |(refine gBin ?_;(first
            |(refine S_eql rfl rfl rfl ?_)
            |(refine S_eqlB Try.underlying4 rfl rfl rfl ?_)))
        |(refine gPick ?_;(first
            |(refine S_pickT rfl rfl rfl ?_)
            |(refine S_pickF rfl rfl rfl ?_)))
        |(refine S_box rfl rfl rfl ?_;intro kb)
        |(refine S_done ?_)))
    |(refine gC ?_;(first
        |(refine C_seq ?_)
        |(refine gReg ?_;(first
            |(refine gReg (i := 0) ?_;refine C_plain [(0,2),(1,2),(2,0)] (by kernel_rfl) (s := [⟨2,none,_,_,_⟩,⟨2,none,_,_,_⟩,⟨0,none,_,_,_⟩]) rfl ?_)
            |(refine gReg (i := 1) ?_;apply C_plain [(0,0),(1,0),(2,0),(3,0),(4,0),(5,0),(6,0),(7,0),(8,0),(9,0),(10,0),(11,0),(12,0),(13,0),(14,0),(15,0),(16,0),(17,0),(18,0),(19,0),(20,0),(21,0),(22,0),(23,0),(24,0),(25,0),(26,0),(27,0),(28,0),(29,0),(30,0),(31,0),(32,0),(33,0),(34,0),(35,0),(36,0),(37,0),(38,0),(39,0),(40,0),(41,0),(42,0),(43,0),(44,0),(45,0),(46,0),(47,0),(48,0),(49,0),(50,0),(51,0),(52,0),(53,0),(54,0),(55,0),(56,0),(57,0),(58,0),(59,2),(60,0),(61,0)] (by kernel_rfl);(focus (simp only [mkS,gSlot,List.getElem?_cons_zero,List.getElem?_cons_succ];rfl)))))
        |(refine C_ret ?_)))
    |(refine gE ?_;(first
        |(refine E_then ?_)
        |(apply E_ret1 rfl;(first|exact Res.tmp rfl|(apply R_cellAll rfl;(focus ((repeat (first|exact mH|refine mT ?_));done));fail)|(apply R_cell1 rfl;(focus ((repeat (first|exact mH|refine mT ?_));done));(first|exact T.sc3|exact T.sc4|exact T.sc22)))))))
  all_goals
    refine retN ?_
    congr 1
    first
      |(refine (decide_eq_false fun e => ?_).symm;simp only [ctFragPacket,Prod.mk.injEq] at e;simp_all;done)
      |(refine decide_eq_decide.2 ?_;simp_all [ctFragPacket];done)
theorem l14Same_c (x y : MFragPacket) (w : World) (hx : Rds w (rwFragPacket x)) (hy : Rds w (rwFragPacket y)) : Calls Try.prog 118 #[.agg (clFragPacket x).toArray, .agg (clFragPacket y).toArray] w (RetN (.bool (decide (ctFragPacket x = ctFragPacket y))) w) := by
  have hm := Rds.head hx
  have hm2 := Rds.head hy
  have hl1 := hm.len
  have hl2 := hm2.len
  simp only [maxLen] at hl1 hl2
  refine enter (n := 87) (E := [(0, _), (1, _)]) Try.func118 rfl rfl rfl rfl ?_
  repeat' (first
    |(refine gS ?_;(first
        |(refine gGuard ?_;(first
            |(refine S_on rfl ?_)
            |(refine S_off rfl rfl rfl ?_)
            |(refine S_gsplit rfl ?_ ?_ <;> (intro hb;(try simp only [decide_eq_true_eq] at hb);(try simp only [decide_eq_false_iff_not] at hb);(try simp only [Bool.not_eq_true'] at hb);(try simp only [Bool.not_eq_false'] at hb);(try (exfalso;first|contradiction|omega))))))
        |(refine S_move rfl rfl ?_)
        |(refine S_assign rfl rfl ?_)
        |(apply F_field rfl rfl;(first|exact T.fl24_0|exact T.fl24_1|exact T.fl24_2|exact T.fl24_3|exact T.fl24_4|exact T.fl24_5|exact T.fl24_6|exact T.fl24_7|exact T.fl24_8))
        |(refine gLoad ?_;(first
            |(apply F_load1 rfl rfl;(focus ((repeat (first|exact mH|refine mT ?_));done));(first|exact T.sc3|exact T.sc4|exact T.sc5|exact T.sc22);rfl;(focus (first|exact free0|exact free1)))))
        |(refine gCall ?_;(first
            |(apply F_len rfl rfl rfl;(focus exact ⟨_,_,by exact T.sl22⟩);(focus (first|exact len_nil|(apply len_given;assumption)|(apply len_row;(focus ((repeat (first|exact mH|refine mT ?_));done)))|(apply len_isN;assumption))))))
        |(refine gBin ?_;(first
            |(refine S_neq rfl rfl rfl ?_)
            |(refine S_neqB Try.underlying4 rfl rfl rfl ?_)))
        |(refine gPick ?_;(first
            |(refine S_pickT rfl rfl rfl ?_)
            |(refine S_pickF rfl rfl rfl ?_)))
        |(refine S_box rfl rfl rfl ?_;intro kb)
        |(refine S_done ?_)))
    |(refine gC ?_;(first
        |(refine C_seq ?_)
        |(refine gReg ?_;(first
            |(refine gReg (i := 0) ?_;refine C_plain [(0,2),(1,2),(2,0)] (by kernel_rfl) (s := [⟨2,none,_,_,_⟩,⟨2,none,_,_,_⟩,⟨0,none,_,_,_⟩]) rfl ?_)
            |(refine gReg (i := 1) ?_;apply C_plain [(0,0),(1,0),(2,0),(3,0),(4,0),(5,0),(6,0),(7,0),(8,0),(9,0),(10,0),(11,0),(12,0),(13,0),(14,0),(15,0),(16,0),(17,0),(18,0),(19,0),(20,0),(21,0),(22,0),(23,0),(24,0),(25,0),(26,0),(27,0),(28,0),(29,0),(30,0),(31,0),(32,0),(33,0),(34,0),(35,0),(36,0),(37,0),(38,0),(39,0),(40,0),(41,0),(42,0),(43,0),(44,0),(45,0),(46,0),(47,0),(48,0),(49,0),(50,0),(51,0),(52,0),(53,0),(54,0),(55,0),(56,0),(57,0),(58,0),(59,0),(60,0),(61,0),(62,0)] (by kernel_rfl);(focus (simp only [mkS,gSlot,List.getElem?_cons_zero,List.getElem?_cons_succ];rfl)))
            |(refine gReg (i := 2) ?_;refine C_plain [(0,0)] (by kernel_rfl) (s := [⟨0,none,_,_,_⟩]) rfl ?_)
            |(refine gReg (i := 3) ?_;refine C_plain [(0,0)] (by kernel_rfl) (s := [⟨0,none,_,_,_⟩]) rfl ?_)))
        |(refine C_true rfl ?_)
        |(refine C_split rfl ?_ ?_ <;> (intro hb;(try simp only [decide_eq_true_eq] at hb);(try simp only [decide_eq_false_iff_not] at hb);(try simp only [Bool.not_eq_true'] at hb);(try simp only [Bool.not_eq_false'] at hb);(try (exfalso;first|contradiction|omega))))
        |(refine C_skip ?_)
        |(refine C_ret ?_)
        |(refine C_block ?_)))
    |(refine gE ?_;(first
        |(refine E_then ?_)
        |(refine E_thenR ?_)
        |(apply E_ret1 rfl;(first|exact Res.tmp rfl|(apply R_cellAll rfl;(focus ((repeat (first|exact mH|refine mT ?_));done));fail)|(apply R_cell1 rfl;(focus ((repeat (first|exact mH|refine mT ?_));done));(first|exact T.sc3|exact T.sc4|exact T.sc5|exact T.sc22)))))))
  all_goals try (
    refine retN ?_
    congr 1
    refine (decide_eq_false fun e => ?_).symm
    simp only [ctFragPacket, Prod.mk.injEq] at e
    obtain ⟨e0, e1, e2, e3, e4, e5, e6, e7, e8⟩ := e
    have e9 := congrArg List.length e8
    simp_all
    done)
  rename_i kx q0 q1 q2 q3 q4 q5 q6 q7
  have hll : x.2.2.2.2.2.2.2.2.2.length = y.2.2.2.2.2.2.2.2.2.length := by omega
  have hfin : (ctFragPacket x = ctFragPacket y) ↔ x.2.2.2.2.2.2.2.2.2 = y.2.2.2.2.2.2.2.2.2 := by
    simp only [ctFragPacket, Prod.mk.injEq]
    simp_all
  refine C_loop (α := Nat) (fun i => [(5, .int .i64 (i : Int)), (2, .pointer (some ⟨kx, 0, none⟩)), (3, .pointer (some ⟨kb, 0, none⟩))]) (fun _ => [.blk kb 24 (clFragPacket y), .blk kx 24 (clFragPacket x)]) (fun i => i ≤ x.2.2.2.2.2.2.2.2.2.length ∧ x.2.2.2.2.2.2.2.2.2.take i = y.2.2.2.2.2.2.2.2.2.take i) (fun i => x.2.2.2.2.2.2.2.2.2.length - i) 0 ⟨Nat.zero_le _, rfl⟩ ⟨rfl, rfl, rfl, trivial⟩ (List.Sublist.refl _) ?_
  clear q0 q1 q2 q3 q4 q5 q6 q7
  rintro i ⟨hi, hta⟩
  have hx1 : (i : Int) < (x.2.2.2.2.2.2.2.2.2.length : Int) → x.2.2.2.2.2.2.2.2.2[i]? = some (ix x.2.2.2.2.2.2.2.2.2 i) := fun h => nthD h
  have hy1 : (i : Int) < (x.2.2.2.2.2.2.2.2.2.length : Int) → y.2.2.2.2.2.2.2.2.2[i]? = some (ix y.2.2.2.2.2.2.2.2.2 i) := fun h => nthD (by omega)
  repeat' (first
    |(refine gS ?_;(first
        |(refine S_move rfl rfl ?_)
        |(refine S_assign rfl rfl ?_)
        |(apply F_field rfl rfl;(first|exact T.fl24_0|exact T.fl24_1|exact T.fl24_2|exact T.fl24_3|exact T.fl24_4|exact T.fl24_5|exact T.fl24_6|exact T.fl24_7|exact T.fl24_8))
        |(apply F_idx rfl rfl rfl;exact T.sl22;(focus rfl);(focus (first|exact len_nil|(apply len_given;assumption)|(apply len_row;(focus ((repeat (first|exact mH|refine mT ?_));done)))|(apply len_isN;assumption)));(focus omega))
        |(refine gLoad ?_;(first
            |(apply F_load1 rfl rfl;(focus ((repeat (first|exact mH|refine mT ?_));done));(first|exact T.sc3|exact T.sc4|exact T.sc5|exact T.sc22);rfl;(focus (first|exact free0|exact free1)))
            |(apply F_loadS1 rfl rfl;(first|exact T.sc3|exact T.sc4|exact T.sc5|exact T.sc22);(focus (first|exact rd_nil|(apply rd_given;(focus assumption);(focus (first|exact freeG0|exact freeG1)))|(apply rd_row;(focus ((repeat (first|exact mH|refine mT ?_));done));(focus (first|exact freeR0|exact freeR1)))));(focus (first|(apply at_cell;(focus (apply at_flat;(focus (intro _;rfl));(focus assumption)));rfl)|(apply at_cell0;(focus (apply at_flat;(focus (intro _;rfl));(focus assumption)));rfl)|(apply at_cell;(focus (apply at_mid0;(focus assumption)));rfl)|(apply at_cell0;(focus (apply at_mid0;(focus assumption)));rfl)|rfl)))))
        |(refine gCall ?_;(first
            |(apply F_len rfl rfl rfl;(focus exact ⟨_,_,by exact T.sl22⟩);(focus (first|exact len_nil|(apply len_given;assumption)|(apply len_row;(focus ((repeat (first|exact mH|refine mT ?_));done)))|(apply len_isN;assumption))))))
        |(refine gBin ?_;(first
            |(refine S_lss rfl rfl rfl ?_)
            |(refine S_neq rfl rfl rfl ?_)
            |(refine S_add rfl rfl ?_ rfl ?_;(focus (unfold rng;omega)))))
        |(refine S_done ?_)))
    |(refine gC ?_;(first
        |(refine C_seq ?_)
        |(refine gReg ?_;(first
            |(refine gReg (i := 4) ?_;refine C_plain [(0,0),(1,0),(2,0),(3,0),(4,0)] (by kernel_rfl) (s := [⟨0,none,_,_,_⟩,⟨0,none,_,_,_⟩,⟨0,none,_,_,_⟩,⟨0,none,_,_,_⟩,⟨0,none,_,_,_⟩]) rfl ?_)
            |(refine gReg (i := 6) ?_;refine C_drawn [(0,0),(1,0),(2,0),(3,0),(4,0),(5,0),(6,0),(7,0),(8,0),(9,0),(10,0)] [] T.mixed (by kernel_rfl) (s := [⟨0,none,_,_,_⟩,⟨0,none,_,_,_⟩,⟨0,none,_,_,_⟩,⟨0,none,_,_,_⟩,⟨0,none,_,_,_⟩,⟨0,none,_,_,_⟩,⟨0,none,_,_,_⟩,⟨0,none,_,_,_⟩,⟨0,none,_,_,_⟩,⟨0,none,_,_,_⟩,⟨0,none,_,_,_⟩]) rfl ?_)
            |(refine gReg (i := 7) ?_;refine C_plain [(0,0)] (by kernel_rfl) (s := [⟨0,none,_,_,_⟩]) rfl ?_)
            |(refine gReg (i := 5) ?_;refine C_plain [(0,0),(1,0),(2,0)] (by kernel_rfl) (s := [⟨0,none,_,_,_⟩,⟨0,none,_,_,_⟩,⟨0,none,_,_,_⟩]) rfl ?_)
            |(refine gReg (i := 8) ?_;refine C_plain [(0,0)] (by kernel_rfl) (s := [⟨0,none,_,_,_⟩]) rfl ?_)))
        |(refine C_split rfl ?_ ?_ <;> (intro hb;(try simp only [decide_eq_true_eq] at hb);(try simp only [decide_eq_false_iff_not] at hb);(try simp only [Bool.not_eq_true'] at hb);(try simp only [Bool.not_eq_false'] at hb);(try (exfalso;first|contradiction|omega));(try (have hx2 := hx1 hb));(try (have hy2 := hy1 hb))))
        |(refine C_skip ?_)
        |(refine C_exit ?_)
        |(refine C_ret ?_)
        |(refine C_block ?_)))
    |(refine gE ?_;(first
        |(refine E_then ?_)
        |(refine E_thenX ?_)
        |(refine E_thenR ?_)
        |(refine E_block ?_)
        |(refine E_blockY ?_)
        |(refine E_blockR ?_)
        |(refine E_calm ?_)
        |(apply E_ret1 rfl;(first|exact Res.tmp rfl|(apply R_cellAll rfl;(focus ((repeat (first|exact mH|refine mT ?_));done));fail)|(apply R_cell1 rfl;(focus ((repeat (first|exact mH|refine mT ?_));done));(first|exact T.sc3|exact T.sc4|exact T.sc5|exact T.sc22)))))))
  · refine retN ?_
    congr 1
    refine (decide_eq_false fun e => ?_).symm
    have e2 := hfin.1 e
    rw [e2, hy2] at hx2
    have := Option.some.inj hx2
    have h5 : ix x.2.2.2.2.2.2.2.2.2 i ≠ ix y.2.2.2.2.2.2.2.2.2 i := by assumption
    rw [e2] at h5
    exact h5 rfl
  · refine E_round (α := Nat) (i + 1) ⟨by omega, ?_⟩ (by omega) ⟨rfl, rfl, rfl, trivial⟩ (List.Sublist.refl _)
    rw [take_snoc hx2, take_snoc hy2, hta]
    have h5 : ¬ ix x.2.2.2.2.2.2.2.2.2 i ≠ ix y.2.2.2.2.2.2.2.2.2 i := by assumption
    rw [Classical.not_not.1 h5]
  · refine retN ?_
    congr 1
    refine (decide_eq_true (hfin.2 ?_)).symm
    have hie : i = x.2.2.2.2.2.2.2.2.2.length := by omega
    rw [hie, List.take_length, hll, List.take_length] at hta
    exact hta
/-- called with a packet the function says p of it -/
def SaysP (f : FuncId) (c : Value) (p : MFragPacket → Bool) (l : List MFragPacket) (w : World) : Prop := ∀ y ∈ l, Calls Try.prog f #[.agg (clFragPacket y).toArray, c] w (RetN (.bool (p y)) w)
/-- the first packet of which p holds -/
def firstP (p : MFragPacket → Bool) (l : List MFragPacket) (n : Int) : Prop := (n = -1 ∧ ∀ j, j < l.length → p (ix l j) = false) ∨ ∃ k : Nat, n = (k : Int) ∧ k < l.length ∧ p (ix l k) = true
set_option maxRecDepth 8192 in
theorem idxPieces_c (f : FuncId) (hf : plainFn Try.prog f = true) (c : Value) (p : MFragPacket → Bool) (v : Value) (l : List MFragPacket) (w : World) (hx : Rds w (rwSFragPacket (v, l))) (hs : ∀ w', Ext w w' → SaysP f c p l w') : Calls Try.prog 119 #[v, .func (.func f) #[] #[c]] w (RetX (firstP p l) (fun n => .int .i64 n) (fun _ => []) w) := by
  have hm := Rds.head hx
  have hlen := hm.len
  simp only [maxLen] at hlen
  dsimp only at hm
  refine enter (n := 19) (E := [(0, _), (1, _)]) Try.func119 rfl rfl rfl rfl ?_
  repeat' (first
    |(refine gS ?_;(first
        |(refine S_move rfl rfl ?_)
        |(refine S_assign rfl rfl ?_)
        |(refine gCall ?_;(first
            |(apply F_len rfl rfl rfl;(focus exact ⟨_,_,by exact T.sl27⟩);(focus (first|exact len_nil|(apply len_given;assumption)|(apply len_row;(focus ((repeat (first|exact mH|refine mT ?_));done)))|(apply len_isN;assumption))))))
        |(refine S_done ?_)))
    |(refine gC ?_;(first
        |(refine C_seq ?_)
        |(refine gReg ?_;(first
            |(refine gReg (i := 0) ?_;refine C_plain [(0,0)] (by kernel_rfl) (s := [⟨0,none,_,_,_⟩]) rfl ?_)
            |(refine gReg (i := 1) ?_;refine C_plain [(0,0),(1,0),(2,0)] (by kernel_rfl) (s := [⟨0,none,_,_,_⟩,⟨0,none,_,_,_⟩,⟨0,none,_,_,_⟩]) rfl ?_)))
        |(refine C_block ?_)))
    |(refine gE ?_;(first
        |(refine E_then ?_))))
  refine C_loop (α := Nat) (fun k => [(8, .int .i64 (k : Int)), (7, .int .i64 (l.length : Int)), (0, v), (1, .func (.func f) #[] #[c])]) (fun _ => []) (fun k => k ≤ l.length ∧ ∀ j, j < k → p (ix l j) = false) (fun k => l.length - k) 0 ⟨by omega, fun j h => by omega⟩ ⟨rfl, rfl, rfl, rfl, trivial⟩ (List.Sublist.refl _) ?_
  rintro k ⟨hk, ha⟩
  obtain ⟨rk, hrk⟩ : ∃ c, p (ix l k) = c := ⟨_, rfl⟩
  try dsimp only
  repeat' (first
    |(refine gS ?_;(first
        |(refine S_move rfl rfl ?_)
        |(refine S_assign rfl rfl ?_)
        |(apply F_idx rfl rfl rfl;exact T.sl27;(focus rfl);(focus (first|exact len_nil|(apply len_given;assumption)|(apply len_row;(focus ((repeat (first|exact mH|refine mT ?_));done)))|(apply len_isN;assumption)));(focus omega))
        |(refine gLoad ?_;(first
            |(apply F_loadSN rfl rfl;exact T.rw24;(focus (first|exact rd_nil|(apply rd_given;(focus assumption);(focus (first|exact freeG0|exact freeG1)))|(apply rd_row;(focus ((repeat (first|exact mH|refine mT ?_));done));(focus (first|exact freeR0|exact freeR1)))));(focus (first|(focus (apply at_flat;(focus (intro _;rfl));(focus assumption)))|exact at_self));rfl;rfl)))
        |(refine gCall ?_;(first
            |((refine S_callN (f := f) rfl hf rfl (fun w hst => (hrk ▸ hs w hst.ext _ (List.mem_of_getElem? hx))) rfl ?_))
            |(refine S_callC rfl ?_)))
        |(refine gBin ?_;(first
            |(refine S_lss rfl rfl rfl ?_)
            |(refine S_add rfl rfl ?_ rfl ?_;(focus (unfold rng;omega)))))
        |(refine S_done ?_)))
    |(refine gC ?_;(first
        |(refine C_seq ?_)
        |(refine gReg ?_;(first
            |(refine gReg (i := 2) ?_;refine C_plain [(0,0)] (by kernel_rfl) (s := [⟨0,none,_,_,_⟩]) rfl ?_)
            |(refine gReg (i := 3) ?_;refine C_plain [(0,0),(1,0)] (by kernel_rfl) (s := [⟨0,none,_,_,_⟩,⟨0,none,_,_,_⟩]) rfl ?_)
            |(refine gReg (i := 4) ?_;refine C_plain [(0,0),(1,0),(2,0),(3,0),(4,0),(5,2)] (by kernel_rfl) (s := [⟨0,none,_,_,_⟩,⟨0,none,_,_,_⟩,⟨0,none,_,_,_⟩,⟨0,none,_,_,_⟩,⟨0,none,_,_,_⟩,⟨2,none,_,_,_⟩]) rfl ?_)
            |(refine gReg (i := 5) ?_;refine C_plain [(0,0),(1,0)] (by kernel_rfl) (s := [⟨0,none,_,_,_⟩,⟨0,none,_,_,_⟩]) rfl ?_)
            |(refine gReg (i := 6) ?_;refine C_plain [(0,0),(1,0)] (by kernel_rfl) (s := [⟨0,none,_,_,_⟩,⟨0,none,_,_,_⟩]) rfl ?_)
            |(refine gReg (i := 7) ?_;refine C_plain [(0,0)] (by kernel_rfl) (s := [⟨0,none,_,_,_⟩]) rfl ?_)))
        |(refine C_split rfl ?_ ?_ <;> (intro hb;(try simp only [decide_eq_true_eq] at hb);(try simp only [decide_eq_false_iff_not] at hb);(try simp only [Bool.not_eq_true'] at hb);(try simp only [Bool.not_eq_false'] at hb);(try (exfalso;first|contradiction|omega));(try (have hx := nthD (l := l) (k := k) hb))))
        |(refine C_skip ?_)
        |(refine C_exit ?_)
        |(refine C_ret ?_)
        |(refine C_block ?_)))
    |(refine gE ?_;(first
        |(refine E_then ?_)
        |(refine E_thenX ?_)
        |(refine E_thenR ?_)
        |(refine E_block ?_)
        |(refine E_blockY ?_)
        |(refine E_blockR ?_)
        |(apply E_ret1 rfl;(first|exact Res.tmp rfl|(apply R_cellAll rfl;(focus ((repeat (first|exact mH|refine mT ?_));done));exact T.rw24)|(apply R_cell1 rfl;(focus ((repeat (first|exact mH|refine mT ?_));done));fail))))))
  · have hrt : rk = true := by assumption
    exact retX (k : Int) (.inr ⟨k, rfl, by omega, hrk.trans hrt⟩) rfl (Ent.pull Pull.nil)
  · have hrf : rk = false := by assumption
    refine E_round (α := Nat) (k + 1) ⟨by omega, fun j hj => ?_⟩ (by omega) ⟨rfl, rfl, rfl, rfl, trivial⟩ (List.nil_sublist _)
    rcases Nat.lt_or_ge j k with h | h
    · exact ha j h
    · have e : j = k := by omega
      rw [e, hrk, hrf]
  · have e : k = l.length := by omega
    exact retX (-1 : Int) (.inl ⟨rfl, fun j hj => ha j (by omega)⟩) rfl (Ent.pull Pull.nil)
theorem any_first {p : MFragPacket → Bool} {l : List MFragPacket} {n : Int} (h : firstP p l n) : decide (0 ≤ n) = l.any p := by
  rcases h with ⟨rfl, h⟩ | ⟨k, rfl, hk, h⟩
  · refine (List.any_eq_false.2 fun y hy => ?_).symm
    obtain ⟨j, hj⟩ := List.getElem?_of_mem hy
    have hlt : j < l.length := (List.getElem?_eq_some_iff.1 hj).1
    have e : y = ix l j := Option.some.inj (hj.symm.trans (nthD (by omega)))
    rw [e, h j hlt]; simp
  · have e1 : l.any p = true := List.any_eq_true.2 ⟨_, List.mem_of_getElem? (nthD (l := l) (k := k) (by omega)), h⟩
    rw [e1]
    exact decide_eq_true (by omega)
theorem containsP_c (f : FuncId) (hf : plainFn Try.prog f = true) (c : Value) (p : MFragPacket → Bool) (v : Value) (l : List MFragPacket) (w : World) (hx : Rds w (rwSFragPacket (v, l))) (hs : ∀ w', Ext w w' → SaysP f c p l w') : Calls Try.prog 110 #[v, .func (.func f) #[] #[c]] w (RetN (.bool (l.any p)) w) := by
  refine enter (n := 9) (E := [(0, _), (1, _)]) Try.func110 rfl rfl rfl rfl ?_
  repeat' (first
    |(refine gS ?_;(first
        |(refine S_move rfl rfl ?_)
        |(refine S_assign rfl rfl ?_)
        |(refine gCall ?_;(first
            |(show GoS _ _ _ _ _ _ _ (⟨_,_,_,.call ⟨.value (.func 119),_,_⟩,_⟩ :: _);refine S_callX (f := 119) rfl T.pf119 rfl (fun w hst => idxPieces_c f hf c p v l w (Rds.given hst hx) (fun u hu => hs u (hst.ext.trans hu))) rfl (fun zz hzz => ?_);simp only [List.cons_append,List.nil_append];revert hzz;revert zz;intro n hn)))
        |(refine gBin ?_;(first
            |(refine S_geq rfl rfl rfl ?_)))
        |(refine S_done ?_)))
    |(refine gC ?_;(first
        |(refine C_seq ?_)
        |(refine gReg ?_;(first
            |(refine gReg (i := 0) ?_;refine C_plain [(0,0)] (by kernel_rfl) (s := [⟨0,none,_,_,_⟩]) rfl ?_)
            |(refine gReg (i := 1) ?_;refine C_plain [(0,0),(1,0),(2,2),(3,0),(4,0)] (by kernel_rfl) (s := [⟨0,none,_,_,_⟩,⟨0,none,_,_,_⟩,⟨2,none,_,_,_⟩,⟨0,none,_,_,_⟩,⟨0,none,_,_,_⟩]) rfl ?_)))
        |(refine C_ret ?_)))
    |(refine gE ?_;(first
        |(refine E_then ?_)
        |(apply E_ret1 rfl;(first|exact Res.tmp rfl|(apply R_cellAll rfl;(focus ((repeat (first|exact mH|refine mT ?_));done));fail)|(apply R_cell1 rfl;(focus ((repeat (first|exact mH|refine mT ?_));done));fail))))))
  refine retN ?_
  rw [any_first hn]
theorem any_ct (l : List MFragPacket) (c : CFragPacket) : (l.any fun y => decide (c = ctFragPacket y)) = decide (c ∈ l.map ctFragPacket) := by
  rw [Bool.eq_iff_iff, List.any_eq_true, decide_eq_true_iff, List.mem_map]
  constructor
  · rintro ⟨y, hy, h⟩
    exact ⟨y, hy, (of_decide_eq_true h).symm⟩
  · rintro ⟨y, hy, h⟩
    exact ⟨y, hy, decide_eq_true h.symm⟩
theorem told1_c (bk : Nat) (p y : MFragPacket) (hbp : octP (ctFragPacket p)) (hby : octP (ctFragPacket y)) (w : World) (hr : w.rangeAt bk 0 (clFragPacket p)) (hp : Rds w (rwFragPacket p)) (hy : Rds w (rwFragPacket y)) : Calls Try.prog 111 #[.agg (clFragPacket y).toArray, .pointer (some ⟨bk, 0, none⟩)] w (RetN (.bool (decide (ctFragPacket p = ctFragPacket y))) w) := by
  have hoy := oneFragPacket hy
  refine enter (n := 7) (E := [(0, _), (1, _)]) Try.func111 rfl rfl rfl rfl ?_
  repeat' (first
    |(refine gS ?_;(first
        |(refine S_assign rfl rfl ?_)
        |(refine gLoad ?_;(first
            |(apply F_loadAll rfl rfl;(focus ((repeat (first|exact mH|refine mT ?_));done));exact T.rw24;(focus (first|exact free0|exact free1)))
            |((refine F_loadGN rfl rfl hr T.rw24 (by first|exact free0|exact free1) ?_))))
        |(refine gCall ?_;(first
            |(show GoS _ _ _ _ _ _ _ (⟨_,_,_,.call ⟨.value (.func 112),_,_⟩,_⟩ :: _);refine S_callN (f := 112) rfl T.pf112 rfl (fun w hst => samePackets_c _ _ hbp hby w (Rds.given hst hp) (Rds.given hst hy)) rfl ?_)))
        |(refine S_box rfl rfl rfl ?_;intro kb)
        |(refine S_done ?_)))
    |(refine gC ?_;(first
        |(refine C_seq ?_)
        |(refine gReg ?_;(first
            |(refine gReg (i := 0) ?_;refine C_plain [(0,2),(1,0)] (by kernel_rfl) (s := [⟨2,none,_,_,_⟩,⟨0,none,_,_,_⟩]) rfl ?_)
            |(refine gReg (i := 1) ?_;refine C_plain [(0,0),(1,0),(2,2),(3,0)] (by kernel_rfl) (s := [⟨0,none,_,_,_⟩,⟨0,none,_,_,_⟩,⟨2,none,_,_,_⟩,⟨0,none,_,_,_⟩]) rfl ?_)))
        |(refine C_ret ?_)))
    |(refine gE ?_;(first
        |(refine E_then ?_)
        |(apply E_ret1 rfl;(first|exact Res.tmp rfl|(apply R_cellAll rfl;(focus ((repeat (first|exact mH|refine mT ?_));done));exact T.rw24)|(apply R_cell1 rfl;(focus ((repeat (first|exact mH|refine mT ?_));done));fail))))))
  all_goals (exact retN rfl)
theorem like1_c (bk : Nat) (p : MFragPacket) (y : MFragSlot) (w : World) (h1 : 1 ≤ y.1.2.length) (hr : w.rangeAt bk 0 (clFragPacket p)) (hy : Rds w (rwFragSlot y)) : Calls Try.prog 87 #[.agg (clFragSlot y).toArray, .pointer (some ⟨bk, 0, none⟩)] w (RetN (.bool (likeC (headS y) (ctFragPacket p))) w) := by
  have hm := Rds.head hy
  have hoy := oneFragSlot hy
  have h2 : y.1.2[(0 : Int).toNat]? = some (ix y.1.2 0) := nthD (by omega)
  have h3 : headS y = ctFragPacket (ix y.1.2 0) := pk_head h1
  have h4 : 0 < y.1.2.length := h1
  rw [h3]
  refine enter (n := 10) (E := [(0, _), (1, _)]) Try.func87 rfl rfl rfl rfl ?_
  repeat' (first
    |(refine gS ?_;(first
        |(refine S_assign rfl rfl ?_)
        |(apply F_field rfl rfl;exact T.fl67_0)
        |(apply F_idx rfl rfl rfl;exact T.sl27;(focus rfl);(focus (first|exact len_nil|(apply len_given;assumption)|(apply len_row;(focus ((repeat (first|exact mH|refine mT ?_));done)))|(apply len_isN;assumption)));(focus omega))
        |(refine gLoad ?_;(first
            |(apply F_load1 rfl rfl;(focus ((repeat (first|exact mH|refine mT ?_));done));exact T.sc27;rfl;(focus (first|exact free0|exact free1)))
            |(apply F_loadSN rfl rfl;exact T.rw24;(focus (first|exact rd_nil|(apply rd_given;(focus assumption);(focus (first|exact freeG0|exact freeG1)))|(apply rd_row;(focus ((repeat (first|exact mH|refine mT ?_));done));(focus (first|exact freeR0|exact freeR1)))));(focus (first|(focus (apply at_flat;(focus (intro _;rfl));(focus assumption)))|exact at_self));rfl;rfl)
            |((refine F_loadGN rfl rfl hr T.rw24 (by first|exact free0|exact free1) ?_))))
        |(refine gCall ?_;(first
            |(show GoS _ _ _ _ _ _ _ (⟨_,_,_,.call ⟨.value (.func 74),_,_⟩,_⟩ :: _);refine S_callN (f := 74) rfl T.pf74 rfl (fun w hst => alike_c _ _ w) rfl ?_)))
        |(refine S_box rfl rfl rfl ?_;intro kb)
        |(refine S_done ?_)))
    |(refine gC ?_;(first
        |(refine C_seq ?_)
        |(refine gReg ?_;(first
            |(refine gReg (i := 0) ?_;refine C_plain [(0,2),(1,0)] (by kernel_rfl) (s := [⟨2,none,_,_,_⟩,⟨0,none,_,_,_⟩]) rfl ?_)
            |(refine gReg (i := 1) ?_;refine C_drawn [(0,0),(1,0),(2,0),(3,0),(4,0),(5,1),(6,0)] [] T.mixed (by kernel_rfl) (s := [⟨0,none,_,_,_⟩,⟨0,none,_,_,_⟩,⟨0,none,_,_,_⟩,⟨0,none,_,_,_⟩,⟨0,none,_,_,_⟩,⟨1,none,_,_,_⟩,⟨0,none,_,_,_⟩]) rfl ?_)))
        |(refine C_ret ?_)))
    |(refine gE ?_;(first
        |(refine E_then ?_)
        |(refine E_calm ?_)
        |(apply E_ret1 rfl;(first|exact Res.tmp rfl|(apply R_cellAll rfl;(focus ((repeat (first|exact mH|refine mT ?_));done));exact T.rw24)|(apply R_cell1 rfl;(focus ((repeat (first|exact mH|refine mT ?_));done));exact T.sc27))))))
  all_goals (exact retN rfl)
theorem l14Told_c (p : MFragPacket) (v : Value) (l : List MFragPacket) (w : World) (hp : Rds w (rwFragPacket p)) (hx : Rds w (rwSFragPacket (v, l))) : Calls Try.prog 108 #[v, .agg (clFragPacket p).toArray] w (RetN (.bool (decide (ctFragPacket p ∈ l.map ctFragPacket))) w) := by
  have hm := Rds.head hx
  have hel : ∀ i : Nat, (i : Int) < (l.length : Int) → l[i]? = some (ix l i) ∧ Rds w (rwFragPacket (ix l i)) := fun i h => ⟨nthD h, Rds.flatMap.1 (Rds.tail hx) _ (List.mem_of_getElem? (nthD h))⟩
  have hop := oneFragPacket hp
  dsimp only at hm
  have hlen := hm.len
  simp only [maxLen] at hlen
  rw [← any_ct]
  refine enter (n := 18) (E := [(0, _), (1, _)]) Try.func108 rfl rfl rfl rfl ?_
  repeat' (first
    |(refine gS ?_;(first
        |(refine S_assign rfl rfl ?_)
        |(refine S_box rfl rfl rfl ?_;intro kb)
        |(refine S_done ?_)))
    |(refine gC ?_;(first
        |(refine C_seq ?_)
        |(refine gReg ?_;(first
            |(refine gReg (i := 0) ?_;refine C_plain [(0,2),(1,0)] (by kernel_rfl) (s := [⟨2,none,_,_,_⟩,⟨0,none,_,_,_⟩]) rfl ?_)
            |(refine gReg (i := 1) ?_;refine C_plain [(0,0)] (by kernel_rfl) (s := [⟨0,none,_,_,_⟩]) rfl ?_)))
        |(refine C_block ?_)))
    |(refine gE ?_;(first
        |(refine E_then ?_))))
  revert kb; intro kr
  refine C_loop (α := Nat) (fun i => [(5, .int .i64 (i : Int)), (3, .pointer (some ⟨kr, 0, none⟩)), (0, v)]) (fun _ => [.blk kr 24 (clFragPacket p)]) (fun i => i ≤ l.length ∧ ∀ j, j < i → ctFragPacket (ix l j) ≠ ctFragPacket p) (fun i => l.length - i) 0 ⟨Nat.zero_le _, fun j h => by omega⟩ ⟨rfl, rfl, rfl, trivial⟩ (List.Sublist.refl _) ?_
  rintro i ⟨hi, hal⟩
  repeat' (first
    |(refine gS ?_;(first
        |(refine S_move rfl rfl ?_)
        |(refine S_assign rfl rfl ?_)
        |(apply F_idx rfl rfl rfl;exact T.sl27;(focus rfl);(focus (first|exact len_nil|(apply len_given;assumption)|(apply len_row;(focus ((repeat (first|exact mH|refine mT ?_));done)))|(apply len_isN;assumption)));(focus omega))
        |(refine gLoad ?_;(first
            |(apply F_loadAll rfl rfl;(focus ((repeat (first|exact mH|refine mT ?_));done));exact T.rw24;(focus (first|exact free0|exact free1)))
            |(apply F_loadSN rfl rfl;exact T.rw24;(focus (first|exact rd_nil|(apply rd_given;(focus assumption);(focus (first|exact freeG0|exact freeG1)))|(apply rd_row;(focus ((repeat (first|exact mH|refine mT ?_));done));(focus (first|exact freeR0|exact freeR1)))));(focus (first|(focus (apply at_flat;(focus (intro _;rfl));(focus assumption)))|exact at_self));rfl;rfl)))
        |(refine gCall ?_;(first
            |(show GoS _ _ _ _ _ _ _ (⟨_,_,_,.call ⟨.value (.func 118),_,_⟩,_⟩ :: _);refine S_callN (f := 118) rfl T.pf118 rfl (fun w hst => l14Same_c _ _ w (Rds.given hst hq.2) (Rds.given hst hp)) rfl ?_)
            |(apply F_len rfl rfl rfl;(focus exact ⟨_,_,by exact T.sl27⟩);(focus (first|exact len_nil|(apply len_given;assumption)|(apply len_row;(focus ((repeat (first|exact mH|refine mT ?_));done)))|(apply len_isN;assumption))))))
        |(refine gBin ?_;(first
            |(refine S_lss rfl rfl rfl ?_)
            |(refine S_add rfl rfl ?_ rfl ?_;(focus (unfold rng;omega)))))
        |(refine S_done ?_)))
    |(refine gC ?_;(first
        |(refine C_seq ?_)
        |(refine gReg ?_;(first
            |(refine gReg (i := 2) ?_;refine C_plain [(0,0),(1,0),(2,0),(3,0)] (by kernel_rfl) (s := [⟨0,none,_,_,_⟩,⟨0,none,_,_,_⟩,⟨0,none,_,_,_⟩,⟨0,none,_,_,_⟩]) rfl ?_)
            |(refine gReg (i := 4) ?_;refine C_drawn [(0,0),(1,0),(2,0),(3,0),(4,0),(5,1)] [] T.mixed (by kernel_rfl) (s := [⟨0,none,_,_,_⟩,⟨0,none,_,_,_⟩,⟨0,none,_,_,_⟩,⟨0,none,_,_,_⟩,⟨0,none,_,_,_⟩,⟨1,none,_,_,_⟩]) rfl ?_)
            |(refine gReg (i := 5) ?_;refine C_plain [(0,0)] (by kernel_rfl) (s := [⟨0,none,_,_,_⟩]) rfl ?_)
            |(refine gReg (i := 3) ?_;refine C_plain [(0,0),(1,0),(2,0)] (by kernel_rfl) (s := [⟨0,none,_,_,_⟩,⟨0,none,_,_,_⟩,⟨0,none,_,_,_⟩]) rfl ?_)
            |(refine gReg (i := 6) ?_;refine C_plain [(0,0)] (by kernel_rfl) (s := [⟨0,none,_,_,_⟩]) rfl ?_)))
        |(refine C_split rfl ?_ ?_ <;> (intro hb;(try simp only [decide_eq_true_eq] at hb);(try simp only [decide_eq_false_iff_not] at hb);(try simp only [Bool.not_eq_true'] at hb);(try simp only [Bool.not_eq_false'] at hb);(try (exfalso;first|contradiction|omega));(try (have hq := hel i hb));(try (have hq1 := hq.1));(try (have hq7 := oneFragPacket hq.2))))
        |(refine C_skip ?_)
        |(refine C_exit ?_)
        |(refine C_ret ?_)
        |(refine C_block ?_)))
    |(refine gE ?_;(first
        |(refine E_then ?_)
        |(refine E_thenX ?_)
        |(refine E_thenR ?_)
        |(refine E_block ?_)
        |(refine E_blockY ?_)
        |(refine E_blockR ?_)
        |(refine E_calm ?_)
        |(apply E_ret1 rfl;(first|exact Res.tmp rfl|(apply R_cellAll rfl;(focus ((repeat (first|exact mH|refine mT ?_));done));exact T.rw24)|(apply R_cell1 rfl;(focus ((repeat (first|exact mH|refine mT ?_));done));fail))))))
  · refine retN ?_
    congr 1
    refine (List.any_eq_true.2 ⟨_, List.mem_of_getElem? hq1, ?_⟩).symm
    exact decide_eq_true (Eq.symm (by assumption))
  · refine E_round (α := Nat) (i + 1) ⟨by omega, fun j hj => ?_⟩ (by omega) ⟨rfl, rfl, rfl, trivial⟩ (List.Sublist.refl _)
    rcases Nat.lt_or_ge j i with h | h
    · exact hal j h
    · have : j = i := by omega
      subst this
      assumption
  · refine retN ?_
    congr 1
    refine (List.any_eq_false.2 fun y hy => ?_).symm
    obtain ⟨j, hj⟩ := List.getElem?_of_mem hy
    have hlt : j < l.length := (List.getElem?_eq_some_iff.1 hj).1
    have e : y = ix l j := Option.some.inj (hj.symm.trans (nthD (by omega)))
    rw [e]
    intro h
    exact hal j (by omega) (of_decide_eq_true h).symm
/-- the place of the first slot alike -/
theorem l14SlotF_c (x : MSFragSlot) (p : MFragPacket) (hl : Short x.2) (he : ∀ y ∈ x.2, 1 ≤ y.1.2.length ∧ fragOk (headS y) = true) (hp : p.2.2.2.2.2.2.2.2.2.length ≤ 1048576) (hpo : fragOk (ctFragPacket p) = true) (w : World) (hx : Rds w (rwSFragSlot x)) (hr : Rds w (rwFragPacket p)) :
    Calls Try.prog 72 #[x.1, .agg (clFragPacket p).toArray] w (RetX (firstOf (fun y => likeC (headS y) (ctFragPacket p)) x.2) (fun k => .int .i64 k) (fun _ => []) w) := by
  obtain ⟨v, l⟩ := x
  have hm := Rds.head hx
  have hlen := hm.len
  simp only [maxLen] at hlen
  have hel := sl_el hl hx
  dsimp only at *
  have hal1 : ∀ y ∈ l, alikeC (headS y) (ctFragPacket p) = likeC (headS y) (ctFragPacket p) := fun y hy => by
    unfold alikeC; rw [(he y hy).2, hpo]; rfl
  refine enter (n := 22) (E := [(0, _), (1, _)]) Try.func72 rfl rfl rfl rfl ?_
  repeat' (first
    |(refine gS ?_;(first
        |(refine S_assign rfl rfl ?_)
        |(refine S_box rfl rfl rfl ?_;intro kb)
        |(refine S_done ?_)))
    |(refine gC ?_;(first
        |(refine C_seq ?_)
        |(refine gReg ?_;(first
            |(refine gReg (i := 0) ?_;refine C_plain [(0,2),(1,0)] (by kernel_rfl) (s := [⟨2,none,_,_,_⟩,⟨0,none,_,_,_⟩]) rfl ?_)
            |(refine gReg (i := 1) ?_;refine C_plain [(0,0)] (by kernel_rfl) (s := [⟨0,none,_,_,_⟩]) rfl ?_)))
        |(refine C_block ?_)))
    |(refine gE ?_;(first
        |(refine E_then ?_))))
  revert kb; intro kr
  refine C_loop (α := Nat) (fun i => [(5, .int .i64 (i : Int)), (4, .int .i64 0), (3, .pointer (some ⟨kr, 0, none⟩)), (0, v)]) (fun _ => [.blk kr 24 (clFragPacket p)]) (fun i => i ≤ l.length ∧ ∀ j, j < i → likeC (headS (ix l j)) (ctFragPacket p) = false) (fun i => l.length - i) 0 ⟨Nat.zero_le _, fun j h => by omega⟩ ⟨rfl, rfl, rfl, rfl, trivial⟩ (List.Sublist.refl _) ?_
  rintro i ⟨hi, hal⟩
  repeat' (first
    |(refine gS ?_;(first
        |(refine S_move rfl rfl ?_)
        |(refine S_assign rfl rfl ?_)
        |(apply F_fieldS rfl rfl;exact T.fl67_0;(focus (first|exact len_nil|(apply len_given;assumption)|(apply len_row;(focus ((repeat (first|exact mH|refine mT ?_));done)))|(apply len_isN;assumption)));(focus omega))
        |(apply F_idx rfl rfl rfl;(first|exact T.sl27|exact T.sl43);(focus rfl);(focus (first|exact len_nil|(apply len_given;assumption)|(apply len_row;(focus ((repeat (first|exact mH|refine mT ?_));done)))|(apply len_isN;assumption)));(focus omega))
        |(refine gLoad ?_;(first
            |(apply F_loadAll rfl rfl;(focus ((repeat (first|exact mH|refine mT ?_));done));exact T.rw24;(focus (first|exact free0|exact free1)))
            |(apply F_loadS1 rfl rfl;exact T.sc27;(focus (first|exact rd_nil|(apply rd_given;(focus assumption);(focus (first|exact freeG0|exact freeG1)))|(apply rd_row;(focus ((repeat (first|exact mH|refine mT ?_));done));(focus (first|exact freeR0|exact freeR1)))));(focus (first|(apply at_cell;(focus (apply at_flat;(focus (intro _;rfl));(focus assumption)));rfl)|(apply at_cell0;(focus (apply at_flat;(focus (intro _;rfl));(focus assumption)));rfl)|(apply at_cell;(focus (apply at_mid0;(focus assumption)));rfl)|(apply at_cell0;(focus (apply at_mid0;(focus assumption)));rfl)|rfl)))
            |(apply F_loadSN rfl rfl;exact T.rw24;(focus (first|exact rd_nil|(apply rd_given;(focus assumption);(focus (first|exact freeG0|exact freeG1)))|(apply rd_row;(focus ((repeat (first|exact mH|refine mT ?_));done));(focus (first|exact freeR0|exact freeR1)))));(focus (first|(focus (apply at_flat;(focus (intro _;rfl));(focus assumption)))|exact at_self));rfl;rfl)))
        |(refine gCall ?_;(first
            |(show GoS _ _ _ _ _ _ _ (⟨_,_,_,.call ⟨.value (.func 45),_,_⟩,_⟩ :: _);refine S_callN (f := 45) rfl T.pf45 rfl (fun w hst => specFragAlike_c _ _ (by assumption) hp w (by first|(refine Rds.given hst ?_;assumption)|(apply Rds.many hst;(focus ((repeat (first|exact mH|refine mT ?_));done)))|(apply Rds.row hst;(focus ((repeat (first|exact mH|refine mT ?_));done)))) (Rds.given hst hr)) rfl ?_)
            |(apply F_len rfl rfl rfl;(focus exact ⟨_,_,by (first|exact T.sl27|exact T.sl43)⟩);(focus (first|exact len_nil|(apply len_given;assumption)|(apply len_row;(focus ((repeat (first|exact mH|refine mT ?_));done)))|(apply len_isN;assumption))))))
        |(refine gBin ?_;(first
            |(refine S_lss rfl rfl rfl ?_)
            |(refine S_add rfl rfl ?_ rfl ?_;(focus (unfold rng;omega)))))
        |(refine S_done ?_)))
    |(refine gC ?_;(first
        |(refine C_seq ?_)
        |(refine gReg ?_;(first
            |(refine gReg (i := 2) ?_;refine C_plain [(0,0),(1,0),(2,0),(3,0)] (by kernel_rfl) (s := [⟨0,none,_,_,_⟩,⟨0,none,_,_,_⟩,⟨0,none,_,_,_⟩,⟨0,none,_,_,_⟩]) rfl ?_)
            |(refine gReg (i := 4) ?_;refine C_drawn [(0,0),(1,0),(2,0),(3,0),(4,0),(5,0),(6,0),(7,0),(8,1)] [] T.mixed (by kernel_rfl) (s := [⟨0,none,_,_,_⟩,⟨0,none,_,_,_⟩,⟨0,none,_,_,_⟩,⟨0,none,_,_,_⟩,⟨0,none,_,_,_⟩,⟨0,none,_,_,_⟩,⟨0,none,_,_,_⟩,⟨0,none,_,_,_⟩,⟨1,none,_,_,_⟩]) rfl ?_)
            |(refine gReg (i := 5) ?_;refine C_plain [(0,0),(1,0)] (by kernel_rfl) (s := [⟨0,none,_,_,_⟩,⟨0,none,_,_,_⟩]) rfl ?_)
            |(refine gReg (i := 3) ?_;refine C_plain [(0,0),(1,0),(2,0)] (by kernel_rfl) (s := [⟨0,none,_,_,_⟩,⟨0,none,_,_,_⟩,⟨0,none,_,_,_⟩]) rfl ?_)
            |(refine gReg (i := 6) ?_;refine C_plain [(0,0)] (by kernel_rfl) (s := [⟨0,none,_,_,_⟩]) rfl ?_)))
        |(refine C_split rfl ?_ ?_ <;> (intro hb;(try simp only [decide_eq_true_eq] at hb);(try simp only [decide_eq_false_iff_not] at hb);(try simp only [Bool.not_eq_true'] at hb);(try simp only [Bool.not_eq_false'] at hb);(try (exfalso;first|contradiction|omega));(try (have hq := hel i hb));(try (have hq1 := hq.1));(try (have hmm := List.mem_of_getElem? hq.1));(try (have hg := sl_head hq.2.1 (he _ hmm).1 hq.2.2.2));(try (have hg1 := hg.1));(try (have hg2 := hg.2.1));(try (have hg3 := hg.2.2.1));(try (have hg4 := hg.2.2.2.1));(try (have hg5 := hg.2.2.2.2.1));(try (have hg6 := hg.2.2.2.2.2));(try (have hg7 := oneFragPacket hg3))))
        |(refine C_skip ?_)
        |(refine C_exit ?_)
        |(refine C_ret ?_)
        |(refine C_block ?_)))
    |(refine gE ?_;(first
        |(refine E_then ?_)
        |(refine E_thenX ?_)
        |(refine E_thenR ?_)
        |(refine E_block ?_)
        |(refine E_blockY ?_)
        |(refine E_blockR ?_)
        |(refine E_calm ?_)
        |(apply E_ret1 rfl;(first|exact Res.tmp rfl|(apply R_cellAll rfl;(focus ((repeat (first|exact mH|refine mT ?_));done));exact T.rw24)|(apply R_cell1 rfl;(focus ((repeat (first|exact mH|refine mT ?_));done));exact T.sc27))))))
  · refine retX (i : Int) (.inr ⟨i,rfl,by omega,?_,hal⟩) rfl entA
    show likeC (headS (ix l i)) _ = true
    rw [← hal1 _ hmm, hg5]; assumption
  · refine E_round (α := Nat) (i + 1) ⟨by omega, fun j hj => ?_⟩ (by omega) ⟨rfl, rfl, rfl, rfl, trivial⟩ (List.Sublist.refl _)
    rcases Nat.lt_or_ge j i with h | h
    · exact hal j h
    · have : j = i := by omega
      subst this
      rw [← hal1 _ hmm, hg5]; assumption
  · exact retX (-1 : Int) (.inl ⟨rfl,fun j hj => hal j (by omega)⟩) rfl entA
end Go.Proofs.Ytodhjpnfokkfeaa

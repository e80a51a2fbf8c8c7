/- Whether two pieces agree, by both functions. -/
import Derived.Test.YtodhjpnfokkfeaaFragi
set_option linter.unusedSimpArgs false
set_option linter.unusedVariables false
namespace Go.Proofs.Ytodhjpnfokkfeaa
open Go Go.RowKit
attribute [local irreducible] Calls GoS GoC GoE IsFl IsSc IsRw IsSl IsEl IsSt IsFs sp Mem Rd LenOf szR
theorem agree_fin {c d : CFragPacket} (h : ∀ a, offP c ≤ a → a < endP c → offP d ≤ a → a < endP d → byteP c a = byteP d a) : agreeB c d = ((moreP c || decide (endP d ≤ endP c)) && (moreP d || decide (endP c ≤ endP d))) := by
  rw [Bool.eq_iff_iff, agreeB_iff]
  simp only [Bool.and_eq_true, Bool.or_eq_true, decide_eq_true_eq]
  constructor
  · intro g
    refine ⟨?_, ?_⟩
    · cases hm : moreP c
      · exact .inr (g.left hm)
      · exact .inl rfl
    · cases hm : moreP d
      · exact .inr (g.right hm)
      · exact .inl rfl
  · rintro ⟨h1, h2⟩
    exact ⟨h, fun hm => by simpa [hm] using h1, fun hm => by simpa [hm] using h2⟩
theorem disagree_c (x y : MFragPacket) (hx0 : 0 ≤ x.2.2.2.2.2.2.1 ∧ x.2.2.2.2.2.2.1 ≤ 128) (hy0 : 0 ≤ y.2.2.2.2.2.2.1 ∧ y.2.2.2.2.2.2.1 ≤ 128) (hl : x.2.2.2.2.2.2.2.2.2.length ≤ 1048576) (hl2 : y.2.2.2.2.2.2.2.2.2.length ≤ 1048576) (w : World) (hx : Rds w (rwFragPacket x)) (hy : Rds w (rwFragPacket y)) : Calls Try.prog 59 #[.agg (clFragPacket x).toArray, .agg (clFragPacket y).toArray] w (RetN (.bool (!agreeB (ctFragPacket x) (ctFragPacket y))) w) := by
  have hm := Rds.head hx
  have hm2 := Rds.head hy
  obtain ⟨cx, hcx⟩ : ∃ c, c = ctFragPacket x := ⟨_, rfl⟩
  obtain ⟨cy, hcy⟩ : ∃ c, c = ctFragPacket y := ⟨_, rfl⟩
  have e1 : offP cx = x.2.2.2.2.2.2.1 := by rw [hcx]; rfl
  have e2 : offP cy = y.2.2.2.2.2.2.1 := by rw [hcy]; rfl
  have e3 : endP cx = x.2.2.2.2.2.2.1 + (x.2.2.2.2.2.2.2.2.2.length : Int) := by rw [hcx]; rfl
  have e4 : endP cy = y.2.2.2.2.2.2.1 + (y.2.2.2.2.2.2.2.2.2.length : Int) := by rw [hcy]; rfl
  have e5 : moreP cx = x.2.2.2.2.2.2.2.1 := by rw [hcx]; rfl
  have e6 : moreP cy = y.2.2.2.2.2.2.2.1 := by rw [hcy]; rfl
  have e7 : ∀ a, byteP cx a = ix x.2.2.2.2.2.2.2.2.2 (a - x.2.2.2.2.2.2.1).toNat := fun a => by rw [hcx]; rfl
  have e8 : ∀ a, byteP cy a = ix y.2.2.2.2.2.2.2.2.2 (a - y.2.2.2.2.2.2.1).toNat := fun a => by rw [hcy]; rfl
  rw [← hcx, ← hcy]
  refine enter (n := 59) (E := [(0, _), (1, _)]) Try.func59 rfl rfl rfl rfl ?_
  repeat' (first
    |(refine gS ?_;(first
        |(refine S_assign rfl rfl ?_)
        |(apply F_field rfl rfl;(first|exact T.fl24_6|exact T.fl24_7|exact T.fl24_8))
        |(refine gLoad ?_;(first
            |(apply F_load1 rfl rfl;(focus ((repeat (first|exact mH|refine mT ?_));done));(first|exact T.sc3|exact T.sc4|exact T.sc5|exact T.sc22);rfl;(focus (first|exact free0|exact free1)))))
        |(refine gCall ?_;(first
            |(refine S_max rfl rfl rfl ?_)))
        |(refine S_box rfl rfl rfl ?_;intro kb)
        |(refine S_done ?_)))
    |(refine gC ?_;(first
        |(refine C_seq ?_)
        |(refine gReg ?_;(first
            |(refine gReg (i := 0) ?_;refine C_plain [(0,2),(1,2),(2,0)] (by kernel_rfl) (s := [⟨2,none,_,_,_⟩,⟨2,none,_,_,_⟩,⟨0,none,_,_,_⟩]) rfl ?_)
            |(refine gReg (i := 1) ?_;refine C_plain [(0,0),(1,0),(2,0),(3,0),(4,0),(5,0)] (by kernel_rfl) (s := [⟨0,none,_,_,_⟩,⟨0,none,_,_,_⟩,⟨0,none,_,_,_⟩,⟨0,none,_,_,_⟩,⟨0,none,_,_,_⟩,⟨0,none,_,_,_⟩]) rfl ?_)))
        |(refine C_block ?_)))
    |(refine gE ?_;(first
        |(refine E_then ?_))))
  rename_i kx
  refine C_loop (α := Int) (fun a => [(5, .int .i64 a), (4, .bool false), (2, .pointer (some ⟨kx, 0, none⟩)), (3, .pointer (some ⟨kb, 0, none⟩))]) (fun _ => [.blk kb 24 (clFragPacket y), .blk kx 24 (clFragPacket x)])
    (fun a => x.2.2.2.2.2.2.1 ≤ a ∧ y.2.2.2.2.2.2.1 ≤ a ∧ a ≤ 2000000 ∧ ∀ z, offP cx ≤ z → offP cy ≤ z → z < a → z < endP cx → z < endP cy → byteP cx z = byteP cy z) (fun a => (2000000 - a).toNat) _ ⟨by omega, by omega, by omega, fun z h1 h2 h3 => by omega⟩ ⟨rfl, rfl, rfl, rfl, trivial⟩ (List.Sublist.refl _) ?_
  rintro a ⟨h1, h2, h3, hag⟩
  have hx' : a < min (x.2.2.2.2.2.2.1 + (x.2.2.2.2.2.2.2.2.2.length : Int)) (y.2.2.2.2.2.2.1 + (y.2.2.2.2.2.2.2.2.2.length : Int)) → x.2.2.2.2.2.2.2.2.2[(a - x.2.2.2.2.2.2.1).toNat]? = some (ix x.2.2.2.2.2.2.2.2.2 (a - x.2.2.2.2.2.2.1).toNat) := fun h => nthD (by omega)
  have hy' : a < min (x.2.2.2.2.2.2.1 + (x.2.2.2.2.2.2.2.2.2.length : Int)) (y.2.2.2.2.2.2.1 + (y.2.2.2.2.2.2.2.2.2.length : Int)) → y.2.2.2.2.2.2.2.2.2[(a - y.2.2.2.2.2.2.1).toNat]? = some (ix y.2.2.2.2.2.2.2.2.2 (a - y.2.2.2.2.2.2.1).toNat) := fun h => nthD (by omega)
  have hfin : ¬ a < min (x.2.2.2.2.2.2.1 + (x.2.2.2.2.2.2.2.2.2.length : Int)) (y.2.2.2.2.2.2.1 + (y.2.2.2.2.2.2.2.2.2.length : Int)) → agreeB cx cy = ((x.2.2.2.2.2.2.2.1 || decide (y.2.2.2.2.2.2.1 + (y.2.2.2.2.2.2.2.2.2.length : Int) ≤ x.2.2.2.2.2.2.1 + (x.2.2.2.2.2.2.2.2.2.length : Int))) && (y.2.2.2.2.2.2.2.1 || decide (x.2.2.2.2.2.2.1 + (x.2.2.2.2.2.2.2.2.2.length : Int) ≤ y.2.2.2.2.2.2.1 + (y.2.2.2.2.2.2.2.2.2.length : Int)))) := fun h => by
    rw [agree_fin fun z g1 g2 g3 g4 => hag z g1 g3 (by omega) g2 g4, e5, e6, e3, e4]
  repeat' (first
    |(refine gS ?_;(first
        |(refine gGuard ?_;(first
            |(refine S_on rfl ?_)
            |(refine S_off rfl rfl rfl ?_)
            |(refine S_offU rfl rfl ?_)
            |(refine S_gsplit rfl ?_ ?_ <;> (intro hb;(try simp only [decide_eq_true_eq] at hb);(try simp only [decide_eq_false_iff_not] at hb);(try simp only [Bool.not_eq_true'] at hb);(try simp only [Bool.not_eq_false'] at hb);(try (exfalso;first|contradiction|omega));(try (have hxn := hx' hb));(try (have hyn := hy' hb));(try (have hf := hfin hb))))))
        |(refine S_move rfl rfl ?_)
        |(refine S_assign rfl rfl ?_)
        |(apply F_field rfl rfl;(first|exact T.fl24_6|exact T.fl24_7|exact T.fl24_8))
        |(apply F_idx (K := (a - x.2.2.2.2.2.2.1).toNat) rfl rfl rfl;exact T.sl22;(focus omega);(focus (first|exact len_nil|(apply len_given;assumption)|(apply len_row;(focus ((repeat (first|exact mH|refine mT ?_));done)))|(apply len_isN;assumption)));(focus omega))
        |(apply F_idx (K := (a - y.2.2.2.2.2.2.1).toNat) rfl rfl rfl;exact T.sl22;(focus omega);(focus (first|exact len_nil|(apply len_given;assumption)|(apply len_row;(focus ((repeat (first|exact mH|refine mT ?_));done)))|(apply len_isN;assumption)));(focus omega))
        |(refine gLoad ?_;(first
            |(apply F_load1 rfl rfl;(focus ((repeat (first|exact mH|refine mT ?_));done));(first|exact T.sc3|exact T.sc4|exact T.sc5|exact T.sc22);rfl;(focus (first|exact free0|exact free1)))
            |(apply F_loadAll rfl rfl;(focus ((repeat (first|exact mH|refine mT ?_));done));exact T.rw24;(focus (first|exact free0|exact free1)))
            |(apply F_loadS1 rfl rfl;(first|exact T.sc3|exact T.sc4|exact T.sc5|exact T.sc22);(focus (first|exact rd_nil|(apply rd_given;(focus assumption);(focus (first|exact freeG0|exact freeG1)))|(apply rd_row;(focus ((repeat (first|exact mH|refine mT ?_));done));(focus (first|exact freeR0|exact freeR1)))));(focus (first|(apply at_cell;(focus (apply at_flat;(focus (intro _;rfl));(focus assumption)));rfl)|(apply at_cell0;(focus (apply at_flat;(focus (intro _;rfl));(focus assumption)));rfl)|(apply at_cell;(focus (apply at_mid0;(focus assumption)));rfl)|(apply at_cell0;(focus (apply at_mid0;(focus assumption)));rfl)|rfl)))))
        |(refine gCall ?_;(first
            |(show GoS _ _ _ _ _ _ _ (⟨_,_,_,.call ⟨.value (.func 60),_,_⟩,_⟩ :: _);refine S_callN (f := 60) rfl T.pf60 rfl (fun w hst => end_c _ (by assumption) (by assumption) w (by first|(refine Rds.given hst ?_;assumption)|(apply Rds.many hst;(focus ((repeat (first|exact mH|refine mT ?_));done)))|(apply Rds.row hst;(focus ((repeat (first|exact mH|refine mT ?_));done))))) rfl ?_)
            |(refine S_min rfl rfl rfl ?_)))
        |(refine gBin ?_;(first
            |(refine S_lss rfl rfl rfl ?_)
            |(refine S_gtr rfl rfl rfl ?_)
            |(refine S_neq rfl rfl rfl ?_)
            |(refine S_add rfl rfl ?_ rfl ?_;(focus (unfold rng;omega)))
            |(refine S_sub rfl rfl ?_ rfl ?_;(focus (unfold rng;omega)))))
        |(refine gPick ?_;(first
            |(refine S_pickT rfl rfl rfl ?_)
            |(refine S_pickF rfl rfl rfl ?_)))
        |(refine S_not rfl rfl ?_)
        |(refine S_done ?_)))
    |(refine gC ?_;(first
        |(refine C_seq ?_)
        |(refine gReg ?_;(first
            |(refine gReg (i := 2) ?_;refine C_drawn [(0,0),(1,0),(3,0),(2,1),(4,1),(5,0),(6,0)] [] T.mixed (by kernel_rfl) (s := [⟨0,none,_,_,_⟩,⟨0,none,_,_,_⟩,⟨0,none,_,_,_⟩,⟨1,none,_,_,_⟩,⟨1,none,_,_,_⟩,⟨0,none,_,_,_⟩,⟨0,none,_,_,_⟩]) rfl ?_)
            |(refine gReg (i := 4) ?_;refine C_drawn [(0,0),(1,0),(2,0),(3,0),(4,0),(5,0),(6,0),(7,0),(8,0),(9,0),(10,0),(11,0),(12,0),(13,0),(14,0),(15,0),(16,0)] [] T.mixed (by kernel_rfl) (s := [⟨0,none,_,_,_⟩,⟨0,none,_,_,_⟩,⟨0,none,_,_,_⟩,⟨0,none,_,_,_⟩,⟨0,none,_,_,_⟩,⟨0,none,_,_,_⟩,⟨0,none,_,_,_⟩,⟨0,none,_,_,_⟩,⟨0,none,_,_,_⟩,⟨0,none,_,_,_⟩,⟨0,none,_,_,_⟩,⟨0,none,_,_,_⟩,⟨0,none,_,_,_⟩,⟨0,none,_,_,_⟩,⟨0,none,_,_,_⟩,⟨0,none,_,_,_⟩,⟨0,none,_,_,_⟩]) rfl ?_)
            |(refine gReg (i := 5) ?_;refine C_plain [(0,0)] (by kernel_rfl) (s := [⟨0,none,_,_,_⟩]) rfl ?_)
            |(refine gReg (i := 3) ?_;refine C_plain [(0,0),(1,0),(2,0)] (by kernel_rfl) (s := [⟨0,none,_,_,_⟩,⟨0,none,_,_,_⟩,⟨0,none,_,_,_⟩]) rfl ?_)
            |(refine gReg (i := 6) ?_;refine C_drawn [(0,0),(1,0),(2,0),(3,0),(4,0),(6,0),(5,1),(7,1),(8,0),(9,0),(10,0),(11,0),(12,0),(13,0),(14,0),(15,0),(17,0),(16,1),(18,1),(19,0),(20,0),(21,0),(22,0)] [] T.mixed (by kernel_rfl) (s := [⟨0,none,_,_,_⟩,⟨0,none,_,_,_⟩,⟨0,none,_,_,_⟩,⟨0,none,_,_,_⟩,⟨0,some (40,true),_,_,_⟩,⟨0,some (40,true),_,_,_⟩,⟨1,some (40,true),_,_,_⟩,⟨1,some (40,true),_,_,_⟩,⟨0,some (40,true),_,_,_⟩,⟨0,none,_,_,_⟩,⟨0,none,_,_,_⟩,⟨0,some (47,false),_,_,_⟩,⟨0,some (47,false),_,_,_⟩,⟨0,some (47,false),_,_,_⟩,⟨0,some (47,false),_,_,_⟩,⟨0,some (51,true),_,_,_⟩,⟨0,some (51,true),_,_,_⟩,⟨1,some (51,true),_,_,_⟩,⟨1,some (51,true),_,_,_⟩,⟨0,some (51,true),_,_,_⟩,⟨0,some (47,false),_,_,_⟩,⟨0,none,_,_,_⟩,⟨0,none,_,_,_⟩]) rfl ?_)))
        |(refine C_split rfl ?_ ?_ <;> (intro hb;(try simp only [decide_eq_true_eq] at hb);(try simp only [decide_eq_false_iff_not] at hb);(try simp only [Bool.not_eq_true'] at hb);(try simp only [Bool.not_eq_false'] at hb);(try (exfalso;first|contradiction|omega));(try (have hxn := hx' hb));(try (have hyn := hy' hb));(try (have hf := hfin hb))))
        |(refine C_skip ?_)
        |(refine C_exit ?_)
        |(refine C_ret ?_)
        |(refine C_block ?_)))
    |(refine gE ?_;(first
        |(refine E_then ?_)
        |(refine E_thenX ?_)
        |(refine E_thenR ?_)
        |(refine E_block ?_)
        |(refine E_blockY ?_)
        |(refine E_blockR ?_)
        |(refine E_calm ?_)
        |(apply E_ret1 rfl;(first|exact Res.tmp rfl|(apply R_cellAll rfl;(focus ((repeat (first|exact mH|refine mT ?_));done));exact T.rw24)|(apply R_cell1 rfl;(focus ((repeat (first|exact mH|refine mT ?_));done));(first|exact T.sc3|exact T.sc4|exact T.sc5|exact T.sc22)))))))
  · have : agreeB cx cy = false := agreeB_f.2 fun g => hb (by have := g.byte a (by omega) (by omega) (by omega) (by omega); rwa [e7, e8] at this)
    refine retN ?_
    rw [this]; rfl
  · refine E_round (α := Int) (a + 1) ⟨by omega, by omega, by omega, fun z g1 g2 g3 g4 g5 => ?_⟩ (by omega) ⟨rfl, rfl, rfl, rfl, trivial⟩ (List.Sublist.refl _)
    rcases Int.lt_or_le z a with h | h
    · exact hag z g1 g2 h g4 g5
    · have : z = a := by omega
      subst this
      rw [e7, e8]; simpa using hb
  all_goals
    refine retN ?_
    rw [hf]
    congr 1
    rw [Bool.eq_iff_iff]
    simp_all
    try omega
theorem l13Has_c (x : MFragPacket) (a : Int) (hx0 : 0 ≤ x.2.2.2.2.2.2.1 ∧ x.2.2.2.2.2.2.1 ≤ 128) (hl : x.2.2.2.2.2.2.2.2.2.length ≤ 1048576) (w : World) (hx : Rds w (rwFragPacket x)) : Calls Try.prog 100 #[.agg (clFragPacket x).toArray, .int .i64 a] w (RetN (.bool (hasB (ctFragPacket x) a)) w) := by
  have hm := Rds.head hx
  refine enter (n := 19) (E := [(0, _), (1, _)]) Try.func100 rfl rfl rfl rfl ?_
  repeat' (first
    |(refine gS ?_;(first
        |(refine gGuard ?_;(first
            |(refine S_on rfl ?_)
            |(refine S_off rfl rfl rfl ?_)
            |(refine S_gsplit rfl ?_ ?_ <;> (intro hb;(try simp only [decide_eq_true_eq] at hb);(try simp only [decide_eq_false_iff_not] at hb);(try simp only [Bool.not_eq_true'] at hb);(try simp only [Bool.not_eq_false'] at hb);(try (exfalso;first|contradiction|omega))))))
        |(refine S_move rfl rfl ?_)
        |(refine S_assign rfl rfl ?_)
        |(apply F_field rfl rfl;(first|exact T.fl24_6|exact T.fl24_8))
        |(refine gLoad ?_;(first
            |(apply F_load1 rfl rfl;(focus ((repeat (first|exact mH|refine mT ?_));done));(first|exact T.sc3|exact T.sc22);rfl;(focus (first|exact free0|exact free1)))))
        |(refine gCall ?_;(first
            |(apply F_len rfl rfl rfl;(focus exact ⟨_,_,by exact T.sl22⟩);(focus (first|exact len_nil|(apply len_given;assumption)|(apply len_row;(focus ((repeat (first|exact mH|refine mT ?_));done)))|(apply len_isN;assumption))))))
        |(refine gBin ?_;(first
            |(refine S_lss rfl rfl rfl ?_)
            |(refine S_geq rfl rfl rfl ?_)
            |(refine S_add rfl rfl ?_ rfl ?_;(focus (unfold rng;omega)))))
        |(refine gPick ?_;(first
            |(refine S_pickT rfl rfl rfl ?_)
            |(refine S_pickF rfl rfl rfl ?_)))
        |(refine S_box rfl rfl rfl ?_;intro kb)
        |(refine S_done ?_)))
    |(refine gC ?_;(first
        |(refine C_seq ?_)
        |(refine gReg ?_;(first
            |(refine gReg (i := 0) ?_;refine C_plain [(0,2),(1,0)] (by kernel_rfl) (s := [⟨2,none,_,_,_⟩,⟨0,none,_,_,_⟩]) rfl ?_)
            |(refine gReg (i := 1) ?_;refine C_plain [(0,0),(1,0),(2,0),(3,0),(4,0),(5,0),(6,0),(7,0),(8,0),(9,0),(10,0),(11,0),(12,0),(13,0),(14,0)] (by kernel_rfl) (s := [⟨0,none,_,_,_⟩,⟨0,none,_,_,_⟩,⟨0,none,_,_,_⟩,⟨0,none,_,_,_⟩,⟨0,none,_,_,_⟩,⟨0,some (9,true),_,_,_⟩,⟨0,some (9,true),_,_,_⟩,⟨0,some (9,true),_,_,_⟩,⟨0,some (9,true),_,_,_⟩,⟨0,some (9,true),_,_,_⟩,⟨0,some (9,true),_,_,_⟩,⟨0,some (9,true),_,_,_⟩,⟨0,some (9,true),_,_,_⟩,⟨0,none,_,_,_⟩,⟨0,none,_,_,_⟩]) rfl ?_)))
        |(refine C_ret ?_)))
    |(refine gE ?_;(first
        |(refine E_then ?_)
        |(apply E_ret1 rfl;(first|exact Res.tmp rfl|(apply R_cellAll rfl;(focus ((repeat (first|exact mH|refine mT ?_));done));fail)|(apply R_cell1 rfl;(focus ((repeat (first|exact mH|refine mT ?_));done));(first|exact T.sc3|exact T.sc22)))))))
  · refine retN ?_
    have h1 : x.2.2.2.2.2.2.1 ≤ a := by assumption
    show _ = Value.bool (decide (x.2.2.2.2.2.2.1 ≤ a) && decide (a < x.2.2.2.2.2.2.1 + (x.2.2.2.2.2.2.2.2.2.length : Int)))
    rw [decide_eq_true h1, Bool.true_and]
  · refine retN ?_
    have h1 : ¬ x.2.2.2.2.2.2.1 ≤ a := by assumption
    show _ = Value.bool (decide (x.2.2.2.2.2.2.1 ≤ a) && decide (a < x.2.2.2.2.2.2.1 + (x.2.2.2.2.2.2.2.2.2.length : Int)))
    rw [decide_eq_false h1, Bool.false_and]
/-- the bytes that both have are the same -/
def sameB (c d : CFragPacket) : Prop := ∀ a, offP c ≤ a → a < endP c → offP d ≤ a → a < endP d → byteP c a = byteP d a
theorem l13Against_c (x y : MFragPacket) (hx0 : 0 ≤ x.2.2.2.2.2.2.1 ∧ x.2.2.2.2.2.2.1 ≤ 128) (hy0 : 0 ≤ y.2.2.2.2.2.2.1 ∧ y.2.2.2.2.2.2.1 ≤ 128) (hl : x.2.2.2.2.2.2.2.2.2.length ≤ 1048576) (hl2 : y.2.2.2.2.2.2.2.2.2.length ≤ 1048576) (w : World) (hx : Rds w (rwFragPacket x)) (hy : Rds w (rwFragPacket y)) : Calls Try.prog 99 #[.agg (clFragPacket x).toArray, .agg (clFragPacket y).toArray] w (RetX (fun b : Bool => b = false ↔ Side (ctFragPacket x) (ctFragPacket y)) (fun b => .bool b) (fun _ => []) w) := by
  have hx9 := hx
  have hy9 := hy
  have hm := Rds.head hx
  have hm2 := Rds.head hy
  obtain ⟨cx, hcx⟩ : ∃ c, c = ctFragPacket x := ⟨_, rfl⟩
  obtain ⟨cy, hcy⟩ : ∃ c, c = ctFragPacket y := ⟨_, rfl⟩
  have e1 : offP cx = x.2.2.2.2.2.2.1 := by rw [hcx]; rfl
  have e2 : offP cy = y.2.2.2.2.2.2.1 := by rw [hcy]; rfl
  have e3 : endP cx = x.2.2.2.2.2.2.1 + (x.2.2.2.2.2.2.2.2.2.length : Int) := by rw [hcx]; rfl
  have e4 : endP cy = y.2.2.2.2.2.2.1 + (y.2.2.2.2.2.2.2.2.2.length : Int) := by rw [hcy]; rfl
  have e5 : moreP cx = x.2.2.2.2.2.2.2.1 := by rw [hcx]; rfl
  have e6 : moreP cy = y.2.2.2.2.2.2.2.1 := by rw [hcy]; rfl
  have e7 : ∀ a, byteP cx a = ix x.2.2.2.2.2.2.2.2.2 (a - x.2.2.2.2.2.2.1).toNat := fun a => by rw [hcx]; rfl
  have e8 : ∀ a, byteP cy a = ix y.2.2.2.2.2.2.2.2.2 (a - y.2.2.2.2.2.2.1).toNat := fun a => by rw [hcy]; rfl
  rw [← hcx, ← hcy]
  refine enter (n := 72) (E := [(0, _), (1, _)]) Try.func99 rfl rfl rfl rfl ?_
  repeat' (first
    |(refine gS ?_;(first
        |(refine S_assign rfl rfl ?_)
        |(apply F_field rfl rfl;(first|exact T.fl24_6|exact T.fl24_7|exact T.fl24_8))
        |(refine gLoad ?_;(first
            |(apply F_load1 rfl rfl;(focus ((repeat (first|exact mH|refine mT ?_));done));(first|exact T.sc3|exact T.sc4|exact T.sc5|exact T.sc22);rfl;(focus (first|exact free0|exact free1)))))
        |(refine S_box rfl rfl rfl ?_;intro kb)
        |(refine S_done ?_)))
    |(refine gC ?_;(first
        |(refine C_seq ?_)
        |(refine gReg ?_;(first
            |(refine gReg (i := 0) ?_;refine C_plain [(0,2),(1,2),(2,0)] (by kernel_rfl) (s := [⟨2,none,_,_,_⟩,⟨2,none,_,_,_⟩,⟨0,none,_,_,_⟩]) rfl ?_)
            |(refine gReg (i := 1) ?_;refine C_plain [(0,0),(1,0),(2,0)] (by kernel_rfl) (s := [⟨0,none,_,_,_⟩,⟨0,none,_,_,_⟩,⟨0,none,_,_,_⟩]) rfl ?_)))
        |(refine C_block ?_)))
    |(refine gE ?_;(first
        |(refine E_then ?_))))
  rename_i kx
  refine C_loop (α := Int) (fun a => [(5, .int .i64 a), (4, .bool false), (2, .pointer (some ⟨kx, 0, none⟩)), (3, .pointer (some ⟨kb, 0, none⟩))]) (fun _ => [.blk kb 24 (clFragPacket y), .blk kx 24 (clFragPacket x)])
    (fun a => x.2.2.2.2.2.2.1 ≤ a ∧ a ≤ 2000000 ∧ ∀ z, offP cx ≤ z → z < a → z < endP cx → offP cy ≤ z → z < endP cy → byteP cx z = byteP cy z) (fun a => (2000000 - a).toNat) _ ⟨by omega, by omega, fun z h1 h2 => by omega⟩ ⟨rfl, rfl, rfl, rfl, trivial⟩ (List.Sublist.refl _) ?_
  rintro a ⟨h1, h3, hag⟩
  obtain ⟨hh, hhe⟩ : ∃ b, hasB cy a = b := ⟨_, rfl⟩
  have hhas : ∀ w1, Ext w w1 → Calls Try.prog 100 #[.agg (clFragPacket y).toArray, .int .i64 a] w1 (RetN (.bool hh) w1) := fun w1 hw => by
    have := l13Has_c y a hy0 hl2 w1 (hy9.ext hw)
    rwa [← hcy, hhe] at this
  have hht : hh = true → y.2.2.2.2.2.2.1 ≤ a ∧ a < y.2.2.2.2.2.2.1 + (y.2.2.2.2.2.2.2.2.2.length : Int) := fun h => by have := hasB_iff.1 (hhe.trans h); omega
  have hx' : a < x.2.2.2.2.2.2.1 + (x.2.2.2.2.2.2.2.2.2.length : Int) → x.2.2.2.2.2.2.2.2.2[(a - x.2.2.2.2.2.2.1).toNat]? = some (ix x.2.2.2.2.2.2.2.2.2 (a - x.2.2.2.2.2.2.1).toNat) := fun h => nthD (by omega)
  have hy' : hh = true → y.2.2.2.2.2.2.2.2.2[(a - y.2.2.2.2.2.2.1).toNat]? = some (ix y.2.2.2.2.2.2.2.2.2 (a - y.2.2.2.2.2.2.1).toNat) := fun h => nthD (by have := hht h; omega)
  repeat' (first
    |(refine gS ?_;(first
        |(refine gGuard ?_;(first
            |(refine S_on rfl ?_)
            |(refine S_off rfl rfl rfl ?_)
            |(refine S_offU rfl rfl ?_)
            |(refine S_gsplit rfl ?_ ?_ <;> (intro hb;(try simp only [decide_eq_true_eq] at hb);(try simp only [decide_eq_false_iff_not] at hb);(try simp only [Bool.not_eq_true'] at hb);(try simp only [Bool.not_eq_false'] at hb);(try (exfalso;first|contradiction|omega));(try (have hxn := hx' hb));(try (have hyn := hy' hb));(try (have hyt := hht hb))))))
        |(refine S_move rfl rfl ?_)
        |(refine S_assign rfl rfl ?_)
        |(apply F_field rfl rfl;(first|exact T.fl24_6|exact T.fl24_7|exact T.fl24_8))
        |(apply F_idx (K := (a - x.2.2.2.2.2.2.1).toNat) rfl rfl rfl;exact T.sl22;(focus omega);(focus (first|exact len_nil|(apply len_given;assumption)|(apply len_row;(focus ((repeat (first|exact mH|refine mT ?_));done)))|(apply len_isN;assumption)));(focus omega))
        |(apply F_idx (K := (a - y.2.2.2.2.2.2.1).toNat) rfl rfl rfl;exact T.sl22;(focus omega);(focus (first|exact len_nil|(apply len_given;assumption)|(apply len_row;(focus ((repeat (first|exact mH|refine mT ?_));done)))|(apply len_isN;assumption)));(focus omega))
        |(refine gLoad ?_;(first
            |(apply F_load1 rfl rfl;(focus ((repeat (first|exact mH|refine mT ?_));done));(first|exact T.sc3|exact T.sc4|exact T.sc5|exact T.sc22);rfl;(focus (first|exact free0|exact free1)))
            |(apply F_loadAll rfl rfl;(focus ((repeat (first|exact mH|refine mT ?_));done));exact T.rw24;(focus (first|exact free0|exact free1)))
            |(apply F_loadS1 rfl rfl;(first|exact T.sc3|exact T.sc4|exact T.sc5|exact T.sc22);(focus (first|exact rd_nil|(apply rd_given;(focus assumption);(focus (first|exact freeG0|exact freeG1)))|(apply rd_row;(focus ((repeat (first|exact mH|refine mT ?_));done));(focus (first|exact freeR0|exact freeR1)))));(focus (first|(apply at_cell;(focus (apply at_flat;(focus (intro _;rfl));(focus assumption)));rfl)|(apply at_cell0;(focus (apply at_flat;(focus (intro _;rfl));(focus assumption)));rfl)|(apply at_cell;(focus (apply at_mid0;(focus assumption)));rfl)|(apply at_cell0;(focus (apply at_mid0;(focus assumption)));rfl)|rfl)))))
        |(refine gCall ?_;(first
            |(show GoS _ _ _ _ _ _ _ (⟨_,_,_,.call ⟨.value (.func 100),_,_⟩,_⟩ :: _);refine S_callN (f := 100) rfl T.pf100 rfl (fun w hst => hhas w hst.ext) rfl ?_)
            |(apply F_len rfl rfl rfl;(focus exact ⟨_,_,by exact T.sl22⟩);(focus (first|exact len_nil|(apply len_given;assumption)|(apply len_row;(focus ((repeat (first|exact mH|refine mT ?_));done)))|(apply len_isN;assumption))))))
        |(refine gBin ?_;(first
            |(refine S_lss rfl rfl rfl ?_)
            |(refine S_gtr rfl rfl rfl ?_)
            |(refine S_neq rfl rfl rfl ?_)
            |(refine S_add rfl rfl ?_ rfl ?_;(focus (unfold rng;omega)))
            |(refine S_sub rfl rfl ?_ rfl ?_;(focus (unfold rng;omega)))))
        |(refine gPick ?_;(first
            |(refine S_pickT rfl rfl rfl ?_)
            |(refine S_pickF rfl rfl rfl ?_)))
        |(refine S_not rfl rfl ?_)
        |(refine S_done ?_)))
    |(refine gC ?_;(first
        |(refine C_seq ?_)
        |(refine gReg ?_;(first
            |(refine gReg (i := 2) ?_;refine C_plain [(0,0),(1,0),(2,0),(3,0),(4,0),(5,0),(6,0),(7,0)] (by kernel_rfl) (s := [⟨0,none,_,_,_⟩,⟨0,none,_,_,_⟩,⟨0,none,_,_,_⟩,⟨0,none,_,_,_⟩,⟨0,none,_,_,_⟩,⟨0,none,_,_,_⟩,⟨0,none,_,_,_⟩,⟨0,none,_,_,_⟩]) rfl ?_)
            |(refine gReg (i := 4) ?_;refine C_drawn [(0,0),(1,0),(2,1),(3,0),(4,0),(5,0),(6,0),(7,0),(8,0),(9,0),(10,0),(11,0),(12,0),(13,0),(14,0),(15,0),(16,0),(17,0),(18,0),(19,0),(20,0),(21,0)] [] T.mixed (by kernel_rfl) (s := [⟨0,none,_,_,_⟩,⟨0,none,_,_,_⟩,⟨1,none,_,_,_⟩,⟨0,none,_,_,_⟩,⟨0,some (22,true),_,_,_⟩,⟨0,some (22,true),_,_,_⟩,⟨0,some (22,true),_,_,_⟩,⟨0,some (22,true),_,_,_⟩,⟨0,some (22,true),_,_,_⟩,⟨0,some (22,true),_,_,_⟩,⟨0,some (22,true),_,_,_⟩,⟨0,some (22,true),_,_,_⟩,⟨0,some (22,true),_,_,_⟩,⟨0,some (22,true),_,_,_⟩,⟨0,some (22,true),_,_,_⟩,⟨0,some (22,true),_,_,_⟩,⟨0,some (22,true),_,_,_⟩,⟨0,some (22,true),_,_,_⟩,⟨0,some (22,true),_,_,_⟩,⟨0,some (22,true),_,_,_⟩,⟨0,some (22,true),_,_,_⟩,⟨0,none,_,_,_⟩]) rfl ?_)
            |(refine gReg (i := 5) ?_;refine C_plain [(0,0)] (by kernel_rfl) (s := [⟨0,none,_,_,_⟩]) rfl ?_)
            |(refine gReg (i := 3) ?_;refine C_plain [(0,0),(1,0),(2,0)] (by kernel_rfl) (s := [⟨0,none,_,_,_⟩,⟨0,none,_,_,_⟩,⟨0,none,_,_,_⟩]) rfl ?_)
            |(refine gReg (i := 6) ?_;refine C_plain [(0,0),(1,0)] (by kernel_rfl) (s := [⟨0,none,_,_,_⟩,⟨0,none,_,_,_⟩]) rfl ?_)
            |(refine gReg (i := 7) ?_;refine C_plain [(0,0)] (by kernel_rfl) (s := [⟨0,none,_,_,_⟩]) rfl ?_)
            |(refine gReg (i := 8) ?_;refine C_plain [(0,0),(1,0),(2,0),(3,0),(4,0),(5,0),(6,0)] (by kernel_rfl) (s := [⟨0,none,_,_,_⟩,⟨0,none,_,_,_⟩,⟨0,none,_,_,_⟩,⟨0,none,_,_,_⟩,⟨0,none,_,_,_⟩,⟨0,none,_,_,_⟩,⟨0,none,_,_,_⟩]) rfl ?_)
            |(refine gReg (i := 9) ?_;refine C_plain [(0,0),(1,0),(2,0),(3,0),(4,0),(5,0),(6,0),(7,0),(8,0),(9,0),(10,0),(11,0),(12,0),(13,0),(14,0),(15,0),(16,0),(17,0),(18,0),(19,0),(20,0),(21,0),(22,0),(23,0)] (by kernel_rfl) (s := [⟨0,none,_,_,_⟩,⟨0,none,_,_,_⟩,⟨0,none,_,_,_⟩,⟨0,none,_,_,_⟩,⟨0,none,_,_,_⟩,⟨0,none,_,_,_⟩,⟨0,none,_,_,_⟩,⟨0,none,_,_,_⟩,⟨0,none,_,_,_⟩,⟨0,some (57,false),_,_,_⟩,⟨0,some (57,false),_,_,_⟩,⟨0,some (57,false),_,_,_⟩,⟨0,some (57,false),_,_,_⟩,⟨0,some (61,true),_,_,_⟩,⟨0,some (61,true),_,_,_⟩,⟨0,some (61,true),_,_,_⟩,⟨0,some (61,true),_,_,_⟩,⟨0,some (61,true),_,_,_⟩,⟨0,some (61,true),_,_,_⟩,⟨0,some (61,true),_,_,_⟩,⟨0,some (61,true),_,_,_⟩,⟨0,some (57,false),_,_,_⟩,⟨0,none,_,_,_⟩,⟨0,none,_,_,_⟩]) rfl ?_)))
        |(refine C_false rfl ?_)
        |(refine C_split rfl ?_ ?_ <;> (intro hb;(try simp only [decide_eq_true_eq] at hb);(try simp only [decide_eq_false_iff_not] at hb);(try simp only [Bool.not_eq_true'] at hb);(try simp only [Bool.not_eq_false'] at hb);(try (exfalso;first|contradiction|omega));(try (have hxn := hx' hb));(try (have hyn := hy' hb));(try (have hyt := hht hb))))
        |(refine C_skip ?_)
        |(refine C_exit ?_)
        |(refine C_ret ?_)
        |(refine C_block ?_)))
    |(refine gE ?_;(first
        |(refine E_then ?_)
        |(refine E_thenX ?_)
        |(refine E_thenR ?_)
        |(refine E_block ?_)
        |(refine E_blockY ?_)
        |(refine E_blockR ?_)
        |(refine E_calm ?_)
        |(apply E_ret1 rfl;(first|exact Res.tmp rfl|(apply R_cellAll rfl;(focus ((repeat (first|exact mH|refine mT ?_));done));exact T.rw24)|(apply R_cell1 rfl;(focus ((repeat (first|exact mH|refine mT ?_));done));(first|exact T.sc3|exact T.sc4|exact T.sc5|exact T.sc22)))))))
  · have hne : ix x.2.2.2.2.2.2.2.2.2 (a - x.2.2.2.2.2.2.1).toNat ≠ ix y.2.2.2.2.2.2.2.2.2 (a - y.2.2.2.2.2.2.1).toNat := by assumption
    have hns : ¬ Side cx cy := fun g => hne (by have := g.1 a (by omega) (by omega) (by omega) (by omega); rwa [e7, e8] at this)
    exact retX true (show true = false ↔ Side cx cy from iff_of_false (by decide) hns) rfl (Ent.pull Pull.nil)
  · have heq : ¬ ix x.2.2.2.2.2.2.2.2.2 (a - x.2.2.2.2.2.2.1).toNat ≠ ix y.2.2.2.2.2.2.2.2.2 (a - y.2.2.2.2.2.2.1).toNat := by assumption
    refine E_round (α := Int) (a + 1) ⟨by omega, by omega, fun z g1 g2 g3 g4 g5 => ?_⟩ (by omega) ⟨rfl, rfl, rfl, rfl, trivial⟩ (List.Sublist.refl _)
    rcases Int.lt_or_le z a with h | h
    · exact hag z g1 h g3 g4 g5
    · have : z = a := by omega
      subst this
      rw [e7, e8]; simpa using heq
  · have hff : hh = false := by assumption
    refine E_round (α := Int) (a + 1) ⟨by omega, by omega, fun z g1 g2 g3 g4 g5 => ?_⟩ (by omega) ⟨rfl, rfl, rfl, rfl, trivial⟩ (List.Sublist.refl _)
    rcases Int.lt_or_le z a with h | h
    · exact hag z g1 h g3 g4 g5
    · have : z = a := by omega
      subst this
      exact absurd ⟨g4, g5⟩ (hasB_false.1 (hhe.trans hff))
  all_goals have hsame : ∀ z, offP cx ≤ z → z < endP cx → offP cy ≤ z → z < endP cy → byteP cx z = byteP cy z := fun z g1 g2 g3 g4 => hag z g1 (by omega) g2 g3 g4
  · have hmo : x.2.2.2.2.2.2.2.1 = true := by assumption
    exact retX false (show false = false ↔ Side cx cy from iff_of_true rfl ⟨hsame, fun h => by rw [e5, hmo] at h; cases h⟩) rfl (Ent.pull Pull.nil)
  all_goals have hmo : x.2.2.2.2.2.2.2.1 = false := by assumption
  · exact retX true (show true = false ↔ Side cx cy from iff_of_false (by decide) fun g => by have := (g.2 (e5.trans hmo)).1; omega) rfl (Ent.pull Pull.nil)
  · have hmy : y.2.2.2.2.2.2.2.1 = false := by assumption
    obtain ⟨b, hbe⟩ : ∃ b, decide (y.2.2.2.2.2.2.1 + (y.2.2.2.2.2.2.2.2.2.length : Int) ≠ x.2.2.2.2.2.2.1 + (x.2.2.2.2.2.2.2.2.2.length : Int)) = b := ⟨_, rfl⟩
    rw [hbe]
    refine retX b (show b = false ↔ Side cx cy from ⟨fun h => ⟨hsame, fun _ => ⟨by omega, fun _ => by rw [h] at hbe; have := of_decide_eq_false hbe; omega⟩⟩, fun g => ?_⟩) rfl (Ent.pull Pull.nil)
    have := (g.2 (e5.trans hmo)).2 (e6.trans hmy)
    rw [← hbe]
    exact decide_eq_false (by omega)
  · have hmy : y.2.2.2.2.2.2.2.1 = true := by assumption
    exact retX false (show false = false ↔ Side cx cy from iff_of_true rfl ⟨hsame, fun _ => ⟨by omega, fun h => by rw [e6, hmy] at h; cases h⟩⟩) rfl (Ent.pull Pull.nil)
end Go.Proofs.Ytodhjpnfokkfeaa

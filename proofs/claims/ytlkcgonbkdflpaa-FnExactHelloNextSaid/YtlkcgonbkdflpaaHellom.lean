/- Whether an end is ok. -/
import Derived.Test.YtlkcgonbkdflpaaHellok
import Derived.Test.YtlkcgonbkdflpaaHellol
set_option linter.unusedSimpArgs false
set_option linter.unusedVariables false
namespace Go.Proofs.Ytlkcgonbkdflpaa
open Go Go.RowKit
attribute [local irreducible] Calls GoS GoC GoE GoT Mid IsEq IsFl IsSc IsRw IsSl IsEl IsSt IsFs sp Mem Rd LenOf szR
def endOk (x : MHelloEnd) : Bool :=
  match x with
  |(nm,pe,ks,bo,wa,tu,pb,pt,up,lf,nu,un,td,al,gt,fu,hd,kp) =>
    inB nm 0 65535 && inB pe 0 65535 && !(decide (nm = pe)) && keysOk ks.2 && inB bo 1 1000 && inB tu 0 1000000 && inB pt 0 1000000 && inB gt 0 1000000 && inB pb 0 999 && (decide (pb = 0) == decide (pt = 0)) && inB lf 0 4 && (!(decide (pb = 0)) || decide (lf = 0)) && (!up || !(decide (lf = 0))) && inB nu 0 tu && changeOk un && (!(decide (nu = 0)) || decide (un.1 = 0)) && tableOk wa.2 && tableOk td.2 && tableOk (chgT td.2 un.1 un.2) && heardOk hd.2 lf kp
theorem change_rng {k : Int} {z : MHelloEntry} (h : changeOk (k, z) = true) : 0 ≤ k ∧ k ≤ 3 ∧ rngE z := by
  unfold changeOk at h
  dsimp only at h
  by_cases h1 : k = 0 ∨ k = 3
  · rw [if_pos h1] at h
    have hz := of_decide_eq_true h
    subst hz
    exact ⟨by omega, by omega, by decide, by decide, by decide, by decide⟩
  · rw [if_neg h1] at h
    by_cases h2 : k = 1
    · rw [if_pos h2] at h
      exact ⟨by omega, by omega, entryOk_t h⟩
    · rw [if_neg h2] at h
      by_cases h3 : k = 2
      · rw [if_pos h3, Bool.and_eq_true, Bool.and_eq_true] at h
        exact ⟨by omega, by omega, okP_t h.1.1⟩
      · rw [if_neg h3] at h
        cases h
set_option maxRecDepth 16384 in
set_option maxHeartbeats 4000000 in
theorem implEndOk_c (x : MHelloEnd) (w : World) (hx : Rds w (rwHelloEnd x)) : Calls Try.prog 8 #[.agg (clHelloEnd x).toArray] w (RetN (.bool (endOk x)) w) := by
  obtain ⟨nm, pe, ⟨kv, kl⟩, bo, ⟨wv, wl⟩, tu, pb, pt, up, lf, nu, ⟨uk, ue⟩, ⟨tv, tl⟩, al, gt, fu, ⟨hv, hl⟩, kp⟩ := x
  simp only [rwHelloEnd, Rds.append] at hx
  obtain ⟨⟨⟨hx2, hx4⟩, hx12⟩, hx16⟩ := hx
  have hm2 := Rds.head hx2
  have hm4 := Rds.head hx4
  have hm12 := Rds.head hx12
  have hm16 := Rds.head hx16
  dsimp only at hm2 hm4 hm12 hm16
  clear hx2 hx4 hx12 hx16
  obtain ⟨bk, hbk⟩ : ∃ b, keysOk kl = b := ⟨_, rfl⟩
  obtain ⟨bw, hbw⟩ : ∃ b, tableOk wl = b := ⟨_, rfl⟩
  obtain ⟨bt, hbt⟩ : ∃ b, tableOk tl = b := ⟨_, rfl⟩
  obtain ⟨bc, hbc⟩ : ∃ b, tableOk (chgT tl uk ue) = b := ⟨_, rfl⟩
  obtain ⟨bu, hbu⟩ : ∃ b, changeOk (uk, ue) = b := ⟨_, rfl⟩
  obtain ⟨bh, hbh⟩ : ∃ b, heardOk hl lf kp = b := ⟨_, rfl⟩
  have hT : bt = true → Asc tl ∧ (∀ k, k < tl.length → rngE (ix tl k)) ∧ tl.length ≤ 8 := fun h => ⟨table_asc (hbt.trans h), (table_rng (hbt.trans h)).2, (table_rng (hbt.trans h)).1⟩
  have hU : bu = true → 0 ≤ uk ∧ uk ≤ 3 ∧ rngE ue := fun h => change_rng (hbu.trans h)
  refine enter (n := 134) (E := [(0, _)]) Try.func8 rfl rfl rfl rfl ?_
  repeat' (first
    |(refine gS ?_;(first
        |(refine gGuard ?_;(first
            |(refine S_on rfl ?_)
            |(refine S_off rfl rfl rfl ?_)
            |(refine S_offn rfl rfl ?_)
            |(refine S_offU rfl rfl ?_)
            |(refine S_offUn rfl ?_)
            |(refine S_gsplit rfl ?_ ?_ <;> (intro hb;(try simp only [decide_eq_true_eq] at hb);(try simp only [decide_eq_false_iff_not] at hb);(try simp only [Bool.not_eq_true'] at hb);(try simp only [Bool.not_eq_false'] at hb);(try (exfalso;first|contradiction|omega));(try (have hT1 := (hT hb).1));(try (have hT2 := (hT hb).2.1));(try (have hT3 := (hT hb).2.2));(try (have hU1 := (hU hb).1));(try (have hU2 := (hU hb).2.1));(try (have hU3 := (hU hb).2.2))))))
        |(refine S_move rfl rfl ?_)
        |(refine S_assign rfl rfl ?_)
        |(apply F_field rfl rfl;(first|exact T.fl37_0|exact T.fl40_0|exact T.fl40_1|exact T.fl40_2|exact T.fl40_3|exact T.fl40_4|exact T.fl40_5|exact T.fl40_6|exact T.fl40_7|exact T.fl40_8|exact T.fl40_9|exact T.fl40_10|exact T.fl40_11|exact T.fl40_12|exact T.fl40_14))
        |(refine gLoad ?_;(first
            |(apply F_load1 rfl rfl;(focus ((repeat (first|exact mH|refine mT ?_));done));(first|exact T.sc3|exact T.sc4|exact T.sc33|exact T.sc34);rfl;(focus (first|exact free0|exact free1)))
            |(apply F_loadAll rfl rfl;(focus ((repeat (first|exact mH|refine mT ?_));done));(first|exact T.rw37|exact T.rw40);(focus (first|exact free0|exact free1)))
            |(apply F_loadP rfl rfl;(focus ((repeat (first|exact mH|refine mT ?_));done));(first|exact T.rw37|exact T.rw40);(focus ((repeat (first|exact Take.nil|apply Take.here|apply Take.there));done));rfl;(focus (first|exact free0|exact free1)))))
        |(refine gCall ?_;(first
            |(show GoS _ _ _ _ _ _ _ (⟨_,_,_,.call ⟨.value (.func 26),_,_⟩,_⟩ :: _);refine S_callN (f := 26) rfl T.pf26 rfl (fun w hst => within_c _ _ _ w) rfl ?_)
            |(show GoS _ _ _ _ _ _ _ (⟨_,_,_,.call ⟨.value (.func 27),_,_⟩,_⟩ :: _);refine S_callN (f := 27) rfl T.pf27 rfl (fun w hst => (hbk ▸ implHelloKeysOk_c kv kl w (by first|(refine Mem.given hst ?_;assumption)|(apply Mem.row hst;(focus ((repeat (first|exact mH|refine mT ?_));done)))))) rfl ?_)
            |(show GoS _ _ _ _ _ _ _ (⟨_,_,_,.call ⟨.value (.func 28),_,_⟩,_⟩ :: _);refine S_callN (f := 28) rfl T.pf28 rfl (fun w hst => (hbu ▸ implChangeOk_c (uk,ue) w)) rfl ?_)
            |(show GoS _ _ _ _ _ _ _ (⟨_,_,_,.call ⟨.value (.func 29),_,_⟩,_⟩ :: _);refine S_callN (f := 29) rfl T.pf29 rfl (fun w hst => (hbw ▸ implTableOk_c wv wl w (by first|(refine Mem.given hst ?_;assumption)|(apply Mem.row hst;(focus ((repeat (first|exact mH|refine mT ?_));done)))))) rfl ?_)
            |(show GoS _ _ _ _ _ _ _ (⟨_,_,_,.call ⟨.value (.func 29),_,_⟩,_⟩ :: _);refine S_callN (f := 29) rfl T.pf29 rfl (fun w hst => (hbt ▸ implTableOk_c tv tl w (by first|(refine Mem.given hst ?_;assumption)|(apply Mem.row hst;(focus ((repeat (first|exact mH|refine mT ?_));done)))))) rfl ?_)
            |(show GoS _ _ _ _ _ _ _ (⟨_,_,_,.call ⟨.value (.func 29),_,_⟩,_⟩ :: _);refine S_callN (f := 29) rfl T.pf29 rfl (fun w hst => (hbc ▸ implTableOk_c yv (chgT tl uk ue) w (by first|(refine Mem.given hst ?_;assumption)|(apply Mem.row hst;(focus ((repeat (first|exact mH|refine mT ?_));done)))))) rfl ?_)
            |(show GoS _ _ _ _ _ _ _ (⟨_,_,_,.call ⟨.value (.func 30),_,_⟩,_⟩ :: _);refine S_callX (f := 30) rfl T.pf30 rfl (fun w hst => changed_c tv tl uk ue (by omega) hT2 hT1 hU3 w (by first|(refine Mem.given hst ?_;assumption)|(apply Mem.row hst;(focus ((repeat (first|exact mH|refine mT ?_));done))))) rfl (fun zz hzz => ?_);simp only [List.cons_append,List.nil_append];revert hzz;revert zz;rintro ⟨yv,yq⟩ hy;dsimp only at hy;subst hy;(try dsimp only))
            |(show GoS _ _ _ _ _ _ _ (⟨_,_,_,.call ⟨.value (.func 31),_,_⟩,_⟩ :: _);refine S_callN (f := 31) rfl T.pf31 rfl (fun w hst => (hbh ▸ implHeardOk_c nm pe (kv,kl) bo (wv,wl) tu pb pt up lf nu (uk,ue) (tv,tl) al gt fu hv hl kp w (by first|(refine Mem.given hst ?_;assumption)|(apply Mem.row hst;(focus ((repeat (first|exact mH|refine mT ?_));done)))))) rfl ?_)))
        |(refine gBin ?_;(first
            |(refine S_eql rfl rfl rfl ?_)
            |(refine S_neq rfl rfl rfl ?_)
            |(refine S_eqlB Try.underlying4 rfl rfl rfl ?_)
            |(refine S_neqB Try.underlying4 rfl rfl rfl ?_)))
        |(refine gPick ?_;(first
            |(refine S_pickT rfl rfl rfl ?_)
            |(refine S_pickF rfl rfl rfl ?_)))
        |(refine S_box rfl rfl rfl ?_;intro kb)
        |(refine S_not rfl rfl ?_)
        |(refine S_done ?_)
        |(refine S_box1 rfl rfl rfl rfl ?_;intro kb)))
    |(refine gC ?_;(first
        |(refine C_seq ?_)
        |(refine gReg ?_;(first
            |(refine gReg (i := 0) ?_;refine C_plain [(0,2),(1,0)] (by kernel_rfl) (s := [⟨2,none,_,_,_⟩,⟨0,none,_,_,_⟩]) rfl ?_)
            |(refine gReg (i := 1) ?_;refine C_plain [(0,0),(1,0),(2,2),(3,0),(4,0),(5,0),(6,0),(7,2),(8,0),(9,0),(10,0),(11,0),(12,0),(13,0),(14,0),(15,0),(16,0),(17,0),(18,0),(19,0),(20,2),(21,0),(22,0),(23,0)] (by kernel_rfl) (s := [⟨0,none,_,_,_⟩,⟨0,none,_,_,_⟩,⟨2,none,_,_,_⟩,⟨0,none,_,_,_⟩,⟨0,none,_,_,_⟩,⟨0,some (8,false),_,_,_⟩,⟨0,some (8,false),_,_,_⟩,⟨2,some (8,false),_,_,_⟩,⟨0,some (8,false),_,_,_⟩,⟨0,none,_,_,_⟩,⟨0,none,_,_,_⟩,⟨0,some (14,false),_,_,_⟩,⟨0,some (14,false),_,_,_⟩,⟨0,some (14,false),_,_,_⟩,⟨0,some (14,false),_,_,_⟩,⟨0,some (14,false),_,_,_⟩,⟨0,none,_,_,_⟩,⟨0,none,_,_,_⟩,⟨0,some (21,false),_,_,_⟩,⟨0,some (21,false),_,_,_⟩,⟨2,some (21,false),_,_,_⟩,⟨0,some (21,false),_,_,_⟩,⟨0,none,_,_,_⟩,⟨0,none,_,_,_⟩]) rfl ?_)
            |(refine gReg (i := 2) ?_;refine C_plain [(0,0)] (by kernel_rfl) (s := [⟨0,none,_,_,_⟩]) rfl ?_)
            |(refine gReg (i := 3) ?_;refine C_plain [(0,0),(1,0),(2,2),(3,0),(4,0),(5,0),(6,0),(7,2),(8,0),(9,0),(10,0),(11,0),(12,0),(13,2),(14,0),(15,0),(16,0),(17,0),(18,0),(19,2),(20,0),(21,0),(22,0)] (by kernel_rfl) (s := [⟨0,none,_,_,_⟩,⟨0,none,_,_,_⟩,⟨2,none,_,_,_⟩,⟨0,none,_,_,_⟩,⟨0,none,_,_,_⟩,⟨0,some (32,false),_,_,_⟩,⟨0,some (32,false),_,_,_⟩,⟨2,some (32,false),_,_,_⟩,⟨0,some (32,false),_,_,_⟩,⟨0,none,_,_,_⟩,⟨0,none,_,_,_⟩,⟨0,some (38,false),_,_,_⟩,⟨0,some (38,false),_,_,_⟩,⟨2,some (38,false),_,_,_⟩,⟨0,some (38,false),_,_,_⟩,⟨0,none,_,_,_⟩,⟨0,none,_,_,_⟩,⟨0,some (44,false),_,_,_⟩,⟨0,some (44,false),_,_,_⟩,⟨2,some (44,false),_,_,_⟩,⟨0,some (44,false),_,_,_⟩,⟨0,none,_,_,_⟩,⟨0,none,_,_,_⟩]) rfl ?_)
            |(refine gReg (i := 4) ?_;refine C_plain [(0,0)] (by kernel_rfl) (s := [⟨0,none,_,_,_⟩]) rfl ?_)
            |(refine gReg (i := 5) ?_;refine C_plain [(0,0),(1,0),(2,2),(3,0),(4,0),(5,0),(6,0),(7,0),(8,0),(9,0),(10,0),(11,0),(12,0),(13,0)] (by kernel_rfl) (s := [⟨0,none,_,_,_⟩,⟨0,none,_,_,_⟩,⟨2,none,_,_,_⟩,⟨0,none,_,_,_⟩,⟨0,none,_,_,_⟩,⟨0,some (55,false),_,_,_⟩,⟨0,some (55,false),_,_,_⟩,⟨0,some (55,false),_,_,_⟩,⟨0,some (55,false),_,_,_⟩,⟨0,some (55,false),_,_,_⟩,⟨0,some (55,false),_,_,_⟩,⟨0,some (55,false),_,_,_⟩,⟨0,none,_,_,_⟩,⟨0,none,_,_,_⟩]) rfl ?_)
            |(refine gReg (i := 6) ?_;refine C_plain [(0,0)] (by kernel_rfl) (s := [⟨0,none,_,_,_⟩]) rfl ?_)
            |(refine gReg (i := 7) ?_;refine C_plain [(0,0),(1,0),(2,2),(3,0),(4,0),(5,0),(6,0),(7,0),(8,0),(9,0),(10,0),(11,0),(12,0),(13,0),(14,0),(15,0),(16,0),(17,0),(18,0),(19,0),(20,0),(21,0),(22,0),(23,0)] (by kernel_rfl) (s := [⟨0,none,_,_,_⟩,⟨0,none,_,_,_⟩,⟨2,none,_,_,_⟩,⟨0,none,_,_,_⟩,⟨0,none,_,_,_⟩,⟨0,some (69,false),_,_,_⟩,⟨0,some (69,false),_,_,_⟩,⟨0,some (69,false),_,_,_⟩,⟨0,some (69,false),_,_,_⟩,⟨0,some (73,true),_,_,_⟩,⟨0,some (73,true),_,_,_⟩,⟨0,some (73,true),_,_,_⟩,⟨0,some (69,false),_,_,_⟩,⟨0,none,_,_,_⟩,⟨0,none,_,_,_⟩,⟨0,some (79,false),_,_,_⟩,⟨0,some (79,false),_,_,_⟩,⟨0,some (79,false),_,_,_⟩,⟨0,some (82,true),_,_,_⟩,⟨0,some (82,true),_,_,_⟩,⟨0,some (82,true),_,_,_⟩,⟨0,some (79,false),_,_,_⟩,⟨0,none,_,_,_⟩,⟨0,none,_,_,_⟩]) rfl ?_)
            |(refine gReg (i := 8) ?_;refine C_plain [(0,0)] (by kernel_rfl) (s := [⟨0,none,_,_,_⟩]) rfl ?_)
            |(refine gReg (i := 9) ?_;refine C_plain [(0,0),(1,0),(2,0),(3,0),(4,2),(5,0),(6,0),(7,0),(8,0),(9,2),(10,0),(11,0),(12,0),(13,0),(14,0),(15,0),(16,0),(17,0),(18,0),(19,0),(20,0),(21,0),(22,0),(23,0)] (by kernel_rfl) (s := [⟨0,none,_,_,_⟩,⟨0,none,_,_,_⟩,⟨0,none,_,_,_⟩,⟨0,none,_,_,_⟩,⟨2,none,_,_,_⟩,⟨0,none,_,_,_⟩,⟨0,none,_,_,_⟩,⟨0,some (95,false),_,_,_⟩,⟨0,some (95,false),_,_,_⟩,⟨2,some (95,false),_,_,_⟩,⟨0,some (95,false),_,_,_⟩,⟨0,none,_,_,_⟩,⟨0,none,_,_,_⟩,⟨0,some (101,false),_,_,_⟩,⟨0,some (101,false),_,_,_⟩,⟨0,some (101,false),_,_,_⟩,⟨0,some (101,false),_,_,_⟩,⟨0,some (105,true),_,_,_⟩,⟨0,some (105,true),_,_,_⟩,⟨0,some (105,true),_,_,_⟩,⟨0,some (105,true),_,_,_⟩,⟨0,some (101,false),_,_,_⟩,⟨0,none,_,_,_⟩,⟨0,none,_,_,_⟩]) rfl ?_)
            |(refine gReg (i := 10) ?_;refine C_plain [(0,0)] (by kernel_rfl) (s := [⟨0,none,_,_,_⟩]) rfl ?_)
            |(refine gReg (i := 11) ?_;refine C_plain [(0,0),(1,0),(2,2),(3,0),(4,0),(5,0),(6,0),(7,2),(8,0),(9,0),(10,0),(11,0),(12,0),(13,0),(14,0),(15,2),(16,2),(17,0),(18,0),(19,0)] (by kernel_rfl) (s := [⟨0,none,_,_,_⟩,⟨0,none,_,_,_⟩,⟨2,none,_,_,_⟩,⟨0,none,_,_,_⟩,⟨0,none,_,_,_⟩,⟨0,some (117,false),_,_,_⟩,⟨0,some (117,false),_,_,_⟩,⟨2,some (117,false),_,_,_⟩,⟨0,some (117,false),_,_,_⟩,⟨0,none,_,_,_⟩,⟨0,none,_,_,_⟩,⟨0,some (123,false),_,_,_⟩,⟨0,some (123,false),_,_,_⟩,⟨0,some (123,false),_,_,_⟩,⟨0,some (123,false),_,_,_⟩,⟨2,some (123,false),_,_,_⟩,⟨2,some (123,false),_,_,_⟩,⟨0,some (123,false),_,_,_⟩,⟨0,none,_,_,_⟩,⟨0,none,_,_,_⟩]) rfl ?_)
            |(refine gReg (i := 12) ?_;refine C_plain [(0,0)] (by kernel_rfl) (s := [⟨0,none,_,_,_⟩]) rfl ?_)
            |(refine gReg (i := 13) ?_;refine C_plain [(0,0),(1,2),(2,0)] (by kernel_rfl) (s := [⟨0,none,_,_,_⟩,⟨2,none,_,_,_⟩,⟨0,none,_,_,_⟩]) rfl ?_)))
        |(refine C_true rfl ?_)
        |(refine C_false rfl ?_)
        |(refine C_split rfl ?_ ?_ <;> (intro hb;(try simp only [decide_eq_true_eq] at hb);(try simp only [decide_eq_false_iff_not] at hb);(try simp only [Bool.not_eq_true'] at hb);(try simp only [Bool.not_eq_false'] at hb);(try (exfalso;first|contradiction|omega));(try (have hT1 := (hT hb).1));(try (have hT2 := (hT hb).2.1));(try (have hT3 := (hT hb).2.2));(try (have hU1 := (hU hb).1));(try (have hU2 := (hU hb).2.1));(try (have hU3 := (hU hb).2.2))))
        |(refine C_skip ?_)
        |(refine C_exit ?_)
        |(refine C_ret ?_)
        |(refine C_block ?_)))
    |(refine gE ?_;(first
        |(refine E_then ?_)
        |(refine E_thenX ?_)
        |(refine E_thenR ?_)
        |(refine E_block ?_)
        |(refine E_blockY ?_)
        |(refine E_blockR ?_)
        |(refine E_calm ?_)
        |(refine E_blockX rfl ?_)
        |(apply E_ret1 rfl;(first|exact Res.tmp rfl|(apply R_cellAll rfl;(focus ((repeat (first|exact mH|refine mT ?_));done));(first|exact T.rw37|exact T.rw40))|(apply R_cell1 rfl;(focus ((repeat (first|exact mH|refine mT ?_));done));(first|exact T.sc3|exact T.sc4|exact T.sc33|exact T.sc34))))
        |(apply E_ret2 rfl;(first|exact Res.tmp rfl|(apply R_cellAll rfl;(focus ((repeat (first|exact mH|refine mT ?_));done));(first|exact T.rw37|exact T.rw40))|(apply R_cell1 rfl;(focus ((repeat (first|exact mH|refine mT ?_));done));(first|exact T.sc3|exact T.sc4|exact T.sc33|exact T.sc34)));(first|exact Res.tmp rfl|(apply R_cellAll rfl;(focus ((repeat (first|exact mH|refine mT ?_));done));(first|exact T.rw37|exact T.rw40))|(apply R_cell1 rfl;(focus ((repeat (first|exact mH|refine mT ?_));done));(first|exact T.sc3|exact T.sc4|exact T.sc33|exact T.sc34))))
        | (apply E_ret3 rfl; (first | exact Res.tmp rfl | (apply R_cellAll rfl; (focus ((repeat (first | exact List.Mem.head _ | refine List.Mem.tail _ ?_)); done)); (first | exact T.rw37 | exact T.rw40)) | (apply R_cell1 rfl; (focus ((repeat (first | exact List.Mem.head _ | refine List.Mem.tail _ ?_)); done)); (first | exact T.sc3 | exact T.sc4 | exact T.sc33 | exact T.sc34))); (first | exact Res.tmp rfl | (apply R_cellAll rfl; (focus ((repeat (first | exact List.Mem.head _ | refine List.Mem.tail _ ?_)); done)); (first | exact T.rw37 | exact T.rw40)) | (apply R_cell1 rfl; (focus ((repeat (first | exact List.Mem.head _ | refine List.Mem.tail _ ?_)); done)); (first | exact T.sc3 | exact T.sc4 | exact T.sc33 | exact T.sc34))); (first | exact Res.tmp rfl | (apply R_cellAll rfl; (focus ((repeat (first | exact List.Mem.head _ | refine List.Mem.tail _ ?_)); done)); (first | exact T.rw37 | exact T.rw40)) | (apply R_cell1 rfl; (focus ((repeat (first | exact List.Mem.head _ | refine List.Mem.tail _ ?_)); done)); (first | exact T.sc3 | exact T.sc4 | exact T.sc33 | exact T.sc34)))))))
  all_goals (refine retN ?_; simp only [endOk, hbk, hbw, hbt, hbc, hbu, hbh]; first | (simp [*]; done) | (simp_all; done) | (simp [*]; omega) | (simp_all; omega))
set_option maxRecDepth 16384 in
set_option maxHeartbeats 4000000 in
theorem specEndOk_c (x : MHelloEnd) (w : World) (hx : Rds w (rwHelloEnd x)) : Calls Try.prog 6 #[.agg (clHelloEnd x).toArray] w (RetN (.bool (endOk x)) w) := by
  obtain ⟨nm, pe, ⟨kv, kl⟩, bo, ⟨wv, wl⟩, tu, pb, pt, up, lf, nu, ⟨uk, ue⟩, ⟨tv, tl⟩, al, gt, fu, ⟨hv, hl⟩, kp⟩ := x
  simp only [rwHelloEnd, Rds.append] at hx
  obtain ⟨⟨⟨hx2, hx4⟩, hx12⟩, hx16⟩ := hx
  have hm2 := Rds.head hx2
  have hm4 := Rds.head hx4
  have hm12 := Rds.head hx12
  have hm16 := Rds.head hx16
  dsimp only at hm2 hm4 hm12 hm16
  clear hx2 hx4 hx12 hx16
  obtain ⟨bk, hbk⟩ : ∃ b, keysOk kl = b := ⟨_, rfl⟩
  obtain ⟨bw, hbw⟩ : ∃ b, tableOk wl = b := ⟨_, rfl⟩
  obtain ⟨bt, hbt⟩ : ∃ b, tableOk tl = b := ⟨_, rfl⟩
  obtain ⟨bc, hbc⟩ : ∃ b, tableOk (chgT tl uk ue) = b := ⟨_, rfl⟩
  obtain ⟨bu, hbu⟩ : ∃ b, changeOk (uk, ue) = b := ⟨_, rfl⟩
  obtain ⟨bh, hbh⟩ : ∃ b, heardOk hl lf kp = b := ⟨_, rfl⟩
  have hT : bt = true → Asc tl ∧ (∀ k, k < tl.length → rngE (ix tl k)) ∧ tl.length ≤ 8 := fun h => ⟨table_asc (hbt.trans h), (table_rng (hbt.trans h)).2, (table_rng (hbt.trans h)).1⟩
  have hU : bu = true → 0 ≤ uk ∧ uk ≤ 3 ∧ rngE ue := fun h => change_rng (hbu.trans h)
  have hL : inB lf 0 4 = true → 0 ≤ lf := fun h => (inB_t h).1
  have hN : inB nu 0 tu = true → 0 ≤ nu := fun h => (inB_t h).1
  refine enter (n := 132) (E := [(0, _)]) Try.func6 rfl rfl rfl rfl ?_
  repeat' (first
    |(refine gS ?_;(first
        |(refine gGuard ?_;(first
            |(refine S_on rfl ?_)
            |(refine S_off rfl rfl rfl ?_)
            |(refine S_offn rfl rfl ?_)
            |(refine S_offU rfl rfl ?_)
            |(refine S_offUn rfl ?_)
            |(refine S_gsplit rfl ?_ ?_ <;> (intro hb;(try simp only [decide_eq_true_eq] at hb);(try simp only [decide_eq_false_iff_not] at hb);(try simp only [Bool.not_eq_true'] at hb);(try simp only [Bool.not_eq_false'] at hb);(try (exfalso;first|contradiction|omega));(try (have hL1 := hL hb));(try (have hN1 := hN hb));(try (have hT1 := (hT hb).1));(try (have hT2 := (hT hb).2.1));(try (have hT3 := (hT hb).2.2));(try (have hU1 := (hU hb).1));(try (have hU2 := (hU hb).2.1));(try (have hU3 := (hU hb).2.2))))))
        |(refine S_move rfl rfl ?_)
        |(refine S_assign rfl rfl ?_)
        |(apply F_field rfl rfl;(first|exact T.fl37_0|exact T.fl40_0|exact T.fl40_1|exact T.fl40_2|exact T.fl40_3|exact T.fl40_4|exact T.fl40_5|exact T.fl40_6|exact T.fl40_7|exact T.fl40_8|exact T.fl40_9|exact T.fl40_10|exact T.fl40_11|exact T.fl40_12|exact T.fl40_14))
        |(refine gLoad ?_;(first
            |(apply F_load1 rfl rfl;(focus ((repeat (first|exact mH|refine mT ?_));done));(first|exact T.sc3|exact T.sc4|exact T.sc33|exact T.sc34);rfl;(focus (first|exact free0|exact free1)))
            |(apply F_loadAll rfl rfl;(focus ((repeat (first|exact mH|refine mT ?_));done));(first|exact T.rw37|exact T.rw40);(focus (first|exact free0|exact free1)))
            |(apply F_loadP rfl rfl;(focus ((repeat (first|exact mH|refine mT ?_));done));(first|exact T.rw37|exact T.rw40);(focus ((repeat (first|exact Take.nil|apply Take.here|apply Take.there));done));rfl;(focus (first|exact free0|exact free1)))))
        |(refine gCall ?_;(first
            |(show GoS _ _ _ _ _ _ _ (⟨_,_,_,.call ⟨.value (.func 16),_,_⟩,_⟩ :: _);refine S_callN (f := 16) rfl T.pf16 rfl (fun w hst => l1In_c _ _ _ w) rfl ?_)
            |(show GoS _ _ _ _ _ _ _ (⟨_,_,_,.call ⟨.value (.func 17),_,_⟩,_⟩ :: _);refine S_callN (f := 17) rfl T.pf17 rfl (fun w hst => (hbk ▸ specHelloKeysOk_c kv kl w (by first|(refine Mem.given hst ?_;assumption)|(apply Mem.row hst;(focus ((repeat (first|exact mH|refine mT ?_));done)))))) rfl ?_)
            |(show GoS _ _ _ _ _ _ _ (⟨_,_,_,.call ⟨.value (.func 19),_,_⟩,_⟩ :: _);refine S_callN (f := 19) rfl T.pf19 rfl (fun w hst => (hbu ▸ specChangeOk_c (uk,ue) w)) rfl ?_)
            |(show GoS _ _ _ _ _ _ _ (⟨_,_,_,.call ⟨.value (.func 18),_,_⟩,_⟩ :: _);refine S_callN (f := 18) rfl T.pf18 rfl (fun w hst => (hbw ▸ specTableOk_c wv wl w (by first|(refine Mem.given hst ?_;assumption)|(apply Mem.row hst;(focus ((repeat (first|exact mH|refine mT ?_));done)))))) rfl ?_)
            |(show GoS _ _ _ _ _ _ _ (⟨_,_,_,.call ⟨.value (.func 18),_,_⟩,_⟩ :: _);refine S_callN (f := 18) rfl T.pf18 rfl (fun w hst => (hbt ▸ specTableOk_c tv tl w (by first|(refine Mem.given hst ?_;assumption)|(apply Mem.row hst;(focus ((repeat (first|exact mH|refine mT ?_));done)))))) rfl ?_)
            |(show GoS _ _ _ _ _ _ _ (⟨_,_,_,.call ⟨.value (.func 18),_,_⟩,_⟩ :: _);refine S_callN (f := 18) rfl T.pf18 rfl (fun w hst => (hbc ▸ specTableOk_c yv (chgT tl uk ue) w (by first|(refine Mem.given hst ?_;assumption)|(apply Mem.row hst;(focus ((repeat (first|exact mH|refine mT ?_));done)))))) rfl ?_)
            |(show GoS _ _ _ _ _ _ _ (⟨_,_,_,.call ⟨.value (.func 20),_,_⟩,_⟩ :: _);refine S_callX (f := 20) rfl T.pf20 rfl (fun w hst => apply_c tv tl uk ue (by omega) hT1 w (by first|(refine Mem.given hst ?_;assumption)|(apply Mem.row hst;(focus ((repeat (first|exact mH|refine mT ?_));done))))) rfl (fun zz hzz => ?_);simp only [List.cons_append,List.nil_append];revert hzz;revert zz;rintro ⟨yv,yq⟩ hy;dsimp only at hy;subst hy;(try dsimp only))
            |(show GoS _ _ _ _ _ _ _ (⟨_,_,_,.call ⟨.value (.func 21),_,_⟩,_⟩ :: _);refine S_callN (f := 21) rfl T.pf21 rfl (fun w hst => (hbh ▸ specHeardOk_c nm pe (kv,kl) bo (wv,wl) tu pb pt up lf nu (uk,ue) (tv,tl) al gt fu hv hl kp w (by first|(refine Mem.given hst ?_;assumption)|(apply Mem.row hst;(focus ((repeat (first|exact mH|refine mT ?_));done)))))) rfl ?_)))
        |(refine gBin ?_;(first
            |(refine S_gtr rfl rfl rfl ?_)
            |(refine S_eql rfl rfl rfl ?_)
            |(refine S_neq rfl rfl rfl ?_)
            |(refine S_eqlB Try.underlying4 rfl rfl rfl ?_)
            |(refine S_neqB Try.underlying4 rfl rfl rfl ?_)))
        |(refine gPick ?_;(first
            |(refine S_pickT rfl rfl rfl ?_)
            |(refine S_pickF rfl rfl rfl ?_)))
        |(refine S_box rfl rfl rfl ?_;intro kb)
        |(refine S_not rfl rfl ?_)
        |(refine S_done ?_)
        |(refine S_box1 rfl rfl rfl rfl ?_;intro kb)))
    |(refine gC ?_;(first
        |(refine C_seq ?_)
        |(refine gReg ?_;(first
            |(refine gReg (i := 0) ?_;refine C_plain [(0,2),(1,0)] (by kernel_rfl) (s := [⟨2,none,_,_,_⟩,⟨0,none,_,_,_⟩]) rfl ?_)
            |(refine gReg (i := 1) ?_;apply C_plain [(0,0),(1,0),(2,2),(3,0),(4,0),(5,0),(6,0),(7,2),(8,0),(9,0),(10,0),(11,0),(12,0),(13,0),(14,0),(15,0),(16,0),(17,0),(18,0),(19,0),(20,2),(21,0),(22,0),(23,0),(24,0),(25,0),(26,2),(27,0),(28,0),(29,0),(30,0),(31,0),(32,2),(33,0),(34,0)] (by kernel_rfl);(focus (simp only [mkS,gSlot,List.getElem?_cons_zero,List.getElem?_cons_succ];rfl)))
            |(refine gReg (i := 2) ?_;refine C_plain [(0,0)] (by kernel_rfl) (s := [⟨0,none,_,_,_⟩]) rfl ?_)
            |(refine gReg (i := 3) ?_;refine C_plain [(0,0),(1,0),(2,2),(3,0),(4,0),(5,0),(6,0),(7,2),(8,0),(9,0),(10,0),(11,0),(12,0),(13,2),(14,0),(15,0),(16,0),(17,0),(18,0),(19,0),(20,0),(21,0),(22,0),(23,0),(24,0)] (by kernel_rfl) (s := [⟨0,none,_,_,_⟩,⟨0,none,_,_,_⟩,⟨2,none,_,_,_⟩,⟨0,none,_,_,_⟩,⟨0,none,_,_,_⟩,⟨0,some (42,false),_,_,_⟩,⟨0,some (42,false),_,_,_⟩,⟨2,some (42,false),_,_,_⟩,⟨0,some (42,false),_,_,_⟩,⟨0,none,_,_,_⟩,⟨0,none,_,_,_⟩,⟨0,some (48,false),_,_,_⟩,⟨0,some (48,false),_,_,_⟩,⟨2,some (48,false),_,_,_⟩,⟨0,some (48,false),_,_,_⟩,⟨0,none,_,_,_⟩,⟨0,none,_,_,_⟩,⟨0,some (54,false),_,_,_⟩,⟨0,some (54,false),_,_,_⟩,⟨0,some (54,false),_,_,_⟩,⟨0,some (54,false),_,_,_⟩,⟨0,some (54,false),_,_,_⟩,⟨0,some (54,false),_,_,_⟩,⟨0,some (54,false),_,_,_⟩,⟨0,none,_,_,_⟩]) rfl ?_)
            |(refine gReg (i := 4) ?_;refine C_plain [(0,0)] (by kernel_rfl) (s := [⟨0,none,_,_,_⟩]) rfl ?_)
            |(refine gReg (i := 5) ?_;refine C_plain [(0,0),(1,0),(2,2),(3,0),(4,0),(5,0),(6,0),(7,0),(8,0),(9,0),(10,0),(11,0),(12,0),(13,0),(14,0),(15,0),(16,0),(17,0),(18,0),(19,0),(20,0),(21,0),(22,0)] (by kernel_rfl) (s := [⟨0,none,_,_,_⟩,⟨0,none,_,_,_⟩,⟨2,none,_,_,_⟩,⟨0,none,_,_,_⟩,⟨0,none,_,_,_⟩,⟨0,some (67,false),_,_,_⟩,⟨0,some (67,false),_,_,_⟩,⟨0,some (67,false),_,_,_⟩,⟨0,some (67,false),_,_,_⟩,⟨0,some (71,true),_,_,_⟩,⟨0,some (71,true),_,_,_⟩,⟨0,some (71,true),_,_,_⟩,⟨0,some (67,false),_,_,_⟩,⟨0,none,_,_,_⟩,⟨0,none,_,_,_⟩,⟨0,some (77,false),_,_,_⟩,⟨0,some (77,false),_,_,_⟩,⟨0,some (77,false),_,_,_⟩,⟨0,some (80,true),_,_,_⟩,⟨0,some (80,true),_,_,_⟩,⟨0,some (80,true),_,_,_⟩,⟨0,some (77,false),_,_,_⟩,⟨0,none,_,_,_⟩]) rfl ?_)
            |(refine gReg (i := 6) ?_;refine C_plain [(0,0)] (by kernel_rfl) (s := [⟨0,none,_,_,_⟩]) rfl ?_)
            |(refine gReg (i := 7) ?_;apply C_plain [(0,0),(1,0),(2,0),(3,0),(4,2),(5,0),(6,0),(7,0),(8,0),(9,2),(10,0),(11,0),(12,0),(13,0),(14,0),(15,2),(16,0),(17,0),(18,0),(19,0),(20,0),(21,0),(22,0),(23,0),(24,0),(25,0),(26,0),(27,0),(28,0),(29,0),(30,0),(31,0),(32,2),(33,0),(34,0),(35,0),(36,0),(37,0),(38,0),(39,0),(40,2),(41,2),(42,0),(43,0)] (by kernel_rfl);(focus (simp only [mkS,gSlot,List.getElem?_cons_zero,List.getElem?_cons_succ];rfl)))
            |(refine gReg (i := 8) ?_;refine C_plain [(0,0)] (by kernel_rfl) (s := [⟨0,none,_,_,_⟩]) rfl ?_)
            |(refine gReg (i := 9) ?_;refine C_plain [(0,0),(1,2),(2,0)] (by kernel_rfl) (s := [⟨0,none,_,_,_⟩,⟨2,none,_,_,_⟩,⟨0,none,_,_,_⟩]) rfl ?_)))
        |(refine C_true rfl ?_)
        |(refine C_false rfl ?_)
        |(refine C_split rfl ?_ ?_ <;> (intro hb;(try simp only [decide_eq_true_eq] at hb);(try simp only [decide_eq_false_iff_not] at hb);(try simp only [Bool.not_eq_true'] at hb);(try simp only [Bool.not_eq_false'] at hb);(try (exfalso;first|contradiction|omega));(try (have hL1 := hL hb));(try (have hN1 := hN hb));(try (have hT1 := (hT hb).1));(try (have hT2 := (hT hb).2.1));(try (have hT3 := (hT hb).2.2));(try (have hU1 := (hU hb).1));(try (have hU2 := (hU hb).2.1));(try (have hU3 := (hU hb).2.2))))
        |(refine C_skip ?_)
        |(refine C_exit ?_)
        |(refine C_ret ?_)
        |(refine C_block ?_)))
    |(refine gE ?_;(first
        |(refine E_then ?_)
        |(refine E_thenX ?_)
        |(refine E_thenR ?_)
        |(refine E_block ?_)
        |(refine E_blockY ?_)
        |(refine E_blockR ?_)
        |(refine E_calm ?_)
        |(refine E_blockX rfl ?_)
        |(apply E_ret1 rfl;(first|exact Res.tmp rfl|(apply R_cellAll rfl;(focus ((repeat (first|exact mH|refine mT ?_));done));(first|exact T.rw37|exact T.rw40))|(apply R_cell1 rfl;(focus ((repeat (first|exact mH|refine mT ?_));done));(first|exact T.sc3|exact T.sc4|exact T.sc33|exact T.sc34))))
        |(apply E_ret2 rfl;(first|exact Res.tmp rfl|(apply R_cellAll rfl;(focus ((repeat (first|exact mH|refine mT ?_));done));(first|exact T.rw37|exact T.rw40))|(apply R_cell1 rfl;(focus ((repeat (first|exact mH|refine mT ?_));done));(first|exact T.sc3|exact T.sc4|exact T.sc33|exact T.sc34)));(first|exact Res.tmp rfl|(apply R_cellAll rfl;(focus ((repeat (first|exact mH|refine mT ?_));done));(first|exact T.rw37|exact T.rw40))|(apply R_cell1 rfl;(focus ((repeat (first|exact mH|refine mT ?_));done));(first|exact T.sc3|exact T.sc4|exact T.sc33|exact T.sc34))))
        | (apply E_ret3 rfl; (first | exact Res.tmp rfl | (apply R_cellAll rfl; (focus ((repeat (first | exact List.Mem.head _ | refine List.Mem.tail _ ?_)); done)); (first | exact T.rw37 | exact T.rw40)) | (apply R_cell1 rfl; (focus ((repeat (first | exact List.Mem.head _ | refine List.Mem.tail _ ?_)); done)); (first | exact T.sc3 | exact T.sc4 | exact T.sc33 | exact T.sc34))); (first | exact Res.tmp rfl | (apply R_cellAll rfl; (focus ((repeat (first | exact List.Mem.head _ | refine List.Mem.tail _ ?_)); done)); (first | exact T.rw37 | exact T.rw40)) | (apply R_cell1 rfl; (focus ((repeat (first | exact List.Mem.head _ | refine List.Mem.tail _ ?_)); done)); (first | exact T.sc3 | exact T.sc4 | exact T.sc33 | exact T.sc34))); (first | exact Res.tmp rfl | (apply R_cellAll rfl; (focus ((repeat (first | exact List.Mem.head _ | refine List.Mem.tail _ ?_)); done)); (first | exact T.rw37 | exact T.rw40)) | (apply R_cell1 rfl; (focus ((repeat (first | exact List.Mem.head _ | refine List.Mem.tail _ ?_)); done)); (first | exact T.sc3 | exact T.sc4 | exact T.sc33 | exact T.sc34)))))))
  all_goals (refine retN ?_; simp only [endOk, hbk, hbw, hbt, hbc, hbu, hbh]; first | (simp [*]; done) | (simp_all; done) | (simp [*]; omega) | (simp_all; omega))
end Go.Proofs.Ytlkcgonbkdflpaa

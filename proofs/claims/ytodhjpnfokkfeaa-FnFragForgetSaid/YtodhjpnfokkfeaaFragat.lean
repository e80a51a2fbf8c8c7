/- A drawn bench and a packet drawn for it. -/
import Derived.Test.YtodhjpnfokkfeaaFragas
set_option linter.unusedSimpArgs false
set_option linter.unusedVariables false
namespace Go.Proofs.Ytodhjpnfokkfeaa
open Go Go.RowKit
theorem pw_two {α : Type} {R : α → α → Prop} (hsym : ∀ a b, R a b → R b a) {a b : α} (hne : a ≠ b) : ∀ {L : List α}, L.Pairwise R → a ∈ L → b ∈ L → R a b
  | [], _, h, _ => by cases h
  | x :: L, hp, ha, hb => by
    rw [List.pairwise_cons] at hp
    rcases List.mem_cons.1 ha with ha | ha
    · rcases List.mem_cons.1 hb with hb | hb
      · exact absurd (ha.trans hb.symm) hne
      · rw [ha]; exact hp.1 b hb
    · rcases List.mem_cons.1 hb with hb | hb
      · rw [hb]; exact hsym _ _ (hp.1 a ha)
      · exact pw_two hsym hne hp.2 ha hb
theorem apartM {w0 : World} {L : List Blk} {x : Row} {xs : List Row} {c : Nat} {t : TypeId} {cs : List Value} (hx : x ∈ xs) (h : .many xs ∈ L) (hb : .blk c t cs ∈ L) : ApartR w0 L x.v c := fun w hs e => by
  have h1 := pw_two (fun a b h k h1 h2 => h k h2 h1) (a := .many xs) (b := .blk c t cs) (by intro h; cases h) hs.nd h hb
  exact h1 c ⟨x, hx, e⟩ rfl
attribute [local irreducible] Calls GoS GoC GoE GoT Mid IsEq IsFl IsSc IsRw IsSl IsEl IsSt IsFs sp Mem Rd LenOf szR joinC alikeC likeC takeC SmallB
set_option maxRecDepth 8192 in
theorem l15AnyBench_c {w0 : World} (kr : Nat) (v : Value) (lc : List Int) (p : Int) (hc : Code w0 v lc) (hp : 0 ≤ p ∧ p ≤ 1099509000000) (R : List Blk) (w : World) (hs : St w0 w ([.blk kr 108 (rdr v p)] ++ R)) : Calls Try.prog 94 #[.pointer (some ⟨kr, 0, none⟩)] w
    (RetS w0 R (fun z : MFragBench × List Row × Int => SmallC (ctFragBench z.1) ∧ BinB z.1 z.2.1 ∧ p ≤ z.2.2 ∧ z.2.2 ≤ p + 400000) (fun z => .agg (clFragBench z.1).toArray) (fun z => [.blk kr 108 (rdr v z.2.2), .many z.2.1])) := by
  have hs' : St w0 w (.blk kr 108 (rdr v p) :: R) := hs
  refine enterS (n := 13) (E := [(0, _)]) Try.func94 rfl rfl rfl rfl hs' ?_
  repeat' (first
    |(refine gS ?_;(first
        |(refine S_move rfl rfl ?_)
        |(refine gLoad ?_;(first
            |(apply F_loadAll rfl rfl;(focus ((repeat (first|exact mH|refine mT ?_));done));exact T.rw45;(focus (first|exact free0|exact free1)))))
        |(refine gStore ?_;(first
            |(apply F_storeN rfl rfl;(focus (first|rfl|assumption|(simp only [List.append_nil,List.all_cons,List.all_nil,Bool.and_true,Bool.true_and,one_int,one_bool,one_string,one_slice,one_pointer, *];done)));exact T.rw45;(focus ((repeat (first|exact Upd.here|apply Upd.there));done));(focus ((repeat (first|exact SetSeg.nil|apply SetSeg.here|apply SetSeg.there));done));(first|exact okst2|exact okst1|exact okst1'))))
        |(refine gCall ?_;(first
            |(show GoS _ _ _ _ _ _ _ (⟨_,_,_,.call ⟨.value (.func 48),_,_⟩,_⟩ :: _);apply S_callB (f := 48) (b := kr) (hp := T.pf48) (hv := rfl) (hd := rfl);(case hpick => ((repeat (first|exact Pick.here|exact Pick.last|apply Pick.there|apply Pick.over));done));(case hc => exact pick_c kr v lc _ _ hc (by omega));(case hnb => (intro _ _;exact ⟨_,List.Mem.head _,rfl⟩));(case hk => (first|exact okst2|exact okst1|exact okst1'));intro zz hzz;simp only [List.cons_append,List.nil_append];revert hzz;revert zz;intro z hz)
            |(show GoS _ _ _ _ _ _ _ (⟨_,_,_,.call ⟨.value (.func 113),_,_⟩,_⟩ :: _);apply S_callB (f := 113) (b := kr) (hp := T.pf113) (hv := rfl) (hd := rfl);(case hpick => ((repeat (first|exact Pick.here|exact Pick.last|apply Pick.there|apply Pick.over));done));(case hc => exact l15Bench_c kr v lc _ hc (by omega));(case hnb => (intro _ _;exact ⟨_,List.Mem.head _,rfl⟩));(case hk => (first|exact okst2|exact okst1|exact okst1'));intro zz hzz;simp only [List.cons_append,List.nil_append];revert hzz;revert zz;rintro ⟨y,q⟩ ⟨hy1,hy2,hy3⟩;dsimp only at hy1 hy2 hy3 ⊢;refine S_fact (fun w hs => oneFragBench (Rds.many hs (by (focus ((repeat (first|exact mH|refine mT ?_));done))))) (fun hone => ?_))
            |(show GoS _ _ _ _ _ _ _ (⟨_,_,_,.call ⟨.value (.func 114),_,_⟩,_⟩ :: _);apply S_callS (f := 114) T.pf114 rfl rfl (fun w hst => l15SpoilBench_c kr v lc (q + 1) y hy1 hc (by omega) _ w hst);(focus ((repeat (first|exact Pull.nil|(apply Pull.app;(focus ((repeat (first|exact PickA.here|exact PickA.all|apply PickA.there|apply PickA.over));done)))|(apply Pull.cons;(focus ((repeat (first|exact Pick.here|exact Pick.last|apply Pick.there|apply Pick.over));done)))|(apply Pull.atom;(focus ((repeat (first|exact PickA.here|exact PickA.all|apply PickA.there|apply PickA.over));done)))));done));intro zz hzz;simp only [List.cons_append,List.nil_append];revert hzz;revert zz;rintro ⟨z2,base,q2⟩ ⟨hz1,hz2,hz3,hz4⟩;dsimp only at hz1 hz2 hz3 hz4 ⊢;refine S_fact (fun w hs => oneFragBench (rds_bin hz2 (Rds.many (l := base) hs (by (focus ((repeat (first|exact mH|refine mT ?_));done)))))) (fun hone2 => ?_))))
        |(refine gBin ?_;(first
            |(refine S_eql rfl rfl rfl ?_)))
        |(apply S_alloc rfl (hd := rfl);exact T.zc45;intro kb)
        |(refine S_done ?_)))
    |(refine gC ?_;(first
        |(refine C_seq ?_)
        |(refine gReg ?_;(first
            |(refine gReg (i := 0) ?_;refine C_plain [(0,2)] (by kernel_rfl) (s := [⟨2,none,_,_,_⟩]) rfl ?_)
            |(refine gReg (i := 1) ?_;refine C_plain [(0,0),(1,2),(2,2),(3,2)] (by kernel_rfl) (s := [⟨0,none,_,_,_⟩,⟨2,none,_,_,_⟩,⟨2,none,_,_,_⟩,⟨2,none,_,_,_⟩]) rfl ?_)
            |(refine gReg (i := 2) ?_;refine C_plain [(0,0),(1,2),(2,0)] (by kernel_rfl) (s := [⟨0,none,_,_,_⟩,⟨2,none,_,_,_⟩,⟨0,none,_,_,_⟩]) rfl ?_)
            |(refine gReg (i := 3) ?_;refine C_plain [(0,0),(1,0),(2,2),(3,2)] (by kernel_rfl) (s := [⟨0,none,_,_,_⟩,⟨0,none,_,_,_⟩,⟨2,none,_,_,_⟩,⟨2,none,_,_,_⟩]) rfl ?_)
            |(refine gReg (i := 4) ?_;refine C_plain [(0,0),(1,2)] (by kernel_rfl) (s := [⟨0,none,_,_,_⟩,⟨2,none,_,_,_⟩]) rfl ?_)))
        |(refine C_split rfl ?_ ?_ <;> (intro hb;(try simp only [decide_eq_true_eq] at hb);(try simp only [decide_eq_false_iff_not] at hb);(try simp only [Bool.not_eq_true'] at hb);(try simp only [Bool.not_eq_false'] at hb);(try (exfalso;first|contradiction|omega))))
        |(refine C_skip ?_)
        |(refine C_ret ?_)))
    |(refine gE ?_;(first
        |(refine E_then ?_)
        |(refine E_thenR ?_)
        |(apply E_ret1 rfl;(first|exact Res.tmp rfl|(apply R_cellAll rfl;(focus ((repeat (first|exact mH|refine mT ?_));done));exact T.rw45)|(apply R_cell1 rfl;(focus ((repeat (first|exact mH|refine mT ?_));done));fail))))))
  · exact retS (z2,base,q2) ⟨hz1,hz2,by dsimp only;omega,by dsimp only;omega⟩ rfl entA
  · exact retS (y,rwFragBench y,q + 1) ⟨hy1.wide,binB_refl _,by dsimp only;omega,by dsimp only;omega⟩ rfl entA
/-- a packet's payload is short, of bytes -/
def DatOk (c : CFragPacket) : Prop := (datP c).length ≤ 200 ∧ octP c
theorem SmallW.dat {c : CFragPacket} (h : SmallW c) : DatOk c := ⟨h.len, h.byte⟩
set_option maxRecDepth 8192 in
set_option maxHeartbeats 1000000 in
theorem l15More_c {w0 : World} (kr : Nat) (v : Value) (lc : List Int) (p : Int) (b : MFragBench) (base : List Row) (hsm : SmallC (ctFragBench b)) (hbin : BinB b base) (hc : Code w0 v lc) (hp : 0 ≤ p ∧ p ≤ 1099510000000) (R : List Blk) (w : World) (hs : St w0 w ([.blk kr 108 (rdr v p), .many base] ++ R)) : Calls Try.prog 95 #[.pointer (some ⟨kr, 0, none⟩), .agg (clFragBench b).toArray] w
    (RetS w0 R (fun z : MFragPacket × List Row => DatOk (ctFragPacket z.1) ∧ (∀ r ∈ rwFragPacket z.1, r ∈ z.2) ∧ ∀ r ∈ base, r ∈ z.2) (fun z => .agg (clFragPacket z.1).toArray) (fun z => [.many z.2])) := by
  have hs' : St w0 w (.blk kr 108 (rdr v p) :: .many base :: R) := hs
  have hrb : Rds w (rwFragBench b) := rds_bin hbin (Rds.many (l := base) hs' (by (focus ((repeat (first|exact mH|refine mT ?_));done))))
  have hobb := oneFragBench hrb
  obtain ⟨bn, bv, bl⟩ := b
  have hb0 : (⟨bv, 67, 3, bl.length, bl.flatMap clFragSlot⟩ : Row) ∈ base := hbin _ List.mem_cons_self
  have hbN : IsN bv bl.length := isN_mem (Rds.head hrb)
  have hslot : ∀ s ∈ bl, (⟨s.1.1, 24, 9, s.1.2.length, s.1.2.flatMap clFragPacket⟩ : Row) ∈ base ∧ IsN s.1.1 s.1.2.length ∧ (clFragSlot s).all (·.oneCell') = true ∧ ∀ q ∈ s.1.2, (clFragPacket q).all (·.oneCell') = true ∧ IsN q.2.2.2.2.2.2.2.2.1 q.2.2.2.2.2.2.2.2.2.length ∧ SmallW (ctFragPacket q) ∧ ∀ r ∈ rwFragPacket q, r ∈ base := fun s hsm2 => by
    have h1 : Rds w (rwFragSlot s) := Rds.flatMap.1 (Rds.tail hrb) s hsm2
    have h2 : ∀ r ∈ rwFragSlot s, r ∈ base := fun r hr => hbin r (List.mem_cons_of_mem _ (List.mem_flatMap.2 ⟨s, hsm2, hr⟩))
    refine ⟨h2 _ List.mem_cons_self, isN_mem (Rds.head h1), oneFragSlot h1, fun q hq => ?_⟩
    have h3 : Rds w (rwFragPacket q) := Rds.flatMap.1 (Rds.tail h1) q hq
    exact ⟨oneFragPacket h3, isN_mem (Rds.head h3), (hsm.2.2.2 _ (List.mem_map.2 ⟨s, hsm2, rfl⟩)).2 _ (List.mem_map.2 ⟨q, hq, rfl⟩), fun r hr => h2 r (List.mem_cons_of_mem _ (List.mem_flatMap.2 ⟨q, hq, hr⟩))⟩
  refine enterS (n := 88) (E := [(0, _), (1, _)]) Try.func95 rfl rfl rfl rfl hs' ?_
  repeat' (first
    |(refine gS ?_;(first
        |(refine gGuard ?_;(first
            |(refine S_on rfl ?_)
            |(refine S_off rfl rfl rfl ?_)
            |(refine S_gsplit rfl ?_ ?_ <;> (intro hb;(try simp only [decide_eq_true_eq] at hb);(try simp only [decide_eq_false_iff_not] at hb);(try simp only [Bool.not_eq_true'] at hb);(try simp only [Bool.not_eq_false'] at hb);(try (exfalso;first|contradiction|omega))))))
        |(refine S_move rfl rfl ?_)
        |(apply F_field rfl rfl;(first|exact T.fl24_6|exact T.fl24_7|exact T.fl24_8|exact T.fl45_1|exact T.fl67_0))
        |(apply F_idxZ rfl rfl rfl;(first|exact T.sl22|exact T.sl27|exact T.sl43);(focus omega);(focus (first|exact len_nil|(apply len_given;assumption)|(apply len_row;(focus ((repeat (first|exact mH|refine mT ?_));done)))|(apply len_isN;assumption)));(focus omega))
        |(refine gLoad ?_;(first
            |(apply F_load1 rfl rfl;(focus ((repeat (first|exact mH|refine mT ?_));done));(first|exact T.sc3|exact T.sc4|exact T.sc22|exact T.sc27|exact T.sc43);rfl;(focus (first|exact free0|exact free1|(refine free2 ?_ ?_;(focus ((repeat (first|(apply apart1;(repeat (first|exact mH|refine mT ?_));done)|(apply apart2;(repeat (first|exact mH|refine mT ?_));done)|refine apart3 ?_));done));(first|exact free1|(refine free2 ?_ ?_;(focus ((repeat (first|(apply apart1;(repeat (first|exact mH|refine mT ?_));done)|(apply apart2;(repeat (first|exact mH|refine mT ?_));done)|refine apart3 ?_));done));exact free1))))))
            |((apply F_loadSN rfl rfl T.rw67;(focus (refine rd_many (x := ⟨bv,67,3,bl.length,bl.flatMap clFragSlot⟩) hb0 ?_ ?_;(focus ((repeat (first|exact mH|refine mT ?_));done));(first|exact freeR0|exact freeR1|exact freeR2 (apartM hb0 (by (focus ((repeat (first|exact mH|refine mT ?_));done))) (by (focus ((repeat (first|exact mH|refine mT ?_));done)))) freeR1)));(focus (apply at_flat;(focus (intro _;rfl));(focus assumption)));rfl;rfl))))
        |(refine gStore ?_;(first
            |(apply F_storeN rfl rfl;(focus (first|rfl|assumption|(simp only [List.append_nil,List.all_cons,List.all_nil,Bool.and_true,Bool.true_and,one_int,one_bool,one_string,one_slice,one_pointer, *];done)));(first|exact T.rw24|exact T.rw67);(focus ((repeat (first|exact Upd.here|apply Upd.there));done));(focus ((repeat (first|exact SetSeg.nil|apply SetSeg.here|apply SetSeg.there));done));(first|exact okst2|exact okst1|exact okst1'))))
        |(refine gCall ?_;(first
            |(show GoS _ _ _ _ _ _ _ (⟨_,_,_,.call ⟨.value (.func 48),_,_⟩,_⟩ :: _);apply S_callB (f := 48) (b := kr) (hp := T.pf48) (hv := rfl) (hd := rfl);(case hpick => ((repeat (first|exact Pick.here|exact Pick.last|apply Pick.there|apply Pick.over));done));(case hc => exact pick_c kr v lc _ (bl.length : Int) hc (by omega));(case hnb => (intro _ _;exact ⟨_,List.Mem.head _,rfl⟩));(case hk => (first|exact okst2|exact okst1|exact okst1'));intro zz hzz;simp only [List.cons_append,List.nil_append];revert hzz;revert zz;intro zk hzk;have hk1 : bl[zk.toNat]? = some (ix bl zk.toNat) := nthD (by omega);have hkm := List.mem_of_getElem? hk1;have hko := (hslot _ hkm).2.2.1)
            |(show GoS _ _ _ _ _ _ _ (⟨_,_,_,.call ⟨.value (.func 48),_,_⟩,_⟩ :: _);apply S_callB (f := 48) (b := kr) (hp := T.pf48) (hv := rfl) (hd := rfl);(case hpick => ((repeat (first|exact Pick.here|exact Pick.last|apply Pick.there|apply Pick.over));done));(case hc => exact pick_c kr v lc _ _ hc (by omega));(case hnb => (intro _ _;exact ⟨_,List.Mem.head _,rfl⟩));(case hk => (first|exact okst2|exact okst1|exact okst1'));intro zz hzz;simp only [List.cons_append,List.nil_append];revert hzz;revert zz;intro z hz)
            |(show GoS _ _ _ _ _ _ _ (⟨_,_,_,.call ⟨.value (.func 68),_,_⟩,_⟩ :: _);apply S_callB (f := 68) (b := kr) (hp := T.pf68) (hv := rfl) (hd := rfl);(case hpick => ((repeat (first|exact Pick.here|exact Pick.last|apply Pick.there|apply Pick.over));done));(case hc => exact l15Any_c kr v lc _ hc (by omega));(case hnb => (intro _ _;exact ⟨_,List.Mem.head _,rfl⟩));(case hk => (first|exact okst2|exact okst1|exact okst1'));intro zz hzz;simp only [List.cons_append,List.nil_append];revert hzz;revert zz;rintro ⟨x,q⟩ ⟨hx1,hx2,hx3⟩;dsimp only at hx1 hx2 hx3 ⊢;refine S_fact (fun w hs => oneFragPacket (Rds.many hs (by (focus ((repeat (first|exact mH|refine mT ?_));done))))) (fun hone => ?_))
            |(apply F_len rfl rfl rfl;(focus exact ⟨_,_,by (first|exact T.sl22|exact T.sl27|exact T.sl43)⟩);(focus (first|exact len_nil|(apply len_given;assumption)|(apply len_row;(focus ((repeat (first|exact mH|refine mT ?_));done)))|(apply len_isN;assumption))))))
        |(refine gBin ?_;(first
            |(refine S_eql rfl rfl rfl ?_)))
        |(refine gPick ?_;(first
            |(refine S_pickT rfl rfl rfl ?_)
            |(refine S_pickF rfl rfl rfl ?_)))
        |(refine S_box rfl rfl rfl ?_;intro kb)
        |(apply S_alloc rfl (hd := rfl);(first|exact T.zc24|exact T.zc67);intro kb)
        |(refine S_done ?_)))
    |((first
        |(refine gSeqReg (i := 3) ?_;refine C_join (α := Nat × MFragSlot) (fun s => [(5,.pointer (some ⟨s.1,0,none⟩)),(4,.pointer (some ⟨kb,0,none⟩)),(0,.pointer (some ⟨kr,0,none⟩))]) (fun s => .blk kr 108 (rdr v (p + 1 + 1)) :: .blk s.1 67 (clFragSlot s.2) :: .blk kb 24 (clFragPacket zeroP) :: .many base :: R) (fun s => s.2 ∈ bl) ?_ ?_)
        |(refine C_seq ?_)
        |(refine gReg ?_;(first
            |(refine gReg (i := 0) ?_;refine C_plain [(0,2),(1,2)] (by kernel_rfl) (s := [⟨2,none,_,_,_⟩,⟨2,none,_,_,_⟩]) rfl ?_)
            |(refine gReg (i := 1) ?_;refine C_plain [(0,0),(1,0),(2,0),(3,0),(4,0),(5,0),(6,2),(7,0),(8,0)] (by kernel_rfl) (s := [⟨0,none,_,_,_⟩,⟨0,none,_,_,_⟩,⟨0,none,_,_,_⟩,⟨0,none,_,_,_⟩,⟨0,none,_,_,_⟩,⟨0,some (11,false),_,_,_⟩,⟨2,some (11,false),_,_,_⟩,⟨0,some (11,false),_,_,_⟩,⟨0,none,_,_,_⟩]) rfl ?_)
            |(refine gReg (i := 2) ?_;refine C_plain [(0,0),(1,2),(2,2)] (by kernel_rfl) (s := [⟨0,none,_,_,_⟩,⟨2,none,_,_,_⟩,⟨2,none,_,_,_⟩]) rfl ?_)
            |(refine gReg (i := 3) ?_;refine C_drawnT1 0 rfl (.br [(0,0),(1,0),(2,0),(3,0),(4,0),(5,0)] (.fin [(6,1),(7,0),(8,0),(9,1),(10,2)]) (.fin [(9,1),(6,1),(7,0),(8,0),(10,2)])) T.mixed (by kernel_rfl) (s := (.br [⟨0,none,_,_,_⟩,⟨0,none,_,_,_⟩,⟨0,none,_,_,_⟩,⟨0,none,_,_,_⟩,⟨0,none,_,_,_⟩,⟨0,none,_,_,_⟩] (.fin [⟨1,none,_,_,_⟩,⟨0,none,_,_,_⟩,⟨0,none,_,_,_⟩,⟨1,none,_,_,_⟩,⟨2,none,_,_,_⟩]) (.fin [⟨1,none,_,_,_⟩,⟨1,none,_,_,_⟩,⟨0,none,_,_,_⟩,⟨0,none,_,_,_⟩,⟨2,none,_,_,_⟩]))) rfl ?_)))
        |(refine C_true rfl ?_)
        |(refine C_split rfl ?_ ?_ <;> (intro hb;(try simp only [decide_eq_true_eq] at hb);(try simp only [decide_eq_false_iff_not] at hb);(try simp only [Bool.not_eq_true'] at hb);(try simp only [Bool.not_eq_false'] at hb);(try (exfalso;first|contradiction|omega))))
        |(refine C_skip ?_)
        |(refine C_ret ?_)
        |(refine T_fin ?_)
        |(refine T_br ?_)))
    |(refine gE ?_;(first
        |(refine E_then ?_)
        |(refine E_thenR ?_)
        |(refine E_calm ?_)
        |(apply E_ret1 rfl;(first|exact Res.tmp rfl|(apply R_cellAll rfl;(focus ((repeat (first|exact mH|refine mT ?_));done));(first|exact T.rw24|exact T.rw67))|(apply R_cell1 rfl;(focus ((repeat (first|exact mH|refine mT ?_));done));(first|exact T.sc3|exact T.sc4|exact T.sc22|exact T.sc27|exact T.sc43))))
        | (refine E_both ?_ ?_))))
  iterate 2
    · exact retS (x,rwFragPacket x ++ base) ⟨hx1.dat,fun r h => List.mem_append_left _ h,fun r h => List.mem_append_right _ h⟩ rfl entA
  iterate 2
    · exact E_join (α := Nat × MFragSlot) (kb,ix bl zk.toNat) hkm ⟨rfl,rfl,rfl,trivial⟩ entA
  rintro ⟨k5, s⟩ hsb
  obtain ⟨hb1, hN1, hos, hpk⟩ := hslot _ hsb
  dsimp only at hb1 hN1 hos hpk ⊢
  clear hslot hobb hrb hs hs'
  have hel : ∀ zk : Int, 0 ≤ zk → zk < (s.1.2.length : Int) → s.1.2[zk.toNat]? = some (ix s.1.2 zk.toNat) ∧ ix s.1.2 zk.toNat ∈ s.1.2 := fun zk h0 h1 => ⟨nthD (by omega), List.mem_of_getElem? (nthD (l := s.1.2) (k := zk.toNat) (by omega))⟩
  repeat' (first
    |(refine gS ?_;(first
        |(refine S_move rfl rfl ?_)
        |(apply F_field rfl rfl;(first|exact T.fl24_6|exact T.fl24_7|exact T.fl24_8|exact T.fl45_1|exact T.fl67_0))
        |(apply F_idxZ rfl rfl rfl;(first|exact T.sl22|exact T.sl27|exact T.sl43);(focus omega);(focus (first|exact len_nil|(apply len_given;assumption)|(apply len_row;(focus ((repeat (first|exact mH|refine mT ?_));done)))|(apply len_isN;assumption)));(focus omega))
        |(refine gLoad ?_;(first
            |(apply F_load1 rfl rfl;(focus ((repeat (first|exact mH|refine mT ?_));done));(first|exact T.sc3|exact T.sc4|exact T.sc22|exact T.sc27|exact T.sc43);rfl;(focus (first|exact free0|exact free1|(refine free2 ?_ ?_;(focus ((repeat (first|(apply apart1;(repeat (first|exact mH|refine mT ?_));done)|(apply apart2;(repeat (first|exact mH|refine mT ?_));done)|refine apart3 ?_));done));(first|exact free1|(refine free2 ?_ ?_;(focus ((repeat (first|(apply apart1;(repeat (first|exact mH|refine mT ?_));done)|(apply apart2;(repeat (first|exact mH|refine mT ?_));done)|refine apart3 ?_));done));exact free1))))))
            |((apply F_loadSN rfl rfl T.rw24;(focus (refine rd_many (x := ⟨s.1.1,24,9,s.1.2.length,s.1.2.flatMap clFragPacket⟩) hb1 ?_ ?_;(focus ((repeat (first|exact mH|refine mT ?_));done));(first|exact freeR0|exact freeR1|exact freeR2 (apartM hb1 (by (focus ((repeat (first|exact mH|refine mT ?_));done))) (by (focus ((repeat (first|exact mH|refine mT ?_));done)))) freeR1)));(focus (apply at_flat;(focus (intro _;rfl));(focus assumption)));rfl;rfl))))
        |(refine gStore ?_;(first
            |(apply F_storeN rfl rfl;(focus (first|rfl|assumption|(simp only [List.append_nil,List.all_cons,List.all_nil,Bool.and_true,Bool.true_and,one_int,one_bool,one_string,one_slice,one_pointer, *];done)));(first|exact T.rw24|exact T.rw67);(focus ((repeat (first|exact Upd.here|apply Upd.there));done));(focus ((repeat (first|exact SetSeg.nil|apply SetSeg.here|apply SetSeg.there));done));(first|exact okst2|exact okst1|exact okst1'))))
        |(refine gCall ?_;(first
            |(show GoS _ _ _ _ _ _ _ (⟨_,_,_,.call ⟨.value (.func 48),_,_⟩,_⟩ :: _);apply S_callB (f := 48) (b := kr) (hp := T.pf48) (hv := rfl) (hd := rfl);(case hpick => ((repeat (first|exact Pick.here|exact Pick.last|apply Pick.there|apply Pick.over));done));(case hc => exact pick_c kr v lc _ (s.1.2.length : Int) hc (by omega));(case hnb => (intro _ _;exact ⟨_,List.Mem.head _,rfl⟩));(case hk => (first|exact okst2|exact okst1|exact okst1'));intro zz hzz;simp only [List.cons_append,List.nil_append];revert hzz;revert zz;intro zk hzk;have hk0 := hel zk hzk.1 (hzk.2.1 (by omega));have hk1 := hk0.1;have hkm := hk0.2;have hko := (hpk _ hkm).1)
            |(show GoS _ _ _ _ _ _ _ (⟨_,_,_,.call ⟨.value (.func 68),_,_⟩,_⟩ :: _);apply S_callB (f := 68) (b := kr) (hp := T.pf68) (hv := rfl) (hd := rfl);(case hpick => ((repeat (first|exact Pick.here|exact Pick.last|apply Pick.there|apply Pick.over));done));(case hc => exact l15Any_c kr v lc _ hc (by omega));(case hnb => (intro _ _;exact ⟨_,List.Mem.head _,rfl⟩));(case hk => (first|exact okst2|exact okst1|exact okst1'));intro zz hzz;simp only [List.cons_append,List.nil_append];revert hzz;revert zz;rintro ⟨x,q⟩ ⟨hx1,hx2,hx3⟩;dsimp only at hx1 hx2 hx3 ⊢;refine S_fact (fun w hs => oneFragPacket (Rds.many hs (by (focus ((repeat (first|exact mH|refine mT ?_));done))))) (fun hone => ?_))
            |(apply F_len rfl rfl rfl;(focus exact ⟨_,_,by (first|exact T.sl22|exact T.sl27|exact T.sl43)⟩);(focus (first|exact len_nil|(apply len_given;assumption)|(apply len_row;(focus ((repeat (first|exact mH|refine mT ?_));done)))|(apply len_isN;assumption))))))
        |(refine gBin ?_;(first
            |(refine S_eql rfl rfl rfl ?_)))
        |(apply S_alloc rfl (hd := rfl);(first|exact T.zc24|exact T.zc67);intro kb)
        |(refine S_done ?_)))
    |((first
        |(refine gSeqReg (i := 6) ?_;refine C_join (α := Nat × MFragPacket) (fun s => [(6,.pointer (some ⟨s.1,0,none⟩)),(4,.pointer (some ⟨kb,0,none⟩)),(0,.pointer (some ⟨kr,0,none⟩))]) (fun s => .blk kr 108 (rdr v (p + 1 + 1 + 1)) :: .blk s.1 24 (clFragPacket s.2) :: .blk kb 24 (clFragPacket zeroP) :: .many base :: R) (fun x => x.2 ∈ s.1.2) ?_ ?_)
        |(refine C_seq ?_)
        |(refine gReg ?_;(first
            |(refine gReg (i := 4) ?_;refine C_plain [(0,0),(1,0),(2,0),(3,0)] (by kernel_rfl) (s := [⟨0,none,_,_,_⟩,⟨0,none,_,_,_⟩,⟨0,none,_,_,_⟩,⟨0,none,_,_,_⟩]) rfl ?_)
            |(refine gReg (i := 5) ?_;refine C_plain [(0,0),(1,2),(2,2)] (by kernel_rfl) (s := [⟨0,none,_,_,_⟩,⟨2,none,_,_,_⟩,⟨2,none,_,_,_⟩]) rfl ?_)
            |(refine gReg (i := 6) ?_;refine C_drawnT1 0 rfl (.br [(0,0),(1,0),(2,0),(3,0),(4,0),(5,0)] (.fin [(6,1),(7,0),(8,0),(9,1),(10,2)]) (.fin [(9,1),(6,1),(7,0),(8,0),(10,2)])) T.mixed (by kernel_rfl) (s := (.br [⟨0,none,_,_,_⟩,⟨0,none,_,_,_⟩,⟨0,none,_,_,_⟩,⟨0,none,_,_,_⟩,⟨0,none,_,_,_⟩,⟨0,none,_,_,_⟩] (.fin [⟨1,none,_,_,_⟩,⟨0,none,_,_,_⟩,⟨0,none,_,_,_⟩,⟨1,none,_,_,_⟩,⟨2,none,_,_,_⟩]) (.fin [⟨1,none,_,_,_⟩,⟨1,none,_,_,_⟩,⟨0,none,_,_,_⟩,⟨0,none,_,_,_⟩,⟨2,none,_,_,_⟩]))) rfl ?_)))
        |(refine C_split rfl ?_ ?_ <;> (intro hb;(try simp only [decide_eq_true_eq] at hb);(try simp only [decide_eq_false_iff_not] at hb);(try simp only [Bool.not_eq_true'] at hb);(try simp only [Bool.not_eq_false'] at hb);(try (exfalso;first|contradiction|omega))))
        |(refine C_skip ?_)
        |(refine C_ret ?_)
        |(refine T_fin ?_)
        |(refine T_br ?_)))
    |(refine gE ?_;(first
        |(refine E_then ?_)
        |(refine E_thenR ?_)
        |(refine E_calm ?_)
        |(apply E_ret1 rfl;(first|exact Res.tmp rfl|(apply R_cellAll rfl;(focus ((repeat (first|exact mH|refine mT ?_));done));(first|exact T.rw24|exact T.rw67))|(apply R_cell1 rfl;(focus ((repeat (first|exact mH|refine mT ?_));done));(first|exact T.sc3|exact T.sc4|exact T.sc22|exact T.sc27|exact T.sc43))))
        | (refine E_both ?_ ?_))))
  · exact retS (x,rwFragPacket x ++ base) ⟨hx1.dat,fun r h => List.mem_append_left _ h,fun r h => List.mem_append_right _ h⟩ rfl entA
  iterate 2
    · exact E_join (α := Nat × MFragPacket) (kb,ix s.1.2 zk.toNat) hkm ⟨rfl,rfl,rfl,trivial⟩ entA
  rintro ⟨k6, x⟩ hxb
  obtain ⟨hox, hN2, hsx, hrx⟩ := hpk _ hxb
  dsimp only at hox hN2 hsx hrx ⊢
  have hxo := hsx.off
  have hxn := hsx.len
  have hxo2 : -140000 ≤ x.2.2.2.2.2.2.1 ∧ x.2.2.2.2.2.2.1 ≤ 4611686018427387904 + 70000 := hxo
  have hxn2 : x.2.2.2.2.2.2.2.2.2.length ≤ 200 := hxn
  repeat' (first
    |(refine gS ?_;(first
        |(refine S_move rfl rfl ?_)
        |(refine S_assign rfl rfl ?_)
        |(apply F_field rfl rfl;(first|exact T.fl24_6|exact T.fl24_7|exact T.fl24_8|exact T.fl45_1|exact T.fl67_0))
        |(refine gLoad ?_;(first
            |(apply F_load1 rfl rfl;(focus ((repeat (first|exact mH|refine mT ?_));done));(first|exact T.sc3|exact T.sc4|exact T.sc22|exact T.sc27|exact T.sc43);rfl;(focus (first|exact free0|exact free1|(refine free2 ?_ ?_;(focus ((repeat (first|(apply apart1;(repeat (first|exact mH|refine mT ?_));done)|(apply apart2;(repeat (first|exact mH|refine mT ?_));done)|refine apart3 ?_));done));(first|exact free1|(refine free2 ?_ ?_;(focus ((repeat (first|(apply apart1;(repeat (first|exact mH|refine mT ?_));done)|(apply apart2;(repeat (first|exact mH|refine mT ?_));done)|refine apart3 ?_));done));exact free1))))))
            |(apply F_loadAll rfl rfl;(focus ((repeat (first|exact mH|refine mT ?_));done));(first|exact T.rw24|exact T.rw67);(focus (first|exact free0|exact free1|(refine free2 ?_ ?_;(focus ((repeat (first|(apply apart1;(repeat (first|exact mH|refine mT ?_));done)|(apply apart2;(repeat (first|exact mH|refine mT ?_));done)|refine apart3 ?_));done));(first|exact free1|(refine free2 ?_ ?_;(focus ((repeat (first|(apply apart1;(repeat (first|exact mH|refine mT ?_));done)|(apply apart2;(repeat (first|exact mH|refine mT ?_));done)|refine apart3 ?_));done));exact free1))))))))
        |(refine gStore ?_;(first
            |(apply F_store1 rfl rfl;(focus (first|rfl|assumption));(first|exact T.sc3|exact T.sc4|exact T.sc22|exact T.sc27|exact T.sc43);(focus ((repeat (first|exact Upd.here|apply Upd.there));done));(focus ((repeat (first|exact SetSeg.nil|apply SetSeg.here|apply SetSeg.there));done));(first|exact okst2|exact okst1|exact okst1'))
            |(apply F_storeN rfl rfl;(focus (first|rfl|assumption|(simp only [List.append_nil,List.all_cons,List.all_nil,Bool.and_true,Bool.true_and,one_int,one_bool,one_string,one_slice,one_pointer, *];done)));(first|exact T.rw24|exact T.rw67);(focus ((repeat (first|exact Upd.here|apply Upd.there));done));(focus ((repeat (first|exact SetSeg.nil|apply SetSeg.here|apply SetSeg.there));done));(first|exact okst2|exact okst1|exact okst1'))))
        |(refine gCall ?_;(first
            |(show GoS _ _ _ _ _ _ _ (⟨_,_,_,.call ⟨.value (.func 48),_,_⟩,_⟩ :: _);apply S_callB (f := 48) (b := kr) (hp := T.pf48) (hv := rfl) (hd := rfl);(case hpick => ((repeat (first|exact Pick.here|exact Pick.last|apply Pick.there|apply Pick.over));done));(case hc => exact pick_c kr v lc _ _ hc (by omega));(case hnb => (intro _ _;exact ⟨_,List.Mem.head _,rfl⟩));(case hk => (first|exact okst2|exact okst1|exact okst1'));intro zz hzz;simp only [List.cons_append,List.nil_append];revert hzz;revert zz;intro z hz)
            |(show GoS _ _ _ _ _ _ _ (⟨_,_,_,.call ⟨.value (.func 96),_,_⟩,_⟩ :: _);apply S_callB (f := 96) (b := kr) (hp := T.pf96) (hv := rfl) (hd := rfl);(case hpick => ((repeat (first|exact Pick.here|exact Pick.last|apply Pick.there|apply Pick.over));done));(case hc => exact l15Data_c kr v lc _ _ (by omega) hc (by omega));(case hnb => (intro _ _;exact ⟨_,List.Mem.head _,rfl⟩));(case hk => (first|exact okst2|exact okst1|exact okst1'));intro zz hzz;simp only [List.cons_append,List.nil_append];revert hzz;revert zz;rintro ⟨⟨dv,dl⟩,q⟩ ⟨hd1,hd2,hd3,hd4⟩;dsimp only at hd1 hd2 hd3 hd4 ⊢;refine S_fact (fun w hs => Rds.one1 (Rds.many (l := rwSuint8 (dv,dl)) hs (by (focus ((repeat (first|exact mH|refine mT ?_));done))))) (fun hone => ?_))
            |(apply F_len rfl rfl rfl;(focus exact ⟨_,_,by (first|exact T.sl22|exact T.sl27|exact T.sl43)⟩);(focus (first|exact len_nil|(apply len_given;assumption)|(apply len_row;(focus ((repeat (first|exact mH|refine mT ?_));done)))|(apply len_isN;assumption))))))
        |(refine gBin ?_;(first
            |(refine S_eql rfl rfl rfl ?_)
            |(refine S_add rfl rfl ?_ rfl ?_;(focus (unfold rng;omega)))
            |(refine S_sub rfl rfl ?_ rfl ?_;(focus (unfold rng;omega)))
            |(refine S_mul rfl rfl ?_ rfl ?_;(focus (unfold rng;omega)))
            |(refine S_rem rfl rfl ?_ ?_ rfl ?_;(focus omega);(focus omega))))
        |(refine S_done ?_)))
    |((first
        |(refine C_seq ?_)
        |(refine gReg ?_;(first
            |(refine gReg (i := 7) ?_;refine C_plain [(0,0),(1,2)] (by kernel_rfl) (s := [⟨0,none,_,_,_⟩,⟨2,none,_,_,_⟩]) rfl ?_)
            |(refine gReg (i := 10) ?_;refine C_plain [(0,0),(1,0)] (by kernel_rfl) (s := [⟨0,none,_,_,_⟩,⟨0,none,_,_,_⟩]) rfl ?_)
            |(refine gReg (i := 11) ?_;refine C_plain [(0,0),(1,2)] (by kernel_rfl) (s := [⟨0,none,_,_,_⟩,⟨2,none,_,_,_⟩]) rfl ?_)
            |(refine gReg (i := 12) ?_;refine C_plain [(0,0),(1,0)] (by kernel_rfl) (s := [⟨0,none,_,_,_⟩,⟨0,none,_,_,_⟩]) rfl ?_)
            |(refine gReg (i := 13) ?_;refine C_plain [(0,0),(1,0),(2,0),(3,0),(4,0),(5,0),(6,0),(7,0),(8,0),(9,0),(10,0),(11,0),(12,2)] (by kernel_rfl) (s := [⟨0,none,_,_,_⟩,⟨0,none,_,_,_⟩,⟨0,none,_,_,_⟩,⟨0,none,_,_,_⟩,⟨0,none,_,_,_⟩,⟨0,none,_,_,_⟩,⟨0,none,_,_,_⟩,⟨0,none,_,_,_⟩,⟨0,none,_,_,_⟩,⟨0,none,_,_,_⟩,⟨0,none,_,_,_⟩,⟨0,none,_,_,_⟩,⟨2,none,_,_,_⟩]) rfl ?_)
            |(refine gReg (i := 14) ?_;refine C_plain [(0,0),(1,2),(2,0),(3,0),(4,2)] (by kernel_rfl) (s := [⟨0,none,_,_,_⟩,⟨2,none,_,_,_⟩,⟨0,none,_,_,_⟩,⟨0,none,_,_,_⟩,⟨2,none,_,_,_⟩]) rfl ?_)
            |(refine gReg (i := 15) ?_;refine C_plain [(0,0),(1,0)] (by kernel_rfl) (s := [⟨0,none,_,_,_⟩,⟨0,none,_,_,_⟩]) rfl ?_)
            |(refine gReg (i := 16) ?_;refine C_plain [(0,0),(1,2)] (by kernel_rfl) (s := [⟨0,none,_,_,_⟩,⟨2,none,_,_,_⟩]) rfl ?_)
            |(refine gReg (i := 17) ?_;refine C_plain [(0,0),(1,2)] (by kernel_rfl) (s := [⟨0,none,_,_,_⟩,⟨2,none,_,_,_⟩]) rfl ?_)
            |(refine gReg (i := 18) ?_;refine C_plain [(0,0),(1,0),(2,2),(3,0),(4,0),(5,2),(6,0),(7,2)] (by kernel_rfl) (s := [⟨0,none,_,_,_⟩,⟨0,none,_,_,_⟩,⟨2,none,_,_,_⟩,⟨0,none,_,_,_⟩,⟨0,none,_,_,_⟩,⟨2,none,_,_,_⟩,⟨0,none,_,_,_⟩,⟨2,none,_,_,_⟩]) rfl ?_)
            |(refine gReg (i := 8) ?_;refine C_plain [(0,0),(1,2),(2,0),(3,0),(4,2)] (by kernel_rfl) (s := [⟨0,none,_,_,_⟩,⟨2,none,_,_,_⟩,⟨0,none,_,_,_⟩,⟨0,none,_,_,_⟩,⟨2,none,_,_,_⟩]) rfl ?_)
            |(refine gReg (i := 9) ?_;refine C_plain [(0,0),(1,0),(2,2),(3,0),(4,0),(5,2),(6,0),(7,2)] (by kernel_rfl) (s := [⟨0,none,_,_,_⟩,⟨0,none,_,_,_⟩,⟨2,none,_,_,_⟩,⟨0,none,_,_,_⟩,⟨0,none,_,_,_⟩,⟨2,none,_,_,_⟩,⟨0,none,_,_,_⟩,⟨2,none,_,_,_⟩]) rfl ?_)
            |(refine gReg (i := 19) ?_;refine C_plain [(0,0),(1,2)] (by kernel_rfl) (s := [⟨0,none,_,_,_⟩,⟨2,none,_,_,_⟩]) rfl ?_)))
        |(refine C_split rfl ?_ ?_ <;> (intro hb;(try simp only [decide_eq_true_eq] at hb);(try simp only [decide_eq_false_iff_not] at hb);(try simp only [Bool.not_eq_true'] at hb);(try simp only [Bool.not_eq_false'] at hb);(try (exfalso;first|contradiction|omega))))
        |(refine C_ret ?_)
        |(refine C_block ?_)))
    |(refine gE ?_;(first
        |(refine E_then ?_)
        |(refine E_thenR ?_)
        |(refine E_block ?_)
        |(refine E_blockR ?_)
        |(apply E_ret1 rfl;(first|exact Res.tmp rfl|(apply R_cellAll rfl;(focus ((repeat (first|exact mH|refine mT ?_));done));(first|exact T.rw24|exact T.rw67))|(apply R_cell1 rfl;(focus ((repeat (first|exact mH|refine mT ?_));done));(first|exact T.sc3|exact T.sc4|exact T.sc22|exact T.sc27|exact T.sc43)))))))
  · exact retS (x,base) ⟨hsx.dat,hrx,fun r h => h⟩ rfl entA
  · exact retS ((x.1,x.2.1,x.2.2.1,x.2.2.2.1,x.2.2.2.2.1,x.2.2.2.2.2.1,x.2.2.2.2.2.2.1 + (x.2.2.2.2.2.2.2.2.2.length : Int) - (x.2.2.2.2.2.2.2.2.2.length : Int) % 4,decide (z = 0),x.2.2.2.2.2.2.2.2),base) ⟨hsx.dat,hrx,fun r h => h⟩ rfl entA
  · exact retS ((x.1,x.2.1,x.2.2.1,x.2.2.2.1,x.2.2.2.2.1,x.2.2.2.2.2.1,0,true,(dv,dl)),rwSuint8 (dv,dl) ++ base) ⟨⟨by show dl.length ≤ 200;omega,hd2⟩,fun r h => List.mem_append_left _ h,fun r h => List.mem_append_right _ h⟩ rfl entA
  · rename_i z2 hz2
    exact retS ((x.1,x.2.1,x.2.2.1,x.2.2.2.1,x.2.2.2.2.1,x.2.2.2.2.2.1,x.2.2.2.2.2.2.1,decide (z2 = 0),(dv,dl)),rwSuint8 (dv,dl) ++ base) ⟨⟨by show dl.length ≤ 200;omega,hd2⟩,fun r h => List.mem_append_left _ h,fun r h => List.mem_append_right _ h⟩ rfl entA
set_option maxRecDepth 8192 in
theorem drawFragTake_c (v : Value) (lc : List Int) (w : World) (hm : Mem w v 1 lc.length (lc.flatMap fun y : Int => ([.int .u8 y] : List Value))) (hby : ∀ y ∈ lc, 0 ≤ y ∧ y ≤ 255) : Calls Try.prog 39 #[v] w
    (RetX (fun z : MFragBench × MFragPacket × List Row => SmallC (ctFragBench z.1) ∧ DatOk (ctFragPacket z.2.1) ∧ BinB z.1 z.2.2 ∧ ∀ r ∈ rwFragPacket z.2.1, r ∈ z.2.2) (fun z => .tuple #[.agg (clFragBench z.1).toArray, .agg (clFragPacket z.2.1).toArray]) (fun z => [.many z.2.2]) w) := by
  refine enter (n := 14) (E := [(0, _)]) Try.func39 rfl rfl rfl rfl ?_
  repeat' (first
    |(refine gS ?_;(first
        |(refine S_move rfl rfl ?_)
        |(refine S_assign rfl rfl ?_)
        |(refine gLoad ?_;(first
            |(apply F_loadAll rfl rfl;(focus ((repeat (first|exact mH|refine mT ?_));done));(first|exact T.rw24|exact T.rw45);(focus (first|exact free0|exact free1|(refine free2 ?_ ?_;(focus ((repeat (first|(apply apart1;(repeat (first|exact mH|refine mT ?_));done)|(apply apart2;(repeat (first|exact mH|refine mT ?_));done)|refine apart3 ?_));done));(first|exact free1|(refine free2 ?_ ?_;(focus ((repeat (first|(apply apart1;(repeat (first|exact mH|refine mT ?_));done)|(apply apart2;(repeat (first|exact mH|refine mT ?_));done)|refine apart3 ?_));done));exact free1))))))))
        |(refine gStore ?_;(first
            |(apply F_storeN rfl rfl;(focus (first|rfl|assumption|(simp only [List.append_nil,List.all_cons,List.all_nil,Bool.and_true,Bool.true_and,one_int,one_bool,one_string,one_slice,one_pointer, *];done)));(first|exact T.rw24|exact T.rw45);(focus ((repeat (first|exact Upd.here|apply Upd.there));done));(focus ((repeat (first|exact SetSeg.nil|apply SetSeg.here|apply SetSeg.there));done));(first|exact okst2|exact okst1|exact okst1'))))
        |(refine gCall ?_;(first
            |(show GoS _ _ _ _ _ _ _ (⟨_,_,_,.call ⟨.value (.func 46),_,_⟩,_⟩ :: _);refine S_callX (f := 46) rfl T.pf46 rfl (fun w hst => open_c v lc hm hby w hst.ext) rfl (fun zz hzz => ?_);simp only [List.cons_append,List.nil_append];revert hzz;revert zz;intro rd hcr)
            |(show GoS _ _ _ _ _ _ _ (⟨_,_,_,.call ⟨.value (.func 94),_,_⟩,_⟩ :: _);apply S_callB (f := 94) (b := rd.1) (hp := T.pf94) (hv := rfl) (hd := rfl);(case hpick => ((repeat (first|exact Pick.here|exact Pick.last|apply Pick.there|apply Pick.over));done));(case hc => exact l15AnyBench_c rd.1 rd.2.1 rd.2.2 _ hcr (by omega));(case hnb => (intro _ _;exact ⟨_,List.Mem.head _,rfl⟩));(case hk => (first|exact okst2|exact okst1|exact okst1'));intro zz hzz;simp only [List.cons_append,List.nil_append];revert hzz;revert zz;rintro ⟨y,base,q⟩ ⟨hy1,hy2,hy3,hy4⟩;dsimp only at hy1 hy2 hy3 hy4 ⊢;refine S_fact (fun w hs => oneFragBench (rds_bin hy2 (Rds.many (l := base) hs (by (focus ((repeat (first|exact mH|refine mT ?_));done)))))) (fun hone2 => ?_))
            |(show GoS _ _ _ _ _ _ _ (⟨_,_,_,.call ⟨.value (.func 95),_,_⟩,_⟩ :: _);apply S_callS (f := 95) T.pf95 rfl rfl (fun w hst => l15More_c rd.1 rd.2.1 rd.2.2 q y base hy1 hy2 hcr (by omega) _ w hst);(focus ((repeat (first|exact Pull.nil|(apply Pull.app;(focus ((repeat (first|exact PickA.here|exact PickA.all|apply PickA.there|apply PickA.over));done)))|(apply Pull.cons;(focus ((repeat (first|exact Pick.here|exact Pick.last|apply Pick.there|apply Pick.over));done)))|(apply Pull.atom;(focus ((repeat (first|exact PickA.here|exact PickA.all|apply PickA.there|apply PickA.over));done)))));done));intro zz hzz;simp only [List.cons_append,List.nil_append];revert hzz;revert zz;rintro ⟨x,base2⟩ ⟨hx1,hx2,hx3⟩;dsimp only at hx1 hx2 hx3 ⊢;refine S_fact (fun w hs => oneFragPacket (fun r hr => Rds.many (l := base2) hs (by (focus ((repeat (first|exact mH|refine mT ?_));done))) r (hx2 r hr))) (fun hone3 => ?_))))
        |(apply S_alloc rfl (hd := rfl);(first|exact T.zc24|exact T.zc45);intro kb)
        |(refine S_done ?_)
        |(refine S_K rfl ?_)))
    |((first
        |(refine C_seq ?_)
        |(refine gReg ?_;(first
            |(refine gReg (i := 0) ?_;refine C_plain [(0,2),(1,2)] (by kernel_rfl) (s := [⟨2,none,_,_,_⟩,⟨2,none,_,_,_⟩]) rfl ?_)
            |(refine gReg (i := 1) ?_;refine C_plain [(0,0),(1,2),(2,0)] (by kernel_rfl) (s := [⟨0,none,_,_,_⟩,⟨2,none,_,_,_⟩,⟨0,none,_,_,_⟩]) rfl ?_)
            |(refine gReg (i := 2) ?_;refine C_plain [(0,0),(1,2),(2,2),(3,2)] (by kernel_rfl) (s := [⟨0,none,_,_,_⟩,⟨2,none,_,_,_⟩,⟨2,none,_,_,_⟩,⟨2,none,_,_,_⟩]) rfl ?_)
            |(refine gReg (i := 3) ?_;refine C_drawnT (.br [(1,0),(2,0)] (.fin [(0,1),(3,2),(4,2),(5,2)]) (.fin [(3,2),(0,1),(4,2),(5,2)])) [] T.mixed (by kernel_rfl) (s := (.br [⟨0,none,_,_,_⟩,⟨0,none,_,_,_⟩] (.fin [⟨1,none,_,_,_⟩,⟨2,none,_,_,_⟩,⟨2,none,_,_,_⟩,⟨2,none,_,_,_⟩]) (.fin [⟨2,none,_,_,_⟩,⟨1,none,_,_,_⟩,⟨2,none,_,_,_⟩,⟨2,none,_,_,_⟩]))) rfl ?_)))
        |(refine C_ret ?_)
        |(refine T_fin ?_)
        |(refine T_br ?_)))
    |(refine gE ?_;(first
        |(refine E_then ?_)
        |(refine E_calm ?_)
        |(apply E_ret2 rfl;(first|exact Res.tmp rfl|(apply R_cellAll rfl;(focus ((repeat (first|exact mH|refine mT ?_));done));(first|exact T.rw24|exact T.rw45))|(apply R_cell1 rfl;(focus ((repeat (first|exact mH|refine mT ?_));done));fail));(first|exact Res.tmp rfl|(apply R_cellAll rfl;(focus ((repeat (first|exact mH|refine mT ?_));done));(first|exact T.rw24|exact T.rw45))|(apply R_cell1 rfl;(focus ((repeat (first|exact mH|refine mT ?_));done));fail)))
        |(refine E_both ?_ ?_)
        | (refine E_K ?_))))
  all_goals exact retX (y,x,base2) ⟨hy1,hx1,fun r h => hx3 r (hy2 r h),hx2⟩ rfl entA
end Go.Proofs.Ytodhjpnfokkfeaa

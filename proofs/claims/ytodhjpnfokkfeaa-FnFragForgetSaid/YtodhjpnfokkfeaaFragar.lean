/- Drawn benches, and a packet drawn for one. -/
import Derived.Test.YtodhjpnfokkfeaaFragaq
set_option linter.unusedSimpArgs false
set_option linter.unusedVariables false
namespace Go.Proofs.Ytodhjpnfokkfeaa
open Go Go.RowKit
attribute [local irreducible] Calls GoS GoC GoE GoT Mid IsEq IsFl IsSc IsRw IsSl IsEl IsSt IsFs sp Mem Rd LenOf szR joinC alikeC likeC takeC SmallB
theorem smallB_now {c : CFragBench} (h : SmallB c) : -70000 ≤ c.1 ∧ c.1 ≤ 2199023255552 := by
  unfold SmallB at h
  exact ⟨h.1, h.2.1⟩
theorem smallB_nil {n : Int} (h : -70000 ≤ n ∧ n ≤ 2199023255552) : SmallB (n, []) := by
  unfold SmallB
  exact ⟨h.1, h.2, Nat.zero_le _, fun s hs => by cases hs⟩
set_option maxRecDepth 8192 in
set_option maxHeartbeats 1000000 in
theorem l15Bench_c {w0 : World} (kr : Nat) (v : Value) (lc : List Int) (p : Int) (hc : Code w0 v lc) (hp : 0 ≤ p ∧ p ≤ 1099510000000) (R : List Blk) (w : World) (hs : St w0 w ([.blk kr 108 (rdr v p)] ++ R)) : Calls Try.prog 113 #[.pointer (some ⟨kr, 0, none⟩)] w
    (RetS w0 R (fun z : MFragBench × Int => SmallB (ctFragBench z.1) ∧ p ≤ z.2 ∧ z.2 ≤ p + 300000) (fun z => .agg (clFragBench z.1).toArray) (fun z => [.blk kr 108 (rdr v z.2), .many (rwFragBench z.1)])) := by
  have hs' : St w0 w (.blk kr 108 (rdr v p) :: R) := hs
  refine enterS (n := 61) (E := [(0, _)]) Try.func113 rfl rfl rfl rfl hs' ?_
  repeat' (first
    |(refine gS ?_;(first
        |(refine S_move rfl rfl ?_)
        |(refine S_assign rfl rfl ?_)
        |(apply F_idxZ rfl rfl rfl;(first|exact T.sl27|exact T.sl73);(focus omega);(focus (first|exact len_nil|(apply len_given;assumption)|(apply len_row;(focus ((repeat (first|exact mH|refine mT ?_));done)))|(apply len_isN;assumption)));(focus omega))
        |(apply F_bs rfl rfl;(first|exact T.el27|exact T.el73);rfl;rfl;rfl;rfl;(focus ((repeat (first|exact Dense.nil|(apply Dense.cons;rfl;rfl)));done));intro sv;(try (refine S_fact (row_one (v := sv) (by (focus ((repeat (first|exact mH|refine mT ?_));done)))) (fun hone => ?_))))
        |(refine gLoad ?_;(first
            |(apply F_loadI rfl rfl;exact T.sc3;(focus (first|exact rd_nil|(apply rd_given;(focus assumption);(focus (first|exact freeG0|exact freeG1|(apply freeG2;(focus ((repeat (first|exact mH|refine mT ?_));done));(first|exact freeG1|(apply freeG2;(focus ((repeat (first|exact mH|refine mT ?_));done));exact freeG1))))))|(apply rd_row;(focus ((repeat (first|exact mH|refine mT ?_));done));(focus (first|exact freeR0|exact freeR1|(refine freeR2 ?_ ?_;(focus ((repeat (first|(apply apartR1;(focus ((repeat (first|exact mH|refine mT ?_));done));done)|(apply apartR2;(focus ((repeat (first|exact mH|refine mT ?_));done));done)|refine apartR3 ?_));done));(first|exact freeR1|(refine freeR2 ?_ ?_;(focus ((repeat (first|(apply apartR1;(focus ((repeat (first|exact mH|refine mT ?_));done));done)|(apply apartR2;(focus ((repeat (first|exact mH|refine mT ?_));done));done)|refine apartR3 ?_));done));exact freeR1))))))));(focus ((repeat (first|exact LitI.nil|apply LitI.cons|apply LitI.app));done));(focus (simp only [List.length_cons,List.length_nil];omega));intro zi hzi;(simp only [List.mem_cons,List.not_mem_nil,or_false] at hzi);(first|(replace hzi : 0 ≤ zi ∧ zi ≤ 16 := by omega)|(replace hzi : 0 ≤ zi ∧ zi ≤ 128 := by omega)|(replace hzi : 0 ≤ zi ∧ zi ≤ 200 := by omega)|(replace hzi : 0 ≤ zi ∧ zi ≤ 65535 := by omega)|(replace hzi : 0 ≤ zi ∧ zi ≤ 70000 := by omega)|(replace hzi : -70000 ≤ zi ∧ zi ≤ 70000 := by omega)|(replace hzi : -70000 ≤ zi ∧ zi ≤ 2199023255552 := by omega)|(replace hzi : -70000 ≤ zi ∧ zi ≤ 4611686018427387904 := by omega)|(replace hzi : -9223372036854775808 ≤ zi ∧ zi ≤ 9223372036854775807 := by omega)))))
        |(refine gStore ?_;(first
            |(apply F_storeN rfl rfl;(focus (first|rfl|assumption|(simp only [List.append_nil,List.all_cons,List.all_nil,Bool.and_true,Bool.true_and,one_int,one_bool,one_string,one_slice,one_pointer, *];done)));(first|exact T.rw24|exact T.rw45);(focus ((repeat (first|exact Upd.here|apply Upd.there));done));(focus ((repeat (first|exact SetSeg.nil|apply SetSeg.here|apply SetSeg.there));done));(first|exact okst2|exact okst1|exact okst1'))))
        |(refine gCall ?_;(first
            |(show GoS _ _ _ _ _ _ _ (⟨_,_,_,.call ⟨.value (.func 48),_,_⟩,_⟩ :: _);apply S_callB (f := 48) (b := kr) (hp := T.pf48) (hv := rfl) (hd := rfl);(case hpick => ((repeat (first|exact Pick.here|exact Pick.last|apply Pick.there|apply Pick.over));done));(case hc => exact pick_c kr v lc _ _ hc (by omega));(case hnb => (intro _ _;exact ⟨_,List.Mem.head _,rfl⟩));(case hk => (first|exact okst2|exact okst1|exact okst1'));intro zz hzz;simp only [List.cons_append,List.nil_append];revert hzz;revert zz;intro z hz)))
        |(apply S_alloc rfl (hd := rfl);exact T.zc45;intro kb)
        |(apply F_build2 rfl (hd := rfl);exact T.st45;(focus ((repeat (first|exact BuildR.nil|(apply BuildR.cons;(first|exact T.fs45_0|exact T.fs45_1);rfl;rfl;(focus ((repeat (first|exact SetSeg.nil|apply SetSeg.here|apply SetSeg.there));done)))|(apply BuildR.cons1;(first|exact T.fs45_0|exact T.fs45_1);(focus assumption);(focus ((repeat (first|exact SetSeg.nil|apply SetSeg.here|apply SetSeg.there));done)))));done)))
        |(refine S_done ?_)))
    |(refine gC ?_;(first
        |(refine C_seq ?_)
        |(refine gReg ?_;(first
            |(refine gReg (i := 0) ?_;refine C_plain [(0,2)] (by kernel_rfl) (s := [⟨2,none,_,_,_⟩]) rfl ?_)
            |(refine gReg (i := 1) ?_;refine C_plain [(0,2),(1,0),(2,2),(3,0),(4,0),(5,0),(6,2),(7,2)] (by kernel_rfl) (s := [⟨2,none,_,_,_⟩,⟨0,none,_,_,_⟩,⟨2,none,_,_,_⟩,⟨0,none,_,_,_⟩,⟨0,none,_,_,_⟩,⟨0,none,_,_,_⟩,⟨2,none,_,_,_⟩,⟨2,none,_,_,_⟩]) rfl ?_)
            |(refine gReg (i := 2) ?_;refine C_plain [(0,0),(1,2),(2,0)] (by kernel_rfl) (s := [⟨0,none,_,_,_⟩,⟨2,none,_,_,_⟩,⟨0,none,_,_,_⟩]) rfl ?_)))
        |(refine C_block ?_)))
    |(refine gE ?_;(first
        |(refine E_then ?_))))
  rename_i k2 z0 hz0
  refine C_ent (.blk kr 108 (rdr v (p + 1 + 1)) :: .blk kb 45 [.int .i64 zi,.slice none 0 0] :: .many (rwFragBench (zi,.slice none 0 0,[])) :: .blk k2 45 [.int .i64 0,.slice none 0 0] :: R) (Ent.trans (Ent.ghost 67 3) entA) ?_
  refine C_loop (α := Int × MFragBench × Int) (fun s => [(4, .int .i64 s.1), (3, .pointer (some ⟨kb, 0, none⟩)), (2, .pointer (some ⟨k2, 0, none⟩)), (0, .pointer (some ⟨kr, 0, none⟩))]) (fun s => .blk kr 108 (rdr v s.2.2) :: .blk kb 45 (clFragBench s.2.1) :: .many (rwFragBench s.2.1) :: .blk k2 45 [.int .i64 0, .slice none 0 0] :: R) (fun s => 0 ≤ s.1 ∧ s.1 ≤ 8 ∧ SmallB (ctFragBench s.2.1) ∧ p + 2 ≤ s.2.2 ∧ s.2.2 ≤ p + 2 + (8 - s.1) * 30000) (fun s => s.1.toNat) (z, (zi, .slice none 0 0, []), p + 1 + 1) ⟨by dsimp only; omega, by dsimp only; omega, smallB_nil hzi, by dsimp only; omega, by dsimp only; omega⟩ ⟨rfl, rfl, rfl, rfl, trivial⟩ (List.Sublist.refl _) ?_
  rintro ⟨n, y, q⟩ ⟨hn0, hn, hsm, hq1, hq2⟩
  dsimp only at *
  refine C_fact (fun w hs => oneFragBench (Rds.many hs (by (focus ((repeat (first|exact mH|refine mT ?_));done))))) (fun honey => ?_)
  have hsh := smallB_short hsm
  have hsh1 := hsh.1
  have hsh2 := hsh.2
  repeat' (first
    |(refine gS ?_;(first
        |(refine S_move rfl rfl ?_)
        |(refine S_assign rfl rfl ?_)
        |(refine gLoad ?_;(first
            |(apply F_loadAll rfl rfl;(focus ((repeat (first|exact mH|refine mT ?_));done));(first|exact T.rw24|exact T.rw45);(focus (first|exact free0|exact free1|(refine free2 ?_ ?_;(focus ((repeat (first|(apply apart1;(repeat (first|exact mH|refine mT ?_));done)|(apply apart2;(repeat (first|exact mH|refine mT ?_));done)|refine apart3 ?_));done));(first|exact free1|(refine free2 ?_ ?_;(focus ((repeat (first|(apply apart1;(repeat (first|exact mH|refine mT ?_));done)|(apply apart2;(repeat (first|exact mH|refine mT ?_));done)|refine apart3 ?_));done));exact free1))))))))
        |(refine gStore ?_;(first
            |(apply F_storeN rfl rfl;(focus (first|rfl|assumption|(simp only [List.append_nil,List.all_cons,List.all_nil,Bool.and_true,Bool.true_and,one_int,one_bool,one_string,one_slice,one_pointer, *];done)));(first|exact T.rw24|exact T.rw45);(focus ((repeat (first|exact Upd.here|apply Upd.there));done));(focus ((repeat (first|exact SetSeg.nil|apply SetSeg.here|apply SetSeg.there));done));(first|exact okst2|exact okst1|exact okst1'))))
        |(refine gCall ?_;(first
            |(show GoS _ _ _ _ _ _ _ (⟨_,_,_,.call ⟨.value (.func 48),_,_⟩,_⟩ :: _);apply S_callB (f := 48) (b := kr) (hp := T.pf48) (hv := rfl) (hd := rfl);(case hpick => ((repeat (first|exact Pick.here|exact Pick.last|apply Pick.there|apply Pick.over));done));(case hc => exact pick_c kr v lc _ _ hc (by omega));(case hnb => (intro _ _;exact ⟨_,List.Mem.head _,rfl⟩));(case hk => (first|exact okst2|exact okst1|exact okst1'));intro zz hzz;simp only [List.cons_append,List.nil_append];revert hzz;revert zz;intro zp hzp)
            |(show GoS _ _ _ _ _ _ _ (⟨_,_,_,.call ⟨.value (.func 28),_,_⟩,_⟩ :: _);refine S_callX (f := 28) rfl T.pf28 rfl (fun w hst => specFragTick_c y hsh1 hsh2 w (by first|(refine Rds.given hst ?_;assumption)|(apply Rds.many hst;(focus ((repeat (first|exact mH|refine mT ?_));done)))|(apply Rds.row hst;(focus ((repeat (first|exact mH|refine mT ?_));done))))) rfl (fun zz hzz => ?_);simp only [List.cons_append,List.nil_append];revert hzz;revert zz;rintro ⟨y2,c2⟩ hy2;dsimp only at hy2 ⊢;refine S_fact (fun w hs => oneFragBench (Rds.many hs (by (focus ((repeat (first|exact mH|refine mT ?_));done))))) (fun hone => ?_);have hsm2 := tick_small hy2 hsm)
            |(show GoS _ _ _ _ _ _ _ (⟨_,_,_,.call ⟨.value (.func 49),_,_⟩,_⟩ :: _);apply S_callB (f := 49) (b := kr) (hp := T.pf49) (hv := rfl) (hd := rfl);(case hpick => ((repeat (first|exact Pick.here|exact Pick.last|apply Pick.there|apply Pick.over));done));(case hc => exact l15Piece_c kr v lc _ hc (by omega));(case hnb => (intro _ _;exact ⟨_,List.Mem.head _,rfl⟩));(case hk => (first|exact okst2|exact okst1|exact okst1'));intro zz hzz;simp only [List.cons_append,List.nil_append];revert hzz;revert zz;rintro ⟨x,q3⟩ ⟨hx1,hx2,hx3⟩;dsimp only at hx1 hx2 hx3 ⊢;have hxl := Nat.le_trans hx1.len (show 200 ≤ 1048576 by decide);refine S_fact (fun w hs => oneFragPacket (Rds.many hs (by (focus ((repeat (first|exact mH|refine mT ?_));done))))) (fun hone => ?_))
            |(show GoS _ _ _ _ _ _ _ (⟨_,_,_,.call ⟨.value (.func 33),_,_⟩,_⟩ :: _);refine S_callX (f := 33) rfl T.pf33 rfl (fun w hst => specFragTake_c y x hsh1 hsh2 hxl w (by first|(refine Rds.given hst ?_;assumption)|(apply Rds.many hst;(focus ((repeat (first|exact mH|refine mT ?_));done)))|(apply Rds.row hst;(focus ((repeat (first|exact mH|refine mT ?_));done)))) (by first|(refine Rds.given hst ?_;assumption)|(apply Rds.many hst;(focus ((repeat (first|exact mH|refine mT ?_));done)))|(apply Rds.row hst;(focus ((repeat (first|exact mH|refine mT ?_));done))))) rfl (fun zz hzz => ?_);simp only [List.cons_append,List.nil_append];revert hzz;revert zz;rintro ⟨y2,z2,c2⟩ hy2;dsimp only at hy2 ⊢;refine S_fact (fun w hs => oneFragBench (Rds.many hs (by (focus ((repeat (first|exact mH|refine mT ?_));done))))) (fun hone => ?_);have hsm2 := take_small hy2 hsm hx1.wide)
            |(show GoS _ _ _ _ _ _ _ (⟨_,_,_,.call ⟨.value (.func 62),_,_⟩,_⟩ :: _);apply S_callB (f := 62) (b := kr) (hp := T.pf62) (hv := rfl) (hd := rfl);(case hpick => ((repeat (first|exact Pick.here|exact Pick.last|apply Pick.there|apply Pick.over));done));(case hc => exact l15List_c kr v lc _ hc (by omega));(case hnb => (intro _ _;exact ⟨_,List.Mem.head _,rfl⟩));(case hk => (first|exact okst2|exact okst1|exact okst1'));intro zz hzz;simp only [List.cons_append,List.nil_append];revert hzz;revert zz;rintro ⟨lv,ll,base,q3⟩ ⟨hl1,hl2,hl3,hl4,hl5⟩;dsimp only at hl1 hl2 hl3 hl4 hl5 ⊢)))
        |(refine gBin ?_;(first
            |(refine S_gtr rfl rfl rfl ?_)
            |(refine S_eql rfl rfl rfl ?_)
            |(refine S_sub rfl rfl ?_ rfl ?_;(focus (unfold rng;omega)))))
        |(refine S_extract rfl rfl rfl ?_)
        |(refine S_done ?_)))
    |(refine gC ?_;(first
        |(refine C_seq ?_)
        |(refine gReg ?_;(first
            |(refine gReg (i := 3) ?_;refine C_plain [(0,0),(1,0)] (by kernel_rfl) (s := [⟨0,none,_,_,_⟩,⟨0,none,_,_,_⟩]) rfl ?_)
            |(refine gReg (i := 5) ?_;refine C_plain [(0,0),(1,2)] (by kernel_rfl) (s := [⟨0,none,_,_,_⟩,⟨2,none,_,_,_⟩]) rfl ?_)
            |(refine gReg (i := 7) ?_;refine C_plain [(0,0),(1,0)] (by kernel_rfl) (s := [⟨0,none,_,_,_⟩,⟨0,none,_,_,_⟩]) rfl ?_)
            |(refine gReg (i := 8) ?_;refine C_plain [(0,0),(1,2),(2,0),(3,0),(4,0),(5,2)] (by kernel_rfl) (s := [⟨0,none,_,_,_⟩,⟨2,none,_,_,_⟩,⟨0,none,_,_,_⟩,⟨0,none,_,_,_⟩,⟨0,none,_,_,_⟩,⟨2,none,_,_,_⟩]) rfl ?_)
            |(refine gReg (i := 9) ?_;refine C_plain [(0,0),(1,0)] (by kernel_rfl) (s := [⟨0,none,_,_,_⟩,⟨0,none,_,_,_⟩]) rfl ?_)
            |(refine gReg (i := 10) ?_;refine C_plain [(0,0),(1,2),(2,0)] (by kernel_rfl) (s := [⟨0,none,_,_,_⟩,⟨2,none,_,_,_⟩,⟨0,none,_,_,_⟩]) rfl ?_)
            |(refine gReg (i := 6) ?_;refine C_drawn1 0 rfl [(0,0),(1,0),(2,1),(3,1),(4,0),(5,0),(6,0),(7,0),(8,2)] T.mixed (by kernel_rfl) (s := [⟨0,none,_,_,_⟩,⟨0,none,_,_,_⟩,⟨1,none,_,_,_⟩,⟨1,none,_,_,_⟩,⟨0,none,_,_,_⟩,⟨0,none,_,_,_⟩,⟨0,none,_,_,_⟩,⟨0,none,_,_,_⟩,⟨2,none,_,_,_⟩]) rfl ?_)
            |(refine gReg (i := 4) ?_;refine C_plain [(0,0),(1,0),(2,0)] (by kernel_rfl) (s := [⟨0,none,_,_,_⟩,⟨0,none,_,_,_⟩,⟨0,none,_,_,_⟩]) rfl ?_)
            |(refine gReg (i := 15) ?_;refine C_plain [(0,0),(1,2)] (by kernel_rfl) (s := [⟨0,none,_,_,_⟩,⟨2,none,_,_,_⟩]) rfl ?_)))
        |(refine C_split rfl ?_ ?_ <;> (intro hb;(try simp only [decide_eq_true_eq] at hb);(try simp only [decide_eq_false_iff_not] at hb);(try simp only [Bool.not_eq_true'] at hb);(try simp only [Bool.not_eq_false'] at hb);(try (exfalso;first|contradiction|omega))))
        |(refine C_skip ?_)
        |(refine C_exit ?_)
        |(refine C_ret ?_)
        |(refine C_block ?_)))
    |(refine gE ?_;(first
        |(refine E_then ?_)
        |(refine E_thenX ?_)
        |(refine E_block ?_)
        |(refine E_blockY ?_)
        |(refine E_calm ?_)
        |(apply E_ret1 rfl;(first|exact Res.tmp rfl|(apply R_cellAll rfl;(focus ((repeat (first|exact mH|refine mT ?_));done));(first|exact T.rw24|exact T.rw45))|(apply R_cell1 rfl;(focus ((repeat (first|exact mH|refine mT ?_));done));exact T.sc3))))))
  · exact E_roundS (α := Int × MFragBench × Int) (n - 1,y2,q + 1) ⟨by dsimp only;omega,by dsimp only;omega,hsm2,by dsimp only;omega,by dsimp only;omega⟩ (by dsimp only;omega) ⟨rfl,rfl,rfl,rfl,trivial⟩ entA
  · skip
    repeat' (first
      |(refine gS ?_;(first
          |(refine S_assign rfl rfl ?_)
          |(refine S_done ?_)))
      |(refine gC ?_;(first
          |(refine gReg ?_;(first
              |(refine gReg (i := 11) ?_;refine C_plain [(0,0)] (by kernel_rfl) (s := [⟨0,none,_,_,_⟩]) rfl ?_)))
          |(refine C_block ?_)))
      |(refine gE ?_;(first
          |(refine E_then ?_))))
    refine C_loop (α := Nat × MFragBench) (fun s => [(6, .int .i64 (s.1 : Int)), (5, lv), (4, .int .i64 n), (3, .pointer (some ⟨kb, 0, none⟩)), (2, .pointer (some ⟨k2, 0, none⟩)), (0, .pointer (some ⟨kr, 0, none⟩))]) (fun s => .blk kr 108 (rdr v q3) :: .row lv 24 9 ll.length (ll.flatMap clFragPacket) :: .many base :: .blk kb 45 (clFragBench s.2) :: .many (rwFragBench s.2) :: .blk k2 45 [.int .i64 0, .slice none 0 0] :: R) (fun s => s.1 ≤ ll.length ∧ SmallB (ctFragBench s.2)) (fun s => ll.length - s.1) (0, y) ⟨Nat.zero_le _, hsm⟩ ⟨rfl, rfl, rfl, rfl, rfl, rfl, trivial⟩ (List.Sublist.refl _) ?_
    rintro ⟨i, y⟩ ⟨hi, hsm⟩
    dsimp only at *
    refine C_fact (fun w hs => oneFragBench (Rds.many (l := rwFragBench y) hs (by (focus ((repeat (first|exact mH|refine mT ?_));done))))) (fun honey => ?_)
    refine C_fact (fun w hs => inB_one hs hl2 (by (focus ((repeat (first|exact mH|refine mT ?_));done)))) (fun honel => ?_)
    have hsh := smallB_short hsm
    have hsh1 := hsh.1
    have hsh2 := hsh.2
    have hel : (i : Int) < (ll.length : Int) → ll[i]? = some (ix ll i) ∧ ix ll i ∈ ll := fun h => ⟨nthD h, List.mem_of_getElem? (nthD h)⟩
    repeat' (first
      |(refine gS ?_;(first
          |(refine gGuard ?_;(first
              |(refine S_on rfl ?_)
              |(refine S_off rfl rfl rfl ?_)
              |(refine S_gsplit rfl ?_ ?_ <;> (intro hb;(try simp only [decide_eq_true_eq] at hb);(try simp only [decide_eq_false_iff_not] at hb);(try simp only [Bool.not_eq_true'] at hb);(try simp only [Bool.not_eq_false'] at hb);(try (exfalso;first|contradiction|omega));(try (have hx1 := (hel hb).1));(try (have hxm := (hel hb).2));(try (have hx7 := honel _ hxm));(try (have hxs := hl1 _ hxm));(try (have hxl := Nat.le_trans hxs.len (show 200 ≤ 1048576 by decide)))))))
          |(refine S_move rfl rfl ?_)
          |(refine S_assign rfl rfl ?_)
          |(apply F_idx rfl rfl rfl;(first|exact T.sl27|exact T.sl73);(focus rfl);(focus (first|exact len_nil|(apply len_given;assumption)|(apply len_row;(focus ((repeat (first|exact mH|refine mT ?_));done)))|(apply len_isN;assumption)));(focus omega))
          |(refine gLoad ?_;(first
              |(apply F_loadAll rfl rfl;(focus ((repeat (first|exact mH|refine mT ?_));done));(first|exact T.rw24|exact T.rw45);(focus (first|exact free0|exact free1|(refine free2 ?_ ?_;(focus ((repeat (first|(apply apart1;(repeat (first|exact mH|refine mT ?_));done)|(apply apart2;(repeat (first|exact mH|refine mT ?_));done)|refine apart3 ?_));done));(first|exact free1|(refine free2 ?_ ?_;(focus ((repeat (first|(apply apart1;(repeat (first|exact mH|refine mT ?_));done)|(apply apart2;(repeat (first|exact mH|refine mT ?_));done)|refine apart3 ?_));done));exact free1))))))
              |(apply F_loadSN rfl rfl;(first|exact T.rw24|exact T.rw45);(focus (first|exact rd_nil|(apply rd_given;(focus assumption);(focus (first|exact freeG0|exact freeG1|(apply freeG2;(focus ((repeat (first|exact mH|refine mT ?_));done));(first|exact freeG1|(apply freeG2;(focus ((repeat (first|exact mH|refine mT ?_));done));exact freeG1))))))|(apply rd_row;(focus ((repeat (first|exact mH|refine mT ?_));done));(focus (first|exact freeR0|exact freeR1|(refine freeR2 ?_ ?_;(focus ((repeat (first|(apply apartR1;(focus ((repeat (first|exact mH|refine mT ?_));done));done)|(apply apartR2;(focus ((repeat (first|exact mH|refine mT ?_));done));done)|refine apartR3 ?_));done));(first|exact freeR1|(refine freeR2 ?_ ?_;(focus ((repeat (first|(apply apartR1;(focus ((repeat (first|exact mH|refine mT ?_));done));done)|(apply apartR2;(focus ((repeat (first|exact mH|refine mT ?_));done));done)|refine apartR3 ?_));done));exact freeR1))))))));(focus (first|(focus (apply at_flat;(focus (intro _;rfl));(focus assumption)))|exact at_self));rfl;rfl)))
          |(refine gStore ?_;(first
              |(apply F_storeN rfl rfl;(focus (first|rfl|assumption|(simp only [List.append_nil,List.all_cons,List.all_nil,Bool.and_true,Bool.true_and,one_int,one_bool,one_string,one_slice,one_pointer, *];done)));(first|exact T.rw24|exact T.rw45);(focus ((repeat (first|exact Upd.here|apply Upd.there));done));(focus ((repeat (first|exact SetSeg.nil|apply SetSeg.here|apply SetSeg.there));done));(first|exact okst2|exact okst1|exact okst1'))))
          |(refine gCall ?_;(first
              |(show GoS _ _ _ _ _ _ _ (⟨_,_,_,.call ⟨.value (.func 33),_,_⟩,_⟩ :: _);refine S_callX (f := 33) rfl T.pf33 rfl (fun w hst => specFragTake_c y (ix ll i) hsh1 hsh2 hxl w (by first|(refine Rds.given hst ?_;assumption)|(apply Rds.many hst;(focus ((repeat (first|exact mH|refine mT ?_));done)))|(apply Rds.row hst;(focus ((repeat (first|exact mH|refine mT ?_));done)))) (rds_inB hl2 hxm (Rds.many hst (by (focus ((repeat (first|exact mH|refine mT ?_));done)))))) rfl (fun zz hzz => ?_);simp only [List.cons_append,List.nil_append];revert hzz;revert zz;rintro ⟨y2,z2,c2⟩ hy2;dsimp only at hy2 ⊢;refine S_fact (fun w hs => oneFragBench (Rds.many hs (by (focus ((repeat (first|exact mH|refine mT ?_));done))))) (fun hone => ?_);have hsm2 := take_small hy2 hsm hxs)
              |(apply F_len rfl rfl rfl;(focus exact ⟨_,_,by (first|exact T.sl27|exact T.sl73)⟩);(focus (first|exact len_nil|(apply len_given;assumption)|(apply len_row;(focus ((repeat (first|exact mH|refine mT ?_));done)))|(apply len_isN;assumption))))))
          |(refine gBin ?_;(first
              |(refine S_lss rfl rfl rfl ?_)
              |(refine S_add rfl rfl ?_ rfl ?_;(focus (unfold rng;omega)))
              |(refine S_sub rfl rfl ?_ rfl ?_;(focus (unfold rng;omega)))))
          |(refine gPick ?_;(first
              |(refine S_pickT rfl rfl rfl ?_)
              |(refine S_pickF rfl rfl rfl ?_)))
          |(refine S_extract rfl rfl rfl ?_)
          |(refine S_done ?_)))
      |(refine gC ?_;(first
          |(refine C_seq ?_)
          |(refine gReg ?_;(first
              |(refine gReg (i := 12) ?_;refine C_plain [(0,0),(1,0),(2,0),(3,0),(4,0),(5,0),(6,0),(7,0)] (by kernel_rfl) (s := [⟨0,none,_,_,_⟩,⟨0,none,_,_,_⟩,⟨0,none,_,_,_⟩,⟨0,none,_,_,_⟩,⟨0,none,_,_,_⟩,⟨0,some (44,true),_,_,_⟩,⟨0,some (44,true),_,_,_⟩,⟨0,none,_,_,_⟩]) rfl ?_)
              |(refine gReg (i := 14) ?_;refine C_drawn [(0,0),(1,0),(2,0),(3,0),(4,0),(5,1),(6,0),(7,0),(8,0),(9,0),(10,2)] [] T.mixed (by kernel_rfl) (s := [⟨0,none,_,_,_⟩,⟨0,none,_,_,_⟩,⟨0,none,_,_,_⟩,⟨0,none,_,_,_⟩,⟨0,none,_,_,_⟩,⟨1,none,_,_,_⟩,⟨0,none,_,_,_⟩,⟨0,none,_,_,_⟩,⟨0,none,_,_,_⟩,⟨0,none,_,_,_⟩,⟨2,none,_,_,_⟩]) rfl ?_)
              |(refine gReg (i := 13) ?_;refine C_plain [(0,0),(1,0),(2,0)] (by kernel_rfl) (s := [⟨0,none,_,_,_⟩,⟨0,none,_,_,_⟩,⟨0,none,_,_,_⟩]) rfl ?_)
              |(refine gReg (i := 4) ?_;refine C_plain [(0,0),(1,0),(2,0)] (by kernel_rfl) (s := [⟨0,none,_,_,_⟩,⟨0,none,_,_,_⟩,⟨0,none,_,_,_⟩]) rfl ?_)))
          |(refine C_false rfl ?_)
          |(refine C_split rfl ?_ ?_ <;> (intro hb;(try simp only [decide_eq_true_eq] at hb);(try simp only [decide_eq_false_iff_not] at hb);(try simp only [Bool.not_eq_true'] at hb);(try simp only [Bool.not_eq_false'] at hb);(try (exfalso;first|contradiction|omega));(try (have hx1 := (hel hb).1));(try (have hxm := (hel hb).2));(try (have hx7 := honel _ hxm));(try (have hxs := hl1 _ hxm));(try (have hxl := Nat.le_trans hxs.len (show 200 ≤ 1048576 by decide)))))
          |(refine C_skip ?_)
          |(refine C_exit ?_)
          |(refine C_block ?_)))
      |(refine gE ?_;(first
          |(refine E_then ?_)
          |(refine E_thenX ?_)
          |(refine E_block ?_)
          |(refine E_blockY ?_)
          |(refine E_calm ?_))))
    · exact E_roundS (α := Nat × MFragBench) (i + 1,y2) ⟨by dsimp only;omega,hsm2⟩ (by dsimp only;omega) ⟨rfl,rfl,rfl,rfl,rfl,rfl,trivial⟩ entA
    all_goals exact E_roundS (α := Int × MFragBench × Int) (n - 1,y,q3) ⟨by dsimp only;omega,by dsimp only;omega,hsm,by dsimp only;omega,by dsimp only;omega⟩ (by dsimp only;omega) ⟨rfl,rfl,rfl,rfl,trivial⟩ entA
  · exact E_roundS (α := Int × MFragBench × Int) (n - 1,y2,q3) ⟨by dsimp only;omega,by dsimp only;omega,hsm2,by dsimp only;omega,by dsimp only;omega⟩ (by dsimp only;omega) ⟨rfl,rfl,rfl,rfl,trivial⟩ entA
  · exact retS (y,q) ⟨hsm,by dsimp only;omega,by dsimp only;omega⟩ rfl entA
end Go.Proofs.Ytodhjpnfokkfeaa

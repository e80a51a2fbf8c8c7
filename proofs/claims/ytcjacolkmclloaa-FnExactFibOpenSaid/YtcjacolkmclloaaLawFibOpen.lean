/- The law FnExactFibOpen: both functions return the empty store; what is handed back shares no memory with the result of another call. No condition. -/
import Derived.Test.YtcjacolkmclloaaFibp
import Derived.Test.YtcjacolkmclloaaSymi
import Derived.Test.YtcjacolkmclloaaOpens
set_option linter.unusedSimpArgs false
set_option linter.unusedVariables false
namespace Go.Proofs.Ytcjacolkmclloaa.fnExactFibOpen
open Go Go.ChangeShapes Go.WideShapes Go.ChangeAt Go.RowKit
attribute [local irreducible] Calls GoS GoC GoE GoT Mid IsEq IsFl IsSc IsRw IsSl IsEl IsSt IsFs sp Mem Rd LenOf szR
theorem mk_empty : mkFibStore emptyC ≤ 67108864 := of_decide_eq_true (by kernel_rfl)
theorem mk_of {c : CFibStore} (h : c = emptyC) : mkFibStore c ≤ 67108864 := h ▸ mk_empty
theorem eqB_c (x y : MFibStore) (w : World) (hx : Rds w (rwFibStore x)) (hy : Rds w (rwFibStore y)) (h : ctFibStore x = emptyC) (h2 : ctFibStore y = emptyC) : Calls Try.prog 6 #[.agg (clFibStore x).toArray, .agg (clFibStore y).toArray] w (RetN (.bool true) w) := by
  have h1 := eqFibStore_c x y w hx hy
  rw [decide_eq_true (h.trans h2.symm)] at h1
  exact h1
attribute [local irreducible] emptyC mkFibStore
set_option maxHeartbeats 2000000 in
theorem walk (w : World) : Calls Try.prog 3 #[] w (RetN (.bool true) w) := by
  refine enter (n := 36) (E := []) Try.func3 rfl rfl rfl rfl ?_
  repeat' (first
    |(refine gS ?_;(first
        |(refine S_move rfl rfl ?_)
        |(refine S_assign rfl rfl ?_)
        |(refine gLoad ?_;(first
            |(apply F_loadAll rfl rfl;(focus ((repeat (first|exact mH|refine mT ?_));done));exact T.rw26;(focus (first|exact free0|exact free1)))
            |(apply F_loadP rfl rfl;(focus ((repeat (first|exact mH|refine mT ?_));done));exact T.rw26;(focus ((repeat (first|exact Take.nil|apply Take.here|apply Take.there));done));rfl;(focus (first|exact free0|exact free1)))))
        |(refine gStore ?_;(first
            |(apply F_storeN rfl rfl;(focus (first|rfl|assumption|(simp only [List.append_nil,List.all_cons,List.all_nil,Bool.and_true,Bool.true_and,one_int,one_bool,one_string,one_slice,one_pointer, *];done)));exact T.rw26;(focus ((repeat (first|exact Upd.here|apply Upd.there));done));(focus ((repeat (first|exact SetSeg.nil|apply SetSeg.here|apply SetSeg.there));done));(first|exact okst2|exact okst1|exact okst1'))))
        |(refine gCall ?_;(first
            |(show GoS _ _ _ _ _ _ _ (⟨_,_,_,.call ⟨.value (.func 4),_,_⟩,_⟩ :: _);refine S_callX (f := 4) rfl T.pf4 rfl (fun w hst => specFibOpen_c w) rfl (fun zz hzz => ?_);simp only [List.cons_append,List.nil_append];revert hzz;revert zz;intro y hy;refine S_fact (fun w hs => oneFibStore (Rds.many hs (by (focus ((repeat (first|exact mH|refine mT ?_));done))))) (fun hone => ?_))
            |(show GoS _ _ _ _ _ _ _ (⟨_,_,_,.call ⟨.value (.func 5),_,_⟩,_⟩ :: _);refine S_callX (f := 5) rfl T.pf5 rfl (fun w hst => implFibOpen_c w) rfl (fun zz hzz => ?_);simp only [List.cons_append,List.nil_append];revert hzz;revert zz;intro z hz;refine S_fact (fun w hs => oneFibStore (Rds.many hs (by (focus ((repeat (first|exact mH|refine mT ?_));done))))) (fun hone => ?_);have hmz := mk_of hz)
            |(show GoS _ _ _ _ _ _ _ (⟨_,_,_,.call ⟨.value (.func 6),_,_⟩,_⟩ :: _);refine S_callN (f := 6) rfl T.pf6 rfl (fun w hst => eqB_c _ _ w (by first|(refine Rds.given hst ?_;assumption)|(apply Rds.many hst;(focus ((repeat (first|exact mH|refine mT ?_));done)))|(apply Rds.row hst;(focus ((repeat (first|exact mH|refine mT ?_));done)))) (by first|(refine Rds.given hst ?_;assumption)|(apply Rds.many hst;(focus ((repeat (first|exact mH|refine mT ?_));done)))|(apply Rds.row hst;(focus ((repeat (first|exact mH|refine mT ?_));done)))) (by assumption) (by assumption)) rfl ?_)
            |(show GoS _ _ _ _ _ _ _ (⟨_,_,_,.call ⟨.value (.func 7),_,_⟩,_⟩ :: _);apply S_callS (f := 7) T.pf7 rfl rfl (fun w hst => markFibStore_c _ _ (by omega) (by omega) _ w hst);(focus ((repeat (first|exact Pull.nil|(apply Pull.app;(focus ((repeat (first|exact PickA.here|exact PickA.all|apply PickA.there|apply PickA.over));done)))|(apply Pull.cons;(focus ((repeat (first|exact Pick.here|exact Pick.last|apply Pick.there|apply Pick.over));done)))|(apply Pull.atom;(focus ((repeat (first|exact PickA.here|exact PickA.all|apply PickA.there|apply PickA.over));done)))));done));intro zz hzz;simp only [List.cons_append,List.nil_append];revert hzz;revert zz;rintro m ⟨hm1,hm2,hm3⟩)
            |(show GoS _ _ _ _ _ _ _ (⟨_,_,_,.call ⟨.value (.func 8),_,_⟩,_⟩ :: _);refine S_callN (f := 8) rfl T.pf8 rfl (fun w hst => heldFibStore_c m _ hm1 _ (by omega) (by omega) (by assumption) w (by first|(refine Rds.given hst ?_;assumption)|(apply Rds.many hst;(focus ((repeat (first|exact mH|refine mT ?_));done)))|(apply Rds.row hst;(focus ((repeat (first|exact mH|refine mT ?_));done))))) rfl ?_)))
        |(refine gBin ?_;(first
            |(refine S_lss rfl rfl rfl ?_)
            |(refine S_neq rfl rfl rfl ?_)
            |(refine S_neqB Try.underlying4 rfl rfl rfl ?_)))
        |(apply S_alloc rfl (hd := rfl);exact T.zc26;intro kb)
        |(apply F_build2 rfl (hd := rfl);exact T.st26;(focus ((repeat (first|exact BuildR.nil|(apply BuildR.cons;(first|exact T.fs26_0|exact T.fs26_1|exact T.fs26_2|exact T.fs26_3|exact T.fs26_4);rfl;rfl;(focus ((repeat (first|exact SetSeg.nil|apply SetSeg.here|apply SetSeg.there));done)))|(apply BuildR.cons1;(first|exact T.fs26_0|exact T.fs26_1|exact T.fs26_2|exact T.fs26_3|exact T.fs26_4);(focus assumption);(focus ((repeat (first|exact SetSeg.nil|apply SetSeg.here|apply SetSeg.there));done)))));done)))
        |(refine S_not rfl rfl ?_)
        |(refine S_done ?_)))
    |(refine gC ?_;(first
        |(refine C_seq ?_)
        |(refine gReg ?_;(first
            |(refine gReg (i := 0) ?_;refine C_plain [(0,0)] (by kernel_rfl) (s := [⟨0,none,_,_,_⟩]) rfl ?_)
            |(refine gReg (i := 1) ?_;refine C_plain [(0,2),(1,2),(2,2)] (by kernel_rfl) (s := [⟨2,none,_,_,_⟩,⟨2,none,_,_,_⟩,⟨2,none,_,_,_⟩]) rfl ?_)
            |(refine gReg (i := 2) ?_;refine C_plain [(0,2),(1,2),(2,2)] (by kernel_rfl) (s := [⟨2,none,_,_,_⟩,⟨2,none,_,_,_⟩,⟨2,none,_,_,_⟩]) rfl ?_)
            |(refine gReg (i := 3) ?_;refine C_plain [(0,0),(1,0),(2,2),(3,0)] (by kernel_rfl) (s := [⟨0,none,_,_,_⟩,⟨0,none,_,_,_⟩,⟨2,none,_,_,_⟩,⟨0,none,_,_,_⟩]) rfl ?_)
            |(refine gReg (i := 4) ?_;refine C_plain [(0,0)] (by kernel_rfl) (s := [⟨0,none,_,_,_⟩]) rfl ?_)
            |(refine gReg (i := 5) ?_;refine C_plain [(0,0)] (by kernel_rfl) (s := [⟨0,none,_,_,_⟩]) rfl ?_)
            |(refine gReg (i := 6) ?_;refine C_plain [(0,0),(1,0),(2,2),(3,0)] (by kernel_rfl) (s := [⟨0,none,_,_,_⟩,⟨0,none,_,_,_⟩,⟨2,none,_,_,_⟩,⟨0,none,_,_,_⟩]) rfl ?_)
            |(refine gReg (i := 7) ?_;refine C_plain [(0,0)] (by kernel_rfl) (s := [⟨0,none,_,_,_⟩]) rfl ?_)
            |(refine gReg (i := 8) ?_;refine C_plain [(0,0),(1,0),(2,2),(3,0)] (by kernel_rfl) (s := [⟨0,none,_,_,_⟩,⟨0,none,_,_,_⟩,⟨2,none,_,_,_⟩,⟨0,none,_,_,_⟩]) rfl ?_)
            |(refine gReg (i := 9) ?_;refine C_plain [(0,0),(1,0)] (by kernel_rfl) (s := [⟨0,none,_,_,_⟩,⟨0,none,_,_,_⟩]) rfl ?_)
            |(refine gReg (i := 10) ?_;refine C_plain [(0,0)] (by kernel_rfl) (s := [⟨0,none,_,_,_⟩]) rfl ?_)
            |(refine gReg (i := 11) ?_;refine C_plain [(0,0),(1,0),(2,0)] (by kernel_rfl) (s := [⟨0,none,_,_,_⟩,⟨0,none,_,_,_⟩,⟨0,none,_,_,_⟩]) rfl ?_)
            |(refine gReg (i := 12) ?_;refine C_plain [(0,0)] (by kernel_rfl) (s := [⟨0,none,_,_,_⟩]) rfl ?_)
            |(refine gReg (i := 13) ?_;refine C_plain [(0,2),(1,2),(2,2)] (by kernel_rfl) (s := [⟨2,none,_,_,_⟩,⟨2,none,_,_,_⟩,⟨2,none,_,_,_⟩]) rfl ?_)
            |(refine gReg (i := 14) ?_;refine C_plain [(0,0),(1,0),(2,2),(3,0)] (by kernel_rfl) (s := [⟨0,none,_,_,_⟩,⟨0,none,_,_,_⟩,⟨2,none,_,_,_⟩,⟨0,none,_,_,_⟩]) rfl ?_)
            |(refine gReg (i := 15) ?_;refine C_plain [(0,0)] (by kernel_rfl) (s := [⟨0,none,_,_,_⟩]) rfl ?_)
            |(refine gReg (i := 16) ?_;refine C_plain [(0,0)] (by kernel_rfl) (s := [⟨0,none,_,_,_⟩]) rfl ?_)
            |(refine gReg (i := 17) ?_;refine C_plain [(0,0),(1,0),(2,2),(3,0)] (by kernel_rfl) (s := [⟨0,none,_,_,_⟩,⟨0,none,_,_,_⟩,⟨2,none,_,_,_⟩,⟨0,none,_,_,_⟩]) rfl ?_)
            |(refine gReg (i := 18) ?_;refine C_plain [(0,0),(1,0)] (by kernel_rfl) (s := [⟨0,none,_,_,_⟩,⟨0,none,_,_,_⟩]) rfl ?_)
            |(refine gReg (i := 19) ?_;refine C_plain [(0,0)] (by kernel_rfl) (s := [⟨0,none,_,_,_⟩]) rfl ?_)
            |(refine gReg (i := 20) ?_;refine C_plain [(0,0),(1,0),(2,0)] (by kernel_rfl) (s := [⟨0,none,_,_,_⟩,⟨0,none,_,_,_⟩,⟨0,none,_,_,_⟩]) rfl ?_)
            |(refine gReg (i := 21) ?_;refine C_plain [(0,0)] (by kernel_rfl) (s := [⟨0,none,_,_,_⟩]) rfl ?_)
            |(refine gReg (i := 22) ?_;refine C_plain [(0,0)] (by kernel_rfl) (s := [⟨0,none,_,_,_⟩]) rfl ?_)))
        |(refine C_true rfl ?_)
        |(refine C_false rfl ?_)
        |(refine C_split rfl ?_ ?_ <;> (intro hb;(try simp only [decide_eq_true_eq] at hb);(try simp only [decide_eq_false_iff_not] at hb);(try simp only [Bool.not_eq_true'] at hb);(try simp only [Bool.not_eq_false'] at hb);(try (exfalso;first|contradiction|omega))))
        |(refine C_skip ?_)
        |(refine C_exit ?_)
        |(refine C_ret ?_)
        |(refine C_block ?_)))
    |(refine gE ?_;(first
        |(refine E_then ?_)
        |(refine E_thenX ?_)
        |(refine E_thenR ?_)
        |(refine E_block ?_)
        |(refine E_blockY ?_)
        |(refine E_blockR ?_)
        |(refine E_calm ?_)
        |(refine E_blockX rfl ?_)
        |(apply E_ret1 rfl;(first|exact Res.tmp rfl|(apply R_cellAll rfl;(focus ((repeat (first|exact mH|refine mT ?_));done));exact T.rw26)|(apply R_cell1 rfl;(focus ((repeat (first|exact mH|refine mT ?_));done));fail)))
        |(apply E_ret2 rfl;(first|exact Res.tmp rfl|(apply R_cellAll rfl;(focus ((repeat (first|exact mH|refine mT ?_));done));exact T.rw26)|(apply R_cell1 rfl;(focus ((repeat (first|exact mH|refine mT ?_));done));fail));(first|exact Res.tmp rfl|(apply R_cellAll rfl;(focus ((repeat (first|exact mH|refine mT ?_));done));exact T.rw26)|(apply R_cell1 rfl;(focus ((repeat (first|exact mH|refine mT ?_));done));fail)))
        | (apply E_ret3 rfl; (first | exact Res.tmp rfl | (apply R_cellAll rfl; (focus ((repeat (first | exact List.Mem.head _ | refine List.Mem.tail _ ?_)); done)); exact T.rw26) | (apply R_cell1 rfl; (focus ((repeat (first | exact List.Mem.head _ | refine List.Mem.tail _ ?_)); done)); fail)); (first | exact Res.tmp rfl | (apply R_cellAll rfl; (focus ((repeat (first | exact List.Mem.head _ | refine List.Mem.tail _ ?_)); done)); exact T.rw26) | (apply R_cell1 rfl; (focus ((repeat (first | exact List.Mem.head _ | refine List.Mem.tail _ ?_)); done)); fail)); (first | exact Res.tmp rfl | (apply R_cellAll rfl; (focus ((repeat (first | exact List.Mem.head _ | refine List.Mem.tail _ ?_)); done)); exact T.rw26) | (apply R_cell1 rfl; (focus ((repeat (first | exact List.Mem.head _ | refine List.Mem.tail _ ?_)); done)); fail))))))
  all_goals exact retN rfl
set_option maxRecDepth 100000 in
theorem lifted (os : Os) (started : os.Started) (H : Type) (enc : TypeId × Value → H) :
    ReturnsInHanded {} Try.checked os 3 .any (Rows.fnExactFibOpenSpec.pre6 enc Try.prog Try.f3 Rows.fnExactFibOpenRow.domain false) (Rows.fnExactFibOpenSpec.post enc Try.prog Try.f3 false true false false) := by
  refine returnsInHanded_of_change (C := Try.checked) own started (by kernel_rfl) Try.func3
    (ChangeSpec.witness6 (enc := enc) (C := Try.checked) false ⟨#[], #[], []⟩ 8 (by kernel_rfl) (by kernel_rfl) (by kernel_rfl) (by kernel_rfl)) ?_
  intro W base args ds gs before hval0 hW hcnd _
  have hval : ∀ (j : Nat) t v, Try.f3.params[j]? = some t → args[j]? = some v → Value.okWide Try.prog W .any base t v := hval0
  have hW' := hW
  obtain ⟨p, q, hA0, hV, rfl, hfz, hnd⟩ := hW
  have hA : DataW.TrodAll enc Try.prog W 0 (fun _ => true) true Try.f3.params.toList args.toList ds p := hA0
  rw [Try.params3] at hA hval
  obtain ⟨rfl, rfl, rfl⟩ := trodAll_none hA
  obtain ⟨rfl, rfl⟩ := trodVars_none hV
  clear hA0 hval0
  refine (walk W ).mono fun e W' ⟨he, bel⟩ => ?_
  subst he
  exact ⟨_, rfl, _, _, _, [], _, [], hW', trodAll_mk1 (shut_bool Try.underlying4 _), trodAll_mk0, rfl, bel.frame _, fun h => by cases h⟩
theorem over : Rows.fnExactFibOpenRow.holds Try.pinned (OpenSpec.ofChange Rows.fnExactFibOpenSpec) :=
  OpenClaim.holds_of_wide 3 Try.f3 rfl rfl rfl rfl rfl rfl rfl ⟨rfl, rfl, rfl, rfl, rfl⟩ rfl rfl rfl rfl rfl (by kernel_rfl) Try.func3 (by kernel_rfl)
    (of_decide_eq_true (by kernel_rfl)) (by unfold Func.isWrapper; rw [if_neg (of_decide_eq_false (by kernel_rfl))]; exact ⟨rfl, rfl⟩)
    (fun os started H enc _ => lifted os started H enc)
theorem proved : Rows.FnExactFibOpenSaid := over
#print axioms proved
end Go.Proofs.Ytcjacolkmclloaa.fnExactFibOpen

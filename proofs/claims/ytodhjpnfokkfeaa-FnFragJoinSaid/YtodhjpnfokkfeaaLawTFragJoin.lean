/- The law FnFragJoin: drawn pieces: what they join to hangs neither on their order nor on one being there twice; one piece more never makes of a clash a packet. No condition. -/
import Derived.Test.YtodhjpnfokkfeaaFragae
import Derived.Test.YtodhjpnfokkfeaaFragx
import Derived.Test.YtodhjpnfokkfeaaFragl
import Derived.Test.YtodhjpnfokkfeaaFragm
import Derived.Test.YtodhjpnfokkfeaaOpens
import Derived.Test.YtodhjpnfokkfeaaSymh
set_option linter.unusedSimpArgs false
set_option linter.unusedVariables false
namespace Go.Proofs.Ytodhjpnfokkfeaa.fnFragJoin
open Go Go.ChangeShapes Go.WideShapes Go.ChangeAt Go.RowKit
theorem S_remB {P : Program} {n : Nat} {w0 : World} {r : Option (List Nat)} {Q : Exit → Act → World → Prop} {E : List (Nat × Value)} {L : List Blk} {l : List Stp} {d : Nat} {ty t t' : TypeId} {x y : Operand} {a b : Int} (hx : ev E x = some (.int .i64 a)) (hy : ev E y = some (.int .i64 b)) (ha : 0 ≤ a) (hb : 0 < b) (hd : Nat.blt d n = true) (h : 0 ≤ a % b ∧ a % b ≤ a ∧ a % b < b → GoS P n w0 r Q ((d, .int .i64 (a % b)) :: E) L l) : GoS P n w0 r Q E L (⟨0, none, some d, .binOp .rem t x y t', ty⟩ :: l) := by
  have h1 := Int.mul_ediv_add_emod a b
  have h2 : 0 ≤ b * (a / b) := Int.mul_nonneg (by omega) (Int.ediv_nonneg ha (by omega))
  exact S_rem hx hy ha hb hd (h ⟨Int.emod_nonneg _ (by omega), by omega, Int.emod_lt_of_pos _ hb⟩)
attribute [local irreducible] Calls GoS GoC GoE GoT Mid IsEq IsFl IsSc IsRw IsSl IsEl IsSt IsFs sp Mem Rd LenOf szR
theorem small_len {x : MFragPacket} (h : SmallW (ctFragPacket x)) : x.2.2.2.2.2.2.2.2.2.length ≤ 1048576 := Nat.le_trans h.len (by decide)
theorem same_1 (x y : MFragPacket) (w : World) (hx : Rds w (rwFragPacket x)) (hy : Rds w (rwFragPacket y)) (h : ctFragPacket x = ctFragPacket y) : Calls Try.prog 18 #[.agg (clFragPacket x).toArray, .agg (clFragPacket y).toArray] w (RetN (.bool true) w) := by
  have h1 := wfSame_c x y w hx hy
  rw [decide_eq_true h] at h1
  exact h1
theorem fine_1 (x : MFragPacket) (w : World) (hx : Rds w (rwFragPacket x)) (h : fragOk (ctFragPacket x) = true) : Calls Try.prog 20 #[.agg (clFragPacket x).toArray] w (RetN (.bool true) w) := by
  have h2 := fragOk_t h
  have h3 : (ctFragPacket x).2.2.2.2.2.2.2.2.length ≤ 128 := by omega
  have h1 := implFragOk_c x (Nat.le_trans h3 (by decide)) w hx
  rw [h] at h1
  exact h1
theorem rds_more {w0 w : World} {L : List Blk} {v : Value} {l : List MFragPacket} {x : MFragPacket} {base : List Row} (hin : InB l base) (hx : Rds w (rwFragPacket x)) (hs : St w0 w L) (h1 : .row v 24 9 (l.length + 1) (l.flatMap clFragPacket ++ (clFragPacket x ++ [])) ∈ L) (h2 : .many base ∈ L) : Rds w (rwSFragPacket (v, l ++ [x])) := by
  rw [push_row] at h1
  refine Rds.cons (Rds.head (Rds.row hs h1 24)) (Rds.flatMap.2 fun y hy => ?_)
  rcases List.mem_append.1 hy with h | h
  · exact rds_inB hin h (Rds.many hs h2)
  · rw [List.mem_singleton] at h
    subst h
    exact hx
theorem code_ok {l : List CFragPacket} (h : (joinC l).2 ≠ 1) : okJ l = true := by
  cases h1 : okJ l
  · exfalso
    unfold joinC at h
    rw [h1] at h
    exact h rfl
  · rfl
theorem ok_code {l : List CFragPacket} (h : okJ l = true) : (joinC l).2 ≠ 1 := by
  unfold joinC
  rw [if_pos h]
  (repeat' split) <;> simp
theorem same_of {z y : MFragPacket} {cj zj : CFragPacket} (hs : ∃ h1 h2 h3 h4 a b, cj = (h1, h2, h3, h4, a, b, zj.2.2.2.2.2.2) ∧ zj = (h1, h2, h3, h4, zj.2.2.2.2)) (hz : ctFragPacket z = zj) (hy : ctFragPacket y = cj) : ctFragPacket (z.1, z.2.1, z.2.2.1, z.2.2.2.1, y.2.2.2.2.1, y.2.2.2.2.2.1, z.2.2.2.2.2.2) = ctFragPacket y := by
  obtain ⟨h1, h2, h3, h4, a, b, k1, k2⟩ := hs
  rw [← hz] at k1 k2
  rw [← hy] at k1
  have q1 := congrArg (fun c : CFragPacket => c.1) k1
  have q2 := congrArg (fun c : CFragPacket => c.2.1) k1
  have q3 := congrArg (fun c : CFragPacket => c.2.2.1) k1
  have q4 := congrArg (fun c : CFragPacket => c.2.2.2.1) k1
  have q5 := congrArg (fun c : CFragPacket => c.2.2.2.2.2.2) k1
  have p1 := congrArg (fun c : CFragPacket => c.1) k2
  have p2 := congrArg (fun c : CFragPacket => c.2.1) k2
  have p3 := congrArg (fun c : CFragPacket => c.2.2.1) k2
  have p4 := congrArg (fun c : CFragPacket => c.2.2.2.1) k2
  simp only [ctFragPacket, Prod.mk.injEq] at q1 q2 q3 q4 q5 p1 p2 p3 p4 ⊢
  simp only [p1, p2, p3, p4, q1, q2, q3, q4, q5, and_self]
attribute [local irreducible] joinC fragOk
set_option maxHeartbeats 3000000 in
theorem walk (w : World) (x : MSuint8) (hx : okSuint8 w x) (z : MSuint8) (hz : okSuint8 w z) : Calls Try.prog 4 #[x.1, z.1] w (RetN (.bool true) w) := by
  obtain ⟨v, l⟩ := x
  obtain ⟨hm, hby⟩ := hx
  obtain ⟨v2, l2⟩ := z
  obtain ⟨hm2, hby2⟩ := hz
  dsimp only at *
  have hlen := hm.len
  have hlen2 := hm2.len
  simp only [maxLen] at hlen hlen2
  refine enter (n := 173) (E := [(0, _), (1, _)]) Try.func4 rfl rfl rfl rfl ?_
  repeat' (first
    |(refine gS ?_;(first
        |(refine gGuard ?_;(first
            |(refine S_on rfl ?_)
            |(refine S_off rfl rfl rfl ?_)
            |(refine S_gsplit rfl ?_ ?_ <;> (intro hb;(try simp only [decide_eq_true_eq] at hb);(try simp only [decide_eq_false_iff_not] at hb);(try simp only [Bool.not_eq_true'] at hb);(try simp only [Bool.not_eq_false'] at hb);(try (exfalso;first|contradiction|omega))))))
        |(refine S_move rfl rfl ?_)
        |(refine S_assign rfl rfl ?_)
        |(refine gCall ?_;(first
            |(show GoS _ _ _ _ _ _ _ (⟨_,_,_,.call ⟨.value (.func 16),_,_⟩,_⟩ :: _);refine S_callX (f := 16) rfl T.pf16 rfl (fun w hst => drawFragJoin_c v l w (Mem.given hst hm) hby) rfl (fun zz hzz => ?_);simp only [List.cons_append,List.nil_append];revert hzz;revert zz;rintro ⟨av,al,base⟩ ⟨hsm,hin,hal⟩;dsimp only at hsm hin hal ⊢)
            |(apply F_len rfl rfl rfl;(focus exact ⟨_,_,by (first|exact T.sl22|exact T.sl27)⟩);(focus (first|exact len_nil|(apply len_given;assumption)|(apply len_row;(focus ((repeat (first|exact mH|refine mT ?_));done)))|(apply len_isN;assumption))))))
        |(refine gBin ?_;(first
            |(refine S_gtr rfl rfl rfl ?_)))
        |(refine gPick ?_;(first
            |(refine S_pickT rfl rfl rfl ?_)
            |(refine S_pickF rfl rfl rfl ?_)))
        |(refine S_done ?_)))
    |((first
        |(refine C_seq ?_)
        |(refine gReg ?_;(first
            |(refine gReg (i := 0) ?_;refine C_plain [(0,0)] (by kernel_rfl) (s := [⟨0,none,_,_,_⟩]) rfl ?_)
            |(refine gReg (i := 1) ?_;refine C_plain [(0,0),(1,0),(2,0),(3,0),(4,0),(5,0),(6,0),(7,0)] (by kernel_rfl) (s := [⟨0,none,_,_,_⟩,⟨0,none,_,_,_⟩,⟨0,none,_,_,_⟩,⟨0,none,_,_,_⟩,⟨0,some (20,false),_,_,_⟩,⟨0,some (20,false),_,_,_⟩,⟨0,some (20,false),_,_,_⟩,⟨0,none,_,_,_⟩]) rfl ?_)
            |(refine gReg (i := 2) ?_;refine C_plain [(0,0)] (by kernel_rfl) (s := [⟨0,none,_,_,_⟩]) rfl ?_)
            |(refine gReg (i := 3) ?_;refine C_plain [(0,0),(1,2),(2,0)] (by kernel_rfl) (s := [⟨0,none,_,_,_⟩,⟨2,none,_,_,_⟩,⟨0,none,_,_,_⟩]) rfl ?_)))
        |(refine C_true rfl ?_)
        |(refine C_split rfl ?_ ?_ <;> (intro hb;(try simp only [decide_eq_true_eq] at hb);(try simp only [decide_eq_false_iff_not] at hb);(try simp only [Bool.not_eq_true'] at hb);(try simp only [Bool.not_eq_false'] at hb);(try (exfalso;first|contradiction|omega))))
        |(refine C_skip ?_)
        |(refine C_ret ?_)))
    |(refine gE ?_;(first
        |(refine E_then ?_)
        |(refine E_thenR ?_)
        |(apply E_ret1 rfl;(first|exact Res.tmp rfl|(apply R_cellAll rfl;(focus ((repeat (first|exact mH|refine mT ?_));done));exact T.rw24)|(apply R_cell1 rfl;(focus ((repeat (first|exact mH|refine mT ?_));done));(first|exact T.sc3|exact T.sc4)))))))
  all_goals try exact retN rfl
  have hpay : ∀ y ∈ al, y.2.2.2.2.2.2.2.2.2.length ≤ 1048576 := fun y hy => small_len (hsm y hy)
  obtain ⟨cd, hcd⟩ : ∃ c, (joinC (al.map ctFragPacket)).2 = c := ⟨_, rfl⟩
  obtain ⟨cj, hcj⟩ : ∃ c, (joinC (al.map ctFragPacket)).1 = c := ⟨_, rfl⟩
  have hji := implFragJoin_c (av, al) (by dsimp only; omega) hpay
  have hjs := specFragJoin_c (av, al) (by dsimp only; omega) hpay
  dsimp only at hji hjs
  rw [hcd, hcj] at hji hjs
  repeat' (first
    |(refine gS ?_;(first
        |(refine S_move rfl rfl ?_)
        |(refine S_assign rfl rfl ?_)
        |(refine gStore ?_;(first
            |(apply F_storeN rfl rfl;(focus (first|rfl|assumption|(simp only [List.append_nil,List.all_cons,List.all_nil,Bool.and_true,Bool.true_and,one_int,one_bool,one_string,one_slice,one_pointer, *];done)));exact T.rw24;(focus ((repeat (first|exact Upd.here|apply Upd.there));done));(focus ((repeat (first|exact SetSeg.nil|apply SetSeg.here|apply SetSeg.there));done));(first|exact okst2|exact okst1|exact okst1'))))
        |(refine gCall ?_;(first
            |(show GoS _ _ _ _ _ _ _ (⟨_,_,_,.call ⟨.value (.func 15),_,_⟩,_⟩ :: _);refine S_callX (f := 15) rfl T.pf15 rfl (fun w hst => hji w (rds_inL hin hst (by (focus ((repeat (first|exact mH|refine mT ?_));done))) (by (focus ((repeat (first|exact mH|refine mT ?_));done))))) rfl (fun zz hzz => ?_);simp only [List.cons_append,List.nil_append];revert hzz;revert zz;intro y hy;refine S_fact (fun w hs => oneFragPacket (Rds.many hs (by (focus ((repeat (first|exact mH|refine mT ?_));done))))) (fun hone => ?_))))
        |(apply S_alloc rfl (hd := rfl);exact T.zc24;intro kb)
        |(refine S_extract rfl rfl rfl ?_)
        |(refine S_done ?_)))
    |((first
        |(refine C_seq ?_)
        |(refine gReg ?_;(first
            |(refine gReg (i := 4) ?_;refine C_plain [(0,0),(1,2),(2,0),(3,0),(4,0),(5,2),(6,2),(7,0)] (by kernel_rfl) (s := [⟨0,none,_,_,_⟩,⟨2,none,_,_,_⟩,⟨0,none,_,_,_⟩,⟨0,none,_,_,_⟩,⟨0,none,_,_,_⟩,⟨2,none,_,_,_⟩,⟨2,none,_,_,_⟩,⟨0,none,_,_,_⟩]) rfl ?_)))))
    |(refine gE ?_;(first
        |(refine E_then ?_))))
  have hony := hone
  revert kb; intro ky
  repeat' (first
    |(refine gS ?_;(first
        |(refine gGuard ?_;(first
            |(refine S_on rfl ?_)
            |(refine S_gsplit rfl ?_ ?_ <;> (intro hb;(try simp only [decide_eq_true_eq] at hb);(try simp only [decide_eq_false_iff_not] at hb);(try simp only [Bool.not_eq_true'] at hb);(try simp only [Bool.not_eq_false'] at hb);(try (exfalso;first|contradiction|omega))))))
        |(refine S_move rfl rfl ?_)
        |(refine S_assign rfl rfl ?_)
        |(refine gLoad ?_;(first
            |(apply F_loadAll rfl rfl;(focus ((repeat (first|exact mH|refine mT ?_));done));exact T.rw24;(focus (first|exact free0|exact free1)))))
        |(refine gStore ?_;(first
            |(apply F_storeN rfl rfl;(focus (first|rfl|assumption|(simp only [List.append_nil,List.all_cons,List.all_nil,Bool.and_true,Bool.true_and,one_int,one_bool,one_string,one_slice,one_pointer, *];done)));exact T.rw24;(focus ((repeat (first|exact Upd.here|apply Upd.there));done));(focus ((repeat (first|exact SetSeg.nil|apply SetSeg.here|apply SetSeg.there));done));(first|exact okst2|exact okst1|exact okst1'))))
        |(refine gCall ?_;(first
            |(show GoS _ _ _ _ _ _ _ (⟨_,_,_,.call ⟨.value (.func 17),_,_⟩,_⟩ :: _);refine S_callX (f := 17) rfl T.pf17 rfl (fun w hst => hjs w (rds_inL hin hst (by (focus ((repeat (first|exact mH|refine mT ?_));done))) (by (focus ((repeat (first|exact mH|refine mT ?_));done))))) rfl (fun zz hzz => ?_);simp only [List.cons_append,List.nil_append];revert hzz;revert zz;intro z hz;refine S_fact (fun w hs => oneFragPacket (Rds.many hs (by (focus ((repeat (first|exact mH|refine mT ?_));done))))) (fun hone => ?_))
            |(show GoS _ _ _ _ _ _ _ (⟨_,_,_,.call ⟨.value (.func 18),_,_⟩,_⟩ :: _);refine S_callN (f := 18) rfl T.pf18 rfl (fun w hst => same_1 y z w (by first|(refine Rds.given hst ?_;assumption)|(apply Rds.many hst;(focus ((repeat (first|exact mH|refine mT ?_));done)))|(apply Rds.row hst;(focus ((repeat (first|exact mH|refine mT ?_));done)))) (by first|(refine Rds.given hst ?_;assumption)|(apply Rds.many hst;(focus ((repeat (first|exact mH|refine mT ?_));done)))|(apply Rds.row hst;(focus ((repeat (first|exact mH|refine mT ?_));done)))) (hy.trans hz.symm)) rfl ?_)))
        |(refine gBin ?_;(first
            |(refine S_neq rfl rfl rfl ?_)))
        |(refine gPick ?_;(first
            |(refine S_pickF rfl rfl rfl ?_)))
        |(apply S_alloc rfl (hd := rfl);exact T.zc24;intro kb)
        |(refine S_not rfl rfl ?_)
        |(refine S_extract rfl rfl rfl ?_)
        |(refine S_done ?_)))
    |((first
        |(refine gSeqCond (i := 6) ?_;refine C_join (α := Unit) (fun _ => [(7,.int .i64 cd),(6,.pointer (some ⟨ky,0,none⟩)),(5,av),(1,v2)]) (fun _ => [.blk ky 24 (clFragPacket y),.row av 24 9 al.length (al.flatMap clFragPacket),.many base,.many (rwFragPacket y)]) (fun _ => True) ?_ ?_)
        |(refine C_seq ?_)
        |(refine gReg ?_;(first
            |(refine gReg (i := 5) ?_;refine C_plain [(0,0),(1,2),(2,0),(3,0),(4,0),(5,2),(6,2),(7,0)] (by kernel_rfl) (s := [⟨0,none,_,_,_⟩,⟨2,none,_,_,_⟩,⟨0,none,_,_,_⟩,⟨0,none,_,_,_⟩,⟨0,none,_,_,_⟩,⟨2,none,_,_,_⟩,⟨2,none,_,_,_⟩,⟨0,none,_,_,_⟩]) rfl ?_)
            |(refine gReg (i := 6) ?_;refine C_plain [(0,0),(1,0),(2,0),(3,0),(4,0),(5,0),(6,2),(7,0),(8,0)] (by kernel_rfl) (s := [⟨0,none,_,_,_⟩,⟨0,none,_,_,_⟩,⟨0,none,_,_,_⟩,⟨0,none,_,_,_⟩,⟨0,some (40,false),_,_,_⟩,⟨0,some (40,false),_,_,_⟩,⟨2,some (40,false),_,_,_⟩,⟨0,some (40,false),_,_,_⟩,⟨0,none,_,_,_⟩]) rfl ?_)))
        |(refine C_false rfl ?_)
        |(refine C_skip ?_)))
    |(refine gE ?_;(first
        |(refine E_then ?_))))
  · exact E_join (α := Unit) () trivial ⟨rfl,rfl,rfl,rfl,trivial⟩ (by (focus (apply Ent.flat;(simp only [List.length_append,List.length_cons,List.length_nil,Nat.zero_add,flat_many,flat_row,flat_blk,flat_append,flat_nil,List.map_append,List.map_cons,List.map_nil,List.flatMap_append,List.flatMap_cons,List.flatMap_nil,List.append_assoc,List.append_nil,List.nil_append,List.cons_append,Row.blk_mk,rwSuint8,rwFragPacket,rwSFragPacket,rwFragSlot,rwSFragSlot,rwFragBench]);((repeat (first|exact Pull.nil|(apply Pull.app;(focus ((repeat (first|exact PickA.here|exact PickA.all|apply PickA.there|apply PickA.over));done)))|(apply Pull.cons;(focus ((repeat (first|exact Pick.here|exact Pick.last|apply Pick.there|apply Pick.over));done)))|(apply Pull.atom;(focus ((repeat (first|exact PickA.here|exact PickA.all|apply PickA.there|apply PickA.over));done)))));done))))
  clear hjs
  rintro ⟨⟩ -
  refine C_fact (fun w hs => inB_one hs hin (by repeat (first | exact List.Mem.head _ | refine List.Mem.tail _ ?_))) (fun hone0 => ?_)
  have hinR : InB al.reverse base := fun y hy => hin y (List.mem_reverse.1 hy)
  have hjr := fun s : Value => implFragJoin_c (s, al.reverse) (by dsimp only; rw [List.length_reverse]; omega) (fun y hy => hpay y (List.mem_reverse.1 hy))
  have hjre : joinC (al.reverse.map ctFragPacket) = joinC (al.map ctFragPacket) := joinC_set (map_mem_iff fun y => List.mem_reverse) (by rw [List.length_map, List.length_map, List.length_reverse])
  dsimp only at hjr
  simp only [hjre, hcd, hcj] at hjr
  repeat' (first
    |(refine gS ?_;(first
        |(refine gGuard ?_;(first
            |(refine S_on rfl ?_)
            |(refine S_gsplit rfl ?_ ?_ <;> (intro hb;(try simp only [decide_eq_true_eq] at hb);(try simp only [decide_eq_false_iff_not] at hb);(try simp only [Bool.not_eq_true'] at hb);(try simp only [Bool.not_eq_false'] at hb);(try (exfalso;first|contradiction|omega))))))
        |(refine S_move rfl rfl ?_)
        |(refine S_assign rfl rfl ?_)
        |(refine gLoad ?_;(first
            |(apply F_loadAll rfl rfl;(focus ((repeat (first|exact mH|refine mT ?_));done));exact T.rw24;(focus (first|exact free0|exact free1)))))
        |(refine gStore ?_;(first
            |(apply F_storeN rfl rfl;(focus (first|rfl|assumption|(simp only [List.append_nil,List.all_cons,List.all_nil,Bool.and_true,Bool.true_and,one_int,one_bool,one_string,one_slice,one_pointer, *];done)));exact T.rw24;(focus ((repeat (first|exact Upd.here|apply Upd.there));done));(focus ((repeat (first|exact SetSeg.nil|apply SetSeg.here|apply SetSeg.there));done));(first|exact okst2|exact okst1|exact okst1'))))
        |(refine gCall ?_;(first
            |(show GoS _ _ _ _ _ _ _ (⟨_,_,_,.call ⟨.value (.func 19),_,_⟩,_⟩ :: _);refine S_callX (f := 19) rfl T.pf19 rfl (fun w hst => wfBack_c av al (by omega) hone0 w (Rds.head (Rds.row hst (by (focus ((repeat (first|exact mH|refine mT ?_));done))) 24))) rfl (fun zz hzz => ?_);simp only [List.cons_append,List.nil_append];revert hzz;revert zz;rintro ⟨bv,bl⟩ hbl;dsimp only at hbl;subst hbl)
            |(show GoS _ _ _ _ _ _ _ (⟨_,_,_,.call ⟨.value (.func 15),_,_⟩,_⟩ :: _);refine S_callX (f := 15) rfl T.pf15 rfl (fun w hst => hjr bv w (rds_inL hinR hst (by (focus ((repeat (first|exact mH|refine mT ?_));done))) (by (focus ((repeat (first|exact mH|refine mT ?_));done))))) rfl (fun zz hzz => ?_);simp only [List.cons_append,List.nil_append];revert hzz;revert zz;intro z hz;refine S_fact (fun w hs => oneFragPacket (Rds.many hs (by (focus ((repeat (first|exact mH|refine mT ?_));done))))) (fun hone => ?_))
            |(show GoS _ _ _ _ _ _ _ (⟨_,_,_,.call ⟨.value (.func 18),_,_⟩,_⟩ :: _);refine S_callN (f := 18) rfl T.pf18 rfl (fun w hst => same_1 z y w (by first|(refine Rds.given hst ?_;assumption)|(apply Rds.many hst;(focus ((repeat (first|exact mH|refine mT ?_));done)))|(apply Rds.row hst;(focus ((repeat (first|exact mH|refine mT ?_));done)))) (by first|(refine Rds.given hst ?_;assumption)|(apply Rds.many hst;(focus ((repeat (first|exact mH|refine mT ?_));done)))|(apply Rds.row hst;(focus ((repeat (first|exact mH|refine mT ?_));done)))) (hz.trans hy.symm)) rfl ?_)))
        |(refine gBin ?_;(first
            |(refine S_neq rfl rfl rfl ?_)))
        |(refine gPick ?_;(first
            |(refine S_pickF rfl rfl rfl ?_)))
        |(apply S_alloc rfl (hd := rfl);exact T.zc24;intro kb)
        |(refine S_not rfl rfl ?_)
        |(refine S_extract rfl rfl rfl ?_)
        |(refine S_done ?_)))
    |((first
        |(refine gSeqCond (i := 9) ?_;refine C_join (α := Unit) (fun _ => [(7,.int .i64 cd),(6,.pointer (some ⟨ky,0,none⟩)),(5,av),(1,v2)]) (fun _ => [.blk ky 24 (clFragPacket y),.row av 24 9 al.length (al.flatMap clFragPacket),.many base,.many (rwFragPacket y)]) (fun _ => True) ?_ ?_)
        |(refine C_seq ?_)
        |(refine gReg ?_;(first
            |(refine gReg (i := 8) ?_;refine C_plain [(0,0),(1,2),(2,2),(3,0),(4,0),(5,0),(6,2),(7,2),(8,0)] (by kernel_rfl) (s := [⟨0,none,_,_,_⟩,⟨2,none,_,_,_⟩,⟨2,none,_,_,_⟩,⟨0,none,_,_,_⟩,⟨0,none,_,_,_⟩,⟨0,none,_,_,_⟩,⟨2,none,_,_,_⟩,⟨2,none,_,_,_⟩,⟨0,none,_,_,_⟩]) rfl ?_)
            |(refine gReg (i := 9) ?_;refine C_plain [(0,0),(1,0),(2,0),(3,0),(4,0),(5,0),(6,2),(7,0),(8,0)] (by kernel_rfl) (s := [⟨0,none,_,_,_⟩,⟨0,none,_,_,_⟩,⟨0,none,_,_,_⟩,⟨0,none,_,_,_⟩,⟨0,some (55,false),_,_,_⟩,⟨0,some (55,false),_,_,_⟩,⟨2,some (55,false),_,_,_⟩,⟨0,some (55,false),_,_,_⟩,⟨0,none,_,_,_⟩]) rfl ?_)))
        |(refine C_false rfl ?_)
        |(refine C_skip ?_)))
    |(refine gE ?_;(first
        |(refine E_then ?_))))
  · exact E_join (α := Unit) () trivial ⟨rfl,rfl,rfl,rfl,trivial⟩ (by (focus (apply Ent.flat;(simp only [List.length_append,List.length_cons,List.length_nil,Nat.zero_add,flat_many,flat_row,flat_blk,flat_append,flat_nil,List.map_append,List.map_cons,List.map_nil,List.flatMap_append,List.flatMap_cons,List.flatMap_nil,List.append_assoc,List.append_nil,List.nil_append,List.cons_append,Row.blk_mk,rwSuint8,rwFragPacket,rwSFragPacket,rwFragSlot,rwSFragSlot,rwFragBench]);((repeat (first|exact Pull.nil|(apply Pull.app;(focus ((repeat (first|exact PickA.here|exact PickA.all|apply PickA.there|apply PickA.over));done)))|(apply Pull.cons;(focus ((repeat (first|exact Pick.here|exact Pick.last|apply Pick.there|apply Pick.over));done)))|(apply Pull.atom;(focus ((repeat (first|exact PickA.here|exact PickA.all|apply PickA.there|apply PickA.over));done)))));done))))
  clear hjr hjre hinR
  rintro ⟨⟩ -
  have hfine : cd = 0 → fragOk (ctFragPacket y) = true := fun h => by rw [hy, ← hcj]; exact join_fine (hcd.trans h)
  repeat' (first
    |(refine gS ?_;(first
        |(refine gGuard ?_;(first
            |(refine S_on rfl ?_)
            |(refine S_off rfl rfl rfl ?_)
            |(refine S_gsplit rfl ?_ ?_ <;> (intro hb;(try simp only [decide_eq_true_eq] at hb);(try simp only [decide_eq_false_iff_not] at hb);(try simp only [Bool.not_eq_true'] at hb);(try simp only [Bool.not_eq_false'] at hb);(try (exfalso;first|contradiction|omega))))))
        |(refine S_move rfl rfl ?_)
        |(refine S_assign rfl rfl ?_)
        |(refine gLoad ?_;(first
            |(apply F_loadAll rfl rfl;(focus ((repeat (first|exact mH|refine mT ?_));done));exact T.rw24;(focus (first|exact free0|exact free1)))))
        |(refine gCall ?_;(first
            |(show GoS _ _ _ _ _ _ _ (⟨_,_,_,.call ⟨.value (.func 20),_,_⟩,_⟩ :: _);refine S_callN (f := 20) rfl T.pf20 rfl (fun w hst => fine_1 y w (by first|(refine Rds.given hst ?_;assumption)|(apply Rds.many hst;(focus ((repeat (first|exact mH|refine mT ?_));done)))|(apply Rds.row hst;(focus ((repeat (first|exact mH|refine mT ?_));done)))) (hfine (by omega))) rfl ?_)
            |(apply F_len rfl rfl rfl;(focus exact ⟨_,_,by (first|exact T.sl22|exact T.sl27)⟩);(focus (first|exact len_nil|(apply len_given;assumption)|(apply len_row;(focus ((repeat (first|exact mH|refine mT ?_));done)))|(apply len_isN;assumption))))))
        |(refine gBin ?_;(first
            |(refine S_geq rfl rfl rfl ?_)
            |(refine S_eql rfl rfl rfl ?_)
            |(refine S_neq rfl rfl rfl ?_)))
        |(refine gPick ?_;(first
            |(refine S_pickT rfl rfl rfl ?_)
            |(refine S_pickF rfl rfl rfl ?_)))
        |(refine S_done ?_)))
    |((first
        |(refine gSeqReg (i := 13) ?_;refine C_join (α := Nat × MFragPacket) (fun s => [(13,.int .i64 cd),(12,.pointer (some ⟨s.1,0,none⟩)),(7,.int .i64 cd),(6,.pointer (some ⟨ky,0,none⟩)),(5,av),(1,v2)]) (fun s => [.blk s.1 24 (clFragPacket s.2),.blk ky 24 (clFragPacket y),.row av 24 9 al.length (al.flatMap clFragPacket),.many base,.many (rwFragPacket y),.many (rwFragPacket s.2)]) (fun s => ctFragPacket s.2 = cj) ?_ ?_)
        |(refine C_seq ?_)
        |(refine gReg ?_;(first
            |(refine gReg (i := 11) ?_;refine C_plain [(0,0),(1,0),(2,0),(3,0),(4,0),(5,0),(6,0),(7,0),(8,0),(9,0),(10,0),(11,0)] (by kernel_rfl) (s := [⟨0,none,_,_,_⟩,⟨0,none,_,_,_⟩,⟨0,none,_,_,_⟩,⟨0,none,_,_,_⟩,⟨0,some (64,false),_,_,_⟩,⟨0,some (64,false),_,_,_⟩,⟨0,some (64,false),_,_,_⟩,⟨0,none,_,_,_⟩,⟨0,none,_,_,_⟩,⟨0,some (69,false),_,_,_⟩,⟨0,some (69,false),_,_,_⟩,⟨0,none,_,_,_⟩]) rfl ?_)
            |(refine gReg (i := 12) ?_;refine C_plain [(0,0),(1,0),(2,0),(3,0),(4,2),(5,0),(6,0)] (by kernel_rfl) (s := [⟨0,none,_,_,_⟩,⟨0,none,_,_,_⟩,⟨0,none,_,_,_⟩,⟨0,some (75,false),_,_,_⟩,⟨2,some (75,false),_,_,_⟩,⟨0,none,_,_,_⟩,⟨0,none,_,_,_⟩]) rfl ?_)))
        |(refine C_true rfl ?_)
        |(refine C_split rfl ?_ ?_ <;> (intro hb;(try simp only [decide_eq_true_eq] at hb);(try simp only [decide_eq_false_iff_not] at hb);(try simp only [Bool.not_eq_true'] at hb);(try simp only [Bool.not_eq_false'] at hb);(try (exfalso;first|contradiction|omega))))
        |(refine C_skip ?_)
        |(refine C_ret ?_)))
    |(refine gE ?_;(first
        |(refine E_then ?_)
        |(refine E_thenR ?_)
        |(apply E_ret1 rfl;(first|exact Res.tmp rfl|(apply R_cellAll rfl;(focus ((repeat (first|exact mH|refine mT ?_));done));exact T.rw24)|(apply R_cell1 rfl;(focus ((repeat (first|exact mH|refine mT ?_));done));(first|exact T.sc3|exact T.sc4)))))))
  all_goals try exact retN rfl
  all_goals (have hl0 : 0 < al.length := by omega)
  all_goals (have hl40 : al.length < 40 := by omega)
  all_goals (have hcd1 : cd ≠ 1 := by assumption)
  · have hall : (al.flatMap clFragPacket).all (·.oneCell') = true := all_flat hone0
    have hjm : ∀ (s : Value) (x : MFragPacket), x ∈ al → ∀ w, Rds w (rwSFragPacket (s, al ++ [x])) → Calls Try.prog 15 #[s] w (RetX (fun y : MFragPacket => ctFragPacket y = cj) (fun y => .tuple #[.agg (clFragPacket y).toArray, .int .i64 cd]) (fun y => [.many (rwFragPacket y)]) w) := fun s x hx => by
      have hmm : ∀ y, y ∈ al ++ [x] ↔ y ∈ al := fun y => by
        rw [List.mem_append, List.mem_singleton]
        exact ⟨fun h => h.elim id (fun h => h ▸ hx), .inl⟩
      have h := implFragJoin_c (s, al ++ [x]) (by rw [List.length_append, List.length_singleton]; omega) (fun y hy => hpay y ((hmm y).1 hy))
      have he : joinC ((al ++ [x]).map ctFragPacket) = joinC (al.map ctFragPacket) := joinC_set (map_mem_iff hmm) (by rw [List.length_map, List.length_map, List.length_append, List.length_singleton]; omega)
      dsimp only at h
      rw [he, hcd, hcj] at h
      exact h
    refine C_forget (E' := [(7, .int .i64 cd), (6, .pointer (some ⟨ky, 0, none⟩)), (5, av), (1, v2)]) ⟨rfl, rfl, rfl, rfl, trivial⟩ (List.Sublist.refl _) ?_
    (try clear hm); (try clear hby); (try clear hone)
    clear hfine hony
    repeat' (first
      |(refine gS ?_;(first
          |(refine S_move rfl rfl ?_)
          |(refine S_assign rfl rfl ?_)
          |(apply F_idx rfl rfl rfl;(first|exact T.sl22|exact T.sl27);(focus rfl);(focus (first|exact len_nil|(apply len_given;assumption)|(apply len_row;(focus ((repeat (first|exact mH|refine mT ?_));done)))|(apply len_isN;assumption)));(focus omega))
          |(apply F_bs0L rfl rfl;(first|exact T.el22|exact T.el27);rfl;intro kb)
          |(apply F_bs rfl rfl;(first|exact T.el22|exact T.el27);rfl;rfl;rfl;rfl;(focus ((repeat (first|exact Dense.nil|(apply Dense.cons;rfl;rfl)));done));intro sv;(try (refine S_fact (row_one (v := sv) (by (focus ((repeat (first|exact mH|refine mT ?_));done)))) (fun hone => ?_))))
          |(refine gLoad ?_;(first
              |(apply F_loadSN rfl rfl;exact T.rw24;(focus (first|exact rd_nil|(apply rd_given;(focus assumption);(focus (first|exact freeG0|exact freeG1)))|(apply rd_row;(focus ((repeat (first|exact mH|refine mT ?_));done));(focus (first|exact freeR0|exact freeR1)))));(focus (first|(focus (apply at_flat;(focus (intro _;rfl));(focus assumption)))|exact at_self));rfl;rfl)))
          |(refine gStore ?_;(first
              |(apply F_storeN rfl rfl;(focus (first|rfl|assumption|(simp only [List.append_nil,List.all_cons,List.all_nil,Bool.and_true,Bool.true_and,one_int,one_bool,one_string,one_slice,one_pointer, *];done)));exact T.rw24;(focus ((repeat (first|exact Upd.here|apply Upd.there));done));(focus ((repeat (first|exact SetSeg.nil|apply SetSeg.here|apply SetSeg.there));done));(first|exact okst2|exact okst1|exact okst1'))))
          |(refine gCall ?_;(first
              |(show GoS _ _ _ _ _ _ _ (⟨_,_,_,.call ⟨.value (.func 15),_,_⟩,_⟩ :: _);refine S_callX (f := 15) rfl T.pf15 rfl (fun w hst => hjk _ w (rds_more hin (rds_inB hin hxm (Rds.many hst (by (focus ((repeat (first|exact mH|refine mT ?_));done))))) hst (by (focus ((repeat (first|exact mH|refine mT ?_));done))) (by (focus ((repeat (first|exact mH|refine mT ?_));done))))) rfl (fun zz hzz => ?_);simp only [List.cons_append,List.nil_append];revert hzz;revert zz;intro y3 hy3;refine S_fact (fun w hs => oneFragPacket (Rds.many hs (by (focus ((repeat (first|exact mH|refine mT ?_));done))))) (fun hone => ?_))
              |(apply F_len rfl rfl rfl;(focus exact ⟨_,_,by (first|exact T.sl22|exact T.sl27)⟩);(focus (first|exact len_nil|(apply len_given;assumption)|(apply len_row;(focus ((repeat (first|exact mH|refine mT ?_));done)))|(apply len_isN;assumption))))
              |(apply F_append0 rfl rfl rfl rfl;(first|exact T.el22|exact T.el27);(focus (intro sv;(focus ((repeat (first|exact Upd.here|apply Upd.there));done))));(focus (first|exact rd_nil|(apply rd_given;(focus assumption);(focus (first|exact freeG0|exact freeG1)))|(apply rd_row;(focus ((repeat (first|exact mH|refine mT ?_));done));(focus (first|exact freeR0|exact freeR1)))));(focus (first|rfl|assumption|(apply all_flat;intro _ _;rfl)|(rw [List.append_nil];assumption)|(simp only [List.append_nil,List.all_cons,List.all_nil,Bool.and_true,Bool.true_and,one_int,one_bool,one_string,one_slice,one_pointer, *];done)|simp));rfl;(focus (simp only [maxLen];first|omega|(simp only [List.length_take,List.length_drop];omega)));(focus (first|omega|(simp only [List.length_take,List.length_drop];omega)));intro sv;(try (refine S_fact (row_one (v := sv) (by (focus ((repeat (first|exact mH|refine mT ?_));done)))) (fun hone => ?_))))
              |(apply F_append rfl rfl rfl rfl;(first|exact T.el22|exact T.el27);(focus (intro sv;(focus ((repeat (first|exact Upd.here|apply Upd.there));done))));(focus (first|exact rd_nil|(apply rd_given;(focus assumption);(focus (first|exact freeG0|exact freeG1)))|(apply rd_row;(focus ((repeat (first|exact mH|refine mT ?_));done));(focus (first|exact freeR0|exact freeR1)))));(focus (first|rfl|assumption|(apply all_flat;intro _ _;rfl)|(rw [List.append_nil];assumption)|(simp only [List.append_nil,List.all_cons,List.all_nil,Bool.and_true,Bool.true_and,one_int,one_bool,one_string,one_slice,one_pointer, *];done)|simp));(first|exact okst2|exact okst1|exact okst1');(focus (simp only [maxLen];first|omega|(simp only [List.length_take,List.length_drop];omega)));(focus (first|omega|(simp only [List.length_take,List.length_drop];omega)));intro sv;(try (refine S_fact (row_one (v := sv) (by (focus ((repeat (first|exact mH|refine mT ?_));done)))) (fun hone => ?_))))))
          |(refine gBin ?_;(first
              |((refine S_remB rfl rfl (by omega) (by omega) rfl (fun hrm => ?_);obtain ⟨kk,hkk⟩ : ∃ z,(l2.length : Int) % (al.length : Int) = z := ⟨_,rfl⟩;rw [hkk] at hrm ⊢;obtain ⟨k,rfl⟩ : ∃ n : Nat,kk = (n : Int) := ⟨kk.toNat,by omega⟩;have hx1 := nthD (l := al) (k := k) (by omega);have hxm := List.mem_of_getElem? hx1;have hx5 := hone0 _ hxm;have hjk := fun s => hjm s _ hxm))))
          |(apply S_alloc rfl (hd := rfl);exact T.zc24;intro kb)
          |(refine S_extract rfl rfl rfl ?_)
          |(refine S_done ?_)))
      |((first
          |(refine gReg ?_;(first
              |(refine gReg (i := 13) ?_;refine C_drawnT (.br [(1,0),(3,0),(4,0),(5,0),(6,0),(7,0),(8,0),(9,0),(10,0)] (.br [(0,1)] (.br [(2,1)] (.br [(11,1)] (.br [(12,2)] (.fin [(13,1),(14,0),(15,0),(16,0),(17,1),(18,2),(19,0)]) (.fin [(17,1),(13,1),(14,0),(15,0),(16,0),(18,2),(19,0)])) (.fin [(17,1),(12,2),(13,1),(14,0),(15,0),(16,0),(18,2),(19,0)])) (.fin [(17,1),(11,1),(12,2),(13,1),(14,0),(15,0),(16,0),(18,2),(19,0)])) (.br [] (.br [(11,1)] (.br [(2,1)] (.br [(12,2)] (.fin [(13,1),(14,0),(15,0),(16,0),(17,1),(18,2),(19,0)]) (.fin [(17,1),(13,1),(14,0),(15,0),(16,0),(18,2),(19,0)])) (.fin [(17,1),(12,2),(13,1),(14,0),(15,0),(16,0),(18,2),(19,0)])) (.fin [(17,1),(2,1),(12,2),(13,1),(14,0),(15,0),(16,0),(18,2),(19,0)])) (.br [(17,1)] (.fin [(2,1),(11,1),(12,2),(13,1),(14,0),(15,0),(16,0),(18,2),(19,0)]) (.fin [(11,1),(2,1),(12,2),(13,1),(14,0),(15,0),(16,0),(18,2),(19,0)])))) (.br [] (.br [(11,1)] (.br [(0,1)] (.br [(2,1)] (.br [(12,2)] (.fin [(13,1),(14,0),(15,0),(16,0),(17,1),(18,2),(19,0)]) (.fin [(17,1),(13,1),(14,0),(15,0),(16,0),(18,2),(19,0)])) (.fin [(17,1),(12,2),(13,1),(14,0),(15,0),(16,0),(18,2),(19,0)])) (.fin [(17,1),(2,1),(12,2),(13,1),(14,0),(15,0),(16,0),(18,2),(19,0)])) (.fin [(17,1),(0,1),(2,1),(12,2),(13,1),(14,0),(15,0),(16,0),(18,2),(19,0)])) (.br [(17,1)] (.br [(0,1)] (.fin [(2,1),(11,1),(12,2),(13,1),(14,0),(15,0),(16,0),(18,2),(19,0)]) (.fin [(11,1),(2,1),(12,2),(13,1),(14,0),(15,0),(16,0),(18,2),(19,0)])) (.fin [(11,1),(0,1),(2,1),(12,2),(13,1),(14,0),(15,0),(16,0),(18,2),(19,0)])))) [] T.mixed (by kernel_rfl) (s := (.br [⟨0,none,_,_,_⟩,⟨0,none,_,_,_⟩,⟨0,none,_,_,_⟩,⟨0,none,_,_,_⟩,⟨0,none,_,_,_⟩,⟨0,none,_,_,_⟩,⟨0,none,_,_,_⟩,⟨0,none,_,_,_⟩,⟨0,none,_,_,_⟩] (.br [⟨1,none,_,_,_⟩] (.br [⟨1,none,_,_,_⟩] (.br [⟨1,none,_,_,_⟩] (.br [⟨2,none,_,_,_⟩] (.fin [⟨1,none,_,_,_⟩,⟨0,none,_,_,_⟩,⟨0,none,_,_,_⟩,⟨0,none,_,_,_⟩,⟨1,none,_,_,_⟩,⟨2,none,_,_,_⟩,⟨0,none,_,_,_⟩]) (.fin [⟨1,none,_,_,_⟩,⟨1,none,_,_,_⟩,⟨0,none,_,_,_⟩,⟨0,none,_,_,_⟩,⟨0,none,_,_,_⟩,⟨2,none,_,_,_⟩,⟨0,none,_,_,_⟩])) (.fin [⟨1,none,_,_,_⟩,⟨2,none,_,_,_⟩,⟨1,none,_,_,_⟩,⟨0,none,_,_,_⟩,⟨0,none,_,_,_⟩,⟨0,none,_,_,_⟩,⟨2,none,_,_,_⟩,⟨0,none,_,_,_⟩])) (.fin [⟨1,none,_,_,_⟩,⟨1,none,_,_,_⟩,⟨2,none,_,_,_⟩,⟨1,none,_,_,_⟩,⟨0,none,_,_,_⟩,⟨0,none,_,_,_⟩,⟨0,none,_,_,_⟩,⟨2,none,_,_,_⟩,⟨0,none,_,_,_⟩])) (.br [] (.br [⟨1,none,_,_,_⟩] (.br [⟨1,none,_,_,_⟩] (.br [⟨2,none,_,_,_⟩] (.fin [⟨1,none,_,_,_⟩,⟨0,none,_,_,_⟩,⟨0,none,_,_,_⟩,⟨0,none,_,_,_⟩,⟨1,none,_,_,_⟩,⟨2,none,_,_,_⟩,⟨0,none,_,_,_⟩]) (.fin [⟨1,none,_,_,_⟩,⟨1,none,_,_,_⟩,⟨0,none,_,_,_⟩,⟨0,none,_,_,_⟩,⟨0,none,_,_,_⟩,⟨2,none,_,_,_⟩,⟨0,none,_,_,_⟩])) (.fin [⟨1,none,_,_,_⟩,⟨2,none,_,_,_⟩,⟨1,none,_,_,_⟩,⟨0,none,_,_,_⟩,⟨0,none,_,_,_⟩,⟨0,none,_,_,_⟩,⟨2,none,_,_,_⟩,⟨0,none,_,_,_⟩])) (.fin [⟨1,none,_,_,_⟩,⟨1,none,_,_,_⟩,⟨2,none,_,_,_⟩,⟨1,none,_,_,_⟩,⟨0,none,_,_,_⟩,⟨0,none,_,_,_⟩,⟨0,none,_,_,_⟩,⟨2,none,_,_,_⟩,⟨0,none,_,_,_⟩])) (.br [⟨1,none,_,_,_⟩] (.fin [⟨1,none,_,_,_⟩,⟨1,none,_,_,_⟩,⟨2,none,_,_,_⟩,⟨1,none,_,_,_⟩,⟨0,none,_,_,_⟩,⟨0,none,_,_,_⟩,⟨0,none,_,_,_⟩,⟨2,none,_,_,_⟩,⟨0,none,_,_,_⟩]) (.fin [⟨1,none,_,_,_⟩,⟨1,none,_,_,_⟩,⟨2,none,_,_,_⟩,⟨1,none,_,_,_⟩,⟨0,none,_,_,_⟩,⟨0,none,_,_,_⟩,⟨0,none,_,_,_⟩,⟨2,none,_,_,_⟩,⟨0,none,_,_,_⟩])))) (.br [] (.br [⟨1,none,_,_,_⟩] (.br [⟨1,none,_,_,_⟩] (.br [⟨1,none,_,_,_⟩] (.br [⟨2,none,_,_,_⟩] (.fin [⟨1,none,_,_,_⟩,⟨0,none,_,_,_⟩,⟨0,none,_,_,_⟩,⟨0,none,_,_,_⟩,⟨1,none,_,_,_⟩,⟨2,none,_,_,_⟩,⟨0,none,_,_,_⟩]) (.fin [⟨1,none,_,_,_⟩,⟨1,none,_,_,_⟩,⟨0,none,_,_,_⟩,⟨0,none,_,_,_⟩,⟨0,none,_,_,_⟩,⟨2,none,_,_,_⟩,⟨0,none,_,_,_⟩])) (.fin [⟨1,none,_,_,_⟩,⟨2,none,_,_,_⟩,⟨1,none,_,_,_⟩,⟨0,none,_,_,_⟩,⟨0,none,_,_,_⟩,⟨0,none,_,_,_⟩,⟨2,none,_,_,_⟩,⟨0,none,_,_,_⟩])) (.fin [⟨1,none,_,_,_⟩,⟨1,none,_,_,_⟩,⟨2,none,_,_,_⟩,⟨1,none,_,_,_⟩,⟨0,none,_,_,_⟩,⟨0,none,_,_,_⟩,⟨0,none,_,_,_⟩,⟨2,none,_,_,_⟩,⟨0,none,_,_,_⟩])) (.fin [⟨1,none,_,_,_⟩,⟨1,none,_,_,_⟩,⟨1,none,_,_,_⟩,⟨2,none,_,_,_⟩,⟨1,none,_,_,_⟩,⟨0,none,_,_,_⟩,⟨0,none,_,_,_⟩,⟨0,none,_,_,_⟩,⟨2,none,_,_,_⟩,⟨0,none,_,_,_⟩])) (.br [⟨1,none,_,_,_⟩] (.br [⟨1,none,_,_,_⟩] (.fin [⟨1,none,_,_,_⟩,⟨1,none,_,_,_⟩,⟨2,none,_,_,_⟩,⟨1,none,_,_,_⟩,⟨0,none,_,_,_⟩,⟨0,none,_,_,_⟩,⟨0,none,_,_,_⟩,⟨2,none,_,_,_⟩,⟨0,none,_,_,_⟩]) (.fin [⟨1,none,_,_,_⟩,⟨1,none,_,_,_⟩,⟨2,none,_,_,_⟩,⟨1,none,_,_,_⟩,⟨0,none,_,_,_⟩,⟨0,none,_,_,_⟩,⟨0,none,_,_,_⟩,⟨2,none,_,_,_⟩,⟨0,none,_,_,_⟩])) (.fin [⟨1,none,_,_,_⟩,⟨1,none,_,_,_⟩,⟨1,none,_,_,_⟩,⟨2,none,_,_,_⟩,⟨1,none,_,_,_⟩,⟨0,none,_,_,_⟩,⟨0,none,_,_,_⟩,⟨0,none,_,_,_⟩,⟨2,none,_,_,_⟩,⟨0,none,_,_,_⟩]))))) rfl ?_)))
          |(refine T_fin ?_)
          |(refine T_br ?_)))
      |(refine gE ?_;(first
          |(refine E_calm ?_)
          | (refine E_both ?_ ?_))))
    all_goals exact E_join (α := Nat × MFragPacket) (_,y3) hy3 ⟨rfl,rfl,rfl,rfl,rfl,rfl,trivial⟩ (by (focus (apply Ent.flat;(simp only [List.length_append,List.length_cons,List.length_nil,Nat.zero_add,flat_many,flat_row,flat_blk,flat_append,flat_nil,List.map_append,List.map_cons,List.map_nil,List.flatMap_append,List.flatMap_cons,List.flatMap_nil,List.append_assoc,List.append_nil,List.nil_append,List.cons_append,Row.blk_mk,rwSuint8,rwFragPacket,rwSFragPacket,rwFragSlot,rwSFragSlot,rwFragBench]);((repeat (first|exact Pull.nil|(apply Pull.app;(focus ((repeat (first|exact PickA.here|exact PickA.all|apply PickA.there|apply PickA.over));done)))|(apply Pull.cons;(focus ((repeat (first|exact Pick.here|exact Pick.last|apply Pick.there|apply Pick.over));done)))|(apply Pull.atom;(focus ((repeat (first|exact PickA.here|exact PickA.all|apply PickA.there|apply PickA.over));done)))));done))))
  rintro ⟨k3, y3⟩ hy3
  dsimp only at hy3 ⊢
  clear hfine hony
  have hx1 := nthD (l := al) (k := 0) (by omega)
  have hxm := List.mem_of_getElem? hx1
  have hx5 := hone0 _ hxm
  repeat' (first
    |(refine gS ?_;(first
        |(refine gGuard ?_;(first
            |(refine S_on rfl ?_)
            |(refine S_gsplit rfl ?_ ?_ <;> (intro hb;(try simp only [decide_eq_true_eq] at hb);(try simp only [decide_eq_false_iff_not] at hb);(try simp only [Bool.not_eq_true'] at hb);(try simp only [Bool.not_eq_false'] at hb);(try (exfalso;first|contradiction|omega))))))
        |(refine S_move rfl rfl ?_)
        |(refine gLoad ?_;(first
            |(apply F_loadAll rfl rfl;(focus ((repeat (first|exact mH|refine mT ?_));done));exact T.rw24;(focus (first|exact free0|exact free1)))))
        |(refine gCall ?_;(first
            |(show GoS _ _ _ _ _ _ _ (⟨_,_,_,.call ⟨.value (.func 18),_,_⟩,_⟩ :: _);refine S_callN (f := 18) rfl T.pf18 rfl (fun w hst => same_1 y3 y w (by first|(refine Rds.given hst ?_;assumption)|(apply Rds.many hst;(focus ((repeat (first|exact mH|refine mT ?_));done)))|(apply Rds.row hst;(focus ((repeat (first|exact mH|refine mT ?_));done)))) (by first|(refine Rds.given hst ?_;assumption)|(apply Rds.many hst;(focus ((repeat (first|exact mH|refine mT ?_));done)))|(apply Rds.row hst;(focus ((repeat (first|exact mH|refine mT ?_));done)))) (hy3.trans hy.symm)) rfl ?_)))
        |(refine gBin ?_;(first
            |(refine S_neq rfl rfl rfl ?_)))
        |(refine gPick ?_;(first
            |(refine S_pickF rfl rfl rfl ?_)))
        |(refine S_not rfl rfl ?_)
        |(refine S_done ?_)))
    |((first
        |(refine gSeqCond (i := 14) ?_;refine C_join (α := Unit) (fun _ => [(7,.int .i64 cd),(6,.pointer (some ⟨ky,0,none⟩)),(5,av),(1,v2)]) (fun _ => [.blk ky 24 (clFragPacket y),.row av 24 9 al.length (al.flatMap clFragPacket),.many base,.many (rwFragPacket y)]) (fun _ => True) ?_ ?_)
        |(refine C_seq ?_)
        |(refine gReg ?_;(first
            |(refine gReg (i := 14) ?_;refine C_plain [(0,0),(1,0),(2,0),(3,0),(4,0),(5,0),(6,2),(7,0),(8,0)] (by kernel_rfl) (s := [⟨0,none,_,_,_⟩,⟨0,none,_,_,_⟩,⟨0,none,_,_,_⟩,⟨0,none,_,_,_⟩,⟨0,some (99,false),_,_,_⟩,⟨0,some (99,false),_,_,_⟩,⟨2,some (99,false),_,_,_⟩,⟨0,some (99,false),_,_,_⟩,⟨0,none,_,_,_⟩]) rfl ?_)))
        |(refine C_false rfl ?_)
        |(refine C_skip ?_)))
    |(refine gE ?_;(first
        |(refine E_then ?_))))
  · exact E_join (α := Unit) () trivial ⟨rfl,rfl,rfl,rfl,trivial⟩ (by (focus (apply Ent.flat;(simp only [List.length_append,List.length_cons,List.length_nil,Nat.zero_add,flat_many,flat_row,flat_blk,flat_append,flat_nil,List.map_append,List.map_cons,List.map_nil,List.flatMap_append,List.flatMap_cons,List.flatMap_nil,List.append_assoc,List.append_nil,List.nil_append,List.cons_append,Row.blk_mk,rwSuint8,rwFragPacket,rwSFragPacket,rwFragSlot,rwSFragSlot,rwFragBench]);((repeat (first|exact Pull.nil|(apply Pull.app;(focus ((repeat (first|exact PickA.here|exact PickA.all|apply PickA.there|apply PickA.over));done)))|(apply Pull.cons;(focus ((repeat (first|exact Pick.here|exact Pick.last|apply Pick.there|apply Pick.over));done)))|(apply Pull.atom;(focus ((repeat (first|exact PickA.here|exact PickA.all|apply PickA.there|apply PickA.over));done)))));done))))
  clear hy3
  rintro ⟨⟩ -
  repeat' (first
    |(refine gS ?_;(first
        |(refine S_move rfl rfl ?_)
        |(refine gStore ?_;(first
            |(apply F_storeN rfl rfl;(focus (first|rfl|assumption|(simp only [List.append_nil,List.all_cons,List.all_nil,Bool.and_true,Bool.true_and,one_int,one_bool,one_string,one_slice,one_pointer, *];done)));exact T.rw24;(focus ((repeat (first|exact Upd.here|apply Upd.there));done));(focus ((repeat (first|exact SetSeg.nil|apply SetSeg.here|apply SetSeg.there));done));(first|exact okst2|exact okst1|exact okst1'))))
        |(refine gCall ?_;(first
            |(show GoS _ _ _ _ _ _ _ (⟨_,_,_,.call ⟨.value (.func 21),_,_⟩,_⟩ :: _);refine S_callX (f := 21) rfl T.pf21 rfl (fun w hst => drawFragHop_c v2 l2 w (Mem.given hst hm2) hby2) rfl (fun zz hzz => ?_);simp only [List.cons_append,List.nil_append];revert hzz;revert zz;intro p hp;refine S_fact (fun w hs => oneFragPacket (Rds.many hs (by (focus ((repeat (first|exact mH|refine mT ?_));done))))) (fun hone => ?_))))
        |(apply S_alloc rfl (hd := rfl);exact T.zc24;intro kb)
        |(refine S_done ?_)))
    |((first
        |(refine C_seq ?_)
        |(refine gReg ?_;(first
            |(refine gReg (i := 16) ?_;refine C_plain [(0,0),(1,2),(2,2),(3,2)] (by kernel_rfl) (s := [⟨0,none,_,_,_⟩,⟨2,none,_,_,_⟩,⟨2,none,_,_,_⟩,⟨2,none,_,_,_⟩]) rfl ?_)))))
    |(refine gE ?_;(first
        |(refine E_then ?_))))
  have honp := hone
  revert kb; intro kp
  obtain ⟨x0, hx0⟩ : ∃ q, ix al 0 = q := ⟨_, rfl⟩
  rw [hx0] at hx1 hxm hx5
  repeat' (first
    |(refine gS ?_;(first
        |(refine S_move rfl rfl ?_)
        |(apply F_field rfl rfl;(first|exact T.fl24_0|exact T.fl24_1|exact T.fl24_2|exact T.fl24_3|exact T.fl24_4|exact T.fl24_5))
        |(apply F_fieldS rfl rfl;(first|exact T.fl24_0|exact T.fl24_1|exact T.fl24_2|exact T.fl24_3|exact T.fl24_4|exact T.fl24_5);(focus (first|exact len_nil|(apply len_given;assumption)|(apply len_row;(focus ((repeat (first|exact mH|refine mT ?_));done)))|(apply len_isN;assumption)));(focus omega))
        |(apply F_idx rfl rfl rfl;(first|exact T.sl22|exact T.sl27);(focus rfl);(focus (first|exact len_nil|(apply len_given;assumption)|(apply len_row;(focus ((repeat (first|exact mH|refine mT ?_));done)))|(apply len_isN;assumption)));(focus omega))
        |(refine gLoad ?_;(first
            |(apply F_loadS1 rfl rfl;(first|exact T.sc3|exact T.sc4);(focus (first|exact rd_nil|(apply rd_given;(focus assumption);(focus (first|exact freeG0|exact freeG1)))|(apply rd_row;(focus ((repeat (first|exact mH|refine mT ?_));done));(focus (first|exact freeR0|exact freeR1)))));(focus (first|(apply at_cell;(focus (apply at_flat;(focus (intro _;rfl));(focus assumption)));rfl)|(apply at_cell0;(focus (apply at_flat;(focus (intro _;rfl));(focus assumption)));rfl)|(apply at_cell;(focus (apply at_mid0;(focus assumption)));rfl)|(apply at_cell0;(focus (apply at_mid0;(focus assumption)));rfl)|rfl)))))
        |(refine gStore ?_;(first
            |(apply F_store1 rfl rfl;(focus (first|rfl|assumption));(first|exact T.sc3|exact T.sc4);(focus ((repeat (first|exact Upd.here|apply Upd.there));done));(focus ((repeat (first|exact SetSeg.nil|apply SetSeg.here|apply SetSeg.there));done));(first|exact okst2|exact okst1|exact okst1'))))
        |(refine S_done ?_)))
    |((first
        |(refine gSeqReg (i := 20) ?_;refine C_join (α := Unit) (fun _ => [(14,.pointer (some ⟨kp,0,none⟩)),(7,.int .i64 cd),(6,.pointer (some ⟨ky,0,none⟩)),(5,av)]) (fun _ => [.blk kp 24 (clFragPacket (x0.1,x0.2.1,x0.2.2.1,x0.2.2.2.1,p.2.2.2.2.1,p.2.2.2.2.2)),.blk ky 24 (clFragPacket y),.row av 24 9 al.length (al.flatMap clFragPacket),.many base,.many (rwFragPacket y),.many (rwFragPacket (x0.1,x0.2.1,x0.2.2.1,x0.2.2.2.1,p.2.2.2.2.1,p.2.2.2.2.2))]) (fun _ => True) ?_ ?_)
        |(refine C_seq ?_)
        |(refine gReg ?_;(first
            |(refine gReg (i := 17) ?_;refine C_plain [(0,0),(1,0),(2,0),(3,0),(4,0),(5,2)] (by kernel_rfl) (s := [⟨0,none,_,_,_⟩,⟨0,none,_,_,_⟩,⟨0,none,_,_,_⟩,⟨0,none,_,_,_⟩,⟨0,none,_,_,_⟩,⟨2,none,_,_,_⟩]) rfl ?_)
            |(refine gReg (i := 18) ?_;refine C_plain [(0,0),(1,0),(2,0),(3,0),(4,0),(5,2)] (by kernel_rfl) (s := [⟨0,none,_,_,_⟩,⟨0,none,_,_,_⟩,⟨0,none,_,_,_⟩,⟨0,none,_,_,_⟩,⟨0,none,_,_,_⟩,⟨2,none,_,_,_⟩]) rfl ?_)
            |(refine gReg (i := 19) ?_;refine C_plain [(0,0),(1,0),(2,0),(3,0),(4,0),(5,2)] (by kernel_rfl) (s := [⟨0,none,_,_,_⟩,⟨0,none,_,_,_⟩,⟨0,none,_,_,_⟩,⟨0,none,_,_,_⟩,⟨0,none,_,_,_⟩,⟨2,none,_,_,_⟩]) rfl ?_)
            |(refine gReg (i := 20) ?_;refine C_plain [(0,0),(1,0),(2,0),(3,0),(4,0),(5,2)] (by kernel_rfl) (s := [⟨0,none,_,_,_⟩,⟨0,none,_,_,_⟩,⟨0,none,_,_,_⟩,⟨0,none,_,_,_⟩,⟨0,none,_,_,_⟩,⟨2,none,_,_,_⟩]) rfl ?_)))))
    |(refine gE ?_;(first
        |(refine E_then ?_))))
  · refine E_join (α := Unit) () trivial ⟨rfl, rfl, rfl, rfl, trivial⟩ ?_
    simp only [clFragPacket]
    exact (by (focus (apply Ent.flat;(simp only [List.length_append,List.length_cons,List.length_nil,Nat.zero_add,flat_many,flat_row,flat_blk,flat_append,flat_nil,List.map_append,List.map_cons,List.map_nil,List.flatMap_append,List.flatMap_cons,List.flatMap_nil,List.append_assoc,List.append_nil,List.nil_append,List.cons_append,Row.blk_mk,rwSuint8,rwFragPacket,rwSFragPacket,rwFragSlot,rwSFragSlot,rwFragBench]);((repeat (first|exact Pull.nil|(apply Pull.app;(focus ((repeat (first|exact PickA.here|exact PickA.all|apply PickA.there|apply PickA.over));done)))|(apply Pull.cons;(focus ((repeat (first|exact Pick.here|exact Pick.last|apply Pick.there|apply Pick.over));done)))|(apply Pull.atom;(focus ((repeat (first|exact PickA.here|exact PickA.all|apply PickA.there|apply PickA.over));done)))));done))))
  rintro ⟨⟩ -
  obtain ⟨pp, hpp⟩ : ∃ pp : MFragPacket, (x0.1, x0.2.1, x0.2.2.1, x0.2.2.2.1, p.2.2.2.2.1, p.2.2.2.2.2) = pp := ⟨_, rfl⟩
  have honpp : (clFragPacket pp).all (·.oneCell') = true := by
    have h := honp
    rw [← hpp]
    simp only [clFragPacket, List.all_cons, List.all_nil, Bool.and_true, one_int, one_bool, Bool.true_and] at h ⊢
    exact h
  have hplen : pp.2.2.2.2.2.2.2.2.2.length ≤ 1048576 := by
    rw [← hpp]
    exact (show p.2.2.2.2.2.2.2.2.2.length ≤ 1048576 from small_len hp)
  have hpc : ctFragPacket pp = (x0.1, x0.2.1, x0.2.2.1, x0.2.2.2.1, (ctFragPacket pp).2.2.2.2) := by rw [← hpp]; rfl
  simp only [hpp]
  obtain ⟨f, hf⟩ : ∃ c, (joinC ((al ++ [pp]).map ctFragPacket)).2 = c := ⟨_, rfl⟩
  obtain ⟨zj, hzj⟩ : ∃ c, (joinC ((al ++ [pp]).map ctFragPacket)).1 = c := ⟨_, rfl⟩
  have hjp := fun s : Value => implFragJoin_c (s, al ++ [pp]) (by rw [List.length_append, List.length_singleton]; omega) (fun y hy => by
    rcases List.mem_append.1 hy with h | h
    · exact hpay y h
    · rw [List.mem_singleton] at h
      subst h
      exact hplen)
  dsimp only at hjp
  rw [hf, hzj] at hjp
  have hcases : fragOk (ctFragPacket pp) = true → (cd = 2 ∧ f = 2) ∨ (cd = 0 ∧ f = 0 ∧ ∃ h1 h2 h3 h4 a b, cj = (h1, h2, h3, h4, a, b, zj.2.2.2.2.2.2) ∧ zj = (h1, h2, h3, h4, zj.2.2.2.2)) ∨ (cd = 0 ∧ f = 2) ∨ (cd = 3 ∧ f = 0) ∨ (cd = 3 ∧ f = 2) ∨ (cd = 3 ∧ f = 3) := fun hfk => by
    have hok := code_ok (l := al.map ctFragPacket) (by rw [hcd]; exact hcd1)
    have hhd : headC (al.map ctFragPacket) = ctFragPacket x0 := by rw [← hx0]; exact pk_head (by omega)
    have hxk := (alike_iff.1 ((okJ_iff.1 hok).2.2 _ (List.mem_map_of_mem hxm))).1
    have hal : alikeC (ctFragPacket pp) (headC (al.map ctFragPacket)) = true := by
      rw [hhd]
      refine alike_iff.2 ⟨hfk, hxk, ?_, ?_, ?_, ?_⟩ <;> rw [hpc] <;> rfl
    obtain ⟨j1, j2, j3, j4⟩ := join_add (l := al.map ctFragPacket) (p := ctFragPacket pp) (by rw [List.length_map]; omega) hok hal
    have e : al.map ctFragPacket ++ [ctFragPacket pp] = (al ++ [pp]).map ctFragPacket := by rw [List.map_append, List.map_singleton]
    rw [e, hf, hzj] at j4
    rw [e, hf] at j2 j3
    rw [e] at j1
    rw [hcd] at j2 j3 j4
    rw [hcj] at j4
    have hf1 : f ≠ 1 := by rw [← hf]; exact ok_code j1
    have c1 := join_codes (al.map ctFragPacket)
    have c2 := join_codes ((al ++ [pp]).map ctFragPacket)
    rw [hcd] at c1
    rw [hf] at c2
    rcases c1 with h | h | h | h
    · rcases j3 h with g | g
      · obtain ⟨a, b, k1, k2⟩ := j4 h g
        exact .inr (.inl ⟨h, g, _, _, _, _, a, b, k1, k2⟩)
      · exact .inr (.inr (.inl ⟨h, g⟩))
    · exact absurd h hcd1
    · exact .inl ⟨h, j2 h⟩
    · rcases c2 with g | g | g | g
      · exact .inr (.inr (.inr (.inl ⟨h, g⟩)))
      · exact absurd g hf1
      · exact .inr (.inr (.inr (.inr (.inl ⟨h, g⟩))))
      · exact .inr (.inr (.inr (.inr (.inr ⟨h, g⟩))))
  clear hf hzj hcd hcj hpc hp hpp honp hx1 hxm hx5 hx0 hji
  repeat' (first
    |(refine gS ?_;(first
        |(refine S_assign rfl rfl ?_)
        |(refine gLoad ?_;(first
            |(apply F_loadAll rfl rfl;(focus ((repeat (first|exact mH|refine mT ?_));done));exact T.rw24;(focus (first|exact free0|exact free1)))))
        |(refine gCall ?_;(first
            |(show GoS _ _ _ _ _ _ _ (⟨_,_,_,.call ⟨.value (.func 22),_,_⟩,_⟩ :: _);refine S_callN (f := 22) rfl T.pf22 rfl (fun w hst => specFragOk_c pp hplen w (by first|(refine Rds.given hst ?_;assumption)|(apply Rds.many hst;(focus ((repeat (first|exact mH|refine mT ?_));done)))|(apply Rds.row hst;(focus ((repeat (first|exact mH|refine mT ?_));done))))) rfl ?_)))
        |(refine S_not rfl rfl ?_)
        |(refine S_done ?_)))
    |((first
        |(refine gSeqReg (i := 23) ?_;refine C_join (α := Nat × MFragPacket) (fun s => [(16,.int .i64 f),(15,.pointer (some ⟨s.1,0,none⟩)),(7,.int .i64 cd),(6,.pointer (some ⟨ky,0,none⟩))]) (fun s => [.blk s.1 24 (clFragPacket s.2),.blk ky 24 (clFragPacket y),.many (rwFragPacket y),.many (rwFragPacket s.2)]) (fun s => ctFragPacket s.2 = zj) ?_ ?_)
        |(refine C_seq ?_)
        |(refine gReg ?_;(first
            |(refine gReg (i := 21) ?_;refine C_plain [(0,0),(1,2),(2,0)] (by kernel_rfl) (s := [⟨0,none,_,_,_⟩,⟨2,none,_,_,_⟩,⟨0,none,_,_,_⟩]) rfl ?_)
            |(refine gReg (i := 22) ?_;refine C_plain [(0,0)] (by kernel_rfl) (s := [⟨0,none,_,_,_⟩]) rfl ?_)))
        |(refine C_split rfl ?_ ?_ <;> (intro hb;(try simp only [decide_eq_true_eq] at hb);(try simp only [decide_eq_false_iff_not] at hb);(try simp only [Bool.not_eq_true'] at hb);(try simp only [Bool.not_eq_false'] at hb);(try (exfalso;first|contradiction|omega))))
        |(refine C_skip ?_)
        |(refine C_ret ?_)))
    |(refine gE ?_;(first
        |(refine E_then ?_)
        |(refine E_thenR ?_)
        |(apply E_ret1 rfl;(first|exact Res.tmp rfl|(apply R_cellAll rfl;(focus ((repeat (first|exact mH|refine mT ?_));done));exact T.rw24)|(apply R_cell1 rfl;(focus ((repeat (first|exact mH|refine mT ?_));done));(first|exact T.sc3|exact T.sc4)))))))
  all_goals try exact retN rfl
  all_goals (replace hcases := hcases (by assumption))
  · have hall : (al.flatMap clFragPacket).all (·.oneCell') = true := all_flat hone0
    refine C_forget (E' := [(14, .pointer (some ⟨kp, 0, none⟩)), (7, .int .i64 cd), (6, .pointer (some ⟨ky, 0, none⟩)), (5, av)]) ⟨rfl, rfl, rfl, rfl, trivial⟩ (List.Sublist.refl _) ?_
    clear hcases hm hby hm2 hby2
    (try clear hone)
    repeat' (first
      |(refine gS ?_;(first
          |(refine S_move rfl rfl ?_)
          |(refine S_assign rfl rfl ?_)
          |(apply F_bs0L rfl rfl;(first|exact T.el22|exact T.el27);rfl;intro kb)
          |(apply F_bs rfl rfl;(first|exact T.el22|exact T.el27);rfl;rfl;rfl;rfl;(focus ((repeat (first|exact Dense.nil|(apply Dense.cons;rfl;rfl)));done));intro sv;(try (refine S_fact (row_one (v := sv) (by (focus ((repeat (first|exact mH|refine mT ?_));done)))) (fun hone => ?_))))
          |(refine gLoad ?_;(first
              |(apply F_loadAll rfl rfl;(focus ((repeat (first|exact mH|refine mT ?_));done));exact T.rw24;(focus (first|exact free0|exact free1)))))
          |(refine gStore ?_;(first
              |(apply F_storeN rfl rfl;(focus (first|rfl|assumption|(simp only [List.append_nil,List.all_cons,List.all_nil,Bool.and_true,Bool.true_and,one_int,one_bool,one_string,one_slice,one_pointer, *];done)));exact T.rw24;(focus ((repeat (first|exact Upd.here|apply Upd.there));done));(focus ((repeat (first|exact SetSeg.nil|apply SetSeg.here|apply SetSeg.there));done));(first|exact okst2|exact okst1|exact okst1'))))
          |(refine gCall ?_;(first
              |(show GoS _ _ _ _ _ _ _ (⟨_,_,_,.call ⟨.value (.func 15),_,_⟩,_⟩ :: _);refine S_callX (f := 15) rfl T.pf15 rfl (fun w hst => hjp _ w (rds_more hin (Rds.many hst (by (focus ((repeat (first|exact mH|refine mT ?_));done)))) hst (by (focus ((repeat (first|exact mH|refine mT ?_));done))) (by (focus ((repeat (first|exact mH|refine mT ?_));done))))) rfl (fun zz hzz => ?_);simp only [List.cons_append,List.nil_append];revert hzz;revert zz;intro z hz;refine S_fact (fun w hs => oneFragPacket (Rds.many hs (by (focus ((repeat (first|exact mH|refine mT ?_));done))))) (fun hone => ?_))
              |(apply F_append0 rfl rfl rfl rfl;(first|exact T.el22|exact T.el27);(focus (intro sv;(focus ((repeat (first|exact Upd.here|apply Upd.there));done))));(focus (first|exact rd_nil|(apply rd_given;(focus assumption);(focus (first|exact freeG0|exact freeG1)))|(apply rd_row;(focus ((repeat (first|exact mH|refine mT ?_));done));(focus (first|exact freeR0|exact freeR1)))));(focus (first|rfl|assumption|(apply all_flat;intro _ _;rfl)|(rw [List.append_nil];assumption)|(simp only [List.append_nil,List.all_cons,List.all_nil,Bool.and_true,Bool.true_and,one_int,one_bool,one_string,one_slice,one_pointer, *];done)|simp));rfl;(focus (simp only [maxLen];first|omega|(simp only [List.length_take,List.length_drop];omega)));(focus (first|omega|(simp only [List.length_take,List.length_drop];omega)));intro sv;(try (refine S_fact (row_one (v := sv) (by (focus ((repeat (first|exact mH|refine mT ?_));done)))) (fun hone => ?_))))
              |(apply F_append rfl rfl rfl rfl;(first|exact T.el22|exact T.el27);(focus (intro sv;(focus ((repeat (first|exact Upd.here|apply Upd.there));done))));(focus (first|exact rd_nil|(apply rd_given;(focus assumption);(focus (first|exact freeG0|exact freeG1)))|(apply rd_row;(focus ((repeat (first|exact mH|refine mT ?_));done));(focus (first|exact freeR0|exact freeR1)))));(focus (first|rfl|assumption|(apply all_flat;intro _ _;rfl)|(rw [List.append_nil];assumption)|(simp only [List.append_nil,List.all_cons,List.all_nil,Bool.and_true,Bool.true_and,one_int,one_bool,one_string,one_slice,one_pointer, *];done)|simp));(first|exact okst2|exact okst1|exact okst1');(focus (simp only [maxLen];first|omega|(simp only [List.length_take,List.length_drop];omega)));(focus (first|omega|(simp only [List.length_take,List.length_drop];omega)));intro sv;(try (refine S_fact (row_one (v := sv) (by (focus ((repeat (first|exact mH|refine mT ?_));done)))) (fun hone => ?_))))))
          |(apply S_alloc rfl (hd := rfl);exact T.zc24;intro kb)
          |(refine S_extract rfl rfl rfl ?_)
          |(refine S_done ?_)))
      |((first
          |(refine gReg ?_;(first
              |(refine gReg (i := 23) ?_;refine C_drawnT (.br [(1,0),(3,0)] (.br [(0,1)] (.br [(2,1)] (.br [(4,1)] (.br [(5,2)] (.fin [(6,1),(7,0),(8,0),(9,0),(10,1),(11,2),(12,0)]) (.fin [(10,1),(6,1),(7,0),(8,0),(9,0),(11,2),(12,0)])) (.fin [(10,1),(5,2),(6,1),(7,0),(8,0),(9,0),(11,2),(12,0)])) (.fin [(10,1),(4,1),(5,2),(6,1),(7,0),(8,0),(9,0),(11,2),(12,0)])) (.br [] (.br [(4,1)] (.br [(2,1)] (.br [(5,2)] (.fin [(6,1),(7,0),(8,0),(9,0),(10,1),(11,2),(12,0)]) (.fin [(10,1),(6,1),(7,0),(8,0),(9,0),(11,2),(12,0)])) (.fin [(10,1),(5,2),(6,1),(7,0),(8,0),(9,0),(11,2),(12,0)])) (.fin [(10,1),(2,1),(5,2),(6,1),(7,0),(8,0),(9,0),(11,2),(12,0)])) (.br [(10,1)] (.fin [(2,1),(4,1),(5,2),(6,1),(7,0),(8,0),(9,0),(11,2),(12,0)]) (.fin [(4,1),(2,1),(5,2),(6,1),(7,0),(8,0),(9,0),(11,2),(12,0)])))) (.br [] (.br [(4,1)] (.br [(0,1)] (.br [(2,1)] (.br [(5,2)] (.fin [(6,1),(7,0),(8,0),(9,0),(10,1),(11,2),(12,0)]) (.fin [(10,1),(6,1),(7,0),(8,0),(9,0),(11,2),(12,0)])) (.fin [(10,1),(5,2),(6,1),(7,0),(8,0),(9,0),(11,2),(12,0)])) (.fin [(10,1),(2,1),(5,2),(6,1),(7,0),(8,0),(9,0),(11,2),(12,0)])) (.fin [(10,1),(0,1),(2,1),(5,2),(6,1),(7,0),(8,0),(9,0),(11,2),(12,0)])) (.br [(10,1)] (.br [(0,1)] (.fin [(2,1),(4,1),(5,2),(6,1),(7,0),(8,0),(9,0),(11,2),(12,0)]) (.fin [(4,1),(2,1),(5,2),(6,1),(7,0),(8,0),(9,0),(11,2),(12,0)])) (.fin [(4,1),(0,1),(2,1),(5,2),(6,1),(7,0),(8,0),(9,0),(11,2),(12,0)])))) [] T.mixed (by kernel_rfl) (s := (.br [⟨0,none,_,_,_⟩,⟨0,none,_,_,_⟩] (.br [⟨1,none,_,_,_⟩] (.br [⟨1,none,_,_,_⟩] (.br [⟨1,none,_,_,_⟩] (.br [⟨2,none,_,_,_⟩] (.fin [⟨1,none,_,_,_⟩,⟨0,none,_,_,_⟩,⟨0,none,_,_,_⟩,⟨0,none,_,_,_⟩,⟨1,none,_,_,_⟩,⟨2,none,_,_,_⟩,⟨0,none,_,_,_⟩]) (.fin [⟨1,none,_,_,_⟩,⟨1,none,_,_,_⟩,⟨0,none,_,_,_⟩,⟨0,none,_,_,_⟩,⟨0,none,_,_,_⟩,⟨2,none,_,_,_⟩,⟨0,none,_,_,_⟩])) (.fin [⟨1,none,_,_,_⟩,⟨2,none,_,_,_⟩,⟨1,none,_,_,_⟩,⟨0,none,_,_,_⟩,⟨0,none,_,_,_⟩,⟨0,none,_,_,_⟩,⟨2,none,_,_,_⟩,⟨0,none,_,_,_⟩])) (.fin [⟨1,none,_,_,_⟩,⟨1,none,_,_,_⟩,⟨2,none,_,_,_⟩,⟨1,none,_,_,_⟩,⟨0,none,_,_,_⟩,⟨0,none,_,_,_⟩,⟨0,none,_,_,_⟩,⟨2,none,_,_,_⟩,⟨0,none,_,_,_⟩])) (.br [] (.br [⟨1,none,_,_,_⟩] (.br [⟨1,none,_,_,_⟩] (.br [⟨2,none,_,_,_⟩] (.fin [⟨1,none,_,_,_⟩,⟨0,none,_,_,_⟩,⟨0,none,_,_,_⟩,⟨0,none,_,_,_⟩,⟨1,none,_,_,_⟩,⟨2,none,_,_,_⟩,⟨0,none,_,_,_⟩]) (.fin [⟨1,none,_,_,_⟩,⟨1,none,_,_,_⟩,⟨0,none,_,_,_⟩,⟨0,none,_,_,_⟩,⟨0,none,_,_,_⟩,⟨2,none,_,_,_⟩,⟨0,none,_,_,_⟩])) (.fin [⟨1,none,_,_,_⟩,⟨2,none,_,_,_⟩,⟨1,none,_,_,_⟩,⟨0,none,_,_,_⟩,⟨0,none,_,_,_⟩,⟨0,none,_,_,_⟩,⟨2,none,_,_,_⟩,⟨0,none,_,_,_⟩])) (.fin [⟨1,none,_,_,_⟩,⟨1,none,_,_,_⟩,⟨2,none,_,_,_⟩,⟨1,none,_,_,_⟩,⟨0,none,_,_,_⟩,⟨0,none,_,_,_⟩,⟨0,none,_,_,_⟩,⟨2,none,_,_,_⟩,⟨0,none,_,_,_⟩])) (.br [⟨1,none,_,_,_⟩] (.fin [⟨1,none,_,_,_⟩,⟨1,none,_,_,_⟩,⟨2,none,_,_,_⟩,⟨1,none,_,_,_⟩,⟨0,none,_,_,_⟩,⟨0,none,_,_,_⟩,⟨0,none,_,_,_⟩,⟨2,none,_,_,_⟩,⟨0,none,_,_,_⟩]) (.fin [⟨1,none,_,_,_⟩,⟨1,none,_,_,_⟩,⟨2,none,_,_,_⟩,⟨1,none,_,_,_⟩,⟨0,none,_,_,_⟩,⟨0,none,_,_,_⟩,⟨0,none,_,_,_⟩,⟨2,none,_,_,_⟩,⟨0,none,_,_,_⟩])))) (.br [] (.br [⟨1,none,_,_,_⟩] (.br [⟨1,none,_,_,_⟩] (.br [⟨1,none,_,_,_⟩] (.br [⟨2,none,_,_,_⟩] (.fin [⟨1,none,_,_,_⟩,⟨0,none,_,_,_⟩,⟨0,none,_,_,_⟩,⟨0,none,_,_,_⟩,⟨1,none,_,_,_⟩,⟨2,none,_,_,_⟩,⟨0,none,_,_,_⟩]) (.fin [⟨1,none,_,_,_⟩,⟨1,none,_,_,_⟩,⟨0,none,_,_,_⟩,⟨0,none,_,_,_⟩,⟨0,none,_,_,_⟩,⟨2,none,_,_,_⟩,⟨0,none,_,_,_⟩])) (.fin [⟨1,none,_,_,_⟩,⟨2,none,_,_,_⟩,⟨1,none,_,_,_⟩,⟨0,none,_,_,_⟩,⟨0,none,_,_,_⟩,⟨0,none,_,_,_⟩,⟨2,none,_,_,_⟩,⟨0,none,_,_,_⟩])) (.fin [⟨1,none,_,_,_⟩,⟨1,none,_,_,_⟩,⟨2,none,_,_,_⟩,⟨1,none,_,_,_⟩,⟨0,none,_,_,_⟩,⟨0,none,_,_,_⟩,⟨0,none,_,_,_⟩,⟨2,none,_,_,_⟩,⟨0,none,_,_,_⟩])) (.fin [⟨1,none,_,_,_⟩,⟨1,none,_,_,_⟩,⟨1,none,_,_,_⟩,⟨2,none,_,_,_⟩,⟨1,none,_,_,_⟩,⟨0,none,_,_,_⟩,⟨0,none,_,_,_⟩,⟨0,none,_,_,_⟩,⟨2,none,_,_,_⟩,⟨0,none,_,_,_⟩])) (.br [⟨1,none,_,_,_⟩] (.br [⟨1,none,_,_,_⟩] (.fin [⟨1,none,_,_,_⟩,⟨1,none,_,_,_⟩,⟨2,none,_,_,_⟩,⟨1,none,_,_,_⟩,⟨0,none,_,_,_⟩,⟨0,none,_,_,_⟩,⟨0,none,_,_,_⟩,⟨2,none,_,_,_⟩,⟨0,none,_,_,_⟩]) (.fin [⟨1,none,_,_,_⟩,⟨1,none,_,_,_⟩,⟨2,none,_,_,_⟩,⟨1,none,_,_,_⟩,⟨0,none,_,_,_⟩,⟨0,none,_,_,_⟩,⟨0,none,_,_,_⟩,⟨2,none,_,_,_⟩,⟨0,none,_,_,_⟩])) (.fin [⟨1,none,_,_,_⟩,⟨1,none,_,_,_⟩,⟨1,none,_,_,_⟩,⟨2,none,_,_,_⟩,⟨1,none,_,_,_⟩,⟨0,none,_,_,_⟩,⟨0,none,_,_,_⟩,⟨0,none,_,_,_⟩,⟨2,none,_,_,_⟩,⟨0,none,_,_,_⟩]))))) rfl ?_)))
          |(refine T_fin ?_)
          |(refine T_br ?_)))
      |(refine gE ?_;(first
          |(refine E_calm ?_)
          | (refine E_both ?_ ?_))))
    all_goals exact E_join (α := Nat × MFragPacket) (_,z) hz ⟨rfl,rfl,rfl,rfl,trivial⟩ (by (focus (apply Ent.flat;(simp only [List.length_append,List.length_cons,List.length_nil,Nat.zero_add,flat_many,flat_row,flat_blk,flat_append,flat_nil,List.map_append,List.map_cons,List.map_nil,List.flatMap_append,List.flatMap_cons,List.flatMap_nil,List.append_assoc,List.append_nil,List.nil_append,List.cons_append,Row.blk_mk,rwSuint8,rwFragPacket,rwSFragPacket,rwFragSlot,rwSFragSlot,rwFragBench]);((repeat (first|exact Pull.nil|(apply Pull.app;(focus ((repeat (first|exact PickA.here|exact PickA.all|apply PickA.there|apply PickA.over));done)))|(apply Pull.cons;(focus ((repeat (first|exact Pick.here|exact Pick.last|apply Pick.there|apply Pick.over));done)))|(apply Pull.atom;(focus ((repeat (first|exact PickA.here|exact PickA.all|apply PickA.there|apply PickA.over));done)))));done))))
  rintro ⟨kz, z⟩ hz
  (try dsimp only at hz ⊢)
  clear hjp
  rcases hcases with ⟨rfl, rfl⟩ | ⟨rfl, rfl, hs⟩ | ⟨rfl, rfl⟩ | ⟨rfl, rfl⟩ | ⟨rfl, rfl⟩ | ⟨rfl, rfl⟩
  rotate_left
  have hsame := same_of hs hz hy
  rotate_right
  all_goals
    repeat' (first
      |(refine gS ?_;(first
          |(refine gGuard ?_;(first
              |(refine S_on rfl ?_)
              |(refine S_off rfl rfl rfl ?_)
              |(refine S_offU rfl rfl ?_)))
          |(refine S_move rfl rfl ?_)
          |(refine S_assign rfl rfl ?_)
          |(apply F_field rfl rfl;(first|exact T.fl24_0|exact T.fl24_1|exact T.fl24_2|exact T.fl24_3|exact T.fl24_4|exact T.fl24_5))
          |(refine gLoad ?_;(first
              |(apply F_load1 rfl rfl;(focus ((repeat (first|exact mH|refine mT ?_));done));(first|exact T.sc3|exact T.sc4);rfl;(focus (first|exact free0|exact free1)))
              |(apply F_loadAll rfl rfl;(focus ((repeat (first|exact mH|refine mT ?_));done));exact T.rw24;(focus (first|exact free0|exact free1)))))
          |(refine gStore ?_;(first
              |(apply F_store1 rfl rfl;(focus (first|rfl|assumption));(first|exact T.sc3|exact T.sc4);(focus ((repeat (first|exact Upd.here|apply Upd.there));done));(focus ((repeat (first|exact SetSeg.nil|apply SetSeg.here|apply SetSeg.there));done));(first|exact okst2|exact okst1|exact okst1'))))
          |(refine gCall ?_;(first
              |(show GoS _ _ _ _ _ _ _ (⟨_,_,_,.call ⟨.value (.func 18),_,_⟩,_⟩ :: _);refine S_callN (f := 18) rfl T.pf18 rfl (fun w hst => same_1 (z.1,z.2.1,z.2.2.1,z.2.2.2.1,y.2.2.2.2.1,y.2.2.2.2.2.1,z.2.2.2.2.2.2) y w (by first|(refine Rds.given hst ?_;assumption)|(apply Rds.many hst;(focus ((repeat (first|exact mH|refine mT ?_));done)))|(apply Rds.row hst;(focus ((repeat (first|exact mH|refine mT ?_));done)))) (by first|(refine Rds.given hst ?_;assumption)|(apply Rds.many hst;(focus ((repeat (first|exact mH|refine mT ?_));done)))|(apply Rds.row hst;(focus ((repeat (first|exact mH|refine mT ?_));done)))) hsame) rfl ?_)))
          |(refine gBin ?_;(first
              |(refine S_eql rfl rfl rfl ?_)))
          |(refine gPick ?_;(first
              |(refine S_pickT rfl rfl rfl ?_)
              |(refine S_pickF rfl rfl rfl ?_)))
          |(refine S_done ?_)))
      |((first
          |(refine C_seq ?_)
          |(refine gReg ?_;(first
              |(refine gReg (i := 24) ?_;refine C_plain [(0,0),(1,0)] (by kernel_rfl) (s := [⟨0,none,_,_,_⟩,⟨0,none,_,_,_⟩]) rfl ?_)
              |(refine gReg (i := 25) ?_;refine C_plain [(0,0),(1,0),(2,0)] (by kernel_rfl) (s := [⟨0,none,_,_,_⟩,⟨0,none,_,_,_⟩,⟨0,none,_,_,_⟩]) rfl ?_)
              |(refine gReg (i := 26) ?_;refine C_plain [(0,0),(1,0),(2,0),(3,0),(4,0),(5,0)] (by kernel_rfl) (s := [⟨0,none,_,_,_⟩,⟨0,none,_,_,_⟩,⟨0,none,_,_,_⟩,⟨0,some (146,true),_,_,_⟩,⟨0,some (146,true),_,_,_⟩,⟨0,none,_,_,_⟩]) rfl ?_)
              |(refine gReg (i := 27) ?_;refine C_plain [(0,0),(1,0),(2,0),(3,2)] (by kernel_rfl) (s := [⟨0,none,_,_,_⟩,⟨0,none,_,_,_⟩,⟨0,none,_,_,_⟩,⟨2,none,_,_,_⟩]) rfl ?_)
              |(refine gReg (i := 28) ?_;refine C_plain [(0,0),(1,0),(2,0),(3,2)] (by kernel_rfl) (s := [⟨0,none,_,_,_⟩,⟨0,none,_,_,_⟩,⟨0,none,_,_,_⟩,⟨2,none,_,_,_⟩]) rfl ?_)
              |(refine gReg (i := 29) ?_;refine C_plain [(0,0),(1,0),(2,2),(3,0)] (by kernel_rfl) (s := [⟨0,none,_,_,_⟩,⟨0,none,_,_,_⟩,⟨2,none,_,_,_⟩,⟨0,none,_,_,_⟩]) rfl ?_)
              |(refine gReg (i := 30) ?_;refine C_plain [(0,0),(1,0),(2,0),(3,0),(4,0),(5,0),(6,0),(7,0),(8,0),(9,0),(10,0),(11,0),(12,0),(13,0),(14,0)] (by kernel_rfl) (s := [⟨0,none,_,_,_⟩,⟨0,none,_,_,_⟩,⟨0,none,_,_,_⟩,⟨0,some (161,false),_,_,_⟩,⟨0,some (161,false),_,_,_⟩,⟨0,some (161,false),_,_,_⟩,⟨0,some (164,true),_,_,_⟩,⟨0,some (164,true),_,_,_⟩,⟨0,some (164,true),_,_,_⟩,⟨0,some (167,false),_,_,_⟩,⟨0,some (167,false),_,_,_⟩,⟨0,some (164,true),_,_,_⟩,⟨0,some (161,false),_,_,_⟩,⟨0,none,_,_,_⟩,⟨0,none,_,_,_⟩]) rfl ?_)))
          |(refine C_true rfl ?_)
          |(refine C_false rfl ?_)
          |(refine C_skip ?_)
          |(refine C_ret ?_)))
      |(refine gE ?_;(first
          |(refine E_then ?_)
          |(refine E_thenR ?_)
          |(apply E_ret1 rfl;(first|exact Res.tmp rfl|(apply R_cellAll rfl;(focus ((repeat (first|exact mH|refine mT ?_));done));exact T.rw24)|(apply R_cell1 rfl;(focus ((repeat (first|exact mH|refine mT ?_));done));(first|exact T.sc3|exact T.sc4)))))))
  all_goals first | exact retN rfl | (refine retN ?_; simp; done)
set_option maxRecDepth 100000 in
theorem lifted (os : Os) (started : os.Started) (H : Type) (enc : TypeId × Value → H) :
    ReturnsInHanded {} Try.checked os 4 .any (Rows.fnFragJoinSpec.pre6 enc Try.prog Try.f4 Rows.fnFragJoinRow.domain false) (Rows.fnFragJoinSpec.post enc Try.prog Try.f4 false true false false) := by
  refine returnsInHanded_of_change (C := Try.checked) own started (by kernel_rfl) Try.func4
    (ChangeSpec.witness6 (enc := enc) (C := Try.checked) false ⟨#[], #[.slice none 0 0, .slice none 0 0], []⟩ 8 (by kernel_rfl) (by kernel_rfl) (by kernel_rfl) (by kernel_rfl)) ?_
  intro W base args ds gs before hval0 hW hcnd _
  have hval : ∀ (j : Nat) t v, Try.f4.params[j]? = some t → args[j]? = some v → Value.okWide Try.prog W .any base t v := hval0
  have hW' := hW
  obtain ⟨p, q, hA0, hV, rfl, hfz, hnd⟩ := hW
  have hA : DataW.TrodAll enc Try.prog W 0 (fun _ => true) true Try.f4.params.toList args.toList ds p := hA0
  rw [Try.params4] at hA hval
  obtain ⟨v0, vs0, d0, ds0, p0, q0, hargs, rfl, rfl, h0, r0⟩ := trodAll_cons hA
  obtain ⟨v1, vs1, d1, ds1, p1, q1, rfl, rfl, rfl, h1, r1⟩ := trodAll_cons r0
  obtain ⟨rfl, rfl, rfl⟩ := trodAll_nil r1
  obtain rfl : args = #[v0, v1] := by cases args; simp_all
  obtain ⟨rfl, rfl⟩ := trodVars_none hV
  have k0 := h0
  have lt0 : ∀ x ∈ p0, x.block < W.heap.size := by obtain ⟨m, hm⟩ := k0; exact DataW.trod_lt m _ _ _ hm
  have k1 := h1
  have lt1 : ∀ x ∈ p1, x.block < W.heap.size := by obtain ⟨m, hm⟩ := k1; exact DataW.trod_lt m _ _ _ hm
  obtain ⟨y0, rfl, w0⟩ := par_Suint8 (hval 0 22 v0 rfl rfl) h0
  obtain ⟨y1, rfl, w1⟩ := par_Suint8 (hval 1 22 v1 rfl rfl) h1
  clear hA0 hval0
  refine (walk W y0 w0 y1 w1).mono fun e W' ⟨he, bel⟩ => ?_
  subst he
  exact ⟨_, rfl, _, _, _, [], _, [], hW', trodAll_mk1 (shut_bool Try.underlying4 _), (trodAll_cons_mk (Below.trod laidOut (by kernel_rfl) (of_decide_eq_true (by kernel_rfl)) k0 bel lt0) (trodAll_cons_mk (Below.trod laidOut (by kernel_rfl) (of_decide_eq_true (by kernel_rfl)) k1 bel lt1) trodAll_mk0)), rfl, bel.frame _, fun h => by cases h⟩
theorem over : Rows.fnFragJoinRow.holds Try.pinned (OpenSpec.ofChange Rows.fnFragJoinSpec) :=
  OpenClaim.holds_of_wide 4 Try.f4 rfl rfl rfl rfl rfl rfl rfl ⟨rfl, rfl, rfl, rfl, rfl⟩ rfl rfl rfl rfl rfl (by kernel_rfl) Try.func4 (by kernel_rfl)
    (of_decide_eq_true (by kernel_rfl)) (by unfold Func.isWrapper; rw [if_neg (of_decide_eq_false (by kernel_rfl))]; exact ⟨rfl, rfl⟩)
    (fun os started H enc _ => lifted os started H enc)
theorem proved : Rows.FnFragJoinSaid := over
#print axioms proved
end Go.Proofs.Ytodhjpnfokkfeaa.fnFragJoin

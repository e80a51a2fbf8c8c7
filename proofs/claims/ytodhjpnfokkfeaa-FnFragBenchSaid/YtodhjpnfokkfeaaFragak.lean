/- A piece taken into its slot. -/
import Derived.Test.YtodhjpnfokkfeaaFragaj
set_option linter.unusedSimpArgs false
set_option linter.unusedVariables false
namespace Go.Proofs.Ytodhjpnfokkfeaa
open Go Go.RowKit
theorem F_nilS {P : Program} {n : Nat} {w0 : World} {r : Option (List Nat)} {Q : Exit → Act → World → Prop} {E : List (Nat × Value)} {L : List Blk} {l : List Stp} {d N o : Nat} {ty : TypeId} {x : Operand} {v : Value} (hx : ev E x = some (sp v o)) (hd : Nat.blt d n = true) (hn : LenOf w0 L v N) (h0 : 0 < N) (h : GoS P n w0 r Q ((d, sp v o) :: E) L l) : GoS P n w0 r Q E L (⟨0, none, some d, .nilCheck x, ty⟩ :: l) := by
  intro a w he hs
  refine S_read hd (fun ρ w he hs w' _ => ?_) h a w he hs
  obtain ⟨a, c, rfl, _, _, h1⟩ := hn w hs
  obtain ⟨b, o', rfl⟩ := h1 h0
  have hx := he _ _ hx
  rw [sp_lit] at hx ⊢
  simp [Stp.oper, execOp, hx]
theorem C_drawnVT {P : Program} {n : Nat} {w0 : World} {Q : Exit → Act → World → Prop} {E : List (Nat × Value)} {L : List Blk} {ops : List Oper} {i : Nat} {s : STr} (v : Value) (t : OT) (hm : P.follows .mixedOrders = true) (hok : regOkT P ops t = true) (hs : mkT ops t = s) (h : GoT P n w0 (some [blkOf v]) (Calm Q) E L s) : GoC P n w0 Q E L (.region i ops.toArray true) :=
  C_drawnT t [blkOf v] hm hok hs h
/-- a piece taken into a slot: the slot then, what passes, the code -/
def inI (s : CFragSlot) (p : CFragPacket) : CFragSlot × CFragPacket × Int :=
  if s.2.2 = true then (s, ctFragPacket zeroP, 4)
  else if p ∈ s.1 then (s, ctFragPacket zeroP, 3)
  else if s.1.length = 40 ∨ (joinC (s.1 ++ [p])).2 = 2 then ((s.1.take 1, s.2.1, true), ctFragPacket zeroP, 4)
  else if (joinC (s.1 ++ [p])).2 = 3 then ((s.1 ++ [p], s.2.1, s.2.2), (joinC (s.1 ++ [p])).1, 3)
  else (s, (joinC (s.1 ++ [p])).1, (joinC (s.1 ++ [p])).2)
theorem mem_one3 {w : World} {v : Value} {m n : Nat} {cs : List Value} (h : Mem w v m n cs) : v.oneCell' = true := h.1.one
theorem inI_bad {s : CFragSlot} {p : CFragPacket} (h : s.2.2 = true) : inI s p = (s, ctFragPacket zeroP, 4) := if_pos h
theorem inI_told {s : CFragSlot} {p : CFragPacket} (h : s.2.2 = false) (h2 : p ∈ s.1) : inI s p = (s, ctFragPacket zeroP, 3) := by
  unfold inI
  rw [if_neg (by rw [h]; simp), if_pos h2]
theorem inI_full {s : CFragSlot} {p : CFragPacket} (h : s.2.2 = false) (h2 : p ∉ s.1) (h3 : s.1.length = 40 ∨ (joinC (s.1 ++ [p])).2 = 2) : inI s p = ((s.1.take 1, s.2.1, true), ctFragPacket zeroP, 4) := by
  unfold inI
  rw [if_neg (by rw [h]; simp), if_neg h2, if_pos h3]
theorem inI_more {s : CFragSlot} {p : CFragPacket} (h : s.2.2 = false) (h2 : p ∉ s.1) (h3 : ¬ (s.1.length = 40 ∨ (joinC (s.1 ++ [p])).2 = 2)) (h4 : (joinC (s.1 ++ [p])).2 = 3) : inI s p = ((s.1 ++ [p], s.2.1, s.2.2), (joinC (s.1 ++ [p])).1, 3) := by
  unfold inI
  rw [if_neg (by rw [h]; simp), if_neg h2, if_neg h3, if_pos h4]
theorem inI_done {s : CFragSlot} {p : CFragPacket} (h : s.2.2 = false) (h2 : p ∉ s.1) (h3 : ¬ (s.1.length = 40 ∨ (joinC (s.1 ++ [p])).2 = 2)) (h4 : ¬ (joinC (s.1 ++ [p])).2 = 3) : inI s p = (s, (joinC (s.1 ++ [p])).1, (joinC (s.1 ++ [p])).2) := by
  unfold inI
  rw [if_neg (by rw [h]; simp), if_neg h2, if_neg h3, if_neg h4]
attribute [local irreducible] Calls GoS GoC GoE GoT Mid IsEq IsFl IsSc IsRw IsSl IsEl IsSt IsFs sp Mem Rd LenOf szR joinC alikeC likeC
theorem pfTold : plainFn Try.prog 111 = true := by kernel_rfl
theorem retX_pieces {f : Nat} {args : Array Value} {w : World} {phi : MSFragPacket → Prop} {val : MSFragPacket → Value} (h : Calls Try.prog f args w (RetX phi val (fun y => [.many (rwSFragPacket y)]) w)) : Calls Try.prog f args w (RetX phi val (fun y => [.row y.1 24 9 y.2.length (y.2.flatMap clFragPacket), .many (y.2.flatMap rwFragPacket)]) w) := by
  refine h.mono ?_
  rintro e w' ⟨⟨v, l⟩, h1, h2, h3, h4, h5⟩
  have h6 : Ent w [.many (rwSFragPacket (v,l))] [.row v 24 9 l.length (l.flatMap clFragPacket),.many (l.flatMap rwFragPacket)] := entA
  have h7 := h6 w' ⟨h3, h4, h5⟩
  exact ⟨(v, l), h1, h2, h7.ext, h7.own, h7.nd⟩
theorem rds_app {w0 w : World} {L : List Blk} {v : Value} {cl : List MFragPacket} {p : MFragPacket} (hs : St w0 w L) (h1 : .row v 24 9 (cl.length + 1) (cl.flatMap clFragPacket ++ (clFragPacket p ++ [])) ∈ L) (h2 : .many (cl.flatMap rwFragPacket) ∈ L) (hp : Rds w (rwFragPacket p)) : Rds w (rwSFragPacket (v, cl ++ [p])) := by
  have h3 := Rds.head (Rds.row hs h1 24)
  refine Rds.cons ?_ (Rds.flatMap.2 fun y hy => ?_)
  · show Mem w v 9 (cl ++ [p]).length ((cl ++ [p]).flatMap clFragPacket)
    rw [List.length_append, List.flatMap_append]
    exact h3
  · rcases List.mem_append.1 hy with h | h
    · exact Rds.flatMap.1 (Rds.many hs h2) y h
    · rw [List.mem_singleton] at h
      rw [h]; exact hp
theorem len_ct {cl sl : List MFragPacket} (h : cl.map ctFragPacket = sl.map ctFragPacket) : cl.length = sl.length ∧ ∀ q : CFragPacket → Prop, (∀ y ∈ sl, q (ctFragPacket y)) → ∀ y ∈ cl, q (ctFragPacket y) := by
  refine ⟨by have := congrArg List.length h; simpa using this, fun q hq y hy => ?_⟩
  have h1 : ctFragPacket y ∈ cl.map ctFragPacket := List.mem_map.2 ⟨y, hy, rfl⟩
  rw [h] at h1
  obtain ⟨z, hz, e⟩ := List.mem_map.1 h1
  rw [← e]; exact hq z hz
theorem joinAt_c {v : Value} {cl sl : List MFragPacket} {p : MFragPacket} {jq : CFragPacket} {jc : Int} (hc : cl.map ctFragPacket = sl.map ctFragPacket) (hj : joinC (sl.map ctFragPacket ++ [ctFragPacket p]) = (jq, jc)) (hn : sl.length ≤ 1000) (hl : ∀ y ∈ sl, y.2.2.2.2.2.2.2.2.2.length ≤ 1048576) (hlp : p.2.2.2.2.2.2.2.2.2.length ≤ 1048576) (w : World) (hx : Rds w (rwSFragPacket (v, cl ++ [p]))) : Calls Try.prog 15 #[v] w (RetX (fun z : MFragPacket => ctFragPacket z = jq) (fun z => .tuple #[.agg (clFragPacket z).toArray, .int .i64 jc]) (fun z => [.many (rwFragPacket z)]) w) := by
  have h2 := len_ct hc
  have h := implFragJoin_c (v, cl ++ [p]) (by dsimp only; rw [List.length_append, h2.1]; simp; omega) (fun y hy => by
    rcases List.mem_append.1 hy with h | h
    · exact h2.2 (fun c => c.2.2.2.2.2.2.2.2.length ≤ 1048576) hl y h
    · rw [List.mem_singleton] at h
      rw [h]; exact hlp) w hx
  dsimp only at h
  rw [List.map_append, hc, List.map_singleton, hj] at h
  exact h
theorem head_sub (sl : List MFragPacket) (k : Nat) : (((sl.drop 0).take (k - 0)).flatMap rwFragPacket).Sublist (sl.flatMap rwFragPacket) := by
  have h : sl.flatMap rwFragPacket = (sl.take k).flatMap rwFragPacket ++ (sl.drop k).flatMap rwFragPacket := by rw [← List.flatMap_append, List.take_append_drop]
  rw [List.drop_zero, Nat.sub_zero, h]
  exact List.sublist_append_left _ _
set_option maxRecDepth 8192 in
theorem takeIn_c (v : Value) (N : Nat) (A B : List MFragSlot) (s : MFragSlot) (p : MFragPacket) (o : Nat) (hA : (A.flatMap clFragSlot).length = o) (hN : A.length + 1 + B.length = N) (hs1 : 1 ≤ s.1.2.length) (hs2 : s.1.2.length ≤ 1000) (hl : ∀ y ∈ s.1.2, y.2.2.2.2.2.2.2.2.2.length ≤ 1048576) (hlp : p.2.2.2.2.2.2.2.2.2.length ≤ 1048576)
    (hob : ∀ y ∈ s.1.2, octP (ctFragPacket y)) (hop : octP (ctFragPacket p)) {w0 : World} (R : List Blk) (hp : Rds w0 (rwFragPacket p)) (w : World) (hst0 : St w0 w ([.row v 67 3 N (A.flatMap clFragSlot ++ (clFragSlot s ++ B.flatMap clFragSlot)), .many (rwFragSlot s)] ++ R)) : Calls Try.prog 89 #[sp v o, .agg (clFragPacket p).toArray] w
    (RetS w0 R (fun q : MFragSlot × MFragPacket × Int => inI (ctFragSlot s) (ctFragPacket p) = (ctFragSlot q.1, ctFragPacket q.2.1, q.2.2)) (fun q => .tuple #[.agg (clFragPacket q.2.1).toArray, .int .i64 q.2.2]) (fun q => [.row v 67 3 N (A.flatMap clFragSlot ++ (clFragSlot q.1 ++ B.flatMap clFragSlot)), .many (rwFragSlot q.1), .many (rwFragPacket q.2.1)])) := by
  obtain ⟨⟨pv, sl⟩, since, bad⟩ := s
  dsimp only at hs1 hs2 hl hob
  have hs' : St w0 w (.row v 67 3 N (A.flatMap clFragSlot ++ (clFragSlot ((pv, sl), since, bad) ++ B.flatMap clFragSlot)) :: .many (rwSFragPacket (pv, sl)) :: R) := hst0
  have hopp := oneFragPacket hp
  have hopp2 : (clFragPacket p ++ []).all (·.oneCell') = true := by rw [List.append_nil]; exact hopp
  have hAl : o = A.length * 3 := by rw [← hA, flat_len (m := 3) (fun _ => rfl)]
  obtain ⟨⟨jq, jc⟩, hjr⟩ : ∃ r, joinC (sl.map ctFragPacket ++ [ctFragPacket p]) = r := ⟨_, rfl⟩
  obtain ⟨told, htold⟩ : ∃ b, (sl.any fun y => decide (ctFragPacket p = ctFragPacket y)) = b := ⟨_, rfl⟩
  refine enterS (n := 73) (E := [(0, _), (1, _)]) Try.func89 rfl rfl rfl rfl hs' ?_
  repeat' (first
    |(refine gS ?_;(first
        |(refine S_assign rfl rfl ?_)
        |(refine S_box rfl rfl rfl ?_;intro kb)
        |(apply S_alloc rfl (hd := rfl);exact T.zc24;intro kb)
        |(refine S_done ?_)))
    |((first
        |(refine C_seq ?_)
        |(refine gReg ?_;(first
            |(refine gReg (i := 0) ?_;refine C_plain [(0,2),(1,2),(2,0)] (by kernel_rfl) (s := [⟨2,none,_,_,_⟩,⟨2,none,_,_,_⟩,⟨0,none,_,_,_⟩]) rfl ?_)))
        |(refine C_block ?_)))
    |(refine gE ?_;(first
        |(refine E_then ?_))))
  revert kb
  intro kr
  revert kb
  intro kp
  repeat' (first
    |(refine gS ?_;(first
        |(refine S_move rfl rfl ?_)
        |(refine S_assign rfl rfl ?_)
        |(apply F_fieldS rfl rfl;(first|exact T.fl67_0|exact T.fl67_2);(focus (first|(focus (first|exact len_nil|(apply len_given;assumption)|(apply len_row;(focus ((repeat (first|exact mH|refine mT ?_));done)))|(apply len_isN;assumption)))|(apply len_sub;(focus (first|exact len_nil|(apply len_given;assumption)|(apply len_row;(focus ((repeat (first|exact mH|refine mT ?_));done)))|(apply len_isN;assumption)));(focus omega);(focus omega))));(focus omega))
        |(apply F_bs rfl rfl;exact T.el27;rfl;rfl;rfl;rfl;(focus ((repeat (first|exact Dense.nil|(apply Dense.cons;rfl;rfl)));done));intro sv;(try (refine S_fact (row_one (v := sv) (by (focus ((repeat (first|exact mH|refine mT ?_));done)))) (fun hone => ?_))))
        |(refine gLoad ?_;(first
            |(apply F_loadAll rfl rfl;(focus ((repeat (first|exact mH|refine mT ?_));done));exact T.rw24;(focus (first|exact free0|exact free1|(refine free2 ?_ ?_;(focus ((repeat (first|(apply apart1;(repeat (first|exact mH|refine mT ?_));done)|(apply apart2;(repeat (first|exact mH|refine mT ?_));done)|refine apart3 ?_));done));(first|exact free1|(refine free2 ?_ ?_;(focus ((repeat (first|(apply apart1;(repeat (first|exact mH|refine mT ?_));done)|(apply apart2;(repeat (first|exact mH|refine mT ?_));done)|refine apart3 ?_));done));exact free1))))))
            |(apply F_loadS1 rfl rfl;(first|exact T.sc4|exact T.sc27);(focus (first|exact rd_nil|(apply rd_given;(focus assumption);(focus (first|exact freeG0|exact freeG1|(apply freeG2;(focus ((repeat (first|exact mH|refine mT ?_));done));(first|exact freeG1|(apply freeG2;(focus ((repeat (first|exact mH|refine mT ?_));done));exact freeG1))))))|(apply rd_row;(focus ((repeat (first|exact mH|refine mT ?_));done));(focus (first|exact freeR0|exact freeR1|(refine freeR2 ?_ ?_;(focus ((repeat (first|(apply apartR1;(focus ((repeat (first|exact mH|refine mT ?_));done));done)|(apply apartR2;(focus ((repeat (first|exact mH|refine mT ?_));done));done)|refine apartR3 ?_));done));(first|exact freeR1|(refine freeR2 ?_ ?_;(focus ((repeat (first|(apply apartR1;(focus ((repeat (first|exact mH|refine mT ?_));done));done)|(apply apartR2;(focus ((repeat (first|exact mH|refine mT ?_));done));done)|refine apartR3 ?_));done));exact freeR1))))))|(apply rd_sub;(focus (apply rd_given;(focus assumption);(focus (first|exact freeG0|exact freeG1|(apply freeG2;(focus ((repeat (first|exact mH|refine mT ?_));done));(first|exact freeG1|(apply freeG2;(focus ((repeat (first|exact mH|refine mT ?_));done));exact freeG1)))))));(focus (intro _;rfl));(focus omega);(focus omega))|(apply rd_sub;(focus (apply rd_row;(focus ((repeat (first|exact mH|refine mT ?_));done));(focus (first|exact freeR0|exact freeR1|(refine freeR2 ?_ ?_;(focus ((repeat (first|(apply apartR1;(focus ((repeat (first|exact mH|refine mT ?_));done));done)|(apply apartR2;(focus ((repeat (first|exact mH|refine mT ?_));done));done)|refine apartR3 ?_));done));(first|exact freeR1|(refine freeR2 ?_ ?_;(focus ((repeat (first|(apply apartR1;(focus ((repeat (first|exact mH|refine mT ?_));done));done)|(apply apartR2;(focus ((repeat (first|exact mH|refine mT ?_));done));done)|refine apartR3 ?_));done));exact freeR1)))))));(focus (intro _;rfl));(focus omega);(focus omega))));(focus (first|(apply at_cell;(focus (apply at_flat;(focus (intro _;rfl));(focus assumption)));rfl)|(apply at_cell0;(focus (apply at_flat;(focus (intro _;rfl));(focus assumption)));rfl)|(apply at_cell;(focus (apply at_mid0;(focus assumption)));rfl)|(apply at_cell0;(focus (apply at_mid0;(focus assumption)));rfl)|rfl)))))
        |(refine gStore ?_;(first
            |(apply F_storeN rfl rfl;(focus (first|rfl|assumption|(simp only [List.append_nil,List.all_cons,List.all_nil,Bool.and_true,Bool.true_and,one_int,one_bool,one_string,one_slice,one_pointer, *];done)));exact T.rw24;(focus ((repeat (first|exact Upd.here|apply Upd.there));done));(focus ((repeat (first|exact SetSeg.nil|apply SetSeg.here|apply SetSeg.there));done));(first|exact okst2|exact okst1|exact okst1'))))
        |(refine gCall ?_;(first
            |(show GoS _ _ _ _ _ _ _ (⟨_,_,_,.call ⟨.value (.func 110),_,_⟩,_⟩ :: _);refine S_callN (f := 110) rfl T.pf110 rfl (fun w hst => htold ▸ containsP_c 111 pfTold (.pointer (some ⟨kp,0,none⟩)) (fun y => decide (ctFragPacket p = ctFragPacket y)) pv sl w (by first|(refine Rds.given hst ?_;assumption)|(apply Rds.many hst;(focus ((repeat (first|exact mH|refine mT ?_));done)))|(apply Rds.row hst;(focus ((repeat (first|exact mH|refine mT ?_));done)))) (fun u hu y hy => told1_c kp p y hop (hob y hy) u (rng_ext (rng_blk hst (by (focus ((repeat (first|exact mH|refine mT ?_));done)))) hu) ((Rds.given hst hp).ext hu) ((Rds.flatMap.1 (Rds.tail ((by first|(refine Rds.given hst ?_;assumption)|(apply Rds.many hst;(focus ((repeat (first|exact mH|refine mT ?_));done)))|(apply Rds.row hst;(focus ((repeat (first|exact mH|refine mT ?_));done)))) : Rds w (rwSFragPacket (pv,sl)))) y hy).ext hu))) rfl ?_)
            |(show GoS _ _ _ _ _ _ _ (⟨_,_,_,.call ⟨.value (.func 105),_,_⟩,_⟩ :: _);refine S_callX (f := 105) rfl T.pf105 rfl (fun w hst => retX_pieces (copyPackets_c pv sl (by omega) hl w (by first|(refine Rds.given hst ?_;assumption)|(apply Rds.many hst;(focus ((repeat (first|exact mH|refine mT ?_));done)))|(apply Rds.row hst;(focus ((repeat (first|exact mH|refine mT ?_));done)))))) rfl (fun zz hzz => ?_);simp only [List.cons_append,List.nil_append];revert hzz;revert zz;rintro ⟨cv,cl⟩ hc;dsimp only at hc ⊢;have hcn : cl.length = sl.length := (len_ct hc).1;(try (refine S_fact (row_one (v := cv) (by (focus ((repeat (first|exact mH|refine mT ?_));done)))) (fun hone => ?_))))
            |(show GoS _ _ _ _ _ _ _ (⟨_,_,_,.call ⟨.value (.func 15),_,_⟩,_⟩ :: _);refine S_callX (f := 15) rfl T.pf15 rfl (fun w hst => joinAt_c hc hjr hs2 hl hlp w (rds_app hst (by (focus ((repeat (first|exact mH|refine mT ?_));done))) (by (focus ((repeat (first|exact mH|refine mT ?_));done))) (Rds.given hst hp))) rfl (fun zz hzz => ?_);simp only [List.cons_append,List.nil_append];revert hzz;revert zz;intro z hz;refine S_fact (fun w hs => oneFragPacket (Rds.many hs (by (focus ((repeat (first|exact mH|refine mT ?_));done))))) (fun hone => ?_))
            |(apply F_append rfl rfl rfl rfl;exact T.el27;(focus (intro sv;(focus ((repeat (first|exact Upd.here|apply Upd.there));done))));(focus (first|exact rd_nil|(apply rd_given;(focus assumption);(focus (first|exact freeG0|exact freeG1|(apply freeG2;(focus ((repeat (first|exact mH|refine mT ?_));done));(first|exact freeG1|(apply freeG2;(focus ((repeat (first|exact mH|refine mT ?_));done));exact freeG1))))))|(apply rd_row;(focus ((repeat (first|exact mH|refine mT ?_));done));(focus (first|exact freeR0|exact freeR1|(refine freeR2 ?_ ?_;(focus ((repeat (first|(apply apartR1;(focus ((repeat (first|exact mH|refine mT ?_));done));done)|(apply apartR2;(focus ((repeat (first|exact mH|refine mT ?_));done));done)|refine apartR3 ?_));done));(first|exact freeR1|(refine freeR2 ?_ ?_;(focus ((repeat (first|(apply apartR1;(focus ((repeat (first|exact mH|refine mT ?_));done));done)|(apply apartR2;(focus ((repeat (first|exact mH|refine mT ?_));done));done)|refine apartR3 ?_));done));exact freeR1))))))|(apply rd_sub;(focus (apply rd_given;(focus assumption);(focus (first|exact freeG0|exact freeG1|(apply freeG2;(focus ((repeat (first|exact mH|refine mT ?_));done));(first|exact freeG1|(apply freeG2;(focus ((repeat (first|exact mH|refine mT ?_));done));exact freeG1)))))));(focus (intro _;rfl));(focus omega);(focus omega))|(apply rd_sub;(focus (apply rd_row;(focus ((repeat (first|exact mH|refine mT ?_));done));(focus (first|exact freeR0|exact freeR1|(refine freeR2 ?_ ?_;(focus ((repeat (first|(apply apartR1;(focus ((repeat (first|exact mH|refine mT ?_));done));done)|(apply apartR2;(focus ((repeat (first|exact mH|refine mT ?_));done));done)|refine apartR3 ?_));done));(first|exact freeR1|(refine freeR2 ?_ ?_;(focus ((repeat (first|(apply apartR1;(focus ((repeat (first|exact mH|refine mT ?_));done));done)|(apply apartR2;(focus ((repeat (first|exact mH|refine mT ?_));done));done)|refine apartR3 ?_));done));exact freeR1)))))));(focus (intro _;rfl));(focus omega);(focus omega))));(focus (first|rfl|assumption|(apply all_flat;intro _ _;rfl)|(rw [List.append_nil];assumption)|(simp only [List.append_nil,List.all_cons,List.all_nil,Bool.and_true,Bool.true_and,one_int,one_bool,one_string,one_slice,one_pointer, *];done)|simp));(first|exact okst2|exact okst1|exact okst1');(focus (simp only [maxLen];first|omega|(simp only [List.length_take,List.length_drop];omega)));(focus (first|omega|(simp only [List.length_take,List.length_drop];omega)));intro sv;(try (refine S_fact (row_one (v := sv) (by (focus ((repeat (first|exact mH|refine mT ?_));done)))) (fun hone => ?_))))))
        |(apply S_alloc rfl (hd := rfl);exact T.zc24;intro kb)
        |(apply F_build2 rfl (hd := rfl);exact T.st24;(focus ((repeat (first|exact BuildR.nil|(apply BuildR.cons;(first|exact T.fs24_0|exact T.fs24_1|exact T.fs24_2|exact T.fs24_3|exact T.fs24_4|exact T.fs24_5|exact T.fs24_6|exact T.fs24_7|exact T.fs24_8);rfl;rfl;(focus ((repeat (first|exact SetSeg.nil|apply SetSeg.here|apply SetSeg.there));done)))|(apply BuildR.cons1;(first|exact T.fs24_0|exact T.fs24_1|exact T.fs24_2|exact T.fs24_3|exact T.fs24_4|exact T.fs24_5|exact T.fs24_6|exact T.fs24_7|exact T.fs24_8);(focus assumption);(focus ((repeat (first|exact SetSeg.nil|apply SetSeg.here|apply SetSeg.there));done)))));done)))
        |(refine S_extract rfl rfl rfl ?_)
        |(refine S_done ?_)
        |((apply F_nilS rfl rfl;(focus (apply len_row;(focus ((repeat (first|exact mH|refine mT ?_));done))));(focus omega)))
        |(refine S_makeFunc rfl rfl rfl ?_)))
    |((first
        |(refine gSeqReg (i := 5) ?_;refine C_join (α := Nat × MFragPacket) (fun s => [(7,.int .i64 jc),(6,.pointer (some ⟨s.1,0,none⟩)),(3,.pointer (some ⟨kp,0,none⟩)),(4,.pointer (some ⟨kr,0,none⟩)),(0,sp v o)]) (fun s => .blk s.1 24 (clFragPacket s.2) :: .many (rwFragPacket s.2) :: .row pv 24 9 sl.length (sl.flatMap clFragPacket) :: .many (sl.flatMap rwFragPacket) :: .blk kr 24 (clFragPacket zeroP) :: .blk kp 24 (clFragPacket p) :: .row v 67 3 N (A.flatMap clFragSlot ++ (clFragSlot ((pv,sl),since,bad) ++ B.flatMap clFragSlot)) :: R) (fun s => ctFragPacket s.2 = jq ∧ (clFragPacket s.2).all (·.oneCell') = true) ?_ ?_)
        |(refine C_seq ?_)
        |(refine gReg ?_;(first
            |(refine gReg (i := 1) ?_;refine C_plain [(0,0),(1,0),(2,0),(3,0),(4,0)] (by kernel_rfl) (s := [⟨0,none,_,_,_⟩,⟨0,none,_,_,_⟩,⟨0,none,_,_,_⟩,⟨0,none,_,_,_⟩,⟨0,none,_,_,_⟩]) rfl ?_)
            |(refine gReg (i := 2) ?_;refine C_plain [(0,0),(1,2),(2,0)] (by kernel_rfl) (s := [⟨0,none,_,_,_⟩,⟨2,none,_,_,_⟩,⟨0,none,_,_,_⟩]) rfl ?_)
            |(refine gReg (i := 3) ?_;refine C_plain [(0,0),(1,0),(2,0),(3,0),(4,0),(5,2),(6,0)] (by kernel_rfl) (s := [⟨0,none,_,_,_⟩,⟨0,none,_,_,_⟩,⟨0,none,_,_,_⟩,⟨0,none,_,_,_⟩,⟨0,none,_,_,_⟩,⟨2,none,_,_,_⟩,⟨0,none,_,_,_⟩]) rfl ?_)
            |(refine gReg (i := 4) ?_;refine C_plain [(0,0),(1,2),(2,0)] (by kernel_rfl) (s := [⟨0,none,_,_,_⟩,⟨2,none,_,_,_⟩,⟨0,none,_,_,_⟩]) rfl ?_)
            |(refine gReg (i := 5) ?_;refine C_drawnT (.br [(0,0),(1,0),(2,0),(3,0),(5,0)] (.br [(4,1)] (.br [(6,1)] (.br [(7,2)] (.fin [(8,1),(9,0),(10,0),(11,0),(12,1),(13,2),(14,0)]) (.fin [(12,1),(8,1),(9,0),(10,0),(11,0),(13,2),(14,0)])) (.fin [(12,1),(7,2),(8,1),(9,0),(10,0),(11,0),(13,2),(14,0)])) (.fin [(12,1),(6,1),(7,2),(8,1),(9,0),(10,0),(11,0),(13,2),(14,0)])) (.br [] (.br [(6,1)] (.br [(4,1)] (.br [(7,2)] (.fin [(8,1),(9,0),(10,0),(11,0),(12,1),(13,2),(14,0)]) (.fin [(12,1),(8,1),(9,0),(10,0),(11,0),(13,2),(14,0)])) (.fin [(12,1),(7,2),(8,1),(9,0),(10,0),(11,0),(13,2),(14,0)])) (.fin [(12,1),(4,1),(7,2),(8,1),(9,0),(10,0),(11,0),(13,2),(14,0)])) (.br [(12,1)] (.fin [(4,1),(6,1),(7,2),(8,1),(9,0),(10,0),(11,0),(13,2),(14,0)]) (.fin [(6,1),(4,1),(7,2),(8,1),(9,0),(10,0),(11,0),(13,2),(14,0)])))) [] T.mixed (by kernel_rfl) (s := (.br [⟨0,none,_,_,_⟩,⟨0,none,_,_,_⟩,⟨0,none,_,_,_⟩,⟨0,none,_,_,_⟩,⟨0,none,_,_,_⟩] (.br [⟨1,none,_,_,_⟩] (.br [⟨1,none,_,_,_⟩] (.br [⟨2,none,_,_,_⟩] (.fin [⟨1,none,_,_,_⟩,⟨0,none,_,_,_⟩,⟨0,none,_,_,_⟩,⟨0,none,_,_,_⟩,⟨1,none,_,_,_⟩,⟨2,none,_,_,_⟩,⟨0,none,_,_,_⟩]) (.fin [⟨1,none,_,_,_⟩,⟨1,none,_,_,_⟩,⟨0,none,_,_,_⟩,⟨0,none,_,_,_⟩,⟨0,none,_,_,_⟩,⟨2,none,_,_,_⟩,⟨0,none,_,_,_⟩])) (.fin [⟨1,none,_,_,_⟩,⟨2,none,_,_,_⟩,⟨1,none,_,_,_⟩,⟨0,none,_,_,_⟩,⟨0,none,_,_,_⟩,⟨0,none,_,_,_⟩,⟨2,none,_,_,_⟩,⟨0,none,_,_,_⟩])) (.fin [⟨1,none,_,_,_⟩,⟨1,none,_,_,_⟩,⟨2,none,_,_,_⟩,⟨1,none,_,_,_⟩,⟨0,none,_,_,_⟩,⟨0,none,_,_,_⟩,⟨0,none,_,_,_⟩,⟨2,none,_,_,_⟩,⟨0,none,_,_,_⟩])) (.br [] (.br [⟨1,none,_,_,_⟩] (.br [⟨1,none,_,_,_⟩] (.br [⟨2,none,_,_,_⟩] (.fin [⟨1,none,_,_,_⟩,⟨0,none,_,_,_⟩,⟨0,none,_,_,_⟩,⟨0,none,_,_,_⟩,⟨1,none,_,_,_⟩,⟨2,none,_,_,_⟩,⟨0,none,_,_,_⟩]) (.fin [⟨1,none,_,_,_⟩,⟨1,none,_,_,_⟩,⟨0,none,_,_,_⟩,⟨0,none,_,_,_⟩,⟨0,none,_,_,_⟩,⟨2,none,_,_,_⟩,⟨0,none,_,_,_⟩])) (.fin [⟨1,none,_,_,_⟩,⟨2,none,_,_,_⟩,⟨1,none,_,_,_⟩,⟨0,none,_,_,_⟩,⟨0,none,_,_,_⟩,⟨0,none,_,_,_⟩,⟨2,none,_,_,_⟩,⟨0,none,_,_,_⟩])) (.fin [⟨1,none,_,_,_⟩,⟨1,none,_,_,_⟩,⟨2,none,_,_,_⟩,⟨1,none,_,_,_⟩,⟨0,none,_,_,_⟩,⟨0,none,_,_,_⟩,⟨0,none,_,_,_⟩,⟨2,none,_,_,_⟩,⟨0,none,_,_,_⟩])) (.br [⟨1,none,_,_,_⟩] (.fin [⟨1,none,_,_,_⟩,⟨1,none,_,_,_⟩,⟨2,none,_,_,_⟩,⟨1,none,_,_,_⟩,⟨0,none,_,_,_⟩,⟨0,none,_,_,_⟩,⟨0,none,_,_,_⟩,⟨2,none,_,_,_⟩,⟨0,none,_,_,_⟩]) (.fin [⟨1,none,_,_,_⟩,⟨1,none,_,_,_⟩,⟨2,none,_,_,_⟩,⟨1,none,_,_,_⟩,⟨0,none,_,_,_⟩,⟨0,none,_,_,_⟩,⟨0,none,_,_,_⟩,⟨2,none,_,_,_⟩,⟨0,none,_,_,_⟩]))))) rfl ?_)))
        |(refine C_split rfl ?_ ?_ <;> (intro hb;(try simp only [decide_eq_true_eq] at hb);(try simp only [decide_eq_false_iff_not] at hb);(try simp only [Bool.not_eq_true'] at hb);(try simp only [Bool.not_eq_false'] at hb);(try (exfalso;first|contradiction|omega))))
        |(refine C_skip ?_)
        |(refine C_ret ?_)
        |(refine T_fin ?_)
        |(refine T_br ?_)))
    |(refine gE ?_;(first
        |(refine E_then ?_)
        |(refine E_thenR ?_)
        |(refine E_block ?_)
        |(refine E_blockR ?_)
        |(refine E_calm ?_)
        |(apply E_ret2 rfl;(first|exact Res.tmp rfl|(apply R_cellAll rfl;(focus ((repeat (first|exact mH|refine mT ?_));done));exact T.rw24)|(apply R_cell1 rfl;(focus ((repeat (first|exact mH|refine mT ?_));done));(first|exact T.sc4|exact T.sc27)));(first|exact Res.tmp rfl|(apply R_cellAll rfl;(focus ((repeat (first|exact mH|refine mT ?_));done));exact T.rw24)|(apply R_cell1 rfl;(focus ((repeat (first|exact mH|refine mT ?_));done));(first|exact T.sc4|exact T.sc27))))
        |(refine E_both ?_ ?_))))
  · exact retS (((pv,sl),since,bad),zeroP,4) (inI_bad (s := ctFragSlot ((pv,sl),since,bad)) hb) rfl (Ent.trans (Ent.ghost 5 1) entA)
  · have hbf : bad = false := by assumption
    have htt : told = true := by assumption
    rw [any_ct, htt, decide_eq_true_iff] at htold
    exact retS (((pv,sl),since,bad),zeroP,3) (inI_told (s := ctFragSlot ((pv,sl),since,bad)) hbf htold) rfl (Ent.trans (Ent.ghost 5 1) entA)
  all_goals try exact E_join (α := Nat × MFragPacket) (kb,z) ⟨hz,hone⟩ ⟨rfl,rfl,rfl,rfl,rfl,trivial⟩ entA
  rintro ⟨kz, z⟩ ⟨hz, honez⟩
  dsimp only at hz honez ⊢
  have hbf : bad = false := by assumption
  have htf : told = false := by assumption
  rw [any_ct, htf, decide_eq_false_iff_not] at htold
  clear hob hl hs' hst0 hop
  refine C_fact (fun w hs => (mem_one3 (Row.In.mem (Row.In.part3 (lo := 0) (hi := 1) (mx := 1) (v := pv) (t := 24) (m := 9) (n := sl.length) (cs := sl.flatMap clFragPacket) (hs.own (.row pv 24 9 sl.length (sl.flatMap clFragPacket)) (by (focus ((repeat (first|exact mH|refine mT ?_));done)))).2 (by omega) (by omega) (by omega)).1) : (subV3 pv 9 0 1 1).oneCell' = true)) (fun h3one => ?_)
  repeat' (first
    |(refine gS ?_;(first
        |(refine gGuard ?_;(first
            |(refine S_on rfl ?_)
            |(refine S_off rfl rfl rfl ?_)
            |(refine S_gsplit rfl ?_ ?_ <;> (intro hb;(try simp only [decide_eq_true_eq] at hb);(try simp only [decide_eq_false_iff_not] at hb);(try simp only [Bool.not_eq_true'] at hb);(try simp only [Bool.not_eq_false'] at hb);(try (exfalso;first|contradiction|omega))))))
        |(refine S_move rfl rfl ?_)
        |(refine S_assign rfl rfl ?_)
        |(apply F_fieldS rfl rfl;(first|exact T.fl67_0|exact T.fl67_2);(focus (first|(focus (first|exact len_nil|(apply len_given;assumption)|(apply len_row;(focus ((repeat (first|exact mH|refine mT ?_));done)))|(apply len_isN;assumption)))|(apply len_sub;(focus (first|exact len_nil|(apply len_given;assumption)|(apply len_row;(focus ((repeat (first|exact mH|refine mT ?_));done)))|(apply len_isN;assumption)));(focus omega);(focus omega))));(focus omega))
        |(apply F_bs rfl rfl;exact T.el27;rfl;rfl;rfl;rfl;(focus ((repeat (first|exact Dense.nil|(apply Dense.cons;rfl;rfl)));done));intro sv;(try (refine S_fact (row_one (v := sv) (by (focus ((repeat (first|exact mH|refine mT ?_));done)))) (fun hone => ?_))))
        |(refine gLoad ?_;(first
            |(apply F_loadAll rfl rfl;(focus ((repeat (first|exact mH|refine mT ?_));done));exact T.rw24;(focus (first|exact free0|exact free1|(refine free2 ?_ ?_;(focus ((repeat (first|(apply apartS1;(focus ((repeat (first|exact mH|refine mT ?_));done));omega;done)|(apply apartS2;(focus ((repeat (first|exact mH|refine mT ?_));done));omega;done)|refine apart3 ?_));done));exact free1)|(refine free2 ?_ ?_;(focus ((repeat (first|(apply apart1;(repeat (first|exact mH|refine mT ?_));done)|(apply apart2;(repeat (first|exact mH|refine mT ?_));done)|refine apart3 ?_));done));(first|exact free1|(refine free2 ?_ ?_;(focus ((repeat (first|(apply apart1;(repeat (first|exact mH|refine mT ?_));done)|(apply apart2;(repeat (first|exact mH|refine mT ?_));done)|refine apart3 ?_));done));exact free1))))))
            |(apply F_loadS1 rfl rfl;(first|exact T.sc4|exact T.sc27);(focus (first|exact rd_nil|(apply rd_given;(focus assumption);(focus (first|exact freeG0|exact freeG1|(apply freeG2S;(focus ((repeat (first|exact mH|refine mT ?_));done));omega;exact freeG1)|(apply freeG2;(focus ((repeat (first|exact mH|refine mT ?_));done));(first|exact freeG1|(apply freeG2;(focus ((repeat (first|exact mH|refine mT ?_));done));exact freeG1))))))|(apply rd_row;(focus ((repeat (first|exact mH|refine mT ?_));done));(focus (first|exact freeR0|exact freeR1|(refine freeR2 ?_ ?_;(focus ((repeat (first|(apply apartRS1;(focus ((repeat (first|exact mH|refine mT ?_));done));omega;done)|(apply apartRS2;(focus ((repeat (first|exact mH|refine mT ?_));done));omega;done)|refine apartR3 ?_));done));exact freeR1)|(refine freeR2 ?_ ?_;(focus ((repeat (first|(apply apartR1;(focus ((repeat (first|exact mH|refine mT ?_));done));done)|(apply apartR2;(focus ((repeat (first|exact mH|refine mT ?_));done));done)|refine apartR3 ?_));done));(first|exact freeR1|(refine freeR2 ?_ ?_;(focus ((repeat (first|(apply apartR1;(focus ((repeat (first|exact mH|refine mT ?_));done));done)|(apply apartR2;(focus ((repeat (first|exact mH|refine mT ?_));done));done)|refine apartR3 ?_));done));exact freeR1))))))|(apply rd_sub;(focus (apply rd_given;(focus assumption);(focus (first|exact freeG0|exact freeG1|(apply freeG2S;(focus ((repeat (first|exact mH|refine mT ?_));done));omega;exact freeG1)|(apply freeG2;(focus ((repeat (first|exact mH|refine mT ?_));done));(first|exact freeG1|(apply freeG2;(focus ((repeat (first|exact mH|refine mT ?_));done));exact freeG1)))))));(focus (intro _;rfl));(focus omega);(focus omega))|(apply rd_sub;(focus (apply rd_row;(focus ((repeat (first|exact mH|refine mT ?_));done));(focus (first|exact freeR0|exact freeR1|(refine freeR2 ?_ ?_;(focus ((repeat (first|(apply apartRS1;(focus ((repeat (first|exact mH|refine mT ?_));done));omega;done)|(apply apartRS2;(focus ((repeat (first|exact mH|refine mT ?_));done));omega;done)|refine apartR3 ?_));done));exact freeR1)|(refine freeR2 ?_ ?_;(focus ((repeat (first|(apply apartR1;(focus ((repeat (first|exact mH|refine mT ?_));done));done)|(apply apartR2;(focus ((repeat (first|exact mH|refine mT ?_));done));done)|refine apartR3 ?_));done));(first|exact freeR1|(refine freeR2 ?_ ?_;(focus ((repeat (first|(apply apartR1;(focus ((repeat (first|exact mH|refine mT ?_));done));done)|(apply apartR2;(focus ((repeat (first|exact mH|refine mT ?_));done));done)|refine apartR3 ?_));done));exact freeR1)))))));(focus (intro _;rfl));(focus omega);(focus omega))));(focus (first|(apply at_cell;(focus (apply at_flat;(focus (intro _;rfl));(focus assumption)));rfl)|(apply at_cell0;(focus (apply at_flat;(focus (intro _;rfl));(focus assumption)));rfl)|(apply at_cell;(focus (apply at_mid0;(focus assumption)));rfl)|(apply at_cell0;(focus (apply at_mid0;(focus assumption)));rfl)|rfl)))))
        |(refine gStore ?_;(first
            |(apply F_storeN rfl rfl;(focus (first|rfl|assumption|(simp only [List.append_nil,List.all_cons,List.all_nil,Bool.and_true,Bool.true_and,one_int,one_bool,one_string,one_slice,one_pointer, *];done)));exact T.rw24;(focus ((repeat (first|exact Upd.here|apply Upd.there));done));(focus ((repeat (first|exact SetSeg.nil|apply SetSeg.here|apply SetSeg.there));done));(first|exact okst2|exact okst1|exact okst1'))
            |(apply F_storeM0 rfl rfl;(focus ((repeat (first|exact Upd.here|apply Upd.there));done));(focus assumption);(first|exact T.sc4|exact T.sc27);(focus (first|rfl|assumption));(focus ((repeat (first|exact SetSeg.nil|apply SetSeg.here|apply SetSeg.there));done));(focus omega);(first|exact okst2|exact okst1|exact okst1'))
            |(apply F_storeM1 rfl rfl;(focus ((repeat (first|exact Upd.here|apply Upd.there));done));(focus assumption);(first|exact T.sc4|exact T.sc27);(focus (first|rfl|assumption));(focus ((repeat (first|exact SetSeg.nil|apply SetSeg.here|apply SetSeg.there));done));(focus omega);(first|exact okst2|exact okst1|exact okst1'))))
        |(refine gCall ?_;(first
            |(show GoS _ _ _ _ _ _ _ (⟨_,_,_,.call ⟨.value (.func 52),_,_⟩,_⟩ :: _);refine S_callX (f := 52) rfl T.pf52 rfl (fun w hst => copyPacket_c p hlp w (Rds.given hst hp)) rfl (fun zz hzz => ?_);simp only [List.cons_append,List.nil_append];revert hzz;revert zz;intro y hy;refine S_fact (fun w hs => oneFragPacket (Rds.many hs (by (focus ((repeat (first|exact mH|refine mT ?_));done))))) (fun hone => ?_))
            |(apply F_len rfl rfl rfl;(focus exact ⟨_,_,by exact T.sl27⟩);(focus (first|(focus (first|exact len_nil|(apply len_given;assumption)|(apply len_row;(focus ((repeat (first|exact mH|refine mT ?_));done)))|(apply len_isN;assumption)))|(apply len_sub;(focus (first|exact len_nil|(apply len_given;assumption)|(apply len_row;(focus ((repeat (first|exact mH|refine mT ?_));done)))|(apply len_isN;assumption)));(focus omega);(focus omega)))))
            |(apply F_append rfl rfl rfl rfl;exact T.el27;(focus (intro sv;(focus ((repeat (first|exact Upd.here|apply Upd.there));done))));(focus (first|exact rd_nil|(apply rd_given;(focus assumption);(focus (first|exact freeG0|exact freeG1|(apply freeG2S;(focus ((repeat (first|exact mH|refine mT ?_));done));omega;exact freeG1)|(apply freeG2;(focus ((repeat (first|exact mH|refine mT ?_));done));(first|exact freeG1|(apply freeG2;(focus ((repeat (first|exact mH|refine mT ?_));done));exact freeG1))))))|(apply rd_row;(focus ((repeat (first|exact mH|refine mT ?_));done));(focus (first|exact freeR0|exact freeR1|(refine freeR2 ?_ ?_;(focus ((repeat (first|(apply apartRS1;(focus ((repeat (first|exact mH|refine mT ?_));done));omega;done)|(apply apartRS2;(focus ((repeat (first|exact mH|refine mT ?_));done));omega;done)|refine apartR3 ?_));done));exact freeR1)|(refine freeR2 ?_ ?_;(focus ((repeat (first|(apply apartR1;(focus ((repeat (first|exact mH|refine mT ?_));done));done)|(apply apartR2;(focus ((repeat (first|exact mH|refine mT ?_));done));done)|refine apartR3 ?_));done));(first|exact freeR1|(refine freeR2 ?_ ?_;(focus ((repeat (first|(apply apartR1;(focus ((repeat (first|exact mH|refine mT ?_));done));done)|(apply apartR2;(focus ((repeat (first|exact mH|refine mT ?_));done));done)|refine apartR3 ?_));done));exact freeR1))))))|(apply rd_sub;(focus (apply rd_given;(focus assumption);(focus (first|exact freeG0|exact freeG1|(apply freeG2S;(focus ((repeat (first|exact mH|refine mT ?_));done));omega;exact freeG1)|(apply freeG2;(focus ((repeat (first|exact mH|refine mT ?_));done));(first|exact freeG1|(apply freeG2;(focus ((repeat (first|exact mH|refine mT ?_));done));exact freeG1)))))));(focus (intro _;rfl));(focus omega);(focus omega))|(apply rd_sub;(focus (apply rd_row;(focus ((repeat (first|exact mH|refine mT ?_));done));(focus (first|exact freeR0|exact freeR1|(refine freeR2 ?_ ?_;(focus ((repeat (first|(apply apartRS1;(focus ((repeat (first|exact mH|refine mT ?_));done));omega;done)|(apply apartRS2;(focus ((repeat (first|exact mH|refine mT ?_));done));omega;done)|refine apartR3 ?_));done));exact freeR1)|(refine freeR2 ?_ ?_;(focus ((repeat (first|(apply apartR1;(focus ((repeat (first|exact mH|refine mT ?_));done));done)|(apply apartR2;(focus ((repeat (first|exact mH|refine mT ?_));done));done)|refine apartR3 ?_));done));(first|exact freeR1|(refine freeR2 ?_ ?_;(focus ((repeat (first|(apply apartR1;(focus ((repeat (first|exact mH|refine mT ?_));done));done)|(apply apartR2;(focus ((repeat (first|exact mH|refine mT ?_));done));done)|refine apartR3 ?_));done));exact freeR1)))))));(focus (intro _;rfl));(focus omega);(focus omega))));(focus (first|rfl|assumption|(apply all_flat;intro _ _;rfl)|(rw [List.append_nil];assumption)|(simp only [List.append_nil,List.all_cons,List.all_nil,Bool.and_true,Bool.true_and,one_int,one_bool,one_string,one_slice,one_pointer, *];done)|simp));(first|exact okst2|exact okst1|exact okst1');(focus (simp only [maxLen];first|omega|(simp only [List.length_take,List.length_drop];omega)));(focus (first|omega|(simp only [List.length_take,List.length_drop];omega)));intro sv;(try (refine S_fact (row_one (v := sv) (by (focus ((repeat (first|exact mH|refine mT ?_));done)))) (fun hone => ?_))))))
        |(refine gBin ?_;(first
            |(refine S_eql rfl rfl rfl ?_)))
        |(refine gPick ?_;(first
            |(refine S_pickT rfl rfl rfl ?_)
            |(refine S_pickF rfl rfl rfl ?_)))
        |(apply F_build2 rfl (hd := rfl);exact T.st24;(focus ((repeat (first|exact BuildR.nil|(apply BuildR.cons;(first|exact T.fs24_0|exact T.fs24_1|exact T.fs24_2|exact T.fs24_3|exact T.fs24_4|exact T.fs24_5|exact T.fs24_6|exact T.fs24_7|exact T.fs24_8);rfl;rfl;(focus ((repeat (first|exact SetSeg.nil|apply SetSeg.here|apply SetSeg.there));done)))|(apply BuildR.cons1;(first|exact T.fs24_0|exact T.fs24_1|exact T.fs24_2|exact T.fs24_3|exact T.fs24_4|exact T.fs24_5|exact T.fs24_6|exact T.fs24_7|exact T.fs24_8);(focus assumption);(focus ((repeat (first|exact SetSeg.nil|apply SetSeg.here|apply SetSeg.there));done)))));done)))
        |(refine S_done ?_)
        |((apply F_nilS rfl rfl;(focus (apply len_row;(focus ((repeat (first|exact mH|refine mT ?_));done))));(focus omega)))
        |((refine F_slice3 (v := pv) (N := sl.length) rfl rfl T.sl27 ?hn rfl rfl rfl ?_ ?_ ?_ ?_ ?_;(case hn => (apply len_row;(focus ((repeat (first|exact mH|refine mT ?_));done))));(focus omega);(focus omega);(focus omega);(focus omega)))
        |(refine S_K rfl ?_)))
    |((first
        |(refine C_seq ?_)
        |(refine gReg ?_;(first
            |(refine gReg (i := 6) ?_;refine C_plain [(0,0),(1,0),(2,0),(3,0),(4,0),(5,0),(6,0),(7,0),(8,0),(9,0),(10,0)] (by kernel_rfl) (s := [⟨0,none,_,_,_⟩,⟨0,none,_,_,_⟩,⟨0,none,_,_,_⟩,⟨0,none,_,_,_⟩,⟨0,none,_,_,_⟩,⟨0,none,_,_,_⟩,⟨0,none,_,_,_⟩,⟨0,some (41,false),_,_,_⟩,⟨0,some (41,false),_,_,_⟩,⟨0,none,_,_,_⟩,⟨0,none,_,_,_⟩]) rfl ?_)
            |(refine gReg (i := 7) ?_;refine C_drawnVT (v) (.fin [(0,0),(1,0),(2,0),(3,0),(4,0),(5,1),(6,0),(7,0),(8,0),(9,1),(10,0),(11,0),(12,2)]) T.mixed (by kernel_rfl) (s := (.fin [⟨0,none,_,_,_⟩,⟨0,none,_,_,_⟩,⟨0,none,_,_,_⟩,⟨0,none,_,_,_⟩,⟨0,none,_,_,_⟩,⟨1,none,_,_,_⟩,⟨0,none,_,_,_⟩,⟨0,none,_,_,_⟩,⟨0,none,_,_,_⟩,⟨1,none,_,_,_⟩,⟨0,none,_,_,_⟩,⟨0,none,_,_,_⟩,⟨2,none,_,_,_⟩])) rfl ?_)
            |(refine gReg (i := 8) ?_;refine C_plain [(0,0),(1,2),(2,0)] (by kernel_rfl) (s := [⟨0,none,_,_,_⟩,⟨2,none,_,_,_⟩,⟨0,none,_,_,_⟩]) rfl ?_)
            |(refine gReg (i := 9) ?_;refine C_plain [(0,0),(1,0),(2,0)] (by kernel_rfl) (s := [⟨0,none,_,_,_⟩,⟨0,none,_,_,_⟩,⟨0,none,_,_,_⟩]) rfl ?_)
            |(refine gReg (i := 10) ?_;refine C_drawn [(0,0),(1,0),(2,0),(3,0),(4,0),(5,0),(6,1),(7,1),(8,2),(9,0),(10,0),(11,2)] [] T.mixed (by kernel_rfl) (s := [⟨0,none,_,_,_⟩,⟨0,none,_,_,_⟩,⟨0,none,_,_,_⟩,⟨0,none,_,_,_⟩,⟨0,none,_,_,_⟩,⟨0,none,_,_,_⟩,⟨1,none,_,_,_⟩,⟨1,none,_,_,_⟩,⟨2,none,_,_,_⟩,⟨0,none,_,_,_⟩,⟨0,none,_,_,_⟩,⟨2,none,_,_,_⟩]) rfl ?_)
            |(refine gReg (i := 11) ?_;refine C_plain [(0,0),(1,0),(2,2),(3,0)] (by kernel_rfl) (s := [⟨0,none,_,_,_⟩,⟨0,none,_,_,_⟩,⟨2,none,_,_,_⟩,⟨0,none,_,_,_⟩]) rfl ?_)))
        |(refine C_true rfl ?_)
        |(refine C_split rfl ?_ ?_ <;> (intro hb;(try simp only [decide_eq_true_eq] at hb);(try simp only [decide_eq_false_iff_not] at hb);(try simp only [Bool.not_eq_true'] at hb);(try simp only [Bool.not_eq_false'] at hb);(try (exfalso;first|contradiction|omega))))
        |(refine C_skip ?_)
        |(refine C_ret ?_)
        |(refine C_block ?_)
        |(refine T_fin ?_)))
    |(refine gE ?_;(first
        |(refine E_then ?_)
        |(refine E_thenR ?_)
        |(refine E_block ?_)
        |(refine E_blockR ?_)
        |(refine E_calm ?_)
        |(apply E_ret2 rfl;(first|exact Res.tmp rfl|(apply R_cellAll rfl;(focus ((repeat (first|exact mH|refine mT ?_));done));exact T.rw24)|(apply R_cell1 rfl;(focus ((repeat (first|exact mH|refine mT ?_));done));(first|exact T.sc4|exact T.sc27)));(first|exact Res.tmp rfl|(apply R_cellAll rfl;(focus ((repeat (first|exact mH|refine mT ?_));done));exact T.rw24)|(apply R_cell1 rfl;(focus ((repeat (first|exact mH|refine mT ?_));done));(first|exact T.sc4|exact T.sc27))))
        | (refine E_K ?_))))
  · have h1 : sl.length = 40 ∨ jc = 2 := by omega
    have h3 := inI_full (s := ctFragSlot ((pv, sl), since, bad)) (p := ctFragPacket p) hbf htold (by show (sl.map ctFragPacket).length = 40 ∨ (joinC (sl.map ctFragPacket ++ [ctFragPacket p])).2 = 2; rw [List.length_map, hjr]; exact h1)
    refine retS (((subV3 pv 9 0 1 1,(sl.drop 0).take (1 - 0)),since,true),zeroP,4) ?_ rfl (Ent.trans (Ent.ghost 5 1) (Ent.trans (L' := .row pv 24 9 sl.length (sl.flatMap clFragPacket) :: .many (sl.flatMap rwFragPacket) :: .row v 67 3 N (A.flatMap clFragSlot ++ (clFragSlot ((subV3 pv 9 0 1 1,(sl.drop 0).take (1 - 0)),since,true) ++ B.flatMap clFragSlot)) :: .row (.slice none 0 0) 5 1 0 [] :: R) entA (Ent.trans (Ent.part3 (f := clFragPacket) (m := 9) (l := sl) (lo := 0) (hi := 1) (mx := 1) (fun _ => rfl) (by omega) (by omega) (by omega) rfl) (Ent.trans (L' := .many (sl.flatMap rwFragPacket) :: .row (subV3 pv 9 0 1 1) 24 9 ((sl.drop 0).take (1 - 0)).length (((sl.drop 0).take (1 - 0)).flatMap clFragPacket) :: .row v 67 3 N (A.flatMap clFragSlot ++ (clFragSlot ((subV3 pv 9 0 1 1,(sl.drop 0).take (1 - 0)),since,true) ++ B.flatMap clFragSlot)) :: .row (.slice none 0 0) 5 1 0 [] :: R) entA (Ent.trans (Ent.sublist (head_sub sl 1)) entA)))))
    rw [h3]
    show (((sl.map ctFragPacket).take 1, since, true), _, _) = (((((sl.drop 0).take (1 - 0)).map ctFragPacket), since, true), _, _)
    rw [List.drop_zero, Nat.sub_zero, List.map_take]
  · have h1 : sl.length = 40 ∨ jc = 2 := by omega
    have h3 := inI_full (s := ctFragSlot ((pv, sl), since, bad)) (p := ctFragPacket p) hbf htold (by show (sl.map ctFragPacket).length = 40 ∨ (joinC (sl.map ctFragPacket ++ [ctFragPacket p])).2 = 2; rw [List.length_map, hjr]; exact h1)
    refine retS (((subV3 pv 9 0 1 1,(sl.drop 0).take (1 - 0)),since,true),zeroP,4) ?_ rfl (Ent.trans (Ent.ghost 5 1) (Ent.trans (L' := .row pv 24 9 sl.length (sl.flatMap clFragPacket) :: .many (sl.flatMap rwFragPacket) :: .row v 67 3 N (A.flatMap clFragSlot ++ (clFragSlot ((subV3 pv 9 0 1 1,(sl.drop 0).take (1 - 0)),since,true) ++ B.flatMap clFragSlot)) :: .row (.slice none 0 0) 5 1 0 [] :: R) entA (Ent.trans (Ent.part3 (f := clFragPacket) (m := 9) (l := sl) (lo := 0) (hi := 1) (mx := 1) (fun _ => rfl) (by omega) (by omega) (by omega) rfl) (Ent.trans (L' := .many (sl.flatMap rwFragPacket) :: .row (subV3 pv 9 0 1 1) 24 9 ((sl.drop 0).take (1 - 0)).length (((sl.drop 0).take (1 - 0)).flatMap clFragPacket) :: .row v 67 3 N (A.flatMap clFragSlot ++ (clFragSlot ((subV3 pv 9 0 1 1,(sl.drop 0).take (1 - 0)),since,true) ++ B.flatMap clFragSlot)) :: .row (.slice none 0 0) 5 1 0 [] :: R) entA (Ent.trans (Ent.sublist (head_sub sl 1)) entA)))))
    rw [h3]
    show (((sl.map ctFragPacket).take 1, since, true), _, _) = (((((sl.drop 0).take (1 - 0)).map ctFragPacket), since, true), _, _)
    rw [List.drop_zero, Nat.sub_zero, List.map_take]
  · have hyp : ctFragPacket y = ctFragPacket p := by assumption
    have h1 : ¬ (sl.length = 40 ∨ jc = 2) := by omega
    have h2 : jc = 3 := by assumption
    refine retS (((sv, sl ++ [y]), since, bad), z, jc) ?_ rfl ?_
    · have h3 := inI_more (s := ctFragSlot ((pv, sl), since, bad)) (p := ctFragPacket p) hbf htold (by show ¬ ((sl.map ctFragPacket).length = 40 ∨ (joinC (sl.map ctFragPacket ++ [ctFragPacket p])).2 = 2); rw [List.length_map, hjr]; exact h1) (by show (joinC (sl.map ctFragPacket ++ [ctFragPacket p])).2 = 3; rw [hjr]; exact h2)
      rw [h3]
      show ((sl.map ctFragPacket ++ [ctFragPacket p], since, bad), (joinC (sl.map ctFragPacket ++ [ctFragPacket p])).1, (3 : Int)) = (((sl ++ [y]).map ctFragPacket, since, bad), ctFragPacket z, jc)
      rw [hjr, List.map_append, List.map_singleton, hyp, hz, h2]
    · exact entA
  · have h1 : ¬ (sl.length = 40 ∨ jc = 2) := by omega
    have h2 : ¬ jc = 3 := by assumption
    refine retS (((pv,sl),since,bad),z,jc) ?_ rfl entA
    have h3 := inI_done (s := ctFragSlot ((pv, sl), since, bad)) (p := ctFragPacket p) hbf htold (by show ¬ ((sl.map ctFragPacket).length = 40 ∨ (joinC (sl.map ctFragPacket ++ [ctFragPacket p])).2 = 2); rw [List.length_map, hjr]; exact h1) (by show ¬ (joinC (sl.map ctFragPacket ++ [ctFragPacket p])).2 = 3; rw [hjr]; exact h2)
    rw [h3]
    show (_, (joinC (sl.map ctFragPacket ++ [ctFragPacket p])).1, (joinC (sl.map ctFragPacket ++ [ctFragPacket p])).2) = (_, ctFragPacket z, jc)
    rw [hjr, hz]
end Go.Proofs.Ytodhjpnfokkfeaa

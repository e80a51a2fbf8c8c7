/- A piece taken on a bench: the reference. -/
import Derived.Test.YtodhjpnfokkfeaaFragam
set_option linter.unusedSimpArgs false
set_option linter.unusedVariables false
namespace Go.Proofs.Ytodhjpnfokkfeaa
open Go Go.RowKit
theorem join_cases (l : List CFragPacket) : (joinC l).2 = 0 ∨ (joinC l).2 = 1 ∨ (joinC l).2 = 2 ∨ ((joinC l).2 = 3 ∧ (joinC l).1 = ctFragPacket zeroP) := by
  unfold joinC
  split
  · split
    · split
      · exact .inr (.inr (.inr ⟨rfl, rfl⟩))
      · split
        · exact .inl rfl
        · exact .inr (.inr (.inr ⟨rfl, rfl⟩))
    · exact .inr (.inr (.inl rfl))
  · exact .inr (.inl rfl)
theorem join_add_ne {l : List CFragPacket} {p : CFragPacket} (h : (joinC l).2 = 3) (hl : l.length < 40) (hk : likeC (headC l) p = true) (hp : fragOk p = true) : (joinC (l ++ [p])).2 ≠ 1 := by
  have h2 : okJ l = true := by
    cases h3 : okJ l
    · rw [joinC, h3] at h; simp at h
    · rfl
  have h3 := okJ_iff.1 h2
  have hne : l ≠ [] := fun e => by rw [e] at h3; simp at h3
  have hh : headC (l ++ [p]) = headC l := by
    cases l with
    | nil => exact absurd rfl hne
    | cons a l => rfl
  have hmem : headC l ∈ l := by
    cases l with
    | nil => exact absurd rfl hne
    | cons a l => simp [headC]
  have hok : fragOk (headC l) = true := by
    have := h3.2.2 _ hmem
    simp only [alikeC, Bool.and_eq_true] at this
    exact this.1.1
  have hsym : likeC p (headC l) = true := by
    simp only [likeC, Bool.and_eq_true, decide_eq_true_eq] at hk ⊢
    exact ⟨⟨⟨hk.1.1.1.symm, hk.1.1.2.symm⟩, hk.1.2.symm⟩, hk.2.symm⟩
  have h4 : okJ (l ++ [p]) = true := okJ_iff.2 ⟨by simp, by simp; omega, fun c hc => by
    rw [hh]
    rcases List.mem_append.1 hc with h5 | h5
    · exact h3.2.2 c h5
    · rw [List.mem_singleton] at h5
      subst h5
      simp only [alikeC, hok, hp, hsym, Bool.and_self]⟩
  intro h5
  rw [joinC, if_pos h4] at h5
  split at h5
  · split at h5
    · exact absurd h5 (by simp)
    · split at h5 <;> exact absurd h5 (by simp)
  · exact absurd h5 (by simp)
theorem isN_mem {w : World} {v : Value} {m n : Nat} {cs : List Value} (h : Mem w v m n cs) : IsN v n := h.1
theorem mid_flat {α β : Type} {f : α → List β} (A B : List α) (s : α) : (A ++ s :: B).flatMap f = A.flatMap f ++ (f s ++ B.flatMap f) := by rw [List.flatMap_append, List.flatMap_cons]
theorem at_seg {A c B : List Value} {o : Nat} (hA : A.length = o) : At (A ++ (c ++ B)) o c := fun j u hj => by
  have hlt : j < c.length := (List.getElem?_eq_some_iff.1 hj).1
  rw [List.getElem?_append_right (by omega), show o + j - A.length = j by omega, List.getElem?_append_left hlt]
  exact hj
theorem good_len40 {now : Int} {y : MFragSlot} (h : SlotGood now (ctFragSlot y)) : y.1.2.length ≤ 40 := by
  have h1 : (joinC (y.1.2.map ctFragPacket)).2 = 3 := h.2.2.2.1
  have h2 : okJ (y.1.2.map ctFragPacket) = true := by
    cases h3 : okJ (y.1.2.map ctFragPacket)
    · rw [joinC, h3] at h1; simp at h1
    · rfl
  have h3 := (okJ_iff.1 h2).2.1
  rw [List.length_map] at h3
  exact h3
/-- a slot's pieces and payloads are short -/
def okS (c : CFragSlot) : Prop := c.1.length ≤ 1048576 ∧ ∀ q ∈ c.1, q.2.2.2.2.2.2.2.2.length ≤ 1048576
theorem short_ct {l : List MFragSlot} (h : ∀ c ∈ l.map ctFragSlot, okS c) : Short l := fun s hs => by
  have h1 := h _ (List.mem_map.2 ⟨s, hs, rfl⟩)
  refine ⟨?_, fun p hp => h1.2 (ctFragPacket p) (List.mem_map.2 ⟨p, hp, rfl⟩)⟩
  have h2 : (s.1.2.map ctFragPacket).length ≤ 1048576 := h1.1
  rwa [List.length_map] at h2
theorem ct_short {l : List MFragSlot} (h : Short l) : ∀ c ∈ l.map ctFragSlot, okS c := fun c hc => by
  obtain ⟨s, hs, rfl⟩ := List.mem_map.1 hc
  have h1 := h s hs
  refine ⟨by show (s.1.2.map ctFragPacket).length ≤ 1048576; rw [List.length_map]; exact h1.1, fun q hq => ?_⟩
  obtain ⟨p, hp, rfl⟩ := List.mem_map.1 hq
  exact h1.2 p hp
theorem bench_short {q : MFragBench} {n : Int} {L : List CFragSlot} (h : ctFragBench q = (n, L)) (hl : L.length ≤ 5) (hL : ∀ c ∈ L, okS c) : q.2.2.length ≤ 1048576 ∧ Short q.2.2 := by
  have h1 : q.2.2.map ctFragSlot = L := congrArg (fun c : CFragBench => c.2) h
  refine ⟨?_, short_ct (by rw [h1]; exact hL)⟩
  have h2 := congrArg List.length h1
  rw [List.length_map] at h2
  omega
theorem inI_ok {s : CFragSlot} {p : CFragPacket} (hs : okS s) (hn : s.1.length ≤ 1000) (hp : p.2.2.2.2.2.2.2.2.length ≤ 1048576) : okS (inI s p).1 := by
  unfold inI
  split
  · exact hs
  · split
    · exact hs
    · split
      · exact ⟨by rw [List.length_take]; omega, fun q hq => hs.2 q (List.mem_of_mem_take hq)⟩
      · split
        · refine ⟨by simp; omega, fun q hq => ?_⟩
          rcases List.mem_append.1 hq with h | h
          · exact hs.2 q h
          · rw [List.mem_singleton] at h
            rw [h]; exact hp
        · exact hs
attribute [local irreducible] Calls GoS GoC GoE GoT Mid IsEq IsFl IsSc IsRw IsSl IsEl IsSt IsFs sp Mem Rd LenOf szR joinC alikeC likeC
theorem joinAtS_c {v : Value} {cl sl : List MFragPacket} {p : MFragPacket} {jq : CFragPacket} {jc : Int} (hc : (cl.map ctFragPacket) = sl.map ctFragPacket ++ [ctFragPacket p]) (hj : joinC (sl.map ctFragPacket ++ [ctFragPacket p]) = (jq, jc)) (hn : sl.length ≤ 1000) (hl : ∀ y ∈ sl, y.2.2.2.2.2.2.2.2.2.length ≤ 1048576) (hlp : p.2.2.2.2.2.2.2.2.2.length ≤ 1048576) (w : World) (hx : Rds w (rwSFragPacket (v, cl))) : Calls Try.prog 17 #[v] w (RetX (fun z : MFragPacket => ctFragPacket z = jq) (fun z => .tuple #[.agg (clFragPacket z).toArray, .int .i64 jc]) (fun z => [.many (rwFragPacket z)]) w) := by
  have hc2 : cl.map ctFragPacket = (sl ++ [p]).map ctFragPacket := by rw [hc, List.map_append]; rfl
  have h2 := len_ct hc2
  have h := specFragJoin_c (v, cl) (by dsimp only; rw [h2.1, List.length_append]; simp; omega) (fun y hy => h2.2 (fun c => c.2.2.2.2.2.2.2.2.length ≤ 1048576) (fun z hz => by
    rcases List.mem_append.1 hz with h | h
    · exact hl z h
    · rw [List.mem_singleton] at h
      rw [h]; exact hlp) y hy) w hx
  dsimp only at h
  rw [hc, hj] at h
  exact h
theorem rds_app2 {w0 w : World} {L : List Blk} {v : Value} {cl : List MFragPacket} {p : MFragPacket} (hs : St w0 w L) (h1 : .row v 24 9 (cl.length + 1) (cl.flatMap clFragPacket ++ (clFragPacket p ++ [])) ∈ L) (h2 : .many (cl.flatMap rwFragPacket) ∈ L) (h3 : .many (rwFragPacket p) ∈ L) : Rds w (rwSFragPacket (v, cl ++ [p])) := rds_app hs h1 h2 (Rds.many hs h3)
set_option maxRecDepth 8192 in
theorem l14Put_c (n : Int) (v : Value) (A B : List MFragSlot) (s : MFragSlot) (p : MFragPacket) (hA : (A.flatMap clFragSlot).length = A.length * 3) (hAB : A.length + (B.length + 1) ≤ 4) (hs1 : 1 ≤ s.1.2.length) (hs2 : s.1.2.length ≤ 1000) (hl : ∀ y ∈ s.1.2, y.2.2.2.2.2.2.2.2.2.length ≤ 1048576) (hlp : p.2.2.2.2.2.2.2.2.2.length ≤ 1048576)
    (hne : s.1.2.length = 40 ∨ (joinC ((ctFragSlot s).1 ++ [ctFragPacket p])).2 ≠ 1) {w0 : World} (R : List Blk) (hp : Rds w0 (rwFragPacket p)) (w : World) (hst0 : St w0 w ([.row v 67 3 (A.length + (B.length + 1)) (A.flatMap clFragSlot ++ (clFragSlot s ++ B.flatMap clFragSlot)), .many (rwFragSlot s), .many (A.flatMap rwFragSlot), .many (B.flatMap rwFragSlot)] ++ R)) : Calls Try.prog 84 #[.agg #[.int .i64 n, v], .int .i64 (A.length : Int), .agg (clFragPacket p).toArray] w
    (RetS w0 R (fun q : MFragBench × MFragPacket × Int => (if (inI (ctFragSlot s) (ctFragPacket p)).2.2 = 0 then ((n, A.map ctFragSlot ++ B.map ctFragSlot), (inI (ctFragSlot s) (ctFragPacket p)).2.1, 0) else ((n, A.map ctFragSlot ++ (inI (ctFragSlot s) (ctFragPacket p)).1 :: B.map ctFragSlot), (inI (ctFragSlot s) (ctFragPacket p)).2.1, (inI (ctFragSlot s) (ctFragPacket p)).2.2)) = (ctFragBench q.1, ctFragPacket q.2.1, q.2.2)) (fun q => .tuple #[.agg (clFragBench q.1).toArray, .agg (clFragPacket q.2.1).toArray, .int .i64 q.2.2]) (fun q => [.many (rwFragBench q.1), .many (rwFragPacket q.2.1)])) := by
  obtain ⟨⟨pv, sl⟩, since, bad⟩ := s
  dsimp only at hs1 hs2 hl
  have hs' : St w0 w (.row v 67 3 (A.length + (B.length + 1)) (A.flatMap clFragSlot ++ (clFragSlot ((pv, sl), since, bad) ++ B.flatMap clFragSlot)) :: .many (rwSFragPacket (pv, sl)) :: .many (A.flatMap rwFragSlot) :: .many (B.flatMap rwFragSlot) :: R) := hst0
  have honeA : ∀ y ∈ A,(clFragSlot y).all (·.oneCell') = true := fun y hy => oneFragSlot (Rds.flatMap.1 (Rds.many hs' (l := A.flatMap rwFragSlot) (by (focus ((repeat (first|exact mH|refine mT ?_));done)))) y hy)
  have honeB : ∀ y ∈ B,(clFragSlot y).all (·.oneCell') = true := fun y hy => oneFragSlot (Rds.flatMap.1 (Rds.many hs' (l := B.flatMap rwFragSlot) (by (focus ((repeat (first|exact mH|refine mT ?_));done)))) y hy)
  have hopp := oneFragPacket hp
  have honev : v.oneCell' = true := row_one (v := v) (List.Mem.head _) w hs'
  have honepv : pv.oneCell' = true := mem_one3 (Rds.head (Rds.many hs' (l := rwSFragPacket (pv,sl)) (by (focus ((repeat (first|exact mH|refine mT ?_));done)))))
  obtain ⟨⟨jq, jc⟩, hjr⟩ : ∃ r, joinC (sl.map ctFragPacket ++ [ctFragPacket p]) = r := ⟨_, rfl⟩
  obtain ⟨told, htold⟩ : ∃ b, decide (ctFragPacket p ∈ sl.map ctFragPacket) = b := ⟨_, rfl⟩
  have htc := l14Told_c p pv sl
  rw [htold] at htc
  have hrs : Rds w (rwFragSlot ((pv,sl),since,bad)) := Rds.many hs' (l := rwSFragPacket (pv,sl)) (by (focus ((repeat (first|exact mH|refine mT ?_));done)))
  have honeS := oneFragSlot hrs
  have hisN : IsN pv sl.length := isN_mem (Rds.head hrs)
  refine enterS (n := 80) (E := [(0, _), (1, _), (2, _)]) Try.func84 rfl rfl rfl rfl hs' ?_
  repeat' (first
    |(refine gS ?_;(first
        |(refine S_move rfl rfl ?_)
        |(refine S_assign rfl rfl ?_)
        |(apply F_field rfl rfl;(first|exact T.fl45_1|exact T.fl67_0|exact T.fl67_2))
        |(apply F_idx rfl rfl rfl;(first|exact T.sl27|exact T.sl43);(focus rfl);(focus (first|(focus (first|exact len_nil|(apply len_given;assumption)|(apply len_row;(focus ((repeat (first|exact mH|refine mT ?_));done)))|(apply len_isN;assumption)))|(apply len_sub;(focus (first|exact len_nil|(apply len_given;assumption)|(apply len_row;(focus ((repeat (first|exact mH|refine mT ?_));done)))|(apply len_isN;assumption)));(focus omega);(focus omega))));(focus omega))
        |(apply F_bs rfl rfl;(first|exact T.el27|exact T.el43);rfl;rfl;rfl;rfl;(focus ((repeat (first|exact Dense.nil|(apply Dense.cons;rfl;rfl)));done));intro sv;(try (refine S_fact (row_one (v := sv) (by (focus ((repeat (first|exact mH|refine mT ?_));done)))) (fun hone => ?_))))
        |(refine gLoad ?_;(first
            |(apply F_load1 rfl rfl;(focus ((repeat (first|exact mH|refine mT ?_));done));(first|exact T.sc4|exact T.sc27|exact T.sc43);rfl;(focus (first|exact free0|exact free1|(refine free2 ?_ ?_;(focus ((repeat (first|(apply apart1;(repeat (first|exact mH|refine mT ?_));done)|(apply apart2;(repeat (first|exact mH|refine mT ?_));done)|refine apart3 ?_));done));(first|exact free1|(refine free2 ?_ ?_;(focus ((repeat (first|(apply apart1;(repeat (first|exact mH|refine mT ?_));done)|(apply apart2;(repeat (first|exact mH|refine mT ?_));done)|refine apart3 ?_));done));exact free1))))))
            |(apply F_loadAll rfl rfl;(focus ((repeat (first|exact mH|refine mT ?_));done));(first|exact T.rw24|exact T.rw45|exact T.rw67);(focus (first|exact free0|exact free1|(refine free2 ?_ ?_;(focus ((repeat (first|(apply apart1;(repeat (first|exact mH|refine mT ?_));done)|(apply apart2;(repeat (first|exact mH|refine mT ?_));done)|refine apart3 ?_));done));(first|exact free1|(refine free2 ?_ ?_;(focus ((repeat (first|(apply apart1;(repeat (first|exact mH|refine mT ?_));done)|(apply apart2;(repeat (first|exact mH|refine mT ?_));done)|refine apart3 ?_));done));exact free1))))))
            |((apply F_loadSN rfl rfl T.rw67;(focus (apply rd_row;(focus ((repeat (first|exact mH|refine mT ?_));done));exact freeR0));(focus exact at_seg hA);rfl;rfl))))
        |(refine gStore ?_;(first
            |(apply F_storeN rfl rfl;(focus (first|rfl|assumption|(simp only [List.append_nil,List.all_cons,List.all_nil,Bool.and_true,Bool.true_and,one_int,one_bool,one_string,one_slice,one_pointer, *];done)));(first|exact T.rw24|exact T.rw45|exact T.rw67);(focus ((repeat (first|exact Upd.here|apply Upd.there));done));(focus ((repeat (first|exact SetSeg.nil|apply SetSeg.here|apply SetSeg.there));done));(first|exact okst2|exact okst1|exact okst1'))))
        |(refine gCall ?_;(first
            |(show GoS _ _ _ _ _ _ _ (⟨_,_,_,.call ⟨.value (.func 108),_,_⟩,_⟩ :: _);refine S_callN (f := 108) rfl T.pf108 rfl (fun w hst => htc w (by first|(refine Rds.given hst ?_;assumption)|(apply Rds.many hst;(focus ((repeat (first|exact mH|refine mT ?_));done)))|(apply Rds.row hst;(focus ((repeat (first|exact mH|refine mT ?_));done)))) (by first|(refine Rds.given hst ?_;assumption)|(apply Rds.many hst;(focus ((repeat (first|exact mH|refine mT ?_));done)))|(apply Rds.row hst;(focus ((repeat (first|exact mH|refine mT ?_));done))))) rfl ?_)
            |(show GoS _ _ _ _ _ _ _ (⟨_,_,_,.call ⟨.value (.func 109),_,_⟩,_⟩ :: _);apply S_callS (f := 109) T.pf109 rfl rfl (fun w hst => l14Bad_c n v (A.length + (B.length + 1)) A B ((pv,sl),since,bad) hA rfl hs1 _ w hst);(focus ((repeat (first|exact Pull.nil|(apply Pull.app;(focus ((repeat (first|exact PickA.here|exact PickA.all|apply PickA.there|apply PickA.over));done)))|(apply Pull.cons;(focus ((repeat (first|exact Pick.here|exact Pick.last|apply Pick.there|apply Pick.over));done)))|(apply Pull.atom;(focus ((repeat (first|exact PickA.here|exact PickA.all|apply PickA.there|apply PickA.over));done)))));done));intro zz hzz;simp only [List.cons_append,List.nil_append];revert hzz;revert zz;intro s2 hs2;dsimp only at hs2 ⊢)
            |(show GoS _ _ _ _ _ _ _ (⟨_,_,_,.call ⟨.value (.func 104),_,_⟩,_⟩ :: _);refine S_callX (f := 104) rfl T.pf104 rfl (fun w hst => retX_pieces (l14Pieces_c pv sl (by omega) hl w (by first|(refine Rds.given hst ?_;assumption)|(apply Rds.many hst;(focus ((repeat (first|exact mH|refine mT ?_));done)))|(apply Rds.row hst;(focus ((repeat (first|exact mH|refine mT ?_));done)))))) rfl (fun zz hzz => ?_);simp only [List.cons_append,List.nil_append];revert hzz;revert zz;rintro ⟨cv,cl⟩ hc;dsimp only at hc ⊢;have hcn : cl.length = sl.length := (len_ct hc).1;(try (refine S_fact (row_one (v := cv) (by (focus ((repeat (first|exact mH|refine mT ?_));done)))) (fun hone => ?_))))
            |(show GoS _ _ _ _ _ _ _ (⟨_,_,_,.call ⟨.value (.func 55),_,_⟩,_⟩ :: _);refine S_callX (f := 55) rfl T.pf55 rfl (fun w hst => l11Copy_c p hlp w (Rds.given hst hp)) rfl (fun zz hzz => ?_);simp only [List.cons_append,List.nil_append];revert hzz;revert zz;intro pc hpc;refine S_fact (fun w hs => oneFragPacket (Rds.many hs (by (focus ((repeat (first|exact mH|refine mT ?_));done))))) (fun hone => ?_))
            |(show GoS _ _ _ _ _ _ _ (⟨_,_,_,.call ⟨.value (.func 17),_,_⟩,_⟩ :: _);refine S_callX (f := 17) rfl T.pf17 rfl (fun w hst => joinAtS_c (by rw [List.map_append,hc,List.map_singleton,hpc]) hjr hs2 hl hlp w (rds_app2 hst (by (focus ((repeat (first|exact mH|refine mT ?_));done))) (by (focus ((repeat (first|exact mH|refine mT ?_));done))) (by (focus ((repeat (first|exact mH|refine mT ?_));done))))) rfl (fun zz hzz => ?_);simp only [List.cons_append,List.nil_append];revert hzz;revert zz;intro z hz;refine S_fact (fun w hs => oneFragPacket (Rds.many hs (by (focus ((repeat (first|exact mH|refine mT ?_));done))))) (fun hone => ?_))
            |(apply F_len rfl rfl rfl;(focus exact ⟨_,_,by (first|exact T.sl27|exact T.sl43)⟩);(focus (first|(focus (first|exact len_nil|(apply len_given;assumption)|(apply len_row;(focus ((repeat (first|exact mH|refine mT ?_));done)))|(apply len_isN;assumption)))|(apply len_sub;(focus (first|exact len_nil|(apply len_given;assumption)|(apply len_row;(focus ((repeat (first|exact mH|refine mT ?_));done)))|(apply len_isN;assumption)));(focus omega);(focus omega)))))
            |(apply F_append rfl rfl rfl rfl;(first|exact T.el27|exact T.el43);(focus (intro sv;(focus ((repeat (first|exact Upd.here|apply Upd.there));done))));(focus (first|exact rd_nil|(apply rd_given;(focus assumption);(focus (first|exact freeG0|exact freeG1|(apply freeG2;(focus ((repeat (first|exact mH|refine mT ?_));done));(first|exact freeG1|(apply freeG2;(focus ((repeat (first|exact mH|refine mT ?_));done));exact freeG1))))))|(apply rd_row;(focus ((repeat (first|exact mH|refine mT ?_));done));(focus (first|exact freeR0|exact freeR1|(refine freeR2 ?_ ?_;(focus ((repeat (first|(apply apartR1;(focus ((repeat (first|exact mH|refine mT ?_));done));done)|(apply apartR2;(focus ((repeat (first|exact mH|refine mT ?_));done));done)|refine apartR3 ?_));done));(first|exact freeR1|(refine freeR2 ?_ ?_;(focus ((repeat (first|(apply apartR1;(focus ((repeat (first|exact mH|refine mT ?_));done));done)|(apply apartR2;(focus ((repeat (first|exact mH|refine mT ?_));done));done)|refine apartR3 ?_));done));exact freeR1))))))|(apply rd_sub;(focus (apply rd_given;(focus assumption);(focus (first|exact freeG0|exact freeG1|(apply freeG2;(focus ((repeat (first|exact mH|refine mT ?_));done));(first|exact freeG1|(apply freeG2;(focus ((repeat (first|exact mH|refine mT ?_));done));exact freeG1)))))));(focus (intro _;rfl));(focus omega);(focus omega))|(apply rd_sub;(focus (apply rd_row;(focus ((repeat (first|exact mH|refine mT ?_));done));(focus (first|exact freeR0|exact freeR1|(refine freeR2 ?_ ?_;(focus ((repeat (first|(apply apartR1;(focus ((repeat (first|exact mH|refine mT ?_));done));done)|(apply apartR2;(focus ((repeat (first|exact mH|refine mT ?_));done));done)|refine apartR3 ?_));done));(first|exact freeR1|(refine freeR2 ?_ ?_;(focus ((repeat (first|(apply apartR1;(focus ((repeat (first|exact mH|refine mT ?_));done));done)|(apply apartR2;(focus ((repeat (first|exact mH|refine mT ?_));done));done)|refine apartR3 ?_));done));exact freeR1)))))));(focus (intro _;rfl));(focus omega);(focus omega))));(focus (first|rfl|assumption|(apply all_flat;intro _ _;rfl)|(rw [List.append_nil];assumption)|(simp only [List.append_nil,List.all_cons,List.all_nil,Bool.and_true,Bool.true_and,one_int,one_bool,one_string,one_slice,one_pointer, *];done)|simp));(first|exact okst2|exact okst1|exact okst1');(focus (simp only [maxLen];first|omega|(simp only [List.length_take,List.length_drop];omega)));(focus (first|omega|(simp only [List.length_take,List.length_drop];omega)));intro sv;(try (refine S_fact (row_one (v := sv) (by (focus ((repeat (first|exact mH|refine mT ?_));done)))) (fun hone => ?_))))))
        |(refine gBin ?_;(first
            |(refine S_eql rfl rfl rfl ?_)))
        |(refine S_box rfl rfl rfl ?_;intro kb)
        |(apply S_alloc rfl (hd := rfl);(first|exact T.zc24|exact T.zc45|exact T.zc67);intro kb)
        |(apply F_build2 rfl (hd := rfl);(first|exact T.st24|exact T.st45|exact T.st67);(focus ((repeat (first|exact BuildR.nil|(apply BuildR.cons;(first|exact T.fs24_0|exact T.fs24_1|exact T.fs24_2|exact T.fs24_3|exact T.fs24_4|exact T.fs24_5|exact T.fs24_6|exact T.fs24_7|exact T.fs24_8|exact T.fs45_0|exact T.fs45_1|exact T.fs67_0|exact T.fs67_1|exact T.fs67_2);rfl;rfl;(focus ((repeat (first|exact SetSeg.nil|apply SetSeg.here|apply SetSeg.there));done)))|(apply BuildR.cons1;(first|exact T.fs24_0|exact T.fs24_1|exact T.fs24_2|exact T.fs24_3|exact T.fs24_4|exact T.fs24_5|exact T.fs24_6|exact T.fs24_7|exact T.fs24_8|exact T.fs45_0|exact T.fs45_1|exact T.fs67_0|exact T.fs67_1|exact T.fs67_2);(focus assumption);(focus ((repeat (first|exact SetSeg.nil|apply SetSeg.here|apply SetSeg.there));done)))));done)))
        |(refine S_extract rfl rfl rfl ?_)
        |(refine S_done ?_)))
    |(refine gC ?_;(first
        |(refine C_seq ?_)
        |(refine gReg ?_;(first
            |(refine gReg (i := 0) ?_;refine C_plain [(0,2),(1,2),(2,2),(3,2),(4,0)] (by kernel_rfl) (s := [⟨2,none,_,_,_⟩,⟨2,none,_,_,_⟩,⟨2,none,_,_,_⟩,⟨2,none,_,_,_⟩,⟨0,none,_,_,_⟩]) rfl ?_)
            |(refine gReg (i := 1) ?_;refine C_plain [(0,0),(1,0),(2,0),(3,0),(4,0),(5,2),(6,2)] (by kernel_rfl) (s := [⟨0,none,_,_,_⟩,⟨0,none,_,_,_⟩,⟨0,none,_,_,_⟩,⟨0,none,_,_,_⟩,⟨0,none,_,_,_⟩,⟨2,none,_,_,_⟩,⟨2,none,_,_,_⟩]) rfl ?_)
            |(refine gReg (i := 2) ?_;refine C_plain [(0,0),(1,0)] (by kernel_rfl) (s := [⟨0,none,_,_,_⟩,⟨0,none,_,_,_⟩]) rfl ?_)
            |(refine gReg (i := 3) ?_;refine C_plain [(0,0),(1,0),(2,2),(3,2),(4,0)] (by kernel_rfl) (s := [⟨0,none,_,_,_⟩,⟨0,none,_,_,_⟩,⟨2,none,_,_,_⟩,⟨2,none,_,_,_⟩,⟨0,none,_,_,_⟩]) rfl ?_)
            |(refine gReg (i := 4) ?_;refine C_plain [(0,0),(1,0),(2,0),(3,2)] (by kernel_rfl) (s := [⟨0,none,_,_,_⟩,⟨0,none,_,_,_⟩,⟨0,none,_,_,_⟩,⟨2,none,_,_,_⟩]) rfl ?_)
            |(refine gReg (i := 5) ?_;refine C_plain [(0,0),(1,0),(2,2),(3,2),(4,0)] (by kernel_rfl) (s := [⟨0,none,_,_,_⟩,⟨0,none,_,_,_⟩,⟨2,none,_,_,_⟩,⟨2,none,_,_,_⟩,⟨0,none,_,_,_⟩]) rfl ?_)
            |(refine gReg (i := 6) ?_;refine C_plain [(0,0),(1,0),(2,0),(3,0)] (by kernel_rfl) (s := [⟨0,none,_,_,_⟩,⟨0,none,_,_,_⟩,⟨0,none,_,_,_⟩,⟨0,none,_,_,_⟩]) rfl ?_)
            |(refine gReg (i := 7) ?_;refine C_plain [(0,0),(1,0),(2,2),(3,0),(4,2),(5,2),(6,0)] (by kernel_rfl) (s := [⟨0,none,_,_,_⟩,⟨0,none,_,_,_⟩,⟨2,none,_,_,_⟩,⟨0,none,_,_,_⟩,⟨2,none,_,_,_⟩,⟨2,none,_,_,_⟩,⟨0,none,_,_,_⟩]) rfl ?_)
            |(refine gReg (i := 8) ?_;refine C_drawn [(0,0),(1,0),(3,0),(2,1),(4,1),(5,1),(6,2),(7,0)] [] T.mixed (by kernel_rfl) (s := [⟨0,none,_,_,_⟩,⟨0,none,_,_,_⟩,⟨0,none,_,_,_⟩,⟨1,none,_,_,_⟩,⟨1,none,_,_,_⟩,⟨1,none,_,_,_⟩,⟨2,none,_,_,_⟩,⟨0,none,_,_,_⟩]) rfl ?_)
            |(refine gReg (i := 9) ?_;refine C_plain [(0,0),(1,2),(2,0),(3,0),(4,0),(5,2),(6,2),(7,0)] (by kernel_rfl) (s := [⟨0,none,_,_,_⟩,⟨2,none,_,_,_⟩,⟨0,none,_,_,_⟩,⟨0,none,_,_,_⟩,⟨0,none,_,_,_⟩,⟨2,none,_,_,_⟩,⟨2,none,_,_,_⟩,⟨0,none,_,_,_⟩]) rfl ?_)
            |(refine gReg (i := 10) ?_;refine C_plain [(0,0)] (by kernel_rfl) (s := [⟨0,none,_,_,_⟩]) rfl ?_)
            |(refine gReg (i := 11) ?_;refine C_plain [(0,0),(1,0)] (by kernel_rfl) (s := [⟨0,none,_,_,_⟩,⟨0,none,_,_,_⟩]) rfl ?_)
            |(refine gReg (i := 14) ?_;refine C_plain [(0,0),(1,0)] (by kernel_rfl) (s := [⟨0,none,_,_,_⟩,⟨0,none,_,_,_⟩]) rfl ?_)
            |(refine gReg (i := 15) ?_;refine C_plain [(0,0),(1,0),(2,2),(3,0),(4,2),(5,2),(6,0)] (by kernel_rfl) (s := [⟨0,none,_,_,_⟩,⟨0,none,_,_,_⟩,⟨2,none,_,_,_⟩,⟨0,none,_,_,_⟩,⟨2,none,_,_,_⟩,⟨2,none,_,_,_⟩,⟨0,none,_,_,_⟩]) rfl ?_)))
        |(refine C_split rfl ?_ ?_ <;> (intro hb;(try simp only [decide_eq_true_eq] at hb);(try simp only [decide_eq_false_iff_not] at hb);(try simp only [Bool.not_eq_true'] at hb);(try simp only [Bool.not_eq_false'] at hb);(try (exfalso;first|contradiction|omega))))
        |(refine C_skip ?_)
        |(refine C_ret ?_)
        |(refine C_block ?_)))
    |(refine gE ?_;(first
        |(refine E_then ?_)
        |(refine E_thenR ?_)
        |(refine E_block ?_)
        |(refine E_blockR ?_)
        |(refine E_calm ?_)
        | (apply E_ret3 rfl; (first | exact Res.tmp rfl | (apply R_cellAll rfl; (focus ((repeat (first | exact List.Mem.head _ | refine List.Mem.tail _ ?_)); done)); (first | exact T.rw24 | exact T.rw45 | exact T.rw67)) | (apply R_cell1 rfl; (focus ((repeat (first | exact List.Mem.head _ | refine List.Mem.tail _ ?_)); done)); (first | exact T.sc4 | exact T.sc27 | exact T.sc43))); (first | exact Res.tmp rfl | (apply R_cellAll rfl; (focus ((repeat (first | exact List.Mem.head _ | refine List.Mem.tail _ ?_)); done)); (first | exact T.rw24 | exact T.rw45 | exact T.rw67)) | (apply R_cell1 rfl; (focus ((repeat (first | exact List.Mem.head _ | refine List.Mem.tail _ ?_)); done)); (first | exact T.sc4 | exact T.sc27 | exact T.sc43))); (first | exact Res.tmp rfl | (apply R_cellAll rfl; (focus ((repeat (first | exact List.Mem.head _ | refine List.Mem.tail _ ?_)); done)); (first | exact T.rw24 | exact T.rw45 | exact T.rw67)) | (apply R_cell1 rfl; (focus ((repeat (first | exact List.Mem.head _ | refine List.Mem.tail _ ?_)); done)); (first | exact T.sc4 | exact T.sc27 | exact T.sc43)))))))
  · have h3 := inI_bad (s := ctFragSlot ((pv, sl), since, bad)) (p := ctFragPacket p) hb
    refine retS ((n,v,A ++ ((pv,sl),since,bad) :: B),zeroP,4) ?_ rfl (Ent.trans (Ent.ghost 5 1) entA)
    rw [h3, if_neg (by simp)]
    show ((n, _), _, _) = ((n, (A ++ ((pv, sl), since, bad) :: B).map ctFragSlot), _, _)
    rw [List.map_append, List.map_cons]
  · rw [hb, decide_eq_true_iff] at htold
    have h3 := inI_told (s := ctFragSlot ((pv, sl), since, bad)) (p := ctFragPacket p) (by assumption) htold
    refine retS ((n,v,A ++ ((pv,sl),since,bad) :: B),zeroP,3) ?_ rfl (Ent.trans (Ent.ghost 5 1) entA)
    rw [h3, if_neg (by simp)]
    show ((n, _), _, _) = ((n, (A ++ ((pv, sl), since, bad) :: B).map ctFragSlot), _, _)
    rw [List.map_append, List.map_cons]
  · have hnt : ctFragPacket p ∉ sl.map ctFragPacket := by
      have h9 : told = false := by assumption
      rw [h9, decide_eq_false_iff_not] at htold; exact htold
    have h3 := inI_full (s := ctFragSlot ((pv, sl), since, bad)) (p := ctFragPacket p) (by assumption) hnt (.inl (by show (sl.map ctFragPacket).length = 40; rw [List.length_map]; omega))
    refine retS ((n,v,A ++ s2 :: B),zeroP,4) ?_ rfl (Ent.trans (Ent.ghost 5 1) entA)
    rw [h3, if_neg (by simp)]
    show ((n, _), _, _) = ((n, (A ++ s2 :: B).map ctFragSlot), _, _)
    rw [List.map_append, List.map_cons, hs2]
    rfl
  · have hnt : ctFragPacket p ∉ sl.map ctFragPacket := by
      have h9 : told = false := by assumption
      rw [h9, decide_eq_false_iff_not] at htold; exact htold
    have h3 := inI_done (s := ctFragSlot ((pv, sl), since, bad)) (p := ctFragPacket p) (by assumption) hnt (by show ¬ ((sl.map ctFragPacket).length = 40 ∨ (joinC (sl.map ctFragPacket ++ [ctFragPacket p])).2 = 2); rw [List.length_map, hjr]; dsimp only; omega) (by show ¬ (joinC (sl.map ctFragPacket ++ [ctFragPacket p])).2 = 3; rw [hjr]; dsimp only; omega)
    rw [h3]
    have hml : A.length + (B.length + 1) = (A ++ ((pv, sl), since, bad) :: B).length := by simp
    rw [← mid_flat (f := clFragSlot) A B ((pv, sl), since, bad), hml]
    have herase : (A ++ ((pv, sl), since, bad) :: B).eraseIdx A.length = A ++ B := erase_mid A B _
    have hh1 : ((A ++ ((pv, sl), since, bad) :: B).drop 0).take (A.length - 0) = A := by rw [List.drop_zero, Nat.sub_zero, List.take_left' rfl]
    have hh2 : ((A ++ ((pv, sl), since, bad) :: B).drop (A.length + 1)).take ((A ++ ((pv, sl), since, bad) :: B).length - (A.length + 1)) = B := by
      rw [List.take_of_length_le (by rw [List.length_drop]; omega), ← List.drop_drop, List.drop_left' rfl]
      rfl
    generalize hgl : A ++ ((pv, sl), since, bad) :: B = l3 at hml herase hh1 hh2 ⊢
    have hone1 : (((l3.drop 0).take (((A.length : Nat) : Int).toNat - 0)).flatMap clFragSlot).all (·.oneCell') = true := by
      show (((l3.drop 0).take (A.length - 0)).flatMap clFragSlot).all (·.oneCell') = true
      rw [hh1]; exact all_flat honeA
    have hone2 : (((l3.drop (((A.length : Nat) : Int) + 1).toNat).take (l3.length - (((A.length : Nat) : Int) + 1).toNat)).flatMap clFragSlot).all (·.oneCell') = true := by
      show (((l3.drop (A.length + 1)).take (l3.length - (A.length + 1))).flatMap clFragSlot).all (·.oneCell') = true
      rw [hh2]; exact all_flat honeB
    repeat' (first
      |(refine gS ?_;(first
          |(refine S_move rfl rfl ?_)
          |(refine S_assign rfl rfl ?_)
          |(apply F_field rfl rfl;(first|exact T.fl45_1|exact T.fl67_0|exact T.fl67_2))
          |(apply F_slice rfl rfl;(first|exact T.sl27|exact T.sl43);(focus (first|(focus (first|exact len_nil|(apply len_given;assumption)|(apply len_row;(focus ((repeat (first|exact mH|refine mT ?_));done)))|(apply len_isN;assumption)))|(apply len_sub;(focus (first|exact len_nil|(apply len_given;assumption)|(apply len_row;(focus ((repeat (first|exact mH|refine mT ?_));done)))|(apply len_isN;assumption)));(focus omega);(focus omega))));(focus exact rfl);(focus exact ⟨_,_,rfl,by omega,rfl⟩);(focus omega);(focus omega))
          |(apply F_slice rfl rfl;(first|exact T.sl27|exact T.sl43);(focus (first|(focus (first|exact len_nil|(apply len_given;assumption)|(apply len_row;(focus ((repeat (first|exact mH|refine mT ?_));done)))|(apply len_isN;assumption)))|(apply len_sub;(focus (first|exact len_nil|(apply len_given;assumption)|(apply len_row;(focus ((repeat (first|exact mH|refine mT ?_));done)))|(apply len_isN;assumption)));(focus omega);(focus omega))));(focus exact ⟨_,_,rfl,by omega,rfl⟩);(focus exact rfl);(focus omega);(focus omega))
          |(apply F_bs0L rfl rfl;(first|exact T.el27|exact T.el43);rfl;intro kb)
          |(refine gLoad ?_;(first
              |(apply F_load1 rfl rfl;(focus ((repeat (first|exact mH|refine mT ?_));done));(first|exact T.sc4|exact T.sc27|exact T.sc43);rfl;(focus (first|exact free0|exact free1|(refine free2 ?_ ?_;(focus ((repeat (first|(apply apart1;(repeat (first|exact mH|refine mT ?_));done)|(apply apart2;(repeat (first|exact mH|refine mT ?_));done)|refine apart3 ?_));done));(first|exact free1|(refine free2 ?_ ?_;(focus ((repeat (first|(apply apart1;(repeat (first|exact mH|refine mT ?_));done)|(apply apart2;(repeat (first|exact mH|refine mT ?_));done)|refine apart3 ?_));done));exact free1))))))
              |(apply F_loadAll rfl rfl;(focus ((repeat (first|exact mH|refine mT ?_));done));(first|exact T.rw24|exact T.rw45|exact T.rw67);(focus (first|exact free0|exact free1|(refine free2 ?_ ?_;(focus ((repeat (first|(apply apart1;(repeat (first|exact mH|refine mT ?_));done)|(apply apart2;(repeat (first|exact mH|refine mT ?_));done)|refine apart3 ?_));done));(first|exact free1|(refine free2 ?_ ?_;(focus ((repeat (first|(apply apart1;(repeat (first|exact mH|refine mT ?_));done)|(apply apart2;(repeat (first|exact mH|refine mT ?_));done)|refine apart3 ?_));done));exact free1))))))))
          |(refine gStore ?_;(first
              |(apply F_store1 rfl rfl;(focus (first|rfl|assumption));(first|exact T.sc4|exact T.sc27|exact T.sc43);(focus ((repeat (first|exact Upd.here|apply Upd.there));done));(focus ((repeat (first|exact SetSeg.nil|apply SetSeg.here|apply SetSeg.there));done));(first|exact okst2|exact okst1|exact okst1'))
              |(apply F_storeN rfl rfl;(focus (first|rfl|assumption|(simp only [List.append_nil,List.all_cons,List.all_nil,Bool.and_true,Bool.true_and,one_int,one_bool,one_string,one_slice,one_pointer, *];done)));(first|exact T.rw24|exact T.rw45|exact T.rw67);(focus ((repeat (first|exact Upd.here|apply Upd.there));done));(focus ((repeat (first|exact SetSeg.nil|apply SetSeg.here|apply SetSeg.there));done));(first|exact okst2|exact okst1|exact okst1'))))
          |(refine gCall ?_;(first
              |(apply F_append0 rfl rfl rfl rfl;(first|exact T.el27|exact T.el43);(focus (intro sv;(focus ((repeat (first|exact Upd.here|apply Upd.there));done))));(focus (first|exact rd_nil|(apply rd_given;(focus assumption);(focus (first|exact freeG0|exact freeG1|(apply freeG2;(focus ((repeat (first|exact mH|refine mT ?_));done));(first|exact freeG1|(apply freeG2;(focus ((repeat (first|exact mH|refine mT ?_));done));exact freeG1))))))|(apply rd_row;(focus ((repeat (first|exact mH|refine mT ?_));done));(focus (first|exact freeR0|exact freeR1|(refine freeR2 ?_ ?_;(focus ((repeat (first|(apply apartR1;(focus ((repeat (first|exact mH|refine mT ?_));done));done)|(apply apartR2;(focus ((repeat (first|exact mH|refine mT ?_));done));done)|refine apartR3 ?_));done));(first|exact freeR1|(refine freeR2 ?_ ?_;(focus ((repeat (first|(apply apartR1;(focus ((repeat (first|exact mH|refine mT ?_));done));done)|(apply apartR2;(focus ((repeat (first|exact mH|refine mT ?_));done));done)|refine apartR3 ?_));done));exact freeR1))))))|(apply rd_sub;(focus (apply rd_given;(focus assumption);(focus (first|exact freeG0|exact freeG1|(apply freeG2;(focus ((repeat (first|exact mH|refine mT ?_));done));(first|exact freeG1|(apply freeG2;(focus ((repeat (first|exact mH|refine mT ?_));done));exact freeG1)))))));(focus (intro _;rfl));(focus omega);(focus omega))|(apply rd_sub;(focus (apply rd_row;(focus ((repeat (first|exact mH|refine mT ?_));done));(focus (first|exact freeR0|exact freeR1|(refine freeR2 ?_ ?_;(focus ((repeat (first|(apply apartR1;(focus ((repeat (first|exact mH|refine mT ?_));done));done)|(apply apartR2;(focus ((repeat (first|exact mH|refine mT ?_));done));done)|refine apartR3 ?_));done));(first|exact freeR1|(refine freeR2 ?_ ?_;(focus ((repeat (first|(apply apartR1;(focus ((repeat (first|exact mH|refine mT ?_));done));done)|(apply apartR2;(focus ((repeat (first|exact mH|refine mT ?_));done));done)|refine apartR3 ?_));done));exact freeR1)))))));(focus (intro _;rfl));(focus omega);(focus omega))));(focus (first|rfl|assumption|(apply all_flat;intro _ _;rfl)|(rw [List.append_nil];assumption)|(simp only [List.append_nil,List.all_cons,List.all_nil,Bool.and_true,Bool.true_and,one_int,one_bool,one_string,one_slice,one_pointer, *];done)|simp));rfl;(focus (simp only [maxLen];first|omega|(simp only [List.length_take,List.length_drop];omega)));(focus (first|omega|(simp only [List.length_take,List.length_drop];omega)));intro sv;(try (refine S_fact (row_one (v := sv) (by (focus ((repeat (first|exact mH|refine mT ?_));done)))) (fun hone => ?_))))
              |(apply F_append rfl rfl rfl rfl;(first|exact T.el27|exact T.el43);(focus (intro sv;(focus ((repeat (first|exact Upd.here|apply Upd.there));done))));(focus (first|exact rd_nil|(apply rd_given;(focus assumption);(focus (first|exact freeG0|exact freeG1|(apply freeG2;(focus ((repeat (first|exact mH|refine mT ?_));done));(first|exact freeG1|(apply freeG2;(focus ((repeat (first|exact mH|refine mT ?_));done));exact freeG1))))))|(apply rd_row;(focus ((repeat (first|exact mH|refine mT ?_));done));(focus (first|exact freeR0|exact freeR1|(refine freeR2 ?_ ?_;(focus ((repeat (first|(apply apartR1;(focus ((repeat (first|exact mH|refine mT ?_));done));done)|(apply apartR2;(focus ((repeat (first|exact mH|refine mT ?_));done));done)|refine apartR3 ?_));done));(first|exact freeR1|(refine freeR2 ?_ ?_;(focus ((repeat (first|(apply apartR1;(focus ((repeat (first|exact mH|refine mT ?_));done));done)|(apply apartR2;(focus ((repeat (first|exact mH|refine mT ?_));done));done)|refine apartR3 ?_));done));exact freeR1))))))|(apply rd_sub;(focus (apply rd_given;(focus assumption);(focus (first|exact freeG0|exact freeG1|(apply freeG2;(focus ((repeat (first|exact mH|refine mT ?_));done));(first|exact freeG1|(apply freeG2;(focus ((repeat (first|exact mH|refine mT ?_));done));exact freeG1)))))));(focus (intro _;rfl));(focus omega);(focus omega))|(apply rd_sub;(focus (apply rd_row;(focus ((repeat (first|exact mH|refine mT ?_));done));(focus (first|exact freeR0|exact freeR1|(refine freeR2 ?_ ?_;(focus ((repeat (first|(apply apartR1;(focus ((repeat (first|exact mH|refine mT ?_));done));done)|(apply apartR2;(focus ((repeat (first|exact mH|refine mT ?_));done));done)|refine apartR3 ?_));done));(first|exact freeR1|(refine freeR2 ?_ ?_;(focus ((repeat (first|(apply apartR1;(focus ((repeat (first|exact mH|refine mT ?_));done));done)|(apply apartR2;(focus ((repeat (first|exact mH|refine mT ?_));done));done)|refine apartR3 ?_));done));exact freeR1)))))));(focus (intro _;rfl));(focus omega);(focus omega))));(focus (first|rfl|assumption|(apply all_flat;intro _ _;rfl)|(rw [List.append_nil];assumption)|(simp only [List.append_nil,List.all_cons,List.all_nil,Bool.and_true,Bool.true_and,one_int,one_bool,one_string,one_slice,one_pointer, *];done)|simp));(first|exact okst2|exact okst1|exact okst1');(focus (simp only [maxLen];first|omega|(simp only [List.length_take,List.length_drop];omega)));(focus (first|omega|(simp only [List.length_take,List.length_drop];omega)));intro sv;(try (refine S_fact (row_one (v := sv) (by (focus ((repeat (first|exact mH|refine mT ?_));done)))) (fun hone => ?_))))))
          |(refine gBin ?_;(first
              |(refine S_add rfl rfl ?_ rfl ?_;(focus (unfold rng;omega)))))
          |(refine S_done ?_)))
      |(refine gC ?_;(first
          |(refine C_seq ?_)
          |(refine gReg ?_;(first
              |(refine gReg (i := 12) ?_;refine C_drawn [(1,0),(2,0),(3,0),(4,0),(6,0),(7,0),(8,0),(9,0),(10,0),(0,1),(5,1),(11,2),(12,0),(13,2)] [] T.mixed (by kernel_rfl) (s := [⟨0,none,_,_,_⟩,⟨0,none,_,_,_⟩,⟨0,none,_,_,_⟩,⟨0,none,_,_,_⟩,⟨0,none,_,_,_⟩,⟨0,none,_,_,_⟩,⟨0,none,_,_,_⟩,⟨0,none,_,_,_⟩,⟨0,none,_,_,_⟩,⟨1,none,_,_,_⟩,⟨1,none,_,_,_⟩,⟨2,none,_,_,_⟩,⟨0,none,_,_,_⟩,⟨2,none,_,_,_⟩]) rfl ?_)
              |(refine gReg (i := 13) ?_;refine C_drawn1 6 rfl [(0,0),(1,0),(2,1),(3,2),(4,0)] T.mixed (by kernel_rfl) (s := [⟨0,none,_,_,_⟩,⟨0,none,_,_,_⟩,⟨1,none,_,_,_⟩,⟨2,none,_,_,_⟩,⟨0,none,_,_,_⟩]) rfl ?_)))
          |(refine C_ret ?_)))
      |(refine gE ?_;(first
          |(refine E_then ?_)
          |(refine E_thenR ?_)
          |(refine E_blockR ?_)
          |(refine E_calm ?_)
          | (apply E_ret3 rfl; (first | exact Res.tmp rfl | (apply R_cellAll rfl; (focus ((repeat (first | exact List.Mem.head _ | refine List.Mem.tail _ ?_)); done)); (first | exact T.rw24 | exact T.rw45 | exact T.rw67)) | (apply R_cell1 rfl; (focus ((repeat (first | exact List.Mem.head _ | refine List.Mem.tail _ ?_)); done)); (first | exact T.sc4 | exact T.sc27 | exact T.sc43))); (first | exact Res.tmp rfl | (apply R_cellAll rfl; (focus ((repeat (first | exact List.Mem.head _ | refine List.Mem.tail _ ?_)); done)); (first | exact T.rw24 | exact T.rw45 | exact T.rw67)) | (apply R_cell1 rfl; (focus ((repeat (first | exact List.Mem.head _ | refine List.Mem.tail _ ?_)); done)); (first | exact T.sc4 | exact T.sc27 | exact T.sc43))); (first | exact Res.tmp rfl | (apply R_cellAll rfl; (focus ((repeat (first | exact List.Mem.head _ | refine List.Mem.tail _ ?_)); done)); (first | exact T.rw24 | exact T.rw45 | exact T.rw67)) | (apply R_cell1 rfl; (focus ((repeat (first | exact List.Mem.head _ | refine List.Mem.tail _ ?_)); done)); (first | exact T.sc4 | exact T.sc27 | exact T.sc43)))))))
    rw [show ((l3.drop 0).take (((A.length : Nat) : Int).toNat - 0)) = A from hh1, show ((l3.drop (((A.length : Nat) : Int) + 1).toNat).take (l3.length - (((A.length : Nat) : Int) + 1).toNat)) = B from hh2]
    refine retS ((n,sv,A ++ B),z,0) ?_ rfl entA
    rw [if_pos (by show (joinC (sl.map ctFragPacket ++ [ctFragPacket p])).2 = 0; rw [hjr]; exact hb)]
    show ((n, A.map ctFragSlot ++ B.map ctFragSlot), (joinC (sl.map ctFragPacket ++ [ctFragPacket p])).1, (0 : Int)) = ((n, (A ++ B).map ctFragSlot), ctFragPacket z, (0 : Int))
    rw [hjr, hz, List.map_append]
  · have hnt : ctFragPacket p ∉ sl.map ctFragPacket := by
      have h9 : told = false := by assumption
      rw [h9, decide_eq_false_iff_not] at htold; exact htold
    have h3 := inI_full (s := ctFragSlot ((pv, sl), since, bad)) (p := ctFragPacket p) (by assumption) hnt (.inr (by show (joinC (sl.map ctFragPacket ++ [ctFragPacket p])).2 = 2; rw [hjr]; exact hb))
    refine retS ((n,v,A ++ s2 :: B),zeroP,4) ?_ rfl (Ent.trans (Ent.ghost 5 1) entA)
    rw [h3, if_neg (by simp)]
    show ((n, _), _, _) = ((n, (A ++ s2 :: B).map ctFragSlot), _, _)
    rw [List.map_append, List.map_cons, hs2]
    rfl
  · have hnt : ctFragPacket p ∉ sl.map ctFragPacket := by
      have h9 : told = false := by assumption
      rw [h9, decide_eq_false_iff_not] at htold; exact htold
    have hj3 : jc = 3 ∧ jq = ctFragPacket zeroP := by
      have h1 := join_cases (sl.map ctFragPacket ++ [ctFragPacket p])
      have h2 : sl.length = 40 ∨ (joinC (sl.map ctFragPacket ++ [ctFragPacket p])).2 ≠ 1 := hne
      rw [hjr] at h1 h2
      dsimp only at h1 h2
      rcases h1 with h1 | h1 | h1 | h1
      · omega
      · omega
      · omega
      · exact h1
    have h3 := inI_more (s := ctFragSlot ((pv, sl), since, bad)) (p := ctFragPacket p) (by assumption) hnt (by show ¬ ((sl.map ctFragPacket).length = 40 ∨ (joinC (sl.map ctFragPacket ++ [ctFragPacket p])).2 = 2); rw [List.length_map, hjr]; dsimp only; omega) (by show (joinC (sl.map ctFragPacket ++ [ctFragPacket p])).2 = 3; rw [hjr]; exact hj3.1)
    repeat' (first
      |(refine gS ?_;(first
          |(refine S_move rfl rfl ?_)
          |(refine S_assign rfl rfl ?_)
          |(apply F_field rfl rfl;(first|exact T.fl45_1|exact T.fl67_0|exact T.fl67_2))
          |(apply F_fieldS rfl rfl;(first|exact T.fl45_1|exact T.fl67_0|exact T.fl67_2);(focus (first|(focus (first|exact len_nil|(apply len_given;assumption)|(apply len_row;(focus ((repeat (first|exact mH|refine mT ?_));done)))|(apply len_isN;assumption)))|(apply len_sub;(focus (first|exact len_nil|(apply len_given;assumption)|(apply len_row;(focus ((repeat (first|exact mH|refine mT ?_));done)))|(apply len_isN;assumption)));(focus omega);(focus omega))));(focus omega))
          |(apply F_idx rfl rfl rfl;(first|exact T.sl27|exact T.sl43);(focus rfl);(focus (first|(focus (first|exact len_nil|(apply len_given;assumption)|(apply len_row;(focus ((repeat (first|exact mH|refine mT ?_));done)))|(apply len_isN;assumption)))|(apply len_sub;(focus (first|exact len_nil|(apply len_given;assumption)|(apply len_row;(focus ((repeat (first|exact mH|refine mT ?_));done)))|(apply len_isN;assumption)));(focus omega);(focus omega))));(focus omega))
          |(refine gLoad ?_;(first
              |(apply F_load1 rfl rfl;(focus ((repeat (first|exact mH|refine mT ?_));done));(first|exact T.sc4|exact T.sc27|exact T.sc43);rfl;(focus (first|exact free0|exact free1|(refine free2 ?_ ?_;(focus ((repeat (first|(apply apart1;(repeat (first|exact mH|refine mT ?_));done)|(apply apart2;(repeat (first|exact mH|refine mT ?_));done)|refine apart3 ?_));done));(first|exact free1|(refine free2 ?_ ?_;(focus ((repeat (first|(apply apart1;(repeat (first|exact mH|refine mT ?_));done)|(apply apart2;(repeat (first|exact mH|refine mT ?_));done)|refine apart3 ?_));done));exact free1))))))
              |(apply F_loadAll rfl rfl;(focus ((repeat (first|exact mH|refine mT ?_));done));(first|exact T.rw24|exact T.rw45|exact T.rw67);(focus (first|exact free0|exact free1|(refine free2 ?_ ?_;(focus ((repeat (first|(apply apart1;(repeat (first|exact mH|refine mT ?_));done)|(apply apart2;(repeat (first|exact mH|refine mT ?_));done)|refine apart3 ?_));done));(first|exact free1|(refine free2 ?_ ?_;(focus ((repeat (first|(apply apart1;(repeat (first|exact mH|refine mT ?_));done)|(apply apart2;(repeat (first|exact mH|refine mT ?_));done)|refine apart3 ?_));done));exact free1))))))))
          |(refine gStore ?_;(first
              |(apply F_storeN rfl rfl;(focus (first|rfl|assumption|(simp only [List.append_nil,List.all_cons,List.all_nil,Bool.and_true,Bool.true_and,one_int,one_bool,one_string,one_slice,one_pointer, *];done)));(first|exact T.rw24|exact T.rw45|exact T.rw67);(focus ((repeat (first|exact Upd.here|apply Upd.there));done));(focus ((repeat (first|exact SetSeg.nil|apply SetSeg.here|apply SetSeg.there));done));(first|exact okst2|exact okst1|exact okst1'))
              |(apply F_storeM0 rfl rfl;(focus ((repeat (first|exact Upd.here|apply Upd.there));done));(focus assumption);(first|exact T.sc4|exact T.sc27|exact T.sc43);(focus (first|rfl|assumption));(focus ((repeat (first|exact SetSeg.nil|apply SetSeg.here|apply SetSeg.there));done));(focus omega);(first|exact okst2|exact okst1|exact okst1'))))
          |(apply F_build2 rfl (hd := rfl);(first|exact T.st24|exact T.st45|exact T.st67);(focus ((repeat (first|exact BuildR.nil|(apply BuildR.cons;(first|exact T.fs24_0|exact T.fs24_1|exact T.fs24_2|exact T.fs24_3|exact T.fs24_4|exact T.fs24_5|exact T.fs24_6|exact T.fs24_7|exact T.fs24_8|exact T.fs45_0|exact T.fs45_1|exact T.fs67_0|exact T.fs67_1|exact T.fs67_2);rfl;rfl;(focus ((repeat (first|exact SetSeg.nil|apply SetSeg.here|apply SetSeg.there));done)))|(apply BuildR.cons1;(first|exact T.fs24_0|exact T.fs24_1|exact T.fs24_2|exact T.fs24_3|exact T.fs24_4|exact T.fs24_5|exact T.fs24_6|exact T.fs24_7|exact T.fs24_8|exact T.fs45_0|exact T.fs45_1|exact T.fs67_0|exact T.fs67_1|exact T.fs67_2);(focus assumption);(focus ((repeat (first|exact SetSeg.nil|apply SetSeg.here|apply SetSeg.there));done)))));done)))
          |(refine S_done ?_)))
      |((first
          |(refine C_seq ?_)
          |(refine gReg ?_;(first
              |(refine gReg (i := 16) ?_;refine C_plain [(0,0),(1,0),(2,0),(3,0),(4,0),(5,0),(6,2)] (by kernel_rfl) (s := [⟨0,none,_,_,_⟩,⟨0,none,_,_,_⟩,⟨0,none,_,_,_⟩,⟨0,none,_,_,_⟩,⟨0,none,_,_,_⟩,⟨0,none,_,_,_⟩,⟨2,none,_,_,_⟩]) rfl ?_)
              |(refine gReg (i := 17) ?_;refine C_plain [(0,0),(1,0),(2,2),(3,2),(4,0)] (by kernel_rfl) (s := [⟨0,none,_,_,_⟩,⟨0,none,_,_,_⟩,⟨2,none,_,_,_⟩,⟨2,none,_,_,_⟩,⟨0,none,_,_,_⟩]) rfl ?_)))
          |(refine C_ret ?_)))
      |(refine gE ?_;(first
          |(refine E_then ?_)
          |(apply E_ret3 rfl;(first|exact Res.tmp rfl|(apply R_cellAll rfl;(focus ((repeat (first|exact mH|refine mT ?_));done));(first|exact T.rw24|exact T.rw45|exact T.rw67))|(apply R_cell1 rfl;(focus ((repeat (first|exact mH|refine mT ?_));done));(first|exact T.sc4|exact T.sc27|exact T.sc43)));(first|exact Res.tmp rfl|(apply R_cellAll rfl;(focus ((repeat (first|exact mH|refine mT ?_));done));(first|exact T.rw24|exact T.rw45|exact T.rw67))|(apply R_cell1 rfl;(focus ((repeat (first|exact mH|refine mT ?_));done));(first|exact T.sc4|exact T.sc27|exact T.sc43)));(first|exact Res.tmp rfl|(apply R_cellAll rfl;(focus ((repeat (first|exact mH|refine mT ?_));done));(first|exact T.rw24|exact T.rw45|exact T.rw67))|(apply R_cell1 rfl;(focus ((repeat (first|exact mH|refine mT ?_));done));(first|exact T.sc4|exact T.sc27|exact T.sc43)))))))
    refine retS ((n,v,A ++ ((sv,cl ++ [pc]),since,bad) :: B),zeroP,3) ?_ rfl (Ent.trans (Ent.ghost 5 1) entA)
    rw [h3, if_neg (by simp)]
    show ((n, A.map ctFragSlot ++ (sl.map ctFragPacket ++ [ctFragPacket p], since, bad) :: B.map ctFragSlot), (joinC (sl.map ctFragPacket ++ [ctFragPacket p])).1, _) = ((n, (A ++ ((sv, cl ++ [pc]), since, bad) :: B).map ctFragSlot), _, _)
    rw [hjr, hj3.2, List.map_append, List.map_cons, ← hc, ← hpc]
    show _ = ((n, A.map ctFragSlot ++ ((cl ++ [pc]).map ctFragPacket, since, bad) :: B.map ctFragSlot), _, _)
    rw [List.map_append]
    rfl
set_option maxRecDepth 8192 in
theorem specFragTake_c (b : MFragBench) (p : MFragPacket) (hn : b.2.2.length ≤ 1048576) (hl : Short b.2.2) (hlp : p.2.2.2.2.2.2.2.2.2.length ≤ 1048576) (w : World) (hx : Rds w (rwFragBench b)) (hp : Rds w (rwFragPacket p)) : Calls Try.prog 33 #[.agg (clFragBench b).toArray, .agg (clFragPacket p).toArray] w
    (RetX (fun q : MFragBench × MFragPacket × Int => takeC b.1 (b.2.2.map ctFragSlot) (ctFragPacket p) = (ctFragBench q.1, ctFragPacket q.2.1, q.2.2)) (fun q => .tuple #[.agg (clFragBench q.1).toArray, .agg (clFragPacket q.2.1).toArray, .int .i64 q.2.2]) (fun q => [.many (rwFragBench q.1), .many (rwFragPacket q.2.1)]) w) := by
  have hopp := oneFragPacket hp
  have hobb := oneFragBench hx
  obtain ⟨fok, hfok⟩ : ∃ c, fragOk (ctFragPacket p) = c := ⟨_, rfl⟩
  refine enter (n := 58) (E := [(0, _), (1, _)]) Try.func33 rfl rfl rfl rfl ?_
  repeat' (first
    |(refine gS ?_;(first
        |(refine gGuard ?_;(first
            |(refine S_on rfl ?_)
            |(refine S_off rfl rfl rfl ?_)
            |(refine S_gsplit rfl ?_ ?_ <;> (intro hb;(try simp only [decide_eq_true_eq] at hb);(try simp only [decide_eq_false_iff_not] at hb);(try simp only [Bool.not_eq_true'] at hb);(try simp only [Bool.not_eq_false'] at hb);(try (exfalso;first|contradiction|omega))))))
        |(refine S_move rfl rfl ?_)
        |(refine S_assign rfl rfl ?_)
        |(apply F_field rfl rfl;(first|exact T.fl24_6|exact T.fl24_7|exact T.fl45_1))
        |(refine gLoad ?_;(first
            |(apply F_load1 rfl rfl;(focus ((repeat (first|exact mH|refine mT ?_));done));(first|exact T.sc3|exact T.sc4|exact T.sc43);rfl;(focus (first|exact free0|exact free1|(refine free2 ?_ ?_;(focus ((repeat (first|(apply apart1;(repeat (first|exact mH|refine mT ?_));done)|(apply apart2;(repeat (first|exact mH|refine mT ?_));done)|refine apart3 ?_));done));(first|exact free1|(refine free2 ?_ ?_;(focus ((repeat (first|(apply apart1;(repeat (first|exact mH|refine mT ?_));done)|(apply apart2;(repeat (first|exact mH|refine mT ?_));done)|refine apart3 ?_));done));exact free1))))))
            |(apply F_loadAll rfl rfl;(focus ((repeat (first|exact mH|refine mT ?_));done));(first|exact T.rw24|exact T.rw45);(focus (first|exact free0|exact free1|(refine free2 ?_ ?_;(focus ((repeat (first|(apply apart1;(repeat (first|exact mH|refine mT ?_));done)|(apply apart2;(repeat (first|exact mH|refine mT ?_));done)|refine apart3 ?_));done));(first|exact free1|(refine free2 ?_ ?_;(focus ((repeat (first|(apply apart1;(repeat (first|exact mH|refine mT ?_));done)|(apply apart2;(repeat (first|exact mH|refine mT ?_));done)|refine apart3 ?_));done));exact free1))))))))
        |(refine gStore ?_;(first
            |(apply F_storeN rfl rfl;(focus (first|rfl|assumption|(simp only [List.append_nil,List.all_cons,List.all_nil,Bool.and_true,Bool.true_and,one_int,one_bool,one_string,one_slice,one_pointer, *];done)));(first|exact T.rw24|exact T.rw45);(focus ((repeat (first|exact Upd.here|apply Upd.there));done));(focus ((repeat (first|exact SetSeg.nil|apply SetSeg.here|apply SetSeg.there));done));(first|exact okst2|exact okst1|exact okst1'))))
        |(refine gCall ?_;(first
            |(show GoS _ _ _ _ _ _ _ (⟨_,_,_,.call ⟨.value (.func 24),_,_⟩,_⟩ :: _);refine S_callX (f := 24) rfl T.pf24 rfl (fun w hst => specFragBenchOk_c b hn hl w (by first|(refine Rds.given hst ?_;assumption)|(apply Rds.many hst;(focus ((repeat (first|exact mH|refine mT ?_));done)))|(apply Rds.row hst;(focus ((repeat (first|exact mH|refine mT ?_));done))))) rfl (fun zz hzz => ?_);simp only [List.cons_append,List.nil_append];revert hzz;revert zz;intro rr hrr)
            |(show GoS _ _ _ _ _ _ _ (⟨_,_,_,.call ⟨.value (.func 76),_,_⟩,_⟩ :: _);refine S_callX (f := 76) rfl T.pf76 rfl (fun w hst => l14Copy_c b hn hl w (by first|(refine Rds.given hst ?_;assumption)|(apply Rds.many hst;(focus ((repeat (first|exact mH|refine mT ?_));done)))|(apply Rds.row hst;(focus ((repeat (first|exact mH|refine mT ?_));done))))) rfl (fun zz hzz => ?_);simp only [List.cons_append,List.nil_append];revert hzz;revert zz;intro y hy;refine S_fact (fun w hs => oneFragBench (Rds.many hs (by (focus ((repeat (first|exact mH|refine mT ?_));done))))) (fun hone => ?_))
            |(show GoS _ _ _ _ _ _ _ (⟨_,_,_,.call ⟨.value (.func 22),_,_⟩,_⟩ :: _);refine S_callN (f := 22) rfl T.pf22 rfl (fun w hst => hfok ▸ specFragOk_c p hlp w (by first|(refine Rds.given hst ?_;assumption)|(apply Rds.many hst;(focus ((repeat (first|exact mH|refine mT ?_));done)))|(apply Rds.row hst;(focus ((repeat (first|exact mH|refine mT ?_));done))))) rfl ?_)
            |(show GoS _ _ _ _ _ _ _ (⟨_,_,_,.call ⟨.value (.func 55),_,_⟩,_⟩ :: _);refine S_callX (f := 55) rfl T.pf55 rfl (fun w hst => l11Copy_c p hlp w (by first|(refine Rds.given hst ?_;assumption)|(apply Rds.many hst;(focus ((repeat (first|exact mH|refine mT ?_));done)))|(apply Rds.row hst;(focus ((repeat (first|exact mH|refine mT ?_));done))))) rfl (fun zz hzz => ?_);simp only [List.cons_append,List.nil_append];revert hzz;revert zz;intro pc hpc;refine S_fact (fun w hs => oneFragPacket (Rds.many hs (by (focus ((repeat (first|exact mH|refine mT ?_));done))))) (fun hone => ?_))))
        |(refine gBin ?_;(first
            |(refine S_eql rfl rfl rfl ?_)))
        |(refine gPick ?_;(first
            |(refine S_pickT rfl rfl rfl ?_)
            |(refine S_pickF rfl rfl rfl ?_)))
        |(refine S_box rfl rfl rfl ?_;intro kb)
        |(apply S_alloc rfl (hd := rfl);(first|exact T.zc24|exact T.zc45);intro kb)
        |(apply F_build2 rfl (hd := rfl);(first|exact T.st24|exact T.st45);(focus ((repeat (first|exact BuildR.nil|(apply BuildR.cons;(first|exact T.fs24_0|exact T.fs24_1|exact T.fs24_2|exact T.fs24_3|exact T.fs24_4|exact T.fs24_5|exact T.fs24_6|exact T.fs24_7|exact T.fs24_8|exact T.fs45_0|exact T.fs45_1);rfl;rfl;(focus ((repeat (first|exact SetSeg.nil|apply SetSeg.here|apply SetSeg.there));done)))|(apply BuildR.cons1;(first|exact T.fs24_0|exact T.fs24_1|exact T.fs24_2|exact T.fs24_3|exact T.fs24_4|exact T.fs24_5|exact T.fs24_6|exact T.fs24_7|exact T.fs24_8|exact T.fs45_0|exact T.fs45_1);(focus assumption);(focus ((repeat (first|exact SetSeg.nil|apply SetSeg.here|apply SetSeg.there));done)))));done)))
        |(refine S_not rfl rfl ?_)
        |(refine S_done ?_)))
    |(refine gC ?_;(first
        |(refine gSeqCond (i := 6) ?_;refine C_join (α := Nat × Nat × Nat × Nat) (fun s => [(7,.pointer (some ⟨s.1,0,none⟩)),(5,.pointer (some ⟨s.2.1,0,none⟩)),(4,.pointer (some ⟨s.2.2.1,0,none⟩)),(3,.pointer (some ⟨s.2.2.2,0,none⟩))]) (fun s => [.blk s.1 45 [.int .i64 y.1,y.2.1],.row y.2.1 67 3 y.2.2.length (y.2.2.flatMap clFragSlot),.many (y.2.2.flatMap rwFragSlot),.blk s.2.1 24 (clFragPacket zeroP),.blk s.2.2.1 45 [.int .i64 0,.slice none 0 0],.blk s.2.2.2 24 (clFragPacket p)]) (fun _ => ¬ (p.2.2.2.2.2.2.1 = 0 ∧ p.2.2.2.2.2.2.2.1 = false)) ?_ ?_)
        |(refine C_seq ?_)
        |(refine gReg ?_;(first
            |(refine gReg (i := 0) ?_;refine C_plain [(0,2),(1,2),(2,2),(3,2),(4,0)] (by kernel_rfl) (s := [⟨2,none,_,_,_⟩,⟨2,none,_,_,_⟩,⟨2,none,_,_,_⟩,⟨2,none,_,_,_⟩,⟨0,none,_,_,_⟩]) rfl ?_)
            |(refine gReg (i := 1) ?_;refine C_plain [(0,0),(1,2),(2,0)] (by kernel_rfl) (s := [⟨0,none,_,_,_⟩,⟨2,none,_,_,_⟩,⟨0,none,_,_,_⟩]) rfl ?_)
            |(refine gReg (i := 2) ?_;refine C_plain [(0,0),(1,0),(2,2),(3,2),(4,0)] (by kernel_rfl) (s := [⟨0,none,_,_,_⟩,⟨0,none,_,_,_⟩,⟨2,none,_,_,_⟩,⟨2,none,_,_,_⟩,⟨0,none,_,_,_⟩]) rfl ?_)
            |(refine gReg (i := 3) ?_;refine C_plain [(0,0),(1,2),(2,2),(3,2)] (by kernel_rfl) (s := [⟨0,none,_,_,_⟩,⟨2,none,_,_,_⟩,⟨2,none,_,_,_⟩,⟨2,none,_,_,_⟩]) rfl ?_)
            |(refine gReg (i := 4) ?_;refine C_plain [(0,0),(1,2),(2,0)] (by kernel_rfl) (s := [⟨0,none,_,_,_⟩,⟨2,none,_,_,_⟩,⟨0,none,_,_,_⟩]) rfl ?_)
            |(refine gReg (i := 5) ?_;refine C_plain [(0,0),(1,0),(2,2),(3,2),(4,0)] (by kernel_rfl) (s := [⟨0,none,_,_,_⟩,⟨0,none,_,_,_⟩,⟨2,none,_,_,_⟩,⟨2,none,_,_,_⟩,⟨0,none,_,_,_⟩]) rfl ?_)
            |(refine gReg (i := 6) ?_;refine C_plain [(0,0),(1,0),(2,0),(3,0),(4,0),(5,0),(6,0),(7,0)] (by kernel_rfl) (s := [⟨0,none,_,_,_⟩,⟨0,none,_,_,_⟩,⟨0,none,_,_,_⟩,⟨0,none,_,_,_⟩,⟨0,some (27,true),_,_,_⟩,⟨0,some (27,true),_,_,_⟩,⟨0,some (27,true),_,_,_⟩,⟨0,none,_,_,_⟩]) rfl ?_)
            |(refine gReg (i := 7) ?_;refine C_drawn [(0,0),(1,0),(2,1),(3,2),(4,2),(5,0)] [] T.mixed (by kernel_rfl) (s := [⟨0,none,_,_,_⟩,⟨0,none,_,_,_⟩,⟨1,none,_,_,_⟩,⟨2,none,_,_,_⟩,⟨2,none,_,_,_⟩,⟨0,none,_,_,_⟩]) rfl ?_)))
        |(refine C_false rfl ?_)
        |(refine C_split rfl ?_ ?_ <;> (intro hb;(try simp only [decide_eq_true_eq] at hb);(try simp only [decide_eq_false_iff_not] at hb);(try simp only [Bool.not_eq_true'] at hb);(try simp only [Bool.not_eq_false'] at hb);(try (exfalso;first|contradiction|omega))))
        |(refine C_skip ?_)
        |(refine C_ret ?_)))
    |(refine gE ?_;(first
        |(refine E_then ?_)
        |(refine E_thenR ?_)
        |(refine E_calm ?_)
        | (apply E_ret3 rfl; (first | exact Res.tmp rfl | (apply R_cellAll rfl; (focus ((repeat (first | exact List.Mem.head _ | refine List.Mem.tail _ ?_)); done)); (first | exact T.rw24 | exact T.rw45)) | (apply R_cell1 rfl; (focus ((repeat (first | exact List.Mem.head _ | refine List.Mem.tail _ ?_)); done)); (first | exact T.sc3 | exact T.sc4 | exact T.sc43))); (first | exact Res.tmp rfl | (apply R_cellAll rfl; (focus ((repeat (first | exact List.Mem.head _ | refine List.Mem.tail _ ?_)); done)); (first | exact T.rw24 | exact T.rw45)) | (apply R_cell1 rfl; (focus ((repeat (first | exact List.Mem.head _ | refine List.Mem.tail _ ?_)); done)); (first | exact T.sc3 | exact T.sc4 | exact T.sc43))); (first | exact Res.tmp rfl | (apply R_cellAll rfl; (focus ((repeat (first | exact List.Mem.head _ | refine List.Mem.tail _ ?_)); done)); (first | exact T.rw24 | exact T.rw45)) | (apply R_cell1 rfl; (focus ((repeat (first | exact List.Mem.head _ | refine List.Mem.tail _ ?_)); done)); (first | exact T.sc3 | exact T.sc4 | exact T.sc43)))))))
  · refine retX (((0,.slice none 0 0,[]),zeroP,1) : MFragBench × MFragPacket × Int) (takeC_bad (n := b.1) fun h => ?_) rfl (Ent.trans (Ent.ghost 67 3) (Ent.trans (Ent.ghost 5 1) entA))
    have h1 := hrr.2 h
    rw [hb] at h1; cases h1
  · refine retX (y,zeroP,2) ?_ rfl (Ent.trans (Ent.ghost 5 1) entA)
    rw [takeC_no (hrr.1 (by assumption)) (hfok.trans hb)]
    show (ctFragBench b, _, _) = (ctFragBench y, _, _)
    rw [hy]
  · refine retX (y,pc,0) ?_ rfl entA
    rw [takeC_whole (hrr.1 (by assumption)) (hfok.trans (by assumption)) ⟨by assumption, by assumption⟩]
    show (ctFragBench b, _, _) = (ctFragBench y, ctFragPacket pc, _)
    rw [hy, hpc]
  all_goals try exact E_join (α := Nat × Nat × Nat × Nat) (_,_,_,_) (by intro h;simp_all) ⟨rfl,rfl,rfl,rfl,trivial⟩ entA
  rintro ⟨k7, k5, k4, k3⟩ hnw
  have hg : BenchGood (ctFragBench b) := hrr.1 (by assumption)
  have hfk : fragOk (ctFragPacket p) = true := hfok.trans (by assumption)
  clear hone hopp hobb
  have hcp := copyOf hy
  obtain ⟨hcn, hcc⟩ := hcp
  obtain ⟨now, v, l⟩ := y
  obtain ⟨bn, bv, bl⟩ := b
  dsimp only at *
  rw [← hcc]
  have hg2 : BenchGood (now, l.map ctFragSlot) := by
    have h1 : (ctFragBench (bn, bv, bl)) = (now, l.map ctFragSlot) := by rw [hcc, hcn]; rfl
    rw [← h1]; exact hg
  subst hcn
  have hgs := good_slot hg2
  have hgo : ∀ s ∈ l, 1 ≤ s.1.2.length ∧ fragOk (headS s) = true := fun s hs => good_ok (hgs s hs)
  have hlen : l.length ≤ 4 := by
    have h1 := (good_now hg2).2.2
    rw [List.length_map] at h1
    exact h1
  have hsh : Short l := fun s hs => ⟨by have := good_len (hgs s hs); omega, slots_ct hcc (P := fun c => c.2.2.2.2.2.2.2.2.length ≤ 1048576) (fun r hr => (hl r hr).2) s hs⟩
  refine C_fact (row_one (v := v) (by (focus ((repeat (first|exact mH|refine mT ?_));done)))) (fun honev => ?_)
  repeat' (first
    |(refine gS ?_;(first
        |(refine S_assign rfl rfl ?_)
        |(apply F_field rfl rfl;(first|exact T.fl24_6|exact T.fl24_7|exact T.fl45_1))
        |(refine gLoad ?_;(first
            |(apply F_load1 rfl rfl;(focus ((repeat (first|exact mH|refine mT ?_));done));(first|exact T.sc3|exact T.sc4|exact T.sc43);rfl;(focus (first|exact free0|exact free1|(refine free2 ?_ ?_;(focus ((repeat (first|(apply apart1;(repeat (first|exact mH|refine mT ?_));done)|(apply apart2;(repeat (first|exact mH|refine mT ?_));done)|refine apart3 ?_));done));(first|exact free1|(refine free2 ?_ ?_;(focus ((repeat (first|(apply apart1;(repeat (first|exact mH|refine mT ?_));done)|(apply apart2;(repeat (first|exact mH|refine mT ?_));done)|refine apart3 ?_));done));exact free1))))))
            |(apply F_loadAll rfl rfl;(focus ((repeat (first|exact mH|refine mT ?_));done));(first|exact T.rw24|exact T.rw45);(focus (first|exact free0|exact free1|(refine free2 ?_ ?_;(focus ((repeat (first|(apply apart1;(repeat (first|exact mH|refine mT ?_));done)|(apply apart2;(repeat (first|exact mH|refine mT ?_));done)|refine apart3 ?_));done));(first|exact free1|(refine free2 ?_ ?_;(focus ((repeat (first|(apply apart1;(repeat (first|exact mH|refine mT ?_));done)|(apply apart2;(repeat (first|exact mH|refine mT ?_));done)|refine apart3 ?_));done));exact free1))))))))
        |(refine gCall ?_;(first
            |(show GoS _ _ _ _ _ _ _ (⟨_,_,_,.call ⟨.value (.func 72),_,_⟩,_⟩ :: _);refine S_callX (f := 72) rfl T.pf72 rfl (fun w hst => l14SlotF_c (v,l) p hsh hgo hlp hfk w (Rds.cons (Mem.row hst (by (focus ((repeat (first|exact mH|refine mT ?_));done)))) (Rds.many hst (by (focus ((repeat (first|exact mH|refine mT ?_));done))))) (Rds.given hst hp)) rfl (fun zz hzz => ?_);simp only [List.cons_append,List.nil_append];revert hzz;revert zz;intro n hnn)))
        |(refine S_done ?_)))
    |(refine gC ?_;(first
        |(refine C_seq ?_)
        |(refine gReg ?_;(first
            |(refine gReg (i := 8) ?_;refine C_plain [(0,0),(1,0),(2,0),(3,2),(4,0)] (by kernel_rfl) (s := [⟨0,none,_,_,_⟩,⟨0,none,_,_,_⟩,⟨0,none,_,_,_⟩,⟨2,none,_,_,_⟩,⟨0,none,_,_,_⟩]) rfl ?_)))))
    |(refine gE ?_;(first
        |(refine E_then ?_))))
  have hctl := ct_short hsh
  rcases hnn with ⟨rfl, hno⟩ | ⟨k, rfl, hk, hpk, hfst⟩
  · have hno2 : ∀ s ∈ l.map ctFragSlot, likeC (headC s.1) (ctFragPacket p) = false := fun s hs => by
      obtain ⟨y, hy, rfl⟩ := List.mem_map.1 hs
      obtain ⟨j, hj⟩ := List.getElem?_of_mem hy
      have hlt : j < l.length := (List.getElem?_eq_some_iff.1 hj).1
      have e : y = ix l j := Option.some.inj (hj.symm.trans (nthD (by omega)))
      rw [e]; exact hno j hlt
    rw [takeC_new hg2 hfk hnw hno2]
    have hnsh : ∀ q : MFragBench, ctFragBench q = (now, (if (l.map ctFragSlot).length = 4 then (l.map ctFragSlot).drop 1 else l.map ctFragSlot) ++ [([ctFragPacket p], now, false)]) → q.2.2.length ≤ 1048576 ∧ Short q.2.2 := fun q hq => bench_short hq (by
      rw [List.length_append, List.length_singleton]
      split
      · rw [List.length_drop, List.length_map]; omega
      · rw [List.length_map]; omega) fun c hc => by
        rcases List.mem_append.1 hc with h | h
        · split at h
          · exact hctl c (List.mem_of_mem_drop h)
          · exact hctl c h
        · rw [List.mem_singleton] at h
          rw [h]
          exact ⟨by simp, fun q hq => by rw [List.mem_singleton] at hq; rw [hq]; exact hlp⟩
    repeat' (first
      |(refine gS ?_;(first
          |(refine S_move rfl rfl ?_)
          |(refine S_assign rfl rfl ?_)
          |(refine gLoad ?_;(first
              |(apply F_loadAll rfl rfl;(focus ((repeat (first|exact mH|refine mT ?_));done));(first|exact T.rw24|exact T.rw45);(focus (first|exact free0|exact free1|(refine free2 ?_ ?_;(focus ((repeat (first|(apply apart1;(repeat (first|exact mH|refine mT ?_));done)|(apply apart2;(repeat (first|exact mH|refine mT ?_));done)|refine apart3 ?_));done));(first|exact free1|(refine free2 ?_ ?_;(focus ((repeat (first|(apply apart1;(repeat (first|exact mH|refine mT ?_));done)|(apply apart2;(repeat (first|exact mH|refine mT ?_));done)|refine apart3 ?_));done));exact free1))))))))
          |(refine gStore ?_;(first
              |(apply F_storeN rfl rfl;(focus (first|rfl|assumption|(simp only [List.append_nil,List.all_cons,List.all_nil,Bool.and_true,Bool.true_and,one_int,one_bool,one_string,one_slice,one_pointer, *];done)));(first|exact T.rw24|exact T.rw45);(focus ((repeat (first|exact Upd.here|apply Upd.there));done));(focus ((repeat (first|exact SetSeg.nil|apply SetSeg.here|apply SetSeg.there));done));(first|exact okst2|exact okst1|exact okst1'))))
          |(refine gCall ?_;(first
              |(show GoS _ _ _ _ _ _ _ (⟨_,_,_,.call ⟨.value (.func 83),_,_⟩,_⟩ :: _);apply S_callS (f := 83) T.pf83 rfl rfl (fun w hst => l14New_c now v l p hlen hlp _ hp w hst);(focus ((repeat (first|exact Pull.nil|(apply Pull.app;(focus ((repeat (first|exact PickA.here|exact PickA.all|apply PickA.there|apply PickA.over));done)))|(apply Pull.cons;(focus ((repeat (first|exact Pick.here|exact Pick.last|apply Pick.there|apply Pick.over));done)))|(apply Pull.atom;(focus ((repeat (first|exact PickA.here|exact PickA.all|apply PickA.there|apply PickA.over));done)))));done));intro zz hzz;simp only [List.cons_append,List.nil_append];revert hzz;revert zz;intro q hq;have hqs := hnsh q hq;have hqs1 := hqs.1;have hqs2 := hqs.2)
              |(show GoS _ _ _ _ _ _ _ (⟨_,_,_,.call ⟨.value (.func 76),_,_⟩,_⟩ :: _);refine S_callX (f := 76) rfl T.pf76 rfl (fun w hst => l14Copy_c q hqs1 hqs2 w (by first|(refine Rds.given hst ?_;assumption)|(apply Rds.many hst;(focus ((repeat (first|exact mH|refine mT ?_));done)))|(apply Rds.row hst;(focus ((repeat (first|exact mH|refine mT ?_));done))))) rfl (fun zz hzz => ?_);simp only [List.cons_append,List.nil_append];revert hzz;revert zz;intro y2 hy2;refine S_fact (fun w hs => oneFragBench (Rds.many hs (by (focus ((repeat (first|exact mH|refine mT ?_));done))))) (fun hone => ?_))))
          |(refine gBin ?_;(first
              |(refine S_lss rfl rfl rfl ?_)))
          |(apply F_build2 rfl (hd := rfl);(first|exact T.st24|exact T.st45);(focus ((repeat (first|exact BuildR.nil|(apply BuildR.cons;(first|exact T.fs24_0|exact T.fs24_1|exact T.fs24_2|exact T.fs24_3|exact T.fs24_4|exact T.fs24_5|exact T.fs24_6|exact T.fs24_7|exact T.fs24_8|exact T.fs45_0|exact T.fs45_1);rfl;rfl;(focus ((repeat (first|exact SetSeg.nil|apply SetSeg.here|apply SetSeg.there));done)))|(apply BuildR.cons1;(first|exact T.fs24_0|exact T.fs24_1|exact T.fs24_2|exact T.fs24_3|exact T.fs24_4|exact T.fs24_5|exact T.fs24_6|exact T.fs24_7|exact T.fs24_8|exact T.fs45_0|exact T.fs45_1);(focus assumption);(focus ((repeat (first|exact SetSeg.nil|apply SetSeg.here|apply SetSeg.there));done)))));done)))
          |(refine S_done ?_)))
      |(refine gC ?_;(first
          |(refine C_seq ?_)
          |(refine gReg ?_;(first
              |(refine gReg (i := 9) ?_;refine C_plain [(0,0),(1,0)] (by kernel_rfl) (s := [⟨0,none,_,_,_⟩,⟨0,none,_,_,_⟩]) rfl ?_)
              |(refine gReg (i := 10) ?_;refine C_plain [(0,0),(1,0),(2,2),(3,2),(4,0),(5,2),(6,2),(7,0)] (by kernel_rfl) (s := [⟨0,none,_,_,_⟩,⟨0,none,_,_,_⟩,⟨2,none,_,_,_⟩,⟨2,none,_,_,_⟩,⟨0,none,_,_,_⟩,⟨2,none,_,_,_⟩,⟨2,none,_,_,_⟩,⟨0,none,_,_,_⟩]) rfl ?_)))
          |(refine C_true rfl ?_)
          |(refine C_ret ?_)))
      |(refine gE ?_;(first
          |(refine E_then ?_)
          |(refine E_thenR ?_)
          | (apply E_ret3 rfl; (first | exact Res.tmp rfl | (apply R_cellAll rfl; (focus ((repeat (first | exact List.Mem.head _ | refine List.Mem.tail _ ?_)); done)); (first | exact T.rw24 | exact T.rw45)) | (apply R_cell1 rfl; (focus ((repeat (first | exact List.Mem.head _ | refine List.Mem.tail _ ?_)); done)); (first | exact T.sc3 | exact T.sc4 | exact T.sc43))); (first | exact Res.tmp rfl | (apply R_cellAll rfl; (focus ((repeat (first | exact List.Mem.head _ | refine List.Mem.tail _ ?_)); done)); (first | exact T.rw24 | exact T.rw45)) | (apply R_cell1 rfl; (focus ((repeat (first | exact List.Mem.head _ | refine List.Mem.tail _ ?_)); done)); (first | exact T.sc3 | exact T.sc4 | exact T.sc43))); (first | exact Res.tmp rfl | (apply R_cellAll rfl; (focus ((repeat (first | exact List.Mem.head _ | refine List.Mem.tail _ ?_)); done)); (first | exact T.rw24 | exact T.rw45)) | (apply R_cell1 rfl; (focus ((repeat (first | exact List.Mem.head _ | refine List.Mem.tail _ ?_)); done)); (first | exact T.sc3 | exact T.sc4 | exact T.sc43)))))))
    refine retX (y2,zeroP,3) ?_ rfl (Ent.trans (Ent.ghost 5 1) entA)
    show _ = (ctFragBench y2, _, _)
    rw [hy2, hq]
  obtain ⟨A, s, B, hl3, hAk, hps, hAs⟩ := split_first (q := fun s => likeC (headS s) (ctFragPacket p)) hk hpk hfst
  dsimp only at hl3
  subst hl3
  subst hAk
  have hsm : s ∈ A ++ s :: B := by simp
  have hs1 := (hgo s hsm).1
  have hs2 := good_len (hgs s hsm)
  have hls : ∀ q ∈ s.1.2, q.2.2.2.2.2.2.2.2.2.length ≤ 1048576 := slots_ct hcc (P := fun c => c.2.2.2.2.2.2.2.2.length ≤ 1048576) (fun r hr => (hl r hr).2) s hsm
  have hne : s.1.2.length = 40 ∨ (joinC ((ctFragSlot s).1 ++ [ctFragPacket p])).2 ≠ 1 := by
    have h1 := good_len40 (hgs s hsm)
    rcases Nat.lt_or_ge s.1.2.length 40 with h2 | h2
    · exact .inr (join_add_ne (hgs s hsm).2.2.2.1 (by show (s.1.2.map ctFragPacket).length < 40; rw [List.length_map]; exact h2) hps hfk)
    · left; omega
  have hput := takeC_put (n := now) (A := A.map ctFragSlot) (B := B.map ctFragSlot) (s := ctFragSlot s) (p := ctFragPacket p) (by rw [List.map_append, List.map_cons] at hg2; exact hg2) hfk hnw (fun r hr => by
    obtain ⟨y, hy, rfl⟩ := List.mem_map.1 hr
    exact hAs y hy) hps
  rw [List.map_append, List.map_cons, hput]
  have hA : (A.flatMap clFragSlot).length = A.length * 3 := flat_len (m := 3) (fun _ => rfl) A
  have hAB : A.length + (B.length + 1) ≤ 4 := by
    rw [List.length_append, List.length_cons] at hlen; exact hlen
  have hnsh : ∀ q : MFragBench × MFragPacket × Int, (if (inI (ctFragSlot s) (ctFragPacket p)).2.2 = 0 then ((now, A.map ctFragSlot ++ B.map ctFragSlot), (inI (ctFragSlot s) (ctFragPacket p)).2.1, 0) else ((now, A.map ctFragSlot ++ (inI (ctFragSlot s) (ctFragPacket p)).1 :: B.map ctFragSlot), (inI (ctFragSlot s) (ctFragPacket p)).2.1, (inI (ctFragSlot s) (ctFragPacket p)).2.2)) = (ctFragBench q.1, ctFragPacket q.2.1, q.2.2) → q.1.2.2.length ≤ 1048576 ∧ Short q.1.2.2 := fun q hq => by
    rw [List.map_append, List.map_cons] at hctl
    have hi := inI_ok (s := ctFragSlot s) (p := ctFragPacket p) (hctl _ (by simp)) (by show (s.1.2.map ctFragPacket).length ≤ 1000; rw [List.length_map]; exact hs2) hlp
    split at hq
    · refine bench_short (congrArg (fun z : CFragBench × CFragPacket × Int => z.1) hq).symm (by rw [List.length_append, List.length_map, List.length_map]; omega) fun c hc => ?_
      rcases List.mem_append.1 hc with h | h
      · exact hctl c (List.mem_append_left _ h)
      · exact hctl c (List.mem_append_right _ (List.mem_cons_of_mem _ h))
    · refine bench_short (congrArg (fun z : CFragBench × CFragPacket × Int => z.1) hq).symm (by rw [List.length_append, List.length_cons, List.length_map, List.length_map]; omega) fun c hc => ?_
      rcases List.mem_append.1 hc with h | h
      · exact hctl c (List.mem_append_left _ h)
      · rcases List.mem_cons.1 h with h | h
        · rw [h]; exact hi
        · exact hctl c (List.mem_append_right _ (List.mem_cons_of_mem _ h))
  clear hput hgo hgs hcc hy hg hg2 hrr hpk hfst hl hk hsh hctl
  refine C_ent [.row v 67 3 (A.length + (B.length + 1)) (A.flatMap clFragSlot ++ (clFragSlot s ++ B.flatMap clFragSlot)),.many (rwFragSlot s),.many (A.flatMap rwFragSlot),.many (B.flatMap rwFragSlot),.blk k7 45 [.int .i64 now,v],.blk k5 24 (clFragPacket zeroP),.blk k4 45 [.int .i64 0,.slice none 0 0],.blk k3 24 (clFragPacket p)] entA ?_
  repeat' (first
    |(refine gS ?_;(first
        |(refine S_move rfl rfl ?_)
        |(refine S_assign rfl rfl ?_)
        |(refine gLoad ?_;(first
            |(apply F_loadAll rfl rfl;(focus ((repeat (first|exact mH|refine mT ?_));done));(first|exact T.rw24|exact T.rw45);(focus (first|exact free0|exact free1|(refine free2 ?_ ?_;(focus ((repeat (first|(apply apart1;(repeat (first|exact mH|refine mT ?_));done)|(apply apart2;(repeat (first|exact mH|refine mT ?_));done)|refine apart3 ?_));done));(first|exact free1|(refine free2 ?_ ?_;(focus ((repeat (first|(apply apart1;(repeat (first|exact mH|refine mT ?_));done)|(apply apart2;(repeat (first|exact mH|refine mT ?_));done)|refine apart3 ?_));done));exact free1))))))))
        |(refine gStore ?_;(first
            |(apply F_storeN rfl rfl;(focus (first|rfl|assumption|(simp only [List.append_nil,List.all_cons,List.all_nil,Bool.and_true,Bool.true_and,one_int,one_bool,one_string,one_slice,one_pointer, *];done)));(first|exact T.rw24|exact T.rw45);(focus ((repeat (first|exact Upd.here|apply Upd.there));done));(focus ((repeat (first|exact SetSeg.nil|apply SetSeg.here|apply SetSeg.there));done));(first|exact okst2|exact okst1|exact okst1'))))
        |(refine gCall ?_;(first
            |(show GoS _ _ _ _ _ _ _ (⟨_,_,_,.call ⟨.value (.func 84),_,_⟩,_⟩ :: _);apply S_callS (f := 84) T.pf84 rfl rfl (fun w hst => l14Put_c now v A B s p hA hAB hs1 hs2 hls hlp hne _ hp w hst);(focus ((repeat (first|exact Pull.nil|(apply Pull.app;(focus ((repeat (first|exact PickA.here|exact PickA.all|apply PickA.there|apply PickA.over));done)))|(apply Pull.cons;(focus ((repeat (first|exact Pick.here|exact Pick.last|apply Pick.there|apply Pick.over));done)))|(apply Pull.atom;(focus ((repeat (first|exact PickA.here|exact PickA.all|apply PickA.there|apply PickA.over));done)))));done));intro zz hzz;simp only [List.cons_append,List.nil_append];revert hzz;revert zz;rintro ⟨yq,z,cz⟩ hz;have hqs := hnsh _ hz;dsimp only at hz hqs ⊢;refine S_fact (fun w hs => oneFragPacket (Rds.many hs (by (focus ((repeat (first|exact mH|refine mT ?_));done))))) (fun hone => ?_);have honez := hone;refine S_fact (fun w hs => oneFragBench (Rds.many hs (by (focus ((repeat (first|exact mH|refine mT ?_));done))))) (fun hone => ?_);have hqs1 := hqs.1;have hqs2 := hqs.2)
            |(show GoS _ _ _ _ _ _ _ (⟨_,_,_,.call ⟨.value (.func 76),_,_⟩,_⟩ :: _);refine S_callX (f := 76) rfl T.pf76 rfl (fun w hst => l14Copy_c yq hqs1 hqs2 w (by first|(refine Rds.given hst ?_;assumption)|(apply Rds.many hst;(focus ((repeat (first|exact mH|refine mT ?_));done)))|(apply Rds.row hst;(focus ((repeat (first|exact mH|refine mT ?_));done))))) rfl (fun zz hzz => ?_);simp only [List.cons_append,List.nil_append];revert hzz;revert zz;intro y2 hy2;refine S_fact (fun w hs => oneFragBench (Rds.many hs (by (focus ((repeat (first|exact mH|refine mT ?_));done))))) (fun hone => ?_))))
        |(refine gBin ?_;(first
            |(refine S_lss rfl rfl rfl ?_)))
        |(apply S_alloc rfl (hd := rfl);(first|exact T.zc24|exact T.zc45);intro kb)
        |(refine S_extract rfl rfl rfl ?_)
        |(refine S_done ?_)))
    |(refine gC ?_;(first
        |(refine C_seq ?_)
        |(refine gReg ?_;(first
            |(refine gReg (i := 9) ?_;refine C_plain [(0,0),(1,0)] (by kernel_rfl) (s := [⟨0,none,_,_,_⟩,⟨0,none,_,_,_⟩]) rfl ?_)
            |(refine gReg (i := 11) ?_;refine C_plain [(0,0),(1,0),(2,0),(3,2),(4,0),(5,0),(6,0),(7,0),(8,2),(9,2),(10,2),(11,2),(12,0)] (by kernel_rfl) (s := [⟨0,none,_,_,_⟩,⟨0,none,_,_,_⟩,⟨0,none,_,_,_⟩,⟨2,none,_,_,_⟩,⟨0,none,_,_,_⟩,⟨0,none,_,_,_⟩,⟨0,none,_,_,_⟩,⟨0,none,_,_,_⟩,⟨2,none,_,_,_⟩,⟨2,none,_,_,_⟩,⟨2,none,_,_,_⟩,⟨2,none,_,_,_⟩,⟨0,none,_,_,_⟩]) rfl ?_)
            |(refine gReg (i := 12) ?_;refine C_drawn1 4 rfl [(0,0),(2,0),(3,0),(1,1),(4,1),(5,2),(6,0)] T.mixed (by kernel_rfl) (s := [⟨0,none,_,_,_⟩,⟨0,none,_,_,_⟩,⟨0,none,_,_,_⟩,⟨1,none,_,_,_⟩,⟨1,none,_,_,_⟩,⟨2,none,_,_,_⟩,⟨0,none,_,_,_⟩]) rfl ?_)))
        |(refine C_false rfl ?_)
        |(refine C_skip ?_)
        |(refine C_ret ?_)))
    |(refine gE ?_;(first
        |(refine E_then ?_)
        |(refine E_calm ?_)
        | (apply E_ret3 rfl; (first | exact Res.tmp rfl | (apply R_cellAll rfl; (focus ((repeat (first | exact List.Mem.head _ | refine List.Mem.tail _ ?_)); done)); (first | exact T.rw24 | exact T.rw45)) | (apply R_cell1 rfl; (focus ((repeat (first | exact List.Mem.head _ | refine List.Mem.tail _ ?_)); done)); (first | exact T.sc3 | exact T.sc4 | exact T.sc43))); (first | exact Res.tmp rfl | (apply R_cellAll rfl; (focus ((repeat (first | exact List.Mem.head _ | refine List.Mem.tail _ ?_)); done)); (first | exact T.rw24 | exact T.rw45)) | (apply R_cell1 rfl; (focus ((repeat (first | exact List.Mem.head _ | refine List.Mem.tail _ ?_)); done)); (first | exact T.sc3 | exact T.sc4 | exact T.sc43))); (first | exact Res.tmp rfl | (apply R_cellAll rfl; (focus ((repeat (first | exact List.Mem.head _ | refine List.Mem.tail _ ?_)); done)); (first | exact T.rw24 | exact T.rw45)) | (apply R_cell1 rfl; (focus ((repeat (first | exact List.Mem.head _ | refine List.Mem.tail _ ?_)); done)); (first | exact T.sc3 | exact T.sc4 | exact T.sc43)))))))
  all_goals
    refine retX (y2,z,cz) ?_ rfl entA
    rw [hz]
    show (ctFragBench yq, _, _) = (ctFragBench y2, _, _)
    rw [hy2]
end Go.Proofs.Ytodhjpnfokkfeaa

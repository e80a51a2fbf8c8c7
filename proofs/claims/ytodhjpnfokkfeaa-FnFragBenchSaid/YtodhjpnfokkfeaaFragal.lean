/- A piece taken on a bench: the implementation. -/
import Derived.Test.YtodhjpnfokkfeaaFragak
set_option linter.unusedSimpArgs false
set_option linter.unusedVariables false
namespace Go.Proofs.Ytodhjpnfokkfeaa
open Go Go.RowKit
def npC (p : CFragPacket) (s : CFragSlot) : Bool := !likeC (headC s.1) p
open Classical in
/-- a packet taken on a bench: the bench then, what passes, the code -/
noncomputable def takeC (n : Int) (l : List CFragSlot) (p : CFragPacket) : CFragBench × CFragPacket × Int :=
  if BenchGood (n, l) then
    if fragOk p = true then
      if p.2.2.2.2.2.2.1 = 0 ∧ p.2.2.2.2.2.2.2.1 = false then ((n, l), p, 0)
      else match l.dropWhile (npC p) with
        | [] => ((n, (if l.length = 4 then l.drop 1 else l) ++ [([p], n, false)]), ctFragPacket zeroP, 3)
        | s :: B => if (inI s p).2.2 = 0 then ((n, l.takeWhile (npC p) ++ B), (inI s p).2.1, 0) else ((n, l.takeWhile (npC p) ++ (inI s p).1 :: B), (inI s p).2.1, (inI s p).2.2)
    else ((n, l), ctFragPacket zeroP, 2)
  else ((0, []), ctFragPacket zeroP, 1)
theorem takeC_bad {n : Int} {l : List CFragSlot} {p : CFragPacket} (h : ¬ BenchGood (n, l)) : takeC n l p = ((0, []), ctFragPacket zeroP, 1) := if_neg h
theorem takeC_no {n : Int} {l : List CFragSlot} {p : CFragPacket} (h : BenchGood (n, l)) (h2 : fragOk p = false) : takeC n l p = ((n, l), ctFragPacket zeroP, 2) := by
  unfold takeC
  rw [if_pos h, if_neg (by rw [h2]; simp)]
theorem takeC_whole {n : Int} {l : List CFragSlot} {p : CFragPacket} (h : BenchGood (n, l)) (h2 : fragOk p = true) (h3 : p.2.2.2.2.2.2.1 = 0 ∧ p.2.2.2.2.2.2.2.1 = false) : takeC n l p = ((n, l), p, 0) := by
  unfold takeC
  rw [if_pos h, if_pos h2, if_pos h3]
theorem drop_none {n : CFragSlot → Bool} : ∀ {l : List CFragSlot}, (∀ s ∈ l, n s = true) → l.dropWhile n = []
  | [], _ => rfl
  | a :: l, h => by
    rw [List.dropWhile_cons, if_pos (h a (by simp))]
    exact drop_none fun s hs => h s (List.mem_cons_of_mem _ hs)
theorem while_split {n : CFragSlot → Bool} {s : CFragSlot} {B : List CFragSlot} (hs : n s = false) : ∀ {A : List CFragSlot}, (∀ r ∈ A, n r = true) → (A ++ s :: B).dropWhile n = s :: B ∧ (A ++ s :: B).takeWhile n = A
  | [], _ => by
    rw [List.nil_append, List.dropWhile_cons, List.takeWhile_cons, hs]
    exact ⟨rfl, rfl⟩
  | a :: A, h => by
    have ih := while_split (B := B) hs (A := A) fun r hr => h r (List.mem_cons_of_mem _ hr)
    rw [List.cons_append, List.dropWhile_cons, List.takeWhile_cons, h a (by simp)]
    exact ⟨ih.1, by rw [if_pos rfl, ih.2]⟩
theorem takeC_new {n : Int} {l : List CFragSlot} {p : CFragPacket} (h : BenchGood (n, l)) (h2 : fragOk p = true) (h3 : ¬ (p.2.2.2.2.2.2.1 = 0 ∧ p.2.2.2.2.2.2.2.1 = false)) (h4 : ∀ s ∈ l, likeC (headC s.1) p = false) : takeC n l p = ((n, (if l.length = 4 then l.drop 1 else l) ++ [([p], n, false)]), ctFragPacket zeroP, 3) := by
  unfold takeC
  rw [if_pos h, if_pos h2, if_neg h3, drop_none (n := npC p) fun s hs => by unfold npC; rw [h4 s hs]; rfl]
theorem takeC_put {n : Int} {A B : List CFragSlot} {s : CFragSlot} {p : CFragPacket} (h : BenchGood (n, A ++ s :: B)) (h2 : fragOk p = true) (h3 : ¬ (p.2.2.2.2.2.2.1 = 0 ∧ p.2.2.2.2.2.2.2.1 = false)) (h4 : ∀ s ∈ A, likeC (headC s.1) p = false) (h5 : likeC (headC s.1) p = true) : takeC n (A ++ s :: B) p = if (inI s p).2.2 = 0 then ((n, A ++ B), (inI s p).2.1, 0) else ((n, A ++ (inI s p).1 :: B), (inI s p).2.1, (inI s p).2.2) := by
  have h6 := while_split (n := npC p) (s := s) (B := B) (by unfold npC; rw [h5]; rfl) (A := A) fun r hr => by unfold npC; rw [h4 r hr]; rfl
  unfold takeC
  rw [if_pos h, if_pos h2, if_neg h3, h6.1, h6.2]
theorem flat_sub {α β : Type} {f : α → List β} {l1 l2 : List α} (h : l1.Sublist l2) : (l1.flatMap f).Sublist (l2.flatMap f) := by
  induction h with
  | slnil => exact List.Sublist.refl _
  | cons a _ ih => rw [List.flatMap_cons]; exact ih.trans (List.sublist_append_right _ _)
  | cons_cons a _ ih => rw [List.flatMap_cons, List.flatMap_cons]; exact (List.Sublist.refl _).append ih
theorem split_first {q : MFragSlot → Bool} {l : List MFragSlot} {k : Nat} (hk : k < l.length) (hp : q (ix l k) = true) (hf : ∀ j, j < k → q (ix l j) = false) : ∃ A s B, l = A ++ s :: B ∧ A.length = k ∧ q s = true ∧ ∀ r ∈ A, q r = false := by
  have hx := nthD (l := l) (k := k) (by omega)
  have hx2 : ix l k = l[k] := by
    rw [List.getElem?_eq_getElem hk] at hx
    exact (Option.some.inj hx).symm
  refine ⟨l.take k, ix l k, l.drop (k + 1), ?_, by rw [List.length_take]; omega, hp, fun r hr => ?_⟩
  · rw [hx2]
    conv => lhs; rw [← List.take_append_drop k l, List.drop_eq_getElem_cons hk]
  · obtain ⟨j, hj⟩ := List.getElem?_of_mem hr
    have hlt : j < (l.take k).length := (List.getElem?_eq_some_iff.1 hj).1
    rw [List.length_take] at hlt
    rw [List.getElem?_take_of_lt (by omega), nthD (show (j : Int) < (l.length : Int) by omega)] at hj
    rw [← Option.some.inj hj]; exact hf j (by omega)
theorem slots_ct {l bl : List MFragSlot} (h : l.map ctFragSlot = bl.map ctFragSlot) {P : CFragPacket → Prop} (hb : ∀ s ∈ bl, ∀ q ∈ s.1.2, P (ctFragPacket q)) : ∀ s ∈ l, ∀ q ∈ s.1.2, P (ctFragPacket q) := fun s hs q hq => by
  have h1 : ctFragSlot s ∈ l.map ctFragSlot := List.mem_map.2 ⟨s, hs, rfl⟩
  rw [h] at h1
  obtain ⟨r, hr, e⟩ := List.mem_map.1 h1
  have h2 : s.1.2.map ctFragPacket = r.1.2.map ctFragPacket := (congrArg (fun c : CFragSlot => c.1) e).symm
  exact (len_ct h2).2 P (hb r hr) q hq
theorem good_len {now : Int} {y : MFragSlot} (h : SlotGood now (ctFragSlot y)) : y.1.2.length ≤ 1000 := by
  have h1 : (joinC (y.1.2.map ctFragPacket)).2 = 3 := h.2.2.2.1
  have h2 : okJ (y.1.2.map ctFragPacket) = true := by
    cases h3 : okJ (y.1.2.map ctFragPacket)
    · rw [joinC, h3] at h1; simp at h1
    · rfl
  have h3 := (okJ_iff.1 h2).2.1
  rw [List.length_map] at h3
  omega
theorem erase_mid {α : Type} (A B : List α) (s : α) : (A ++ s :: B).eraseIdx A.length = A ++ B := by
  rw [List.eraseIdx_append_of_length_le (Nat.le_refl _), Nat.sub_self]; rfl
def octB (c : CFragBench) : Prop := ∀ s ∈ c.2, ∀ q ∈ s.1, octP q
attribute [local irreducible] Calls GoS GoC GoE GoT Mid IsEq IsFl IsSc IsRw IsSl IsEl IsSt IsFs sp Mem Rd LenOf szR joinC alikeC likeC
theorem pfLike : plainFn Try.prog 87 = true := by kernel_rfl
/-- what is known of the copy of a good bench -/
structure CopyOf (b y : MFragBench) : Prop where
  now : y.1 = b.1
  ct : y.2.2.map ctFragSlot = b.2.2.map ctFragSlot
theorem copyOf {b y : MFragBench} (h : ctFragBench y = ctFragBench b) : CopyOf b y := ⟨congrArg (fun c : CFragBench => c.1) h, congrArg (fun c : CFragBench => c.2) h⟩
theorem good_slot {n : Int} {l : List MFragSlot} (h : BenchGood (n, l.map ctFragSlot)) : ∀ y ∈ l, SlotGood n (ctFragSlot y) := fun y hy => by
  obtain ⟨j, hj⟩ := List.getElem?_of_mem hy
  have hlt : j < l.length := (List.getElem?_eq_some_iff.1 hj).1
  have h1 : (l.map ctFragSlot)[j]? = some (ctFragSlot y) := by rw [List.getElem?_map, hj]; rfl
  exact (h.2.2.2 j (by rw [List.length_map]; exact hlt) _ h1).1
set_option maxRecDepth 8192 in
theorem implFragTake_c (b : MFragBench) (p : MFragPacket) (hn : b.2.2.length ≤ 1048576) (hl : Short b.2.2) (hlp : p.2.2.2.2.2.2.2.2.2.length ≤ 1048576) (hob : octB (ctFragBench b)) (hop : octP (ctFragPacket p)) (w : World) (hx : Rds w (rwFragBench b)) (hp : Rds w (rwFragPacket p)) : Calls Try.prog 35 #[.agg (clFragBench b).toArray, .agg (clFragPacket p).toArray] w
    (RetX (fun q : MFragBench × MFragPacket × Int => takeC b.1 (b.2.2.map ctFragSlot) (ctFragPacket p) = (ctFragBench q.1, ctFragPacket q.2.1, q.2.2)) (fun q => .tuple #[.agg (clFragBench q.1).toArray, .agg (clFragPacket q.2.1).toArray, .int .i64 q.2.2]) (fun q => [.many (rwFragBench q.1), .many (rwFragPacket q.2.1)]) w) := by
  have hopp := oneFragPacket hp
  have hobb := oneFragBench hx
  obtain ⟨fok, hfok⟩ : ∃ c, fragOk (ctFragPacket p) = c := ⟨_, rfl⟩
  refine enter (n := 83) (E := [(0, _), (1, _)]) Try.func35 rfl rfl rfl rfl ?_
  repeat' (first
    |(refine gS ?_;(first
        |(refine gGuard ?_;(first
            |(refine S_on rfl ?_)
            |(refine S_off rfl rfl rfl ?_)
            |(refine S_gsplit rfl ?_ ?_ <;> (intro hb;(try simp only [decide_eq_true_eq] at hb);(try simp only [decide_eq_false_iff_not] at hb);(try simp only [Bool.not_eq_true'] at hb);(try simp only [Bool.not_eq_false'] at hb);(try (exfalso;first|contradiction|omega))))))
        |(refine S_move rfl rfl ?_)
        |(refine S_assign rfl rfl ?_)
        |(apply F_field rfl rfl;(first|exact T.fl24_6|exact T.fl24_7|exact T.fl45_0|exact T.fl45_1))
        |(refine gLoad ?_;(first
            |(apply F_load1 rfl rfl;(focus ((repeat (first|exact mH|refine mT ?_));done));(first|exact T.sc3|exact T.sc4|exact T.sc43);rfl;(focus (first|exact free0|exact free1|(refine free2 ?_ ?_;(focus ((repeat (first|(apply apart1;(repeat (first|exact mH|refine mT ?_));done)|(apply apart2;(repeat (first|exact mH|refine mT ?_));done)|refine apart3 ?_));done));(first|exact free1|(refine free2 ?_ ?_;(focus ((repeat (first|(apply apart1;(repeat (first|exact mH|refine mT ?_));done)|(apply apart2;(repeat (first|exact mH|refine mT ?_));done)|refine apart3 ?_));done));exact free1))))))
            |(apply F_loadAll rfl rfl;(focus ((repeat (first|exact mH|refine mT ?_));done));(first|exact T.rw24|exact T.rw45);(focus (first|exact free0|exact free1|(refine free2 ?_ ?_;(focus ((repeat (first|(apply apart1;(repeat (first|exact mH|refine mT ?_));done)|(apply apart2;(repeat (first|exact mH|refine mT ?_));done)|refine apart3 ?_));done));(first|exact free1|(refine free2 ?_ ?_;(focus ((repeat (first|(apply apart1;(repeat (first|exact mH|refine mT ?_));done)|(apply apart2;(repeat (first|exact mH|refine mT ?_));done)|refine apart3 ?_));done));exact free1))))))))
        |(refine gStore ?_;(first
            |(apply F_storeN rfl rfl;(focus (first|rfl|assumption|(simp only [List.append_nil,List.all_cons,List.all_nil,Bool.and_true,Bool.true_and,one_int,one_bool,one_string,one_slice,one_pointer, *];done)));(first|exact T.rw24|exact T.rw45);(focus ((repeat (first|exact Upd.here|apply Upd.there));done));(focus ((repeat (first|exact SetSeg.nil|apply SetSeg.here|apply SetSeg.there));done));(first|exact okst2|exact okst1|exact okst1'))))
        |(refine gCall ?_;(first
            |(show GoS _ _ _ _ _ _ _ (⟨_,_,_,.call ⟨.value (.func 26),_,_⟩,_⟩ :: _);refine S_callX (f := 26) rfl T.pf26 rfl (fun w hst => implFragBenchOk_c b hn hl w (by first|(refine Rds.given hst ?_;assumption)|(apply Rds.many hst;(focus ((repeat (first|exact mH|refine mT ?_));done)))|(apply Rds.row hst;(focus ((repeat (first|exact mH|refine mT ?_));done))))) rfl (fun zz hzz => ?_);simp only [List.cons_append,List.nil_append];revert hzz;revert zz;intro rr hrr)
            |(show GoS _ _ _ _ _ _ _ (⟨_,_,_,.call ⟨.value (.func 77),_,_⟩,_⟩ :: _);refine S_callX (f := 77) rfl T.pf77 rfl (fun w hst => copyBench_c b hn hl w (by first|(refine Rds.given hst ?_;assumption)|(apply Rds.many hst;(focus ((repeat (first|exact mH|refine mT ?_));done)))|(apply Rds.row hst;(focus ((repeat (first|exact mH|refine mT ?_));done))))) rfl (fun zz hzz => ?_);simp only [List.cons_append,List.nil_append];revert hzz;revert zz;intro y hy;refine S_fact (fun w hs => oneFragBench (Rds.many hs (by (focus ((repeat (first|exact mH|refine mT ?_));done))))) (fun hone => ?_))
            |(show GoS _ _ _ _ _ _ _ (⟨_,_,_,.call ⟨.value (.func 20),_,_⟩,_⟩ :: _);refine S_callN (f := 20) rfl T.pf20 rfl (fun w hst => hfok ▸ implFragOk_c p hlp w (by first|(refine Rds.given hst ?_;assumption)|(apply Rds.many hst;(focus ((repeat (first|exact mH|refine mT ?_));done)))|(apply Rds.row hst;(focus ((repeat (first|exact mH|refine mT ?_));done))))) rfl ?_)
            |(show GoS _ _ _ _ _ _ _ (⟨_,_,_,.call ⟨.value (.func 52),_,_⟩,_⟩ :: _);refine S_callX (f := 52) rfl T.pf52 rfl (fun w hst => copyPacket_c p hlp w (by first|(refine Rds.given hst ?_;assumption)|(apply Rds.many hst;(focus ((repeat (first|exact mH|refine mT ?_));done)))|(apply Rds.row hst;(focus ((repeat (first|exact mH|refine mT ?_));done))))) rfl (fun zz hzz => ?_);simp only [List.cons_append,List.nil_append];revert hzz;revert zz;intro pc hpc;refine S_fact (fun w hs => oneFragPacket (Rds.many hs (by (focus ((repeat (first|exact mH|refine mT ?_));done))))) (fun hone => ?_))))
        |(refine gBin ?_;(first
            |(refine S_eql rfl rfl rfl ?_)))
        |(refine gPick ?_;(first
            |(refine S_pickT rfl rfl rfl ?_)
            |(refine S_pickF rfl rfl rfl ?_)))
        |(refine S_box rfl rfl rfl ?_;intro kb)
        |(apply S_alloc rfl (hd := rfl);(first|exact T.zc24|exact T.zc45|exact T.zc67);intro kb)
        |(apply F_build2 rfl (hd := rfl);(first|exact T.st24|exact T.st45|exact T.st67);(focus ((repeat (first|exact BuildR.nil|(apply BuildR.cons;(first|exact T.fs24_0|exact T.fs24_1|exact T.fs24_2|exact T.fs24_3|exact T.fs24_4|exact T.fs24_5|exact T.fs24_6|exact T.fs24_7|exact T.fs24_8|exact T.fs45_0|exact T.fs45_1|exact T.fs67_0|exact T.fs67_1|exact T.fs67_2);rfl;rfl;(focus ((repeat (first|exact SetSeg.nil|apply SetSeg.here|apply SetSeg.there));done)))|(apply BuildR.cons1;(first|exact T.fs24_0|exact T.fs24_1|exact T.fs24_2|exact T.fs24_3|exact T.fs24_4|exact T.fs24_5|exact T.fs24_6|exact T.fs24_7|exact T.fs24_8|exact T.fs45_0|exact T.fs45_1|exact T.fs67_0|exact T.fs67_1|exact T.fs67_2);(focus assumption);(focus ((repeat (first|exact SetSeg.nil|apply SetSeg.here|apply SetSeg.there));done)))));done)))
        |(refine S_not rfl rfl ?_)
        |(refine S_done ?_)))
    |((first
        |(refine gSeqCond (i := 6) ?_;refine C_join (α := Nat × Nat × Nat × Nat × Nat) (fun s => [(7,.pointer (some ⟨s.1,0,none⟩)),(5,.pointer (some ⟨s.2.1,0,none⟩)),(4,.pointer (some ⟨s.2.2.1,0,none⟩)),(3,.pointer (some ⟨s.2.2.2.1,0,none⟩)),(2,.pointer (some ⟨s.2.2.2.2,0,none⟩))]) (fun s => [.blk s.1 45 [.int .i64 y.1,y.2.1],.row y.2.1 67 3 y.2.2.length (y.2.2.flatMap clFragSlot),.many (y.2.2.flatMap rwFragSlot),.blk s.2.1 24 (clFragPacket zeroP),.blk s.2.2.1 45 [.int .i64 0,.slice none 0 0],.blk s.2.2.2.1 24 (clFragPacket p),.blk s.2.2.2.2 45 (clFragBench b)]) (fun _ => ¬ (p.2.2.2.2.2.2.1 = 0 ∧ p.2.2.2.2.2.2.2.1 = false)) ?_ ?_)
        |(refine C_seq ?_)
        |(refine gReg ?_;(first
            |(refine gReg (i := 0) ?_;refine C_plain [(0,2),(1,2),(2,2),(3,2),(4,0)] (by kernel_rfl) (s := [⟨2,none,_,_,_⟩,⟨2,none,_,_,_⟩,⟨2,none,_,_,_⟩,⟨2,none,_,_,_⟩,⟨0,none,_,_,_⟩]) rfl ?_)
            |(refine gReg (i := 1) ?_;refine C_plain [(0,0),(1,2),(2,0)] (by kernel_rfl) (s := [⟨0,none,_,_,_⟩,⟨2,none,_,_,_⟩,⟨0,none,_,_,_⟩]) rfl ?_)
            |(refine gReg (i := 2) ?_;refine C_plain [(0,0),(1,0),(2,2),(3,2),(4,0)] (by kernel_rfl) (s := [⟨0,none,_,_,_⟩,⟨0,none,_,_,_⟩,⟨2,none,_,_,_⟩,⟨2,none,_,_,_⟩,⟨0,none,_,_,_⟩]) rfl ?_)
            |(refine gReg (i := 3) ?_;refine C_plain [(0,0),(1,2),(2,2),(3,2)] (by kernel_rfl) (s := [⟨0,none,_,_,_⟩,⟨2,none,_,_,_⟩,⟨2,none,_,_,_⟩,⟨2,none,_,_,_⟩]) rfl ?_)
            |(refine gReg (i := 4) ?_;refine C_plain [(0,0),(1,2),(2,0)] (by kernel_rfl) (s := [⟨0,none,_,_,_⟩,⟨2,none,_,_,_⟩,⟨0,none,_,_,_⟩]) rfl ?_)
            |(refine gReg (i := 5) ?_;refine C_plain [(0,0),(1,0),(2,2),(3,2),(4,0)] (by kernel_rfl) (s := [⟨0,none,_,_,_⟩,⟨0,none,_,_,_⟩,⟨2,none,_,_,_⟩,⟨2,none,_,_,_⟩,⟨0,none,_,_,_⟩]) rfl ?_)
            |(refine gReg (i := 6) ?_;refine C_plain [(0,0),(1,0),(2,0),(3,0),(4,0),(5,0),(6,0),(7,0)] (by kernel_rfl) (s := [⟨0,none,_,_,_⟩,⟨0,none,_,_,_⟩,⟨0,none,_,_,_⟩,⟨0,none,_,_,_⟩,⟨0,some (26,true),_,_,_⟩,⟨0,some (26,true),_,_,_⟩,⟨0,some (26,true),_,_,_⟩,⟨0,none,_,_,_⟩]) rfl ?_)
            |(refine gReg (i := 7) ?_;refine C_drawn [(0,0),(1,0),(2,1),(3,2),(4,2),(5,0)] [] T.mixed (by kernel_rfl) (s := [⟨0,none,_,_,_⟩,⟨0,none,_,_,_⟩,⟨1,none,_,_,_⟩,⟨2,none,_,_,_⟩,⟨2,none,_,_,_⟩,⟨0,none,_,_,_⟩]) rfl ?_)))
        |(refine C_false rfl ?_)
        |(refine C_split rfl ?_ ?_ <;> (intro hb;(try simp only [decide_eq_true_eq] at hb);(try simp only [decide_eq_false_iff_not] at hb);(try simp only [Bool.not_eq_true'] at hb);(try simp only [Bool.not_eq_false'] at hb);(try (exfalso;first|contradiction|omega))))
        |(refine C_skip ?_)
        |(refine C_ret ?_)))
    |(refine gE ?_;(first
        |(refine E_then ?_)
        |(refine E_thenR ?_)
        |(refine E_calm ?_)
        |(apply E_ret3 rfl;(first|exact Res.tmp rfl|(apply R_cellAll rfl;(focus ((repeat (first|exact mH|refine mT ?_));done));(first|exact T.rw24|exact T.rw45))|(apply R_cell1 rfl;(focus ((repeat (first|exact mH|refine mT ?_));done));(first|exact T.sc3|exact T.sc4|exact T.sc43)));(first|exact Res.tmp rfl|(apply R_cellAll rfl;(focus ((repeat (first|exact mH|refine mT ?_));done));(first|exact T.rw24|exact T.rw45))|(apply R_cell1 rfl;(focus ((repeat (first|exact mH|refine mT ?_));done));(first|exact T.sc3|exact T.sc4|exact T.sc43)));(first|exact Res.tmp rfl|(apply R_cellAll rfl;(focus ((repeat (first|exact mH|refine mT ?_));done));(first|exact T.rw24|exact T.rw45))|(apply R_cell1 rfl;(focus ((repeat (first|exact mH|refine mT ?_));done));(first|exact T.sc3|exact T.sc4|exact T.sc43)))))))
  · refine retX (((0,.slice none 0 0,[]),zeroP,1) : MFragBench × MFragPacket × Int) (takeC_bad (n := b.1) fun h => ?_) rfl (Ent.trans (Ent.ghost 67 3) (Ent.trans (Ent.ghost 5 1) entA))
    have h1 := hrr.2 h
    rw [hb] at h1; cases h1
  · refine retX (y,zeroP,2) ?_ rfl (Ent.trans (Ent.ghost 5 1) entA)
    rw [takeC_no (hrr.1 (by assumption)) (hfok.trans hb)]
    show (ctFragBench b, _, _) = (ctFragBench y, _, _)
    rw [hy]
  · refine retX (y,pc,0) ?_ rfl entA
    rw [takeC_whole (hrr.1 (by assumption)) (hfok.trans (by assumption)) ⟨by assumption, by assumption⟩]
    show (ctFragBench b, _, _) = (ctFragBench y, ctFragPacket pc, _)
    rw [hy, hpc]
  all_goals try exact E_join (α := Nat × Nat × Nat × Nat × Nat) (_,_,_,_,_) (by intro h;simp_all) ⟨rfl,rfl,rfl,rfl,rfl,trivial⟩ entA
  rintro ⟨k7, k5, k4, k3, k2⟩ hnw
  have hg : BenchGood (ctFragBench b) := hrr.1 (by assumption)
  have hfk : fragOk (ctFragPacket p) = true := hfok.trans (by assumption)
  clear hone hopp hobb
  have hcp := copyOf hy
  obtain ⟨hcn, hcc⟩ := hcp
  obtain ⟨now, v, l⟩ := y
  obtain ⟨bn, bv, bl⟩ := b
  dsimp only at *
  rw [← hcc]
  have hg2 : BenchGood (now, l.map ctFragSlot) := by
    have h1 : (ctFragBench (bn, bv, bl)) = (now, l.map ctFragSlot) := by rw [hcc, hcn]; rfl
    rw [← h1]; exact hg
  subst hcn
  have hgs := good_slot hg2
  have hgo : ∀ s ∈ l, 1 ≤ s.1.2.length ∧ fragOk (headS s) = true := fun s hs => good_ok (hgs s hs)
  have hlen : l.length ≤ 4 := by
    have h1 := (good_now hg2).2.2
    rw [List.length_map] at h1
    exact h1
  refine C_fact (fun w hs => (fun s hm => oneFragSlot (Rds.flatMap.1 (Rds.many hs (by (focus ((repeat (first|exact mH|refine mT ?_));done)))) s hm) : ∀ s ∈ l,(clFragSlot s).all (·.oneCell') = true)) (fun honeS => ?_)
  repeat' (first
    |(refine gS ?_;(first
        |(refine S_assign rfl rfl ?_)
        |(apply F_field rfl rfl;(first|exact T.fl24_6|exact T.fl24_7|exact T.fl45_0|exact T.fl45_1))
        |(refine gLoad ?_;(first
            |(apply F_load1 rfl rfl;(focus ((repeat (first|exact mH|refine mT ?_));done));(first|exact T.sc3|exact T.sc4|exact T.sc43);rfl;(focus (first|exact free0|exact free1|(refine free2 ?_ ?_;(focus ((repeat (first|(apply apart1;(repeat (first|exact mH|refine mT ?_));done)|(apply apart2;(repeat (first|exact mH|refine mT ?_));done)|refine apart3 ?_));done));(first|exact free1|(refine free2 ?_ ?_;(focus ((repeat (first|(apply apart1;(repeat (first|exact mH|refine mT ?_));done)|(apply apart2;(repeat (first|exact mH|refine mT ?_));done)|refine apart3 ?_));done));exact free1))))))))
        |(refine gCall ?_;(first
            |(show GoS _ _ _ _ _ _ _ (⟨_,_,_,.call ⟨.value (.func 86),_,_⟩,_⟩ :: _);refine S_callX (f := 86) rfl T.pf86 rfl (fun w hst => idxSlots_c 87 pfLike (.pointer (some ⟨k3,0,none⟩)) (fun s => likeC (headS s) (ctFragPacket p)) v l w (Mem.row hst (by (focus ((repeat (first|exact mH|refine mT ?_));done)))) (fun u hu s hs => like1_c k3 p s u (hgo s hs).1 (rng_ext (rng_blk hst (by (focus ((repeat (first|exact mH|refine mT ?_));done)))) hu) ((Rds.flatMap.1 (Rds.many hst (by (focus ((repeat (first|exact mH|refine mT ?_));done)))) s hs).ext hu))) rfl (fun zz hzz => ?_);simp only [List.cons_append,List.nil_append];revert hzz;revert zz;intro n hnn)))
        |(refine S_done ?_)
        |(refine S_makeFunc rfl rfl rfl ?_)))
    |((first
        |(refine C_seq ?_)
        |(refine gReg ?_;(first
            |(refine gReg (i := 8) ?_;refine C_plain [(0,0),(1,0),(2,0),(3,2),(4,0)] (by kernel_rfl) (s := [⟨0,none,_,_,_⟩,⟨0,none,_,_,_⟩,⟨0,none,_,_,_⟩,⟨2,none,_,_,_⟩,⟨0,none,_,_,_⟩]) rfl ?_)))))
    |(refine gE ?_;(first
        |(refine E_then ?_))))
  rcases hnn with ⟨rfl, hno⟩ | ⟨k, rfl, hk, hpk, hfst⟩
  · have hno2 : ∀ s ∈ l.map ctFragSlot, likeC (headC s.1) (ctFragPacket p) = false := fun s hs => by
      obtain ⟨y, hy, rfl⟩ := List.mem_map.1 hs
      obtain ⟨j, hj⟩ := List.getElem?_of_mem hy
      have hlt : j < l.length := (List.getElem?_eq_some_iff.1 hj).1
      have e : y = ix l j := Option.some.inj (hj.symm.trans (nthD (by omega)))
      rw [e]; exact hno j hlt
    rw [takeC_new hg2 hfk hnw hno2]
    refine C_fact (fun w hs => (fun h1 => mem_one3 (Row.In.mem (Row.In.part (lo := 1) (hi := l.length) (hs.own (.row v 67 3 l.length (l.flatMap clFragSlot)) (by (focus ((repeat (first|exact mH|refine mT ?_));done)))).2 h1 (Nat.le_refl _)).1) : 1 ≤ l.length → (subV v 3 1 l.length).oneCell' = true)) (fun hsub1 => ?_)
    repeat' (first
      |(refine gS ?_;(first
          |(refine S_move rfl rfl ?_)
          |(apply F_field rfl rfl;(first|exact T.fl24_6|exact T.fl24_7|exact T.fl45_0|exact T.fl45_1))
          |(apply F_slice rfl rfl;(first|exact T.sl27|exact T.sl43);(focus (first|(focus (first|exact len_nil|(apply len_given;assumption)|(apply len_row;(focus ((repeat (first|exact mH|refine mT ?_));done)))|(apply len_isN;assumption)))|(apply len_sub;(focus (first|exact len_nil|(apply len_given;assumption)|(apply len_row;(focus ((repeat (first|exact mH|refine mT ?_));done)))|(apply len_isN;assumption)));(focus omega);(focus omega))));(focus exact ⟨_,_,rfl,by omega,rfl⟩);(focus exact rfl);(focus omega);(focus omega))
          |(refine gLoad ?_;(first
              |(apply F_load1 rfl rfl;(focus ((repeat (first|exact mH|refine mT ?_));done));(first|exact T.sc3|exact T.sc4|exact T.sc43);rfl;(focus (first|exact free0|exact free1|(refine free2 ?_ ?_;(focus ((repeat (first|(apply apart1;(repeat (first|exact mH|refine mT ?_));done)|(apply apart2;(repeat (first|exact mH|refine mT ?_));done)|refine apart3 ?_));done));(first|exact free1|(refine free2 ?_ ?_;(focus ((repeat (first|(apply apart1;(repeat (first|exact mH|refine mT ?_));done)|(apply apart2;(repeat (first|exact mH|refine mT ?_));done)|refine apart3 ?_));done));exact free1))))))))
          |(refine gStore ?_;(first
              |(apply F_store1 rfl rfl;(focus (first|rfl|assumption));(first|exact T.sc3|exact T.sc4|exact T.sc43);(focus ((repeat (first|exact Upd.here|apply Upd.there));done));(focus ((repeat (first|exact SetSeg.nil|apply SetSeg.here|apply SetSeg.there));done));(first|exact okst2|exact okst1|exact okst1'))))
          |(refine gCall ?_;(first
              |(apply F_len rfl rfl rfl;(focus exact ⟨_,_,by (first|exact T.sl27|exact T.sl43)⟩);(focus (first|(focus (first|exact len_nil|(apply len_given;assumption)|(apply len_row;(focus ((repeat (first|exact mH|refine mT ?_));done)))|(apply len_isN;assumption)))|(apply len_sub;(focus (first|exact len_nil|(apply len_given;assumption)|(apply len_row;(focus ((repeat (first|exact mH|refine mT ?_));done)))|(apply len_isN;assumption)));(focus omega);(focus omega)))))))
          |(refine gBin ?_;(first
              |(refine S_lss rfl rfl rfl ?_)
              |(refine S_eql rfl rfl rfl ?_)))
          |(refine S_done ?_)))
      |((first
          |(refine gSeqCond (i := 10) ?_;refine C_join (α := Value × List MFragSlot) (fun s => [(7,.pointer (some ⟨k7,0,none⟩)),(5,.pointer (some ⟨k5,0,none⟩)),(4,.pointer (some ⟨k4,0,none⟩)),(3,.pointer (some ⟨k3,0,none⟩)),(2,.pointer (some ⟨k2,0,none⟩))]) (fun s => [.blk k7 45 [.int .i64 now,s.1],.row s.1 67 3 s.2.length (s.2.flatMap clFragSlot),.many (s.2.flatMap rwFragSlot),.blk k5 24 (clFragPacket zeroP),.blk k4 45 [.int .i64 0,.slice none 0 0],.blk k3 24 (clFragPacket p),.blk k2 45 (clFragBench (now,bv,bl))]) (fun s => s.2.map ctFragSlot = (if (l.map ctFragSlot).length = 4 then (l.map ctFragSlot).drop 1 else l.map ctFragSlot) ∧ s.2.length ≤ 4) ?_ ?_)
          |(refine C_seq ?_)
          |(refine gReg ?_;(first
              |(refine gReg (i := 9) ?_;refine C_plain [(0,0),(1,0)] (by kernel_rfl) (s := [⟨0,none,_,_,_⟩,⟨0,none,_,_,_⟩]) rfl ?_)
              |(refine gReg (i := 10) ?_;refine C_plain [(0,0),(1,0),(2,0),(3,0)] (by kernel_rfl) (s := [⟨0,none,_,_,_⟩,⟨0,none,_,_,_⟩,⟨0,none,_,_,_⟩,⟨0,none,_,_,_⟩]) rfl ?_)
              |(refine gReg (i := 11) ?_;refine C_plain [(0,0),(1,0),(2,0),(3,0),(4,2)] (by kernel_rfl) (s := [⟨0,none,_,_,_⟩,⟨0,none,_,_,_⟩,⟨0,none,_,_,_⟩,⟨0,none,_,_,_⟩,⟨2,none,_,_,_⟩]) rfl ?_)))
          |(refine C_true rfl ?_)
          |(refine C_split rfl ?_ ?_ <;> (intro hb;(try simp only [decide_eq_true_eq] at hb);(try simp only [decide_eq_false_iff_not] at hb);(try simp only [Bool.not_eq_true'] at hb);(try simp only [Bool.not_eq_false'] at hb);(try (exfalso;first|contradiction|omega));(try (have hs1 := hsub1 (by omega)))))
          |(refine C_skip ?_)))
      |(refine gE ?_;(first
          |(refine E_then ?_))))
    · have hml : (l.map ctFragSlot).length = 4 := by rw [List.length_map]; omega
      refine E_join (α := Value × List MFragSlot) (subV v 3 1 l.length,(l.drop 1).take (l.length - 1)) ⟨?_,?_⟩ ⟨rfl,rfl,rfl,rfl,rfl,trivial⟩ (Ent.trans (L' := .row v 67 3 l.length (l.flatMap clFragSlot) :: .many (l.flatMap rwFragSlot) :: [.blk k7 45 [.int .i64 now,subV v 3 1 l.length],.blk k5 24 (clFragPacket zeroP),.blk k4 45 [.int .i64 0,.slice none 0 0],.blk k3 24 (clFragPacket p),.blk k2 45 (clFragBench (now,bv,bl))]) entA (Ent.trans (Ent.part (f := clFragSlot) (m := 3) (l := l) (lo := 1) (hi := l.length) (fun _ => rfl) (by omega) (Nat.le_refl _) rfl) (Ent.trans (L' := .many (l.flatMap rwFragSlot) :: .row (subV v 3 1 l.length) 67 3 ((l.drop 1).take (l.length - 1)).length (((l.drop 1).take (l.length - 1)).flatMap clFragSlot) :: [.blk k7 45 [.int .i64 now,subV v 3 1 l.length],.blk k5 24 (clFragPacket zeroP),.blk k4 45 [.int .i64 0,.slice none 0 0],.blk k3 24 (clFragPacket p),.blk k2 45 (clFragBench (now,bv,bl))]) entA (Ent.trans (Ent.sublist (flat_sub ((List.take_sublist _ _).trans (List.drop_sublist _ _)))) entA))))
      · dsimp only
        rw [if_pos hml, List.take_of_length_le (by rw [List.length_drop]; omega), List.map_drop]
      · dsimp only
        rw [List.length_take, List.length_drop]; omega
    · have hml : ¬ (l.map ctFragSlot).length = 4 := by rw [List.length_map]; omega
      exact E_join (α := Value × List MFragSlot) (v,l) ⟨by rw [if_neg hml],hlen⟩ ⟨rfl,rfl,rfl,rfl,rfl,trivial⟩ entA
    rintro ⟨lv, l2⟩ ⟨hl2c, hl2n⟩
    dsimp only at hl2c hl2n ⊢
    refine C_fact (fun w hs => (fun s hm => oneFragSlot (Rds.flatMap.1 (Rds.many hs (by (focus ((repeat (first|exact mH|refine mT ?_));done)))) s hm) : ∀ s ∈ l2,(clFragSlot s).all (·.oneCell') = true)) (fun honeS2 => ?_)
    clear honeS hsub1
    repeat' (first
      |(refine gS ?_;(first
          |(refine S_assign rfl rfl ?_)
          |(apply F_field rfl rfl;(first|exact T.fl24_6|exact T.fl24_7|exact T.fl45_0|exact T.fl45_1))
          |(apply F_bs rfl rfl;(first|exact T.el27|exact T.el43);rfl;rfl;rfl;rfl;(focus ((repeat (first|exact Dense.nil|(apply Dense.cons;rfl;rfl)));done));intro sv;(try (refine S_fact (row_one (v := sv) (by (focus ((repeat (first|exact mH|refine mT ?_));done)))) (fun hone => ?_))))
          |(refine gLoad ?_;(first
              |(apply F_load1 rfl rfl;(focus ((repeat (first|exact mH|refine mT ?_));done));(first|exact T.sc3|exact T.sc4|exact T.sc43);rfl;(focus (first|exact free0|exact free1|(refine free2 ?_ ?_;(focus ((repeat (first|(apply apart1;(repeat (first|exact mH|refine mT ?_));done)|(apply apart2;(repeat (first|exact mH|refine mT ?_));done)|refine apart3 ?_));done));(first|exact free1|(refine free2 ?_ ?_;(focus ((repeat (first|(apply apart1;(repeat (first|exact mH|refine mT ?_));done)|(apply apart2;(repeat (first|exact mH|refine mT ?_));done)|refine apart3 ?_));done));exact free1))))))
              |(apply F_loadAll rfl rfl;(focus ((repeat (first|exact mH|refine mT ?_));done));(first|exact T.rw24|exact T.rw45);(focus (first|exact free0|exact free1|(refine free2 ?_ ?_;(focus ((repeat (first|(apply apart1;(repeat (first|exact mH|refine mT ?_));done)|(apply apart2;(repeat (first|exact mH|refine mT ?_));done)|refine apart3 ?_));done));(first|exact free1|(refine free2 ?_ ?_;(focus ((repeat (first|(apply apart1;(repeat (first|exact mH|refine mT ?_));done)|(apply apart2;(repeat (first|exact mH|refine mT ?_));done)|refine apart3 ?_));done));exact free1))))))))
          |(refine gStore ?_;(first
              |(apply F_store1 rfl rfl;(focus (first|rfl|assumption));(first|exact T.sc3|exact T.sc4|exact T.sc43);(focus ((repeat (first|exact Upd.here|apply Upd.there));done));(focus ((repeat (first|exact SetSeg.nil|apply SetSeg.here|apply SetSeg.there));done));(first|exact okst2|exact okst1|exact okst1'))
              |(apply F_storeN rfl rfl;(focus (first|rfl|assumption|(simp only [List.append_nil,List.all_cons,List.all_nil,Bool.and_true,Bool.true_and,one_int,one_bool,one_string,one_slice,one_pointer, *];done)));(first|exact T.rw24|exact T.rw45);(focus ((repeat (first|exact Upd.here|apply Upd.there));done));(focus ((repeat (first|exact SetSeg.nil|apply SetSeg.here|apply SetSeg.there));done));(first|exact okst2|exact okst1|exact okst1'))))
          |(refine gCall ?_;(first
              |(show GoS _ _ _ _ _ _ _ (⟨_,_,_,.call ⟨.value (.func 88),_,_⟩,_⟩ :: _);refine S_callR (f := 88) rfl T.pf88 rfl (fun w hst => cloneSlots_c lv l2 (by omega) w (Mem.row hst (by (focus ((repeat (first|exact mH|refine mT ?_));done)))) honeS2) rfl ?_;intro sv)
              |(show GoS _ _ _ _ _ _ _ (⟨_,_,_,.call ⟨.value (.func 52),_,_⟩,_⟩ :: _);refine S_callX (f := 52) rfl T.pf52 rfl (fun w hst => copyPacket_c p hlp w (Rds.given hst hp)) rfl (fun zz hzz => ?_);simp only [List.cons_append,List.nil_append];revert hzz;revert zz;intro pc hpc;refine S_fact (fun w hs => oneFragPacket (Rds.many hs (by (focus ((repeat (first|exact mH|refine mT ?_));done))))) (fun hone => ?_))
              |(apply F_append rfl rfl rfl rfl;(first|exact T.el27|exact T.el43);(focus (intro sv;(focus ((repeat (first|exact Upd.here|apply Upd.there));done))));(focus (first|exact rd_nil|(apply rd_given;(focus assumption);(focus (first|exact freeG0|exact freeG1|(apply freeG2;(focus ((repeat (first|exact mH|refine mT ?_));done));(first|exact freeG1|(apply freeG2;(focus ((repeat (first|exact mH|refine mT ?_));done));exact freeG1))))))|(apply rd_row;(focus ((repeat (first|exact mH|refine mT ?_));done));(focus (first|exact freeR0|exact freeR1|(refine freeR2 ?_ ?_;(focus ((repeat (first|(apply apartR1;(focus ((repeat (first|exact mH|refine mT ?_));done));done)|(apply apartR2;(focus ((repeat (first|exact mH|refine mT ?_));done));done)|refine apartR3 ?_));done));(first|exact freeR1|(refine freeR2 ?_ ?_;(focus ((repeat (first|(apply apartR1;(focus ((repeat (first|exact mH|refine mT ?_));done));done)|(apply apartR2;(focus ((repeat (first|exact mH|refine mT ?_));done));done)|refine apartR3 ?_));done));exact freeR1))))))|(apply rd_sub;(focus (apply rd_given;(focus assumption);(focus (first|exact freeG0|exact freeG1|(apply freeG2;(focus ((repeat (first|exact mH|refine mT ?_));done));(first|exact freeG1|(apply freeG2;(focus ((repeat (first|exact mH|refine mT ?_));done));exact freeG1)))))));(focus (intro _;rfl));(focus omega);(focus omega))|(apply rd_sub;(focus (apply rd_row;(focus ((repeat (first|exact mH|refine mT ?_));done));(focus (first|exact freeR0|exact freeR1|(refine freeR2 ?_ ?_;(focus ((repeat (first|(apply apartR1;(focus ((repeat (first|exact mH|refine mT ?_));done));done)|(apply apartR2;(focus ((repeat (first|exact mH|refine mT ?_));done));done)|refine apartR3 ?_));done));(first|exact freeR1|(refine freeR2 ?_ ?_;(focus ((repeat (first|(apply apartR1;(focus ((repeat (first|exact mH|refine mT ?_));done));done)|(apply apartR2;(focus ((repeat (first|exact mH|refine mT ?_));done));done)|refine apartR3 ?_));done));exact freeR1)))))));(focus (intro _;rfl));(focus omega);(focus omega))));(focus (first|rfl|assumption|(apply all_flat;intro _ _;rfl)|(rw [List.append_nil];assumption)|(simp only [List.append_nil,List.all_cons,List.all_nil,Bool.and_true,Bool.true_and,one_int,one_bool,one_string,one_slice,one_pointer, *];done)|simp));(first|exact okst2|exact okst1|exact okst1');(focus (simp only [maxLen];first|omega|(simp only [List.length_take,List.length_drop];omega)));(focus (first|omega|(simp only [List.length_take,List.length_drop];omega)));intro sv;(try (refine S_fact (row_one (v := sv) (by (focus ((repeat (first|exact mH|refine mT ?_));done)))) (fun hone => ?_))))))
          |(apply F_build2 rfl (hd := rfl);(first|exact T.st24|exact T.st45|exact T.st67);(focus ((repeat (first|exact BuildR.nil|(apply BuildR.cons;(first|exact T.fs24_0|exact T.fs24_1|exact T.fs24_2|exact T.fs24_3|exact T.fs24_4|exact T.fs24_5|exact T.fs24_6|exact T.fs24_7|exact T.fs24_8|exact T.fs45_0|exact T.fs45_1|exact T.fs67_0|exact T.fs67_1|exact T.fs67_2);rfl;rfl;(focus ((repeat (first|exact SetSeg.nil|apply SetSeg.here|apply SetSeg.there));done)))|(apply BuildR.cons1;(first|exact T.fs24_0|exact T.fs24_1|exact T.fs24_2|exact T.fs24_3|exact T.fs24_4|exact T.fs24_5|exact T.fs24_6|exact T.fs24_7|exact T.fs24_8|exact T.fs45_0|exact T.fs45_1|exact T.fs67_0|exact T.fs67_1|exact T.fs67_2);(focus assumption);(focus ((repeat (first|exact SetSeg.nil|apply SetSeg.here|apply SetSeg.there));done)))));done)))
          |(refine S_done ?_)))
      |((first
          |(refine C_seq ?_)
          |(refine gReg ?_;(first
              |(refine gReg (i := 12) ?_;refine C_drawn [(0,0),(1,0),(3,0),(6,0),(7,0),(2,1),(4,1),(5,1),(8,0),(9,1),(10,2),(11,0),(12,2)] [] T.mixed (by kernel_rfl) (s := [⟨0,none,_,_,_⟩,⟨0,none,_,_,_⟩,⟨0,none,_,_,_⟩,⟨0,none,_,_,_⟩,⟨0,none,_,_,_⟩,⟨1,none,_,_,_⟩,⟨1,none,_,_,_⟩,⟨1,none,_,_,_⟩,⟨0,none,_,_,_⟩,⟨1,none,_,_,_⟩,⟨2,none,_,_,_⟩,⟨0,none,_,_,_⟩,⟨2,none,_,_,_⟩]) rfl ?_)
              |(refine gReg (i := 13) ?_;refine C_plain [(0,0),(1,0),(2,2),(3,2),(4,0)] (by kernel_rfl) (s := [⟨0,none,_,_,_⟩,⟨0,none,_,_,_⟩,⟨2,none,_,_,_⟩,⟨2,none,_,_,_⟩,⟨0,none,_,_,_⟩]) rfl ?_)))
          |(refine C_ret ?_)))
      |(refine gE ?_;(first
          |(refine E_then ?_)
          |(refine E_thenR ?_)
          |(refine E_calm ?_)
          |(apply E_ret3 rfl;(first|exact Res.tmp rfl|(apply R_cellAll rfl;(focus ((repeat (first|exact mH|refine mT ?_));done));(first|exact T.rw24|exact T.rw45))|(apply R_cell1 rfl;(focus ((repeat (first|exact mH|refine mT ?_));done));(first|exact T.sc3|exact T.sc4|exact T.sc43)));(first|exact Res.tmp rfl|(apply R_cellAll rfl;(focus ((repeat (first|exact mH|refine mT ?_));done));(first|exact T.rw24|exact T.rw45))|(apply R_cell1 rfl;(focus ((repeat (first|exact mH|refine mT ?_));done));(first|exact T.sc3|exact T.sc4|exact T.sc43)));(first|exact Res.tmp rfl|(apply R_cellAll rfl;(focus ((repeat (first|exact mH|refine mT ?_));done));(first|exact T.rw24|exact T.rw45))|(apply R_cell1 rfl;(focus ((repeat (first|exact mH|refine mT ?_));done));(first|exact T.sc3|exact T.sc4|exact T.sc43)))))))
    rename_i s1 o1 sp1 o2 s3 o3
    refine retX ((now,sv,l2 ++ [((sp1,[pc]),now,false)]),zeroP,3) ?_ rfl (Ent.trans (Ent.ghost 5 1) entA)
    show ((now, _), _, _) = ((now, (l2 ++ [((sp1, [pc]), now, false)]).map ctFragSlot), _, _)
    rw [← hl2c, List.map_append, ← hpc]
    rfl
  obtain ⟨A, s, B, hl3, hAk, hps, hAs⟩ := split_first (q := fun s => likeC (headS s) (ctFragPacket p)) hk hpk hfst
  subst hl3
  subst hAk
  skip
  have hsm : s ∈ A ++ s :: B := by simp
  have hs1 := (hgo s hsm).1
  have hs2 := good_len (hgs s hsm)
  have hls : ∀ q ∈ s.1.2, q.2.2.2.2.2.2.2.2.2.length ≤ 1048576 := slots_ct hcc (P := fun c => c.2.2.2.2.2.2.2.2.length ≤ 1048576) (fun r hr => (hl r hr).2) s hsm
  have hobs : ∀ q ∈ s.1.2, octP (ctFragPacket q) := slots_ct hcc (P := octP) (fun r hr q hq => hob (ctFragSlot r) (List.mem_map.2 ⟨r, hr, rfl⟩) _ (List.mem_map.2 ⟨q, hq, rfl⟩)) s hsm
  have hput := takeC_put (n := now) (A := A.map ctFragSlot) (B := B.map ctFragSlot) (s := ctFragSlot s) (p := ctFragPacket p) (by rw [List.map_append, List.map_cons] at hg2; exact hg2) hfk hnw (fun r hr => by
    obtain ⟨y, hy, rfl⟩ := List.mem_map.1 hr
    exact hAs y hy) hps
  rw [List.map_append, List.map_cons, hput]
  clear hput hgo hgs hcc hy hg hg2 hrr hpk hfst hl hob hk
  have hA : (A.flatMap clFragSlot).length = A.length * 3 := flat_len (m := 3) (fun _ => rfl) A
  have hAB : A.length + (B.length + 1) ≤ 4 := by
    rw [List.length_append, List.length_cons] at hlen; exact hlen
  refine C_ent [.row v 67 3 (A.length + (B.length + 1)) (A.flatMap clFragSlot ++ (clFragSlot s ++ B.flatMap clFragSlot)),.many (rwFragSlot s),.many (A.flatMap rwFragSlot),.many (B.flatMap rwFragSlot),.blk k7 45 [.int .i64 now,v],.blk k5 24 (clFragPacket zeroP),.blk k4 45 [.int .i64 0,.slice none 0 0],.blk k3 24 (clFragPacket p),.blk k2 45 (clFragBench (now,bv,bl))] entA ?_
  repeat' (first
    |(refine gS ?_;(first
        |(refine S_move rfl rfl ?_)
        |(refine S_assign rfl rfl ?_)
        |(apply F_field rfl rfl;(first|exact T.fl24_6|exact T.fl24_7|exact T.fl45_0|exact T.fl45_1))
        |(apply F_idx rfl rfl rfl;(first|exact T.sl27|exact T.sl43);(focus rfl);(focus (first|(focus (first|exact len_nil|(apply len_given;assumption)|(apply len_row;(focus ((repeat (first|exact mH|refine mT ?_));done)))|(apply len_isN;assumption)))|(apply len_sub;(focus (first|exact len_nil|(apply len_given;assumption)|(apply len_row;(focus ((repeat (first|exact mH|refine mT ?_));done)))|(apply len_isN;assumption)));(focus omega);(focus omega))));(focus omega))
        |(refine gLoad ?_;(first
            |(apply F_load1 rfl rfl;(focus ((repeat (first|exact mH|refine mT ?_));done));(first|exact T.sc3|exact T.sc4|exact T.sc43);rfl;(focus (first|exact free0|exact free1|(refine free2 ?_ ?_;(focus ((repeat (first|(apply apart1;(repeat (first|exact mH|refine mT ?_));done)|(apply apart2;(repeat (first|exact mH|refine mT ?_));done)|refine apart3 ?_));done));(first|exact free1|(refine free2 ?_ ?_;(focus ((repeat (first|(apply apart1;(repeat (first|exact mH|refine mT ?_));done)|(apply apart2;(repeat (first|exact mH|refine mT ?_));done)|refine apart3 ?_));done));exact free1))))))
            |(apply F_loadAll rfl rfl;(focus ((repeat (first|exact mH|refine mT ?_));done));(first|exact T.rw24|exact T.rw45);(focus (first|exact free0|exact free1|(refine free2 ?_ ?_;(focus ((repeat (first|(apply apart1;(repeat (first|exact mH|refine mT ?_));done)|(apply apart2;(repeat (first|exact mH|refine mT ?_));done)|refine apart3 ?_));done));(first|exact free1|(refine free2 ?_ ?_;(focus ((repeat (first|(apply apart1;(repeat (first|exact mH|refine mT ?_));done)|(apply apart2;(repeat (first|exact mH|refine mT ?_));done)|refine apart3 ?_));done));exact free1))))))))
        |(refine gStore ?_;(first
            |(apply F_storeN rfl rfl;(focus (first|rfl|assumption|(simp only [List.append_nil,List.all_cons,List.all_nil,Bool.and_true,Bool.true_and,one_int,one_bool,one_string,one_slice,one_pointer, *];done)));(first|exact T.rw24|exact T.rw45);(focus ((repeat (first|exact Upd.here|apply Upd.there));done));(focus ((repeat (first|exact SetSeg.nil|apply SetSeg.here|apply SetSeg.there));done));(first|exact okst2|exact okst1|exact okst1'))))
        |(refine gCall ?_;(first
            |(show GoS _ _ _ _ _ _ _ (⟨_,_,_,.call ⟨.value (.func 89),_,_⟩,_⟩ :: _);apply S_callS (f := 89) T.pf89 rfl rfl (fun w hst => takeIn_c v (A.length + (B.length + 1)) A B s p (A.length * 3) hA (by omega) hs1 hs2 hls hlp hobs hop _ hp w hst);(focus ((repeat (first|exact Pull.nil|(apply Pull.app;(focus ((repeat (first|exact PickA.here|exact PickA.all|apply PickA.there|apply PickA.over));done)))|(apply Pull.cons;(focus ((repeat (first|exact Pick.here|exact Pick.last|apply Pick.there|apply Pick.over));done)))|(apply Pull.atom;(focus ((repeat (first|exact PickA.here|exact PickA.all|apply PickA.there|apply PickA.over));done)))));done));intro zz hzz;simp only [List.cons_append,List.nil_append];revert hzz;revert zz;rintro ⟨s2,z,cz⟩ hz;dsimp only at hz ⊢;refine S_fact (fun w hs => oneFragPacket (Rds.many hs (by (focus ((repeat (first|exact mH|refine mT ?_));done))))) (fun hone => ?_))))
        |(refine gBin ?_;(first
            |(refine S_lss rfl rfl rfl ?_)))
        |(apply S_alloc rfl (hd := rfl);(first|exact T.zc24|exact T.zc45|exact T.zc67);intro kb)
        |(refine S_extract rfl rfl rfl ?_)
        |(refine S_done ?_)))
    |((first
        |(refine C_seq ?_)
        |(refine gReg ?_;(first
            |(refine gReg (i := 9) ?_;refine C_plain [(0,0),(1,0)] (by kernel_rfl) (s := [⟨0,none,_,_,_⟩,⟨0,none,_,_,_⟩]) rfl ?_)
            |(refine gReg (i := 14) ?_;refine C_drawnT (.br [(0,0),(1,0),(2,0),(3,0),(4,0)] (.fin [(5,2),(6,0),(7,0),(8,0),(9,1),(10,2),(11,0)]) (.fin [(9,1),(5,2),(6,0),(7,0),(8,0),(10,2),(11,0)])) [] T.mixed (by kernel_rfl) (s := (.br [⟨0,none,_,_,_⟩,⟨0,none,_,_,_⟩,⟨0,none,_,_,_⟩,⟨0,none,_,_,_⟩,⟨0,none,_,_,_⟩] (.fin [⟨2,none,_,_,_⟩,⟨0,none,_,_,_⟩,⟨0,none,_,_,_⟩,⟨0,none,_,_,_⟩,⟨1,none,_,_,_⟩,⟨2,none,_,_,_⟩,⟨0,none,_,_,_⟩]) (.fin [⟨1,none,_,_,_⟩,⟨2,none,_,_,_⟩,⟨0,none,_,_,_⟩,⟨0,none,_,_,_⟩,⟨0,none,_,_,_⟩,⟨2,none,_,_,_⟩,⟨0,none,_,_,_⟩]))) rfl ?_)))
        |(refine C_false rfl ?_)
        |(refine C_skip ?_)
        |(refine T_fin ?_)
        |(refine T_br ?_)))
    |(refine gE ?_;(first
        |(refine E_then ?_)
        |(refine E_calm ?_)
        | (refine E_both ?_ ?_))))
  all_goals
    refine C_ent [.row v 67 3 (A ++ s2 :: B).length ((A ++ s2 :: B).flatMap clFragSlot),.many ((A ++ s2 :: B).flatMap rwFragSlot),.many (rwFragPacket z),.blk k7 45 [.int .i64 now,v],.blk kb 24 (clFragPacket z),.blk k5 24 (clFragPacket zeroP),.blk k4 45 [.int .i64 0,.slice none 0 0],.blk k3 24 (clFragPacket p)] entA ?_
    refine C_fact (fun w hs => (fun s hm => oneFragSlot (Rds.flatMap.1 (Rds.many hs (by (focus ((repeat (first|exact mH|refine mT ?_));done)))) s hm) : ∀ s ∈ A ++ s2 :: B,(clFragSlot s).all (·.oneCell') = true)) (fun honeS2 => ?_)
    refine C_fact (row_one (v := v) (by (focus ((repeat (first|exact mH|refine mT ?_));done)))) (fun honev => ?_)
    clear honeS
  all_goals
    repeat' (first
      |(refine gS ?_;(first
          |(refine S_move rfl rfl ?_)
          |(refine S_assign rfl rfl ?_)
          |(apply F_field rfl rfl;(first|exact T.fl24_6|exact T.fl24_7|exact T.fl45_0|exact T.fl45_1))
          |(refine gLoad ?_;(first
              |(apply F_load1 rfl rfl;(focus ((repeat (first|exact mH|refine mT ?_));done));(first|exact T.sc3|exact T.sc4|exact T.sc43);rfl;(focus (first|exact free0|exact free1|(refine free2 ?_ ?_;(focus ((repeat (first|(apply apart1;(repeat (first|exact mH|refine mT ?_));done)|(apply apart2;(repeat (first|exact mH|refine mT ?_));done)|refine apart3 ?_));done));(first|exact free1|(refine free2 ?_ ?_;(focus ((repeat (first|(apply apart1;(repeat (first|exact mH|refine mT ?_));done)|(apply apart2;(repeat (first|exact mH|refine mT ?_));done)|refine apart3 ?_));done));exact free1))))))
              |(apply F_loadAll rfl rfl;(focus ((repeat (first|exact mH|refine mT ?_));done));(first|exact T.rw24|exact T.rw45);(focus (first|exact free0|exact free1|(refine free2 ?_ ?_;(focus ((repeat (first|(apply apart1;(repeat (first|exact mH|refine mT ?_));done)|(apply apart2;(repeat (first|exact mH|refine mT ?_));done)|refine apart3 ?_));done));(first|exact free1|(refine free2 ?_ ?_;(focus ((repeat (first|(apply apart1;(repeat (first|exact mH|refine mT ?_));done)|(apply apart2;(repeat (first|exact mH|refine mT ?_));done)|refine apart3 ?_));done));exact free1))))))))
          |(refine gStore ?_;(first
              |(apply F_store1 rfl rfl;(focus (first|rfl|assumption));(first|exact T.sc3|exact T.sc4|exact T.sc43);(focus ((repeat (first|exact Upd.here|apply Upd.there));done));(focus ((repeat (first|exact SetSeg.nil|apply SetSeg.here|apply SetSeg.there));done));(first|exact okst2|exact okst1|exact okst1'))
              |(apply F_storeN rfl rfl;(focus (first|rfl|assumption|(simp only [List.append_nil,List.all_cons,List.all_nil,Bool.and_true,Bool.true_and,one_int,one_bool,one_string,one_slice,one_pointer, *];done)));(first|exact T.rw24|exact T.rw45);(focus ((repeat (first|exact Upd.here|apply Upd.there));done));(focus ((repeat (first|exact SetSeg.nil|apply SetSeg.here|apply SetSeg.there));done));(first|exact okst2|exact okst1|exact okst1'))))
          |(refine gCall ?_;(first
              |(show GoS _ _ _ _ _ _ _ (⟨_,_,_,.call ⟨.value (.func 90),_,_⟩,_⟩ :: _);apply S_callS (f := 90) T.pf90 rfl rfl (fun w hst => delete_c v (A ++ s2 :: B) A.length (by rw [List.length_append,List.length_cons];omega) _ honeS2 w hst);(focus ((repeat (first|exact Pull.nil|(apply Pull.app;(focus ((repeat (first|exact PickA.here|exact PickA.all|apply PickA.there|apply PickA.over));done)))|(apply Pull.cons;(focus ((repeat (first|exact Pick.here|exact Pick.last|apply Pick.there|apply Pick.over));done)))|(apply Pull.atom;(focus ((repeat (first|exact PickA.here|exact PickA.all|apply PickA.there|apply PickA.over));done)))));done));intro zz hzz;simp only [List.cons_append,List.nil_append];revert hzz;revert zz;rintro ⟨u,ul⟩ hu;dsimp only at hu ⊢;(try (refine S_fact (row_one (v := u) (by (focus ((repeat (first|exact mH|refine mT ?_));done)))) (fun hone => ?_))))))
          |(refine gBin ?_;(first
              |(refine S_eql rfl rfl rfl ?_)
              |(refine S_add rfl rfl ?_ rfl ?_;(focus (unfold rng;omega)))))
          |(refine S_done ?_)))
      |((first
          |(refine C_seq ?_)
          |(refine gReg ?_;(first
              |(refine gReg (i := 15) ?_;refine C_plain [(0,0),(1,0)] (by kernel_rfl) (s := [⟨0,none,_,_,_⟩,⟨0,none,_,_,_⟩]) rfl ?_)
              |(refine gReg (i := 16) ?_;refine C_plain [(0,0),(1,0),(2,0),(3,0),(4,0),(5,2),(6,0),(7,2)] (by kernel_rfl) (s := [⟨0,none,_,_,_⟩,⟨0,none,_,_,_⟩,⟨0,none,_,_,_⟩,⟨0,none,_,_,_⟩,⟨0,none,_,_,_⟩,⟨2,none,_,_,_⟩,⟨0,none,_,_,_⟩,⟨2,none,_,_,_⟩]) rfl ?_)
              |(refine gReg (i := 17) ?_;refine C_drawn1 4 rfl [(0,0),(1,0),(2,0),(3,1),(4,2),(5,0)] T.mixed (by kernel_rfl) (s := [⟨0,none,_,_,_⟩,⟨0,none,_,_,_⟩,⟨0,none,_,_,_⟩,⟨1,none,_,_,_⟩,⟨2,none,_,_,_⟩,⟨0,none,_,_,_⟩]) rfl ?_)))
          |(refine C_split rfl ?_ ?_ <;> (intro hb;(try simp only [decide_eq_true_eq] at hb);(try simp only [decide_eq_false_iff_not] at hb);(try simp only [Bool.not_eq_true'] at hb);(try simp only [Bool.not_eq_false'] at hb);(try (exfalso;first|contradiction|omega))))
          |(refine C_skip ?_)
          |(refine C_ret ?_)))
      |(refine gE ?_;(first
          |(refine E_then ?_)
          |(refine E_calm ?_)
          |(apply E_ret3 rfl;(first|exact Res.tmp rfl|(apply R_cellAll rfl;(focus ((repeat (first|exact mH|refine mT ?_));done));(first|exact T.rw24|exact T.rw45))|(apply R_cell1 rfl;(focus ((repeat (first|exact mH|refine mT ?_));done));(first|exact T.sc3|exact T.sc4|exact T.sc43)));(first|exact Res.tmp rfl|(apply R_cellAll rfl;(focus ((repeat (first|exact mH|refine mT ?_));done));(first|exact T.rw24|exact T.rw45))|(apply R_cell1 rfl;(focus ((repeat (first|exact mH|refine mT ?_));done));(first|exact T.sc3|exact T.sc4|exact T.sc43)));(first|exact Res.tmp rfl|(apply R_cellAll rfl;(focus ((repeat (first|exact mH|refine mT ?_));done));(first|exact T.rw24|exact T.rw45))|(apply R_cell1 rfl;(focus ((repeat (first|exact mH|refine mT ?_));done));(first|exact T.sc3|exact T.sc4|exact T.sc43)))))))
  all_goals first
    | (refine retX ((now, u, ul), z, cz) ?_ rfl (Ent.trans (L' := .many ((A ++ s2 :: B).flatMap rwFragSlot) :: [.row u 67 3 ul.length (ul.flatMap clFragSlot), .many (rwFragPacket z)]) (by (focus (apply Ent.flat; (simp only [List.length_append, List.length_cons, List.length_nil, Nat.zero_add, flat_many, flat_row, flat_blk, flat_append, flat_nil, List.map_append, List.map_cons, List.map_nil, List.flatMap_append, List.flatMap_cons, List.flatMap_nil, List.append_assoc, List.append_nil, List.nil_append, List.cons_append, Row.blk_mk, rwSuint8, rwFragPacket, rwSFragPacket, rwFragSlot, rwSFragSlot, rwFragBench]); ((repeat (first | exact Pull.nil | (apply Pull.app; (focus ((repeat (first | exact PickA.here | exact PickA.all | apply PickA.there | apply PickA.over)); done))) | (apply Pull.cons; (focus ((repeat (first | exact Pick.here | exact Pick.last | apply Pick.there | apply Pick.over)); done))) | (apply Pull.atom; (focus ((repeat (first | exact PickA.here | exact PickA.all | apply PickA.there | apply PickA.over)); done))))); done)))) (Ent.trans (Ent.sublist (flat_sub (hu ▸ List.eraseIdx_sublist _ _))) (by (focus (apply Ent.flat; (simp only [List.length_append, List.length_cons, List.length_nil, Nat.zero_add, flat_many, flat_row, flat_blk, flat_append, flat_nil, List.map_append, List.map_cons, List.map_nil, List.flatMap_append, List.flatMap_cons, List.flatMap_nil, List.append_assoc, List.append_nil, List.nil_append, List.cons_append, Row.blk_mk, rwSuint8, rwFragPacket, rwSFragPacket, rwFragSlot, rwSFragSlot, rwFragBench]); ((repeat (first | exact Pull.nil | (apply Pull.app; (focus ((repeat (first | exact PickA.here | exact PickA.all | apply PickA.there | apply PickA.over)); done))) | (apply Pull.cons; (focus ((repeat (first | exact Pick.here | exact Pick.last | apply Pick.there | apply Pick.over)); done))) | (apply Pull.atom; (focus ((repeat (first | exact PickA.here | exact PickA.all | apply PickA.there | apply PickA.over)); done))))); done))))))
       rw [hz, if_pos hb, hu, erase_mid, hb]
       show ((now, _), _, _) = ((now, (A ++ B).map ctFragSlot), _, _)
       rw [List.map_append])
    | (refine retX ((now, v, A ++ s2 :: B), z, cz) ?_ rfl (by (focus (apply Ent.flat; (simp only [List.length_append, List.length_cons, List.length_nil, Nat.zero_add, flat_many, flat_row, flat_blk, flat_append, flat_nil, List.map_append, List.map_cons, List.map_nil, List.flatMap_append, List.flatMap_cons, List.flatMap_nil, List.append_assoc, List.append_nil, List.nil_append, List.cons_append, Row.blk_mk, rwSuint8, rwFragPacket, rwSFragPacket, rwFragSlot, rwSFragSlot, rwFragBench]); ((repeat (first | exact Pull.nil | (apply Pull.app; (focus ((repeat (first | exact PickA.here | exact PickA.all | apply PickA.there | apply PickA.over)); done))) | (apply Pull.cons; (focus ((repeat (first | exact Pick.here | exact Pick.last | apply Pick.there | apply Pick.over)); done))) | (apply Pull.atom; (focus ((repeat (first | exact PickA.here | exact PickA.all | apply PickA.there | apply PickA.over)); done))))); done))))
       rw [hz, if_neg hb]
       show ((now, _), _, _) = ((now, (A ++ s2 :: B).map ctFragSlot), _, _)
       rw [List.map_append, List.map_cons])
end Go.Proofs.Ytodhjpnfokkfeaa

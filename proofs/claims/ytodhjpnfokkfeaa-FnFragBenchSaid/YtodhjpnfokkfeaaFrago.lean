/- Drawn pieces of a packet. -/
import Derived.Test.YtodhjpnfokkfeaaFragn
set_option linter.unusedSimpArgs false
set_option linter.unusedVariables false
namespace Go.Proofs.Ytodhjpnfokkfeaa
open Go Go.RowKit
attribute [local irreducible] Calls GoS GoC GoE GoT Mid IsEq IsFl IsSc IsRw IsSl IsEl IsSt IsFs sp Mem Rd LenOf szR
theorem rds_el {w : World} {v : Value} {l : List MFragPacket} (hx : Rds w (rwSFragPacket (v, l))) {k : Nat} {x : MFragPacket} (h : l[k]? = some x) : Rds w (rwFragPacket x) := (Rds.flatMap.1 (Rds.tail hx)) _ (List.mem_of_getElem? h)
/-- pieces of a packet, cut once, or one of them once more -/
def CutsOf (c : CFragPacket) (r : List CFragPacket) : Prop := ∃ m : Int, 12 ≤ m ∧ m ≤ 41 ∧ (r = (cutC c m).1 ∨ ∃ (k : Nat) (d : CFragPacket) (n : Int), (cutC c m).1[k]? = some d ∧ 12 ≤ n ∧ n ≤ 19 ∧ r = (cutC c m).1.take k ++ (cutC d n).1 ++ (cutC c m).1.drop (k + 1))
theorem cutC_len (c : CFragPacket) (m : Int) : (cutC c m).1.length ≤ 1048576 ∧ ∀ d ∈ (cutC c m).1, d.2.2.2.2.2.2.2.2.length ≤ c.2.2.2.2.2.2.2.2.length := by
  unfold cutC
  split
  · rename_i hok
    have hk := fragOk_t hok
    split
    · exact ⟨by simp, fun d hd => by cases hd⟩
    · split
      · exact ⟨by simp, fun d hd => by rw [List.mem_singleton] at hd; rw [hd]; exact Nat.le_refl _⟩
      · split
        · exact ⟨by simp, fun d hd => by cases hd⟩
        · rename_i h1 h2 h3
          have hz := sizeC_le hok
          have hs0 : 0 < stepC m := by unfold stepC; omega
          refine ⟨?_, fun d hd => ?_⟩
          · dsimp only
            rw [List.length_map, List.length_range]
            have h5 := cutN_lt (n := c.2.2.2.2.2.2.2.2.length) (i := 1048576) hs0
            have h6 : 1048576 ≤ 1048576 * stepC m := Nat.le_mul_of_pos_right _ hs0
            omega
          · obtain ⟨i, _, rfl⟩ := List.mem_map.1 hd
            simp only [pieceC, List.length_take, List.length_drop]
            omega
  · exact ⟨by simp, fun d hd => by cases hd⟩
theorem all_in {w0 w : World} {L : List Blk} (dn : List MFragPacket) (yi : Int) (hs : St w0 w L) (hm : .many (dn.flatMap rwFragPacket) ∈ L) : (((dn.drop 0).take (yi.toNat - 0)).flatMap clFragPacket).all (·.oneCell') = true ∧ (((dn.drop (yi + 1).toNat).take (dn.length - (yi + 1).toNat)).flatMap clFragPacket).all (·.oneCell') = true := by
  have h : ∀ y ∈ dn, (clFragPacket y).all (·.oneCell') = true := fun y hy => oneFragPacket ((Rds.flatMap.1 (Rds.many hs hm)) y hy)
  exact ⟨all_flat fun y hy => h y (List.mem_of_mem_drop (List.mem_of_mem_take hy)), all_flat fun y hy => h y (List.mem_of_mem_drop (List.mem_of_mem_take hy))⟩
theorem cuts_end {w0 : World} {R : List Blk} {dn tn : List MFragPacket} {yi q : Int} {kr : Nat} {v sv tv s0 : Value} (h0 : 0 ≤ yi) (h1 : yi < (dn.length : Int)) : Ent w0 (.row sv 24 9 (0 + ((dn.drop 0).take (yi.toNat - 0)).length + tn.length + ((dn.drop (yi + 1).toNat).take (dn.length - (yi + 1).toNat)).length)
    ([] ++ ((dn.drop 0).take (yi.toNat - 0)).flatMap clFragPacket ++ tn.flatMap clFragPacket ++ ((dn.drop (yi + 1).toNat).take (dn.length - (yi + 1).toNat)).flatMap clFragPacket) :: .row tv 24 9 tn.length (tn.flatMap clFragPacket) :: .many (tn.flatMap rwFragPacket) :: .blk kr 108 (rdr v q) :: .row s0 24 9 dn.length (dn.flatMap clFragPacket) :: .many (dn.flatMap rwFragPacket) :: R)
    ([.blk kr 108 (rdr v q), .many (rwSFragPacket (sv, dn.take yi.toNat ++ tn ++ dn.drop (yi.toNat + 1)))] ++ R) := by
  have e1 : (dn.drop 0).take (yi.toNat - 0) = dn.take yi.toNat := by rw [List.drop_zero, Nat.sub_zero]
  have e2 : (yi + 1).toNat = yi.toNat + 1 := by omega
  have e3 : (dn.drop (yi + 1).toNat).take (dn.length - (yi + 1).toNat) = dn.drop (yi.toNat + 1) := by rw [e2, List.take_of_length_le (by rw [List.length_drop]; omega)]
  rw [e1, e3]
  obtain ⟨LL, hLL⟩ : ∃ z, z = dn.take yi.toNat ++ tn ++ dn.drop (yi.toNat + 1) := ⟨_, rfl⟩
  have hr : LL.flatMap rwFragPacket = (dn.take yi.toNat).flatMap rwFragPacket ++ (tn.flatMap rwFragPacket ++ (dn.drop (yi.toNat + 1)).flatMap rwFragPacket) := by rw [hLL]; simp
  have hx : dn = dn.take yi.toNat ++ (ix dn yi.toNat :: dn.drop (yi.toNat + 1)) := by
    have h2 : dn[yi.toNat]? = some (ix dn yi.toNat) := nthD (by omega)
    obtain ⟨hlt, he⟩ := List.getElem?_eq_some_iff.1 h2
    have h3 : dn.drop yi.toNat = ix dn yi.toNat :: dn.drop (yi.toNat + 1) := by rw [List.drop_eq_getElem_cons hlt, he]
    rw [← h3, List.take_append_drop]
  have hd : dn.flatMap rwFragPacket = (dn.take yi.toNat).flatMap rwFragPacket ++ (rwFragPacket (ix dn yi.toNat) ++ (dn.drop (yi.toNat + 1)).flatMap rwFragPacket) := by
    have := congrArg (fun z => z.flatMap rwFragPacket) hx
    rw [List.flatMap_append, List.flatMap_cons] at this
    exact this
  have hrow : Blk.row sv 24 9 (0 + (dn.take yi.toNat).length + tn.length + (dn.drop (yi.toNat + 1)).length) ([] ++ (dn.take yi.toNat).flatMap clFragPacket ++ tn.flatMap clFragPacket ++ (dn.drop (yi.toNat + 1)).flatMap clFragPacket) = Blk.row sv 24 9 LL.length (LL.flatMap clFragPacket) := by
    rw [hLL, List.length_append, List.length_append, List.flatMap_append, List.flatMap_append, List.nil_append, Nat.zero_add]
  rw [hrow, hd, ← hLL]
  show Ent w0 _ ([.blk kr 108 (rdr v q), .many (⟨sv, 24, 9, LL.length, LL.flatMap clFragPacket⟩ :: LL.flatMap rwFragPacket)] ++ R)
  rw [hr]
  generalize (dn.take yi.toNat).flatMap rwFragPacket = A
  generalize (dn.drop (yi.toNat + 1)).flatMap rwFragPacket = D
  generalize tn.flatMap rwFragPacket = T
  generalize rwFragPacket (ix dn yi.toNat) = X
  exact entA
set_option maxHeartbeats 2000000 in
theorem l15Cuts_c {w0 : World} (kr : Nat) (v : Value) (l : List Int) (p : Int) (x : MFragPacket) (hl : x.2.2.2.2.2.2.2.2.2.length ≤ 1048576) (hc : Code w0 v l) (hp : 0 ≤ p ∧ p ≤ 1099511600000) (R : List Blk) (hrx : ∀ w, St w0 w R → Rds w (rwFragPacket x)) (w : World) (hs : St w0 w ([.blk kr 108 (rdr v p)] ++ R)) : Calls Try.prog 98 #[.pointer (some ⟨kr, 0, none⟩), .agg (clFragPacket x).toArray] w
    (RetS w0 R (fun z : MSFragPacket × Int => CutsOf (ctFragPacket x) (z.1.2.map ctFragPacket) ∧ p ≤ z.2 ∧ z.2 ≤ p + 10) (fun z => z.1.1) (fun z => [.blk kr 108 (rdr v z.2), .many (rwSFragPacket z.1)])) := by
  have hs' : St w0 w (.blk kr 108 (rdr v p) :: R) := hs
  have hone0 := oneFragPacket (hrx w (hs'.drop (List.sublist_cons_self _ _)))
  refine enterS (n := 54) (E := [(0, _), (1, _)]) Try.func98 rfl rfl rfl rfl hs' ?_
  repeat' (first
    |(refine gS ?_;(first
        |(refine gGuard ?_;(first
            |(refine S_on rfl ?_)
            |(refine S_off rfl rfl rfl ?_)
            |(refine S_gsplit rfl ?_ ?_ <;> (intro hb;(try simp only [decide_eq_true_eq] at hb);(try simp only [decide_eq_false_iff_not] at hb);(try simp only [Bool.not_eq_true'] at hb);(try simp only [Bool.not_eq_false'] at hb);(try (exfalso;first|contradiction|omega))))))
        |(refine S_move rfl rfl ?_)
        |(refine S_assign rfl rfl ?_)
        |(apply F_idxZ rfl rfl rfl;exact T.sl27;(focus omega);(focus (first|(focus (first|exact len_nil|(apply len_given;assumption)|(apply len_row;(focus ((repeat (first|exact mH|refine mT ?_));done)))|(apply len_isN;assumption)))|(apply len_sub;(focus (first|exact len_nil|(apply len_given;assumption)|(apply len_row;(focus ((repeat (first|exact mH|refine mT ?_));done)))|(apply len_isN;assumption)));(focus omega);(focus omega))));(focus omega))
        |(apply F_slice rfl rfl;exact T.sl27;(focus (first|(focus (first|exact len_nil|(apply len_given;assumption)|(apply len_row;(focus ((repeat (first|exact mH|refine mT ?_));done)))|(apply len_isN;assumption)))|(apply len_sub;(focus (first|exact len_nil|(apply len_given;assumption)|(apply len_row;(focus ((repeat (first|exact mH|refine mT ?_));done)))|(apply len_isN;assumption)));(focus omega);(focus omega))));(focus exact rfl);(focus exact ⟨_,_,rfl,by omega,rfl⟩);(focus omega);(focus omega))
        |(apply F_slice rfl rfl;exact T.sl27;(focus (first|(focus (first|exact len_nil|(apply len_given;assumption)|(apply len_row;(focus ((repeat (first|exact mH|refine mT ?_));done)))|(apply len_isN;assumption)))|(apply len_sub;(focus (first|exact len_nil|(apply len_given;assumption)|(apply len_row;(focus ((repeat (first|exact mH|refine mT ?_));done)))|(apply len_isN;assumption)));(focus omega);(focus omega))));(focus exact ⟨_,_,rfl,by omega,rfl⟩);(focus exact rfl);(focus omega);(focus omega))
        |(apply F_bs0 rfl rfl;exact T.el27;rfl;intro sv;(try (refine S_fact (row_one (v := sv) (by (focus ((repeat (first|exact mH|refine mT ?_));done)))) (fun hone => ?_))))
        |(refine gLoad ?_;(first
            |(apply F_loadAll rfl rfl;(focus ((repeat (first|exact mH|refine mT ?_));done));exact T.rw24;(focus (first|exact free0|exact free1|(refine free2 ?_ ?_;(focus ((repeat (first|(apply apart1;(repeat (first|exact mH|refine mT ?_));done)|(apply apart2;(repeat (first|exact mH|refine mT ?_));done)|refine apart3 ?_));done));(first|exact free1|(refine free2 ?_ ?_;(focus ((repeat (first|(apply apart1;(repeat (first|exact mH|refine mT ?_));done)|(apply apart2;(repeat (first|exact mH|refine mT ?_));done)|refine apart3 ?_));done));exact free1))))))
            |(apply F_loadSN rfl rfl;exact T.rw24;(focus (first|exact rd_nil|(apply rd_given;(focus assumption);(focus (first|exact freeG0|exact freeG1|(apply freeG2;(focus ((repeat (first|exact mH|refine mT ?_));done));(first|exact freeG1|(apply freeG2;(focus ((repeat (first|exact mH|refine mT ?_));done));exact freeG1))))))|(apply rd_row;(focus ((repeat (first|exact mH|refine mT ?_));done));(focus (first|exact freeR0|exact freeR1|(refine freeR2 ?_ ?_;(focus ((repeat (first|(apply apartR1;(focus ((repeat (first|exact mH|refine mT ?_));done));done)|(apply apartR2;(focus ((repeat (first|exact mH|refine mT ?_));done));done)|refine apartR3 ?_));done));(first|exact freeR1|(refine freeR2 ?_ ?_;(focus ((repeat (first|(apply apartR1;(focus ((repeat (first|exact mH|refine mT ?_));done));done)|(apply apartR2;(focus ((repeat (first|exact mH|refine mT ?_));done));done)|refine apartR3 ?_));done));exact freeR1))))))|(apply rd_sub;(focus (apply rd_given;(focus assumption);(focus (first|exact freeG0|exact freeG1|(apply freeG2;(focus ((repeat (first|exact mH|refine mT ?_));done));(first|exact freeG1|(apply freeG2;(focus ((repeat (first|exact mH|refine mT ?_));done));exact freeG1)))))));(focus (intro _;rfl));(focus omega);(focus omega))|(apply rd_sub;(focus (apply rd_row;(focus ((repeat (first|exact mH|refine mT ?_));done));(focus (first|exact freeR0|exact freeR1|(refine freeR2 ?_ ?_;(focus ((repeat (first|(apply apartR1;(focus ((repeat (first|exact mH|refine mT ?_));done));done)|(apply apartR2;(focus ((repeat (first|exact mH|refine mT ?_));done));done)|refine apartR3 ?_));done));(first|exact freeR1|(refine freeR2 ?_ ?_;(focus ((repeat (first|(apply apartR1;(focus ((repeat (first|exact mH|refine mT ?_));done));done)|(apply apartR2;(focus ((repeat (first|exact mH|refine mT ?_));done));done)|refine apartR3 ?_));done));exact freeR1)))))));(focus (intro _;rfl));(focus omega);(focus omega))));(focus (first|(focus (apply at_flat;(focus (intro _;rfl));(focus assumption)))|exact at_self));rfl;rfl)))
        |(refine gCall ?_;(first
            |(show GoS _ _ _ _ _ _ _ (⟨_,_,_,.call ⟨.value (.func 48),_,_⟩,_⟩ :: _);apply S_callB (f := 48) (b := kr) (hp := T.pf48) (hv := rfl) (hd := rfl);(case hpick => ((repeat (first|exact Pick.here|exact Pick.last|apply Pick.there|apply Pick.over));done));(case hc => exact pick_c kr v l _ 30 hc (by omega));(case hnb => (intro _ _;exact ⟨_,List.Mem.head _,rfl⟩));(case hk => (first|exact okst2|exact okst1|exact okst1'));intro zz hzz;simp only [List.cons_append,List.nil_append];revert hzz;revert zz;intro y30 hy30)
            |(show GoS _ _ _ _ _ _ _ (⟨_,_,_,.call ⟨.value (.func 48),_,_⟩,_⟩ :: _);apply S_callB (f := 48) (b := kr) (hp := T.pf48) (hv := rfl) (hd := rfl);(case hpick => ((repeat (first|exact Pick.here|exact Pick.last|apply Pick.there|apply Pick.over));done));(case hc => exact pick_c kr v l _ 8 hc (by omega));(case hnb => (intro _ _;exact ⟨_,List.Mem.head _,rfl⟩));(case hk => (first|exact okst2|exact okst1|exact okst1'));intro zz hzz;simp only [List.cons_append,List.nil_append];revert hzz;revert zz;intro y8 hy8)
            |(show GoS _ _ _ _ _ _ _ (⟨_,_,_,.call ⟨.value (.func 48),_,_⟩,_⟩ :: _);apply S_callB (f := 48) (b := kr) (hp := T.pf48) (hv := rfl) (hd := rfl);(case hpick => ((repeat (first|exact Pick.here|exact Pick.last|apply Pick.there|apply Pick.over));done));(case hc => exact pick_c kr v l _ 3 hc (by omega));(case hnb => (intro _ _;exact ⟨_,List.Mem.head _,rfl⟩));(case hk => (first|exact okst2|exact okst1|exact okst1'));intro zz hzz;simp only [List.cons_append,List.nil_append];revert hzz;revert zz;intro y3 hy3)
            |(show GoS _ _ _ _ _ _ _ (⟨_,_,_,.call ⟨.value (.func 48),_,_⟩,_⟩ :: _);apply S_callB (f := 48) (b := kr) (hp := T.pf48) (hv := rfl) (hd := rfl);(case hpick => ((repeat (first|exact Pick.here|exact Pick.last|apply Pick.there|apply Pick.over));done));(case hc => exact pick_c kr v l _ (dn.length : Int) hc (by omega));(case hnb => (intro _ _;exact ⟨_,List.Mem.head _,rfl⟩));(case hk => (first|exact okst2|exact okst1|exact okst1'));intro zz hzz;simp only [List.cons_append,List.nil_append];revert hzz;revert zz;intro yi hyi;have hx1 := hel yi hyi.1 (hyi.2.1 (by omega)))
            |(show GoS _ _ _ _ _ _ _ (⟨_,_,_,.call ⟨.value (.func 13),_,_⟩,_⟩ :: _);refine S_callX (f := 13) rfl T.pf13 rfl (fun w hst => specFragCut_c x (12 + y30) (by omega) hl w (hrx w (hst.drop (by repeat (first|exact List.Sublist.refl _|apply List.Sublist.cons))))) rfl (fun zz hzz => ?_);simp only [List.cons_append,List.nil_append];revert hzz;revert zz;rintro ⟨sv,dn⟩ hcut;refine S_fact (fun w hs => Rds.one1 (Rds.many hs (by (focus ((repeat (first|exact mH|refine mT ?_));done))))) (fun hone => ?_);dsimp only at hcut ⊢;refine S_ent (.row sv 24 9 dn.length (dn.flatMap clFragPacket) :: .many (dn.flatMap rwFragPacket) :: .blk kr 108 (rdr v (p + 1)) :: .blk kb 24 (clFragPacket x) :: R) entA ?_;have hlen := cutC_len (ctFragPacket x) (12 + y30);rw [← hcut] at hlen;have hel : ∀ j : Int,0 ≤ j → j < (dn.length : Int) → dn[j.toNat]? = some (ix dn j.toNat) := (fun j h0 h1 => nthD (by omega));have hlx : ∀ k : Nat,dn[k]? = some (ix dn k) → (ix dn k).2.2.2.2.2.2.2.2.2.length ≤ 1048576 := (fun k hk => Nat.le_trans (hlen.2 _ (List.mem_map_of_mem (List.mem_of_getElem? hk))) hl);have hlen1 : dn.length ≤ 1048576 := (by have := hlen.1;rwa [List.length_map] at this))
            |(show GoS _ _ _ _ _ _ _ (⟨_,_,_,.call ⟨.value (.func 13),_,_⟩,_⟩ :: _);refine S_callX (f := 13) rfl T.pf13 rfl (fun w hst => specFragCut_c (ix dn yi.toNat) (12 + y8) (by omega) (hlx yi.toNat hx1) w ((Rds.flatMap.1 (Rds.many hst (by (focus ((repeat (first|exact mH|refine mT ?_));done))))) _ (List.mem_of_getElem? hx1))) rfl (fun zz hzz => ?_);simp only [List.cons_append,List.nil_append];revert hzz;revert zz;rintro ⟨tv,tn⟩ hcut2;refine S_fact (fun w hs => Rds.one1 (Rds.many hs (by (focus ((repeat (first|exact mH|refine mT ?_));done))))) (fun hone => ?_);dsimp only at hcut2 ⊢;refine S_ent (.row tv 24 9 tn.length (tn.flatMap clFragPacket) :: .many (tn.flatMap rwFragPacket) :: .blk kr 108 (rdr v (p + 1 + 1 + 1 + 1)) :: .row sv 24 9 dn.length (dn.flatMap clFragPacket) :: .many (dn.flatMap rwFragPacket) :: R) entA ?_;refine S_fact (fun w hs => all_in dn yi hs (by repeat (first|exact mH|refine mT ?_))) (fun hd13 => ?_);have hd1 := hd13.1;have hd3 := hd13.2;refine S_fact (fun w hs => all_flat (fun y hy => oneFragPacket ((Rds.flatMap.1 (Rds.many hs (by repeat (first|exact mH|refine mT ?_)))) y hy))) (fun hd2 : (tn.flatMap clFragPacket).all (·.oneCell') = true => ?_);have hlen2 := cutC_len (ctFragPacket (ix dn yi.toNat)) (12 + y8);rw [← hcut2] at hlen2;have hlen3 : tn.length ≤ 1048576 := (by have := hlen2.1;rwa [List.length_map] at this))
            |(apply F_len rfl rfl rfl;(focus exact ⟨_,_,by exact T.sl27⟩);(focus (first|(focus (first|exact len_nil|(apply len_given;assumption)|(apply len_row;(focus ((repeat (first|exact mH|refine mT ?_));done)))|(apply len_isN;assumption)))|(apply len_sub;(focus (first|exact len_nil|(apply len_given;assumption)|(apply len_row;(focus ((repeat (first|exact mH|refine mT ?_));done)))|(apply len_isN;assumption)));(focus omega);(focus omega)))))
            |(apply F_append rfl rfl rfl rfl;exact T.el27;(focus (intro sv;(focus ((repeat (first|exact Upd.here|apply Upd.there));done))));(focus (first|exact rd_nil|(apply rd_given;(focus assumption);(focus (first|exact freeG0|exact freeG1|(apply freeG2;(focus ((repeat (first|exact mH|refine mT ?_));done));(first|exact freeG1|(apply freeG2;(focus ((repeat (first|exact mH|refine mT ?_));done));exact freeG1))))))|(apply rd_row;(focus ((repeat (first|exact mH|refine mT ?_));done));(focus (first|exact freeR0|exact freeR1|(refine freeR2 ?_ ?_;(focus ((repeat (first|(apply apartR1;(focus ((repeat (first|exact mH|refine mT ?_));done));done)|(apply apartR2;(focus ((repeat (first|exact mH|refine mT ?_));done));done)|refine apartR3 ?_));done));(first|exact freeR1|(refine freeR2 ?_ ?_;(focus ((repeat (first|(apply apartR1;(focus ((repeat (first|exact mH|refine mT ?_));done));done)|(apply apartR2;(focus ((repeat (first|exact mH|refine mT ?_));done));done)|refine apartR3 ?_));done));exact freeR1))))))|(apply rd_sub;(focus (apply rd_given;(focus assumption);(focus (first|exact freeG0|exact freeG1|(apply freeG2;(focus ((repeat (first|exact mH|refine mT ?_));done));(first|exact freeG1|(apply freeG2;(focus ((repeat (first|exact mH|refine mT ?_));done));exact freeG1)))))));(focus (intro _;rfl));(focus omega);(focus omega))|(apply rd_sub;(focus (apply rd_row;(focus ((repeat (first|exact mH|refine mT ?_));done));(focus (first|exact freeR0|exact freeR1|(refine freeR2 ?_ ?_;(focus ((repeat (first|(apply apartR1;(focus ((repeat (first|exact mH|refine mT ?_));done));done)|(apply apartR2;(focus ((repeat (first|exact mH|refine mT ?_));done));done)|refine apartR3 ?_));done));(first|exact freeR1|(refine freeR2 ?_ ?_;(focus ((repeat (first|(apply apartR1;(focus ((repeat (first|exact mH|refine mT ?_));done));done)|(apply apartR2;(focus ((repeat (first|exact mH|refine mT ?_));done));done)|refine apartR3 ?_));done));exact freeR1)))))));(focus (intro _;rfl));(focus omega);(focus omega))));(focus (first|rfl|assumption|(apply all_flat;intro _ _;rfl)|(rw [List.append_nil];assumption)|(simp only [List.append_nil,List.all_cons,List.all_nil,Bool.and_true,Bool.true_and,one_int,one_bool,one_string,one_slice,one_pointer, *];done)|simp));(first|exact okst2|exact okst1|exact okst1');(focus (simp only [maxLen];first|omega|(simp only [List.length_take,List.length_drop];omega)));(focus (first|omega|(simp only [List.length_take,List.length_drop];omega)));intro sv;(try (refine S_fact (row_one (v := sv) (by (focus ((repeat (first|exact mH|refine mT ?_));done)))) (fun hone => ?_))))))
        |(refine gBin ?_;(first
            |(refine S_gtr rfl rfl rfl ?_)
            |(refine S_eql rfl rfl rfl ?_)
            |(refine S_add rfl rfl ?_ rfl ?_;(focus (unfold rng;omega)))))
        |(refine gPick ?_;(first
            |(refine S_pickT rfl rfl rfl ?_)
            |(refine S_pickF rfl rfl rfl ?_)))
        |(refine S_box rfl rfl rfl ?_;intro kb)
        |(refine S_extract rfl rfl rfl ?_)
        |(refine S_done ?_)
        |(refine S_K rfl ?_)))
    |((first
        |(refine C_seq ?_)
        |(refine gReg ?_;(first
            |(refine gReg (i := 0) ?_;refine C_plain [(0,2),(1,0)] (by kernel_rfl) (s := [⟨2,none,_,_,_⟩,⟨0,none,_,_,_⟩]) rfl ?_)
            |(refine gReg (i := 1) ?_;refine C_drawn1 0 rfl [(0,0),(1,0),(2,1),(3,0),(4,1),(5,0),(6,0),(7,0),(8,0),(9,0)] T.mixed (by kernel_rfl) (s := [⟨0,none,_,_,_⟩,⟨0,none,_,_,_⟩,⟨1,none,_,_,_⟩,⟨0,none,_,_,_⟩,⟨1,none,_,_,_⟩,⟨0,none,_,_,_⟩,⟨0,none,_,_,_⟩,⟨0,none,_,_,_⟩,⟨0,none,_,_,_⟩,⟨0,none,_,_,_⟩]) rfl ?_)
            |(refine gReg (i := 2) ?_;refine C_plain [(0,0),(1,2),(2,0),(3,0),(4,0),(5,0),(6,0),(7,0)] (by kernel_rfl) (s := [⟨0,none,_,_,_⟩,⟨2,none,_,_,_⟩,⟨0,none,_,_,_⟩,⟨0,none,_,_,_⟩,⟨0,some (21,false),_,_,_⟩,⟨0,some (21,false),_,_,_⟩,⟨0,some (21,false),_,_,_⟩,⟨0,none,_,_,_⟩]) rfl ?_)
            |(refine gReg (i := 3) ?_;refine C_plain [(0,0),(1,0)] (by kernel_rfl) (s := [⟨0,none,_,_,_⟩,⟨0,none,_,_,_⟩]) rfl ?_)
            |(refine gReg (i := 4) ?_;refine C_plain [(0,0),(1,0),(2,0),(3,2),(4,0)] (by kernel_rfl) (s := [⟨0,none,_,_,_⟩,⟨0,none,_,_,_⟩,⟨0,none,_,_,_⟩,⟨2,none,_,_,_⟩,⟨0,none,_,_,_⟩]) rfl ?_)
            |(refine gReg (i := 5) ?_;refine C_drawn1 0 rfl [(0,0),(1,0),(2,0),(3,0),(4,0),(5,1),(6,0),(7,1),(8,0),(9,0),(10,0),(11,0),(12,0)] T.mixed (by kernel_rfl) (s := [⟨0,none,_,_,_⟩,⟨0,none,_,_,_⟩,⟨0,none,_,_,_⟩,⟨0,none,_,_,_⟩,⟨0,none,_,_,_⟩,⟨1,none,_,_,_⟩,⟨0,none,_,_,_⟩,⟨1,none,_,_,_⟩,⟨0,none,_,_,_⟩,⟨0,none,_,_,_⟩,⟨0,none,_,_,_⟩,⟨0,none,_,_,_⟩,⟨0,none,_,_,_⟩]) rfl ?_)
            |(refine gReg (i := 6) ?_;refine C_drawnT (.br [(1,0),(2,0),(3,0),(5,0),(7,0),(8,0)] (.br [(0,1)] (.br [(4,2)] (.fin [(6,2),(9,1),(10,1),(11,2),(12,0)]) (.br [(9,1)] (.fin [(6,2),(10,1),(11,2),(12,0)]) (.fin [(10,1),(6,2),(11,2),(12,0)]))) (.br [(9,1)] (.br [(4,2)] (.fin [(6,2),(10,1),(11,2),(12,0)]) (.fin [(10,1),(6,2),(11,2),(12,0)])) (.fin [(10,1),(4,2),(6,2),(11,2),(12,0)]))) (.br [(9,1)] (.br [(0,1)] (.br [(4,2)] (.fin [(6,2),(10,1),(11,2),(12,0)]) (.fin [(10,1),(6,2),(11,2),(12,0)])) (.fin [(10,1),(4,2),(6,2),(11,2),(12,0)])) (.fin [(10,1),(0,1),(4,2),(6,2),(11,2),(12,0)]))) [] T.mixed (by kernel_rfl) (s := (.br [⟨0,none,_,_,_⟩,⟨0,none,_,_,_⟩,⟨0,none,_,_,_⟩,⟨0,none,_,_,_⟩,⟨0,none,_,_,_⟩,⟨0,none,_,_,_⟩] (.br [⟨1,none,_,_,_⟩] (.br [⟨2,none,_,_,_⟩] (.fin [⟨2,none,_,_,_⟩,⟨1,none,_,_,_⟩,⟨1,none,_,_,_⟩,⟨2,none,_,_,_⟩,⟨0,none,_,_,_⟩]) (.br [⟨1,none,_,_,_⟩] (.fin [⟨2,none,_,_,_⟩,⟨1,none,_,_,_⟩,⟨2,none,_,_,_⟩,⟨0,none,_,_,_⟩]) (.fin [⟨1,none,_,_,_⟩,⟨2,none,_,_,_⟩,⟨2,none,_,_,_⟩,⟨0,none,_,_,_⟩]))) (.br [⟨1,none,_,_,_⟩] (.br [⟨2,none,_,_,_⟩] (.fin [⟨2,none,_,_,_⟩,⟨1,none,_,_,_⟩,⟨2,none,_,_,_⟩,⟨0,none,_,_,_⟩]) (.fin [⟨1,none,_,_,_⟩,⟨2,none,_,_,_⟩,⟨2,none,_,_,_⟩,⟨0,none,_,_,_⟩])) (.fin [⟨1,none,_,_,_⟩,⟨2,none,_,_,_⟩,⟨2,none,_,_,_⟩,⟨2,none,_,_,_⟩,⟨0,none,_,_,_⟩]))) (.br [⟨1,none,_,_,_⟩] (.br [⟨1,none,_,_,_⟩] (.br [⟨2,none,_,_,_⟩] (.fin [⟨2,none,_,_,_⟩,⟨1,none,_,_,_⟩,⟨2,none,_,_,_⟩,⟨0,none,_,_,_⟩]) (.fin [⟨1,none,_,_,_⟩,⟨2,none,_,_,_⟩,⟨2,none,_,_,_⟩,⟨0,none,_,_,_⟩])) (.fin [⟨1,none,_,_,_⟩,⟨2,none,_,_,_⟩,⟨2,none,_,_,_⟩,⟨2,none,_,_,_⟩,⟨0,none,_,_,_⟩])) (.fin [⟨1,none,_,_,_⟩,⟨1,none,_,_,_⟩,⟨2,none,_,_,_⟩,⟨2,none,_,_,_⟩,⟨2,none,_,_,_⟩,⟨0,none,_,_,_⟩])))) rfl ?_)))
        |(refine C_true rfl ?_)
        |(refine C_split rfl ?_ ?_ <;> (intro hb;(try simp only [decide_eq_true_eq] at hb);(try simp only [decide_eq_false_iff_not] at hb);(try simp only [Bool.not_eq_true'] at hb);(try simp only [Bool.not_eq_false'] at hb);(try (exfalso;first|contradiction|omega))))
        |(refine C_skip ?_)
        |(refine C_ret ?_)
        |(refine T_fin ?_)
        |(refine T_br ?_)))
    |(refine gE ?_;(first
        |(refine E_then ?_)
        |(refine E_thenR ?_)
        |(refine E_calm ?_)
        |(apply E_ret1 rfl;(first|exact Res.tmp rfl|(apply R_cellAll rfl;(focus ((repeat (first|exact mH|refine mT ?_));done));exact T.rw24)|(apply R_cell1 rfl;(focus ((repeat (first|exact mH|refine mT ?_));done));fail)))
        |(refine E_both ?_ ?_)
        | (refine E_K ?_))))
  · exact retS ((sv,dn),p + 1 + 1) ⟨⟨12 + y30,by omega,by omega,.inl hcut⟩,by dsimp only;omega,by dsimp only;omega⟩ rfl entA
  · exact retS ((sv,dn),p + 1 + 1) ⟨⟨12 + y30,by omega,by omega,.inl hcut⟩,by dsimp only;omega,by dsimp only;omega⟩ rfl entA
  all_goals
    refine retS ((sv, dn.take yi.toNat ++ tn ++ dn.drop (yi.toNat + 1)), p + 1 + 1 + 1 + 1) ⟨?_, by dsimp only; omega, by dsimp only; omega⟩ rfl (cuts_end hyi.1 (hyi.2.1 (by omega)))
    refine ⟨12 + y30, by omega, by omega, .inr ⟨yi.toNat, ctFragPacket (ix dn yi.toNat), 12 + y8, ?_, by omega, by omega, ?_⟩⟩
    · rw [← hcut, List.getElem?_map, hx1]; rfl
    · rw [← hcut, ← hcut2]
      simp only [List.map_append, List.map_take, List.map_drop]
end Go.Proofs.Ytodhjpnfokkfeaa

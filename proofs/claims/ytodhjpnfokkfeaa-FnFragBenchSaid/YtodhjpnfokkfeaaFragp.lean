/- Drawn packets and pieces. -/
import Derived.Test.YtodhjpnfokkfeaaFrago
set_option linter.unusedSimpArgs false
set_option linter.unusedVariables false
namespace Go.Proofs.Ytodhjpnfokkfeaa
open Go Go.RowKit
attribute [local irreducible] Calls GoS GoC GoE GoT Mid IsEq IsFl IsSc IsRw IsSl IsEl IsSt IsFs sp Mem Rd LenOf szR
/-- one packet's head, and a part of its bytes -/
structure PartOf (c d : CFragPacket) : Prop where
  h0 : d.1 = c.1
  h1 : d.2.1 = c.2.1
  h2 : d.2.2.1 = c.2.2.1
  h3 : d.2.2.2.1 = c.2.2.2.1
  h4 : d.2.2.2.2.1 = c.2.2.2.2.1
  off : 0 ≤ offP d ∧ offP d ≤ 128
  len : (datP d).length ≤ 128
  byte : ∀ b ∈ datP d, b ∈ datP c
theorem cut_part {c d : CFragPacket} {m : Int} (h : d ∈ (cutC c m).1) : fragOk c = true ∧ PartOf c d := by
  unfold cutC at h
  split at h
  · rename_i hok
    have hk := fragOk_t hok
    have e1 : offP c = c.2.2.2.2.2.2.1 := rfl
    refine ⟨hok, ?_⟩
    split at h
    · cases h
    · split at h
      · rw [List.mem_singleton] at h
        subst h
        exact ⟨rfl, rfl, rfl, rfl, rfl, ⟨hk.2.2.1, by omega⟩, by show d.2.2.2.2.2.2.2.2.length ≤ 128; omega, fun b hb => hb⟩
      · split at h
        · cases h
        · rename_i h1 h2 h3
          have hz := sizeC_le hok
          have hs0 : 0 < stepC m := by unfold stepC; omega
          obtain ⟨i, hi, rfl⟩ := List.mem_map.1 h
          have hlt := (cutN_lt hs0).1 (List.mem_range.1 hi)
          refine ⟨rfl, rfl, rfl, rfl, rfl, ⟨?_, ?_⟩, ?_, ?_⟩
          · show 0 ≤ c.2.2.2.2.2.2.1 + ((i * stepC m : Nat) : Int); omega
          · show c.2.2.2.2.2.2.1 + ((i * stepC m : Nat) : Int) ≤ 128; omega
          · show ((c.2.2.2.2.2.2.2.2.drop _).take _).length ≤ 128
            rw [List.length_take, List.length_drop]; omega
          · intro b hb
            exact List.mem_of_mem_drop (List.mem_of_mem_take hb)
  · cases h
/-- small numbers in every field -/
structure Small (c : CFragPacket) : Prop where
  h0 : -70000 ≤ c.1 ∧ c.1 ≤ 70000
  h1 : -70000 ≤ c.2.1 ∧ c.2.1 ≤ 70000
  h2 : -70000 ≤ c.2.2.1 ∧ c.2.2.1 ≤ 70000
  h3 : -70000 ≤ c.2.2.2.1 ∧ c.2.2.2.1 ≤ 70000
  h4 : -70000 ≤ c.2.2.2.2.1 ∧ c.2.2.2.2.1 ≤ 70000
  off : -70000 ≤ offP c ∧ offP c ≤ 70000
  len : (datP c).length ≤ 200
  byte : ∀ b ∈ datP c, 0 ≤ b ∧ b ≤ 255
theorem small_ok {c : CFragPacket} (h : fragOk c = true) (hb : ∀ b ∈ datP c, 0 ≤ b ∧ b ≤ 255) : Small c := by
  obtain ⟨a0, a1, a2, a3, a4, a5, a6, a7, l⟩ := c
  have hk := fragOk_t h
  simp only [fragOk, Bool.and_eq_true, decide_eq_true_eq] at h
  obtain ⟨⟨⟨⟨⟨⟨⟨⟨⟨h0, h1⟩, h2⟩, h3⟩, h4⟩, h6⟩, h7⟩, h8⟩, _⟩, _⟩ := h
  have := inB_t h0
  have := inB_t h1
  have := inB_t h2
  have := inB_t h3
  have := inB_t h4
  have := inB_t h6
  have e : (datP (a0, a1, a2, a3, a4, a5, a6, a7, l)).length = l.length := rfl
  have e2 : offP (a0, a1, a2, a3, a4, a5, a6, a7, l) = a6 := rfl
  exact ⟨by dsimp only; omega, by dsimp only; omega, by dsimp only; omega, by dsimp only; omega, by dsimp only; omega, by rw [e2]; omega, by rw [e]; dsimp only at hk; omega, hb⟩
theorem Small.part {c d : CFragPacket} (h : Small c) (p : PartOf c d) : Small d :=
  ⟨by rw [p.h0]; exact h.h0, by rw [p.h1]; exact h.h1, by rw [p.h2]; exact h.h2, by rw [p.h3]; exact h.h3, by rw [p.h4]; exact h.h4, by have := p.off; omega, by have := p.len; omega, fun b hb => h.byte b (p.byte b hb)⟩
theorem cuts_small {c : CFragPacket} {r : List CFragPacket} (h : Small c) (hr : CutsOf c r) : ∀ d ∈ r, Small d := by
  obtain ⟨m, _, _, hr⟩ := hr
  rcases hr with rfl | ⟨k, e, n, he, _, _, rfl⟩
  · exact fun d hd => h.part (cut_part hd).2
  · intro d hd
    rcases List.mem_append.1 hd with hd | hd
    · rcases List.mem_append.1 hd with hd | hd
      · exact h.part (cut_part (List.mem_of_mem_take hd)).2
      · exact (h.part (cut_part (List.mem_of_getElem? he)).2).part (cut_part hd).2
    · exact h.part (cut_part (List.mem_of_mem_drop hd)).2
theorem l15CutsO_c {w0 : World} (kr : Nat) (v : Value) (l : List Int) (p : Int) (x : MFragPacket) (hl : x.2.2.2.2.2.2.2.2.2.length ≤ 1048576) (hc : Code w0 v l) (hp : 0 ≤ p ∧ p ≤ 1099511600000) (R : List Blk) (w : World) (hs : St w0 w ([.blk kr 108 (rdr v p), .many (rwFragPacket x)] ++ R)) : Calls Try.prog 98 #[.pointer (some ⟨kr, 0, none⟩), .agg (clFragPacket x).toArray] w
    (RetS w0 R (fun z : MSFragPacket × Int => CutsOf (ctFragPacket x) (z.1.2.map ctFragPacket) ∧ p ≤ z.2 ∧ z.2 ≤ p + 10) (fun z => z.1.1) (fun z => [.blk kr 108 (rdr v z.2), .row z.1.1 24 9 z.1.2.length (z.1.2.flatMap clFragPacket), .many (z.1.2.flatMap rwFragPacket), .many (rwFragPacket x)])) := by
  refine (l15Cuts_c kr v l p x hl hc hp (.many (rwFragPacket x) :: R) (fun w hs => Rds.many hs (List.Mem.head _)) w hs).mono ?_
  rintro e w' ⟨z, h1, h2, h3⟩
  exact ⟨z,h1,h2,(show Ent w0 _ _ from entA) w' h3⟩
theorem ent_el {w0 : World} {L R : List Blk} {l : List MFragPacket} {k : Nat} {x : MFragPacket} (hk : l[k]? = some x) (h : Ent w0 L (.many (l.flatMap rwFragPacket) :: R)) : Ent w0 L (.many (rwFragPacket x) :: R) := by
  refine Ent.trans h ?_
  obtain ⟨hlt, he⟩ := List.getElem?_eq_some_iff.1 hk
  have h3 : l.drop k = x :: l.drop (k + 1) := by rw [List.drop_eq_getElem_cons hlt, he]
  have h4 : l = l.take k ++ (x :: l.drop (k + 1)) := by rw [← h3, List.take_append_drop]
  have h5 : l.flatMap rwFragPacket = (l.take k).flatMap rwFragPacket ++ (rwFragPacket x ++ (l.drop (k + 1)).flatMap rwFragPacket) := by
    have := congrArg (fun q => q.flatMap rwFragPacket) h4
    rw [List.flatMap_append, List.flatMap_cons] at this
    exact this
  rw [h5]
  generalize (l.take k).flatMap rwFragPacket = A
  generalize (l.drop (k + 1)).flatMap rwFragPacket = D
  generalize rwFragPacket x = X
  exact entA
theorem l15Piece_c {w0 : World} (kr : Nat) (v : Value) (l : List Int) (p : Int) (hc : Code w0 v l) (hp : 0 ≤ p ∧ p ≤ 1099511400000) (R : List Blk) (w : World) (hs : St w0 w ([.blk kr 108 (rdr v p)] ++ R)) : Calls Try.prog 49 #[.pointer (some ⟨kr, 0, none⟩)] w
    (RetS w0 R (fun z : MFragPacket × Int => Small (ctFragPacket z.1) ∧ p ≤ z.2 ∧ z.2 ≤ p + 800) (fun z => .agg (clFragPacket z.1).toArray) (fun z => [.blk kr 108 (rdr v z.2), .many (rwFragPacket z.1)])) := by
  have hs' : St w0 w (.blk kr 108 (rdr v p) :: R) := hs
  refine enterS (n := 30) (E := [(0, _)]) Try.func49 rfl rfl rfl rfl hs' ?_
  repeat' (first
    |(refine gS ?_;(first
        |(refine gGuard ?_;(first
            |(refine S_on rfl ?_)
            |(refine S_off rfl rfl rfl ?_)
            |(refine S_gsplit rfl ?_ ?_ <;> (intro hb;(try simp only [decide_eq_true_eq] at hb);(try simp only [decide_eq_false_iff_not] at hb);(try simp only [Bool.not_eq_true'] at hb);(try simp only [Bool.not_eq_false'] at hb);(try (exfalso;first|contradiction|omega))))))
        |(refine S_move rfl rfl ?_)
        |(refine S_assign rfl rfl ?_)
        |(apply F_field rfl rfl;exact T.fl24_5)
        |(apply F_idxZ rfl rfl rfl;exact T.sl27;(focus omega);(focus (first|exact len_nil|(apply len_given;assumption)|(apply len_row;(focus ((repeat (first|exact mH|refine mT ?_));done)))|(apply len_isN;assumption)));(focus omega))
        |(refine gLoad ?_;(first
            |(apply F_loadAll rfl rfl;(focus ((repeat (first|exact mH|refine mT ?_));done));exact T.rw24;(focus (first|exact free0|exact free1)))
            |(apply F_loadSN rfl rfl;exact T.rw24;(focus (first|exact rd_nil|(apply rd_given;(focus assumption);(focus (first|exact freeG0|exact freeG1)))|(apply rd_row;(focus ((repeat (first|exact mH|refine mT ?_));done));(focus (first|exact freeR0|exact freeR1)))));(focus (first|(focus (apply at_flat;(focus (intro _;rfl));(focus assumption)))|exact at_self));rfl;rfl)))
        |(refine gStore ?_;(first
            |(apply F_store1 rfl rfl;(focus (first|rfl|assumption));exact T.sc4;(focus ((repeat (first|exact Upd.here|apply Upd.there));done));(focus ((repeat (first|exact SetSeg.nil|apply SetSeg.here|apply SetSeg.there));done));(first|exact okst2|exact okst1|exact okst1'))
            |(apply F_storeN rfl rfl;(focus (first|rfl|assumption|(simp only [List.append_nil,List.all_cons,List.all_nil,Bool.and_true,Bool.true_and,one_int,one_bool,one_string,one_slice,one_pointer, *];done)));exact T.rw24;(focus ((repeat (first|exact Upd.here|apply Upd.there));done));(focus ((repeat (first|exact SetSeg.nil|apply SetSeg.here|apply SetSeg.there));done));(first|exact okst2|exact okst1|exact okst1'))))
        |(refine gCall ?_;(first
            |(show GoS _ _ _ _ _ _ _ (⟨_,_,_,.call ⟨.value (.func 47),_,_⟩,_⟩ :: _);apply S_callB (f := 47) (b := kr) (hp := T.pf47) (hv := rfl) (hd := rfl);(case hpick => ((repeat (first|exact Pick.here|exact Pick.last|apply Pick.there|apply Pick.over));done));(case hc => exact l15Whole_c kr v l _ hc (by omega));(case hnb => (intro _ _;exact ⟨_,List.Mem.head _,rfl⟩));(case hk => (first|exact okst2|exact okst1|exact okst1'));intro zz hzz;simp only [List.cons_append,List.nil_append];revert hzz;revert zz;rintro ⟨x,q⟩ ⟨hx1,hx2,hx3,hx4,hx5,hx6,hx7⟩;dsimp only at hx1 hx2 hx3 hx4 hx5 hx6 hx7 ⊢;refine S_fact (fun w hs => oneFragPacket (Rds.many hs (by (focus ((repeat (first|exact mH|refine mT ?_));done))))) (fun hone => ?_);have hsm := small_ok hx1 hx5;have hxl : x.2.2.2.2.2.2.2.2.2.length ≤ 1048576 := (Nat.le_trans hsm.len (by decide)))
            |(show GoS _ _ _ _ _ _ _ (⟨_,_,_,.call ⟨.value (.func 98),_,_⟩,_⟩ :: _);apply S_callS (f := 98) T.pf98 rfl rfl (fun w hst => l15CutsO_c kr v l q x hxl hc (by omega) _ w hst);(focus ((repeat (first|exact Pull.nil|(apply Pull.app;(focus ((repeat (first|exact PickA.here|exact PickA.all|apply PickA.there|apply PickA.over));done)))|(apply Pull.cons;(focus ((repeat (first|exact Pick.here|exact Pick.last|apply Pick.there|apply Pick.over));done)))|(apply Pull.atom;(focus ((repeat (first|exact PickA.here|exact PickA.all|apply PickA.there|apply PickA.over));done)))));done));intro zz hzz;simp only [List.cons_append,List.nil_append];revert hzz;revert zz;rintro ⟨⟨sv,dn⟩,q2⟩ ⟨hcut,hq1,hq2⟩;dsimp only at hcut hq1 hq2 ⊢;have hel : ∀ j : Int,0 ≤ j → j < (dn.length : Int) → dn[j.toNat]? = some (ix dn j.toNat) := (fun j h0 h1 => nthD (by omega)))
            |(show GoS _ _ _ _ _ _ _ (⟨_,_,_,.call ⟨.value (.func 48),_,_⟩,_⟩ :: _);apply S_callB (f := 48) (b := kr) (hp := T.pf48) (hv := rfl) (hd := rfl);(case hpick => ((repeat (first|exact Pick.here|exact Pick.last|apply Pick.there|apply Pick.over));done));(case hc => exact pick_c kr v l _ (dn.length : Int) hc (by omega));(case hnb => (intro _ _;exact ⟨_,List.Mem.head _,rfl⟩));(case hk => (first|exact okst2|exact okst1|exact okst1'));intro zz hzz;simp only [List.cons_append,List.nil_append];revert hzz;revert zz;intro yi hyi;have hx1 := hel yi hyi.1 (hyi.2.1 (by omega));refine S_fact (fun w hs => oneFragPacket ((Rds.flatMap.1 (Rds.many (l := dn.flatMap rwFragPacket) hs (by repeat (first|exact mH|refine mT ?_)))) _ (List.mem_of_getElem? hx1))) (fun hone1 => ?_))
            |(show GoS _ _ _ _ _ _ _ (⟨_,_,_,.call ⟨.value (.func 48),_,_⟩,_⟩ :: _);apply S_callB (f := 48) (b := kr) (hp := T.pf48) (hv := rfl) (hd := rfl);(case hpick => ((repeat (first|exact Pick.here|exact Pick.last|apply Pick.there|apply Pick.over));done));(case hc => exact pick_c kr v l _ _ hc (by omega));(case hnb => (intro _ _;exact ⟨_,List.Mem.head _,rfl⟩));(case hk => (first|exact okst2|exact okst1|exact okst1'));intro zz hzz;simp only [List.cons_append,List.nil_append];revert hzz;revert zz;intro y hy)
            |(apply F_len rfl rfl rfl;(focus exact ⟨_,_,by exact T.sl27⟩);(focus (first|exact len_nil|(apply len_given;assumption)|(apply len_row;(focus ((repeat (first|exact mH|refine mT ?_));done)))|(apply len_isN;assumption))))))
        |(refine gBin ?_;(first
            |(refine S_eql rfl rfl rfl ?_)))
        |(refine gPick ?_;(first
            |(refine S_pickT rfl rfl rfl ?_)
            |(refine S_pickF rfl rfl rfl ?_)))
        |(apply S_alloc rfl (hd := rfl);exact T.zc24;intro kb)
        |(refine S_done ?_)))
    |(refine gC ?_;(first
        |(refine C_seq ?_)
        |(refine gReg ?_;(first
            |(refine gReg (i := 0) ?_;refine C_plain [(0,2)] (by kernel_rfl) (s := [⟨2,none,_,_,_⟩]) rfl ?_)
            |(refine gReg (i := 1) ?_;refine C_plain [(0,0),(1,2),(2,2),(3,2)] (by kernel_rfl) (s := [⟨0,none,_,_,_⟩,⟨2,none,_,_,_⟩,⟨2,none,_,_,_⟩,⟨2,none,_,_,_⟩]) rfl ?_)
            |(refine gReg (i := 2) ?_;refine C_plain [(0,0),(1,0),(2,2),(3,0)] (by kernel_rfl) (s := [⟨0,none,_,_,_⟩,⟨0,none,_,_,_⟩,⟨2,none,_,_,_⟩,⟨0,none,_,_,_⟩]) rfl ?_)
            |(refine gReg (i := 3) ?_;refine C_plain [(0,0),(1,2),(2,0),(3,0),(4,0),(5,0),(6,0),(7,0)] (by kernel_rfl) (s := [⟨0,none,_,_,_⟩,⟨2,none,_,_,_⟩,⟨0,none,_,_,_⟩,⟨0,none,_,_,_⟩,⟨0,some (13,false),_,_,_⟩,⟨0,some (13,false),_,_,_⟩,⟨0,some (13,false),_,_,_⟩,⟨0,none,_,_,_⟩]) rfl ?_)
            |(refine gReg (i := 4) ?_;refine C_plain [(0,0),(1,2),(2,0),(3,0),(4,2)] (by kernel_rfl) (s := [⟨0,none,_,_,_⟩,⟨2,none,_,_,_⟩,⟨0,none,_,_,_⟩,⟨0,none,_,_,_⟩,⟨2,none,_,_,_⟩]) rfl ?_)
            |(refine gReg (i := 5) ?_;refine C_plain [(0,0),(1,2)] (by kernel_rfl) (s := [⟨0,none,_,_,_⟩,⟨2,none,_,_,_⟩]) rfl ?_)
            |(refine gReg (i := 6) ?_;refine C_plain [(0,0),(1,0),(2,0),(3,0),(4,2),(5,0),(6,0),(7,2)] (by kernel_rfl) (s := [⟨0,none,_,_,_⟩,⟨0,none,_,_,_⟩,⟨0,none,_,_,_⟩,⟨0,none,_,_,_⟩,⟨2,none,_,_,_⟩,⟨0,none,_,_,_⟩,⟨0,none,_,_,_⟩,⟨2,none,_,_,_⟩]) rfl ?_)))
        |(refine C_true rfl ?_)
        |(refine C_split rfl ?_ ?_ <;> (intro hb;(try simp only [decide_eq_true_eq] at hb);(try simp only [decide_eq_false_iff_not] at hb);(try simp only [Bool.not_eq_true'] at hb);(try simp only [Bool.not_eq_false'] at hb);(try (exfalso;first|contradiction|omega))))
        |(refine C_skip ?_)
        |(refine C_ret ?_)))
    |(refine gE ?_;(first
        |(refine E_then ?_)
        |(refine E_thenR ?_)
        |(apply E_ret1 rfl;(first|exact Res.tmp rfl|(apply R_cellAll rfl;(focus ((repeat (first|exact mH|refine mT ?_));done));exact T.rw24)|(apply R_cell1 rfl;(focus ((repeat (first|exact mH|refine mT ?_));done));exact T.sc4))))))
  · refine retS ((x.1,x.2.1,x.2.2.1,x.2.2.2.1,x.2.2.2.2.1,decide (y = 0),x.2.2.2.2.2.2),q2 + 1 + 1) ⟨?_,by dsimp only;omega,by dsimp only;omega⟩ rfl entA
    exact ⟨hsm.h0, hsm.h1, hsm.h2, hsm.h3, hsm.h4, hsm.off, hsm.len, hsm.byte⟩
  · refine retS ((x.1,x.2.1,x.2.2.1,x.2.2.2.1,x.2.2.2.2.1,decide (y = 0),x.2.2.2.2.2.2),q2 + 1 + 1) ⟨?_,by dsimp only;omega,by dsimp only;omega⟩ rfl entA
    exact ⟨hsm.h0, hsm.h1, hsm.h2, hsm.h3, hsm.h4, hsm.off, hsm.len, hsm.byte⟩
  · have hS := cuts_small hsm hcut _ (List.mem_map_of_mem (List.mem_of_getElem? hx1))
    refine retS (ix dn yi.toNat, q2 + 1 + 1) ⟨hS, by dsimp only; omega, by dsimp only; omega⟩ rfl ?_
    refine Ent.trans (ent_el (R := .blk kr 108 (rdr v (q2 + 1 + 1)) :: R) hx1 ?_) ?_
    · exact entA
    · exact entA
end Go.Proofs.Ytodhjpnfokkfeaa

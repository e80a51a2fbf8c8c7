/- Drawn benches spoilt. -/
import Derived.Test.YtodhjpnfokkfeaaFragar
set_option linter.unusedSimpArgs false
set_option linter.unusedVariables false
namespace Go.Proofs.Ytodhjpnfokkfeaa
open Go Go.RowKit
/-- a drawn bench, spoilt perhaps -/
def SmallC (c : CFragBench) : Prop := -3000000000000 ≤ c.1 ∧ c.1 ≤ 3000000000000 ∧ c.2.length ≤ 10 ∧ ∀ s ∈ c.2, s.1.length ≤ 50 ∧ ∀ q ∈ s.1, SmallW q
theorem SmallB.wide {c : CFragBench} (h : SmallB c) : SmallC c := ⟨by have := h.1; omega, by have := h.2.1; omega, by have := h.2.2.1; omega, fun s hs => ⟨by have := (h.2.2.2 s hs).1.2; omega, (h.2.2.2 s hs).2⟩⟩
theorem smallB_len {x : MFragBench} (h : SmallB (ctFragBench x)) : x.2.2.length ≤ 4 := by
  have h1 : (x.2.2.map ctFragSlot).length ≤ 4 := h.2.2.1
  rwa [List.length_map] at h1
/-- a bench's memory lies in base -/
def BinB (y : MFragBench) (base : List Row) : Prop := ∀ r ∈ rwFragBench y, r ∈ base
def okD (c : CFragSlot) : Prop := c.1.length ≤ 50 ∧ ∀ q ∈ c.1, SmallW q
theorem smallC_mk {n : Int} {v : Value} {A B : List MFragSlot} {s : MFragSlot} (hn : -3000000000000 ≤ n ∧ n ≤ 3000000000000) (hAB : A.length + (B.length + 1) ≤ 4) (hA : ∀ r ∈ A, okD (ctFragSlot r)) (hB : ∀ r ∈ B, okD (ctFragSlot r)) (hs : okD (ctFragSlot s)) : SmallC (ctFragBench (n, v, A ++ s :: B)) := by
  refine ⟨hn.1, hn.2, ?_, fun c hc => ?_⟩
  · show ((A ++ s :: B).map ctFragSlot).length ≤ 10
    rw [List.length_map, List.length_append, List.length_cons]; omega
  · obtain ⟨r, hr, rfl⟩ := List.mem_map.1 hc
    rcases List.mem_append.1 hr with h | h
    · exact hA r h
    · rcases List.mem_cons.1 h with h | h
      · rw [h]; exact hs
      · exact hB r h
theorem mid_of {l : List MFragSlot} {k : Nat} (hk : k < l.length) : ∃ A s B, l = A ++ s :: B ∧ A.length = k :=
  ⟨l.take k, l[k], l.drop (k + 1), by conv => lhs; rw [← List.take_append_drop k l, List.drop_eq_getElem_cons hk], by rw [List.length_take]; omega⟩
theorem smallB_mid {n : Int} {v : Value} {A B : List MFragSlot} {s : MFragSlot} (h : SmallB (ctFragBench (n, v, A ++ s :: B))) : (∀ r ∈ A, okD (ctFragSlot r)) ∧ (∀ r ∈ B, okD (ctFragSlot r)) ∧ 1 ≤ s.1.2.length ∧ s.1.2.length ≤ 41 ∧ ∀ q ∈ s.1.2, SmallW (ctFragPacket q) := by
  have h1 : ∀ r ∈ A ++ s :: B, (1 ≤ r.1.2.length ∧ r.1.2.length ≤ 41) ∧ ∀ q ∈ (ctFragSlot r).1, SmallW q := fun r hr => by
    have h2 := h.2.2.2 _ (List.mem_map.2 ⟨r, hr, rfl⟩)
    have h3 : (r.1.2.map ctFragPacket).length = r.1.2.length := List.length_map _
    refine ⟨⟨?_, ?_⟩, h2.2⟩
    · have h4 : 1 ≤ (r.1.2.map ctFragPacket).length := h2.1.1
      omega
    · have h4 : (r.1.2.map ctFragPacket).length ≤ 41 := h2.1.2
      omega
  have hd : ∀ r ∈ A ++ s :: B, okD (ctFragSlot r) := fun r hr => by
    have h2 := h1 r hr
    refine ⟨?_, h2.2⟩
    show (r.1.2.map ctFragPacket).length ≤ 50
    rw [List.length_map]; omega
  have hm := h1 s (by simp)
  exact ⟨fun r hr => hd r (List.mem_append_left _ hr), fun r hr => hd r (List.mem_append_right _ (List.mem_cons_of_mem _ hr)), hm.1.1, hm.1.2, fun q hq => hm.2 _ (List.mem_map.2 ⟨q, hq, rfl⟩)⟩
theorem okD_of {sl : List MFragPacket} {v : Value} {i : Int} {b : Bool} (h : sl.length ≤ 50) (h2 : ∀ q ∈ sl, SmallW (ctFragPacket q)) : okD (ctFragSlot ((v, sl), i, b)) := by
  refine ⟨by show (sl.map ctFragPacket).length ≤ 50; rw [List.length_map]; exact h, fun c hc => ?_⟩
  obtain ⟨q, hq, rfl⟩ := List.mem_map.1 hc
  exact h2 q hq
theorem smallC_list {n : Int} {v : Value} {l : List MFragSlot} (hn : -3000000000000 ≤ n ∧ n ≤ 3000000000000) (hl : l.length ≤ 10) (h : ∀ r ∈ l, okD (ctFragSlot r)) : SmallC (ctFragBench (n, v, l)) := by
  refine ⟨hn.1, hn.2, ?_, fun c hc => ?_⟩
  · show (l.map ctFragSlot).length ≤ 10
    rw [List.length_map]; exact hl
  · obtain ⟨r, hr, rfl⟩ := List.mem_map.1 hc
    exact h r hr
theorem okD_mid {A B : List MFragSlot} {s : MFragSlot} (hA : ∀ r ∈ A, okD (ctFragSlot r)) (hB : ∀ r ∈ B, okD (ctFragSlot r)) (hs : okD (ctFragSlot s)) : ∀ r ∈ A ++ s :: B, okD (ctFragSlot r) := fun r hr => by
  rcases List.mem_append.1 hr with h | h
  · exact hA r h
  · rcases List.mem_cons.1 h with h | h
    · rw [h]; exact hs
    · exact hB r h
theorem binB_twice {n : Int} {v : Value} {l : List MFragSlot} {s : MFragSlot} (hs : s ∈ l) : BinB (n, v, l ++ [s]) (⟨v, 67, 3, (l ++ [s]).length, (l ++ [s]).flatMap clFragSlot⟩ :: l.flatMap rwFragSlot) := fun r hr => by
  rcases List.mem_cons.1 hr with h | h
  · rw [h]; exact List.mem_cons_self
  · obtain ⟨y, hy, hr⟩ := List.mem_flatMap.1 h
    refine List.mem_cons_of_mem _ (List.mem_flatMap.2 ⟨y, ?_, hr⟩)
    rcases List.mem_append.1 hy with h | h
    · exact h
    · rw [List.mem_singleton] at h
      rw [h]; exact hs
def pkN (i : Int) : MFragPacket := (100 + i, 0, 1, 0, 1, false, 4, false, (.slice none 0 0, []))
theorem pkN_small {i : Int} (h : 0 ≤ i ∧ i ≤ 10) : SmallW (ctFragPacket (pkN i)) := by
  constructor <;> simp only [pkN, ctFragPacket, offP, datP] <;> first | omega | decide | (intro b hb; cases hb)
theorem binB_refl (y : MFragBench) : BinB y (rwFragBench y) := fun r hr => hr
theorem rds_bin {w : World} {y : MFragBench} {base : List Row} (h : BinB y base) (hb : Rds w base) : Rds w (rwFragBench y) := fun r hr => hb r (h r hr)
attribute [local irreducible] Calls GoS GoC GoE GoT Mid IsEq IsFl IsSc IsRw IsSl IsEl IsSt IsFs sp Mem Rd LenOf szR joinC alikeC likeC takeC SmallB
set_option maxRecDepth 8192 in
set_option maxHeartbeats 1000000 in
theorem l15SpoilBench_c {w0 : World} (kr : Nat) (v : Value) (lc : List Int) (p : Int) (y : MFragBench) (hsm : SmallB (ctFragBench y)) (hc : Code w0 v lc) (hp : 0 ≤ p ∧ p ≤ 1099511000000) (R : List Blk) (w : World) (hs : St w0 w ([.blk kr 108 (rdr v p), .many (rwFragBench y)] ++ R)) : Calls Try.prog 114 #[.pointer (some ⟨kr, 0, none⟩), .agg (clFragBench y).toArray] w
    (RetS w0 R (fun z : MFragBench × List Row × Int => SmallC (ctFragBench z.1) ∧ BinB z.1 z.2.1 ∧ p ≤ z.2.2 ∧ z.2.2 ≤ p + 5000) (fun z => .agg (clFragBench z.1).toArray) (fun z => [.blk kr 108 (rdr v z.2.2), .many z.2.1])) := by
  have hs' : St w0 w (.blk kr 108 (rdr v p) :: .many (rwFragBench y) :: R) := hs
  have hsh := smallB_short hsm
  have honey := oneFragBench (Rds.many (l := rwFragBench y) hs' (by (focus ((repeat (first|exact mH|refine mT ?_));done))))
  refine enterS (n := 131) (E := [(0, _), (1, _)]) Try.func114 rfl rfl rfl rfl hs' ?_
  repeat' (first
    |(refine gS ?_;(first
        |(refine gLoad ?_;(first
            |(apply F_loadAll rfl rfl;(focus ((repeat (first|exact mH|refine mT ?_));done));(first|exact T.rw24|exact T.rw45|exact T.rw67);(focus (first|exact free0|exact free1|(refine free2 ?_ ?_;(focus ((repeat (first|(apply apart1;(repeat (first|exact mH|refine mT ?_));done)|(apply apart2;(repeat (first|exact mH|refine mT ?_));done)|refine apart3 ?_));done));(first|exact free1|(refine free2 ?_ ?_;(focus ((repeat (first|(apply apart1;(repeat (first|exact mH|refine mT ?_));done)|(apply apart2;(repeat (first|exact mH|refine mT ?_));done)|refine apart3 ?_));done));exact free1))))))))
        |(refine gStore ?_;(first
            |(apply F_storeN rfl rfl;(focus (first|rfl|assumption|(simp only [List.append_nil,List.all_cons,List.all_nil,Bool.and_true,Bool.true_and,one_int,one_bool,one_string,one_slice,one_pointer, *];done)));(first|exact T.rw24|exact T.rw45|exact T.rw67);(focus ((repeat (first|exact Upd.here|apply Upd.there));done));(focus ((repeat (first|exact SetSeg.nil|apply SetSeg.here|apply SetSeg.there));done));(first|exact okst2|exact okst1|exact okst1'))))
        |(refine gCall ?_;(first
            |(show GoS _ _ _ _ _ _ _ (⟨_,_,_,.call ⟨.value (.func 76),_,_⟩,_⟩ :: _);refine S_callX (f := 76) rfl T.pf76 rfl (fun w hst => l14Copy_c y hsh.1 hsh.2 w (by first|(refine Rds.given hst ?_;assumption)|(apply Rds.many hst;(focus ((repeat (first|exact mH|refine mT ?_));done)))|(apply Rds.row hst;(focus ((repeat (first|exact mH|refine mT ?_));done))))) rfl (fun zz hzz => ?_);simp only [List.cons_append,List.nil_append];revert hzz;revert zz;intro x hx;refine S_fact (fun w hs => oneFragBench (Rds.many hs (by (focus ((repeat (first|exact mH|refine mT ?_));done))))) (fun hone => ?_);have hxs : SmallB (ctFragBench x) := hx ▸ hsm;have hxl : x.2.2.length ≤ 4 := (smallB_len hxs))))
        |(refine S_box rfl rfl rfl ?_;intro kb)
        |(apply S_alloc rfl (hd := rfl);(first|exact T.zc24|exact T.zc45|exact T.zc67);intro kb)
        |(refine S_done ?_)))
    |((first
        |(refine C_seq ?_)
        |(refine gReg ?_;(first
            |(refine gReg (i := 0) ?_;refine C_plain [(0,2),(1,2)] (by kernel_rfl) (s := [⟨2,none,_,_,_⟩,⟨2,none,_,_,_⟩]) rfl ?_)
            |(refine gReg (i := 1) ?_;refine C_plain [(0,0),(1,2),(2,2)] (by kernel_rfl) (s := [⟨0,none,_,_,_⟩,⟨2,none,_,_,_⟩,⟨2,none,_,_,_⟩]) rfl ?_)))))
    |(refine gE ?_;(first
        |(refine E_then ?_))))
  rename_i k3
  obtain ⟨now, v2, l⟩ := x
  have hnow := smallB_now hxs
  dsimp only at *
  refine C_forget (E' := [(4, .pointer (some ⟨kb, 0, none⟩)), (3, .pointer (some ⟨k3, 0, none⟩)), (0, .pointer (some ⟨kr, 0, none⟩))]) ⟨rfl, rfl, rfl, trivial⟩ (List.Sublist.refl _) ?_
  refine C_ent (.blk kr 108 (rdr v p) :: .row v2 67 3 l.length (l.flatMap clFragSlot) :: .many (l.flatMap rwFragSlot) :: .blk k3 45 [.int .i64 now,v2] :: .blk kb 45 [.int .i64 0,.slice none 0 0] :: R) entA ?_
  have hnow2 : -70000 ≤ now ∧ now ≤ 2199023255552 := hnow
  refine C_fact (row_one (v := v2) (by (focus ((repeat (first|exact mH|refine mT ?_));done)))) (fun honev => ?_)
  clear honey hs hs' hsm hx hnow hone
  repeat' (first
    |(refine gS ?_;(first
        |(refine gGuard ?_;(first
            |(refine S_on rfl ?_)
            |(refine S_off rfl rfl rfl ?_)
            |(refine S_gsplit rfl ?_ ?_ <;> (intro hb;(try simp only [decide_eq_true_eq] at hb);(try simp only [decide_eq_false_iff_not] at hb);(try simp only [Bool.not_eq_true'] at hb);(try simp only [Bool.not_eq_false'] at hb);(try (exfalso;first|contradiction|omega))))))
        |(refine S_move rfl rfl ?_)
        |(refine S_assign rfl rfl ?_)
        |(apply F_field rfl rfl;(first|exact T.fl45_0|exact T.fl45_1|exact T.fl67_0|exact T.fl67_1|exact T.fl67_2))
        |(apply F_idxZ rfl rfl rfl;(first|exact T.sl27|exact T.sl43|exact T.sl73);(focus omega);(focus (first|exact len_nil|(apply len_given;assumption)|(apply len_row;(focus ((repeat (first|exact mH|refine mT ?_));done)))|(apply len_isN;assumption)));(focus omega))
        |(apply F_bs rfl rfl;(first|exact T.el27|exact T.el43|exact T.el73);rfl;rfl;rfl;rfl;(focus ((repeat (first|exact Dense.nil|(apply Dense.cons;rfl;rfl)));done));intro sv;(try (refine S_fact (row_one (v := sv) (by (focus ((repeat (first|exact mH|refine mT ?_));done)))) (fun hone => ?_))))
        |(refine gLoad ?_;(first
            |(apply F_load1 rfl rfl;(focus ((repeat (first|exact mH|refine mT ?_));done));(first|exact T.sc3|exact T.sc4|exact T.sc27|exact T.sc43);rfl;(focus (first|exact free0|exact free1|(refine free2 ?_ ?_;(focus ((repeat (first|(apply apart1;(repeat (first|exact mH|refine mT ?_));done)|(apply apart2;(repeat (first|exact mH|refine mT ?_));done)|refine apart3 ?_));done));(first|exact free1|(refine free2 ?_ ?_;(focus ((repeat (first|(apply apart1;(repeat (first|exact mH|refine mT ?_));done)|(apply apart2;(repeat (first|exact mH|refine mT ?_));done)|refine apart3 ?_));done));exact free1))))))
            |(apply F_loadAll rfl rfl;(focus ((repeat (first|exact mH|refine mT ?_));done));(first|exact T.rw24|exact T.rw45|exact T.rw67);(focus (first|exact free0|exact free1|(refine free2 ?_ ?_;(focus ((repeat (first|(apply apart1;(repeat (first|exact mH|refine mT ?_));done)|(apply apart2;(repeat (first|exact mH|refine mT ?_));done)|refine apart3 ?_));done));(first|exact free1|(refine free2 ?_ ?_;(focus ((repeat (first|(apply apart1;(repeat (first|exact mH|refine mT ?_));done)|(apply apart2;(repeat (first|exact mH|refine mT ?_));done)|refine apart3 ?_));done));exact free1))))))
            |(apply F_loadI rfl rfl;(first|exact T.sc3|exact T.sc4|exact T.sc27|exact T.sc43);(focus (first|exact rd_nil|(apply rd_given;(focus assumption);(focus (first|exact freeG0|exact freeG1|(apply freeG2;(focus ((repeat (first|exact mH|refine mT ?_));done));(first|exact freeG1|(apply freeG2;(focus ((repeat (first|exact mH|refine mT ?_));done));exact freeG1))))))|(apply rd_row;(focus ((repeat (first|exact mH|refine mT ?_));done));(focus (first|exact freeR0|exact freeR1|(refine freeR2 ?_ ?_;(focus ((repeat (first|(apply apartR1;(focus ((repeat (first|exact mH|refine mT ?_));done));done)|(apply apartR2;(focus ((repeat (first|exact mH|refine mT ?_));done));done)|refine apartR3 ?_));done));(first|exact freeR1|(refine freeR2 ?_ ?_;(focus ((repeat (first|(apply apartR1;(focus ((repeat (first|exact mH|refine mT ?_));done));done)|(apply apartR2;(focus ((repeat (first|exact mH|refine mT ?_));done));done)|refine apartR3 ?_));done));exact freeR1))))))));(focus ((repeat (first|exact LitI.nil|apply LitI.cons|apply LitI.app));done));(focus (simp only [List.length_cons,List.length_nil];omega));intro zi hzi;(simp only [List.mem_cons,List.not_mem_nil,or_false] at hzi);(first|(replace hzi : 0 ≤ zi ∧ zi ≤ 16 := by omega)|(replace hzi : 0 ≤ zi ∧ zi ≤ 128 := by omega)|(replace hzi : 0 ≤ zi ∧ zi ≤ 200 := by omega)|(replace hzi : 0 ≤ zi ∧ zi ≤ 65535 := by omega)|(replace hzi : 0 ≤ zi ∧ zi ≤ 70000 := by omega)|(replace hzi : -70000 ≤ zi ∧ zi ≤ 70000 := by omega)|(replace hzi : -70000 ≤ zi ∧ zi ≤ 2199023255552 := by omega)|(replace hzi : -70000 ≤ zi ∧ zi ≤ 4611686018427387904 := by omega)|(replace hzi : -9223372036854775808 ≤ zi ∧ zi ≤ 9223372036854775807 := by omega)))))
        |(refine gStore ?_;(first
            |(apply F_store1 rfl rfl;(focus (first|rfl|assumption));(first|exact T.sc3|exact T.sc4|exact T.sc27|exact T.sc43);(focus ((repeat (first|exact Upd.here|apply Upd.there));done));(focus ((repeat (first|exact SetSeg.nil|apply SetSeg.here|apply SetSeg.there));done));(first|exact okst2|exact okst1|exact okst1'))
            |(apply F_storeN rfl rfl;(focus (first|rfl|assumption|(simp only [List.append_nil,List.all_cons,List.all_nil,Bool.and_true,Bool.true_and,one_int,one_bool,one_string,one_slice,one_pointer, *];done)));(first|exact T.rw24|exact T.rw45|exact T.rw67);(focus ((repeat (first|exact Upd.here|apply Upd.there));done));(focus ((repeat (first|exact SetSeg.nil|apply SetSeg.here|apply SetSeg.there));done));(first|exact okst2|exact okst1|exact okst1'))))
        |(refine gCall ?_;(first
            |(show GoS _ _ _ _ _ _ _ (⟨_,_,_,.call ⟨.value (.func 48),_,_⟩,_⟩ :: _);apply S_callB (f := 48) (b := kr) (hp := T.pf48) (hv := rfl) (hd := rfl);(case hpick => ((repeat (first|exact Pick.here|exact Pick.last|apply Pick.there|apply Pick.over));done));(case hc => exact pick_c kr v lc _ _ hc (by omega));(case hnb => (intro _ _;exact ⟨_,List.Mem.head _,rfl⟩));(case hk => (first|exact okst2|exact okst1|exact okst1'));intro zz hzz;simp only [List.cons_append,List.nil_append];revert hzz;revert zz;intro z hz)
            |(apply F_len rfl rfl rfl;(focus exact ⟨_,_,by (first|exact T.sl27|exact T.sl43|exact T.sl73)⟩);(focus (first|exact len_nil|(apply len_given;assumption)|(apply len_row;(focus ((repeat (first|exact mH|refine mT ?_));done)))|(apply len_isN;assumption))))))
        |(refine gBin ?_;(first
            |(refine S_eql rfl rfl rfl ?_)))
        |(refine gPick ?_;(first
            |(refine S_pickT rfl rfl rfl ?_)
            |(refine S_pickF rfl rfl rfl ?_)))
        |(refine S_done ?_)))
    |((first
        |(refine C_seq ?_)
        |(refine gReg ?_;(first
            |(refine gReg (i := 2) ?_;refine C_plain [(0,0),(1,0),(2,0),(3,0),(4,0),(5,0),(6,2),(7,0),(8,0)] (by kernel_rfl) (s := [⟨0,none,_,_,_⟩,⟨0,none,_,_,_⟩,⟨0,none,_,_,_⟩,⟨0,none,_,_,_⟩,⟨0,none,_,_,_⟩,⟨0,some (13,false),_,_,_⟩,⟨2,some (13,false),_,_,_⟩,⟨0,some (13,false),_,_,_⟩,⟨0,none,_,_,_⟩]) rfl ?_)
            |(refine gReg (i := 3) ?_;refine C_plain [(0,2),(1,0),(2,2),(3,0),(4,0),(5,0),(6,2)] (by kernel_rfl) (s := [⟨2,none,_,_,_⟩,⟨0,none,_,_,_⟩,⟨2,none,_,_,_⟩,⟨0,none,_,_,_⟩,⟨0,none,_,_,_⟩,⟨0,none,_,_,_⟩,⟨2,none,_,_,_⟩]) rfl ?_)
            |(refine gReg (i := 4) ?_;refine C_plain [(0,0),(1,2)] (by kernel_rfl) (s := [⟨0,none,_,_,_⟩,⟨2,none,_,_,_⟩]) rfl ?_)
            |(refine gReg (i := 5) ?_;refine C_plain [(0,0),(1,0),(2,0),(3,0),(4,2),(5,0)] (by kernel_rfl) (s := [⟨0,none,_,_,_⟩,⟨0,none,_,_,_⟩,⟨0,none,_,_,_⟩,⟨0,none,_,_,_⟩,⟨2,none,_,_,_⟩,⟨0,none,_,_,_⟩]) rfl ?_)))
        |(refine C_true rfl ?_)
        |(refine C_split rfl ?_ ?_ <;> (intro hb;(try simp only [decide_eq_true_eq] at hb);(try simp only [decide_eq_false_iff_not] at hb);(try simp only [Bool.not_eq_true'] at hb);(try simp only [Bool.not_eq_false'] at hb);(try (exfalso;first|contradiction|omega))))
        |(refine C_skip ?_)
        |(refine C_ret ?_)))
    |(refine gE ?_;(first
        |(refine E_then ?_)
        |(refine E_thenR ?_)
        |(apply E_ret1 rfl;(first|exact Res.tmp rfl|(apply R_cellAll rfl;(focus ((repeat (first|exact mH|refine mT ?_));done));(first|exact T.rw24|exact T.rw45|exact T.rw67))|(apply R_cell1 rfl;(focus ((repeat (first|exact mH|refine mT ?_));done));(first|exact T.sc3|exact T.sc4|exact T.sc27|exact T.sc43)))))))
  · refine retS ((zi,v2,l),rwFragBench (zi,v2,l),p + 1) ⟨?_,binB_refl _,by dsimp only;omega,by dsimp only;omega⟩ rfl entA
    have h9 := hxs.wide
    exact ⟨by show -3000000000000 ≤ zi; omega, by show zi ≤ 3000000000000; omega, h9.2.2.1, h9.2.2.2⟩
  · refine retS ((zi,v2,l),rwFragBench (zi,v2,l),p + 1 + 1) ⟨?_,binB_refl _,by dsimp only;omega,by dsimp only;omega⟩ rfl entA
    have h9 := hxs.wide
    exact ⟨by show -3000000000000 ≤ zi; omega, by show zi ≤ 3000000000000; omega, h9.2.2.1, h9.2.2.2⟩
  obtain ⟨k, rfl⟩ : ∃ k : Nat, z = (k : Int) := ⟨z.toNat, by omega⟩
  have hk : k < l.length := by omega
  obtain ⟨A, s, B, hl3, hAk⟩ := mid_of hk
  subst hl3
  subst hAk
  obtain ⟨hdA, hdB, hs1, hs2, hs3⟩ := smallB_mid hxs
  have hA : (A.flatMap clFragSlot).length = A.length * 3 := flat_len (m := 3) (fun _ => rfl) A
  have hAB : A.length + (B.length + 1) ≤ 4 := by
    rw [List.length_append, List.length_cons] at hxl; exact hxl
  obtain ⟨⟨pv, sl⟩, since, bad⟩ := s
  dsimp only at hs1 hs2 hs3
  have hnw : -3000000000000 ≤ now ∧ now ≤ 3000000000000 := by omega
  refine C_forget (E' := [(5, .int .i64 (A.length : Int)), (4, .pointer (some ⟨kb, 0, none⟩)), (3, .pointer (some ⟨k3, 0, none⟩)), (0, .pointer (some ⟨kr, 0, none⟩))]) ⟨rfl, rfl, rfl, rfl, trivial⟩ (List.Sublist.refl _) ?_
  refine C_ent (.blk kr 108 (rdr v (p + 1 + 1)) :: .row v2 67 3 (A.length + (B.length + 1)) (A.flatMap clFragSlot ++ (clFragSlot ((pv,sl),since,bad) ++ B.flatMap clFragSlot)) :: .row pv 24 9 sl.length (sl.flatMap clFragPacket) :: .many (sl.flatMap rwFragPacket) :: .many (A.flatMap rwFragSlot) :: .many (B.flatMap rwFragSlot) :: .blk k3 45 [.int .i64 now,v2] :: .blk kb 45 [.int .i64 0,.slice none 0 0] :: R) entA ?_
  refine C_fact (row_one (v := pv) (by (focus ((repeat (first|exact mH|refine mT ?_));done)))) (fun honep => ?_)
  have hoks : okD (ctFragSlot ((pv, sl), since, bad)) := okD_of (by omega) hs3
  have honeC : (clFragSlot ((pv, sl), since, bad) ++ []).all (·.oneCell') = true := by simp [clFragSlot, honep, one_int, one_bool]
  clear hxs hk hz
  repeat' (first
    |(refine gS ?_;(first
        |(refine S_move rfl rfl ?_)
        |(refine S_assign rfl rfl ?_)
        |(apply F_field rfl rfl;(first|exact T.fl45_0|exact T.fl45_1|exact T.fl67_0|exact T.fl67_1|exact T.fl67_2))
        |(apply F_fieldS rfl rfl;(first|exact T.fl45_0|exact T.fl45_1|exact T.fl67_0|exact T.fl67_1|exact T.fl67_2);(focus (first|exact len_nil|(apply len_given;assumption)|(apply len_row;(focus ((repeat (first|exact mH|refine mT ?_));done)))|(apply len_isN;assumption)));(focus omega))
        |(apply F_idx rfl rfl rfl;(first|exact T.sl27|exact T.sl43|exact T.sl73);(focus rfl);(focus (first|exact len_nil|(apply len_given;assumption)|(apply len_row;(focus ((repeat (first|exact mH|refine mT ?_));done)))|(apply len_isN;assumption)));(focus omega))
        |(apply F_idxZ rfl rfl rfl;(first|exact T.sl27|exact T.sl43|exact T.sl73);(focus omega);(focus (first|exact len_nil|(apply len_given;assumption)|(apply len_row;(focus ((repeat (first|exact mH|refine mT ?_));done)))|(apply len_isN;assumption)));(focus omega))
        |(apply F_bs0 rfl rfl;(first|exact T.el27|exact T.el43|exact T.el73);rfl;intro sv;(try (refine S_fact (row_one (v := sv) (by (focus ((repeat (first|exact mH|refine mT ?_));done)))) (fun hone => ?_))))
        |(apply F_bs rfl rfl;(first|exact T.el27|exact T.el43|exact T.el73);rfl;rfl;rfl;rfl;(focus ((repeat (first|exact Dense.nil|(apply Dense.cons;rfl;rfl)));done));intro sv;(try (refine S_fact (row_one (v := sv) (by (focus ((repeat (first|exact mH|refine mT ?_));done)))) (fun hone => ?_))))
        |(refine gLoad ?_;(first
            |(apply F_load1 rfl rfl;(focus ((repeat (first|exact mH|refine mT ?_));done));(first|exact T.sc3|exact T.sc4|exact T.sc27|exact T.sc43);rfl;(focus (first|exact free0|exact free1|(refine free2 ?_ ?_;(focus ((repeat (first|(apply apart1;(repeat (first|exact mH|refine mT ?_));done)|(apply apart2;(repeat (first|exact mH|refine mT ?_));done)|refine apart3 ?_));done));(first|exact free1|(refine free2 ?_ ?_;(focus ((repeat (first|(apply apart1;(repeat (first|exact mH|refine mT ?_));done)|(apply apart2;(repeat (first|exact mH|refine mT ?_));done)|refine apart3 ?_));done));exact free1))))))
            |(apply F_loadAll rfl rfl;(focus ((repeat (first|exact mH|refine mT ?_));done));(first|exact T.rw24|exact T.rw45|exact T.rw67);(focus (first|exact free0|exact free1|(refine free2 ?_ ?_;(focus ((repeat (first|(apply apart1;(repeat (first|exact mH|refine mT ?_));done)|(apply apart2;(repeat (first|exact mH|refine mT ?_));done)|refine apart3 ?_));done));(first|exact free1|(refine free2 ?_ ?_;(focus ((repeat (first|(apply apart1;(repeat (first|exact mH|refine mT ?_));done)|(apply apart2;(repeat (first|exact mH|refine mT ?_));done)|refine apart3 ?_));done));exact free1))))))
            |(apply F_loadS1 rfl rfl;(first|exact T.sc3|exact T.sc4|exact T.sc27|exact T.sc43);(focus (first|exact rd_nil|(apply rd_given;(focus assumption);(focus (first|exact freeG0|exact freeG1|(apply freeG2;(focus ((repeat (first|exact mH|refine mT ?_));done));(first|exact freeG1|(apply freeG2;(focus ((repeat (first|exact mH|refine mT ?_));done));exact freeG1))))))|(apply rd_row;(focus ((repeat (first|exact mH|refine mT ?_));done));(focus (first|exact freeR0|exact freeR1|(refine freeR2 ?_ ?_;(focus ((repeat (first|(apply apartR1;(focus ((repeat (first|exact mH|refine mT ?_));done));done)|(apply apartR2;(focus ((repeat (first|exact mH|refine mT ?_));done));done)|refine apartR3 ?_));done));(first|exact freeR1|(refine freeR2 ?_ ?_;(focus ((repeat (first|(apply apartR1;(focus ((repeat (first|exact mH|refine mT ?_));done));done)|(apply apartR2;(focus ((repeat (first|exact mH|refine mT ?_));done));done)|refine apartR3 ?_));done));exact freeR1))))))));(focus (first|(apply at_cell;(focus (apply at_flat;(focus (intro _;rfl));(focus assumption)));rfl)|(apply at_cell0;(focus (apply at_flat;(focus (intro _;rfl));(focus assumption)));rfl)|(apply at_cell;(focus (apply at_mid0;(focus assumption)));rfl)|(apply at_cell0;(focus (apply at_mid0;(focus assumption)));rfl)|rfl)))
            |(apply F_loadI rfl rfl;(first|exact T.sc3|exact T.sc4|exact T.sc27|exact T.sc43);(focus (first|exact rd_nil|(apply rd_given;(focus assumption);(focus (first|exact freeG0|exact freeG1|(apply freeG2;(focus ((repeat (first|exact mH|refine mT ?_));done));(first|exact freeG1|(apply freeG2;(focus ((repeat (first|exact mH|refine mT ?_));done));exact freeG1))))))|(apply rd_row;(focus ((repeat (first|exact mH|refine mT ?_));done));(focus (first|exact freeR0|exact freeR1|(refine freeR2 ?_ ?_;(focus ((repeat (first|(apply apartR1;(focus ((repeat (first|exact mH|refine mT ?_));done));done)|(apply apartR2;(focus ((repeat (first|exact mH|refine mT ?_));done));done)|refine apartR3 ?_));done));(first|exact freeR1|(refine freeR2 ?_ ?_;(focus ((repeat (first|(apply apartR1;(focus ((repeat (first|exact mH|refine mT ?_));done));done)|(apply apartR2;(focus ((repeat (first|exact mH|refine mT ?_));done));done)|refine apartR3 ?_));done));exact freeR1))))))));(focus ((repeat (first|exact LitI.nil|apply LitI.cons|apply LitI.app));done));(focus (simp only [List.length_cons,List.length_nil];omega));intro zi hzi;(simp only [List.mem_cons,List.not_mem_nil,or_false] at hzi);(first|(replace hzi : 0 ≤ zi ∧ zi ≤ 16 := by omega)|(replace hzi : 0 ≤ zi ∧ zi ≤ 128 := by omega)|(replace hzi : 0 ≤ zi ∧ zi ≤ 200 := by omega)|(replace hzi : 0 ≤ zi ∧ zi ≤ 65535 := by omega)|(replace hzi : 0 ≤ zi ∧ zi ≤ 70000 := by omega)|(replace hzi : -70000 ≤ zi ∧ zi ≤ 70000 := by omega)|(replace hzi : -70000 ≤ zi ∧ zi ≤ 2199023255552 := by omega)|(replace hzi : -70000 ≤ zi ∧ zi ≤ 4611686018427387904 := by omega)|(replace hzi : -9223372036854775808 ≤ zi ∧ zi ≤ 9223372036854775807 := by omega)))
            |((apply F_loadSN rfl rfl T.rw67;(focus (apply rd_row;(focus ((repeat (first|exact mH|refine mT ?_));done));(first|exact freeR0|exact freeR1)));(focus exact at_seg hA);rfl;rfl))))
        |(refine gStore ?_;(first
            |(apply F_store1 rfl rfl;(focus (first|rfl|assumption));(first|exact T.sc3|exact T.sc4|exact T.sc27|exact T.sc43);(focus ((repeat (first|exact Upd.here|apply Upd.there));done));(focus ((repeat (first|exact SetSeg.nil|apply SetSeg.here|apply SetSeg.there));done));(first|exact okst2|exact okst1|exact okst1'))
            |(apply F_storeN rfl rfl;(focus (first|rfl|assumption|(simp only [List.append_nil,List.all_cons,List.all_nil,Bool.and_true,Bool.true_and,one_int,one_bool,one_string,one_slice,one_pointer, *];done)));(first|exact T.rw24|exact T.rw45|exact T.rw67);(focus ((repeat (first|exact Upd.here|apply Upd.there));done));(focus ((repeat (first|exact SetSeg.nil|apply SetSeg.here|apply SetSeg.there));done));(first|exact okst2|exact okst1|exact okst1'))
            |(apply F_storeM0 rfl rfl;(focus ((repeat (first|exact Upd.here|apply Upd.there));done));(focus assumption);(first|exact T.sc3|exact T.sc4|exact T.sc27|exact T.sc43);(focus (first|rfl|assumption));(focus ((repeat (first|exact SetSeg.nil|apply SetSeg.here|apply SetSeg.there));done));(focus omega);(first|exact okst2|exact okst1|exact okst1'))
            |(apply F_storeM1 rfl rfl;(focus ((repeat (first|exact Upd.here|apply Upd.there));done));(focus assumption);(first|exact T.sc3|exact T.sc4|exact T.sc27|exact T.sc43);(focus (first|rfl|assumption));(focus ((repeat (first|exact SetSeg.nil|apply SetSeg.here|apply SetSeg.there));done));(focus omega);(first|exact okst2|exact okst1|exact okst1'))
            |(apply F_storeSN rfl rfl;(focus ((repeat (first|exact Upd.here|apply Upd.there));done));(first|exact T.rw24|exact T.rw45|exact T.rw67);rfl;(focus (first|rfl|assumption|(simp only [List.append_nil,List.all_cons,List.all_nil,Bool.and_true,Bool.true_and,one_int,one_bool,one_string,one_slice,one_pointer, *];done)));rfl;(focus omega);(first|exact okst2|exact okst1|exact okst1'))))
        |(refine gCall ?_;(first
            |(show GoS _ _ _ _ _ _ _ (⟨_,_,_,.call ⟨.value (.func 48),_,_⟩,_⟩ :: _);apply S_callB (f := 48) (b := kr) (hp := T.pf48) (hv := rfl) (hd := rfl);(case hpick => ((repeat (first|exact Pick.here|exact Pick.last|apply Pick.there|apply Pick.over));done));(case hc => exact pick_c kr v lc _ _ hc (by omega));(case hnb => (intro _ _;exact ⟨_,List.Mem.head _,rfl⟩));(case hk => (first|exact okst2|exact okst1|exact okst1'));intro zz hzz;simp only [List.cons_append,List.nil_append];revert hzz;revert zz;intro zp hzp)
            |(show GoS _ _ _ _ _ _ _ (⟨_,_,_,.call ⟨.value (.func 68),_,_⟩,_⟩ :: _);apply S_callB (f := 68) (b := kr) (hp := T.pf68) (hv := rfl) (hd := rfl);(case hpick => ((repeat (first|exact Pick.here|exact Pick.last|apply Pick.there|apply Pick.over));done));(case hc => exact l15Any_c kr v lc _ hc (by omega));(case hnb => (intro _ _;exact ⟨_,List.Mem.head _,rfl⟩));(case hk => (first|exact okst2|exact okst1|exact okst1'));intro zz hzz;simp only [List.cons_append,List.nil_append];revert hzz;revert zz;rintro ⟨x,q⟩ ⟨hx1,hx2,hx3⟩;dsimp only at hx1 hx2 hx3 ⊢;refine S_fact (fun w hs => oneFragPacket (Rds.many hs (by (focus ((repeat (first|exact mH|refine mT ?_));done))))) (fun hone => ?_))
            |(apply F_append rfl rfl rfl rfl;(first|exact T.el27|exact T.el43|exact T.el73);(focus (intro sv;(focus ((repeat (first|exact Upd.here|apply Upd.there));done))));(focus (first|exact rd_nil|(apply rd_given;(focus assumption);(focus (first|exact freeG0|exact freeG1|(apply freeG2;(focus ((repeat (first|exact mH|refine mT ?_));done));(first|exact freeG1|(apply freeG2;(focus ((repeat (first|exact mH|refine mT ?_));done));exact freeG1))))))|(apply rd_row;(focus ((repeat (first|exact mH|refine mT ?_));done));(focus (first|exact freeR0|exact freeR1|(refine freeR2 ?_ ?_;(focus ((repeat (first|(apply apartR1;(focus ((repeat (first|exact mH|refine mT ?_));done));done)|(apply apartR2;(focus ((repeat (first|exact mH|refine mT ?_));done));done)|refine apartR3 ?_));done));(first|exact freeR1|(refine freeR2 ?_ ?_;(focus ((repeat (first|(apply apartR1;(focus ((repeat (first|exact mH|refine mT ?_));done));done)|(apply apartR2;(focus ((repeat (first|exact mH|refine mT ?_));done));done)|refine apartR3 ?_));done));exact freeR1))))))));(focus (first|rfl|assumption|(apply all_flat;intro _ _;rfl)|(rw [List.append_nil];assumption)|(simp only [List.append_nil,List.all_cons,List.all_nil,Bool.and_true,Bool.true_and,one_int,one_bool,one_string,one_slice,one_pointer, *];done)|simp));(first|exact okst2|exact okst1|exact okst1');(focus (simp only [maxLen];first|omega|(simp only [List.length_take,List.length_drop];omega)));(focus (first|omega|(simp only [List.length_take,List.length_drop];omega)));intro sv;(try (refine S_fact (row_one (v := sv) (by (focus ((repeat (first|exact mH|refine mT ?_));done)))) (fun hone => ?_))))))
        |(refine gBin ?_;(first
            |(refine S_eql rfl rfl rfl ?_)
            |(refine S_add rfl rfl ?_ rfl ?_;(focus (unfold rng;omega)))))
        |(refine S_not rfl rfl ?_)
        |(refine S_done ?_)
        |(refine S_K rfl ?_)))
    |((first
        |(refine C_seq ?_)
        |(refine gReg ?_;(first
            |(refine gReg (i := 6) ?_;refine C_plain [(0,0),(1,2)] (by kernel_rfl) (s := [⟨0,none,_,_,_⟩,⟨2,none,_,_,_⟩]) rfl ?_)
            |(refine gReg (i := 11) ?_;refine C_plain [(0,0),(1,0)] (by kernel_rfl) (s := [⟨0,none,_,_,_⟩,⟨0,none,_,_,_⟩]) rfl ?_)
            |(refine gReg (i := 12) ?_;refine C_drawnT1 0 rfl (.br [(0,0),(1,0),(2,0),(3,0),(4,0),(6,0)] (.fin [(5,1),(7,1),(8,0),(9,0),(10,0),(11,0),(12,0),(13,2)]) (.fin [(7,1),(5,1),(8,0),(9,0),(10,0),(11,0),(12,0),(13,2)])) T.mixed (by kernel_rfl) (s := (.br [⟨0,none,_,_,_⟩,⟨0,none,_,_,_⟩,⟨0,none,_,_,_⟩,⟨0,none,_,_,_⟩,⟨0,none,_,_,_⟩,⟨0,none,_,_,_⟩] (.fin [⟨1,none,_,_,_⟩,⟨1,none,_,_,_⟩,⟨0,none,_,_,_⟩,⟨0,none,_,_,_⟩,⟨0,none,_,_,_⟩,⟨0,none,_,_,_⟩,⟨0,none,_,_,_⟩,⟨2,none,_,_,_⟩]) (.fin [⟨1,none,_,_,_⟩,⟨1,none,_,_,_⟩,⟨0,none,_,_,_⟩,⟨0,none,_,_,_⟩,⟨0,none,_,_,_⟩,⟨0,none,_,_,_⟩,⟨0,none,_,_,_⟩,⟨2,none,_,_,_⟩]))) rfl ?_)
            |(refine gReg (i := 13) ?_;refine C_plain [(0,0),(1,0)] (by kernel_rfl) (s := [⟨0,none,_,_,_⟩,⟨0,none,_,_,_⟩]) rfl ?_)
            |(refine gReg (i := 14) ?_;refine C_drawn [(0,0),(1,0),(2,0),(3,0),(4,0),(5,0),(6,0),(7,0),(8,0),(9,0),(10,0),(11,0),(12,2)] [] T.mixed (by kernel_rfl) (s := [⟨0,none,_,_,_⟩,⟨0,none,_,_,_⟩,⟨0,none,_,_,_⟩,⟨0,none,_,_,_⟩,⟨0,none,_,_,_⟩,⟨0,none,_,_,_⟩,⟨0,none,_,_,_⟩,⟨0,none,_,_,_⟩,⟨0,none,_,_,_⟩,⟨0,none,_,_,_⟩,⟨0,none,_,_,_⟩,⟨0,none,_,_,_⟩,⟨2,none,_,_,_⟩]) rfl ?_)
            |(refine gReg (i := 15) ?_;refine C_plain [(0,0),(1,0)] (by kernel_rfl) (s := [⟨0,none,_,_,_⟩,⟨0,none,_,_,_⟩]) rfl ?_)
            |(refine gReg (i := 16) ?_;refine C_drawnT1 0 rfl (.br [(0,0),(2,0),(3,0),(4,0),(5,0),(6,0),(7,0),(8,0),(9,0)] (.fin [(1,1),(10,1),(11,1),(12,2),(13,0),(14,0),(15,2)]) (.br [(10,1)] (.fin [(1,1),(11,1),(12,2),(13,0),(14,0),(15,2)]) (.br [(11,1)] (.fin [(1,1),(12,2),(13,0),(14,0),(15,2)]) (.fin [(12,2),(1,1),(13,0),(14,0),(15,2)])))) T.mixed (by kernel_rfl) (s := (.br [⟨0,none,_,_,_⟩,⟨0,none,_,_,_⟩,⟨0,none,_,_,_⟩,⟨0,none,_,_,_⟩,⟨0,none,_,_,_⟩,⟨0,none,_,_,_⟩,⟨0,none,_,_,_⟩,⟨0,none,_,_,_⟩,⟨0,none,_,_,_⟩] (.fin [⟨1,none,_,_,_⟩,⟨1,none,_,_,_⟩,⟨1,none,_,_,_⟩,⟨2,none,_,_,_⟩,⟨0,none,_,_,_⟩,⟨0,none,_,_,_⟩,⟨2,none,_,_,_⟩]) (.br [⟨1,none,_,_,_⟩] (.fin [⟨1,none,_,_,_⟩,⟨1,none,_,_,_⟩,⟨2,none,_,_,_⟩,⟨0,none,_,_,_⟩,⟨0,none,_,_,_⟩,⟨2,none,_,_,_⟩]) (.br [⟨1,none,_,_,_⟩] (.fin [⟨1,none,_,_,_⟩,⟨2,none,_,_,_⟩,⟨0,none,_,_,_⟩,⟨0,none,_,_,_⟩,⟨2,none,_,_,_⟩]) (.fin [⟨2,none,_,_,_⟩,⟨1,none,_,_,_⟩,⟨0,none,_,_,_⟩,⟨0,none,_,_,_⟩,⟨2,none,_,_,_⟩]))))) rfl ?_)
            |(refine gReg (i := 17) ?_;refine C_plain [(0,0),(1,0)] (by kernel_rfl) (s := [⟨0,none,_,_,_⟩,⟨0,none,_,_,_⟩]) rfl ?_)
            |(refine gReg (i := 18) ?_;refine C_drawn1 0 rfl [(0,0),(1,0),(2,0),(3,0),(4,0),(5,0),(6,0),(7,1),(8,0),(9,2)] T.mixed (by kernel_rfl) (s := [⟨0,none,_,_,_⟩,⟨0,none,_,_,_⟩,⟨0,none,_,_,_⟩,⟨0,none,_,_,_⟩,⟨0,none,_,_,_⟩,⟨0,none,_,_,_⟩,⟨0,none,_,_,_⟩,⟨1,none,_,_,_⟩,⟨0,none,_,_,_⟩,⟨2,none,_,_,_⟩]) rfl ?_)
            |(refine gReg (i := 19) ?_;refine C_plain [(0,0),(1,0)] (by kernel_rfl) (s := [⟨0,none,_,_,_⟩,⟨0,none,_,_,_⟩]) rfl ?_)
            |(refine gReg (i := 20) ?_;refine C_plain [(0,0),(1,0),(2,0),(3,2),(4,0),(5,0),(6,2)] (by kernel_rfl) (s := [⟨0,none,_,_,_⟩,⟨0,none,_,_,_⟩,⟨0,none,_,_,_⟩,⟨2,none,_,_,_⟩,⟨0,none,_,_,_⟩,⟨0,none,_,_,_⟩,⟨2,none,_,_,_⟩]) rfl ?_)
            |(refine gReg (i := 21) ?_;refine C_plain [(0,0),(1,0)] (by kernel_rfl) (s := [⟨0,none,_,_,_⟩,⟨0,none,_,_,_⟩]) rfl ?_)
            |(refine gReg (i := 22) ?_;refine C_drawn [(0,0),(1,0),(2,0),(3,0),(4,0),(5,0),(6,0),(7,1),(8,2),(9,0),(10,2)] [] T.mixed (by kernel_rfl) (s := [⟨0,none,_,_,_⟩,⟨0,none,_,_,_⟩,⟨0,none,_,_,_⟩,⟨0,none,_,_,_⟩,⟨0,none,_,_,_⟩,⟨0,none,_,_,_⟩,⟨0,none,_,_,_⟩,⟨1,none,_,_,_⟩,⟨2,none,_,_,_⟩,⟨0,none,_,_,_⟩,⟨2,none,_,_,_⟩]) rfl ?_)
            |(refine gReg (i := 7) ?_;refine C_plain [(0,0)] (by kernel_rfl) (s := [⟨0,none,_,_,_⟩]) rfl ?_)
            |(refine gReg (i := 23) ?_;refine C_plain [(0,0),(1,2)] (by kernel_rfl) (s := [⟨0,none,_,_,_⟩,⟨2,none,_,_,_⟩]) rfl ?_)))
        |(refine C_split rfl ?_ ?_ <;> (intro hb;(try simp only [decide_eq_true_eq] at hb);(try simp only [decide_eq_false_iff_not] at hb);(try simp only [Bool.not_eq_true'] at hb);(try simp only [Bool.not_eq_false'] at hb);(try (exfalso;first|contradiction|omega))))
        |(refine C_ret ?_)
        |(refine C_block ?_)
        |(refine T_fin ?_)
        |(refine T_br ?_)))
    |(refine gE ?_;(first
        |(refine E_then ?_)
        |(refine E_block ?_)
        |(refine E_calm ?_)
        |(apply E_ret1 rfl;(first|exact Res.tmp rfl|(apply R_cellAll rfl;(focus ((repeat (first|exact mH|refine mT ?_));done));(first|exact T.rw24|exact T.rw45|exact T.rw67))|(apply R_cell1 rfl;(focus ((repeat (first|exact mH|refine mT ?_));done));(first|exact T.sc3|exact T.sc4|exact T.sc27|exact T.sc43))))
        |(refine E_both ?_ ?_)
        | (refine E_K ?_))))
  iterate 2
    · exact retS ((now,v2,A ++ ((pv,sl),now + zi,bad) :: B),rwFragBench (now,v2,A ++ ((pv,sl),now + zi,bad) :: B),p + 1 + 1 + 1 + 1) ⟨smallC_mk hnw hAB hdA hdB (okD_of (by omega) hs3),binB_refl _,by dsimp only;omega,by dsimp only;omega⟩ rfl entA
  · exact retS ((now,v2,A ++ ((pv,sl),since,!bad) :: B),rwFragBench (now,v2,A ++ ((pv,sl),since,!bad) :: B),p + 1 + 1 + 1) ⟨smallC_mk hnw hAB hdA hdB (okD_of (by omega) hs3),binB_refl _,by dsimp only;omega,by dsimp only;omega⟩ rfl entA
  iterate 4
    · have hx9 : ∀ q ∈ sl ++ [x], SmallW (ctFragPacket q) := fun q hq => by
        rcases List.mem_append.1 hq with h | h
        · exact hs3 q h
        · rw [List.mem_singleton] at h
          rw [h]; exact hx1
      exact retS ((now,v2,A ++ ((sv,sl ++ [x]),since,bad) :: B),rwFragBench (now,v2,A ++ ((sv,sl ++ [x]),since,bad) :: B),q) ⟨smallC_mk hnw hAB hdA hdB (okD_of (by rw [List.length_append];simp;omega) hx9),binB_refl _,by dsimp only;omega,by dsimp only;omega⟩ rfl entA
  · obtain ⟨a, t, rfl⟩ : ∃ a t, sl = a :: t := by
      cases sl with
      | nil => simp at hs1
      | cons a t => exact ⟨a, t, rfl⟩
    have h9 : setAt ((a :: t).flatMap clFragPacket) (Int.toNat 0 * 9) (clFragPacket x) = (x :: t).flatMap clFragPacket := set_row (f := clFragPacket) (m := 9) (fun _ => rfl) (l := a :: t) (k := 0) (by simp) x
    rw [h9]
    have hx9 : ∀ q ∈ x :: t, SmallW (ctFragPacket q) := fun q hq => by
      rcases List.mem_cons.1 hq with h | h
      · rw [h]; exact hx1
      · exact hs3 q (List.mem_cons_of_mem _ h)
    exact retS ((now,v2,A ++ ((pv,x :: t),since,bad) :: B),rwFragBench (now,v2,A ++ ((pv,x :: t),since,bad) :: B),q) ⟨smallC_mk hnw hAB hdA hdB (okD_of (by simp only [List.length_cons] at hs2 ⊢;omega) hx9),binB_refl _,by dsimp only;omega,by dsimp only;omega⟩ rfl entA
  · exact retS ((now,v2,A ++ ((sv,[]),since,bad) :: B),rwFragBench (now,v2,A ++ ((sv,[]),since,bad) :: B),p + 1 + 1 + 1) ⟨smallC_mk hnw hAB hdA hdB (okD_of (by simp) (fun q hq => by cases hq)),binB_refl _,by dsimp only;omega,by dsimp only;omega⟩ rfl entA
  · have hall : ∀ r ∈ (A ++ ((pv, sl), since, bad) :: B) ++ [((pv, sl), since, bad)], okD (ctFragSlot r) := fun r hr => by
      rcases List.mem_append.1 hr with h | h
      · exact okD_mid hdA hdB hoks r h
      · rw [List.mem_singleton] at h
        rw [h]; exact hoks
    exact retS ((now,sv,(A ++ ((pv,sl),since,bad) :: B) ++ [((pv,sl),since,bad)]),⟨sv,67,3,((A ++ ((pv,sl),since,bad) :: B) ++ [((pv,sl),since,bad)]).length,((A ++ ((pv,sl),since,bad) :: B) ++ [((pv,sl),since,bad)]).flatMap clFragSlot⟩ :: (A ++ ((pv,sl),since,bad) :: B).flatMap rwFragSlot,p + 1 + 1 + 1) ⟨smallC_list hnw (by simp only [List.length_append,List.length_cons,List.length_nil];omega) hall,binB_twice (by simp),by dsimp only;omega,by dsimp only;omega⟩ rfl entA
  · refine C_ent (.blk kr 108 (rdr v (p + 1 + 1 + 1)) :: .row v2 67 3 (A ++ ((pv,sl),since,bad) :: B).length ((A ++ ((pv,sl),since,bad) :: B).flatMap clFragSlot) :: .many ((A ++ ((pv,sl),since,bad) :: B).flatMap rwFragSlot) :: .blk k3 45 [.int .i64 now,v2] :: .blk kb 45 [.int .i64 0,.slice none 0 0] :: R) entA ?_
    have hok := okD_mid hdA hdB hoks
    have hlen4 : (A ++ ((pv, sl), since, bad) :: B).length ≤ 4 := by simp only [List.length_append, List.length_cons]; omega
    generalize A ++ ((pv, sl), since, bad) :: B = l0 at hok hlen4 ⊢
    refine C_loop (α := Nat × Value × List MFragSlot × Int) (fun s => [(6, .int .i64 (s.1 : Int)), (4, .pointer (some ⟨kb, 0, none⟩)), (3, .pointer (some ⟨k3, 0, none⟩)), (0, .pointer (some ⟨kr, 0, none⟩))]) (fun s => .blk kr 108 (rdr v s.2.2.2) :: .row s.2.1 67 3 s.2.2.1.length (s.2.2.1.flatMap clFragSlot) :: .many (s.2.2.1.flatMap rwFragSlot) :: .blk k3 45 [.int .i64 now, s.2.1] :: .blk kb 45 [.int .i64 0, .slice none 0 0] :: R) (fun s => s.1 + l0.length = s.2.2.1.length ∧ s.2.2.1.length ≤ 5 ∧ (∀ r ∈ s.2.2.1, okD (ctFragSlot r)) ∧ p + 3 ≤ s.2.2.2 ∧ s.2.2.2 ≤ p + 3 + (s.1 : Int)) (fun s => 6 - s.2.2.1.length) (0, v2, l0, p + 1 + 1 + 1) ⟨by dsimp only; omega, by dsimp only; omega, hok, by dsimp only; omega, by dsimp only; omega⟩ ⟨rfl, rfl, rfl, rfl, trivial⟩ (List.Sublist.refl _) ?_
    rintro ⟨i, lv, l, q⟩ ⟨h1, h2, h3, h4, h5⟩
    dsimp only at *
    refine C_fact (row_one (v := lv) (by (focus ((repeat (first|exact mH|refine mT ?_));done)))) (fun honelv => ?_)
    repeat' (first
      |(refine gS ?_;(first
          |(refine S_move rfl rfl ?_)
          |(refine S_assign rfl rfl ?_)
          |(apply F_field rfl rfl;(first|exact T.fl45_0|exact T.fl45_1|exact T.fl67_0|exact T.fl67_1|exact T.fl67_2))
          |(apply F_bs rfl rfl;(first|exact T.el27|exact T.el43|exact T.el73);rfl;rfl;rfl;rfl;(focus ((repeat (first|exact Dense.nil|(apply Dense.cons;rfl;rfl)));done));intro sv;(try (refine S_fact (row_one (v := sv) (by (focus ((repeat (first|exact mH|refine mT ?_));done)))) (fun hone => ?_))))
          |(refine gLoad ?_;(first
              |(apply F_load1 rfl rfl;(focus ((repeat (first|exact mH|refine mT ?_));done));(first|exact T.sc3|exact T.sc4|exact T.sc27|exact T.sc43);rfl;(focus (first|exact free0|exact free1|(refine free2 ?_ ?_;(focus ((repeat (first|(apply apart1;(repeat (first|exact mH|refine mT ?_));done)|(apply apart2;(repeat (first|exact mH|refine mT ?_));done)|refine apart3 ?_));done));(first|exact free1|(refine free2 ?_ ?_;(focus ((repeat (first|(apply apart1;(repeat (first|exact mH|refine mT ?_));done)|(apply apart2;(repeat (first|exact mH|refine mT ?_));done)|refine apart3 ?_));done));exact free1))))))
              |(apply F_loadAll rfl rfl;(focus ((repeat (first|exact mH|refine mT ?_));done));(first|exact T.rw24|exact T.rw45|exact T.rw67);(focus (first|exact free0|exact free1|(refine free2 ?_ ?_;(focus ((repeat (first|(apply apart1;(repeat (first|exact mH|refine mT ?_));done)|(apply apart2;(repeat (first|exact mH|refine mT ?_));done)|refine apart3 ?_));done));(first|exact free1|(refine free2 ?_ ?_;(focus ((repeat (first|(apply apart1;(repeat (first|exact mH|refine mT ?_));done)|(apply apart2;(repeat (first|exact mH|refine mT ?_));done)|refine apart3 ?_));done));exact free1))))))))
          |(refine gStore ?_;(first
              |(apply F_store1 rfl rfl;(focus (first|rfl|assumption));(first|exact T.sc3|exact T.sc4|exact T.sc27|exact T.sc43);(focus ((repeat (first|exact Upd.here|apply Upd.there));done));(focus ((repeat (first|exact SetSeg.nil|apply SetSeg.here|apply SetSeg.there));done));(first|exact okst2|exact okst1|exact okst1'))
              |(apply F_storeN rfl rfl;(focus (first|rfl|assumption|(simp only [List.append_nil,List.all_cons,List.all_nil,Bool.and_true,Bool.true_and,one_int,one_bool,one_string,one_slice,one_pointer, *];done)));(first|exact T.rw24|exact T.rw45|exact T.rw67);(focus ((repeat (first|exact Upd.here|apply Upd.there));done));(focus ((repeat (first|exact SetSeg.nil|apply SetSeg.here|apply SetSeg.there));done));(first|exact okst2|exact okst1|exact okst1'))))
          |(refine gCall ?_;(first
              |(show GoS _ _ _ _ _ _ _ (⟨_,_,_,.call ⟨.value (.func 48),_,_⟩,_⟩ :: _);apply S_callB (f := 48) (b := kr) (hp := T.pf48) (hv := rfl) (hd := rfl);(case hpick => ((repeat (first|exact Pick.here|exact Pick.last|apply Pick.there|apply Pick.over));done));(case hc => exact pick_c kr v lc _ _ hc (by omega));(case hnb => (intro _ _;exact ⟨_,List.Mem.head _,rfl⟩));(case hk => (first|exact okst2|exact okst1|exact okst1'));intro zz hzz;simp only [List.cons_append,List.nil_append];revert hzz;revert zz;intro zp hzp)
              |(apply F_len rfl rfl rfl;(focus exact ⟨_,_,by (first|exact T.sl27|exact T.sl43|exact T.sl73)⟩);(focus (first|exact len_nil|(apply len_given;assumption)|(apply len_row;(focus ((repeat (first|exact mH|refine mT ?_));done)))|(apply len_isN;assumption))))
              |(apply F_append rfl rfl rfl rfl;(first|exact T.el27|exact T.el43|exact T.el73);(focus (intro sv;(focus ((repeat (first|exact Upd.here|apply Upd.there));done))));(focus (first|exact rd_nil|(apply rd_given;(focus assumption);(focus (first|exact freeG0|exact freeG1|(apply freeG2;(focus ((repeat (first|exact mH|refine mT ?_));done));(first|exact freeG1|(apply freeG2;(focus ((repeat (first|exact mH|refine mT ?_));done));exact freeG1))))))|(apply rd_row;(focus ((repeat (first|exact mH|refine mT ?_));done));(focus (first|exact freeR0|exact freeR1|(refine freeR2 ?_ ?_;(focus ((repeat (first|(apply apartR1;(focus ((repeat (first|exact mH|refine mT ?_));done));done)|(apply apartR2;(focus ((repeat (first|exact mH|refine mT ?_));done));done)|refine apartR3 ?_));done));(first|exact freeR1|(refine freeR2 ?_ ?_;(focus ((repeat (first|(apply apartR1;(focus ((repeat (first|exact mH|refine mT ?_));done));done)|(apply apartR2;(focus ((repeat (first|exact mH|refine mT ?_));done));done)|refine apartR3 ?_));done));exact freeR1))))))));(focus (first|rfl|assumption|(apply all_flat;intro _ _;rfl)|(rw [List.append_nil];assumption)|(simp only [List.append_nil,List.all_cons,List.all_nil,Bool.and_true,Bool.true_and,one_int,one_bool,one_string,one_slice,one_pointer, *];done)|simp));(first|exact okst2|exact okst1|exact okst1');(focus (simp only [maxLen];first|omega|(simp only [List.length_take,List.length_drop];omega)));(focus (first|omega|(simp only [List.length_take,List.length_drop];omega)));intro sv;(try (refine S_fact (row_one (v := sv) (by (focus ((repeat (first|exact mH|refine mT ?_));done)))) (fun hone => ?_))))))
          |(refine gBin ?_;(first
              |(refine S_lss rfl rfl rfl ?_)
              |(refine S_add rfl rfl ?_ rfl ?_;(focus (unfold rng;omega)))))
          |(apply F_build2 rfl (hd := rfl);(first|exact T.st24|exact T.st45|exact T.st67);(focus ((repeat (first|exact BuildR.nil|(apply BuildR.cons;(first|exact T.fs24_0|exact T.fs24_1|exact T.fs24_2|exact T.fs24_3|exact T.fs24_4|exact T.fs24_5|exact T.fs24_6|exact T.fs24_7|exact T.fs24_8|exact T.fs45_0|exact T.fs45_1|exact T.fs67_0|exact T.fs67_1|exact T.fs67_2);rfl;rfl;(focus ((repeat (first|exact SetSeg.nil|apply SetSeg.here|apply SetSeg.there));done)))|(apply BuildR.cons1;(first|exact T.fs24_0|exact T.fs24_1|exact T.fs24_2|exact T.fs24_3|exact T.fs24_4|exact T.fs24_5|exact T.fs24_6|exact T.fs24_7|exact T.fs24_8|exact T.fs45_0|exact T.fs45_1|exact T.fs67_0|exact T.fs67_1|exact T.fs67_2);(focus assumption);(focus ((repeat (first|exact SetSeg.nil|apply SetSeg.here|apply SetSeg.there));done)))));done)))
          |(refine S_done ?_)))
      |((first
          |(refine C_seq ?_)
          |(refine gReg ?_;(first
              |(refine gReg (i := 8) ?_;refine C_drawn1 0 rfl [(0,0),(1,0),(2,0),(3,0),(4,1),(5,0),(6,0)] T.mixed (by kernel_rfl) (s := [⟨0,none,_,_,_⟩,⟨0,none,_,_,_⟩,⟨0,none,_,_,_⟩,⟨0,none,_,_,_⟩,⟨1,none,_,_,_⟩,⟨0,none,_,_,_⟩,⟨0,none,_,_,_⟩]) rfl ?_)
              |(refine gReg (i := 10) ?_;refine C_plain [(0,0),(1,0),(2,0),(3,0),(4,0),(5,2),(6,0),(7,0),(8,0),(9,2),(10,2),(11,0),(12,2)] (by kernel_rfl) (s := [⟨0,none,_,_,_⟩,⟨0,none,_,_,_⟩,⟨0,none,_,_,_⟩,⟨0,none,_,_,_⟩,⟨0,none,_,_,_⟩,⟨2,none,_,_,_⟩,⟨0,none,_,_,_⟩,⟨0,none,_,_,_⟩,⟨0,none,_,_,_⟩,⟨2,none,_,_,_⟩,⟨2,none,_,_,_⟩,⟨0,none,_,_,_⟩,⟨2,none,_,_,_⟩]) rfl ?_)
              |(refine gReg (i := 9) ?_;refine C_plain [(0,0),(1,0),(2,0)] (by kernel_rfl) (s := [⟨0,none,_,_,_⟩,⟨0,none,_,_,_⟩,⟨0,none,_,_,_⟩]) rfl ?_)
              |(refine gReg (i := 23) ?_;refine C_plain [(0,0),(1,2)] (by kernel_rfl) (s := [⟨0,none,_,_,_⟩,⟨2,none,_,_,_⟩]) rfl ?_)))
          |(refine C_split rfl ?_ ?_ <;> (intro hb;(try simp only [decide_eq_true_eq] at hb);(try simp only [decide_eq_false_iff_not] at hb);(try simp only [Bool.not_eq_true'] at hb);(try simp only [Bool.not_eq_false'] at hb);(try (exfalso;first|contradiction|omega))))
          |(refine C_skip ?_)
          |(refine C_exit ?_)
          |(refine C_ret ?_)
          |(refine C_block ?_)))
      |(refine gE ?_;(first
          |(refine E_then ?_)
          |(refine E_thenX ?_)
          |(refine E_block ?_)
          |(refine E_blockY ?_)
          |(refine E_calm ?_)
          |(apply E_ret1 rfl;(first|exact Res.tmp rfl|(apply R_cellAll rfl;(focus ((repeat (first|exact mH|refine mT ?_));done));(first|exact T.rw24|exact T.rw45|exact T.rw67))|(apply R_cell1 rfl;(focus ((repeat (first|exact mH|refine mT ?_));done));(first|exact T.sc3|exact T.sc4|exact T.sc27|exact T.sc43)))))))
    · rename_i sp1 ho1 s2 ho2
      have hok1 : okD (ctFragSlot ((sp1, [pkN i]), now, false)) := okD_of (by simp) fun q hq => by
        rw [List.mem_singleton] at hq
        rw [hq]; exact pkN_small (by omega)
      refine E_roundS (α := Nat × Value × List MFragSlot × Int) (i + 1,sv,l ++ [((sp1,[pkN i]),now,false)],q + 1) ⟨by dsimp only;rw [List.length_append,List.length_singleton];omega,by dsimp only;rw [List.length_append,List.length_singleton];omega,fun r hr => ?_,by dsimp only;omega,by dsimp only;omega⟩ (by dsimp only;rw [List.length_append,List.length_singleton];omega) ⟨rfl,rfl,rfl,rfl,trivial⟩ (Ent.trans (Ent.ghost 5 1) entA)
      rcases List.mem_append.1 hr with h | h
      · exact h3 r h
      · rw [List.mem_singleton] at h
        rw [h]; exact hok1
    · exact retS ((now,lv,l),rwFragBench (now,lv,l),q + 1) ⟨smallC_list hnw (by omega) h3,binB_refl _,by dsimp only;omega,by dsimp only;omega⟩ rfl entA
end Go.Proofs.Ytodhjpnfokkfeaa

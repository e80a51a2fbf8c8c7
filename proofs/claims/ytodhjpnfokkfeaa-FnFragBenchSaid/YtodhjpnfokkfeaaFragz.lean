/- Pieces turned around and doubled: lists whose elements share memory. -/
import Derived.Test.YtodhjpnfokkfeaaFragw
set_option linter.unusedSimpArgs false
set_option linter.unusedVariables false
namespace Go.Proofs.Ytodhjpnfokkfeaa
open Go Go.RowKit
attribute [local irreducible] Calls GoS GoC GoE GoT Mid IsEq IsFl IsSc IsRw IsSl IsEl IsSt IsFs sp Mem Rd LenOf szR
/-- each row of an element lies in base -/
def InB (l : List MFragPacket) (base : List Row) : Prop := ∀ y ∈ l, ∀ r ∈ rwFragPacket y, r ∈ base
theorem rds_inB {w : World} {l : List MFragPacket} {base : List Row} {y : MFragPacket} (h : InB l base) (hy : y ∈ l) (hb : Rds w base) : Rds w (rwFragPacket y) := fun r hr => hb r (h y hy r hr)
theorem inB_one {w0 w : World} {L : List Blk} {l : List MFragPacket} {base : List Row} (hs : St w0 w L) (h : InB l base) (hb : .many base ∈ L) : ∀ y ∈ l, (clFragPacket y).all (·.oneCell') = true := fun y hy => oneFragPacket (rds_inB h hy (Rds.many hs hb))
def mixL (l : List MFragPacket) (k : Nat) (x : MFragPacket) : List MFragPacket := l.take k ++ [x] ++ l.drop k
theorem mix_row {s : Value} {l : List MFragPacket} {yi : Int} {x : MFragPacket} : Blk.row s 24 9 (0 + ((l.drop 0).take (yi.toNat - 0)).length + 1 + ((l.drop yi.toNat).take (l.length - yi.toNat)).length) ([] ++ ((l.drop 0).take (yi.toNat - 0)).flatMap clFragPacket ++ (clFragPacket x ++ []) ++ ((l.drop yi.toNat).take (l.length - yi.toNat)).flatMap clFragPacket) = Blk.row s 24 9 (mixL l yi.toNat x).length ((mixL l yi.toNat x).flatMap clFragPacket) := by
  have e1 : (l.drop 0).take (yi.toNat - 0) = l.take yi.toNat := by rw [List.drop_zero, Nat.sub_zero]
  have e3 : (l.drop yi.toNat).take (l.length - yi.toNat) = l.drop yi.toNat := List.take_of_length_le (by rw [List.length_drop]; omega)
  rw [e1, e3]
  unfold mixL
  rw [List.length_append, List.length_append, List.flatMap_append, List.flatMap_append, List.nil_append, Nat.zero_add, List.flatMap_cons, List.flatMap_nil]
  rfl
theorem push_row {s : Value} {l : List MFragPacket} {x : MFragPacket} : Blk.row s 24 9 (l.length + 1) (l.flatMap clFragPacket ++ (clFragPacket x ++ [])) = Blk.row s 24 9 (l ++ [x]).length ((l ++ [x]).flatMap clFragPacket) := by
  rw [List.length_append, List.flatMap_append, List.flatMap_cons, List.flatMap_nil]
  rfl
theorem mix_mem {l : List MFragPacket} {k : Nat} {x y : MFragPacket} : y ∈ mixL l k x ↔ y ∈ l ∨ y = x := by
  unfold mixL
  rw [List.mem_append, List.mem_append, List.mem_singleton]
  constructor
  · rintro ((h | h) | h)
    · exact .inl (List.mem_of_mem_take h)
    · exact .inr h
    · exact .inl (List.mem_of_mem_drop h)
  · rintro (h | h)
    · have h2 : y ∈ l.take k ++ l.drop k := by rw [List.take_append_drop]; exact h
      rcases List.mem_append.1 h2 with h3 | h3
      · exact .inl (.inl h3)
      · exact .inr h3
    · exact .inl (.inr h)
theorem mix_len {l : List MFragPacket} {k : Nat} {x : MFragPacket} : (mixL l k x).length = l.length + 1 := by
  unfold mixL
  rw [List.length_append, List.length_append, List.length_singleton, List.length_take, List.length_drop]; omega
set_option maxHeartbeats 1000000 in
theorem l15Mix_c {w0 : World} (kr : Nat) (v : Value) (lc : List Int) (p : Int) (hc : Code w0 v lc) (hp : 0 ≤ p ∧ p ≤ 1099511400000) (tv : Value) (tl : List MFragPacket) (base : List Row) (hin : InB tl base) (hn : tl.length ≤ 1000) (R : List Blk) (w : World) (hs : St w0 w ([.blk kr 108 (rdr v p), .row tv 24 9 tl.length (tl.flatMap clFragPacket), .many base] ++ R)) : Calls Try.prog 97 #[.pointer (some ⟨kr, 0, none⟩), tv] w
    (RetS w0 R (fun z : MSFragPacket × Int => (∀ y, y ∈ z.1.2 ↔ y ∈ tl) ∧ tl.length ≤ z.1.2.length ∧ z.1.2.length ≤ tl.length + 3 ∧ p ≤ z.2 ∧ z.2 ≤ p + 1010) (fun z => z.1.1) (fun z => [.blk kr 108 (rdr v z.2), .row z.1.1 24 9 z.1.2.length (z.1.2.flatMap clFragPacket), .row tv 24 9 tl.length (tl.flatMap clFragPacket), .many base])) := by
  have hs' : St w0 w (.blk kr 108 (rdr v p) :: .row tv 24 9 tl.length (tl.flatMap clFragPacket) :: .many base :: R) := hs
  have hone0 := inB_one hs' hin (by repeat (first | exact List.Mem.head _ | refine List.Mem.tail _ ?_))
  refine enterS (n := 63) (E := [(0, _), (1, _)]) Try.func97 rfl rfl rfl rfl hs' ?_
  repeat' (first
    |(refine gS ?_;(first
        |(refine S_assign rfl rfl ?_)
        |(apply F_bs0 rfl rfl;exact T.el27;rfl;intro sv;(try (refine S_fact (row_one (v := sv) (by (focus ((repeat (first|exact mH|refine mT ?_));done)))) (fun hone => ?_))))
        |(refine S_done ?_)))
    |((first
        |(refine C_seq ?_)
        |(refine gReg ?_;(first
            |(refine gReg (i := 0) ?_;refine C_plain [(0,0)] (by kernel_rfl) (s := [⟨0,none,_,_,_⟩]) rfl ?_)
            |(refine gReg (i := 1) ?_;refine C_plain [(0,2),(1,0)] (by kernel_rfl) (s := [⟨2,none,_,_,_⟩,⟨0,none,_,_,_⟩]) rfl ?_)
            |(refine gReg (i := 2) ?_;refine C_plain [(0,0)] (by kernel_rfl) (s := [⟨0,none,_,_,_⟩]) rfl ?_)))
        |(refine C_block ?_)))
    |(refine gE ?_;(first
        |(refine E_then ?_))))
  refine C_loop (α := Nat × Value × List MFragPacket × Int) (fun s => [(6, .int .i64 (s.1 : Int)), (5, s.2.1), (4, .slice none 0 0), (0, .pointer (some ⟨kr, 0, none⟩)), (1, tv)]) (fun s => .row s.2.1 24 9 s.2.2.1.length (s.2.2.1.flatMap clFragPacket) :: .blk kr 108 (rdr v s.2.2.2) :: .row tv 24 9 tl.length (tl.flatMap clFragPacket) :: .many base :: R) (fun s => s.1 ≤ tl.length ∧ s.2.2.1.length = s.1 ∧ (∀ y, y ∈ s.2.2.1 ↔ y ∈ tl.take s.1) ∧ s.2.2.2 = p + (s.1 : Int)) (fun s => tl.length - s.1) (0, sv, [], p) ⟨Nat.zero_le _, rfl, fun y => by simp, by simp⟩ ⟨rfl, rfl, rfl, rfl, rfl, trivial⟩ (List.Sublist.refl _) ?_
  rintro ⟨i, sv, ol, q⟩ ⟨h1, h2, h3, h4⟩
  dsimp only at h1 h2 h3 h4 ⊢
  have hol : ∀ y ∈ ol, (clFragPacket y).all (·.oneCell') = true := fun y hy => hone0 y (List.mem_of_mem_take ((h3 y).1 hy))
  repeat' (first
    |(refine gS ?_;(first
        |(refine S_move rfl rfl ?_)
        |(refine S_assign rfl rfl ?_)
        |(refine gCall ?_;(first
            |(show GoS _ _ _ _ _ _ _ (⟨_,_,_,.call ⟨.value (.func 48),_,_⟩,_⟩ :: _);apply S_callB (f := 48) (b := kr) (hp := T.pf48) (hv := rfl) (hd := rfl);(case hpick => ((repeat (first|exact Pick.here|exact Pick.last|apply Pick.there|apply Pick.over));done));(case hc => exact pick_c kr v lc _ _ hc (by omega));(case hnb => (intro _ _;exact ⟨_,List.Mem.head _,rfl⟩));(case hk => (first|exact okst2|exact okst1|exact okst1'));intro zz hzz;simp only [List.cons_append,List.nil_append];revert hzz;revert zz;intro yi hyi)
            |(apply F_len rfl rfl rfl;(focus exact ⟨_,_,by exact T.sl27⟩);(focus (first|(focus (first|exact len_nil|(apply len_given;assumption)|(apply len_row;(focus ((repeat (first|exact mH|refine mT ?_));done)))|(apply len_isN;assumption)))|(apply len_sub;(focus (first|exact len_nil|(apply len_given;assumption)|(apply len_row;(focus ((repeat (first|exact mH|refine mT ?_));done)))|(apply len_isN;assumption)));(focus omega);(focus omega)))))))
        |(refine gBin ?_;(first
            |(refine S_lss rfl rfl rfl ?_)
            |(refine S_add rfl rfl ?_ rfl ?_;(focus (unfold rng;omega)))))
        |(refine S_done ?_)))
    |(refine gC ?_;(first
        |(refine C_seq ?_)
        |(refine gReg ?_;(first
            |(refine gReg (i := 3) ?_;refine C_plain [(0,0),(1,0),(2,0),(3,0)] (by kernel_rfl) (s := [⟨0,none,_,_,_⟩,⟨0,none,_,_,_⟩,⟨0,none,_,_,_⟩,⟨0,none,_,_,_⟩]) rfl ?_)
            |(refine gReg (i := 5) ?_;refine C_plain [(0,0),(1,0),(2,0),(3,0),(4,2),(5,0)] (by kernel_rfl) (s := [⟨0,none,_,_,_⟩,⟨0,none,_,_,_⟩,⟨0,none,_,_,_⟩,⟨0,none,_,_,_⟩,⟨2,none,_,_,_⟩,⟨0,none,_,_,_⟩]) rfl ?_)))
        |(refine C_split rfl ?_ ?_ <;> (intro hb;(try simp only [decide_eq_true_eq] at hb);(try simp only [decide_eq_false_iff_not] at hb);(try simp only [Bool.not_eq_true'] at hb);(try simp only [Bool.not_eq_false'] at hb);(try (exfalso;first|contradiction|omega));(try (have hx1 := nthD (l := tl) (k := i) hb))))
        |(refine C_skip ?_)
        |(refine C_exit ?_)
        |(refine C_block ?_)))
    |(refine gE ?_;(first
        |(refine E_then ?_)
        |(refine E_thenX ?_)
        |(refine E_blockY ?_))))
  · have hlt : (i : Int) < (tl.length : Int) := by assumption
    have ht1 : ((ol.drop 0).take (yi.toNat - 0)).flatMap clFragPacket |>.all (·.oneCell') := all_flat fun y hy => hol y (List.mem_of_mem_drop (List.mem_of_mem_take hy))
    have ht2 : ((ol.drop yi.toNat).take (ol.length - yi.toNat)).flatMap clFragPacket |>.all (·.oneCell') := all_flat fun y hy => hol y (List.mem_of_mem_drop (List.mem_of_mem_take hy))
    have ht3 := hone0 _ (List.mem_of_getElem? hx1)
    have hyl : yi ≤ (ol.length : Int) := by have := hyi.2.1 (by omega); omega
    repeat' (first
      |(refine gS ?_;(first
          |(refine S_move rfl rfl ?_)
          |(refine S_assign rfl rfl ?_)
          |(apply F_idx rfl rfl rfl;exact T.sl27;(focus rfl);(focus (first|(focus (first|exact len_nil|(apply len_given;assumption)|(apply len_row;(focus ((repeat (first|exact mH|refine mT ?_));done)))|(apply len_isN;assumption)))|(apply len_sub;(focus (first|exact len_nil|(apply len_given;assumption)|(apply len_row;(focus ((repeat (first|exact mH|refine mT ?_));done)))|(apply len_isN;assumption)));(focus omega);(focus omega))));(focus omega))
          |(apply F_slice rfl rfl;exact T.sl27;(focus (first|(focus (first|exact len_nil|(apply len_given;assumption)|(apply len_row;(focus ((repeat (first|exact mH|refine mT ?_));done)))|(apply len_isN;assumption)))|(apply len_sub;(focus (first|exact len_nil|(apply len_given;assumption)|(apply len_row;(focus ((repeat (first|exact mH|refine mT ?_));done)))|(apply len_isN;assumption)));(focus omega);(focus omega))));(focus exact rfl);(focus exact ⟨_,_,rfl,by omega,rfl⟩);(focus omega);(focus omega))
          |(apply F_slice rfl rfl;exact T.sl27;(focus (first|(focus (first|exact len_nil|(apply len_given;assumption)|(apply len_row;(focus ((repeat (first|exact mH|refine mT ?_));done)))|(apply len_isN;assumption)))|(apply len_sub;(focus (first|exact len_nil|(apply len_given;assumption)|(apply len_row;(focus ((repeat (first|exact mH|refine mT ?_));done)))|(apply len_isN;assumption)));(focus omega);(focus omega))));(focus exact ⟨_,_,rfl,by omega,rfl⟩);(focus exact rfl);(focus omega);(focus omega))
          |(apply F_bs0 rfl rfl;exact T.el27;rfl;intro sv;(try (refine S_fact (row_one (v := sv) (by (focus ((repeat (first|exact mH|refine mT ?_));done)))) (fun hone => ?_))))
          |(apply F_bs rfl rfl;exact T.el27;rfl;rfl;rfl;rfl;(focus ((repeat (first|exact Dense.nil|(apply Dense.cons;rfl;rfl)));done));intro sv;(try (refine S_fact (row_one (v := sv) (by (focus ((repeat (first|exact mH|refine mT ?_));done)))) (fun hone => ?_))))
          |(refine gLoad ?_;(first
              |(apply F_loadSN rfl rfl;exact T.rw24;(focus (first|exact rd_nil|(apply rd_given;(focus assumption);(focus (first|exact freeG0|exact freeG1)))|(apply rd_row;(focus ((repeat (first|exact mH|refine mT ?_));done));(focus (first|exact freeR0|exact freeR1)))|(apply rd_sub;(focus (apply rd_given;(focus assumption);(focus (first|exact freeG0|exact freeG1))));(focus (intro _;rfl));(focus omega);(focus omega))|(apply rd_sub;(focus (apply rd_row;(focus ((repeat (first|exact mH|refine mT ?_));done));(focus (first|exact freeR0|exact freeR1))));(focus (intro _;rfl));(focus omega);(focus omega))));(focus (first|(focus (apply at_flat;(focus (intro _;rfl));(focus assumption)))|exact at_self));rfl;rfl)))
          |(refine gCall ?_;(first
              |(apply F_append rfl rfl rfl rfl;exact T.el27;(focus (intro sv;(focus ((repeat (first|exact Upd.here|apply Upd.there));done))));(focus (first|exact rd_nil|(apply rd_given;(focus assumption);(focus (first|exact freeG0|exact freeG1)))|(apply rd_row;(focus ((repeat (first|exact mH|refine mT ?_));done));(focus (first|exact freeR0|exact freeR1)))|(apply rd_sub;(focus (apply rd_given;(focus assumption);(focus (first|exact freeG0|exact freeG1))));(focus (intro _;rfl));(focus omega);(focus omega))|(apply rd_sub;(focus (apply rd_row;(focus ((repeat (first|exact mH|refine mT ?_));done));(focus (first|exact freeR0|exact freeR1))));(focus (intro _;rfl));(focus omega);(focus omega))));(focus (first|rfl|assumption|(apply all_flat;intro _ _;rfl)|(rw [List.append_nil];assumption)|(simp only [List.append_nil,List.all_cons,List.all_nil,Bool.and_true,Bool.true_and,one_int,one_bool,one_string,one_slice,one_pointer, *];done)|simp));(first|exact okst2|exact okst1|exact okst1');(focus (simp only [maxLen];first|omega|(simp only [List.length_take,List.length_drop];omega)));(focus (first|omega|(simp only [List.length_take,List.length_drop];omega)));intro sv;(try (refine S_fact (row_one (v := sv) (by (focus ((repeat (first|exact mH|refine mT ?_));done)))) (fun hone => ?_))))))
          |(refine gBin ?_;(first
              |(refine S_add rfl rfl ?_ rfl ?_;(focus (unfold rng;omega)))))
          |(refine S_done ?_)
          |(refine S_K rfl ?_)))
      |((first
          |(refine gReg ?_;(first
              |(refine gReg (i := 6) ?_;refine C_drawnT (.br [(1,0),(2,0),(3,0),(5,0),(6,0),(11,0),(12,0)] (.br [(0,1)] (.br [(4,2)] (.br [(7,1)] (.br [(8,1)] (.br [(9,1)] (.fin [(10,2),(13,1),(14,2),(15,0)]) (.fin [(13,1),(10,2),(14,2),(15,0)])) (.fin [(13,1),(9,1),(10,2),(14,2),(15,0)])) (.fin [(13,1),(8,1),(9,1),(10,2),(14,2),(15,0)])) (.fin [(13,1),(7,1),(8,1),(9,1),(10,2),(14,2),(15,0)])) (.br [] (.br [(7,1)] (.br [(4,2)] (.br [(8,1)] (.br [(9,1)] (.fin [(10,2),(13,1),(14,2),(15,0)]) (.fin [(13,1),(10,2),(14,2),(15,0)])) (.fin [(13,1),(9,1),(10,2),(14,2),(15,0)])) (.fin [(13,1),(8,1),(9,1),(10,2),(14,2),(15,0)])) (.br [] (.br [(8,1)] (.br [(4,2)] (.br [(9,1)] (.fin [(10,2),(13,1),(14,2),(15,0)]) (.fin [(13,1),(10,2),(14,2),(15,0)])) (.fin [(13,1),(9,1),(10,2),(14,2),(15,0)])) (.br [] (.br [(9,1)] (.br [(4,2)] (.fin [(10,2),(13,1),(14,2),(15,0)]) (.fin [(13,1),(10,2),(14,2),(15,0)])) (.fin [(13,1),(4,2),(10,2),(14,2),(15,0)])) (.br [(13,1)] (.fin [(4,2),(9,1),(10,2),(14,2),(15,0)]) (.fin [(9,1),(4,2),(10,2),(14,2),(15,0)])))) (.br [(13,1)] (.fin [(4,2),(8,1),(9,1),(10,2),(14,2),(15,0)]) (.br [(8,1)] (.fin [(4,2),(9,1),(10,2),(14,2),(15,0)]) (.fin [(9,1),(4,2),(10,2),(14,2),(15,0)]))))) (.br [(13,1)] (.fin [(4,2),(7,1),(8,1),(9,1),(10,2),(14,2),(15,0)]) (.br [(7,1)] (.fin [(4,2),(8,1),(9,1),(10,2),(14,2),(15,0)]) (.br [(8,1)] (.fin [(4,2),(9,1),(10,2),(14,2),(15,0)]) (.fin [(9,1),(4,2),(10,2),(14,2),(15,0)])))))) (.br [] (.br [(7,1)] (.br [(0,1)] (.br [(4,2)] (.br [(8,1)] (.br [(9,1)] (.fin [(10,2),(13,1),(14,2),(15,0)]) (.fin [(13,1),(10,2),(14,2),(15,0)])) (.fin [(13,1),(9,1),(10,2),(14,2),(15,0)])) (.fin [(13,1),(8,1),(9,1),(10,2),(14,2),(15,0)])) (.br [] (.br [(8,1)] (.br [(4,2)] (.br [(9,1)] (.fin [(10,2),(13,1),(14,2),(15,0)]) (.fin [(13,1),(10,2),(14,2),(15,0)])) (.fin [(13,1),(9,1),(10,2),(14,2),(15,0)])) (.br [] (.br [(9,1)] (.br [(4,2)] (.fin [(10,2),(13,1),(14,2),(15,0)]) (.fin [(13,1),(10,2),(14,2),(15,0)])) (.fin [(13,1),(4,2),(10,2),(14,2),(15,0)])) (.br [(13,1)] (.fin [(4,2),(9,1),(10,2),(14,2),(15,0)]) (.fin [(9,1),(4,2),(10,2),(14,2),(15,0)])))) (.br [(13,1)] (.fin [(4,2),(8,1),(9,1),(10,2),(14,2),(15,0)]) (.br [(8,1)] (.fin [(4,2),(9,1),(10,2),(14,2),(15,0)]) (.fin [(9,1),(4,2),(10,2),(14,2),(15,0)]))))) (.br [] (.br [(8,1)] (.br [(0,1)] (.br [(4,2)] (.br [(9,1)] (.fin [(10,2),(13,1),(14,2),(15,0)]) (.fin [(13,1),(10,2),(14,2),(15,0)])) (.fin [(13,1),(9,1),(10,2),(14,2),(15,0)])) (.br [] (.br [(9,1)] (.br [(4,2)] (.fin [(10,2),(13,1),(14,2),(15,0)]) (.fin [(13,1),(10,2),(14,2),(15,0)])) (.fin [(13,1),(4,2),(10,2),(14,2),(15,0)])) (.br [(13,1)] (.fin [(4,2),(9,1),(10,2),(14,2),(15,0)]) (.fin [(9,1),(4,2),(10,2),(14,2),(15,0)])))) (.br [] (.br [(9,1)] (.br [(0,1)] (.br [(4,2)] (.fin [(10,2),(13,1),(14,2),(15,0)]) (.fin [(13,1),(10,2),(14,2),(15,0)])) (.fin [(13,1),(4,2),(10,2),(14,2),(15,0)])) (.fin [(13,1),(0,1),(4,2),(10,2),(14,2),(15,0)])) (.br [(13,1)] (.br [(0,1)] (.fin [(4,2),(9,1),(10,2),(14,2),(15,0)]) (.fin [(9,1),(4,2),(10,2),(14,2),(15,0)])) (.fin [(9,1),(0,1),(4,2),(10,2),(14,2),(15,0)])))) (.br [(13,1)] (.br [(0,1)] (.fin [(4,2),(8,1),(9,1),(10,2),(14,2),(15,0)]) (.br [(8,1)] (.fin [(4,2),(9,1),(10,2),(14,2),(15,0)]) (.fin [(9,1),(4,2),(10,2),(14,2),(15,0)]))) (.br [(8,1)] (.br [(0,1)] (.fin [(4,2),(9,1),(10,2),(14,2),(15,0)]) (.fin [(9,1),(4,2),(10,2),(14,2),(15,0)])) (.fin [(9,1),(0,1),(4,2),(10,2),(14,2),(15,0)]))))) (.br [(13,1)] (.br [(0,1)] (.fin [(4,2),(7,1),(8,1),(9,1),(10,2),(14,2),(15,0)]) (.br [(7,1)] (.fin [(4,2),(8,1),(9,1),(10,2),(14,2),(15,0)]) (.br [(8,1)] (.fin [(4,2),(9,1),(10,2),(14,2),(15,0)]) (.fin [(9,1),(4,2),(10,2),(14,2),(15,0)])))) (.br [(7,1)] (.br [(0,1)] (.fin [(4,2),(8,1),(9,1),(10,2),(14,2),(15,0)]) (.br [(8,1)] (.fin [(4,2),(9,1),(10,2),(14,2),(15,0)]) (.fin [(9,1),(4,2),(10,2),(14,2),(15,0)]))) (.br [(8,1)] (.br [(0,1)] (.fin [(4,2),(9,1),(10,2),(14,2),(15,0)]) (.fin [(9,1),(4,2),(10,2),(14,2),(15,0)])) (.fin [(9,1),(0,1),(4,2),(10,2),(14,2),(15,0)])))))) [] T.mixed (by kernel_rfl) (s := (.br [⟨0,none,_,_,_⟩,⟨0,none,_,_,_⟩,⟨0,none,_,_,_⟩,⟨0,none,_,_,_⟩,⟨0,none,_,_,_⟩,⟨0,none,_,_,_⟩,⟨0,none,_,_,_⟩] (.br [⟨1,none,_,_,_⟩] (.br [⟨2,none,_,_,_⟩] (.br [⟨1,none,_,_,_⟩] (.br [⟨1,none,_,_,_⟩] (.br [⟨1,none,_,_,_⟩] (.fin [⟨2,none,_,_,_⟩,⟨1,none,_,_,_⟩,⟨2,none,_,_,_⟩,⟨0,none,_,_,_⟩]) (.fin [⟨1,none,_,_,_⟩,⟨2,none,_,_,_⟩,⟨2,none,_,_,_⟩,⟨0,none,_,_,_⟩])) (.fin [⟨1,none,_,_,_⟩,⟨1,none,_,_,_⟩,⟨2,none,_,_,_⟩,⟨2,none,_,_,_⟩,⟨0,none,_,_,_⟩])) (.fin [⟨1,none,_,_,_⟩,⟨1,none,_,_,_⟩,⟨1,none,_,_,_⟩,⟨2,none,_,_,_⟩,⟨2,none,_,_,_⟩,⟨0,none,_,_,_⟩])) (.fin [⟨1,none,_,_,_⟩,⟨1,none,_,_,_⟩,⟨1,none,_,_,_⟩,⟨1,none,_,_,_⟩,⟨2,none,_,_,_⟩,⟨2,none,_,_,_⟩,⟨0,none,_,_,_⟩])) (.br [] (.br [⟨1,none,_,_,_⟩] (.br [⟨2,none,_,_,_⟩] (.br [⟨1,none,_,_,_⟩] (.br [⟨1,none,_,_,_⟩] (.fin [⟨2,none,_,_,_⟩,⟨1,none,_,_,_⟩,⟨2,none,_,_,_⟩,⟨0,none,_,_,_⟩]) (.fin [⟨1,none,_,_,_⟩,⟨2,none,_,_,_⟩,⟨2,none,_,_,_⟩,⟨0,none,_,_,_⟩])) (.fin [⟨1,none,_,_,_⟩,⟨1,none,_,_,_⟩,⟨2,none,_,_,_⟩,⟨2,none,_,_,_⟩,⟨0,none,_,_,_⟩])) (.fin [⟨1,none,_,_,_⟩,⟨1,none,_,_,_⟩,⟨1,none,_,_,_⟩,⟨2,none,_,_,_⟩,⟨2,none,_,_,_⟩,⟨0,none,_,_,_⟩])) (.br [] (.br [⟨1,none,_,_,_⟩] (.br [⟨2,none,_,_,_⟩] (.br [⟨1,none,_,_,_⟩] (.fin [⟨2,none,_,_,_⟩,⟨1,none,_,_,_⟩,⟨2,none,_,_,_⟩,⟨0,none,_,_,_⟩]) (.fin [⟨1,none,_,_,_⟩,⟨2,none,_,_,_⟩,⟨2,none,_,_,_⟩,⟨0,none,_,_,_⟩])) (.fin [⟨1,none,_,_,_⟩,⟨1,none,_,_,_⟩,⟨2,none,_,_,_⟩,⟨2,none,_,_,_⟩,⟨0,none,_,_,_⟩])) (.br [] (.br [⟨1,none,_,_,_⟩] (.br [⟨2,none,_,_,_⟩] (.fin [⟨2,none,_,_,_⟩,⟨1,none,_,_,_⟩,⟨2,none,_,_,_⟩,⟨0,none,_,_,_⟩]) (.fin [⟨1,none,_,_,_⟩,⟨2,none,_,_,_⟩,⟨2,none,_,_,_⟩,⟨0,none,_,_,_⟩])) (.fin [⟨1,none,_,_,_⟩,⟨2,none,_,_,_⟩,⟨2,none,_,_,_⟩,⟨2,none,_,_,_⟩,⟨0,none,_,_,_⟩])) (.br [⟨1,none,_,_,_⟩] (.fin [⟨2,none,_,_,_⟩,⟨1,none,_,_,_⟩,⟨2,none,_,_,_⟩,⟨2,none,_,_,_⟩,⟨0,none,_,_,_⟩]) (.fin [⟨1,none,_,_,_⟩,⟨2,none,_,_,_⟩,⟨2,none,_,_,_⟩,⟨2,none,_,_,_⟩,⟨0,none,_,_,_⟩])))) (.br [⟨1,none,_,_,_⟩] (.fin [⟨2,none,_,_,_⟩,⟨1,none,_,_,_⟩,⟨1,none,_,_,_⟩,⟨2,none,_,_,_⟩,⟨2,none,_,_,_⟩,⟨0,none,_,_,_⟩]) (.br [⟨1,none,_,_,_⟩] (.fin [⟨2,none,_,_,_⟩,⟨1,none,_,_,_⟩,⟨2,none,_,_,_⟩,⟨2,none,_,_,_⟩,⟨0,none,_,_,_⟩]) (.fin [⟨1,none,_,_,_⟩,⟨2,none,_,_,_⟩,⟨2,none,_,_,_⟩,⟨2,none,_,_,_⟩,⟨0,none,_,_,_⟩]))))) (.br [⟨1,none,_,_,_⟩] (.fin [⟨2,none,_,_,_⟩,⟨1,none,_,_,_⟩,⟨1,none,_,_,_⟩,⟨1,none,_,_,_⟩,⟨2,none,_,_,_⟩,⟨2,none,_,_,_⟩,⟨0,none,_,_,_⟩]) (.br [⟨1,none,_,_,_⟩] (.fin [⟨2,none,_,_,_⟩,⟨1,none,_,_,_⟩,⟨1,none,_,_,_⟩,⟨2,none,_,_,_⟩,⟨2,none,_,_,_⟩,⟨0,none,_,_,_⟩]) (.br [⟨1,none,_,_,_⟩] (.fin [⟨2,none,_,_,_⟩,⟨1,none,_,_,_⟩,⟨2,none,_,_,_⟩,⟨2,none,_,_,_⟩,⟨0,none,_,_,_⟩]) (.fin [⟨1,none,_,_,_⟩,⟨2,none,_,_,_⟩,⟨2,none,_,_,_⟩,⟨2,none,_,_,_⟩,⟨0,none,_,_,_⟩])))))) (.br [] (.br [⟨1,none,_,_,_⟩] (.br [⟨1,none,_,_,_⟩] (.br [⟨2,none,_,_,_⟩] (.br [⟨1,none,_,_,_⟩] (.br [⟨1,none,_,_,_⟩] (.fin [⟨2,none,_,_,_⟩,⟨1,none,_,_,_⟩,⟨2,none,_,_,_⟩,⟨0,none,_,_,_⟩]) (.fin [⟨1,none,_,_,_⟩,⟨2,none,_,_,_⟩,⟨2,none,_,_,_⟩,⟨0,none,_,_,_⟩])) (.fin [⟨1,none,_,_,_⟩,⟨1,none,_,_,_⟩,⟨2,none,_,_,_⟩,⟨2,none,_,_,_⟩,⟨0,none,_,_,_⟩])) (.fin [⟨1,none,_,_,_⟩,⟨1,none,_,_,_⟩,⟨1,none,_,_,_⟩,⟨2,none,_,_,_⟩,⟨2,none,_,_,_⟩,⟨0,none,_,_,_⟩])) (.br [] (.br [⟨1,none,_,_,_⟩] (.br [⟨2,none,_,_,_⟩] (.br [⟨1,none,_,_,_⟩] (.fin [⟨2,none,_,_,_⟩,⟨1,none,_,_,_⟩,⟨2,none,_,_,_⟩,⟨0,none,_,_,_⟩]) (.fin [⟨1,none,_,_,_⟩,⟨2,none,_,_,_⟩,⟨2,none,_,_,_⟩,⟨0,none,_,_,_⟩])) (.fin [⟨1,none,_,_,_⟩,⟨1,none,_,_,_⟩,⟨2,none,_,_,_⟩,⟨2,none,_,_,_⟩,⟨0,none,_,_,_⟩])) (.br [] (.br [⟨1,none,_,_,_⟩] (.br [⟨2,none,_,_,_⟩] (.fin [⟨2,none,_,_,_⟩,⟨1,none,_,_,_⟩,⟨2,none,_,_,_⟩,⟨0,none,_,_,_⟩]) (.fin [⟨1,none,_,_,_⟩,⟨2,none,_,_,_⟩,⟨2,none,_,_,_⟩,⟨0,none,_,_,_⟩])) (.fin [⟨1,none,_,_,_⟩,⟨2,none,_,_,_⟩,⟨2,none,_,_,_⟩,⟨2,none,_,_,_⟩,⟨0,none,_,_,_⟩])) (.br [⟨1,none,_,_,_⟩] (.fin [⟨2,none,_,_,_⟩,⟨1,none,_,_,_⟩,⟨2,none,_,_,_⟩,⟨2,none,_,_,_⟩,⟨0,none,_,_,_⟩]) (.fin [⟨1,none,_,_,_⟩,⟨2,none,_,_,_⟩,⟨2,none,_,_,_⟩,⟨2,none,_,_,_⟩,⟨0,none,_,_,_⟩])))) (.br [⟨1,none,_,_,_⟩] (.fin [⟨2,none,_,_,_⟩,⟨1,none,_,_,_⟩,⟨1,none,_,_,_⟩,⟨2,none,_,_,_⟩,⟨2,none,_,_,_⟩,⟨0,none,_,_,_⟩]) (.br [⟨1,none,_,_,_⟩] (.fin [⟨2,none,_,_,_⟩,⟨1,none,_,_,_⟩,⟨2,none,_,_,_⟩,⟨2,none,_,_,_⟩,⟨0,none,_,_,_⟩]) (.fin [⟨1,none,_,_,_⟩,⟨2,none,_,_,_⟩,⟨2,none,_,_,_⟩,⟨2,none,_,_,_⟩,⟨0,none,_,_,_⟩]))))) (.br [] (.br [⟨1,none,_,_,_⟩] (.br [⟨1,none,_,_,_⟩] (.br [⟨2,none,_,_,_⟩] (.br [⟨1,none,_,_,_⟩] (.fin [⟨2,none,_,_,_⟩,⟨1,none,_,_,_⟩,⟨2,none,_,_,_⟩,⟨0,none,_,_,_⟩]) (.fin [⟨1,none,_,_,_⟩,⟨2,none,_,_,_⟩,⟨2,none,_,_,_⟩,⟨0,none,_,_,_⟩])) (.fin [⟨1,none,_,_,_⟩,⟨1,none,_,_,_⟩,⟨2,none,_,_,_⟩,⟨2,none,_,_,_⟩,⟨0,none,_,_,_⟩])) (.br [] (.br [⟨1,none,_,_,_⟩] (.br [⟨2,none,_,_,_⟩] (.fin [⟨2,none,_,_,_⟩,⟨1,none,_,_,_⟩,⟨2,none,_,_,_⟩,⟨0,none,_,_,_⟩]) (.fin [⟨1,none,_,_,_⟩,⟨2,none,_,_,_⟩,⟨2,none,_,_,_⟩,⟨0,none,_,_,_⟩])) (.fin [⟨1,none,_,_,_⟩,⟨2,none,_,_,_⟩,⟨2,none,_,_,_⟩,⟨2,none,_,_,_⟩,⟨0,none,_,_,_⟩])) (.br [⟨1,none,_,_,_⟩] (.fin [⟨2,none,_,_,_⟩,⟨1,none,_,_,_⟩,⟨2,none,_,_,_⟩,⟨2,none,_,_,_⟩,⟨0,none,_,_,_⟩]) (.fin [⟨1,none,_,_,_⟩,⟨2,none,_,_,_⟩,⟨2,none,_,_,_⟩,⟨2,none,_,_,_⟩,⟨0,none,_,_,_⟩])))) (.br [] (.br [⟨1,none,_,_,_⟩] (.br [⟨1,none,_,_,_⟩] (.br [⟨2,none,_,_,_⟩] (.fin [⟨2,none,_,_,_⟩,⟨1,none,_,_,_⟩,⟨2,none,_,_,_⟩,⟨0,none,_,_,_⟩]) (.fin [⟨1,none,_,_,_⟩,⟨2,none,_,_,_⟩,⟨2,none,_,_,_⟩,⟨0,none,_,_,_⟩])) (.fin [⟨1,none,_,_,_⟩,⟨2,none,_,_,_⟩,⟨2,none,_,_,_⟩,⟨2,none,_,_,_⟩,⟨0,none,_,_,_⟩])) (.fin [⟨1,none,_,_,_⟩,⟨1,none,_,_,_⟩,⟨2,none,_,_,_⟩,⟨2,none,_,_,_⟩,⟨2,none,_,_,_⟩,⟨0,none,_,_,_⟩])) (.br [⟨1,none,_,_,_⟩] (.br [⟨1,none,_,_,_⟩] (.fin [⟨2,none,_,_,_⟩,⟨1,none,_,_,_⟩,⟨2,none,_,_,_⟩,⟨2,none,_,_,_⟩,⟨0,none,_,_,_⟩]) (.fin [⟨1,none,_,_,_⟩,⟨2,none,_,_,_⟩,⟨2,none,_,_,_⟩,⟨2,none,_,_,_⟩,⟨0,none,_,_,_⟩])) (.fin [⟨1,none,_,_,_⟩,⟨1,none,_,_,_⟩,⟨2,none,_,_,_⟩,⟨2,none,_,_,_⟩,⟨2,none,_,_,_⟩,⟨0,none,_,_,_⟩])))) (.br [⟨1,none,_,_,_⟩] (.br [⟨1,none,_,_,_⟩] (.fin [⟨2,none,_,_,_⟩,⟨1,none,_,_,_⟩,⟨1,none,_,_,_⟩,⟨2,none,_,_,_⟩,⟨2,none,_,_,_⟩,⟨0,none,_,_,_⟩]) (.br [⟨1,none,_,_,_⟩] (.fin [⟨2,none,_,_,_⟩,⟨1,none,_,_,_⟩,⟨2,none,_,_,_⟩,⟨2,none,_,_,_⟩,⟨0,none,_,_,_⟩]) (.fin [⟨1,none,_,_,_⟩,⟨2,none,_,_,_⟩,⟨2,none,_,_,_⟩,⟨2,none,_,_,_⟩,⟨0,none,_,_,_⟩]))) (.br [⟨1,none,_,_,_⟩] (.br [⟨1,none,_,_,_⟩] (.fin [⟨2,none,_,_,_⟩,⟨1,none,_,_,_⟩,⟨2,none,_,_,_⟩,⟨2,none,_,_,_⟩,⟨0,none,_,_,_⟩]) (.fin [⟨1,none,_,_,_⟩,⟨2,none,_,_,_⟩,⟨2,none,_,_,_⟩,⟨2,none,_,_,_⟩,⟨0,none,_,_,_⟩])) (.fin [⟨1,none,_,_,_⟩,⟨1,none,_,_,_⟩,⟨2,none,_,_,_⟩,⟨2,none,_,_,_⟩,⟨2,none,_,_,_⟩,⟨0,none,_,_,_⟩]))))) (.br [⟨1,none,_,_,_⟩] (.br [⟨1,none,_,_,_⟩] (.fin [⟨2,none,_,_,_⟩,⟨1,none,_,_,_⟩,⟨1,none,_,_,_⟩,⟨1,none,_,_,_⟩,⟨2,none,_,_,_⟩,⟨2,none,_,_,_⟩,⟨0,none,_,_,_⟩]) (.br [⟨1,none,_,_,_⟩] (.fin [⟨2,none,_,_,_⟩,⟨1,none,_,_,_⟩,⟨1,none,_,_,_⟩,⟨2,none,_,_,_⟩,⟨2,none,_,_,_⟩,⟨0,none,_,_,_⟩]) (.br [⟨1,none,_,_,_⟩] (.fin [⟨2,none,_,_,_⟩,⟨1,none,_,_,_⟩,⟨2,none,_,_,_⟩,⟨2,none,_,_,_⟩,⟨0,none,_,_,_⟩]) (.fin [⟨1,none,_,_,_⟩,⟨2,none,_,_,_⟩,⟨2,none,_,_,_⟩,⟨2,none,_,_,_⟩,⟨0,none,_,_,_⟩])))) (.br [⟨1,none,_,_,_⟩] (.br [⟨1,none,_,_,_⟩] (.fin [⟨2,none,_,_,_⟩,⟨1,none,_,_,_⟩,⟨1,none,_,_,_⟩,⟨2,none,_,_,_⟩,⟨2,none,_,_,_⟩,⟨0,none,_,_,_⟩]) (.br [⟨1,none,_,_,_⟩] (.fin [⟨2,none,_,_,_⟩,⟨1,none,_,_,_⟩,⟨2,none,_,_,_⟩,⟨2,none,_,_,_⟩,⟨0,none,_,_,_⟩]) (.fin [⟨1,none,_,_,_⟩,⟨2,none,_,_,_⟩,⟨2,none,_,_,_⟩,⟨2,none,_,_,_⟩,⟨0,none,_,_,_⟩]))) (.br [⟨1,none,_,_,_⟩] (.br [⟨1,none,_,_,_⟩] (.fin [⟨2,none,_,_,_⟩,⟨1,none,_,_,_⟩,⟨2,none,_,_,_⟩,⟨2,none,_,_,_⟩,⟨0,none,_,_,_⟩]) (.fin [⟨1,none,_,_,_⟩,⟨2,none,_,_,_⟩,⟨2,none,_,_,_⟩,⟨2,none,_,_,_⟩,⟨0,none,_,_,_⟩])) (.fin [⟨1,none,_,_,_⟩,⟨1,none,_,_,_⟩,⟨2,none,_,_,_⟩,⟨2,none,_,_,_⟩,⟨2,none,_,_,_⟩,⟨0,none,_,_,_⟩]))))))) rfl ?_)
              |(refine gReg (i := 4) ?_;refine C_plain [(0,0),(1,0),(2,0)] (by kernel_rfl) (s := [⟨0,none,_,_,_⟩,⟨0,none,_,_,_⟩,⟨0,none,_,_,_⟩]) rfl ?_)))
          |(refine T_fin ?_)
          |(refine T_br ?_)))
      |(refine gE ?_;(first
          |(refine E_then ?_)
          |(refine E_block ?_)
          |(refine E_calm ?_)
          |(refine E_both ?_ ?_)
          | (refine E_K ?_))))
    all_goals (
      rw [mix_row]
      refine E_round (α := Nat × Value × List MFragPacket × Int) (i + 1, sv, mixL ol yi.toNat (ix tl i), q + 1) ⟨by dsimp only; omega, by dsimp only; rw [mix_len]; omega, fun y => ?_, by dsimp only; omega⟩ (by dsimp only; omega) ⟨rfl, rfl, rfl, rfl, rfl, trivial⟩ ?_
      · dsimp only
        rw [mix_mem, h3, take_snoc hx1, List.mem_append, List.mem_singleton]
      · (repeat (first | exact List.nil_sublist _ | exact List.Sublist.refl _ | (refine List.Sublist.cons_cons _ ?_) | (refine List.Sublist.cons _ ?_))))
  have hie : i = tl.length := by omega
  rw [hie, List.take_length] at h3
  repeat' (first
    |(refine gS ?_;(first
        |(refine S_move rfl rfl ?_)
        |(refine S_assign rfl rfl ?_)
        |(refine gCall ?_;(first
            |(show GoS _ _ _ _ _ _ _ (⟨_,_,_,.call ⟨.value (.func 48),_,_⟩,_⟩ :: _);apply S_callB (f := 48) (b := kr) (hp := T.pf48) (hv := rfl) (hd := rfl);(case hpick => ((repeat (first|exact Pick.here|exact Pick.last|apply Pick.there|apply Pick.over));done));(case hc => exact pick_c kr v lc _ _ hc (by omega));(case hnb => (intro _ _;exact ⟨_,List.Mem.head _,rfl⟩));(case hk => (first|exact okst2|exact okst1|exact okst1'));intro zz hzz;simp only [List.cons_append,List.nil_append];revert hzz;revert zz;intro n5 hn4;obtain ⟨n4,rfl⟩ : ∃ n : Nat,n5 = (n : Int) := ⟨n5.toNat,by omega⟩)))
        |(refine S_done ?_)))
    |((first
        |(refine gReg ?_;(first
            |(refine gReg (i := 7) ?_;refine C_plain [(0,0),(1,2),(2,0)] (by kernel_rfl) (s := [⟨0,none,_,_,_⟩,⟨2,none,_,_,_⟩,⟨0,none,_,_,_⟩]) rfl ?_)))
        |(refine C_block ?_)))
    |(refine gE ?_;(first
        |(refine E_then ?_))))
  clear hol
  refine C_loop (α := Nat × Value × List MFragPacket × Int) (fun s => [(8, .int .i64 (s.1 : Int)), (5, s.2.1), (4, .slice none 0 0), (0, .pointer (some ⟨kr, 0, none⟩))]) (fun s => .blk kr 108 (rdr v s.2.2.2) :: .row s.2.1 24 9 s.2.2.1.length (s.2.2.1.flatMap clFragPacket) :: .row tv 24 9 tl.length (tl.flatMap clFragPacket) :: .many base :: R) (fun s => s.1 ≤ 3 ∧ (∀ y, y ∈ s.2.2.1 ↔ y ∈ tl) ∧ tl.length ≤ s.2.2.1.length ∧ s.2.2.1.length + s.1 ≤ tl.length + 3 ∧ p ≤ s.2.2.2 ∧ s.2.2.2 + (s.1 : Int) ≤ p + 1004) (fun s => s.1) (n4, sv, ol, q + 1) ⟨by dsimp only; omega, h3, by dsimp only; omega, by dsimp only; omega, by dsimp only; omega, by dsimp only; omega⟩ ⟨rfl, rfl, rfl, rfl, trivial⟩ (List.Sublist.refl _) ?_
  clear h1 h2 h3 h4 hn4 hie
  rintro ⟨n, sv, ol, q⟩ ⟨h1, h2, h3, h4, h5, h6⟩
  dsimp only at h1 h2 h3 h4 h5 h6 ⊢
  have hol : ∀ y ∈ ol, (clFragPacket y).all (·.oneCell') = true := fun y hy => hone0 y ((h2 y).1 hy)
  repeat' (first
    |(refine gS ?_;(first
        |(refine gGuard ?_;(first
            |(refine S_on rfl ?_)
            |(refine S_off rfl rfl rfl ?_)
            |(refine S_gsplit rfl ?_ ?_ <;> (intro hb;(try simp only [decide_eq_true_eq] at hb);(try simp only [decide_eq_false_iff_not] at hb);(try simp only [Bool.not_eq_true'] at hb);(try simp only [Bool.not_eq_false'] at hb);(try (exfalso;first|contradiction|omega))))))
        |(refine S_move rfl rfl ?_)
        |(refine S_assign rfl rfl ?_)
        |(apply F_idxZ rfl rfl rfl;exact T.sl27;(focus omega);(focus (first|(focus (first|exact len_nil|(apply len_given;assumption)|(apply len_row;(focus ((repeat (first|exact mH|refine mT ?_));done)))|(apply len_isN;assumption)))|(apply len_sub;(focus (first|exact len_nil|(apply len_given;assumption)|(apply len_row;(focus ((repeat (first|exact mH|refine mT ?_));done)))|(apply len_isN;assumption)));(focus omega);(focus omega))));(focus omega))
        |(apply F_bs rfl rfl;exact T.el27;rfl;rfl;rfl;rfl;(focus ((repeat (first|exact Dense.nil|(apply Dense.cons;rfl;rfl)));done));intro sv;(try (refine S_fact (row_one (v := sv) (by (focus ((repeat (first|exact mH|refine mT ?_));done)))) (fun hone => ?_))))
        |(refine gLoad ?_;(first
            |(apply F_loadSN rfl rfl;exact T.rw24;(focus (first|exact rd_nil|(apply rd_given;(focus assumption);(focus (first|exact freeG0|exact freeG1)))|(apply rd_row;(focus ((repeat (first|exact mH|refine mT ?_));done));(focus (first|exact freeR0|exact freeR1)))|(apply rd_sub;(focus (apply rd_given;(focus assumption);(focus (first|exact freeG0|exact freeG1))));(focus (intro _;rfl));(focus omega);(focus omega))|(apply rd_sub;(focus (apply rd_row;(focus ((repeat (first|exact mH|refine mT ?_));done));(focus (first|exact freeR0|exact freeR1))));(focus (intro _;rfl));(focus omega);(focus omega))));(focus (first|(focus (apply at_flat;(focus (intro _;rfl));(focus assumption)))|exact at_self));rfl;rfl)))
        |(refine gCall ?_;(first
            |(show GoS _ _ _ _ _ _ _ (⟨_,_,_,.call ⟨.value (.func 48),_,_⟩,_⟩ :: _);apply S_callB (f := 48) (b := kr) (hp := T.pf48) (hv := rfl) (hd := rfl);(case hpick => ((repeat (first|exact Pick.here|exact Pick.last|apply Pick.there|apply Pick.over));done));(case hc => exact pick_c kr v lc _ _ hc (by omega));(case hnb => (intro _ _;exact ⟨_,List.Mem.head _,rfl⟩));(case hk => (first|exact okst2|exact okst1|exact okst1'));intro zz hzz;simp only [List.cons_append,List.nil_append];revert hzz;revert zz;intro yi hyi;have hx1 := nthD (l := ol) (k := yi.toNat) (by have := hyi.2.1 (by omega);omega);have ht3 := hol _ (List.mem_of_getElem? hx1))
            |(apply F_len rfl rfl rfl;(focus exact ⟨_,_,by exact T.sl27⟩);(focus (first|(focus (first|exact len_nil|(apply len_given;assumption)|(apply len_row;(focus ((repeat (first|exact mH|refine mT ?_));done)))|(apply len_isN;assumption)))|(apply len_sub;(focus (first|exact len_nil|(apply len_given;assumption)|(apply len_row;(focus ((repeat (first|exact mH|refine mT ?_));done)))|(apply len_isN;assumption)));(focus omega);(focus omega)))))
            |(apply F_append rfl rfl rfl rfl;exact T.el27;(focus (intro sv;(focus ((repeat (first|exact Upd.here|apply Upd.there));done))));(focus (first|exact rd_nil|(apply rd_given;(focus assumption);(focus (first|exact freeG0|exact freeG1)))|(apply rd_row;(focus ((repeat (first|exact mH|refine mT ?_));done));(focus (first|exact freeR0|exact freeR1)))|(apply rd_sub;(focus (apply rd_given;(focus assumption);(focus (first|exact freeG0|exact freeG1))));(focus (intro _;rfl));(focus omega);(focus omega))|(apply rd_sub;(focus (apply rd_row;(focus ((repeat (first|exact mH|refine mT ?_));done));(focus (first|exact freeR0|exact freeR1))));(focus (intro _;rfl));(focus omega);(focus omega))));(focus (first|rfl|assumption|(apply all_flat;intro _ _;rfl)|(rw [List.append_nil];assumption)|(simp only [List.append_nil,List.all_cons,List.all_nil,Bool.and_true,Bool.true_and,one_int,one_bool,one_string,one_slice,one_pointer, *];done)|simp));(first|exact okst2|exact okst1|exact okst1');(focus (simp only [maxLen];first|omega|(simp only [List.length_take,List.length_drop];omega)));(focus (first|omega|(simp only [List.length_take,List.length_drop];omega)));intro sv;(try (refine S_fact (row_one (v := sv) (by (focus ((repeat (first|exact mH|refine mT ?_));done)))) (fun hone => ?_))))))
        |(refine gBin ?_;(first
            |(refine S_lss rfl rfl rfl ?_)
            |(refine S_gtr rfl rfl rfl ?_)
            |(refine S_sub rfl rfl ?_ rfl ?_;(focus (unfold rng;omega)))))
        |(refine gPick ?_;(first
            |(refine S_pickT rfl rfl rfl ?_)
            |(refine S_pickF rfl rfl rfl ?_)))
        |(refine S_done ?_)))
    |((first
        |(refine C_seq ?_)
        |(refine gReg ?_;(first
            |(refine gReg (i := 8) ?_;refine C_plain [(0,0),(1,0),(2,0),(3,0),(4,0),(5,0),(6,0),(7,0),(8,0),(9,0),(10,0),(11,0)] (by kernel_rfl) (s := [⟨0,none,_,_,_⟩,⟨0,none,_,_,_⟩,⟨0,none,_,_,_⟩,⟨0,some (40,true),_,_,_⟩,⟨0,some (40,true),_,_,_⟩,⟨0,some (40,true),_,_,_⟩,⟨0,none,_,_,_⟩,⟨0,none,_,_,_⟩,⟨0,some (45,true),_,_,_⟩,⟨0,some (45,true),_,_,_⟩,⟨0,some (45,true),_,_,_⟩,⟨0,none,_,_,_⟩]) rfl ?_)
            |(refine gReg (i := 10) ?_;refine C_plain [(0,0),(1,0),(2,0),(3,0),(4,0),(5,2),(6,0),(7,0),(8,2),(9,2),(10,0)] (by kernel_rfl) (s := [⟨0,none,_,_,_⟩,⟨0,none,_,_,_⟩,⟨0,none,_,_,_⟩,⟨0,none,_,_,_⟩,⟨0,none,_,_,_⟩,⟨2,none,_,_,_⟩,⟨0,none,_,_,_⟩,⟨0,none,_,_,_⟩,⟨2,none,_,_,_⟩,⟨2,none,_,_,_⟩,⟨0,none,_,_,_⟩]) rfl ?_)
            |(refine gReg (i := 9) ?_;refine C_plain [(0,0),(1,0),(2,0)] (by kernel_rfl) (s := [⟨0,none,_,_,_⟩,⟨0,none,_,_,_⟩,⟨0,none,_,_,_⟩]) rfl ?_)
            |(refine gReg (i := 11) ?_;refine C_plain [(0,0),(1,0)] (by kernel_rfl) (s := [⟨0,none,_,_,_⟩,⟨0,none,_,_,_⟩]) rfl ?_)))
        |(refine C_false rfl ?_)
        |(refine C_split rfl ?_ ?_ <;> (intro hb;(try simp only [decide_eq_true_eq] at hb);(try simp only [decide_eq_false_iff_not] at hb);(try simp only [Bool.not_eq_true'] at hb);(try simp only [Bool.not_eq_false'] at hb);(try (exfalso;first|contradiction|omega))))
        |(refine C_skip ?_)
        |(refine C_exit ?_)
        |(refine C_ret ?_)
        |(refine C_block ?_)))
    |(refine gE ?_;(first
        |(refine E_then ?_)
        |(refine E_thenX ?_)
        |(refine E_block ?_)
        |(refine E_blockY ?_)
        |(apply E_ret1 rfl;(first|exact Res.tmp rfl|(apply R_cellAll rfl;(focus ((repeat (first|exact mH|refine mT ?_));done));exact T.rw24)|(apply R_cell1 rfl;(focus ((repeat (first|exact mH|refine mT ?_));done));fail))))))
  · have hn : 0 < (n : Int) := by assumption
    rw [show (n : Int) - 1 = ((n - 1 : Nat) : Int) by omega, push_row]
    refine E_round (α := Nat × Value × List MFragPacket × Int) (n - 1, sv, ol ++ [ix ol yi.toNat], q + 1) ⟨by dsimp only; omega, fun y => ?_, by dsimp only; rw [List.length_append]; omega, by dsimp only; rw [List.length_append, List.length_singleton]; omega, by dsimp only; omega, by dsimp only; omega⟩ (by dsimp only; omega) ⟨rfl, rfl, rfl, rfl, trivial⟩ ?_
    · dsimp only
      rw [List.mem_append, List.mem_singleton, ← h2]
      exact ⟨fun h => by rcases h with h | h; exact h; rw [h]; exact List.mem_of_getElem? hx1, fun h => .inl h⟩
    · (repeat (first | exact List.nil_sublist _ | exact List.Sublist.refl _ | (refine List.Sublist.cons_cons _ ?_) | (refine List.Sublist.cons _ ?_)))
  all_goals exact retS ((sv,ol),q) ⟨h2,h3,by dsimp only;omega,h5,by dsimp only;omega⟩ rfl entA
end Go.Proofs.Ytodhjpnfokkfeaa

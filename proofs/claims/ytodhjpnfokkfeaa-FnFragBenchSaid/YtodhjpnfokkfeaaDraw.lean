/- The reader of codes: opened, and numbers picked. -/
import Derived.Test.YtodhjpnfokkfeaaBas
import Derived.Test.YtodhjpnfokkfeaaSymf
set_option linter.unusedSimpArgs false
set_option linter.unusedVariables false
namespace Go.Proofs.Ytodhjpnfokkfeaa
open Go Go.RowKit
attribute [local irreducible] Calls GoS GoC GoE GoT IsFl IsSc IsRw IsSl IsEl IsSt IsFs sp Mem Rd LenOf szR
/-- a reader's cells -/
def rdr (v : Value) (p : Int) : List Value := [v, .int .i64 p]
def clB (y : Int) : List Value := [.int .u8 y]
/-- what a reader reads -/
structure Code (w : World) (v : Value) (l : List Int) : Prop where
  mem : Mem w v 1 l.length (l.flatMap fun y : Int => ([.int .u8 y] : List Value))
  len : l.length ≤ 2000
  byte : ∀ y ∈ l, 0 ≤ y ∧ y ≤ 255
theorem ix_byte {l : List Int} (h : ∀ y ∈ l, 0 ≤ y ∧ y ≤ 255) {k : Nat} (hk : k < l.length) : 0 ≤ ix l k ∧ ix l k ≤ 255 := h _ (ix_mem hk)
theorem pick_c {w0 : World} (kb : Nat) (v : Value) (l : List Int) (p q : Int) (hc : Code w0 v l) (hp : 0 ≤ p ∧ p ≤ 1099511627776) (R : List Blk) (w : World) (hs : St w0 w ([.blk kb 108 (rdr v p)] ++ R)) : Calls Try.prog 48 #[.pointer (some ⟨kb, 0, none⟩), .int .i64 q] w
    (RetS w0 R (fun z : Int => 0 ≤ z ∧ (1 ≤ q → z < q) ∧ (q < 1 → z = 0)) (fun z => .int .i64 z) (fun _ => [.blk kb 108 (rdr v (p + 1))])) := by
  obtain ⟨hm, hlen, hby⟩ := hc
  have hs' : St w0 w (.blk kb 108 (rdr v p) :: R) := hs
  have hpos : ¬ ((l.length : Int) = 0) → 0 < (l.length : Int) := fun h => by omega
  have m1 : ¬ ((l.length : Int) = 0) → 0 ≤ (p + 1 - 1) % (l.length : Int) ∧ (p + 1 - 1) % (l.length : Int) < (l.length : Int) := fun h => ⟨Int.emod_nonneg _ h, Int.emod_lt_of_pos _ (hpos h)⟩
  have m2 : ¬ ((l.length : Int) = 0) → 0 ≤ ((p + 1 - 1) * 7 + 3) % (l.length : Int) ∧ ((p + 1 - 1) * 7 + 3) % (l.length : Int) < (l.length : Int) := fun h => ⟨Int.emod_nonneg _ h, Int.emod_lt_of_pos _ (hpos h)⟩
  have m3 : ¬ ((l.length : Int) = 0) → 0 ≤ (p + 1 - 1) / (l.length : Int) ∧ (p + 1 - 1) / (l.length : Int) ≤ p := fun h => ⟨Int.ediv_nonneg (by omega) (by omega), Int.le_trans (Int.ediv_le_self _ (by omega)) (by omega)⟩
  have at_ : ∀ k : Int, 0 ≤ k → k < (l.length : Int) → l[k.toNat]? = some (ix l k.toNat) ∧ 0 ≤ ix l k.toNat ∧ ix l k.toNat ≤ 255 := fun k h0 h1 => ⟨nthD (by omega), ix_byte hby (by omega)⟩
  have n1 : ¬ ((l.length : Int) = 0) → _ := fun h => (at_ _ (m1 h).1 (m1 h).2).1
  have n1' : ¬ ((l.length : Int) = 0) → _ := fun h => (at_ _ (m1 h).1 (m1 h).2).2
  have n2 : ¬ ((l.length : Int) = 0) → _ := fun h => (at_ _ (m2 h).1 (m2 h).2).1
  have n2' : ¬ ((l.length : Int) = 0) → _ := fun h => (at_ _ (m2 h).1 (m2 h).2).2
  have n3 : p + 1 - 1 < (l.length : Int) → _ := fun h => (at_ (p + 1 - 1) (by omega) h).1
  have n3' : p + 1 - 1 < (l.length : Int) → _ := fun h => (at_ (p + 1 - 1) (by omega) h).2
  refine enterS (n := 99) (E := [(0, _), (1, _)]) Try.func48 rfl rfl rfl rfl hs' ?_
  repeat' (first
    |(refine gS ?_;(first
        |(refine gGuard ?_;(first
            |(refine S_on rfl ?_)
            |(refine S_off rfl rfl rfl ?_)
            |(refine S_gsplit rfl ?_ ?_ <;> (intro hb;(try simp only [decide_eq_true_eq] at hb);(try simp only [decide_eq_false_iff_not] at hb);(try simp only [Bool.not_eq_true'] at hb);(try simp only [Bool.not_eq_false'] at hb);(try (exfalso;first|contradiction|omega));(try (have hm1 := m1 hb));(try (have hm2 := m2 hb));(try (have hm3 := m3 hb));(try (have hn1 := n1 hb));(try (have hn1' := n1' hb));(try (have hn2 := n2 hb));(try (have hn2' := n2' hb));(try (have hn3 := n3 hb));(try (have hn3' := n3' hb))))))
        |(refine S_move rfl rfl ?_)
        |(refine S_assign rfl rfl ?_)
        |(apply F_field rfl rfl;(first|exact T.fl108_0|exact T.fl108_1))
        |(apply F_idxZ rfl rfl rfl;exact T.sl22;(focus omega);(focus (first|exact len_nil|(apply len_given;assumption)|(apply len_row;(focus ((repeat (first|exact mH|refine mT ?_));done)))|(apply len_isN;assumption)));(focus omega))
        |(refine gLoad ?_;(first
            |(apply F_load1 rfl rfl;(focus ((repeat (first|exact mH|refine mT ?_));done));(first|exact T.sc3|exact T.sc5|exact T.sc22);rfl;(focus (first|exact free0|exact free1)))
            |(apply F_loadS1 rfl rfl;(first|exact T.sc3|exact T.sc5|exact T.sc22);(focus (first|exact rd_nil|(apply rd_given;(focus assumption);(focus (first|exact freeG0|exact freeG1)))|(apply rd_row;(focus ((repeat (first|exact mH|refine mT ?_));done));(focus (first|exact freeR0|exact freeR1)))));(focus (first|(apply at_cell;(focus (apply at_flat;(focus (intro _;rfl));(focus assumption)));rfl)|(apply at_cell0;(focus (apply at_flat;(focus (intro _;rfl));(focus assumption)));rfl)|(apply at_cell;(focus (apply at_mid0;(focus assumption)));rfl)|(apply at_cell0;(focus (apply at_mid0;(focus assumption)));rfl)|rfl)))))
        |(refine gStore ?_;(first
            |(apply F_store1 rfl rfl;(focus (first|rfl|assumption));(first|exact T.sc3|exact T.sc5|exact T.sc22);(focus ((repeat (first|exact Upd.here|apply Upd.there));done));(focus ((repeat (first|exact SetSeg.nil|apply SetSeg.here|apply SetSeg.there));done));(first|exact okst2|exact okst1|exact okst1'))))
        |(refine gCall ?_;(first
            |(apply F_len rfl rfl rfl;(focus exact ⟨_,_,by exact T.sl22⟩);(focus (first|exact len_nil|(apply len_given;assumption)|(apply len_row;(focus ((repeat (first|exact mH|refine mT ?_));done)))|(apply len_isN;assumption))))))
        |(refine gBin ?_;(first
            |(refine S_lss rfl rfl rfl ?_)
            |(refine S_eql rfl rfl rfl ?_)
            |(refine S_add rfl rfl ?_ rfl ?_;(focus (unfold rng;omega)))
            |(refine S_sub rfl rfl ?_ rfl ?_;(focus (unfold rng;omega)))
            |(refine S_mul rfl rfl ?_ rfl ?_;(focus (unfold rng;omega)))
            |(refine S_rem rfl rfl ?_ ?_ rfl ?_;(focus omega);(focus omega))
            |(refine S_quo rfl rfl ?_ ?_ ?_ rfl ?_;(focus omega);(focus omega);(focus (unfold rng;omega)))
            |(refine S_xor rfl rfl rfl ?_ ?_ ?_;(focus omega);(focus omega);(intro zx hzx))))
        |(refine gPick ?_;(first
            |(refine S_pickT rfl rfl rfl ?_)
            |(refine S_pickF rfl rfl rfl ?_)))
        |(refine S_convW rfl rfl Try.underlying5 Try.underlying3 ?_ ?_;(focus (unfold rng;omega)))
        |(refine S_nilCheck rfl rfl ?_)
        |(refine S_done ?_)))
    |(refine gC ?_;(first
        |(refine C_seq ?_)
        |(refine gReg ?_;(first
            |(refine gReg (i := 0) ?_;refine C_plain [(0,0)] (by kernel_rfl) (s := [⟨0,none,_,_,_⟩]) rfl ?_)
            |(refine gReg (i := 1) ?_;refine C_plain [(0,0),(1,0),(2,0),(3,0),(4,0),(5,0),(6,0),(7,0),(8,2)] (by kernel_rfl) (s := [⟨0,none,_,_,_⟩,⟨0,none,_,_,_⟩,⟨0,none,_,_,_⟩,⟨0,none,_,_,_⟩,⟨0,none,_,_,_⟩,⟨0,none,_,_,_⟩,⟨0,none,_,_,_⟩,⟨0,none,_,_,_⟩,⟨2,none,_,_,_⟩]) rfl ?_)
            |(refine gReg (i := 2) ?_;refine C_plain [(0,0),(1,0),(2,0),(3,0),(4,0),(5,0),(6,0),(7,0),(8,0),(9,0)] (by kernel_rfl) (s := [⟨0,none,_,_,_⟩,⟨0,none,_,_,_⟩,⟨0,none,_,_,_⟩,⟨0,some (17,false),_,_,_⟩,⟨0,some (17,false),_,_,_⟩,⟨0,some (17,false),_,_,_⟩,⟨0,some (17,false),_,_,_⟩,⟨0,some (17,false),_,_,_⟩,⟨0,some (17,false),_,_,_⟩,⟨0,none,_,_,_⟩]) rfl ?_)
            |(refine gReg (i := 3) ?_;refine C_plain [(0,0)] (by kernel_rfl) (s := [⟨0,none,_,_,_⟩]) rfl ?_)
            |(refine gReg (i := 4) ?_;refine C_plain [(0,0),(1,0),(2,0),(3,0),(4,0),(5,0)] (by kernel_rfl) (s := [⟨0,none,_,_,_⟩,⟨0,none,_,_,_⟩,⟨0,none,_,_,_⟩,⟨0,none,_,_,_⟩,⟨0,none,_,_,_⟩,⟨0,none,_,_,_⟩]) rfl ?_)
            |(refine gReg (i := 5) ?_;refine C_plain [(0,0),(1,0),(2,0),(3,0),(4,0),(5,0),(6,0)] (by kernel_rfl) (s := [⟨0,none,_,_,_⟩,⟨0,none,_,_,_⟩,⟨0,none,_,_,_⟩,⟨0,none,_,_,_⟩,⟨0,none,_,_,_⟩,⟨0,none,_,_,_⟩,⟨0,none,_,_,_⟩]) rfl ?_)
            |(refine gReg (i := 6) ?_;refine C_plain [(0,0),(1,0),(2,0),(3,0),(4,0),(5,0),(6,0),(7,0),(8,0),(9,0),(10,0)] (by kernel_rfl) (s := [⟨0,none,_,_,_⟩,⟨0,none,_,_,_⟩,⟨0,none,_,_,_⟩,⟨0,none,_,_,_⟩,⟨0,none,_,_,_⟩,⟨0,none,_,_,_⟩,⟨0,none,_,_,_⟩,⟨0,none,_,_,_⟩,⟨0,none,_,_,_⟩,⟨0,none,_,_,_⟩,⟨0,none,_,_,_⟩]) rfl ?_)
            |(refine gReg (i := 7) ?_;apply C_drawn [(0,0),(1,0),(2,0),(3,0),(4,0),(5,0),(6,0),(7,0),(8,0),(9,0),(10,0),(11,0),(12,0),(13,0),(14,0),(15,0),(16,0),(17,0),(18,0),(19,0),(20,0),(21,0),(22,0),(23,0),(24,0),(25,0),(26,0),(27,0),(28,0),(29,0),(30,0),(31,0),(32,0),(33,0),(34,0),(35,0),(36,0),(37,0),(38,0),(39,0),(40,0),(41,0),(42,0),(43,0),(44,0),(45,0)] [] T.mixed (by kernel_rfl);(focus (simp only [mkS,gSlot,List.getElem?_cons_zero,List.getElem?_cons_succ];rfl)))
            |(refine gReg (i := 8) ?_;refine C_plain [(0,0),(1,0),(2,0),(3,0),(4,0)] (by kernel_rfl) (s := [⟨0,none,_,_,_⟩,⟨0,none,_,_,_⟩,⟨0,none,_,_,_⟩,⟨0,none,_,_,_⟩,⟨0,none,_,_,_⟩]) rfl ?_)
            |(refine gReg (i := 9) ?_;refine C_plain [(0,0),(1,0),(2,0),(3,0)] (by kernel_rfl) (s := [⟨0,none,_,_,_⟩,⟨0,none,_,_,_⟩,⟨0,none,_,_,_⟩,⟨0,none,_,_,_⟩]) rfl ?_)))
        |(refine C_true rfl ?_)
        |(refine C_split rfl ?_ ?_ <;> (intro hb;(try simp only [decide_eq_true_eq] at hb);(try simp only [decide_eq_false_iff_not] at hb);(try simp only [Bool.not_eq_true'] at hb);(try simp only [Bool.not_eq_false'] at hb);(try (exfalso;first|contradiction|omega));(try (have hm1 := m1 hb));(try (have hm2 := m2 hb));(try (have hm3 := m3 hb));(try (have hn1 := n1 hb));(try (have hn1' := n1' hb));(try (have hn2 := n2 hb));(try (have hn2' := n2' hb));(try (have hn3 := n3 hb));(try (have hn3' := n3' hb))))
        |(refine C_skip ?_)
        |(refine C_ret ?_)))
    |(refine gE ?_;(first
        |(refine E_then ?_)
        |(refine E_thenR ?_)
        |(refine E_calm ?_)
        |(apply E_ret1 rfl;(first|exact Res.tmp rfl|(apply R_cellAll rfl;(focus ((repeat (first|exact mH|refine mT ?_));done));fail)|(apply R_cell1 rfl;(focus ((repeat (first|exact mH|refine mT ?_));done));(first|exact T.sc3|exact T.sc5|exact T.sc22)))))))
  · exact retS 0 ⟨by omega, by omega, by omega⟩ rfl (by exact Ent.refl)
  · exact retS 0 ⟨by omega, by omega, by omega⟩ rfl (by exact Ent.refl)
  · have hq : 0 < q := by omega
    exact retS _ ⟨Int.emod_nonneg _ (by omega), fun _ => Int.emod_lt_of_pos _ hq, fun h => absurd h (by omega)⟩ rfl (by exact Ent.refl)
  · have hq : 0 < q := by omega
    exact retS _ ⟨Int.emod_nonneg _ (by omega), fun _ => Int.emod_lt_of_pos _ hq, fun h => absurd h (by omega)⟩ rfl (by exact Ent.refl)
theorem open_c {w0 : World} (v : Value) (l : List Int) (hm0 : Mem w0 v 1 l.length (l.flatMap fun y : Int => ([.int .u8 y] : List Value))) (hby : ∀ y ∈ l, 0 ≤ y ∧ y ≤ 255) (w : World) (hext : Ext w0 w) : Calls Try.prog 46 #[v] w
    (RetX (fun y : Nat × Value × List Int => Code w0 y.2.1 y.2.2) (fun y => .pointer (some ⟨y.1, 0, none⟩)) (fun y => [.blk y.1 108 (rdr y.2.1 0)]) w) := by
  have hm := hm0.ext hext
  have hlen := hm.len
  simp only [maxLen] at hlen
  have hone := hm.one
  have hone2 : 2000 < (l.length : Int) → (subV v 1 0 (2000 : Int).toNat).oneCell' = true := fun h => hm.one_sub (by omega) (by omega)
  refine enter (n := 11) (E := [(0, _)]) Try.func46 rfl rfl rfl rfl ?_
  repeat' (first
    |(refine gS ?_;(first
        |(refine S_move rfl rfl ?_)
        |(refine S_assign rfl rfl ?_)
        |(apply F_slice rfl rfl;exact T.sl22;(focus (first|(focus (first|exact len_nil|(apply len_given;assumption)|(apply len_row;(focus ((repeat (first|exact mH|refine mT ?_));done)))|(apply len_isN;assumption)))|(apply len_sub;(focus (first|exact len_nil|(apply len_given;assumption)|(apply len_row;(focus ((repeat (first|exact mH|refine mT ?_));done)))|(apply len_isN;assumption)));(focus omega);(focus omega))));(focus exact rfl);(focus exact ⟨_,_,rfl,by omega,rfl⟩);(focus omega);(focus omega))
        |(refine gCall ?_;(first
            |(apply F_len rfl rfl rfl;(focus exact ⟨_,_,by exact T.sl22⟩);(focus (first|(focus (first|exact len_nil|(apply len_given;assumption)|(apply len_row;(focus ((repeat (first|exact mH|refine mT ?_));done)))|(apply len_isN;assumption)))|(apply len_sub;(focus (first|exact len_nil|(apply len_given;assumption)|(apply len_row;(focus ((repeat (first|exact mH|refine mT ?_));done)))|(apply len_isN;assumption)));(focus omega);(focus omega)))))))
        |(refine gBin ?_;(first
            |(refine S_gtr rfl rfl rfl ?_)))
        |(refine S_box rfl rfl rfl ?_;intro kb)
        |(apply F_build2 rfl (hd := rfl);exact T.st108;(focus ((repeat (first|exact BuildR.nil|(apply BuildR.cons;(first|exact T.fs108_0|exact T.fs108_1);rfl;rfl;(focus ((repeat (first|exact SetSeg.nil|apply SetSeg.here|apply SetSeg.there));done)))|(apply BuildR.cons1;(first|exact T.fs108_0|exact T.fs108_1);(focus assumption);(focus ((repeat (first|exact SetSeg.nil|apply SetSeg.here|apply SetSeg.there));done)))));done)))
        |(refine S_done ?_)))
    |(refine gC ?_;(first
        |(refine C_seq ?_)
        |(refine gReg ?_;(first
            |(refine gReg (i := 0) ?_;refine C_plain [(0,0)] (by kernel_rfl) (s := [⟨0,none,_,_,_⟩]) rfl ?_)
            |(refine gReg (i := 1) ?_;refine C_plain [(0,0),(1,0),(2,0)] (by kernel_rfl) (s := [⟨0,none,_,_,_⟩,⟨0,none,_,_,_⟩,⟨0,none,_,_,_⟩]) rfl ?_)
            |(refine gReg (i := 2) ?_;refine C_plain [(0,0),(1,0),(2,0)] (by kernel_rfl) (s := [⟨0,none,_,_,_⟩,⟨0,none,_,_,_⟩,⟨0,none,_,_,_⟩]) rfl ?_)
            |(refine gReg (i := 3) ?_;refine C_plain [(0,0),(1,0),(2,2),(3,0)] (by kernel_rfl) (s := [⟨0,none,_,_,_⟩,⟨0,none,_,_,_⟩,⟨2,none,_,_,_⟩,⟨0,none,_,_,_⟩]) rfl ?_)))
        |(refine C_split rfl ?_ ?_ <;> (intro hb;(try simp only [decide_eq_true_eq] at hb);(try simp only [decide_eq_false_iff_not] at hb);(try simp only [Bool.not_eq_true'] at hb);(try simp only [Bool.not_eq_false'] at hb);(try (exfalso;first|contradiction|omega));(try (have hone3 := hone2 hb))))
        |(refine C_skip ?_)
        |(refine C_ret ?_)))
    |(refine gE ?_;(first
        |(refine E_then ?_)
        |(apply E_ret1 rfl;(first|exact Res.tmp rfl|(apply R_cellAll rfl;(focus ((repeat (first|exact mH|refine mT ?_));done));fail)|(apply R_cell1 rfl;(focus ((repeat (first|exact mH|refine mT ?_));done));fail))))))
  · exact retX (kb, _, (l.drop 0).take (2000 - 0)) ⟨hm0.sub (fun _ => rfl) (by omega) (by omega), by rw [List.length_take]; omega, fun y hy => hby y (List.mem_of_mem_drop (List.mem_of_mem_take hy))⟩ rfl (by exact Ent.refl)
  · have hl2 : l.length ≤ 2000 := by omega
    exact retX (kb, v, l) ⟨hm0, hl2, hby⟩ rfl (by exact Ent.refl)
end Go.Proofs.Ytodhjpnfokkfeaa

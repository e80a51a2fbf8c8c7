/- Stores of cells and readers: what they mean; compared, marked. -/
import Derived.Test.YtcjacolkmclloaaMod
import Derived.Test.YtcjacolkmclloaaBas
import Derived.Test.YtcjacolkmclloaaSyme
set_option linter.unusedSimpArgs false
set_option linter.unusedVariables false
namespace Go.Proofs.Ytcjacolkmclloaa
open Go Go.RowKit
attribute [local irreducible] Calls GoS GoC GoE IsFl IsSc IsRw IsSl IsEl IsSt IsFs sp Mem Rd LenOf szR
def rwSFibHop (x : MSFibHop) : List Row := ⟨x.1, 50, 2, x.2.length, x.2.flatMap clFibHop⟩ :: []
def mkFSFibHop (_ : MFibHop) : Nat := 2
def mkSFibHop (c : List MFibHop) : Nat := (c.map mkFSFibHop).sum
theorem mkleSFibHop (c : List MFibHop) : mkSFibHop c ≤ 64 * c.length := mk_le_flat (fun _ => by simp only [mkFSFibHop]; omega) c
def hdFSFibHop (c : MFibHop) (k : Int) : Prop := (c.1 = k) ∧ (c.2 = k + 1)
def hdSFibHop (c : List MFibHop) (k : Int) : Prop := Held hdFSFibHop mkFSFibHop c k
theorem rdsSFibHop {w : World} {x : MSFibHop} (h : okSFibHop w x) : Rds w (rwSFibHop x) := Rds.cons h.1 Rds.nil
abbrev CFibCell := Bool × Int × Int × (List MFibHop)
instance : DecidableEq CFibCell := @instDecidableEqProd _ _ (inferInstance : DecidableEq Bool) (@instDecidableEqProd _ _ (inferInstance : DecidableEq Int) (@instDecidableEqProd _ _ (inferInstance : DecidableEq Int) ((inferInstance : DecidableEq (List MFibHop)))))
def ctFibCell (x : MFibCell) : CFibCell := (x.1, x.2.1, x.2.2.1, x.2.2.2.2)
def rwFibCell (x : MFibCell) : List Row := rwSFibHop (x.2.2.2)
def wtFibCell (c : CFibCell) : Nat := c.2.2.2.length
/-- how much is marked of one that is an argument, and of one that lies in a slice -/
def mkFibCell (c : CFibCell) : Nat := mkSFibHop (c.2.2.2)
def mkEFibCell (c : CFibCell) : Nat := 3 + mkSFibHop (c.2.2.2)
theorem mkleFibCell (c : CFibCell) : mkFibCell c ≤ 64 * wtFibCell c := by have := mkleSFibHop (c.2.2.2); simp only [mkFibCell, wtFibCell]; omega
theorem mkleEFibCell (c : CFibCell) : mkEFibCell c ≤ 64 + 64 * wtFibCell c := by have := mkleSFibHop (c.2.2.2); simp only [mkEFibCell, wtFibCell]; omega
def hdFibCell (c : CFibCell) (k : Int) : Prop := (hdSFibHop (c.2.2.2) (k))
def hdEFibCell (c : CFibCell) (k : Int) : Prop := (c.1 = decide ((k) % 3 = 0)) ∧ (c.2.1 = k + 1) ∧ (c.2.2.1 = k + 2) ∧ (hdSFibHop (c.2.2.2) (k + 3))
theorem rdsFibCell {w : World} {x : MFibCell} (h : okFibCell w x) : Rds w (rwFibCell x) := rdsSFibHop (h.2.2)
theorem oneFibCell {w : World} {x : MFibCell} (hx : Rds w (rwFibCell x)) : (clFibCell x).all (·.oneCell') = true := by
  have hx3 : Rds w (rwSFibHop (x.2.2.2)) := hx
  have q0 := Rds.one1 hx3
  simp_all [clFibCell, Value.oneCell']
def rwSFibCell (x : MSFibCell) : List Row := ⟨x.1, 33, 4, x.2.length, x.2.flatMap clFibCell⟩ :: x.2.flatMap rwFibCell
def wtSFibCell (c : List CFibCell) : Nat := c.length + (c.map wtFibCell).sum
def mkFSFibCell (c : CFibCell) : Nat := mkEFibCell c
def mkSFibCell (c : List CFibCell) : Nat := (c.map mkFSFibCell).sum
theorem mkleSFibCell (c : List CFibCell) : mkSFibCell c ≤ 64 * wtSFibCell c := mk_le_deep mkleEFibCell c
def hdFSFibCell (c : CFibCell) (k : Int) : Prop := hdEFibCell c k
def hdSFibCell (c : List CFibCell) (k : Int) : Prop := Held hdFSFibCell mkFSFibCell c k
theorem rdsSFibCell {w : World} {x : MSFibCell} (h : okSFibCell w x) : Rds w (rwSFibCell x) := Rds.cons h.1 (Rds.flatMap.2 fun a ha => rdsFibCell (h.2 a ha))
def rwSFibOld (x : MSFibOld) : List Row := ⟨x.1, 45, 2, x.2.length, x.2.flatMap clFibOld⟩ :: []
def mkFSFibOld (_ : MFibOld) : Nat := 2
def mkSFibOld (c : List MFibOld) : Nat := (c.map mkFSFibOld).sum
theorem mkleSFibOld (c : List MFibOld) : mkSFibOld c ≤ 64 * c.length := mk_le_flat (fun _ => by simp only [mkFSFibOld]; omega) c
def hdFSFibOld (c : MFibOld) (k : Int) : Prop := (c.1 = k) ∧ (c.2 = k + 1)
def hdSFibOld (c : List MFibOld) (k : Int) : Prop := Held hdFSFibOld mkFSFibOld c k
theorem rdsSFibOld {w : World} {x : MSFibOld} (h : okSFibOld w x) : Rds w (rwSFibOld x) := Rds.cons h.1 Rds.nil
abbrev CFibReader := Bool × Int × Int × Int × Int × Int × (List MFibHop)
instance : DecidableEq CFibReader := @instDecidableEqProd _ _ (inferInstance : DecidableEq Bool) (@instDecidableEqProd _ _ (inferInstance : DecidableEq Int) (@instDecidableEqProd _ _ (inferInstance : DecidableEq Int) (@instDecidableEqProd _ _ (inferInstance : DecidableEq Int) (@instDecidableEqProd _ _ (inferInstance : DecidableEq Int) (@instDecidableEqProd _ _ (inferInstance : DecidableEq Int) ((inferInstance : DecidableEq (List MFibHop))))))))
def ctFibReader (x : MFibReader) : CFibReader := (x.1, x.2.1, x.2.2.1, x.2.2.2.1, x.2.2.2.2.1, x.2.2.2.2.2.1, x.2.2.2.2.2.2.2)
def rwFibReader (x : MFibReader) : List Row := rwSFibHop (x.2.2.2.2.2.2)
def wtFibReader (c : CFibReader) : Nat := c.2.2.2.2.2.2.length
/-- how much is marked of one that is an argument, and of one that lies in a slice -/
def mkFibReader (c : CFibReader) : Nat := mkSFibHop (c.2.2.2.2.2.2)
def mkEFibReader (c : CFibReader) : Nat := 6 + mkSFibHop (c.2.2.2.2.2.2)
theorem mkleFibReader (c : CFibReader) : mkFibReader c ≤ 64 * wtFibReader c := by have := mkleSFibHop (c.2.2.2.2.2.2); simp only [mkFibReader, wtFibReader]; omega
theorem mkleEFibReader (c : CFibReader) : mkEFibReader c ≤ 64 + 64 * wtFibReader c := by have := mkleSFibHop (c.2.2.2.2.2.2); simp only [mkEFibReader, wtFibReader]; omega
def hdFibReader (c : CFibReader) (k : Int) : Prop := (hdSFibHop (c.2.2.2.2.2.2) (k))
def hdEFibReader (c : CFibReader) (k : Int) : Prop := (c.1 = decide ((k) % 3 = 0)) ∧ (c.2.1 = k + 1) ∧ (c.2.2.1 = k + 2) ∧ (c.2.2.2.1 = k + 3) ∧ (c.2.2.2.2.1 = k + 4) ∧ (c.2.2.2.2.2.1 = k + 5) ∧ (hdSFibHop (c.2.2.2.2.2.2) (k + 6))
theorem rdsFibReader {w : World} {x : MFibReader} (h : okFibReader w x) : Rds w (rwFibReader x) := rdsSFibHop (h.2.2.2.2.2)
theorem oneFibReader {w : World} {x : MFibReader} (hx : Rds w (rwFibReader x)) : (clFibReader x).all (·.oneCell') = true := by
  have hx6 : Rds w (rwSFibHop (x.2.2.2.2.2.2)) := hx
  have q0 := Rds.one1 hx6
  simp_all [clFibReader, Value.oneCell']
def rwSFibReader (x : MSFibReader) : List Row := ⟨x.1, 35, 7, x.2.length, x.2.flatMap clFibReader⟩ :: x.2.flatMap rwFibReader
def wtSFibReader (c : List CFibReader) : Nat := c.length + (c.map wtFibReader).sum
def mkFSFibReader (c : CFibReader) : Nat := mkEFibReader c
def mkSFibReader (c : List CFibReader) : Nat := (c.map mkFSFibReader).sum
theorem mkleSFibReader (c : List CFibReader) : mkSFibReader c ≤ 64 * wtSFibReader c := mk_le_deep mkleEFibReader c
def hdFSFibReader (c : CFibReader) (k : Int) : Prop := hdEFibReader c k
def hdSFibReader (c : List CFibReader) (k : Int) : Prop := Held hdFSFibReader mkFSFibReader c k
theorem rdsSFibReader {w : World} {x : MSFibReader} (h : okSFibReader w x) : Rds w (rwSFibReader x) := Rds.cons h.1 (Rds.flatMap.2 fun a ha => rdsFibReader (h.2 a ha))
abbrev CFibStore := (List CFibCell) × Int × Int × (List MFibOld) × (List CFibReader)
instance : DecidableEq CFibStore := @instDecidableEqProd _ _ (inferInstance : DecidableEq (List CFibCell)) (@instDecidableEqProd _ _ (inferInstance : DecidableEq Int) (@instDecidableEqProd _ _ (inferInstance : DecidableEq Int) (@instDecidableEqProd _ _ (inferInstance : DecidableEq (List MFibOld)) ((inferInstance : DecidableEq (List CFibReader))))))
def ctFibStore (x : MFibStore) : CFibStore := (x.1.2.map ctFibCell, x.2.1, x.2.2.1, x.2.2.2.1.2, x.2.2.2.2.2.map ctFibReader)
def rwFibStore (x : MFibStore) : List Row := rwSFibCell (x.1) ++ rwSFibOld (x.2.2.2.1) ++ rwSFibReader (x.2.2.2.2)
def wtFibStore (c : CFibStore) : Nat := wtSFibCell (c.1) + c.2.2.2.1.length + wtSFibReader (c.2.2.2.2)
/-- how much is marked of one that is an argument, and of one that lies in a slice -/
def mkFibStore (c : CFibStore) : Nat := mkSFibCell (c.1) + mkSFibOld (c.2.2.2.1) + mkSFibReader (c.2.2.2.2)
def mkEFibStore (c : CFibStore) : Nat := 2 + mkSFibCell (c.1) + mkSFibOld (c.2.2.2.1) + mkSFibReader (c.2.2.2.2)
theorem mkleFibStore (c : CFibStore) : mkFibStore c ≤ 64 * wtFibStore c := by have := mkleSFibCell (c.1); have := mkleSFibOld (c.2.2.2.1); have := mkleSFibReader (c.2.2.2.2); simp only [mkFibStore, wtFibStore]; omega
theorem mkleEFibStore (c : CFibStore) : mkEFibStore c ≤ 64 + 64 * wtFibStore c := by have := mkleSFibCell (c.1); have := mkleSFibOld (c.2.2.2.1); have := mkleSFibReader (c.2.2.2.2); simp only [mkEFibStore, wtFibStore]; omega
def hdFibStore (c : CFibStore) (k : Int) : Prop := (hdSFibCell (c.1) (k)) ∧ (hdSFibOld (c.2.2.2.1) (k + ((mkSFibCell (c.1) : Nat) : Int))) ∧ (hdSFibReader (c.2.2.2.2) (k + ((mkSFibCell (c.1) : Nat) : Int) + ((mkSFibOld (c.2.2.2.1) : Nat) : Int)))
def hdEFibStore (c : CFibStore) (k : Int) : Prop := (hdSFibCell (c.1) (k)) ∧ (c.2.1 = k + ((mkSFibCell (c.1) : Nat) : Int)) ∧ (c.2.2.1 = k + 1 + ((mkSFibCell (c.1) : Nat) : Int)) ∧ (hdSFibOld (c.2.2.2.1) (k + 2 + ((mkSFibCell (c.1) : Nat) : Int))) ∧ (hdSFibReader (c.2.2.2.2) (k + 2 + ((mkSFibCell (c.1) : Nat) : Int) + ((mkSFibOld (c.2.2.2.1) : Nat) : Int)))
theorem rdsFibStore {w : World} {x : MFibStore} (h : okFibStore w x) : Rds w (rwFibStore x) := Rds.append.2 ⟨Rds.append.2 ⟨rdsSFibCell (h.1), rdsSFibOld (h.2.2.2.1)⟩, rdsSFibReader (h.2.2.2.2)⟩
theorem oneFibStore {w : World} {x : MFibStore} (hx : Rds w (rwFibStore x)) : (clFibStore x).all (·.oneCell') = true := by
  have hx' := hx
  simp only [rwFibStore, Rds.append] at hx'
  obtain ⟨⟨hx0, hx3⟩, hx4⟩ := hx'
  have q0 := Rds.one1 hx0
  have q1 := Rds.one1 hx3
  have q2 := Rds.one1 hx4
  simp_all [clFibStore, Value.oneCell']
theorem eqFibHop_c (x y : MFibHop) (w : World) : Calls Try.prog 24 #[.agg (clFibHop x).toArray, .agg (clFibHop y).toArray] w (RetN (.bool (decide (x = y))) w) := by
  obtain ⟨x0, x1⟩ := x
  obtain ⟨y0, y1⟩ := y
  refine enter (n := 15) (E := [(0, _), (1, _)]) Try.func24 rfl rfl rfl rfl ?_
  repeat' (first
    |(refine gS ?_;(first
        |(refine S_move rfl rfl ?_)
        |(refine S_assign rfl rfl ?_)
        |(apply F_field rfl rfl;(first|exact T.fl50_0|exact T.fl50_1))
        |(refine gLoad ?_;(first
            |(apply F_load1 rfl rfl;(focus ((repeat (first|exact mH|refine mT ?_));done));exact T.sc3;rfl;(focus (first|exact free0|exact free1)))))
        |(refine gBin ?_;(first
            |(refine S_neq rfl rfl rfl ?_)
            |(refine S_neqB Try.underlying4 rfl rfl rfl ?_)))
        |(refine S_box rfl rfl rfl ?_;intro kb)
        |(refine S_done ?_)
        |(refine S_box1 rfl rfl rfl rfl ?_;intro kb)))
    |(refine gC ?_;(first
        |(refine C_seq ?_)
        |(refine gReg ?_;(first
            |(refine gReg (i := 0) ?_;refine C_plain [(0,2),(1,2),(2,0)] (by kernel_rfl) (s := [⟨2,none,_,_,_⟩,⟨2,none,_,_,_⟩,⟨0,none,_,_,_⟩]) rfl ?_)
            |(refine gReg (i := 1) ?_;refine C_plain [(0,0),(1,0),(2,0),(3,0),(4,0)] (by kernel_rfl) (s := [⟨0,none,_,_,_⟩,⟨0,none,_,_,_⟩,⟨0,none,_,_,_⟩,⟨0,none,_,_,_⟩,⟨0,none,_,_,_⟩]) rfl ?_)
            |(refine gReg (i := 2) ?_;refine C_plain [(0,0)] (by kernel_rfl) (s := [⟨0,none,_,_,_⟩]) rfl ?_)
            |(refine gReg (i := 3) ?_;refine C_plain [(0,0),(1,0),(2,0),(3,0),(4,0)] (by kernel_rfl) (s := [⟨0,none,_,_,_⟩,⟨0,none,_,_,_⟩,⟨0,none,_,_,_⟩,⟨0,none,_,_,_⟩,⟨0,none,_,_,_⟩]) rfl ?_)
            |(refine gReg (i := 4) ?_;refine C_plain [(0,0)] (by kernel_rfl) (s := [⟨0,none,_,_,_⟩]) rfl ?_)
            |(refine gReg (i := 5) ?_;refine C_plain [(0,0)] (by kernel_rfl) (s := [⟨0,none,_,_,_⟩]) rfl ?_)))
        |(refine C_true rfl ?_)
        |(refine C_false rfl ?_)
        |(refine C_split rfl ?_ ?_ <;> (intro hb;(try simp only [decide_eq_true_eq] at hb);(try simp only [decide_eq_false_iff_not] at hb);(try simp only [Bool.not_eq_true'] at hb);(try simp only [Bool.not_eq_false'] at hb);(try (exfalso;first|contradiction|omega))))
        |(refine C_skip ?_)
        |(refine C_exit ?_)
        |(refine C_ret ?_)
        |(refine C_block ?_)))
    |(refine gE ?_;(first
        |(refine E_then ?_)
        |(refine E_thenX ?_)
        |(refine E_thenR ?_)
        |(refine E_block ?_)
        |(refine E_blockY ?_)
        |(refine E_blockR ?_)
        |(refine E_calm ?_)
        |(refine E_blockX rfl ?_)
        |(apply E_ret1 rfl;(first|exact Res.tmp rfl|(apply R_cellAll rfl;(focus ((repeat (first|exact mH|refine mT ?_));done));fail)|(apply R_cell1 rfl;(focus ((repeat (first|exact mH|refine mT ?_));done));exact T.sc3)))
        |(apply E_ret2 rfl;(first|exact Res.tmp rfl|(apply R_cellAll rfl;(focus ((repeat (first|exact mH|refine mT ?_));done));fail)|(apply R_cell1 rfl;(focus ((repeat (first|exact mH|refine mT ?_));done));exact T.sc3));(first|exact Res.tmp rfl|(apply R_cellAll rfl;(focus ((repeat (first|exact mH|refine mT ?_));done));fail)|(apply R_cell1 rfl;(focus ((repeat (first|exact mH|refine mT ?_));done));exact T.sc3)))
        | (apply E_ret3 rfl; (first | exact Res.tmp rfl | (apply R_cellAll rfl; (focus ((repeat (first | exact List.Mem.head _ | refine List.Mem.tail _ ?_)); done)); fail) | (apply R_cell1 rfl; (focus ((repeat (first | exact List.Mem.head _ | refine List.Mem.tail _ ?_)); done)); exact T.sc3)); (first | exact Res.tmp rfl | (apply R_cellAll rfl; (focus ((repeat (first | exact List.Mem.head _ | refine List.Mem.tail _ ?_)); done)); fail) | (apply R_cell1 rfl; (focus ((repeat (first | exact List.Mem.head _ | refine List.Mem.tail _ ?_)); done)); exact T.sc3)); (first | exact Res.tmp rfl | (apply R_cellAll rfl; (focus ((repeat (first | exact List.Mem.head _ | refine List.Mem.tail _ ?_)); done)); fail) | (apply R_cell1 rfl; (focus ((repeat (first | exact List.Mem.head _ | refine List.Mem.tail _ ?_)); done)); exact T.sc3))))))
  all_goals (refine retN ?_; simp_all)
theorem eqFibHopS_c (v u : Value) (l m : List MFibHop) (w : World) (hm : Mem w v 2 l.length (l.flatMap clFibHop)) (hu : Mem w u 2 m.length (m.flatMap clFibHop)) : Calls Try.prog 23 #[v, u] w (RetN (.bool (decide (l = m))) w) := by
  have hlen := hm.len
  simp only [maxLen] at hlen
  refine enter (n := 27) (E := [(0, _), (1, _)]) Try.func23 rfl rfl rfl rfl ?_
  repeat' (first
    |(refine gS ?_;(first
        |(refine S_move rfl rfl ?_)
        |(refine S_assign rfl rfl ?_)
        |(apply F_idx rfl rfl rfl;exact T.sl31;(focus rfl);(focus (first|exact len_nil|(apply len_given;assumption)|(apply len_row;(focus ((repeat (first|exact mH|refine mT ?_));done)))|(apply len_isN;assumption)));(focus omega))
        |(apply F_idxZ rfl rfl rfl;exact T.sl31;(focus omega);(focus (first|exact len_nil|(apply len_given;assumption)|(apply len_row;(focus ((repeat (first|exact mH|refine mT ?_));done)))|(apply len_isN;assumption)));(focus omega))
        |(refine gLoad ?_;(first
            |(apply F_loadAll rfl rfl;(focus ((repeat (first|exact mH|refine mT ?_));done));exact T.rw50;(focus (first|exact free0|exact free1)))
            |(apply F_loadP rfl rfl;(focus ((repeat (first|exact mH|refine mT ?_));done));exact T.rw50;(focus ((repeat (first|exact Take.nil|apply Take.here|apply Take.there));done));rfl;(focus (first|exact free0|exact free1)))
            |(apply F_loadSN rfl rfl;exact T.rw50;(focus (first|exact rd_nil|(apply rd_given;(focus assumption);(focus (first|exact freeG0|exact freeG1)))|(apply rd_row;(focus ((repeat (first|exact mH|refine mT ?_));done));(focus (first|exact freeR0|exact freeR1)))));(focus (first|(focus (apply at_flat;(focus (intro _;rfl));(focus assumption)))|exact at_self));rfl;rfl)
            |(apply F_loadSP rfl rfl;exact T.rw50;(focus (first|exact rd_nil|(apply rd_given;(focus assumption);(focus (first|exact freeG0|exact freeG1)))|(apply rd_row;(focus ((repeat (first|exact mH|refine mT ?_));done));(focus (first|exact freeR0|exact freeR1)))));(focus (apply at_flat;(focus (intro _;rfl));(focus assumption)));(focus ((repeat (first|exact Take.nil|apply Take.here|apply Take.there));done));rfl;rfl)))
        |(refine gCall ?_;(first
            |(apply F_len rfl rfl rfl;(focus exact ⟨_,_,by exact T.sl31⟩);(focus (first|exact len_nil|(apply len_given;assumption)|(apply len_row;(focus ((repeat (first|exact mH|refine mT ?_));done)))|(apply len_isN;assumption))))))
        |(refine gBin ?_;(first
            |(refine S_lss rfl rfl rfl ?_)
            |(refine S_neq rfl rfl rfl ?_)
            |(refine S_add rfl rfl ?_ rfl ?_;(focus (unfold rng;omega)))
            |(refine S_neqB Try.underlying4 rfl rfl rfl ?_)))
        |(refine S_not rfl rfl ?_)
        |(refine S_done ?_)))
    |(refine gC ?_;(first
        |(refine C_seq ?_)
        |(refine gReg ?_;(first
            |(refine gReg (i := 0) ?_;refine C_plain [(0,0)] (by kernel_rfl) (s := [⟨0,none,_,_,_⟩]) rfl ?_)
            |(refine gReg (i := 1) ?_;refine C_plain [(0,0),(1,0),(2,0),(3,0),(4,0)] (by kernel_rfl) (s := [⟨0,none,_,_,_⟩,⟨0,none,_,_,_⟩,⟨0,none,_,_,_⟩,⟨0,none,_,_,_⟩,⟨0,none,_,_,_⟩]) rfl ?_)
            |(refine gReg (i := 2) ?_;refine C_plain [(0,0)] (by kernel_rfl) (s := [⟨0,none,_,_,_⟩]) rfl ?_)
            |(refine gReg (i := 3) ?_;refine C_plain [(0,0)] (by kernel_rfl) (s := [⟨0,none,_,_,_⟩]) rfl ?_)
            |(refine gReg (i := 4) ?_;refine C_plain [(0,0),(1,0),(2,0),(3,0)] (by kernel_rfl) (s := [⟨0,none,_,_,_⟩,⟨0,none,_,_,_⟩,⟨0,none,_,_,_⟩,⟨0,none,_,_,_⟩]) rfl ?_)
            |(refine gReg (i := 6) ?_;refine C_drawn [(0,0),(1,0),(2,0),(3,0),(4,0),(5,0),(6,0),(7,0),(8,1),(9,0)] [] T.mixed (by kernel_rfl) (s := [⟨0,none,_,_,_⟩,⟨0,none,_,_,_⟩,⟨0,none,_,_,_⟩,⟨0,none,_,_,_⟩,⟨0,none,_,_,_⟩,⟨0,none,_,_,_⟩,⟨0,none,_,_,_⟩,⟨0,none,_,_,_⟩,⟨1,none,_,_,_⟩,⟨0,none,_,_,_⟩]) rfl ?_)
            |(refine gReg (i := 7) ?_;refine C_plain [(0,0)] (by kernel_rfl) (s := [⟨0,none,_,_,_⟩]) rfl ?_)
            |(refine gReg (i := 5) ?_;refine C_plain [(0,0),(1,0),(2,0)] (by kernel_rfl) (s := [⟨0,none,_,_,_⟩,⟨0,none,_,_,_⟩,⟨0,none,_,_,_⟩]) rfl ?_)
            |(refine gReg (i := 8) ?_;refine C_plain [(0,0)] (by kernel_rfl) (s := [⟨0,none,_,_,_⟩]) rfl ?_)))
        |(refine C_true rfl ?_)
        |(refine C_false rfl ?_)
        |(refine C_split rfl ?_ ?_ <;> (intro hb;(try simp only [decide_eq_true_eq] at hb);(try simp only [decide_eq_false_iff_not] at hb);(try simp only [Bool.not_eq_true'] at hb);(try simp only [Bool.not_eq_false'] at hb);(try (exfalso;first|contradiction|omega))))
        |(refine C_skip ?_)
        |(refine C_exit ?_)
        |(refine C_ret ?_)
        |(refine C_block ?_)))
    |(refine gE ?_;(first
        |(refine E_then ?_)
        |(refine E_thenX ?_)
        |(refine E_thenR ?_)
        |(refine E_block ?_)
        |(refine E_blockY ?_)
        |(refine E_blockR ?_)
        |(refine E_calm ?_)
        |(refine E_blockX rfl ?_)
        |(apply E_ret1 rfl;(first|exact Res.tmp rfl|(apply R_cellAll rfl;(focus ((repeat (first|exact mH|refine mT ?_));done));exact T.rw50)|(apply R_cell1 rfl;(focus ((repeat (first|exact mH|refine mT ?_));done));fail)))
        |(apply E_ret2 rfl;(first|exact Res.tmp rfl|(apply R_cellAll rfl;(focus ((repeat (first|exact mH|refine mT ?_));done));exact T.rw50)|(apply R_cell1 rfl;(focus ((repeat (first|exact mH|refine mT ?_));done));fail));(first|exact Res.tmp rfl|(apply R_cellAll rfl;(focus ((repeat (first|exact mH|refine mT ?_));done));exact T.rw50)|(apply R_cell1 rfl;(focus ((repeat (first|exact mH|refine mT ?_));done));fail)))
        | (apply E_ret3 rfl; (first | exact Res.tmp rfl | (apply R_cellAll rfl; (focus ((repeat (first | exact List.Mem.head _ | refine List.Mem.tail _ ?_)); done)); exact T.rw50) | (apply R_cell1 rfl; (focus ((repeat (first | exact List.Mem.head _ | refine List.Mem.tail _ ?_)); done)); fail)); (first | exact Res.tmp rfl | (apply R_cellAll rfl; (focus ((repeat (first | exact List.Mem.head _ | refine List.Mem.tail _ ?_)); done)); exact T.rw50) | (apply R_cell1 rfl; (focus ((repeat (first | exact List.Mem.head _ | refine List.Mem.tail _ ?_)); done)); fail)); (first | exact Res.tmp rfl | (apply R_cellAll rfl; (focus ((repeat (first | exact List.Mem.head _ | refine List.Mem.tail _ ?_)); done)); exact T.rw50) | (apply R_cell1 rfl; (focus ((repeat (first | exact List.Mem.head _ | refine List.Mem.tail _ ?_)); done)); fail))))))
  · refine retN ?_
    have : l ≠ m := fun e => by subst e; contradiction
    simp [this]
  have hl : l.length = m.length := by omega
  refine C_loop (α := Nat) (fun k => [(5, .int .i64 (k : Int)), (0, v), (1, u)]) (fun _ => []) (fun k => k ≤ l.length ∧ l.take k = m.take k) (fun k => l.length - k) 0 ⟨by omega, rfl⟩ ⟨rfl, rfl, rfl, trivial⟩ (List.Sublist.refl _) ?_
  rintro k ⟨hk, ha⟩
  have hp : (k : Int) < (l.length : Int) → m[k]? = some (ix m k) := fun h => nthD (by omega)
  try dsimp only
  repeat' (first
    |(refine gS ?_;(first
        |(refine S_move rfl rfl ?_)
        |(refine S_assign rfl rfl ?_)
        |(apply F_idx rfl rfl rfl;exact T.sl31;(focus rfl);(focus (first|exact len_nil|(apply len_given;assumption)|(apply len_row;(focus ((repeat (first|exact mH|refine mT ?_));done)))|(apply len_isN;assumption)));(focus omega))
        |(apply F_idxZ rfl rfl rfl;exact T.sl31;(focus omega);(focus (first|exact len_nil|(apply len_given;assumption)|(apply len_row;(focus ((repeat (first|exact mH|refine mT ?_));done)))|(apply len_isN;assumption)));(focus omega))
        |(refine gLoad ?_;(first
            |(apply F_loadAll rfl rfl;(focus ((repeat (first|exact mH|refine mT ?_));done));exact T.rw50;(focus (first|exact free0|exact free1)))
            |(apply F_loadP rfl rfl;(focus ((repeat (first|exact mH|refine mT ?_));done));exact T.rw50;(focus ((repeat (first|exact Take.nil|apply Take.here|apply Take.there));done));rfl;(focus (first|exact free0|exact free1)))
            |(apply F_loadSN rfl rfl;exact T.rw50;(focus (first|exact rd_nil|(apply rd_given;(focus assumption);(focus (first|exact freeG0|exact freeG1)))|(apply rd_row;(focus ((repeat (first|exact mH|refine mT ?_));done));(focus (first|exact freeR0|exact freeR1)))));(focus (first|(focus (apply at_flat;(focus (intro _;rfl));(focus assumption)))|exact at_self));rfl;rfl)
            |(apply F_loadSP rfl rfl;exact T.rw50;(focus (first|exact rd_nil|(apply rd_given;(focus assumption);(focus (first|exact freeG0|exact freeG1)))|(apply rd_row;(focus ((repeat (first|exact mH|refine mT ?_));done));(focus (first|exact freeR0|exact freeR1)))));(focus (apply at_flat;(focus (intro _;rfl));(focus assumption)));(focus ((repeat (first|exact Take.nil|apply Take.here|apply Take.there));done));rfl;rfl)))
        |(refine gCall ?_;(first
            |(show GoS _ _ _ _ _ _ _ (⟨_,_,_,.call ⟨.value (.func 24),_,_⟩,_⟩ :: _);refine S_callN (f := 24) rfl T.pf24 rfl (fun w hst => eqFibHop_c _ _ w) rfl ?_)
            |(apply F_len rfl rfl rfl;(focus exact ⟨_,_,by exact T.sl31⟩);(focus (first|exact len_nil|(apply len_given;assumption)|(apply len_row;(focus ((repeat (first|exact mH|refine mT ?_));done)))|(apply len_isN;assumption))))))
        |(refine gBin ?_;(first
            |(refine S_lss rfl rfl rfl ?_)
            |(refine S_neq rfl rfl rfl ?_)
            |(refine S_add rfl rfl ?_ rfl ?_;(focus (unfold rng;omega)))
            |(refine S_neqB Try.underlying4 rfl rfl rfl ?_)))
        |(refine S_not rfl rfl ?_)
        |(refine S_done ?_)))
    |(refine gC ?_;(first
        |(refine C_seq ?_)
        |(refine gReg ?_;(first
            |(refine gReg (i := 0) ?_;refine C_plain [(0,0)] (by kernel_rfl) (s := [⟨0,none,_,_,_⟩]) rfl ?_)
            |(refine gReg (i := 1) ?_;refine C_plain [(0,0),(1,0),(2,0),(3,0),(4,0)] (by kernel_rfl) (s := [⟨0,none,_,_,_⟩,⟨0,none,_,_,_⟩,⟨0,none,_,_,_⟩,⟨0,none,_,_,_⟩,⟨0,none,_,_,_⟩]) rfl ?_)
            |(refine gReg (i := 2) ?_;refine C_plain [(0,0)] (by kernel_rfl) (s := [⟨0,none,_,_,_⟩]) rfl ?_)
            |(refine gReg (i := 3) ?_;refine C_plain [(0,0)] (by kernel_rfl) (s := [⟨0,none,_,_,_⟩]) rfl ?_)
            |(refine gReg (i := 4) ?_;refine C_plain [(0,0),(1,0),(2,0),(3,0)] (by kernel_rfl) (s := [⟨0,none,_,_,_⟩,⟨0,none,_,_,_⟩,⟨0,none,_,_,_⟩,⟨0,none,_,_,_⟩]) rfl ?_)
            |(refine gReg (i := 6) ?_;refine C_drawn [(0,0),(1,0),(2,0),(3,0),(4,0),(5,0),(6,0),(7,0),(8,1),(9,0)] [] T.mixed (by kernel_rfl) (s := [⟨0,none,_,_,_⟩,⟨0,none,_,_,_⟩,⟨0,none,_,_,_⟩,⟨0,none,_,_,_⟩,⟨0,none,_,_,_⟩,⟨0,none,_,_,_⟩,⟨0,none,_,_,_⟩,⟨0,none,_,_,_⟩,⟨1,none,_,_,_⟩,⟨0,none,_,_,_⟩]) rfl ?_)
            |(refine gReg (i := 7) ?_;refine C_plain [(0,0)] (by kernel_rfl) (s := [⟨0,none,_,_,_⟩]) rfl ?_)
            |(refine gReg (i := 5) ?_;refine C_plain [(0,0),(1,0),(2,0)] (by kernel_rfl) (s := [⟨0,none,_,_,_⟩,⟨0,none,_,_,_⟩,⟨0,none,_,_,_⟩]) rfl ?_)
            |(refine gReg (i := 8) ?_;refine C_plain [(0,0)] (by kernel_rfl) (s := [⟨0,none,_,_,_⟩]) rfl ?_)))
        |(refine C_true rfl ?_)
        |(refine C_false rfl ?_)
        |(refine C_split rfl ?_ ?_ <;> (intro hb;(try simp only [decide_eq_true_eq] at hb);(try simp only [decide_eq_false_iff_not] at hb);(try simp only [Bool.not_eq_true'] at hb);(try simp only [Bool.not_eq_false'] at hb);(try (exfalso;first|contradiction|omega));(try (have hx := nthD (l := l) (k := k) hb));(try (have hx' := hp hb))))
        |(refine C_skip ?_)
        |(refine C_exit ?_)
        |(refine C_ret ?_)
        |(refine C_block ?_)))
    |(refine gE ?_;(first
        |(refine E_then ?_)
        |(refine E_thenX ?_)
        |(refine E_thenR ?_)
        |(refine E_block ?_)
        |(refine E_blockY ?_)
        |(refine E_blockR ?_)
        |(refine E_calm ?_)
        |(refine E_blockX rfl ?_)
        |(apply E_ret1 rfl;(first|exact Res.tmp rfl|(apply R_cellAll rfl;(focus ((repeat (first|exact mH|refine mT ?_));done));exact T.rw50)|(apply R_cell1 rfl;(focus ((repeat (first|exact mH|refine mT ?_));done));fail)))
        |(apply E_ret2 rfl;(first|exact Res.tmp rfl|(apply R_cellAll rfl;(focus ((repeat (first|exact mH|refine mT ?_));done));exact T.rw50)|(apply R_cell1 rfl;(focus ((repeat (first|exact mH|refine mT ?_));done));fail));(first|exact Res.tmp rfl|(apply R_cellAll rfl;(focus ((repeat (first|exact mH|refine mT ?_));done));exact T.rw50)|(apply R_cell1 rfl;(focus ((repeat (first|exact mH|refine mT ?_));done));fail)))
        | (apply E_ret3 rfl; (first | exact Res.tmp rfl | (apply R_cellAll rfl; (focus ((repeat (first | exact List.Mem.head _ | refine List.Mem.tail _ ?_)); done)); exact T.rw50) | (apply R_cell1 rfl; (focus ((repeat (first | exact List.Mem.head _ | refine List.Mem.tail _ ?_)); done)); fail)); (first | exact Res.tmp rfl | (apply R_cellAll rfl; (focus ((repeat (first | exact List.Mem.head _ | refine List.Mem.tail _ ?_)); done)); exact T.rw50) | (apply R_cell1 rfl; (focus ((repeat (first | exact List.Mem.head _ | refine List.Mem.tail _ ?_)); done)); fail)); (first | exact Res.tmp rfl | (apply R_cellAll rfl; (focus ((repeat (first | exact List.Mem.head _ | refine List.Mem.tail _ ?_)); done)); exact T.rw50) | (apply R_cell1 rfl; (focus ((repeat (first | exact List.Mem.head _ | refine List.Mem.tail _ ?_)); done)); fail))))))
  · refine retN ?_
    have hb : decide (ix l k = ix m k) = false := by first | assumption | (simp only [decide_eq_false_iff_not]; assumption)
    have : l ≠ m := fun e => by subst e; simp at hb
    simp [this]
  · refine E_round (α := Nat) (k + 1) ?_ ?_ ?_ ?_
    · have hb : ix l k = ix m k := by first | exact of_decide_eq_true (by assumption) | omega
      exact ⟨by omega, by rw [take_snoc hx, take_snoc hx', ha, hb]⟩
    · omega
    · exact ⟨rfl, rfl, rfl, trivial⟩
    · exact List.nil_sublist _
  · refine retN ?_
    have e : k = l.length := by omega
    subst e
    have : l = m := by rw [List.take_length, hl, List.take_length] at ha; exact ha
    simp [this]
theorem eqSFibHop_c (x y : MSFibHop) (w : World) (hx : Rds w (rwSFibHop x)) (hy : Rds w (rwSFibHop y)) : Calls Try.prog 23 #[x.1, y.1] w (RetN (.bool (decide (x.2 = y.2))) w) := by
  obtain ⟨v, l⟩ := x
  have hm := Rds.head hx
  have hlen := hm.len
  simp only [maxLen] at hlen
  dsimp only at *
  obtain ⟨u, m⟩ := y
  have hm2 := Rds.head hy
  dsimp only at *
  refine enter (n := 27) (E := [(0, _), (1, _)]) Try.func23 rfl rfl rfl rfl ?_
  repeat' (first
    |(refine gS ?_;(first
        |(refine S_move rfl rfl ?_)
        |(refine S_assign rfl rfl ?_)
        |(apply F_idx rfl rfl rfl;exact T.sl31;(focus rfl);(focus (first|exact len_nil|(apply len_given;assumption)|(apply len_row;(focus ((repeat (first|exact mH|refine mT ?_));done)))|(apply len_isN;assumption)));(focus omega))
        |(apply F_idxZ rfl rfl rfl;exact T.sl31;(focus omega);(focus (first|exact len_nil|(apply len_given;assumption)|(apply len_row;(focus ((repeat (first|exact mH|refine mT ?_));done)))|(apply len_isN;assumption)));(focus omega))
        |(refine gLoad ?_;(first
            |(apply F_loadAll rfl rfl;(focus ((repeat (first|exact mH|refine mT ?_));done));exact T.rw50;(focus (first|exact free0|exact free1)))
            |(apply F_loadP rfl rfl;(focus ((repeat (first|exact mH|refine mT ?_));done));exact T.rw50;(focus ((repeat (first|exact Take.nil|apply Take.here|apply Take.there));done));rfl;(focus (first|exact free0|exact free1)))
            |(apply F_loadSN rfl rfl;exact T.rw50;(focus (first|exact rd_nil|(apply rd_given;(focus assumption);(focus (first|exact freeG0|exact freeG1)))|(apply rd_row;(focus ((repeat (first|exact mH|refine mT ?_));done));(focus (first|exact freeR0|exact freeR1)))));(focus (first|(focus (apply at_flat;(focus (intro _;rfl));(focus assumption)))|exact at_self));rfl;rfl)
            |(apply F_loadSP rfl rfl;exact T.rw50;(focus (first|exact rd_nil|(apply rd_given;(focus assumption);(focus (first|exact freeG0|exact freeG1)))|(apply rd_row;(focus ((repeat (first|exact mH|refine mT ?_));done));(focus (first|exact freeR0|exact freeR1)))));(focus (apply at_flat;(focus (intro _;rfl));(focus assumption)));(focus ((repeat (first|exact Take.nil|apply Take.here|apply Take.there));done));rfl;rfl)))
        |(refine gCall ?_;(first
            |(apply F_len rfl rfl rfl;(focus exact ⟨_,_,by exact T.sl31⟩);(focus (first|exact len_nil|(apply len_given;assumption)|(apply len_row;(focus ((repeat (first|exact mH|refine mT ?_));done)))|(apply len_isN;assumption))))))
        |(refine gBin ?_;(first
            |(refine S_lss rfl rfl rfl ?_)
            |(refine S_neq rfl rfl rfl ?_)
            |(refine S_add rfl rfl ?_ rfl ?_;(focus (unfold rng;omega)))
            |(refine S_neqB Try.underlying4 rfl rfl rfl ?_)))
        |(refine S_not rfl rfl ?_)
        |(refine S_done ?_)))
    |(refine gC ?_;(first
        |(refine C_seq ?_)
        |(refine gReg ?_;(first
            |(refine gReg (i := 0) ?_;refine C_plain [(0,0)] (by kernel_rfl) (s := [⟨0,none,_,_,_⟩]) rfl ?_)
            |(refine gReg (i := 1) ?_;refine C_plain [(0,0),(1,0),(2,0),(3,0),(4,0)] (by kernel_rfl) (s := [⟨0,none,_,_,_⟩,⟨0,none,_,_,_⟩,⟨0,none,_,_,_⟩,⟨0,none,_,_,_⟩,⟨0,none,_,_,_⟩]) rfl ?_)
            |(refine gReg (i := 2) ?_;refine C_plain [(0,0)] (by kernel_rfl) (s := [⟨0,none,_,_,_⟩]) rfl ?_)
            |(refine gReg (i := 3) ?_;refine C_plain [(0,0)] (by kernel_rfl) (s := [⟨0,none,_,_,_⟩]) rfl ?_)
            |(refine gReg (i := 4) ?_;refine C_plain [(0,0),(1,0),(2,0),(3,0)] (by kernel_rfl) (s := [⟨0,none,_,_,_⟩,⟨0,none,_,_,_⟩,⟨0,none,_,_,_⟩,⟨0,none,_,_,_⟩]) rfl ?_)
            |(refine gReg (i := 6) ?_;refine C_drawn [(0,0),(1,0),(2,0),(3,0),(4,0),(5,0),(6,0),(7,0),(8,1),(9,0)] [] T.mixed (by kernel_rfl) (s := [⟨0,none,_,_,_⟩,⟨0,none,_,_,_⟩,⟨0,none,_,_,_⟩,⟨0,none,_,_,_⟩,⟨0,none,_,_,_⟩,⟨0,none,_,_,_⟩,⟨0,none,_,_,_⟩,⟨0,none,_,_,_⟩,⟨1,none,_,_,_⟩,⟨0,none,_,_,_⟩]) rfl ?_)
            |(refine gReg (i := 7) ?_;refine C_plain [(0,0)] (by kernel_rfl) (s := [⟨0,none,_,_,_⟩]) rfl ?_)
            |(refine gReg (i := 5) ?_;refine C_plain [(0,0),(1,0),(2,0)] (by kernel_rfl) (s := [⟨0,none,_,_,_⟩,⟨0,none,_,_,_⟩,⟨0,none,_,_,_⟩]) rfl ?_)
            |(refine gReg (i := 8) ?_;refine C_plain [(0,0)] (by kernel_rfl) (s := [⟨0,none,_,_,_⟩]) rfl ?_)))
        |(refine C_true rfl ?_)
        |(refine C_false rfl ?_)
        |(refine C_split rfl ?_ ?_ <;> (intro hb;(try simp only [decide_eq_true_eq] at hb);(try simp only [decide_eq_false_iff_not] at hb);(try simp only [Bool.not_eq_true'] at hb);(try simp only [Bool.not_eq_false'] at hb);(try (exfalso;first|contradiction|omega))))
        |(refine C_skip ?_)
        |(refine C_exit ?_)
        |(refine C_ret ?_)
        |(refine C_block ?_)))
    |(refine gE ?_;(first
        |(refine E_then ?_)
        |(refine E_thenX ?_)
        |(refine E_thenR ?_)
        |(refine E_block ?_)
        |(refine E_blockY ?_)
        |(refine E_blockR ?_)
        |(refine E_calm ?_)
        |(refine E_blockX rfl ?_)
        |(apply E_ret1 rfl;(first|exact Res.tmp rfl|(apply R_cellAll rfl;(focus ((repeat (first|exact mH|refine mT ?_));done));exact T.rw50)|(apply R_cell1 rfl;(focus ((repeat (first|exact mH|refine mT ?_));done));fail)))
        |(apply E_ret2 rfl;(first|exact Res.tmp rfl|(apply R_cellAll rfl;(focus ((repeat (first|exact mH|refine mT ?_));done));exact T.rw50)|(apply R_cell1 rfl;(focus ((repeat (first|exact mH|refine mT ?_));done));fail));(first|exact Res.tmp rfl|(apply R_cellAll rfl;(focus ((repeat (first|exact mH|refine mT ?_));done));exact T.rw50)|(apply R_cell1 rfl;(focus ((repeat (first|exact mH|refine mT ?_));done));fail)))
        | (apply E_ret3 rfl; (first | exact Res.tmp rfl | (apply R_cellAll rfl; (focus ((repeat (first | exact List.Mem.head _ | refine List.Mem.tail _ ?_)); done)); exact T.rw50) | (apply R_cell1 rfl; (focus ((repeat (first | exact List.Mem.head _ | refine List.Mem.tail _ ?_)); done)); fail)); (first | exact Res.tmp rfl | (apply R_cellAll rfl; (focus ((repeat (first | exact List.Mem.head _ | refine List.Mem.tail _ ?_)); done)); exact T.rw50) | (apply R_cell1 rfl; (focus ((repeat (first | exact List.Mem.head _ | refine List.Mem.tail _ ?_)); done)); fail)); (first | exact Res.tmp rfl | (apply R_cellAll rfl; (focus ((repeat (first | exact List.Mem.head _ | refine List.Mem.tail _ ?_)); done)); exact T.rw50) | (apply R_cell1 rfl; (focus ((repeat (first | exact List.Mem.head _ | refine List.Mem.tail _ ?_)); done)); fail))))))
  · refine retN ?_
    have : l ≠ m := fun e => by
      have := congrArg List.length e
      (try simp only [List.length_map] at this)
      omega
    simp [this]
  have hl : l.length = m.length := by omega
  refine C_loop (α := Nat) (fun k => [(5, .int .i64 (k : Int)), (0, v), (1, u)]) (fun _ => []) (fun k => k ≤ l.length ∧ l.take k = m.take k) (fun k => l.length - k) 0 ⟨by omega, rfl⟩ ⟨rfl, rfl, rfl, trivial⟩ (List.Sublist.refl _) ?_
  rintro k ⟨hk, ha⟩
  have hp : (k : Int) < (l.length : Int) → m[k]? = some (ix m k) := fun h => nthD (by omega)
  try dsimp only
  repeat' (first
    |(refine gS ?_;(first
        |(refine S_move rfl rfl ?_)
        |(refine S_assign rfl rfl ?_)
        |(apply F_idx rfl rfl rfl;exact T.sl31;(focus rfl);(focus (first|exact len_nil|(apply len_given;assumption)|(apply len_row;(focus ((repeat (first|exact mH|refine mT ?_));done)))|(apply len_isN;assumption)));(focus omega))
        |(apply F_idxZ rfl rfl rfl;exact T.sl31;(focus omega);(focus (first|exact len_nil|(apply len_given;assumption)|(apply len_row;(focus ((repeat (first|exact mH|refine mT ?_));done)))|(apply len_isN;assumption)));(focus omega))
        |(refine gLoad ?_;(first
            |(apply F_loadAll rfl rfl;(focus ((repeat (first|exact mH|refine mT ?_));done));exact T.rw50;(focus (first|exact free0|exact free1)))
            |(apply F_loadP rfl rfl;(focus ((repeat (first|exact mH|refine mT ?_));done));exact T.rw50;(focus ((repeat (first|exact Take.nil|apply Take.here|apply Take.there));done));rfl;(focus (first|exact free0|exact free1)))
            |(apply F_loadSN rfl rfl;exact T.rw50;(focus (first|exact rd_nil|(apply rd_given;(focus assumption);(focus (first|exact freeG0|exact freeG1)))|(apply rd_row;(focus ((repeat (first|exact mH|refine mT ?_));done));(focus (first|exact freeR0|exact freeR1)))));(focus (first|(focus (apply at_flat;(focus (intro _;rfl));(focus assumption)))|exact at_self));rfl;rfl)
            |(apply F_loadSP rfl rfl;exact T.rw50;(focus (first|exact rd_nil|(apply rd_given;(focus assumption);(focus (first|exact freeG0|exact freeG1)))|(apply rd_row;(focus ((repeat (first|exact mH|refine mT ?_));done));(focus (first|exact freeR0|exact freeR1)))));(focus (apply at_flat;(focus (intro _;rfl));(focus assumption)));(focus ((repeat (first|exact Take.nil|apply Take.here|apply Take.there));done));rfl;rfl)))
        |(refine gCall ?_;(first
            |(show GoS _ _ _ _ _ _ _ (⟨_,_,_,.call ⟨.value (.func 24),_,_⟩,_⟩ :: _);refine S_callN (f := 24) rfl T.pf24 rfl (fun w hst => eqFibHop_c _ _ w) rfl ?_)
            |(apply F_len rfl rfl rfl;(focus exact ⟨_,_,by exact T.sl31⟩);(focus (first|exact len_nil|(apply len_given;assumption)|(apply len_row;(focus ((repeat (first|exact mH|refine mT ?_));done)))|(apply len_isN;assumption))))))
        |(refine gBin ?_;(first
            |(refine S_lss rfl rfl rfl ?_)
            |(refine S_neq rfl rfl rfl ?_)
            |(refine S_add rfl rfl ?_ rfl ?_;(focus (unfold rng;omega)))
            |(refine S_neqB Try.underlying4 rfl rfl rfl ?_)))
        |(refine S_not rfl rfl ?_)
        |(refine S_done ?_)))
    |(refine gC ?_;(first
        |(refine C_seq ?_)
        |(refine gReg ?_;(first
            |(refine gReg (i := 0) ?_;refine C_plain [(0,0)] (by kernel_rfl) (s := [⟨0,none,_,_,_⟩]) rfl ?_)
            |(refine gReg (i := 1) ?_;refine C_plain [(0,0),(1,0),(2,0),(3,0),(4,0)] (by kernel_rfl) (s := [⟨0,none,_,_,_⟩,⟨0,none,_,_,_⟩,⟨0,none,_,_,_⟩,⟨0,none,_,_,_⟩,⟨0,none,_,_,_⟩]) rfl ?_)
            |(refine gReg (i := 2) ?_;refine C_plain [(0,0)] (by kernel_rfl) (s := [⟨0,none,_,_,_⟩]) rfl ?_)
            |(refine gReg (i := 3) ?_;refine C_plain [(0,0)] (by kernel_rfl) (s := [⟨0,none,_,_,_⟩]) rfl ?_)
            |(refine gReg (i := 4) ?_;refine C_plain [(0,0),(1,0),(2,0),(3,0)] (by kernel_rfl) (s := [⟨0,none,_,_,_⟩,⟨0,none,_,_,_⟩,⟨0,none,_,_,_⟩,⟨0,none,_,_,_⟩]) rfl ?_)
            |(refine gReg (i := 6) ?_;refine C_drawn [(0,0),(1,0),(2,0),(3,0),(4,0),(5,0),(6,0),(7,0),(8,1),(9,0)] [] T.mixed (by kernel_rfl) (s := [⟨0,none,_,_,_⟩,⟨0,none,_,_,_⟩,⟨0,none,_,_,_⟩,⟨0,none,_,_,_⟩,⟨0,none,_,_,_⟩,⟨0,none,_,_,_⟩,⟨0,none,_,_,_⟩,⟨0,none,_,_,_⟩,⟨1,none,_,_,_⟩,⟨0,none,_,_,_⟩]) rfl ?_)
            |(refine gReg (i := 7) ?_;refine C_plain [(0,0)] (by kernel_rfl) (s := [⟨0,none,_,_,_⟩]) rfl ?_)
            |(refine gReg (i := 5) ?_;refine C_plain [(0,0),(1,0),(2,0)] (by kernel_rfl) (s := [⟨0,none,_,_,_⟩,⟨0,none,_,_,_⟩,⟨0,none,_,_,_⟩]) rfl ?_)
            |(refine gReg (i := 8) ?_;refine C_plain [(0,0)] (by kernel_rfl) (s := [⟨0,none,_,_,_⟩]) rfl ?_)))
        |(refine C_true rfl ?_)
        |(refine C_false rfl ?_)
        |(refine C_split rfl ?_ ?_ <;> (intro hb;(try simp only [decide_eq_true_eq] at hb);(try simp only [decide_eq_false_iff_not] at hb);(try simp only [Bool.not_eq_true'] at hb);(try simp only [Bool.not_eq_false'] at hb);(try (exfalso;first|contradiction|omega));(try (have hx := nthD (l := l) (k := k) hb));(try (have hx' := hp hb))))
        |(refine C_skip ?_)
        |(refine C_exit ?_)
        |(refine C_ret ?_)
        |(refine C_block ?_)))
    |(refine gE ?_;(first
        |(refine E_then ?_)
        |(refine E_thenX ?_)
        |(refine E_thenR ?_)
        |(refine E_block ?_)
        |(refine E_blockY ?_)
        |(refine E_blockR ?_)
        |(refine E_calm ?_)
        |(refine E_blockX rfl ?_)
        |(apply E_ret1 rfl;(first|exact Res.tmp rfl|(apply R_cellAll rfl;(focus ((repeat (first|exact mH|refine mT ?_));done));exact T.rw50)|(apply R_cell1 rfl;(focus ((repeat (first|exact mH|refine mT ?_));done));fail)))
        |(apply E_ret2 rfl;(first|exact Res.tmp rfl|(apply R_cellAll rfl;(focus ((repeat (first|exact mH|refine mT ?_));done));exact T.rw50)|(apply R_cell1 rfl;(focus ((repeat (first|exact mH|refine mT ?_));done));fail));(first|exact Res.tmp rfl|(apply R_cellAll rfl;(focus ((repeat (first|exact mH|refine mT ?_));done));exact T.rw50)|(apply R_cell1 rfl;(focus ((repeat (first|exact mH|refine mT ?_));done));fail)))
        | (apply E_ret3 rfl; (first | exact Res.tmp rfl | (apply R_cellAll rfl; (focus ((repeat (first | exact List.Mem.head _ | refine List.Mem.tail _ ?_)); done)); exact T.rw50) | (apply R_cell1 rfl; (focus ((repeat (first | exact List.Mem.head _ | refine List.Mem.tail _ ?_)); done)); fail)); (first | exact Res.tmp rfl | (apply R_cellAll rfl; (focus ((repeat (first | exact List.Mem.head _ | refine List.Mem.tail _ ?_)); done)); exact T.rw50) | (apply R_cell1 rfl; (focus ((repeat (first | exact List.Mem.head _ | refine List.Mem.tail _ ?_)); done)); fail)); (first | exact Res.tmp rfl | (apply R_cellAll rfl; (focus ((repeat (first | exact List.Mem.head _ | refine List.Mem.tail _ ?_)); done)); exact T.rw50) | (apply R_cell1 rfl; (focus ((repeat (first | exact List.Mem.head _ | refine List.Mem.tail _ ?_)); done)); fail))))))
  · refine retN ?_
    have hb : decide (ix l k = ix m k) = false := by first | assumption | (simp only [decide_eq_false_iff_not]; assumption) | (simp only [decide_eq_false_iff_not]; intro h; simp_all)
    have : l ≠ m := fun e => by subst e; simp at hb
    simp [this]
  · refine E_round (α := Nat) (k + 1) ?_ ?_ ?_ ?_
    · have hb : ix l k = ix m k := by first | exact of_decide_eq_true (by assumption) | omega | simp_all
      exact ⟨by omega, by rw [take_snoc hx, take_snoc hx', ha, hb]⟩
    · omega
    · exact ⟨rfl, rfl, rfl, trivial⟩
    · exact List.nil_sublist _
  · refine retN ?_
    have e : k = l.length := by omega
    subst e
    have : l = m := by rw [List.take_length, hl, List.take_length] at ha; exact ha
    simp [this]
theorem markSFibHop_c (x : MSFibHop) (k : Int) (hk : 0 ≤ k) (hb : k + (mkSFibHop (x.2) : Nat) ≤ 4611686018427387904) {w0 : World} (R : List Blk) (w : World) (hs : St w0 w ([.many (rwSFibHop x)] ++ R)) : Calls Try.prog 21 #[x.1, .int .i64 k] w (RetS w0 R (fun y : List MFibHop => y.length = x.2.length ∧ hdSFibHop (y) k ∧ mkSFibHop (y) = mkSFibHop (x.2)) (fun _ => .int .i64 (k + (mkSFibHop (x.2) : Nat))) (fun y => [.many (rwSFibHop (x.1, y))])) := by
  obtain ⟨v, l⟩ := x
  dsimp only at *
  have hs' : St w0 w (.row v 50 2 l.length (l.flatMap clFibHop) :: R) := (show Ent w0 _ _ from by (focus (apply Ent.flat;(simp only [List.length_append,List.length_cons,List.length_nil,Nat.zero_add,flat_many,flat_row,flat_blk,flat_append,flat_nil,List.map_append,List.map_cons,List.map_nil,List.flatMap_append,List.flatMap_cons,List.flatMap_nil,List.append_assoc,List.append_nil,List.nil_append,List.cons_append,Row.blk_mk,rwSFibHop,rwFibCell,rwSFibCell,rwSFibOld,rwFibReader,rwSFibReader,rwFibStore]);((repeat (first|exact Pull.nil|(apply Pull.app;(focus ((repeat (first|exact PickA.here|exact PickA.all|apply PickA.there|apply PickA.over));done)))|(apply Pull.cons;(focus ((repeat (first|exact Pick.here|exact Pick.last|apply Pick.there|apply Pick.over));done)))|(apply Pull.atom;(focus ((repeat (first|exact PickA.here|exact PickA.all|apply PickA.there|apply PickA.over));done)))));done)))) _ hs
  have hlen : l.length ≤ maxLen := (Mem.row hs' (by (focus ((repeat (first|exact mH|refine mT ?_));done)))).len
  simp only [maxLen] at hlen
  refine enterS (n := 27) (E := [(0, _), (1, _)]) Try.func21 rfl rfl rfl rfl hs' ?_
  repeat' (first
    |(refine gS ?_;(first
        |(refine S_move rfl rfl ?_)
        |(refine S_assign rfl rfl ?_)
        |(apply F_field rfl rfl;(first|exact T.fl50_0|exact T.fl50_1))
        |(apply F_fieldS rfl rfl;(first|exact T.fl50_0|exact T.fl50_1);(focus (first|exact len_nil|(apply len_given;assumption)|(apply len_row;(focus ((repeat (first|exact mH|refine mT ?_));done)))|(apply len_isN;assumption)));(focus omega))
        |(apply F_idx rfl rfl rfl;exact T.sl31;(focus rfl);(focus (first|exact len_nil|(apply len_given;assumption)|(apply len_row;(focus ((repeat (first|exact mH|refine mT ?_));done)))|(apply len_isN;assumption)));(focus omega))
        |(apply F_idxZ rfl rfl rfl;exact T.sl31;(focus omega);(focus (first|exact len_nil|(apply len_given;assumption)|(apply len_row;(focus ((repeat (first|exact mH|refine mT ?_));done)))|(apply len_isN;assumption)));(focus omega))
        |(refine gStore ?_;(first
            |(apply F_store1 rfl rfl;(focus (first|rfl|assumption));exact T.sc3;(focus ((repeat (first|exact Upd.here|apply Upd.there));done));(focus ((repeat (first|exact SetSeg.nil|apply SetSeg.here|apply SetSeg.there));done));(first|exact okst2|exact okst1|exact okst1'))
            |(apply F_storeM0 rfl rfl;(focus ((repeat (first|exact Upd.here|apply Upd.there));done));(focus assumption);exact T.sc3;(focus (first|rfl|assumption));(focus ((repeat (first|exact SetSeg.nil|apply SetSeg.here|apply SetSeg.there));done));(focus omega);(first|exact okst2|exact okst1|exact okst1'))
            |(apply F_storeM1 rfl rfl;(focus ((repeat (first|exact Upd.here|apply Upd.there));done));(focus assumption);exact T.sc3;(focus (first|rfl|assumption));(focus ((repeat (first|exact SetSeg.nil|apply SetSeg.here|apply SetSeg.there));done));(focus omega);(first|exact okst2|exact okst1|exact okst1'))
            |(apply F_storeS1 rfl rfl;(focus ((repeat (first|exact Upd.here|apply Upd.there));done));exact T.sc3;(focus (first|rfl|assumption));(focus omega);(first|exact okst2|exact okst1|exact okst1'))))
        |(refine gCall ?_;(first
            |(apply F_len rfl rfl rfl;(focus exact ⟨_,_,by exact T.sl31⟩);(focus (first|exact len_nil|(apply len_given;assumption)|(apply len_row;(focus ((repeat (first|exact mH|refine mT ?_));done)))|(apply len_isN;assumption))))))
        |(refine gBin ?_;(first
            |(refine S_lss rfl rfl rfl ?_)
            |(refine S_add rfl rfl ?_ rfl ?_;(focus (unfold rng;omega)))))
        |(refine S_done ?_)))
    |(refine gC ?_;(first
        |(refine C_seq ?_)
        |(refine gReg ?_;(first
            |(refine gReg (i := 0) ?_;refine C_plain [(0,0)] (by kernel_rfl) (s := [⟨0,none,_,_,_⟩]) rfl ?_)
            |(refine gReg (i := 1) ?_;refine C_plain [(0,0)] (by kernel_rfl) (s := [⟨0,none,_,_,_⟩]) rfl ?_)
            |(refine gReg (i := 2) ?_;refine C_plain [(0,0),(1,0),(2,0),(3,0)] (by kernel_rfl) (s := [⟨0,none,_,_,_⟩,⟨0,none,_,_,_⟩,⟨0,none,_,_,_⟩,⟨0,none,_,_,_⟩]) rfl ?_)
            |(refine gReg (i := 4) ?_;refine C_plain [(0,0),(1,0),(2,0),(3,0),(4,0),(5,2)] (by kernel_rfl) (s := [⟨0,none,_,_,_⟩,⟨0,none,_,_,_⟩,⟨0,none,_,_,_⟩,⟨0,none,_,_,_⟩,⟨0,none,_,_,_⟩,⟨2,none,_,_,_⟩]) rfl ?_)
            |(refine gReg (i := 5) ?_;refine C_plain [(0,0),(1,0),(2,0)] (by kernel_rfl) (s := [⟨0,none,_,_,_⟩,⟨0,none,_,_,_⟩,⟨0,none,_,_,_⟩]) rfl ?_)
            |(refine gReg (i := 6) ?_;refine C_plain [(0,0),(1,0),(2,0),(3,0),(4,0),(5,2)] (by kernel_rfl) (s := [⟨0,none,_,_,_⟩,⟨0,none,_,_,_⟩,⟨0,none,_,_,_⟩,⟨0,none,_,_,_⟩,⟨0,none,_,_,_⟩,⟨2,none,_,_,_⟩]) rfl ?_)
            |(refine gReg (i := 7) ?_;refine C_plain [(0,0),(1,0),(2,0)] (by kernel_rfl) (s := [⟨0,none,_,_,_⟩,⟨0,none,_,_,_⟩,⟨0,none,_,_,_⟩]) rfl ?_)
            |(refine gReg (i := 3) ?_;refine C_plain [(0,0),(1,0),(2,0)] (by kernel_rfl) (s := [⟨0,none,_,_,_⟩,⟨0,none,_,_,_⟩,⟨0,none,_,_,_⟩]) rfl ?_)
            |(refine gReg (i := 8) ?_;refine C_plain [(0,0),(1,0)] (by kernel_rfl) (s := [⟨0,none,_,_,_⟩,⟨0,none,_,_,_⟩]) rfl ?_)))
        |(refine C_true rfl ?_)
        |(refine C_false rfl ?_)
        |(refine C_split rfl ?_ ?_ <;> (intro hb;(try simp only [decide_eq_true_eq] at hb);(try simp only [decide_eq_false_iff_not] at hb);(try simp only [Bool.not_eq_true'] at hb);(try simp only [Bool.not_eq_false'] at hb);(try (exfalso;first|contradiction|omega))))
        |(refine C_skip ?_)
        |(refine C_exit ?_)
        |(refine C_ret ?_)
        |(refine C_block ?_)))
    |(refine gE ?_;(first
        |(refine E_then ?_)
        |(refine E_thenX ?_)
        |(refine E_thenR ?_)
        |(refine E_block ?_)
        |(refine E_blockY ?_)
        |(refine E_blockR ?_)
        |(refine E_calm ?_)
        |(refine E_blockX rfl ?_)
        |(apply E_ret1 rfl;(first|exact Res.tmp rfl|(apply R_cellAll rfl;(focus ((repeat (first|exact mH|refine mT ?_));done));fail)|(apply R_cell1 rfl;(focus ((repeat (first|exact mH|refine mT ?_));done));exact T.sc3)))
        |(apply E_ret2 rfl;(first|exact Res.tmp rfl|(apply R_cellAll rfl;(focus ((repeat (first|exact mH|refine mT ?_));done));fail)|(apply R_cell1 rfl;(focus ((repeat (first|exact mH|refine mT ?_));done));exact T.sc3));(first|exact Res.tmp rfl|(apply R_cellAll rfl;(focus ((repeat (first|exact mH|refine mT ?_));done));fail)|(apply R_cell1 rfl;(focus ((repeat (first|exact mH|refine mT ?_));done));exact T.sc3)))
        | (apply E_ret3 rfl; (first | exact Res.tmp rfl | (apply R_cellAll rfl; (focus ((repeat (first | exact List.Mem.head _ | refine List.Mem.tail _ ?_)); done)); fail) | (apply R_cell1 rfl; (focus ((repeat (first | exact List.Mem.head _ | refine List.Mem.tail _ ?_)); done)); exact T.sc3)); (first | exact Res.tmp rfl | (apply R_cellAll rfl; (focus ((repeat (first | exact List.Mem.head _ | refine List.Mem.tail _ ?_)); done)); fail) | (apply R_cell1 rfl; (focus ((repeat (first | exact List.Mem.head _ | refine List.Mem.tail _ ?_)); done)); exact T.sc3)); (first | exact Res.tmp rfl | (apply R_cellAll rfl; (focus ((repeat (first | exact List.Mem.head _ | refine List.Mem.tail _ ?_)); done)); fail) | (apply R_cell1 rfl; (focus ((repeat (first | exact List.Mem.head _ | refine List.Mem.tail _ ?_)); done)); exact T.sc3))))))
  refine C_loop (α := Nat × List MFibHop × List MFibHop × Int) (fun s => [(5, .int .i64 (s.1 : Int)), (1, .int .i64 s.2.2.2), (0, v)]) (fun s => .row v 50 2 l.length (s.2.1.flatMap clFibHop ++ s.2.2.1.flatMap clFibHop) :: R) (fun s => s.2.1.length = s.1 ∧ s.1 + s.2.2.1.length = l.length ∧ s.2.2.2 = k + (mkSFibHop (s.2.1) : Nat) ∧ mkSFibHop (s.2.1) + mkSFibHop (s.2.2.1) = mkSFibHop (l) ∧ hdSFibHop (s.2.1) k) (fun s => l.length - s.1) (0, [], l, k) ⟨rfl, by simp, by simp [mkSFibHop], by simp [mkSFibHop], trivial⟩ ⟨rfl, rfl, rfl, trivial⟩ (List.Sublist.refl _) ?_
  rintro ⟨i, dn, rest, kc⟩ ⟨hdn, hrest, hkc, hmk, hhd⟩
  dsimp only at *
  cases rest with
  | nil =>
    have hi : i = l.length := by simpa using hrest
    subst hi
    repeat' (first
      |(refine gS ?_;(first
          |(refine S_move rfl rfl ?_)
          |(refine S_assign rfl rfl ?_)
          |(apply F_field rfl rfl;(first|exact T.fl50_0|exact T.fl50_1))
          |(apply F_fieldS rfl rfl;(first|exact T.fl50_0|exact T.fl50_1);(focus (first|exact len_nil|(apply len_given;assumption)|(apply len_row;(focus ((repeat (first|exact mH|refine mT ?_));done)))|(apply len_isN;assumption)));(focus omega))
          |(apply F_idx rfl rfl rfl;exact T.sl31;(focus rfl);(focus (first|exact len_nil|(apply len_given;assumption)|(apply len_row;(focus ((repeat (first|exact mH|refine mT ?_));done)))|(apply len_isN;assumption)));(focus omega))
          |(apply F_idxZ rfl rfl rfl;exact T.sl31;(focus omega);(focus (first|exact len_nil|(apply len_given;assumption)|(apply len_row;(focus ((repeat (first|exact mH|refine mT ?_));done)))|(apply len_isN;assumption)));(focus omega))
          |(refine gStore ?_;(first
              |(apply F_store1 rfl rfl;(focus (first|rfl|assumption));exact T.sc3;(focus ((repeat (first|exact Upd.here|apply Upd.there));done));(focus ((repeat (first|exact SetSeg.nil|apply SetSeg.here|apply SetSeg.there));done));(first|exact okst2|exact okst1|exact okst1'))
              |(apply F_storeM0 rfl rfl;(focus ((repeat (first|exact Upd.here|apply Upd.there));done));(focus assumption);exact T.sc3;(focus (first|rfl|assumption));(focus ((repeat (first|exact SetSeg.nil|apply SetSeg.here|apply SetSeg.there));done));(focus omega);(first|exact okst2|exact okst1|exact okst1'))
              |(apply F_storeM1 rfl rfl;(focus ((repeat (first|exact Upd.here|apply Upd.there));done));(focus assumption);exact T.sc3;(focus (first|rfl|assumption));(focus ((repeat (first|exact SetSeg.nil|apply SetSeg.here|apply SetSeg.there));done));(focus omega);(first|exact okst2|exact okst1|exact okst1'))
              |(apply F_storeS1 rfl rfl;(focus ((repeat (first|exact Upd.here|apply Upd.there));done));exact T.sc3;(focus (first|rfl|assumption));(focus omega);(first|exact okst2|exact okst1|exact okst1'))))
          |(refine gCall ?_;(first
              |(apply F_len rfl rfl rfl;(focus exact ⟨_,_,by exact T.sl31⟩);(focus (first|exact len_nil|(apply len_given;assumption)|(apply len_row;(focus ((repeat (first|exact mH|refine mT ?_));done)))|(apply len_isN;assumption))))))
          |(refine gBin ?_;(first
              |(refine S_lss rfl rfl rfl ?_)
              |(refine S_add rfl rfl ?_ rfl ?_;(focus (unfold rng;omega)))))
          |(refine S_done ?_)))
      |(refine gC ?_;(first
          |(refine C_seq ?_)
          |(refine gReg ?_;(first
              |(refine gReg (i := 0) ?_;refine C_plain [(0,0)] (by kernel_rfl) (s := [⟨0,none,_,_,_⟩]) rfl ?_)
              |(refine gReg (i := 1) ?_;refine C_plain [(0,0)] (by kernel_rfl) (s := [⟨0,none,_,_,_⟩]) rfl ?_)
              |(refine gReg (i := 2) ?_;refine C_plain [(0,0),(1,0),(2,0),(3,0)] (by kernel_rfl) (s := [⟨0,none,_,_,_⟩,⟨0,none,_,_,_⟩,⟨0,none,_,_,_⟩,⟨0,none,_,_,_⟩]) rfl ?_)
              |(refine gReg (i := 4) ?_;refine C_plain [(0,0),(1,0),(2,0),(3,0),(4,0),(5,2)] (by kernel_rfl) (s := [⟨0,none,_,_,_⟩,⟨0,none,_,_,_⟩,⟨0,none,_,_,_⟩,⟨0,none,_,_,_⟩,⟨0,none,_,_,_⟩,⟨2,none,_,_,_⟩]) rfl ?_)
              |(refine gReg (i := 5) ?_;refine C_plain [(0,0),(1,0),(2,0)] (by kernel_rfl) (s := [⟨0,none,_,_,_⟩,⟨0,none,_,_,_⟩,⟨0,none,_,_,_⟩]) rfl ?_)
              |(refine gReg (i := 6) ?_;refine C_plain [(0,0),(1,0),(2,0),(3,0),(4,0),(5,2)] (by kernel_rfl) (s := [⟨0,none,_,_,_⟩,⟨0,none,_,_,_⟩,⟨0,none,_,_,_⟩,⟨0,none,_,_,_⟩,⟨0,none,_,_,_⟩,⟨2,none,_,_,_⟩]) rfl ?_)
              |(refine gReg (i := 7) ?_;refine C_plain [(0,0),(1,0),(2,0)] (by kernel_rfl) (s := [⟨0,none,_,_,_⟩,⟨0,none,_,_,_⟩,⟨0,none,_,_,_⟩]) rfl ?_)
              |(refine gReg (i := 3) ?_;refine C_plain [(0,0),(1,0),(2,0)] (by kernel_rfl) (s := [⟨0,none,_,_,_⟩,⟨0,none,_,_,_⟩,⟨0,none,_,_,_⟩]) rfl ?_)
              |(refine gReg (i := 8) ?_;refine C_plain [(0,0),(1,0)] (by kernel_rfl) (s := [⟨0,none,_,_,_⟩,⟨0,none,_,_,_⟩]) rfl ?_)))
          |(refine C_true rfl ?_)
          |(refine C_false rfl ?_)
          |(refine C_split rfl ?_ ?_ <;> (intro hb;(try simp only [decide_eq_true_eq] at hb);(try simp only [decide_eq_false_iff_not] at hb);(try simp only [Bool.not_eq_true'] at hb);(try simp only [Bool.not_eq_false'] at hb);(try (exfalso;first|contradiction|omega))))
          |(refine C_skip ?_)
          |(refine C_exit ?_)
          |(refine C_ret ?_)
          |(refine C_block ?_)))
      |(refine gE ?_;(first
          |(refine E_then ?_)
          |(refine E_thenX ?_)
          |(refine E_thenR ?_)
          |(refine E_block ?_)
          |(refine E_blockY ?_)
          |(refine E_blockR ?_)
          |(refine E_calm ?_)
          |(refine E_blockX rfl ?_)
          |(apply E_ret1 rfl;(first|exact Res.tmp rfl|(apply R_cellAll rfl;(focus ((repeat (first|exact mH|refine mT ?_));done));fail)|(apply R_cell1 rfl;(focus ((repeat (first|exact mH|refine mT ?_));done));exact T.sc3)))
          |(apply E_ret2 rfl;(first|exact Res.tmp rfl|(apply R_cellAll rfl;(focus ((repeat (first|exact mH|refine mT ?_));done));fail)|(apply R_cell1 rfl;(focus ((repeat (first|exact mH|refine mT ?_));done));exact T.sc3));(first|exact Res.tmp rfl|(apply R_cellAll rfl;(focus ((repeat (first|exact mH|refine mT ?_));done));fail)|(apply R_cell1 rfl;(focus ((repeat (first|exact mH|refine mT ?_));done));exact T.sc3)))
          | (apply E_ret3 rfl; (first | exact Res.tmp rfl | (apply R_cellAll rfl; (focus ((repeat (first | exact List.Mem.head _ | refine List.Mem.tail _ ?_)); done)); fail) | (apply R_cell1 rfl; (focus ((repeat (first | exact List.Mem.head _ | refine List.Mem.tail _ ?_)); done)); exact T.sc3)); (first | exact Res.tmp rfl | (apply R_cellAll rfl; (focus ((repeat (first | exact List.Mem.head _ | refine List.Mem.tail _ ?_)); done)); fail) | (apply R_cell1 rfl; (focus ((repeat (first | exact List.Mem.head _ | refine List.Mem.tail _ ?_)); done)); exact T.sc3)); (first | exact Res.tmp rfl | (apply R_cellAll rfl; (focus ((repeat (first | exact List.Mem.head _ | refine List.Mem.tail _ ?_)); done)); fail) | (apply R_cell1 rfl; (focus ((repeat (first | exact List.Mem.head _ | refine List.Mem.tail _ ?_)); done)); exact T.sc3))))))
    have hmk' : mkSFibHop (dn) = mkSFibHop (l) := by simpa [mkSFibHop] using hmk
    refine retS dn ⟨hdn, hhd, hmk'⟩ ?_ ?_
    · congr 1; rw [hkc, hmk']
    · rw [← hdn];exact (by (focus (apply Ent.flat;(simp only [List.length_append,List.length_cons,List.length_nil,Nat.zero_add,flat_many,flat_row,flat_blk,flat_append,flat_nil,List.map_append,List.map_cons,List.map_nil,List.flatMap_append,List.flatMap_cons,List.flatMap_nil,List.append_assoc,List.append_nil,List.nil_append,List.cons_append,Row.blk_mk,rwSFibHop,rwFibCell,rwSFibCell,rwSFibOld,rwFibReader,rwSFibReader,rwFibStore]);((repeat (first|exact Pull.nil|(apply Pull.app;(focus ((repeat (first|exact PickA.here|exact PickA.all|apply PickA.there|apply PickA.over));done)))|(apply Pull.cons;(focus ((repeat (first|exact Pick.here|exact Pick.last|apply Pick.there|apply Pick.over));done)))|(apply Pull.atom;(focus ((repeat (first|exact PickA.here|exact PickA.all|apply PickA.there|apply PickA.over));done)))));done))))
  | cons x rest =>
    have hlt : i < l.length := by simp at hrest; omega
    have hA : (dn.flatMap clFibHop).length = i * 2 := by rw [flat_len (m := 2) (fun _ => rfl), hdn]
    have hmx : mkSFibHop (x :: rest) = mkFSFibHop x + mkSFibHop (rest) := by simp only [mkSFibHop, List.map_cons, List.sum_cons]
    have hme : mkFSFibHop x = 2 := rfl
    rw [List.flatMap_cons]
    repeat' (first
      |(refine gS ?_;(first
          |(refine S_move rfl rfl ?_)
          |(refine S_assign rfl rfl ?_)
          |(apply F_field rfl rfl;(first|exact T.fl50_0|exact T.fl50_1))
          |(apply F_fieldS rfl rfl;(first|exact T.fl50_0|exact T.fl50_1);(focus (first|exact len_nil|(apply len_given;assumption)|(apply len_row;(focus ((repeat (first|exact mH|refine mT ?_));done)))|(apply len_isN;assumption)));(focus omega))
          |(apply F_idx rfl rfl rfl;exact T.sl31;(focus rfl);(focus (first|exact len_nil|(apply len_given;assumption)|(apply len_row;(focus ((repeat (first|exact mH|refine mT ?_));done)))|(apply len_isN;assumption)));(focus omega))
          |(apply F_idxZ rfl rfl rfl;exact T.sl31;(focus omega);(focus (first|exact len_nil|(apply len_given;assumption)|(apply len_row;(focus ((repeat (first|exact mH|refine mT ?_));done)))|(apply len_isN;assumption)));(focus omega))
          |(refine gStore ?_;(first
              |(apply F_store1 rfl rfl;(focus (first|rfl|assumption));exact T.sc3;(focus ((repeat (first|exact Upd.here|apply Upd.there));done));(focus ((repeat (first|exact SetSeg.nil|apply SetSeg.here|apply SetSeg.there));done));(first|exact okst2|exact okst1|exact okst1'))
              |(apply F_storeM0 rfl rfl;(focus ((repeat (first|exact Upd.here|apply Upd.there));done));(focus assumption);exact T.sc3;(focus (first|rfl|assumption));(focus ((repeat (first|exact SetSeg.nil|apply SetSeg.here|apply SetSeg.there));done));(focus omega);(first|exact okst2|exact okst1|exact okst1'))
              |(apply F_storeM1 rfl rfl;(focus ((repeat (first|exact Upd.here|apply Upd.there));done));(focus assumption);exact T.sc3;(focus (first|rfl|assumption));(focus ((repeat (first|exact SetSeg.nil|apply SetSeg.here|apply SetSeg.there));done));(focus omega);(first|exact okst2|exact okst1|exact okst1'))
              |(apply F_storeS1 rfl rfl;(focus ((repeat (first|exact Upd.here|apply Upd.there));done));exact T.sc3;(focus (first|rfl|assumption));(focus omega);(first|exact okst2|exact okst1|exact okst1'))))
          |(refine gCall ?_;(first
              |(apply F_len rfl rfl rfl;(focus exact ⟨_,_,by exact T.sl31⟩);(focus (first|exact len_nil|(apply len_given;assumption)|(apply len_row;(focus ((repeat (first|exact mH|refine mT ?_));done)))|(apply len_isN;assumption))))))
          |(refine gBin ?_;(first
              |(refine S_lss rfl rfl rfl ?_)
              |(refine S_add rfl rfl ?_ rfl ?_;(focus (unfold rng;omega)))))
          |(refine S_done ?_)))
      |(refine gC ?_;(first
          |(refine C_seq ?_)
          |(refine gReg ?_;(first
              |(refine gReg (i := 0) ?_;refine C_plain [(0,0)] (by kernel_rfl) (s := [⟨0,none,_,_,_⟩]) rfl ?_)
              |(refine gReg (i := 1) ?_;refine C_plain [(0,0)] (by kernel_rfl) (s := [⟨0,none,_,_,_⟩]) rfl ?_)
              |(refine gReg (i := 2) ?_;refine C_plain [(0,0),(1,0),(2,0),(3,0)] (by kernel_rfl) (s := [⟨0,none,_,_,_⟩,⟨0,none,_,_,_⟩,⟨0,none,_,_,_⟩,⟨0,none,_,_,_⟩]) rfl ?_)
              |(refine gReg (i := 4) ?_;refine C_plain [(0,0),(1,0),(2,0),(3,0),(4,0),(5,2)] (by kernel_rfl) (s := [⟨0,none,_,_,_⟩,⟨0,none,_,_,_⟩,⟨0,none,_,_,_⟩,⟨0,none,_,_,_⟩,⟨0,none,_,_,_⟩,⟨2,none,_,_,_⟩]) rfl ?_)
              |(refine gReg (i := 5) ?_;refine C_plain [(0,0),(1,0),(2,0)] (by kernel_rfl) (s := [⟨0,none,_,_,_⟩,⟨0,none,_,_,_⟩,⟨0,none,_,_,_⟩]) rfl ?_)
              |(refine gReg (i := 6) ?_;refine C_plain [(0,0),(1,0),(2,0),(3,0),(4,0),(5,2)] (by kernel_rfl) (s := [⟨0,none,_,_,_⟩,⟨0,none,_,_,_⟩,⟨0,none,_,_,_⟩,⟨0,none,_,_,_⟩,⟨0,none,_,_,_⟩,⟨2,none,_,_,_⟩]) rfl ?_)
              |(refine gReg (i := 7) ?_;refine C_plain [(0,0),(1,0),(2,0)] (by kernel_rfl) (s := [⟨0,none,_,_,_⟩,⟨0,none,_,_,_⟩,⟨0,none,_,_,_⟩]) rfl ?_)
              |(refine gReg (i := 3) ?_;refine C_plain [(0,0),(1,0),(2,0)] (by kernel_rfl) (s := [⟨0,none,_,_,_⟩,⟨0,none,_,_,_⟩,⟨0,none,_,_,_⟩]) rfl ?_)
              |(refine gReg (i := 8) ?_;refine C_plain [(0,0),(1,0)] (by kernel_rfl) (s := [⟨0,none,_,_,_⟩,⟨0,none,_,_,_⟩]) rfl ?_)))
          |(refine C_true rfl ?_)
          |(refine C_false rfl ?_)
          |(refine C_split rfl ?_ ?_ <;> (intro hb;(try simp only [decide_eq_true_eq] at hb);(try simp only [decide_eq_false_iff_not] at hb);(try simp only [Bool.not_eq_true'] at hb);(try simp only [Bool.not_eq_false'] at hb);(try (exfalso;first|contradiction|omega))))
          |(refine C_skip ?_)
          |(refine C_exit ?_)
          |(refine C_ret ?_)
          |(refine C_block ?_)))
      |(refine gE ?_;(first
          |(refine E_then ?_)
          |(refine E_thenX ?_)
          |(refine E_thenR ?_)
          |(refine E_block ?_)
          |(refine E_blockY ?_)
          |(refine E_blockR ?_)
          |(refine E_calm ?_)
          |(refine E_blockX rfl ?_)
          |(apply E_ret1 rfl;(first|exact Res.tmp rfl|(apply R_cellAll rfl;(focus ((repeat (first|exact mH|refine mT ?_));done));fail)|(apply R_cell1 rfl;(focus ((repeat (first|exact mH|refine mT ?_));done));exact T.sc3)))
          |(apply E_ret2 rfl;(first|exact Res.tmp rfl|(apply R_cellAll rfl;(focus ((repeat (first|exact mH|refine mT ?_));done));fail)|(apply R_cell1 rfl;(focus ((repeat (first|exact mH|refine mT ?_));done));exact T.sc3));(first|exact Res.tmp rfl|(apply R_cellAll rfl;(focus ((repeat (first|exact mH|refine mT ?_));done));fail)|(apply R_cell1 rfl;(focus ((repeat (first|exact mH|refine mT ?_));done));exact T.sc3)))
          | (apply E_ret3 rfl; (first | exact Res.tmp rfl | (apply R_cellAll rfl; (focus ((repeat (first | exact List.Mem.head _ | refine List.Mem.tail _ ?_)); done)); fail) | (apply R_cell1 rfl; (focus ((repeat (first | exact List.Mem.head _ | refine List.Mem.tail _ ?_)); done)); exact T.sc3)); (first | exact Res.tmp rfl | (apply R_cellAll rfl; (focus ((repeat (first | exact List.Mem.head _ | refine List.Mem.tail _ ?_)); done)); fail) | (apply R_cell1 rfl; (focus ((repeat (first | exact List.Mem.head _ | refine List.Mem.tail _ ?_)); done)); exact T.sc3)); (first | exact Res.tmp rfl | (apply R_cellAll rfl; (focus ((repeat (first | exact List.Mem.head _ | refine List.Mem.tail _ ?_)); done)); fail) | (apply R_cell1 rfl; (focus ((repeat (first | exact List.Mem.head _ | refine List.Mem.tail _ ?_)); done)); exact T.sc3))))))
    have hsn : ∀ y : MFibHop, hdFSFibHop y kc → mkFSFibHop y = mkFSFibHop x → hdSFibHop (dn ++ [y]) k ∧ mkSFibHop (dn ++ [y]) = mkSFibHop (dn) + mkFSFibHop x := fun y h1 h2 => by
      rw [hkc] at h1
      exact ⟨Held.snoc hhd h1, by simp only [mkSFibHop, List.map_append, List.sum_append, List.map_singleton, List.sum_singleton] at *; omega⟩
    refine E_roundS (α := Nat × List MFibHop × List MFibHop × Int) (i + 1,dn ++ [(kc,kc + 1)],rest,_) ((fun q => ⟨by simp [hdn],by simp only [List.length_cons] at hrest;dsimp only;omega,by dsimp only;rw [q.2];omega,by dsimp only;rw [q.2];omega,q.1⟩) (hsn _ ?_ ?_)) (by dsimp only;omega) ⟨rfl,rfl,rfl,trivial⟩ (by (focus (apply Ent.flat;(simp only [List.length_append,List.length_cons,List.length_nil,Nat.zero_add,flat_many,flat_row,flat_blk,flat_append,flat_nil,List.map_append,List.map_cons,List.map_nil,List.flatMap_append,List.flatMap_cons,List.flatMap_nil,List.append_assoc,List.append_nil,List.nil_append,List.cons_append,Row.blk_mk,rwSFibHop,rwFibCell,rwSFibCell,rwSFibOld,rwFibReader,rwSFibReader,rwFibStore]);((repeat (first|exact Pull.nil|(apply Pull.app;(focus ((repeat (first|exact PickA.here|exact PickA.all|apply PickA.there|apply PickA.over));done)))|(apply Pull.cons;(focus ((repeat (first|exact Pick.here|exact Pick.last|apply Pick.there|apply Pick.over));done)))|(apply Pull.atom;(focus ((repeat (first|exact PickA.here|exact PickA.all|apply PickA.there|apply PickA.over));done)))));done))))
    · exact ⟨by first | rfl | (dsimp only [id]; omega), by first | rfl | (dsimp only [id]; omega)⟩
    · rfl
theorem heldSFibHop_c (x : MSFibHop) (k : Int) (hk : 0 ≤ k) (hb : k + (mkSFibHop (x.2) : Nat) ≤ 4611686018427387904) (hh : hdSFibHop (x.2) k) (w : World) (hx : Rds w (rwSFibHop x)) : Calls Try.prog 22 #[x.1, .int .i64 k] w (RetN (.int .i64 (k + (mkSFibHop (x.2) : Nat))) w) := by
  obtain ⟨v, l⟩ := x
  have hm := Rds.head hx
  have hlen := hm.len
  simp only [maxLen] at hlen
  dsimp only at *
  refine enter (n := 31) (E := [(0, _), (1, _)]) Try.func22 rfl rfl rfl rfl ?_
  repeat' (first
    |(refine gS ?_;(first
        |(refine S_move rfl rfl ?_)
        |(refine S_assign rfl rfl ?_)
        |(apply F_field rfl rfl;(first|exact T.fl50_0|exact T.fl50_1))
        |(apply F_fieldS rfl rfl;(first|exact T.fl50_0|exact T.fl50_1);(focus (first|exact len_nil|(apply len_given;assumption)|(apply len_row;(focus ((repeat (first|exact mH|refine mT ?_));done)))|(apply len_isN;assumption)));(focus omega))
        |(apply F_idx rfl rfl rfl;exact T.sl31;(focus rfl);(focus (first|exact len_nil|(apply len_given;assumption)|(apply len_row;(focus ((repeat (first|exact mH|refine mT ?_));done)))|(apply len_isN;assumption)));(focus omega))
        |(apply F_idxZ rfl rfl rfl;exact T.sl31;(focus omega);(focus (first|exact len_nil|(apply len_given;assumption)|(apply len_row;(focus ((repeat (first|exact mH|refine mT ?_));done)))|(apply len_isN;assumption)));(focus omega))
        |(refine gLoad ?_;(first
            |(apply F_load1 rfl rfl;(focus ((repeat (first|exact mH|refine mT ?_));done));exact T.sc3;rfl;(focus (first|exact free0|exact free1)))
            |(apply F_loadS1 rfl rfl;exact T.sc3;(focus (first|exact rd_nil|(apply rd_given;(focus assumption);(focus (first|exact freeG0|exact freeG1)))|(apply rd_row;(focus ((repeat (first|exact mH|refine mT ?_));done));(focus (first|exact freeR0|exact freeR1)))));(focus (first|(apply at_cell;(focus (apply at_flat;(focus (intro _;rfl));(focus assumption)));rfl)|(apply at_cell0;(focus (apply at_flat;(focus (intro _;rfl));(focus assumption)));rfl)|(apply at_cell;(focus (apply at_mid0;(focus assumption)));rfl)|(apply at_cell0;(focus (apply at_mid0;(focus assumption)));rfl)|rfl)))))
        |(refine gCall ?_;(first
            |(apply F_len rfl rfl rfl;(focus exact ⟨_,_,by exact T.sl31⟩);(focus (first|exact len_nil|(apply len_given;assumption)|(apply len_row;(focus ((repeat (first|exact mH|refine mT ?_));done)))|(apply len_isN;assumption))))))
        |(refine gBin ?_;(first
            |(refine S_lss rfl rfl rfl ?_)
            |(refine S_neq rfl rfl rfl ?_)
            |(refine S_add rfl rfl ?_ rfl ?_;(focus (unfold rng;omega)))
            |(refine S_neqB Try.underlying4 rfl rfl rfl ?_)))
        |(refine S_done ?_)))
    |(refine gC ?_;(first
        |(refine C_seq ?_)
        |(refine gReg ?_;(first
            |(refine gReg (i := 0) ?_;refine C_plain [(0,0)] (by kernel_rfl) (s := [⟨0,none,_,_,_⟩]) rfl ?_)
            |(refine gReg (i := 1) ?_;refine C_plain [(0,0)] (by kernel_rfl) (s := [⟨0,none,_,_,_⟩]) rfl ?_)
            |(refine gReg (i := 2) ?_;refine C_plain [(0,0),(1,0),(2,0),(3,0)] (by kernel_rfl) (s := [⟨0,none,_,_,_⟩,⟨0,none,_,_,_⟩,⟨0,none,_,_,_⟩,⟨0,none,_,_,_⟩]) rfl ?_)
            |(refine gReg (i := 4) ?_;refine C_plain [(0,0),(1,0),(2,0),(3,0),(4,0),(5,0),(6,0)] (by kernel_rfl) (s := [⟨0,none,_,_,_⟩,⟨0,none,_,_,_⟩,⟨0,none,_,_,_⟩,⟨0,none,_,_,_⟩,⟨0,none,_,_,_⟩,⟨0,none,_,_,_⟩,⟨0,none,_,_,_⟩]) rfl ?_)
            |(refine gReg (i := 5) ?_;refine C_plain [(0,0)] (by kernel_rfl) (s := [⟨0,none,_,_,_⟩]) rfl ?_)
            |(refine gReg (i := 6) ?_;refine C_plain [(0,0),(1,0),(2,0)] (by kernel_rfl) (s := [⟨0,none,_,_,_⟩,⟨0,none,_,_,_⟩,⟨0,none,_,_,_⟩]) rfl ?_)
            |(refine gReg (i := 7) ?_;refine C_plain [(0,0),(1,0),(2,0),(3,0),(4,0),(5,0),(6,0)] (by kernel_rfl) (s := [⟨0,none,_,_,_⟩,⟨0,none,_,_,_⟩,⟨0,none,_,_,_⟩,⟨0,none,_,_,_⟩,⟨0,none,_,_,_⟩,⟨0,none,_,_,_⟩,⟨0,none,_,_,_⟩]) rfl ?_)
            |(refine gReg (i := 8) ?_;refine C_plain [(0,0)] (by kernel_rfl) (s := [⟨0,none,_,_,_⟩]) rfl ?_)
            |(refine gReg (i := 9) ?_;refine C_plain [(0,0),(1,0),(2,0)] (by kernel_rfl) (s := [⟨0,none,_,_,_⟩,⟨0,none,_,_,_⟩,⟨0,none,_,_,_⟩]) rfl ?_)
            |(refine gReg (i := 3) ?_;refine C_plain [(0,0),(1,0),(2,0)] (by kernel_rfl) (s := [⟨0,none,_,_,_⟩,⟨0,none,_,_,_⟩,⟨0,none,_,_,_⟩]) rfl ?_)
            |(refine gReg (i := 10) ?_;refine C_plain [(0,0),(1,0)] (by kernel_rfl) (s := [⟨0,none,_,_,_⟩,⟨0,none,_,_,_⟩]) rfl ?_)))
        |(refine C_true rfl ?_)
        |(refine C_false rfl ?_)
        |(refine C_split rfl ?_ ?_ <;> (intro hb;(try simp only [decide_eq_true_eq] at hb);(try simp only [decide_eq_false_iff_not] at hb);(try simp only [Bool.not_eq_true'] at hb);(try simp only [Bool.not_eq_false'] at hb);(try (exfalso;first|contradiction|omega))))
        |(refine C_skip ?_)
        |(refine C_exit ?_)
        |(refine C_ret ?_)
        |(refine C_block ?_)))
    |(refine gE ?_;(first
        |(refine E_then ?_)
        |(refine E_thenX ?_)
        |(refine E_thenR ?_)
        |(refine E_block ?_)
        |(refine E_blockY ?_)
        |(refine E_blockR ?_)
        |(refine E_calm ?_)
        |(refine E_blockX rfl ?_)
        |(apply E_ret1 rfl;(first|exact Res.tmp rfl|(apply R_cellAll rfl;(focus ((repeat (first|exact mH|refine mT ?_));done));fail)|(apply R_cell1 rfl;(focus ((repeat (first|exact mH|refine mT ?_));done));exact T.sc3)))
        |(apply E_ret2 rfl;(first|exact Res.tmp rfl|(apply R_cellAll rfl;(focus ((repeat (first|exact mH|refine mT ?_));done));fail)|(apply R_cell1 rfl;(focus ((repeat (first|exact mH|refine mT ?_));done));exact T.sc3));(first|exact Res.tmp rfl|(apply R_cellAll rfl;(focus ((repeat (first|exact mH|refine mT ?_));done));fail)|(apply R_cell1 rfl;(focus ((repeat (first|exact mH|refine mT ?_));done));exact T.sc3)))
        | (apply E_ret3 rfl; (first | exact Res.tmp rfl | (apply R_cellAll rfl; (focus ((repeat (first | exact List.Mem.head _ | refine List.Mem.tail _ ?_)); done)); fail) | (apply R_cell1 rfl; (focus ((repeat (first | exact List.Mem.head _ | refine List.Mem.tail _ ?_)); done)); exact T.sc3)); (first | exact Res.tmp rfl | (apply R_cellAll rfl; (focus ((repeat (first | exact List.Mem.head _ | refine List.Mem.tail _ ?_)); done)); fail) | (apply R_cell1 rfl; (focus ((repeat (first | exact List.Mem.head _ | refine List.Mem.tail _ ?_)); done)); exact T.sc3)); (first | exact Res.tmp rfl | (apply R_cellAll rfl; (focus ((repeat (first | exact List.Mem.head _ | refine List.Mem.tail _ ?_)); done)); fail) | (apply R_cell1 rfl; (focus ((repeat (first | exact List.Mem.head _ | refine List.Mem.tail _ ?_)); done)); exact T.sc3))))))
  refine C_loop (α := Nat × Int) (fun s => [(5, .int .i64 (s.1 : Int)), (1, .int .i64 s.2), (0, v)]) (fun _ => []) (fun s => s.1 ≤ l.length ∧ s.2 = k + (pre mkFSFibHop (l) s.1 : Nat)) (fun s => l.length - s.1) (0, k) ⟨Nat.zero_le _, by simp [pre_zero]⟩ ⟨rfl, rfl, rfl, trivial⟩ (List.Sublist.refl _) ?_
  rintro ⟨i, kc⟩ ⟨hi, hkc⟩
  dsimp only at *
  have htot : mkSFibHop (l) = ((l).map mkFSFibHop).sum := rfl
  have ht0 := pre_le mkFSFibHop (l) i
  have ht1 := pre_le mkFSFibHop (l) (i + 1)
  rcases Nat.lt_or_ge i l.length with hlt | hge
  · obtain ⟨x, hx⟩ : ∃ x, l[i]? = some x := ⟨_, List.getElem?_eq_getElem hlt⟩
    have hxc : (l)[i]? = some x := by exact hx
    have hel := Held.at hh hxc
    have hps := pre_succ (mk := mkFSFibHop) hxc
    rw [← hkc] at hel
    obtain ⟨e0, e1⟩ := x
    simp only [hdFSFibHop] at hel
    obtain ⟨g0, g1⟩ := hel
    subst g0
    subst g1
    simp only [mkFSFibHop] at hps
    repeat' (first
      |(refine gS ?_;(first
          |(refine S_move rfl rfl ?_)
          |(refine S_assign rfl rfl ?_)
          |(apply F_field rfl rfl;(first|exact T.fl50_0|exact T.fl50_1))
          |(apply F_fieldS rfl rfl;(first|exact T.fl50_0|exact T.fl50_1);(focus (first|exact len_nil|(apply len_given;assumption)|(apply len_row;(focus ((repeat (first|exact mH|refine mT ?_));done)))|(apply len_isN;assumption)));(focus omega))
          |(apply F_idx rfl rfl rfl;exact T.sl31;(focus rfl);(focus (first|exact len_nil|(apply len_given;assumption)|(apply len_row;(focus ((repeat (first|exact mH|refine mT ?_));done)))|(apply len_isN;assumption)));(focus omega))
          |(apply F_idxZ rfl rfl rfl;exact T.sl31;(focus omega);(focus (first|exact len_nil|(apply len_given;assumption)|(apply len_row;(focus ((repeat (first|exact mH|refine mT ?_));done)))|(apply len_isN;assumption)));(focus omega))
          |(refine gLoad ?_;(first
              |(apply F_load1 rfl rfl;(focus ((repeat (first|exact mH|refine mT ?_));done));exact T.sc3;rfl;(focus (first|exact free0|exact free1)))
              |(apply F_loadS1 rfl rfl;exact T.sc3;(focus (first|exact rd_nil|(apply rd_given;(focus assumption);(focus (first|exact freeG0|exact freeG1)))|(apply rd_row;(focus ((repeat (first|exact mH|refine mT ?_));done));(focus (first|exact freeR0|exact freeR1)))));(focus (first|(apply at_cell;(focus (apply at_flat;(focus (intro _;rfl));(focus assumption)));rfl)|(apply at_cell0;(focus (apply at_flat;(focus (intro _;rfl));(focus assumption)));rfl)|(apply at_cell;(focus (apply at_mid0;(focus assumption)));rfl)|(apply at_cell0;(focus (apply at_mid0;(focus assumption)));rfl)|rfl)))))
          |(refine gCall ?_;(first
              |(apply F_len rfl rfl rfl;(focus exact ⟨_,_,by exact T.sl31⟩);(focus (first|exact len_nil|(apply len_given;assumption)|(apply len_row;(focus ((repeat (first|exact mH|refine mT ?_));done)))|(apply len_isN;assumption))))))
          |(refine gBin ?_;(first
              |(refine S_lss rfl rfl rfl ?_)
              |(refine S_neq rfl rfl rfl ?_)
              |(refine S_add rfl rfl ?_ rfl ?_;(focus (unfold rng;omega)))
              |(refine S_neqB Try.underlying4 rfl rfl rfl ?_)))
          |(refine S_done ?_)))
      |(refine gC ?_;(first
          |(refine C_seq ?_)
          |(refine gReg ?_;(first
              |(refine gReg (i := 0) ?_;refine C_plain [(0,0)] (by kernel_rfl) (s := [⟨0,none,_,_,_⟩]) rfl ?_)
              |(refine gReg (i := 1) ?_;refine C_plain [(0,0)] (by kernel_rfl) (s := [⟨0,none,_,_,_⟩]) rfl ?_)
              |(refine gReg (i := 2) ?_;refine C_plain [(0,0),(1,0),(2,0),(3,0)] (by kernel_rfl) (s := [⟨0,none,_,_,_⟩,⟨0,none,_,_,_⟩,⟨0,none,_,_,_⟩,⟨0,none,_,_,_⟩]) rfl ?_)
              |(refine gReg (i := 4) ?_;refine C_plain [(0,0),(1,0),(2,0),(3,0),(4,0),(5,0),(6,0)] (by kernel_rfl) (s := [⟨0,none,_,_,_⟩,⟨0,none,_,_,_⟩,⟨0,none,_,_,_⟩,⟨0,none,_,_,_⟩,⟨0,none,_,_,_⟩,⟨0,none,_,_,_⟩,⟨0,none,_,_,_⟩]) rfl ?_)
              |(refine gReg (i := 5) ?_;refine C_plain [(0,0)] (by kernel_rfl) (s := [⟨0,none,_,_,_⟩]) rfl ?_)
              |(refine gReg (i := 6) ?_;refine C_plain [(0,0),(1,0),(2,0)] (by kernel_rfl) (s := [⟨0,none,_,_,_⟩,⟨0,none,_,_,_⟩,⟨0,none,_,_,_⟩]) rfl ?_)
              |(refine gReg (i := 7) ?_;refine C_plain [(0,0),(1,0),(2,0),(3,0),(4,0),(5,0),(6,0)] (by kernel_rfl) (s := [⟨0,none,_,_,_⟩,⟨0,none,_,_,_⟩,⟨0,none,_,_,_⟩,⟨0,none,_,_,_⟩,⟨0,none,_,_,_⟩,⟨0,none,_,_,_⟩,⟨0,none,_,_,_⟩]) rfl ?_)
              |(refine gReg (i := 8) ?_;refine C_plain [(0,0)] (by kernel_rfl) (s := [⟨0,none,_,_,_⟩]) rfl ?_)
              |(refine gReg (i := 9) ?_;refine C_plain [(0,0),(1,0),(2,0)] (by kernel_rfl) (s := [⟨0,none,_,_,_⟩,⟨0,none,_,_,_⟩,⟨0,none,_,_,_⟩]) rfl ?_)
              |(refine gReg (i := 3) ?_;refine C_plain [(0,0),(1,0),(2,0)] (by kernel_rfl) (s := [⟨0,none,_,_,_⟩,⟨0,none,_,_,_⟩,⟨0,none,_,_,_⟩]) rfl ?_)
              |(refine gReg (i := 10) ?_;refine C_plain [(0,0),(1,0)] (by kernel_rfl) (s := [⟨0,none,_,_,_⟩,⟨0,none,_,_,_⟩]) rfl ?_)))
          |(refine C_true rfl ?_)
          |(refine C_false rfl ?_)
          |(refine C_split rfl ?_ ?_ <;> (intro hb;(try simp only [decide_eq_true_eq] at hb);(try simp only [decide_eq_false_iff_not] at hb);(try simp only [Bool.not_eq_true'] at hb);(try simp only [Bool.not_eq_false'] at hb);(try (exfalso;first|contradiction|omega));(try ((exfalso;simp [Int.add_assoc] at hb;done)))))
          |(refine C_skip ?_)
          |(refine C_exit ?_)
          |(refine C_ret ?_)
          |(refine C_block ?_)))
      |(refine gE ?_;(first
          |(refine E_then ?_)
          |(refine E_thenX ?_)
          |(refine E_thenR ?_)
          |(refine E_block ?_)
          |(refine E_blockY ?_)
          |(refine E_blockR ?_)
          |(refine E_calm ?_)
          |(refine E_blockX rfl ?_)
          |(apply E_ret1 rfl;(first|exact Res.tmp rfl|(apply R_cellAll rfl;(focus ((repeat (first|exact mH|refine mT ?_));done));fail)|(apply R_cell1 rfl;(focus ((repeat (first|exact mH|refine mT ?_));done));exact T.sc3)))
          |(apply E_ret2 rfl;(first|exact Res.tmp rfl|(apply R_cellAll rfl;(focus ((repeat (first|exact mH|refine mT ?_));done));fail)|(apply R_cell1 rfl;(focus ((repeat (first|exact mH|refine mT ?_));done));exact T.sc3));(first|exact Res.tmp rfl|(apply R_cellAll rfl;(focus ((repeat (first|exact mH|refine mT ?_));done));fail)|(apply R_cell1 rfl;(focus ((repeat (first|exact mH|refine mT ?_));done));exact T.sc3)))
          | (apply E_ret3 rfl; (first | exact Res.tmp rfl | (apply R_cellAll rfl; (focus ((repeat (first | exact List.Mem.head _ | refine List.Mem.tail _ ?_)); done)); fail) | (apply R_cell1 rfl; (focus ((repeat (first | exact List.Mem.head _ | refine List.Mem.tail _ ?_)); done)); exact T.sc3)); (first | exact Res.tmp rfl | (apply R_cellAll rfl; (focus ((repeat (first | exact List.Mem.head _ | refine List.Mem.tail _ ?_)); done)); fail) | (apply R_cell1 rfl; (focus ((repeat (first | exact List.Mem.head _ | refine List.Mem.tail _ ?_)); done)); exact T.sc3)); (first | exact Res.tmp rfl | (apply R_cellAll rfl; (focus ((repeat (first | exact List.Mem.head _ | refine List.Mem.tail _ ?_)); done)); fail) | (apply R_cell1 rfl; (focus ((repeat (first | exact List.Mem.head _ | refine List.Mem.tail _ ?_)); done)); exact T.sc3))))))
    refine E_round (α := Nat × Int) (i + 1, _) ?_ ?_ ⟨rfl, rfl, rfl, trivial⟩ (List.nil_sublist _)
    · dsimp only; omega
    · dsimp only; omega
  · have hi' : i = l.length := by omega
    subst hi'
    have he := pre_end mkFSFibHop (l)
    repeat' (first
      |(refine gS ?_;(first
          |(refine S_move rfl rfl ?_)
          |(refine S_assign rfl rfl ?_)
          |(apply F_field rfl rfl;(first|exact T.fl50_0|exact T.fl50_1))
          |(apply F_fieldS rfl rfl;(first|exact T.fl50_0|exact T.fl50_1);(focus (first|exact len_nil|(apply len_given;assumption)|(apply len_row;(focus ((repeat (first|exact mH|refine mT ?_));done)))|(apply len_isN;assumption)));(focus omega))
          |(apply F_idx rfl rfl rfl;exact T.sl31;(focus rfl);(focus (first|exact len_nil|(apply len_given;assumption)|(apply len_row;(focus ((repeat (first|exact mH|refine mT ?_));done)))|(apply len_isN;assumption)));(focus omega))
          |(apply F_idxZ rfl rfl rfl;exact T.sl31;(focus omega);(focus (first|exact len_nil|(apply len_given;assumption)|(apply len_row;(focus ((repeat (first|exact mH|refine mT ?_));done)))|(apply len_isN;assumption)));(focus omega))
          |(refine gLoad ?_;(first
              |(apply F_load1 rfl rfl;(focus ((repeat (first|exact mH|refine mT ?_));done));exact T.sc3;rfl;(focus (first|exact free0|exact free1)))
              |(apply F_loadS1 rfl rfl;exact T.sc3;(focus (first|exact rd_nil|(apply rd_given;(focus assumption);(focus (first|exact freeG0|exact freeG1)))|(apply rd_row;(focus ((repeat (first|exact mH|refine mT ?_));done));(focus (first|exact freeR0|exact freeR1)))));(focus (first|(apply at_cell;(focus (apply at_flat;(focus (intro _;rfl));(focus assumption)));rfl)|(apply at_cell0;(focus (apply at_flat;(focus (intro _;rfl));(focus assumption)));rfl)|(apply at_cell;(focus (apply at_mid0;(focus assumption)));rfl)|(apply at_cell0;(focus (apply at_mid0;(focus assumption)));rfl)|rfl)))))
          |(refine gCall ?_;(first
              |(apply F_len rfl rfl rfl;(focus exact ⟨_,_,by exact T.sl31⟩);(focus (first|exact len_nil|(apply len_given;assumption)|(apply len_row;(focus ((repeat (first|exact mH|refine mT ?_));done)))|(apply len_isN;assumption))))))
          |(refine gBin ?_;(first
              |(refine S_lss rfl rfl rfl ?_)
              |(refine S_neq rfl rfl rfl ?_)
              |(refine S_add rfl rfl ?_ rfl ?_;(focus (unfold rng;omega)))
              |(refine S_neqB Try.underlying4 rfl rfl rfl ?_)))
          |(refine S_done ?_)))
      |(refine gC ?_;(first
          |(refine C_seq ?_)
          |(refine gReg ?_;(first
              |(refine gReg (i := 0) ?_;refine C_plain [(0,0)] (by kernel_rfl) (s := [⟨0,none,_,_,_⟩]) rfl ?_)
              |(refine gReg (i := 1) ?_;refine C_plain [(0,0)] (by kernel_rfl) (s := [⟨0,none,_,_,_⟩]) rfl ?_)
              |(refine gReg (i := 2) ?_;refine C_plain [(0,0),(1,0),(2,0),(3,0)] (by kernel_rfl) (s := [⟨0,none,_,_,_⟩,⟨0,none,_,_,_⟩,⟨0,none,_,_,_⟩,⟨0,none,_,_,_⟩]) rfl ?_)
              |(refine gReg (i := 4) ?_;refine C_plain [(0,0),(1,0),(2,0),(3,0),(4,0),(5,0),(6,0)] (by kernel_rfl) (s := [⟨0,none,_,_,_⟩,⟨0,none,_,_,_⟩,⟨0,none,_,_,_⟩,⟨0,none,_,_,_⟩,⟨0,none,_,_,_⟩,⟨0,none,_,_,_⟩,⟨0,none,_,_,_⟩]) rfl ?_)
              |(refine gReg (i := 5) ?_;refine C_plain [(0,0)] (by kernel_rfl) (s := [⟨0,none,_,_,_⟩]) rfl ?_)
              |(refine gReg (i := 6) ?_;refine C_plain [(0,0),(1,0),(2,0)] (by kernel_rfl) (s := [⟨0,none,_,_,_⟩,⟨0,none,_,_,_⟩,⟨0,none,_,_,_⟩]) rfl ?_)
              |(refine gReg (i := 7) ?_;refine C_plain [(0,0),(1,0),(2,0),(3,0),(4,0),(5,0),(6,0)] (by kernel_rfl) (s := [⟨0,none,_,_,_⟩,⟨0,none,_,_,_⟩,⟨0,none,_,_,_⟩,⟨0,none,_,_,_⟩,⟨0,none,_,_,_⟩,⟨0,none,_,_,_⟩,⟨0,none,_,_,_⟩]) rfl ?_)
              |(refine gReg (i := 8) ?_;refine C_plain [(0,0)] (by kernel_rfl) (s := [⟨0,none,_,_,_⟩]) rfl ?_)
              |(refine gReg (i := 9) ?_;refine C_plain [(0,0),(1,0),(2,0)] (by kernel_rfl) (s := [⟨0,none,_,_,_⟩,⟨0,none,_,_,_⟩,⟨0,none,_,_,_⟩]) rfl ?_)
              |(refine gReg (i := 3) ?_;refine C_plain [(0,0),(1,0),(2,0)] (by kernel_rfl) (s := [⟨0,none,_,_,_⟩,⟨0,none,_,_,_⟩,⟨0,none,_,_,_⟩]) rfl ?_)
              |(refine gReg (i := 10) ?_;refine C_plain [(0,0),(1,0)] (by kernel_rfl) (s := [⟨0,none,_,_,_⟩,⟨0,none,_,_,_⟩]) rfl ?_)))
          |(refine C_true rfl ?_)
          |(refine C_false rfl ?_)
          |(refine C_split rfl ?_ ?_ <;> (intro hb;(try simp only [decide_eq_true_eq] at hb);(try simp only [decide_eq_false_iff_not] at hb);(try simp only [Bool.not_eq_true'] at hb);(try simp only [Bool.not_eq_false'] at hb);(try (exfalso;first|contradiction|omega))))
          |(refine C_skip ?_)
          |(refine C_exit ?_)
          |(refine C_ret ?_)
          |(refine C_block ?_)))
      |(refine gE ?_;(first
          |(refine E_then ?_)
          |(refine E_thenX ?_)
          |(refine E_thenR ?_)
          |(refine E_block ?_)
          |(refine E_blockY ?_)
          |(refine E_blockR ?_)
          |(refine E_calm ?_)
          |(refine E_blockX rfl ?_)
          |(apply E_ret1 rfl;(first|exact Res.tmp rfl|(apply R_cellAll rfl;(focus ((repeat (first|exact mH|refine mT ?_));done));fail)|(apply R_cell1 rfl;(focus ((repeat (first|exact mH|refine mT ?_));done));exact T.sc3)))
          |(apply E_ret2 rfl;(first|exact Res.tmp rfl|(apply R_cellAll rfl;(focus ((repeat (first|exact mH|refine mT ?_));done));fail)|(apply R_cell1 rfl;(focus ((repeat (first|exact mH|refine mT ?_));done));exact T.sc3));(first|exact Res.tmp rfl|(apply R_cellAll rfl;(focus ((repeat (first|exact mH|refine mT ?_));done));fail)|(apply R_cell1 rfl;(focus ((repeat (first|exact mH|refine mT ?_));done));exact T.sc3)))
          | (apply E_ret3 rfl; (first | exact Res.tmp rfl | (apply R_cellAll rfl; (focus ((repeat (first | exact List.Mem.head _ | refine List.Mem.tail _ ?_)); done)); fail) | (apply R_cell1 rfl; (focus ((repeat (first | exact List.Mem.head _ | refine List.Mem.tail _ ?_)); done)); exact T.sc3)); (first | exact Res.tmp rfl | (apply R_cellAll rfl; (focus ((repeat (first | exact List.Mem.head _ | refine List.Mem.tail _ ?_)); done)); fail) | (apply R_cell1 rfl; (focus ((repeat (first | exact List.Mem.head _ | refine List.Mem.tail _ ?_)); done)); exact T.sc3)); (first | exact Res.tmp rfl | (apply R_cellAll rfl; (focus ((repeat (first | exact List.Mem.head _ | refine List.Mem.tail _ ?_)); done)); fail) | (apply R_cell1 rfl; (focus ((repeat (first | exact List.Mem.head _ | refine List.Mem.tail _ ?_)); done)); exact T.sc3))))))
    all_goals (refine retN ?_; congr 1; omega)
theorem eqFibCell_c (x y : MFibCell) (w : World) (hx : Rds w (rwFibCell x)) (hy : Rds w (rwFibCell y)) : Calls Try.prog 18 #[.agg (clFibCell x).toArray, .agg (clFibCell y).toArray] w (RetN (.bool (decide (ctFibCell x = ctFibCell y))) w) := by
  have hx3 : Rds w (rwSFibHop (x.2.2.2)) := hx
  have hy3 : Rds w (rwSFibHop (y.2.2.2)) := hy
  refine enter (n := 26) (E := [(0, _), (1, _)]) Try.func18 rfl rfl rfl rfl ?_
  repeat' (first
    |(refine gS ?_;(first
        |(refine S_move rfl rfl ?_)
        |(refine S_assign rfl rfl ?_)
        |(apply F_field rfl rfl;(first|exact T.fl33_0|exact T.fl33_1|exact T.fl33_2|exact T.fl33_3))
        |(refine gLoad ?_;(first
            |(apply F_load1 rfl rfl;(focus ((repeat (first|exact mH|refine mT ?_));done));(first|exact T.sc3|exact T.sc4|exact T.sc31);rfl;(focus (first|exact free0|exact free1)))))
        |(refine gCall ?_;(first
            |(show GoS _ _ _ _ _ _ _ (⟨_,_,_,.call ⟨.value (.func 23),_,_⟩,_⟩ :: _);refine S_callN (f := 23) rfl T.pf23 rfl (fun w hst => eqSFibHop_c _ _ w (by first|(refine Rds.given hst ?_;assumption)|(apply Rds.many hst;(focus ((repeat (first|exact mH|refine mT ?_));done)))|(apply Rds.row hst;(focus ((repeat (first|exact mH|refine mT ?_));done)))) (by first|(refine Rds.given hst ?_;assumption)|(apply Rds.many hst;(focus ((repeat (first|exact mH|refine mT ?_));done)))|(apply Rds.row hst;(focus ((repeat (first|exact mH|refine mT ?_));done))))) rfl ?_)))
        |(refine gBin ?_;(first
            |(refine S_neq rfl rfl rfl ?_)
            |(refine S_neqB Try.underlying4 rfl rfl rfl ?_)))
        |(refine S_box rfl rfl rfl ?_;intro kb)
        |(refine S_not rfl rfl ?_)
        |(refine S_done ?_)
        |(refine S_box1 rfl rfl rfl rfl ?_;intro kb)))
    |(refine gC ?_;(first
        |(refine C_seq ?_)
        |(refine gReg ?_;(first
            |(refine gReg (i := 0) ?_;refine C_plain [(0,2),(1,2),(2,0)] (by kernel_rfl) (s := [⟨2,none,_,_,_⟩,⟨2,none,_,_,_⟩,⟨0,none,_,_,_⟩]) rfl ?_)
            |(refine gReg (i := 1) ?_;refine C_plain [(0,0),(1,0),(2,0),(3,0),(4,0)] (by kernel_rfl) (s := [⟨0,none,_,_,_⟩,⟨0,none,_,_,_⟩,⟨0,none,_,_,_⟩,⟨0,none,_,_,_⟩,⟨0,none,_,_,_⟩]) rfl ?_)
            |(refine gReg (i := 2) ?_;refine C_plain [(0,0)] (by kernel_rfl) (s := [⟨0,none,_,_,_⟩]) rfl ?_)
            |(refine gReg (i := 3) ?_;refine C_plain [(0,0),(1,0),(2,0),(3,0),(4,0)] (by kernel_rfl) (s := [⟨0,none,_,_,_⟩,⟨0,none,_,_,_⟩,⟨0,none,_,_,_⟩,⟨0,none,_,_,_⟩,⟨0,none,_,_,_⟩]) rfl ?_)
            |(refine gReg (i := 4) ?_;refine C_plain [(0,0)] (by kernel_rfl) (s := [⟨0,none,_,_,_⟩]) rfl ?_)
            |(refine gReg (i := 5) ?_;refine C_plain [(0,0),(1,0),(2,0),(3,0),(4,0)] (by kernel_rfl) (s := [⟨0,none,_,_,_⟩,⟨0,none,_,_,_⟩,⟨0,none,_,_,_⟩,⟨0,none,_,_,_⟩,⟨0,none,_,_,_⟩]) rfl ?_)
            |(refine gReg (i := 6) ?_;refine C_plain [(0,0)] (by kernel_rfl) (s := [⟨0,none,_,_,_⟩]) rfl ?_)
            |(refine gReg (i := 7) ?_;refine C_plain [(0,0),(1,0),(2,0),(3,0),(4,2),(5,0)] (by kernel_rfl) (s := [⟨0,none,_,_,_⟩,⟨0,none,_,_,_⟩,⟨0,none,_,_,_⟩,⟨0,none,_,_,_⟩,⟨2,none,_,_,_⟩,⟨0,none,_,_,_⟩]) rfl ?_)
            |(refine gReg (i := 8) ?_;refine C_plain [(0,0)] (by kernel_rfl) (s := [⟨0,none,_,_,_⟩]) rfl ?_)
            |(refine gReg (i := 9) ?_;refine C_plain [(0,0)] (by kernel_rfl) (s := [⟨0,none,_,_,_⟩]) rfl ?_)))
        |(refine C_true rfl ?_)
        |(refine C_false rfl ?_)
        |(refine C_split rfl ?_ ?_ <;> (intro hb;(try simp only [decide_eq_true_eq] at hb);(try simp only [decide_eq_false_iff_not] at hb);(try simp only [Bool.not_eq_true'] at hb);(try simp only [Bool.not_eq_false'] at hb);(try (exfalso;first|contradiction|omega))))
        |(refine C_skip ?_)
        |(refine C_exit ?_)
        |(refine C_ret ?_)
        |(refine C_block ?_)))
    |(refine gE ?_;(first
        |(refine E_then ?_)
        |(refine E_thenX ?_)
        |(refine E_thenR ?_)
        |(refine E_block ?_)
        |(refine E_blockY ?_)
        |(refine E_blockR ?_)
        |(refine E_calm ?_)
        |(refine E_blockX rfl ?_)
        |(apply E_ret1 rfl;(first|exact Res.tmp rfl|(apply R_cellAll rfl;(focus ((repeat (first|exact mH|refine mT ?_));done));fail)|(apply R_cell1 rfl;(focus ((repeat (first|exact mH|refine mT ?_));done));(first|exact T.sc3|exact T.sc4|exact T.sc31))))
        |(apply E_ret2 rfl;(first|exact Res.tmp rfl|(apply R_cellAll rfl;(focus ((repeat (first|exact mH|refine mT ?_));done));fail)|(apply R_cell1 rfl;(focus ((repeat (first|exact mH|refine mT ?_));done));(first|exact T.sc3|exact T.sc4|exact T.sc31)));(first|exact Res.tmp rfl|(apply R_cellAll rfl;(focus ((repeat (first|exact mH|refine mT ?_));done));fail)|(apply R_cell1 rfl;(focus ((repeat (first|exact mH|refine mT ?_));done));(first|exact T.sc3|exact T.sc4|exact T.sc31))))
        | (apply E_ret3 rfl; (first | exact Res.tmp rfl | (apply R_cellAll rfl; (focus ((repeat (first | exact List.Mem.head _ | refine List.Mem.tail _ ?_)); done)); fail) | (apply R_cell1 rfl; (focus ((repeat (first | exact List.Mem.head _ | refine List.Mem.tail _ ?_)); done)); (first | exact T.sc3 | exact T.sc4 | exact T.sc31))); (first | exact Res.tmp rfl | (apply R_cellAll rfl; (focus ((repeat (first | exact List.Mem.head _ | refine List.Mem.tail _ ?_)); done)); fail) | (apply R_cell1 rfl; (focus ((repeat (first | exact List.Mem.head _ | refine List.Mem.tail _ ?_)); done)); (first | exact T.sc3 | exact T.sc4 | exact T.sc31))); (first | exact Res.tmp rfl | (apply R_cellAll rfl; (focus ((repeat (first | exact List.Mem.head _ | refine List.Mem.tail _ ?_)); done)); fail) | (apply R_cell1 rfl; (focus ((repeat (first | exact List.Mem.head _ | refine List.Mem.tail _ ?_)); done)); (first | exact T.sc3 | exact T.sc4 | exact T.sc31)))))))
  all_goals (refine retN ?_; simp only [ctFibCell, Prod.mk.injEq]; simp_all)
theorem eqSFibCell_c (x y : MSFibCell) (w : World) (hx : Rds w (rwSFibCell x)) (hy : Rds w (rwSFibCell y)) : Calls Try.prog 9 #[x.1, y.1] w (RetN (.bool (decide (x.2.map ctFibCell = y.2.map ctFibCell))) w) := by
  obtain ⟨v, l⟩ := x
  have hm := Rds.head hx
  have hlen := hm.len
  simp only [maxLen] at hlen
  have hr := Rds.flatMap.1 (Rds.tail hx)
  dsimp only at *
  obtain ⟨u, m⟩ := y
  have hm2 := Rds.head hy
  have hr2 := Rds.flatMap.1 (Rds.tail hy)
  dsimp only at *
  refine enter (n := 27) (E := [(0, _), (1, _)]) Try.func9 rfl rfl rfl rfl ?_
  repeat' (first
    |(refine gS ?_;(first
        |(refine S_move rfl rfl ?_)
        |(refine S_assign rfl rfl ?_)
        |(apply F_idx rfl rfl rfl;exact T.sl22;(focus rfl);(focus (first|exact len_nil|(apply len_given;assumption)|(apply len_row;(focus ((repeat (first|exact mH|refine mT ?_));done)))|(apply len_isN;assumption)));(focus omega))
        |(apply F_idxZ rfl rfl rfl;exact T.sl22;(focus omega);(focus (first|exact len_nil|(apply len_given;assumption)|(apply len_row;(focus ((repeat (first|exact mH|refine mT ?_));done)))|(apply len_isN;assumption)));(focus omega))
        |(refine gLoad ?_;(first
            |(apply F_loadAll rfl rfl;(focus ((repeat (first|exact mH|refine mT ?_));done));exact T.rw33;(focus (first|exact free0|exact free1)))
            |(apply F_loadP rfl rfl;(focus ((repeat (first|exact mH|refine mT ?_));done));exact T.rw33;(focus ((repeat (first|exact Take.nil|apply Take.here|apply Take.there));done));rfl;(focus (first|exact free0|exact free1)))
            |(apply F_loadSN rfl rfl;exact T.rw33;(focus (first|exact rd_nil|(apply rd_given;(focus assumption);(focus (first|exact freeG0|exact freeG1)))|(apply rd_row;(focus ((repeat (first|exact mH|refine mT ?_));done));(focus (first|exact freeR0|exact freeR1)))));(focus (first|(focus (apply at_flat;(focus (intro _;rfl));(focus assumption)))|exact at_self));rfl;rfl)
            |(apply F_loadSP rfl rfl;exact T.rw33;(focus (first|exact rd_nil|(apply rd_given;(focus assumption);(focus (first|exact freeG0|exact freeG1)))|(apply rd_row;(focus ((repeat (first|exact mH|refine mT ?_));done));(focus (first|exact freeR0|exact freeR1)))));(focus (apply at_flat;(focus (intro _;rfl));(focus assumption)));(focus ((repeat (first|exact Take.nil|apply Take.here|apply Take.there));done));rfl;rfl)))
        |(refine gCall ?_;(first
            |(apply F_len rfl rfl rfl;(focus exact ⟨_,_,by exact T.sl22⟩);(focus (first|exact len_nil|(apply len_given;assumption)|(apply len_row;(focus ((repeat (first|exact mH|refine mT ?_));done)))|(apply len_isN;assumption))))))
        |(refine gBin ?_;(first
            |(refine S_lss rfl rfl rfl ?_)
            |(refine S_neq rfl rfl rfl ?_)
            |(refine S_add rfl rfl ?_ rfl ?_;(focus (unfold rng;omega)))
            |(refine S_neqB Try.underlying4 rfl rfl rfl ?_)))
        |(refine S_not rfl rfl ?_)
        |(refine S_done ?_)))
    |(refine gC ?_;(first
        |(refine C_seq ?_)
        |(refine gReg ?_;(first
            |(refine gReg (i := 0) ?_;refine C_plain [(0,0)] (by kernel_rfl) (s := [⟨0,none,_,_,_⟩]) rfl ?_)
            |(refine gReg (i := 1) ?_;refine C_plain [(0,0),(1,0),(2,0),(3,0),(4,0)] (by kernel_rfl) (s := [⟨0,none,_,_,_⟩,⟨0,none,_,_,_⟩,⟨0,none,_,_,_⟩,⟨0,none,_,_,_⟩,⟨0,none,_,_,_⟩]) rfl ?_)
            |(refine gReg (i := 2) ?_;refine C_plain [(0,0)] (by kernel_rfl) (s := [⟨0,none,_,_,_⟩]) rfl ?_)
            |(refine gReg (i := 3) ?_;refine C_plain [(0,0)] (by kernel_rfl) (s := [⟨0,none,_,_,_⟩]) rfl ?_)
            |(refine gReg (i := 4) ?_;refine C_plain [(0,0),(1,0),(2,0),(3,0)] (by kernel_rfl) (s := [⟨0,none,_,_,_⟩,⟨0,none,_,_,_⟩,⟨0,none,_,_,_⟩,⟨0,none,_,_,_⟩]) rfl ?_)
            |(refine gReg (i := 6) ?_;refine C_drawn [(0,0),(1,0),(2,0),(3,0),(4,0),(5,0),(6,0),(7,0),(8,1),(9,0)] [] T.mixed (by kernel_rfl) (s := [⟨0,none,_,_,_⟩,⟨0,none,_,_,_⟩,⟨0,none,_,_,_⟩,⟨0,none,_,_,_⟩,⟨0,none,_,_,_⟩,⟨0,none,_,_,_⟩,⟨0,none,_,_,_⟩,⟨0,none,_,_,_⟩,⟨1,none,_,_,_⟩,⟨0,none,_,_,_⟩]) rfl ?_)
            |(refine gReg (i := 7) ?_;refine C_plain [(0,0)] (by kernel_rfl) (s := [⟨0,none,_,_,_⟩]) rfl ?_)
            |(refine gReg (i := 5) ?_;refine C_plain [(0,0),(1,0),(2,0)] (by kernel_rfl) (s := [⟨0,none,_,_,_⟩,⟨0,none,_,_,_⟩,⟨0,none,_,_,_⟩]) rfl ?_)
            |(refine gReg (i := 8) ?_;refine C_plain [(0,0)] (by kernel_rfl) (s := [⟨0,none,_,_,_⟩]) rfl ?_)))
        |(refine C_true rfl ?_)
        |(refine C_false rfl ?_)
        |(refine C_split rfl ?_ ?_ <;> (intro hb;(try simp only [decide_eq_true_eq] at hb);(try simp only [decide_eq_false_iff_not] at hb);(try simp only [Bool.not_eq_true'] at hb);(try simp only [Bool.not_eq_false'] at hb);(try (exfalso;first|contradiction|omega))))
        |(refine C_skip ?_)
        |(refine C_exit ?_)
        |(refine C_ret ?_)
        |(refine C_block ?_)))
    |(refine gE ?_;(first
        |(refine E_then ?_)
        |(refine E_thenX ?_)
        |(refine E_thenR ?_)
        |(refine E_block ?_)
        |(refine E_blockY ?_)
        |(refine E_blockR ?_)
        |(refine E_calm ?_)
        |(refine E_blockX rfl ?_)
        |(apply E_ret1 rfl;(first|exact Res.tmp rfl|(apply R_cellAll rfl;(focus ((repeat (first|exact mH|refine mT ?_));done));exact T.rw33)|(apply R_cell1 rfl;(focus ((repeat (first|exact mH|refine mT ?_));done));fail)))
        |(apply E_ret2 rfl;(first|exact Res.tmp rfl|(apply R_cellAll rfl;(focus ((repeat (first|exact mH|refine mT ?_));done));exact T.rw33)|(apply R_cell1 rfl;(focus ((repeat (first|exact mH|refine mT ?_));done));fail));(first|exact Res.tmp rfl|(apply R_cellAll rfl;(focus ((repeat (first|exact mH|refine mT ?_));done));exact T.rw33)|(apply R_cell1 rfl;(focus ((repeat (first|exact mH|refine mT ?_));done));fail)))
        | (apply E_ret3 rfl; (first | exact Res.tmp rfl | (apply R_cellAll rfl; (focus ((repeat (first | exact List.Mem.head _ | refine List.Mem.tail _ ?_)); done)); exact T.rw33) | (apply R_cell1 rfl; (focus ((repeat (first | exact List.Mem.head _ | refine List.Mem.tail _ ?_)); done)); fail)); (first | exact Res.tmp rfl | (apply R_cellAll rfl; (focus ((repeat (first | exact List.Mem.head _ | refine List.Mem.tail _ ?_)); done)); exact T.rw33) | (apply R_cell1 rfl; (focus ((repeat (first | exact List.Mem.head _ | refine List.Mem.tail _ ?_)); done)); fail)); (first | exact Res.tmp rfl | (apply R_cellAll rfl; (focus ((repeat (first | exact List.Mem.head _ | refine List.Mem.tail _ ?_)); done)); exact T.rw33) | (apply R_cell1 rfl; (focus ((repeat (first | exact List.Mem.head _ | refine List.Mem.tail _ ?_)); done)); fail))))))
  · refine retN ?_
    have : (l).map ctFibCell ≠ (m).map ctFibCell := fun e => by
      have := congrArg List.length e
      (try simp only [List.length_map] at this)
      omega
    simp [this]
  have hl : l.length = m.length := by omega
  refine C_loop (α := Nat) (fun k => [(5, .int .i64 (k : Int)), (0, v), (1, u)]) (fun _ => []) (fun k => k ≤ l.length ∧ (l.take k).map ctFibCell = (m.take k).map ctFibCell) (fun k => l.length - k) 0 ⟨by omega, rfl⟩ ⟨rfl, rfl, rfl, trivial⟩ (List.Sublist.refl _) ?_
  rintro k ⟨hk, ha⟩
  have hp : (k : Int) < (l.length : Int) → m[k]? = some (ix m k) := fun h => nthD (by omega)
  have hq : (k : Int) < (l.length : Int) → Rds w (rwFibCell (ix l k)) ∧ Rds w (rwFibCell (ix m k)) := fun h => ⟨hr _ (List.mem_of_getElem? (nthD h)), hr2 _ (List.mem_of_getElem? (hp h))⟩
  try dsimp only
  repeat' (first
    |(refine gS ?_;(first
        |(refine S_move rfl rfl ?_)
        |(refine S_assign rfl rfl ?_)
        |(apply F_idx rfl rfl rfl;exact T.sl22;(focus rfl);(focus (first|exact len_nil|(apply len_given;assumption)|(apply len_row;(focus ((repeat (first|exact mH|refine mT ?_));done)))|(apply len_isN;assumption)));(focus omega))
        |(apply F_idxZ rfl rfl rfl;exact T.sl22;(focus omega);(focus (first|exact len_nil|(apply len_given;assumption)|(apply len_row;(focus ((repeat (first|exact mH|refine mT ?_));done)))|(apply len_isN;assumption)));(focus omega))
        |(refine gLoad ?_;(first
            |(apply F_loadAll rfl rfl;(focus ((repeat (first|exact mH|refine mT ?_));done));exact T.rw33;(focus (first|exact free0|exact free1)))
            |(apply F_loadP rfl rfl;(focus ((repeat (first|exact mH|refine mT ?_));done));exact T.rw33;(focus ((repeat (first|exact Take.nil|apply Take.here|apply Take.there));done));rfl;(focus (first|exact free0|exact free1)))
            |(apply F_loadSN rfl rfl;exact T.rw33;(focus (first|exact rd_nil|(apply rd_given;(focus assumption);(focus (first|exact freeG0|exact freeG1)))|(apply rd_row;(focus ((repeat (first|exact mH|refine mT ?_));done));(focus (first|exact freeR0|exact freeR1)))));(focus (first|(focus (apply at_flat;(focus (intro _;rfl));(focus assumption)))|exact at_self));rfl;rfl)
            |(apply F_loadSP rfl rfl;exact T.rw33;(focus (first|exact rd_nil|(apply rd_given;(focus assumption);(focus (first|exact freeG0|exact freeG1)))|(apply rd_row;(focus ((repeat (first|exact mH|refine mT ?_));done));(focus (first|exact freeR0|exact freeR1)))));(focus (apply at_flat;(focus (intro _;rfl));(focus assumption)));(focus ((repeat (first|exact Take.nil|apply Take.here|apply Take.there));done));rfl;rfl)))
        |(refine gCall ?_;(first
            |(show GoS _ _ _ _ _ _ _ (⟨_,_,_,.call ⟨.value (.func 18),_,_⟩,_⟩ :: _);refine S_callN (f := 18) rfl T.pf18 rfl (fun w hst => eqFibCell_c _ _ w (by first|(refine Rds.given hst ?_;assumption)|(apply Rds.many hst;(focus ((repeat (first|exact mH|refine mT ?_));done)))|(apply Rds.row hst;(focus ((repeat (first|exact mH|refine mT ?_));done)))) (by first|(refine Rds.given hst ?_;assumption)|(apply Rds.many hst;(focus ((repeat (first|exact mH|refine mT ?_));done)))|(apply Rds.row hst;(focus ((repeat (first|exact mH|refine mT ?_));done))))) rfl ?_)
            |(apply F_len rfl rfl rfl;(focus exact ⟨_,_,by exact T.sl22⟩);(focus (first|exact len_nil|(apply len_given;assumption)|(apply len_row;(focus ((repeat (first|exact mH|refine mT ?_));done)))|(apply len_isN;assumption))))))
        |(refine gBin ?_;(first
            |(refine S_lss rfl rfl rfl ?_)
            |(refine S_neq rfl rfl rfl ?_)
            |(refine S_add rfl rfl ?_ rfl ?_;(focus (unfold rng;omega)))
            |(refine S_neqB Try.underlying4 rfl rfl rfl ?_)))
        |(refine S_not rfl rfl ?_)
        |(refine S_done ?_)))
    |(refine gC ?_;(first
        |(refine C_seq ?_)
        |(refine gReg ?_;(first
            |(refine gReg (i := 0) ?_;refine C_plain [(0,0)] (by kernel_rfl) (s := [⟨0,none,_,_,_⟩]) rfl ?_)
            |(refine gReg (i := 1) ?_;refine C_plain [(0,0),(1,0),(2,0),(3,0),(4,0)] (by kernel_rfl) (s := [⟨0,none,_,_,_⟩,⟨0,none,_,_,_⟩,⟨0,none,_,_,_⟩,⟨0,none,_,_,_⟩,⟨0,none,_,_,_⟩]) rfl ?_)
            |(refine gReg (i := 2) ?_;refine C_plain [(0,0)] (by kernel_rfl) (s := [⟨0,none,_,_,_⟩]) rfl ?_)
            |(refine gReg (i := 3) ?_;refine C_plain [(0,0)] (by kernel_rfl) (s := [⟨0,none,_,_,_⟩]) rfl ?_)
            |(refine gReg (i := 4) ?_;refine C_plain [(0,0),(1,0),(2,0),(3,0)] (by kernel_rfl) (s := [⟨0,none,_,_,_⟩,⟨0,none,_,_,_⟩,⟨0,none,_,_,_⟩,⟨0,none,_,_,_⟩]) rfl ?_)
            |(refine gReg (i := 6) ?_;refine C_drawn [(0,0),(1,0),(2,0),(3,0),(4,0),(5,0),(6,0),(7,0),(8,1),(9,0)] [] T.mixed (by kernel_rfl) (s := [⟨0,none,_,_,_⟩,⟨0,none,_,_,_⟩,⟨0,none,_,_,_⟩,⟨0,none,_,_,_⟩,⟨0,none,_,_,_⟩,⟨0,none,_,_,_⟩,⟨0,none,_,_,_⟩,⟨0,none,_,_,_⟩,⟨1,none,_,_,_⟩,⟨0,none,_,_,_⟩]) rfl ?_)
            |(refine gReg (i := 7) ?_;refine C_plain [(0,0)] (by kernel_rfl) (s := [⟨0,none,_,_,_⟩]) rfl ?_)
            |(refine gReg (i := 5) ?_;refine C_plain [(0,0),(1,0),(2,0)] (by kernel_rfl) (s := [⟨0,none,_,_,_⟩,⟨0,none,_,_,_⟩,⟨0,none,_,_,_⟩]) rfl ?_)
            |(refine gReg (i := 8) ?_;refine C_plain [(0,0)] (by kernel_rfl) (s := [⟨0,none,_,_,_⟩]) rfl ?_)))
        |(refine C_true rfl ?_)
        |(refine C_false rfl ?_)
        |(refine C_split rfl ?_ ?_ <;> (intro hb;(try simp only [decide_eq_true_eq] at hb);(try simp only [decide_eq_false_iff_not] at hb);(try simp only [Bool.not_eq_true'] at hb);(try simp only [Bool.not_eq_false'] at hb);(try (exfalso;first|contradiction|omega));(try (have hx := nthD (l := l) (k := k) hb));(try (have hx' := hp hb));(try (have hq1 := (hq hb).1));(try (have hq2 := (hq hb).2))))
        |(refine C_skip ?_)
        |(refine C_exit ?_)
        |(refine C_ret ?_)
        |(refine C_block ?_)))
    |(refine gE ?_;(first
        |(refine E_then ?_)
        |(refine E_thenX ?_)
        |(refine E_thenR ?_)
        |(refine E_block ?_)
        |(refine E_blockY ?_)
        |(refine E_blockR ?_)
        |(refine E_calm ?_)
        |(refine E_blockX rfl ?_)
        |(apply E_ret1 rfl;(first|exact Res.tmp rfl|(apply R_cellAll rfl;(focus ((repeat (first|exact mH|refine mT ?_));done));exact T.rw33)|(apply R_cell1 rfl;(focus ((repeat (first|exact mH|refine mT ?_));done));fail)))
        |(apply E_ret2 rfl;(first|exact Res.tmp rfl|(apply R_cellAll rfl;(focus ((repeat (first|exact mH|refine mT ?_));done));exact T.rw33)|(apply R_cell1 rfl;(focus ((repeat (first|exact mH|refine mT ?_));done));fail));(first|exact Res.tmp rfl|(apply R_cellAll rfl;(focus ((repeat (first|exact mH|refine mT ?_));done));exact T.rw33)|(apply R_cell1 rfl;(focus ((repeat (first|exact mH|refine mT ?_));done));fail)))
        | (apply E_ret3 rfl; (first | exact Res.tmp rfl | (apply R_cellAll rfl; (focus ((repeat (first | exact List.Mem.head _ | refine List.Mem.tail _ ?_)); done)); exact T.rw33) | (apply R_cell1 rfl; (focus ((repeat (first | exact List.Mem.head _ | refine List.Mem.tail _ ?_)); done)); fail)); (first | exact Res.tmp rfl | (apply R_cellAll rfl; (focus ((repeat (first | exact List.Mem.head _ | refine List.Mem.tail _ ?_)); done)); exact T.rw33) | (apply R_cell1 rfl; (focus ((repeat (first | exact List.Mem.head _ | refine List.Mem.tail _ ?_)); done)); fail)); (first | exact Res.tmp rfl | (apply R_cellAll rfl; (focus ((repeat (first | exact List.Mem.head _ | refine List.Mem.tail _ ?_)); done)); exact T.rw33) | (apply R_cell1 rfl; (focus ((repeat (first | exact List.Mem.head _ | refine List.Mem.tail _ ?_)); done)); fail))))))
  · refine retN ?_
    have hb : decide (ctFibCell (ix l k) = ctFibCell (ix m k)) = false := by first | assumption | (simp only [decide_eq_false_iff_not]; assumption) | (simp only [decide_eq_false_iff_not]; intro h; simp_all)
    have : (l).map ctFibCell ≠ (m).map ctFibCell := fun e => by
      have e2 := congrArg (fun q => q[k]?) e
      simp only [List.getElem?_map, hx, hx', Option.map_some, Option.some.injEq] at e2
      simp [e2] at hb
    simp [this]
  · refine E_round (α := Nat) (k + 1) ?_ ?_ ?_ ?_
    · have hb : ctFibCell (ix l k) = ctFibCell (ix m k) := by first | exact of_decide_eq_true (by assumption) | omega | simp_all
      exact ⟨by omega, by rw [take_snoc hx, take_snoc hx', List.map_append, List.map_append, ha, List.map_singleton, List.map_singleton, hb]⟩
    · omega
    · exact ⟨rfl, rfl, rfl, trivial⟩
    · exact List.nil_sublist _
  · refine retN ?_
    have e : k = l.length := by omega
    subst e
    have : (l).map ctFibCell = (m).map ctFibCell := by rw [List.take_length, hl, List.take_length] at ha; exact ha
    simp [this]
theorem markSFibCell_c (x : MSFibCell) (k : Int) (hk : 0 ≤ k) (hb : k + (mkSFibCell (x.2.map ctFibCell) : Nat) ≤ 4611686018427387904) {w0 : World} (R : List Blk) (w : World) (hs : St w0 w ([.many (rwSFibCell x)] ++ R)) : Calls Try.prog 12 #[x.1, .int .i64 k] w (RetS w0 R (fun y : List MFibCell => y.length = x.2.length ∧ hdSFibCell ((y).map ctFibCell) k ∧ mkSFibCell ((y).map ctFibCell) = mkSFibCell (x.2.map ctFibCell)) (fun _ => .int .i64 (k + (mkSFibCell (x.2.map ctFibCell) : Nat))) (fun y => [.many (rwSFibCell (x.1, y))])) := by
  obtain ⟨v, l⟩ := x
  dsimp only at *
  have hs' : St w0 w (.many (l.flatMap rwFibCell) :: .row v 33 4 l.length (l.flatMap clFibCell) :: R) := (show Ent w0 _ _ from by (focus (apply Ent.flat;(simp only [List.length_append,List.length_cons,List.length_nil,Nat.zero_add,flat_many,flat_row,flat_blk,flat_append,flat_nil,List.map_append,List.map_cons,List.map_nil,List.flatMap_append,List.flatMap_cons,List.flatMap_nil,List.append_assoc,List.append_nil,List.nil_append,List.cons_append,Row.blk_mk,rwSFibHop,rwFibCell,rwSFibCell,rwSFibOld,rwFibReader,rwSFibReader,rwFibStore]);((repeat (first|exact Pull.nil|(apply Pull.app;(focus ((repeat (first|exact PickA.here|exact PickA.all|apply PickA.there|apply PickA.over));done)))|(apply Pull.cons;(focus ((repeat (first|exact Pick.here|exact Pick.last|apply Pick.there|apply Pick.over));done)))|(apply Pull.atom;(focus ((repeat (first|exact PickA.here|exact PickA.all|apply PickA.there|apply PickA.over));done)))));done)))) _ hs
  have hlen : l.length ≤ maxLen := (Mem.row hs' (by (focus ((repeat (first|exact mH|refine mT ?_));done)))).len
  simp only [maxLen] at hlen
  refine enterS (n := 43) (E := [(0, _), (1, _)]) Try.func12 rfl rfl rfl rfl hs' ?_
  repeat' (first
    |(refine gS ?_;(first
        |(refine S_move rfl rfl ?_)
        |(refine S_assign rfl rfl ?_)
        |(apply F_field rfl rfl;(first|exact T.fl33_0|exact T.fl33_1|exact T.fl33_2|exact T.fl33_3))
        |(apply F_fieldS rfl rfl;(first|exact T.fl33_0|exact T.fl33_1|exact T.fl33_2|exact T.fl33_3);(focus (first|exact len_nil|(apply len_given;assumption)|(apply len_row;(focus ((repeat (first|exact mH|refine mT ?_));done)))|(apply len_isN;assumption)));(focus omega))
        |(apply F_idx rfl rfl rfl;exact T.sl22;(focus rfl);(focus (first|exact len_nil|(apply len_given;assumption)|(apply len_row;(focus ((repeat (first|exact mH|refine mT ?_));done)))|(apply len_isN;assumption)));(focus omega))
        |(apply F_idxZ rfl rfl rfl;exact T.sl22;(focus omega);(focus (first|exact len_nil|(apply len_given;assumption)|(apply len_row;(focus ((repeat (first|exact mH|refine mT ?_));done)))|(apply len_isN;assumption)));(focus omega))
        |(refine gLoad ?_;(first
            |(apply F_load1 rfl rfl;(focus ((repeat (first|exact mH|refine mT ?_));done));(first|exact T.sc3|exact T.sc4|exact T.sc31);rfl;(focus (first|exact free0|exact free1)))
            |(apply F_loadS1 rfl rfl;(first|exact T.sc3|exact T.sc4|exact T.sc31);(focus (first|exact rd_nil|(apply rd_given;(focus assumption);(focus (first|exact freeG0|exact freeG1)))|(apply rd_row;(focus ((repeat (first|exact mH|refine mT ?_));done));(focus (first|exact freeR0|exact freeR1)))));(focus (first|(apply at_cell;(focus (apply at_flat;(focus (intro _;rfl));(focus assumption)));rfl)|(apply at_cell0;(focus (apply at_flat;(focus (intro _;rfl));(focus assumption)));rfl)|(apply at_cell;(focus (apply at_mid0;(focus assumption)));rfl)|(apply at_cell0;(focus (apply at_mid0;(focus assumption)));rfl)|rfl)))))
        |(refine gStore ?_;(first
            |(apply F_store1 rfl rfl;(focus (first|rfl|assumption));(first|exact T.sc3|exact T.sc4|exact T.sc31);(focus ((repeat (first|exact Upd.here|apply Upd.there));done));(focus ((repeat (first|exact SetSeg.nil|apply SetSeg.here|apply SetSeg.there));done));(first|exact okst2|exact okst1|exact okst1'))
            |(apply F_storeM0 rfl rfl;(focus ((repeat (first|exact Upd.here|apply Upd.there));done));(focus assumption);(first|exact T.sc3|exact T.sc4|exact T.sc31);(focus (first|rfl|assumption));(focus ((repeat (first|exact SetSeg.nil|apply SetSeg.here|apply SetSeg.there));done));(focus omega);(first|exact okst2|exact okst1|exact okst1'))
            |(apply F_storeM1 rfl rfl;(focus ((repeat (first|exact Upd.here|apply Upd.there));done));(focus assumption);(first|exact T.sc3|exact T.sc4|exact T.sc31);(focus (first|rfl|assumption));(focus ((repeat (first|exact SetSeg.nil|apply SetSeg.here|apply SetSeg.there));done));(focus omega);(first|exact okst2|exact okst1|exact okst1'))
            |(apply F_storeS1 rfl rfl;(focus ((repeat (first|exact Upd.here|apply Upd.there));done));(first|exact T.sc3|exact T.sc4|exact T.sc31);(focus (first|rfl|assumption));(focus omega);(first|exact okst2|exact okst1|exact okst1'))))
        |(refine gCall ?_;(first
            |(apply F_len rfl rfl rfl;(focus exact ⟨_,_,by exact T.sl22⟩);(focus (first|exact len_nil|(apply len_given;assumption)|(apply len_row;(focus ((repeat (first|exact mH|refine mT ?_));done)))|(apply len_isN;assumption))))))
        |(refine gBin ?_;(first
            |(refine S_lss rfl rfl rfl ?_)
            |(refine S_eql rfl rfl rfl ?_)
            |(refine S_add rfl rfl ?_ rfl ?_;(focus (unfold rng;omega)))
            |(refine S_eqlB Try.underlying4 rfl rfl rfl ?_)
            |(refine S_rem rfl rfl ?_ ?_ rfl ?_;(focus omega);(focus omega))
            |(refine S_remT rfl rfl ?_ rfl ?_;(focus omega))))
        |(refine S_done ?_)))
    |(refine gC ?_;(first
        |(refine C_seq ?_)
        |(refine gReg ?_;(first
            |(refine gReg (i := 0) ?_;refine C_plain [(0,0)] (by kernel_rfl) (s := [⟨0,none,_,_,_⟩]) rfl ?_)
            |(refine gReg (i := 1) ?_;refine C_plain [(0,0)] (by kernel_rfl) (s := [⟨0,none,_,_,_⟩]) rfl ?_)
            |(refine gReg (i := 2) ?_;refine C_plain [(0,0),(1,0),(2,0),(3,0)] (by kernel_rfl) (s := [⟨0,none,_,_,_⟩,⟨0,none,_,_,_⟩,⟨0,none,_,_,_⟩,⟨0,none,_,_,_⟩]) rfl ?_)
            |(refine gReg (i := 4) ?_;refine C_plain [(0,0),(1,0),(2,0),(3,0),(4,0),(5,0),(6,0),(7,2)] (by kernel_rfl) (s := [⟨0,none,_,_,_⟩,⟨0,none,_,_,_⟩,⟨0,none,_,_,_⟩,⟨0,none,_,_,_⟩,⟨0,none,_,_,_⟩,⟨0,none,_,_,_⟩,⟨0,none,_,_,_⟩,⟨2,none,_,_,_⟩]) rfl ?_)
            |(refine gReg (i := 5) ?_;refine C_plain [(0,0),(1,0),(2,0)] (by kernel_rfl) (s := [⟨0,none,_,_,_⟩,⟨0,none,_,_,_⟩,⟨0,none,_,_,_⟩]) rfl ?_)
            |(refine gReg (i := 6) ?_;refine C_plain [(0,0),(1,0),(2,0),(3,0),(4,0),(5,2)] (by kernel_rfl) (s := [⟨0,none,_,_,_⟩,⟨0,none,_,_,_⟩,⟨0,none,_,_,_⟩,⟨0,none,_,_,_⟩,⟨0,none,_,_,_⟩,⟨2,none,_,_,_⟩]) rfl ?_)
            |(refine gReg (i := 7) ?_;refine C_plain [(0,0),(1,0),(2,0)] (by kernel_rfl) (s := [⟨0,none,_,_,_⟩,⟨0,none,_,_,_⟩,⟨0,none,_,_,_⟩]) rfl ?_)
            |(refine gReg (i := 8) ?_;refine C_plain [(0,0),(1,0),(2,0),(3,0),(4,0),(5,2)] (by kernel_rfl) (s := [⟨0,none,_,_,_⟩,⟨0,none,_,_,_⟩,⟨0,none,_,_,_⟩,⟨0,none,_,_,_⟩,⟨0,none,_,_,_⟩,⟨2,none,_,_,_⟩]) rfl ?_)
            |(refine gReg (i := 9) ?_;refine C_plain [(0,0),(1,0),(2,0)] (by kernel_rfl) (s := [⟨0,none,_,_,_⟩,⟨0,none,_,_,_⟩,⟨0,none,_,_,_⟩]) rfl ?_)
            |(refine gReg (i := 10) ?_;refine C_plain [(0,0),(1,0),(2,0),(3,0),(4,0),(5,0),(6,2),(7,0)] (by kernel_rfl) (s := [⟨0,none,_,_,_⟩,⟨0,none,_,_,_⟩,⟨0,none,_,_,_⟩,⟨0,none,_,_,_⟩,⟨0,none,_,_,_⟩,⟨0,none,_,_,_⟩,⟨2,none,_,_,_⟩,⟨0,none,_,_,_⟩]) rfl ?_)
            |(refine gReg (i := 3) ?_;refine C_plain [(0,0),(1,0),(2,0)] (by kernel_rfl) (s := [⟨0,none,_,_,_⟩,⟨0,none,_,_,_⟩,⟨0,none,_,_,_⟩]) rfl ?_)
            |(refine gReg (i := 11) ?_;refine C_plain [(0,0),(1,0)] (by kernel_rfl) (s := [⟨0,none,_,_,_⟩,⟨0,none,_,_,_⟩]) rfl ?_)))
        |(refine C_true rfl ?_)
        |(refine C_false rfl ?_)
        |(refine C_split rfl ?_ ?_ <;> (intro hb;(try simp only [decide_eq_true_eq] at hb);(try simp only [decide_eq_false_iff_not] at hb);(try simp only [Bool.not_eq_true'] at hb);(try simp only [Bool.not_eq_false'] at hb);(try (exfalso;first|contradiction|omega))))
        |(refine C_skip ?_)
        |(refine C_exit ?_)
        |(refine C_ret ?_)
        |(refine C_block ?_)))
    |(refine gE ?_;(first
        |(refine E_then ?_)
        |(refine E_thenX ?_)
        |(refine E_thenR ?_)
        |(refine E_block ?_)
        |(refine E_blockY ?_)
        |(refine E_blockR ?_)
        |(refine E_calm ?_)
        |(refine E_blockX rfl ?_)
        |(apply E_ret1 rfl;(first|exact Res.tmp rfl|(apply R_cellAll rfl;(focus ((repeat (first|exact mH|refine mT ?_));done));fail)|(apply R_cell1 rfl;(focus ((repeat (first|exact mH|refine mT ?_));done));(first|exact T.sc3|exact T.sc4|exact T.sc31))))
        |(apply E_ret2 rfl;(first|exact Res.tmp rfl|(apply R_cellAll rfl;(focus ((repeat (first|exact mH|refine mT ?_));done));fail)|(apply R_cell1 rfl;(focus ((repeat (first|exact mH|refine mT ?_));done));(first|exact T.sc3|exact T.sc4|exact T.sc31)));(first|exact Res.tmp rfl|(apply R_cellAll rfl;(focus ((repeat (first|exact mH|refine mT ?_));done));fail)|(apply R_cell1 rfl;(focus ((repeat (first|exact mH|refine mT ?_));done));(first|exact T.sc3|exact T.sc4|exact T.sc31))))
        | (apply E_ret3 rfl; (first | exact Res.tmp rfl | (apply R_cellAll rfl; (focus ((repeat (first | exact List.Mem.head _ | refine List.Mem.tail _ ?_)); done)); fail) | (apply R_cell1 rfl; (focus ((repeat (first | exact List.Mem.head _ | refine List.Mem.tail _ ?_)); done)); (first | exact T.sc3 | exact T.sc4 | exact T.sc31))); (first | exact Res.tmp rfl | (apply R_cellAll rfl; (focus ((repeat (first | exact List.Mem.head _ | refine List.Mem.tail _ ?_)); done)); fail) | (apply R_cell1 rfl; (focus ((repeat (first | exact List.Mem.head _ | refine List.Mem.tail _ ?_)); done)); (first | exact T.sc3 | exact T.sc4 | exact T.sc31))); (first | exact Res.tmp rfl | (apply R_cellAll rfl; (focus ((repeat (first | exact List.Mem.head _ | refine List.Mem.tail _ ?_)); done)); fail) | (apply R_cell1 rfl; (focus ((repeat (first | exact List.Mem.head _ | refine List.Mem.tail _ ?_)); done)); (first | exact T.sc3 | exact T.sc4 | exact T.sc31)))))))
  refine C_gnil ?_
  refine C_loop (α := Nat × List MFibCell × List MFibCell × Int) (fun s => [(5, .int .i64 (s.1 : Int)), (1, .int .i64 s.2.2.2), (0, v)]) (fun s => .many (s.2.1.flatMap rwFibCell) :: .many (s.2.2.1.flatMap rwFibCell) :: .row v 33 4 l.length (s.2.1.flatMap clFibCell ++ s.2.2.1.flatMap clFibCell) :: R) (fun s => s.2.1.length = s.1 ∧ s.1 + s.2.2.1.length = l.length ∧ s.2.2.2 = k + (mkSFibCell ((s.2.1).map ctFibCell) : Nat) ∧ mkSFibCell ((s.2.1).map ctFibCell) + mkSFibCell ((s.2.2.1).map ctFibCell) = mkSFibCell ((l).map ctFibCell) ∧ hdSFibCell ((s.2.1).map ctFibCell) k) (fun s => l.length - s.1) (0, [], l, k) ⟨rfl, by simp, by simp [mkSFibCell], by simp [mkSFibCell], trivial⟩ ⟨rfl, rfl, rfl, trivial⟩ (List.Sublist.refl _) ?_
  rintro ⟨i, dn, rest, kc⟩ ⟨hdn, hrest, hkc, hmk, hhd⟩
  dsimp only at *
  cases rest with
  | nil =>
    have hi : i = l.length := by simpa using hrest
    subst hi
    repeat' (first
      |(refine gS ?_;(first
          |(refine S_move rfl rfl ?_)
          |(refine S_assign rfl rfl ?_)
          |(apply F_field rfl rfl;(first|exact T.fl33_0|exact T.fl33_1|exact T.fl33_2|exact T.fl33_3))
          |(apply F_fieldS rfl rfl;(first|exact T.fl33_0|exact T.fl33_1|exact T.fl33_2|exact T.fl33_3);(focus (first|exact len_nil|(apply len_given;assumption)|(apply len_row;(focus ((repeat (first|exact mH|refine mT ?_));done)))|(apply len_isN;assumption)));(focus omega))
          |(apply F_idx rfl rfl rfl;exact T.sl22;(focus rfl);(focus (first|exact len_nil|(apply len_given;assumption)|(apply len_row;(focus ((repeat (first|exact mH|refine mT ?_));done)))|(apply len_isN;assumption)));(focus omega))
          |(apply F_idxZ rfl rfl rfl;exact T.sl22;(focus omega);(focus (first|exact len_nil|(apply len_given;assumption)|(apply len_row;(focus ((repeat (first|exact mH|refine mT ?_));done)))|(apply len_isN;assumption)));(focus omega))
          |(refine gLoad ?_;(first
              |(apply F_load1 rfl rfl;(focus ((repeat (first|exact mH|refine mT ?_));done));(first|exact T.sc3|exact T.sc4|exact T.sc31);rfl;(focus (first|exact free0|exact free1)))
              |(apply F_loadS1 rfl rfl;(first|exact T.sc3|exact T.sc4|exact T.sc31);(focus (first|exact rd_nil|(apply rd_given;(focus assumption);(focus (first|exact freeG0|exact freeG1)))|(apply rd_row;(focus ((repeat (first|exact mH|refine mT ?_));done));(focus (first|exact freeR0|exact freeR1)))));(focus (first|(apply at_cell;(focus (apply at_flat;(focus (intro _;rfl));(focus assumption)));rfl)|(apply at_cell0;(focus (apply at_flat;(focus (intro _;rfl));(focus assumption)));rfl)|(apply at_cell;(focus (apply at_mid0;(focus assumption)));rfl)|(apply at_cell0;(focus (apply at_mid0;(focus assumption)));rfl)|rfl)))))
          |(refine gStore ?_;(first
              |(apply F_store1 rfl rfl;(focus (first|rfl|assumption));(first|exact T.sc3|exact T.sc4|exact T.sc31);(focus ((repeat (first|exact Upd.here|apply Upd.there));done));(focus ((repeat (first|exact SetSeg.nil|apply SetSeg.here|apply SetSeg.there));done));(first|exact okst2|exact okst1|exact okst1'))
              |(apply F_storeM0 rfl rfl;(focus ((repeat (first|exact Upd.here|apply Upd.there));done));(focus assumption);(first|exact T.sc3|exact T.sc4|exact T.sc31);(focus (first|rfl|assumption));(focus ((repeat (first|exact SetSeg.nil|apply SetSeg.here|apply SetSeg.there));done));(focus omega);(first|exact okst2|exact okst1|exact okst1'))
              |(apply F_storeM1 rfl rfl;(focus ((repeat (first|exact Upd.here|apply Upd.there));done));(focus assumption);(first|exact T.sc3|exact T.sc4|exact T.sc31);(focus (first|rfl|assumption));(focus ((repeat (first|exact SetSeg.nil|apply SetSeg.here|apply SetSeg.there));done));(focus omega);(first|exact okst2|exact okst1|exact okst1'))
              |(apply F_storeS1 rfl rfl;(focus ((repeat (first|exact Upd.here|apply Upd.there));done));(first|exact T.sc3|exact T.sc4|exact T.sc31);(focus (first|rfl|assumption));(focus omega);(first|exact okst2|exact okst1|exact okst1'))))
          |(refine gCall ?_;(first
              |(apply F_len rfl rfl rfl;(focus exact ⟨_,_,by exact T.sl22⟩);(focus (first|exact len_nil|(apply len_given;assumption)|(apply len_row;(focus ((repeat (first|exact mH|refine mT ?_));done)))|(apply len_isN;assumption))))))
          |(refine gBin ?_;(first
              |(refine S_lss rfl rfl rfl ?_)
              |(refine S_eql rfl rfl rfl ?_)
              |(refine S_add rfl rfl ?_ rfl ?_;(focus (unfold rng;omega)))
              |(refine S_eqlB Try.underlying4 rfl rfl rfl ?_)
              |(refine S_rem rfl rfl ?_ ?_ rfl ?_;(focus omega);(focus omega))
              |(refine S_remT rfl rfl ?_ rfl ?_;(focus omega))))
          |(refine S_done ?_)))
      |(refine gC ?_;(first
          |(refine C_seq ?_)
          |(refine gReg ?_;(first
              |(refine gReg (i := 0) ?_;refine C_plain [(0,0)] (by kernel_rfl) (s := [⟨0,none,_,_,_⟩]) rfl ?_)
              |(refine gReg (i := 1) ?_;refine C_plain [(0,0)] (by kernel_rfl) (s := [⟨0,none,_,_,_⟩]) rfl ?_)
              |(refine gReg (i := 2) ?_;refine C_plain [(0,0),(1,0),(2,0),(3,0)] (by kernel_rfl) (s := [⟨0,none,_,_,_⟩,⟨0,none,_,_,_⟩,⟨0,none,_,_,_⟩,⟨0,none,_,_,_⟩]) rfl ?_)
              |(refine gReg (i := 4) ?_;refine C_plain [(0,0),(1,0),(2,0),(3,0),(4,0),(5,0),(6,0),(7,2)] (by kernel_rfl) (s := [⟨0,none,_,_,_⟩,⟨0,none,_,_,_⟩,⟨0,none,_,_,_⟩,⟨0,none,_,_,_⟩,⟨0,none,_,_,_⟩,⟨0,none,_,_,_⟩,⟨0,none,_,_,_⟩,⟨2,none,_,_,_⟩]) rfl ?_)
              |(refine gReg (i := 5) ?_;refine C_plain [(0,0),(1,0),(2,0)] (by kernel_rfl) (s := [⟨0,none,_,_,_⟩,⟨0,none,_,_,_⟩,⟨0,none,_,_,_⟩]) rfl ?_)
              |(refine gReg (i := 6) ?_;refine C_plain [(0,0),(1,0),(2,0),(3,0),(4,0),(5,2)] (by kernel_rfl) (s := [⟨0,none,_,_,_⟩,⟨0,none,_,_,_⟩,⟨0,none,_,_,_⟩,⟨0,none,_,_,_⟩,⟨0,none,_,_,_⟩,⟨2,none,_,_,_⟩]) rfl ?_)
              |(refine gReg (i := 7) ?_;refine C_plain [(0,0),(1,0),(2,0)] (by kernel_rfl) (s := [⟨0,none,_,_,_⟩,⟨0,none,_,_,_⟩,⟨0,none,_,_,_⟩]) rfl ?_)
              |(refine gReg (i := 8) ?_;refine C_plain [(0,0),(1,0),(2,0),(3,0),(4,0),(5,2)] (by kernel_rfl) (s := [⟨0,none,_,_,_⟩,⟨0,none,_,_,_⟩,⟨0,none,_,_,_⟩,⟨0,none,_,_,_⟩,⟨0,none,_,_,_⟩,⟨2,none,_,_,_⟩]) rfl ?_)
              |(refine gReg (i := 9) ?_;refine C_plain [(0,0),(1,0),(2,0)] (by kernel_rfl) (s := [⟨0,none,_,_,_⟩,⟨0,none,_,_,_⟩,⟨0,none,_,_,_⟩]) rfl ?_)
              |(refine gReg (i := 10) ?_;refine C_plain [(0,0),(1,0),(2,0),(3,0),(4,0),(5,0),(6,2),(7,0)] (by kernel_rfl) (s := [⟨0,none,_,_,_⟩,⟨0,none,_,_,_⟩,⟨0,none,_,_,_⟩,⟨0,none,_,_,_⟩,⟨0,none,_,_,_⟩,⟨0,none,_,_,_⟩,⟨2,none,_,_,_⟩,⟨0,none,_,_,_⟩]) rfl ?_)
              |(refine gReg (i := 3) ?_;refine C_plain [(0,0),(1,0),(2,0)] (by kernel_rfl) (s := [⟨0,none,_,_,_⟩,⟨0,none,_,_,_⟩,⟨0,none,_,_,_⟩]) rfl ?_)
              |(refine gReg (i := 11) ?_;refine C_plain [(0,0),(1,0)] (by kernel_rfl) (s := [⟨0,none,_,_,_⟩,⟨0,none,_,_,_⟩]) rfl ?_)))
          |(refine C_true rfl ?_)
          |(refine C_false rfl ?_)
          |(refine C_split rfl ?_ ?_ <;> (intro hb;(try simp only [decide_eq_true_eq] at hb);(try simp only [decide_eq_false_iff_not] at hb);(try simp only [Bool.not_eq_true'] at hb);(try simp only [Bool.not_eq_false'] at hb);(try (exfalso;first|contradiction|omega))))
          |(refine C_skip ?_)
          |(refine C_exit ?_)
          |(refine C_ret ?_)
          |(refine C_block ?_)))
      |(refine gE ?_;(first
          |(refine E_then ?_)
          |(refine E_thenX ?_)
          |(refine E_thenR ?_)
          |(refine E_block ?_)
          |(refine E_blockY ?_)
          |(refine E_blockR ?_)
          |(refine E_calm ?_)
          |(refine E_blockX rfl ?_)
          |(apply E_ret1 rfl;(first|exact Res.tmp rfl|(apply R_cellAll rfl;(focus ((repeat (first|exact mH|refine mT ?_));done));fail)|(apply R_cell1 rfl;(focus ((repeat (first|exact mH|refine mT ?_));done));(first|exact T.sc3|exact T.sc4|exact T.sc31))))
          |(apply E_ret2 rfl;(first|exact Res.tmp rfl|(apply R_cellAll rfl;(focus ((repeat (first|exact mH|refine mT ?_));done));fail)|(apply R_cell1 rfl;(focus ((repeat (first|exact mH|refine mT ?_));done));(first|exact T.sc3|exact T.sc4|exact T.sc31)));(first|exact Res.tmp rfl|(apply R_cellAll rfl;(focus ((repeat (first|exact mH|refine mT ?_));done));fail)|(apply R_cell1 rfl;(focus ((repeat (first|exact mH|refine mT ?_));done));(first|exact T.sc3|exact T.sc4|exact T.sc31))))
          | (apply E_ret3 rfl; (first | exact Res.tmp rfl | (apply R_cellAll rfl; (focus ((repeat (first | exact List.Mem.head _ | refine List.Mem.tail _ ?_)); done)); fail) | (apply R_cell1 rfl; (focus ((repeat (first | exact List.Mem.head _ | refine List.Mem.tail _ ?_)); done)); (first | exact T.sc3 | exact T.sc4 | exact T.sc31))); (first | exact Res.tmp rfl | (apply R_cellAll rfl; (focus ((repeat (first | exact List.Mem.head _ | refine List.Mem.tail _ ?_)); done)); fail) | (apply R_cell1 rfl; (focus ((repeat (first | exact List.Mem.head _ | refine List.Mem.tail _ ?_)); done)); (first | exact T.sc3 | exact T.sc4 | exact T.sc31))); (first | exact Res.tmp rfl | (apply R_cellAll rfl; (focus ((repeat (first | exact List.Mem.head _ | refine List.Mem.tail _ ?_)); done)); fail) | (apply R_cell1 rfl; (focus ((repeat (first | exact List.Mem.head _ | refine List.Mem.tail _ ?_)); done)); (first | exact T.sc3 | exact T.sc4 | exact T.sc31)))))))
    have hmk' : mkSFibCell ((dn).map ctFibCell) = mkSFibCell ((l).map ctFibCell) := by simpa [mkSFibCell] using hmk
    refine retS dn ⟨hdn, hhd, hmk'⟩ ?_ ?_
    · congr 1; rw [hkc, hmk']
    · rw [← hdn];exact (by (focus (apply Ent.flat;(simp only [List.length_append,List.length_cons,List.length_nil,Nat.zero_add,flat_many,flat_row,flat_blk,flat_append,flat_nil,List.map_append,List.map_cons,List.map_nil,List.flatMap_append,List.flatMap_cons,List.flatMap_nil,List.append_assoc,List.append_nil,List.nil_append,List.cons_append,Row.blk_mk,rwSFibHop,rwFibCell,rwSFibCell,rwSFibOld,rwFibReader,rwSFibReader,rwFibStore]);((repeat (first|exact Pull.nil|(apply Pull.app;(focus ((repeat (first|exact PickA.here|exact PickA.all|apply PickA.there|apply PickA.over));done)))|(apply Pull.cons;(focus ((repeat (first|exact Pick.here|exact Pick.last|apply Pick.there|apply Pick.over));done)))|(apply Pull.atom;(focus ((repeat (first|exact PickA.here|exact PickA.all|apply PickA.there|apply PickA.over));done)))));done))))
  | cons x rest =>
    have hlt : i < l.length := by simp at hrest; omega
    have hA : (dn.flatMap clFibCell).length = i * 4 := by rw [flat_len (m := 4) (fun _ => rfl), hdn]
    have hmx : mkSFibCell ((x :: rest).map ctFibCell) = mkFSFibCell (ctFibCell x) + mkSFibCell ((rest).map ctFibCell) := by simp only [mkSFibCell, List.map_cons, List.sum_cons]
    have hme : mkFSFibCell (ctFibCell x) = 3 + mkSFibHop (x.2.2.2.2) := rfl
    rw [List.flatMap_cons]
    refine C_ent (.many (rwSFibHop (x.2.2.2)) :: .many (dn.flatMap rwFibCell) :: .many (rest.flatMap rwFibCell) :: .row v 33 4 l.length (dn.flatMap clFibCell ++ (clFibCell x ++ rest.flatMap clFibCell)) :: R) (by (focus (apply Ent.flat;(simp only [List.length_append,List.length_cons,List.length_nil,Nat.zero_add,flat_many,flat_row,flat_blk,flat_append,flat_nil,List.map_append,List.map_cons,List.map_nil,List.flatMap_append,List.flatMap_cons,List.flatMap_nil,List.append_assoc,List.append_nil,List.nil_append,List.cons_append,Row.blk_mk,rwSFibHop,rwFibCell,rwSFibCell,rwSFibOld,rwFibReader,rwSFibReader,rwFibStore]);((repeat (first|exact Pull.nil|(apply Pull.app;(focus ((repeat (first|exact PickA.here|exact PickA.all|apply PickA.there|apply PickA.over));done)))|(apply Pull.cons;(focus ((repeat (first|exact Pick.here|exact Pick.last|apply Pick.there|apply Pick.over));done)))|(apply Pull.atom;(focus ((repeat (first|exact PickA.here|exact PickA.all|apply PickA.there|apply PickA.over));done)))));done)))) ?_
    repeat' (first
      |(refine gS ?_;(first
          |(refine S_move rfl rfl ?_)
          |(refine S_assign rfl rfl ?_)
          |(apply F_field rfl rfl;(first|exact T.fl33_0|exact T.fl33_1|exact T.fl33_2|exact T.fl33_3))
          |(apply F_fieldS rfl rfl;(first|exact T.fl33_0|exact T.fl33_1|exact T.fl33_2|exact T.fl33_3);(focus (first|exact len_nil|(apply len_given;assumption)|(apply len_row;(focus ((repeat (first|exact mH|refine mT ?_));done)))|(apply len_isN;assumption)));(focus omega))
          |(apply F_idx rfl rfl rfl;exact T.sl22;(focus rfl);(focus (first|exact len_nil|(apply len_given;assumption)|(apply len_row;(focus ((repeat (first|exact mH|refine mT ?_));done)))|(apply len_isN;assumption)));(focus omega))
          |(apply F_idxZ rfl rfl rfl;exact T.sl22;(focus omega);(focus (first|exact len_nil|(apply len_given;assumption)|(apply len_row;(focus ((repeat (first|exact mH|refine mT ?_));done)))|(apply len_isN;assumption)));(focus omega))
          |(refine gLoad ?_;(first
              |(apply F_load1 rfl rfl;(focus ((repeat (first|exact mH|refine mT ?_));done));(first|exact T.sc3|exact T.sc4|exact T.sc31);rfl;(focus (first|exact free0|exact free1)))
              |(apply F_loadS1 rfl rfl;(first|exact T.sc3|exact T.sc4|exact T.sc31);(focus (first|exact rd_nil|(apply rd_given;(focus assumption);(focus (first|exact freeG0|exact freeG1)))|(apply rd_row;(focus ((repeat (first|exact mH|refine mT ?_));done));(focus (first|exact freeR0|exact freeR1)))));(focus (first|(apply at_cell;(focus (apply at_flat;(focus (intro _;rfl));(focus assumption)));rfl)|(apply at_cell0;(focus (apply at_flat;(focus (intro _;rfl));(focus assumption)));rfl)|(apply at_cell;(focus (apply at_mid0;(focus assumption)));rfl)|(apply at_cell0;(focus (apply at_mid0;(focus assumption)));rfl)|rfl)))))
          |(refine gStore ?_;(first
              |(apply F_store1 rfl rfl;(focus (first|rfl|assumption));(first|exact T.sc3|exact T.sc4|exact T.sc31);(focus ((repeat (first|exact Upd.here|apply Upd.there));done));(focus ((repeat (first|exact SetSeg.nil|apply SetSeg.here|apply SetSeg.there));done));(first|exact okst2|exact okst1|exact okst1'))
              |(apply F_storeM0 rfl rfl;(focus ((repeat (first|exact Upd.here|apply Upd.there));done));(focus assumption);(first|exact T.sc3|exact T.sc4|exact T.sc31);(focus (first|rfl|assumption));(focus ((repeat (first|exact SetSeg.nil|apply SetSeg.here|apply SetSeg.there));done));(focus omega);(first|exact okst2|exact okst1|exact okst1'))
              |(apply F_storeM1 rfl rfl;(focus ((repeat (first|exact Upd.here|apply Upd.there));done));(focus assumption);(first|exact T.sc3|exact T.sc4|exact T.sc31);(focus (first|rfl|assumption));(focus ((repeat (first|exact SetSeg.nil|apply SetSeg.here|apply SetSeg.there));done));(focus omega);(first|exact okst2|exact okst1|exact okst1'))
              |(apply F_storeS1 rfl rfl;(focus ((repeat (first|exact Upd.here|apply Upd.there));done));(first|exact T.sc3|exact T.sc4|exact T.sc31);(focus (first|rfl|assumption));(focus omega);(first|exact okst2|exact okst1|exact okst1'))))
          |(refine gCall ?_;(first
              |(show GoS _ _ _ _ _ _ _ (⟨_,_,_,.call ⟨.value (.func 21),_,_⟩,_⟩ :: _);apply S_callS (f := 21) T.pf21 rfl rfl (fun w hst => markSFibHop_c (x.2.2.2) _ (by omega) (by omega) _ w hst);(focus ((repeat (first|exact Pull.nil|(apply Pull.app;(focus ((repeat (first|exact PickA.here|exact PickA.all|apply PickA.there|apply PickA.over));done)))|(apply Pull.cons;(focus ((repeat (first|exact Pick.here|exact Pick.last|apply Pick.there|apply Pick.over));done)))|(apply Pull.atom;(focus ((repeat (first|exact PickA.here|exact PickA.all|apply PickA.there|apply PickA.over));done)))));done));intro zz hzz;simp only [List.cons_append,List.nil_append];revert hzz;revert zz;intro y0 hy0)
              |(apply F_len rfl rfl rfl;(focus exact ⟨_,_,by exact T.sl22⟩);(focus (first|exact len_nil|(apply len_given;assumption)|(apply len_row;(focus ((repeat (first|exact mH|refine mT ?_));done)))|(apply len_isN;assumption))))))
          |(refine gBin ?_;(first
              |(refine S_lss rfl rfl rfl ?_)
              |(refine S_eql rfl rfl rfl ?_)
              |(refine S_add rfl rfl ?_ rfl ?_;(focus (unfold rng;omega)))
              |(refine S_eqlB Try.underlying4 rfl rfl rfl ?_)
              |(refine S_rem rfl rfl ?_ ?_ rfl ?_;(focus omega);(focus omega))
              |(refine S_remT rfl rfl ?_ rfl ?_;(focus omega))))
          |(refine S_done ?_)))
      |(refine gC ?_;(first
          |(refine C_seq ?_)
          |(refine gReg ?_;(first
              |(refine gReg (i := 0) ?_;refine C_plain [(0,0)] (by kernel_rfl) (s := [⟨0,none,_,_,_⟩]) rfl ?_)
              |(refine gReg (i := 1) ?_;refine C_plain [(0,0)] (by kernel_rfl) (s := [⟨0,none,_,_,_⟩]) rfl ?_)
              |(refine gReg (i := 2) ?_;refine C_plain [(0,0),(1,0),(2,0),(3,0)] (by kernel_rfl) (s := [⟨0,none,_,_,_⟩,⟨0,none,_,_,_⟩,⟨0,none,_,_,_⟩,⟨0,none,_,_,_⟩]) rfl ?_)
              |(refine gReg (i := 4) ?_;refine C_plain [(0,0),(1,0),(2,0),(3,0),(4,0),(5,0),(6,0),(7,2)] (by kernel_rfl) (s := [⟨0,none,_,_,_⟩,⟨0,none,_,_,_⟩,⟨0,none,_,_,_⟩,⟨0,none,_,_,_⟩,⟨0,none,_,_,_⟩,⟨0,none,_,_,_⟩,⟨0,none,_,_,_⟩,⟨2,none,_,_,_⟩]) rfl ?_)
              |(refine gReg (i := 5) ?_;refine C_plain [(0,0),(1,0),(2,0)] (by kernel_rfl) (s := [⟨0,none,_,_,_⟩,⟨0,none,_,_,_⟩,⟨0,none,_,_,_⟩]) rfl ?_)
              |(refine gReg (i := 6) ?_;refine C_plain [(0,0),(1,0),(2,0),(3,0),(4,0),(5,2)] (by kernel_rfl) (s := [⟨0,none,_,_,_⟩,⟨0,none,_,_,_⟩,⟨0,none,_,_,_⟩,⟨0,none,_,_,_⟩,⟨0,none,_,_,_⟩,⟨2,none,_,_,_⟩]) rfl ?_)
              |(refine gReg (i := 7) ?_;refine C_plain [(0,0),(1,0),(2,0)] (by kernel_rfl) (s := [⟨0,none,_,_,_⟩,⟨0,none,_,_,_⟩,⟨0,none,_,_,_⟩]) rfl ?_)
              |(refine gReg (i := 8) ?_;refine C_plain [(0,0),(1,0),(2,0),(3,0),(4,0),(5,2)] (by kernel_rfl) (s := [⟨0,none,_,_,_⟩,⟨0,none,_,_,_⟩,⟨0,none,_,_,_⟩,⟨0,none,_,_,_⟩,⟨0,none,_,_,_⟩,⟨2,none,_,_,_⟩]) rfl ?_)
              |(refine gReg (i := 9) ?_;refine C_plain [(0,0),(1,0),(2,0)] (by kernel_rfl) (s := [⟨0,none,_,_,_⟩,⟨0,none,_,_,_⟩,⟨0,none,_,_,_⟩]) rfl ?_)
              |(refine gReg (i := 10) ?_;refine C_plain [(0,0),(1,0),(2,0),(3,0),(4,0),(5,0),(6,2),(7,0)] (by kernel_rfl) (s := [⟨0,none,_,_,_⟩,⟨0,none,_,_,_⟩,⟨0,none,_,_,_⟩,⟨0,none,_,_,_⟩,⟨0,none,_,_,_⟩,⟨0,none,_,_,_⟩,⟨2,none,_,_,_⟩,⟨0,none,_,_,_⟩]) rfl ?_)
              |(refine gReg (i := 3) ?_;refine C_plain [(0,0),(1,0),(2,0)] (by kernel_rfl) (s := [⟨0,none,_,_,_⟩,⟨0,none,_,_,_⟩,⟨0,none,_,_,_⟩]) rfl ?_)
              |(refine gReg (i := 11) ?_;refine C_plain [(0,0),(1,0)] (by kernel_rfl) (s := [⟨0,none,_,_,_⟩,⟨0,none,_,_,_⟩]) rfl ?_)))
          |(refine C_true rfl ?_)
          |(refine C_false rfl ?_)
          |(refine C_split rfl ?_ ?_ <;> (intro hb;(try simp only [decide_eq_true_eq] at hb);(try simp only [decide_eq_false_iff_not] at hb);(try simp only [Bool.not_eq_true'] at hb);(try simp only [Bool.not_eq_false'] at hb);(try (exfalso;first|contradiction|omega))))
          |(refine C_skip ?_)
          |(refine C_exit ?_)
          |(refine C_ret ?_)
          |(refine C_block ?_)))
      |(refine gE ?_;(first
          |(refine E_then ?_)
          |(refine E_thenX ?_)
          |(refine E_thenR ?_)
          |(refine E_block ?_)
          |(refine E_blockY ?_)
          |(refine E_blockR ?_)
          |(refine E_calm ?_)
          |(refine E_blockX rfl ?_)
          |(apply E_ret1 rfl;(first|exact Res.tmp rfl|(apply R_cellAll rfl;(focus ((repeat (first|exact mH|refine mT ?_));done));fail)|(apply R_cell1 rfl;(focus ((repeat (first|exact mH|refine mT ?_));done));(first|exact T.sc3|exact T.sc4|exact T.sc31))))
          |(apply E_ret2 rfl;(first|exact Res.tmp rfl|(apply R_cellAll rfl;(focus ((repeat (first|exact mH|refine mT ?_));done));fail)|(apply R_cell1 rfl;(focus ((repeat (first|exact mH|refine mT ?_));done));(first|exact T.sc3|exact T.sc4|exact T.sc31)));(first|exact Res.tmp rfl|(apply R_cellAll rfl;(focus ((repeat (first|exact mH|refine mT ?_));done));fail)|(apply R_cell1 rfl;(focus ((repeat (first|exact mH|refine mT ?_));done));(first|exact T.sc3|exact T.sc4|exact T.sc31))))
          | (apply E_ret3 rfl; (first | exact Res.tmp rfl | (apply R_cellAll rfl; (focus ((repeat (first | exact List.Mem.head _ | refine List.Mem.tail _ ?_)); done)); fail) | (apply R_cell1 rfl; (focus ((repeat (first | exact List.Mem.head _ | refine List.Mem.tail _ ?_)); done)); (first | exact T.sc3 | exact T.sc4 | exact T.sc31))); (first | exact Res.tmp rfl | (apply R_cellAll rfl; (focus ((repeat (first | exact List.Mem.head _ | refine List.Mem.tail _ ?_)); done)); fail) | (apply R_cell1 rfl; (focus ((repeat (first | exact List.Mem.head _ | refine List.Mem.tail _ ?_)); done)); (first | exact T.sc3 | exact T.sc4 | exact T.sc31))); (first | exact Res.tmp rfl | (apply R_cellAll rfl; (focus ((repeat (first | exact List.Mem.head _ | refine List.Mem.tail _ ?_)); done)); fail) | (apply R_cell1 rfl; (focus ((repeat (first | exact List.Mem.head _ | refine List.Mem.tail _ ?_)); done)); (first | exact T.sc3 | exact T.sc4 | exact T.sc31)))))))
    all_goals obtain ⟨hl0, hh0, hm0⟩ := hy0
    have hsn : ∀ y : MFibCell, hdFSFibCell (ctFibCell y) kc → mkFSFibCell (ctFibCell y) = mkFSFibCell (ctFibCell x) → hdSFibCell ((dn ++ [y]).map ctFibCell) k ∧ mkSFibCell ((dn ++ [y]).map ctFibCell) = mkSFibCell ((dn).map ctFibCell) + mkFSFibCell (ctFibCell x) := fun y h1 h2 => by
      rw [hkc] at h1
      rw [List.map_append]
      exact ⟨Held.snoc hhd h1, by simp only [mkSFibCell, List.map_append, List.sum_append, List.map_singleton, List.sum_singleton] at *; omega⟩
    refine E_roundS (α := Nat × List MFibCell × List MFibCell × Int) (i + 1,dn ++ [(decide ((kc) % 3 = 0),kc + 1,kc + 1 + 1,(x.2.2.2.1,y0))],rest,_) ((fun q => ⟨by simp [hdn],by simp only [List.length_cons] at hrest;dsimp only;omega,by dsimp only;rw [q.2];omega,by dsimp only;rw [q.2];omega,q.1⟩) (hsn _ ?_ ?_)) (by dsimp only;omega) ⟨rfl,rfl,rfl,trivial⟩ (by (focus (apply Ent.flat;(simp only [List.length_append,List.length_cons,List.length_nil,Nat.zero_add,flat_many,flat_row,flat_blk,flat_append,flat_nil,List.map_append,List.map_cons,List.map_nil,List.flatMap_append,List.flatMap_cons,List.flatMap_nil,List.append_assoc,List.append_nil,List.nil_append,List.cons_append,Row.blk_mk,rwSFibHop,rwFibCell,rwSFibCell,rwSFibOld,rwFibReader,rwSFibReader,rwFibStore]);((repeat (first|exact Pull.nil|(apply Pull.app;(focus ((repeat (first|exact PickA.here|exact PickA.all|apply PickA.there|apply PickA.over));done)))|(apply Pull.cons;(focus ((repeat (first|exact Pick.here|exact Pick.last|apply Pick.there|apply Pick.over));done)))|(apply Pull.atom;(focus ((repeat (first|exact PickA.here|exact PickA.all|apply PickA.there|apply PickA.over));done)))));done))))
    · exact ⟨by first | rfl | (dsimp only [ctFibCell]; apply decide_eq_decide.2; omega), by first | rfl | (dsimp only [ctFibCell]; omega), by first | rfl | (dsimp only [ctFibCell]; omega), by first | exact hh0 | simpa [ctFibCell, Int.add_assoc] using hh0⟩
    · simp only [mkFSFibCell, mkEFibCell, ctFibCell]; omega
theorem heldSFibCell_c (x : MSFibCell) (k : Int) (hk : 0 ≤ k) (hb : k + (mkSFibCell (x.2.map ctFibCell) : Nat) ≤ 4611686018427387904) (hh : hdSFibCell (x.2.map ctFibCell) k) (w : World) (hx : Rds w (rwSFibCell x)) : Calls Try.prog 15 #[x.1, .int .i64 k] w (RetN (.int .i64 (k + (mkSFibCell (x.2.map ctFibCell) : Nat))) w) := by
  obtain ⟨v, l⟩ := x
  have hm := Rds.head hx
  have hlen := hm.len
  simp only [maxLen] at hlen
  have hr := Rds.flatMap.1 (Rds.tail hx)
  dsimp only at *
  refine enter (n := 51) (E := [(0, _), (1, _)]) Try.func15 rfl rfl rfl rfl ?_
  repeat' (first
    |(refine gS ?_;(first
        |(refine S_move rfl rfl ?_)
        |(refine S_assign rfl rfl ?_)
        |(apply F_field rfl rfl;(first|exact T.fl33_0|exact T.fl33_1|exact T.fl33_2|exact T.fl33_3))
        |(apply F_fieldS rfl rfl;(first|exact T.fl33_0|exact T.fl33_1|exact T.fl33_2|exact T.fl33_3);(focus (first|exact len_nil|(apply len_given;assumption)|(apply len_row;(focus ((repeat (first|exact mH|refine mT ?_));done)))|(apply len_isN;assumption)));(focus omega))
        |(apply F_idx rfl rfl rfl;exact T.sl22;(focus rfl);(focus (first|exact len_nil|(apply len_given;assumption)|(apply len_row;(focus ((repeat (first|exact mH|refine mT ?_));done)))|(apply len_isN;assumption)));(focus omega))
        |(apply F_idxZ rfl rfl rfl;exact T.sl22;(focus omega);(focus (first|exact len_nil|(apply len_given;assumption)|(apply len_row;(focus ((repeat (first|exact mH|refine mT ?_));done)))|(apply len_isN;assumption)));(focus omega))
        |(refine gLoad ?_;(first
            |(apply F_load1 rfl rfl;(focus ((repeat (first|exact mH|refine mT ?_));done));(first|exact T.sc3|exact T.sc4|exact T.sc31);rfl;(focus (first|exact free0|exact free1)))
            |(apply F_loadS1 rfl rfl;(first|exact T.sc3|exact T.sc4|exact T.sc31);(focus (first|exact rd_nil|(apply rd_given;(focus assumption);(focus (first|exact freeG0|exact freeG1)))|(apply rd_row;(focus ((repeat (first|exact mH|refine mT ?_));done));(focus (first|exact freeR0|exact freeR1)))));(focus (first|(apply at_cell;(focus (apply at_flat;(focus (intro _;rfl));(focus assumption)));rfl)|(apply at_cell0;(focus (apply at_flat;(focus (intro _;rfl));(focus assumption)));rfl)|(apply at_cell;(focus (apply at_mid0;(focus assumption)));rfl)|(apply at_cell0;(focus (apply at_mid0;(focus assumption)));rfl)|rfl)))))
        |(refine gCall ?_;(first
            |(apply F_len rfl rfl rfl;(focus exact ⟨_,_,by exact T.sl22⟩);(focus (first|exact len_nil|(apply len_given;assumption)|(apply len_row;(focus ((repeat (first|exact mH|refine mT ?_));done)))|(apply len_isN;assumption))))))
        |(refine gBin ?_;(first
            |(refine S_lss rfl rfl rfl ?_)
            |(refine S_eql rfl rfl rfl ?_)
            |(refine S_neq rfl rfl rfl ?_)
            |(refine S_add rfl rfl ?_ rfl ?_;(focus (unfold rng;omega)))
            |(refine S_eqlB Try.underlying4 rfl rfl rfl ?_)
            |(refine S_neqB Try.underlying4 rfl rfl rfl ?_)
            |(refine S_rem rfl rfl ?_ ?_ rfl ?_;(focus omega);(focus omega))
            |(refine S_remT rfl rfl ?_ rfl ?_;(focus omega))))
        |(refine S_done ?_)))
    |(refine gC ?_;(first
        |(refine C_seq ?_)
        |(refine gReg ?_;(first
            |(refine gReg (i := 0) ?_;refine C_plain [(0,0)] (by kernel_rfl) (s := [⟨0,none,_,_,_⟩]) rfl ?_)
            |(refine gReg (i := 1) ?_;refine C_plain [(0,0)] (by kernel_rfl) (s := [⟨0,none,_,_,_⟩]) rfl ?_)
            |(refine gReg (i := 2) ?_;refine C_plain [(0,0),(1,0),(2,0),(3,0)] (by kernel_rfl) (s := [⟨0,none,_,_,_⟩,⟨0,none,_,_,_⟩,⟨0,none,_,_,_⟩,⟨0,none,_,_,_⟩]) rfl ?_)
            |(refine gReg (i := 4) ?_;refine C_plain [(0,0),(1,0),(2,0),(3,0),(4,0),(5,0),(6,0),(7,0),(8,0)] (by kernel_rfl) (s := [⟨0,none,_,_,_⟩,⟨0,none,_,_,_⟩,⟨0,none,_,_,_⟩,⟨0,none,_,_,_⟩,⟨0,none,_,_,_⟩,⟨0,none,_,_,_⟩,⟨0,none,_,_,_⟩,⟨0,none,_,_,_⟩,⟨0,none,_,_,_⟩]) rfl ?_)
            |(refine gReg (i := 5) ?_;refine C_plain [(0,0)] (by kernel_rfl) (s := [⟨0,none,_,_,_⟩]) rfl ?_)
            |(refine gReg (i := 6) ?_;refine C_plain [(0,0),(1,0),(2,0)] (by kernel_rfl) (s := [⟨0,none,_,_,_⟩,⟨0,none,_,_,_⟩,⟨0,none,_,_,_⟩]) rfl ?_)
            |(refine gReg (i := 7) ?_;refine C_plain [(0,0),(1,0),(2,0),(3,0),(4,0),(5,0),(6,0)] (by kernel_rfl) (s := [⟨0,none,_,_,_⟩,⟨0,none,_,_,_⟩,⟨0,none,_,_,_⟩,⟨0,none,_,_,_⟩,⟨0,none,_,_,_⟩,⟨0,none,_,_,_⟩,⟨0,none,_,_,_⟩]) rfl ?_)
            |(refine gReg (i := 8) ?_;refine C_plain [(0,0)] (by kernel_rfl) (s := [⟨0,none,_,_,_⟩]) rfl ?_)
            |(refine gReg (i := 9) ?_;refine C_plain [(0,0),(1,0),(2,0)] (by kernel_rfl) (s := [⟨0,none,_,_,_⟩,⟨0,none,_,_,_⟩,⟨0,none,_,_,_⟩]) rfl ?_)
            |(refine gReg (i := 10) ?_;refine C_plain [(0,0),(1,0),(2,0),(3,0),(4,0),(5,0),(6,0)] (by kernel_rfl) (s := [⟨0,none,_,_,_⟩,⟨0,none,_,_,_⟩,⟨0,none,_,_,_⟩,⟨0,none,_,_,_⟩,⟨0,none,_,_,_⟩,⟨0,none,_,_,_⟩,⟨0,none,_,_,_⟩]) rfl ?_)
            |(refine gReg (i := 11) ?_;refine C_plain [(0,0)] (by kernel_rfl) (s := [⟨0,none,_,_,_⟩]) rfl ?_)
            |(refine gReg (i := 12) ?_;refine C_plain [(0,0),(1,0),(2,0)] (by kernel_rfl) (s := [⟨0,none,_,_,_⟩,⟨0,none,_,_,_⟩,⟨0,none,_,_,_⟩]) rfl ?_)
            |(refine gReg (i := 13) ?_;refine C_plain [(0,0),(1,0),(2,0),(3,0),(4,0),(5,0),(6,2),(7,0)] (by kernel_rfl) (s := [⟨0,none,_,_,_⟩,⟨0,none,_,_,_⟩,⟨0,none,_,_,_⟩,⟨0,none,_,_,_⟩,⟨0,none,_,_,_⟩,⟨0,none,_,_,_⟩,⟨2,none,_,_,_⟩,⟨0,none,_,_,_⟩]) rfl ?_)
            |(refine gReg (i := 14) ?_;refine C_plain [(0,0),(1,0)] (by kernel_rfl) (s := [⟨0,none,_,_,_⟩,⟨0,none,_,_,_⟩]) rfl ?_)
            |(refine gReg (i := 15) ?_;refine C_plain [(0,0)] (by kernel_rfl) (s := [⟨0,none,_,_,_⟩]) rfl ?_)
            |(refine gReg (i := 3) ?_;refine C_plain [(0,0),(1,0),(2,0)] (by kernel_rfl) (s := [⟨0,none,_,_,_⟩,⟨0,none,_,_,_⟩,⟨0,none,_,_,_⟩]) rfl ?_)
            |(refine gReg (i := 16) ?_;refine C_plain [(0,0),(1,0)] (by kernel_rfl) (s := [⟨0,none,_,_,_⟩,⟨0,none,_,_,_⟩]) rfl ?_)))
        |(refine C_true rfl ?_)
        |(refine C_false rfl ?_)
        |(refine C_split rfl ?_ ?_ <;> (intro hb;(try simp only [decide_eq_true_eq] at hb);(try simp only [decide_eq_false_iff_not] at hb);(try simp only [Bool.not_eq_true'] at hb);(try simp only [Bool.not_eq_false'] at hb);(try (exfalso;first|contradiction|omega))))
        |(refine C_skip ?_)
        |(refine C_exit ?_)
        |(refine C_ret ?_)
        |(refine C_block ?_)))
    |(refine gE ?_;(first
        |(refine E_then ?_)
        |(refine E_thenX ?_)
        |(refine E_thenR ?_)
        |(refine E_block ?_)
        |(refine E_blockY ?_)
        |(refine E_blockR ?_)
        |(refine E_calm ?_)
        |(refine E_blockX rfl ?_)
        |(apply E_ret1 rfl;(first|exact Res.tmp rfl|(apply R_cellAll rfl;(focus ((repeat (first|exact mH|refine mT ?_));done));fail)|(apply R_cell1 rfl;(focus ((repeat (first|exact mH|refine mT ?_));done));(first|exact T.sc3|exact T.sc4|exact T.sc31))))
        |(apply E_ret2 rfl;(first|exact Res.tmp rfl|(apply R_cellAll rfl;(focus ((repeat (first|exact mH|refine mT ?_));done));fail)|(apply R_cell1 rfl;(focus ((repeat (first|exact mH|refine mT ?_));done));(first|exact T.sc3|exact T.sc4|exact T.sc31)));(first|exact Res.tmp rfl|(apply R_cellAll rfl;(focus ((repeat (first|exact mH|refine mT ?_));done));fail)|(apply R_cell1 rfl;(focus ((repeat (first|exact mH|refine mT ?_));done));(first|exact T.sc3|exact T.sc4|exact T.sc31))))
        | (apply E_ret3 rfl; (first | exact Res.tmp rfl | (apply R_cellAll rfl; (focus ((repeat (first | exact List.Mem.head _ | refine List.Mem.tail _ ?_)); done)); fail) | (apply R_cell1 rfl; (focus ((repeat (first | exact List.Mem.head _ | refine List.Mem.tail _ ?_)); done)); (first | exact T.sc3 | exact T.sc4 | exact T.sc31))); (first | exact Res.tmp rfl | (apply R_cellAll rfl; (focus ((repeat (first | exact List.Mem.head _ | refine List.Mem.tail _ ?_)); done)); fail) | (apply R_cell1 rfl; (focus ((repeat (first | exact List.Mem.head _ | refine List.Mem.tail _ ?_)); done)); (first | exact T.sc3 | exact T.sc4 | exact T.sc31))); (first | exact Res.tmp rfl | (apply R_cellAll rfl; (focus ((repeat (first | exact List.Mem.head _ | refine List.Mem.tail _ ?_)); done)); fail) | (apply R_cell1 rfl; (focus ((repeat (first | exact List.Mem.head _ | refine List.Mem.tail _ ?_)); done)); (first | exact T.sc3 | exact T.sc4 | exact T.sc31)))))))
  refine C_loop (α := Nat × Int) (fun s => [(5, .int .i64 (s.1 : Int)), (1, .int .i64 s.2), (0, v)]) (fun _ => []) (fun s => s.1 ≤ l.length ∧ s.2 = k + (pre mkFSFibCell ((l).map ctFibCell) s.1 : Nat)) (fun s => l.length - s.1) (0, k) ⟨Nat.zero_le _, by simp [pre_zero]⟩ ⟨rfl, rfl, rfl, trivial⟩ (List.Sublist.refl _) ?_
  rintro ⟨i, kc⟩ ⟨hi, hkc⟩
  dsimp only at *
  have htot : mkSFibCell ((l).map ctFibCell) = (((l).map ctFibCell).map mkFSFibCell).sum := rfl
  have ht0 := pre_le mkFSFibCell ((l).map ctFibCell) i
  have ht1 := pre_le mkFSFibCell ((l).map ctFibCell) (i + 1)
  rcases Nat.lt_or_ge i l.length with hlt | hge
  · obtain ⟨x, hx⟩ : ∃ x, l[i]? = some x := ⟨_, List.getElem?_eq_getElem hlt⟩
    have hxc : ((l).map ctFibCell)[i]? = some (ctFibCell x) := by rw [List.getElem?_map, hx]; rfl
    have hel := Held.at hh hxc
    have hps := pre_succ (mk := mkFSFibCell) hxc
    rw [← hkc] at hel
    have hrx := hr _ (List.mem_of_getElem? hx)
    obtain ⟨e0, e1, e2, e3⟩ := x
    simp only [hdFSFibCell, hdEFibCell, ctFibCell] at hel
    obtain ⟨g0, g1, g2, g3⟩ := hel
    subst g0
    subst g1
    subst g2
    simp only [ctFibCell] at hps
    have hme : ∀ c1, mkFSFibCell c1 = mkEFibCell c1 := fun _ => rfl
    simp only [mkFSFibCell, mkEFibCell] at hps
    have hq3 : Rds w (rwSFibHop e3) := hrx
    repeat' (first
      |(refine gS ?_;(first
          |(refine S_move rfl rfl ?_)
          |(refine S_assign rfl rfl ?_)
          |(apply F_field rfl rfl;(first|exact T.fl33_0|exact T.fl33_1|exact T.fl33_2|exact T.fl33_3))
          |(apply F_fieldS rfl rfl;(first|exact T.fl33_0|exact T.fl33_1|exact T.fl33_2|exact T.fl33_3);(focus (first|exact len_nil|(apply len_given;assumption)|(apply len_row;(focus ((repeat (first|exact mH|refine mT ?_));done)))|(apply len_isN;assumption)));(focus omega))
          |(apply F_idx rfl rfl rfl;exact T.sl22;(focus rfl);(focus (first|exact len_nil|(apply len_given;assumption)|(apply len_row;(focus ((repeat (first|exact mH|refine mT ?_));done)))|(apply len_isN;assumption)));(focus omega))
          |(apply F_idxZ rfl rfl rfl;exact T.sl22;(focus omega);(focus (first|exact len_nil|(apply len_given;assumption)|(apply len_row;(focus ((repeat (first|exact mH|refine mT ?_));done)))|(apply len_isN;assumption)));(focus omega))
          |(refine gLoad ?_;(first
              |(apply F_load1 rfl rfl;(focus ((repeat (first|exact mH|refine mT ?_));done));(first|exact T.sc3|exact T.sc4|exact T.sc31);rfl;(focus (first|exact free0|exact free1)))
              |(apply F_loadS1 rfl rfl;(first|exact T.sc3|exact T.sc4|exact T.sc31);(focus (first|exact rd_nil|(apply rd_given;(focus assumption);(focus (first|exact freeG0|exact freeG1)))|(apply rd_row;(focus ((repeat (first|exact mH|refine mT ?_));done));(focus (first|exact freeR0|exact freeR1)))));(focus (first|(apply at_cell;(focus (apply at_flat;(focus (intro _;rfl));(focus assumption)));rfl)|(apply at_cell0;(focus (apply at_flat;(focus (intro _;rfl));(focus assumption)));rfl)|(apply at_cell;(focus (apply at_mid0;(focus assumption)));rfl)|(apply at_cell0;(focus (apply at_mid0;(focus assumption)));rfl)|rfl)))))
          |(refine gCall ?_;(first
              |(show GoS _ _ _ _ _ _ _ (⟨_,_,_,.call ⟨.value (.func 22),_,_⟩,_⟩ :: _);refine S_callN (f := 22) rfl T.pf22 rfl (fun w hst => heldSFibHop_c e3 _ (by omega) (by omega) (by simpa [Int.add_assoc] using g3) w (by first|(refine Rds.given hst ?_;assumption)|(apply Rds.many hst;(focus ((repeat (first|exact mH|refine mT ?_));done)))|(apply Rds.row hst;(focus ((repeat (first|exact mH|refine mT ?_));done))))) rfl ?_)
              |(apply F_len rfl rfl rfl;(focus exact ⟨_,_,by exact T.sl22⟩);(focus (first|exact len_nil|(apply len_given;assumption)|(apply len_row;(focus ((repeat (first|exact mH|refine mT ?_));done)))|(apply len_isN;assumption))))))
          |(refine gBin ?_;(first
              |(refine S_lss rfl rfl rfl ?_)
              |(refine S_eql rfl rfl rfl ?_)
              |(refine S_neq rfl rfl rfl ?_)
              |(refine S_add rfl rfl ?_ rfl ?_;(focus (unfold rng;omega)))
              |(refine S_eqlB Try.underlying4 rfl rfl rfl ?_)
              |(refine S_neqB Try.underlying4 rfl rfl rfl ?_)
              |(refine S_rem rfl rfl ?_ ?_ rfl ?_;(focus omega);(focus omega))
              |(refine S_remT rfl rfl ?_ rfl ?_;(focus omega))))
          |(refine S_done ?_)))
      |(refine gC ?_;(first
          |(refine C_seq ?_)
          |(refine gReg ?_;(first
              |(refine gReg (i := 0) ?_;refine C_plain [(0,0)] (by kernel_rfl) (s := [⟨0,none,_,_,_⟩]) rfl ?_)
              |(refine gReg (i := 1) ?_;refine C_plain [(0,0)] (by kernel_rfl) (s := [⟨0,none,_,_,_⟩]) rfl ?_)
              |(refine gReg (i := 2) ?_;refine C_plain [(0,0),(1,0),(2,0),(3,0)] (by kernel_rfl) (s := [⟨0,none,_,_,_⟩,⟨0,none,_,_,_⟩,⟨0,none,_,_,_⟩,⟨0,none,_,_,_⟩]) rfl ?_)
              |(refine gReg (i := 4) ?_;refine C_plain [(0,0),(1,0),(2,0),(3,0),(4,0),(5,0),(6,0),(7,0),(8,0)] (by kernel_rfl) (s := [⟨0,none,_,_,_⟩,⟨0,none,_,_,_⟩,⟨0,none,_,_,_⟩,⟨0,none,_,_,_⟩,⟨0,none,_,_,_⟩,⟨0,none,_,_,_⟩,⟨0,none,_,_,_⟩,⟨0,none,_,_,_⟩,⟨0,none,_,_,_⟩]) rfl ?_)
              |(refine gReg (i := 5) ?_;refine C_plain [(0,0)] (by kernel_rfl) (s := [⟨0,none,_,_,_⟩]) rfl ?_)
              |(refine gReg (i := 6) ?_;refine C_plain [(0,0),(1,0),(2,0)] (by kernel_rfl) (s := [⟨0,none,_,_,_⟩,⟨0,none,_,_,_⟩,⟨0,none,_,_,_⟩]) rfl ?_)
              |(refine gReg (i := 7) ?_;refine C_plain [(0,0),(1,0),(2,0),(3,0),(4,0),(5,0),(6,0)] (by kernel_rfl) (s := [⟨0,none,_,_,_⟩,⟨0,none,_,_,_⟩,⟨0,none,_,_,_⟩,⟨0,none,_,_,_⟩,⟨0,none,_,_,_⟩,⟨0,none,_,_,_⟩,⟨0,none,_,_,_⟩]) rfl ?_)
              |(refine gReg (i := 8) ?_;refine C_plain [(0,0)] (by kernel_rfl) (s := [⟨0,none,_,_,_⟩]) rfl ?_)
              |(refine gReg (i := 9) ?_;refine C_plain [(0,0),(1,0),(2,0)] (by kernel_rfl) (s := [⟨0,none,_,_,_⟩,⟨0,none,_,_,_⟩,⟨0,none,_,_,_⟩]) rfl ?_)
              |(refine gReg (i := 10) ?_;refine C_plain [(0,0),(1,0),(2,0),(3,0),(4,0),(5,0),(6,0)] (by kernel_rfl) (s := [⟨0,none,_,_,_⟩,⟨0,none,_,_,_⟩,⟨0,none,_,_,_⟩,⟨0,none,_,_,_⟩,⟨0,none,_,_,_⟩,⟨0,none,_,_,_⟩,⟨0,none,_,_,_⟩]) rfl ?_)
              |(refine gReg (i := 11) ?_;refine C_plain [(0,0)] (by kernel_rfl) (s := [⟨0,none,_,_,_⟩]) rfl ?_)
              |(refine gReg (i := 12) ?_;refine C_plain [(0,0),(1,0),(2,0)] (by kernel_rfl) (s := [⟨0,none,_,_,_⟩,⟨0,none,_,_,_⟩,⟨0,none,_,_,_⟩]) rfl ?_)
              |(refine gReg (i := 13) ?_;refine C_plain [(0,0),(1,0),(2,0),(3,0),(4,0),(5,0),(6,2),(7,0)] (by kernel_rfl) (s := [⟨0,none,_,_,_⟩,⟨0,none,_,_,_⟩,⟨0,none,_,_,_⟩,⟨0,none,_,_,_⟩,⟨0,none,_,_,_⟩,⟨0,none,_,_,_⟩,⟨2,none,_,_,_⟩,⟨0,none,_,_,_⟩]) rfl ?_)
              |(refine gReg (i := 14) ?_;refine C_plain [(0,0),(1,0)] (by kernel_rfl) (s := [⟨0,none,_,_,_⟩,⟨0,none,_,_,_⟩]) rfl ?_)
              |(refine gReg (i := 15) ?_;refine C_plain [(0,0)] (by kernel_rfl) (s := [⟨0,none,_,_,_⟩]) rfl ?_)
              |(refine gReg (i := 3) ?_;refine C_plain [(0,0),(1,0),(2,0)] (by kernel_rfl) (s := [⟨0,none,_,_,_⟩,⟨0,none,_,_,_⟩,⟨0,none,_,_,_⟩]) rfl ?_)
              |(refine gReg (i := 16) ?_;refine C_plain [(0,0),(1,0)] (by kernel_rfl) (s := [⟨0,none,_,_,_⟩,⟨0,none,_,_,_⟩]) rfl ?_)))
          |(refine C_true rfl ?_)
          |(refine C_false rfl ?_)
          |(refine C_split rfl ?_ ?_ <;> (intro hb;(try simp only [decide_eq_true_eq] at hb);(try simp only [decide_eq_false_iff_not] at hb);(try simp only [Bool.not_eq_true'] at hb);(try simp only [Bool.not_eq_false'] at hb);(try (exfalso;first|contradiction|omega));(try ((exfalso;simp [Int.add_assoc] at hb;done)))))
          |(refine C_skip ?_)
          |(refine C_exit ?_)
          |(refine C_ret ?_)
          |(refine C_block ?_)))
      |(refine gE ?_;(first
          |(refine E_then ?_)
          |(refine E_thenX ?_)
          |(refine E_thenR ?_)
          |(refine E_block ?_)
          |(refine E_blockY ?_)
          |(refine E_blockR ?_)
          |(refine E_calm ?_)
          |(refine E_blockX rfl ?_)
          |(apply E_ret1 rfl;(first|exact Res.tmp rfl|(apply R_cellAll rfl;(focus ((repeat (first|exact mH|refine mT ?_));done));fail)|(apply R_cell1 rfl;(focus ((repeat (first|exact mH|refine mT ?_));done));(first|exact T.sc3|exact T.sc4|exact T.sc31))))
          |(apply E_ret2 rfl;(first|exact Res.tmp rfl|(apply R_cellAll rfl;(focus ((repeat (first|exact mH|refine mT ?_));done));fail)|(apply R_cell1 rfl;(focus ((repeat (first|exact mH|refine mT ?_));done));(first|exact T.sc3|exact T.sc4|exact T.sc31)));(first|exact Res.tmp rfl|(apply R_cellAll rfl;(focus ((repeat (first|exact mH|refine mT ?_));done));fail)|(apply R_cell1 rfl;(focus ((repeat (first|exact mH|refine mT ?_));done));(first|exact T.sc3|exact T.sc4|exact T.sc31))))
          | (apply E_ret3 rfl; (first | exact Res.tmp rfl | (apply R_cellAll rfl; (focus ((repeat (first | exact List.Mem.head _ | refine List.Mem.tail _ ?_)); done)); fail) | (apply R_cell1 rfl; (focus ((repeat (first | exact List.Mem.head _ | refine List.Mem.tail _ ?_)); done)); (first | exact T.sc3 | exact T.sc4 | exact T.sc31))); (first | exact Res.tmp rfl | (apply R_cellAll rfl; (focus ((repeat (first | exact List.Mem.head _ | refine List.Mem.tail _ ?_)); done)); fail) | (apply R_cell1 rfl; (focus ((repeat (first | exact List.Mem.head _ | refine List.Mem.tail _ ?_)); done)); (first | exact T.sc3 | exact T.sc4 | exact T.sc31))); (first | exact Res.tmp rfl | (apply R_cellAll rfl; (focus ((repeat (first | exact List.Mem.head _ | refine List.Mem.tail _ ?_)); done)); fail) | (apply R_cell1 rfl; (focus ((repeat (first | exact List.Mem.head _ | refine List.Mem.tail _ ?_)); done)); (first | exact T.sc3 | exact T.sc4 | exact T.sc31)))))))
    refine E_round (α := Nat × Int) (i + 1, _) ?_ ?_ ⟨rfl, rfl, rfl, trivial⟩ (List.nil_sublist _)
    · dsimp only; omega
    · dsimp only; omega
  · have hi' : i = l.length := by omega
    subst hi'
    have he := pre_end mkFSFibCell ((l).map ctFibCell)
    rw [List.length_map] at he
    repeat' (first
      |(refine gS ?_;(first
          |(refine S_move rfl rfl ?_)
          |(refine S_assign rfl rfl ?_)
          |(apply F_field rfl rfl;(first|exact T.fl33_0|exact T.fl33_1|exact T.fl33_2|exact T.fl33_3))
          |(apply F_fieldS rfl rfl;(first|exact T.fl33_0|exact T.fl33_1|exact T.fl33_2|exact T.fl33_3);(focus (first|exact len_nil|(apply len_given;assumption)|(apply len_row;(focus ((repeat (first|exact mH|refine mT ?_));done)))|(apply len_isN;assumption)));(focus omega))
          |(apply F_idx rfl rfl rfl;exact T.sl22;(focus rfl);(focus (first|exact len_nil|(apply len_given;assumption)|(apply len_row;(focus ((repeat (first|exact mH|refine mT ?_));done)))|(apply len_isN;assumption)));(focus omega))
          |(apply F_idxZ rfl rfl rfl;exact T.sl22;(focus omega);(focus (first|exact len_nil|(apply len_given;assumption)|(apply len_row;(focus ((repeat (first|exact mH|refine mT ?_));done)))|(apply len_isN;assumption)));(focus omega))
          |(refine gLoad ?_;(first
              |(apply F_load1 rfl rfl;(focus ((repeat (first|exact mH|refine mT ?_));done));(first|exact T.sc3|exact T.sc4|exact T.sc31);rfl;(focus (first|exact free0|exact free1)))
              |(apply F_loadS1 rfl rfl;(first|exact T.sc3|exact T.sc4|exact T.sc31);(focus (first|exact rd_nil|(apply rd_given;(focus assumption);(focus (first|exact freeG0|exact freeG1)))|(apply rd_row;(focus ((repeat (first|exact mH|refine mT ?_));done));(focus (first|exact freeR0|exact freeR1)))));(focus (first|(apply at_cell;(focus (apply at_flat;(focus (intro _;rfl));(focus assumption)));rfl)|(apply at_cell0;(focus (apply at_flat;(focus (intro _;rfl));(focus assumption)));rfl)|(apply at_cell;(focus (apply at_mid0;(focus assumption)));rfl)|(apply at_cell0;(focus (apply at_mid0;(focus assumption)));rfl)|rfl)))))
          |(refine gCall ?_;(first
              |(apply F_len rfl rfl rfl;(focus exact ⟨_,_,by exact T.sl22⟩);(focus (first|exact len_nil|(apply len_given;assumption)|(apply len_row;(focus ((repeat (first|exact mH|refine mT ?_));done)))|(apply len_isN;assumption))))))
          |(refine gBin ?_;(first
              |(refine S_lss rfl rfl rfl ?_)
              |(refine S_eql rfl rfl rfl ?_)
              |(refine S_neq rfl rfl rfl ?_)
              |(refine S_add rfl rfl ?_ rfl ?_;(focus (unfold rng;omega)))
              |(refine S_eqlB Try.underlying4 rfl rfl rfl ?_)
              |(refine S_neqB Try.underlying4 rfl rfl rfl ?_)
              |(refine S_rem rfl rfl ?_ ?_ rfl ?_;(focus omega);(focus omega))
              |(refine S_remT rfl rfl ?_ rfl ?_;(focus omega))))
          |(refine S_done ?_)))
      |(refine gC ?_;(first
          |(refine C_seq ?_)
          |(refine gReg ?_;(first
              |(refine gReg (i := 0) ?_;refine C_plain [(0,0)] (by kernel_rfl) (s := [⟨0,none,_,_,_⟩]) rfl ?_)
              |(refine gReg (i := 1) ?_;refine C_plain [(0,0)] (by kernel_rfl) (s := [⟨0,none,_,_,_⟩]) rfl ?_)
              |(refine gReg (i := 2) ?_;refine C_plain [(0,0),(1,0),(2,0),(3,0)] (by kernel_rfl) (s := [⟨0,none,_,_,_⟩,⟨0,none,_,_,_⟩,⟨0,none,_,_,_⟩,⟨0,none,_,_,_⟩]) rfl ?_)
              |(refine gReg (i := 4) ?_;refine C_plain [(0,0),(1,0),(2,0),(3,0),(4,0),(5,0),(6,0),(7,0),(8,0)] (by kernel_rfl) (s := [⟨0,none,_,_,_⟩,⟨0,none,_,_,_⟩,⟨0,none,_,_,_⟩,⟨0,none,_,_,_⟩,⟨0,none,_,_,_⟩,⟨0,none,_,_,_⟩,⟨0,none,_,_,_⟩,⟨0,none,_,_,_⟩,⟨0,none,_,_,_⟩]) rfl ?_)
              |(refine gReg (i := 5) ?_;refine C_plain [(0,0)] (by kernel_rfl) (s := [⟨0,none,_,_,_⟩]) rfl ?_)
              |(refine gReg (i := 6) ?_;refine C_plain [(0,0),(1,0),(2,0)] (by kernel_rfl) (s := [⟨0,none,_,_,_⟩,⟨0,none,_,_,_⟩,⟨0,none,_,_,_⟩]) rfl ?_)
              |(refine gReg (i := 7) ?_;refine C_plain [(0,0),(1,0),(2,0),(3,0),(4,0),(5,0),(6,0)] (by kernel_rfl) (s := [⟨0,none,_,_,_⟩,⟨0,none,_,_,_⟩,⟨0,none,_,_,_⟩,⟨0,none,_,_,_⟩,⟨0,none,_,_,_⟩,⟨0,none,_,_,_⟩,⟨0,none,_,_,_⟩]) rfl ?_)
              |(refine gReg (i := 8) ?_;refine C_plain [(0,0)] (by kernel_rfl) (s := [⟨0,none,_,_,_⟩]) rfl ?_)
              |(refine gReg (i := 9) ?_;refine C_plain [(0,0),(1,0),(2,0)] (by kernel_rfl) (s := [⟨0,none,_,_,_⟩,⟨0,none,_,_,_⟩,⟨0,none,_,_,_⟩]) rfl ?_)
              |(refine gReg (i := 10) ?_;refine C_plain [(0,0),(1,0),(2,0),(3,0),(4,0),(5,0),(6,0)] (by kernel_rfl) (s := [⟨0,none,_,_,_⟩,⟨0,none,_,_,_⟩,⟨0,none,_,_,_⟩,⟨0,none,_,_,_⟩,⟨0,none,_,_,_⟩,⟨0,none,_,_,_⟩,⟨0,none,_,_,_⟩]) rfl ?_)
              |(refine gReg (i := 11) ?_;refine C_plain [(0,0)] (by kernel_rfl) (s := [⟨0,none,_,_,_⟩]) rfl ?_)
              |(refine gReg (i := 12) ?_;refine C_plain [(0,0),(1,0),(2,0)] (by kernel_rfl) (s := [⟨0,none,_,_,_⟩,⟨0,none,_,_,_⟩,⟨0,none,_,_,_⟩]) rfl ?_)
              |(refine gReg (i := 13) ?_;refine C_plain [(0,0),(1,0),(2,0),(3,0),(4,0),(5,0),(6,2),(7,0)] (by kernel_rfl) (s := [⟨0,none,_,_,_⟩,⟨0,none,_,_,_⟩,⟨0,none,_,_,_⟩,⟨0,none,_,_,_⟩,⟨0,none,_,_,_⟩,⟨0,none,_,_,_⟩,⟨2,none,_,_,_⟩,⟨0,none,_,_,_⟩]) rfl ?_)
              |(refine gReg (i := 14) ?_;refine C_plain [(0,0),(1,0)] (by kernel_rfl) (s := [⟨0,none,_,_,_⟩,⟨0,none,_,_,_⟩]) rfl ?_)
              |(refine gReg (i := 15) ?_;refine C_plain [(0,0)] (by kernel_rfl) (s := [⟨0,none,_,_,_⟩]) rfl ?_)
              |(refine gReg (i := 3) ?_;refine C_plain [(0,0),(1,0),(2,0)] (by kernel_rfl) (s := [⟨0,none,_,_,_⟩,⟨0,none,_,_,_⟩,⟨0,none,_,_,_⟩]) rfl ?_)
              |(refine gReg (i := 16) ?_;refine C_plain [(0,0),(1,0)] (by kernel_rfl) (s := [⟨0,none,_,_,_⟩,⟨0,none,_,_,_⟩]) rfl ?_)))
          |(refine C_true rfl ?_)
          |(refine C_false rfl ?_)
          |(refine C_split rfl ?_ ?_ <;> (intro hb;(try simp only [decide_eq_true_eq] at hb);(try simp only [decide_eq_false_iff_not] at hb);(try simp only [Bool.not_eq_true'] at hb);(try simp only [Bool.not_eq_false'] at hb);(try (exfalso;first|contradiction|omega))))
          |(refine C_skip ?_)
          |(refine C_exit ?_)
          |(refine C_ret ?_)
          |(refine C_block ?_)))
      |(refine gE ?_;(first
          |(refine E_then ?_)
          |(refine E_thenX ?_)
          |(refine E_thenR ?_)
          |(refine E_block ?_)
          |(refine E_blockY ?_)
          |(refine E_blockR ?_)
          |(refine E_calm ?_)
          |(refine E_blockX rfl ?_)
          |(apply E_ret1 rfl;(first|exact Res.tmp rfl|(apply R_cellAll rfl;(focus ((repeat (first|exact mH|refine mT ?_));done));fail)|(apply R_cell1 rfl;(focus ((repeat (first|exact mH|refine mT ?_));done));(first|exact T.sc3|exact T.sc4|exact T.sc31))))
          |(apply E_ret2 rfl;(first|exact Res.tmp rfl|(apply R_cellAll rfl;(focus ((repeat (first|exact mH|refine mT ?_));done));fail)|(apply R_cell1 rfl;(focus ((repeat (first|exact mH|refine mT ?_));done));(first|exact T.sc3|exact T.sc4|exact T.sc31)));(first|exact Res.tmp rfl|(apply R_cellAll rfl;(focus ((repeat (first|exact mH|refine mT ?_));done));fail)|(apply R_cell1 rfl;(focus ((repeat (first|exact mH|refine mT ?_));done));(first|exact T.sc3|exact T.sc4|exact T.sc31))))
          | (apply E_ret3 rfl; (first | exact Res.tmp rfl | (apply R_cellAll rfl; (focus ((repeat (first | exact List.Mem.head _ | refine List.Mem.tail _ ?_)); done)); fail) | (apply R_cell1 rfl; (focus ((repeat (first | exact List.Mem.head _ | refine List.Mem.tail _ ?_)); done)); (first | exact T.sc3 | exact T.sc4 | exact T.sc31))); (first | exact Res.tmp rfl | (apply R_cellAll rfl; (focus ((repeat (first | exact List.Mem.head _ | refine List.Mem.tail _ ?_)); done)); fail) | (apply R_cell1 rfl; (focus ((repeat (first | exact List.Mem.head _ | refine List.Mem.tail _ ?_)); done)); (first | exact T.sc3 | exact T.sc4 | exact T.sc31))); (first | exact Res.tmp rfl | (apply R_cellAll rfl; (focus ((repeat (first | exact List.Mem.head _ | refine List.Mem.tail _ ?_)); done)); fail) | (apply R_cell1 rfl; (focus ((repeat (first | exact List.Mem.head _ | refine List.Mem.tail _ ?_)); done)); (first | exact T.sc3 | exact T.sc4 | exact T.sc31)))))))
    all_goals (refine retN ?_; congr 1; omega)
theorem eqFibOld_c (x y : MFibOld) (w : World) : Calls Try.prog 19 #[.agg (clFibOld x).toArray, .agg (clFibOld y).toArray] w (RetN (.bool (decide (x = y))) w) := by
  obtain ⟨x0, x1⟩ := x
  obtain ⟨y0, y1⟩ := y
  refine enter (n := 15) (E := [(0, _), (1, _)]) Try.func19 rfl rfl rfl rfl ?_
  repeat' (first
    |(refine gS ?_;(first
        |(refine S_move rfl rfl ?_)
        |(refine S_assign rfl rfl ?_)
        |(apply F_field rfl rfl;(first|exact T.fl45_0|exact T.fl45_1))
        |(refine gLoad ?_;(first
            |(apply F_load1 rfl rfl;(focus ((repeat (first|exact mH|refine mT ?_));done));exact T.sc3;rfl;(focus (first|exact free0|exact free1)))))
        |(refine gBin ?_;(first
            |(refine S_neq rfl rfl rfl ?_)
            |(refine S_neqB Try.underlying4 rfl rfl rfl ?_)))
        |(refine S_box rfl rfl rfl ?_;intro kb)
        |(refine S_done ?_)
        |(refine S_box1 rfl rfl rfl rfl ?_;intro kb)))
    |(refine gC ?_;(first
        |(refine C_seq ?_)
        |(refine gReg ?_;(first
            |(refine gReg (i := 0) ?_;refine C_plain [(0,2),(1,2),(2,0)] (by kernel_rfl) (s := [⟨2,none,_,_,_⟩,⟨2,none,_,_,_⟩,⟨0,none,_,_,_⟩]) rfl ?_)
            |(refine gReg (i := 1) ?_;refine C_plain [(0,0),(1,0),(2,0),(3,0),(4,0)] (by kernel_rfl) (s := [⟨0,none,_,_,_⟩,⟨0,none,_,_,_⟩,⟨0,none,_,_,_⟩,⟨0,none,_,_,_⟩,⟨0,none,_,_,_⟩]) rfl ?_)
            |(refine gReg (i := 2) ?_;refine C_plain [(0,0)] (by kernel_rfl) (s := [⟨0,none,_,_,_⟩]) rfl ?_)
            |(refine gReg (i := 3) ?_;refine C_plain [(0,0),(1,0),(2,0),(3,0),(4,0)] (by kernel_rfl) (s := [⟨0,none,_,_,_⟩,⟨0,none,_,_,_⟩,⟨0,none,_,_,_⟩,⟨0,none,_,_,_⟩,⟨0,none,_,_,_⟩]) rfl ?_)
            |(refine gReg (i := 4) ?_;refine C_plain [(0,0)] (by kernel_rfl) (s := [⟨0,none,_,_,_⟩]) rfl ?_)
            |(refine gReg (i := 5) ?_;refine C_plain [(0,0)] (by kernel_rfl) (s := [⟨0,none,_,_,_⟩]) rfl ?_)))
        |(refine C_true rfl ?_)
        |(refine C_false rfl ?_)
        |(refine C_split rfl ?_ ?_ <;> (intro hb;(try simp only [decide_eq_true_eq] at hb);(try simp only [decide_eq_false_iff_not] at hb);(try simp only [Bool.not_eq_true'] at hb);(try simp only [Bool.not_eq_false'] at hb);(try (exfalso;first|contradiction|omega))))
        |(refine C_skip ?_)
        |(refine C_exit ?_)
        |(refine C_ret ?_)
        |(refine C_block ?_)))
    |(refine gE ?_;(first
        |(refine E_then ?_)
        |(refine E_thenX ?_)
        |(refine E_thenR ?_)
        |(refine E_block ?_)
        |(refine E_blockY ?_)
        |(refine E_blockR ?_)
        |(refine E_calm ?_)
        |(refine E_blockX rfl ?_)
        |(apply E_ret1 rfl;(first|exact Res.tmp rfl|(apply R_cellAll rfl;(focus ((repeat (first|exact mH|refine mT ?_));done));fail)|(apply R_cell1 rfl;(focus ((repeat (first|exact mH|refine mT ?_));done));exact T.sc3)))
        |(apply E_ret2 rfl;(first|exact Res.tmp rfl|(apply R_cellAll rfl;(focus ((repeat (first|exact mH|refine mT ?_));done));fail)|(apply R_cell1 rfl;(focus ((repeat (first|exact mH|refine mT ?_));done));exact T.sc3));(first|exact Res.tmp rfl|(apply R_cellAll rfl;(focus ((repeat (first|exact mH|refine mT ?_));done));fail)|(apply R_cell1 rfl;(focus ((repeat (first|exact mH|refine mT ?_));done));exact T.sc3)))
        | (apply E_ret3 rfl; (first | exact Res.tmp rfl | (apply R_cellAll rfl; (focus ((repeat (first | exact List.Mem.head _ | refine List.Mem.tail _ ?_)); done)); fail) | (apply R_cell1 rfl; (focus ((repeat (first | exact List.Mem.head _ | refine List.Mem.tail _ ?_)); done)); exact T.sc3)); (first | exact Res.tmp rfl | (apply R_cellAll rfl; (focus ((repeat (first | exact List.Mem.head _ | refine List.Mem.tail _ ?_)); done)); fail) | (apply R_cell1 rfl; (focus ((repeat (first | exact List.Mem.head _ | refine List.Mem.tail _ ?_)); done)); exact T.sc3)); (first | exact Res.tmp rfl | (apply R_cellAll rfl; (focus ((repeat (first | exact List.Mem.head _ | refine List.Mem.tail _ ?_)); done)); fail) | (apply R_cell1 rfl; (focus ((repeat (first | exact List.Mem.head _ | refine List.Mem.tail _ ?_)); done)); exact T.sc3))))))
  all_goals (refine retN ?_; simp_all)
theorem eqFibOldS_c (v u : Value) (l m : List MFibOld) (w : World) (hm : Mem w v 2 l.length (l.flatMap clFibOld)) (hu : Mem w u 2 m.length (m.flatMap clFibOld)) : Calls Try.prog 10 #[v, u] w (RetN (.bool (decide (l = m))) w) := by
  have hlen := hm.len
  simp only [maxLen] at hlen
  refine enter (n := 27) (E := [(0, _), (1, _)]) Try.func10 rfl rfl rfl rfl ?_
  repeat' (first
    |(refine gS ?_;(first
        |(refine S_move rfl rfl ?_)
        |(refine S_assign rfl rfl ?_)
        |(apply F_idx rfl rfl rfl;exact T.sl23;(focus rfl);(focus (first|exact len_nil|(apply len_given;assumption)|(apply len_row;(focus ((repeat (first|exact mH|refine mT ?_));done)))|(apply len_isN;assumption)));(focus omega))
        |(apply F_idxZ rfl rfl rfl;exact T.sl23;(focus omega);(focus (first|exact len_nil|(apply len_given;assumption)|(apply len_row;(focus ((repeat (first|exact mH|refine mT ?_));done)))|(apply len_isN;assumption)));(focus omega))
        |(refine gLoad ?_;(first
            |(apply F_loadAll rfl rfl;(focus ((repeat (first|exact mH|refine mT ?_));done));exact T.rw45;(focus (first|exact free0|exact free1)))
            |(apply F_loadP rfl rfl;(focus ((repeat (first|exact mH|refine mT ?_));done));exact T.rw45;(focus ((repeat (first|exact Take.nil|apply Take.here|apply Take.there));done));rfl;(focus (first|exact free0|exact free1)))
            |(apply F_loadSN rfl rfl;exact T.rw45;(focus (first|exact rd_nil|(apply rd_given;(focus assumption);(focus (first|exact freeG0|exact freeG1)))|(apply rd_row;(focus ((repeat (first|exact mH|refine mT ?_));done));(focus (first|exact freeR0|exact freeR1)))));(focus (first|(focus (apply at_flat;(focus (intro _;rfl));(focus assumption)))|exact at_self));rfl;rfl)
            |(apply F_loadSP rfl rfl;exact T.rw45;(focus (first|exact rd_nil|(apply rd_given;(focus assumption);(focus (first|exact freeG0|exact freeG1)))|(apply rd_row;(focus ((repeat (first|exact mH|refine mT ?_));done));(focus (first|exact freeR0|exact freeR1)))));(focus (apply at_flat;(focus (intro _;rfl));(focus assumption)));(focus ((repeat (first|exact Take.nil|apply Take.here|apply Take.there));done));rfl;rfl)))
        |(refine gCall ?_;(first
            |(apply F_len rfl rfl rfl;(focus exact ⟨_,_,by exact T.sl23⟩);(focus (first|exact len_nil|(apply len_given;assumption)|(apply len_row;(focus ((repeat (first|exact mH|refine mT ?_));done)))|(apply len_isN;assumption))))))
        |(refine gBin ?_;(first
            |(refine S_lss rfl rfl rfl ?_)
            |(refine S_neq rfl rfl rfl ?_)
            |(refine S_add rfl rfl ?_ rfl ?_;(focus (unfold rng;omega)))
            |(refine S_neqB Try.underlying4 rfl rfl rfl ?_)))
        |(refine S_not rfl rfl ?_)
        |(refine S_done ?_)))
    |(refine gC ?_;(first
        |(refine C_seq ?_)
        |(refine gReg ?_;(first
            |(refine gReg (i := 0) ?_;refine C_plain [(0,0)] (by kernel_rfl) (s := [⟨0,none,_,_,_⟩]) rfl ?_)
            |(refine gReg (i := 1) ?_;refine C_plain [(0,0),(1,0),(2,0),(3,0),(4,0)] (by kernel_rfl) (s := [⟨0,none,_,_,_⟩,⟨0,none,_,_,_⟩,⟨0,none,_,_,_⟩,⟨0,none,_,_,_⟩,⟨0,none,_,_,_⟩]) rfl ?_)
            |(refine gReg (i := 2) ?_;refine C_plain [(0,0)] (by kernel_rfl) (s := [⟨0,none,_,_,_⟩]) rfl ?_)
            |(refine gReg (i := 3) ?_;refine C_plain [(0,0)] (by kernel_rfl) (s := [⟨0,none,_,_,_⟩]) rfl ?_)
            |(refine gReg (i := 4) ?_;refine C_plain [(0,0),(1,0),(2,0),(3,0)] (by kernel_rfl) (s := [⟨0,none,_,_,_⟩,⟨0,none,_,_,_⟩,⟨0,none,_,_,_⟩,⟨0,none,_,_,_⟩]) rfl ?_)
            |(refine gReg (i := 6) ?_;refine C_drawn [(0,0),(1,0),(2,0),(3,0),(4,0),(5,0),(6,0),(7,0),(8,1),(9,0)] [] T.mixed (by kernel_rfl) (s := [⟨0,none,_,_,_⟩,⟨0,none,_,_,_⟩,⟨0,none,_,_,_⟩,⟨0,none,_,_,_⟩,⟨0,none,_,_,_⟩,⟨0,none,_,_,_⟩,⟨0,none,_,_,_⟩,⟨0,none,_,_,_⟩,⟨1,none,_,_,_⟩,⟨0,none,_,_,_⟩]) rfl ?_)
            |(refine gReg (i := 7) ?_;refine C_plain [(0,0)] (by kernel_rfl) (s := [⟨0,none,_,_,_⟩]) rfl ?_)
            |(refine gReg (i := 5) ?_;refine C_plain [(0,0),(1,0),(2,0)] (by kernel_rfl) (s := [⟨0,none,_,_,_⟩,⟨0,none,_,_,_⟩,⟨0,none,_,_,_⟩]) rfl ?_)
            |(refine gReg (i := 8) ?_;refine C_plain [(0,0)] (by kernel_rfl) (s := [⟨0,none,_,_,_⟩]) rfl ?_)))
        |(refine C_true rfl ?_)
        |(refine C_false rfl ?_)
        |(refine C_split rfl ?_ ?_ <;> (intro hb;(try simp only [decide_eq_true_eq] at hb);(try simp only [decide_eq_false_iff_not] at hb);(try simp only [Bool.not_eq_true'] at hb);(try simp only [Bool.not_eq_false'] at hb);(try (exfalso;first|contradiction|omega))))
        |(refine C_skip ?_)
        |(refine C_exit ?_)
        |(refine C_ret ?_)
        |(refine C_block ?_)))
    |(refine gE ?_;(first
        |(refine E_then ?_)
        |(refine E_thenX ?_)
        |(refine E_thenR ?_)
        |(refine E_block ?_)
        |(refine E_blockY ?_)
        |(refine E_blockR ?_)
        |(refine E_calm ?_)
        |(refine E_blockX rfl ?_)
        |(apply E_ret1 rfl;(first|exact Res.tmp rfl|(apply R_cellAll rfl;(focus ((repeat (first|exact mH|refine mT ?_));done));exact T.rw45)|(apply R_cell1 rfl;(focus ((repeat (first|exact mH|refine mT ?_));done));fail)))
        |(apply E_ret2 rfl;(first|exact Res.tmp rfl|(apply R_cellAll rfl;(focus ((repeat (first|exact mH|refine mT ?_));done));exact T.rw45)|(apply R_cell1 rfl;(focus ((repeat (first|exact mH|refine mT ?_));done));fail));(first|exact Res.tmp rfl|(apply R_cellAll rfl;(focus ((repeat (first|exact mH|refine mT ?_));done));exact T.rw45)|(apply R_cell1 rfl;(focus ((repeat (first|exact mH|refine mT ?_));done));fail)))
        | (apply E_ret3 rfl; (first | exact Res.tmp rfl | (apply R_cellAll rfl; (focus ((repeat (first | exact List.Mem.head _ | refine List.Mem.tail _ ?_)); done)); exact T.rw45) | (apply R_cell1 rfl; (focus ((repeat (first | exact List.Mem.head _ | refine List.Mem.tail _ ?_)); done)); fail)); (first | exact Res.tmp rfl | (apply R_cellAll rfl; (focus ((repeat (first | exact List.Mem.head _ | refine List.Mem.tail _ ?_)); done)); exact T.rw45) | (apply R_cell1 rfl; (focus ((repeat (first | exact List.Mem.head _ | refine List.Mem.tail _ ?_)); done)); fail)); (first | exact Res.tmp rfl | (apply R_cellAll rfl; (focus ((repeat (first | exact List.Mem.head _ | refine List.Mem.tail _ ?_)); done)); exact T.rw45) | (apply R_cell1 rfl; (focus ((repeat (first | exact List.Mem.head _ | refine List.Mem.tail _ ?_)); done)); fail))))))
  · refine retN ?_
    have : l ≠ m := fun e => by subst e; contradiction
    simp [this]
  have hl : l.length = m.length := by omega
  refine C_loop (α := Nat) (fun k => [(5, .int .i64 (k : Int)), (0, v), (1, u)]) (fun _ => []) (fun k => k ≤ l.length ∧ l.take k = m.take k) (fun k => l.length - k) 0 ⟨by omega, rfl⟩ ⟨rfl, rfl, rfl, trivial⟩ (List.Sublist.refl _) ?_
  rintro k ⟨hk, ha⟩
  have hp : (k : Int) < (l.length : Int) → m[k]? = some (ix m k) := fun h => nthD (by omega)
  try dsimp only
  repeat' (first
    |(refine gS ?_;(first
        |(refine S_move rfl rfl ?_)
        |(refine S_assign rfl rfl ?_)
        |(apply F_idx rfl rfl rfl;exact T.sl23;(focus rfl);(focus (first|exact len_nil|(apply len_given;assumption)|(apply len_row;(focus ((repeat (first|exact mH|refine mT ?_));done)))|(apply len_isN;assumption)));(focus omega))
        |(apply F_idxZ rfl rfl rfl;exact T.sl23;(focus omega);(focus (first|exact len_nil|(apply len_given;assumption)|(apply len_row;(focus ((repeat (first|exact mH|refine mT ?_));done)))|(apply len_isN;assumption)));(focus omega))
        |(refine gLoad ?_;(first
            |(apply F_loadAll rfl rfl;(focus ((repeat (first|exact mH|refine mT ?_));done));exact T.rw45;(focus (first|exact free0|exact free1)))
            |(apply F_loadP rfl rfl;(focus ((repeat (first|exact mH|refine mT ?_));done));exact T.rw45;(focus ((repeat (first|exact Take.nil|apply Take.here|apply Take.there));done));rfl;(focus (first|exact free0|exact free1)))
            |(apply F_loadSN rfl rfl;exact T.rw45;(focus (first|exact rd_nil|(apply rd_given;(focus assumption);(focus (first|exact freeG0|exact freeG1)))|(apply rd_row;(focus ((repeat (first|exact mH|refine mT ?_));done));(focus (first|exact freeR0|exact freeR1)))));(focus (first|(focus (apply at_flat;(focus (intro _;rfl));(focus assumption)))|exact at_self));rfl;rfl)
            |(apply F_loadSP rfl rfl;exact T.rw45;(focus (first|exact rd_nil|(apply rd_given;(focus assumption);(focus (first|exact freeG0|exact freeG1)))|(apply rd_row;(focus ((repeat (first|exact mH|refine mT ?_));done));(focus (first|exact freeR0|exact freeR1)))));(focus (apply at_flat;(focus (intro _;rfl));(focus assumption)));(focus ((repeat (first|exact Take.nil|apply Take.here|apply Take.there));done));rfl;rfl)))
        |(refine gCall ?_;(first
            |(show GoS _ _ _ _ _ _ _ (⟨_,_,_,.call ⟨.value (.func 19),_,_⟩,_⟩ :: _);refine S_callN (f := 19) rfl T.pf19 rfl (fun w hst => eqFibOld_c _ _ w) rfl ?_)
            |(apply F_len rfl rfl rfl;(focus exact ⟨_,_,by exact T.sl23⟩);(focus (first|exact len_nil|(apply len_given;assumption)|(apply len_row;(focus ((repeat (first|exact mH|refine mT ?_));done)))|(apply len_isN;assumption))))))
        |(refine gBin ?_;(first
            |(refine S_lss rfl rfl rfl ?_)
            |(refine S_neq rfl rfl rfl ?_)
            |(refine S_add rfl rfl ?_ rfl ?_;(focus (unfold rng;omega)))
            |(refine S_neqB Try.underlying4 rfl rfl rfl ?_)))
        |(refine S_not rfl rfl ?_)
        |(refine S_done ?_)))
    |(refine gC ?_;(first
        |(refine C_seq ?_)
        |(refine gReg ?_;(first
            |(refine gReg (i := 0) ?_;refine C_plain [(0,0)] (by kernel_rfl) (s := [⟨0,none,_,_,_⟩]) rfl ?_)
            |(refine gReg (i := 1) ?_;refine C_plain [(0,0),(1,0),(2,0),(3,0),(4,0)] (by kernel_rfl) (s := [⟨0,none,_,_,_⟩,⟨0,none,_,_,_⟩,⟨0,none,_,_,_⟩,⟨0,none,_,_,_⟩,⟨0,none,_,_,_⟩]) rfl ?_)
            |(refine gReg (i := 2) ?_;refine C_plain [(0,0)] (by kernel_rfl) (s := [⟨0,none,_,_,_⟩]) rfl ?_)
            |(refine gReg (i := 3) ?_;refine C_plain [(0,0)] (by kernel_rfl) (s := [⟨0,none,_,_,_⟩]) rfl ?_)
            |(refine gReg (i := 4) ?_;refine C_plain [(0,0),(1,0),(2,0),(3,0)] (by kernel_rfl) (s := [⟨0,none,_,_,_⟩,⟨0,none,_,_,_⟩,⟨0,none,_,_,_⟩,⟨0,none,_,_,_⟩]) rfl ?_)
            |(refine gReg (i := 6) ?_;refine C_drawn [(0,0),(1,0),(2,0),(3,0),(4,0),(5,0),(6,0),(7,0),(8,1),(9,0)] [] T.mixed (by kernel_rfl) (s := [⟨0,none,_,_,_⟩,⟨0,none,_,_,_⟩,⟨0,none,_,_,_⟩,⟨0,none,_,_,_⟩,⟨0,none,_,_,_⟩,⟨0,none,_,_,_⟩,⟨0,none,_,_,_⟩,⟨0,none,_,_,_⟩,⟨1,none,_,_,_⟩,⟨0,none,_,_,_⟩]) rfl ?_)
            |(refine gReg (i := 7) ?_;refine C_plain [(0,0)] (by kernel_rfl) (s := [⟨0,none,_,_,_⟩]) rfl ?_)
            |(refine gReg (i := 5) ?_;refine C_plain [(0,0),(1,0),(2,0)] (by kernel_rfl) (s := [⟨0,none,_,_,_⟩,⟨0,none,_,_,_⟩,⟨0,none,_,_,_⟩]) rfl ?_)
            |(refine gReg (i := 8) ?_;refine C_plain [(0,0)] (by kernel_rfl) (s := [⟨0,none,_,_,_⟩]) rfl ?_)))
        |(refine C_true rfl ?_)
        |(refine C_false rfl ?_)
        |(refine C_split rfl ?_ ?_ <;> (intro hb;(try simp only [decide_eq_true_eq] at hb);(try simp only [decide_eq_false_iff_not] at hb);(try simp only [Bool.not_eq_true'] at hb);(try simp only [Bool.not_eq_false'] at hb);(try (exfalso;first|contradiction|omega));(try (have hx := nthD (l := l) (k := k) hb));(try (have hx' := hp hb))))
        |(refine C_skip ?_)
        |(refine C_exit ?_)
        |(refine C_ret ?_)
        |(refine C_block ?_)))
    |(refine gE ?_;(first
        |(refine E_then ?_)
        |(refine E_thenX ?_)
        |(refine E_thenR ?_)
        |(refine E_block ?_)
        |(refine E_blockY ?_)
        |(refine E_blockR ?_)
        |(refine E_calm ?_)
        |(refine E_blockX rfl ?_)
        |(apply E_ret1 rfl;(first|exact Res.tmp rfl|(apply R_cellAll rfl;(focus ((repeat (first|exact mH|refine mT ?_));done));exact T.rw45)|(apply R_cell1 rfl;(focus ((repeat (first|exact mH|refine mT ?_));done));fail)))
        |(apply E_ret2 rfl;(first|exact Res.tmp rfl|(apply R_cellAll rfl;(focus ((repeat (first|exact mH|refine mT ?_));done));exact T.rw45)|(apply R_cell1 rfl;(focus ((repeat (first|exact mH|refine mT ?_));done));fail));(first|exact Res.tmp rfl|(apply R_cellAll rfl;(focus ((repeat (first|exact mH|refine mT ?_));done));exact T.rw45)|(apply R_cell1 rfl;(focus ((repeat (first|exact mH|refine mT ?_));done));fail)))
        | (apply E_ret3 rfl; (first | exact Res.tmp rfl | (apply R_cellAll rfl; (focus ((repeat (first | exact List.Mem.head _ | refine List.Mem.tail _ ?_)); done)); exact T.rw45) | (apply R_cell1 rfl; (focus ((repeat (first | exact List.Mem.head _ | refine List.Mem.tail _ ?_)); done)); fail)); (first | exact Res.tmp rfl | (apply R_cellAll rfl; (focus ((repeat (first | exact List.Mem.head _ | refine List.Mem.tail _ ?_)); done)); exact T.rw45) | (apply R_cell1 rfl; (focus ((repeat (first | exact List.Mem.head _ | refine List.Mem.tail _ ?_)); done)); fail)); (first | exact Res.tmp rfl | (apply R_cellAll rfl; (focus ((repeat (first | exact List.Mem.head _ | refine List.Mem.tail _ ?_)); done)); exact T.rw45) | (apply R_cell1 rfl; (focus ((repeat (first | exact List.Mem.head _ | refine List.Mem.tail _ ?_)); done)); fail))))))
  · refine retN ?_
    have hb : decide (ix l k = ix m k) = false := by first | assumption | (simp only [decide_eq_false_iff_not]; assumption)
    have : l ≠ m := fun e => by subst e; simp at hb
    simp [this]
  · refine E_round (α := Nat) (k + 1) ?_ ?_ ?_ ?_
    · have hb : ix l k = ix m k := by first | exact of_decide_eq_true (by assumption) | omega
      exact ⟨by omega, by rw [take_snoc hx, take_snoc hx', ha, hb]⟩
    · omega
    · exact ⟨rfl, rfl, rfl, trivial⟩
    · exact List.nil_sublist _
  · refine retN ?_
    have e : k = l.length := by omega
    subst e
    have : l = m := by rw [List.take_length, hl, List.take_length] at ha; exact ha
    simp [this]
theorem eqSFibOld_c (x y : MSFibOld) (w : World) (hx : Rds w (rwSFibOld x)) (hy : Rds w (rwSFibOld y)) : Calls Try.prog 10 #[x.1, y.1] w (RetN (.bool (decide (x.2 = y.2))) w) := by
  obtain ⟨v, l⟩ := x
  have hm := Rds.head hx
  have hlen := hm.len
  simp only [maxLen] at hlen
  dsimp only at *
  obtain ⟨u, m⟩ := y
  have hm2 := Rds.head hy
  dsimp only at *
  refine enter (n := 27) (E := [(0, _), (1, _)]) Try.func10 rfl rfl rfl rfl ?_
  repeat' (first
    |(refine gS ?_;(first
        |(refine S_move rfl rfl ?_)
        |(refine S_assign rfl rfl ?_)
        |(apply F_idx rfl rfl rfl;exact T.sl23;(focus rfl);(focus (first|exact len_nil|(apply len_given;assumption)|(apply len_row;(focus ((repeat (first|exact mH|refine mT ?_));done)))|(apply len_isN;assumption)));(focus omega))
        |(apply F_idxZ rfl rfl rfl;exact T.sl23;(focus omega);(focus (first|exact len_nil|(apply len_given;assumption)|(apply len_row;(focus ((repeat (first|exact mH|refine mT ?_));done)))|(apply len_isN;assumption)));(focus omega))
        |(refine gLoad ?_;(first
            |(apply F_loadAll rfl rfl;(focus ((repeat (first|exact mH|refine mT ?_));done));exact T.rw45;(focus (first|exact free0|exact free1)))
            |(apply F_loadP rfl rfl;(focus ((repeat (first|exact mH|refine mT ?_));done));exact T.rw45;(focus ((repeat (first|exact Take.nil|apply Take.here|apply Take.there));done));rfl;(focus (first|exact free0|exact free1)))
            |(apply F_loadSN rfl rfl;exact T.rw45;(focus (first|exact rd_nil|(apply rd_given;(focus assumption);(focus (first|exact freeG0|exact freeG1)))|(apply rd_row;(focus ((repeat (first|exact mH|refine mT ?_));done));(focus (first|exact freeR0|exact freeR1)))));(focus (first|(focus (apply at_flat;(focus (intro _;rfl));(focus assumption)))|exact at_self));rfl;rfl)
            |(apply F_loadSP rfl rfl;exact T.rw45;(focus (first|exact rd_nil|(apply rd_given;(focus assumption);(focus (first|exact freeG0|exact freeG1)))|(apply rd_row;(focus ((repeat (first|exact mH|refine mT ?_));done));(focus (first|exact freeR0|exact freeR1)))));(focus (apply at_flat;(focus (intro _;rfl));(focus assumption)));(focus ((repeat (first|exact Take.nil|apply Take.here|apply Take.there));done));rfl;rfl)))
        |(refine gCall ?_;(first
            |(apply F_len rfl rfl rfl;(focus exact ⟨_,_,by exact T.sl23⟩);(focus (first|exact len_nil|(apply len_given;assumption)|(apply len_row;(focus ((repeat (first|exact mH|refine mT ?_));done)))|(apply len_isN;assumption))))))
        |(refine gBin ?_;(first
            |(refine S_lss rfl rfl rfl ?_)
            |(refine S_neq rfl rfl rfl ?_)
            |(refine S_add rfl rfl ?_ rfl ?_;(focus (unfold rng;omega)))
            |(refine S_neqB Try.underlying4 rfl rfl rfl ?_)))
        |(refine S_not rfl rfl ?_)
        |(refine S_done ?_)))
    |(refine gC ?_;(first
        |(refine C_seq ?_)
        |(refine gReg ?_;(first
            |(refine gReg (i := 0) ?_;refine C_plain [(0,0)] (by kernel_rfl) (s := [⟨0,none,_,_,_⟩]) rfl ?_)
            |(refine gReg (i := 1) ?_;refine C_plain [(0,0),(1,0),(2,0),(3,0),(4,0)] (by kernel_rfl) (s := [⟨0,none,_,_,_⟩,⟨0,none,_,_,_⟩,⟨0,none,_,_,_⟩,⟨0,none,_,_,_⟩,⟨0,none,_,_,_⟩]) rfl ?_)
            |(refine gReg (i := 2) ?_;refine C_plain [(0,0)] (by kernel_rfl) (s := [⟨0,none,_,_,_⟩]) rfl ?_)
            |(refine gReg (i := 3) ?_;refine C_plain [(0,0)] (by kernel_rfl) (s := [⟨0,none,_,_,_⟩]) rfl ?_)
            |(refine gReg (i := 4) ?_;refine C_plain [(0,0),(1,0),(2,0),(3,0)] (by kernel_rfl) (s := [⟨0,none,_,_,_⟩,⟨0,none,_,_,_⟩,⟨0,none,_,_,_⟩,⟨0,none,_,_,_⟩]) rfl ?_)
            |(refine gReg (i := 6) ?_;refine C_drawn [(0,0),(1,0),(2,0),(3,0),(4,0),(5,0),(6,0),(7,0),(8,1),(9,0)] [] T.mixed (by kernel_rfl) (s := [⟨0,none,_,_,_⟩,⟨0,none,_,_,_⟩,⟨0,none,_,_,_⟩,⟨0,none,_,_,_⟩,⟨0,none,_,_,_⟩,⟨0,none,_,_,_⟩,⟨0,none,_,_,_⟩,⟨0,none,_,_,_⟩,⟨1,none,_,_,_⟩,⟨0,none,_,_,_⟩]) rfl ?_)
            |(refine gReg (i := 7) ?_;refine C_plain [(0,0)] (by kernel_rfl) (s := [⟨0,none,_,_,_⟩]) rfl ?_)
            |(refine gReg (i := 5) ?_;refine C_plain [(0,0),(1,0),(2,0)] (by kernel_rfl) (s := [⟨0,none,_,_,_⟩,⟨0,none,_,_,_⟩,⟨0,none,_,_,_⟩]) rfl ?_)
            |(refine gReg (i := 8) ?_;refine C_plain [(0,0)] (by kernel_rfl) (s := [⟨0,none,_,_,_⟩]) rfl ?_)))
        |(refine C_true rfl ?_)
        |(refine C_false rfl ?_)
        |(refine C_split rfl ?_ ?_ <;> (intro hb;(try simp only [decide_eq_true_eq] at hb);(try simp only [decide_eq_false_iff_not] at hb);(try simp only [Bool.not_eq_true'] at hb);(try simp only [Bool.not_eq_false'] at hb);(try (exfalso;first|contradiction|omega))))
        |(refine C_skip ?_)
        |(refine C_exit ?_)
        |(refine C_ret ?_)
        |(refine C_block ?_)))
    |(refine gE ?_;(first
        |(refine E_then ?_)
        |(refine E_thenX ?_)
        |(refine E_thenR ?_)
        |(refine E_block ?_)
        |(refine E_blockY ?_)
        |(refine E_blockR ?_)
        |(refine E_calm ?_)
        |(refine E_blockX rfl ?_)
        |(apply E_ret1 rfl;(first|exact Res.tmp rfl|(apply R_cellAll rfl;(focus ((repeat (first|exact mH|refine mT ?_));done));exact T.rw45)|(apply R_cell1 rfl;(focus ((repeat (first|exact mH|refine mT ?_));done));fail)))
        |(apply E_ret2 rfl;(first|exact Res.tmp rfl|(apply R_cellAll rfl;(focus ((repeat (first|exact mH|refine mT ?_));done));exact T.rw45)|(apply R_cell1 rfl;(focus ((repeat (first|exact mH|refine mT ?_));done));fail));(first|exact Res.tmp rfl|(apply R_cellAll rfl;(focus ((repeat (first|exact mH|refine mT ?_));done));exact T.rw45)|(apply R_cell1 rfl;(focus ((repeat (first|exact mH|refine mT ?_));done));fail)))
        | (apply E_ret3 rfl; (first | exact Res.tmp rfl | (apply R_cellAll rfl; (focus ((repeat (first | exact List.Mem.head _ | refine List.Mem.tail _ ?_)); done)); exact T.rw45) | (apply R_cell1 rfl; (focus ((repeat (first | exact List.Mem.head _ | refine List.Mem.tail _ ?_)); done)); fail)); (first | exact Res.tmp rfl | (apply R_cellAll rfl; (focus ((repeat (first | exact List.Mem.head _ | refine List.Mem.tail _ ?_)); done)); exact T.rw45) | (apply R_cell1 rfl; (focus ((repeat (first | exact List.Mem.head _ | refine List.Mem.tail _ ?_)); done)); fail)); (first | exact Res.tmp rfl | (apply R_cellAll rfl; (focus ((repeat (first | exact List.Mem.head _ | refine List.Mem.tail _ ?_)); done)); exact T.rw45) | (apply R_cell1 rfl; (focus ((repeat (first | exact List.Mem.head _ | refine List.Mem.tail _ ?_)); done)); fail))))))
  · refine retN ?_
    have : l ≠ m := fun e => by
      have := congrArg List.length e
      (try simp only [List.length_map] at this)
      omega
    simp [this]
  have hl : l.length = m.length := by omega
  refine C_loop (α := Nat) (fun k => [(5, .int .i64 (k : Int)), (0, v), (1, u)]) (fun _ => []) (fun k => k ≤ l.length ∧ l.take k = m.take k) (fun k => l.length - k) 0 ⟨by omega, rfl⟩ ⟨rfl, rfl, rfl, trivial⟩ (List.Sublist.refl _) ?_
  rintro k ⟨hk, ha⟩
  have hp : (k : Int) < (l.length : Int) → m[k]? = some (ix m k) := fun h => nthD (by omega)
  try dsimp only
  repeat' (first
    |(refine gS ?_;(first
        |(refine S_move rfl rfl ?_)
        |(refine S_assign rfl rfl ?_)
        |(apply F_idx rfl rfl rfl;exact T.sl23;(focus rfl);(focus (first|exact len_nil|(apply len_given;assumption)|(apply len_row;(focus ((repeat (first|exact mH|refine mT ?_));done)))|(apply len_isN;assumption)));(focus omega))
        |(apply F_idxZ rfl rfl rfl;exact T.sl23;(focus omega);(focus (first|exact len_nil|(apply len_given;assumption)|(apply len_row;(focus ((repeat (first|exact mH|refine mT ?_));done)))|(apply len_isN;assumption)));(focus omega))
        |(refine gLoad ?_;(first
            |(apply F_loadAll rfl rfl;(focus ((repeat (first|exact mH|refine mT ?_));done));exact T.rw45;(focus (first|exact free0|exact free1)))
            |(apply F_loadP rfl rfl;(focus ((repeat (first|exact mH|refine mT ?_));done));exact T.rw45;(focus ((repeat (first|exact Take.nil|apply Take.here|apply Take.there));done));rfl;(focus (first|exact free0|exact free1)))
            |(apply F_loadSN rfl rfl;exact T.rw45;(focus (first|exact rd_nil|(apply rd_given;(focus assumption);(focus (first|exact freeG0|exact freeG1)))|(apply rd_row;(focus ((repeat (first|exact mH|refine mT ?_));done));(focus (first|exact freeR0|exact freeR1)))));(focus (first|(focus (apply at_flat;(focus (intro _;rfl));(focus assumption)))|exact at_self));rfl;rfl)
            |(apply F_loadSP rfl rfl;exact T.rw45;(focus (first|exact rd_nil|(apply rd_given;(focus assumption);(focus (first|exact freeG0|exact freeG1)))|(apply rd_row;(focus ((repeat (first|exact mH|refine mT ?_));done));(focus (first|exact freeR0|exact freeR1)))));(focus (apply at_flat;(focus (intro _;rfl));(focus assumption)));(focus ((repeat (first|exact Take.nil|apply Take.here|apply Take.there));done));rfl;rfl)))
        |(refine gCall ?_;(first
            |(show GoS _ _ _ _ _ _ _ (⟨_,_,_,.call ⟨.value (.func 19),_,_⟩,_⟩ :: _);refine S_callN (f := 19) rfl T.pf19 rfl (fun w hst => eqFibOld_c _ _ w) rfl ?_)
            |(apply F_len rfl rfl rfl;(focus exact ⟨_,_,by exact T.sl23⟩);(focus (first|exact len_nil|(apply len_given;assumption)|(apply len_row;(focus ((repeat (first|exact mH|refine mT ?_));done)))|(apply len_isN;assumption))))))
        |(refine gBin ?_;(first
            |(refine S_lss rfl rfl rfl ?_)
            |(refine S_neq rfl rfl rfl ?_)
            |(refine S_add rfl rfl ?_ rfl ?_;(focus (unfold rng;omega)))
            |(refine S_neqB Try.underlying4 rfl rfl rfl ?_)))
        |(refine S_not rfl rfl ?_)
        |(refine S_done ?_)))
    |(refine gC ?_;(first
        |(refine C_seq ?_)
        |(refine gReg ?_;(first
            |(refine gReg (i := 0) ?_;refine C_plain [(0,0)] (by kernel_rfl) (s := [⟨0,none,_,_,_⟩]) rfl ?_)
            |(refine gReg (i := 1) ?_;refine C_plain [(0,0),(1,0),(2,0),(3,0),(4,0)] (by kernel_rfl) (s := [⟨0,none,_,_,_⟩,⟨0,none,_,_,_⟩,⟨0,none,_,_,_⟩,⟨0,none,_,_,_⟩,⟨0,none,_,_,_⟩]) rfl ?_)
            |(refine gReg (i := 2) ?_;refine C_plain [(0,0)] (by kernel_rfl) (s := [⟨0,none,_,_,_⟩]) rfl ?_)
            |(refine gReg (i := 3) ?_;refine C_plain [(0,0)] (by kernel_rfl) (s := [⟨0,none,_,_,_⟩]) rfl ?_)
            |(refine gReg (i := 4) ?_;refine C_plain [(0,0),(1,0),(2,0),(3,0)] (by kernel_rfl) (s := [⟨0,none,_,_,_⟩,⟨0,none,_,_,_⟩,⟨0,none,_,_,_⟩,⟨0,none,_,_,_⟩]) rfl ?_)
            |(refine gReg (i := 6) ?_;refine C_drawn [(0,0),(1,0),(2,0),(3,0),(4,0),(5,0),(6,0),(7,0),(8,1),(9,0)] [] T.mixed (by kernel_rfl) (s := [⟨0,none,_,_,_⟩,⟨0,none,_,_,_⟩,⟨0,none,_,_,_⟩,⟨0,none,_,_,_⟩,⟨0,none,_,_,_⟩,⟨0,none,_,_,_⟩,⟨0,none,_,_,_⟩,⟨0,none,_,_,_⟩,⟨1,none,_,_,_⟩,⟨0,none,_,_,_⟩]) rfl ?_)
            |(refine gReg (i := 7) ?_;refine C_plain [(0,0)] (by kernel_rfl) (s := [⟨0,none,_,_,_⟩]) rfl ?_)
            |(refine gReg (i := 5) ?_;refine C_plain [(0,0),(1,0),(2,0)] (by kernel_rfl) (s := [⟨0,none,_,_,_⟩,⟨0,none,_,_,_⟩,⟨0,none,_,_,_⟩]) rfl ?_)
            |(refine gReg (i := 8) ?_;refine C_plain [(0,0)] (by kernel_rfl) (s := [⟨0,none,_,_,_⟩]) rfl ?_)))
        |(refine C_true rfl ?_)
        |(refine C_false rfl ?_)
        |(refine C_split rfl ?_ ?_ <;> (intro hb;(try simp only [decide_eq_true_eq] at hb);(try simp only [decide_eq_false_iff_not] at hb);(try simp only [Bool.not_eq_true'] at hb);(try simp only [Bool.not_eq_false'] at hb);(try (exfalso;first|contradiction|omega));(try (have hx := nthD (l := l) (k := k) hb));(try (have hx' := hp hb))))
        |(refine C_skip ?_)
        |(refine C_exit ?_)
        |(refine C_ret ?_)
        |(refine C_block ?_)))
    |(refine gE ?_;(first
        |(refine E_then ?_)
        |(refine E_thenX ?_)
        |(refine E_thenR ?_)
        |(refine E_block ?_)
        |(refine E_blockY ?_)
        |(refine E_blockR ?_)
        |(refine E_calm ?_)
        |(refine E_blockX rfl ?_)
        |(apply E_ret1 rfl;(first|exact Res.tmp rfl|(apply R_cellAll rfl;(focus ((repeat (first|exact mH|refine mT ?_));done));exact T.rw45)|(apply R_cell1 rfl;(focus ((repeat (first|exact mH|refine mT ?_));done));fail)))
        |(apply E_ret2 rfl;(first|exact Res.tmp rfl|(apply R_cellAll rfl;(focus ((repeat (first|exact mH|refine mT ?_));done));exact T.rw45)|(apply R_cell1 rfl;(focus ((repeat (first|exact mH|refine mT ?_));done));fail));(first|exact Res.tmp rfl|(apply R_cellAll rfl;(focus ((repeat (first|exact mH|refine mT ?_));done));exact T.rw45)|(apply R_cell1 rfl;(focus ((repeat (first|exact mH|refine mT ?_));done));fail)))
        | (apply E_ret3 rfl; (first | exact Res.tmp rfl | (apply R_cellAll rfl; (focus ((repeat (first | exact List.Mem.head _ | refine List.Mem.tail _ ?_)); done)); exact T.rw45) | (apply R_cell1 rfl; (focus ((repeat (first | exact List.Mem.head _ | refine List.Mem.tail _ ?_)); done)); fail)); (first | exact Res.tmp rfl | (apply R_cellAll rfl; (focus ((repeat (first | exact List.Mem.head _ | refine List.Mem.tail _ ?_)); done)); exact T.rw45) | (apply R_cell1 rfl; (focus ((repeat (first | exact List.Mem.head _ | refine List.Mem.tail _ ?_)); done)); fail)); (first | exact Res.tmp rfl | (apply R_cellAll rfl; (focus ((repeat (first | exact List.Mem.head _ | refine List.Mem.tail _ ?_)); done)); exact T.rw45) | (apply R_cell1 rfl; (focus ((repeat (first | exact List.Mem.head _ | refine List.Mem.tail _ ?_)); done)); fail))))))
  · refine retN ?_
    have hb : decide (ix l k = ix m k) = false := by first | assumption | (simp only [decide_eq_false_iff_not]; assumption) | (simp only [decide_eq_false_iff_not]; intro h; simp_all)
    have : l ≠ m := fun e => by subst e; simp at hb
    simp [this]
  · refine E_round (α := Nat) (k + 1) ?_ ?_ ?_ ?_
    · have hb : ix l k = ix m k := by first | exact of_decide_eq_true (by assumption) | omega | simp_all
      exact ⟨by omega, by rw [take_snoc hx, take_snoc hx', ha, hb]⟩
    · omega
    · exact ⟨rfl, rfl, rfl, trivial⟩
    · exact List.nil_sublist _
  · refine retN ?_
    have e : k = l.length := by omega
    subst e
    have : l = m := by rw [List.take_length, hl, List.take_length] at ha; exact ha
    simp [this]
theorem markSFibOld_c (x : MSFibOld) (k : Int) (hk : 0 ≤ k) (hb : k + (mkSFibOld (x.2) : Nat) ≤ 4611686018427387904) {w0 : World} (R : List Blk) (w : World) (hs : St w0 w ([.many (rwSFibOld x)] ++ R)) : Calls Try.prog 13 #[x.1, .int .i64 k] w (RetS w0 R (fun y : List MFibOld => y.length = x.2.length ∧ hdSFibOld (y) k ∧ mkSFibOld (y) = mkSFibOld (x.2)) (fun _ => .int .i64 (k + (mkSFibOld (x.2) : Nat))) (fun y => [.many (rwSFibOld (x.1, y))])) := by
  obtain ⟨v, l⟩ := x
  dsimp only at *
  have hs' : St w0 w (.row v 45 2 l.length (l.flatMap clFibOld) :: R) := (show Ent w0 _ _ from by (focus (apply Ent.flat;(simp only [List.length_append,List.length_cons,List.length_nil,Nat.zero_add,flat_many,flat_row,flat_blk,flat_append,flat_nil,List.map_append,List.map_cons,List.map_nil,List.flatMap_append,List.flatMap_cons,List.flatMap_nil,List.append_assoc,List.append_nil,List.nil_append,List.cons_append,Row.blk_mk,rwSFibHop,rwFibCell,rwSFibCell,rwSFibOld,rwFibReader,rwSFibReader,rwFibStore]);((repeat (first|exact Pull.nil|(apply Pull.app;(focus ((repeat (first|exact PickA.here|exact PickA.all|apply PickA.there|apply PickA.over));done)))|(apply Pull.cons;(focus ((repeat (first|exact Pick.here|exact Pick.last|apply Pick.there|apply Pick.over));done)))|(apply Pull.atom;(focus ((repeat (first|exact PickA.here|exact PickA.all|apply PickA.there|apply PickA.over));done)))));done)))) _ hs
  have hlen : l.length ≤ maxLen := (Mem.row hs' (by (focus ((repeat (first|exact mH|refine mT ?_));done)))).len
  simp only [maxLen] at hlen
  refine enterS (n := 27) (E := [(0, _), (1, _)]) Try.func13 rfl rfl rfl rfl hs' ?_
  repeat' (first
    |(refine gS ?_;(first
        |(refine S_move rfl rfl ?_)
        |(refine S_assign rfl rfl ?_)
        |(apply F_field rfl rfl;(first|exact T.fl45_0|exact T.fl45_1))
        |(apply F_fieldS rfl rfl;(first|exact T.fl45_0|exact T.fl45_1);(focus (first|exact len_nil|(apply len_given;assumption)|(apply len_row;(focus ((repeat (first|exact mH|refine mT ?_));done)))|(apply len_isN;assumption)));(focus omega))
        |(apply F_idx rfl rfl rfl;exact T.sl23;(focus rfl);(focus (first|exact len_nil|(apply len_given;assumption)|(apply len_row;(focus ((repeat (first|exact mH|refine mT ?_));done)))|(apply len_isN;assumption)));(focus omega))
        |(apply F_idxZ rfl rfl rfl;exact T.sl23;(focus omega);(focus (first|exact len_nil|(apply len_given;assumption)|(apply len_row;(focus ((repeat (first|exact mH|refine mT ?_));done)))|(apply len_isN;assumption)));(focus omega))
        |(refine gStore ?_;(first
            |(apply F_store1 rfl rfl;(focus (first|rfl|assumption));exact T.sc3;(focus ((repeat (first|exact Upd.here|apply Upd.there));done));(focus ((repeat (first|exact SetSeg.nil|apply SetSeg.here|apply SetSeg.there));done));(first|exact okst2|exact okst1|exact okst1'))
            |(apply F_storeM0 rfl rfl;(focus ((repeat (first|exact Upd.here|apply Upd.there));done));(focus assumption);exact T.sc3;(focus (first|rfl|assumption));(focus ((repeat (first|exact SetSeg.nil|apply SetSeg.here|apply SetSeg.there));done));(focus omega);(first|exact okst2|exact okst1|exact okst1'))
            |(apply F_storeM1 rfl rfl;(focus ((repeat (first|exact Upd.here|apply Upd.there));done));(focus assumption);exact T.sc3;(focus (first|rfl|assumption));(focus ((repeat (first|exact SetSeg.nil|apply SetSeg.here|apply SetSeg.there));done));(focus omega);(first|exact okst2|exact okst1|exact okst1'))
            |(apply F_storeS1 rfl rfl;(focus ((repeat (first|exact Upd.here|apply Upd.there));done));exact T.sc3;(focus (first|rfl|assumption));(focus omega);(first|exact okst2|exact okst1|exact okst1'))))
        |(refine gCall ?_;(first
            |(apply F_len rfl rfl rfl;(focus exact ⟨_,_,by exact T.sl23⟩);(focus (first|exact len_nil|(apply len_given;assumption)|(apply len_row;(focus ((repeat (first|exact mH|refine mT ?_));done)))|(apply len_isN;assumption))))))
        |(refine gBin ?_;(first
            |(refine S_lss rfl rfl rfl ?_)
            |(refine S_add rfl rfl ?_ rfl ?_;(focus (unfold rng;omega)))))
        |(refine S_done ?_)))
    |(refine gC ?_;(first
        |(refine C_seq ?_)
        |(refine gReg ?_;(first
            |(refine gReg (i := 0) ?_;refine C_plain [(0,0)] (by kernel_rfl) (s := [⟨0,none,_,_,_⟩]) rfl ?_)
            |(refine gReg (i := 1) ?_;refine C_plain [(0,0)] (by kernel_rfl) (s := [⟨0,none,_,_,_⟩]) rfl ?_)
            |(refine gReg (i := 2) ?_;refine C_plain [(0,0),(1,0),(2,0),(3,0)] (by kernel_rfl) (s := [⟨0,none,_,_,_⟩,⟨0,none,_,_,_⟩,⟨0,none,_,_,_⟩,⟨0,none,_,_,_⟩]) rfl ?_)
            |(refine gReg (i := 4) ?_;refine C_plain [(0,0),(1,0),(2,0),(3,0),(4,0),(5,2)] (by kernel_rfl) (s := [⟨0,none,_,_,_⟩,⟨0,none,_,_,_⟩,⟨0,none,_,_,_⟩,⟨0,none,_,_,_⟩,⟨0,none,_,_,_⟩,⟨2,none,_,_,_⟩]) rfl ?_)
            |(refine gReg (i := 5) ?_;refine C_plain [(0,0),(1,0),(2,0)] (by kernel_rfl) (s := [⟨0,none,_,_,_⟩,⟨0,none,_,_,_⟩,⟨0,none,_,_,_⟩]) rfl ?_)
            |(refine gReg (i := 6) ?_;refine C_plain [(0,0),(1,0),(2,0),(3,0),(4,0),(5,2)] (by kernel_rfl) (s := [⟨0,none,_,_,_⟩,⟨0,none,_,_,_⟩,⟨0,none,_,_,_⟩,⟨0,none,_,_,_⟩,⟨0,none,_,_,_⟩,⟨2,none,_,_,_⟩]) rfl ?_)
            |(refine gReg (i := 7) ?_;refine C_plain [(0,0),(1,0),(2,0)] (by kernel_rfl) (s := [⟨0,none,_,_,_⟩,⟨0,none,_,_,_⟩,⟨0,none,_,_,_⟩]) rfl ?_)
            |(refine gReg (i := 3) ?_;refine C_plain [(0,0),(1,0),(2,0)] (by kernel_rfl) (s := [⟨0,none,_,_,_⟩,⟨0,none,_,_,_⟩,⟨0,none,_,_,_⟩]) rfl ?_)
            |(refine gReg (i := 8) ?_;refine C_plain [(0,0),(1,0)] (by kernel_rfl) (s := [⟨0,none,_,_,_⟩,⟨0,none,_,_,_⟩]) rfl ?_)))
        |(refine C_true rfl ?_)
        |(refine C_false rfl ?_)
        |(refine C_split rfl ?_ ?_ <;> (intro hb;(try simp only [decide_eq_true_eq] at hb);(try simp only [decide_eq_false_iff_not] at hb);(try simp only [Bool.not_eq_true'] at hb);(try simp only [Bool.not_eq_false'] at hb);(try (exfalso;first|contradiction|omega))))
        |(refine C_skip ?_)
        |(refine C_exit ?_)
        |(refine C_ret ?_)
        |(refine C_block ?_)))
    |(refine gE ?_;(first
        |(refine E_then ?_)
        |(refine E_thenX ?_)
        |(refine E_thenR ?_)
        |(refine E_block ?_)
        |(refine E_blockY ?_)
        |(refine E_blockR ?_)
        |(refine E_calm ?_)
        |(refine E_blockX rfl ?_)
        |(apply E_ret1 rfl;(first|exact Res.tmp rfl|(apply R_cellAll rfl;(focus ((repeat (first|exact mH|refine mT ?_));done));fail)|(apply R_cell1 rfl;(focus ((repeat (first|exact mH|refine mT ?_));done));exact T.sc3)))
        |(apply E_ret2 rfl;(first|exact Res.tmp rfl|(apply R_cellAll rfl;(focus ((repeat (first|exact mH|refine mT ?_));done));fail)|(apply R_cell1 rfl;(focus ((repeat (first|exact mH|refine mT ?_));done));exact T.sc3));(first|exact Res.tmp rfl|(apply R_cellAll rfl;(focus ((repeat (first|exact mH|refine mT ?_));done));fail)|(apply R_cell1 rfl;(focus ((repeat (first|exact mH|refine mT ?_));done));exact T.sc3)))
        | (apply E_ret3 rfl; (first | exact Res.tmp rfl | (apply R_cellAll rfl; (focus ((repeat (first | exact List.Mem.head _ | refine List.Mem.tail _ ?_)); done)); fail) | (apply R_cell1 rfl; (focus ((repeat (first | exact List.Mem.head _ | refine List.Mem.tail _ ?_)); done)); exact T.sc3)); (first | exact Res.tmp rfl | (apply R_cellAll rfl; (focus ((repeat (first | exact List.Mem.head _ | refine List.Mem.tail _ ?_)); done)); fail) | (apply R_cell1 rfl; (focus ((repeat (first | exact List.Mem.head _ | refine List.Mem.tail _ ?_)); done)); exact T.sc3)); (first | exact Res.tmp rfl | (apply R_cellAll rfl; (focus ((repeat (first | exact List.Mem.head _ | refine List.Mem.tail _ ?_)); done)); fail) | (apply R_cell1 rfl; (focus ((repeat (first | exact List.Mem.head _ | refine List.Mem.tail _ ?_)); done)); exact T.sc3))))))
  refine C_loop (α := Nat × List MFibOld × List MFibOld × Int) (fun s => [(5, .int .i64 (s.1 : Int)), (1, .int .i64 s.2.2.2), (0, v)]) (fun s => .row v 45 2 l.length (s.2.1.flatMap clFibOld ++ s.2.2.1.flatMap clFibOld) :: R) (fun s => s.2.1.length = s.1 ∧ s.1 + s.2.2.1.length = l.length ∧ s.2.2.2 = k + (mkSFibOld (s.2.1) : Nat) ∧ mkSFibOld (s.2.1) + mkSFibOld (s.2.2.1) = mkSFibOld (l) ∧ hdSFibOld (s.2.1) k) (fun s => l.length - s.1) (0, [], l, k) ⟨rfl, by simp, by simp [mkSFibOld], by simp [mkSFibOld], trivial⟩ ⟨rfl, rfl, rfl, trivial⟩ (List.Sublist.refl _) ?_
  rintro ⟨i, dn, rest, kc⟩ ⟨hdn, hrest, hkc, hmk, hhd⟩
  dsimp only at *
  cases rest with
  | nil =>
    have hi : i = l.length := by simpa using hrest
    subst hi
    repeat' (first
      |(refine gS ?_;(first
          |(refine S_move rfl rfl ?_)
          |(refine S_assign rfl rfl ?_)
          |(apply F_field rfl rfl;(first|exact T.fl45_0|exact T.fl45_1))
          |(apply F_fieldS rfl rfl;(first|exact T.fl45_0|exact T.fl45_1);(focus (first|exact len_nil|(apply len_given;assumption)|(apply len_row;(focus ((repeat (first|exact mH|refine mT ?_));done)))|(apply len_isN;assumption)));(focus omega))
          |(apply F_idx rfl rfl rfl;exact T.sl23;(focus rfl);(focus (first|exact len_nil|(apply len_given;assumption)|(apply len_row;(focus ((repeat (first|exact mH|refine mT ?_));done)))|(apply len_isN;assumption)));(focus omega))
          |(apply F_idxZ rfl rfl rfl;exact T.sl23;(focus omega);(focus (first|exact len_nil|(apply len_given;assumption)|(apply len_row;(focus ((repeat (first|exact mH|refine mT ?_));done)))|(apply len_isN;assumption)));(focus omega))
          |(refine gStore ?_;(first
              |(apply F_store1 rfl rfl;(focus (first|rfl|assumption));exact T.sc3;(focus ((repeat (first|exact Upd.here|apply Upd.there));done));(focus ((repeat (first|exact SetSeg.nil|apply SetSeg.here|apply SetSeg.there));done));(first|exact okst2|exact okst1|exact okst1'))
              |(apply F_storeM0 rfl rfl;(focus ((repeat (first|exact Upd.here|apply Upd.there));done));(focus assumption);exact T.sc3;(focus (first|rfl|assumption));(focus ((repeat (first|exact SetSeg.nil|apply SetSeg.here|apply SetSeg.there));done));(focus omega);(first|exact okst2|exact okst1|exact okst1'))
              |(apply F_storeM1 rfl rfl;(focus ((repeat (first|exact Upd.here|apply Upd.there));done));(focus assumption);exact T.sc3;(focus (first|rfl|assumption));(focus ((repeat (first|exact SetSeg.nil|apply SetSeg.here|apply SetSeg.there));done));(focus omega);(first|exact okst2|exact okst1|exact okst1'))
              |(apply F_storeS1 rfl rfl;(focus ((repeat (first|exact Upd.here|apply Upd.there));done));exact T.sc3;(focus (first|rfl|assumption));(focus omega);(first|exact okst2|exact okst1|exact okst1'))))
          |(refine gCall ?_;(first
              |(apply F_len rfl rfl rfl;(focus exact ⟨_,_,by exact T.sl23⟩);(focus (first|exact len_nil|(apply len_given;assumption)|(apply len_row;(focus ((repeat (first|exact mH|refine mT ?_));done)))|(apply len_isN;assumption))))))
          |(refine gBin ?_;(first
              |(refine S_lss rfl rfl rfl ?_)
              |(refine S_add rfl rfl ?_ rfl ?_;(focus (unfold rng;omega)))))
          |(refine S_done ?_)))
      |(refine gC ?_;(first
          |(refine C_seq ?_)
          |(refine gReg ?_;(first
              |(refine gReg (i := 0) ?_;refine C_plain [(0,0)] (by kernel_rfl) (s := [⟨0,none,_,_,_⟩]) rfl ?_)
              |(refine gReg (i := 1) ?_;refine C_plain [(0,0)] (by kernel_rfl) (s := [⟨0,none,_,_,_⟩]) rfl ?_)
              |(refine gReg (i := 2) ?_;refine C_plain [(0,0),(1,0),(2,0),(3,0)] (by kernel_rfl) (s := [⟨0,none,_,_,_⟩,⟨0,none,_,_,_⟩,⟨0,none,_,_,_⟩,⟨0,none,_,_,_⟩]) rfl ?_)
              |(refine gReg (i := 4) ?_;refine C_plain [(0,0),(1,0),(2,0),(3,0),(4,0),(5,2)] (by kernel_rfl) (s := [⟨0,none,_,_,_⟩,⟨0,none,_,_,_⟩,⟨0,none,_,_,_⟩,⟨0,none,_,_,_⟩,⟨0,none,_,_,_⟩,⟨2,none,_,_,_⟩]) rfl ?_)
              |(refine gReg (i := 5) ?_;refine C_plain [(0,0),(1,0),(2,0)] (by kernel_rfl) (s := [⟨0,none,_,_,_⟩,⟨0,none,_,_,_⟩,⟨0,none,_,_,_⟩]) rfl ?_)
              |(refine gReg (i := 6) ?_;refine C_plain [(0,0),(1,0),(2,0),(3,0),(4,0),(5,2)] (by kernel_rfl) (s := [⟨0,none,_,_,_⟩,⟨0,none,_,_,_⟩,⟨0,none,_,_,_⟩,⟨0,none,_,_,_⟩,⟨0,none,_,_,_⟩,⟨2,none,_,_,_⟩]) rfl ?_)
              |(refine gReg (i := 7) ?_;refine C_plain [(0,0),(1,0),(2,0)] (by kernel_rfl) (s := [⟨0,none,_,_,_⟩,⟨0,none,_,_,_⟩,⟨0,none,_,_,_⟩]) rfl ?_)
              |(refine gReg (i := 3) ?_;refine C_plain [(0,0),(1,0),(2,0)] (by kernel_rfl) (s := [⟨0,none,_,_,_⟩,⟨0,none,_,_,_⟩,⟨0,none,_,_,_⟩]) rfl ?_)
              |(refine gReg (i := 8) ?_;refine C_plain [(0,0),(1,0)] (by kernel_rfl) (s := [⟨0,none,_,_,_⟩,⟨0,none,_,_,_⟩]) rfl ?_)))
          |(refine C_true rfl ?_)
          |(refine C_false rfl ?_)
          |(refine C_split rfl ?_ ?_ <;> (intro hb;(try simp only [decide_eq_true_eq] at hb);(try simp only [decide_eq_false_iff_not] at hb);(try simp only [Bool.not_eq_true'] at hb);(try simp only [Bool.not_eq_false'] at hb);(try (exfalso;first|contradiction|omega))))
          |(refine C_skip ?_)
          |(refine C_exit ?_)
          |(refine C_ret ?_)
          |(refine C_block ?_)))
      |(refine gE ?_;(first
          |(refine E_then ?_)
          |(refine E_thenX ?_)
          |(refine E_thenR ?_)
          |(refine E_block ?_)
          |(refine E_blockY ?_)
          |(refine E_blockR ?_)
          |(refine E_calm ?_)
          |(refine E_blockX rfl ?_)
          |(apply E_ret1 rfl;(first|exact Res.tmp rfl|(apply R_cellAll rfl;(focus ((repeat (first|exact mH|refine mT ?_));done));fail)|(apply R_cell1 rfl;(focus ((repeat (first|exact mH|refine mT ?_));done));exact T.sc3)))
          |(apply E_ret2 rfl;(first|exact Res.tmp rfl|(apply R_cellAll rfl;(focus ((repeat (first|exact mH|refine mT ?_));done));fail)|(apply R_cell1 rfl;(focus ((repeat (first|exact mH|refine mT ?_));done));exact T.sc3));(first|exact Res.tmp rfl|(apply R_cellAll rfl;(focus ((repeat (first|exact mH|refine mT ?_));done));fail)|(apply R_cell1 rfl;(focus ((repeat (first|exact mH|refine mT ?_));done));exact T.sc3)))
          | (apply E_ret3 rfl; (first | exact Res.tmp rfl | (apply R_cellAll rfl; (focus ((repeat (first | exact List.Mem.head _ | refine List.Mem.tail _ ?_)); done)); fail) | (apply R_cell1 rfl; (focus ((repeat (first | exact List.Mem.head _ | refine List.Mem.tail _ ?_)); done)); exact T.sc3)); (first | exact Res.tmp rfl | (apply R_cellAll rfl; (focus ((repeat (first | exact List.Mem.head _ | refine List.Mem.tail _ ?_)); done)); fail) | (apply R_cell1 rfl; (focus ((repeat (first | exact List.Mem.head _ | refine List.Mem.tail _ ?_)); done)); exact T.sc3)); (first | exact Res.tmp rfl | (apply R_cellAll rfl; (focus ((repeat (first | exact List.Mem.head _ | refine List.Mem.tail _ ?_)); done)); fail) | (apply R_cell1 rfl; (focus ((repeat (first | exact List.Mem.head _ | refine List.Mem.tail _ ?_)); done)); exact T.sc3))))))
    have hmk' : mkSFibOld (dn) = mkSFibOld (l) := by simpa [mkSFibOld] using hmk
    refine retS dn ⟨hdn, hhd, hmk'⟩ ?_ ?_
    · congr 1; rw [hkc, hmk']
    · rw [← hdn];exact (by (focus (apply Ent.flat;(simp only [List.length_append,List.length_cons,List.length_nil,Nat.zero_add,flat_many,flat_row,flat_blk,flat_append,flat_nil,List.map_append,List.map_cons,List.map_nil,List.flatMap_append,List.flatMap_cons,List.flatMap_nil,List.append_assoc,List.append_nil,List.nil_append,List.cons_append,Row.blk_mk,rwSFibHop,rwFibCell,rwSFibCell,rwSFibOld,rwFibReader,rwSFibReader,rwFibStore]);((repeat (first|exact Pull.nil|(apply Pull.app;(focus ((repeat (first|exact PickA.here|exact PickA.all|apply PickA.there|apply PickA.over));done)))|(apply Pull.cons;(focus ((repeat (first|exact Pick.here|exact Pick.last|apply Pick.there|apply Pick.over));done)))|(apply Pull.atom;(focus ((repeat (first|exact PickA.here|exact PickA.all|apply PickA.there|apply PickA.over));done)))));done))))
  | cons x rest =>
    have hlt : i < l.length := by simp at hrest; omega
    have hA : (dn.flatMap clFibOld).length = i * 2 := by rw [flat_len (m := 2) (fun _ => rfl), hdn]
    have hmx : mkSFibOld (x :: rest) = mkFSFibOld x + mkSFibOld (rest) := by simp only [mkSFibOld, List.map_cons, List.sum_cons]
    have hme : mkFSFibOld x = 2 := rfl
    rw [List.flatMap_cons]
    repeat' (first
      |(refine gS ?_;(first
          |(refine S_move rfl rfl ?_)
          |(refine S_assign rfl rfl ?_)
          |(apply F_field rfl rfl;(first|exact T.fl45_0|exact T.fl45_1))
          |(apply F_fieldS rfl rfl;(first|exact T.fl45_0|exact T.fl45_1);(focus (first|exact len_nil|(apply len_given;assumption)|(apply len_row;(focus ((repeat (first|exact mH|refine mT ?_));done)))|(apply len_isN;assumption)));(focus omega))
          |(apply F_idx rfl rfl rfl;exact T.sl23;(focus rfl);(focus (first|exact len_nil|(apply len_given;assumption)|(apply len_row;(focus ((repeat (first|exact mH|refine mT ?_));done)))|(apply len_isN;assumption)));(focus omega))
          |(apply F_idxZ rfl rfl rfl;exact T.sl23;(focus omega);(focus (first|exact len_nil|(apply len_given;assumption)|(apply len_row;(focus ((repeat (first|exact mH|refine mT ?_));done)))|(apply len_isN;assumption)));(focus omega))
          |(refine gStore ?_;(first
              |(apply F_store1 rfl rfl;(focus (first|rfl|assumption));exact T.sc3;(focus ((repeat (first|exact Upd.here|apply Upd.there));done));(focus ((repeat (first|exact SetSeg.nil|apply SetSeg.here|apply SetSeg.there));done));(first|exact okst2|exact okst1|exact okst1'))
              |(apply F_storeM0 rfl rfl;(focus ((repeat (first|exact Upd.here|apply Upd.there));done));(focus assumption);exact T.sc3;(focus (first|rfl|assumption));(focus ((repeat (first|exact SetSeg.nil|apply SetSeg.here|apply SetSeg.there));done));(focus omega);(first|exact okst2|exact okst1|exact okst1'))
              |(apply F_storeM1 rfl rfl;(focus ((repeat (first|exact Upd.here|apply Upd.there));done));(focus assumption);exact T.sc3;(focus (first|rfl|assumption));(focus ((repeat (first|exact SetSeg.nil|apply SetSeg.here|apply SetSeg.there));done));(focus omega);(first|exact okst2|exact okst1|exact okst1'))
              |(apply F_storeS1 rfl rfl;(focus ((repeat (first|exact Upd.here|apply Upd.there));done));exact T.sc3;(focus (first|rfl|assumption));(focus omega);(first|exact okst2|exact okst1|exact okst1'))))
          |(refine gCall ?_;(first
              |(apply F_len rfl rfl rfl;(focus exact ⟨_,_,by exact T.sl23⟩);(focus (first|exact len_nil|(apply len_given;assumption)|(apply len_row;(focus ((repeat (first|exact mH|refine mT ?_));done)))|(apply len_isN;assumption))))))
          |(refine gBin ?_;(first
              |(refine S_lss rfl rfl rfl ?_)
              |(refine S_add rfl rfl ?_ rfl ?_;(focus (unfold rng;omega)))))
          |(refine S_done ?_)))
      |(refine gC ?_;(first
          |(refine C_seq ?_)
          |(refine gReg ?_;(first
              |(refine gReg (i := 0) ?_;refine C_plain [(0,0)] (by kernel_rfl) (s := [⟨0,none,_,_,_⟩]) rfl ?_)
              |(refine gReg (i := 1) ?_;refine C_plain [(0,0)] (by kernel_rfl) (s := [⟨0,none,_,_,_⟩]) rfl ?_)
              |(refine gReg (i := 2) ?_;refine C_plain [(0,0),(1,0),(2,0),(3,0)] (by kernel_rfl) (s := [⟨0,none,_,_,_⟩,⟨0,none,_,_,_⟩,⟨0,none,_,_,_⟩,⟨0,none,_,_,_⟩]) rfl ?_)
              |(refine gReg (i := 4) ?_;refine C_plain [(0,0),(1,0),(2,0),(3,0),(4,0),(5,2)] (by kernel_rfl) (s := [⟨0,none,_,_,_⟩,⟨0,none,_,_,_⟩,⟨0,none,_,_,_⟩,⟨0,none,_,_,_⟩,⟨0,none,_,_,_⟩,⟨2,none,_,_,_⟩]) rfl ?_)
              |(refine gReg (i := 5) ?_;refine C_plain [(0,0),(1,0),(2,0)] (by kernel_rfl) (s := [⟨0,none,_,_,_⟩,⟨0,none,_,_,_⟩,⟨0,none,_,_,_⟩]) rfl ?_)
              |(refine gReg (i := 6) ?_;refine C_plain [(0,0),(1,0),(2,0),(3,0),(4,0),(5,2)] (by kernel_rfl) (s := [⟨0,none,_,_,_⟩,⟨0,none,_,_,_⟩,⟨0,none,_,_,_⟩,⟨0,none,_,_,_⟩,⟨0,none,_,_,_⟩,⟨2,none,_,_,_⟩]) rfl ?_)
              |(refine gReg (i := 7) ?_;refine C_plain [(0,0),(1,0),(2,0)] (by kernel_rfl) (s := [⟨0,none,_,_,_⟩,⟨0,none,_,_,_⟩,⟨0,none,_,_,_⟩]) rfl ?_)
              |(refine gReg (i := 3) ?_;refine C_plain [(0,0),(1,0),(2,0)] (by kernel_rfl) (s := [⟨0,none,_,_,_⟩,⟨0,none,_,_,_⟩,⟨0,none,_,_,_⟩]) rfl ?_)
              |(refine gReg (i := 8) ?_;refine C_plain [(0,0),(1,0)] (by kernel_rfl) (s := [⟨0,none,_,_,_⟩,⟨0,none,_,_,_⟩]) rfl ?_)))
          |(refine C_true rfl ?_)
          |(refine C_false rfl ?_)
          |(refine C_split rfl ?_ ?_ <;> (intro hb;(try simp only [decide_eq_true_eq] at hb);(try simp only [decide_eq_false_iff_not] at hb);(try simp only [Bool.not_eq_true'] at hb);(try simp only [Bool.not_eq_false'] at hb);(try (exfalso;first|contradiction|omega))))
          |(refine C_skip ?_)
          |(refine C_exit ?_)
          |(refine C_ret ?_)
          |(refine C_block ?_)))
      |(refine gE ?_;(first
          |(refine E_then ?_)
          |(refine E_thenX ?_)
          |(refine E_thenR ?_)
          |(refine E_block ?_)
          |(refine E_blockY ?_)
          |(refine E_blockR ?_)
          |(refine E_calm ?_)
          |(refine E_blockX rfl ?_)
          |(apply E_ret1 rfl;(first|exact Res.tmp rfl|(apply R_cellAll rfl;(focus ((repeat (first|exact mH|refine mT ?_));done));fail)|(apply R_cell1 rfl;(focus ((repeat (first|exact mH|refine mT ?_));done));exact T.sc3)))
          |(apply E_ret2 rfl;(first|exact Res.tmp rfl|(apply R_cellAll rfl;(focus ((repeat (first|exact mH|refine mT ?_));done));fail)|(apply R_cell1 rfl;(focus ((repeat (first|exact mH|refine mT ?_));done));exact T.sc3));(first|exact Res.tmp rfl|(apply R_cellAll rfl;(focus ((repeat (first|exact mH|refine mT ?_));done));fail)|(apply R_cell1 rfl;(focus ((repeat (first|exact mH|refine mT ?_));done));exact T.sc3)))
          | (apply E_ret3 rfl; (first | exact Res.tmp rfl | (apply R_cellAll rfl; (focus ((repeat (first | exact List.Mem.head _ | refine List.Mem.tail _ ?_)); done)); fail) | (apply R_cell1 rfl; (focus ((repeat (first | exact List.Mem.head _ | refine List.Mem.tail _ ?_)); done)); exact T.sc3)); (first | exact Res.tmp rfl | (apply R_cellAll rfl; (focus ((repeat (first | exact List.Mem.head _ | refine List.Mem.tail _ ?_)); done)); fail) | (apply R_cell1 rfl; (focus ((repeat (first | exact List.Mem.head _ | refine List.Mem.tail _ ?_)); done)); exact T.sc3)); (first | exact Res.tmp rfl | (apply R_cellAll rfl; (focus ((repeat (first | exact List.Mem.head _ | refine List.Mem.tail _ ?_)); done)); fail) | (apply R_cell1 rfl; (focus ((repeat (first | exact List.Mem.head _ | refine List.Mem.tail _ ?_)); done)); exact T.sc3))))))
    have hsn : ∀ y : MFibOld, hdFSFibOld y kc → mkFSFibOld y = mkFSFibOld x → hdSFibOld (dn ++ [y]) k ∧ mkSFibOld (dn ++ [y]) = mkSFibOld (dn) + mkFSFibOld x := fun y h1 h2 => by
      rw [hkc] at h1
      exact ⟨Held.snoc hhd h1, by simp only [mkSFibOld, List.map_append, List.sum_append, List.map_singleton, List.sum_singleton] at *; omega⟩
    refine E_roundS (α := Nat × List MFibOld × List MFibOld × Int) (i + 1,dn ++ [(kc,kc + 1)],rest,_) ((fun q => ⟨by simp [hdn],by simp only [List.length_cons] at hrest;dsimp only;omega,by dsimp only;rw [q.2];omega,by dsimp only;rw [q.2];omega,q.1⟩) (hsn _ ?_ ?_)) (by dsimp only;omega) ⟨rfl,rfl,rfl,trivial⟩ (by (focus (apply Ent.flat;(simp only [List.length_append,List.length_cons,List.length_nil,Nat.zero_add,flat_many,flat_row,flat_blk,flat_append,flat_nil,List.map_append,List.map_cons,List.map_nil,List.flatMap_append,List.flatMap_cons,List.flatMap_nil,List.append_assoc,List.append_nil,List.nil_append,List.cons_append,Row.blk_mk,rwSFibHop,rwFibCell,rwSFibCell,rwSFibOld,rwFibReader,rwSFibReader,rwFibStore]);((repeat (first|exact Pull.nil|(apply Pull.app;(focus ((repeat (first|exact PickA.here|exact PickA.all|apply PickA.there|apply PickA.over));done)))|(apply Pull.cons;(focus ((repeat (first|exact Pick.here|exact Pick.last|apply Pick.there|apply Pick.over));done)))|(apply Pull.atom;(focus ((repeat (first|exact PickA.here|exact PickA.all|apply PickA.there|apply PickA.over));done)))));done))))
    · exact ⟨by first | rfl | (dsimp only [id]; omega), by first | rfl | (dsimp only [id]; omega)⟩
    · rfl
theorem heldSFibOld_c (x : MSFibOld) (k : Int) (hk : 0 ≤ k) (hb : k + (mkSFibOld (x.2) : Nat) ≤ 4611686018427387904) (hh : hdSFibOld (x.2) k) (w : World) (hx : Rds w (rwSFibOld x)) : Calls Try.prog 16 #[x.1, .int .i64 k] w (RetN (.int .i64 (k + (mkSFibOld (x.2) : Nat))) w) := by
  obtain ⟨v, l⟩ := x
  have hm := Rds.head hx
  have hlen := hm.len
  simp only [maxLen] at hlen
  dsimp only at *
  refine enter (n := 31) (E := [(0, _), (1, _)]) Try.func16 rfl rfl rfl rfl ?_
  repeat' (first
    |(refine gS ?_;(first
        |(refine S_move rfl rfl ?_)
        |(refine S_assign rfl rfl ?_)
        |(apply F_field rfl rfl;(first|exact T.fl45_0|exact T.fl45_1))
        |(apply F_fieldS rfl rfl;(first|exact T.fl45_0|exact T.fl45_1);(focus (first|exact len_nil|(apply len_given;assumption)|(apply len_row;(focus ((repeat (first|exact mH|refine mT ?_));done)))|(apply len_isN;assumption)));(focus omega))
        |(apply F_idx rfl rfl rfl;exact T.sl23;(focus rfl);(focus (first|exact len_nil|(apply len_given;assumption)|(apply len_row;(focus ((repeat (first|exact mH|refine mT ?_));done)))|(apply len_isN;assumption)));(focus omega))
        |(apply F_idxZ rfl rfl rfl;exact T.sl23;(focus omega);(focus (first|exact len_nil|(apply len_given;assumption)|(apply len_row;(focus ((repeat (first|exact mH|refine mT ?_));done)))|(apply len_isN;assumption)));(focus omega))
        |(refine gLoad ?_;(first
            |(apply F_load1 rfl rfl;(focus ((repeat (first|exact mH|refine mT ?_));done));exact T.sc3;rfl;(focus (first|exact free0|exact free1)))
            |(apply F_loadS1 rfl rfl;exact T.sc3;(focus (first|exact rd_nil|(apply rd_given;(focus assumption);(focus (first|exact freeG0|exact freeG1)))|(apply rd_row;(focus ((repeat (first|exact mH|refine mT ?_));done));(focus (first|exact freeR0|exact freeR1)))));(focus (first|(apply at_cell;(focus (apply at_flat;(focus (intro _;rfl));(focus assumption)));rfl)|(apply at_cell0;(focus (apply at_flat;(focus (intro _;rfl));(focus assumption)));rfl)|(apply at_cell;(focus (apply at_mid0;(focus assumption)));rfl)|(apply at_cell0;(focus (apply at_mid0;(focus assumption)));rfl)|rfl)))))
        |(refine gCall ?_;(first
            |(apply F_len rfl rfl rfl;(focus exact ⟨_,_,by exact T.sl23⟩);(focus (first|exact len_nil|(apply len_given;assumption)|(apply len_row;(focus ((repeat (first|exact mH|refine mT ?_));done)))|(apply len_isN;assumption))))))
        |(refine gBin ?_;(first
            |(refine S_lss rfl rfl rfl ?_)
            |(refine S_neq rfl rfl rfl ?_)
            |(refine S_add rfl rfl ?_ rfl ?_;(focus (unfold rng;omega)))
            |(refine S_neqB Try.underlying4 rfl rfl rfl ?_)))
        |(refine S_done ?_)))
    |(refine gC ?_;(first
        |(refine C_seq ?_)
        |(refine gReg ?_;(first
            |(refine gReg (i := 0) ?_;refine C_plain [(0,0)] (by kernel_rfl) (s := [⟨0,none,_,_,_⟩]) rfl ?_)
            |(refine gReg (i := 1) ?_;refine C_plain [(0,0)] (by kernel_rfl) (s := [⟨0,none,_,_,_⟩]) rfl ?_)
            |(refine gReg (i := 2) ?_;refine C_plain [(0,0),(1,0),(2,0),(3,0)] (by kernel_rfl) (s := [⟨0,none,_,_,_⟩,⟨0,none,_,_,_⟩,⟨0,none,_,_,_⟩,⟨0,none,_,_,_⟩]) rfl ?_)
            |(refine gReg (i := 4) ?_;refine C_plain [(0,0),(1,0),(2,0),(3,0),(4,0),(5,0),(6,0)] (by kernel_rfl) (s := [⟨0,none,_,_,_⟩,⟨0,none,_,_,_⟩,⟨0,none,_,_,_⟩,⟨0,none,_,_,_⟩,⟨0,none,_,_,_⟩,⟨0,none,_,_,_⟩,⟨0,none,_,_,_⟩]) rfl ?_)
            |(refine gReg (i := 5) ?_;refine C_plain [(0,0)] (by kernel_rfl) (s := [⟨0,none,_,_,_⟩]) rfl ?_)
            |(refine gReg (i := 6) ?_;refine C_plain [(0,0),(1,0),(2,0)] (by kernel_rfl) (s := [⟨0,none,_,_,_⟩,⟨0,none,_,_,_⟩,⟨0,none,_,_,_⟩]) rfl ?_)
            |(refine gReg (i := 7) ?_;refine C_plain [(0,0),(1,0),(2,0),(3,0),(4,0),(5,0),(6,0)] (by kernel_rfl) (s := [⟨0,none,_,_,_⟩,⟨0,none,_,_,_⟩,⟨0,none,_,_,_⟩,⟨0,none,_,_,_⟩,⟨0,none,_,_,_⟩,⟨0,none,_,_,_⟩,⟨0,none,_,_,_⟩]) rfl ?_)
            |(refine gReg (i := 8) ?_;refine C_plain [(0,0)] (by kernel_rfl) (s := [⟨0,none,_,_,_⟩]) rfl ?_)
            |(refine gReg (i := 9) ?_;refine C_plain [(0,0),(1,0),(2,0)] (by kernel_rfl) (s := [⟨0,none,_,_,_⟩,⟨0,none,_,_,_⟩,⟨0,none,_,_,_⟩]) rfl ?_)
            |(refine gReg (i := 3) ?_;refine C_plain [(0,0),(1,0),(2,0)] (by kernel_rfl) (s := [⟨0,none,_,_,_⟩,⟨0,none,_,_,_⟩,⟨0,none,_,_,_⟩]) rfl ?_)
            |(refine gReg (i := 10) ?_;refine C_plain [(0,0),(1,0)] (by kernel_rfl) (s := [⟨0,none,_,_,_⟩,⟨0,none,_,_,_⟩]) rfl ?_)))
        |(refine C_true rfl ?_)
        |(refine C_false rfl ?_)
        |(refine C_split rfl ?_ ?_ <;> (intro hb;(try simp only [decide_eq_true_eq] at hb);(try simp only [decide_eq_false_iff_not] at hb);(try simp only [Bool.not_eq_true'] at hb);(try simp only [Bool.not_eq_false'] at hb);(try (exfalso;first|contradiction|omega))))
        |(refine C_skip ?_)
        |(refine C_exit ?_)
        |(refine C_ret ?_)
        |(refine C_block ?_)))
    |(refine gE ?_;(first
        |(refine E_then ?_)
        |(refine E_thenX ?_)
        |(refine E_thenR ?_)
        |(refine E_block ?_)
        |(refine E_blockY ?_)
        |(refine E_blockR ?_)
        |(refine E_calm ?_)
        |(refine E_blockX rfl ?_)
        |(apply E_ret1 rfl;(first|exact Res.tmp rfl|(apply R_cellAll rfl;(focus ((repeat (first|exact mH|refine mT ?_));done));fail)|(apply R_cell1 rfl;(focus ((repeat (first|exact mH|refine mT ?_));done));exact T.sc3)))
        |(apply E_ret2 rfl;(first|exact Res.tmp rfl|(apply R_cellAll rfl;(focus ((repeat (first|exact mH|refine mT ?_));done));fail)|(apply R_cell1 rfl;(focus ((repeat (first|exact mH|refine mT ?_));done));exact T.sc3));(first|exact Res.tmp rfl|(apply R_cellAll rfl;(focus ((repeat (first|exact mH|refine mT ?_));done));fail)|(apply R_cell1 rfl;(focus ((repeat (first|exact mH|refine mT ?_));done));exact T.sc3)))
        | (apply E_ret3 rfl; (first | exact Res.tmp rfl | (apply R_cellAll rfl; (focus ((repeat (first | exact List.Mem.head _ | refine List.Mem.tail _ ?_)); done)); fail) | (apply R_cell1 rfl; (focus ((repeat (first | exact List.Mem.head _ | refine List.Mem.tail _ ?_)); done)); exact T.sc3)); (first | exact Res.tmp rfl | (apply R_cellAll rfl; (focus ((repeat (first | exact List.Mem.head _ | refine List.Mem.tail _ ?_)); done)); fail) | (apply R_cell1 rfl; (focus ((repeat (first | exact List.Mem.head _ | refine List.Mem.tail _ ?_)); done)); exact T.sc3)); (first | exact Res.tmp rfl | (apply R_cellAll rfl; (focus ((repeat (first | exact List.Mem.head _ | refine List.Mem.tail _ ?_)); done)); fail) | (apply R_cell1 rfl; (focus ((repeat (first | exact List.Mem.head _ | refine List.Mem.tail _ ?_)); done)); exact T.sc3))))))
  refine C_loop (α := Nat × Int) (fun s => [(5, .int .i64 (s.1 : Int)), (1, .int .i64 s.2), (0, v)]) (fun _ => []) (fun s => s.1 ≤ l.length ∧ s.2 = k + (pre mkFSFibOld (l) s.1 : Nat)) (fun s => l.length - s.1) (0, k) ⟨Nat.zero_le _, by simp [pre_zero]⟩ ⟨rfl, rfl, rfl, trivial⟩ (List.Sublist.refl _) ?_
  rintro ⟨i, kc⟩ ⟨hi, hkc⟩
  dsimp only at *
  have htot : mkSFibOld (l) = ((l).map mkFSFibOld).sum := rfl
  have ht0 := pre_le mkFSFibOld (l) i
  have ht1 := pre_le mkFSFibOld (l) (i + 1)
  rcases Nat.lt_or_ge i l.length with hlt | hge
  · obtain ⟨x, hx⟩ : ∃ x, l[i]? = some x := ⟨_, List.getElem?_eq_getElem hlt⟩
    have hxc : (l)[i]? = some x := by exact hx
    have hel := Held.at hh hxc
    have hps := pre_succ (mk := mkFSFibOld) hxc
    rw [← hkc] at hel
    obtain ⟨e0, e1⟩ := x
    simp only [hdFSFibOld] at hel
    obtain ⟨g0, g1⟩ := hel
    subst g0
    subst g1
    simp only [mkFSFibOld] at hps
    repeat' (first
      |(refine gS ?_;(first
          |(refine S_move rfl rfl ?_)
          |(refine S_assign rfl rfl ?_)
          |(apply F_field rfl rfl;(first|exact T.fl45_0|exact T.fl45_1))
          |(apply F_fieldS rfl rfl;(first|exact T.fl45_0|exact T.fl45_1);(focus (first|exact len_nil|(apply len_given;assumption)|(apply len_row;(focus ((repeat (first|exact mH|refine mT ?_));done)))|(apply len_isN;assumption)));(focus omega))
          |(apply F_idx rfl rfl rfl;exact T.sl23;(focus rfl);(focus (first|exact len_nil|(apply len_given;assumption)|(apply len_row;(focus ((repeat (first|exact mH|refine mT ?_));done)))|(apply len_isN;assumption)));(focus omega))
          |(apply F_idxZ rfl rfl rfl;exact T.sl23;(focus omega);(focus (first|exact len_nil|(apply len_given;assumption)|(apply len_row;(focus ((repeat (first|exact mH|refine mT ?_));done)))|(apply len_isN;assumption)));(focus omega))
          |(refine gLoad ?_;(first
              |(apply F_load1 rfl rfl;(focus ((repeat (first|exact mH|refine mT ?_));done));exact T.sc3;rfl;(focus (first|exact free0|exact free1)))
              |(apply F_loadS1 rfl rfl;exact T.sc3;(focus (first|exact rd_nil|(apply rd_given;(focus assumption);(focus (first|exact freeG0|exact freeG1)))|(apply rd_row;(focus ((repeat (first|exact mH|refine mT ?_));done));(focus (first|exact freeR0|exact freeR1)))));(focus (first|(apply at_cell;(focus (apply at_flat;(focus (intro _;rfl));(focus assumption)));rfl)|(apply at_cell0;(focus (apply at_flat;(focus (intro _;rfl));(focus assumption)));rfl)|(apply at_cell;(focus (apply at_mid0;(focus assumption)));rfl)|(apply at_cell0;(focus (apply at_mid0;(focus assumption)));rfl)|rfl)))))
          |(refine gCall ?_;(first
              |(apply F_len rfl rfl rfl;(focus exact ⟨_,_,by exact T.sl23⟩);(focus (first|exact len_nil|(apply len_given;assumption)|(apply len_row;(focus ((repeat (first|exact mH|refine mT ?_));done)))|(apply len_isN;assumption))))))
          |(refine gBin ?_;(first
              |(refine S_lss rfl rfl rfl ?_)
              |(refine S_neq rfl rfl rfl ?_)
              |(refine S_add rfl rfl ?_ rfl ?_;(focus (unfold rng;omega)))
              |(refine S_neqB Try.underlying4 rfl rfl rfl ?_)))
          |(refine S_done ?_)))
      |(refine gC ?_;(first
          |(refine C_seq ?_)
          |(refine gReg ?_;(first
              |(refine gReg (i := 0) ?_;refine C_plain [(0,0)] (by kernel_rfl) (s := [⟨0,none,_,_,_⟩]) rfl ?_)
              |(refine gReg (i := 1) ?_;refine C_plain [(0,0)] (by kernel_rfl) (s := [⟨0,none,_,_,_⟩]) rfl ?_)
              |(refine gReg (i := 2) ?_;refine C_plain [(0,0),(1,0),(2,0),(3,0)] (by kernel_rfl) (s := [⟨0,none,_,_,_⟩,⟨0,none,_,_,_⟩,⟨0,none,_,_,_⟩,⟨0,none,_,_,_⟩]) rfl ?_)
              |(refine gReg (i := 4) ?_;refine C_plain [(0,0),(1,0),(2,0),(3,0),(4,0),(5,0),(6,0)] (by kernel_rfl) (s := [⟨0,none,_,_,_⟩,⟨0,none,_,_,_⟩,⟨0,none,_,_,_⟩,⟨0,none,_,_,_⟩,⟨0,none,_,_,_⟩,⟨0,none,_,_,_⟩,⟨0,none,_,_,_⟩]) rfl ?_)
              |(refine gReg (i := 5) ?_;refine C_plain [(0,0)] (by kernel_rfl) (s := [⟨0,none,_,_,_⟩]) rfl ?_)
              |(refine gReg (i := 6) ?_;refine C_plain [(0,0),(1,0),(2,0)] (by kernel_rfl) (s := [⟨0,none,_,_,_⟩,⟨0,none,_,_,_⟩,⟨0,none,_,_,_⟩]) rfl ?_)
              |(refine gReg (i := 7) ?_;refine C_plain [(0,0),(1,0),(2,0),(3,0),(4,0),(5,0),(6,0)] (by kernel_rfl) (s := [⟨0,none,_,_,_⟩,⟨0,none,_,_,_⟩,⟨0,none,_,_,_⟩,⟨0,none,_,_,_⟩,⟨0,none,_,_,_⟩,⟨0,none,_,_,_⟩,⟨0,none,_,_,_⟩]) rfl ?_)
              |(refine gReg (i := 8) ?_;refine C_plain [(0,0)] (by kernel_rfl) (s := [⟨0,none,_,_,_⟩]) rfl ?_)
              |(refine gReg (i := 9) ?_;refine C_plain [(0,0),(1,0),(2,0)] (by kernel_rfl) (s := [⟨0,none,_,_,_⟩,⟨0,none,_,_,_⟩,⟨0,none,_,_,_⟩]) rfl ?_)
              |(refine gReg (i := 3) ?_;refine C_plain [(0,0),(1,0),(2,0)] (by kernel_rfl) (s := [⟨0,none,_,_,_⟩,⟨0,none,_,_,_⟩,⟨0,none,_,_,_⟩]) rfl ?_)
              |(refine gReg (i := 10) ?_;refine C_plain [(0,0),(1,0)] (by kernel_rfl) (s := [⟨0,none,_,_,_⟩,⟨0,none,_,_,_⟩]) rfl ?_)))
          |(refine C_true rfl ?_)
          |(refine C_false rfl ?_)
          |(refine C_split rfl ?_ ?_ <;> (intro hb;(try simp only [decide_eq_true_eq] at hb);(try simp only [decide_eq_false_iff_not] at hb);(try simp only [Bool.not_eq_true'] at hb);(try simp only [Bool.not_eq_false'] at hb);(try (exfalso;first|contradiction|omega));(try ((exfalso;simp [Int.add_assoc] at hb;done)))))
          |(refine C_skip ?_)
          |(refine C_exit ?_)
          |(refine C_ret ?_)
          |(refine C_block ?_)))
      |(refine gE ?_;(first
          |(refine E_then ?_)
          |(refine E_thenX ?_)
          |(refine E_thenR ?_)
          |(refine E_block ?_)
          |(refine E_blockY ?_)
          |(refine E_blockR ?_)
          |(refine E_calm ?_)
          |(refine E_blockX rfl ?_)
          |(apply E_ret1 rfl;(first|exact Res.tmp rfl|(apply R_cellAll rfl;(focus ((repeat (first|exact mH|refine mT ?_));done));fail)|(apply R_cell1 rfl;(focus ((repeat (first|exact mH|refine mT ?_));done));exact T.sc3)))
          |(apply E_ret2 rfl;(first|exact Res.tmp rfl|(apply R_cellAll rfl;(focus ((repeat (first|exact mH|refine mT ?_));done));fail)|(apply R_cell1 rfl;(focus ((repeat (first|exact mH|refine mT ?_));done));exact T.sc3));(first|exact Res.tmp rfl|(apply R_cellAll rfl;(focus ((repeat (first|exact mH|refine mT ?_));done));fail)|(apply R_cell1 rfl;(focus ((repeat (first|exact mH|refine mT ?_));done));exact T.sc3)))
          | (apply E_ret3 rfl; (first | exact Res.tmp rfl | (apply R_cellAll rfl; (focus ((repeat (first | exact List.Mem.head _ | refine List.Mem.tail _ ?_)); done)); fail) | (apply R_cell1 rfl; (focus ((repeat (first | exact List.Mem.head _ | refine List.Mem.tail _ ?_)); done)); exact T.sc3)); (first | exact Res.tmp rfl | (apply R_cellAll rfl; (focus ((repeat (first | exact List.Mem.head _ | refine List.Mem.tail _ ?_)); done)); fail) | (apply R_cell1 rfl; (focus ((repeat (first | exact List.Mem.head _ | refine List.Mem.tail _ ?_)); done)); exact T.sc3)); (first | exact Res.tmp rfl | (apply R_cellAll rfl; (focus ((repeat (first | exact List.Mem.head _ | refine List.Mem.tail _ ?_)); done)); fail) | (apply R_cell1 rfl; (focus ((repeat (first | exact List.Mem.head _ | refine List.Mem.tail _ ?_)); done)); exact T.sc3))))))
    refine E_round (α := Nat × Int) (i + 1, _) ?_ ?_ ⟨rfl, rfl, rfl, trivial⟩ (List.nil_sublist _)
    · dsimp only; omega
    · dsimp only; omega
  · have hi' : i = l.length := by omega
    subst hi'
    have he := pre_end mkFSFibOld (l)
    repeat' (first
      |(refine gS ?_;(first
          |(refine S_move rfl rfl ?_)
          |(refine S_assign rfl rfl ?_)
          |(apply F_field rfl rfl;(first|exact T.fl45_0|exact T.fl45_1))
          |(apply F_fieldS rfl rfl;(first|exact T.fl45_0|exact T.fl45_1);(focus (first|exact len_nil|(apply len_given;assumption)|(apply len_row;(focus ((repeat (first|exact mH|refine mT ?_));done)))|(apply len_isN;assumption)));(focus omega))
          |(apply F_idx rfl rfl rfl;exact T.sl23;(focus rfl);(focus (first|exact len_nil|(apply len_given;assumption)|(apply len_row;(focus ((repeat (first|exact mH|refine mT ?_));done)))|(apply len_isN;assumption)));(focus omega))
          |(apply F_idxZ rfl rfl rfl;exact T.sl23;(focus omega);(focus (first|exact len_nil|(apply len_given;assumption)|(apply len_row;(focus ((repeat (first|exact mH|refine mT ?_));done)))|(apply len_isN;assumption)));(focus omega))
          |(refine gLoad ?_;(first
              |(apply F_load1 rfl rfl;(focus ((repeat (first|exact mH|refine mT ?_));done));exact T.sc3;rfl;(focus (first|exact free0|exact free1)))
              |(apply F_loadS1 rfl rfl;exact T.sc3;(focus (first|exact rd_nil|(apply rd_given;(focus assumption);(focus (first|exact freeG0|exact freeG1)))|(apply rd_row;(focus ((repeat (first|exact mH|refine mT ?_));done));(focus (first|exact freeR0|exact freeR1)))));(focus (first|(apply at_cell;(focus (apply at_flat;(focus (intro _;rfl));(focus assumption)));rfl)|(apply at_cell0;(focus (apply at_flat;(focus (intro _;rfl));(focus assumption)));rfl)|(apply at_cell;(focus (apply at_mid0;(focus assumption)));rfl)|(apply at_cell0;(focus (apply at_mid0;(focus assumption)));rfl)|rfl)))))
          |(refine gCall ?_;(first
              |(apply F_len rfl rfl rfl;(focus exact ⟨_,_,by exact T.sl23⟩);(focus (first|exact len_nil|(apply len_given;assumption)|(apply len_row;(focus ((repeat (first|exact mH|refine mT ?_));done)))|(apply len_isN;assumption))))))
          |(refine gBin ?_;(first
              |(refine S_lss rfl rfl rfl ?_)
              |(refine S_neq rfl rfl rfl ?_)
              |(refine S_add rfl rfl ?_ rfl ?_;(focus (unfold rng;omega)))
              |(refine S_neqB Try.underlying4 rfl rfl rfl ?_)))
          |(refine S_done ?_)))
      |(refine gC ?_;(first
          |(refine C_seq ?_)
          |(refine gReg ?_;(first
              |(refine gReg (i := 0) ?_;refine C_plain [(0,0)] (by kernel_rfl) (s := [⟨0,none,_,_,_⟩]) rfl ?_)
              |(refine gReg (i := 1) ?_;refine C_plain [(0,0)] (by kernel_rfl) (s := [⟨0,none,_,_,_⟩]) rfl ?_)
              |(refine gReg (i := 2) ?_;refine C_plain [(0,0),(1,0),(2,0),(3,0)] (by kernel_rfl) (s := [⟨0,none,_,_,_⟩,⟨0,none,_,_,_⟩,⟨0,none,_,_,_⟩,⟨0,none,_,_,_⟩]) rfl ?_)
              |(refine gReg (i := 4) ?_;refine C_plain [(0,0),(1,0),(2,0),(3,0),(4,0),(5,0),(6,0)] (by kernel_rfl) (s := [⟨0,none,_,_,_⟩,⟨0,none,_,_,_⟩,⟨0,none,_,_,_⟩,⟨0,none,_,_,_⟩,⟨0,none,_,_,_⟩,⟨0,none,_,_,_⟩,⟨0,none,_,_,_⟩]) rfl ?_)
              |(refine gReg (i := 5) ?_;refine C_plain [(0,0)] (by kernel_rfl) (s := [⟨0,none,_,_,_⟩]) rfl ?_)
              |(refine gReg (i := 6) ?_;refine C_plain [(0,0),(1,0),(2,0)] (by kernel_rfl) (s := [⟨0,none,_,_,_⟩,⟨0,none,_,_,_⟩,⟨0,none,_,_,_⟩]) rfl ?_)
              |(refine gReg (i := 7) ?_;refine C_plain [(0,0),(1,0),(2,0),(3,0),(4,0),(5,0),(6,0)] (by kernel_rfl) (s := [⟨0,none,_,_,_⟩,⟨0,none,_,_,_⟩,⟨0,none,_,_,_⟩,⟨0,none,_,_,_⟩,⟨0,none,_,_,_⟩,⟨0,none,_,_,_⟩,⟨0,none,_,_,_⟩]) rfl ?_)
              |(refine gReg (i := 8) ?_;refine C_plain [(0,0)] (by kernel_rfl) (s := [⟨0,none,_,_,_⟩]) rfl ?_)
              |(refine gReg (i := 9) ?_;refine C_plain [(0,0),(1,0),(2,0)] (by kernel_rfl) (s := [⟨0,none,_,_,_⟩,⟨0,none,_,_,_⟩,⟨0,none,_,_,_⟩]) rfl ?_)
              |(refine gReg (i := 3) ?_;refine C_plain [(0,0),(1,0),(2,0)] (by kernel_rfl) (s := [⟨0,none,_,_,_⟩,⟨0,none,_,_,_⟩,⟨0,none,_,_,_⟩]) rfl ?_)
              |(refine gReg (i := 10) ?_;refine C_plain [(0,0),(1,0)] (by kernel_rfl) (s := [⟨0,none,_,_,_⟩,⟨0,none,_,_,_⟩]) rfl ?_)))
          |(refine C_true rfl ?_)
          |(refine C_false rfl ?_)
          |(refine C_split rfl ?_ ?_ <;> (intro hb;(try simp only [decide_eq_true_eq] at hb);(try simp only [decide_eq_false_iff_not] at hb);(try simp only [Bool.not_eq_true'] at hb);(try simp only [Bool.not_eq_false'] at hb);(try (exfalso;first|contradiction|omega))))
          |(refine C_skip ?_)
          |(refine C_exit ?_)
          |(refine C_ret ?_)
          |(refine C_block ?_)))
      |(refine gE ?_;(first
          |(refine E_then ?_)
          |(refine E_thenX ?_)
          |(refine E_thenR ?_)
          |(refine E_block ?_)
          |(refine E_blockY ?_)
          |(refine E_blockR ?_)
          |(refine E_calm ?_)
          |(refine E_blockX rfl ?_)
          |(apply E_ret1 rfl;(first|exact Res.tmp rfl|(apply R_cellAll rfl;(focus ((repeat (first|exact mH|refine mT ?_));done));fail)|(apply R_cell1 rfl;(focus ((repeat (first|exact mH|refine mT ?_));done));exact T.sc3)))
          |(apply E_ret2 rfl;(first|exact Res.tmp rfl|(apply R_cellAll rfl;(focus ((repeat (first|exact mH|refine mT ?_));done));fail)|(apply R_cell1 rfl;(focus ((repeat (first|exact mH|refine mT ?_));done));exact T.sc3));(first|exact Res.tmp rfl|(apply R_cellAll rfl;(focus ((repeat (first|exact mH|refine mT ?_));done));fail)|(apply R_cell1 rfl;(focus ((repeat (first|exact mH|refine mT ?_));done));exact T.sc3)))
          | (apply E_ret3 rfl; (first | exact Res.tmp rfl | (apply R_cellAll rfl; (focus ((repeat (first | exact List.Mem.head _ | refine List.Mem.tail _ ?_)); done)); fail) | (apply R_cell1 rfl; (focus ((repeat (first | exact List.Mem.head _ | refine List.Mem.tail _ ?_)); done)); exact T.sc3)); (first | exact Res.tmp rfl | (apply R_cellAll rfl; (focus ((repeat (first | exact List.Mem.head _ | refine List.Mem.tail _ ?_)); done)); fail) | (apply R_cell1 rfl; (focus ((repeat (first | exact List.Mem.head _ | refine List.Mem.tail _ ?_)); done)); exact T.sc3)); (first | exact Res.tmp rfl | (apply R_cellAll rfl; (focus ((repeat (first | exact List.Mem.head _ | refine List.Mem.tail _ ?_)); done)); fail) | (apply R_cell1 rfl; (focus ((repeat (first | exact List.Mem.head _ | refine List.Mem.tail _ ?_)); done)); exact T.sc3))))))
    all_goals (refine retN ?_; congr 1; omega)
end Go.Proofs.Ytcjacolkmclloaa

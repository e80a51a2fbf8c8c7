/- Packets: what they mean; copied, compared, marked. -/
import Derived.Test.YtodhjpnfokkfeaaMod
import Derived.Test.YtodhjpnfokkfeaaBas
import Derived.Test.YtodhjpnfokkfeaaSyme
set_option linter.unusedSimpArgs false
set_option linter.unusedVariables false
namespace Go.Proofs.Ytodhjpnfokkfeaa
open Go Go.RowKit
attribute [local irreducible] Calls GoS GoC GoE IsFl IsSc IsRw IsSl IsEl IsSt IsFs sp Mem Rd LenOf szR
def rwSuint8 (x : MSuint8) : List Row := ⟨x.1, 5, 1, x.2.length, x.2.flatMap (fun y : Int => ([.int .u8 y] : List Value))⟩ :: []
def mkFSuint8 (_ : Int) : Nat := 1
def mkSuint8 (c : List Int) : Nat := (c.map mkFSuint8).sum
def hdFSuint8 (c : Int) (k : Int) : Prop := (c = (k) % 256)
def hdSuint8 (c : List Int) (k : Int) : Prop := Held hdFSuint8 mkFSuint8 c k
abbrev CFragPacket := Int × Int × Int × Int × Int × Bool × Int × Bool × (List Int)
instance : DecidableEq CFragPacket := @instDecidableEqProd _ _ (inferInstance : DecidableEq Int) (@instDecidableEqProd _ _ (inferInstance : DecidableEq Int) (@instDecidableEqProd _ _ (inferInstance : DecidableEq Int) (@instDecidableEqProd _ _ (inferInstance : DecidableEq Int) (@instDecidableEqProd _ _ (inferInstance : DecidableEq Int) (@instDecidableEqProd _ _ (inferInstance : DecidableEq Bool) (@instDecidableEqProd _ _ (inferInstance : DecidableEq Int) (@instDecidableEqProd _ _ (inferInstance : DecidableEq Bool) ((inferInstance : DecidableEq (List Int))))))))))
def ctFragPacket (x : MFragPacket) : CFragPacket := (x.1, x.2.1, x.2.2.1, x.2.2.2.1, x.2.2.2.2.1, x.2.2.2.2.2.1, x.2.2.2.2.2.2.1, x.2.2.2.2.2.2.2.1, x.2.2.2.2.2.2.2.2.2)
def rwFragPacket (x : MFragPacket) : List Row := rwSuint8 (x.2.2.2.2.2.2.2.2)
def wtFragPacket (c : CFragPacket) : Nat := c.2.2.2.2.2.2.2.2.length
/-- how much is marked of one that is an argument, and of one that lies in a slice -/
def mkFragPacket (c : CFragPacket) : Nat := mkSuint8 (c.2.2.2.2.2.2.2.2)
def mkEFragPacket (c : CFragPacket) : Nat := 8 + mkSuint8 (c.2.2.2.2.2.2.2.2)
def hdFragPacket (c : CFragPacket) (k : Int) : Prop := (hdSuint8 (c.2.2.2.2.2.2.2.2) (k))
def hdEFragPacket (c : CFragPacket) (k : Int) : Prop := (c.1 = k) ∧ (c.2.1 = k + 1) ∧ (c.2.2.1 = k + 2) ∧ (c.2.2.2.1 = k + 3) ∧ (c.2.2.2.2.1 = k + 4) ∧ (c.2.2.2.2.2.1 = decide ((k + 5) % 3 = 0)) ∧ (c.2.2.2.2.2.2.1 = k + 6) ∧ (c.2.2.2.2.2.2.2.1 = decide ((k + 7) % 3 = 0)) ∧ (hdSuint8 (c.2.2.2.2.2.2.2.2) (k + 8))
theorem oneFragPacket {w : World} {x : MFragPacket} (hx : Rds w (rwFragPacket x)) : (clFragPacket x).all (·.oneCell') = true := by
  have hx8 : Rds w (rwSuint8 (x.2.2.2.2.2.2.2.2)) := hx
  have q0 := Rds.one1 hx8
  simp_all [clFragPacket, Value.oneCell']
def rwSFragPacket (x : MSFragPacket) : List Row := ⟨x.1, 24, 9, x.2.length, x.2.flatMap clFragPacket⟩ :: x.2.flatMap rwFragPacket
def wtSFragPacket (c : List CFragPacket) : Nat := c.length + (c.map wtFragPacket).sum
def mkFSFragPacket (c : CFragPacket) : Nat := mkEFragPacket c
def mkSFragPacket (c : List CFragPacket) : Nat := (c.map mkFSFragPacket).sum
def hdFSFragPacket (c : CFragPacket) (k : Int) : Prop := hdEFragPacket c k
def hdSFragPacket (c : List CFragPacket) (k : Int) : Prop := Held hdFSFragPacket mkFSFragPacket c k
abbrev CFragSlot := (List CFragPacket) × Int × Bool
instance : DecidableEq CFragSlot := @instDecidableEqProd _ _ (inferInstance : DecidableEq (List CFragPacket)) (@instDecidableEqProd _ _ (inferInstance : DecidableEq Int) ((inferInstance : DecidableEq Bool)))
def ctFragSlot (x : MFragSlot) : CFragSlot := (x.1.2.map ctFragPacket, x.2.1, x.2.2)
def rwFragSlot (x : MFragSlot) : List Row := rwSFragPacket (x.1)
def wtFragSlot (c : CFragSlot) : Nat := wtSFragPacket (c.1)
/-- how much is marked of one that is an argument, and of one that lies in a slice -/
def mkFragSlot (c : CFragSlot) : Nat := mkSFragPacket (c.1)
def mkEFragSlot (c : CFragSlot) : Nat := 2 + mkSFragPacket (c.1)
def hdFragSlot (c : CFragSlot) (k : Int) : Prop := (hdSFragPacket (c.1) (k))
def hdEFragSlot (c : CFragSlot) (k : Int) : Prop := (hdSFragPacket (c.1) (k)) ∧ (c.2.1 = k + ((mkSFragPacket (c.1) : Nat) : Int)) ∧ (c.2.2 = decide ((k + 1 + ((mkSFragPacket (c.1) : Nat) : Int)) % 3 = 0))
theorem oneFragSlot {w : World} {x : MFragSlot} (hx : Rds w (rwFragSlot x)) : (clFragSlot x).all (·.oneCell') = true := by
  have hx0 : Rds w (rwSFragPacket (x.1)) := hx
  have q0 := Rds.one1 hx0
  simp_all [clFragSlot, Value.oneCell']
def rwSFragSlot (x : MSFragSlot) : List Row := ⟨x.1, 67, 3, x.2.length, x.2.flatMap clFragSlot⟩ :: x.2.flatMap rwFragSlot
def wtSFragSlot (c : List CFragSlot) : Nat := c.length + (c.map wtFragSlot).sum
def mkFSFragSlot (c : CFragSlot) : Nat := mkEFragSlot c
def mkSFragSlot (c : List CFragSlot) : Nat := (c.map mkFSFragSlot).sum
def hdFSFragSlot (c : CFragSlot) (k : Int) : Prop := hdEFragSlot c k
def hdSFragSlot (c : List CFragSlot) (k : Int) : Prop := Held hdFSFragSlot mkFSFragSlot c k
abbrev CFragBench := Int × (List CFragSlot)
instance : DecidableEq CFragBench := @instDecidableEqProd _ _ (inferInstance : DecidableEq Int) ((inferInstance : DecidableEq (List CFragSlot)))
def ctFragBench (x : MFragBench) : CFragBench := (x.1, x.2.2.map ctFragSlot)
def rwFragBench (x : MFragBench) : List Row := rwSFragSlot (x.2)
def wtFragBench (c : CFragBench) : Nat := wtSFragSlot (c.2)
/-- how much is marked of one that is an argument, and of one that lies in a slice -/
def mkFragBench (c : CFragBench) : Nat := mkSFragSlot (c.2)
def mkEFragBench (c : CFragBench) : Nat := 1 + mkSFragSlot (c.2)
def hdFragBench (c : CFragBench) (k : Int) : Prop := (hdSFragSlot (c.2) (k))
def hdEFragBench (c : CFragBench) (k : Int) : Prop := (c.1 = k) ∧ (hdSFragSlot (c.2) (k + 1))
theorem oneFragBench {w : World} {x : MFragBench} (hx : Rds w (rwFragBench x)) : (clFragBench x).all (·.oneCell') = true := by
  have hx1 : Rds w (rwSFragSlot (x.2)) := hx
  have q0 := Rds.one1 hx1
  simp_all [clFragBench, Value.oneCell']
theorem entA {w0 : World} {L L' : List Blk} (h : Ent w0 L L' := by (focus (apply Ent.flat;(simp only [List.length_append,List.length_cons,List.length_nil,Nat.zero_add,flat_many,flat_row,flat_blk,flat_append,flat_nil,List.map_append,List.map_cons,List.map_nil,List.flatMap_append,List.flatMap_cons,List.flatMap_nil,List.append_assoc,List.append_nil,List.nil_append,List.cons_append,Row.blk_mk,rwSuint8,rwFragPacket,rwSFragPacket,rwFragSlot,rwSFragSlot,rwFragBench]);((repeat (first|exact Pull.nil|(apply Pull.app;(focus ((repeat (first|exact PickA.here|exact PickA.all|apply PickA.there|apply PickA.over));done)))|(apply Pull.cons;(focus ((repeat (first|exact Pick.here|exact Pick.last|apply Pick.there|apply Pick.over));done)))|(apply Pull.atom;(focus ((repeat (first|exact PickA.here|exact PickA.all|apply PickA.there|apply PickA.over));done)))));done)))) : Ent w0 L L' := h
end Go.Proofs.Ytodhjpnfokkfeaa

/- A drawn packet and a size. -/
import Derived.Test.YtodhjpnfokkfeaaFragr
set_option linter.unusedSimpArgs false
set_option linter.unusedVariables false
namespace Go.Proofs.Ytodhjpnfokkfeaa
open Go Go.RowKit
theorem mem_isN {w : World} {v : Value} {m n : Nat} {cs : List Value} (h : Mem w v m n cs) : IsN v n := h.1
attribute [local irreducible] Calls GoS GoC GoE GoT Mid IsEq IsFl IsSc IsRw IsSl IsEl IsSt IsFs sp Mem Rd LenOf szR
theorem retX_rows {f : Nat} {args : Array Value} {w : World} {phi : MSFragPacket → Prop} {val : MSFragPacket → Value} (h : Calls Try.prog f args w (RetX phi val (fun y => [.many (rwSFragPacket y)]) w)) : Calls Try.prog f args w (RetX phi val (fun y => [.row y.1 24 9 y.2.length (y.2.flatMap clFragPacket), .many (y.2.flatMap rwFragPacket)]) w) := by
  refine h.mono ?_
  rintro e w' ⟨⟨v, l⟩, h1, h2, h3, h4, h5⟩
  have h6 : Ent w [.many (rwSFragPacket (v,l))] [.row v 24 9 l.length (l.flatMap clFragPacket),.many (l.flatMap rwFragPacket)] := (by (focus (apply Ent.flat;(simp only [List.length_append,List.length_cons,List.length_nil,Nat.zero_add,flat_many,flat_row,flat_blk,flat_append,flat_nil,List.map_append,List.map_cons,List.map_nil,List.flatMap_append,List.flatMap_cons,List.flatMap_nil,List.append_assoc,List.append_nil,List.nil_append,List.cons_append,Row.blk_mk,rwSuint8,rwFragPacket,rwSFragPacket,rwFragSlot,rwSFragSlot,rwFragBench]);((repeat (first|exact Pull.nil|(apply Pull.app;(focus ((repeat (first|exact PickA.here|exact PickA.all|apply PickA.there|apply PickA.over));done)))|(apply Pull.cons;(focus ((repeat (first|exact Pick.here|exact Pick.last|apply Pick.there|apply Pick.over));done)))|(apply Pull.atom;(focus ((repeat (first|exact PickA.here|exact PickA.all|apply PickA.there|apply PickA.over));done)))));done))))
  have h7 := h6 w' ⟨h3, h4, h5⟩
  exact ⟨(v, l), h1, h2, h7.ext, h7.own, h7.nd⟩
theorem many_isN {w0 w : World} {L : List Blk} {x : MFragPacket} (hs : St w0 w L) (h2 : .many (rwFragPacket x) ∈ L) : IsN x.2.2.2.2.2.2.2.2.1 x.2.2.2.2.2.2.2.2.2.length := mem_isN (Rds.head (Rds.many (l := rwFragPacket x) hs h2))
end Go.Proofs.Ytodhjpnfokkfeaa

/- A drawn packet, and its pieces cut in two ways, turned around and doubled. -/
import Derived.Test.YtodhjpnfokkfeaaFragz
import Derived.Test.YtodhjpnfokkfeaaFragv
import Derived.Test.YtodhjpnfokkfeaaSymi
set_option linter.unusedSimpArgs false
set_option linter.unusedVariables false
namespace Go.Proofs.Ytodhjpnfokkfeaa
open Go Go.RowKit
theorem Cover.append {c : CFragPacket} {l k : List CFragPacket} (h : Cover c l) (g : ∀ d ∈ k, PieceOf c d) : Cover c (l ++ k) :=
  ⟨fun e => h.some (List.append_eq_nil_iff.1 e).1, fun d hd => by
    rcases List.mem_append.1 hd with h1 | h1
    · exact h.piece d h1
    · exact g d h1, fun a h1 h2 => by
    obtain ⟨d, hd, hb⟩ := h.all a h1 h2
    exact ⟨d, List.mem_append_left _ hd, hb⟩⟩
theorem Cover.set {c : CFragPacket} {l k : List CFragPacket} (h : Cover c l) (g : ∀ d, d ∈ k ↔ d ∈ l) : Cover c k := by
  refine ⟨fun e => ?_, fun d hd => h.piece d ((g d).1 hd), fun a h1 h2 => ?_⟩
  · obtain ⟨d, hd⟩ := List.exists_mem_of_ne_nil l h.some
    have := (g d).2 hd
    rw [e] at this
    cases this
  · obtain ⟨d, hd, hb⟩ := h.all a h1 h2
    exact ⟨d, (g d).2 hd, hb⟩
theorem cut_code {c : CFragPacket} {m : Int} (hok : fragOk c = true) (hw : c.2.2.2.2.2.1 = false) (hm : 12 ≤ m) : (cutC c m).2 = 0 := by
  unfold cutC
  rw [if_pos hok, if_neg (by omega)]
  split
  · rfl
  · rw [hw]; rfl
theorem cuts_cover {c : CFragPacket} {r : List CFragPacket} (hok : fragOk c = true) (hw : c.2.2.2.2.2.1 = false) (h : CutsOf c r) : Cover c r ∧ r.length ≤ 64 := by
  obtain ⟨m, hm, _, h⟩ := h
  have h0 := cut_code hok hw hm
  have hc := cut_cover h0
  have h40 := cut_40 h0
  rcases h with rfl | ⟨k, d, n, hd, hn, _, rfl⟩
  · exact ⟨hc, by omega⟩
  · have hmem := List.mem_of_getElem? hd
    have hp := hc.piece d hmem
    have h1 := cut_code hp.ok (hp.whole.trans hw) hn
    have hc1 := cut_cover h1
    have h41 := cut_40 h1
    refine ⟨⟨fun e => ?_, fun e he => ?_, fun a ha hb => ?_⟩, ?_⟩
    · have := congrArg List.length e
      rw [List.length_append, List.length_append, List.length_nil] at this
      omega
    · rcases List.mem_append.1 he with he | he
      · rcases List.mem_append.1 he with he | he
        · exact hc.piece e (List.mem_of_mem_take he)
        · exact hp.trans (hc1.piece e he)
      · exact hc.piece e (List.mem_of_mem_drop he)
    · obtain ⟨e, he, heb⟩ := hc.all a ha hb
      obtain ⟨j, hj⟩ := List.getElem?_of_mem he
      by_cases h2 : j = k
      · subst h2
        rw [hd] at hj
        obtain rfl := Option.some.inj hj
        have h3 := hasB_iff.1 heb
        obtain ⟨f, hf, hfb⟩ := hc1.all a h3.1 h3.2
        exact ⟨f, List.mem_append_left _ (List.mem_append_right _ hf), hfb⟩
      · refine ⟨e, ?_, heb⟩
        rcases Nat.lt_or_ge j k with h3 | h3
        · refine List.mem_append_left _ (List.mem_append_left _ (List.mem_of_getElem? (i := j) ?_))
          rw [List.getElem?_take_of_lt h3]; exact hj
        · refine List.mem_append_right _ (List.mem_of_getElem? (i := j - (k + 1)) ?_)
          rw [List.getElem?_drop, show k + 1 + (j - (k + 1)) = j by omega]; exact hj
    · rw [List.length_append, List.length_append, List.length_take, List.length_drop]
      omega
/-- the first bytes of a whole packet are one -/
theorem take_ok {c : CFragPacket} {k : Nat} (hok : fragOk c = true) (hm : moreP c = false) : fragOk (c.1, c.2.1, c.2.2.1, c.2.2.2.1, c.2.2.2.2.1, c.2.2.2.2.2.1, c.2.2.2.2.2.2.1, c.2.2.2.2.2.2.2.1, (datP c).take k) = true := by
  have g := (fragOk_iff c).1 hok
  have g5 := g.2.2.2.2.2.1
  unfold endP at g5
  refine (fragOk_iff _).2 ⟨g.1, g.2.1, g.2.2.1, g.2.2.2.1, g.2.2.2.2.1, ⟨g5.1, g5.2.1, g5.2.2.1, ?_⟩, fun h => ?_, g.2.2.2.2.2.2.2⟩
  · show offP c + (((datP c).take k).length : Int) ≤ 128
    rw [List.length_take]; omega
  · have h2 : moreP c = true := h
    rw [hm] at h2; cases h2
theorem ent_prefix {w0 : World} {R : List Blk} {qv : Value} {t : TypeId} {n k : Nat} {cs : List Value} (hk : k ≤ n) : Ent w0 (.many [⟨qv, t, 1, n, cs⟩] :: R) (.many [⟨subV qv 1 0 k, t, 1, k, cs.take k⟩] :: R) := by
  refine Ent.swap (fun w h => ?_) (fun j hj => ?_)
  · have h2 : Row.In w ⟨qv, t, 1, n, cs⟩ := h.1 _ (List.Mem.head _)
    have h3 := (Row.In.part h2 (Nat.zero_le k) hk).1
    rw [Nat.zero_mul, List.drop_zero, Nat.sub_zero, Nat.mul_one] at h3
    refine ⟨fun x hx => ?_, by simp⟩
    rw [List.mem_singleton] at hx
    subst hx
    exact h3
  · obtain ⟨x, hx, hj⟩ := hj
    rw [List.mem_singleton] at hx
    subst hx
    exact ⟨_, List.Mem.head _, subV_block _ hj⟩
theorem take_flat1 : ∀ {l : List Int} {k : Nat}, (l.flatMap fun y : Int => ([.int .u8 y] : List Value)).take k = (l.take k).flatMap fun y : Int => ([.int .u8 y] : List Value)
  | [], k => by simp
  | a :: l, 0 => by simp
  | a :: l, k + 1 => by
    rw [List.flatMap_cons, List.take_succ_cons, List.flatMap_cons, ← take_flat1]
    rfl
/-- a packet of which the first k bytes are kept -/
def headP (x : MFragPacket) (k : Nat) : MFragPacket := (x.1, x.2.1, x.2.2.1, x.2.2.2.1, x.2.2.2.2.1, x.2.2.2.2.2.1, x.2.2.2.2.2.2.1, x.2.2.2.2.2.2.2.1, subV x.2.2.2.2.2.2.2.2.1 1 0 k, x.2.2.2.2.2.2.2.2.2.take k)
theorem ent_prefixP {w0 : World} {R : List Blk} {x : MFragPacket} {k : Nat} (hk : k ≤ x.2.2.2.2.2.2.2.2.2.length) : Ent w0 (.many (rwFragPacket x) :: R) (.many (rwFragPacket (headP x k)) :: R) := by
  have h := ent_prefix (w0 := w0) (R := R) (qv := x.2.2.2.2.2.2.2.2.1) (t := 5) (cs := x.2.2.2.2.2.2.2.2.2.flatMap fun y : Int => ([.int .u8 y] : List Value)) hk
  have e : (x.2.2.2.2.2.2.2.2.2.take k).length = k := by rw [List.length_take]; omega
  rw [take_flat1] at h
  have h2 : rwFragPacket (headP x k) = [⟨subV x.2.2.2.2.2.2.2.2.1 1 0 k, 5, 1, k, (x.2.2.2.2.2.2.2.2.2.take k).flatMap fun y : Int => ([.int .u8 y] : List Value)⟩] := by
    show ([⟨subV x.2.2.2.2.2.2.2.2.1 1 0 k, 5, 1, (x.2.2.2.2.2.2.2.2.2.take k).length, (x.2.2.2.2.2.2.2.2.2.take k).flatMap fun y : Int => ([.int .u8 y] : List Value)⟩] : List Row) = _
    rw [e]
  rw [h2]
  exact h
attribute [local irreducible] Calls GoS GoC GoE GoT Mid IsEq IsFl IsSc IsRw IsSl IsEl IsSt IsFs sp Mem Rd LenOf szR
/-- a whole packet -/
structure Whole0 (c : CFragPacket) : Prop where
  ok : fragOk c = true
  whole : c.2.2.2.2.2.1 = false
  off : offP c = 0
  more : moreP c = false
theorem head_whole {x : MFragPacket} {k : Nat} (h : Whole0 (ctFragPacket x)) : Whole0 (ctFragPacket (headP x k)) := by
  obtain ⟨a0, a1, a2, a3, a4, a5, a6, a7, v, l⟩ := x
  exact ⟨take_ok (c := (a0, a1, a2, a3, a4, a5, a6, a7, l)) h.ok h.more, h.whole, h.off, h.more⟩
theorem inB_self (l : List MFragPacket) : InB l (l.flatMap rwFragPacket) := fun y hy _ hr => List.mem_flatMap.2 ⟨y, hy, hr⟩
theorem InB.append {l k : List MFragPacket} {a b : List Row} (h : InB l a) (g : InB k b) : InB (l ++ k) (a ++ b) := fun y hy r hr => by
  rcases List.mem_append.1 hy with h1 | h1
  · exact List.mem_append_left _ (h y h1 r hr)
  · exact List.mem_append_right _ (g y h1 r hr)
theorem map_mem_iff {l k : List MFragPacket} (h : ∀ y, y ∈ k ↔ y ∈ l) (d : CFragPacket) : d ∈ k.map ctFragPacket ↔ d ∈ l.map ctFragPacket := by
  rw [List.mem_map, List.mem_map]
  exact ⟨fun ⟨y, hy, e⟩ => ⟨y, (h y).1 hy, e⟩, fun ⟨y, hy, e⟩ => ⟨y, (h y).2 hy, e⟩⟩
attribute [local irreducible] fragOk
end Go.Proofs.Ytodhjpnfokkfeaa

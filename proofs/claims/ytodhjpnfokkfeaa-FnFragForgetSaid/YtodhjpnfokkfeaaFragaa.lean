/- A drawn packet, and its pieces cut in two ways, turned around and doubled. -/
import Derived.Test.YtodhjpnfokkfeaaFragz
import Derived.Test.YtodhjpnfokkfeaaFragv
import Derived.Test.YtodhjpnfokkfeaaSymi
set_option linter.unusedSimpArgs false
set_option linter.unusedVariables false
namespace Go.Proofs.Ytodhjpnfokkfeaa
open Go Go.RowKit
theorem cut_code {c : CFragPacket} {m : Int} (hok : fragOk c = true) (hw : c.2.2.2.2.2.1 = false) (hm : 12 ≤ m) : (cutC c m).2 = 0 := by
  unfold cutC
  rw [if_pos hok, if_neg (by omega)]
  split
  · rfl
  · rw [hw]; rfl
theorem cuts_cover {c : CFragPacket} {r : List CFragPacket} (hok : fragOk c = true) (hw : c.2.2.2.2.2.1 = false) (h : CutsOf c r) : Cover c r ∧ r.length ≤ 64 := by
  obtain ⟨m, hm, _, h⟩ := h
  have h0 := cut_code hok hw hm
  have hc := cut_cover h0
  have h40 := cut_40 h0
  rcases h with rfl | ⟨k, d, n, hd, hn, _, rfl⟩
  · exact ⟨hc, by omega⟩
  · have hmem := List.mem_of_getElem? hd
    have hp := hc.piece d hmem
    have h1 := cut_code hp.ok (hp.whole.trans hw) hn
    have hc1 := cut_cover h1
    have h41 := cut_40 h1
    refine ⟨⟨fun e => ?_, fun e he => ?_, fun a ha hb => ?_⟩, ?_⟩
    · have := congrArg List.length e
      rw [List.length_append, List.length_append, List.length_nil] at this
      omega
    · rcases List.mem_append.1 he with he | he
      · rcases List.mem_append.1 he with he | he
        · exact hc.piece e (List.mem_of_mem_take he)
        · exact hp.trans (hc1.piece e he)
      · exact hc.piece e (List.mem_of_mem_drop he)
    · obtain ⟨e, he, heb⟩ := hc.all a ha hb
      obtain ⟨j, hj⟩ := List.getElem?_of_mem he
      by_cases h2 : j = k
      · subst h2
        rw [hd] at hj
        obtain rfl := Option.some.inj hj
        have h3 := hasB_iff.1 heb
        obtain ⟨f, hf, hfb⟩ := hc1.all a h3.1 h3.2
        exact ⟨f, List.mem_append_left _ (List.mem_append_right _ hf), hfb⟩
      · refine ⟨e, ?_, heb⟩
        rcases Nat.lt_or_ge j k with h3 | h3
        · refine List.mem_append_left _ (List.mem_append_left _ (List.mem_of_getElem? (i := j) ?_))
          rw [List.getElem?_take_of_lt h3]; exact hj
        · refine List.mem_append_right _ (List.mem_of_getElem? (i := j - (k + 1)) ?_)
          rw [List.getElem?_drop, show k + 1 + (j - (k + 1)) = j by omega]; exact hj
    · rw [List.length_append, List.length_append, List.length_take, List.length_drop]
      omega
/-- a packet of which the first k bytes are kept -/
def headP (x : MFragPacket) (k : Nat) : MFragPacket := (x.1, x.2.1, x.2.2.1, x.2.2.2.1, x.2.2.2.2.1, x.2.2.2.2.2.1, x.2.2.2.2.2.2.1, x.2.2.2.2.2.2.2.1, subV x.2.2.2.2.2.2.2.2.1 1 0 k, x.2.2.2.2.2.2.2.2.2.take k)
attribute [local irreducible] Calls GoS GoC GoE GoT Mid IsEq IsFl IsSc IsRw IsSl IsEl IsSt IsFs sp Mem Rd LenOf szR
/-- a whole packet -/
structure Whole0 (c : CFragPacket) : Prop where
  ok : fragOk c = true
  whole : c.2.2.2.2.2.1 = false
  off : offP c = 0
  more : moreP c = false
theorem inB_self (l : List MFragPacket) : InB l (l.flatMap rwFragPacket) := fun y hy _ hr => List.mem_flatMap.2 ⟨y, hy, hr⟩
theorem InB.append {l k : List MFragPacket} {a b : List Row} (h : InB l a) (g : InB k b) : InB (l ++ k) (a ++ b) := fun y hy r hr => by
  rcases List.mem_append.1 hy with h1 | h1
  · exact List.mem_append_left _ (h y h1 r hr)
  · exact List.mem_append_right _ (g y h1 r hr)
attribute [local irreducible] fragOk
end Go.Proofs.Ytodhjpnfokkfeaa

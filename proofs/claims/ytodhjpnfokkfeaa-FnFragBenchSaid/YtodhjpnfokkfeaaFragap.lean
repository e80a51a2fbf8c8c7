/- Ticks on a good bench: it stays good, and what waits is forgotten: plain laws. -/
import Derived.Test.YtodhjpnfokkfeaaFragan
import Derived.Test.YtodhjpnfokkfeaaFraga
set_option linter.unusedSimpArgs false
set_option linter.unusedVariables false
namespace Go.Proofs.Ytodhjpnfokkfeaa
open Go Go.RowKit
attribute [local irreducible] Calls GoS GoC GoE GoT Mid IsEq IsFl IsSc IsRw IsSl IsEl IsSt IsFs sp Mem Rd LenOf szR joinC alikeC likeC takeC
abbrev TakeX (tb : CFragBench) (tp : CFragPacket) (tk : Int) (w : World) : Ending → World → Prop := RetX (fun q : MFragBench × MFragPacket => ctFragBench q.1 = tb ∧ ctFragPacket q.2 = tp) (fun q => .tuple #[.agg (clFragBench q.1).toArray, .agg (clFragPacket q.2).toArray, .int .i64 tk]) (fun q => [.many (rwFragBench q.1), .many (rwFragPacket q.2)]) w
theorem takeX_of {f : Nat} {args : Array Value} {w : World} {T : CFragBench × CFragPacket × Int} {tb : CFragBench} {tp : CFragPacket} {tk : Int} (hT : T = (tb, tp, tk)) (h : Calls Try.prog f args w (RetX (fun q : MFragBench × MFragPacket × Int => T = (ctFragBench q.1, ctFragPacket q.2.1, q.2.2)) (fun q => .tuple #[.agg (clFragBench q.1).toArray, .agg (clFragPacket q.2.1).toArray, .int .i64 q.2.2]) (fun q => [.many (rwFragBench q.1), .many (rwFragPacket q.2.1)]) w)) : Calls Try.prog f args w (TakeX tb tp tk w) := by
  refine h.mono ?_
  rintro e w' ⟨⟨b, q, k⟩, h1, h2, h3⟩
  dsimp only at h1 h2 h3
  rw [hT] at h1
  simp only [Prod.mk.injEq] at h1
  obtain ⟨rfl, rfl, rfl⟩ := h1
  exact ⟨(b, q), ⟨rfl, rfl⟩, h2, h3⟩
end Go.Proofs.Ytodhjpnfokkfeaa
namespace Go.Proofs.Ytodhjpnfokkfeaa
open Go Go.RowKit
/-- earlier, and unlike -/
def SlotLt (r s : CFragSlot) : Prop := r.2.1 ≤ s.2.1 ∧ likeC (headC r.1) (headC s.1) = false
theorem since_mono {n : Int} {l : List CFragSlot} (h : BenchGood (n, l)) : ∀ (d i : Nat) (r s : CFragSlot), l[i]? = some r → l[i + d]? = some s → r.2.1 ≤ s.2.1
  | 0, i, r, s, hr, hs => by
    rw [Nat.add_zero, hr] at hs
    rw [Option.some.inj hs]; exact Int.le_refl _
  | d + 1, i, r, s, hr, hs => by
    have hlt : i + (d + 1) < l.length := (List.getElem?_eq_some_iff.1 hs).1
    obtain ⟨t, ht⟩ : ∃ t, l[i + d]? = some t := ⟨l[i + d], List.getElem?_eq_getElem (by omega)⟩
    have h1 := since_mono h d i r t hr ht
    have h2 := ((h.2.2.2 (i + (d + 1)) hlt s hs).2 (i + d) t (by omega) ht).1 (by omega)
    omega
theorem good_pairs {n : Int} {l : List CFragSlot} (h : BenchGood (n, l)) : l.Pairwise SlotLt := by
  rw [List.pairwise_iff_getElem]
  intro i j hi hj hij
  have e1 : l[i]? = some l[i] := List.getElem?_eq_getElem hi
  have e2 : l[j]? = some l[j] := List.getElem?_eq_getElem hj
  refine ⟨?_, ((h.2.2.2 j hj _ e2).2 i _ hij e1).2⟩
  obtain ⟨d, rfl⟩ : ∃ d, j = i + d := ⟨j - i, by omega⟩
  exact since_mono h d i _ _ e1 e2
theorem good_of {n : Int} {l : List CFragSlot} (h0 : 0 ≤ n) (h1 : n ≤ 1000000) (h2 : l.length ≤ 4) (hs : ∀ s ∈ l, SlotGood n s) (hp : l.Pairwise SlotLt) : BenchGood (n, l) := by
  refine ⟨h0, h1, h2, fun i hi s hsi => ⟨hs s (List.mem_of_getElem? hsi), fun j r hj hr => ?_⟩⟩
  have hjl : j < l.length := (List.getElem?_eq_some_iff.1 hr).1
  have h3 := List.pairwise_iff_getElem.1 hp j i hjl hi hj
  rw [List.getElem?_eq_getElem hi] at hsi
  rw [List.getElem?_eq_getElem hjl] at hr
  rw [Option.some.inj hsi, Option.some.inj hr] at h3
  exact ⟨fun _ => h3.1, h3.2⟩
theorem good_all {n : Int} {l : List CFragSlot} (h : BenchGood (n, l)) : ∀ s ∈ l, SlotGood n s := fun s hs => by
  obtain ⟨j, hj⟩ := List.getElem?_of_mem hs
  exact (h.2.2.2 j (List.getElem?_eq_some_iff.1 hj).1 _ hj).1
theorem tick_good {b c : CFragBench} {k : Int} (h : TickR b c k) (hg : BenchGood b) : BenchGood c ∧ ((b.1 = 1000000 ∧ c = b ∧ k = 2) ∨ (b.1 ≠ 1000000 ∧ c.1 = b.1 + 1 ∧ k = 0 ∧ ∀ s ∈ c.2, s ∈ b.2 ∧ b.1 + 1 - 6 < s.2.1)) := by
  obtain ⟨n, l⟩ := b
  have hpr := good_pairs hg
  rcases h with ⟨h1, _⟩ | ⟨_, h2, rfl, h4⟩ | ⟨_, h2, rfl, h4⟩
  · exact absurd hg h1
  · exact ⟨hg, .inl ⟨h2, rfl, h4⟩⟩
  · have hm : ∀ s ∈ l.filter (fun s => decide (n + 1 - 6 < s.2.1)), s ∈ l ∧ n + 1 - 6 < s.2.1 := fun s hs => by
      have := List.mem_filter.1 hs
      exact ⟨this.1, of_decide_eq_true this.2⟩
    have hn := good_now hg
    dsimp only at h2 hn
    refine ⟨good_of (by omega) (by omega) (Nat.le_trans (List.length_filter_le _ _) hn.2.2) (fun s hs => ?_) (hpr.filter _), .inr ⟨h2, rfl, h4, hm⟩⟩
    have h5 := hm s hs
    have h6 := good_all hg s h5.1
    exact ⟨h6.1, by omega, by have := h6.2.2.1; omega, h6.2.2.2⟩
/-- a bench i ticks later -/
structure Later (b c : CFragBench) (i : Nat) : Prop where
  good : BenchGood c
  now : b.1 + (i : Int) ≤ 1000000 → c.1 = b.1 + (i : Int)
  over : 1000000 < b.1 + (i : Int) → c.1 = 1000000
  old : b.1 + (i : Int) ≤ 1000000 → ∀ s ∈ c.2, s.2.1 ≤ b.1 ∧ b.1 + (i : Int) - 6 < s.2.1
attribute [local irreducible] Calls GoS GoC GoE GoT Mid IsEq IsFl IsSc IsRw IsSl IsEl IsSt IsFs sp Mem Rd LenOf szR joinC alikeC likeC takeC
end Go.Proofs.Ytodhjpnfokkfeaa

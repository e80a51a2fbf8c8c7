/- What a piece taken leaves: sizes; both functions' answers told by one law. -/
import Derived.Test.YtodhjpnfokkfeaaFragan
import Derived.Test.YtodhjpnfokkfeaaFragd
set_option linter.unusedSimpArgs false
set_option linter.unusedVariables false
namespace Go.Proofs.Ytodhjpnfokkfeaa
open Go Go.RowKit
theorem join_wt (l : List CFragPacket) : wtFragPacket (joinC l).1 ≤ 128 := by
  unfold joinC
  split
  · rename_i hok
    split
    · split
      · exact Nat.zero_le _
      · rename_i hE
        split
        · simp only [wtFragPacket, wholeC, List.length_map, List.length_range]
          have hof : ∀ c ∈ l, 0 ≤ offP c ∧ endP c ≤ 128 := fun c hc => by
            have h2 := (okJ_iff.1 hok).2.2 c hc
            simp only [alikeC, Bool.and_eq_true] at h2
            have h3 := fragOk_t h2.1.1
            exact ⟨h3.2.2.1, h3.2.2.2⟩
          obtain ⟨c, hc, _, h2⟩ := endL_mem (fun c hc => (hof c hc).1) hE
          have := (hof c hc).2
          omega
        · exact Nat.zero_le _
    · exact Nat.zero_le _
  · exact Nat.zero_le _
theorem wtP_app (a b : List CFragPacket) : wtSFragPacket (a ++ b) = wtSFragPacket a + wtSFragPacket b := by
  simp only [wtSFragPacket, List.length_append, List.map_append, List.sum_append]; omega
theorem wtP_take (l : List CFragPacket) (k : Nat) : wtSFragPacket (l.take k) ≤ wtSFragPacket l := by
  conv => rhs; rw [← List.take_append_drop k l, wtP_app]
  omega
theorem wtS_app (a b : List CFragSlot) : wtSFragSlot (a ++ b) = wtSFragSlot a + wtSFragSlot b := by
  simp only [wtSFragSlot, List.length_append, List.map_append, List.sum_append]; omega
theorem wtS_cons (s : CFragSlot) (b : List CFragSlot) : wtSFragSlot (s :: b) = 1 + wtSFragPacket s.1 + wtSFragSlot b := by
  simp only [wtSFragSlot, List.length_cons, List.map_cons, List.sum_cons, wtFragSlot]; omega
theorem wtS_drop (l : List CFragSlot) (k : Nat) : wtSFragSlot (l.drop k) ≤ wtSFragSlot l := by
  conv => rhs; rw [← List.take_append_drop k l, wtS_app]
  omega
theorem wtP_one (p : CFragPacket) : wtSFragPacket [p] = 1 + wtFragPacket p := by simp [wtSFragPacket]
theorem wt_zero : wtFragPacket (ctFragPacket zeroP) = 0 := rfl
theorem inI_wt (s : CFragSlot) (p : CFragPacket) : wtSFragPacket (inI s p).1.1 ≤ wtSFragPacket s.1 + 1 + wtFragPacket p ∧ wtFragPacket (inI s p).2.1 ≤ 128 := by
  have hj := join_wt (s.1 ++ [p])
  have ht := wtP_take s.1 1
  have ha := wtP_app s.1 [p]
  rw [wtP_one] at ha
  unfold inI
  split
  · exact ⟨by dsimp only; omega, by rw [wt_zero]; omega⟩
  · split
    · exact ⟨by dsimp only; omega, by rw [wt_zero]; omega⟩
    · split
      · exact ⟨by dsimp only; omega, by rw [wt_zero]; omega⟩
      · split
        · exact ⟨by dsimp only; omega, hj⟩
        · exact ⟨by dsimp only; omega, hj⟩
theorem take_wt {n : Int} {l : List CFragSlot} {p q : CFragPacket} {c : CFragBench} {k : Int} (h : takeC n l p = (c, q, k)) (hb : wtSFragSlot l ≤ 1048576) (hp : wtFragPacket p ≤ 1048576) : wtFragBench c ≤ 4000000 ∧ wtFragPacket q ≤ 4000000 := by
  have hd := wtS_drop l 1
  unfold takeC at h
  split at h
  · split at h
    · split at h
      · simp only [Prod.mk.injEq] at h
        obtain ⟨rfl, rfl, _⟩ := h
        exact ⟨by show wtSFragSlot l ≤ _; omega, by omega⟩
      · split at h
        · simp only [Prod.mk.injEq] at h
          obtain ⟨rfl, rfl, _⟩ := h
          refine ⟨?_, by rw [wt_zero]; omega⟩
          show wtSFragSlot (_ ++ _) ≤ _
          rw [wtS_app, wtS_cons, wtP_one]
          have h0 : wtSFragSlot [] = 0 := rfl
          split <;> omega
        · rename_i s B e
          have hl : l = l.takeWhile (npC p) ++ s :: B := by rw [← e, List.takeWhile_append_dropWhile]
          have hw : wtSFragSlot l = wtSFragSlot (l.takeWhile (npC p)) + (1 + wtSFragPacket s.1 + wtSFragSlot B) := by
            rw [← wtS_cons, ← wtS_app, ← hl]
          have hi := inI_wt s p
          split at h
          · simp only [Prod.mk.injEq] at h
            obtain ⟨rfl, rfl, _⟩ := h
            refine ⟨?_, by omega⟩
            show wtSFragSlot (_ ++ _) ≤ _
            rw [wtS_app]; omega
          · simp only [Prod.mk.injEq] at h
            obtain ⟨rfl, rfl, _⟩ := h
            refine ⟨?_, by omega⟩
            show wtSFragSlot (_ ++ _ :: _) ≤ _
            rw [wtS_app, wtS_cons]; omega
    · simp only [Prod.mk.injEq] at h
      obtain ⟨rfl, rfl, _⟩ := h
      exact ⟨by show wtSFragSlot l ≤ _; omega, by rw [wt_zero]; omega⟩
  · simp only [Prod.mk.injEq] at h
    obtain ⟨rfl, rfl, _⟩ := h
    exact ⟨Nat.zero_le _, by rw [wt_zero]; omega⟩
theorem oct_of {w : World} {x : MFragPacket} (h : okFragPacket w x) : octP (ctFragPacket x) := h.2.2.2.2.2.2.2
theorem octB_of {w : World} {x : MFragBench} (h : okFragBench w x) : octB (ctFragBench x) := fun s hs q hq => by
  obtain ⟨y, hy, rfl⟩ := List.mem_map.1 hs
  obtain ⟨z, hz, rfl⟩ := List.mem_map.1 hq
  exact oct_of ((h.2.2 y hy).1.2 z hz)
attribute [local irreducible] Calls GoS GoC GoE GoT Mid IsEq IsFl IsSc IsRw IsSl IsEl IsSt IsFs sp Mem Rd LenOf szR joinC alikeC likeC takeC
abbrev TakeX (tb : CFragBench) (tp : CFragPacket) (tk : Int) (w : World) : Ending → World → Prop := RetX (fun q : MFragBench × MFragPacket => ctFragBench q.1 = tb ∧ ctFragPacket q.2 = tp) (fun q => .tuple #[.agg (clFragBench q.1).toArray, .agg (clFragPacket q.2).toArray, .int .i64 tk]) (fun q => [.many (rwFragBench q.1), .many (rwFragPacket q.2)]) w
theorem takeX_of {f : Nat} {args : Array Value} {w : World} {T : CFragBench × CFragPacket × Int} {tb : CFragBench} {tp : CFragPacket} {tk : Int} (hT : T = (tb, tp, tk)) (h : Calls Try.prog f args w (RetX (fun q : MFragBench × MFragPacket × Int => T = (ctFragBench q.1, ctFragPacket q.2.1, q.2.2)) (fun q => .tuple #[.agg (clFragBench q.1).toArray, .agg (clFragPacket q.2.1).toArray, .int .i64 q.2.2]) (fun q => [.many (rwFragBench q.1), .many (rwFragPacket q.2.1)]) w)) : Calls Try.prog f args w (TakeX tb tp tk w) := by
  refine h.mono ?_
  rintro e w' ⟨⟨b, q, k⟩, h1, h2, h3⟩
  dsimp only at h1 h2 h3
  rw [hT] at h1
  simp only [Prod.mk.injEq] at h1
  obtain ⟨rfl, rfl, rfl⟩ := h1
  exact ⟨(b, q), ⟨rfl, rfl⟩, h2, h3⟩
theorem eqTo {x y : MFragBench} (h : ctFragBench y = ctFragBench x) : y.1 = x.1 ∧ y.2.2.map ctFragSlot = x.2.2.map ctFragSlot := ⟨congrArg (fun c : CFragBench => c.1) h, congrArg (fun c : CFragBench => c.2) h⟩
theorem implTakeX_c (x y : MFragBench) (u p : MFragPacket) (hy : ctFragBench y = ctFragBench x) (hpu : ctFragPacket p = ctFragPacket u) {tb : CFragBench} {tp : CFragPacket} {tk : Int} (hT : takeC x.1 (x.2.2.map ctFragSlot) (ctFragPacket u) = (tb, tp, tk)) (hob : octB (ctFragBench x)) (hop : octP (ctFragPacket u)) (hn : y.2.2.length ≤ 1048576) (hl : Short y.2.2) (hlp : p.2.2.2.2.2.2.2.2.2.length ≤ 1048576) (w : World) (hx : Rds w (rwFragBench y)) (hp : Rds w (rwFragPacket p)) : Calls Try.prog 35 #[.agg (clFragBench y).toArray, .agg (clFragPacket p).toArray] w (TakeX tb tp tk w) := by
  have h1 := eqTo hy
  refine takeX_of (T := takeC y.1 (y.2.2.map ctFragSlot) (ctFragPacket p)) (by rw [h1.1, h1.2, hpu]; exact hT) (implFragTake_c y p hn hl hlp (by rw [hy]; exact hob) (by rw [hpu]; exact hop) w hx hp)
theorem specTakeX_c (x y : MFragBench) (u p : MFragPacket) (hy : ctFragBench y = ctFragBench x) (hpu : ctFragPacket p = ctFragPacket u) {tb : CFragBench} {tp : CFragPacket} {tk : Int} (hT : takeC x.1 (x.2.2.map ctFragSlot) (ctFragPacket u) = (tb, tp, tk)) (hn : y.2.2.length ≤ 1048576) (hl : Short y.2.2) (hlp : p.2.2.2.2.2.2.2.2.2.length ≤ 1048576) (w : World) (hx : Rds w (rwFragBench y)) (hp : Rds w (rwFragPacket p)) : Calls Try.prog 33 #[.agg (clFragBench y).toArray, .agg (clFragPacket p).toArray] w (TakeX tb tp tk w) := by
  have h1 := eqTo hy
  refine takeX_of (T := takeC y.1 (y.2.2.map ctFragSlot) (ctFragPacket p)) (by rw [h1.1, h1.2, hpu]; exact hT) (specFragTake_c y p hn hl hlp w hx hp)
end Go.Proofs.Ytodhjpnfokkfeaa

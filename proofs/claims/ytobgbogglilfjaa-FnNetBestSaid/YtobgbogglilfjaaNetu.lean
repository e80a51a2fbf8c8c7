/- Drawn prefixes and an address. -/
import Derived.Test.YtobgbogglilfjaaNett
set_option linter.unusedSimpArgs false
set_option linter.unusedVariables false
namespace Go.Proofs.Ytobgbogglilfjaa
open Go Go.RowKit
attribute [local irreducible] Calls GoS GoC GoE GoT Mid IsEq IsFl IsSc IsRw IsSl IsEl IsSt IsFs sp Mem Rd LenOf szR
attribute [local irreducible] size okP
theorem drawNetBest_c (v : Value) (l : List Int) (w : World) (hm : Mem w v 1 l.length (l.flatMap fun y : Int => ([.int .u8 y] : List Value))) (hby : ∀ y ∈ l, 0 ≤ y ∧ y ≤ 255) : Calls Try.prog 31 #[v] w
    (RetX (fun y : MSNetPrefix × Int => (y.1.2.length : Int) < 10 ∧ (∀ q ∈ y.1.2, bigP q) ∧ bigR y.2) (fun y => .tuple #[y.1.1, .int .i64 y.2]) (fun y => [.row y.1.1 25 2 y.1.2.length (y.1.2.flatMap clNetPrefix)]) w) := by
  refine enter (n := 26) (E := [(0, _)]) Try.func31 rfl rfl rfl rfl ?_
  repeat' (first
    | (refine gS ?_; (first
        | (refine S_move rfl rfl ?_)
        | (refine S_assign rfl rfl ?_)
        | (apply F_idx rfl rfl rfl; exact T.sl37; (focus rfl); (focus (first | exact len_nil | (apply len_given; assumption) | (apply len_row; (focus ((repeat (first | exact List.Mem.head _ | refine List.Mem.tail _ ?_)); done))) | (refine len_isN ?_; assumption))); (focus omega))
        | (apply F_idxZ rfl rfl rfl; exact T.sl37; (focus omega); (focus (first | exact len_nil | (apply len_given; assumption) | (apply len_row; (focus ((repeat (first | exact List.Mem.head _ | refine List.Mem.tail _ ?_)); done))) | (refine len_isN ?_; assumption))); (focus omega))
        | (refine gLoad ?_; (first
            | (apply F_loadAll rfl rfl; (focus ((repeat (first | exact List.Mem.head _ | refine List.Mem.tail _ ?_)); done)); exact T.rw25; (focus (first | exact free0 | exact free1)))
            | (apply F_loadP rfl rfl; (focus ((repeat (first | exact List.Mem.head _ | refine List.Mem.tail _ ?_)); done)); exact T.rw25; (focus ((repeat (first | exact Take.nil | apply Take.here | apply Take.there)); done)); rfl; (focus (first | exact free0 | exact free1)))
            | (apply F_loadSN rfl rfl; exact T.rw25; (focus (first | exact rd_nil | (apply rd_given; (focus assumption); (focus (first | exact freeG0 | exact freeG1))) | (apply rd_row; (focus ((repeat (first | exact List.Mem.head _ | refine List.Mem.tail _ ?_)); done)); (focus (first | exact freeR0 | exact freeR1))))); (focus (first | (focus (apply at_flat; (focus (intro _; rfl)); (focus assumption))) | exact at_self)); rfl; rfl)
            | (apply F_loadSP rfl rfl; exact T.rw25; (focus (first | exact rd_nil | (apply rd_given; (focus assumption); (focus (first | exact freeG0 | exact freeG1))) | (apply rd_row; (focus ((repeat (first | exact List.Mem.head _ | refine List.Mem.tail _ ?_)); done)); (focus (first | exact freeR0 | exact freeR1))))); (focus (apply at_flat; (focus (intro _; rfl)); (focus assumption))); (focus ((repeat (first | exact Take.nil | apply Take.here | apply Take.there)); done)); rfl; rfl)))
        | (refine gCall ?_; (first
            | (refine S_callX (f := 53) rfl T.pf53 rfl (fun w hst => open_c v l hm hby w hst.ext) rfl (fun zz hzz => ?_); simp only [List.cons_append, List.nil_append]; revert hzz; revert zz; intro rd hcr)
            | (apply S_callB (f := 57) (b := rd.1) (hp := T.pf57) (hv := rfl) (hd := rfl); (case hpick => ((repeat (first | exact Pick.here | exact Pick.last | apply Pick.there | apply Pick.over)); done)); (case hc => exact l5List_c rd.1 rd.2.1 rd.2.2 _ _ (by omega) hcr (by omega)); (case hnb => (intro _ _; exact ⟨_, List.Mem.head _, rfl⟩)); (case hk => (first | exact okst2 | exact okst1 | exact okst1')); intro zz hzz; simp only [List.cons_append, List.nil_append]; revert hzz; revert zz; rintro ⟨⟨sv, dn⟩, q2⟩ ⟨hc1, hc2, hc3, hc4⟩; dsimp only at hc1 hc2 hc3 hc4 ⊢; have hel : 0 < (dn.length : Int) → ∀ j : Int, 0 ≤ j → j < (dn.length : Int) → dn[j.toNat]? = some (ix dn j.toNat) := (fun _ j h0 h1 => nthD (by omega)))
            | (apply S_callB (f := 55) (b := rd.1) (hp := T.pf55) (hv := rfl) (hd := rfl); (case hpick => ((repeat (first | exact Pick.here | exact Pick.last | apply Pick.there | apply Pick.over)); done)); (case hc => exact pick_c rd.1 rd.2.1 rd.2.2 _ (dn.length : Int) hcr (by omega)); (case hnb => (intro _ _; exact ⟨_, List.Mem.head _, rfl⟩)); (case hk => (first | exact okst2 | exact okst1 | exact okst1')); intro zz hzz; simp only [List.cons_append, List.nil_append]; revert hzz; revert zz; intro yi hyi; have hx1 := hel2 yi hyi.1 (hyi.2.1 (by omega)))
            | (apply S_callB (f := 55) (b := rd.1) (hp := T.pf55) (hv := rfl) (hd := rfl); (case hpick => ((repeat (first | exact Pick.here | exact Pick.last | apply Pick.there | apply Pick.over)); done)); (case hc => exact pick_c rd.1 rd.2.1 rd.2.2 _ _ hcr (by omega)); (case hnb => (intro _ _; exact ⟨_, List.Mem.head _, rfl⟩)); (case hk => (first | exact okst2 | exact okst1 | exact okst1')); intro zz hzz; simp only [List.cons_append, List.nil_append]; revert hzz; revert zz; intro y hy)
            | (apply S_callB (f := 56) (b := rd.1) (hp := T.pf56) (hv := rfl) (hd := rfl); (case hpick => ((repeat (first | exact Pick.here | exact Pick.last | apply Pick.there | apply Pick.over)); done)); (case hc => exact l5Addr_c rd.1 rd.2.1 rd.2.2 _ _ _ hcr (by omega)); (case hnb => (intro _ _; exact ⟨_, List.Mem.head _, rfl⟩)); (case hk => (first | exact okst2 | exact okst1 | exact okst1')); intro zz hzz; simp only [List.cons_append, List.nil_append]; revert hzz; revert zz; rintro ⟨x, q3⟩ ⟨hx1, hx2, hx3, hx4⟩; dsimp only at hx1 hx2 hx3 hx4 ⊢)
            | (apply F_len rfl rfl rfl; (focus exact ⟨_, _, by exact T.sl37⟩); (focus (first | exact len_nil | (apply len_given; assumption) | (apply len_row; (focus ((repeat (first | exact List.Mem.head _ | refine List.Mem.tail _ ?_)); done))) | (refine len_isN ?_; assumption))))))
        | (refine gBin ?_; (first
            | (refine S_gtr rfl rfl rfl ?_)))
        | (refine S_done ?_)))
    | (refine gC ?_; (first
        | (refine C_seq ?_)
        | (refine gReg ?_; (first
            | (refine gReg (i := 0) ?_; refine C_plain [(0, 0), (1, 0)] (by kernel_rfl) (s := [⟨0, none, _, _, _⟩, ⟨0, none, _, _, _⟩]) rfl ?_)
            | (refine gReg (i := 1) ?_; refine C_plain [(0, 0), (1, 2), (2, 0)] (by kernel_rfl) (s := [⟨0, none, _, _, _⟩, ⟨2, none, _, _, _⟩, ⟨0, none, _, _, _⟩]) rfl ?_)
            | (refine gReg (i := 2) ?_; refine C_plain [(0, 0), (1, 2), (2, 0)] (by kernel_rfl) (s := [⟨0, none, _, _, _⟩, ⟨2, none, _, _, _⟩, ⟨0, none, _, _, _⟩]) rfl ?_)
            | (refine gReg (i := 3) ?_; refine C_plain [(0, 0), (1, 0), (2, 0)] (by kernel_rfl) (s := [⟨0, none, _, _, _⟩, ⟨0, none, _, _, _⟩, ⟨0, none, _, _, _⟩]) rfl ?_)
            | (refine gReg (i := 4) ?_; refine C_plain [(0, 0), (1, 0), (2, 0), (3, 0), (4, 0), (5, 0), (6, 2), (7, 0), (8, 0), (9, 2), (10, 0), (11, 0)] (by kernel_rfl) (s := [⟨0, none, _, _, _⟩, ⟨0, none, _, _, _⟩, ⟨0, none, _, _, _⟩, ⟨0, none, _, _, _⟩, ⟨0, none, _, _, _⟩, ⟨0, none, _, _, _⟩, ⟨2, none, _, _, _⟩, ⟨0, none, _, _, _⟩, ⟨0, none, _, _, _⟩, ⟨2, none, _, _, _⟩, ⟨0, none, _, _, _⟩, ⟨0, none, _, _, _⟩]) rfl ?_)
            | (refine gReg (i := 5) ?_; refine C_plain [(0, 0), (1, 0), (2, 2), (3, 0), (4, 0)] (by kernel_rfl) (s := [⟨0, none, _, _, _⟩, ⟨0, none, _, _, _⟩, ⟨2, none, _, _, _⟩, ⟨0, none, _, _, _⟩, ⟨0, none, _, _, _⟩]) rfl ?_)))
        | (refine C_true rfl ?_)
        | (refine C_false rfl ?_)
        | (refine C_split rfl ?_ ?_ <;> (intro hb; (try simp only [decide_eq_true_eq] at hb); (try simp only [decide_eq_false_iff_not] at hb); (try simp only [Bool.not_eq_true'] at hb); (try simp only [Bool.not_eq_false'] at hb); (try (exfalso; first | contradiction | omega)); (try (have hel2 := hel hb))))
        | (refine C_skip ?_)
        | (refine C_exit ?_)
        | (refine C_ret ?_)
        | (refine C_block ?_)))
    | (refine gE ?_; (first
        | (refine E_then ?_)
        | (refine E_thenX ?_)
        | (refine E_thenR ?_)
        | (refine E_block ?_)
        | (refine E_blockY ?_)
        | (refine E_blockR ?_)
        | (refine E_calm ?_)
        | (refine E_blockX rfl ?_)
        | (apply E_ret1 rfl; (first | exact Res.tmp rfl | (apply R_cellAll rfl; (focus ((repeat (first | exact List.Mem.head _ | refine List.Mem.tail _ ?_)); done)); exact T.rw25) | (apply R_cell1 rfl; (focus ((repeat (first | exact List.Mem.head _ | refine List.Mem.tail _ ?_)); done)); fail)))
        | (apply E_ret2 rfl; (first | exact Res.tmp rfl | (apply R_cellAll rfl; (focus ((repeat (first | exact List.Mem.head _ | refine List.Mem.tail _ ?_)); done)); exact T.rw25) | (apply R_cell1 rfl; (focus ((repeat (first | exact List.Mem.head _ | refine List.Mem.tail _ ?_)); done)); fail)); (first | exact Res.tmp rfl | (apply R_cellAll rfl; (focus ((repeat (first | exact List.Mem.head _ | refine List.Mem.tail _ ?_)); done)); exact T.rw25) | (apply R_cell1 rfl; (focus ((repeat (first | exact List.Mem.head _ | refine List.Mem.tail _ ?_)); done)); fail)))
        | (apply E_ret3 rfl; (first | exact Res.tmp rfl | (apply R_cellAll rfl; (focus ((repeat (first | exact List.Mem.head _ | refine List.Mem.tail _ ?_)); done)); exact T.rw25) | (apply R_cell1 rfl; (focus ((repeat (first | exact List.Mem.head _ | refine List.Mem.tail _ ?_)); done)); fail)); (first | exact Res.tmp rfl | (apply R_cellAll rfl; (focus ((repeat (first | exact List.Mem.head _ | refine List.Mem.tail _ ?_)); done)); exact T.rw25) | (apply R_cell1 rfl; (focus ((repeat (first | exact List.Mem.head _ | refine List.Mem.tail _ ?_)); done)); fail)); (first | exact Res.tmp rfl | (apply R_cellAll rfl; (focus ((repeat (first | exact List.Mem.head _ | refine List.Mem.tail _ ?_)); done)); exact T.rw25) | (apply R_cell1 rfl; (focus ((repeat (first | exact List.Mem.head _ | refine List.Mem.tail _ ?_)); done)); fail))))))
  · exact retX (α := MSNetPrefix × Int) ((sv, dn), x) ⟨by dsimp only; omega, hc2, ⟨by dsimp only; omega, by dsimp only; omega⟩⟩ rfl (by (focus (apply Ent.flat; (simp only [List.length_append, List.length_cons, List.length_nil, Nat.zero_add, flat_many, flat_row, flat_blk, flat_append, flat_nil, List.map_append, List.map_cons, List.map_nil, List.flatMap_append, List.flatMap_cons, List.flatMap_nil, List.append_assoc, List.append_nil, List.nil_append, List.cons_append, Row.blk_mk, rwSNetPrefix, rwSuint8]); ((repeat (first | exact Pull.nil | (apply Pull.app; (focus ((repeat (first | exact PickA.here | exact PickA.all | apply PickA.there | apply PickA.over)); done))) | (apply Pull.cons; (focus ((repeat (first | exact Pick.here | exact Pick.last | apply Pick.there | apply Pick.over)); done))) | (apply Pull.atom; (focus ((repeat (first | exact PickA.here | exact PickA.all | apply PickA.there | apply PickA.over)); done))))); done))))
  · exact retX (α := MSNetPrefix × Int) ((sv, dn), y) ⟨by dsimp only; omega, hc2, ⟨by dsimp only; omega, by dsimp only; omega⟩⟩ rfl (by (focus (apply Ent.flat; (simp only [List.length_append, List.length_cons, List.length_nil, Nat.zero_add, flat_many, flat_row, flat_blk, flat_append, flat_nil, List.map_append, List.map_cons, List.map_nil, List.flatMap_append, List.flatMap_cons, List.flatMap_nil, List.append_assoc, List.append_nil, List.nil_append, List.cons_append, Row.blk_mk, rwSNetPrefix, rwSuint8]); ((repeat (first | exact Pull.nil | (apply Pull.app; (focus ((repeat (first | exact PickA.here | exact PickA.all | apply PickA.there | apply PickA.over)); done))) | (apply Pull.cons; (focus ((repeat (first | exact Pick.here | exact Pick.last | apply Pick.there | apply Pick.over)); done))) | (apply Pull.atom; (focus ((repeat (first | exact PickA.here | exact PickA.all | apply PickA.there | apply PickA.over)); done))))); done))))
/-- the longest that has an address -/
theorem bestF_law (l : List MNetPrefix) (x : Int) : ∀ k, (bestF l x k = -1 ∧ ∀ i, i < k → hasB (ix l i) x = false) ∨ (0 ≤ bestF l x k ∧ bestF l x k < (k : Int) ∧ hasB (ix l (bestF l x k).toNat) x = true ∧ ∀ i, i < k → hasB (ix l i) x = true → (ix l i).2 ≤ (ix l (bestF l x k).toNat).2 ∧ ((ix l i).2 = (ix l (bestF l x k).toNat).2 → bestF l x k ≤ (i : Int)))
  | 0 => .inl ⟨rfl, fun i h => by omega⟩
  | k + 1 => by
    cases hc : (hasB (ix l k) x && (decide (bestF l x k < 0) || decide ((ix l (bestF l x k).toNat).2 < (ix l k).2)))
    · rw [bestF_f hc]
      rcases bestF_law l x k with ⟨h1, h2⟩ | ⟨h1, h2, h3, h4⟩
      · left
        refine ⟨h1, fun i hi => ?_⟩
        rcases Nat.lt_or_ge i k with h | h
        · exact h2 i h
        · have : i = k := by omega
          subst this
          rw [h1] at hc
          simpa using hc
      · right
        refine ⟨h1, by omega, h3, fun i hi hh => ?_⟩
        rcases Nat.lt_or_ge i k with h | h
        · exact h4 i h hh
        · have : i = k := by omega
          subst this
          rw [hh] at hc
          simp only [Bool.true_and, Bool.or_eq_false_iff, decide_eq_false_iff_not] at hc
          exact ⟨by omega, fun _ => by omega⟩
    · rw [bestF_t hc]
      simp only [Bool.and_eq_true, Bool.or_eq_true, decide_eq_true_eq] at hc
      right
      refine ⟨by omega, by omega, by simpa using hc.1, fun i hi hh => ?_⟩
      have hkk : ((k : Int)).toNat = k := by omega
      rw [hkk]
      rcases Nat.lt_or_ge i k with h | h
      · rcases bestF_law l x k with ⟨h1, h2⟩ | ⟨h1, h2, h3, h4⟩
        · rw [h2 i h] at hh; cases hh
        · have := h4 i h hh
          omega
      · have : i = k := by omega
        subst this
        exact ⟨Int.le_refl _, fun _ => Int.le_refl _⟩
end Go.Proofs.Ytobgbogglilfjaa

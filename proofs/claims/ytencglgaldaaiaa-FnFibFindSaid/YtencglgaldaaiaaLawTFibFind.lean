/- The law FnFibFind: the longest route of a drawn table that has a drawn address: none longer has it. No condition. -/
import Derived.Test.YtencglgaldaaiaaFibn
import Derived.Test.YtencglgaldaaiaaOpens
set_option linter.unusedSimpArgs false
set_option linter.unusedVariables false
namespace Go.Proofs.Ytencglgaldaaiaa.fnFibFind
open Go Go.ChangeShapes Go.WideShapes Go.ChangeAt Go.RowKit
attribute [local irreducible] Calls GoS GoC GoE GoT Mid IsEq IsFl IsSc IsRw IsSl IsEl IsSt IsFs sp Mem Rd LenOf szR
theorem rds_tab {w0 w : World} {L : List Blk} {tv : Value} {tl : List MFibRoute} {base : List Row} (hs : St w0 w L) (h1 : .row tv 55 3 tl.length (tl.flatMap clFibRoute) ∈ L) (h2 : .many base ∈ L) (hT : TabS tl base) : Rds w (rwSFibRoute (tv, tl)) :=
  Rds.cons (Mem.row hs h1) (Rds.flatMap.2 fun y hy => rds_in hs h2 (hT y hy).2)
/-- a prefix has an address just if both are alike ahead of its length -/
theorem has_shr {a l x : Int} (h : okP a l = true) : (x / 2 ^ (16 - l).toNat = a / 2 ^ (16 - l).toNat) ↔ hasP a l x = true := by
  obtain ⟨h0, h1, h2, h3⟩ := okP_t h
  simp only [okP, Bool.and_eq_true, decide_eq_true_eq] at h
  have h4 := h.2
  have hs := size_pos l
  show (x / size l = a / size l) ↔ _
  have hd := Int.mul_ediv_add_emod a (size l)
  rw [h4, Int.add_zero] at hd
  unfold hasP
  simp only [Bool.and_eq_true, decide_eq_true_eq]
  constructor
  · intro h6
    have hp := Int.mul_ediv_add_emod x (size l)
    have h7 := Int.emod_nonneg x (b := size l) (by omega)
    have h8 := Int.emod_lt_of_pos x (b := size l) (by omega)
    rw [h6] at hp
    exact ⟨by omega, by omega⟩
  · rintro ⟨h6, h7⟩
    have e1 : x = (x - a) + size l * (a / size l) := by omega
    rw [e1, Int.add_mul_ediv_left _ _ (by omega), Int.ediv_eq_zero_of_lt (by omega) (by omega)]
    omega
/-- the longest of the first k that has an address -/
theorem bestR_law (c : List CFibRoute) (x : Int) : ∀ k, (bestR c x k = -1 ∧ ∀ i, i < k → hasP (ix c i).1 (ix c i).2.1 x = false) ∨ (0 ≤ bestR c x k ∧ bestR c x k < (k : Int) ∧ hasP (ix c (bestR c x k).toNat).1 (ix c (bestR c x k).toNat).2.1 x = true ∧ ∀ i, i < k → hasP (ix c i).1 (ix c i).2.1 x = true → (ix c i).2.1 ≤ (ix c (bestR c x k).toNat).2.1)
  | 0 => .inl ⟨rfl, fun i h => by omega⟩
  | k + 1 => by
    have ih := bestR_law c x k
    cases hc : (hasP (ix c k).1 (ix c k).2.1 x && (decide (bestR c x k < 0) || decide ((ix c (bestR c x k).toNat).2.1 < (ix c k).2.1)))
    · have e : bestR c x (k + 1) = bestR c x k := by rw [bestR, if_neg (by rw [hc]; simp)]
      rw [e]
      rcases ih with ⟨h1, h2⟩ | ⟨h1, h2, h3, h4⟩
      · left
        refine ⟨h1, fun i hi => ?_⟩
        rcases Nat.lt_or_ge i k with h | h
        · exact h2 i h
        · have : i = k := by omega
          subst this
          rw [h1] at hc
          simpa using hc
      · right
        refine ⟨h1, by omega, h3, fun i hi hh => ?_⟩
        rcases Nat.lt_or_ge i k with h | h
        · exact h4 i h hh
        · have : i = k := by omega
          subst this
          rw [hh] at hc
          simp only [Bool.true_and, Bool.or_eq_false_iff, decide_eq_false_iff_not] at hc
          omega
    · have e : bestR c x (k + 1) = (k : Int) := by rw [bestR, if_pos hc]
      rw [e]
      simp only [Bool.and_eq_true, Bool.or_eq_true, decide_eq_true_eq] at hc
      have hkk : ((k : Int)).toNat = k := by omega
      right
      refine ⟨by omega, by omega, by rw [hkk]; exact hc.1, fun i hi hh => ?_⟩
      rw [hkk]
      rcases Nat.lt_or_ge i k with h | h
      · rcases ih with ⟨h1, h2⟩ | ⟨h1, h2, h3, h4⟩
        · rw [h2 i h] at hh; cases hh
        · have := h4 i h hh
          omega
      · have : i = k := by omega
        subst this
        exact Int.le_refl _
theorem findC_eq (c : List CFibRoute) (x : Int) : findC c x = if tabOk c && inB x 0 65535 then bestR c x c.length else -1 := rfl
theorem find_lt (tl : List MFibRoute) (a : Int) : findC (tl.map ctFibRoute) a < (tl.length : Int) := by
  rw [findC_eq]
  split
  · have := bestR_rng (tl.map ctFibRoute) a (tl.map ctFibRoute).length
    rw [List.length_map] at this ⊢
    exact this.2
  · omega
theorem find_law (tl : List MFibRoute) (a k : Int) (hk : findC (tl.map ctFibRoute) a = k) (h1 : tabOk (tl.map ctFibRoute) = true) (h2 : 0 ≤ a ∧ a ≤ 65535) : (k = -1 ∧ ∀ i, i < tl.length → hasP (ix tl i).1 (ix tl i).2.1 a = false) ∨ (0 ≤ k ∧ k < (tl.length : Int) ∧ hasP (ix tl k.toNat).1 (ix tl k.toNat).2.1 a = true ∧ ∀ i, i < tl.length → hasP (ix tl i).1 (ix tl i).2.1 a = true → (ix tl i).2.1 ≤ (ix tl k.toNat).2.1) := by
  have hin : inB a 0 65535 = true := by simp [inB, h2.1, h2.2]
  rw [findC_eq, h1, hin] at hk
  simp only [Bool.and_self, if_true, List.length_map] at hk
  have h := bestR_law (tl.map ctFibRoute) a tl.length
  rw [hk] at h
  rcases h with ⟨g1, g2⟩ | ⟨g1, g2, g3, g4⟩
  · refine .inl ⟨g1, fun i hi => ?_⟩
    have := g2 i hi
    rwa [ix_map hi] at this
  · have hkl : k.toNat < tl.length := by omega
    rw [ix_map hkl] at g3 g4
    refine .inr ⟨g1, g2, g3, fun i hi hh => ?_⟩
    have := g4 i hi (by rw [ix_map hi]; exact hh)
    rwa [ix_map hi] at this
theorem find_none (tl : List MFibRoute) (a k : Int) (hk : findC (tl.map ctFibRoute) a = k) (h : tabOk (tl.map ctFibRoute) = false ∨ a < 0 ∨ 65535 < a) : k = -1 := by
  rw [findC_eq] at hk
  rw [if_neg] at hk
  · exact hk.symm
  · rcases h with h | h | h
    · rw [h]; simp
    · simp [inB]; omega
    · simp [inB]; omega
attribute [local irreducible] findC tabOk bestR hasP
set_option maxHeartbeats 1000000 in
theorem walk (w : World) (x : MSuint8) (hx : okSuint8 w x) : Calls Try.prog 10 #[x.1] w (RetN (.bool true) w) := by
  obtain ⟨v, l⟩ := x
  obtain ⟨hm, hby⟩ := hx
  dsimp only at *
  have hlen := hm.len
  simp only [maxLen] at hlen
  refine enter (n := 97) (E := [(0, _)]) Try.func10 rfl rfl rfl rfl ?_
  repeat' (first
    | (refine gS ?_; (first
        | (refine gGuard ?_; (first
            | (refine S_on rfl ?_)
            | (refine S_off rfl rfl rfl ?_)
            | (refine S_offn rfl rfl ?_)
            | (refine S_offU rfl rfl ?_)
            | (refine S_offUn rfl ?_)
            | (refine S_gsplit rfl ?_ ?_ <;> (intro hb; (try simp only [decide_eq_true_eq] at hb); (try simp only [decide_eq_false_iff_not] at hb); (try simp only [Bool.not_eq_true'] at hb); (try simp only [Bool.not_eq_false'] at hb); (try (exfalso; first | contradiction | omega))))))
        | (refine S_move rfl rfl ?_)
        | (refine S_assign rfl rfl ?_)
        | (apply F_field rfl rfl; (first | exact T.fl55_0 | exact T.fl55_1))
        | (apply F_fieldS rfl rfl; (first | exact T.fl55_0 | exact T.fl55_1); (focus (first | exact len_nil | (apply len_given; assumption) | (apply len_row; (focus ((repeat (first | exact List.Mem.head _ | refine List.Mem.tail _ ?_)); done))) | (refine len_isN ?_; assumption))); (focus omega))
        | (apply F_idx rfl rfl rfl; (first | exact T.sl28 | exact T.sl46); (focus rfl); (focus (first | exact len_nil | (apply len_given; assumption) | (apply len_row; (focus ((repeat (first | exact List.Mem.head _ | refine List.Mem.tail _ ?_)); done))) | (refine len_isN ?_; assumption))); (focus omega))
        | (apply F_idxZ rfl rfl rfl; (first | exact T.sl28 | exact T.sl46); (focus omega); (focus (first | exact len_nil | (apply len_given; assumption) | (apply len_row; (focus ((repeat (first | exact List.Mem.head _ | refine List.Mem.tail _ ?_)); done))) | (refine len_isN ?_; assumption))); (focus omega))
        | (refine gLoad ?_; (first
            | (apply F_load1 rfl rfl; (focus ((repeat (first | exact List.Mem.head _ | refine List.Mem.tail _ ?_)); done)); exact T.sc3; rfl; (focus (first | exact free0 | exact free1)))
            | (apply F_loadS1 rfl rfl; exact T.sc3; (focus (first | exact rd_nil | (apply rd_given; (focus assumption); (focus (first | exact freeG0 | exact freeG1))) | (apply rd_row; (focus ((repeat (first | exact List.Mem.head _ | refine List.Mem.tail _ ?_)); done)); (focus (first | exact freeR0 | exact freeR1))))); (focus (first | (apply at_cell; (focus (apply at_flat; (focus (intro _; rfl)); (focus assumption))); rfl) | (apply at_cell0; (focus (apply at_flat; (focus (intro _; rfl)); (focus assumption))); rfl) | (apply at_cell; (focus (apply at_mid0; (focus assumption))); rfl) | (apply at_cell0; (focus (apply at_mid0; (focus assumption))); rfl) | rfl)))))
        | (refine gCall ?_; (first
            | (refine S_callX (f := 31) rfl T.pf31 rfl (fun w hst => drawFibFind_c v l w (Mem.given hst hm) hby) rfl (fun zz hzz => ?_); simp only [List.cons_append, List.nil_append]; revert hzz; revert zz; rintro ⟨tv, tl, base, a⟩ ⟨h1, h2⟩; dsimp only at h1 h2 ⊢; obtain ⟨k, hk⟩ : ∃ k, findC (tl.map ctFibRoute) a = k := ⟨_, rfl⟩; obtain ⟨b, hb0⟩ : ∃ b, tabOk (tl.map ctFibRoute) = b := ⟨_, rfl⟩; have hkr := find_lt tl a; rw [hk] at hkr)
            | (refine S_callN (f := 30) rfl T.pf30 rfl (fun w hst => (hk ▸ implFibFind_c (tv, tl) a w (rds_tab hst (by (focus ((repeat (first | exact List.Mem.head _ | refine List.Mem.tail _ ?_)); done))) (by (focus ((repeat (first | exact List.Mem.head _ | refine List.Mem.tail _ ?_)); done))) h2))) rfl ?_)
            | (refine S_callN (f := 29) rfl T.pf29 rfl (fun w hst => (hk ▸ specFibFind_c (tv, tl) a w (rds_tab hst (by (focus ((repeat (first | exact List.Mem.head _ | refine List.Mem.tail _ ?_)); done))) (by (focus ((repeat (first | exact List.Mem.head _ | refine List.Mem.tail _ ?_)); done))) h2))) rfl ?_)
            | (refine S_callN (f := 25) rfl T.pf25 rfl (fun w hst => (hb0 ▸ specFibTableOk_c (tv, tl) w (rds_tab hst (by (focus ((repeat (first | exact List.Mem.head _ | refine List.Mem.tail _ ?_)); done))) (by (focus ((repeat (first | exact List.Mem.head _ | refine List.Mem.tail _ ?_)); done))) h2))) rfl ?_)
            | (apply F_len rfl rfl rfl; (focus exact ⟨_, _, by (first | exact T.sl28 | exact T.sl46)⟩); (focus (first | exact len_nil | (apply len_given; assumption) | (apply len_row; (focus ((repeat (first | exact List.Mem.head _ | refine List.Mem.tail _ ?_)); done))) | (refine len_isN ?_; assumption))))))
        | (refine gBin ?_; (first
            | (refine S_lss rfl rfl rfl ?_)
            | (refine S_gtr rfl rfl rfl ?_)
            | (refine S_geq rfl rfl rfl ?_)
            | (refine S_eql rfl rfl rfl ?_)
            | (refine S_neq rfl rfl rfl ?_)
            | (refine S_add rfl rfl ?_ rfl ?_; (focus (unfold rng; omega)))
            | (refine S_sub rfl rfl ?_ rfl ?_; (focus (unfold rng; omega)))
            | (refine S_eqlB Try.underlying4 rfl rfl rfl ?_)
            | (refine S_neqB Try.underlying4 rfl rfl rfl ?_)))
        | (refine gPick ?_; (first
            | (refine S_pickT rfl rfl rfl ?_)
            | (refine S_pickF rfl rfl rfl ?_)))
        | (refine S_not rfl rfl ?_)
        | (refine S_extract rfl rfl rfl ?_)
        | (refine S_done ?_)))
    | (refine gC ?_; (first
        | (refine C_seq ?_)
        | (refine gReg ?_; (first
            | (refine gReg (i := 0) ?_; refine C_plain [(0, 0)] (by kernel_rfl) (s := [⟨0, none, _, _, _⟩]) rfl ?_)
            | (refine gReg (i := 1) ?_; refine C_plain [(0, 0), (1, 0), (2, 0)] (by kernel_rfl) (s := [⟨0, none, _, _, _⟩, ⟨0, none, _, _, _⟩, ⟨0, none, _, _, _⟩]) rfl ?_)
            | (refine gReg (i := 2) ?_; refine C_plain [(0, 0)] (by kernel_rfl) (s := [⟨0, none, _, _, _⟩]) rfl ?_)
            | (refine gReg (i := 3) ?_; refine C_plain [(0, 0), (1, 2), (2, 0), (3, 0), (4, 0), (5, 0), (6, 0)] (by kernel_rfl) (s := [⟨0, none, _, _, _⟩, ⟨2, none, _, _, _⟩, ⟨0, none, _, _, _⟩, ⟨0, none, _, _, _⟩, ⟨0, none, _, _, _⟩, ⟨0, none, _, _, _⟩, ⟨0, none, _, _, _⟩]) rfl ?_)
            | (refine gReg (i := 4) ?_; refine C_plain [(0, 0), (1, 0), (2, 2), (3, 0)] (by kernel_rfl) (s := [⟨0, none, _, _, _⟩, ⟨0, none, _, _, _⟩, ⟨2, none, _, _, _⟩, ⟨0, none, _, _, _⟩]) rfl ?_)
            | (refine gReg (i := 5) ?_; refine C_plain [(0, 0), (1, 0), (2, 0), (3, 2), (4, 0), (5, 0), (6, 0), (7, 0), (8, 0), (9, 0), (10, 0)] (by kernel_rfl) (s := [⟨0, none, _, _, _⟩, ⟨0, none, _, _, _⟩, ⟨0, none, _, _, _⟩, ⟨2, none, _, _, _⟩, ⟨0, none, _, _, _⟩, ⟨0, none, _, _, _⟩, ⟨0, some (24, false), _, _, _⟩, ⟨0, some (24, false), _, _, _⟩, ⟨0, some (24, false), _, _, _⟩, ⟨0, some (24, false), _, _, _⟩, ⟨0, none, _, _, _⟩]) rfl ?_)
            | (refine gReg (i := 6) ?_; refine C_plain [(0, 0)] (by kernel_rfl) (s := [⟨0, none, _, _, _⟩]) rfl ?_)
            | (refine gReg (i := 7) ?_; refine C_plain [(0, 0), (1, 2), (2, 0), (3, 0), (4, 0), (5, 0), (6, 0), (7, 0), (8, 0), (9, 0), (10, 0)] (by kernel_rfl) (s := [⟨0, none, _, _, _⟩, ⟨2, none, _, _, _⟩, ⟨0, none, _, _, _⟩, ⟨0, none, _, _, _⟩, ⟨0, some (33, false), _, _, _⟩, ⟨0, some (33, false), _, _, _⟩, ⟨0, none, _, _, _⟩, ⟨0, none, _, _, _⟩, ⟨0, some (37, false), _, _, _⟩, ⟨0, some (37, false), _, _, _⟩, ⟨0, none, _, _, _⟩]) rfl ?_)
            | (refine gReg (i := 8) ?_; refine C_plain [(0, 0), (1, 0), (2, 0)] (by kernel_rfl) (s := [⟨0, none, _, _, _⟩, ⟨0, none, _, _, _⟩, ⟨0, none, _, _, _⟩]) rfl ?_)
            | (refine gReg (i := 9) ?_; refine C_plain [(0, 0)] (by kernel_rfl) (s := [⟨0, none, _, _, _⟩]) rfl ?_)
            | (refine gReg (i := 10) ?_; refine C_plain [(0, 0), (1, 0), (2, 0), (3, 0)] (by kernel_rfl) (s := [⟨0, none, _, _, _⟩, ⟨0, none, _, _, _⟩, ⟨0, none, _, _, _⟩, ⟨0, none, _, _, _⟩]) rfl ?_)
            | (refine gReg (i := 12) ?_; refine C_drawn [(0, 0), (1, 0), (2, 0), (3, 0), (4, 0), (5, 0), (6, 0), (7, 0), (8, 0), (9, 0), (10, 0), (11, 0), (12, 0), (13, 0), (14, 0), (15, 0), (16, 0), (17, 0), (18, 0), (19, 0), (20, 0), (21, 0)] [] T.mixed (by kernel_rfl) (s := [⟨0, none, _, _, _⟩, ⟨0, none, _, _, _⟩, ⟨0, none, _, _, _⟩, ⟨0, none, _, _, _⟩, ⟨0, none, _, _, _⟩, ⟨0, none, _, _, _⟩, ⟨0, none, _, _, _⟩, ⟨0, none, _, _, _⟩, ⟨0, none, _, _, _⟩, ⟨0, none, _, _, _⟩, ⟨0, none, _, _, _⟩, ⟨0, none, _, _, _⟩, ⟨0, none, _, _, _⟩, ⟨0, none, _, _, _⟩, ⟨0, none, _, _, _⟩, ⟨0, none, _, _, _⟩, ⟨0, none, _, _, _⟩, ⟨0, none, _, _, _⟩, ⟨0, none, _, _, _⟩, ⟨0, none, _, _, _⟩, ⟨0, none, _, _, _⟩, ⟨0, none, _, _, _⟩]) rfl ?_)
            | (refine gReg (i := 13) ?_; refine C_drawn [(0, 0), (1, 0), (2, 0), (3, 0), (4, 0), (5, 0), (6, 0), (7, 0), (8, 0), (9, 0), (10, 0), (11, 0), (12, 0), (13, 0), (14, 0), (15, 0), (16, 0), (17, 0), (18, 0), (19, 0), (20, 0), (21, 0), (22, 0), (23, 0), (24, 0), (25, 0), (26, 0)] [] T.mixed (by kernel_rfl) (s := [⟨0, none, _, _, _⟩, ⟨0, none, _, _, _⟩, ⟨0, some (71, true), _, _, _⟩, ⟨0, some (71, true), _, _, _⟩, ⟨0, some (71, true), _, _, _⟩, ⟨0, some (74, false), _, _, _⟩, ⟨0, some (74, false), _, _, _⟩, ⟨0, some (74, false), _, _, _⟩, ⟨0, some (74, false), _, _, _⟩, ⟨0, some (74, false), _, _, _⟩, ⟨0, some (74, false), _, _, _⟩, ⟨0, some (74, false), _, _, _⟩, ⟨0, some (74, false), _, _, _⟩, ⟨0, some (74, false), _, _, _⟩, ⟨0, some (74, false), _, _, _⟩, ⟨0, some (74, false), _, _, _⟩, ⟨0, some (71, true), _, _, _⟩, ⟨0, none, _, _, _⟩, ⟨0, none, _, _, _⟩, ⟨0, some (88, false), _, _, _⟩, ⟨0, some (88, false), _, _, _⟩, ⟨0, some (88, false), _, _, _⟩, ⟨0, some (91, true), _, _, _⟩, ⟨0, some (91, true), _, _, _⟩, ⟨0, some (91, true), _, _, _⟩, ⟨0, some (88, false), _, _, _⟩, ⟨0, none, _, _, _⟩]) rfl ?_)
            | (refine gReg (i := 14) ?_; refine C_plain [(0, 0)] (by kernel_rfl) (s := [⟨0, none, _, _, _⟩]) rfl ?_)
            | (refine gReg (i := 11) ?_; refine C_plain [(0, 0), (1, 0), (2, 0)] (by kernel_rfl) (s := [⟨0, none, _, _, _⟩, ⟨0, none, _, _, _⟩, ⟨0, none, _, _, _⟩]) rfl ?_)
            | (refine gReg (i := 15) ?_; refine C_plain [(0, 0)] (by kernel_rfl) (s := [⟨0, none, _, _, _⟩]) rfl ?_)))
        | (refine C_true rfl ?_)
        | (refine C_false rfl ?_)
        | (refine C_split rfl ?_ ?_ <;> (intro hb; (try simp only [decide_eq_true_eq] at hb); (try simp only [decide_eq_false_iff_not] at hb); (try simp only [Bool.not_eq_true'] at hb); (try simp only [Bool.not_eq_false'] at hb); (try (exfalso; first | contradiction | omega))))
        | (refine C_skip ?_)
        | (refine C_exit ?_)
        | (refine C_ret ?_)
        | (refine C_block ?_)))
    | (refine gE ?_; (first
        | (refine E_then ?_)
        | (refine E_thenX ?_)
        | (refine E_thenR ?_)
        | (refine E_block ?_)
        | (refine E_blockY ?_)
        | (refine E_blockR ?_)
        | (refine E_calm ?_)
        | (refine E_blockX rfl ?_)
        | (apply E_ret1 rfl; (first | exact Res.tmp rfl | (apply R_cellAll rfl; (focus ((repeat (first | exact List.Mem.head _ | refine List.Mem.tail _ ?_)); done)); fail) | (apply R_cell1 rfl; (focus ((repeat (first | exact List.Mem.head _ | refine List.Mem.tail _ ?_)); done)); exact T.sc3)))
        | (apply E_ret2 rfl; (first | exact Res.tmp rfl | (apply R_cellAll rfl; (focus ((repeat (first | exact List.Mem.head _ | refine List.Mem.tail _ ?_)); done)); fail) | (apply R_cell1 rfl; (focus ((repeat (first | exact List.Mem.head _ | refine List.Mem.tail _ ?_)); done)); exact T.sc3)); (first | exact Res.tmp rfl | (apply R_cellAll rfl; (focus ((repeat (first | exact List.Mem.head _ | refine List.Mem.tail _ ?_)); done)); fail) | (apply R_cell1 rfl; (focus ((repeat (first | exact List.Mem.head _ | refine List.Mem.tail _ ?_)); done)); exact T.sc3)))
        | (apply E_ret3 rfl; (first | exact Res.tmp rfl | (apply R_cellAll rfl; (focus ((repeat (first | exact List.Mem.head _ | refine List.Mem.tail _ ?_)); done)); fail) | (apply R_cell1 rfl; (focus ((repeat (first | exact List.Mem.head _ | refine List.Mem.tail _ ?_)); done)); exact T.sc3)); (first | exact Res.tmp rfl | (apply R_cellAll rfl; (focus ((repeat (first | exact List.Mem.head _ | refine List.Mem.tail _ ?_)); done)); fail) | (apply R_cell1 rfl; (focus ((repeat (first | exact List.Mem.head _ | refine List.Mem.tail _ ?_)); done)); exact T.sc3)); (first | exact Res.tmp rfl | (apply R_cellAll rfl; (focus ((repeat (first | exact List.Mem.head _ | refine List.Mem.tail _ ?_)); done)); fail) | (apply R_cell1 rfl; (focus ((repeat (first | exact List.Mem.head _ | refine List.Mem.tail _ ?_)); done)); exact T.sc3))))))
  · exact retN rfl
  · exact retN (by rw [find_none tl a k hk (.inl (hb0.trans ‹b = false›))]; rfl)
  · exact retN (by rw [find_none tl a k hk (.inr (.inl (by assumption)))]; rfl)
  · exact retN (by rw [find_none tl a k hk (.inr (.inr (by assumption)))]; rfl)
  have hbt := hb0.trans ‹b = true›
  have ha : 0 ≤ a ∧ a ≤ 65535 := ⟨by omega, by omega⟩
  have hL := find_law tl a k hk hbt ha
  refine C_loop (α := Nat) (fun i => [(6, .int .i64 (i : Int)), (5, .int .i64 k), (4, .int .i64 a), (3, tv)]) (fun _ => [.row tv 55 3 tl.length (tl.flatMap clFibRoute), .many base]) (fun i => i ≤ tl.length) (fun i => tl.length - i) 0 (Nat.zero_le _) ⟨rfl, rfl, rfl, rfl, trivial⟩ (List.Sublist.refl _) ?_
  intro i hi
  have hok : (i : Int) < (tl.length : Int) → okP (ix tl i).1 (ix tl i).2.1 = true := fun h => tabOk_at hbt h
  have hbd : (i : Int) < (tl.length : Int) → 0 ≤ (ix tl i).2.1 ∧ (ix tl i).2.1 ≤ 16 ∧ 0 ≤ (ix tl i).1 ∧ (ix tl i).1 ≤ 65535 := fun h => okP_t (hok h)
  have hkx : ¬ k < 0 → tl[k.toNat]? = some (ix tl k.toNat) := fun h => nthD (by omega)
  repeat' (first
    | (refine gS ?_; (first
        | (refine gGuard ?_; (first
            | (refine S_on rfl ?_)
            | (refine S_off rfl rfl rfl ?_)
            | (refine S_offn rfl rfl ?_)
            | (refine S_offU rfl rfl ?_)
            | (refine S_offUn rfl ?_)
            | (refine S_gsplit rfl ?_ ?_ <;> (intro hb; (try simp only [decide_eq_true_eq] at hb); (try simp only [decide_eq_false_iff_not] at hb); (try simp only [Bool.not_eq_true'] at hb); (try simp only [Bool.not_eq_false'] at hb); (try (exfalso; first | contradiction | omega)); (try (have hx1 := nthD (l := tl) (k := i) hb)); (try (have hok1 := hok hb)); (try (have hbd1 := hbd hb)); (try (have hkx1 := hkx hb))))))
        | (refine S_move rfl rfl ?_)
        | (refine S_assign rfl rfl ?_)
        | (apply F_field rfl rfl; (first | exact T.fl55_0 | exact T.fl55_1))
        | (apply F_fieldS rfl rfl; (first | exact T.fl55_0 | exact T.fl55_1); (focus (first | exact len_nil | (apply len_given; assumption) | (apply len_row; (focus ((repeat (first | exact List.Mem.head _ | refine List.Mem.tail _ ?_)); done))) | (refine len_isN ?_; assumption))); (focus omega))
        | (apply F_idx rfl rfl rfl; (first | exact T.sl28 | exact T.sl46); (focus rfl); (focus (first | exact len_nil | (apply len_given; assumption) | (apply len_row; (focus ((repeat (first | exact List.Mem.head _ | refine List.Mem.tail _ ?_)); done))) | (refine len_isN ?_; assumption))); (focus omega))
        | (apply F_idxZ rfl rfl rfl; (first | exact T.sl28 | exact T.sl46); (focus omega); (focus (first | exact len_nil | (apply len_given; assumption) | (apply len_row; (focus ((repeat (first | exact List.Mem.head _ | refine List.Mem.tail _ ?_)); done))) | (refine len_isN ?_; assumption))); (focus omega))
        | (refine gLoad ?_; (first
            | (apply F_load1 rfl rfl; (focus ((repeat (first | exact List.Mem.head _ | refine List.Mem.tail _ ?_)); done)); exact T.sc3; rfl; (focus (first | exact free0 | exact free1)))
            | (apply F_loadS1 rfl rfl; exact T.sc3; (focus (first | exact rd_nil | (apply rd_given; (focus assumption); (focus (first | exact freeG0 | exact freeG1))) | (apply rd_row; (focus ((repeat (first | exact List.Mem.head _ | refine List.Mem.tail _ ?_)); done)); (focus (first | exact freeR0 | exact freeR1))))); (focus (first | (apply at_cell; (focus (apply at_flat; (focus (intro _; rfl)); (focus assumption))); rfl) | (apply at_cell0; (focus (apply at_flat; (focus (intro _; rfl)); (focus assumption))); rfl) | (apply at_cell; (focus (apply at_mid0; (focus assumption))); rfl) | (apply at_cell0; (focus (apply at_mid0; (focus assumption))); rfl) | rfl)))
            | ((refine S_shrP rfl rfl (by omega) (by omega) (by omega) rfl ?_))))
        | (refine gCall ?_; (first
            | (apply F_len rfl rfl rfl; (focus exact ⟨_, _, by (first | exact T.sl28 | exact T.sl46)⟩); (focus (first | exact len_nil | (apply len_given; assumption) | (apply len_row; (focus ((repeat (first | exact List.Mem.head _ | refine List.Mem.tail _ ?_)); done))) | (refine len_isN ?_; assumption))))
            | ((refine S_shrP rfl rfl (by omega) (by omega) (by omega) rfl ?_))))
        | (refine gBin ?_; (first
            | ((refine S_shrP rfl rfl (by omega) (by omega) (by omega) rfl ?_))
            | (refine S_lss rfl rfl rfl ?_)
            | (refine S_gtr rfl rfl rfl ?_)
            | (refine S_geq rfl rfl rfl ?_)
            | (refine S_eql rfl rfl rfl ?_)
            | (refine S_neq rfl rfl rfl ?_)
            | (refine S_add rfl rfl ?_ rfl ?_; (focus (unfold rng; omega)))
            | (refine S_sub rfl rfl ?_ rfl ?_; (focus (unfold rng; omega)))
            | (refine S_eqlB Try.underlying4 rfl rfl rfl ?_)
            | (refine S_neqB Try.underlying4 rfl rfl rfl ?_)))
        | (refine gPick ?_; (first
            | (refine S_pickT rfl rfl rfl ?_)
            | (refine S_pickF rfl rfl rfl ?_)))
        | (refine S_not rfl rfl ?_)
        | (refine S_extract rfl rfl rfl ?_)
        | (refine S_done ?_)
        | ((refine S_shrP rfl rfl (by omega) (by omega) (by omega) rfl ?_))))
    | (refine gC ?_; (first
        | (refine C_seq ?_)
        | (refine gReg ?_; (first
            | (refine gReg (i := 0) ?_; refine C_plain [(0, 0)] (by kernel_rfl) (s := [⟨0, none, _, _, _⟩]) rfl ?_)
            | (refine gReg (i := 1) ?_; refine C_plain [(0, 0), (1, 0), (2, 0)] (by kernel_rfl) (s := [⟨0, none, _, _, _⟩, ⟨0, none, _, _, _⟩, ⟨0, none, _, _, _⟩]) rfl ?_)
            | (refine gReg (i := 2) ?_; refine C_plain [(0, 0)] (by kernel_rfl) (s := [⟨0, none, _, _, _⟩]) rfl ?_)
            | (refine gReg (i := 3) ?_; refine C_plain [(0, 0), (1, 2), (2, 0), (3, 0), (4, 0), (5, 0), (6, 0)] (by kernel_rfl) (s := [⟨0, none, _, _, _⟩, ⟨2, none, _, _, _⟩, ⟨0, none, _, _, _⟩, ⟨0, none, _, _, _⟩, ⟨0, none, _, _, _⟩, ⟨0, none, _, _, _⟩, ⟨0, none, _, _, _⟩]) rfl ?_)
            | (refine gReg (i := 4) ?_; refine C_plain [(0, 0), (1, 0), (2, 2), (3, 0)] (by kernel_rfl) (s := [⟨0, none, _, _, _⟩, ⟨0, none, _, _, _⟩, ⟨2, none, _, _, _⟩, ⟨0, none, _, _, _⟩]) rfl ?_)
            | (refine gReg (i := 5) ?_; refine C_plain [(0, 0), (1, 0), (2, 0), (3, 2), (4, 0), (5, 0), (6, 0), (7, 0), (8, 0), (9, 0), (10, 0)] (by kernel_rfl) (s := [⟨0, none, _, _, _⟩, ⟨0, none, _, _, _⟩, ⟨0, none, _, _, _⟩, ⟨2, none, _, _, _⟩, ⟨0, none, _, _, _⟩, ⟨0, none, _, _, _⟩, ⟨0, some (24, false), _, _, _⟩, ⟨0, some (24, false), _, _, _⟩, ⟨0, some (24, false), _, _, _⟩, ⟨0, some (24, false), _, _, _⟩, ⟨0, none, _, _, _⟩]) rfl ?_)
            | (refine gReg (i := 6) ?_; refine C_plain [(0, 0)] (by kernel_rfl) (s := [⟨0, none, _, _, _⟩]) rfl ?_)
            | (refine gReg (i := 7) ?_; refine C_plain [(0, 0), (1, 2), (2, 0), (3, 0), (4, 0), (5, 0), (6, 0), (7, 0), (8, 0), (9, 0), (10, 0)] (by kernel_rfl) (s := [⟨0, none, _, _, _⟩, ⟨2, none, _, _, _⟩, ⟨0, none, _, _, _⟩, ⟨0, none, _, _, _⟩, ⟨0, some (33, false), _, _, _⟩, ⟨0, some (33, false), _, _, _⟩, ⟨0, none, _, _, _⟩, ⟨0, none, _, _, _⟩, ⟨0, some (37, false), _, _, _⟩, ⟨0, some (37, false), _, _, _⟩, ⟨0, none, _, _, _⟩]) rfl ?_)
            | (refine gReg (i := 8) ?_; refine C_plain [(0, 0), (1, 0), (2, 0)] (by kernel_rfl) (s := [⟨0, none, _, _, _⟩, ⟨0, none, _, _, _⟩, ⟨0, none, _, _, _⟩]) rfl ?_)
            | (refine gReg (i := 9) ?_; refine C_plain [(0, 0)] (by kernel_rfl) (s := [⟨0, none, _, _, _⟩]) rfl ?_)
            | (refine gReg (i := 10) ?_; refine C_plain [(0, 0), (1, 0), (2, 0), (3, 0)] (by kernel_rfl) (s := [⟨0, none, _, _, _⟩, ⟨0, none, _, _, _⟩, ⟨0, none, _, _, _⟩, ⟨0, none, _, _, _⟩]) rfl ?_)
            | (refine gReg (i := 12) ?_; refine C_drawn [(0, 0), (1, 0), (2, 0), (3, 0), (4, 0), (5, 0), (6, 0), (7, 0), (8, 0), (9, 0), (10, 0), (11, 0), (12, 0), (13, 0), (14, 0), (15, 0), (16, 0), (17, 0), (18, 0), (19, 0), (20, 0), (21, 0)] [] T.mixed (by kernel_rfl) (s := [⟨0, none, _, _, _⟩, ⟨0, none, _, _, _⟩, ⟨0, none, _, _, _⟩, ⟨0, none, _, _, _⟩, ⟨0, none, _, _, _⟩, ⟨0, none, _, _, _⟩, ⟨0, none, _, _, _⟩, ⟨0, none, _, _, _⟩, ⟨0, none, _, _, _⟩, ⟨0, none, _, _, _⟩, ⟨0, none, _, _, _⟩, ⟨0, none, _, _, _⟩, ⟨0, none, _, _, _⟩, ⟨0, none, _, _, _⟩, ⟨0, none, _, _, _⟩, ⟨0, none, _, _, _⟩, ⟨0, none, _, _, _⟩, ⟨0, none, _, _, _⟩, ⟨0, none, _, _, _⟩, ⟨0, none, _, _, _⟩, ⟨0, none, _, _, _⟩, ⟨0, none, _, _, _⟩]) rfl ?_)
            | (refine gReg (i := 13) ?_; refine C_drawn [(0, 0), (1, 0), (2, 0), (3, 0), (4, 0), (5, 0), (6, 0), (7, 0), (8, 0), (9, 0), (10, 0), (11, 0), (12, 0), (13, 0), (14, 0), (15, 0), (16, 0), (17, 0), (18, 0), (19, 0), (20, 0), (21, 0), (22, 0), (23, 0), (24, 0), (25, 0), (26, 0)] [] T.mixed (by kernel_rfl) (s := [⟨0, none, _, _, _⟩, ⟨0, none, _, _, _⟩, ⟨0, some (71, true), _, _, _⟩, ⟨0, some (71, true), _, _, _⟩, ⟨0, some (71, true), _, _, _⟩, ⟨0, some (74, false), _, _, _⟩, ⟨0, some (74, false), _, _, _⟩, ⟨0, some (74, false), _, _, _⟩, ⟨0, some (74, false), _, _, _⟩, ⟨0, some (74, false), _, _, _⟩, ⟨0, some (74, false), _, _, _⟩, ⟨0, some (74, false), _, _, _⟩, ⟨0, some (74, false), _, _, _⟩, ⟨0, some (74, false), _, _, _⟩, ⟨0, some (74, false), _, _, _⟩, ⟨0, some (74, false), _, _, _⟩, ⟨0, some (71, true), _, _, _⟩, ⟨0, none, _, _, _⟩, ⟨0, none, _, _, _⟩, ⟨0, some (88, false), _, _, _⟩, ⟨0, some (88, false), _, _, _⟩, ⟨0, some (88, false), _, _, _⟩, ⟨0, some (91, true), _, _, _⟩, ⟨0, some (91, true), _, _, _⟩, ⟨0, some (91, true), _, _, _⟩, ⟨0, some (88, false), _, _, _⟩, ⟨0, none, _, _, _⟩]) rfl ?_)
            | (refine gReg (i := 14) ?_; refine C_plain [(0, 0)] (by kernel_rfl) (s := [⟨0, none, _, _, _⟩]) rfl ?_)
            | (refine gReg (i := 11) ?_; refine C_plain [(0, 0), (1, 0), (2, 0)] (by kernel_rfl) (s := [⟨0, none, _, _, _⟩, ⟨0, none, _, _, _⟩, ⟨0, none, _, _, _⟩]) rfl ?_)
            | (refine gReg (i := 15) ?_; refine C_plain [(0, 0)] (by kernel_rfl) (s := [⟨0, none, _, _, _⟩]) rfl ?_)))
        | (refine C_true rfl ?_)
        | (refine C_false rfl ?_)
        | (refine C_split rfl ?_ ?_ <;> (intro hb; (try simp only [decide_eq_true_eq] at hb); (try simp only [decide_eq_false_iff_not] at hb); (try simp only [Bool.not_eq_true'] at hb); (try simp only [Bool.not_eq_false'] at hb); (try (exfalso; first | contradiction | omega)); (try (have hx1 := nthD (l := tl) (k := i) hb)); (try (have hok1 := hok hb)); (try (have hbd1 := hbd hb)); (try (have hkx1 := hkx hb))))
        | (refine C_skip ?_)
        | (refine C_exit ?_)
        | (refine C_ret ?_)
        | (refine C_block ?_)))
    | (refine gE ?_; (first
        | (refine E_then ?_)
        | (refine E_thenX ?_)
        | (refine E_thenR ?_)
        | (refine E_block ?_)
        | (refine E_blockY ?_)
        | (refine E_blockR ?_)
        | (refine E_calm ?_)
        | (refine E_blockX rfl ?_)
        | (apply E_ret1 rfl; (first | exact Res.tmp rfl | (apply R_cellAll rfl; (focus ((repeat (first | exact List.Mem.head _ | refine List.Mem.tail _ ?_)); done)); fail) | (apply R_cell1 rfl; (focus ((repeat (first | exact List.Mem.head _ | refine List.Mem.tail _ ?_)); done)); exact T.sc3)))
        | (apply E_ret2 rfl; (first | exact Res.tmp rfl | (apply R_cellAll rfl; (focus ((repeat (first | exact List.Mem.head _ | refine List.Mem.tail _ ?_)); done)); fail) | (apply R_cell1 rfl; (focus ((repeat (first | exact List.Mem.head _ | refine List.Mem.tail _ ?_)); done)); exact T.sc3)); (first | exact Res.tmp rfl | (apply R_cellAll rfl; (focus ((repeat (first | exact List.Mem.head _ | refine List.Mem.tail _ ?_)); done)); fail) | (apply R_cell1 rfl; (focus ((repeat (first | exact List.Mem.head _ | refine List.Mem.tail _ ?_)); done)); exact T.sc3)))
        | (apply E_ret3 rfl; (first | exact Res.tmp rfl | (apply R_cellAll rfl; (focus ((repeat (first | exact List.Mem.head _ | refine List.Mem.tail _ ?_)); done)); fail) | (apply R_cell1 rfl; (focus ((repeat (first | exact List.Mem.head _ | refine List.Mem.tail _ ?_)); done)); exact T.sc3)); (first | exact Res.tmp rfl | (apply R_cellAll rfl; (focus ((repeat (first | exact List.Mem.head _ | refine List.Mem.tail _ ?_)); done)); fail) | (apply R_cell1 rfl; (focus ((repeat (first | exact List.Mem.head _ | refine List.Mem.tail _ ?_)); done)); exact T.sc3)); (first | exact Res.tmp rfl | (apply R_cellAll rfl; (focus ((repeat (first | exact List.Mem.head _ | refine List.Mem.tail _ ?_)); done)); fail) | (apply R_cell1 rfl; (focus ((repeat (first | exact List.Mem.head _ | refine List.Mem.tail _ ?_)); done)); exact T.sc3))))))
  · exfalso
    have g := (has_shr hok1).1 (by assumption)
    rcases hL with ⟨_, e2⟩ | ⟨e1, _⟩
    · rw [e2 i (by omega)] at g; cases g
    · omega
  · exfalso
    have g := (has_shr hok1).1 (by assumption)
    rcases hL with ⟨e1, _⟩ | ⟨_, _, _, e4⟩
    · omega
    · have := e4 i (by omega) g; omega
  · exfalso
    have g : a / 2 ^ (16 - (ix tl i).2.1).toNat = (ix tl i).1 / 2 ^ (16 - (ix tl i).2.1).toNat := by assumption
    have g2 : decide (a / 2 ^ (16 - (ix tl i).2.1).toNat = (ix tl i).1 / 2 ^ (16 - (ix tl i).2.1).toNat) = false := by assumption
    rw [decide_eq_true g] at g2
    cases g2
  · exact E_round (α := Nat) (i + 1) (by omega) (by omega) ⟨rfl, rfl, rfl, rfl, trivial⟩ (List.Sublist.refl _)
  · exact E_round (α := Nat) (i + 1) (by omega) (by omega) ⟨rfl, rfl, rfl, rfl, trivial⟩ (List.Sublist.refl _)
  · exfalso
    have g : ¬ (a / 2 ^ (16 - (ix tl i).2.1).toNat = (ix tl i).1 / 2 ^ (16 - (ix tl i).2.1).toNat) := by assumption
    have hik : (i : Int) = k := by assumption
    rcases hL with ⟨e1, _⟩ | ⟨_, _, e3, _⟩
    · omega
    · rw [← hik] at e3
      rw [show ((i : Int)).toNat = i by omega] at e3
      exact g ((has_shr hok1).2 e3)
  · exact E_round (α := Nat) (i + 1) (by omega) (by omega) ⟨rfl, rfl, rfl, rfl, trivial⟩ (List.Sublist.refl _)
  · exact E_round (α := Nat) (i + 1) (by omega) (by omega) ⟨rfl, rfl, rfl, rfl, trivial⟩ (List.Sublist.refl _)
  · exact retN rfl
set_option maxRecDepth 100000 in
theorem lifted (os : Os) (started : os.Started) (H : Type) (enc : TypeId × Value → H) :
    ReturnsInHanded {} Try.checked os 10 .any (Rows.fnFibFindSpec.pre6 enc Try.prog Try.f10 Rows.fnFibFindRow.domain false) (Rows.fnFibFindSpec.post enc Try.prog Try.f10 false true false false) := by
  refine returnsInHanded_of_change (C := Try.checked) own started (by kernel_rfl) Try.func10
    (ChangeSpec.witness6 (enc := enc) (C := Try.checked) false ⟨#[], #[.slice none 0 0], []⟩ 8 (by kernel_rfl) (by kernel_rfl) (by kernel_rfl) (by kernel_rfl)) ?_
  intro W base args ds gs before hval0 hW hcnd _
  have hval : ∀ (j : Nat) t v, Try.f10.params[j]? = some t → args[j]? = some v → Value.okWide Try.prog W .any base t v := hval0
  have hW' := hW
  obtain ⟨p, q, hA0, hV, rfl, hfz, hnd⟩ := hW
  have hA : DataW.TrodAll enc Try.prog W 0 (fun _ => true) true Try.f10.params.toList args.toList ds p := hA0
  rw [Try.params10] at hA hval
  obtain ⟨v0, vs0, d0, ds0, p0, q0, hargs, rfl, rfl, h0, r0⟩ := trodAll_cons hA
  obtain ⟨rfl, rfl, rfl⟩ := trodAll_nil r0
  obtain rfl : args = #[v0] := by cases args; simp_all
  obtain ⟨rfl, rfl⟩ := trodVars_none hV
  have k0 := h0
  have lt0 : ∀ x ∈ p0, x.block < W.heap.size := by obtain ⟨m, hm⟩ := k0; exact DataW.trod_lt m _ _ _ hm
  obtain ⟨y0, rfl, w0⟩ := par_Suint8 (hval 0 28 v0 rfl rfl) h0
  clear hA0 hval0
  refine (walk W y0 w0).mono fun e W' ⟨he, bel⟩ => ?_
  subst he
  exact ⟨_, rfl, _, _, _, [], _, [], hW', trodAll_mk1 (shut_bool Try.underlying4 _), (trodAll_cons_mk (Below.trod laidOut (by kernel_rfl) (of_decide_eq_true (by kernel_rfl)) k0 bel lt0) trodAll_mk0), rfl, bel.frame _, fun h => by cases h⟩
theorem over : Rows.fnFibFindRow.holds Try.pinned (OpenSpec.ofChange Rows.fnFibFindSpec) :=
  OpenClaim.holds_of_wide 10 Try.f10 rfl rfl rfl rfl rfl rfl rfl ⟨rfl, rfl, rfl, rfl, rfl⟩ rfl rfl rfl rfl rfl (by kernel_rfl) Try.func10 (by kernel_rfl)
    (of_decide_eq_true (by kernel_rfl)) (by unfold Func.isWrapper; rw [if_neg (of_decide_eq_false (by kernel_rfl))]; exact ⟨rfl, rfl⟩)
    (fun os started H enc _ => lifted os started H enc)
theorem proved : Rows.FnFibFindSaid := over
#print axioms proved
end Go.Proofs.Ytencglgaldaaiaa.fnFibFind

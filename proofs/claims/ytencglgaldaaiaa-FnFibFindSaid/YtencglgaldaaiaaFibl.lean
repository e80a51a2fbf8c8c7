/- Drawn tables of routes. -/
import Derived.Test.YtencglgaldaaiaaFibk
set_option linter.unusedSimpArgs false
set_option linter.unusedVariables false
namespace Go.Proofs.Ytencglgaldaaiaa
open Go Go.RowKit
attribute [local irreducible] Calls GoS GoC GoE GoT Mid IsEq IsFl IsSc IsRw IsSl IsEl IsSt IsFs sp Mem Rd LenOf szR
attribute [local irreducible] size
/-- a drawn table: small numbers, and its hops lie in what is owned -/
def TabIn (l : List MFibRoute) (base : List Row) : Prop := ∀ y ∈ l, RtOk y ∧ y.2.2.1.oneCell' = true ∧ ∀ r ∈ rwFibRoute y, r ∈ base
theorem TabIn.nil (base : List Row) : TabIn [] base := fun y hy => by cases hy
theorem TabIn.more {l : List MFibRoute} {base b2 : List Row} (h : TabIn l base) : TabIn l (b2 ++ base) := fun y hy => ⟨(h y hy).1, (h y hy).2.1, fun r hr => List.mem_append_right _ ((h y hy).2.2 r hr)⟩
theorem TabIn.put {l z : List MFibRoute} {x : MFibRoute} {base b2 : List Row} (h : TabIn l base) (hx : RtOk x) (h1 : x.2.2.1.oneCell' = true) (hr : ∀ r ∈ rwFibRoute x, r ∈ b2) (hz : z = l ∨ ∃ k, z = l.take k ++ [x] ++ l.drop k) : TabIn z (b2 ++ base) := by
  rcases hz with rfl | ⟨k, rfl⟩
  · exact h.more
  · intro y hy
    rcases List.mem_append.1 hy with hy | hy
    · rcases List.mem_append.1 hy with hy | hy
      · exact h.more y (List.mem_of_mem_take hy)
      · rw [List.mem_singleton] at hy
        rw [hy]
        exact ⟨hx, h1, fun r h2 => List.mem_append_left _ (hr r h2)⟩
    · exact h.more y (List.mem_of_mem_drop hy)
theorem put_len {l z : List MFibRoute} {x : MFibRoute} (hz : z = l ∨ ∃ k, z = l.take k ++ [x] ++ l.drop k) : z.length ≤ l.length + 1 := by
  rcases hz with rfl | ⟨k, rfl⟩
  · omega
  · simp only [List.length_append, List.length_cons, List.length_nil, List.length_take, List.length_drop]; omega
set_option maxHeartbeats 2000000 in
theorem table_c {w0 : World} (kr : Nat) (v : Value) (l : List Int) (p : Int) (hc : Code w0 v l) (hp : 0 ≤ p ∧ p ≤ 1099511500000) (R : List Blk) (w : World) (hs : St w0 w ([.blk kr 100 (rdr v p)] ++ R)) : Calls Try.prog 57 #[.pointer (some ⟨kr, 0, none⟩)] w
    (RetS w0 R (fun z : Value × List MFibRoute × List Row × Int => z.2.1.length ≤ 16 ∧ TabIn z.2.1 z.2.2.1 ∧ p ≤ z.2.2.2 ∧ z.2.2.2 ≤ p + 2000) (fun z => z.1) (fun z => [.blk kr 100 (rdr v z.2.2.2), .row z.1 55 3 z.2.1.length (z.2.1.flatMap clFibRoute), .many z.2.2.1])) := by
  have hs' : St w0 w (.blk kr 100 (rdr v p) :: R) := hs
  refine enterS (n := 44) (E := [(0, _)]) Try.func57 rfl rfl rfl rfl hs' ?_
  repeat' (first
    | (refine gS ?_; (first
        | (refine gGuard ?_; (first
            | (refine S_on rfl ?_)
            | (refine S_off rfl rfl rfl ?_)
            | (refine S_offn rfl rfl ?_)
            | (refine S_offU rfl rfl ?_)
            | (refine S_offUn rfl ?_)
            | (refine S_gsplit rfl ?_ ?_ <;> (intro hb; (try simp only [decide_eq_true_eq] at hb); (try simp only [decide_eq_false_iff_not] at hb); (try simp only [Bool.not_eq_true'] at hb); (try simp only [Bool.not_eq_false'] at hb); (try (exfalso; first | contradiction | omega))))))
        | (refine S_move rfl rfl ?_)
        | (refine S_assign rfl rfl ?_)
        | (apply F_bs0 rfl rfl; exact T.el46; rfl; intro sv; (try (refine S_fact (row_one (v := sv) (by (focus ((repeat (first | exact List.Mem.head _ | refine List.Mem.tail _ ?_)); done)))) (fun hone => ?_))))
        | (apply F_bs rfl rfl; exact T.el46; rfl; rfl; rfl; rfl; (focus ((repeat (first | exact Dense.nil | (apply Dense.cons; rfl; rfl))); done)); intro sv; (try (refine S_fact (row_one (v := sv) (by (focus ((repeat (first | exact List.Mem.head _ | refine List.Mem.tail _ ?_)); done)))) (fun hone => ?_))))
        | (refine gCall ?_; (first
            | (apply S_callB (f := 40) (b := kr) (hp := T.pf40) (hv := rfl) (hd := rfl); (case hpick => ((repeat (first | exact Pick.here | exact Pick.last | apply Pick.there | apply Pick.over)); done)); (case hc => exact pick_c kr v l _ _ hc (by omega)); (case hnb => (intro _ _; exact ⟨_, List.Mem.head _, rfl⟩)); (case hk => (first | exact okst2 | exact okst1 | exact okst1')); intro zz hzz; simp only [List.cons_append, List.nil_append]; revert hzz; revert zz; intro y hy)
            | (apply F_len rfl rfl rfl; (focus exact ⟨_, _, by exact T.sl46⟩); (focus (first | exact len_nil | (apply len_given; assumption) | (apply len_row; (focus ((repeat (first | exact List.Mem.head _ | refine List.Mem.tail _ ?_)); done))) | (refine len_isN ?_; assumption))))))
        | (refine gBin ?_; (first
            | (refine S_lss rfl rfl rfl ?_)
            | (refine S_gtr rfl rfl rfl ?_)
            | (refine S_eql rfl rfl rfl ?_)
            | (refine S_add rfl rfl ?_ rfl ?_; (focus (unfold rng; omega)))
            | (refine S_sub rfl rfl ?_ rfl ?_; (focus (unfold rng; omega)))
            | (refine S_mul rfl rfl ?_ rfl ?_; (focus (unfold rng; omega)))
            | (refine S_eqlB Try.underlying4 rfl rfl rfl ?_)))
        | (refine gPick ?_; (first
            | (refine S_pickT rfl rfl rfl ?_)
            | (refine S_pickF rfl rfl rfl ?_)))
        | (apply S_alloc rfl (hd := rfl); exact T.zc55; intro kb)
        | (apply F_build2 rfl (hd := rfl); exact T.st55; (focus ((repeat (first | exact BuildR.nil | (apply BuildR.cons; (first | exact T.fs55_0 | exact T.fs55_1 | exact T.fs55_2); rfl; rfl; (focus ((repeat (first | exact SetSeg.nil | apply SetSeg.here | apply SetSeg.there)); done))) | (apply BuildR.cons1; (first | exact T.fs55_0 | exact T.fs55_1 | exact T.fs55_2); (focus assumption); (focus ((repeat (first | exact SetSeg.nil | apply SetSeg.here | apply SetSeg.there)); done))))); done)))
        | (refine S_done ?_)))
    | (refine gC ?_; (first
        | (refine gSeqCond (i := 2) ?_; refine C_join (α := Value × List MFibRoute × List Row × Int) (fun s => [(3, s.1), (0, .pointer (some ⟨kr, 0, none⟩))]) (fun s => .row s.1 55 3 s.2.1.length (s.2.1.flatMap clFibRoute) :: .many s.2.2.1 :: .blk kr 100 (rdr v s.2.2.2) :: R) (fun s => s.2.1.length ≤ 16 ∧ TabIn s.2.1 s.2.2.1 ∧ p ≤ s.2.2.2 ∧ s.2.2.2 ≤ p + 1000) ?_ ?_)
        | (refine C_seq ?_)
        | (refine gReg ?_; (first
            | (refine gReg (i := 0) ?_; refine C_plain [(0, 0)] (by kernel_rfl) (s := [⟨0, none, _, _, _⟩]) rfl ?_)
            | (refine gReg (i := 1) ?_; refine C_plain [(0, 2), (1, 0)] (by kernel_rfl) (s := [⟨2, none, _, _, _⟩, ⟨0, none, _, _, _⟩]) rfl ?_)
            | (refine gReg (i := 2) ?_; refine C_plain [(0, 0), (1, 2), (2, 0)] (by kernel_rfl) (s := [⟨0, none, _, _, _⟩, ⟨2, none, _, _, _⟩, ⟨0, none, _, _, _⟩]) rfl ?_)
            | (refine gReg (i := 3) ?_; refine C_plain [(0, 0)] (by kernel_rfl) (s := [⟨0, none, _, _, _⟩]) rfl ?_)
            | (refine gReg (i := 4) ?_; refine C_plain [(0, 0), (1, 0)] (by kernel_rfl) (s := [⟨0, none, _, _, _⟩, ⟨0, none, _, _, _⟩]) rfl ?_)
            | (refine gReg (i := 6) ?_; refine C_plain [(0, 0), (1, 0), (2, 0), (3, 0), (4, 2), (5, 0), (6, 0), (7, 2), (8, 0), (9, 0), (10, 0), (11, 2), (12, 0), (13, 2), (14, 0)] (by kernel_rfl) (s := [⟨0, none, _, _, _⟩, ⟨0, none, _, _, _⟩, ⟨0, none, _, _, _⟩, ⟨0, none, _, _, _⟩, ⟨2, none, _, _, _⟩, ⟨0, none, _, _, _⟩, ⟨0, none, _, _, _⟩, ⟨2, none, _, _, _⟩, ⟨0, none, _, _, _⟩, ⟨0, none, _, _, _⟩, ⟨0, none, _, _, _⟩, ⟨2, none, _, _, _⟩, ⟨0, none, _, _, _⟩, ⟨2, none, _, _, _⟩, ⟨0, none, _, _, _⟩]) rfl ?_)
            | (refine gReg (i := 5) ?_; refine C_plain [(0, 0), (1, 0), (2, 0)] (by kernel_rfl) (s := [⟨0, none, _, _, _⟩, ⟨0, none, _, _, _⟩, ⟨0, none, _, _, _⟩]) rfl ?_)
            | (refine gReg (i := 7) ?_; refine C_plain [(0, 0), (1, 2), (2, 0)] (by kernel_rfl) (s := [⟨0, none, _, _, _⟩, ⟨2, none, _, _, _⟩, ⟨0, none, _, _, _⟩]) rfl ?_)
            | (refine gReg (i := 8) ?_; refine C_plain [(0, 0), (1, 0), (2, 0), (3, 0), (4, 0), (5, 0), (6, 0)] (by kernel_rfl) (s := [⟨0, none, _, _, _⟩, ⟨0, none, _, _, _⟩, ⟨0, none, _, _, _⟩, ⟨0, some (32, true), _, _, _⟩, ⟨0, some (32, true), _, _, _⟩, ⟨0, some (32, true), _, _, _⟩, ⟨0, none, _, _, _⟩]) rfl ?_)
            | (refine gReg (i := 10) ?_; refine C_plain [(0, 0), (1, 0), (2, 2), (3, 2), (4, 0)] (by kernel_rfl) (s := [⟨0, none, _, _, _⟩, ⟨0, none, _, _, _⟩, ⟨2, none, _, _, _⟩, ⟨2, none, _, _, _⟩, ⟨0, none, _, _, _⟩]) rfl ?_)
            | (refine gReg (i := 9) ?_; refine C_plain [(0, 0), (1, 0), (2, 0)] (by kernel_rfl) (s := [⟨0, none, _, _, _⟩, ⟨0, none, _, _, _⟩, ⟨0, none, _, _, _⟩]) rfl ?_)
            | (refine gReg (i := 11) ?_; refine C_plain [(0, 0), (1, 0)] (by kernel_rfl) (s := [⟨0, none, _, _, _⟩, ⟨0, none, _, _, _⟩]) rfl ?_)))
        | (refine C_true rfl ?_)
        | (refine C_false rfl ?_)
        | (refine C_split rfl ?_ ?_ <;> (intro hb; (try simp only [decide_eq_true_eq] at hb); (try simp only [decide_eq_false_iff_not] at hb); (try simp only [Bool.not_eq_true'] at hb); (try simp only [Bool.not_eq_false'] at hb); (try (exfalso; first | contradiction | omega))))
        | (refine C_skip ?_)
        | (refine C_exit ?_)
        | (refine C_ret ?_)
        | (refine C_block ?_)))
    | (refine gE ?_; (first
        | (refine E_then ?_)
        | (refine E_thenX ?_)
        | (refine E_thenR ?_)
        | (refine E_block ?_)
        | (refine E_blockY ?_)
        | (refine E_blockR ?_)
        | (refine E_calm ?_)
        | (refine E_blockX rfl ?_)
        | (apply E_ret1 rfl; (first | exact Res.tmp rfl | (apply R_cellAll rfl; (focus ((repeat (first | exact List.Mem.head _ | refine List.Mem.tail _ ?_)); done)); fail) | (apply R_cell1 rfl; (focus ((repeat (first | exact List.Mem.head _ | refine List.Mem.tail _ ?_)); done)); fail)))
        | (apply E_ret2 rfl; (first | exact Res.tmp rfl | (apply R_cellAll rfl; (focus ((repeat (first | exact List.Mem.head _ | refine List.Mem.tail _ ?_)); done)); fail) | (apply R_cell1 rfl; (focus ((repeat (first | exact List.Mem.head _ | refine List.Mem.tail _ ?_)); done)); fail)); (first | exact Res.tmp rfl | (apply R_cellAll rfl; (focus ((repeat (first | exact List.Mem.head _ | refine List.Mem.tail _ ?_)); done)); fail) | (apply R_cell1 rfl; (focus ((repeat (first | exact List.Mem.head _ | refine List.Mem.tail _ ?_)); done)); fail)))
        | (apply E_ret3 rfl; (first | exact Res.tmp rfl | (apply R_cellAll rfl; (focus ((repeat (first | exact List.Mem.head _ | refine List.Mem.tail _ ?_)); done)); fail) | (apply R_cell1 rfl; (focus ((repeat (first | exact List.Mem.head _ | refine List.Mem.tail _ ?_)); done)); fail)); (first | exact Res.tmp rfl | (apply R_cellAll rfl; (focus ((repeat (first | exact List.Mem.head _ | refine List.Mem.tail _ ?_)); done)); fail) | (apply R_cell1 rfl; (focus ((repeat (first | exact List.Mem.head _ | refine List.Mem.tail _ ?_)); done)); fail)); (first | exact Res.tmp rfl | (apply R_cellAll rfl; (focus ((repeat (first | exact List.Mem.head _ | refine List.Mem.tail _ ?_)); done)); fail) | (apply R_cell1 rfl; (focus ((repeat (first | exact List.Mem.head _ | refine List.Mem.tail _ ?_)); done)); fail))))))
  · refine C_gnil ?_
    refine C_ent (.row sv 55 3 0 [] :: .many [] :: .blk kr 100 (rdr v (p + 1)) :: R) (by (focus (apply Ent.flat; (simp only [List.length_append, List.length_cons, List.length_nil, Nat.zero_add, flat_many, flat_row, flat_blk, flat_append, flat_nil, List.map_append, List.map_cons, List.map_nil, List.flatMap_append, List.flatMap_cons, List.flatMap_nil, List.append_assoc, List.append_nil, List.nil_append, List.cons_append, Row.blk_mk, rwSuint8, rwSFibHop, rwFibRoute, rwSFibRoute]); ((repeat (first | exact Pull.nil | (apply Pull.app; (focus ((repeat (first | exact PickA.here | exact PickA.all | apply PickA.there | apply PickA.over)); done))) | (apply Pull.cons; (focus ((repeat (first | exact Pick.here | exact Pick.last | apply Pick.there | apply Pick.over)); done))) | (apply Pull.atom; (focus ((repeat (first | exact PickA.here | exact PickA.all | apply PickA.there | apply PickA.over)); done))))); done)))) ?_
    refine C_loop (α := Nat × Value × List MFibRoute × List Row × Int) (fun s => [(4, .int .i64 (s.1 : Int)), (3, s.2.1), (0, .pointer (some ⟨kr, 0, none⟩))]) (fun s => .row s.2.1 55 3 s.2.2.1.length (s.2.2.1.flatMap clFibRoute) :: .many s.2.2.2.1 :: .blk kr 100 (rdr v s.2.2.2.2) :: R)
      (fun s => s.1 ≤ 16 ∧ s.2.2.1.length ≤ s.1 ∧ TabIn s.2.2.1 s.2.2.2.1 ∧ p ≤ s.2.2.2.2 ∧ s.2.2.2.2 ≤ p + 1 + 40 * (s.1 : Int)) (fun s => 16 - s.1) (0, sv, [], [], p + 1) ⟨by dsimp only; omega, by dsimp only [List.length_nil]; omega, TabIn.nil _, by dsimp only; omega, by dsimp only; omega⟩ ⟨rfl, rfl, rfl, trivial⟩ (List.Sublist.refl _) ?_
    clear hs hs'
    rintro ⟨i, sv, tl, base, q⟩ ⟨h1, h2, h3, h4, h5⟩
    dsimp only at h1 h2 h3 h4 h5 ⊢
    repeat' (first
      | (refine gS ?_; (first
          | (refine gGuard ?_; (first
              | (refine S_on rfl ?_)
              | (refine S_off rfl rfl rfl ?_)
              | (refine S_offn rfl rfl ?_)
              | (refine S_offU rfl rfl ?_)
              | (refine S_offUn rfl ?_)
              | (refine S_gsplit rfl ?_ ?_ <;> (intro hb; (try simp only [decide_eq_true_eq] at hb); (try simp only [decide_eq_false_iff_not] at hb); (try simp only [Bool.not_eq_true'] at hb); (try simp only [Bool.not_eq_false'] at hb); (try (exfalso; first | contradiction | omega))))))
          | (refine S_move rfl rfl ?_)
          | (refine S_assign rfl rfl ?_)
          | (apply F_bs0 rfl rfl; exact T.el46; rfl; intro sv; (try (refine S_fact (row_one (v := sv) (by (focus ((repeat (first | exact List.Mem.head _ | refine List.Mem.tail _ ?_)); done)))) (fun hone => ?_))))
          | (apply F_bs rfl rfl; exact T.el46; rfl; rfl; rfl; rfl; (focus ((repeat (first | exact Dense.nil | (apply Dense.cons; rfl; rfl))); done)); intro sv; (try (refine S_fact (row_one (v := sv) (by (focus ((repeat (first | exact List.Mem.head _ | refine List.Mem.tail _ ?_)); done)))) (fun hone => ?_))))
          | (refine gCall ?_; (first
              | (apply S_callB (f := 46) (b := kr) (hp := T.pf46) (hv := rfl) (hd := rfl); (case hpick => ((repeat (first | exact Pick.here | exact Pick.last | apply Pick.there | apply Pick.over)); done)); (case hc => exact l36Hops_c kr v l _ hc (by omega)); (case hnb => (intro _ _; exact ⟨_, List.Mem.head _, rfl⟩)); (case hk => (first | exact okst2 | exact okst1 | exact okst1')); intro zz hzz; simp only [List.cons_append, List.nil_append]; revert hzz; revert zz; rintro ⟨x, q2⟩ ⟨g1, g2, g3⟩; dsimp only at g1 g2 g3 ⊢; refine S_fact (fun w hs => Rds.one1 (Rds.many (l := rwSFibHop x) hs (by (focus ((repeat (first | exact List.Mem.head _ | refine List.Mem.tail _ ?_)); done))))) (fun hone => ?_))
              | (apply S_callS (f := 74) T.pf74 rfl rfl (fun w hst => put_c sv tl (_, _, x) (by omega) (fun y hy => (h3 y hy).2.1) hone _ w hst); (focus ((repeat (first | exact Pull.nil | (apply Pull.app; (focus ((repeat (first | exact PickA.here | exact PickA.all | apply PickA.there | apply PickA.over)); done))) | (apply Pull.cons; (focus ((repeat (first | exact Pick.here | exact Pick.last | apply Pick.there | apply Pick.over)); done))) | (apply Pull.atom; (focus ((repeat (first | exact PickA.here | exact PickA.all | apply PickA.there | apply PickA.over)); done))))); done)); intro zz hzz; simp only [List.cons_append, List.nil_append]; revert hzz; revert zz; rintro ⟨sz, z⟩ hz; dsimp only at hz ⊢)
              | (apply S_callB (f := 40) (b := kr) (hp := T.pf40) (hv := rfl) (hd := rfl); (case hpick => ((repeat (first | exact Pick.here | exact Pick.last | apply Pick.there | apply Pick.over)); done)); (case hc => exact pick_c kr v l _ 2 hc (by omega)); (case hnb => (intro _ _; exact ⟨_, List.Mem.head _, rfl⟩)); (case hk => (first | exact okst2 | exact okst1 | exact okst1')); intro zz hzz; simp only [List.cons_append, List.nil_append]; revert hzz; revert zz; intro y hy; have hy2 : y = 0 ∨ y = 1 := (by omega); (rcases hy2 with rfl | rfl))
              | (apply S_callB (f := 40) (b := kr) (hp := T.pf40) (hv := rfl) (hd := rfl); (case hpick => ((repeat (first | exact Pick.here | exact Pick.last | apply Pick.there | apply Pick.over)); done)); (case hc => exact pick_c kr v l _ _ hc (by omega)); (case hnb => (intro _ _; exact ⟨_, List.Mem.head _, rfl⟩)); (case hk => (first | exact okst2 | exact okst1 | exact okst1')); intro zz hzz; simp only [List.cons_append, List.nil_append]; revert hzz; revert zz; intro y hy)
              | (apply F_len rfl rfl rfl; (focus exact ⟨_, _, by exact T.sl46⟩); (focus (first | exact len_nil | (apply len_given; assumption) | (apply len_row; (focus ((repeat (first | exact List.Mem.head _ | refine List.Mem.tail _ ?_)); done))) | (refine len_isN ?_; assumption))))))
          | (refine gBin ?_; (first
              | (refine S_lss rfl rfl rfl ?_)
              | (refine S_gtr rfl rfl rfl ?_)
              | (refine S_eql rfl rfl rfl ?_)
              | (refine S_add rfl rfl ?_ rfl ?_; (focus (unfold rng; omega)))
              | (refine S_sub rfl rfl ?_ rfl ?_; (focus (unfold rng; omega)))
              | (refine S_mul rfl rfl ?_ rfl ?_; (focus (unfold rng; omega)))
              | (refine S_eqlB Try.underlying4 rfl rfl rfl ?_)))
          | (refine gPick ?_; (first
              | (refine S_pickT rfl rfl rfl ?_)
              | (refine S_pickF rfl rfl rfl ?_)))
          | (apply S_alloc rfl (hd := rfl); exact T.zc55; intro kb)
          | (apply F_build2 rfl (hd := rfl); exact T.st55; (focus ((repeat (first | exact BuildR.nil | (apply BuildR.cons; (first | exact T.fs55_0 | exact T.fs55_1 | exact T.fs55_2); rfl; rfl; (focus ((repeat (first | exact SetSeg.nil | apply SetSeg.here | apply SetSeg.there)); done))) | (apply BuildR.cons1; (first | exact T.fs55_0 | exact T.fs55_1 | exact T.fs55_2); (focus assumption); (focus ((repeat (first | exact SetSeg.nil | apply SetSeg.here | apply SetSeg.there)); done))))); done)))
          | (refine S_done ?_)))
      | (refine gC ?_; (first
          | (refine C_seq ?_)
          | (refine gReg ?_; (first
              | (refine gReg (i := 0) ?_; refine C_plain [(0, 0)] (by kernel_rfl) (s := [⟨0, none, _, _, _⟩]) rfl ?_)
              | (refine gReg (i := 1) ?_; refine C_plain [(0, 2), (1, 0)] (by kernel_rfl) (s := [⟨2, none, _, _, _⟩, ⟨0, none, _, _, _⟩]) rfl ?_)
              | (refine gReg (i := 2) ?_; refine C_plain [(0, 0), (1, 2), (2, 0)] (by kernel_rfl) (s := [⟨0, none, _, _, _⟩, ⟨2, none, _, _, _⟩, ⟨0, none, _, _, _⟩]) rfl ?_)
              | (refine gReg (i := 3) ?_; refine C_plain [(0, 0)] (by kernel_rfl) (s := [⟨0, none, _, _, _⟩]) rfl ?_)
              | (refine gReg (i := 4) ?_; refine C_plain [(0, 0), (1, 0)] (by kernel_rfl) (s := [⟨0, none, _, _, _⟩, ⟨0, none, _, _, _⟩]) rfl ?_)
              | (refine gReg (i := 6) ?_; refine C_plain [(0, 0), (1, 0), (2, 0), (3, 0), (4, 2), (5, 0), (6, 0), (7, 2), (8, 0), (9, 0), (10, 0), (11, 2), (12, 0), (13, 2), (14, 0)] (by kernel_rfl) (s := [⟨0, none, _, _, _⟩, ⟨0, none, _, _, _⟩, ⟨0, none, _, _, _⟩, ⟨0, none, _, _, _⟩, ⟨2, none, _, _, _⟩, ⟨0, none, _, _, _⟩, ⟨0, none, _, _, _⟩, ⟨2, none, _, _, _⟩, ⟨0, none, _, _, _⟩, ⟨0, none, _, _, _⟩, ⟨0, none, _, _, _⟩, ⟨2, none, _, _, _⟩, ⟨0, none, _, _, _⟩, ⟨2, none, _, _, _⟩, ⟨0, none, _, _, _⟩]) rfl ?_)
              | (refine gReg (i := 5) ?_; refine C_plain [(0, 0), (1, 0), (2, 0)] (by kernel_rfl) (s := [⟨0, none, _, _, _⟩, ⟨0, none, _, _, _⟩, ⟨0, none, _, _, _⟩]) rfl ?_)
              | (refine gReg (i := 7) ?_; refine C_plain [(0, 0), (1, 2), (2, 0)] (by kernel_rfl) (s := [⟨0, none, _, _, _⟩, ⟨2, none, _, _, _⟩, ⟨0, none, _, _, _⟩]) rfl ?_)
              | (refine gReg (i := 8) ?_; refine C_plain [(0, 0), (1, 0), (2, 0), (3, 0), (4, 0), (5, 0), (6, 0)] (by kernel_rfl) (s := [⟨0, none, _, _, _⟩, ⟨0, none, _, _, _⟩, ⟨0, none, _, _, _⟩, ⟨0, some (32, true), _, _, _⟩, ⟨0, some (32, true), _, _, _⟩, ⟨0, some (32, true), _, _, _⟩, ⟨0, none, _, _, _⟩]) rfl ?_)
              | (refine gReg (i := 10) ?_; refine C_plain [(0, 0), (1, 0), (2, 2), (3, 2), (4, 0)] (by kernel_rfl) (s := [⟨0, none, _, _, _⟩, ⟨0, none, _, _, _⟩, ⟨2, none, _, _, _⟩, ⟨2, none, _, _, _⟩, ⟨0, none, _, _, _⟩]) rfl ?_)
              | (refine gReg (i := 9) ?_; refine C_plain [(0, 0), (1, 0), (2, 0)] (by kernel_rfl) (s := [⟨0, none, _, _, _⟩, ⟨0, none, _, _, _⟩, ⟨0, none, _, _, _⟩]) rfl ?_)
              | (refine gReg (i := 11) ?_; refine C_plain [(0, 0), (1, 0)] (by kernel_rfl) (s := [⟨0, none, _, _, _⟩, ⟨0, none, _, _, _⟩]) rfl ?_)))
          | (refine C_true rfl ?_)
          | (refine C_false rfl ?_)
          | (refine C_split rfl ?_ ?_ <;> (intro hb; (try simp only [decide_eq_true_eq] at hb); (try simp only [decide_eq_false_iff_not] at hb); (try simp only [Bool.not_eq_true'] at hb); (try simp only [Bool.not_eq_false'] at hb); (try (exfalso; first | contradiction | omega))))
          | (refine C_skip ?_)
          | (refine C_exit ?_)
          | (refine C_ret ?_)
          | (refine C_block ?_)))
      | (refine gE ?_; (first
          | (refine E_then ?_)
          | (refine E_thenX ?_)
          | (refine E_thenR ?_)
          | (refine E_block ?_)
          | (refine E_blockY ?_)
          | (refine E_blockR ?_)
          | (refine E_calm ?_)
          | (refine E_blockX rfl ?_)
          | (apply E_ret1 rfl; (first | exact Res.tmp rfl | (apply R_cellAll rfl; (focus ((repeat (first | exact List.Mem.head _ | refine List.Mem.tail _ ?_)); done)); fail) | (apply R_cell1 rfl; (focus ((repeat (first | exact List.Mem.head _ | refine List.Mem.tail _ ?_)); done)); fail)))
          | (apply E_ret2 rfl; (first | exact Res.tmp rfl | (apply R_cellAll rfl; (focus ((repeat (first | exact List.Mem.head _ | refine List.Mem.tail _ ?_)); done)); fail) | (apply R_cell1 rfl; (focus ((repeat (first | exact List.Mem.head _ | refine List.Mem.tail _ ?_)); done)); fail)); (first | exact Res.tmp rfl | (apply R_cellAll rfl; (focus ((repeat (first | exact List.Mem.head _ | refine List.Mem.tail _ ?_)); done)); fail) | (apply R_cell1 rfl; (focus ((repeat (first | exact List.Mem.head _ | refine List.Mem.tail _ ?_)); done)); fail)))
          | (apply E_ret3 rfl; (first | exact Res.tmp rfl | (apply R_cellAll rfl; (focus ((repeat (first | exact List.Mem.head _ | refine List.Mem.tail _ ?_)); done)); fail) | (apply R_cell1 rfl; (focus ((repeat (first | exact List.Mem.head _ | refine List.Mem.tail _ ?_)); done)); fail)); (first | exact Res.tmp rfl | (apply R_cellAll rfl; (focus ((repeat (first | exact List.Mem.head _ | refine List.Mem.tail _ ?_)); done)); fail) | (apply R_cell1 rfl; (focus ((repeat (first | exact List.Mem.head _ | refine List.Mem.tail _ ?_)); done)); fail)); (first | exact Res.tmp rfl | (apply R_cellAll rfl; (focus ((repeat (first | exact List.Mem.head _ | refine List.Mem.tail _ ?_)); done)); fail) | (apply R_cell1 rfl; (focus ((repeat (first | exact List.Mem.head _ | refine List.Mem.tail _ ?_)); done)); fail))))))
    · exact E_roundS (α := Nat × Value × List MFibRoute × List Row × Int) (i + 1, sz, z, rwSFibHop x ++ base, q2) ⟨by dsimp only; omega, by have := put_len hz; dsimp only; omega, h3.put (x := ((i : Int) * 4096 * 0, 4 + y * 0, x)) ⟨by dsimp only; omega, by dsimp only; omega, by dsimp only; omega, by dsimp only; omega, by dsimp only; omega⟩ hone (fun r hr => hr) hz, by dsimp only; omega, by dsimp only; omega⟩ (by dsimp only; omega) ⟨rfl, rfl, rfl, trivial⟩ (by (focus (apply Ent.flat; (simp only [List.length_append, List.length_cons, List.length_nil, Nat.zero_add, flat_many, flat_row, flat_blk, flat_append, flat_nil, List.map_append, List.map_cons, List.map_nil, List.flatMap_append, List.flatMap_cons, List.flatMap_nil, List.append_assoc, List.append_nil, List.nil_append, List.cons_append, Row.blk_mk, rwSuint8, rwSFibHop, rwFibRoute, rwSFibRoute]); ((repeat (first | exact Pull.nil | (apply Pull.app; (focus ((repeat (first | exact PickA.here | exact PickA.all | apply PickA.there | apply PickA.over)); done))) | (apply Pull.cons; (focus ((repeat (first | exact Pick.here | exact Pick.last | apply Pick.there | apply Pick.over)); done))) | (apply Pull.atom; (focus ((repeat (first | exact PickA.here | exact PickA.all | apply PickA.there | apply PickA.over)); done))))); done))))
    · exact E_roundS (α := Nat × Value × List MFibRoute × List Row × Int) (i + 1, sz, z, rwSFibHop x ++ base, q2) ⟨by dsimp only; omega, by have := put_len hz; dsimp only; omega, h3.put (x := ((i : Int) * 4096 * 1, 4 + y * 0, x)) ⟨by dsimp only; omega, by dsimp only; omega, by dsimp only; omega, by dsimp only; omega, by dsimp only; omega⟩ hone (fun r hr => hr) hz, by dsimp only; omega, by dsimp only; omega⟩ (by dsimp only; omega) ⟨rfl, rfl, rfl, trivial⟩ (by (focus (apply Ent.flat; (simp only [List.length_append, List.length_cons, List.length_nil, Nat.zero_add, flat_many, flat_row, flat_blk, flat_append, flat_nil, List.map_append, List.map_cons, List.map_nil, List.flatMap_append, List.flatMap_cons, List.flatMap_nil, List.append_assoc, List.append_nil, List.nil_append, List.cons_append, Row.blk_mk, rwSuint8, rwSFibHop, rwFibRoute, rwSFibRoute]); ((repeat (first | exact Pull.nil | (apply Pull.app; (focus ((repeat (first | exact PickA.here | exact PickA.all | apply PickA.there | apply PickA.over)); done))) | (apply Pull.cons; (focus ((repeat (first | exact Pick.here | exact Pick.last | apply Pick.there | apply Pick.over)); done))) | (apply Pull.atom; (focus ((repeat (first | exact PickA.here | exact PickA.all | apply PickA.there | apply PickA.over)); done))))); done))))
    · exact E_join (α := Value × List MFibRoute × List Row × Int) (sv, tl, base, q) ⟨by dsimp only; omega, h3, by dsimp only; omega, by dsimp only; omega⟩ ⟨rfl, rfl, trivial⟩ (by (focus (apply Ent.flat; (simp only [List.length_append, List.length_cons, List.length_nil, Nat.zero_add, flat_many, flat_row, flat_blk, flat_append, flat_nil, List.map_append, List.map_cons, List.map_nil, List.flatMap_append, List.flatMap_cons, List.flatMap_nil, List.append_assoc, List.append_nil, List.nil_append, List.cons_append, Row.blk_mk, rwSuint8, rwSFibHop, rwFibRoute, rwSFibRoute]); ((repeat (first | exact Pull.nil | (apply Pull.app; (focus ((repeat (first | exact PickA.here | exact PickA.all | apply PickA.there | apply PickA.over)); done))) | (apply Pull.cons; (focus ((repeat (first | exact Pick.here | exact Pick.last | apply Pick.there | apply Pick.over)); done))) | (apply Pull.atom; (focus ((repeat (first | exact PickA.here | exact PickA.all | apply PickA.there | apply PickA.over)); done))))); done))))
  · exact E_join (α := Value × List MFibRoute × List Row × Int) (sv, [], [], p + 1) ⟨by dsimp only [List.length_nil]; omega, TabIn.nil _, by dsimp only; omega, by dsimp only; omega⟩ ⟨rfl, rfl, trivial⟩ (by (focus (apply Ent.flat; (simp only [List.length_append, List.length_cons, List.length_nil, Nat.zero_add, flat_many, flat_row, flat_blk, flat_append, flat_nil, List.map_append, List.map_cons, List.map_nil, List.flatMap_append, List.flatMap_cons, List.flatMap_nil, List.append_assoc, List.append_nil, List.nil_append, List.cons_append, Row.blk_mk, rwSuint8, rwSFibHop, rwFibRoute, rwSFibRoute]); ((repeat (first | exact Pull.nil | (apply Pull.app; (focus ((repeat (first | exact PickA.here | exact PickA.all | apply PickA.there | apply PickA.over)); done))) | (apply Pull.cons; (focus ((repeat (first | exact Pick.here | exact Pick.last | apply Pick.there | apply Pick.over)); done))) | (apply Pull.atom; (focus ((repeat (first | exact PickA.here | exact PickA.all | apply PickA.there | apply PickA.over)); done))))); done))))
  clear hs hs'
  rintro ⟨sv, tl, base, q⟩ ⟨h2, h3, h4, h5⟩
  dsimp only at h2 h3 h4 h5 ⊢
  repeat' (first
    | (refine gS ?_; (first
        | (refine gGuard ?_; (first
            | (refine S_on rfl ?_)
            | (refine S_off rfl rfl rfl ?_)
            | (refine S_offn rfl rfl ?_)
            | (refine S_offU rfl rfl ?_)
            | (refine S_offUn rfl ?_)
            | (refine S_gsplit rfl ?_ ?_ <;> (intro hb; (try simp only [decide_eq_true_eq] at hb); (try simp only [decide_eq_false_iff_not] at hb); (try simp only [Bool.not_eq_true'] at hb); (try simp only [Bool.not_eq_false'] at hb); (try (exfalso; first | contradiction | omega))))))
        | (refine S_move rfl rfl ?_)
        | (refine S_assign rfl rfl ?_)
        | (apply F_bs0 rfl rfl; exact T.el46; rfl; intro sv; (try (refine S_fact (row_one (v := sv) (by (focus ((repeat (first | exact List.Mem.head _ | refine List.Mem.tail _ ?_)); done)))) (fun hone => ?_))))
        | (apply F_bs rfl rfl; exact T.el46; rfl; rfl; rfl; rfl; (focus ((repeat (first | exact Dense.nil | (apply Dense.cons; rfl; rfl))); done)); intro sv; (try (refine S_fact (row_one (v := sv) (by (focus ((repeat (first | exact List.Mem.head _ | refine List.Mem.tail _ ?_)); done)))) (fun hone => ?_))))
        | (refine gCall ?_; (first
            | (apply S_callB (f := 40) (b := kr) (hp := T.pf40) (hv := rfl) (hd := rfl); (case hpick => ((repeat (first | exact Pick.here | exact Pick.last | apply Pick.there | apply Pick.over)); done)); (case hc => exact pick_c kr v l _ 7 hc (by omega)); (case hnb => (intro _ _; exact ⟨_, List.Mem.head _, rfl⟩)); (case hk => (first | exact okst2 | exact okst1 | exact okst1')); intro zz hzz; simp only [List.cons_append, List.nil_append]; revert hzz; revert zz; intro y hy)
            | (apply F_len rfl rfl rfl; (focus exact ⟨_, _, by exact T.sl46⟩); (focus (first | exact len_nil | (apply len_given; assumption) | (apply len_row; (focus ((repeat (first | exact List.Mem.head _ | refine List.Mem.tail _ ?_)); done))) | (refine len_isN ?_; assumption))))))
        | (refine gBin ?_; (first
            | (refine S_lss rfl rfl rfl ?_)
            | (refine S_gtr rfl rfl rfl ?_)
            | (refine S_eql rfl rfl rfl ?_)
            | (refine S_add rfl rfl ?_ rfl ?_; (focus (unfold rng; omega)))
            | (refine S_sub rfl rfl ?_ rfl ?_; (focus (unfold rng; omega)))
            | (refine S_mul rfl rfl ?_ rfl ?_; (focus (unfold rng; omega)))
            | (refine S_eqlB Try.underlying4 rfl rfl rfl ?_)))
        | (refine gPick ?_; (first
            | (refine S_pickT rfl rfl rfl ?_)
            | (refine S_pickF rfl rfl rfl ?_)))
        | (apply S_alloc rfl (hd := rfl); exact T.zc55; intro kb)
        | (apply F_build2 rfl (hd := rfl); exact T.st55; (focus ((repeat (first | exact BuildR.nil | (apply BuildR.cons; (first | exact T.fs55_0 | exact T.fs55_1 | exact T.fs55_2); rfl; rfl; (focus ((repeat (first | exact SetSeg.nil | apply SetSeg.here | apply SetSeg.there)); done))) | (apply BuildR.cons1; (first | exact T.fs55_0 | exact T.fs55_1 | exact T.fs55_2); (focus assumption); (focus ((repeat (first | exact SetSeg.nil | apply SetSeg.here | apply SetSeg.there)); done))))); done)))
        | (refine S_done ?_)))
    | (refine gC ?_; (first
        | (refine C_seq ?_)
        | (refine gReg ?_; (first
            | (refine gReg (i := 0) ?_; refine C_plain [(0, 0)] (by kernel_rfl) (s := [⟨0, none, _, _, _⟩]) rfl ?_)
            | (refine gReg (i := 1) ?_; refine C_plain [(0, 2), (1, 0)] (by kernel_rfl) (s := [⟨2, none, _, _, _⟩, ⟨0, none, _, _, _⟩]) rfl ?_)
            | (refine gReg (i := 2) ?_; refine C_plain [(0, 0), (1, 2), (2, 0)] (by kernel_rfl) (s := [⟨0, none, _, _, _⟩, ⟨2, none, _, _, _⟩, ⟨0, none, _, _, _⟩]) rfl ?_)
            | (refine gReg (i := 3) ?_; refine C_plain [(0, 0)] (by kernel_rfl) (s := [⟨0, none, _, _, _⟩]) rfl ?_)
            | (refine gReg (i := 4) ?_; refine C_plain [(0, 0), (1, 0)] (by kernel_rfl) (s := [⟨0, none, _, _, _⟩, ⟨0, none, _, _, _⟩]) rfl ?_)
            | (refine gReg (i := 6) ?_; refine C_plain [(0, 0), (1, 0), (2, 0), (3, 0), (4, 2), (5, 0), (6, 0), (7, 2), (8, 0), (9, 0), (10, 0), (11, 2), (12, 0), (13, 2), (14, 0)] (by kernel_rfl) (s := [⟨0, none, _, _, _⟩, ⟨0, none, _, _, _⟩, ⟨0, none, _, _, _⟩, ⟨0, none, _, _, _⟩, ⟨2, none, _, _, _⟩, ⟨0, none, _, _, _⟩, ⟨0, none, _, _, _⟩, ⟨2, none, _, _, _⟩, ⟨0, none, _, _, _⟩, ⟨0, none, _, _, _⟩, ⟨0, none, _, _, _⟩, ⟨2, none, _, _, _⟩, ⟨0, none, _, _, _⟩, ⟨2, none, _, _, _⟩, ⟨0, none, _, _, _⟩]) rfl ?_)
            | (refine gReg (i := 5) ?_; refine C_plain [(0, 0), (1, 0), (2, 0)] (by kernel_rfl) (s := [⟨0, none, _, _, _⟩, ⟨0, none, _, _, _⟩, ⟨0, none, _, _, _⟩]) rfl ?_)
            | (refine gReg (i := 7) ?_; refine C_plain [(0, 0), (1, 2), (2, 0)] (by kernel_rfl) (s := [⟨0, none, _, _, _⟩, ⟨2, none, _, _, _⟩, ⟨0, none, _, _, _⟩]) rfl ?_)
            | (refine gReg (i := 8) ?_; refine C_plain [(0, 0), (1, 0), (2, 0), (3, 0), (4, 0), (5, 0), (6, 0)] (by kernel_rfl) (s := [⟨0, none, _, _, _⟩, ⟨0, none, _, _, _⟩, ⟨0, none, _, _, _⟩, ⟨0, some (32, true), _, _, _⟩, ⟨0, some (32, true), _, _, _⟩, ⟨0, some (32, true), _, _, _⟩, ⟨0, none, _, _, _⟩]) rfl ?_)
            | (refine gReg (i := 10) ?_; refine C_plain [(0, 0), (1, 0), (2, 2), (3, 2), (4, 0)] (by kernel_rfl) (s := [⟨0, none, _, _, _⟩, ⟨0, none, _, _, _⟩, ⟨2, none, _, _, _⟩, ⟨2, none, _, _, _⟩, ⟨0, none, _, _, _⟩]) rfl ?_)
            | (refine gReg (i := 9) ?_; refine C_plain [(0, 0), (1, 0), (2, 0)] (by kernel_rfl) (s := [⟨0, none, _, _, _⟩, ⟨0, none, _, _, _⟩, ⟨0, none, _, _, _⟩]) rfl ?_)
            | (refine gReg (i := 11) ?_; refine C_plain [(0, 0), (1, 0)] (by kernel_rfl) (s := [⟨0, none, _, _, _⟩, ⟨0, none, _, _, _⟩]) rfl ?_)))
        | (refine C_true rfl ?_)
        | (refine C_false rfl ?_)
        | (refine C_split rfl ?_ ?_ <;> (intro hb; (try simp only [decide_eq_true_eq] at hb); (try simp only [decide_eq_false_iff_not] at hb); (try simp only [Bool.not_eq_true'] at hb); (try simp only [Bool.not_eq_false'] at hb); (try (exfalso; first | contradiction | omega))))
        | (refine C_skip ?_)
        | (refine C_exit ?_)
        | (refine C_ret ?_)
        | (refine C_block ?_)))
    | (refine gE ?_; (first
        | (refine E_then ?_)
        | (refine E_thenX ?_)
        | (refine E_thenR ?_)
        | (refine E_block ?_)
        | (refine E_blockY ?_)
        | (refine E_blockR ?_)
        | (refine E_calm ?_)
        | (refine E_blockX rfl ?_)
        | (apply E_ret1 rfl; (first | exact Res.tmp rfl | (apply R_cellAll rfl; (focus ((repeat (first | exact List.Mem.head _ | refine List.Mem.tail _ ?_)); done)); fail) | (apply R_cell1 rfl; (focus ((repeat (first | exact List.Mem.head _ | refine List.Mem.tail _ ?_)); done)); fail)))
        | (apply E_ret2 rfl; (first | exact Res.tmp rfl | (apply R_cellAll rfl; (focus ((repeat (first | exact List.Mem.head _ | refine List.Mem.tail _ ?_)); done)); fail) | (apply R_cell1 rfl; (focus ((repeat (first | exact List.Mem.head _ | refine List.Mem.tail _ ?_)); done)); fail)); (first | exact Res.tmp rfl | (apply R_cellAll rfl; (focus ((repeat (first | exact List.Mem.head _ | refine List.Mem.tail _ ?_)); done)); fail) | (apply R_cell1 rfl; (focus ((repeat (first | exact List.Mem.head _ | refine List.Mem.tail _ ?_)); done)); fail)))
        | (apply E_ret3 rfl; (first | exact Res.tmp rfl | (apply R_cellAll rfl; (focus ((repeat (first | exact List.Mem.head _ | refine List.Mem.tail _ ?_)); done)); fail) | (apply R_cell1 rfl; (focus ((repeat (first | exact List.Mem.head _ | refine List.Mem.tail _ ?_)); done)); fail)); (first | exact Res.tmp rfl | (apply R_cellAll rfl; (focus ((repeat (first | exact List.Mem.head _ | refine List.Mem.tail _ ?_)); done)); fail) | (apply R_cell1 rfl; (focus ((repeat (first | exact List.Mem.head _ | refine List.Mem.tail _ ?_)); done)); fail)); (first | exact Res.tmp rfl | (apply R_cellAll rfl; (focus ((repeat (first | exact List.Mem.head _ | refine List.Mem.tail _ ?_)); done)); fail) | (apply R_cell1 rfl; (focus ((repeat (first | exact List.Mem.head _ | refine List.Mem.tail _ ?_)); done)); fail))))))
  refine C_loop (α := Int × Value × List MFibRoute × List Row × Int) (fun s => [(5, .int .i64 s.1), (3, s.2.1), (0, .pointer (some ⟨kr, 0, none⟩))]) (fun s => .blk kr 100 (rdr v s.2.2.2.2) :: .row s.2.1 55 3 s.2.2.1.length (s.2.2.1.flatMap clFibRoute) :: .many s.2.2.2.1 :: R)
    (fun s => 0 ≤ s.1 ∧ s.1 ≤ 6 ∧ s.2.2.1.length ≤ 16 ∧ TabIn s.2.2.1 s.2.2.2.1 ∧ p ≤ s.2.2.2.2 ∧ s.2.2.2.2 ≤ p + 1010 + 60 * (6 - s.1)) (fun s => s.1.toNat) (y, sv, tl, base, q + 1) ⟨by dsimp only; omega, by dsimp only; omega, h2, h3, by dsimp only; omega, by dsimp only; omega⟩ ⟨rfl, rfl, rfl, trivial⟩ (List.Sublist.refl _) ?_
  rintro ⟨n, sv, tl, base, q⟩ ⟨g1, g2, g3, g4, g5, g6⟩
  dsimp only at g1 g2 g3 g4 g5 g6 ⊢
  repeat' (first
    | (refine gS ?_; (first
        | (refine gGuard ?_; (first
            | (refine S_on rfl ?_)
            | (refine S_off rfl rfl rfl ?_)
            | (refine S_offn rfl rfl ?_)
            | (refine S_offU rfl rfl ?_)
            | (refine S_offUn rfl ?_)
            | (refine S_gsplit rfl ?_ ?_ <;> (intro hb; (try simp only [decide_eq_true_eq] at hb); (try simp only [decide_eq_false_iff_not] at hb); (try simp only [Bool.not_eq_true'] at hb); (try simp only [Bool.not_eq_false'] at hb); (try (exfalso; first | contradiction | omega))))))
        | (refine S_move rfl rfl ?_)
        | (refine S_assign rfl rfl ?_)
        | (apply F_bs0 rfl rfl; exact T.el46; rfl; intro sv; (try (refine S_fact (row_one (v := sv) (by (focus ((repeat (first | exact List.Mem.head _ | refine List.Mem.tail _ ?_)); done)))) (fun hone => ?_))))
        | (apply F_bs rfl rfl; exact T.el46; rfl; rfl; rfl; rfl; (focus ((repeat (first | exact Dense.nil | (apply Dense.cons; rfl; rfl))); done)); intro sv; (try (refine S_fact (row_one (v := sv) (by (focus ((repeat (first | exact List.Mem.head _ | refine List.Mem.tail _ ?_)); done)))) (fun hone => ?_))))
        | (refine gCall ?_; (first
            | (apply S_callB (f := 75) (b := kr) (hp := T.pf75) (hv := rfl) (hd := rfl); (case hpick => ((repeat (first | exact Pick.here | exact Pick.last | apply Pick.there | apply Pick.over)); done)); (case hc => exact route_c kr v l _ hc (by omega)); (case hnb => (intro _ _; exact ⟨_, List.Mem.head _, rfl⟩)); (case hk => (first | exact okst2 | exact okst1 | exact okst1')); intro zz hzz; simp only [List.cons_append, List.nil_append]; revert hzz; revert zz; rintro ⟨x, q2⟩ ⟨e1, e2, e3⟩; dsimp only at e1 e2 e3 ⊢; refine S_fact (fun w hs => Rds.one1 (Rds.many (l := rwSFibHop x.2.2) hs (by (focus ((repeat (first | exact List.Mem.head _ | refine List.Mem.tail _ ?_)); done))))) (fun hone => ?_))
            | (apply S_callS (f := 74) T.pf74 rfl rfl (fun w hst => put_c sv tl x (by omega) (fun y hy => (g4 y hy).2.1) hone _ w hst); (focus ((repeat (first | exact Pull.nil | (apply Pull.app; (focus ((repeat (first | exact PickA.here | exact PickA.all | apply PickA.there | apply PickA.over)); done))) | (apply Pull.cons; (focus ((repeat (first | exact Pick.here | exact Pick.last | apply Pick.there | apply Pick.over)); done))) | (apply Pull.atom; (focus ((repeat (first | exact PickA.here | exact PickA.all | apply PickA.there | apply PickA.over)); done))))); done)); intro zz hzz; simp only [List.cons_append, List.nil_append]; revert hzz; revert zz; rintro ⟨sz, z⟩ hz; dsimp only at hz ⊢)
            | (apply F_len rfl rfl rfl; (focus exact ⟨_, _, by exact T.sl46⟩); (focus (first | exact len_nil | (apply len_given; assumption) | (apply len_row; (focus ((repeat (first | exact List.Mem.head _ | refine List.Mem.tail _ ?_)); done))) | (refine len_isN ?_; assumption))))))
        | (refine gBin ?_; (first
            | (refine S_lss rfl rfl rfl ?_)
            | (refine S_gtr rfl rfl rfl ?_)
            | (refine S_eql rfl rfl rfl ?_)
            | (refine S_add rfl rfl ?_ rfl ?_; (focus (unfold rng; omega)))
            | (refine S_sub rfl rfl ?_ rfl ?_; (focus (unfold rng; omega)))
            | (refine S_mul rfl rfl ?_ rfl ?_; (focus (unfold rng; omega)))
            | (refine S_eqlB Try.underlying4 rfl rfl rfl ?_)))
        | (refine gPick ?_; (first
            | (refine S_pickT rfl rfl rfl ?_)
            | (refine S_pickF rfl rfl rfl ?_)))
        | (apply S_alloc rfl (hd := rfl); exact T.zc55; intro kb)
        | (apply F_build2 rfl (hd := rfl); exact T.st55; (focus ((repeat (first | exact BuildR.nil | (apply BuildR.cons; (first | exact T.fs55_0 | exact T.fs55_1 | exact T.fs55_2); rfl; rfl; (focus ((repeat (first | exact SetSeg.nil | apply SetSeg.here | apply SetSeg.there)); done))) | (apply BuildR.cons1; (first | exact T.fs55_0 | exact T.fs55_1 | exact T.fs55_2); (focus assumption); (focus ((repeat (first | exact SetSeg.nil | apply SetSeg.here | apply SetSeg.there)); done))))); done)))
        | (refine S_done ?_)))
    | (refine gC ?_; (first
        | (refine C_seq ?_)
        | (refine gReg ?_; (first
            | (refine gReg (i := 0) ?_; refine C_plain [(0, 0)] (by kernel_rfl) (s := [⟨0, none, _, _, _⟩]) rfl ?_)
            | (refine gReg (i := 1) ?_; refine C_plain [(0, 2), (1, 0)] (by kernel_rfl) (s := [⟨2, none, _, _, _⟩, ⟨0, none, _, _, _⟩]) rfl ?_)
            | (refine gReg (i := 2) ?_; refine C_plain [(0, 0), (1, 2), (2, 0)] (by kernel_rfl) (s := [⟨0, none, _, _, _⟩, ⟨2, none, _, _, _⟩, ⟨0, none, _, _, _⟩]) rfl ?_)
            | (refine gReg (i := 3) ?_; refine C_plain [(0, 0)] (by kernel_rfl) (s := [⟨0, none, _, _, _⟩]) rfl ?_)
            | (refine gReg (i := 4) ?_; refine C_plain [(0, 0), (1, 0)] (by kernel_rfl) (s := [⟨0, none, _, _, _⟩, ⟨0, none, _, _, _⟩]) rfl ?_)
            | (refine gReg (i := 6) ?_; refine C_plain [(0, 0), (1, 0), (2, 0), (3, 0), (4, 2), (5, 0), (6, 0), (7, 2), (8, 0), (9, 0), (10, 0), (11, 2), (12, 0), (13, 2), (14, 0)] (by kernel_rfl) (s := [⟨0, none, _, _, _⟩, ⟨0, none, _, _, _⟩, ⟨0, none, _, _, _⟩, ⟨0, none, _, _, _⟩, ⟨2, none, _, _, _⟩, ⟨0, none, _, _, _⟩, ⟨0, none, _, _, _⟩, ⟨2, none, _, _, _⟩, ⟨0, none, _, _, _⟩, ⟨0, none, _, _, _⟩, ⟨0, none, _, _, _⟩, ⟨2, none, _, _, _⟩, ⟨0, none, _, _, _⟩, ⟨2, none, _, _, _⟩, ⟨0, none, _, _, _⟩]) rfl ?_)
            | (refine gReg (i := 5) ?_; refine C_plain [(0, 0), (1, 0), (2, 0)] (by kernel_rfl) (s := [⟨0, none, _, _, _⟩, ⟨0, none, _, _, _⟩, ⟨0, none, _, _, _⟩]) rfl ?_)
            | (refine gReg (i := 7) ?_; refine C_plain [(0, 0), (1, 2), (2, 0)] (by kernel_rfl) (s := [⟨0, none, _, _, _⟩, ⟨2, none, _, _, _⟩, ⟨0, none, _, _, _⟩]) rfl ?_)
            | (refine gReg (i := 8) ?_; refine C_plain [(0, 0), (1, 0), (2, 0), (3, 0), (4, 0), (5, 0), (6, 0)] (by kernel_rfl) (s := [⟨0, none, _, _, _⟩, ⟨0, none, _, _, _⟩, ⟨0, none, _, _, _⟩, ⟨0, some (32, true), _, _, _⟩, ⟨0, some (32, true), _, _, _⟩, ⟨0, some (32, true), _, _, _⟩, ⟨0, none, _, _, _⟩]) rfl ?_)
            | (refine gReg (i := 10) ?_; refine C_plain [(0, 0), (1, 0), (2, 2), (3, 2), (4, 0)] (by kernel_rfl) (s := [⟨0, none, _, _, _⟩, ⟨0, none, _, _, _⟩, ⟨2, none, _, _, _⟩, ⟨2, none, _, _, _⟩, ⟨0, none, _, _, _⟩]) rfl ?_)
            | (refine gReg (i := 9) ?_; refine C_plain [(0, 0), (1, 0), (2, 0)] (by kernel_rfl) (s := [⟨0, none, _, _, _⟩, ⟨0, none, _, _, _⟩, ⟨0, none, _, _, _⟩]) rfl ?_)
            | (refine gReg (i := 11) ?_; refine C_plain [(0, 0), (1, 0)] (by kernel_rfl) (s := [⟨0, none, _, _, _⟩, ⟨0, none, _, _, _⟩]) rfl ?_)))
        | (refine C_true rfl ?_)
        | (refine C_false rfl ?_)
        | (refine C_split rfl ?_ ?_ <;> (intro hb; (try simp only [decide_eq_true_eq] at hb); (try simp only [decide_eq_false_iff_not] at hb); (try simp only [Bool.not_eq_true'] at hb); (try simp only [Bool.not_eq_false'] at hb); (try (exfalso; first | contradiction | omega))))
        | (refine C_skip ?_)
        | (refine C_exit ?_)
        | (refine C_ret ?_)
        | (refine C_block ?_)))
    | (refine gE ?_; (first
        | (refine E_then ?_)
        | (refine E_thenX ?_)
        | (refine E_thenR ?_)
        | (refine E_block ?_)
        | (refine E_blockY ?_)
        | (refine E_blockR ?_)
        | (refine E_calm ?_)
        | (refine E_blockX rfl ?_)
        | (apply E_ret1 rfl; (first | exact Res.tmp rfl | (apply R_cellAll rfl; (focus ((repeat (first | exact List.Mem.head _ | refine List.Mem.tail _ ?_)); done)); fail) | (apply R_cell1 rfl; (focus ((repeat (first | exact List.Mem.head _ | refine List.Mem.tail _ ?_)); done)); fail)))
        | (apply E_ret2 rfl; (first | exact Res.tmp rfl | (apply R_cellAll rfl; (focus ((repeat (first | exact List.Mem.head _ | refine List.Mem.tail _ ?_)); done)); fail) | (apply R_cell1 rfl; (focus ((repeat (first | exact List.Mem.head _ | refine List.Mem.tail _ ?_)); done)); fail)); (first | exact Res.tmp rfl | (apply R_cellAll rfl; (focus ((repeat (first | exact List.Mem.head _ | refine List.Mem.tail _ ?_)); done)); fail) | (apply R_cell1 rfl; (focus ((repeat (first | exact List.Mem.head _ | refine List.Mem.tail _ ?_)); done)); fail)))
        | (apply E_ret3 rfl; (first | exact Res.tmp rfl | (apply R_cellAll rfl; (focus ((repeat (first | exact List.Mem.head _ | refine List.Mem.tail _ ?_)); done)); fail) | (apply R_cell1 rfl; (focus ((repeat (first | exact List.Mem.head _ | refine List.Mem.tail _ ?_)); done)); fail)); (first | exact Res.tmp rfl | (apply R_cellAll rfl; (focus ((repeat (first | exact List.Mem.head _ | refine List.Mem.tail _ ?_)); done)); fail) | (apply R_cell1 rfl; (focus ((repeat (first | exact List.Mem.head _ | refine List.Mem.tail _ ?_)); done)); fail)); (first | exact Res.tmp rfl | (apply R_cellAll rfl; (focus ((repeat (first | exact List.Mem.head _ | refine List.Mem.tail _ ?_)); done)); fail) | (apply R_cell1 rfl; (focus ((repeat (first | exact List.Mem.head _ | refine List.Mem.tail _ ?_)); done)); fail))))))
  all_goals first
    | exact E_roundS (α := Int × Value × List MFibRoute × List Row × Int) (n - 1, sz, z, rwFibRoute x ++ base, q2) ⟨by dsimp only; omega, by dsimp only; omega, by have := put_len hz; dsimp only; omega, g4.put e1 hone (fun r hr => hr) hz, by dsimp only; omega, by dsimp only; omega⟩ (by dsimp only; omega) ⟨rfl, rfl, rfl, trivial⟩ (by (focus (apply Ent.flat; (simp only [List.length_append, List.length_cons, List.length_nil, Nat.zero_add, flat_many, flat_row, flat_blk, flat_append, flat_nil, List.map_append, List.map_cons, List.map_nil, List.flatMap_append, List.flatMap_cons, List.flatMap_nil, List.append_assoc, List.append_nil, List.nil_append, List.cons_append, Row.blk_mk, rwSuint8, rwSFibHop, rwFibRoute, rwSFibRoute]); ((repeat (first | exact Pull.nil | (apply Pull.app; (focus ((repeat (first | exact PickA.here | exact PickA.all | apply PickA.there | apply PickA.over)); done))) | (apply Pull.cons; (focus ((repeat (first | exact Pick.here | exact Pick.last | apply Pick.there | apply Pick.over)); done))) | (apply Pull.atom; (focus ((repeat (first | exact PickA.here | exact PickA.all | apply PickA.there | apply PickA.over)); done))))); done))))
    | exact retS (α := Value × List MFibRoute × List Row × Int) (sv, tl, base, q) ⟨g3, g4, by dsimp only; omega, by dsimp only; omega⟩ rfl (by (focus (apply Ent.flat; (simp only [List.length_append, List.length_cons, List.length_nil, Nat.zero_add, flat_many, flat_row, flat_blk, flat_append, flat_nil, List.map_append, List.map_cons, List.map_nil, List.flatMap_append, List.flatMap_cons, List.flatMap_nil, List.append_assoc, List.append_nil, List.nil_append, List.cons_append, Row.blk_mk, rwSuint8, rwSFibHop, rwFibRoute, rwSFibRoute]); ((repeat (first | exact Pull.nil | (apply Pull.app; (focus ((repeat (first | exact PickA.here | exact PickA.all | apply PickA.there | apply PickA.over)); done))) | (apply Pull.cons; (focus ((repeat (first | exact Pick.here | exact Pick.last | apply Pick.there | apply Pick.over)); done))) | (apply Pull.atom; (focus ((repeat (first | exact PickA.here | exact PickA.all | apply PickA.there | apply PickA.over)); done))))); done))))
end Go.Proofs.Ytencglgaldaaiaa

/- Two drawn prefixes. -/
import Derived.Test.YtobgbogglilfjaaNetq
set_option linter.unusedSimpArgs false
set_option linter.unusedVariables false
namespace Go.Proofs.Ytobgbogglilfjaa
open Go Go.RowKit
attribute [local irreducible] Calls GoS GoC GoE GoT IsFl IsSc IsRw IsSl IsEl IsSt IsFs sp Mem Rd LenOf szR
theorem big_sub {a y : Int} (h0 : 0 ≤ a) (h1 : a ≤ 65535) (hy : 1 ≤ y) : bigR (a - a % y) := by
  have := remR a h0 hy
  exact ⟨by omega, by omega⟩
/-- within just if all its addresses are -/
theorem in_all {a n b m : Int} (hp : okP a n = true) (hq : okP b m = true) : withinP a n b m = true ↔ ∀ y, a ≤ y → y < a + size n → hasP b m y = true := by
  obtain ⟨n0, n1, a0, a1, ad⟩ := @okQ_t (a, n) hp
  obtain ⟨m0, m1, b0, b1, bd⟩ := @okQ_t (b, m) hq
  dsimp only at *
  have sn := size_pos n
  have sm := size_pos m
  unfold withinP hasP
  simp only [Bool.and_eq_true, decide_eq_true_eq]
  constructor
  · rintro ⟨h1, h2, h3⟩ y h4 h5
    refine ⟨by omega, ?_⟩
    have hd : size n ∣ size m := ⟨_, size_mul m0 h1 n1⟩
    obtain ⟨i, hi⟩ := Int.dvd_of_emod_eq_zero ad
    obtain ⟨j, hj⟩ : size n ∣ b + size m := Int.dvd_add (Int.dvd_trans hd (Int.dvd_of_emod_eq_zero bd)) hd
    have hij : i < j := by
      rcases Int.lt_or_le i j with h | h
      · exact h
      · exfalso
        have := Int.mul_le_mul_of_nonneg_left h (show 0 ≤ size n by omega)
        omega
    have h7 : size n * (i + 1) ≤ size n * j := Int.mul_le_mul_of_nonneg_left (by omega) (by omega)
    rw [Int.mul_add, Int.mul_one] at h7
    omega
  · intro h
    have h1 := h a (Int.le_refl _) (by omega)
    refine ⟨?_, h1⟩
    rcases Int.lt_or_le n m with h2 | h2
    · exfalso
      have h3 := h (a + size n - 1) (by omega) (by omega)
      have h4 : size n = size m * 2 ^ (m - n).toNat := size_mul n0 (by omega) m1
      have h5 : (2 : Int) ≤ 2 ^ (m - n).toNat := by
        obtain ⟨k, hk⟩ : ∃ k, (m - n).toNat = k + 1 := ⟨(m - n).toNat - 1, by omega⟩
        rw [hk, Int.pow_succ]
        have : 0 < (2:Int) ^ k := Int.pow_pos (by omega)
        omega
      have h6 := Int.mul_le_mul_of_nonneg_left h5 (show 0 ≤ size m by omega)
      omega
    · exact h2
attribute [local irreducible] size okP
theorem drawNetIn_c (v : Value) (l : List Int) (w : World) (hm : Mem w v 1 l.length (l.flatMap fun y : Int => ([.int .u8 y] : List Value))) (hby : ∀ y ∈ l, 0 ≤ y ∧ y ≤ 255) : Calls Try.prog 29 #[v] w
    (RetX (fun y : Int × Int × Int × Int => bigR y.1 ∧ bigR y.2.1 ∧ bigR y.2.2.1 ∧ bigR y.2.2.2) (fun y => .tuple #[.agg #[.int .i64 y.1, .int .i64 y.2.1], .agg #[.int .i64 y.2.2.1, .int .i64 y.2.2.2]]) (fun _ => []) w) := by
  refine enter (n := 43) (E := [(0, _)]) Try.func29 rfl rfl rfl rfl ?_
  repeat' (first
    | (refine gS ?_; (first
        | (refine gGuard ?_; (first
            | (refine S_on rfl ?_)
            | (refine S_off rfl rfl rfl ?_)
            | (refine S_offn rfl rfl ?_)
            | (refine S_offU rfl rfl ?_)
            | (refine S_offUn rfl ?_)
            | (refine S_gsplit rfl ?_ ?_ <;> (intro hb; (try simp only [decide_eq_true_eq] at hb); (try simp only [decide_eq_false_iff_not] at hb); (try simp only [Bool.not_eq_true'] at hb); (try simp only [Bool.not_eq_false'] at hb); (try (exfalso; first | contradiction | omega)); (try (have hk := okP_t hb))))))
        | (refine S_move rfl rfl ?_)
        | (refine S_assign rfl rfl ?_)
        | (apply F_field rfl rfl; (first | exact T.fl25_0 | exact T.fl25_1))
        | (refine gLoad ?_; (first
            | (apply F_load1 rfl rfl; (focus ((repeat (first | exact List.Mem.head _ | refine List.Mem.tail _ ?_)); done)); exact T.sc3; rfl; (focus (first | exact free0 | exact free1 | (refine free2 ?_ ?_; (focus ((repeat (first | (apply apart1; (repeat (first | exact List.Mem.head _ | refine List.Mem.tail _ ?_)); done) | (apply apart2; (repeat (first | exact List.Mem.head _ | refine List.Mem.tail _ ?_)); done) | refine apart3 ?_)); done)); (first | exact free1 | (refine free2 ?_ ?_; (focus ((repeat (first | (apply apart1; (repeat (first | exact List.Mem.head _ | refine List.Mem.tail _ ?_)); done) | (apply apart2; (repeat (first | exact List.Mem.head _ | refine List.Mem.tail _ ?_)); done) | refine apart3 ?_)); done)); exact free1))))))
            | (apply F_loadAll rfl rfl; (focus ((repeat (first | exact List.Mem.head _ | refine List.Mem.tail _ ?_)); done)); exact T.rw25; (focus (first | exact free0 | exact free1 | (refine free2 ?_ ?_; (focus ((repeat (first | (apply apart1; (repeat (first | exact List.Mem.head _ | refine List.Mem.tail _ ?_)); done) | (apply apart2; (repeat (first | exact List.Mem.head _ | refine List.Mem.tail _ ?_)); done) | refine apart3 ?_)); done)); (first | exact free1 | (refine free2 ?_ ?_; (focus ((repeat (first | (apply apart1; (repeat (first | exact List.Mem.head _ | refine List.Mem.tail _ ?_)); done) | (apply apart2; (repeat (first | exact List.Mem.head _ | refine List.Mem.tail _ ?_)); done) | refine apart3 ?_)); done)); exact free1))))))
            | (apply F_loadP rfl rfl; (focus ((repeat (first | exact List.Mem.head _ | refine List.Mem.tail _ ?_)); done)); exact T.rw25; (focus ((repeat (first | exact Take.nil | apply Take.here | apply Take.there)); done)); rfl; (focus (first | exact free0 | exact free1 | (refine free2 ?_ ?_; (focus ((repeat (first | (apply apart1; (repeat (first | exact List.Mem.head _ | refine List.Mem.tail _ ?_)); done) | (apply apart2; (repeat (first | exact List.Mem.head _ | refine List.Mem.tail _ ?_)); done) | refine apart3 ?_)); done)); (first | exact free1 | (refine free2 ?_ ?_; (focus ((repeat (first | (apply apart1; (repeat (first | exact List.Mem.head _ | refine List.Mem.tail _ ?_)); done) | (apply apart2; (repeat (first | exact List.Mem.head _ | refine List.Mem.tail _ ?_)); done) | refine apart3 ?_)); done)); exact free1))))))
            | ((refine S_rem rfl rfl ?_ (size_gt _) rfl ?_; (focus omega)))
            | ((refine S_sub rfl rfl (rem_rng ?_ ?_ (size_pos _)) rfl ?_; (focus omega); (focus omega)))))
        | (refine gStore ?_; (first
            | (apply F_store1 rfl rfl; (focus (first | rfl | assumption)); exact T.sc3; (focus ((repeat (first | exact Upd.here | apply Upd.there)); done)); (focus ((repeat (first | exact SetSeg.nil | apply SetSeg.here | apply SetSeg.there)); done)); (first | exact okst2 | exact okst1 | exact okst1'))
            | (apply F_storeN rfl rfl; (focus (first | rfl | assumption | (simp only [List.append_nil, List.all_cons, List.all_nil, Bool.and_true, Bool.true_and, one_int, one_bool, one_string, one_slice, one_pointer, *]; done))); exact T.rw25; (focus ((repeat (first | exact Upd.here | apply Upd.there)); done)); (focus ((repeat (first | exact SetSeg.nil | apply SetSeg.here | apply SetSeg.there)); done)); (first | exact okst2 | exact okst1 | exact okst1'))
            | ((refine S_rem rfl rfl ?_ (size_gt _) rfl ?_; (focus omega)))
            | ((refine S_sub rfl rfl (rem_rng ?_ ?_ (size_pos _)) rfl ?_; (focus omega); (focus omega)))))
        | (refine gCall ?_; (first
            | (refine S_callX (f := 53) rfl T.pf53 rfl (fun w hst => open_c v l hm hby w hst.ext) rfl (fun zz hzz => ?_); simp only [List.cons_append, List.nil_append]; revert hzz; revert zz; intro rd hcr)
            | (apply S_callB (f := 54) (b := rd.1) (hp := T.pf54) (hv := rfl) (hd := rfl); (case hpick => ((repeat (first | exact Pick.here | exact Pick.last | apply Pick.there | apply Pick.over)); done)); (case hc => exact l5Any_c rd.1 rd.2.1 rd.2.2 _ hcr (by omega)); (case hnb => (intro _ _; exact ⟨_, List.Mem.head _, rfl⟩)); (case hk => (first | exact okst2 | exact okst1 | exact okst1')); intro zz hzz; simp only [List.cons_append, List.nil_append]; revert hzz; revert zz; rintro ⟨c, m, q2⟩ ⟨hc1, hc2, hc3, hc4, hc5, hc6⟩; dsimp only at hc1 hc2 hc3 hc4 hc5 hc6 ⊢)
            | (refine S_callN (f := 14) rfl T.pf14 rfl (fun w hst => specNetOk_c _ _ w) rfl ?_)
            | (apply S_callB (f := 55) (b := rd.1) (hp := T.pf55) (hv := rfl) (hd := rfl); (case hpick => ((repeat (first | exact Pick.here | exact Pick.last | apply Pick.there | apply Pick.over)); done)); (case hc => exact pick_c rd.1 rd.2.1 rd.2.2 _ _ hcr (by omega)); (case hnb => (intro _ _; exact ⟨_, List.Mem.head _, rfl⟩)); (case hk => (first | exact okst2 | exact okst1 | exact okst1')); intro zz hzz; simp only [List.cons_append, List.nil_append]; revert hzz; revert zz; intro z hz)
            | (refine S_callN (f := 44) rfl T.pf44 rfl (fun w hst => l1Size_c _ (by omega) (by omega) w) rfl ?_)
            | ((refine S_rem rfl rfl ?_ (size_gt _) rfl ?_; (focus omega)))
            | ((refine S_sub rfl rfl (rem_rng ?_ ?_ (size_pos _)) rfl ?_; (focus omega); (focus omega)))))
        | (refine gBin ?_; (first
            | ((refine S_rem rfl rfl ?_ (size_gt _) rfl ?_; (focus omega)))
            | ((refine S_sub rfl rfl (rem_rng ?_ ?_ (size_pos _)) rfl ?_; (focus omega); (focus omega)))
            | (refine S_gtr rfl rfl rfl ?_)
            | (refine S_eql rfl rfl rfl ?_)
            | (refine S_add rfl rfl ?_ rfl ?_; (focus (unfold rng; omega)))
            | (refine S_sub rfl rfl ?_ rfl ?_; (focus (unfold rng; omega)))
            | (refine S_eqlB Try.underlying4 rfl rfl rfl ?_)
            | (refine S_rem rfl rfl ?_ ?_ rfl ?_; (focus omega); (focus omega))
            | (refine S_remT rfl rfl ?_ rfl ?_; (focus omega))))
        | (refine gPick ?_; (first
            | (refine S_pickT rfl rfl rfl ?_)
            | (refine S_pickF rfl rfl rfl ?_)))
        | (apply S_alloc rfl (hd := rfl); exact T.zc25; intro kb)
        | (apply F_build2 rfl (hd := rfl); exact T.st25; (focus ((repeat (first | exact BuildR.nil | (apply BuildR.cons; (first | exact T.fs25_0 | exact T.fs25_1); rfl; rfl; (focus ((repeat (first | exact SetSeg.nil | apply SetSeg.here | apply SetSeg.there)); done))) | (apply BuildR.cons1; (first | exact T.fs25_0 | exact T.fs25_1); (focus assumption); (focus ((repeat (first | exact SetSeg.nil | apply SetSeg.here | apply SetSeg.there)); done))))); done)))
        | (refine S_done ?_)
        | ((refine S_rem rfl rfl ?_ (size_gt _) rfl ?_; (focus omega)))
        | ((refine S_sub rfl rfl (rem_rng ?_ ?_ (size_pos _)) rfl ?_; (focus omega); (focus omega)))))
    | (refine gC ?_; (first
        | (refine C_seq ?_)
        | (refine gReg ?_; (first
            | (refine gReg (i := 0) ?_; refine C_plain [(0, 2), (1, 2)] (by kernel_rfl) (s := [⟨2, none, _, _, _⟩, ⟨2, none, _, _, _⟩]) rfl ?_)
            | (refine gReg (i := 1) ?_; refine C_plain [(0, 0), (1, 2), (2, 0)] (by kernel_rfl) (s := [⟨0, none, _, _, _⟩, ⟨2, none, _, _, _⟩, ⟨0, none, _, _, _⟩]) rfl ?_)
            | (refine gReg (i := 2) ?_; refine C_plain [(0, 0), (1, 2), (2, 2), (3, 2)] (by kernel_rfl) (s := [⟨0, none, _, _, _⟩, ⟨2, none, _, _, _⟩, ⟨2, none, _, _, _⟩, ⟨2, none, _, _, _⟩]) rfl ?_)
            | (refine gReg (i := 3) ?_; refine C_plain [(0, 0), (1, 2), (2, 2), (3, 2)] (by kernel_rfl) (s := [⟨0, none, _, _, _⟩, ⟨2, none, _, _, _⟩, ⟨2, none, _, _, _⟩, ⟨2, none, _, _, _⟩]) rfl ?_)
            | (refine gReg (i := 4) ?_; refine C_plain [(0, 0), (1, 2), (2, 0), (3, 0), (4, 0), (5, 0), (6, 0), (7, 0), (8, 0), (9, 2), (10, 0), (11, 0)] (by kernel_rfl) (s := [⟨0, none, _, _, _⟩, ⟨2, none, _, _, _⟩, ⟨0, none, _, _, _⟩, ⟨0, some (16, true), _, _, _⟩, ⟨0, some (16, true), _, _, _⟩, ⟨0, some (16, true), _, _, _⟩, ⟨0, none, _, _, _⟩, ⟨0, none, _, _, _⟩, ⟨0, some (21, true), _, _, _⟩, ⟨2, some (21, true), _, _, _⟩, ⟨0, some (21, true), _, _, _⟩, ⟨0, none, _, _, _⟩]) rfl ?_)
            | (refine gReg (i := 5) ?_; refine C_plain [(0, 0), (1, 0), (2, 0), (3, 0), (4, 2), (5, 0)] (by kernel_rfl) (s := [⟨0, none, _, _, _⟩, ⟨0, none, _, _, _⟩, ⟨0, none, _, _, _⟩, ⟨0, none, _, _, _⟩, ⟨2, none, _, _, _⟩, ⟨0, none, _, _, _⟩]) rfl ?_)
            | (refine gReg (i := 6) ?_; refine C_drawn [(0, 0), (1, 0), (2, 0), (3, 0), (4, 0), (8, 0), (5, 1), (6, 0), (7, 0), (9, 0), (10, 2)] [] T.mixed (by kernel_rfl) (s := [⟨0, none, _, _, _⟩, ⟨0, none, _, _, _⟩, ⟨0, none, _, _, _⟩, ⟨0, none, _, _, _⟩, ⟨0, none, _, _, _⟩, ⟨0, none, _, _, _⟩, ⟨1, none, _, _, _⟩, ⟨0, none, _, _, _⟩, ⟨0, none, _, _, _⟩, ⟨0, none, _, _, _⟩, ⟨2, none, _, _, _⟩]) rfl ?_)
            | (refine gReg (i := 7) ?_; refine C_drawn2 2 3 rfl rfl [(0, 0), (1, 0), (2, 1), (3, 2)] T.mixed (by kernel_rfl) (s := [⟨0, none, _, _, _⟩, ⟨0, none, _, _, _⟩, ⟨1, none, _, _, _⟩, ⟨2, none, _, _, _⟩]) rfl ?_)))
        | (refine C_true rfl ?_)
        | (refine C_false rfl ?_)
        | (refine C_split rfl ?_ ?_ <;> (intro hb; (try simp only [decide_eq_true_eq] at hb); (try simp only [decide_eq_false_iff_not] at hb); (try simp only [Bool.not_eq_true'] at hb); (try simp only [Bool.not_eq_false'] at hb); (try (exfalso; first | contradiction | omega)); (try (have hk := okP_t hb))))
        | (refine C_skip ?_)
        | (refine C_exit ?_)
        | (refine C_ret ?_)
        | (refine C_block ?_)))
    | (refine gE ?_; (first
        | (refine E_then ?_)
        | (refine E_thenX ?_)
        | (refine E_thenR ?_)
        | (refine E_block ?_)
        | (refine E_blockY ?_)
        | (refine E_blockR ?_)
        | (refine E_calm ?_)
        | (refine E_blockX rfl ?_)
        | (apply E_ret1 rfl; (first | exact Res.tmp rfl | (apply R_cellAll rfl; (focus ((repeat (first | exact List.Mem.head _ | refine List.Mem.tail _ ?_)); done)); exact T.rw25) | (apply R_cell1 rfl; (focus ((repeat (first | exact List.Mem.head _ | refine List.Mem.tail _ ?_)); done)); exact T.sc3)))
        | (apply E_ret2 rfl; (first | exact Res.tmp rfl | (apply R_cellAll rfl; (focus ((repeat (first | exact List.Mem.head _ | refine List.Mem.tail _ ?_)); done)); exact T.rw25) | (apply R_cell1 rfl; (focus ((repeat (first | exact List.Mem.head _ | refine List.Mem.tail _ ?_)); done)); exact T.sc3)); (first | exact Res.tmp rfl | (apply R_cellAll rfl; (focus ((repeat (first | exact List.Mem.head _ | refine List.Mem.tail _ ?_)); done)); exact T.rw25) | (apply R_cell1 rfl; (focus ((repeat (first | exact List.Mem.head _ | refine List.Mem.tail _ ?_)); done)); exact T.sc3)))
        | (apply E_ret3 rfl; (first | exact Res.tmp rfl | (apply R_cellAll rfl; (focus ((repeat (first | exact List.Mem.head _ | refine List.Mem.tail _ ?_)); done)); exact T.rw25) | (apply R_cell1 rfl; (focus ((repeat (first | exact List.Mem.head _ | refine List.Mem.tail _ ?_)); done)); exact T.sc3)); (first | exact Res.tmp rfl | (apply R_cellAll rfl; (focus ((repeat (first | exact List.Mem.head _ | refine List.Mem.tail _ ?_)); done)); exact T.rw25) | (apply R_cell1 rfl; (focus ((repeat (first | exact List.Mem.head _ | refine List.Mem.tail _ ?_)); done)); exact T.sc3)); (first | exact Res.tmp rfl | (apply R_cellAll rfl; (focus ((repeat (first | exact List.Mem.head _ | refine List.Mem.tail _ ?_)); done)); exact T.rw25) | (apply R_cell1 rfl; (focus ((repeat (first | exact List.Mem.head _ | refine List.Mem.tail _ ?_)); done)); exact T.sc3))))))
  all_goals
    refine retX (_, _, _, _) ⟨⟨by dsimp only; omega, by dsimp only; omega⟩, ⟨by dsimp only; omega, by dsimp only; omega⟩, ?_, ⟨by dsimp only; omega, by dsimp only; omega⟩⟩ rfl ?_
    focus (first | (refine big_sub ?_ ?_ (size_pos _) <;> omega) | (refine ⟨?_, ?_⟩ <;> dsimp only <;> omega))
    exact Ent.pull Pull.nil
end Go.Proofs.Ytobgbogglilfjaa

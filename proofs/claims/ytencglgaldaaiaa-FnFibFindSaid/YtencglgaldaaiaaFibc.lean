/- The hop that a flow goes by. -/
import Derived.Test.YtencglgaldaaiaaFibb
set_option linter.unusedSimpArgs false
set_option linter.unusedVariables false
namespace Go.Proofs.Ytencglgaldaaiaa
open Go Go.RowKit
attribute [local irreducible] GoS GoC GoE IsFl IsSc IsRw IsSl IsEl IsSt IsFs sp Mem Rd LenOf
def scoreAt (l : List MFibHop) (f : Int) (k : Nat) : Int := score f (ix l k).1 (ix l k).2
def pickF (l : List MFibHop) (f : Int) : Nat → Nat
  | 0 => 0
  | k + 1 => if scoreAt l f (pickF l f k) < scoreAt l f k then k else pickF l f k
theorem pickF_rng (l : List MFibHop) (f : Int) : ∀ k, pickF l f k < k ∨ pickF l f k = 0
  | 0 => .inr rfl
  | k + 1 => by
    unfold pickF
    split
    · exact .inl (by omega)
    · rcases pickF_rng l f k with h | h
      · exact .inl (by omega)
      · exact .inr h
theorem pickF_t {l : List MFibHop} {f : Int} {k : Nat} (h : scoreAt l f (pickF l f k) < scoreAt l f k) : pickF l f (k + 1) = k := by rw [pickF, if_pos h]
theorem pickF_f {l : List MFibHop} {f : Int} {k : Nat} (h : ¬ scoreAt l f (pickF l f k) < scoreAt l f k) : pickF l f (k + 1) = pickF l f k := by rw [pickF, if_neg h]
def pickV (l : List MFibHop) (f : Int) : Int := if hopsOk l then (pickF l f l.length : Int) else -1
theorem hopsOk_len {l : List MFibHop} (h : hopsOk l = true) : 1 ≤ l.length ∧ l.length ≤ 4 := by
  unfold hopsOk at h
  rw [Bool.and_eq_true] at h
  have := inB_t h.1
  omega
theorem implFibPick_c (v : Value) (l : List MFibHop) (f : Int) (w : World) (hm : Mem w v 2 l.length (l.flatMap clFibHop)) : Calls Try.prog 22 #[v, .int .i64 f] w (RetN (.int .i64 (pickV l f)) w) := by
  have hol := @hopsOk_len l
  refine enter (n := 31) (E := [(0, _), (1, _)]) Try.func22 rfl rfl rfl rfl ?_
  repeat' (first
    | (refine gS ?_; (first
        | (refine S_move rfl rfl ?_)
        | (refine S_assign rfl rfl ?_)
        | (apply F_idx rfl rfl rfl; exact T.sl35; (focus rfl); (focus (first | exact len_nil | (apply len_given; assumption) | (apply len_row; (focus ((repeat (first | exact List.Mem.head _ | refine List.Mem.tail _ ?_)); done))) | (refine len_isN ?_; assumption))); (focus omega))
        | (apply F_idxZ rfl rfl rfl; exact T.sl35; (focus omega); (focus (first | exact len_nil | (apply len_given; assumption) | (apply len_row; (focus ((repeat (first | exact List.Mem.head _ | refine List.Mem.tail _ ?_)); done))) | (refine len_isN ?_; assumption))); (focus omega))
        | (refine gLoad ?_; (first
            | (apply F_loadAll rfl rfl; (focus ((repeat (first | exact List.Mem.head _ | refine List.Mem.tail _ ?_)); done)); exact T.rw25; (focus (first | exact free0 | exact free1)))
            | (apply F_loadP rfl rfl; (focus ((repeat (first | exact List.Mem.head _ | refine List.Mem.tail _ ?_)); done)); exact T.rw25; (focus ((repeat (first | exact Take.nil | apply Take.here | apply Take.there)); done)); rfl; (focus (first | exact free0 | exact free1)))
            | (apply F_loadSN rfl rfl; exact T.rw25; (focus (first | exact rd_nil | (apply rd_given; (focus assumption); (focus (first | exact freeG0 | exact freeG1))) | (apply rd_row; (focus ((repeat (first | exact List.Mem.head _ | refine List.Mem.tail _ ?_)); done)); (focus (first | exact freeR0 | exact freeR1))))); (focus (first | (focus (apply at_flat; (focus (intro _; rfl)); (focus assumption))) | exact at_self)); rfl; rfl)
            | (apply F_loadSP rfl rfl; exact T.rw25; (focus (first | exact rd_nil | (apply rd_given; (focus assumption); (focus (first | exact freeG0 | exact freeG1))) | (apply rd_row; (focus ((repeat (first | exact List.Mem.head _ | refine List.Mem.tail _ ?_)); done)); (focus (first | exact freeR0 | exact freeR1))))); (focus (apply at_flat; (focus (intro _; rfl)); (focus assumption))); (focus ((repeat (first | exact Take.nil | apply Take.here | apply Take.there)); done)); rfl; rfl)))
        | (refine gStore ?_; (first
            | (apply F_storeN rfl rfl; (focus (first | rfl | assumption | (simp only [List.append_nil, List.all_cons, List.all_nil, Bool.and_true, Bool.true_and, one_int, one_bool, one_string, one_slice, one_pointer, *]; done))); exact T.rw25; (focus ((repeat (first | exact Upd.here | apply Upd.there)); done)); (focus ((repeat (first | exact SetSeg.nil | apply SetSeg.here | apply SetSeg.there)); done)); (first | exact okst2 | exact okst1 | exact okst1'))
            | (apply F_storeSN rfl rfl; (focus ((repeat (first | exact Upd.here | apply Upd.there)); done)); exact T.rw25; rfl; (focus (first | rfl | assumption | (simp only [List.append_nil, List.all_cons, List.all_nil, Bool.and_true, Bool.true_and, one_int, one_bool, one_string, one_slice, one_pointer, *]; done))); rfl; (focus omega); (first | exact okst2 | exact okst1 | exact okst1'))))
        | (refine gCall ?_; (first
            | (refine S_callN (f := 19) rfl T.pf19 rfl (fun w hst => implFibHopsOk_c _ l w (by first | (refine Mem.given hst ?_; assumption) | (apply Mem.row hst; (focus ((repeat (first | exact List.Mem.head _ | refine List.Mem.tail _ ?_)); done))))) rfl ?_)
            | (apply F_len rfl rfl rfl; (focus exact ⟨_, _, by exact T.sl35⟩); (focus (first | exact len_nil | (apply len_given; assumption) | (apply len_row; (focus ((repeat (first | exact List.Mem.head _ | refine List.Mem.tail _ ?_)); done))) | (refine len_isN ?_; assumption))))))
        | (refine gBin ?_; (first
            | (refine S_lss rfl rfl rfl ?_)
            | (refine S_gtr rfl rfl rfl ?_)
            | (refine S_add rfl rfl ?_ rfl ?_; (focus (unfold rng; omega)))))
        | (apply S_alloc rfl (hd := rfl); exact T.zc25; intro kb)
        | (apply F_build2 rfl (hd := rfl); exact T.st25; (focus ((repeat (first | exact BuildR.nil | (apply BuildR.cons; (first | exact T.fs25_0 | exact T.fs25_1); rfl; rfl; (focus ((repeat (first | exact SetSeg.nil | apply SetSeg.here | apply SetSeg.there)); done))) | (apply BuildR.cons1; (first | exact T.fs25_0 | exact T.fs25_1); (focus assumption); (focus ((repeat (first | exact SetSeg.nil | apply SetSeg.here | apply SetSeg.there)); done))))); done)))
        | (refine S_not rfl rfl ?_)
        | (refine S_done ?_)))
    | (refine gC ?_; (first
        | (refine C_seq ?_)
        | (refine gReg ?_; (first
            | (refine gReg (i := 0) ?_; refine C_plain [(0, 0)] (by kernel_rfl) (s := [⟨0, none, _, _, _⟩]) rfl ?_)
            | (refine gReg (i := 1) ?_; refine C_plain [(0, 0), (1, 2), (2, 0)] (by kernel_rfl) (s := [⟨0, none, _, _, _⟩, ⟨2, none, _, _, _⟩, ⟨0, none, _, _, _⟩]) rfl ?_)
            | (refine gReg (i := 2) ?_; refine C_plain [(0, 0)] (by kernel_rfl) (s := [⟨0, none, _, _, _⟩]) rfl ?_)
            | (refine gReg (i := 3) ?_; refine C_plain [(0, 0)] (by kernel_rfl) (s := [⟨0, none, _, _, _⟩]) rfl ?_)
            | (refine gReg (i := 4) ?_; refine C_plain [(0, 0), (1, 0), (2, 0)] (by kernel_rfl) (s := [⟨0, none, _, _, _⟩, ⟨0, none, _, _, _⟩, ⟨0, none, _, _, _⟩]) rfl ?_)
            | (refine gReg (i := 5) ?_; refine C_plain [(0, 0)] (by kernel_rfl) (s := [⟨0, none, _, _, _⟩]) rfl ?_)
            | (refine gReg (i := 6) ?_; refine C_plain [(0, 0), (1, 0), (2, 0), (3, 2), (4, 0), (5, 2)] (by kernel_rfl) (s := [⟨0, none, _, _, _⟩, ⟨0, none, _, _, _⟩, ⟨0, none, _, _, _⟩, ⟨2, none, _, _, _⟩, ⟨0, none, _, _, _⟩, ⟨2, none, _, _, _⟩]) rfl ?_)
            | (refine gReg (i := 7) ?_; refine C_drawn [(0, 0), (1, 0), (3, 0), (4, 0), (5, 0), (6, 0), (7, 0), (2, 1), (8, 1), (9, 0)] [] T.mixed (by kernel_rfl) (s := [⟨0, none, _, _, _⟩, ⟨0, none, _, _, _⟩, ⟨0, none, _, _, _⟩, ⟨0, none, _, _, _⟩, ⟨0, none, _, _, _⟩, ⟨0, none, _, _, _⟩, ⟨0, none, _, _, _⟩, ⟨1, none, _, _, _⟩, ⟨1, none, _, _, _⟩, ⟨0, none, _, _, _⟩]) rfl ?_)
            | (refine gReg (i := 8) ?_; refine C_plain [(0, 0), (1, 0)] (by kernel_rfl) (s := [⟨0, none, _, _, _⟩, ⟨0, none, _, _, _⟩]) rfl ?_)
            | (refine gReg (i := 9) ?_; refine C_plain [(0, 0), (1, 0)] (by kernel_rfl) (s := [⟨0, none, _, _, _⟩, ⟨0, none, _, _, _⟩]) rfl ?_)
            | (refine gReg (i := 10) ?_; refine C_plain [(0, 0), (1, 0)] (by kernel_rfl) (s := [⟨0, none, _, _, _⟩, ⟨0, none, _, _, _⟩]) rfl ?_)))
        | (refine C_true rfl ?_)
        | (refine C_false rfl ?_)
        | (refine C_split rfl ?_ ?_ <;> (intro hb; (try simp only [decide_eq_true_eq] at hb); (try simp only [decide_eq_false_iff_not] at hb); (try simp only [Bool.not_eq_true'] at hb); (try simp only [Bool.not_eq_false'] at hb); (try (exfalso; first | contradiction | omega)); (try (have hl := hol hb))))
        | (refine C_skip ?_)
        | (refine C_exit ?_)
        | (refine C_ret ?_)
        | (refine C_block ?_)))
    | (refine gE ?_; (first
        | (refine E_then ?_)
        | (refine E_thenX ?_)
        | (refine E_thenR ?_)
        | (refine E_block ?_)
        | (refine E_blockY ?_)
        | (refine E_blockR ?_)
        | (refine E_calm ?_)
        | (refine E_blockX rfl ?_)
        | (apply E_ret1 rfl; (first | exact Res.tmp rfl | (apply R_cellAll rfl; (focus ((repeat (first | exact List.Mem.head _ | refine List.Mem.tail _ ?_)); done)); exact T.rw25) | (apply R_cell1 rfl; (focus ((repeat (first | exact List.Mem.head _ | refine List.Mem.tail _ ?_)); done)); fail)))
        | (apply E_ret2 rfl; (first | exact Res.tmp rfl | (apply R_cellAll rfl; (focus ((repeat (first | exact List.Mem.head _ | refine List.Mem.tail _ ?_)); done)); exact T.rw25) | (apply R_cell1 rfl; (focus ((repeat (first | exact List.Mem.head _ | refine List.Mem.tail _ ?_)); done)); fail)); (first | exact Res.tmp rfl | (apply R_cellAll rfl; (focus ((repeat (first | exact List.Mem.head _ | refine List.Mem.tail _ ?_)); done)); exact T.rw25) | (apply R_cell1 rfl; (focus ((repeat (first | exact List.Mem.head _ | refine List.Mem.tail _ ?_)); done)); fail)))
        | (apply E_ret3 rfl; (first | exact Res.tmp rfl | (apply R_cellAll rfl; (focus ((repeat (first | exact List.Mem.head _ | refine List.Mem.tail _ ?_)); done)); exact T.rw25) | (apply R_cell1 rfl; (focus ((repeat (first | exact List.Mem.head _ | refine List.Mem.tail _ ?_)); done)); fail)); (first | exact Res.tmp rfl | (apply R_cellAll rfl; (focus ((repeat (first | exact List.Mem.head _ | refine List.Mem.tail _ ?_)); done)); exact T.rw25) | (apply R_cell1 rfl; (focus ((repeat (first | exact List.Mem.head _ | refine List.Mem.tail _ ?_)); done)); fail)); (first | exact Res.tmp rfl | (apply R_cellAll rfl; (focus ((repeat (first | exact List.Mem.head _ | refine List.Mem.tail _ ?_)); done)); exact T.rw25) | (apply R_cell1 rfl; (focus ((repeat (first | exact List.Mem.head _ | refine List.Mem.tail _ ?_)); done)); fail))))))
  · refine retN ?_; simp [pickV, *]
  have hl : 1 ≤ l.length ∧ l.length ≤ 4 := hol (by assumption)
  refine C_loop (α := Nat) (fun k => [(13, .int .i64 (k : Int)), (12, .int .i64 (l.length : Int)), (11, v), (5, .int .i64 (pickF l f k : Int)), (0, v), (1, .int .i64 f)]) (fun _ => []) (fun k => k ≤ l.length) (fun k => l.length - k) 0 (by omega) ⟨rfl, rfl, rfl, rfl, rfl, rfl, trivial⟩ (List.Sublist.refl _) ?_
  intro k hk
  have hr := pickF_rng l f k
  have hp : (k : Int) < (l.length : Int) → l[pickF l f k]? = some (ix l (pickF l f k)) := fun h => nthD (by omega)
  try dsimp only
  repeat' (first
    | (refine gS ?_; (first
        | (refine S_move rfl rfl ?_)
        | (refine S_assign rfl rfl ?_)
        | (apply F_idx rfl rfl rfl; exact T.sl35; (focus rfl); (focus (first | exact len_nil | (apply len_given; assumption) | (apply len_row; (focus ((repeat (first | exact List.Mem.head _ | refine List.Mem.tail _ ?_)); done))) | (refine len_isN ?_; assumption))); (focus omega))
        | (apply F_idxZ rfl rfl rfl; exact T.sl35; (focus omega); (focus (first | exact len_nil | (apply len_given; assumption) | (apply len_row; (focus ((repeat (first | exact List.Mem.head _ | refine List.Mem.tail _ ?_)); done))) | (refine len_isN ?_; assumption))); (focus omega))
        | (refine gLoad ?_; (first
            | (apply F_loadAll rfl rfl; (focus ((repeat (first | exact List.Mem.head _ | refine List.Mem.tail _ ?_)); done)); exact T.rw25; (focus (first | exact free0 | exact free1)))
            | (apply F_loadP rfl rfl; (focus ((repeat (first | exact List.Mem.head _ | refine List.Mem.tail _ ?_)); done)); exact T.rw25; (focus ((repeat (first | exact Take.nil | apply Take.here | apply Take.there)); done)); rfl; (focus (first | exact free0 | exact free1)))
            | (apply F_loadSN rfl rfl; exact T.rw25; (focus (first | exact rd_nil | (apply rd_given; (focus assumption); (focus (first | exact freeG0 | exact freeG1))) | (apply rd_row; (focus ((repeat (first | exact List.Mem.head _ | refine List.Mem.tail _ ?_)); done)); (focus (first | exact freeR0 | exact freeR1))))); (focus (first | (focus (apply at_flat; (focus (intro _; rfl)); (focus assumption))) | exact at_self)); rfl; rfl)
            | (apply F_loadSP rfl rfl; exact T.rw25; (focus (first | exact rd_nil | (apply rd_given; (focus assumption); (focus (first | exact freeG0 | exact freeG1))) | (apply rd_row; (focus ((repeat (first | exact List.Mem.head _ | refine List.Mem.tail _ ?_)); done)); (focus (first | exact freeR0 | exact freeR1))))); (focus (apply at_flat; (focus (intro _; rfl)); (focus assumption))); (focus ((repeat (first | exact Take.nil | apply Take.here | apply Take.there)); done)); rfl; rfl)))
        | (refine gStore ?_; (first
            | (apply F_storeN rfl rfl; (focus (first | rfl | assumption | (simp only [List.append_nil, List.all_cons, List.all_nil, Bool.and_true, Bool.true_and, one_int, one_bool, one_string, one_slice, one_pointer, *]; done))); exact T.rw25; (focus ((repeat (first | exact Upd.here | apply Upd.there)); done)); (focus ((repeat (first | exact SetSeg.nil | apply SetSeg.here | apply SetSeg.there)); done)); (first | exact okst2 | exact okst1 | exact okst1'))
            | (apply F_storeSN rfl rfl; (focus ((repeat (first | exact Upd.here | apply Upd.there)); done)); exact T.rw25; rfl; (focus (first | rfl | assumption | (simp only [List.append_nil, List.all_cons, List.all_nil, Bool.and_true, Bool.true_and, one_int, one_bool, one_string, one_slice, one_pointer, *]; done))); rfl; (focus omega); (first | exact okst2 | exact okst1 | exact okst1'))))
        | (refine gCall ?_; (first
            | (refine S_callN (f := 14) rfl T.pf14 rfl (fun w hst => implFibScore_c _ _ _ w) rfl ?_)
            | (apply F_len rfl rfl rfl; (focus exact ⟨_, _, by exact T.sl35⟩); (focus (first | exact len_nil | (apply len_given; assumption) | (apply len_row; (focus ((repeat (first | exact List.Mem.head _ | refine List.Mem.tail _ ?_)); done))) | (refine len_isN ?_; assumption))))))
        | (refine gBin ?_; (first
            | (refine S_lss rfl rfl rfl ?_)
            | (refine S_gtr rfl rfl rfl ?_)
            | (refine S_add rfl rfl ?_ rfl ?_; (focus (unfold rng; omega)))))
        | (apply S_alloc rfl (hd := rfl); exact T.zc25; intro kb)
        | (apply F_build2 rfl (hd := rfl); exact T.st25; (focus ((repeat (first | exact BuildR.nil | (apply BuildR.cons; (first | exact T.fs25_0 | exact T.fs25_1); rfl; rfl; (focus ((repeat (first | exact SetSeg.nil | apply SetSeg.here | apply SetSeg.there)); done))) | (apply BuildR.cons1; (first | exact T.fs25_0 | exact T.fs25_1); (focus assumption); (focus ((repeat (first | exact SetSeg.nil | apply SetSeg.here | apply SetSeg.there)); done))))); done)))
        | (refine S_not rfl rfl ?_)
        | (refine S_done ?_)))
    | (refine gC ?_; (first
        | (refine C_seq ?_)
        | (refine gReg ?_; (first
            | (refine gReg (i := 0) ?_; refine C_plain [(0, 0)] (by kernel_rfl) (s := [⟨0, none, _, _, _⟩]) rfl ?_)
            | (refine gReg (i := 1) ?_; refine C_plain [(0, 0), (1, 2), (2, 0)] (by kernel_rfl) (s := [⟨0, none, _, _, _⟩, ⟨2, none, _, _, _⟩, ⟨0, none, _, _, _⟩]) rfl ?_)
            | (refine gReg (i := 2) ?_; refine C_plain [(0, 0)] (by kernel_rfl) (s := [⟨0, none, _, _, _⟩]) rfl ?_)
            | (refine gReg (i := 3) ?_; refine C_plain [(0, 0)] (by kernel_rfl) (s := [⟨0, none, _, _, _⟩]) rfl ?_)
            | (refine gReg (i := 4) ?_; refine C_plain [(0, 0), (1, 0), (2, 0)] (by kernel_rfl) (s := [⟨0, none, _, _, _⟩, ⟨0, none, _, _, _⟩, ⟨0, none, _, _, _⟩]) rfl ?_)
            | (refine gReg (i := 5) ?_; refine C_plain [(0, 0)] (by kernel_rfl) (s := [⟨0, none, _, _, _⟩]) rfl ?_)
            | (refine gReg (i := 6) ?_; refine C_plain [(0, 0), (1, 0), (2, 0), (3, 2), (4, 0), (5, 2)] (by kernel_rfl) (s := [⟨0, none, _, _, _⟩, ⟨0, none, _, _, _⟩, ⟨0, none, _, _, _⟩, ⟨2, none, _, _, _⟩, ⟨0, none, _, _, _⟩, ⟨2, none, _, _, _⟩]) rfl ?_)
            | (refine gReg (i := 7) ?_; refine C_drawn [(0, 0), (1, 0), (3, 0), (4, 0), (5, 0), (6, 0), (7, 0), (2, 1), (8, 1), (9, 0)] [] T.mixed (by kernel_rfl) (s := [⟨0, none, _, _, _⟩, ⟨0, none, _, _, _⟩, ⟨0, none, _, _, _⟩, ⟨0, none, _, _, _⟩, ⟨0, none, _, _, _⟩, ⟨0, none, _, _, _⟩, ⟨0, none, _, _, _⟩, ⟨1, none, _, _, _⟩, ⟨1, none, _, _, _⟩, ⟨0, none, _, _, _⟩]) rfl ?_)
            | (refine gReg (i := 8) ?_; refine C_plain [(0, 0), (1, 0)] (by kernel_rfl) (s := [⟨0, none, _, _, _⟩, ⟨0, none, _, _, _⟩]) rfl ?_)
            | (refine gReg (i := 9) ?_; refine C_plain [(0, 0), (1, 0)] (by kernel_rfl) (s := [⟨0, none, _, _, _⟩, ⟨0, none, _, _, _⟩]) rfl ?_)
            | (refine gReg (i := 10) ?_; refine C_plain [(0, 0), (1, 0)] (by kernel_rfl) (s := [⟨0, none, _, _, _⟩, ⟨0, none, _, _, _⟩]) rfl ?_)))
        | (refine C_true rfl ?_)
        | (refine C_false rfl ?_)
        | (refine C_split rfl ?_ ?_ <;> (intro hb; (try simp only [decide_eq_true_eq] at hb); (try simp only [decide_eq_false_iff_not] at hb); (try simp only [Bool.not_eq_true'] at hb); (try simp only [Bool.not_eq_false'] at hb); (try (exfalso; first | contradiction | omega)); (try (have hx := nthD (l := l) (k := k) hb)); (try (have hx' := hp hb))))
        | (refine C_skip ?_)
        | (refine C_exit ?_)
        | (refine C_ret ?_)
        | (refine C_block ?_)))
    | (refine gE ?_; (first
        | (refine E_then ?_)
        | (refine E_thenX ?_)
        | (refine E_thenR ?_)
        | (refine E_block ?_)
        | (refine E_blockY ?_)
        | (refine E_blockR ?_)
        | (refine E_calm ?_)
        | (refine E_blockX rfl ?_)
        | (apply E_ret1 rfl; (first | exact Res.tmp rfl | (apply R_cellAll rfl; (focus ((repeat (first | exact List.Mem.head _ | refine List.Mem.tail _ ?_)); done)); exact T.rw25) | (apply R_cell1 rfl; (focus ((repeat (first | exact List.Mem.head _ | refine List.Mem.tail _ ?_)); done)); fail)))
        | (apply E_ret2 rfl; (first | exact Res.tmp rfl | (apply R_cellAll rfl; (focus ((repeat (first | exact List.Mem.head _ | refine List.Mem.tail _ ?_)); done)); exact T.rw25) | (apply R_cell1 rfl; (focus ((repeat (first | exact List.Mem.head _ | refine List.Mem.tail _ ?_)); done)); fail)); (first | exact Res.tmp rfl | (apply R_cellAll rfl; (focus ((repeat (first | exact List.Mem.head _ | refine List.Mem.tail _ ?_)); done)); exact T.rw25) | (apply R_cell1 rfl; (focus ((repeat (first | exact List.Mem.head _ | refine List.Mem.tail _ ?_)); done)); fail)))
        | (apply E_ret3 rfl; (first | exact Res.tmp rfl | (apply R_cellAll rfl; (focus ((repeat (first | exact List.Mem.head _ | refine List.Mem.tail _ ?_)); done)); exact T.rw25) | (apply R_cell1 rfl; (focus ((repeat (first | exact List.Mem.head _ | refine List.Mem.tail _ ?_)); done)); fail)); (first | exact Res.tmp rfl | (apply R_cellAll rfl; (focus ((repeat (first | exact List.Mem.head _ | refine List.Mem.tail _ ?_)); done)); exact T.rw25) | (apply R_cell1 rfl; (focus ((repeat (first | exact List.Mem.head _ | refine List.Mem.tail _ ?_)); done)); fail)); (first | exact Res.tmp rfl | (apply R_cellAll rfl; (focus ((repeat (first | exact List.Mem.head _ | refine List.Mem.tail _ ?_)); done)); exact T.rw25) | (apply R_cell1 rfl; (focus ((repeat (first | exact List.Mem.head _ | refine List.Mem.tail _ ?_)); done)); fail))))))
  all_goals first
    | (refine E_round (α := Nat) (k + 1) ?_ ?_ ?_ ?_
       · omega
       · omega
       · refine ⟨rfl, rfl, rfl, ?_, rfl, rfl, trivial⟩
         first
           | (rw [pickF_t (k := k) (by unfold scoreAt; assumption)]; rfl)
           | (rw [pickF_f (k := k) (by unfold scoreAt; assumption)]; rfl)
       · exact List.nil_sublist _)
    | (refine retN ?_
       have e : k = l.length := by omega
       subst e
       simp [pickV, *])
theorem specFibPick_c (v : Value) (l : List MFibHop) (f : Int) (w : World) (hm : Mem w v 2 l.length (l.flatMap clFibHop)) : Calls Try.prog 21 #[v, .int .i64 f] w (RetN (.int .i64 (pickV l f)) w) := by
  have hol := @hopsOk_len l
  refine enter (n := 31) (E := [(0, _), (1, _)]) Try.func21 rfl rfl rfl rfl ?_
  repeat' (first
    | (refine gS ?_; (first
        | (refine S_move rfl rfl ?_)
        | (refine S_assign rfl rfl ?_)
        | (apply F_idx rfl rfl rfl; exact T.sl35; (focus rfl); (focus (first | exact len_nil | (apply len_given; assumption) | (apply len_row; (focus ((repeat (first | exact List.Mem.head _ | refine List.Mem.tail _ ?_)); done))) | (refine len_isN ?_; assumption))); (focus omega))
        | (apply F_idxZ rfl rfl rfl; exact T.sl35; (focus omega); (focus (first | exact len_nil | (apply len_given; assumption) | (apply len_row; (focus ((repeat (first | exact List.Mem.head _ | refine List.Mem.tail _ ?_)); done))) | (refine len_isN ?_; assumption))); (focus omega))
        | (refine gLoad ?_; (first
            | (apply F_loadAll rfl rfl; (focus ((repeat (first | exact List.Mem.head _ | refine List.Mem.tail _ ?_)); done)); exact T.rw25; (focus (first | exact free0 | exact free1)))
            | (apply F_loadP rfl rfl; (focus ((repeat (first | exact List.Mem.head _ | refine List.Mem.tail _ ?_)); done)); exact T.rw25; (focus ((repeat (first | exact Take.nil | apply Take.here | apply Take.there)); done)); rfl; (focus (first | exact free0 | exact free1)))
            | (apply F_loadSN rfl rfl; exact T.rw25; (focus (first | exact rd_nil | (apply rd_given; (focus assumption); (focus (first | exact freeG0 | exact freeG1))) | (apply rd_row; (focus ((repeat (first | exact List.Mem.head _ | refine List.Mem.tail _ ?_)); done)); (focus (first | exact freeR0 | exact freeR1))))); (focus (first | (focus (apply at_flat; (focus (intro _; rfl)); (focus assumption))) | exact at_self)); rfl; rfl)
            | (apply F_loadSP rfl rfl; exact T.rw25; (focus (first | exact rd_nil | (apply rd_given; (focus assumption); (focus (first | exact freeG0 | exact freeG1))) | (apply rd_row; (focus ((repeat (first | exact List.Mem.head _ | refine List.Mem.tail _ ?_)); done)); (focus (first | exact freeR0 | exact freeR1))))); (focus (apply at_flat; (focus (intro _; rfl)); (focus assumption))); (focus ((repeat (first | exact Take.nil | apply Take.here | apply Take.there)); done)); rfl; rfl)))
        | (refine gCall ?_; (first
            | (refine S_callN (f := 17) rfl T.pf17 rfl (fun w hst => specFibHopsOk_c _ l w (by first | (refine Mem.given hst ?_; assumption) | (apply Mem.row hst; (focus ((repeat (first | exact List.Mem.head _ | refine List.Mem.tail _ ?_)); done))))) rfl ?_)
            | (apply F_len rfl rfl rfl; (focus exact ⟨_, _, by exact T.sl35⟩); (focus (first | exact len_nil | (apply len_given; assumption) | (apply len_row; (focus ((repeat (first | exact List.Mem.head _ | refine List.Mem.tail _ ?_)); done))) | (refine len_isN ?_; assumption))))))
        | (refine gBin ?_; (first
            | (refine S_lss rfl rfl rfl ?_)
            | (refine S_gtr rfl rfl rfl ?_)
            | (refine S_add rfl rfl ?_ rfl ?_; (focus (unfold rng; omega)))))
        | (refine S_not rfl rfl ?_)
        | (refine S_done ?_)))
    | (refine gC ?_; (first
        | (refine C_seq ?_)
        | (refine gReg ?_; (first
            | (refine gReg (i := 0) ?_; refine C_plain [(0, 0)] (by kernel_rfl) (s := [⟨0, none, _, _, _⟩]) rfl ?_)
            | (refine gReg (i := 1) ?_; refine C_plain [(0, 0), (1, 2), (2, 0)] (by kernel_rfl) (s := [⟨0, none, _, _, _⟩, ⟨2, none, _, _, _⟩, ⟨0, none, _, _, _⟩]) rfl ?_)
            | (refine gReg (i := 2) ?_; refine C_plain [(0, 0)] (by kernel_rfl) (s := [⟨0, none, _, _, _⟩]) rfl ?_)
            | (refine gReg (i := 3) ?_; refine C_plain [(0, 0)] (by kernel_rfl) (s := [⟨0, none, _, _, _⟩]) rfl ?_)
            | (refine gReg (i := 4) ?_; refine C_plain [(0, 0)] (by kernel_rfl) (s := [⟨0, none, _, _, _⟩]) rfl ?_)
            | (refine gReg (i := 5) ?_; refine C_plain [(0, 0), (1, 0), (2, 0), (3, 0)] (by kernel_rfl) (s := [⟨0, none, _, _, _⟩, ⟨0, none, _, _, _⟩, ⟨0, none, _, _, _⟩, ⟨0, none, _, _, _⟩]) rfl ?_)
            | (refine gReg (i := 7) ?_; refine C_drawn [(0, 0), (1, 0), (2, 0), (3, 0), (4, 0), (6, 0), (7, 0), (8, 0), (9, 0), (10, 0), (5, 1), (11, 1), (12, 0)] [] T.mixed (by kernel_rfl) (s := [⟨0, none, _, _, _⟩, ⟨0, none, _, _, _⟩, ⟨0, none, _, _, _⟩, ⟨0, none, _, _, _⟩, ⟨0, none, _, _, _⟩, ⟨0, none, _, _, _⟩, ⟨0, none, _, _, _⟩, ⟨0, none, _, _, _⟩, ⟨0, none, _, _, _⟩, ⟨0, none, _, _, _⟩, ⟨1, none, _, _, _⟩, ⟨1, none, _, _, _⟩, ⟨0, none, _, _, _⟩]) rfl ?_)
            | (refine gReg (i := 8) ?_; refine C_plain [(0, 0), (1, 0)] (by kernel_rfl) (s := [⟨0, none, _, _, _⟩, ⟨0, none, _, _, _⟩]) rfl ?_)
            | (refine gReg (i := 6) ?_; refine C_plain [(0, 0), (1, 0), (2, 0)] (by kernel_rfl) (s := [⟨0, none, _, _, _⟩, ⟨0, none, _, _, _⟩, ⟨0, none, _, _, _⟩]) rfl ?_)
            | (refine gReg (i := 9) ?_; refine C_plain [(0, 0), (1, 0)] (by kernel_rfl) (s := [⟨0, none, _, _, _⟩, ⟨0, none, _, _, _⟩]) rfl ?_)))
        | (refine C_true rfl ?_)
        | (refine C_false rfl ?_)
        | (refine C_split rfl ?_ ?_ <;> (intro hb; (try simp only [decide_eq_true_eq] at hb); (try simp only [decide_eq_false_iff_not] at hb); (try simp only [Bool.not_eq_true'] at hb); (try simp only [Bool.not_eq_false'] at hb); (try (exfalso; first | contradiction | omega)); (try (have hl := hol hb))))
        | (refine C_skip ?_)
        | (refine C_exit ?_)
        | (refine C_ret ?_)
        | (refine C_block ?_)))
    | (refine gE ?_; (first
        | (refine E_then ?_)
        | (refine E_thenX ?_)
        | (refine E_thenR ?_)
        | (refine E_block ?_)
        | (refine E_blockY ?_)
        | (refine E_blockR ?_)
        | (refine E_calm ?_)
        | (refine E_blockX rfl ?_)
        | (apply E_ret1 rfl; (first | exact Res.tmp rfl | (apply R_cellAll rfl; (focus ((repeat (first | exact List.Mem.head _ | refine List.Mem.tail _ ?_)); done)); exact T.rw25) | (apply R_cell1 rfl; (focus ((repeat (first | exact List.Mem.head _ | refine List.Mem.tail _ ?_)); done)); fail)))
        | (apply E_ret2 rfl; (first | exact Res.tmp rfl | (apply R_cellAll rfl; (focus ((repeat (first | exact List.Mem.head _ | refine List.Mem.tail _ ?_)); done)); exact T.rw25) | (apply R_cell1 rfl; (focus ((repeat (first | exact List.Mem.head _ | refine List.Mem.tail _ ?_)); done)); fail)); (first | exact Res.tmp rfl | (apply R_cellAll rfl; (focus ((repeat (first | exact List.Mem.head _ | refine List.Mem.tail _ ?_)); done)); exact T.rw25) | (apply R_cell1 rfl; (focus ((repeat (first | exact List.Mem.head _ | refine List.Mem.tail _ ?_)); done)); fail)))
        | (apply E_ret3 rfl; (first | exact Res.tmp rfl | (apply R_cellAll rfl; (focus ((repeat (first | exact List.Mem.head _ | refine List.Mem.tail _ ?_)); done)); exact T.rw25) | (apply R_cell1 rfl; (focus ((repeat (first | exact List.Mem.head _ | refine List.Mem.tail _ ?_)); done)); fail)); (first | exact Res.tmp rfl | (apply R_cellAll rfl; (focus ((repeat (first | exact List.Mem.head _ | refine List.Mem.tail _ ?_)); done)); exact T.rw25) | (apply R_cell1 rfl; (focus ((repeat (first | exact List.Mem.head _ | refine List.Mem.tail _ ?_)); done)); fail)); (first | exact Res.tmp rfl | (apply R_cellAll rfl; (focus ((repeat (first | exact List.Mem.head _ | refine List.Mem.tail _ ?_)); done)); exact T.rw25) | (apply R_cell1 rfl; (focus ((repeat (first | exact List.Mem.head _ | refine List.Mem.tail _ ?_)); done)); fail))))))
  · refine retN ?_; simp [pickV, *]
  have hl : 1 ≤ l.length ∧ l.length ≤ 4 := hol (by assumption)
  refine C_loop (α := Nat) (fun k => [(6, .int .i64 (k : Int)), (5, .int .i64 (pickF l f k : Int)), (0, v), (1, .int .i64 f)]) (fun _ => []) (fun k => 1 ≤ k ∧ k ≤ l.length) (fun k => l.length - k) 1 (by omega) ⟨rfl, by simp [pickF]; rfl, rfl, rfl, trivial⟩ (List.Sublist.refl _) ?_
  rintro k ⟨h1, hk⟩
  have hr := pickF_rng l f k
  have hp : (k : Int) < (l.length : Int) → l[pickF l f k]? = some (ix l (pickF l f k)) := fun h => nthD (by omega)
  try dsimp only
  repeat' (first
    | (refine gS ?_; (first
        | (refine S_move rfl rfl ?_)
        | (refine S_assign rfl rfl ?_)
        | (apply F_idx rfl rfl rfl; exact T.sl35; (focus rfl); (focus (first | exact len_nil | (apply len_given; assumption) | (apply len_row; (focus ((repeat (first | exact List.Mem.head _ | refine List.Mem.tail _ ?_)); done))) | (refine len_isN ?_; assumption))); (focus omega))
        | (apply F_idxZ rfl rfl rfl; exact T.sl35; (focus omega); (focus (first | exact len_nil | (apply len_given; assumption) | (apply len_row; (focus ((repeat (first | exact List.Mem.head _ | refine List.Mem.tail _ ?_)); done))) | (refine len_isN ?_; assumption))); (focus omega))
        | (refine gLoad ?_; (first
            | (apply F_loadAll rfl rfl; (focus ((repeat (first | exact List.Mem.head _ | refine List.Mem.tail _ ?_)); done)); exact T.rw25; (focus (first | exact free0 | exact free1)))
            | (apply F_loadP rfl rfl; (focus ((repeat (first | exact List.Mem.head _ | refine List.Mem.tail _ ?_)); done)); exact T.rw25; (focus ((repeat (first | exact Take.nil | apply Take.here | apply Take.there)); done)); rfl; (focus (first | exact free0 | exact free1)))
            | (apply F_loadSN rfl rfl; exact T.rw25; (focus (first | exact rd_nil | (apply rd_given; (focus assumption); (focus (first | exact freeG0 | exact freeG1))) | (apply rd_row; (focus ((repeat (first | exact List.Mem.head _ | refine List.Mem.tail _ ?_)); done)); (focus (first | exact freeR0 | exact freeR1))))); (focus (first | (focus (apply at_flat; (focus (intro _; rfl)); (focus assumption))) | exact at_self)); rfl; rfl)
            | (apply F_loadSP rfl rfl; exact T.rw25; (focus (first | exact rd_nil | (apply rd_given; (focus assumption); (focus (first | exact freeG0 | exact freeG1))) | (apply rd_row; (focus ((repeat (first | exact List.Mem.head _ | refine List.Mem.tail _ ?_)); done)); (focus (first | exact freeR0 | exact freeR1))))); (focus (apply at_flat; (focus (intro _; rfl)); (focus assumption))); (focus ((repeat (first | exact Take.nil | apply Take.here | apply Take.there)); done)); rfl; rfl)))
        | (refine gCall ?_; (first
            | (refine S_callN (f := 12) rfl T.pf12 rfl (fun w hst => specFibScore_c _ _ _ w) rfl ?_)
            | (apply F_len rfl rfl rfl; (focus exact ⟨_, _, by exact T.sl35⟩); (focus (first | exact len_nil | (apply len_given; assumption) | (apply len_row; (focus ((repeat (first | exact List.Mem.head _ | refine List.Mem.tail _ ?_)); done))) | (refine len_isN ?_; assumption))))))
        | (refine gBin ?_; (first
            | (refine S_lss rfl rfl rfl ?_)
            | (refine S_gtr rfl rfl rfl ?_)
            | (refine S_add rfl rfl ?_ rfl ?_; (focus (unfold rng; omega)))))
        | (refine S_not rfl rfl ?_)
        | (refine S_done ?_)))
    | (refine gC ?_; (first
        | (refine C_seq ?_)
        | (refine gReg ?_; (first
            | (refine gReg (i := 0) ?_; refine C_plain [(0, 0)] (by kernel_rfl) (s := [⟨0, none, _, _, _⟩]) rfl ?_)
            | (refine gReg (i := 1) ?_; refine C_plain [(0, 0), (1, 2), (2, 0)] (by kernel_rfl) (s := [⟨0, none, _, _, _⟩, ⟨2, none, _, _, _⟩, ⟨0, none, _, _, _⟩]) rfl ?_)
            | (refine gReg (i := 2) ?_; refine C_plain [(0, 0)] (by kernel_rfl) (s := [⟨0, none, _, _, _⟩]) rfl ?_)
            | (refine gReg (i := 3) ?_; refine C_plain [(0, 0)] (by kernel_rfl) (s := [⟨0, none, _, _, _⟩]) rfl ?_)
            | (refine gReg (i := 4) ?_; refine C_plain [(0, 0)] (by kernel_rfl) (s := [⟨0, none, _, _, _⟩]) rfl ?_)
            | (refine gReg (i := 5) ?_; refine C_plain [(0, 0), (1, 0), (2, 0), (3, 0)] (by kernel_rfl) (s := [⟨0, none, _, _, _⟩, ⟨0, none, _, _, _⟩, ⟨0, none, _, _, _⟩, ⟨0, none, _, _, _⟩]) rfl ?_)
            | (refine gReg (i := 7) ?_; refine C_drawn [(0, 0), (1, 0), (2, 0), (3, 0), (4, 0), (6, 0), (7, 0), (8, 0), (9, 0), (10, 0), (5, 1), (11, 1), (12, 0)] [] T.mixed (by kernel_rfl) (s := [⟨0, none, _, _, _⟩, ⟨0, none, _, _, _⟩, ⟨0, none, _, _, _⟩, ⟨0, none, _, _, _⟩, ⟨0, none, _, _, _⟩, ⟨0, none, _, _, _⟩, ⟨0, none, _, _, _⟩, ⟨0, none, _, _, _⟩, ⟨0, none, _, _, _⟩, ⟨0, none, _, _, _⟩, ⟨1, none, _, _, _⟩, ⟨1, none, _, _, _⟩, ⟨0, none, _, _, _⟩]) rfl ?_)
            | (refine gReg (i := 8) ?_; refine C_plain [(0, 0), (1, 0)] (by kernel_rfl) (s := [⟨0, none, _, _, _⟩, ⟨0, none, _, _, _⟩]) rfl ?_)
            | (refine gReg (i := 6) ?_; refine C_plain [(0, 0), (1, 0), (2, 0)] (by kernel_rfl) (s := [⟨0, none, _, _, _⟩, ⟨0, none, _, _, _⟩, ⟨0, none, _, _, _⟩]) rfl ?_)
            | (refine gReg (i := 9) ?_; refine C_plain [(0, 0), (1, 0)] (by kernel_rfl) (s := [⟨0, none, _, _, _⟩, ⟨0, none, _, _, _⟩]) rfl ?_)))
        | (refine C_true rfl ?_)
        | (refine C_false rfl ?_)
        | (refine C_split rfl ?_ ?_ <;> (intro hb; (try simp only [decide_eq_true_eq] at hb); (try simp only [decide_eq_false_iff_not] at hb); (try simp only [Bool.not_eq_true'] at hb); (try simp only [Bool.not_eq_false'] at hb); (try (exfalso; first | contradiction | omega)); (try (have hx := nthD (l := l) (k := k) hb)); (try (have hx' := hp hb))))
        | (refine C_skip ?_)
        | (refine C_exit ?_)
        | (refine C_ret ?_)
        | (refine C_block ?_)))
    | (refine gE ?_; (first
        | (refine E_then ?_)
        | (refine E_thenX ?_)
        | (refine E_thenR ?_)
        | (refine E_block ?_)
        | (refine E_blockY ?_)
        | (refine E_blockR ?_)
        | (refine E_calm ?_)
        | (refine E_blockX rfl ?_)
        | (apply E_ret1 rfl; (first | exact Res.tmp rfl | (apply R_cellAll rfl; (focus ((repeat (first | exact List.Mem.head _ | refine List.Mem.tail _ ?_)); done)); exact T.rw25) | (apply R_cell1 rfl; (focus ((repeat (first | exact List.Mem.head _ | refine List.Mem.tail _ ?_)); done)); fail)))
        | (apply E_ret2 rfl; (first | exact Res.tmp rfl | (apply R_cellAll rfl; (focus ((repeat (first | exact List.Mem.head _ | refine List.Mem.tail _ ?_)); done)); exact T.rw25) | (apply R_cell1 rfl; (focus ((repeat (first | exact List.Mem.head _ | refine List.Mem.tail _ ?_)); done)); fail)); (first | exact Res.tmp rfl | (apply R_cellAll rfl; (focus ((repeat (first | exact List.Mem.head _ | refine List.Mem.tail _ ?_)); done)); exact T.rw25) | (apply R_cell1 rfl; (focus ((repeat (first | exact List.Mem.head _ | refine List.Mem.tail _ ?_)); done)); fail)))
        | (apply E_ret3 rfl; (first | exact Res.tmp rfl | (apply R_cellAll rfl; (focus ((repeat (first | exact List.Mem.head _ | refine List.Mem.tail _ ?_)); done)); exact T.rw25) | (apply R_cell1 rfl; (focus ((repeat (first | exact List.Mem.head _ | refine List.Mem.tail _ ?_)); done)); fail)); (first | exact Res.tmp rfl | (apply R_cellAll rfl; (focus ((repeat (first | exact List.Mem.head _ | refine List.Mem.tail _ ?_)); done)); exact T.rw25) | (apply R_cell1 rfl; (focus ((repeat (first | exact List.Mem.head _ | refine List.Mem.tail _ ?_)); done)); fail)); (first | exact Res.tmp rfl | (apply R_cellAll rfl; (focus ((repeat (first | exact List.Mem.head _ | refine List.Mem.tail _ ?_)); done)); exact T.rw25) | (apply R_cell1 rfl; (focus ((repeat (first | exact List.Mem.head _ | refine List.Mem.tail _ ?_)); done)); fail))))))
  all_goals first
    | (refine E_round (α := Nat) (k + 1) ?_ ?_ ?_ ?_
       · omega
       · omega
       · refine ⟨rfl, ?_, rfl, rfl, trivial⟩
         first
           | (rw [pickF_t (k := k) (by unfold scoreAt; assumption)]; rfl)
           | (rw [pickF_f (k := k) (by unfold scoreAt; assumption)]; rfl)
       · exact List.nil_sublist _)
    | (refine retN ?_
       have e : k = l.length := by omega
       subst e
       simp [pickV, *])
end Go.Proofs.Ytencglgaldaaiaa

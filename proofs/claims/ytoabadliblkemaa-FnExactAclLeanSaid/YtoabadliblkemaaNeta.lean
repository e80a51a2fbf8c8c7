/- Prefixes: the contracts of the functions on one prefix. -/
import Derived.Test.YtoabadliblkemaaBas
set_option linter.unusedSimpArgs false
set_option linter.unusedVariables false
namespace Go.Proofs.Ytoabadliblkemaa
open Go Go.RowKit
attribute [local irreducible] GoS GoC GoE IsFl IsSc IsRw IsSl IsEl IsSt IsFs sp Mem Rd LenOf
def size (l : Int) : Int := 2 ^ (16 - l).toNat
theorem size_pos (l : Int) : 1 ≤ size l := by have : 0 < (2:Int) ^ (16 - l).toNat := Int.pow_pos (by omega); unfold size; omega
theorem size_le (l : Int) (h : 0 ≤ l) : size l ≤ 65536 := by
  unfold size
  obtain ⟨n, hn⟩ : ∃ n : Nat, n = (16 - l).toNat := ⟨_, rfl⟩
  rw [← hn]
  have h16 : n ≤ 16 := by omega
  have := Nat.pow_le_pow_right (n := 2) (by omega) h16
  have h2 : ((2 ^ n : Nat) : Int) ≤ ((2 ^ 16 : Nat) : Int) := by exact_mod_cast this
  have h3 : ((2 ^ n : Nat) : Int) = (2:Int) ^ n := by simp
  rw [← h3]; simpa using h2
theorem size_step (l : Int) (h1 : l < 16) : size l = 2 * size (l + 1) := by
  unfold size
  obtain ⟨k, hk⟩ : ∃ k : Nat, (16 - (l + 1)).toNat = k := ⟨_, rfl⟩
  have h2 : (16 - l).toNat = k + 1 := by omega
  rw [h2, hk, Int.pow_succ]; omega
theorem size_half (l : Int) (h : l < 16) : size l / 2 = size (l + 1) := by rw [size_step l h]; omega
/-- the prefix is ok -/
def okP (a l : Int) : Bool := inB l 0 16 && inB a 0 65535 && decide (a % size l = 0)
theorem okP_t {a l : Int} (h : okP a l = true) : 0 ≤ l ∧ l ≤ 16 ∧ 0 ≤ a ∧ a ≤ 65535 := by
  simp only [okP, Bool.and_eq_true] at h
  have := inB_t h.1.1; have := inB_t h.1.2; omega
def hasP (a l x : Int) : Bool := decide (a ≤ x) && decide (x < a + size l)
def withinP (a l b m : Int) : Bool := decide (m ≤ l) && hasP b m a

theorem size_c (a l : Int) (h0 : 0 ≤ l) (h1 : l ≤ 16) (w : World) : Calls Try.prog 42 #[.agg #[.int .i64 a, .int .i64 l]] w (RetN (.int .i64 (size l)) w) := by
  have hr : rng (1 * 2 ^ (16 - l).toNat) := by have := size_pos l; have := size_le l h0; unfold size at *; unfold rng; omega
  refine enter (n := 7) (E := [(0, _)]) Try.func42 rfl rfl rfl rfl ?_
  repeat' (first
    |(refine gS ?_;(first
        |(refine S_move rfl rfl ?_)
        |(refine S_assign rfl rfl ?_)
        |(apply F_field rfl rfl;exact T.fl40_1)
        |(refine gLoad ?_;(first
            |(apply F_load1 rfl rfl;(focus ((repeat (first|exact mH|refine mT ?_));done));exact T.sc3;rfl;(focus (first|exact free0|exact free1)))
            |(refine S_shl rfl rfl (by omega) (by omega) hr rfl ?_)))
        |(refine gBin ?_;(first
            |(refine S_shl rfl rfl (by omega) (by omega) hr rfl ?_)
            |(refine S_sub rfl rfl ?_ rfl ?_;(focus (unfold rng;omega)))))
        |(refine S_box rfl rfl rfl ?_;intro kb)
        |(refine S_done ?_)
        |(refine S_box1 rfl rfl rfl rfl ?_;intro kb)
        |(refine S_shl rfl rfl (by omega) (by omega) hr rfl ?_)))
    |(refine gC ?_;(first
        |(refine C_seq ?_)
        |(refine gReg ?_;(first
            |(refine gReg (i := 0) ?_;refine C_plain [(0,2),(1,0)] (by kernel_rfl) (s := [⟨2,none,_,_,_⟩,⟨0,none,_,_,_⟩]) rfl ?_)
            |(refine gReg (i := 1) ?_;refine C_plain [(0,0),(1,0),(2,0),(3,0),(4,0)] (by kernel_rfl) (s := [⟨0,none,_,_,_⟩,⟨0,none,_,_,_⟩,⟨0,none,_,_,_⟩,⟨0,none,_,_,_⟩,⟨0,none,_,_,_⟩]) rfl ?_)))
        |(refine C_true rfl ?_)
        |(refine C_false rfl ?_)
        |(refine C_split rfl ?_ ?_ <;> (intro hb;(try simp only [decide_eq_true_eq] at hb);(try simp only [decide_eq_false_iff_not] at hb);(try simp only [Bool.not_eq_true'] at hb);(try simp only [Bool.not_eq_false'] at hb);(try (exfalso;first|contradiction|omega))))
        |(refine C_skip ?_)
        |(refine C_exit ?_)
        |(refine C_ret ?_)
        |(refine C_block ?_)))
    |(refine gE ?_;(first
        |(refine E_then ?_)
        |(refine E_thenX ?_)
        |(refine E_thenR ?_)
        |(refine E_block ?_)
        |(refine E_blockY ?_)
        |(refine E_blockR ?_)
        |(refine E_calm ?_)
        |(refine E_blockX rfl ?_)
        |(apply E_ret1 rfl;(first|exact Res.tmp rfl|(apply R_cellAll rfl;(focus ((repeat (first|exact mH|refine mT ?_));done));fail)|(apply R_cell1 rfl;(focus ((repeat (first|exact mH|refine mT ?_));done));exact T.sc3)))
        |(apply E_ret2 rfl;(first|exact Res.tmp rfl|(apply R_cellAll rfl;(focus ((repeat (first|exact mH|refine mT ?_));done));fail)|(apply R_cell1 rfl;(focus ((repeat (first|exact mH|refine mT ?_));done));exact T.sc3));(first|exact Res.tmp rfl|(apply R_cellAll rfl;(focus ((repeat (first|exact mH|refine mT ?_));done));fail)|(apply R_cell1 rfl;(focus ((repeat (first|exact mH|refine mT ?_));done));exact T.sc3)))
        | (apply E_ret3 rfl; (first | exact Res.tmp rfl | (apply R_cellAll rfl; (focus ((repeat (first | exact List.Mem.head _ | refine List.Mem.tail _ ?_)); done)); fail) | (apply R_cell1 rfl; (focus ((repeat (first | exact List.Mem.head _ | refine List.Mem.tail _ ?_)); done)); exact T.sc3)); (first | exact Res.tmp rfl | (apply R_cellAll rfl; (focus ((repeat (first | exact List.Mem.head _ | refine List.Mem.tail _ ?_)); done)); fail) | (apply R_cell1 rfl; (focus ((repeat (first | exact List.Mem.head _ | refine List.Mem.tail _ ?_)); done)); exact T.sc3)); (first | exact Res.tmp rfl | (apply R_cellAll rfl; (focus ((repeat (first | exact List.Mem.head _ | refine List.Mem.tail _ ?_)); done)); fail) | (apply R_cell1 rfl; (focus ((repeat (first | exact List.Mem.head _ | refine List.Mem.tail _ ?_)); done)); exact T.sc3))))))
  all_goals (refine retN ?_; simp [size])
theorem l1Size_c (l : Int) (h0 : 0 ≤ l) (h1 : l ≤ 16) (w : World) : Calls Try.prog 39 #[.int .i64 l] w (RetN (.int .i64 (size l)) w) := by
  refine enter (n := 13) (E := [(0, _)]) Try.func39 rfl rfl rfl rfl ?_
  repeat' (first
    |(refine gS ?_;(first
        |(refine S_move rfl rfl ?_)
        |(refine S_assign rfl rfl ?_)
        |(refine gBin ?_;(first
            |(refine S_lss rfl rfl rfl ?_)
            |(refine S_add rfl rfl ?_ rfl ?_;(focus (unfold rng;omega)))
            |(refine S_mul rfl rfl ?_ rfl ?_;(focus (unfold rng;omega)))))
        |(refine S_done ?_)))
    |(refine gC ?_;(first
        |(refine C_seq ?_)
        |(refine gReg ?_;(first
            |(refine gReg (i := 0) ?_;refine C_plain [(0,0)] (by kernel_rfl) (s := [⟨0,none,_,_,_⟩]) rfl ?_)
            |(refine gReg (i := 1) ?_;refine C_plain [(0,0)] (by kernel_rfl) (s := [⟨0,none,_,_,_⟩]) rfl ?_)
            |(refine gReg (i := 2) ?_;refine C_plain [(0,0),(1,0)] (by kernel_rfl) (s := [⟨0,none,_,_,_⟩,⟨0,none,_,_,_⟩]) rfl ?_)
            |(refine gReg (i := 3) ?_;refine C_plain [(0,0),(1,0)] (by kernel_rfl) (s := [⟨0,none,_,_,_⟩,⟨0,none,_,_,_⟩]) rfl ?_)
            |(refine gReg (i := 5) ?_;refine C_plain [(0,0),(1,0),(2,0)] (by kernel_rfl) (s := [⟨0,none,_,_,_⟩,⟨0,none,_,_,_⟩,⟨0,none,_,_,_⟩]) rfl ?_)
            |(refine gReg (i := 4) ?_;refine C_plain [(0,0),(1,0),(2,0)] (by kernel_rfl) (s := [⟨0,none,_,_,_⟩,⟨0,none,_,_,_⟩,⟨0,none,_,_,_⟩]) rfl ?_)
            |(refine gReg (i := 6) ?_;refine C_plain [(0,0),(1,0)] (by kernel_rfl) (s := [⟨0,none,_,_,_⟩,⟨0,none,_,_,_⟩]) rfl ?_)))
        |(refine C_true rfl ?_)
        |(refine C_false rfl ?_)
        |(refine C_split rfl ?_ ?_ <;> (intro hb;(try simp only [decide_eq_true_eq] at hb);(try simp only [decide_eq_false_iff_not] at hb);(try simp only [Bool.not_eq_true'] at hb);(try simp only [Bool.not_eq_false'] at hb);(try (exfalso;first|contradiction|omega))))
        |(refine C_skip ?_)
        |(refine C_exit ?_)
        |(refine C_ret ?_)
        |(refine C_block ?_)))
    |(refine gE ?_;(first
        |(refine E_then ?_)
        |(refine E_thenX ?_)
        |(refine E_thenR ?_)
        |(refine E_block ?_)
        |(refine E_blockY ?_)
        |(refine E_blockR ?_)
        |(refine E_calm ?_)
        |(refine E_blockX rfl ?_)
        |(apply E_ret1 rfl;(first|exact Res.tmp rfl|(apply R_cellAll rfl;(focus ((repeat (first|exact mH|refine mT ?_));done));fail)|(apply R_cell1 rfl;(focus ((repeat (first|exact mH|refine mT ?_));done));fail)))
        |(apply E_ret2 rfl;(first|exact Res.tmp rfl|(apply R_cellAll rfl;(focus ((repeat (first|exact mH|refine mT ?_));done));fail)|(apply R_cell1 rfl;(focus ((repeat (first|exact mH|refine mT ?_));done));fail));(first|exact Res.tmp rfl|(apply R_cellAll rfl;(focus ((repeat (first|exact mH|refine mT ?_));done));fail)|(apply R_cell1 rfl;(focus ((repeat (first|exact mH|refine mT ?_));done));fail)))
        | (apply E_ret3 rfl; (first | exact Res.tmp rfl | (apply R_cellAll rfl; (focus ((repeat (first | exact List.Mem.head _ | refine List.Mem.tail _ ?_)); done)); fail) | (apply R_cell1 rfl; (focus ((repeat (first | exact List.Mem.head _ | refine List.Mem.tail _ ?_)); done)); fail)); (first | exact Res.tmp rfl | (apply R_cellAll rfl; (focus ((repeat (first | exact List.Mem.head _ | refine List.Mem.tail _ ?_)); done)); fail) | (apply R_cell1 rfl; (focus ((repeat (first | exact List.Mem.head _ | refine List.Mem.tail _ ?_)); done)); fail)); (first | exact Res.tmp rfl | (apply R_cellAll rfl; (focus ((repeat (first | exact List.Mem.head _ | refine List.Mem.tail _ ?_)); done)); fail) | (apply R_cell1 rfl; (focus ((repeat (first | exact List.Mem.head _ | refine List.Mem.tail _ ?_)); done)); fail))))))
  refine C_loop (α := Int × Int) (fun x => [(3, .int .i64 x.1), (4, .int .i64 x.2)]) (fun _ => []) (fun x => l ≤ x.2 ∧ x.2 ≤ 16 ∧ 1 ≤ x.1 ∧ x.1 ≤ 65536 ∧ x.1 * size x.2 = size l) (fun x => (16 - x.2).toNat) (1, l) ⟨by omega, by omega, by omega, by omega, by simp⟩ ⟨rfl, rfl, trivial⟩ (List.Sublist.refl _) ?_
  rintro ⟨m, k⟩ ⟨hk0, hk1, hm0, hm1, he⟩
  dsimp only at *
  have hm2 : k < 16 → m * 2 ≤ 65536 ∧ m * 2 * size (k + 1) = size l := fun hlt => by
    have h3 : m * 2 * size (k + 1) = size l := by rw [← he, size_step k hlt, Int.mul_assoc]
    have hs := size_pos (k + 1)
    have hle := size_le l h0
    have h4 : m * 2 * 1 ≤ m * 2 * size (k + 1) := Int.mul_le_mul_of_nonneg_left hs (by omega)
    omega
  repeat' (first
    |(refine gS ?_;(first
        |(refine S_move rfl rfl ?_)
        |(refine S_assign rfl rfl ?_)
        |(refine gBin ?_;(first
            |(refine S_lss rfl rfl rfl ?_)
            |(refine S_add rfl rfl ?_ rfl ?_;(focus (unfold rng;omega)))
            |(refine S_mul rfl rfl ?_ rfl ?_;(focus (unfold rng;omega)))))
        |(refine S_done ?_)))
    |(refine gC ?_;(first
        |(refine C_seq ?_)
        |(refine gReg ?_;(first
            |(refine gReg (i := 0) ?_;refine C_plain [(0,0)] (by kernel_rfl) (s := [⟨0,none,_,_,_⟩]) rfl ?_)
            |(refine gReg (i := 1) ?_;refine C_plain [(0,0)] (by kernel_rfl) (s := [⟨0,none,_,_,_⟩]) rfl ?_)
            |(refine gReg (i := 2) ?_;refine C_plain [(0,0),(1,0)] (by kernel_rfl) (s := [⟨0,none,_,_,_⟩,⟨0,none,_,_,_⟩]) rfl ?_)
            |(refine gReg (i := 3) ?_;refine C_plain [(0,0),(1,0)] (by kernel_rfl) (s := [⟨0,none,_,_,_⟩,⟨0,none,_,_,_⟩]) rfl ?_)
            |(refine gReg (i := 5) ?_;refine C_plain [(0,0),(1,0),(2,0)] (by kernel_rfl) (s := [⟨0,none,_,_,_⟩,⟨0,none,_,_,_⟩,⟨0,none,_,_,_⟩]) rfl ?_)
            |(refine gReg (i := 4) ?_;refine C_plain [(0,0),(1,0),(2,0)] (by kernel_rfl) (s := [⟨0,none,_,_,_⟩,⟨0,none,_,_,_⟩,⟨0,none,_,_,_⟩]) rfl ?_)
            |(refine gReg (i := 6) ?_;refine C_plain [(0,0),(1,0)] (by kernel_rfl) (s := [⟨0,none,_,_,_⟩,⟨0,none,_,_,_⟩]) rfl ?_)))
        |(refine C_true rfl ?_)
        |(refine C_false rfl ?_)
        |(refine C_split rfl ?_ ?_ <;> (intro hb;(try simp only [decide_eq_true_eq] at hb);(try simp only [decide_eq_false_iff_not] at hb);(try simp only [Bool.not_eq_true'] at hb);(try simp only [Bool.not_eq_false'] at hb);(try (exfalso;first|contradiction|omega))))
        |(refine C_skip ?_)
        |(refine C_exit ?_)
        |(refine C_ret ?_)
        |(refine C_block ?_)))
    |(refine gE ?_;(first
        |(refine E_then ?_)
        |(refine E_thenX ?_)
        |(refine E_thenR ?_)
        |(refine E_block ?_)
        |(refine E_blockY ?_)
        |(refine E_blockR ?_)
        |(refine E_calm ?_)
        |(refine E_blockX rfl ?_)
        |(apply E_ret1 rfl;(first|exact Res.tmp rfl|(apply R_cellAll rfl;(focus ((repeat (first|exact mH|refine mT ?_));done));fail)|(apply R_cell1 rfl;(focus ((repeat (first|exact mH|refine mT ?_));done));fail)))
        |(apply E_ret2 rfl;(first|exact Res.tmp rfl|(apply R_cellAll rfl;(focus ((repeat (first|exact mH|refine mT ?_));done));fail)|(apply R_cell1 rfl;(focus ((repeat (first|exact mH|refine mT ?_));done));fail));(first|exact Res.tmp rfl|(apply R_cellAll rfl;(focus ((repeat (first|exact mH|refine mT ?_));done));fail)|(apply R_cell1 rfl;(focus ((repeat (first|exact mH|refine mT ?_));done));fail)))
        | (apply E_ret3 rfl; (first | exact Res.tmp rfl | (apply R_cellAll rfl; (focus ((repeat (first | exact List.Mem.head _ | refine List.Mem.tail _ ?_)); done)); fail) | (apply R_cell1 rfl; (focus ((repeat (first | exact List.Mem.head _ | refine List.Mem.tail _ ?_)); done)); fail)); (first | exact Res.tmp rfl | (apply R_cellAll rfl; (focus ((repeat (first | exact List.Mem.head _ | refine List.Mem.tail _ ?_)); done)); fail) | (apply R_cell1 rfl; (focus ((repeat (first | exact List.Mem.head _ | refine List.Mem.tail _ ?_)); done)); fail)); (first | exact Res.tmp rfl | (apply R_cellAll rfl; (focus ((repeat (first | exact List.Mem.head _ | refine List.Mem.tail _ ?_)); done)); fail) | (apply R_cell1 rfl; (focus ((repeat (first | exact List.Mem.head _ | refine List.Mem.tail _ ?_)); done)); fail))))))
  · have hlt : k < 16 := by assumption
    refine E_round (α := Int × Int) (m * 2, k + 1) ?_ ?_ ?_ ?_
    · exact ⟨by dsimp only; omega, by dsimp only; omega, by dsimp only; omega, (hm2 hlt).1, (hm2 hlt).2⟩
    · dsimp only; omega
    · exact ⟨rfl, rfl, trivial⟩
    · exact List.Sublist.refl _
  · refine retN ?_
    have h16 : k = 16 := by omega
    subst h16
    simp [size] at he ⊢
    omega
theorem implNetOk_c (a l : Int) (w : World) : Calls Try.prog 31 #[.agg #[.int .i64 a, .int .i64 l]] w (RetN (.bool (okP a l)) w) := by
  have hsz := size_pos l
  refine enter (n := 19) (E := [(0, _)]) Try.func31 rfl rfl rfl rfl ?_
  repeat' (first
    |(refine gS ?_;(first
        |(refine gGuard ?_;(first
            |(refine S_on rfl ?_)
            |(refine S_off rfl rfl rfl ?_)
            |(refine S_offn rfl rfl ?_)
            |(refine S_offU rfl rfl ?_)
            |(refine S_offUn rfl ?_)
            |(refine S_gsplit rfl ?_ ?_ <;> (intro hb;(try simp only [decide_eq_true_eq] at hb);(try simp only [decide_eq_false_iff_not] at hb);(try simp only [Bool.not_eq_true'] at hb);(try simp only [Bool.not_eq_false'] at hb);(try (exfalso;first|contradiction|omega))))))
        |(refine S_move rfl rfl ?_)
        |(refine S_assign rfl rfl ?_)
        |(apply F_field rfl rfl;(first|exact T.fl40_0|exact T.fl40_1))
        |(refine gLoad ?_;(first
            |(apply F_load1 rfl rfl;(focus ((repeat (first|exact mH|refine mT ?_));done));exact T.sc3;rfl;(focus (first|exact free0|exact free1)))
            |(apply F_loadAll rfl rfl;(focus ((repeat (first|exact mH|refine mT ?_));done));exact T.rw40;(focus (first|exact free0|exact free1)))
            |(apply F_loadP rfl rfl;(focus ((repeat (first|exact mH|refine mT ?_));done));exact T.rw40;(focus ((repeat (first|exact Take.nil|apply Take.here|apply Take.there));done));rfl;(focus (first|exact free0|exact free1)))
            |(refine S_rem rfl rfl ?_ ?_ rfl ?_;(focus (exact (inB_t ‹inB a _ _ = true›).1));(focus omega))))
        |(refine gCall ?_;(first
            |(show GoS _ _ _ _ _ _ _ (⟨_,_,_,.call ⟨.value (.func 20),_,_⟩,_⟩ :: _);refine S_callN (f := 20) rfl T.pf20 rfl (fun w hst => within_c _ _ _ w) rfl ?_)
            |(show GoS _ _ _ _ _ _ _ (⟨_,_,_,.call ⟨.value (.func 42),_,_⟩,_⟩ :: _);refine S_callN (f := 42) rfl T.pf42 rfl (fun w hst => size_c _ _ (inB_t ‹_›).1 (inB_t ‹_›).2 w) rfl ?_)
            |(refine S_rem rfl rfl ?_ ?_ rfl ?_;(focus (exact (inB_t ‹inB a _ _ = true›).1));(focus omega))))
        |(refine gBin ?_;(first
            |(refine S_rem rfl rfl ?_ ?_ rfl ?_;(focus (exact (inB_t ‹inB a _ _ = true›).1));(focus omega))
            |(refine S_eql rfl rfl rfl ?_)
            |(refine S_eqlB Try.underlying4 rfl rfl rfl ?_)
            |(refine S_rem rfl rfl ?_ ?_ rfl ?_;(focus omega);(focus omega))
            |(refine S_remT rfl rfl ?_ rfl ?_;(focus omega))))
        |(refine gPick ?_;(first
            |(refine S_pickT rfl rfl rfl ?_)
            |(refine S_pickF rfl rfl rfl ?_)))
        |(refine S_box rfl rfl rfl ?_;intro kb)
        |(refine S_done ?_)
        |(refine S_box1 rfl rfl rfl rfl ?_;intro kb)
        |(refine S_rem rfl rfl ?_ ?_ rfl ?_;(focus (exact (inB_t ‹inB a _ _ = true›).1));(focus omega))))
    |(refine gC ?_;(first
        |(refine C_seq ?_)
        |(refine gReg ?_;(first
            |(refine gReg (i := 0) ?_;refine C_plain [(0,2),(1,0)] (by kernel_rfl) (s := [⟨2,none,_,_,_⟩,⟨0,none,_,_,_⟩]) rfl ?_)
            |(refine gReg (i := 1) ?_;refine C_drawn [(0,0),(1,0),(2,1),(3,0),(4,0),(5,0),(6,1),(7,0),(8,0),(9,0),(10,0),(11,0),(12,1),(13,0),(14,0),(15,0),(16,0)] [] T.mixed (by kernel_rfl) (s := [⟨0,none,_,_,_⟩,⟨0,none,_,_,_⟩,⟨1,none,_,_,_⟩,⟨0,none,_,_,_⟩,⟨0,some (6,true),_,_,_⟩,⟨0,some (6,true),_,_,_⟩,⟨1,some (6,true),_,_,_⟩,⟨0,none,_,_,_⟩,⟨0,none,_,_,_⟩,⟨0,some (11,true),_,_,_⟩,⟨0,some (11,true),_,_,_⟩,⟨0,some (11,true),_,_,_⟩,⟨1,some (11,true),_,_,_⟩,⟨0,some (11,true),_,_,_⟩,⟨0,some (11,true),_,_,_⟩,⟨0,none,_,_,_⟩,⟨0,none,_,_,_⟩]) rfl ?_)))
        |(refine C_true rfl ?_)
        |(refine C_false rfl ?_)
        |(refine C_split rfl ?_ ?_ <;> (intro hb;(try simp only [decide_eq_true_eq] at hb);(try simp only [decide_eq_false_iff_not] at hb);(try simp only [Bool.not_eq_true'] at hb);(try simp only [Bool.not_eq_false'] at hb);(try (exfalso;first|contradiction|omega))))
        |(refine C_skip ?_)
        |(refine C_exit ?_)
        |(refine C_ret ?_)
        |(refine C_block ?_)))
    |(refine gE ?_;(first
        |(refine E_then ?_)
        |(refine E_thenX ?_)
        |(refine E_thenR ?_)
        |(refine E_block ?_)
        |(refine E_blockY ?_)
        |(refine E_blockR ?_)
        |(refine E_calm ?_)
        |(refine E_blockX rfl ?_)
        |(apply E_ret1 rfl;(first|exact Res.tmp rfl|(apply R_cellAll rfl;(focus ((repeat (first|exact mH|refine mT ?_));done));exact T.rw40)|(apply R_cell1 rfl;(focus ((repeat (first|exact mH|refine mT ?_));done));exact T.sc3)))
        |(apply E_ret2 rfl;(first|exact Res.tmp rfl|(apply R_cellAll rfl;(focus ((repeat (first|exact mH|refine mT ?_));done));exact T.rw40)|(apply R_cell1 rfl;(focus ((repeat (first|exact mH|refine mT ?_));done));exact T.sc3));(first|exact Res.tmp rfl|(apply R_cellAll rfl;(focus ((repeat (first|exact mH|refine mT ?_));done));exact T.rw40)|(apply R_cell1 rfl;(focus ((repeat (first|exact mH|refine mT ?_));done));exact T.sc3)))
        | (apply E_ret3 rfl; (first | exact Res.tmp rfl | (apply R_cellAll rfl; (focus ((repeat (first | exact List.Mem.head _ | refine List.Mem.tail _ ?_)); done)); exact T.rw40) | (apply R_cell1 rfl; (focus ((repeat (first | exact List.Mem.head _ | refine List.Mem.tail _ ?_)); done)); exact T.sc3)); (first | exact Res.tmp rfl | (apply R_cellAll rfl; (focus ((repeat (first | exact List.Mem.head _ | refine List.Mem.tail _ ?_)); done)); exact T.rw40) | (apply R_cell1 rfl; (focus ((repeat (first | exact List.Mem.head _ | refine List.Mem.tail _ ?_)); done)); exact T.sc3)); (first | exact Res.tmp rfl | (apply R_cellAll rfl; (focus ((repeat (first | exact List.Mem.head _ | refine List.Mem.tail _ ?_)); done)); exact T.rw40) | (apply R_cell1 rfl; (focus ((repeat (first | exact List.Mem.head _ | refine List.Mem.tail _ ?_)); done)); exact T.sc3))))))
  all_goals (refine retN ?_; simp [okP, *])
theorem specNetOk_c (a l : Int) (w : World) : Calls Try.prog 25 #[.agg #[.int .i64 a, .int .i64 l]] w (RetN (.bool (okP a l)) w) := by
  have hsz := size_pos l
  refine enter (n := 20) (E := [(0, _)]) Try.func25 rfl rfl rfl rfl ?_
  repeat' (first
    |(refine gS ?_;(first
        |(refine gGuard ?_;(first
            |(refine S_on rfl ?_)
            |(refine S_off rfl rfl rfl ?_)
            |(refine S_offn rfl rfl ?_)
            |(refine S_offU rfl rfl ?_)
            |(refine S_offUn rfl ?_)
            |(refine S_gsplit rfl ?_ ?_ <;> (intro hb;(try simp only [decide_eq_true_eq] at hb);(try simp only [decide_eq_false_iff_not] at hb);(try simp only [Bool.not_eq_true'] at hb);(try simp only [Bool.not_eq_false'] at hb);(try (exfalso;first|contradiction|omega))))))
        |(refine S_move rfl rfl ?_)
        |(refine S_assign rfl rfl ?_)
        |(apply F_field rfl rfl;(first|exact T.fl40_0|exact T.fl40_1))
        |(refine gLoad ?_;(first
            |(apply F_load1 rfl rfl;(focus ((repeat (first|exact mH|refine mT ?_));done));exact T.sc3;rfl;(focus (first|exact free0|exact free1)))
            |(refine S_rem rfl rfl ?_ ?_ rfl ?_;(focus (exact (inB_t ‹inB a _ _ = true›).1));(focus omega))))
        |(refine gCall ?_;(first
            |(show GoS _ _ _ _ _ _ _ (⟨_,_,_,.call ⟨.value (.func 16),_,_⟩,_⟩ :: _);refine S_callN (f := 16) rfl T.pf16 rfl (fun w hst => l1In_c _ _ _ w) rfl ?_)
            |(show GoS _ _ _ _ _ _ _ (⟨_,_,_,.call ⟨.value (.func 39),_,_⟩,_⟩ :: _);refine S_callN (f := 39) rfl T.pf39 rfl (fun w hst => l1Size_c _ (inB_t ‹_›).1 (inB_t ‹_›).2 w) rfl ?_)
            |(refine S_rem rfl rfl ?_ ?_ rfl ?_;(focus (exact (inB_t ‹inB a _ _ = true›).1));(focus omega))))
        |(refine gBin ?_;(first
            |(refine S_rem rfl rfl ?_ ?_ rfl ?_;(focus (exact (inB_t ‹inB a _ _ = true›).1));(focus omega))
            |(refine S_eql rfl rfl rfl ?_)
            |(refine S_eqlB Try.underlying4 rfl rfl rfl ?_)
            |(refine S_rem rfl rfl ?_ ?_ rfl ?_;(focus omega);(focus omega))
            |(refine S_remT rfl rfl ?_ rfl ?_;(focus omega))))
        |(refine gPick ?_;(first
            |(refine S_pickT rfl rfl rfl ?_)
            |(refine S_pickF rfl rfl rfl ?_)))
        |(refine S_box rfl rfl rfl ?_;intro kb)
        |(refine S_done ?_)
        |(refine S_box1 rfl rfl rfl rfl ?_;intro kb)
        |(refine S_rem rfl rfl ?_ ?_ rfl ?_;(focus (exact (inB_t ‹inB a _ _ = true›).1));(focus omega))))
    |(refine gC ?_;(first
        |(refine C_seq ?_)
        |(refine gReg ?_;(first
            |(refine gReg (i := 0) ?_;refine C_plain [(0,2),(1,0)] (by kernel_rfl) (s := [⟨2,none,_,_,_⟩,⟨0,none,_,_,_⟩]) rfl ?_)
            |(refine gReg (i := 1) ?_;refine C_drawn [(0,0),(1,0),(2,1),(3,0),(4,0),(5,0),(6,1),(7,0),(8,0),(9,0),(10,0),(11,0),(12,0),(13,1),(14,0),(15,0),(16,0),(17,0)] [] T.mixed (by kernel_rfl) (s := [⟨0,none,_,_,_⟩,⟨0,none,_,_,_⟩,⟨1,none,_,_,_⟩,⟨0,none,_,_,_⟩,⟨0,some (6,true),_,_,_⟩,⟨0,some (6,true),_,_,_⟩,⟨1,some (6,true),_,_,_⟩,⟨0,none,_,_,_⟩,⟨0,none,_,_,_⟩,⟨0,some (11,true),_,_,_⟩,⟨0,some (11,true),_,_,_⟩,⟨0,some (11,true),_,_,_⟩,⟨0,some (11,true),_,_,_⟩,⟨1,some (11,true),_,_,_⟩,⟨0,some (11,true),_,_,_⟩,⟨0,some (11,true),_,_,_⟩,⟨0,none,_,_,_⟩,⟨0,none,_,_,_⟩]) rfl ?_)))
        |(refine C_true rfl ?_)
        |(refine C_false rfl ?_)
        |(refine C_split rfl ?_ ?_ <;> (intro hb;(try simp only [decide_eq_true_eq] at hb);(try simp only [decide_eq_false_iff_not] at hb);(try simp only [Bool.not_eq_true'] at hb);(try simp only [Bool.not_eq_false'] at hb);(try (exfalso;first|contradiction|omega))))
        |(refine C_skip ?_)
        |(refine C_exit ?_)
        |(refine C_ret ?_)
        |(refine C_block ?_)))
    |(refine gE ?_;(first
        |(refine E_then ?_)
        |(refine E_thenX ?_)
        |(refine E_thenR ?_)
        |(refine E_block ?_)
        |(refine E_blockY ?_)
        |(refine E_blockR ?_)
        |(refine E_calm ?_)
        |(refine E_blockX rfl ?_)
        |(apply E_ret1 rfl;(first|exact Res.tmp rfl|(apply R_cellAll rfl;(focus ((repeat (first|exact mH|refine mT ?_));done));fail)|(apply R_cell1 rfl;(focus ((repeat (first|exact mH|refine mT ?_));done));exact T.sc3)))
        |(apply E_ret2 rfl;(first|exact Res.tmp rfl|(apply R_cellAll rfl;(focus ((repeat (first|exact mH|refine mT ?_));done));fail)|(apply R_cell1 rfl;(focus ((repeat (first|exact mH|refine mT ?_));done));exact T.sc3));(first|exact Res.tmp rfl|(apply R_cellAll rfl;(focus ((repeat (first|exact mH|refine mT ?_));done));fail)|(apply R_cell1 rfl;(focus ((repeat (first|exact mH|refine mT ?_));done));exact T.sc3)))
        | (apply E_ret3 rfl; (first | exact Res.tmp rfl | (apply R_cellAll rfl; (focus ((repeat (first | exact List.Mem.head _ | refine List.Mem.tail _ ?_)); done)); fail) | (apply R_cell1 rfl; (focus ((repeat (first | exact List.Mem.head _ | refine List.Mem.tail _ ?_)); done)); exact T.sc3)); (first | exact Res.tmp rfl | (apply R_cellAll rfl; (focus ((repeat (first | exact List.Mem.head _ | refine List.Mem.tail _ ?_)); done)); fail) | (apply R_cell1 rfl; (focus ((repeat (first | exact List.Mem.head _ | refine List.Mem.tail _ ?_)); done)); exact T.sc3)); (first | exact Res.tmp rfl | (apply R_cellAll rfl; (focus ((repeat (first | exact List.Mem.head _ | refine List.Mem.tail _ ?_)); done)); fail) | (apply R_cell1 rfl; (focus ((repeat (first | exact List.Mem.head _ | refine List.Mem.tail _ ?_)); done)); exact T.sc3))))))
  all_goals (refine retN ?_; simp [okP, *])
theorem last_c (a l : Int) (h : okP a l = true) (w : World) : Calls Try.prog 43 #[.agg #[.int .i64 a, .int .i64 l]] w (RetN (.int .i64 (a + size l - 1)) w) := by
  have hsz := size_pos l
  obtain ⟨h0, h1, h2, h3⟩ := okP_t h
  have hsl := size_le l h0
  refine enter (n := 9) (E := [(0, _)]) Try.func43 rfl rfl rfl rfl ?_
  repeat' (first
    |(refine gS ?_;(first
        |(refine S_move rfl rfl ?_)
        |(refine S_assign rfl rfl ?_)
        |(apply F_field rfl rfl;exact T.fl40_0)
        |(refine gLoad ?_;(first
            |(apply F_load1 rfl rfl;(focus ((repeat (first|exact mH|refine mT ?_));done));exact T.sc3;rfl;(focus (first|exact free0|exact free1)))
            |(apply F_loadAll rfl rfl;(focus ((repeat (first|exact mH|refine mT ?_));done));exact T.rw40;(focus (first|exact free0|exact free1)))
            |(apply F_loadP rfl rfl;(focus ((repeat (first|exact mH|refine mT ?_));done));exact T.rw40;(focus ((repeat (first|exact Take.nil|apply Take.here|apply Take.there));done));rfl;(focus (first|exact free0|exact free1)))))
        |(refine gCall ?_;(first
            |(show GoS _ _ _ _ _ _ _ (⟨_,_,_,.call ⟨.value (.func 42),_,_⟩,_⟩ :: _);refine S_callN (f := 42) rfl T.pf42 rfl (fun w hst => size_c _ _ h0 h1 w) rfl ?_)))
        |(refine gBin ?_;(first
            |(refine S_add rfl rfl ?_ rfl ?_;(focus (unfold rng;omega)))
            |(refine S_sub rfl rfl ?_ rfl ?_;(focus (unfold rng;omega)))))
        |(refine S_box rfl rfl rfl ?_;intro kb)
        |(refine S_done ?_)
        |(refine S_box1 rfl rfl rfl rfl ?_;intro kb)))
    |(refine gC ?_;(first
        |(refine C_seq ?_)
        |(refine gReg ?_;(first
            |(refine gReg (i := 0) ?_;refine C_plain [(0,2),(1,0)] (by kernel_rfl) (s := [⟨2,none,_,_,_⟩,⟨0,none,_,_,_⟩]) rfl ?_)
            |(refine gReg (i := 1) ?_;refine C_drawn [(0,0),(1,0),(2,0),(3,1),(4,0),(5,0),(6,0)] [] T.mixed (by kernel_rfl) (s := [⟨0,none,_,_,_⟩,⟨0,none,_,_,_⟩,⟨0,none,_,_,_⟩,⟨1,none,_,_,_⟩,⟨0,none,_,_,_⟩,⟨0,none,_,_,_⟩,⟨0,none,_,_,_⟩]) rfl ?_)))
        |(refine C_true rfl ?_)
        |(refine C_false rfl ?_)
        |(refine C_split rfl ?_ ?_ <;> (intro hb;(try simp only [decide_eq_true_eq] at hb);(try simp only [decide_eq_false_iff_not] at hb);(try simp only [Bool.not_eq_true'] at hb);(try simp only [Bool.not_eq_false'] at hb);(try (exfalso;first|contradiction|omega))))
        |(refine C_skip ?_)
        |(refine C_exit ?_)
        |(refine C_ret ?_)
        |(refine C_block ?_)))
    |(refine gE ?_;(first
        |(refine E_then ?_)
        |(refine E_thenX ?_)
        |(refine E_thenR ?_)
        |(refine E_block ?_)
        |(refine E_blockY ?_)
        |(refine E_blockR ?_)
        |(refine E_calm ?_)
        |(refine E_blockX rfl ?_)
        |(apply E_ret1 rfl;(first|exact Res.tmp rfl|(apply R_cellAll rfl;(focus ((repeat (first|exact mH|refine mT ?_));done));exact T.rw40)|(apply R_cell1 rfl;(focus ((repeat (first|exact mH|refine mT ?_));done));exact T.sc3)))
        |(apply E_ret2 rfl;(first|exact Res.tmp rfl|(apply R_cellAll rfl;(focus ((repeat (first|exact mH|refine mT ?_));done));exact T.rw40)|(apply R_cell1 rfl;(focus ((repeat (first|exact mH|refine mT ?_));done));exact T.sc3));(first|exact Res.tmp rfl|(apply R_cellAll rfl;(focus ((repeat (first|exact mH|refine mT ?_));done));exact T.rw40)|(apply R_cell1 rfl;(focus ((repeat (first|exact mH|refine mT ?_));done));exact T.sc3)))
        | (apply E_ret3 rfl; (first | exact Res.tmp rfl | (apply R_cellAll rfl; (focus ((repeat (first | exact List.Mem.head _ | refine List.Mem.tail _ ?_)); done)); exact T.rw40) | (apply R_cell1 rfl; (focus ((repeat (first | exact List.Mem.head _ | refine List.Mem.tail _ ?_)); done)); exact T.sc3)); (first | exact Res.tmp rfl | (apply R_cellAll rfl; (focus ((repeat (first | exact List.Mem.head _ | refine List.Mem.tail _ ?_)); done)); exact T.rw40) | (apply R_cell1 rfl; (focus ((repeat (first | exact List.Mem.head _ | refine List.Mem.tail _ ?_)); done)); exact T.sc3)); (first | exact Res.tmp rfl | (apply R_cellAll rfl; (focus ((repeat (first | exact List.Mem.head _ | refine List.Mem.tail _ ?_)); done)); exact T.rw40) | (apply R_cell1 rfl; (focus ((repeat (first | exact List.Mem.head _ | refine List.Mem.tail _ ?_)); done)); exact T.sc3))))))
  all_goals (refine retN ?_; rfl)
theorem has_c (a l x : Int) (h : okP a l = true) (w : World) : Calls Try.prog 46 #[.agg #[.int .i64 a, .int .i64 l], .int .i64 x] w (RetN (.bool (hasP a l x)) w) := by
  refine enter (n := 11) (E := [(0, _), (1, _)]) Try.func46 rfl rfl rfl rfl ?_
  repeat' (first
    |(refine gS ?_;(first
        |(refine S_move rfl rfl ?_)
        |(refine S_assign rfl rfl ?_)
        |(apply F_field rfl rfl;exact T.fl40_0)
        |(refine gLoad ?_;(first
            |(apply F_load1 rfl rfl;(focus ((repeat (first|exact mH|refine mT ?_));done));exact T.sc3;rfl;(focus (first|exact free0|exact free1)))
            |(apply F_loadAll rfl rfl;(focus ((repeat (first|exact mH|refine mT ?_));done));exact T.rw40;(focus (first|exact free0|exact free1)))
            |(apply F_loadP rfl rfl;(focus ((repeat (first|exact mH|refine mT ?_));done));exact T.rw40;(focus ((repeat (first|exact Take.nil|apply Take.here|apply Take.there));done));rfl;(focus (first|exact free0|exact free1)))))
        |(refine gCall ?_;(first
            |(show GoS _ _ _ _ _ _ _ (⟨_,_,_,.call ⟨.value (.func 43),_,_⟩,_⟩ :: _);refine S_callN (f := 43) rfl T.pf43 rfl (fun w hst => last_c _ _ h w) rfl ?_)
            |(show GoS _ _ _ _ _ _ _ (⟨_,_,_,.call ⟨.value (.func 20),_,_⟩,_⟩ :: _);refine S_callN (f := 20) rfl T.pf20 rfl (fun w hst => within_c _ _ _ w) rfl ?_)))
        |(refine S_box rfl rfl rfl ?_;intro kb)
        |(refine S_done ?_)
        |(refine S_box1 rfl rfl rfl rfl ?_;intro kb)))
    |(refine gC ?_;(first
        |(refine C_seq ?_)
        |(refine gReg ?_;(first
            |(refine gReg (i := 0) ?_;refine C_plain [(0,2),(1,0)] (by kernel_rfl) (s := [⟨2,none,_,_,_⟩,⟨0,none,_,_,_⟩]) rfl ?_)
            |(refine gReg (i := 1) ?_;refine C_drawn [(0,0),(1,0),(2,0),(3,0),(4,1),(5,1),(6,0)] [] T.mixed (by kernel_rfl) (s := [⟨0,none,_,_,_⟩,⟨0,none,_,_,_⟩,⟨0,none,_,_,_⟩,⟨0,none,_,_,_⟩,⟨1,none,_,_,_⟩,⟨1,none,_,_,_⟩,⟨0,none,_,_,_⟩]) rfl ?_)))
        |(refine C_true rfl ?_)
        |(refine C_false rfl ?_)
        |(refine C_split rfl ?_ ?_ <;> (intro hb;(try simp only [decide_eq_true_eq] at hb);(try simp only [decide_eq_false_iff_not] at hb);(try simp only [Bool.not_eq_true'] at hb);(try simp only [Bool.not_eq_false'] at hb);(try (exfalso;first|contradiction|omega))))
        |(refine C_skip ?_)
        |(refine C_exit ?_)
        |(refine C_ret ?_)
        |(refine C_block ?_)))
    |(refine gE ?_;(first
        |(refine E_then ?_)
        |(refine E_thenX ?_)
        |(refine E_thenR ?_)
        |(refine E_block ?_)
        |(refine E_blockY ?_)
        |(refine E_blockR ?_)
        |(refine E_calm ?_)
        |(refine E_blockX rfl ?_)
        |(apply E_ret1 rfl;(first|exact Res.tmp rfl|(apply R_cellAll rfl;(focus ((repeat (first|exact mH|refine mT ?_));done));exact T.rw40)|(apply R_cell1 rfl;(focus ((repeat (first|exact mH|refine mT ?_));done));exact T.sc3)))
        |(apply E_ret2 rfl;(first|exact Res.tmp rfl|(apply R_cellAll rfl;(focus ((repeat (first|exact mH|refine mT ?_));done));exact T.rw40)|(apply R_cell1 rfl;(focus ((repeat (first|exact mH|refine mT ?_));done));exact T.sc3));(first|exact Res.tmp rfl|(apply R_cellAll rfl;(focus ((repeat (first|exact mH|refine mT ?_));done));exact T.rw40)|(apply R_cell1 rfl;(focus ((repeat (first|exact mH|refine mT ?_));done));exact T.sc3)))
        | (apply E_ret3 rfl; (first | exact Res.tmp rfl | (apply R_cellAll rfl; (focus ((repeat (first | exact List.Mem.head _ | refine List.Mem.tail _ ?_)); done)); exact T.rw40) | (apply R_cell1 rfl; (focus ((repeat (first | exact List.Mem.head _ | refine List.Mem.tail _ ?_)); done)); exact T.sc3)); (first | exact Res.tmp rfl | (apply R_cellAll rfl; (focus ((repeat (first | exact List.Mem.head _ | refine List.Mem.tail _ ?_)); done)); exact T.rw40) | (apply R_cell1 rfl; (focus ((repeat (first | exact List.Mem.head _ | refine List.Mem.tail _ ?_)); done)); exact T.sc3)); (first | exact Res.tmp rfl | (apply R_cellAll rfl; (focus ((repeat (first | exact List.Mem.head _ | refine List.Mem.tail _ ?_)); done)); exact T.rw40) | (apply R_cell1 rfl; (focus ((repeat (first | exact List.Mem.head _ | refine List.Mem.tail _ ?_)); done)); exact T.sc3))))))
  all_goals (refine retN ?_; simp only [hasP, inB]; congr 2; apply decide_eq_decide.2; omega)
theorem l1Has_c (a l x : Int) (h : okP a l = true) (w : World) : Calls Try.prog 50 #[.agg #[.int .i64 a, .int .i64 l], .int .i64 x] w (RetN (.bool (hasP a l x)) w) := by
  have hsz := size_pos l
  obtain ⟨h0, h1, h2, h3⟩ := okP_t h
  have hsl := size_le l h0
  refine enter (n := 19) (E := [(0, _), (1, _)]) Try.func50 rfl rfl rfl rfl ?_
  repeat' (first
    |(refine gS ?_;(first
        |(refine gGuard ?_;(first
            |(refine S_on rfl ?_)
            |(refine S_off rfl rfl rfl ?_)
            |(refine S_offn rfl rfl ?_)
            |(refine S_offU rfl rfl ?_)
            |(refine S_offUn rfl ?_)
            |(refine S_gsplit rfl ?_ ?_ <;> (intro hb;(try simp only [decide_eq_true_eq] at hb);(try simp only [decide_eq_false_iff_not] at hb);(try simp only [Bool.not_eq_true'] at hb);(try simp only [Bool.not_eq_false'] at hb);(try (exfalso;first|contradiction|omega))))))
        |(refine S_move rfl rfl ?_)
        |(refine S_assign rfl rfl ?_)
        |(apply F_field rfl rfl;(first|exact T.fl40_0|exact T.fl40_1))
        |(refine gLoad ?_;(first
            |(apply F_load1 rfl rfl;(focus ((repeat (first|exact mH|refine mT ?_));done));exact T.sc3;rfl;(focus (first|exact free0|exact free1)))))
        |(refine gCall ?_;(first
            |(show GoS _ _ _ _ _ _ _ (⟨_,_,_,.call ⟨.value (.func 39),_,_⟩,_⟩ :: _);refine S_callN (f := 39) rfl T.pf39 rfl (fun w hst => l1Size_c _ h0 h1 w) rfl ?_)))
        |(refine gBin ?_;(first
            |(refine S_lss rfl rfl rfl ?_)
            |(refine S_geq rfl rfl rfl ?_)
            |(refine S_add rfl rfl ?_ rfl ?_;(focus (unfold rng;omega)))))
        |(refine gPick ?_;(first
            |(refine S_pickT rfl rfl rfl ?_)
            |(refine S_pickF rfl rfl rfl ?_)))
        |(refine S_box rfl rfl rfl ?_;intro kb)
        |(refine S_done ?_)
        |(refine S_box1 rfl rfl rfl rfl ?_;intro kb)))
    |(refine gC ?_;(first
        |(refine C_seq ?_)
        |(refine gReg ?_;(first
            |(refine gReg (i := 0) ?_;refine C_plain [(0,2),(1,0)] (by kernel_rfl) (s := [⟨2,none,_,_,_⟩,⟨0,none,_,_,_⟩]) rfl ?_)
            |(refine gReg (i := 1) ?_;refine C_drawn [(0,0),(1,0),(2,0),(3,0),(4,0),(5,0),(6,0),(7,0),(8,0),(9,0),(10,1),(11,0),(12,0),(13,0),(14,0)] [] T.mixed (by kernel_rfl) (s := [⟨0,none,_,_,_⟩,⟨0,none,_,_,_⟩,⟨0,none,_,_,_⟩,⟨0,none,_,_,_⟩,⟨0,none,_,_,_⟩,⟨0,some (9,true),_,_,_⟩,⟨0,some (9,true),_,_,_⟩,⟨0,some (9,true),_,_,_⟩,⟨0,some (9,true),_,_,_⟩,⟨0,some (9,true),_,_,_⟩,⟨1,some (9,true),_,_,_⟩,⟨0,some (9,true),_,_,_⟩,⟨0,some (9,true),_,_,_⟩,⟨0,none,_,_,_⟩,⟨0,none,_,_,_⟩]) rfl ?_)))
        |(refine C_true rfl ?_)
        |(refine C_false rfl ?_)
        |(refine C_split rfl ?_ ?_ <;> (intro hb;(try simp only [decide_eq_true_eq] at hb);(try simp only [decide_eq_false_iff_not] at hb);(try simp only [Bool.not_eq_true'] at hb);(try simp only [Bool.not_eq_false'] at hb);(try (exfalso;first|contradiction|omega))))
        |(refine C_skip ?_)
        |(refine C_exit ?_)
        |(refine C_ret ?_)
        |(refine C_block ?_)))
    |(refine gE ?_;(first
        |(refine E_then ?_)
        |(refine E_thenX ?_)
        |(refine E_thenR ?_)
        |(refine E_block ?_)
        |(refine E_blockY ?_)
        |(refine E_blockR ?_)
        |(refine E_calm ?_)
        |(refine E_blockX rfl ?_)
        |(apply E_ret1 rfl;(first|exact Res.tmp rfl|(apply R_cellAll rfl;(focus ((repeat (first|exact mH|refine mT ?_));done));fail)|(apply R_cell1 rfl;(focus ((repeat (first|exact mH|refine mT ?_));done));exact T.sc3)))
        |(apply E_ret2 rfl;(first|exact Res.tmp rfl|(apply R_cellAll rfl;(focus ((repeat (first|exact mH|refine mT ?_));done));fail)|(apply R_cell1 rfl;(focus ((repeat (first|exact mH|refine mT ?_));done));exact T.sc3));(first|exact Res.tmp rfl|(apply R_cellAll rfl;(focus ((repeat (first|exact mH|refine mT ?_));done));fail)|(apply R_cell1 rfl;(focus ((repeat (first|exact mH|refine mT ?_));done));exact T.sc3)))
        | (apply E_ret3 rfl; (first | exact Res.tmp rfl | (apply R_cellAll rfl; (focus ((repeat (first | exact List.Mem.head _ | refine List.Mem.tail _ ?_)); done)); fail) | (apply R_cell1 rfl; (focus ((repeat (first | exact List.Mem.head _ | refine List.Mem.tail _ ?_)); done)); exact T.sc3)); (first | exact Res.tmp rfl | (apply R_cellAll rfl; (focus ((repeat (first | exact List.Mem.head _ | refine List.Mem.tail _ ?_)); done)); fail) | (apply R_cell1 rfl; (focus ((repeat (first | exact List.Mem.head _ | refine List.Mem.tail _ ?_)); done)); exact T.sc3)); (first | exact Res.tmp rfl | (apply R_cellAll rfl; (focus ((repeat (first | exact List.Mem.head _ | refine List.Mem.tail _ ?_)); done)); fail) | (apply R_cell1 rfl; (focus ((repeat (first | exact List.Mem.head _ | refine List.Mem.tail _ ?_)); done)); exact T.sc3))))))
  all_goals (refine retN ?_; simp [hasP, *])
def halfOk (a l : Int) : Bool := okP a l && !(decide (l = 16))
def hvI (a l x : Int) : Value := .int .i64 (bif halfOk a l then x else 0)
def halvesV (a l : Int) : Value := .tuple #[.agg #[hvI a l a, hvI a l (l + 1)], .agg #[hvI a l (a + size (l + 1)), hvI a l (l + 1)], .bool (halfOk a l)]
end Go.Proofs.Ytoabadliblkemaa

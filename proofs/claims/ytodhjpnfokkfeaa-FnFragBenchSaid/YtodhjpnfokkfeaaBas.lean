/- The functions that say whether a number lies between two others. -/
import Derived.Test.YtodhjpnfokkfeaaTypes
set_option linter.unusedSimpArgs false
set_option linter.unusedVariables false
namespace Go.Proofs.Ytodhjpnfokkfeaa
open Go Go.RowKit
attribute [local irreducible] GoS GoC GoE IsFl IsSc IsRw IsSl IsEl IsSt IsFs sp Mem Rd LenOf
def inB (n lo hi : Int) : Bool := decide (lo ≤ n) && decide (n ≤ hi)
theorem inB_t {n lo hi : Int} (h : inB n lo hi = true) : lo ≤ n ∧ n ≤ hi := by simpa [inB] using h
/-- what is left of a bound b behind n elements: -1: too many -/
def szR (b : Int) (n : Nat) : Int := if b - n < 0 then -1 else b - n
theorem szR_spec (b : Int) (n : Nat) : (b - n < 0 ∧ szR b n = -1) ∨ (0 ≤ b - n ∧ szR b n = b - n) := by
  unfold szR
  split
  · exact .inl ⟨by assumption, rfl⟩
  · exact .inr ⟨by omega, rfl⟩
theorem szR_ok {b : Int} {n : Nat} (h : ¬ szR b n < 0) : (n : Int) ≤ b ∧ szR b n = b - n := by
  unfold szR at h ⊢
  split
  · rename_i h2; rw [if_pos h2] at h; omega
  · exact ⟨by omega, rfl⟩
theorem within_c (n lo hi : Int) (w : World) : Calls Try.prog 57 #[.int .i64 n, .int .i64 lo, .int .i64 hi] w (RetN (.bool (inB n lo hi)) w) := by
  refine enter (n := 15) (E := [(0, _), (1, _), (2, _)]) Try.func57 rfl rfl rfl rfl ?_
  repeat' (first
    |(refine gS ?_;(first
        |(refine gGuard ?_;(first
            |(refine S_on rfl ?_)
            |(refine S_off rfl rfl rfl ?_)
            |(refine S_offn rfl rfl ?_)
            |(refine S_offU rfl rfl ?_)
            |(refine S_offUn rfl ?_)
            |(refine S_gsplit rfl ?_ ?_ <;> (intro hb;(try simp only [decide_eq_true_eq] at hb);(try simp only [decide_eq_false_iff_not] at hb);(try simp only [Bool.not_eq_true'] at hb);(try simp only [Bool.not_eq_false'] at hb);(try (exfalso;first|contradiction|omega))))))
        |(refine S_move rfl rfl ?_)
        |(refine S_assign rfl rfl ?_)
        |(refine gBin ?_;(first
            |(refine S_leq rfl rfl rfl ?_)))
        |(refine gPick ?_;(first
            |(refine S_pickT rfl rfl rfl ?_)
            |(refine S_pickF rfl rfl rfl ?_)))
        |(refine S_done ?_)))
    |(refine gC ?_;(first
        |(refine C_seq ?_)
        |(refine gReg ?_;(first
            |(refine gReg (i := 0) ?_;refine C_plain [(0,0)] (by kernel_rfl) (s := [⟨0,none,_,_,_⟩]) rfl ?_)
            |(refine gReg (i := 1) ?_;refine C_plain [(0,0),(1,0),(2,0),(3,0),(4,0),(5,0),(6,0),(7,0),(8,0)] (by kernel_rfl) (s := [⟨0,none,_,_,_⟩,⟨0,none,_,_,_⟩,⟨0,none,_,_,_⟩,⟨0,none,_,_,_⟩,⟨0,some (10,true),_,_,_⟩,⟨0,some (10,true),_,_,_⟩,⟨0,some (10,true),_,_,_⟩,⟨0,none,_,_,_⟩,⟨0,none,_,_,_⟩]) rfl ?_)))
        |(refine C_true rfl ?_)
        |(refine C_false rfl ?_)
        |(refine C_split rfl ?_ ?_ <;> (intro hb;(try simp only [decide_eq_true_eq] at hb);(try simp only [decide_eq_false_iff_not] at hb);(try simp only [Bool.not_eq_true'] at hb);(try simp only [Bool.not_eq_false'] at hb);(try (exfalso;first|contradiction|omega))))
        |(refine C_skip ?_)
        |(refine C_exit ?_)
        |(refine C_ret ?_)
        |(refine C_block ?_)))
    |(refine gE ?_;(first
        |(refine E_then ?_)
        |(refine E_thenX ?_)
        |(refine E_thenR ?_)
        |(refine E_block ?_)
        |(refine E_blockY ?_)
        |(refine E_blockR ?_)
        |(refine E_calm ?_)
        |(refine E_blockX rfl ?_)
        |(apply E_ret1 rfl;(first|exact Res.tmp rfl|(apply R_cellAll rfl;(focus ((repeat (first|exact mH|refine mT ?_));done));fail)|(apply R_cell1 rfl;(focus ((repeat (first|exact mH|refine mT ?_));done));fail)))
        |(apply E_ret2 rfl;(first|exact Res.tmp rfl|(apply R_cellAll rfl;(focus ((repeat (first|exact mH|refine mT ?_));done));fail)|(apply R_cell1 rfl;(focus ((repeat (first|exact mH|refine mT ?_));done));fail));(first|exact Res.tmp rfl|(apply R_cellAll rfl;(focus ((repeat (first|exact mH|refine mT ?_));done));fail)|(apply R_cell1 rfl;(focus ((repeat (first|exact mH|refine mT ?_));done));fail)))
        | (apply E_ret3 rfl; (first | exact Res.tmp rfl | (apply R_cellAll rfl; (focus ((repeat (first | exact List.Mem.head _ | refine List.Mem.tail _ ?_)); done)); fail) | (apply R_cell1 rfl; (focus ((repeat (first | exact List.Mem.head _ | refine List.Mem.tail _ ?_)); done)); fail)); (first | exact Res.tmp rfl | (apply R_cellAll rfl; (focus ((repeat (first | exact List.Mem.head _ | refine List.Mem.tail _ ?_)); done)); fail) | (apply R_cell1 rfl; (focus ((repeat (first | exact List.Mem.head _ | refine List.Mem.tail _ ?_)); done)); fail)); (first | exact Res.tmp rfl | (apply R_cellAll rfl; (focus ((repeat (first | exact List.Mem.head _ | refine List.Mem.tail _ ?_)); done)); fail) | (apply R_cell1 rfl; (focus ((repeat (first | exact List.Mem.head _ | refine List.Mem.tail _ ?_)); done)); fail))))))
  all_goals (refine retN ?_; simp [inB, *])
theorem l1In_c (n lo hi : Int) (w : World) : Calls Try.prog 69 #[.int .i64 n, .int .i64 lo, .int .i64 hi] w (RetN (.bool (inB n lo hi)) w) := by
  refine enter (n := 15) (E := [(0, _), (1, _), (2, _)]) Try.func69 rfl rfl rfl rfl ?_
  repeat' (first
    |(refine gS ?_;(first
        |(refine gGuard ?_;(first
            |(refine S_on rfl ?_)
            |(refine S_off rfl rfl rfl ?_)
            |(refine S_offn rfl rfl ?_)
            |(refine S_offU rfl rfl ?_)
            |(refine S_offUn rfl ?_)
            |(refine S_gsplit rfl ?_ ?_ <;> (intro hb;(try simp only [decide_eq_true_eq] at hb);(try simp only [decide_eq_false_iff_not] at hb);(try simp only [Bool.not_eq_true'] at hb);(try simp only [Bool.not_eq_false'] at hb);(try (exfalso;first|contradiction|omega))))))
        |(refine S_move rfl rfl ?_)
        |(refine S_assign rfl rfl ?_)
        |(refine gBin ?_;(first
            |(refine S_leq rfl rfl rfl ?_)
            |(refine S_geq rfl rfl rfl ?_)))
        |(refine gPick ?_;(first
            |(refine S_pickT rfl rfl rfl ?_)
            |(refine S_pickF rfl rfl rfl ?_)))
        |(refine S_done ?_)))
    |(refine gC ?_;(first
        |(refine C_seq ?_)
        |(refine gReg ?_;(first
            |(refine gReg (i := 0) ?_;refine C_plain [(0,0)] (by kernel_rfl) (s := [⟨0,none,_,_,_⟩]) rfl ?_)
            |(refine gReg (i := 1) ?_;refine C_plain [(0,0),(1,0),(2,0),(3,0),(4,0),(5,0),(6,0),(7,0),(8,0)] (by kernel_rfl) (s := [⟨0,none,_,_,_⟩,⟨0,none,_,_,_⟩,⟨0,none,_,_,_⟩,⟨0,none,_,_,_⟩,⟨0,some (10,true),_,_,_⟩,⟨0,some (10,true),_,_,_⟩,⟨0,some (10,true),_,_,_⟩,⟨0,none,_,_,_⟩,⟨0,none,_,_,_⟩]) rfl ?_)))
        |(refine C_true rfl ?_)
        |(refine C_false rfl ?_)
        |(refine C_split rfl ?_ ?_ <;> (intro hb;(try simp only [decide_eq_true_eq] at hb);(try simp only [decide_eq_false_iff_not] at hb);(try simp only [Bool.not_eq_true'] at hb);(try simp only [Bool.not_eq_false'] at hb);(try (exfalso;first|contradiction|omega))))
        |(refine C_skip ?_)
        |(refine C_exit ?_)
        |(refine C_ret ?_)
        |(refine C_block ?_)))
    |(refine gE ?_;(first
        |(refine E_then ?_)
        |(refine E_thenX ?_)
        |(refine E_thenR ?_)
        |(refine E_block ?_)
        |(refine E_blockY ?_)
        |(refine E_blockR ?_)
        |(refine E_calm ?_)
        |(refine E_blockX rfl ?_)
        |(apply E_ret1 rfl;(first|exact Res.tmp rfl|(apply R_cellAll rfl;(focus ((repeat (first|exact mH|refine mT ?_));done));fail)|(apply R_cell1 rfl;(focus ((repeat (first|exact mH|refine mT ?_));done));fail)))
        |(apply E_ret2 rfl;(first|exact Res.tmp rfl|(apply R_cellAll rfl;(focus ((repeat (first|exact mH|refine mT ?_));done));fail)|(apply R_cell1 rfl;(focus ((repeat (first|exact mH|refine mT ?_));done));fail));(first|exact Res.tmp rfl|(apply R_cellAll rfl;(focus ((repeat (first|exact mH|refine mT ?_));done));fail)|(apply R_cell1 rfl;(focus ((repeat (first|exact mH|refine mT ?_));done));fail)))
        | (apply E_ret3 rfl; (first | exact Res.tmp rfl | (apply R_cellAll rfl; (focus ((repeat (first | exact List.Mem.head _ | refine List.Mem.tail _ ?_)); done)); fail) | (apply R_cell1 rfl; (focus ((repeat (first | exact List.Mem.head _ | refine List.Mem.tail _ ?_)); done)); fail)); (first | exact Res.tmp rfl | (apply R_cellAll rfl; (focus ((repeat (first | exact List.Mem.head _ | refine List.Mem.tail _ ?_)); done)); fail) | (apply R_cell1 rfl; (focus ((repeat (first | exact List.Mem.head _ | refine List.Mem.tail _ ?_)); done)); fail)); (first | exact Res.tmp rfl | (apply R_cellAll rfl; (focus ((repeat (first | exact List.Mem.head _ | refine List.Mem.tail _ ?_)); done)); fail) | (apply R_cell1 rfl; (focus ((repeat (first | exact List.Mem.head _ | refine List.Mem.tail _ ?_)); done)); fail))))))
  all_goals (refine retN ?_; simp [inB, *])
end Go.Proofs.Ytodhjpnfokkfeaa

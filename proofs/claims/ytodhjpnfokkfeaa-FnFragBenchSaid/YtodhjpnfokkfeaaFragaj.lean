/- A slot struck at its place; slots cloned. -/
import Derived.Test.YtodhjpnfokkfeaaFragai
set_option linter.unusedSimpArgs false
set_option linter.unusedVariables false
namespace Go.Proofs.Ytodhjpnfokkfeaa
open Go Go.RowKit
attribute [local irreducible] Calls GoS GoC GoE GoT Mid IsEq IsFl IsSc IsRw IsSl IsEl IsSt IsFs sp Mem Rd LenOf szR joinC alikeC likeC
theorem flat_drop {α : Type} {f : α → List Value} {m : Nat} (hm : ∀ x, (f x).length = m) {l : List α} {k : Nat} (hk : k ≤ l.length) : (l.flatMap f).drop (k * m) = (l.drop k).flatMap f := by
  have h1 : ((l.take k).flatMap f).length = k * m := by rw [flat_len hm, List.length_take, Nat.min_eq_left hk]
  have h2 : l.flatMap f = (l.take k).flatMap f ++ (l.drop k).flatMap f := by rw [← List.flatMap_append, List.take_append_drop]
  rw [h2, ← h1, List.drop_left' rfl]
theorem flat_take {α : Type} {f : α → List Value} {m : Nat} (hm : ∀ x, (f x).length = m) {l : List α} {k : Nat} (hk : k ≤ l.length) : (l.flatMap f).take (k * m) = (l.take k).flatMap f := by
  have h1 : ((l.take k).flatMap f).length = k * m := by rw [flat_len hm, List.length_take, Nat.min_eq_left hk]
  have h2 : l.flatMap f = (l.take k).flatMap f ++ (l.drop k).flatMap f := by rw [← List.flatMap_append, List.take_append_drop]
  rw [h2, ← h1, List.take_left' rfl]
/-- an element drawn over -/
theorem draw_row {l : List MFragSlot} {k : Nat} (hk : k < l.length) : setAt (l.flatMap clFragSlot) (k * 3) ((l.flatMap clFragSlot).drop ((k + 1) * 3)) = (l.eraseIdx k ++ l.drop (l.length - 1)).flatMap clFragSlot := by
  have h0 : ∀ x : MFragSlot, (clFragSlot x).length = 3 := fun _ => rfl
  have h1 : ((l.drop (k + 1)).flatMap clFragSlot).length = (l.length - (k + 1)) * 3 := by rw [flat_len h0, List.length_drop]
  unfold setAt
  rw [flat_drop h0 (by omega), h1, flat_take h0 (by omega), show k * 3 + (l.length - (k + 1)) * 3 = (l.length - 1) * 3 by omega, flat_drop h0 (by omega), List.eraseIdx_eq_take_drop_succ, List.flatMap_append, List.flatMap_append]
set_option maxRecDepth 8192 in
theorem delete_c (v : Value) (l : List MFragSlot) (k : Nat) (hk : k < l.length) {w0 : World} (R : List Blk) (hone : ∀ y ∈ l, (clFragSlot y).all (·.oneCell') = true) (w : World) (hst0 : St w0 w ([.row v 67 3 l.length (l.flatMap clFragSlot)] ++ R)) : Calls Try.prog 90 #[v, .int .i64 (k : Int), .int .i64 ((k : Int) + 1)] w (RetS w0 R (fun u : MSFragSlot => u.2 = l.eraseIdx k) (fun u => u.1) (fun u => [.row u.1 67 3 u.2.length (u.2.flatMap clFragSlot)])) := by
  have hs' := hst0
  rw [List.singleton_append] at hs'
  have hlen : l.length ≤ maxLen := (Mem.row hs' (List.Mem.head _)).len
  simp only [maxLen] at hlen
  refine enterS (n := 33) (E := [(0, _), (1, _), (2, _)]) Try.func90 rfl rfl rfl rfl hs' ?_
  repeat' (first
    |(refine gS ?_;(first
        |(refine S_move rfl rfl ?_)
        |(refine S_assign rfl rfl ?_)
        |(refine gCall ?_;(first
            |(apply F_len rfl rfl rfl;(focus exact ⟨_,_,by exact T.sl43⟩);(focus (first|(focus (first|exact len_nil|(apply len_given;assumption)|(apply len_row;(focus ((repeat (first|exact mH|refine mT ?_));done)))|(apply len_isN;assumption)))|(apply len_sub;(focus (first|exact len_nil|(apply len_given;assumption)|(apply len_row;(focus ((repeat (first|exact mH|refine mT ?_));done)))|(apply len_isN;assumption)));(focus omega);(focus omega)))))))
        |(refine gBin ?_;(first
            |(refine S_eql rfl rfl rfl ?_)))
        |(refine S_done ?_)
        |((refine F_slice3 rfl rfl T.sl43 (len_row (List.Mem.head _)) ⟨_,_,rfl,?_,rfl⟩ rfl rfl ?_ ?_ ?_ ?_ ?_;(focus omega);(focus omega);(focus omega);(focus omega);(focus omega)))))
    |(refine gC ?_;(first
        |(refine C_seq ?_)
        |(refine gReg ?_;(first
            |(refine gReg (i := 0) ?_;refine C_plain [(0,0)] (by kernel_rfl) (s := [⟨0,none,_,_,_⟩]) rfl ?_)
            |(refine gReg (i := 1) ?_;refine C_plain [(0,0),(1,0),(2,0),(3,0),(4,0),(5,0)] (by kernel_rfl) (s := [⟨0,none,_,_,_⟩,⟨0,none,_,_,_⟩,⟨0,none,_,_,_⟩,⟨0,none,_,_,_⟩,⟨0,none,_,_,_⟩,⟨0,none,_,_,_⟩]) rfl ?_)
            |(refine gReg (i := 2) ?_;refine C_plain [(0,0),(1,0),(2,0)] (by kernel_rfl) (s := [⟨0,none,_,_,_⟩,⟨0,none,_,_,_⟩,⟨0,none,_,_,_⟩]) rfl ?_)
            |(refine gReg (i := 4) ?_;refine C_plain [(0,0),(1,0),(2,0)] (by kernel_rfl) (s := [⟨0,none,_,_,_⟩,⟨0,none,_,_,_⟩,⟨0,none,_,_,_⟩]) rfl ?_)))
        |(refine C_split rfl ?_ ?_ <;> (intro hb;(try simp only [decide_eq_true_eq] at hb);(try simp only [decide_eq_false_iff_not] at hb);(try simp only [Bool.not_eq_true'] at hb);(try simp only [Bool.not_eq_false'] at hb);(try (exfalso;first|contradiction|omega))))
        |(refine C_skip ?_)))
    |(refine gE ?_;(first
        |(refine E_then ?_))))
  have hall1 : ((l.flatMap clFragSlot).drop ((k + 1) * 3)).all (·.oneCell') = true := by
    rw [flat_drop (m := 3) (fun _ => rfl) (by omega)]
    exact all_flat fun y hy => hone y (List.mem_of_mem_drop hy)
  have hl2 : (l.eraseIdx k ++ l.drop (l.length - 1)).length = l.length := by rw [List.length_append, List.length_eraseIdx_of_lt hk, List.length_drop]; omega
  have hel : (l.eraseIdx k).length = l.length - 1 := List.length_eraseIdx_of_lt hk
  repeat' (first
    |(refine gS ?_;(first
        |(refine S_move rfl rfl ?_)
        |(refine S_assign rfl rfl ?_)
        |(apply F_slice rfl rfl;exact T.sl43;(focus (first|(focus (first|exact len_nil|(apply len_given;assumption)|(apply len_row;(focus ((repeat (first|exact mH|refine mT ?_));done)))|(apply len_isN;assumption)))|(apply len_sub;(focus (first|exact len_nil|(apply len_given;assumption)|(apply len_row;(focus ((repeat (first|exact mH|refine mT ?_));done)))|(apply len_isN;assumption)));(focus omega);(focus omega))));(focus exact rfl);(focus exact ⟨_,_,rfl,by omega,rfl⟩);(focus omega);(focus omega))
        |(apply F_slice rfl rfl;exact T.sl43;(focus (first|(focus (first|exact len_nil|(apply len_given;assumption)|(apply len_row;(focus ((repeat (first|exact mH|refine mT ?_));done)))|(apply len_isN;assumption)))|(apply len_sub;(focus (first|exact len_nil|(apply len_given;assumption)|(apply len_row;(focus ((repeat (first|exact mH|refine mT ?_));done)))|(apply len_isN;assumption)));(focus omega);(focus omega))));(focus exact ⟨_,_,rfl,by omega,rfl⟩);(focus exact rfl);(focus omega);(focus omega))
        |(refine gCall ?_;(first
            |(apply F_len rfl rfl rfl;(focus exact ⟨_,_,by exact T.sl43⟩);(focus (first|(focus (first|exact len_nil|(apply len_given;assumption)|(apply len_row;(focus ((repeat (first|exact mH|refine mT ?_));done)))|(apply len_isN;assumption)))|(apply len_sub;(focus (first|exact len_nil|(apply len_given;assumption)|(apply len_row;(focus ((repeat (first|exact mH|refine mT ?_));done)))|(apply len_isN;assumption)));(focus omega);(focus omega)))))
            |((apply F_appendIn (I := k) (J := k + 1) (N := l.length) rfl rfl rfl rfl T.el43;(focus omega);(focus omega);(focus exact hall1);(focus exact Upd.here);(focus (first|exact okst2|exact okst1));rw [show k + (l.length - (k + 1)) = l.length - 1 from by omega,draw_row hk]))
            |((apply F_clear rfl rfl T.el43 rfl;(focus omega);(focus exact Upd.here);(first|exact okst2|exact okst1)))))
        |(refine S_done ?_)
        |((refine F_sliceUp rfl rfl T.sl43 (len_row (List.Mem.head _)) rfl rfl ?_ ?_ ?_ ?_;(focus omega);(focus omega);(focus omega)))))
    |(refine gC ?_;(first
        |(refine C_seq ?_)
        |(refine gReg ?_;(first
            |(refine gReg (i := 5) ?_;refine C_drawn [(0,0),(1,0),(2,0),(3,0),(4,0),(5,0),(6,2),(7,0)] [] T.mixed (by kernel_rfl) (s := [⟨0,none,_,_,_⟩,⟨0,none,_,_,_⟩,⟨0,none,_,_,_⟩,⟨0,none,_,_,_⟩,⟨0,none,_,_,_⟩,⟨0,none,_,_,_⟩,⟨2,none,_,_,_⟩,⟨0,none,_,_,_⟩]) rfl ?_)
            |(refine gReg (i := 6) ?_;refine C_plain [(0,0),(1,0),(2,0),(3,0),(4,0),(5,2)] (by kernel_rfl) (s := [⟨0,none,_,_,_⟩,⟨0,none,_,_,_⟩,⟨0,none,_,_,_⟩,⟨0,none,_,_,_⟩,⟨0,none,_,_,_⟩,⟨2,none,_,_,_⟩]) rfl ?_)
            |(refine gReg (i := 7) ?_;refine C_plain [(0,0),(1,0)] (by kernel_rfl) (s := [⟨0,none,_,_,_⟩,⟨0,none,_,_,_⟩]) rfl ?_)))
        |(refine C_ret ?_)))
    |(refine gE ?_;(first
        |(refine E_then ?_)
        |(refine E_calm ?_)
        |(apply E_ret1 rfl;(first|exact Res.tmp rfl|(apply R_cellAll rfl;(focus ((repeat (first|exact mH|refine mT ?_));done));fail)|(apply R_cell1 rfl;(focus ((repeat (first|exact mH|refine mT ?_));done));fail))))))
  have e1 : ((l.length : Int)).toNat = l.length := by omega
  have e2 : (((l.length - 1 - 0 : Nat) : Int)).toNat = l.length - 1 := by omega
  rw [e1, e2]
  generalize hg : l.eraseIdx k ++ l.drop (l.length - 1) = l2 at hl2 ⊢
  have ht : l2.take (l.length - 1) = l.eraseIdx k := by rw [← hg, List.take_left' hel]
  rw [← hl2] at ht hk ⊢
  rw [clear_row (by omega)]
  refine retS (subV v 3 0 (l2.length - 1), (((l2.take (l2.length - 1) ++ List.replicate (l2.length - (l2.length - 1)) zeroSlot).drop 0).take (l2.length - 1 - 0))) ?_ rfl ?_
  · rw [List.drop_zero, Nat.sub_zero, List.take_left' (by rw [List.length_take]; omega), ht]
  · rw [List.singleton_append]
    have hl3 : (l2.take (l2.length - 1) ++ List.replicate (l2.length - (l2.length - 1)) zeroSlot).length = l2.length := by rw [List.length_append, List.length_take, List.length_replicate]; omega
    exact Ent.part (f := clFragSlot) (m := 3) (l := l2.take (l2.length - 1) ++ List.replicate (l2.length - (l2.length - 1)) zeroSlot) (lo := 0) (hi := l2.length - 1) (fun _ => rfl) (Nat.zero_le _) (by rw [hl3]; omega) hl3.symm
theorem cloneSlots_c (v : Value) (l : List MFragSlot) (hl : l.length ≤ 1048576) (w : World) (hm : Mem w v 3 l.length (l.flatMap clFragSlot)) (hone : ∀ y ∈ l, (clFragSlot y).all (·.oneCell') = true) : Calls Try.prog 88 #[v] w (RetR 67 3 l.length (l.flatMap clFragSlot) w) := by
  have hall := all_flat hone
  refine enter (n := 8) (E := [(0, _)]) Try.func88 rfl rfl rfl rfl ?_
  repeat' (first
    |(refine gS ?_;(first
        |(refine S_move rfl rfl ?_)
        |(refine S_assign rfl rfl ?_)
        |(apply F_make0 rfl rfl rfl;exact T.el43;rfl;(focus omega);(focus (simp only [maxLen];omega));intro sv;(try (refine S_fact (row_one (v := sv) (by (focus ((repeat (first|exact mH|refine mT ?_));done)))) (fun hone => ?_))))
        |(refine gCall ?_;(first
            |(apply F_len rfl rfl rfl;(focus exact ⟨_,_,by exact T.sl43⟩);(focus (first|exact len_nil|(apply len_given;assumption)|(apply len_row;(focus ((repeat (first|exact mH|refine mT ?_));done)))|(apply len_isN;assumption))))
            |(apply F_append rfl rfl rfl rfl;exact T.el43;(focus (intro sv;(focus ((repeat (first|exact Upd.here|apply Upd.there));done))));(focus (first|exact rd_nil|(apply rd_given;(focus assumption);(focus (first|exact freeG0|exact freeG1)))|(apply rd_row;(focus ((repeat (first|exact mH|refine mT ?_));done));(focus (first|exact freeR0|exact freeR1)))));(focus (first|rfl|assumption|(apply all_flat;intro _ _;rfl)|(rw [List.append_nil];assumption)|(simp only [List.append_nil,List.all_cons,List.all_nil,Bool.and_true,Bool.true_and,one_int,one_bool,one_string,one_slice,one_pointer, *];done)|simp));(first|exact okst2|exact okst1|exact okst1');(focus (simp only [maxLen];first|omega|(simp only [List.length_take,List.length_drop];omega)));(focus (first|omega|(simp only [List.length_take,List.length_drop];omega)));intro sv;(try (refine S_fact (row_one (v := sv) (by (focus ((repeat (first|exact mH|refine mT ?_));done)))) (fun hone => ?_))))))
        |(refine S_done ?_)))
    |(refine gC ?_;(first
        |(refine C_seq ?_)
        |(refine gReg ?_;(first
            |(refine gReg (i := 0) ?_;refine C_plain [(0,0)] (by kernel_rfl) (s := [⟨0,none,_,_,_⟩]) rfl ?_)
            |(refine gReg (i := 1) ?_;refine C_plain [(0,0),(1,0),(2,2),(3,0),(4,2),(5,0)] (by kernel_rfl) (s := [⟨0,none,_,_,_⟩,⟨0,none,_,_,_⟩,⟨2,none,_,_,_⟩,⟨0,none,_,_,_⟩,⟨2,none,_,_,_⟩,⟨0,none,_,_,_⟩]) rfl ?_)))
        |(refine C_ret ?_)))
    |(refine gE ?_;(first
        |(refine E_then ?_)
        |(apply E_ret1 rfl;(first|exact Res.tmp rfl|(apply R_cellAll rfl;(focus ((repeat (first|exact mH|refine mT ?_));done));fail)|(apply R_cell1 rfl;(focus ((repeat (first|exact mH|refine mT ?_));done));fail))))))
  exact retR (List.Mem.head _) (by omega) (by rw [List.nil_append])
end Go.Proofs.Ytodhjpnfokkfeaa

/- Flows: the contracts of the functions on one flow. -/
import Derived.Test.YtmfjlgfhhebboaaNet
namespace Go.Proofs.Ytmfjlgfhhebboaa
open Go.RowKit
def flowOk (a b c d e : Int) : Bool := inB a 1 7 && inB b 0 65535 && inB d 0 65535 && inB c 1 65535 && inB e 1 65535
theorem l21In_c (n lo hi : Int) (w : World) : Calls Try.prog 22 #[.int .i64 n, .int .i64 lo, .int .i64 hi] w (RetQ (.bool (inB n lo hi)) w) := by
  go_enter Try.func22, Try.ntmps22
  go_wp2
  all_goals (go_ret; exact ⟨by simp [inB]; try omega, rfl⟩)
theorem implNatFlowOk_c (a b c d e : Int) (w : World) : Calls Try.prog 11 #[.agg #[.int .i64 a, .int .i64 b, .int .i64 c, .int .i64 d, .int .i64 e]] w (RetN (.bool (flowOk a b c d e)) w) := by
  go_enter Try.func11, Try.ntmps11
  go_wp2_with (first
    | (go_at_call 23; refine splitQ (within_c _ _ _ _) (fun hb => ?_) (fun hb => ?_)))
  all_goals (go_ret; exact ⟨by simp only [flowOk, *]; rfl, by (repeat' (first | (with_reducible exact Ext.refl _) | (with_reducible refine Ext.drew' ?_) | (with_reducible refine Ext.alloc' ?_ _) | (with_reducible refine Ext.drewN' ?_ _) | (with_reducible refine Ext.setCell' ?_ ?_ _) | (with_reducible refine Ext.trans ?_ (by assumption)) | omega | (simp; done) | (simp; omega)))⟩)
theorem specNatFlowOk_c (a b c d e : Int) (w : World) : Calls Try.prog 9 #[.agg #[.int .i64 a, .int .i64 b, .int .i64 c, .int .i64 d, .int .i64 e]] w (RetN (.bool (flowOk a b c d e)) w) := by
  go_enter Try.func9, Try.ntmps9
  go_wp2_with (first
    | (go_at_call 22; refine splitQ (l21In_c _ _ _ _) (fun hb => ?_) (fun hb => ?_)))
  all_goals (go_ret; exact ⟨by simp only [flowOk, *]; rfl, by (repeat' (first | (with_reducible exact Ext.refl _) | (with_reducible refine Ext.drew' ?_) | (with_reducible refine Ext.alloc' ?_ _) | (with_reducible refine Ext.drewN' ?_ _) | (with_reducible refine Ext.setCell' ?_ ?_ _) | (with_reducible refine Ext.trans ?_ (by assumption)) | omega | (simp; done) | (simp; omega)))⟩)
theorem toNatFlow_c (a b c d e : Int) (w : World) : Calls Try.prog 10 #[.agg #[.int .i64 a, .int .i64 b, .int .i64 c, .int .i64 d, .int .i64 e]] w (RetN (.agg #[.int .i64 a, .int .i64 b, .int .i64 c, .int .i64 d, .int .i64 e]) w) := by
  go_enter Try.func10, Try.ntmps10
  go_wp2_with fail
  all_goals (refine bodyPost_ret (v := .agg #[.int .i64 a, .int .i64 b, .int .i64 c, .int .i64 d, .int .i64 e]) (by simp [results, Try.results10, go_sem]) rfl ⟨rfl, by (repeat' (first | (with_reducible exact Ext.refl _) | (with_reducible refine Ext.drew' ?_) | (with_reducible refine Ext.alloc' ?_ _) | (with_reducible refine Ext.drewN' ?_ _) | (with_reducible refine Ext.setCell' ?_ ?_ _) | (with_reducible refine Ext.trans ?_ (by assumption)) | omega | (simp; done) | (simp; omega)))⟩)
theorem implNatBack_c (a b c d e : Int) (w : World) : Calls Try.prog 16 #[.agg #[.int .i64 a, .int .i64 b, .int .i64 c, .int .i64 d, .int .i64 e]] w (RetN (.agg #[.int .i64 a, .int .i64 d, .int .i64 e, .int .i64 b, .int .i64 c]) w) := by
  go_enter Try.func16, Try.ntmps16
  go_wp2_with fail
  all_goals (refine bodyPost_ret (v := .agg #[.int .i64 a, .int .i64 d, .int .i64 e, .int .i64 b, .int .i64 c]) (by simp [results, Try.results16, go_sem]) rfl ⟨rfl, by (repeat' (first | (with_reducible exact Ext.refl _) | (with_reducible refine Ext.drew' ?_) | (with_reducible refine Ext.alloc' ?_ _) | (with_reducible refine Ext.drewN' ?_ _) | (with_reducible refine Ext.setCell' ?_ ?_ _) | (with_reducible refine Ext.trans ?_ (by assumption)) | omega | (simp; done) | (simp; omega)))⟩)
theorem specNatBack_c (a b c d e : Int) (w : World) : Calls Try.prog 15 #[.agg #[.int .i64 a, .int .i64 b, .int .i64 c, .int .i64 d, .int .i64 e]] w (RetN (.agg #[.int .i64 a, .int .i64 d, .int .i64 e, .int .i64 b, .int .i64 c]) w) := by
  go_enter Try.func15, Try.ntmps15
  go_wp2_with fail
  all_goals (refine bodyPost_ret (v := .agg #[.int .i64 a, .int .i64 d, .int .i64 e, .int .i64 b, .int .i64 c]) (by simp [results, Try.results15, go_sem]) rfl ⟨rfl, by (repeat' (first | (with_reducible exact Ext.refl _) | (with_reducible refine Ext.drew' ?_) | (with_reducible refine Ext.alloc' ?_ _) | (with_reducible refine Ext.drewN' ?_ _) | (with_reducible refine Ext.setCell' ?_ ?_ _) | (with_reducible refine Ext.trans ?_ (by assumption)) | omega | (simp; done) | (simp; omega)))⟩)
theorem eqNatFlow_c (a b c d e : Int) (w : World) : Calls Try.prog 17 #[.agg #[.int .i64 a, .int .i64 b, .int .i64 c, .int .i64 d, .int .i64 e], .agg #[.int .i64 a, .int .i64 b, .int .i64 c, .int .i64 d, .int .i64 e]] w (RetN (.bool true) w) := by
  go_enter Try.func17, Try.ntmps17
  go_wp2_with fail
  all_goals (go_ret; exact ⟨rfl, by (repeat' (first | (with_reducible exact Ext.refl _) | (with_reducible refine Ext.drew' ?_) | (with_reducible refine Ext.alloc' ?_ _) | (with_reducible refine Ext.drewN' ?_ _) | (with_reducible refine Ext.setCell' ?_ ?_ _) | (with_reducible refine Ext.trans ?_ (by assumption)) | omega | (simp; done) | (simp; omega)))⟩)
end Go.Proofs.Ytmfjlgfhhebboaa

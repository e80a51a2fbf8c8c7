/- The law FnExactNatBack: for every flow both functions answer the same. No condition. -/
import Derived.Test.YtmfjlgfhhebboaaNat
import Derived.Test.YtmfjlgfhhebboaaOpen
namespace Go.Proofs.Ytmfjlgfhhebboaa.fnExactNatBack
open Go.ChangeShapes Go.WideShapes Go.ChangeAt Go.RowKit
theorem walk (a b c d e : Int) (w : World) : Calls Try.prog 6 #[.agg #[.int .i64 a, .int .i64 b, .int .i64 c, .int .i64 d, .int .i64 e]] w (RetN (.bool true) w) := by
  go_enter Try.func6, Try.ntmps6
  go_wp2_with (first
    | (go_at_call 10; refine takeN (toNatFlow_c _ _ _ _ _ _) ?_; intro w1 hw1; obtain ⟨g1, f1, hc1, hf1, hz1⟩ := hw1.rules; (repeat (first | simp only [World.size_drew] at hz1 | simp only [World.size_alloc] at hz1 | simp only [World.size_setCell] at hz1)))
    | (go_at_call 15; refine takeN (specNatBack_c _ _ _ _ _ _) ?_; intro w1 hw1; obtain ⟨g1, f1, hc1, hf1, hz1⟩ := hw1.rules; (repeat (first | simp only [World.size_drew] at hz1 | simp only [World.size_alloc] at hz1 | simp only [World.size_setCell] at hz1)))
    | (go_at_call 16; refine takeN (implNatBack_c _ _ _ _ _ _) ?_; intro w1 hw1; obtain ⟨g1, f1, hc1, hf1, hz1⟩ := hw1.rules; (repeat (first | simp only [World.size_drew] at hz1 | simp only [World.size_alloc] at hz1 | simp only [World.size_setCell] at hz1)))
    | (go_at_call 17; refine takeN (eqNatFlow_c _ _ _ _ _ _) ?_; intro w1 hw1; obtain ⟨g1, f1, hc1, hf1, hz1⟩ := hw1.rules; (repeat (first | simp only [World.size_drew] at hz1 | simp only [World.size_alloc] at hz1 | simp only [World.size_setCell] at hz1))))
  all_goals (go_ret; exact ⟨rfl, by (repeat' (first | (with_reducible exact Ext.refl _) | (with_reducible refine Ext.drew' ?_) | (with_reducible refine Ext.alloc' ?_ _) | (with_reducible refine Ext.drewN' ?_ _) | (with_reducible refine Ext.setCell' ?_ ?_ _) | (with_reducible refine Ext.trans ?_ (by assumption)) | omega | (simp; done) | (simp; omega)))⟩)
set_option maxRecDepth 100000 in
theorem lifted (os : Os) (started : os.Started) (H : Type) (enc : TypeId × Value → H) :
    ReturnsInHanded {} Try.checked os 6 .any (Rows.fnExactNatBackSpec.pre6 enc Try.prog Try.f6 Rows.fnExactNatBackRow.domain false) (Rows.fnExactNatBackSpec.post enc Try.prog Try.f6 false true false false) := by
  refine returnsInHanded_of_change (C := Try.checked) own started (by kernel_rfl) Try.func6
    (ChangeSpec.witness6 (enc := enc) (C := Try.checked) false ⟨#[], #[.agg #[.int .i64 0, .int .i64 0, .int .i64 0, .int .i64 0, .int .i64 0]], []⟩ 8 (by kernel_rfl) (by kernel_rfl) (by kernel_rfl) (by kernel_rfl)) ?_
  intro W base args ds gs before hval0 hW hcnd _
  have hval : ∀ (j : Nat) t v, Try.f6.params[j]? = some t → args[j]? = some v → Value.okWide Try.prog W .any base t v := hval0
  have hW' := hW
  obtain ⟨p, q, hA0, hV, rfl, hfz, hnd⟩ := hW
  have hA : DataW.TrodAll enc Try.prog W 0 (fun _ => true) true Try.f6.params.toList args.toList ds p := hA0
  rw [Try.params6] at hA hval
  obtain ⟨v0, vs0, d0, ds0, p0, q0, hargs, rfl, rfl, h0, r0⟩ := trodAll_cons hA
  obtain ⟨rfl, rfl, rfl⟩ := trodAll_nil r0
  obtain rfl : args = #[v0] := by cases args; simp_all
  obtain ⟨rfl, rfl⟩ := trodVars_none hV
  have k0 := h0
  have lt0 : ∀ x ∈ p0, x.block < W.heap.size := by obtain ⟨m, hm⟩ := k0; exact DataW.trod_lt m _ _ _ hm
  obtain ⟨a0, b0, c0, d0, e0, rfl⟩ := open_flow (hval 0 24 v0 rfl rfl) h0
  clear hA0 hval0
  refine (walk a0 b0 c0 d0 e0 W).mono fun e W' ⟨he, bel⟩ => ?_
  subst he
  exact ⟨_, rfl, _, _, _, [], _, [], hW', trodAll_mk1 (shut_bool Try.underlying4 _), (trodAll_cons_mk (Below.trod laidOut (by kernel_rfl) (of_decide_eq_true (by kernel_rfl)) k0 bel lt0) trodAll_mk0), rfl, bel.frame _, fun h => by cases h⟩
theorem over : Rows.fnExactNatBackRow.holds Try.pinned (OpenSpec.ofChange Rows.fnExactNatBackSpec) :=
  OpenClaim.holds_of_wide 6 Try.f6 rfl rfl rfl rfl rfl rfl rfl ⟨rfl, rfl, rfl, rfl, rfl⟩ rfl rfl rfl rfl rfl (by kernel_rfl) Try.func6 (by kernel_rfl)
    (of_decide_eq_true (by kernel_rfl)) (by unfold Func.isWrapper; rw [if_neg (of_decide_eq_false (by kernel_rfl))]; exact ⟨rfl, rfl⟩)
    (fun os started H enc _ => lifted os started H enc)
theorem proved : Rows.FnExactNatBackSaid := over
#print axioms proved
end Go.Proofs.Ytmfjlgfhhebboaa.fnExactNatBack

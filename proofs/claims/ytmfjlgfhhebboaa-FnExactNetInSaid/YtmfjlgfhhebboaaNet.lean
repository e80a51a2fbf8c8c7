/- Prefixes: the contracts of the functions on one prefix. -/
import Derived.Test.YtmfjlgfhhebboaaProg
import Derived.Test.YtmfjlgfhhebboaaBase
namespace Go.Proofs.Ytmfjlgfhhebboaa
open Go.RowKit
def inB (n lo hi : Int) : Bool := decide (lo ≤ n) && decide (n ≤ hi)
theorem inB_t {n lo hi : Int} (h : inB n lo hi = true) : lo ≤ n ∧ n ≤ hi := by simpa [inB] using h
def size (l : Int) : Int := 2 ^ (16 - l).toNat
theorem size_pos (l : Int) : 1 ≤ size l := by have : 0 < (2:Int) ^ (16 - l).toNat := Int.pow_pos (by omega); unfold size; omega
theorem size_le (l : Int) (h : 0 ≤ l) : size l ≤ 65536 := by
  unfold size
  obtain ⟨n, hn⟩ : ∃ n : Nat, n = (16 - l).toNat := ⟨_, rfl⟩
  rw [← hn]
  have h16 : n ≤ 16 := by omega
  have := Nat.pow_le_pow_right (n := 2) (by omega) h16
  have h2 : ((2 ^ n : Nat) : Int) ≤ ((2 ^ 16 : Nat) : Int) := by exact_mod_cast this
  have h3 : ((2 ^ n : Nat) : Int) = (2:Int) ^ n := by simp
  rw [← h3]; simpa using h2
/-- the prefix is ok -/
def okP (a l : Int) : Bool := inB l 0 16 && inB a 0 65535 && (a % size l == 0)
theorem okP_t {a l : Int} (h : okP a l = true) : 0 ≤ l ∧ l ≤ 16 ∧ 0 ≤ a ∧ a ≤ 65535 := by
  simp only [okP, Bool.and_eq_true] at h
  have := inB_t h.1.1; have := inB_t h.1.2; omega
def hasP (a l x : Int) : Bool := decide (a ≤ x) && decide (x < a + size l)
def withinP (a l b m : Int) : Bool := decide (m ≤ l) && hasP b m a

theorem within_c (n lo hi : Int) (w : World) : Calls Try.prog 23 #[.int .i64 n, .int .i64 lo, .int .i64 hi] w (RetQ (.bool (inB n lo hi)) w) := by
  go_enter Try.func23, Try.ntmps23
  go_wp2
  all_goals (go_ret; exact ⟨by simp [inB]; try omega, rfl⟩)
theorem l1In_c (n lo hi : Int) (w : World) : Calls Try.prog 24 #[.int .i64 n, .int .i64 lo, .int .i64 hi] w (RetQ (.bool (inB n lo hi)) w) := by
  go_enter Try.func24, Try.ntmps24
  go_wp2
  all_goals (go_ret; exact ⟨by simp [inB]; try omega, rfl⟩)
theorem size_c (a l : Int) (h0 : 0 ≤ l) (h1 : l ≤ 16) (w : World) : Calls Try.prog 26 #[.agg #[.int .i64 a, .int .i64 l]] w (RetN (.int .i64 (size l)) w) := by
  have e : wrap64 (2 ^ (16 - l).toNat) = size l := IntWalk.wrap64_in _ ⟨by have := size_pos l; unfold size at this; omega, by have := size_le l h0; unfold size at this; omega⟩
  have E := hid e
  clear e
  go_enter Try.func26, Try.ntmps26
  go_wp2
  go_ret
  rw [E.out]
  exact ⟨rfl, Ext.alloc _ _⟩

theorem size_step (_ l : Int) (h1 : l < 16) : size l = 2 * size (l + 1) := by
  unfold size
  obtain ⟨k, hk⟩ : ∃ k : Nat, (16 - (l + 1)).toNat = k := ⟨_, rfl⟩
  have h2 : (16 - l).toNat = k + 1 := by omega
  rw [h2, hk, Int.pow_succ]; omega
theorem l1Size_c (l : Int) (h0 : 0 ≤ l) (h1 : l ≤ 16) (w : World) : Calls Try.prog 25 #[.int .i64 l] w (RetQ (.int .i64 (size l)) w) := by
  go_enter Try.func25, Try.ntmps25
  go_wp2
  go_loop [3, 4] (fun n i => ∃ k m : Int, l ≤ k ∧ k ≤ 16 ∧ 1 ≤ m ∧ m ≤ 65536 ∧ Hid (m * size k = size l) ∧ i = .int .i64 k ∧ n = .int .i64 m) (fun _ i => (16 - intOf i).toNat)
  case atStart => exact ⟨l, 1, by omega, by omega, by omega, by omega, hid (by omega), rfl, rfl⟩
  case round =>
    obtain ⟨k, m, hk0, hk1, hm0, hm1, he, rfl, rfl⟩ := hrel
    by_cases hlt : k < 16
    · have hs := size_pos (k + 1)
      have hle := size_le l h0
      have he2 : Hid (m * 2 * size (k + 1) = size l) := by
        have := he.out; rw [size_step 0 k hlt] at this; exact hid (by rw [← this, Int.mul_assoc])
      have hm2 : m * 2 ≤ 65536 := by
        have h3 := he2.out
        have h4 : m * 2 * 1 ≤ m * 2 * size (k + 1) := Int.mul_le_mul_of_nonneg_left hs (by omega)
        omega
      clear he hle hs
      go_wp2
      go_round
      case rel => exact ⟨k + 1, m * 2, by omega, by omega, by omega, hm2, he2, rfl, rfl⟩
      case measure => simp [intOf]; omega
    · have h16 : k = 16 := by omega
      have H := hid h16
      clear h16
      go_wp2
      go_ret
      refine ⟨?_, rfl⟩
      have h3 := he.out
      rw [H.out] at h3
      simp [size] at h3
      simp [h3, size]

theorem implNetOk_c (a l : Int) (w : World) : Calls Try.prog 14 #[.agg #[.int .i64 a, .int .i64 l]] w (RetN (.bool (okP a l)) w) := by
  have hsz := size_pos l
  go_enter Try.func14, Try.ntmps14
  go_wp2_with (first
    | (refine wp_region_E (id := 1) [(0, false), (1, false), (2, true), (3, false), (4, false), (5, false), (6, true), (7, false), (8, false), (9, false), (10, false), (11, false), (12, true), (13, false), (14, false), (15, false), (16, false)] (by kernel_rfl) (by kernel_rfl) ?_
       repeat' (first
         | (refine T_done ?_; simp only [Calm, Exit.then])
         | (refine T_off rfl rfl ?_; simp only [Act.put, List.setIfInBounds_toArray, List.set_cons_zero, List.set_cons_succ])
         | (refine T_offE rfl rfl (Ext.refl _) ?_; simp only [Act.put, List.setIfInBounds_toArray, List.set_cons_zero, List.set_cons_succ])
         | (refine T_readB (b := ?_) rfl rfl rfl ?_ ?_ ?_
            rotate_left
            · intro w' hR
              have hc := hR.cell
              clear hR
              go_simp
              try (simp only [↓IntWalk.iteOmega]; go_simp)
              try (simp only [↓IntWalk.iteOmega]; go_simp)
              try go_bits
              try simp only [↓IntWalk.iteOmega]
              try go_bits
              first | done | rfl
            all_goals (intro hb; first | (exfalso; first | contradiction | (simp at hb; done) | (simp at hb; omega)) | (try simp only [decide_eq_true_eq, decide_eq_false_iff_not] at hb; simp only [Act.put, List.setIfInBounds_toArray, List.set_cons_zero, List.set_cons_succ])))
         | (refine T_read (v := ?_) rfl rfl ?_ ?_
            rotate_left
            · intro w' hR
              have hc := hR.cell
              clear hR
              go_simp
              try (simp only [↓IntWalk.iteOmega]; go_simp)
              try (simp only [↓IntWalk.iteOmega]; go_simp)
              try go_bits
              try simp only [↓IntWalk.iteOmega]
              try go_bits
              first | done | rfl
            simp only [Act.put, List.setIfInBounds_toArray, List.set_cons_zero, List.set_cons_succ])
         | (refine T_eff rfl rfl ?_
            intro K hK
            go_simp
            try (first
            | (go_at_call 23; refine splitQ (within_c _ _ _ _) (fun hb => ?_) (fun hb => ?_); have hb1 := (inB_t hb).1; have hb2 := (inB_t hb).2)
            | (go_at_call 26; refine takeN (size_c _ _ ‹_› ‹_› _) ?_; intro w1 hw1; obtain ⟨g1, f1, hc1, hf1, hz1⟩ := hw1.rules; (repeat (first | simp only [World.size_drew] at hz1 | simp only [World.size_alloc] at hz1 | simp only [World.size_setCell] at hz1))))
            all_goals (refine hK _ _ (by first | exact Ext.refl _ | assumption | (repeat' (first | (with_reducible exact Ext.refl _) | (with_reducible refine Ext.drew' ?_) | (with_reducible refine Ext.alloc' ?_ _) | (with_reducible refine Ext.drewN' ?_ _) | (with_reducible refine Ext.setCell' ?_ ?_ _) | (with_reducible refine Ext.trans ?_ (by assumption)) | omega | (simp; done) | (simp; omega)))) ?_)
            all_goals clear hK K)))
    | (go_at_call 23; refine splitQ (within_c _ _ _ _) (fun hb => ?_) (fun hb => ?_); have hb1 := (inB_t hb).1; have hb2 := (inB_t hb).2)
    | (go_at_call 26; refine takeN (size_c _ _ ‹_› ‹_› _) ?_; intro w1 hw1; obtain ⟨g1, f1, hc1, hf1, hz1⟩ := hw1.rules; (repeat (first | simp only [World.size_drew] at hz1 | simp only [World.size_alloc] at hz1 | simp only [World.size_setCell] at hz1))))
  all_goals (go_ret; exact ⟨by simp only [okP, *]; rfl, by (repeat' (first | (with_reducible exact Ext.refl _) | (with_reducible refine Ext.drew' ?_) | (with_reducible refine Ext.alloc' ?_ _) | (with_reducible refine Ext.drewN' ?_ _) | (with_reducible refine Ext.setCell' ?_ ?_ _) | (with_reducible refine Ext.trans ?_ (by assumption)) | omega | (simp; done) | (simp; omega)))⟩)
theorem specNetOk_c (a l : Int) (w : World) : Calls Try.prog 12 #[.agg #[.int .i64 a, .int .i64 l]] w (RetN (.bool (okP a l)) w) := by
  have hsz := size_pos l
  go_enter Try.func12, Try.ntmps12
  go_wp2_with (first
    | (refine wp_region_E (id := 1) [(0, false), (1, false), (2, true), (3, false), (4, false), (5, false), (6, true), (7, false), (8, false), (9, false), (10, false), (11, false), (12, false), (13, true), (14, false), (15, false), (16, false), (17, false)] (by kernel_rfl) (by kernel_rfl) ?_
       repeat' (first
         | (refine T_done ?_; simp only [Calm, Exit.then])
         | (refine T_off rfl rfl ?_; simp only [Act.put, List.setIfInBounds_toArray, List.set_cons_zero, List.set_cons_succ])
         | (refine T_offE rfl rfl (Ext.refl _) ?_; simp only [Act.put, List.setIfInBounds_toArray, List.set_cons_zero, List.set_cons_succ])
         | (refine T_readB (b := ?_) rfl rfl rfl ?_ ?_ ?_
            rotate_left
            · intro w' hR
              have hc := hR.cell
              clear hR
              go_simp
              try (simp only [↓IntWalk.iteOmega]; go_simp)
              try (simp only [↓IntWalk.iteOmega]; go_simp)
              try go_bits
              try simp only [↓IntWalk.iteOmega]
              try go_bits
              first | done | rfl
            all_goals (intro hb; first | (exfalso; first | contradiction | (simp at hb; done) | (simp at hb; omega)) | (try simp only [decide_eq_true_eq, decide_eq_false_iff_not] at hb; simp only [Act.put, List.setIfInBounds_toArray, List.set_cons_zero, List.set_cons_succ])))
         | (refine T_read (v := ?_) rfl rfl ?_ ?_
            rotate_left
            · intro w' hR
              have hc := hR.cell
              clear hR
              go_simp
              try (simp only [↓IntWalk.iteOmega]; go_simp)
              try (simp only [↓IntWalk.iteOmega]; go_simp)
              try go_bits
              try simp only [↓IntWalk.iteOmega]
              try go_bits
              first | done | rfl
            simp only [Act.put, List.setIfInBounds_toArray, List.set_cons_zero, List.set_cons_succ])
         | (refine T_eff rfl rfl ?_
            intro K hK
            go_simp
            try (first
            | (go_at_call 24; refine splitQ (l1In_c _ _ _ _) (fun hb => ?_) (fun hb => ?_); have hb1 := (inB_t hb).1; have hb2 := (inB_t hb).2)
            | (go_at_call 25; refine takeQ (l1Size_c _ (by omega) (by omega) _) ?_))
            all_goals (refine hK _ _ (by first | exact Ext.refl _ | assumption | (repeat' (first | (with_reducible exact Ext.refl _) | (with_reducible refine Ext.drew' ?_) | (with_reducible refine Ext.alloc' ?_ _) | (with_reducible refine Ext.drewN' ?_ _) | (with_reducible refine Ext.setCell' ?_ ?_ _) | (with_reducible refine Ext.trans ?_ (by assumption)) | omega | (simp; done) | (simp; omega)))) ?_)
            all_goals clear hK K)))
    | (go_at_call 24; refine splitQ (l1In_c _ _ _ _) (fun hb => ?_) (fun hb => ?_); have hb1 := (inB_t hb).1; have hb2 := (inB_t hb).2)
    | (go_at_call 25; refine takeQ (l1Size_c _ (by omega) (by omega) _) ?_))
  all_goals (go_ret; exact ⟨by simp only [okP, *]; rfl, by (repeat' (first | (with_reducible exact Ext.refl _) | (with_reducible refine Ext.drew' ?_) | (with_reducible refine Ext.alloc' ?_ _) | (with_reducible refine Ext.drewN' ?_ _) | (with_reducible refine Ext.setCell' ?_ ?_ _) | (with_reducible refine Ext.trans ?_ (by assumption)) | omega | (simp; done) | (simp; omega)))⟩)
theorem last_c (a l : Int) (h : okP a l = true) (w : World) : Calls Try.prog 31 #[.agg #[.int .i64 a, .int .i64 l]] w (RetN (.int .i64 (a + size l - 1)) w) := by
  have hsz := size_pos l
  obtain ⟨h0, h1, h2, h3⟩ := okP_t h
  have hsl := size_le l h0
  clear h
  go_enter Try.func31, Try.ntmps31
  go_wp2_with (first
    | (refine wp_region_E (id := 1) [(0, false), (1, false), (2, false), (3, true), (4, false), (5, false), (6, false)] (by kernel_rfl) (by kernel_rfl) ?_
       repeat' (first
         | (refine T_done ?_; simp only [Calm, Exit.then])
         | (refine T_off rfl rfl ?_; simp only [Act.put, List.setIfInBounds_toArray, List.set_cons_zero, List.set_cons_succ])
         | (refine T_offE rfl rfl (Ext.refl _) ?_; simp only [Act.put, List.setIfInBounds_toArray, List.set_cons_zero, List.set_cons_succ])
         | (refine T_readB (b := ?_) rfl rfl rfl ?_ ?_ ?_
            rotate_left
            · intro w' hR
              have hc := hR.cell
              clear hR
              go_simp
              try (simp only [↓IntWalk.iteOmega]; go_simp)
              try (simp only [↓IntWalk.iteOmega]; go_simp)
              try go_bits
              try simp only [↓IntWalk.iteOmega]
              try go_bits
              first | done | rfl
            all_goals (intro hb; first | (exfalso; first | contradiction | (simp at hb; done) | (simp at hb; omega)) | (try simp only [decide_eq_true_eq, decide_eq_false_iff_not] at hb; simp only [Act.put, List.setIfInBounds_toArray, List.set_cons_zero, List.set_cons_succ])))
         | (refine T_read (v := ?_) rfl rfl ?_ ?_
            rotate_left
            · intro w' hR
              have hc := hR.cell
              clear hR
              go_simp
              try (simp only [↓IntWalk.iteOmega]; go_simp)
              try (simp only [↓IntWalk.iteOmega]; go_simp)
              try go_bits
              try simp only [↓IntWalk.iteOmega]
              try go_bits
              first | done | rfl
            simp only [Act.put, List.setIfInBounds_toArray, List.set_cons_zero, List.set_cons_succ])
         | (refine T_eff rfl rfl ?_
            intro K hK
            go_simp
            try (first
            | (go_at_call 23; refine splitQ (within_c _ _ _ _) (fun hb => ?_) (fun hb => ?_); have hb1 := (inB_t hb).1; have hb2 := (inB_t hb).2)
            | (go_at_call 26; refine takeN (size_c _ _ ‹_› ‹_› _) ?_; intro w1 hw1; obtain ⟨g1, f1, hc1, hf1, hz1⟩ := hw1.rules; (repeat (first | simp only [World.size_drew] at hz1 | simp only [World.size_alloc] at hz1 | simp only [World.size_setCell] at hz1))))
            all_goals (refine hK _ _ (by first | exact Ext.refl _ | assumption | (repeat' (first | (with_reducible exact Ext.refl _) | (with_reducible refine Ext.drew' ?_) | (with_reducible refine Ext.alloc' ?_ _) | (with_reducible refine Ext.drewN' ?_ _) | (with_reducible refine Ext.setCell' ?_ ?_ _) | (with_reducible refine Ext.trans ?_ (by assumption)) | omega | (simp; done) | (simp; omega)))) ?_)
            all_goals clear hK K)))
    | (go_at_call 23; refine splitQ (within_c _ _ _ _) (fun hb => ?_) (fun hb => ?_); have hb1 := (inB_t hb).1; have hb2 := (inB_t hb).2)
    | (go_at_call 26; refine takeN (size_c _ _ ‹_› ‹_› _) ?_; intro w1 hw1; obtain ⟨g1, f1, hc1, hf1, hz1⟩ := hw1.rules; (repeat (first | simp only [World.size_drew] at hz1 | simp only [World.size_alloc] at hz1 | simp only [World.size_setCell] at hz1))))
  all_goals (go_ret; exact ⟨rfl, by (repeat' (first | (with_reducible exact Ext.refl _) | (with_reducible refine Ext.drew' ?_) | (with_reducible refine Ext.alloc' ?_ _) | (with_reducible refine Ext.drewN' ?_ _) | (with_reducible refine Ext.setCell' ?_ ?_ _) | (with_reducible refine Ext.trans ?_ (by assumption)) | omega | (simp; done) | (simp; omega)))⟩)
theorem has_c (a l x : Int) (h : okP a l = true) (w : World) : Calls Try.prog 28 #[.agg #[.int .i64 a, .int .i64 l], .int .i64 x] w (RetN (.bool (hasP a l x)) w) := by
  have H := hid h
  clear h
  go_enter Try.func28, Try.ntmps28
  go_wp2_with (first
    | (refine wp_region_E (id := 1) [(0, false), (1, false), (2, false), (3, false), (4, true), (5, true), (6, false)] (by kernel_rfl) (by kernel_rfl) ?_
       repeat' (first
         | (refine T_done ?_; simp only [Calm, Exit.then])
         | (refine T_off rfl rfl ?_; simp only [Act.put, List.setIfInBounds_toArray, List.set_cons_zero, List.set_cons_succ])
         | (refine T_offE rfl rfl (Ext.refl _) ?_; simp only [Act.put, List.setIfInBounds_toArray, List.set_cons_zero, List.set_cons_succ])
         | (refine T_readB (b := ?_) rfl rfl rfl ?_ ?_ ?_
            rotate_left
            · intro w' hR
              have hc := hR.cell
              clear hR
              go_simp
              try (simp only [↓IntWalk.iteOmega]; go_simp)
              try (simp only [↓IntWalk.iteOmega]; go_simp)
              try go_bits
              try simp only [↓IntWalk.iteOmega]
              try go_bits
              first | done | rfl
            all_goals (intro hb; first | (exfalso; first | contradiction | (simp at hb; done) | (simp at hb; omega)) | (try simp only [decide_eq_true_eq, decide_eq_false_iff_not] at hb; simp only [Act.put, List.setIfInBounds_toArray, List.set_cons_zero, List.set_cons_succ])))
         | (refine T_read (v := ?_) rfl rfl ?_ ?_
            rotate_left
            · intro w' hR
              have hc := hR.cell
              clear hR
              go_simp
              try (simp only [↓IntWalk.iteOmega]; go_simp)
              try (simp only [↓IntWalk.iteOmega]; go_simp)
              try go_bits
              try simp only [↓IntWalk.iteOmega]
              try go_bits
              first | done | rfl
            simp only [Act.put, List.setIfInBounds_toArray, List.set_cons_zero, List.set_cons_succ])
         | (refine T_eff rfl rfl ?_
            intro K hK
            go_simp
            try (first
            | (go_at_call 31; refine takeN (last_c _ _ H.out _) ?_; intro w1 hw1; obtain ⟨g1, f1, hc1, hf1, hz1⟩ := hw1.rules; (repeat (first | simp only [World.size_drew] at hz1 | simp only [World.size_alloc] at hz1 | simp only [World.size_setCell] at hz1)))
            | (go_at_call 23; refine splitQ (within_c _ _ _ _) (fun hb => ?_) (fun hb => ?_); have hb1 := (inB_t hb).1; have hb2 := (inB_t hb).2)
            | (go_at_call 26; refine takeN (size_c _ _ ‹_› ‹_› _) ?_; intro w1 hw1; obtain ⟨g1, f1, hc1, hf1, hz1⟩ := hw1.rules; (repeat (first | simp only [World.size_drew] at hz1 | simp only [World.size_alloc] at hz1 | simp only [World.size_setCell] at hz1))))
            all_goals (refine hK _ _ (by first | exact Ext.refl _ | assumption | (repeat' (first | (with_reducible exact Ext.refl _) | (with_reducible refine Ext.drew' ?_) | (with_reducible refine Ext.alloc' ?_ _) | (with_reducible refine Ext.drewN' ?_ _) | (with_reducible refine Ext.setCell' ?_ ?_ _) | (with_reducible refine Ext.trans ?_ (by assumption)) | omega | (simp; done) | (simp; omega)))) ?_)
            all_goals clear hK K)))
    | (go_at_call 31; refine takeN (last_c _ _ H.out _) ?_; intro w1 hw1; obtain ⟨g1, f1, hc1, hf1, hz1⟩ := hw1.rules; (repeat (first | simp only [World.size_drew] at hz1 | simp only [World.size_alloc] at hz1 | simp only [World.size_setCell] at hz1)))
    | (go_at_call 23; refine splitQ (within_c _ _ _ _) (fun hb => ?_) (fun hb => ?_); have hb1 := (inB_t hb).1; have hb2 := (inB_t hb).2)
    | (go_at_call 26; refine takeN (size_c _ _ ‹_› ‹_› _) ?_; intro w1 hw1; obtain ⟨g1, f1, hc1, hf1, hz1⟩ := hw1.rules; (repeat (first | simp only [World.size_drew] at hz1 | simp only [World.size_alloc] at hz1 | simp only [World.size_setCell] at hz1))))
  all_goals (go_ret; exact ⟨by simp [hasP, inB] at *; omega, by (repeat' (first | (with_reducible exact Ext.refl _) | (with_reducible refine Ext.drew' ?_) | (with_reducible refine Ext.alloc' ?_ _) | (with_reducible refine Ext.drewN' ?_ _) | (with_reducible refine Ext.setCell' ?_ ?_ _) | (with_reducible refine Ext.trans ?_ (by assumption)) | omega | (simp; done) | (simp; omega)))⟩)
theorem l1Has_c (a l x : Int) (h : okP a l = true) (w : World) : Calls Try.prog 27 #[.agg #[.int .i64 a, .int .i64 l], .int .i64 x] w (RetN (.bool (hasP a l x)) w) := by
  have hsz := size_pos l
  obtain ⟨h0, h1, h2, h3⟩ := okP_t h
  have hsl := size_le l h0
  clear h
  go_enter Try.func27, Try.ntmps27
  go_wp2_with (first
    | (refine wp_region_E (id := 1) [(0, false), (1, false), (2, false), (3, false), (4, false), (5, false), (6, false), (7, false), (8, false), (9, false), (10, true), (11, false), (12, false), (13, false), (14, false)] (by kernel_rfl) (by kernel_rfl) ?_
       repeat' (first
         | (refine T_done ?_; simp only [Calm, Exit.then])
         | (refine T_off rfl rfl ?_; simp only [Act.put, List.setIfInBounds_toArray, List.set_cons_zero, List.set_cons_succ])
         | (refine T_offE rfl rfl (Ext.refl _) ?_; simp only [Act.put, List.setIfInBounds_toArray, List.set_cons_zero, List.set_cons_succ])
         | (refine T_readB (b := ?_) rfl rfl rfl ?_ ?_ ?_
            rotate_left
            · intro w' hR
              have hc := hR.cell
              clear hR
              go_simp
              try (simp only [↓IntWalk.iteOmega]; go_simp)
              try (simp only [↓IntWalk.iteOmega]; go_simp)
              try go_bits
              try simp only [↓IntWalk.iteOmega]
              try go_bits
              first | done | rfl
            all_goals (intro hb; first | (exfalso; first | contradiction | (simp at hb; done) | (simp at hb; omega)) | (try simp only [decide_eq_true_eq, decide_eq_false_iff_not] at hb; simp only [Act.put, List.setIfInBounds_toArray, List.set_cons_zero, List.set_cons_succ])))
         | (refine T_read (v := ?_) rfl rfl ?_ ?_
            rotate_left
            · intro w' hR
              have hc := hR.cell
              clear hR
              go_simp
              try (simp only [↓IntWalk.iteOmega]; go_simp)
              try (simp only [↓IntWalk.iteOmega]; go_simp)
              try go_bits
              try simp only [↓IntWalk.iteOmega]
              try go_bits
              first | done | rfl
            simp only [Act.put, List.setIfInBounds_toArray, List.set_cons_zero, List.set_cons_succ])
         | (refine T_eff rfl rfl ?_
            intro K hK
            go_simp
            try (first
            | (go_at_call 24; refine splitQ (l1In_c _ _ _ _) (fun hb => ?_) (fun hb => ?_); have hb1 := (inB_t hb).1; have hb2 := (inB_t hb).2)
            | (go_at_call 25; refine takeQ (l1Size_c _ (by omega) (by omega) _) ?_))
            all_goals (refine hK _ _ (by first | exact Ext.refl _ | assumption | (repeat' (first | (with_reducible exact Ext.refl _) | (with_reducible refine Ext.drew' ?_) | (with_reducible refine Ext.alloc' ?_ _) | (with_reducible refine Ext.drewN' ?_ _) | (with_reducible refine Ext.setCell' ?_ ?_ _) | (with_reducible refine Ext.trans ?_ (by assumption)) | omega | (simp; done) | (simp; omega)))) ?_)
            all_goals clear hK K)))
    | (go_at_call 24; refine splitQ (l1In_c _ _ _ _) (fun hb => ?_) (fun hb => ?_); have hb1 := (inB_t hb).1; have hb2 := (inB_t hb).2)
    | (go_at_call 25; refine takeQ (l1Size_c _ (by omega) (by omega) _) ?_))
  all_goals (go_ret; exact ⟨by simp [hasP] at *; try omega, by (repeat' (first | (with_reducible exact Ext.refl _) | (with_reducible refine Ext.drew' ?_) | (with_reducible refine Ext.alloc' ?_ _) | (with_reducible refine Ext.drewN' ?_ _) | (with_reducible refine Ext.setCell' ?_ ?_ _) | (with_reducible refine Ext.trans ?_ (by assumption)) | omega | (simp; done) | (simp; omega)))⟩)
theorem in_c (a l b m : Int) (h : okP b m = true) (w : World) : Calls Try.prog 30 #[.agg #[.int .i64 a, .int .i64 l], .agg #[.int .i64 b, .int .i64 m]] w (RetN (.bool (withinP a l b m)) w) := by
  go_enter Try.func30, Try.ntmps30
  go_wp2_with (first
    | (go_at_call 14; refine splitN (implNetOk_c _ _ _) (fun hb w1 hw1 => ?_) (fun hb w1 hw1 => ?_) <;> (obtain ⟨g1, f1, hc1, hf1, hz1⟩ := hw1.rules; (repeat (first | simp only [World.size_drew] at hz1 | simp only [World.size_alloc] at hz1 | simp only [World.size_setCell] at hz1))))
    | (go_at_call 28; refine splitN (has_c _ _ _ (by assumption) _) (fun hb w1 hw1 => ?_) (fun hb w1 hw1 => ?_) <;> (obtain ⟨g1, f1, hc1, hf1, hz1⟩ := hw1.rules; (repeat (first | simp only [World.size_drew] at hz1 | simp only [World.size_alloc] at hz1 | simp only [World.size_setCell] at hz1)))))
  all_goals (go_ret; exact ⟨by simp [withinP, *] <;> (intros; omega), by (repeat' (first | (with_reducible exact Ext.refl _) | (with_reducible refine Ext.drew' ?_) | (with_reducible refine Ext.alloc' ?_ _) | (with_reducible refine Ext.drewN' ?_ _) | (with_reducible refine Ext.setCell' ?_ ?_ _) | (with_reducible refine Ext.trans ?_ (by assumption)) | omega | (simp; done) | (simp; omega)))⟩)
theorem l1Within_c (a l b m : Int) (h : okP b m = true) (w : World) : Calls Try.prog 29 #[.agg #[.int .i64 a, .int .i64 l], .agg #[.int .i64 b, .int .i64 m]] w (RetN (.bool (withinP a l b m)) w) := by
  go_enter Try.func29, Try.ntmps29
  go_wp2_with (first
    | (go_at_call 12; refine splitN (specNetOk_c _ _ _) (fun hb w1 hw1 => ?_) (fun hb w1 hw1 => ?_) <;> (obtain ⟨g1, f1, hc1, hf1, hz1⟩ := hw1.rules; (repeat (first | simp only [World.size_drew] at hz1 | simp only [World.size_alloc] at hz1 | simp only [World.size_setCell] at hz1))))
    | (go_at_call 27; refine splitN (l1Has_c _ _ _ (by assumption) _) (fun hb w1 hw1 => ?_) (fun hb w1 hw1 => ?_) <;> (obtain ⟨g1, f1, hc1, hf1, hz1⟩ := hw1.rules; (repeat (first | simp only [World.size_drew] at hz1 | simp only [World.size_alloc] at hz1 | simp only [World.size_setCell] at hz1)))))
  all_goals (go_ret; exact ⟨by simp [withinP, *] <;> (intros; omega), by (repeat' (first | (with_reducible exact Ext.refl _) | (with_reducible refine Ext.drew' ?_) | (with_reducible refine Ext.alloc' ?_ _) | (with_reducible refine Ext.drewN' ?_ _) | (with_reducible refine Ext.setCell' ?_ ?_ _) | (with_reducible refine Ext.trans ?_ (by assumption)) | omega | (simp; done) | (simp; omega)))⟩)
theorem implNetHas_c (a l x : Int) (w : World) : Calls Try.prog 19 #[.agg #[.int .i64 a, .int .i64 l], .int .i64 x] w (RetN (.bool (okP a l && hasP a l x)) w) := by
  go_enter Try.func19, Try.ntmps19
  go_wp2_with (first
    | (go_at_call 14; refine splitN (implNetOk_c _ _ _) (fun hb w1 hw1 => ?_) (fun hb w1 hw1 => ?_) <;> (obtain ⟨g1, f1, hc1, hf1, hz1⟩ := hw1.rules; (repeat (first | simp only [World.size_drew] at hz1 | simp only [World.size_alloc] at hz1 | simp only [World.size_setCell] at hz1))))
    | (go_at_call 28; refine splitN (has_c _ _ _ (by assumption) _) (fun hb w1 hw1 => ?_) (fun hb w1 hw1 => ?_) <;> (obtain ⟨g1, f1, hc1, hf1, hz1⟩ := hw1.rules; (repeat (first | simp only [World.size_drew] at hz1 | simp only [World.size_alloc] at hz1 | simp only [World.size_setCell] at hz1)))))
  all_goals (go_ret; exact ⟨by simp [*], by (repeat' (first | (with_reducible exact Ext.refl _) | (with_reducible refine Ext.drew' ?_) | (with_reducible refine Ext.alloc' ?_ _) | (with_reducible refine Ext.drewN' ?_ _) | (with_reducible refine Ext.setCell' ?_ ?_ _) | (with_reducible refine Ext.trans ?_ (by assumption)) | omega | (simp; done) | (simp; omega)))⟩)
theorem specNetHas_c (a l x : Int) (w : World) : Calls Try.prog 18 #[.agg #[.int .i64 a, .int .i64 l], .int .i64 x] w (RetN (.bool (okP a l && hasP a l x)) w) := by
  go_enter Try.func18, Try.ntmps18
  go_wp2_with (first
    | (go_at_call 12; refine splitN (specNetOk_c _ _ _) (fun hb w1 hw1 => ?_) (fun hb w1 hw1 => ?_) <;> (obtain ⟨g1, f1, hc1, hf1, hz1⟩ := hw1.rules; (repeat (first | simp only [World.size_drew] at hz1 | simp only [World.size_alloc] at hz1 | simp only [World.size_setCell] at hz1))))
    | (go_at_call 27; refine splitN (l1Has_c _ _ _ (by assumption) _) (fun hb w1 hw1 => ?_) (fun hb w1 hw1 => ?_) <;> (obtain ⟨g1, f1, hc1, hf1, hz1⟩ := hw1.rules; (repeat (first | simp only [World.size_drew] at hz1 | simp only [World.size_alloc] at hz1 | simp only [World.size_setCell] at hz1)))))
  all_goals (go_ret; exact ⟨by simp [*], by (repeat' (first | (with_reducible exact Ext.refl _) | (with_reducible refine Ext.drew' ?_) | (with_reducible refine Ext.alloc' ?_ _) | (with_reducible refine Ext.drewN' ?_ _) | (with_reducible refine Ext.setCell' ?_ ?_ _) | (with_reducible refine Ext.trans ?_ (by assumption)) | omega | (simp; done) | (simp; omega)))⟩)
theorem implNetIn_c (a l b m : Int) (w : World) : Calls Try.prog 21 #[.agg #[.int .i64 a, .int .i64 l], .agg #[.int .i64 b, .int .i64 m]] w (RetN (.bool (okP a l && okP b m && withinP a l b m)) w) := by
  go_enter Try.func21, Try.ntmps21
  go_wp2_with (first
    | (go_at_call 30; refine splitN (in_c _ _ _ _ (by assumption) _) (fun hb w1 hw1 => ?_) (fun hb w1 hw1 => ?_) <;> (obtain ⟨g1, f1, hc1, hf1, hz1⟩ := hw1.rules; (repeat (first | simp only [World.size_drew] at hz1 | simp only [World.size_alloc] at hz1 | simp only [World.size_setCell] at hz1))))
    | (go_at_call 14; refine splitN (implNetOk_c _ _ _) (fun hb w1 hw1 => ?_) (fun hb w1 hw1 => ?_) <;> (obtain ⟨g1, f1, hc1, hf1, hz1⟩ := hw1.rules; (repeat (first | simp only [World.size_drew] at hz1 | simp only [World.size_alloc] at hz1 | simp only [World.size_setCell] at hz1))))
    | (go_at_call 28; refine splitN (has_c _ _ _ (by assumption) _) (fun hb w1 hw1 => ?_) (fun hb w1 hw1 => ?_) <;> (obtain ⟨g1, f1, hc1, hf1, hz1⟩ := hw1.rules; (repeat (first | simp only [World.size_drew] at hz1 | simp only [World.size_alloc] at hz1 | simp only [World.size_setCell] at hz1)))))
  all_goals (go_ret; exact ⟨by simp [*], by (repeat' (first | (with_reducible exact Ext.refl _) | (with_reducible refine Ext.drew' ?_) | (with_reducible refine Ext.alloc' ?_ _) | (with_reducible refine Ext.drewN' ?_ _) | (with_reducible refine Ext.setCell' ?_ ?_ _) | (with_reducible refine Ext.trans ?_ (by assumption)) | omega | (simp; done) | (simp; omega)))⟩)
theorem specNetIn_c (a l b m : Int) (w : World) : Calls Try.prog 20 #[.agg #[.int .i64 a, .int .i64 l], .agg #[.int .i64 b, .int .i64 m]] w (RetN (.bool (okP a l && okP b m && withinP a l b m)) w) := by
  go_enter Try.func20, Try.ntmps20
  go_wp2_with (first
    | (go_at_call 29; refine splitN (l1Within_c _ _ _ _ (by assumption) _) (fun hb w1 hw1 => ?_) (fun hb w1 hw1 => ?_) <;> (obtain ⟨g1, f1, hc1, hf1, hz1⟩ := hw1.rules; (repeat (first | simp only [World.size_drew] at hz1 | simp only [World.size_alloc] at hz1 | simp only [World.size_setCell] at hz1))))
    | (go_at_call 12; refine splitN (specNetOk_c _ _ _) (fun hb w1 hw1 => ?_) (fun hb w1 hw1 => ?_) <;> (obtain ⟨g1, f1, hc1, hf1, hz1⟩ := hw1.rules; (repeat (first | simp only [World.size_drew] at hz1 | simp only [World.size_alloc] at hz1 | simp only [World.size_setCell] at hz1))))
    | (go_at_call 27; refine splitN (l1Has_c _ _ _ (by assumption) _) (fun hb w1 hw1 => ?_) (fun hb w1 hw1 => ?_) <;> (obtain ⟨g1, f1, hc1, hf1, hz1⟩ := hw1.rules; (repeat (first | simp only [World.size_drew] at hz1 | simp only [World.size_alloc] at hz1 | simp only [World.size_setCell] at hz1)))))
  all_goals (go_ret; exact ⟨by simp [*], by (repeat' (first | (with_reducible exact Ext.refl _) | (with_reducible refine Ext.drew' ?_) | (with_reducible refine Ext.alloc' ?_ _) | (with_reducible refine Ext.drewN' ?_ _) | (with_reducible refine Ext.setCell' ?_ ?_ _) | (with_reducible refine Ext.trans ?_ (by assumption)) | omega | (simp; done) | (simp; omega)))⟩)
theorem toNetPrefix_c (a l : Int) (w : World) : Calls Try.prog 13 #[.agg #[.int .i64 a, .int .i64 l]] w (RetN (.agg #[.int .i64 a, .int .i64 l]) w) := by
  go_enter Try.func13, Try.ntmps13
  go_wp2_with fail
  all_goals (refine bodyPost_ret (v := .agg #[.int .i64 a, .int .i64 l]) (by simp [results, Try.results13, go_sem]) rfl ⟨rfl, by (repeat' (first | (with_reducible exact Ext.refl _) | (with_reducible refine Ext.drew' ?_) | (with_reducible refine Ext.alloc' ?_ _) | (with_reducible refine Ext.drewN' ?_ _) | (with_reducible refine Ext.setCell' ?_ ?_ _) | (with_reducible refine Ext.trans ?_ (by assumption)) | omega | (simp; done) | (simp; omega)))⟩)
end Go.Proofs.Ytmfjlgfhhebboaa

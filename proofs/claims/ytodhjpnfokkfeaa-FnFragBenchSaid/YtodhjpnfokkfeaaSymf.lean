/- Regions whose order is drawn among several that change the world: every order; calls that turn one block of the caller's. -/
import Derived.Test.YtodhjpnfokkfeaaSyme
set_option linter.unusedSimpArgs false
set_option linter.unusedVariables false
namespace Go.Proofs.Ytodhjpnfokkfeaa
open Go Go.RowKit
/-! ### trees of orders -/
inductive OT
  | fin (l : List (Nat × Nat))
  | br (l : List (Nat × Nat)) (t u : OT)
inductive STr
  | fin (l : List Stp)
  | br (l : List Stp) (t u : STr)
def mkT (ops : List Oper) : OT → STr
  | .fin l => .fin (mkS ops l)
  | .br l t u => .br (mkS ops l) (mkT ops t) (mkT ops u)
def OT.len : OT → Nat
  | .fin l => l.length
  | .br l t _ => l.length + t.len
def OT.heads : OT → List Nat
  | .fin [] => []
  | .fin ((i, _) :: _) => [i]
  | .br [] t u => t.heads ++ u.heads
  | .br ((i, _) :: _) _ _ => [i]
section
variable {P : Program} {Q : Exit → Act → World → Prop} {R : World → World → Prop}
/-- behind the steps: both ways -/
def Both (Q : Exit → Act → World → Prop) (K1 K2 : Act → World → Prop) : Exit → Act → World → Prop
  | .normal, a, w => K1 a w ∧ K2 a w
  | e, a, w => Q e a w
def wpT (P : Program) (Q : Exit → Act → World → Prop) (R : World → World → Prop) : STr → Act → World → Prop
  | .fin l => wpS P Q R l
  | .br l t u => wpS P (Both Q (wpT P Q R t) (wpT P Q R u)) R l
/-- a step may be taken now -/
def stepOk (ops : Array Oper) (frees : List Nat) (lax : List Nat) (i : Nat) (listed : Array Bool) : Nat → Bool
  | 0 => Region.free .any ops listed i && (Region.ready .any ops listed).contains i && frees.contains i && (ops[i]?).isSome
  | 1 => (Region.ready .any ops listed == [i]) && !lax.contains i && (ops[i]?).isSome
  | _ => (Region.ready .any ops listed == [i]) && lax.contains i && (ops[i]?).isSome
/-- what is listed behind steps that fit the region's edges -/
def ordRun (ops : Array Oper) (frees : List Nat) (lax : List Nat) : List (Nat × Nat) → Array Bool → Option (Array Bool)
  | [], listed => some listed
  |(i,k) :: rest,listed =>
    if stepOk ops frees lax i listed k = true then ordRun ops frees lax rest (listed.setIfInBounds i true) else none
theorem wp_exits {Q1 : Exit → Act → World → Prop} (hQ1 : ∀ e a w, e ≠ .normal → Q1 e a w → Q e a w) {o : Oper} {a : Act} {w : World} {K : Act → World → Prop} (h : o.wp P a w K Q1) : o.wp P a w K Q := by
  unfold Oper.wp at h ⊢
  generalize (execOp a.eval o).run P w = q at h ⊢
  cases q with
  | ok nx w' =>
    cases nx with
    | enter f args =>
      rw [Oper.upon_enter] at h ⊢
      refine h.mono fun e w2 he => ?_
      cases e with
      | returned v => exact he
      | panicked c => exact hQ1 _ _ _ (by simp) he
      | outgrown =>
        obtain ⟨a, w, he⟩ := he
        exact ⟨a, w, hQ1 _ a w (by simp) he⟩
    | _ => exact h
  | halt c w' =>
    cases c with
    | panic v => exact hQ1 _ _ _ (by simp) h
    | _ => exact h
/-- a step as the region's own operation, the exits told otherwise -/
theorem wpOp_of_step' {ops : List Oper} {i k : Nat} {o : Oper} {a : Act} {w : World} {rest : List Stp} {K : Act → World → Prop} {Q1 : Exit → Act → World → Prop} (hgs : guardsOk ops.toArray = true) (ho : ops[i]? = some o) (hrefl : ∀ w, R w w)
    (hK : ∀ a' w', (k = 1 → R w w') → wpS P Q1 R rest a' w' → K a' w') (hQ1 : ∀ e a w, e ≠ .normal → Q1 e a w → Q e a w)
    (h : wpS P Q1 R (⟨k, gSlot ops.toArray o, o.dst, o.op, o.type⟩ :: rest) a w) : wpOp P ops.toArray Q i K a w := by
  have ho' : ops.toArray[i]? = some o := by simpa using ho
  have hw := wanted_gOn (a := a) (guardsOk_spec hgs ho')
  unfold wpOp
  simp only [ho', hw]
  rcases h with ⟨hg, _, v, hv, h⟩ | ⟨hg, _, h⟩ | ⟨hg, h⟩
  · simp only [hg, if_true]
    refine .inl ?_
    have := hv w (hrefl w)
    rw [execOp_oper] at this
    unfold Oper.wp
    rw [this]
    exact hK _ _ (fun _ => hrefl w) h
  · simp only [hg, if_true]
    exact .inl (wp_exits hQ1 ((wp_oper P o _ k a w _ Q1).1 (Oper.wp_mono (fun a' w' h' => hK a' w' h'.1 h'.2) h)))
  · simp only [hg]
    exact hK _ _ (fun _ => hrefl w) h
theorem wpAnyE_run {ops : List Oper} {frees lax : List Nat} {Q1 : Exit → Act → World → Prop} (hgs : guardsOk ops.toArray = true) (hlax : laxOk P ops.toArray lax frees = true) (hrefl : ∀ w, R w w) (htr : ∀ a b c, R a b → R b c → R a c) (hs : Region.noSelect ops.toArray = true)
    (hQ : ∀ c d v a w, Q (.panic c) (Act.put a d v) w → Q (.panic c) a w) (hQ1 : ∀ e a w, e ≠ .normal → Q1 e a w → Q e a w) {fuel : Nat} {listed' : Array Bool} (hend : ∀ a w, Q1 .normal a w → wpAnyE P ops.toArray Q R lax fuel listed' a w) :
    ∀ (l : List (Nat × Nat)) (listed : Array Bool) (a : Act) (w : World), Closed ops.toArray listed → ordRun ops.toArray frees lax l listed = some listed' → wpS P Q1 R (mkS ops l) a w → wpAnyE P ops.toArray Q R lax (l.length + fuel) listed a w
  | [], listed, a, w, _, hok, h => by
    rw [List.length_nil, Nat.zero_add]
    simp only [ordRun, Option.some.injEq] at hok
    subst hok
    exact hend a w h
  |(i,k) :: rest,listed,a,w,hcl,hok,h => by
    rw [List.length_cons, show rest.length + 1 + fuel = (rest.length + fuel) + 1 by omega]
    unfold ordRun at hok
    by_cases hk : stepOk ops.toArray frees lax i listed k = true
    · rw [if_pos hk] at hok
      obtain ⟨o, ho'⟩ : ∃ o, ops.toArray[i]? = some o := by
        unfold stepOk at hk
        split at hk <;> (simp only [Bool.and_eq_true] at hk; exact Option.isSome_iff_exists.1 hk.2)
      have ho : ops[i]? = some o := by simpa using ho'
      simp only [mkS, ho] at h
      match k, hk with
      | 0, hk =>
        simp only [stepOk, Bool.and_eq_true] at hk
        replace hk := hk.1
        rcases h with ⟨hg, _, v, hv, h⟩ | ⟨_, h0, _⟩ | ⟨hg, h⟩
        · refine wpAnyE_first hlax hrefl htr ho' (by simpa using hk.2) (Region.noSelect_spec hs) (fun c a w => hQ c o.dst v a w) (rest.length + fuel) listed a w (Region.free_spec ho' hk.1.1) hcl (by simpa using hk.1.2) (Or.inl ⟨?_, fun w' hw' => ?_⟩)
            (wpAnyE_run hgs hlax hrefl htr hs hQ hQ1 hend rest _ _ w (closed_set hcl (by simpa using hk.1.2)) hok h)
          · rw [wanted_gOn (guardsOk_spec hgs ho')]; exact hg
          · have := hv w' hw'
            rwa [execOp_oper] at this
        · exact absurd rfl h0
        · refine wpAnyE_first hlax hrefl htr ho' (by simpa using hk.2) (Region.noSelect_spec hs) (fun c a w => hQ c o.dst undef a w) (rest.length + fuel) listed a w (Region.free_spec ho' hk.1.1) hcl (by simpa using hk.1.2) (Or.inr ⟨?_, rfl⟩)
            (wpAnyE_run hgs hlax hrefl htr hs hQ hQ1 hend rest _ _ w (closed_set hcl (by simpa using hk.1.2)) hok h)
          rw [wanted_gOn (guardsOk_spec hgs ho')]; exact hg
      | 1, hk =>
        simp only [stepOk, Bool.and_eq_true, beq_iff_eq, Bool.not_eq_true'] at hk
        replace hk := hk.1
        refine ⟨fun h0 => (by rw [hk.1] at h0; cases h0), fun j hj => ?_⟩
        have hcl' := closed_set hcl hj
        rw [hk.1, List.mem_singleton] at hj
        subst hj
        exact wpOp_of_step' hgs ho hrefl (fun a' w' hr h' => ⟨fun _ => hr rfl, wpAnyE_run hgs hlax hrefl htr hs hQ hQ1 hend rest _ a' w' hcl' hok h'⟩) hQ1 h
      | k + 2, hk =>
        simp only [stepOk, Bool.and_eq_true, beq_iff_eq] at hk
        replace hk := hk.1
        refine ⟨fun h0 => (by rw [hk.1] at h0; cases h0), fun j hj => ?_⟩
        have hcl' := closed_set hcl hj
        rw [hk.1, List.mem_singleton] at hj
        subst hj
        exact wpOp_of_step' hgs ho hrefl (fun a' w' _ h' => ⟨fun hc => (by rw [hk.2] at hc; cases hc), wpAnyE_run hgs hlax hrefl htr hs hQ hQ1 hend rest _ a' w' hcl' hok h'⟩) hQ1 h
    · rw [if_neg hk] at hok; cases hok
theorem ordRun_closed {ops : Array Oper} {frees lax : List Nat} : ∀ (l : List (Nat × Nat)) (listed listed' : Array Bool), Closed ops listed → ordRun ops frees lax l listed = some listed' → Closed ops listed'
  | [], _, _, hc, h => by
    simp only [ordRun, Option.some.injEq] at h
    subst h; exact hc
  |(i,k) :: rest,listed,listed',hc,h => by
    unfold ordRun at h
    by_cases hk : stepOk ops frees lax i listed k = true
    · rw [if_pos hk] at h
      refine ordRun_closed rest _ _ (closed_set hc ?_) h
      unfold stepOk at hk
      split at hk <;> simp only [Bool.and_eq_true, beq_iff_eq] at hk
      · simpa using hk.1.1.2
      · rw [hk.1.1]; simp
      · rw [hk.1.1]; simp
    · rw [if_neg hk] at h; cases h
/-- every way among several that change the world -/
def readyIn (ops : Array Oper) (listed : Array Bool) (hs : List Nat) : Bool := (Region.ready .any ops listed).all hs.contains && !(Region.ready .any ops listed).isEmpty
def okChild (ops : Array Oper) (frees : List Nat) (lax : List Nat) : OT → Array Bool → Bool
  | .fin [], _ => false
  | .fin ((i, k) :: rest), listed => (((k == 1) && !lax.contains i) || ((k == 2) && lax.contains i)) && (ops[i]?).isSome && ordOk ops frees lax rest (listed.setIfInBounds i true)
  | .br [] t u, listed => (t.len == u.len) && okChild ops frees lax t listed && okChild ops frees lax u listed
  | .br ((i, k) :: rest) t u, listed => (((k == 1) && !lax.contains i) || ((k == 2) && lax.contains i)) && (ops[i]?).isSome && (t.len == u.len) && (match ordRun ops frees lax rest (listed.setIfInBounds i true) with
    | some l' => readyIn ops l' (t.heads ++ u.heads) && okChild ops frees lax t l' && okChild ops frees lax u l'
    | none => false)
def okT (ops : Array Oper) (frees : List Nat) (lax : List Nat) : OT → Array Bool → Bool
  | .fin l, listed => ordOk ops frees lax l listed
  | .br l t u, listed => (t.len == u.len) && (match ordRun ops frees lax l listed with
    | some l' => readyIn ops l' (t.heads ++ u.heads) && okChild ops frees lax t l' && okChild ops frees lax u l'
    | none => false)
theorem both_exit {Q : Exit → Act → World → Prop} {K1 K2 : Act → World → Prop} : ∀ e a w, e ≠ .normal → Both Q K1 K2 e a w → Q e a w := fun e a w h0 h => by
  cases e <;> first | exact absurd rfl h0 | exact h
theorem lenPos (ops : List Oper) (frees lax : List Nat) : ∀ (t : OT) (l : Array Bool), okChild ops.toArray frees lax t l = true → t.len = 0 → False
  | .fin [], _, h, _ => by cases h
  | .fin (_ :: _), _, _, hx => by simp [OT.len] at hx
  | .br (_ :: _) _ _, _, _, hx => by simp [OT.len] at hx
  | .br [] t u, l, h, hx => by
    simp only [OT.len, List.length_nil, Nat.zero_add] at hx
    simp only [okChild, Bool.and_eq_true] at h
    exact lenPos ops frees lax t l h.1.2 hx
section
variable {ops : List Oper} {frees lax : List Nat} (hgs : guardsOk ops.toArray = true) (hlax : laxOk P ops.toArray lax frees = true) (hrefl : ∀ w, R w w) (htr : ∀ a b c, R a b → R b c → R a c) (hs : Region.noSelect ops.toArray = true)
  (hQ : ∀ c d v a w, Q (.panic c) (Act.put a d v) w → Q (.panic c) a w)
include hgs hlax hrefl htr hs hQ
/-- what stands at a branching: each of the ready ones -/
theorem childs : ∀ (t : OT) (listed : Array Bool) (a : Act) (w : World), Closed ops.toArray listed → okChild ops.toArray frees lax t listed = true → wpT P Q R (mkT ops t) a w → ∀ i ∈ t.heads, i ∈ Region.ready .any ops.toArray listed → wpOp P ops.toArray Q i (fun a' w' => (lax.contains i = false → R w w') ∧ wpAnyE P ops.toArray Q R lax (t.len - 1) (listed.setIfInBounds i true) a' w') a w
  | .fin [], _, _, _, _, hok, _, _, _, _ => by cases hok
  | .fin ((i, k) :: rest), listed, a, w, hcl, hok, h, j, hj, hjr => by
    simp only [OT.heads, List.mem_singleton] at hj
    subst hj
    simp only [okChild, Bool.and_eq_true, Bool.or_eq_true, beq_iff_eq, Bool.not_eq_true'] at hok
    obtain ⟨⟨hkl, hsome⟩, hrest⟩ := hok
    have hk1 : lax.contains j = false → k = 1 := fun h => by
      rcases hkl with ⟨h1, _⟩ | ⟨_, h2⟩
      · exact h1
      · rw [h] at h2; cases h2
    obtain ⟨o, ho'⟩ := Option.isSome_iff_exists.1 hsome
    have ho : ops[j]? = some o := by simpa using ho'
    simp only [mkT, wpT, mkS, ho] at h
    exact wpOp_of_step hgs ho hrefl (fun a' w' hr h' => ⟨fun hcc => hr (hk1 hcc), wpAnyE_of_S hgs hlax hrefl htr hs hQ rest _ a' w' (closed_set hcl hjr) hrest h'⟩) h
  | .br [] t u, listed, a, w, hcl, hok, h, j, hj, hjr => by
    simp only [okChild, Bool.and_eq_true, beq_iff_eq] at hok
    obtain ⟨⟨hlen, h1⟩, h2⟩ := hok
    have hb : wpT P Q R (mkT ops t) a w ∧ wpT P Q R (mkT ops u) a w := h
    simp only [OT.heads, List.mem_append] at hj
    have e : (OT.br [] t u).len = t.len := by simp [OT.len]
    rw [e]
    rcases hj with hj | hj
    · exact childs t listed a w hcl h1 hb.1 j hj hjr
    · rw [hlen]; exact childs u listed a w hcl h2 hb.2 j hj hjr
  | .br ((i, k) :: rest) t u, listed, a, w, hcl, hok, h, j, hj, hjr => by
    simp only [OT.heads, List.mem_singleton] at hj
    subst hj
    simp only [okChild, Bool.and_eq_true, Bool.or_eq_true, beq_iff_eq, Bool.not_eq_true'] at hok
    obtain ⟨⟨⟨hkl, hsome⟩, hlen⟩, hrest⟩ := hok
    have hk1 : lax.contains j = false → k = 1 := fun h => by
      rcases hkl with ⟨h1, _⟩ | ⟨_, h2⟩
      · exact h1
      · rw [h] at h2; cases h2
    obtain ⟨o, ho'⟩ := Option.isSome_iff_exists.1 hsome
    have ho : ops[j]? = some o := by simpa using ho'
    simp only [mkT, wpT, mkS, ho] at h
    cases hr : ordRun ops.toArray frees lax rest (listed.setIfInBounds j true) with
    | none => rw [hr] at hrest; cases hrest
    | some l' =>
      rw [hr] at hrest
      simp only [Bool.and_eq_true] at hrest
      obtain ⟨⟨hrd, h1⟩, h2⟩ := hrest
      simp only [readyIn, Bool.and_eq_true, Bool.not_eq_true'] at hrd
      have hne : ∃ n, t.len = n + 1 := by
        cases hx : t.len with
        | succ n => exact ⟨n, rfl⟩
        | zero =>
          exact (lenPos ops frees lax t l' h1 hx).elim
      obtain ⟨n, hn⟩ := hne
      refine wpOp_of_step' hgs ho hrefl (fun a' w' hr2 h' => ⟨fun hcc => hr2 (hk1 hcc), ?_⟩) both_exit h
      have e : (OT.br ((j, k) :: rest) t u).len - 1 = rest.length + (n + 1) := by simp [OT.len, hn]; omega
      rw [e]
      refine wpAnyE_run (fuel := n + 1) hgs hlax hrefl htr hs hQ both_exit (fun a w hb => ⟨fun h0 => ?_, fun q hq => ?_⟩) rest _ a' w' (closed_set hcl hjr) hr h'
      · rw [h0] at hrd; simp at hrd
      · have hcl' := ordRun_closed _ _ _ (closed_set hcl hjr) hr
        have hq2 := List.all_eq_true.1 hrd.1 q hq
        have hq3 : q ∈ t.heads ++ u.heads := by simpa using hq2
        rcases List.mem_append.1 hq3 with hq3 | hq3
        · have := childs t l' a w hcl' h1 hb.1 q hq3 hq
          rwa [hn] at this
        · have := childs u l' a w hcl' h2 hb.2 q hq3 hq
          rw [← hlen, hn] at this
          exact this
end
end
def OT.steps : OT → List (Nat × Nat)
  | .fin l => l
  | .br l t u => l ++ (t.steps ++ u.steps)
def regOkT (P : Program) (ops : List Oper) (t : OT) : Bool :=
  let fr := (t.steps.filter (·.2 == 0)).map (·.1)
  let lx := (t.steps.filter (fun p => decide (2 ≤ p.2))).map (·.1)
  guardsOk ops.toArray && Region.noSelect ops.toArray && (t.len == ops.length) && laxOk P ops.toArray lx fr && okT ops.toArray fr lx t (Array.replicate ops.length false)
theorem wp_drawnT {P : Program} {Q : Exit → Act → World → Prop} {ops : List Oper} {id : Nat} {a : Act} {w : World} {s : STr} (R : World → World → Prop) (t : OT) (hm : P.follows .mixedOrders = true) (hrefl : ∀ w, R w w) (htr : ∀ a b c, R a b → R b c → R a c)
    (hok : regOkT P ops t = true) (hs : mkT ops t = s) (h : wpT P (Calm Q) R s a w.drew) : (Code.region id ops.toArray true).wp P Q a w := by
  simp only [regOkT, Bool.and_eq_true, beq_iff_eq] at hok
  obtain ⟨⟨⟨⟨h1, h2⟩, h3⟩, h4⟩, h5⟩ := hok
  refine Code.wp_mono Calm.imp (wp_region_any hm (wpAny_of_E (R := R) (lax := (t.steps.filter (fun p => decide (2 ≤ p.2))).map (·.1)) _ _ _ _ ?_))
  rw [show ops.toArray.size = ops.length by simp]
  have key : wpAnyE P ops.toArray (Calm Q) R ((t.steps.filter (fun p => decide (2 ≤ p.2))).map (·.1)) t.len (Array.replicate ops.length false) a w.drew := ?_
  · rw [h3] at key; exact key
  have hQ : ∀ c d v a w, Calm Q (.panic c) (Act.put a d v) w → Calm Q (.panic c) a w := fun _ _ _ _ _ h => h
  subst hs
  match t, h5, h3, h with
  | .fin l, h5, h3, h => exact wpAnyE_of_S (Q := Calm Q) h1 h4 hrefl htr h2 hQ l _ a _ (closed_start _ _) h5 h
  | .br l t u, h5, h3, h =>
    simp only [okT, Bool.and_eq_true, beq_iff_eq] at h5
    obtain ⟨hlen, h5⟩ := h5
    split at h5
    · rename_i l' hr
      simp only [Bool.and_eq_true] at h5
      obtain ⟨⟨hrd, c1⟩, c2⟩ := h5
      simp only [readyIn, Bool.and_eq_true, Bool.not_eq_true'] at hrd
      have hne : ∃ n, t.len = n + 1 := by
        cases hx : t.len with
        | succ n => exact ⟨n, rfl⟩
        | zero => exact (lenPos ops _ _ t l' c1 hx).elim
      obtain ⟨n, hn⟩ := hne
      have := wpAnyE_run (Q := Calm Q) (fuel := n + 1) h1 h4 hrefl htr h2 hQ both_exit (fun a w hb => ⟨fun h0 => (by rw [h0] at hrd; simp at hrd), fun q hq => ?_⟩) l _ a _ (closed_start _ _) hr h
      · have e : (OT.br l t u).len = l.length + (n + 1) := by simp [OT.len, hn]
        rw [e]
        exact this
      · have hcl' := ordRun_closed _ _ _ (closed_start _ _) hr
        have hq2 := List.all_eq_true.1 hrd.1 q hq
        have hq3 : q ∈ t.heads ++ u.heads := by simpa using hq2
        rcases List.mem_append.1 hq3 with hq3 | hq3
        · have := childs h1 h4 hrefl htr h2 hQ t l' a w hcl' c1 hb.1 q hq3 hq
          rwa [hn] at this
        · have := childs h1 h4 hrefl htr h2 hQ u l' a w hcl' c2 hb.2 q hq3 hq
          rw [← hlen, hn] at this
          exact this
    · cases h5
section
variable {P : Program} {n : Nat} {w0 : World} {r : Option (List Nat)} {Q : Exit → Act → World → Prop} {E : List (Nat × Value)} {L R : List Blk} {l : List Stp} {k d : Nat} {ty : TypeId} {x y : Operand}
def GoT (P : Program) (n : Nat) (w0 : World) (r : Option (List Nat)) (Q : Exit → Act → World → Prop) (E : List (Nat × Value)) (L : List Blk) (t : STr) : Prop := ∀ a w, Env n a E → St w0 w L → wpT P Q (Rel r) t a w
theorem T_fin (h : GoS P n w0 r Q E L l) : GoT P n w0 r Q E L (.fin l) := h
theorem T_br {t u : STr} (h : GoS P n w0 r (Both Q (wpT P Q (Rel r) t) (wpT P Q (Rel r) u)) E L l) : GoT P n w0 r Q E L (.br l t u) := h
theorem E_both {t u : STr} (h1 : GoT P n w0 r Q E L t) (h2 : GoT P n w0 r Q E L u) : GoE n w0 (Both Q (wpT P Q (Rel r) t) (wpT P Q (Rel r) u)) E L .normal := fun a w he hs => ⟨h1 a w he hs, h2 a w he hs⟩
theorem C_drawnT {ops : List Oper} {i : Nat} {s : STr} (t : OT) (xs : List Nat) (hm : P.follows .mixedOrders = true) (hok : regOkT P ops t = true) (hs : mkT ops t = s) (h : GoT P n w0 (some xs) (Calm Q) E L s) : GoC P n w0 Q E L (.region i ops.toArray true) :=
  fun a w he hst => wp_drawnT (Rel (some xs)) t hm (Rel.refl _) Rel.trans hok hs (h a w.drew he (hst.step (Ext.drew w)))
theorem C_drawnT1 {ops : List Oper} {i : Nat} {s : STr} {b1 o1 : Nat} (t1 : Nat) (h1 : get E t1 = some (.pointer (some ⟨b1, o1, none⟩))) (t : OT) (hm : P.follows .mixedOrders = true) (hok : regOkT P ops t = true) (hs : mkT ops t = s) (h : GoT P n w0 (some [b1]) (Calm Q) E L s) : GoC P n w0 Q E L (.region i ops.toArray true) :=
  have _ := h1
  C_drawnT t [b1] hm hok hs h
theorem C_drawnT2 {ops : List Oper} {i : Nat} {s : STr} {b1 o1 b2 o2 : Nat} (t1 t2 : Nat) (h1 : get E t1 = some (.pointer (some ⟨b1, o1, none⟩))) (h2 : get E t2 = some (.pointer (some ⟨b2, o2, none⟩))) (t : OT) (hm : P.follows .mixedOrders = true) (hok : regOkT P ops t = true) (hs : mkT ops t = s) (h : GoT P n w0 (some [b1, b2]) (Calm Q) E L s) : GoC P n w0 Q E L (.region i ops.toArray true) :=
  have _ := h1
  have _ := h2
  C_drawnT t [b1, b2] hm hok hs h
/-! ### calls that turn one block of the caller's -/
theorem callS_ext {α : Type} {φ : α → Prop} {v : α → Value} {new : α → List Blk} {f : FuncId} {vs : List Value} {b : Nat} {t : TypeId} {cs : List Value} (hnb : ∀ x, φ x → ∃ y ∈ new x, y.foot b) (hc : ∀ R w, St w0 w ([.blk b t cs] ++ R) → Calls P f vs.toArray w (RetS w0 R φ v new)) :
    ∀ R w, St w0 w ([.blk b t cs] ++ R) → Calls P f vs.toArray w (fun e w' => RetS w0 R φ v new e w' ∧ ExtX [b] w w') := fun R w hs => by
  have hb := hs.own (.blk b t cs) (by simp)
  have hb0 : w0.heap.size ≤ b := hb.1 b rfl
  have hblt : b < w.heap.size := hb.2.lt (k := b) rfl
  have hs2 : St w0 w ([.blk b t cs] ++ [.frame w w0.heap.size [b]]) := by
    refine ⟨hs.ext, fun y hy => ?_, ?_⟩
    · simp only [List.cons_append, List.nil_append, List.mem_cons, List.not_mem_nil, or_false] at hy
      rcases hy with rfl | rfl
      · exact hb
      · exact ⟨fun k hk => hk.1, fun k _ _ _ => rfl⟩
    · simp only [List.cons_append, List.nil_append, List.pairwise_cons, List.mem_singleton, forall_eq, List.not_mem_nil, false_implies, implies_true, List.Pairwise.nil, and_true]
      intro k hk hk'
      exact hk'.2.2 (by rw [List.mem_singleton]; exact hk)
  refine (hc _ w hs2).mono fun e w' hR => ?_
  obtain ⟨x, hx, rfl, hs'⟩ := hR
  have hfr : ∀ k, w0.heap.size ≤ k → k < w.heap.size → k ∉ [b] → w'.heap[k]? = w.heap[k]? := (hs'.own (.frame w w0.heap.size [b]) (by simp)).2
  have hnd := hs'.nd
  rw [List.pairwise_append] at hnd
  have hnew : ∀ y ∈ new x, ∀ k, y.foot k → k = b ∨ w.heap.size ≤ k := fun y hy k hk => by
    have h1 := (hs'.own y (List.mem_append_left _ hy)).1 k hk
    have h2 := hnd.2.2 y hy (.frame w w0.heap.size [b]) (by simp) k hk
    by_cases hkb : k = b
    · exact .inl hkb
    · right
      rcases Nat.lt_or_ge k w.heap.size with hlt | hge
      · exact absurd ⟨h1, hlt, by simpa using hkb⟩ h2
      · exact hge
  have hall : ∀ k, k < w.heap.size → k ∉ [b] → w'.heap[k]? = w.heap[k]? := fun k hk hkb => by
    rcases Nat.lt_or_ge k w0.heap.size with hlt | hge
    · rw [hs'.ext.block k hlt, hs.ext.block k hlt]
    · exact hfr k hge hk hkb
  have hnR := hs.nd
  rw [List.cons_append, List.nil_append, List.pairwise_cons] at hnR
  have hRb : ∀ y ∈ R, ∀ k, y.foot k → k ∉ [b] := fun y hy k hk h => by
    rw [List.mem_singleton] at h
    exact hnR.1 y hy k h hk
  have hsz : w.heap.size ≤ w'.heap.size := by
    by_cases h0 : w.heap.size = 0
    · omega
    · by_cases hlast : w.heap.size - 1 = b
      · obtain ⟨y, hy, hk⟩ := hnb x hx
        have := (hs'.own y (List.mem_append_left _ hy)).2.lt hk
        omega
      · have := hall (w.heap.size - 1) (by omega) (by simpa using hlast)
        rcases Nat.lt_or_ge (w.heap.size - 1) w'.heap.size with hlt | hge
        · omega
        · rw [Array.getElem?_eq_none hge, Array.getElem?_eq_getElem (by omega)] at this; cases this
  refine ⟨⟨x, hx, rfl, hs'.ext, fun y hy => ?_, ?_⟩, ⟨?_, ?_, ?_, hsz, hall⟩⟩
  · rcases List.mem_append.1 hy with hy | hy
    · exact hs'.own y (List.mem_append_left _ hy)
    · have ho := hs.own y (List.mem_append_right _ hy)
      exact ⟨ho.1, ho.2.loc fun k hk => hall k (ho.2.lt hk) (hRb y hy k hk)⟩
  · rw [List.pairwise_append]
    refine ⟨hnd.1, hnR.2, fun y hy z hz k hk hk' => ?_⟩
    rcases hnew y hy k hk with h | h
    · exact hRb z hz k hk' (by simpa using h)
    · have := (hs.own z (List.mem_append_right _ hz)).2.lt hk'
      omega
  · rw [hs'.ext.os, hs.ext.os]
  · rw [hs'.ext.tape, hs.ext.tape]
  · rw [hs'.ext.output, hs.ext.output]
theorem S_callB {α : Type} {φ : α → Prop} {v : α → Value} {new : α → List Blk} {b : Nat} {t : TypeId} {cs : List Value} {f : FuncId} {xs : Array Operand} {ats : Array TypeId} {vs : List Value} (hp : plainFn P f = true) (hv : evs E xs.toList = some vs) (hd : Nat.blt d n = true)
    (hc : ∀ R w, St w0 w ([.blk b t cs] ++ R) → Calls P f vs.toArray w (RetS w0 R φ v new)) (hnb : ∀ x, φ x → ∃ y ∈ new x, y.foot b) (hpick : Pick L (.blk b t cs) R) (hk : okst r k b) (h : ∀ x, φ x → GoS P n w0 r Q ((d, v x) :: E) (new x ++ R) l) : GoS P n w0 r Q E L (⟨k + 1, none, some d, .call ⟨.value (.func f), xs, ats⟩, ty⟩ :: l) :=
  S_act fun a w he hs => by
    unfold Oper.wp
    rw [run_call hp (evs_map (fun _ _ hx => he.eval hx) hv)]
    refine (callS_ext hnb hc R w (hs.perm hpick.perm)).mono fun e w' hR => ?_
    obtain ⟨⟨x, hx, rfl, hs'⟩, hX⟩ := hR
    refine ⟨fun e0 => ?_, h x hx _ _ (he.put hd _) hs'⟩
    obtain ⟨ys, rfl, hb⟩ := hk e0
    exact ⟨hX.1, hX.2.1, hX.2.2.1, hX.2.2.2.1, fun i hi hn => hX.2.2.2.2 i hi (by rw [List.mem_singleton]; exact fun e => hn (e ▸ hb))⟩
theorem S_nilCheck {b o : Nat} (hx : ev E x = some (.pointer (some ⟨b, o, none⟩))) (hd : Nat.blt d n = true) (h : GoS P n w0 r Q ((d, .pointer (some ⟨b, o, none⟩)) :: E) L l) : GoS P n w0 r Q E L (⟨0, none, some d, .nilCheck x, ty⟩ :: l) :=
  S_read hd (fun ρ w he _ w' _ => by
    have hx := he _ _ hx
    simp [Stp.oper, execOp, hx]) h
theorem S_xor {p q : Int} {t t' : TypeId} (hx : ev E x = some (.int .i64 p)) (hy : ev E y = some (.int .i64 q)) (hd : Nat.blt d n = true) (hp : 0 ≤ p ∧ p < 4611686018427387904) (hq : 0 ≤ q ∧ q < 4611686018427387904) (h : ∀ z : Int, 0 ≤ z ∧ z < 4611686018427387904 → GoS P n w0 r Q ((d, .int .i64 z) :: E) L l) :
    GoS P n w0 r Q E L (⟨0, none, some d, .binOp .xor t x y t', ty⟩ :: l) := by
  have hlt : p.toNat ^^^ q.toNat < 2 ^ 62 := Nat.xor_lt_two_pow (by omega) (by omega)
  refine S_read (v := .int .i64 ((p.toNat ^^^ q.toNat : Nat) : Int)) hd (fun ρ w he _ w' _ => ?_) (h _ ⟨by omega, by omega⟩)
  have hx := he _ _ hx
  have hy := he _ _ hy
  have e1 : (BitVec.ofInt 64 p) = BitVec.ofNat 64 p.toNat := by
    rw [← BitVec.ofInt_natCast, Int.toNat_of_nonneg hp.1]
  have e2 : (BitVec.ofInt 64 q) = BitVec.ofNat 64 q.toNat := by
    rw [← BitVec.ofInt_natCast, Int.toNat_of_nonneg hq.1]
  have e3 : (BitVec.ofInt 64 p ^^^ BitVec.ofInt 64 q).toNat = p.toNat ^^^ q.toNat := by
    rw [e1, e2, BitVec.toNat_xor, BitVec.toNat_ofNat, BitVec.toNat_ofNat, Nat.mod_eq_of_lt (by omega), Nat.mod_eq_of_lt (by omega)]
  have e4 : IntKind.i64.wrap ((p.toNat ^^^ q.toNat : Nat) : Int) = ((p.toNat ^^^ q.toNat : Nat) : Int) := IntWalk.i64_in _ ⟨by omega, by omega⟩
  have e5 : bits .xor .i64 p q = ((p.toNat ^^^ q.toNat : Nat) : Int) := by
    show IntKind.i64.wrap ((BitVec.ofInt 64 p ^^^ BitVec.ofInt 64 q).toNat : Nat) = _
    rw [e3, e4]
  simp [Stp.oper, execOp, hx, hy, go_sem, binOp, e5]
theorem BuildR.cons1 {t : TypeId} {i off : Nat} {v : Value} {cs c1 vs : List Value} {ps : List (Nat × Value)} (h1 : IsFs P t i off 1) (h2 : v.oneCell' = true) (h4 : SetSeg cs off [v] c1) (h5 : BuildR P t c1 ps vs) : BuildR P t cs ((i, v) :: ps) vs :=
  BuildR.cons h1 (us := [v]) (by cases v <;> simp_all [Value.oneCell', Value.cells]) rfl h4 h5
theorem Mem.one {w : World} {v : Value} {m n : Nat} {cs : List Value} (h : Mem w v m n cs) : v.oneCell' = true := h.1.one
theorem Mem.one_sub {w : World} {v : Value} {m n lo hi : Nat} {cs : List Value} (h : Mem w v m n cs) (h1 : lo ≤ hi) (h2 : hi ≤ n) : (subV v m lo hi).oneCell' = true := (h.1.sub m h1 h2).one
/-- a group of one row is that row -/
theorem S_unrow {v : Value} {t : TypeId} {m N : Nat} {cs : List Value} (h : GoS P n w0 r Q E (.row v t m N cs :: L) l) : GoS P n w0 r Q E (.many [⟨v, t, m, N, cs⟩] :: L) l := fun a w he hs => h a w he (st_flat1.1 hs)
theorem first1 {α : Type} [Inhabited α] {q : List α} (h : (q.length : Int) = 1) : q[(0 : Int).toNat]? = some (ix q 0) := by
  have : q.length = 1 := by omega
  exact nthD (k := 0) (by omega)
theorem one_eq {α : Type} [Inhabited α] {q : List α} {a : α} (h : (q.length : Int) = 1) (h2 : ix q 0 = a) : q = [a] := by
  match q, h with
  | [b], _ => rw [← h2]; rfl
theorem F_idxZ {v : Value} {t e : TypeId} {m N : Nat} {p : Int} (hx : ev E x = some v) (hy : ev E y = some (.int .i64 p)) (hd : Nat.blt d n = true) (ht : IsSl P t e m) (h0 : 0 ≤ p) (hn : LenOf w0 L v N) (hk : p.toNat < N) (h : GoS P n w0 r Q ((d, sp v (p.toNat * m)) :: E) L l) : GoS P n w0 r Q E L (⟨0, none, some d, .indexAddr t x y, ty⟩ :: l) :=
  F_idx hx hy hd ht (Int.toNat_of_nonneg h0).symm hn hk h
/-- a literal of numbers -/
inductive LitI : List Value → List Int → Prop
  | nil : LitI [] []
  | cons {x : Int} {cs : List Value} {q : List Int} (h : LitI cs q) : LitI (.int .i64 x :: cs) (x :: q)
  | app {x : Int} {cs : List Value} {q : List Int} (h : LitI cs q) : LitI ([.int .i64 x] ++ cs) (x :: q)
theorem LitI.eq {cs : List Value} {q : List Int} (h : LitI cs q) : cs = q.map fun z => Value.int .i64 z := by
  induction h with
  | nil => rfl
  | cons h ih => rw [ih]; rfl
  | app h ih => rw [ih]; rfl
/-- one of a literal's numbers -/
theorem F_loadI {v : Value} {t : TypeId} {K N : Nat} {cs : List Value} {q : List Int} (hx : ev E x = some (sp v (K * 1))) (hd : Nat.blt d n = true) (ht : IsSc P t) (hr : Rd w0 L r v 1 N cs) (hq : LitI cs q) (hK : K < q.length) (h : ∀ z ∈ q, GoS P n w0 r Q ((d, .int .i64 z) :: E) L l) : GoS P n w0 r Q E L (⟨0, none, some d, .load t x, ty⟩ :: l) := by
  have hz : cs[K * 1]? = some (.int .i64 q[K]) := by rw [hq.eq, Nat.mul_one, List.getElem?_map, List.getElem?_eq_getElem hK]; rfl
  exact F_loadS1 hx hd ht hr hz (h _ (List.getElem_mem hK))
theorem take_at {cs us : List Value} {o m : Nat} (h : Take cs o m us) : At cs o us := fun j u hj => h.at j u hj
/-- one of a literal's structs -/
theorem F_loadST {v : Value} {t : TypeId} {o m m' N : Nat} {cs us : List Value} (hx : ev E x = some (sp v o)) (hd : Nat.blt d n = true) (ht : IsRw P t m) (hr : Rd w0 L r v m' N cs) (hv : Take cs o m us) (hl : us.length = m) (h0 : Nat.blt 0 m = true) (h : GoS P n w0 r Q ((d, .agg us.toArray) :: E) L l) : GoS P n w0 r Q E L (⟨0, none, some d, .load t x, ty⟩ :: l) :=
  F_loadSN hx hd ht hr (take_at hv) hl h0 h
end
end Go.Proofs.Ytodhjpnfokkfeaa

/- Where the entry of a prefix stands in an ordered table: the binary search. -/
import Derived.Test.YtlkcgonbkdflpaaHelloe
import Derived.Test.YtlkcgonbkdflpaaSymg
set_option linter.unusedSimpArgs false
set_option linter.unusedVariables false
namespace Go.Proofs.Ytlkcgonbkdflpaa
open Go Go.RowKit
attribute [local irreducible] Calls GoS GoC GoE GoT Mid IsEq IsFl IsSc IsRw IsSl IsEl IsSt IsFs sp Mem Rd LenOf szR
section
variable {P : Program} {n : Nat} {w0 : World} {r : Option (List Nat)} {Q : Exit → Act → World → Prop} {E : List (Nat × Value)} {L : List Blk} {l : List Stp} {d : Nat} {ty t t' : TypeId} {x y : Operand} {p : Int}
theorem S_convU {ta tb : TypeId} (hx : ev E x = some (.int .i64 p)) (hd : Nat.blt d n = true) (ha : P.underlying ta = some (.int .i64)) (hb : P.underlying tb = some (.int .u64)) (hr : 0 ≤ p ∧ p ≤ 9223372036854775807) (h : GoS P n w0 r Q ((d, .int .u64 p) :: E) L l) : GoS P n w0 r Q E L (⟨0, none, some d, .convert ta tb x, ty⟩ :: l) :=
  S_conv (c := true) hx hd ha hb (by rw [IntKind.wrap_u64, Int.emod_eq_of_lt hr.1 (by omega)]; exact h)
theorem S_shrU (hx : ev E x = some (.int .u64 p)) (hy : ev E y = some (.int .u64 1)) (hp : 0 ≤ p ∧ p ≤ 9223372036854775807) (hd : Nat.blt d n = true) (h : GoS P n w0 r Q ((d, .int .u64 (p / 2)) :: E) L l) : GoS P n w0 r Q E L (⟨0, none, some d, .binOp .shr t x y t', ty⟩ :: l) :=
  S_read hd (fun ρ w he _ w' _ => by
    have hx := he _ _ hx
    have hy := he _ _ hy
    have e : IntKind.u64.wrap (p / 2) = p / 2 := by rw [IntKind.wrap_u64, Int.emod_eq_of_lt (by omega) (by omega)]
    simp [Stp.oper, execOp, hx, hy, go_sem, e]) h
end
theorem preLess_trans {a b c : MHelloEntry} (h1 : preLess a b = true) (h2 : preLess b c = true) : preLess a c = true := by
  simp only [preLess, Bool.or_eq_true, Bool.and_eq_true, decide_eq_true_eq] at *
  omega
theorem preLess_flip {a b : MHelloEntry} (h : preLess a b = true) : preLess b a = false := by
  cases h2 : preLess b a
  · rfl
  · simp only [preLess, Bool.or_eq_true, Bool.and_eq_true, decide_eq_true_eq] at *
    omega
def rngE (x : MHelloEntry) : Prop := 0 ≤ x.2.1 ∧ x.2.1 ≤ 16 ∧ 0 ≤ x.1 ∧ x.1 ≤ 65535
/-- entries ascend -/
def Asc (l : List MHelloEntry) : Prop := ∀ d i, i + d + 1 < l.length → preLess (ix l i) (ix l (i + d + 1)) = true
theorem table_asc {l : List MHelloEntry} (h : tableOk l = true) : Asc l := by
  have hat : ∀ k, k < l.length → tabAt l k = true := fun k hk => by
    unfold tableOk at h
    rw [Bool.and_eq_true] at h
    exact List.all_eq_true.1 h.2 k (List.mem_range.2 hk)
  have hst : ∀ k, k + 1 < l.length → preLess (ix l k) (ix l (k + 1)) = true := fun k hk => by
    have := hat (k + 1) hk
    simp only [tabAt, Bool.and_eq_true, Bool.or_eq_true, decide_eq_true_eq, Nat.add_sub_cancel] at this
    rcases this.2 with h0 | h0
    · omega
    · exact h0
  intro d
  induction d with
  | zero => intro i hi; exact hst i hi
  | succ d ih =>
    intro i hi
    have h1 := ih i (by omega)
    have h2 := hst (i + d + 1) (by omega)
    rw [show i + (d + 1) + 1 = i + d + 1 + 1 by omega]
    exact preLess_trans h1 h2
theorem Asc.lt {l : List MHelloEntry} (h : Asc l) {i j : Nat} (hij : i < j) (hj : j < l.length) : preLess (ix l i) (ix l j) = true := by
  have := h (j - i - 1) i (by omega)
  rwa [show i + (j - i - 1) + 1 = j by omega] at this
theorem table_rng {l : List MHelloEntry} (h : tableOk l = true) : l.length ≤ 8 ∧ ∀ k, k < l.length → rngE (ix l k) := by
  unfold tableOk at h
  rw [Bool.and_eq_true] at h
  refine ⟨of_decide_eq_true h.1, fun k hk => ?_⟩
  have := List.all_eq_true.1 h.2 k (List.mem_range.2 hk)
  simp only [tabAt, Bool.and_eq_true] at this
  exact entryOk_t this.1
/-- where an entry stands, or would stand -/
def posT (l : List MHelloEntry) (z : MHelloEntry) : Nat := (l.takeWhile fun e => preLess e z).length
def sameP (x z : MHelloEntry) : Bool := decide (x.1 = z.1) && decide (x.2.1 = z.2.1)
def foundT (l : List MHelloEntry) (z : MHelloEntry) : Bool := decide (posT l z < l.length) && sameP (ix l (posT l z)) z
theorem posT_le (l : List MHelloEntry) (z : MHelloEntry) : posT l z ≤ l.length := (List.takeWhile_sublist _).length_le
theorem ix_zero {α : Type} [Inhabited α] (a : α) (l : List α) : ix (a :: l) 0 = a := rfl
theorem ix_succ {α : Type} [Inhabited α] (a : α) (l : List α) (k : Nat) : ix (a :: l) (k + 1) = ix l k := by simp [ix]
theorem pos_of {z : MHelloEntry} : ∀ {l : List MHelloEntry} {i : Nat}, i ≤ l.length → (∀ k, k < i → preLess (ix l k) z = true) → (i < l.length → preLess (ix l i) z = false) → posT l z = i
  | [], i, hi, _, _ => by
    have : i = 0 := by simpa using hi
    subst this; rfl
  | a :: l, 0, _, _, h2 => by
    have h := h2 (by simp)
    rw [ix_zero] at h
    simp [posT, List.takeWhile_cons, h]
  | a :: l, i + 1, hi, h1, h2 => by
    have ha := h1 0 (by omega)
    rw [ix_zero] at ha
    have ih := pos_of (z := z) (l := l) (i := i) (by simpa using hi) (fun k hk => by have := h1 (k + 1) (by omega); rwa [ix_succ] at this) (fun hlt => by have := h2 (by simpa using hlt); rwa [ix_succ] at this)
    unfold posT at ih ⊢
    rw [List.takeWhile_cons, if_pos ha, List.length_cons, ih]
theorem cmp1_c (x : MHelloEntry) (a ln : Int) (hx : rngE x) (hz : 0 ≤ ln ∧ ln ≤ 16 ∧ 0 ≤ a ∧ a ≤ 65535) (w : World) : Calls Try.prog 65 #[.agg (clHelloEntry x).toArray, .agg #[.int .i64 a, .int .i64 ln]] w (RetN (.int .i64 (cmpP x.1 x.2.1 a ln)) w) := by
  refine enter (n := 9) (E := [(0, _), (1, _)]) Try.func65 rfl rfl rfl rfl ?_
  repeat' (first
    |(refine gS ?_;(first
        |(refine S_move rfl rfl ?_)
        |(refine S_assign rfl rfl ?_)
        |(refine gLoad ?_;(first
            |(apply F_loadAll rfl rfl;(focus ((repeat (first|exact mH|refine mT ?_));done));(first|exact T.rw35|exact T.rw79);(focus (first|exact free0|exact free1)))
            |(apply F_loadP rfl rfl;(focus ((repeat (first|exact mH|refine mT ?_));done));(first|exact T.rw35|exact T.rw79);(focus ((repeat (first|exact Take.nil|apply Take.here|apply Take.there));done));rfl;(focus (first|exact free0|exact free1)))))
        |(refine gCall ?_;(first
            |(show GoS _ _ _ _ _ _ _ (⟨_,_,_,.call ⟨.value (.func 49),_,_⟩,_⟩ :: _);refine S_callN (f := 49) rfl T.pf49 rfl (fun w hst => prefix_c _ w) rfl ?_)
            |(show GoS _ _ _ _ _ _ _ (⟨_,_,_,.call ⟨.value (.func 50),_,_⟩,_⟩ :: _);refine S_callN (f := 50) rfl T.pf50 rfl (fun w hst => comparePrefix_c _ _ _ _ hx hz w) rfl ?_)))
        |(refine S_box rfl rfl rfl ?_;intro kb)
        |(refine S_done ?_)
        |(refine S_box1 rfl rfl rfl rfl ?_;intro kb)))
    |(refine gC ?_;(first
        |(refine C_seq ?_)
        |(refine gReg ?_;(first
            |(refine gReg (i := 0) ?_;refine C_plain [(0,2),(1,2),(2,0)] (by kernel_rfl) (s := [⟨2,none,_,_,_⟩,⟨2,none,_,_,_⟩,⟨0,none,_,_,_⟩]) rfl ?_)
            |(refine gReg (i := 1) ?_;refine C_drawn [(0,0),(2,0),(1,1),(3,1),(4,0)] [] T.mixed (by kernel_rfl) (s := [⟨0,none,_,_,_⟩,⟨0,none,_,_,_⟩,⟨1,none,_,_,_⟩,⟨1,none,_,_,_⟩,⟨0,none,_,_,_⟩]) rfl ?_)))
        |(refine C_true rfl ?_)
        |(refine C_false rfl ?_)
        |(refine C_split rfl ?_ ?_ <;> (intro hb;(try simp only [decide_eq_true_eq] at hb);(try simp only [decide_eq_false_iff_not] at hb);(try simp only [Bool.not_eq_true'] at hb);(try simp only [Bool.not_eq_false'] at hb);(try (exfalso;first|contradiction|omega))))
        |(refine C_skip ?_)
        |(refine C_exit ?_)
        |(refine C_ret ?_)
        |(refine C_block ?_)))
    |(refine gE ?_;(first
        |(refine E_then ?_)
        |(refine E_thenX ?_)
        |(refine E_thenR ?_)
        |(refine E_block ?_)
        |(refine E_blockY ?_)
        |(refine E_blockR ?_)
        |(refine E_calm ?_)
        |(refine E_blockX rfl ?_)
        |(apply E_ret1 rfl;(first|exact Res.tmp rfl|(apply R_cellAll rfl;(focus ((repeat (first|exact mH|refine mT ?_));done));(first|exact T.rw35|exact T.rw79))|(apply R_cell1 rfl;(focus ((repeat (first|exact mH|refine mT ?_));done));fail)))
        |(apply E_ret2 rfl;(first|exact Res.tmp rfl|(apply R_cellAll rfl;(focus ((repeat (first|exact mH|refine mT ?_));done));(first|exact T.rw35|exact T.rw79))|(apply R_cell1 rfl;(focus ((repeat (first|exact mH|refine mT ?_));done));fail));(first|exact Res.tmp rfl|(apply R_cellAll rfl;(focus ((repeat (first|exact mH|refine mT ?_));done));(first|exact T.rw35|exact T.rw79))|(apply R_cell1 rfl;(focus ((repeat (first|exact mH|refine mT ?_));done));fail)))
        | (apply E_ret3 rfl; (first | exact Res.tmp rfl | (apply R_cellAll rfl; (focus ((repeat (first | exact List.Mem.head _ | refine List.Mem.tail _ ?_)); done)); (first | exact T.rw35 | exact T.rw79)) | (apply R_cell1 rfl; (focus ((repeat (first | exact List.Mem.head _ | refine List.Mem.tail _ ?_)); done)); fail)); (first | exact Res.tmp rfl | (apply R_cellAll rfl; (focus ((repeat (first | exact List.Mem.head _ | refine List.Mem.tail _ ?_)); done)); (first | exact T.rw35 | exact T.rw79)) | (apply R_cell1 rfl; (focus ((repeat (first | exact List.Mem.head _ | refine List.Mem.tail _ ?_)); done)); fail)); (first | exact Res.tmp rfl | (apply R_cellAll rfl; (focus ((repeat (first | exact List.Mem.head _ | refine List.Mem.tail _ ?_)); done)); (first | exact T.rw35 | exact T.rw79)) | (apply R_cell1 rfl; (focus ((repeat (first | exact List.Mem.head _ | refine List.Mem.tail _ ?_)); done)); fail))))))
  all_goals exact retN rfl
theorem pfE : plainFn Try.prog 65 = true := by kernel_rfl
theorem cmpP_lt {x z : MHelloEntry} (h : cmpP x.1 x.2.1 z.1 z.2.1 < 0) : preLess x z = true := by
  cases h2 : preLess x z
  · have := cmpP_ge.2 h2; omega
  · rfl
theorem cmpP_nlt {x z : MHelloEntry} (h : ¬ cmpP x.1 x.2.1 z.1 z.2.1 < 0) : preLess x z = false := cmpP_ge.1 (by omega)
theorem cmpP_zero {x z : MHelloEntry} : decide (cmpP x.1 x.2.1 z.1 z.2.1 = 0) = sameP x z := by
  unfold cmpP sameP
  by_cases h : x.1 = z.1
  · by_cases h2 : x.2.1 = z.2.1
    · simp [h, h2]
    · simp [h, h2]; omega
  · simp [h]; omega
set_option maxRecDepth 8192 in
theorem bsearch_c (v : Value) (l : List MHelloEntry) (z : MHelloEntry) (hl : l.length ≤ 1048576) (hr : ∀ k, k < l.length → rngE (ix l k)) (ha : Asc l) (hz : rngE z) (w : World) (hm : Mem w v 4 l.length (l.flatMap clHelloEntry)) : Calls Try.prog 64 #[v, .agg #[.int .i64 z.1, .int .i64 z.2.1], .func (.func 65) #[] #[]] w (RetN (.tuple #[.int .i64 (posT l z : Int), .bool (foundT l z)]) w) := by
  have hlen := hm.len
  simp only [maxLen] at hlen
  refine enter (n := 49) (E := [(0, _), (1, _), (2, _)]) Try.func64 rfl rfl rfl rfl ?_
  repeat' (first
    |(refine gS ?_;(first
        |(refine gGuard ?_;(first
            |(refine S_on rfl ?_)
            |(refine S_off rfl rfl rfl ?_)
            |(refine S_offn rfl rfl ?_)
            |(refine S_offU rfl rfl ?_)
            |(refine S_offUn rfl ?_)
            |(refine S_gsplit rfl ?_ ?_ <;> (intro hb;(try simp only [decide_eq_true_eq] at hb);(try simp only [decide_eq_false_iff_not] at hb);(try simp only [Bool.not_eq_true'] at hb);(try simp only [Bool.not_eq_false'] at hb);(try (exfalso;first|contradiction|omega))))))
        |(refine S_move rfl rfl ?_)
        |(refine S_assign rfl rfl ?_)
        |(apply F_idx rfl rfl rfl;exact T.sl34;(focus rfl);(focus (first|exact len_nil|(apply len_given;assumption)|(apply len_row;(focus ((repeat (first|exact mH|refine mT ?_));done)))|(apply len_isN;assumption)));(focus omega))
        |(apply F_idxZ rfl rfl rfl;exact T.sl34;(focus omega);(focus (first|exact len_nil|(apply len_given;assumption)|(apply len_row;(focus ((repeat (first|exact mH|refine mT ?_));done)))|(apply len_isN;assumption)));(focus omega))
        |(refine gLoad ?_;(first
            |(apply F_loadAll rfl rfl;(focus ((repeat (first|exact mH|refine mT ?_));done));(first|exact T.rw35|exact T.rw79);(focus (first|exact free0|exact free1)))
            |(apply F_loadP rfl rfl;(focus ((repeat (first|exact mH|refine mT ?_));done));(first|exact T.rw35|exact T.rw79);(focus ((repeat (first|exact Take.nil|apply Take.here|apply Take.there));done));rfl;(focus (first|exact free0|exact free1)))
            |(apply F_loadSN rfl rfl;(first|exact T.rw35|exact T.rw79);(focus (first|exact rd_nil|(apply rd_given;(focus assumption);(focus (first|exact freeG0|exact freeG1)))|(apply rd_row;(focus ((repeat (first|exact mH|refine mT ?_));done));(focus (first|exact freeR0|exact freeR1)))));(focus (first|(focus (apply at_flat;(focus (intro _;rfl));(focus assumption)))|exact at_self));rfl;rfl)
            |(apply F_loadSP rfl rfl;(first|exact T.rw35|exact T.rw79);(focus (first|exact rd_nil|(apply rd_given;(focus assumption);(focus (first|exact freeG0|exact freeG1)))|(apply rd_row;(focus ((repeat (first|exact mH|refine mT ?_));done));(focus (first|exact freeR0|exact freeR1)))));(focus (apply at_flat;(focus (intro _;rfl));(focus assumption)));(focus ((repeat (first|exact Take.nil|apply Take.here|apply Take.there));done));rfl;rfl)))
        |(refine gCall ?_;(first
            |(refine S_callC rfl ?_)
            |(apply F_len rfl rfl rfl;(focus exact ⟨_,_,by exact T.sl34⟩);(focus (first|exact len_nil|(apply len_given;assumption)|(apply len_row;(focus ((repeat (first|exact mH|refine mT ?_));done)))|(apply len_isN;assumption))))))
        |(refine gBin ?_;(first
            |(refine S_lss rfl rfl rfl ?_)
            |(refine S_eql rfl rfl rfl ?_)
            |(refine S_add rfl rfl ?_ rfl ?_;(focus (unfold rng;omega)))
            |(refine S_eqlB Try.underlying4 rfl rfl rfl ?_)))
        |(refine gPick ?_;(first
            |(refine S_pickT rfl rfl rfl ?_)
            |(refine S_pickF rfl rfl rfl ?_)))
        |(refine S_box rfl rfl rfl ?_;intro kb)
        |(refine S_convW rfl rfl Try.underlying100 Try.underlying3 ?_ ?_;(focus (unfold rng;omega)))
        |(refine S_done ?_)
        |(refine S_box1 rfl rfl rfl rfl ?_;intro kb)))
    |(refine gC ?_;(first
        |(refine C_seq ?_)
        |(refine gReg ?_;(first
            |(refine gReg (i := 0) ?_;refine C_plain [(0,2),(1,0),(2,0)] (by kernel_rfl) (s := [⟨2,none,_,_,_⟩,⟨0,none,_,_,_⟩,⟨0,none,_,_,_⟩]) rfl ?_)
            |(refine gReg (i := 1) ?_;refine C_plain [(0,0),(1,0),(2,0)] (by kernel_rfl) (s := [⟨0,none,_,_,_⟩,⟨0,none,_,_,_⟩,⟨0,none,_,_,_⟩]) rfl ?_)
            |(refine gReg (i := 2) ?_;refine C_plain [(0,0),(1,0),(2,0)] (by kernel_rfl) (s := [⟨0,none,_,_,_⟩,⟨0,none,_,_,_⟩,⟨0,none,_,_,_⟩]) rfl ?_)
            |(refine gReg (i := 3) ?_;refine C_plain [(0,0),(1,0),(2,0)] (by kernel_rfl) (s := [⟨0,none,_,_,_⟩,⟨0,none,_,_,_⟩,⟨0,none,_,_,_⟩]) rfl ?_)
            |(refine gReg (i := 4) ?_;refine C_plain [(0,0),(1,0),(2,0),(3,0),(4,0),(5,0),(6,0)] (by kernel_rfl) (s := [⟨0,none,_,_,_⟩,⟨0,none,_,_,_⟩,⟨0,none,_,_,_⟩,⟨0,none,_,_,_⟩,⟨0,none,_,_,_⟩,⟨0,none,_,_,_⟩,⟨0,none,_,_,_⟩]) rfl ?_)
            |(refine gReg (i := 5) ?_;refine C_drawn [(0,0),(1,0),(2,0),(3,0),(4,0),(5,0),(6,1),(7,0)] [] T.mixed (by kernel_rfl) (s := [⟨0,none,_,_,_⟩,⟨0,none,_,_,_⟩,⟨0,none,_,_,_⟩,⟨0,none,_,_,_⟩,⟨0,none,_,_,_⟩,⟨0,none,_,_,_⟩,⟨1,none,_,_,_⟩,⟨0,none,_,_,_⟩]) rfl ?_)
            |(refine gReg (i := 6) ?_;refine C_plain [(0,0),(1,0),(2,0)] (by kernel_rfl) (s := [⟨0,none,_,_,_⟩,⟨0,none,_,_,_⟩,⟨0,none,_,_,_⟩]) rfl ?_)
            |(refine gReg (i := 7) ?_;refine C_plain [(0,0),(1,0)] (by kernel_rfl) (s := [⟨0,none,_,_,_⟩,⟨0,none,_,_,_⟩]) rfl ?_)
            |(refine gReg (i := 8) ?_;refine C_drawn [(0,0),(1,0),(2,0),(3,0),(4,0),(5,0),(6,0),(7,0),(8,0),(9,0),(10,0),(11,1),(12,0),(13,0),(14,0),(15,0)] [] T.mixed (by kernel_rfl) (s := [⟨0,none,_,_,_⟩,⟨0,none,_,_,_⟩,⟨0,none,_,_,_⟩,⟨0,none,_,_,_⟩,⟨0,none,_,_,_⟩,⟨0,some (39,true),_,_,_⟩,⟨0,some (39,true),_,_,_⟩,⟨0,some (39,true),_,_,_⟩,⟨0,some (39,true),_,_,_⟩,⟨0,some (39,true),_,_,_⟩,⟨0,some (39,true),_,_,_⟩,⟨1,some (39,true),_,_,_⟩,⟨0,some (39,true),_,_,_⟩,⟨0,none,_,_,_⟩,⟨0,none,_,_,_⟩,⟨0,none,_,_,_⟩]) rfl ?_)))
        |(refine C_true rfl ?_)
        |(refine C_false rfl ?_)
        |(refine C_split rfl ?_ ?_ <;> (intro hb;(try simp only [decide_eq_true_eq] at hb);(try simp only [decide_eq_false_iff_not] at hb);(try simp only [Bool.not_eq_true'] at hb);(try simp only [Bool.not_eq_false'] at hb);(try (exfalso;first|contradiction|omega))))
        |(refine C_skip ?_)
        |(refine C_exit ?_)
        |(refine C_ret ?_)
        |(refine C_block ?_)))
    |(refine gE ?_;(first
        |(refine E_then ?_)
        |(refine E_thenX ?_)
        |(refine E_thenR ?_)
        |(refine E_block ?_)
        |(refine E_blockY ?_)
        |(refine E_blockR ?_)
        |(refine E_calm ?_)
        |(refine E_blockX rfl ?_)
        |(apply E_ret1 rfl;(first|exact Res.tmp rfl|(apply R_cellAll rfl;(focus ((repeat (first|exact mH|refine mT ?_));done));(first|exact T.rw35|exact T.rw79))|(apply R_cell1 rfl;(focus ((repeat (first|exact mH|refine mT ?_));done));fail)))
        |(apply E_ret2 rfl;(first|exact Res.tmp rfl|(apply R_cellAll rfl;(focus ((repeat (first|exact mH|refine mT ?_));done));(first|exact T.rw35|exact T.rw79))|(apply R_cell1 rfl;(focus ((repeat (first|exact mH|refine mT ?_));done));fail));(first|exact Res.tmp rfl|(apply R_cellAll rfl;(focus ((repeat (first|exact mH|refine mT ?_));done));(first|exact T.rw35|exact T.rw79))|(apply R_cell1 rfl;(focus ((repeat (first|exact mH|refine mT ?_));done));fail)))
        | (apply E_ret3 rfl; (first | exact Res.tmp rfl | (apply R_cellAll rfl; (focus ((repeat (first | exact List.Mem.head _ | refine List.Mem.tail _ ?_)); done)); (first | exact T.rw35 | exact T.rw79)) | (apply R_cell1 rfl; (focus ((repeat (first | exact List.Mem.head _ | refine List.Mem.tail _ ?_)); done)); fail)); (first | exact Res.tmp rfl | (apply R_cellAll rfl; (focus ((repeat (first | exact List.Mem.head _ | refine List.Mem.tail _ ?_)); done)); (first | exact T.rw35 | exact T.rw79)) | (apply R_cell1 rfl; (focus ((repeat (first | exact List.Mem.head _ | refine List.Mem.tail _ ?_)); done)); fail)); (first | exact Res.tmp rfl | (apply R_cellAll rfl; (focus ((repeat (first | exact List.Mem.head _ | refine List.Mem.tail _ ?_)); done)); (first | exact T.rw35 | exact T.rw79)) | (apply R_cell1 rfl; (focus ((repeat (first | exact List.Mem.head _ | refine List.Mem.tail _ ?_)); done)); fail))))))
  refine C_loop (α := Nat × Nat) (fun s => [(10, .int .i64 (s.2 : Int)), (9, .int .i64 (s.1 : Int)), (8, .int .i64 (l.length : Int)), (4, .pointer (some ⟨kb, 0, none⟩)), (0, v), (2, .func (.func 65) #[] #[])])
    (fun _ => [.blk kb 79 [.int .i64 z.1, .int .i64 z.2.1]])
    (fun s => s.1 ≤ s.2 ∧ s.2 ≤ l.length ∧ (∀ k, k < s.1 → preLess (ix l k) z = true) ∧ (∀ k, s.2 ≤ k → k < l.length → preLess (ix l k) z = false)) (fun s => s.2 - s.1) (0, l.length)
    ⟨Nat.zero_le _, Nat.le_refl _, fun k hk => absurd hk (Nat.not_lt_zero _), fun k h1 h2 => absurd h2 (by omega)⟩ ⟨rfl, rfl, rfl, rfl, rfl, rfl, trivial⟩ (List.Sublist.refl _) ?_
  rintro ⟨i, j⟩ ⟨hij, hjn, hlo, hhi⟩
  dsimp only at hij hjn hlo hhi ⊢
  have hmid : (i : Int) < (j : Int) → (i + j) / 2 < l.length ∧ (((i : Int) + (j : Int)) / 2 = (((i + j) / 2 : Nat) : Int)) ∧ i ≤ (i + j) / 2 ∧ (i + j) / 2 < j := fun h => by omega
  have hxm : (i : Int) < (j : Int) → l[(i + j) / 2]? = some (ix l ((i + j) / 2)) := fun h => nthD (by have := hmid h; omega)
  have hxr : (i : Int) < (j : Int) → rngE (ix l ((i + j) / 2)) := fun h => hr _ (hmid h).1
  have hxi : (i : Int) < (l.length : Int) → l[i]? = some (ix l i) := fun h => nthD h
  have hxri : (i : Int) < (l.length : Int) → rngE (ix l i) := fun h => hr _ (by omega)
  repeat' (first
    |(refine gS ?_;(first
        |(refine gGuard ?_;(first
            |(refine S_on rfl ?_)
            |(refine S_off rfl rfl rfl ?_)
            |(refine S_offn rfl rfl ?_)
            |(refine S_offU rfl rfl ?_)
            |(refine S_offUn rfl ?_)
            |(refine S_gsplit rfl ?_ ?_ <;> (intro hb;(try simp only [decide_eq_true_eq] at hb);(try simp only [decide_eq_false_iff_not] at hb);(try simp only [Bool.not_eq_true'] at hb);(try simp only [Bool.not_eq_false'] at hb);(try (exfalso;first|contradiction|omega));(try (have hm1 := hmid hb));(try (have hx := hxm hb));(try (have hxe := hxr hb));(try (have hx := hxi hb));(try (have hxe := hxri hb))))))
        |(refine S_move rfl rfl ?_)
        |(refine S_assign rfl rfl ?_)
        |(apply F_idx rfl rfl rfl;exact T.sl34;(focus rfl);(focus (first|exact len_nil|(apply len_given;assumption)|(apply len_row;(focus ((repeat (first|exact mH|refine mT ?_));done)))|(apply len_isN;assumption)));(focus omega))
        |(apply F_idxZ rfl rfl rfl;exact T.sl34;(focus omega);(focus (first|exact len_nil|(apply len_given;assumption)|(apply len_row;(focus ((repeat (first|exact mH|refine mT ?_));done)))|(apply len_isN;assumption)));(focus omega))
        |(apply F_idx (K := (i + j) / 2) rfl rfl rfl;exact T.sl34;(focus omega);(focus (first|exact len_nil|(apply len_given;assumption)|(apply len_row;(focus ((repeat (first|exact mH|refine mT ?_));done)))|(apply len_isN;assumption)));(focus omega))
        |(apply F_idx (K := i) rfl rfl rfl;exact T.sl34;(focus omega);(focus (first|exact len_nil|(apply len_given;assumption)|(apply len_row;(focus ((repeat (first|exact mH|refine mT ?_));done)))|(apply len_isN;assumption)));(focus omega))
        |(refine gLoad ?_;(first
            |(apply F_loadAll rfl rfl;(focus ((repeat (first|exact mH|refine mT ?_));done));(first|exact T.rw35|exact T.rw79);(focus (first|exact free0|exact free1)))
            |(apply F_loadP rfl rfl;(focus ((repeat (first|exact mH|refine mT ?_));done));(first|exact T.rw35|exact T.rw79);(focus ((repeat (first|exact Take.nil|apply Take.here|apply Take.there));done));rfl;(focus (first|exact free0|exact free1)))
            |(apply F_loadSN rfl rfl;(first|exact T.rw35|exact T.rw79);(focus (first|exact rd_nil|(apply rd_given;(focus assumption);(focus (first|exact freeG0|exact freeG1)))|(apply rd_row;(focus ((repeat (first|exact mH|refine mT ?_));done));(focus (first|exact freeR0|exact freeR1)))));(focus (first|(focus (apply at_flat;(focus (intro _;rfl));(focus assumption)))|exact at_self));rfl;rfl)
            |(apply F_loadSP rfl rfl;(first|exact T.rw35|exact T.rw79);(focus (first|exact rd_nil|(apply rd_given;(focus assumption);(focus (first|exact freeG0|exact freeG1)))|(apply rd_row;(focus ((repeat (first|exact mH|refine mT ?_));done));(focus (first|exact freeR0|exact freeR1)))));(focus (apply at_flat;(focus (intro _;rfl));(focus assumption)));(focus ((repeat (first|exact Take.nil|apply Take.here|apply Take.there));done));rfl;rfl)
            |((refine S_convU rfl rfl Try.underlying3 Try.underlying100 (by omega) ?_))
            |((refine S_shrU rfl rfl (by omega) rfl ?_))))
        |(refine gCall ?_;(first
            |((refine S_callN (f := 65) rfl pfE rfl (fun w hst => (cmp1_c (ix l ((i + j) / 2)) z.1 z.2.1 hxe hz w)) rfl ?_))
            |((refine S_callN (f := 65) rfl pfE rfl (fun w hst => (cmp1_c (ix l i) z.1 z.2.1 hxe hz w)) rfl ?_))
            |(refine S_callC rfl ?_)
            |(apply F_len rfl rfl rfl;(focus exact ⟨_,_,by exact T.sl34⟩);(focus (first|exact len_nil|(apply len_given;assumption)|(apply len_row;(focus ((repeat (first|exact mH|refine mT ?_));done)))|(apply len_isN;assumption))))
            |((refine S_convU rfl rfl Try.underlying3 Try.underlying100 (by omega) ?_))
            |((refine S_shrU rfl rfl (by omega) rfl ?_))))
        |(refine gBin ?_;(first
            |((refine S_convU rfl rfl Try.underlying3 Try.underlying100 (by omega) ?_))
            |((refine S_shrU rfl rfl (by omega) rfl ?_))
            |(refine S_lss rfl rfl rfl ?_)
            |(refine S_eql rfl rfl rfl ?_)
            |(refine S_add rfl rfl ?_ rfl ?_;(focus (unfold rng;omega)))
            |(refine S_eqlB Try.underlying4 rfl rfl rfl ?_)))
        |(refine gPick ?_;(first
            |(refine S_pickT rfl rfl rfl ?_)
            |(refine S_pickF rfl rfl rfl ?_)))
        |(refine S_box rfl rfl rfl ?_;intro kb)
        |(refine S_convW rfl rfl Try.underlying100 Try.underlying3 ?_ ?_;(focus (unfold rng;omega)))
        |(refine S_done ?_)
        |(refine S_box1 rfl rfl rfl rfl ?_;intro kb)
        |((refine S_convU rfl rfl Try.underlying3 Try.underlying100 (by omega) ?_))
        |((refine S_shrU rfl rfl (by omega) rfl ?_))))
    |(refine gC ?_;(first
        |(refine C_seq ?_)
        |(refine gReg ?_;(first
            |(refine gReg (i := 0) ?_;refine C_plain [(0,2),(1,0),(2,0)] (by kernel_rfl) (s := [⟨2,none,_,_,_⟩,⟨0,none,_,_,_⟩,⟨0,none,_,_,_⟩]) rfl ?_)
            |(refine gReg (i := 1) ?_;refine C_plain [(0,0),(1,0),(2,0)] (by kernel_rfl) (s := [⟨0,none,_,_,_⟩,⟨0,none,_,_,_⟩,⟨0,none,_,_,_⟩]) rfl ?_)
            |(refine gReg (i := 2) ?_;refine C_plain [(0,0),(1,0),(2,0)] (by kernel_rfl) (s := [⟨0,none,_,_,_⟩,⟨0,none,_,_,_⟩,⟨0,none,_,_,_⟩]) rfl ?_)
            |(refine gReg (i := 3) ?_;refine C_plain [(0,0),(1,0),(2,0)] (by kernel_rfl) (s := [⟨0,none,_,_,_⟩,⟨0,none,_,_,_⟩,⟨0,none,_,_,_⟩]) rfl ?_)
            |(refine gReg (i := 4) ?_;refine C_plain [(0,0),(1,0),(2,0),(3,0),(4,0),(5,0),(6,0)] (by kernel_rfl) (s := [⟨0,none,_,_,_⟩,⟨0,none,_,_,_⟩,⟨0,none,_,_,_⟩,⟨0,none,_,_,_⟩,⟨0,none,_,_,_⟩,⟨0,none,_,_,_⟩,⟨0,none,_,_,_⟩]) rfl ?_)
            |(refine gReg (i := 5) ?_;refine C_drawn [(0,0),(1,0),(2,0),(3,0),(4,0),(5,0),(6,1),(7,0)] [] T.mixed (by kernel_rfl) (s := [⟨0,none,_,_,_⟩,⟨0,none,_,_,_⟩,⟨0,none,_,_,_⟩,⟨0,none,_,_,_⟩,⟨0,none,_,_,_⟩,⟨0,none,_,_,_⟩,⟨1,none,_,_,_⟩,⟨0,none,_,_,_⟩]) rfl ?_)
            |(refine gReg (i := 6) ?_;refine C_plain [(0,0),(1,0),(2,0)] (by kernel_rfl) (s := [⟨0,none,_,_,_⟩,⟨0,none,_,_,_⟩,⟨0,none,_,_,_⟩]) rfl ?_)
            |(refine gReg (i := 7) ?_;refine C_plain [(0,0),(1,0)] (by kernel_rfl) (s := [⟨0,none,_,_,_⟩,⟨0,none,_,_,_⟩]) rfl ?_)
            |(refine gReg (i := 8) ?_;refine C_drawn [(0,0),(1,0),(2,0),(3,0),(4,0),(5,0),(6,0),(7,0),(8,0),(9,0),(10,0),(11,1),(12,0),(13,0),(14,0),(15,0)] [] T.mixed (by kernel_rfl) (s := [⟨0,none,_,_,_⟩,⟨0,none,_,_,_⟩,⟨0,none,_,_,_⟩,⟨0,none,_,_,_⟩,⟨0,none,_,_,_⟩,⟨0,some (39,true),_,_,_⟩,⟨0,some (39,true),_,_,_⟩,⟨0,some (39,true),_,_,_⟩,⟨0,some (39,true),_,_,_⟩,⟨0,some (39,true),_,_,_⟩,⟨0,some (39,true),_,_,_⟩,⟨1,some (39,true),_,_,_⟩,⟨0,some (39,true),_,_,_⟩,⟨0,none,_,_,_⟩,⟨0,none,_,_,_⟩,⟨0,none,_,_,_⟩]) rfl ?_)))
        |(refine C_true rfl ?_)
        |(refine C_false rfl ?_)
        |(refine C_split rfl ?_ ?_ <;> (intro hb;(try simp only [decide_eq_true_eq] at hb);(try simp only [decide_eq_false_iff_not] at hb);(try simp only [Bool.not_eq_true'] at hb);(try simp only [Bool.not_eq_false'] at hb);(try (exfalso;first|contradiction|omega));(try (have hm1 := hmid hb));(try (have hx := hxm hb));(try (have hxe := hxr hb));(try (have hx := hxi hb));(try (have hxe := hxri hb))))
        |(refine C_skip ?_)
        |(refine C_exit ?_)
        |(refine C_ret ?_)
        |(refine C_block ?_)))
    |(refine gE ?_;(first
        |(refine E_then ?_)
        |(refine E_thenX ?_)
        |(refine E_thenR ?_)
        |(refine E_block ?_)
        |(refine E_blockY ?_)
        |(refine E_blockR ?_)
        |(refine E_calm ?_)
        |(refine E_blockX rfl ?_)
        |(apply E_ret1 rfl;(first|exact Res.tmp rfl|(apply R_cellAll rfl;(focus ((repeat (first|exact mH|refine mT ?_));done));(first|exact T.rw35|exact T.rw79))|(apply R_cell1 rfl;(focus ((repeat (first|exact mH|refine mT ?_));done));fail)))
        |(apply E_ret2 rfl;(first|exact Res.tmp rfl|(apply R_cellAll rfl;(focus ((repeat (first|exact mH|refine mT ?_));done));(first|exact T.rw35|exact T.rw79))|(apply R_cell1 rfl;(focus ((repeat (first|exact mH|refine mT ?_));done));fail));(first|exact Res.tmp rfl|(apply R_cellAll rfl;(focus ((repeat (first|exact mH|refine mT ?_));done));(first|exact T.rw35|exact T.rw79))|(apply R_cell1 rfl;(focus ((repeat (first|exact mH|refine mT ?_));done));fail)))
        | (apply E_ret3 rfl; (first | exact Res.tmp rfl | (apply R_cellAll rfl; (focus ((repeat (first | exact List.Mem.head _ | refine List.Mem.tail _ ?_)); done)); (first | exact T.rw35 | exact T.rw79)) | (apply R_cell1 rfl; (focus ((repeat (first | exact List.Mem.head _ | refine List.Mem.tail _ ?_)); done)); fail)); (first | exact Res.tmp rfl | (apply R_cellAll rfl; (focus ((repeat (first | exact List.Mem.head _ | refine List.Mem.tail _ ?_)); done)); (first | exact T.rw35 | exact T.rw79)) | (apply R_cell1 rfl; (focus ((repeat (first | exact List.Mem.head _ | refine List.Mem.tail _ ?_)); done)); fail)); (first | exact Res.tmp rfl | (apply R_cellAll rfl; (focus ((repeat (first | exact List.Mem.head _ | refine List.Mem.tail _ ?_)); done)); (first | exact T.rw35 | exact T.rw79)) | (apply R_cell1 rfl; (focus ((repeat (first | exact List.Mem.head _ | refine List.Mem.tail _ ?_)); done)); fail))))))
  · rw [hm1.2.1]
    refine E_round (α := Nat × Nat) ((i + j) / 2 + 1, j) ⟨by dsimp only; omega, hjn, fun k hk => ?_, hhi⟩ (by dsimp only; omega) ⟨rfl, rfl, rfl, rfl, rfl, rfl, trivial⟩ (List.Sublist.refl _)
    have ht := cmpP_lt hb
    rcases Nat.lt_or_ge k ((i + j) / 2) with h | h
    · exact preLess_trans (ha.lt h hm1.1) ht
    · have e : k = (i + j) / 2 := by dsimp only at hk; omega
      rw [e]; exact ht
  · rw [hm1.2.1]
    refine E_round (α := Nat × Nat) (i, (i + j) / 2) ⟨by dsimp only; omega, by dsimp only; omega, hlo, fun k h1 h2 => ?_⟩ (by dsimp only; omega) ⟨rfl, rfl, rfl, rfl, rfl, rfl, trivial⟩ (List.Sublist.refl _)
    have ht := cmpP_nlt hb
    rcases Nat.eq_or_lt_of_le h1 with h | h
    · dsimp only at h; rw [← h]; exact ht
    · cases h3 : preLess (ix l k) z
      · rfl
      · rw [preLess_trans (ha.lt h h2) h3] at ht; cases ht
  · have e : i = j := by omega
    subst e
    have hp : posT l z = i := pos_of hjn hlo fun h => hhi i (Nat.le_refl _) h
    refine retN ?_
    rw [cmpP_zero]
    unfold foundT
    rw [hp, decide_eq_true (show i < l.length by omega), Bool.true_and]
  · have e : i = j := by omega
    subst e
    have hp : posT l z = i := pos_of hjn hlo fun h => hhi i (Nat.le_refl _) h
    refine retN ?_
    unfold foundT
    rw [hp, decide_eq_false (show ¬ i < l.length by omega), Bool.false_and]
theorem findEntry_c (v : Value) (l : List MHelloEntry) (z : MHelloEntry) (hl : l.length ≤ 1048576) (hr : ∀ k, k < l.length → rngE (ix l k)) (ha : Asc l) (hz : rngE z) (w : World) (hm : Mem w v 4 l.length (l.flatMap clHelloEntry)) : Calls Try.prog 52 #[v, .agg #[.int .i64 z.1, .int .i64 z.2.1]] w (RetN (.tuple #[.int .i64 (posT l z : Int), .bool (foundT l z)]) w) := by
  refine enter (n := 11) (E := [(0, _), (1, _)]) Try.func52 rfl rfl rfl rfl ?_
  repeat' (first
    |(refine gS ?_;(first
        |(refine S_move rfl rfl ?_)
        |(refine S_assign rfl rfl ?_)
        |(refine gLoad ?_;(first
            |(apply F_loadAll rfl rfl;(focus ((repeat (first|exact mH|refine mT ?_));done));exact T.rw79;(focus (first|exact free0|exact free1)))
            |(apply F_loadP rfl rfl;(focus ((repeat (first|exact mH|refine mT ?_));done));exact T.rw79;(focus ((repeat (first|exact Take.nil|apply Take.here|apply Take.there));done));rfl;(focus (first|exact free0|exact free1)))))
        |(refine gCall ?_;(first
            |(show GoS _ _ _ _ _ _ _ (⟨_,_,_,.call ⟨.value (.func 64),_,_⟩,_⟩ :: _);refine S_callN (f := 64) rfl T.pf64 rfl (fun w hst => bsearch_c v l z hl hr ha hz w (by first|(refine Mem.given hst ?_;assumption)|(apply Mem.row hst;(focus ((repeat (first|exact mH|refine mT ?_));done))))) rfl ?_)))
        |(refine S_box rfl rfl rfl ?_;intro kb)
        |(refine S_extract rfl rfl rfl ?_)
        |(refine S_done ?_)
        |(refine S_box1 rfl rfl rfl rfl ?_;intro kb)))
    |(refine gC ?_;(first
        |(refine C_seq ?_)
        |(refine gReg ?_;(first
            |(refine gReg (i := 0) ?_;refine C_plain [(0,2),(1,0),(2,0)] (by kernel_rfl) (s := [⟨2,none,_,_,_⟩,⟨0,none,_,_,_⟩,⟨0,none,_,_,_⟩]) rfl ?_)
            |(refine gReg (i := 1) ?_;refine C_plain [(0,0),(1,0),(2,2),(3,0),(4,0),(5,0),(6,0)] (by kernel_rfl) (s := [⟨0,none,_,_,_⟩,⟨0,none,_,_,_⟩,⟨2,none,_,_,_⟩,⟨0,none,_,_,_⟩,⟨0,none,_,_,_⟩,⟨0,none,_,_,_⟩,⟨0,none,_,_,_⟩]) rfl ?_)))
        |(refine C_true rfl ?_)
        |(refine C_false rfl ?_)
        |(refine C_split rfl ?_ ?_ <;> (intro hb;(try simp only [decide_eq_true_eq] at hb);(try simp only [decide_eq_false_iff_not] at hb);(try simp only [Bool.not_eq_true'] at hb);(try simp only [Bool.not_eq_false'] at hb);(try (exfalso;first|contradiction|omega))))
        |(refine C_skip ?_)
        |(refine C_exit ?_)
        |(refine C_ret ?_)
        |(refine C_block ?_)))
    |(refine gE ?_;(first
        |(refine E_then ?_)
        |(refine E_thenX ?_)
        |(refine E_thenR ?_)
        |(refine E_block ?_)
        |(refine E_blockY ?_)
        |(refine E_blockR ?_)
        |(refine E_calm ?_)
        |(refine E_blockX rfl ?_)
        |(apply E_ret1 rfl;(first|exact Res.tmp rfl|(apply R_cellAll rfl;(focus ((repeat (first|exact mH|refine mT ?_));done));exact T.rw79)|(apply R_cell1 rfl;(focus ((repeat (first|exact mH|refine mT ?_));done));fail)))
        |(apply E_ret2 rfl;(first|exact Res.tmp rfl|(apply R_cellAll rfl;(focus ((repeat (first|exact mH|refine mT ?_));done));exact T.rw79)|(apply R_cell1 rfl;(focus ((repeat (first|exact mH|refine mT ?_));done));fail));(first|exact Res.tmp rfl|(apply R_cellAll rfl;(focus ((repeat (first|exact mH|refine mT ?_));done));exact T.rw79)|(apply R_cell1 rfl;(focus ((repeat (first|exact mH|refine mT ?_));done));fail)))
        | (apply E_ret3 rfl; (first | exact Res.tmp rfl | (apply R_cellAll rfl; (focus ((repeat (first | exact List.Mem.head _ | refine List.Mem.tail _ ?_)); done)); exact T.rw79) | (apply R_cell1 rfl; (focus ((repeat (first | exact List.Mem.head _ | refine List.Mem.tail _ ?_)); done)); fail)); (first | exact Res.tmp rfl | (apply R_cellAll rfl; (focus ((repeat (first | exact List.Mem.head _ | refine List.Mem.tail _ ?_)); done)); exact T.rw79) | (apply R_cell1 rfl; (focus ((repeat (first | exact List.Mem.head _ | refine List.Mem.tail _ ?_)); done)); fail)); (first | exact Res.tmp rfl | (apply R_cellAll rfl; (focus ((repeat (first | exact List.Mem.head _ | refine List.Mem.tail _ ?_)); done)); exact T.rw79) | (apply R_cell1 rfl; (focus ((repeat (first | exact List.Mem.head _ | refine List.Mem.tail _ ?_)); done)); fail))))))
  all_goals exact retN rfl
end Go.Proofs.Ytlkcgonbkdflpaa

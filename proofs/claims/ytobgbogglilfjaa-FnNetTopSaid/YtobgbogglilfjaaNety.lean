/- The fewest prefixes, address by address; the drawn lists for it. -/
import Derived.Test.YtobgbogglilfjaaNetx
set_option linter.unusedSimpArgs false
set_option linter.unusedVariables false
namespace Go.Proofs.Ytobgbogglilfjaa
open Go Go.RowKit
section
variable {l o w : List MNetPrefix} (h1 : setOk l = true) (h2 : setOk o = true) (hw : w = outN l o)
include h1 h2 hw
theorem top_mem {q : MNetPrefix} (hq : q ∈ w) : okQ q = true ∧ inQ q (0, 0) = true := by
  rw [hw, out_can h1 h2] at hq
  exact can_mem 16 (0, 0) zero_ok root_k q hq
theorem top_cov {x : Int} (h0 : 0 ≤ x) (h3 : x ≤ 65535) : anyIn (pt x) w = hasF l o x := by
  rw [hw, out_can h1 h2]
  exact can_cov 16 (0, 0) zero_ok root_k x (pin.2 ⟨by decide, h0, by show x < 0 + size 0; rw [size_zero]; omega⟩)
theorem top_asc {i j : Nat} (hij : i < j) (hj : j < w.length) : (ix w i).1 + size (ix w i).2 ≤ (ix w j).1 := by
  have h := can_asc (f := hasF l o) 16 (0, 0) zero_ok root_k
  rw [← out_can h1 h2, ← hw] at h
  have := List.pairwise_iff_getElem.1 h i j (by omega) hj hij
  rwa [ix, ix, getElem!_pos w i (by omega), getElem!_pos w j hj]
theorem top_ok {k : Nat} (hk : k < w.length) : okQ (ix w k) = true := (top_mem h1 h2 hw (ix_mem hk)).1
theorem top_one {i j : Nat} (hi : i < w.length) (hj : j < w.length) (h : inQ (ix w i) (ix w j) = true) : i = j := by
  have h3 := lo_in h
  have s1 := size_pos (ix w i).2
  rcases Nat.lt_trichotomy i j with hlt | he | hlt
  · have := top_asc h1 h2 hw hlt hj; omega
  · exact he
  · have := top_asc h1 h2 hw hlt hi; omega
/-- the first address behind the first k -/
def nextW (w : List MNetPrefix) (k : Nat) : Int := if k = 0 then 0 else (ix w (k - 1)).1 + size (ix w (k - 1)).2
omit h1 h2 hw in
theorem nextW_succ (w : List MNetPrefix) (k : Nat) : nextW w (k + 1) = (ix w k).1 + size (ix w k).2 := by simp [nextW]
theorem top_next {k : Nat} (hk : k < w.length) : nextW w k ≤ (ix w k).1 := by
  unfold nextW
  split
  · exact (okQ_t (top_ok h1 h2 hw hk)).2.2.1
  · exact top_asc h1 h2 hw (by omega) hk
theorem top_nn {k : Nat} (hk : k ≤ w.length) : 0 ≤ nextW w k ∧ nextW w k ≤ 65536 := by
  unfold nextW
  split
  · omega
  · have hm := top_mem h1 h2 hw (ix_mem (show k - 1 < w.length by omega))
    have he := inQ_end zero_ok hm.1 hm.2
    have hs := size_pos (ix w (k - 1)).2
    rw [show ((0, 0) : MNetPrefix).1 + size ((0, 0) : MNetPrefix).2 = 65536 from rfl] at he
    have e0 : ((0, 0) : MNetPrefix).1 = 0 := rfl
    rw [e0] at he
    omega
theorem top_in {k : Nat} (hk : k < w.length) {a : Int} (ha : (ix w k).1 ≤ a) (hb : a < (ix w k).1 + size (ix w k).2) : hasF l o a = true := by
  have hm := top_mem h1 h2 hw (ix_mem hk)
  have he := inQ_end zero_ok hm.1 hm.2
  rw [show ((0, 0) : MNetPrefix).1 + size ((0, 0) : MNetPrefix).2 = 65536 from rfl] at he
  have e0 : ((0, 0) : MNetPrefix).1 = 0 := rfl
  rw [e0] at he
  rw [← top_cov h1 h2 hw (by omega) (by omega)]
  exact List.any_eq_true.2 ⟨_, ix_mem hk, pin.2 ⟨(okQ_t hm.1).2.1, ha, hb⟩⟩
theorem top_gap {k : Nat} (hk : k ≤ w.length) {a : Int} (ha : nextW w k ≤ a) (hb : k < w.length → a < (ix w k).1) (h3 : a ≤ 65535) : hasF l o a = false := by
  have hn := top_nn h1 h2 hw hk
  rw [← top_cov h1 h2 hw (by omega) h3]
  unfold anyIn
  rw [List.any_eq_false]
  intro q hq hin
  obtain ⟨j, hj, rfl⟩ := List.mem_iff_getElem.1 hq
  have ej : w[j] = ix w j := by rw [ix, getElem!_pos w j hj]
  rw [ej] at hin
  obtain ⟨_, p2, p3⟩ := pin.1 hin
  rcases Nat.lt_or_ge j k with h | h
  · unfold nextW at ha
    rw [if_neg (by omega)] at ha
    rcases Nat.lt_or_ge j (k - 1) with h' | h'
    · have := top_asc h1 h2 hw h' (by omega)
      have := size_pos (ix w (k - 1)).2
      omega
    · have : j = k - 1 := by omega
      rw [this] at p3
      omega
  · have hk2 : k < w.length := by omega
    have := hb hk2
    rcases Nat.lt_or_ge k j with h' | h'
    · have := top_asc h1 h2 hw h' hj
      have := size_pos (ix w k).2
      omega
    · have : j = k := by omega
      rw [this] at p2
      omega
/-- no two are the halves of one -/
theorem top_sib {k : Nat} (hk : k < w.length) (h0 : 0 < k) (e1 : (ix w (k - 1)).2 = (ix w k).2) (e2 : (ix w (k - 1)).1 + size (ix w k).2 = (ix w k).1) (e3 : (ix w (k - 1)).1 % (2 * size (ix w k).2) = 0) : False := by
  have hk1 : k - 1 < w.length := by omega
  obtain ⟨a0, a1, a2, a3, a4⟩ := okQ_t (top_ok h1 h2 hw hk1)
  obtain ⟨b0, b1, b2, b3, b4⟩ := okQ_t (top_ok h1 h2 hw hk)
  have hn0 : (ix w k).2 ≠ 0 := fun e => by
    rw [e, size_zero] at e2
    omega
  have hst := size_step ((ix w k).2 - 1) (by omega)
  rw [show (ix w k).2 - 1 + 1 = (ix w k).2 by omega] at hst
  obtain ⟨r, hr⟩ : ∃ r : MNetPrefix, r = ((ix w (k - 1)).1, (ix w k).2 - 1) := ⟨_, rfl⟩
  have r1 : r.1 = (ix w (k - 1)).1 := by rw [hr]
  have r2 : r.2 = (ix w k).2 - 1 := by rw [hr]
  have hro : okQ r = true := by
    show (inB r.2 0 16 && inB r.1 0 65535 && decide (r.1 % size r.2 = 0)) = true
    rw [r1, r2, hst, e3]
    simp [inB]
    omega
  have hs := size_pos (ix w k).2
  have hrr : inQ r (0, 0) = true := in_of (by show (0 : Int) ≤ r.2; omega) (by show (0 : Int) ≤ r.1; omega) (by show r.1 < 0 + size 0; rw [size_zero]; omega)
  obtain ⟨q, hq, hrq⟩ := can_max (f := hasF l o) 16 (0, 0) zero_ok root_k r hro hrr fun x hx => by
    obtain ⟨_, p2, p3⟩ := pin.1 hx
    rw [r2, hst] at p3
    rw [r1] at p2 p3
    rcases Int.lt_or_le x (ix w k).1 with h | h
    · exact top_in h1 h2 hw hk1 p2 (by rw [e1]; omega)
    · exact top_in h1 h2 hw hk h (by omega)
  rw [← out_can h1 h2, ← hw] at hq
  obtain ⟨j, hj, ej⟩ := List.mem_iff_getElem.1 hq
  have ej2 : ix w j = q := by rw [ix, getElem!_pos w j hj, ej]
  rw [← ej2] at hrq
  have hin : inQ (ix w (k - 1)) r = true := in_of (by omega) (by omega) (by rw [r2, hst]; omega)
  have hjj := top_one h1 h2 hw hk1 hj (inQ_trans (top_ok h1 h2 hw hk1) hro (top_ok h1 h2 hw hj) hin hrq)
  rw [← hjj] at hrq
  have := (lo_in hrq).1
  omega
end
attribute [local irreducible] Calls GoS GoC GoE GoT Mid IsEq IsFl IsSc IsRw IsSl IsEl IsSt IsFs sp Mem Rd LenOf szR
theorem wnHas_c (x : MSNetPrefix) (a : Int) (hl : allOk x.2) (w : World) (hx : Rds w (rwSNetPrefix x)) : Calls Try.prog 42 #[x.1, .int .i64 a] w (RetN (.bool (anyIn (pt a) x.2)) w) := by
  obtain ⟨v, l⟩ := x
  have hm := Rds.head hx
  have hlen := hm.len
  simp only [maxLen] at hlen
  dsimp only at *
  refine enter (n := 18) (E := [(0, _), (1, _)]) Try.func42 rfl rfl rfl rfl ?_
  repeat' (first
    | (refine gS ?_; (first
        | (refine S_move rfl rfl ?_)
        | (refine S_assign rfl rfl ?_)
        | (apply F_idx rfl rfl rfl; exact T.sl37; (focus rfl); (focus (first | exact len_nil | (apply len_given; assumption) | (apply len_row; (focus ((repeat (first | exact List.Mem.head _ | refine List.Mem.tail _ ?_)); done))) | (refine len_isN ?_; assumption))); (focus omega))
        | (apply F_idxZ rfl rfl rfl; exact T.sl37; (focus omega); (focus (first | exact len_nil | (apply len_given; assumption) | (apply len_row; (focus ((repeat (first | exact List.Mem.head _ | refine List.Mem.tail _ ?_)); done))) | (refine len_isN ?_; assumption))); (focus omega))
        | (refine gLoad ?_; (first
            | (apply F_loadAll rfl rfl; (focus ((repeat (first | exact List.Mem.head _ | refine List.Mem.tail _ ?_)); done)); exact T.rw25; (focus (first | exact free0 | exact free1)))
            | (apply F_loadP rfl rfl; (focus ((repeat (first | exact List.Mem.head _ | refine List.Mem.tail _ ?_)); done)); exact T.rw25; (focus ((repeat (first | exact Take.nil | apply Take.here | apply Take.there)); done)); rfl; (focus (first | exact free0 | exact free1)))
            | (apply F_loadSN rfl rfl; exact T.rw25; (focus (first | exact rd_nil | (apply rd_given; (focus assumption); (focus (first | exact freeG0 | exact freeG1))) | (apply rd_row; (focus ((repeat (first | exact List.Mem.head _ | refine List.Mem.tail _ ?_)); done)); (focus (first | exact freeR0 | exact freeR1))))); (focus (first | (focus (apply at_flat; (focus (intro _; rfl)); (focus assumption))) | exact at_self)); rfl; rfl)
            | (apply F_loadSP rfl rfl; exact T.rw25; (focus (first | exact rd_nil | (apply rd_given; (focus assumption); (focus (first | exact freeG0 | exact freeG1))) | (apply rd_row; (focus ((repeat (first | exact List.Mem.head _ | refine List.Mem.tail _ ?_)); done)); (focus (first | exact freeR0 | exact freeR1))))); (focus (apply at_flat; (focus (intro _; rfl)); (focus assumption))); (focus ((repeat (first | exact Take.nil | apply Take.here | apply Take.there)); done)); rfl; rfl)))
        | (refine gCall ?_; (first
            | (apply F_len rfl rfl rfl; (focus exact ⟨_, _, by exact T.sl37⟩); (focus (first | exact len_nil | (apply len_given; assumption) | (apply len_row; (focus ((repeat (first | exact List.Mem.head _ | refine List.Mem.tail _ ?_)); done))) | (refine len_isN ?_; assumption))))))
        | (refine gBin ?_; (first
            | (refine S_lss rfl rfl rfl ?_)
            | (refine S_add rfl rfl ?_ rfl ?_; (focus (unfold rng; omega)))))
        | (refine S_done ?_)))
    | (refine gC ?_; (first
        | (refine C_seq ?_)
        | (refine gReg ?_; (first
            | (refine gReg (i := 0) ?_; refine C_plain [(0, 0)] (by kernel_rfl) (s := [⟨0, none, _, _, _⟩]) rfl ?_)
            | (refine gReg (i := 1) ?_; refine C_plain [(0, 0)] (by kernel_rfl) (s := [⟨0, none, _, _, _⟩]) rfl ?_)
            | (refine gReg (i := 2) ?_; refine C_plain [(0, 0), (1, 0), (2, 0), (3, 0)] (by kernel_rfl) (s := [⟨0, none, _, _, _⟩, ⟨0, none, _, _, _⟩, ⟨0, none, _, _, _⟩, ⟨0, none, _, _, _⟩]) rfl ?_)
            | (refine gReg (i := 4) ?_; refine C_plain [(0, 0), (1, 0), (2, 0), (3, 0), (4, 0), (5, 2)] (by kernel_rfl) (s := [⟨0, none, _, _, _⟩, ⟨0, none, _, _, _⟩, ⟨0, none, _, _, _⟩, ⟨0, none, _, _, _⟩, ⟨0, none, _, _, _⟩, ⟨2, none, _, _, _⟩]) rfl ?_)
            | (refine gReg (i := 5) ?_; refine C_plain [(0, 0)] (by kernel_rfl) (s := [⟨0, none, _, _, _⟩]) rfl ?_)
            | (refine gReg (i := 3) ?_; refine C_plain [(0, 0), (1, 0), (2, 0)] (by kernel_rfl) (s := [⟨0, none, _, _, _⟩, ⟨0, none, _, _, _⟩, ⟨0, none, _, _, _⟩]) rfl ?_)
            | (refine gReg (i := 6) ?_; refine C_plain [(0, 0)] (by kernel_rfl) (s := [⟨0, none, _, _, _⟩]) rfl ?_)))
        | (refine C_true rfl ?_)
        | (refine C_false rfl ?_)
        | (refine C_split rfl ?_ ?_ <;> (intro hb; (try simp only [decide_eq_true_eq] at hb); (try simp only [decide_eq_false_iff_not] at hb); (try simp only [Bool.not_eq_true'] at hb); (try simp only [Bool.not_eq_false'] at hb); (try (exfalso; first | contradiction | omega))))
        | (refine C_skip ?_)
        | (refine C_exit ?_)
        | (refine C_ret ?_)
        | (refine C_block ?_)))
    | (refine gE ?_; (first
        | (refine E_then ?_)
        | (refine E_thenX ?_)
        | (refine E_thenR ?_)
        | (refine E_block ?_)
        | (refine E_blockY ?_)
        | (refine E_blockR ?_)
        | (refine E_calm ?_)
        | (refine E_blockX rfl ?_)
        | (apply E_ret1 rfl; (first | exact Res.tmp rfl | (apply R_cellAll rfl; (focus ((repeat (first | exact List.Mem.head _ | refine List.Mem.tail _ ?_)); done)); exact T.rw25) | (apply R_cell1 rfl; (focus ((repeat (first | exact List.Mem.head _ | refine List.Mem.tail _ ?_)); done)); fail)))
        | (apply E_ret2 rfl; (first | exact Res.tmp rfl | (apply R_cellAll rfl; (focus ((repeat (first | exact List.Mem.head _ | refine List.Mem.tail _ ?_)); done)); exact T.rw25) | (apply R_cell1 rfl; (focus ((repeat (first | exact List.Mem.head _ | refine List.Mem.tail _ ?_)); done)); fail)); (first | exact Res.tmp rfl | (apply R_cellAll rfl; (focus ((repeat (first | exact List.Mem.head _ | refine List.Mem.tail _ ?_)); done)); exact T.rw25) | (apply R_cell1 rfl; (focus ((repeat (first | exact List.Mem.head _ | refine List.Mem.tail _ ?_)); done)); fail)))
        | (apply E_ret3 rfl; (first | exact Res.tmp rfl | (apply R_cellAll rfl; (focus ((repeat (first | exact List.Mem.head _ | refine List.Mem.tail _ ?_)); done)); exact T.rw25) | (apply R_cell1 rfl; (focus ((repeat (first | exact List.Mem.head _ | refine List.Mem.tail _ ?_)); done)); fail)); (first | exact Res.tmp rfl | (apply R_cellAll rfl; (focus ((repeat (first | exact List.Mem.head _ | refine List.Mem.tail _ ?_)); done)); exact T.rw25) | (apply R_cell1 rfl; (focus ((repeat (first | exact List.Mem.head _ | refine List.Mem.tail _ ?_)); done)); fail)); (first | exact Res.tmp rfl | (apply R_cellAll rfl; (focus ((repeat (first | exact List.Mem.head _ | refine List.Mem.tail _ ?_)); done)); exact T.rw25) | (apply R_cell1 rfl; (focus ((repeat (first | exact List.Mem.head _ | refine List.Mem.tail _ ?_)); done)); fail))))))
  refine C_loop (α := Nat) (fun k => [(5, .int .i64 (k : Int)), (0, v), (1, .int .i64 a)]) (fun _ => []) (fun k => k ≤ l.length ∧ (l.take k).any (fun q => inQ (pt a) q) = false) (fun k => l.length - k) 0 ⟨by omega, rfl⟩ ⟨rfl, rfl, rfl, trivial⟩ (List.Sublist.refl _) ?_
  rintro k ⟨hk, ha⟩
  have hany : (k : Int) < (l.length : Int) → _ := fun h => any_take (f := fun q => inQ (pt a) q) (nthD (l := l) h)
  have hok : (k : Int) < (l.length : Int) → okQ (ix l k) = true := fun h => hl _ (List.mem_of_getElem? (nthD h))
  obtain ⟨c, hc⟩ : ∃ c, (okP (ix l k).1 (ix l k).2 && hasP (ix l k).1 (ix l k).2 a) = c := ⟨_, rfl⟩
  have hc2 : (k : Int) < (l.length : Int) → inQ (pt a) (ix l k) = c := fun h => by
    have h3 := okQ_t (hok h)
    have h4 : okP (ix l k).1 (ix l k).2 = true := hok h
    rw [← hc, h4]
    show (decide ((ix l k).2 ≤ 16) && hasP (ix l k).1 (ix l k).2 a) = _
    rw [decide_eq_true h3.2.1]
  try dsimp only
  repeat' (first
    | (refine gS ?_; (first
        | (refine S_move rfl rfl ?_)
        | (refine S_assign rfl rfl ?_)
        | (apply F_idx rfl rfl rfl; exact T.sl37; (focus rfl); (focus (first | exact len_nil | (apply len_given; assumption) | (apply len_row; (focus ((repeat (first | exact List.Mem.head _ | refine List.Mem.tail _ ?_)); done))) | (refine len_isN ?_; assumption))); (focus omega))
        | (apply F_idxZ rfl rfl rfl; exact T.sl37; (focus omega); (focus (first | exact len_nil | (apply len_given; assumption) | (apply len_row; (focus ((repeat (first | exact List.Mem.head _ | refine List.Mem.tail _ ?_)); done))) | (refine len_isN ?_; assumption))); (focus omega))
        | (refine gLoad ?_; (first
            | (apply F_loadAll rfl rfl; (focus ((repeat (first | exact List.Mem.head _ | refine List.Mem.tail _ ?_)); done)); exact T.rw25; (focus (first | exact free0 | exact free1)))
            | (apply F_loadP rfl rfl; (focus ((repeat (first | exact List.Mem.head _ | refine List.Mem.tail _ ?_)); done)); exact T.rw25; (focus ((repeat (first | exact Take.nil | apply Take.here | apply Take.there)); done)); rfl; (focus (first | exact free0 | exact free1)))
            | (apply F_loadSN rfl rfl; exact T.rw25; (focus (first | exact rd_nil | (apply rd_given; (focus assumption); (focus (first | exact freeG0 | exact freeG1))) | (apply rd_row; (focus ((repeat (first | exact List.Mem.head _ | refine List.Mem.tail _ ?_)); done)); (focus (first | exact freeR0 | exact freeR1))))); (focus (first | (focus (apply at_flat; (focus (intro _; rfl)); (focus assumption))) | exact at_self)); rfl; rfl)
            | (apply F_loadSP rfl rfl; exact T.rw25; (focus (first | exact rd_nil | (apply rd_given; (focus assumption); (focus (first | exact freeG0 | exact freeG1))) | (apply rd_row; (focus ((repeat (first | exact List.Mem.head _ | refine List.Mem.tail _ ?_)); done)); (focus (first | exact freeR0 | exact freeR1))))); (focus (apply at_flat; (focus (intro _; rfl)); (focus assumption))); (focus ((repeat (first | exact Take.nil | apply Take.here | apply Take.there)); done)); rfl; rfl)))
        | (refine gCall ?_; (first
            | (refine S_callN (f := 17) rfl T.pf17 rfl (fun w hst => (hc ▸ specNetHas_c (ix l k).1 (ix l k).2 a w)) rfl ?_)
            | (apply F_len rfl rfl rfl; (focus exact ⟨_, _, by exact T.sl37⟩); (focus (first | exact len_nil | (apply len_given; assumption) | (apply len_row; (focus ((repeat (first | exact List.Mem.head _ | refine List.Mem.tail _ ?_)); done))) | (refine len_isN ?_; assumption))))))
        | (refine gBin ?_; (first
            | (refine S_lss rfl rfl rfl ?_)
            | (refine S_add rfl rfl ?_ rfl ?_; (focus (unfold rng; omega)))))
        | (refine S_done ?_)))
    | (refine gC ?_; (first
        | (refine C_seq ?_)
        | (refine gReg ?_; (first
            | (refine gReg (i := 0) ?_; refine C_plain [(0, 0)] (by kernel_rfl) (s := [⟨0, none, _, _, _⟩]) rfl ?_)
            | (refine gReg (i := 1) ?_; refine C_plain [(0, 0)] (by kernel_rfl) (s := [⟨0, none, _, _, _⟩]) rfl ?_)
            | (refine gReg (i := 2) ?_; refine C_plain [(0, 0), (1, 0), (2, 0), (3, 0)] (by kernel_rfl) (s := [⟨0, none, _, _, _⟩, ⟨0, none, _, _, _⟩, ⟨0, none, _, _, _⟩, ⟨0, none, _, _, _⟩]) rfl ?_)
            | (refine gReg (i := 4) ?_; refine C_plain [(0, 0), (1, 0), (2, 0), (3, 0), (4, 0), (5, 2)] (by kernel_rfl) (s := [⟨0, none, _, _, _⟩, ⟨0, none, _, _, _⟩, ⟨0, none, _, _, _⟩, ⟨0, none, _, _, _⟩, ⟨0, none, _, _, _⟩, ⟨2, none, _, _, _⟩]) rfl ?_)
            | (refine gReg (i := 5) ?_; refine C_plain [(0, 0)] (by kernel_rfl) (s := [⟨0, none, _, _, _⟩]) rfl ?_)
            | (refine gReg (i := 3) ?_; refine C_plain [(0, 0), (1, 0), (2, 0)] (by kernel_rfl) (s := [⟨0, none, _, _, _⟩, ⟨0, none, _, _, _⟩, ⟨0, none, _, _, _⟩]) rfl ?_)
            | (refine gReg (i := 6) ?_; refine C_plain [(0, 0)] (by kernel_rfl) (s := [⟨0, none, _, _, _⟩]) rfl ?_)))
        | (refine C_true rfl ?_)
        | (refine C_false rfl ?_)
        | (refine C_split rfl ?_ ?_ <;> (intro hb; (try simp only [decide_eq_true_eq] at hb); (try simp only [decide_eq_false_iff_not] at hb); (try simp only [Bool.not_eq_true'] at hb); (try simp only [Bool.not_eq_false'] at hb); (try (exfalso; first | contradiction | omega)); (try (have hx := nthD (l := l) (k := k) hb)); (try (have hany1 := hany hb)); (try (have hc3 := hc2 hb))))
        | (refine C_skip ?_)
        | (refine C_exit ?_)
        | (refine C_ret ?_)
        | (refine C_block ?_)))
    | (refine gE ?_; (first
        | (refine E_then ?_)
        | (refine E_thenX ?_)
        | (refine E_thenR ?_)
        | (refine E_block ?_)
        | (refine E_blockY ?_)
        | (refine E_blockR ?_)
        | (refine E_calm ?_)
        | (refine E_blockX rfl ?_)
        | (apply E_ret1 rfl; (first | exact Res.tmp rfl | (apply R_cellAll rfl; (focus ((repeat (first | exact List.Mem.head _ | refine List.Mem.tail _ ?_)); done)); exact T.rw25) | (apply R_cell1 rfl; (focus ((repeat (first | exact List.Mem.head _ | refine List.Mem.tail _ ?_)); done)); fail)))
        | (apply E_ret2 rfl; (first | exact Res.tmp rfl | (apply R_cellAll rfl; (focus ((repeat (first | exact List.Mem.head _ | refine List.Mem.tail _ ?_)); done)); exact T.rw25) | (apply R_cell1 rfl; (focus ((repeat (first | exact List.Mem.head _ | refine List.Mem.tail _ ?_)); done)); fail)); (first | exact Res.tmp rfl | (apply R_cellAll rfl; (focus ((repeat (first | exact List.Mem.head _ | refine List.Mem.tail _ ?_)); done)); exact T.rw25) | (apply R_cell1 rfl; (focus ((repeat (first | exact List.Mem.head _ | refine List.Mem.tail _ ?_)); done)); fail)))
        | (apply E_ret3 rfl; (first | exact Res.tmp rfl | (apply R_cellAll rfl; (focus ((repeat (first | exact List.Mem.head _ | refine List.Mem.tail _ ?_)); done)); exact T.rw25) | (apply R_cell1 rfl; (focus ((repeat (first | exact List.Mem.head _ | refine List.Mem.tail _ ?_)); done)); fail)); (first | exact Res.tmp rfl | (apply R_cellAll rfl; (focus ((repeat (first | exact List.Mem.head _ | refine List.Mem.tail _ ?_)); done)); exact T.rw25) | (apply R_cell1 rfl; (focus ((repeat (first | exact List.Mem.head _ | refine List.Mem.tail _ ?_)); done)); fail)); (first | exact Res.tmp rfl | (apply R_cellAll rfl; (focus ((repeat (first | exact List.Mem.head _ | refine List.Mem.tail _ ?_)); done)); exact T.rw25) | (apply R_cell1 rfl; (focus ((repeat (first | exact List.Mem.head _ | refine List.Mem.tail _ ?_)); done)); fail))))))
  all_goals first
    | (refine E_round (α := Nat) (k + 1) ?_ ?_ ⟨rfl, rfl, rfl, trivial⟩ (List.nil_sublist _)
       · refine ⟨by omega, ?_⟩
         have hcf : c = false := by assumption
         rw [hany1, ha, hc3, hcf]; rfl
       · omega)
    | (refine retN ?_
       have hct : c = true := by assumption
       have : anyIn (pt a) l = true := List.any_eq_true.2 ⟨_, List.mem_of_getElem? hx, hc3.trans hct⟩
       rw [this]
       done)
    | (refine retN ?_
       have e : k = l.length := by omega
       subst e
       rw [List.take_length] at ha
       have : anyIn (pt a) l = false := ha
       rw [this])
attribute [local irreducible] size okP
set_option maxHeartbeats 1000000 in
theorem drawNetWithout_c (v : Value) (l : List Int) (w : World) (hm : Mem w v 1 l.length (l.flatMap fun y : Int => ([.int .u8 y] : List Value))) (hby : ∀ y ∈ l, 0 ≤ y ∧ y ≤ 255) : Calls Try.prog 41 #[v] w
    (RetX (fun y : MSNetPrefix × MSNetPrefix => y.1.2.length ≤ 41 ∧ y.2.2.length ≤ 41) (fun y => .tuple #[y.1.1, y.2.1]) (fun y => [.many (rwSNetPrefix y.1), .many (rwSNetPrefix y.2)]) w) := by
  refine enter (n := 54) (E := [(0, _)]) Try.func41 rfl rfl rfl rfl ?_
  repeat' (first
    | (refine gS ?_; (first
        | (refine gGuard ?_; (first
            | (refine S_on rfl ?_)
            | (refine S_off rfl rfl rfl ?_)
            | (refine S_offn rfl rfl ?_)
            | (refine S_offU rfl rfl ?_)
            | (refine S_offUn rfl ?_)
            | (refine S_gsplit rfl ?_ ?_ <;> (intro hb; (try simp only [decide_eq_true_eq] at hb); (try simp only [decide_eq_false_iff_not] at hb); (try simp only [Bool.not_eq_true'] at hb); (try simp only [Bool.not_eq_false'] at hb); (try (exfalso; first | contradiction | omega))))))
        | (refine S_move rfl rfl ?_)
        | (refine S_assign rfl rfl ?_)
        | (apply F_field rfl rfl; exact T.fl25_1)
        | (apply F_fieldS rfl rfl; exact T.fl25_1; (focus (first | exact len_nil | (apply len_given; assumption) | (apply len_row; (focus ((repeat (first | exact List.Mem.head _ | refine List.Mem.tail _ ?_)); done))) | (refine len_isN ?_; assumption))); (focus omega))
        | (apply F_idx rfl rfl rfl; exact T.sl37; (focus rfl); (focus (first | exact len_nil | (apply len_given; assumption) | (apply len_row; (focus ((repeat (first | exact List.Mem.head _ | refine List.Mem.tail _ ?_)); done))) | (refine len_isN ?_; assumption))); (focus omega))
        | (apply F_idxZ rfl rfl rfl; exact T.sl37; (focus omega); (focus (first | exact len_nil | (apply len_given; assumption) | (apply len_row; (focus ((repeat (first | exact List.Mem.head _ | refine List.Mem.tail _ ?_)); done))) | (refine len_isN ?_; assumption))); (focus omega))
        | (apply F_bs0 rfl rfl; exact T.el37; rfl; intro sv; (try (refine S_fact (row_one (v := sv) (by (focus ((repeat (first | exact List.Mem.head _ | refine List.Mem.tail _ ?_)); done)))) (fun hone => ?_))))
        | (apply F_bs rfl rfl; exact T.el37; rfl; rfl; rfl; rfl; (focus ((repeat (first | exact Dense.nil | (apply Dense.cons; rfl; rfl))); done)); intro sv; (try (refine S_fact (row_one (v := sv) (by (focus ((repeat (first | exact List.Mem.head _ | refine List.Mem.tail _ ?_)); done)))) (fun hone => ?_))))
        | (refine gLoad ?_; (first
            | (apply F_load1 rfl rfl; (focus ((repeat (first | exact List.Mem.head _ | refine List.Mem.tail _ ?_)); done)); exact T.sc3; rfl; (focus (first | exact free0 | exact free1)))
            | (apply F_loadAll rfl rfl; (focus ((repeat (first | exact List.Mem.head _ | refine List.Mem.tail _ ?_)); done)); exact T.rw25; (focus (first | exact free0 | exact free1)))
            | (apply F_loadP rfl rfl; (focus ((repeat (first | exact List.Mem.head _ | refine List.Mem.tail _ ?_)); done)); exact T.rw25; (focus ((repeat (first | exact Take.nil | apply Take.here | apply Take.there)); done)); rfl; (focus (first | exact free0 | exact free1)))
            | (apply F_loadS1 rfl rfl; exact T.sc3; (focus (first | exact rd_nil | (apply rd_given; (focus assumption); (focus (first | exact freeG0 | exact freeG1))) | (apply rd_row; (focus ((repeat (first | exact List.Mem.head _ | refine List.Mem.tail _ ?_)); done)); (focus (first | exact freeR0 | exact freeR1))))); (focus (first | (apply at_cell; (focus (apply at_flat; (focus (intro _; rfl)); (focus assumption))); rfl) | (apply at_cell0; (focus (apply at_flat; (focus (intro _; rfl)); (focus assumption))); rfl) | (apply at_cell; (focus (apply at_mid0; (focus assumption))); rfl) | (apply at_cell0; (focus (apply at_mid0; (focus assumption))); rfl) | rfl)))
            | (apply F_loadSN rfl rfl; exact T.rw25; (focus (first | exact rd_nil | (apply rd_given; (focus assumption); (focus (first | exact freeG0 | exact freeG1))) | (apply rd_row; (focus ((repeat (first | exact List.Mem.head _ | refine List.Mem.tail _ ?_)); done)); (focus (first | exact freeR0 | exact freeR1))))); (focus (first | (focus (apply at_flat; (focus (intro _; rfl)); (focus assumption))) | exact at_self)); rfl; rfl)
            | (apply F_loadSP rfl rfl; exact T.rw25; (focus (first | exact rd_nil | (apply rd_given; (focus assumption); (focus (first | exact freeG0 | exact freeG1))) | (apply rd_row; (focus ((repeat (first | exact List.Mem.head _ | refine List.Mem.tail _ ?_)); done)); (focus (first | exact freeR0 | exact freeR1))))); (focus (apply at_flat; (focus (intro _; rfl)); (focus assumption))); (focus ((repeat (first | exact Take.nil | apply Take.here | apply Take.there)); done)); rfl; rfl)
            | (apply F_loadI rfl rfl; exact T.sc3; (focus (first | exact rd_nil | (apply rd_given; (focus assumption); (focus (first | exact freeG0 | exact freeG1))) | (apply rd_row; (focus ((repeat (first | exact List.Mem.head _ | refine List.Mem.tail _ ?_)); done)); (focus (first | exact freeR0 | exact freeR1))))); (focus ((repeat (first | exact LitI.nil | apply LitI.cons | apply LitI.app)); done)); (focus (simp only [List.length_cons, List.length_nil]; omega)); intro zi hzi; (simp only [List.mem_cons, List.not_mem_nil, or_false] at hzi); (first | (replace hzi : 0 ≤ zi ∧ zi ≤ 16 := by omega) | (replace hzi : 0 ≤ zi ∧ zi ≤ 128 := by omega) | (replace hzi : 0 ≤ zi ∧ zi ≤ 200 := by omega) | (replace hzi : 0 ≤ zi ∧ zi ≤ 65535 := by omega) | (replace hzi : 0 ≤ zi ∧ zi ≤ 70000 := by omega) | (replace hzi : -70000 ≤ zi ∧ zi ≤ 70000 := by omega) | (replace hzi : -70000 ≤ zi ∧ zi ≤ 2199023255552 := by omega) | (replace hzi : -70000 ≤ zi ∧ zi ≤ 4611686018427387904 := by omega) | (replace hzi : -9223372036854775808 ≤ zi ∧ zi ≤ 9223372036854775807 := by omega)))
            | (apply F_loadST rfl rfl; exact T.rw25; (focus (first | exact rd_nil | (apply rd_given; (focus assumption); (focus (first | exact freeG0 | exact freeG1))) | (apply rd_row; (focus ((repeat (first | exact List.Mem.head _ | refine List.Mem.tail _ ?_)); done)); (focus (first | exact freeR0 | exact freeR1))))); (focus ((repeat (first | exact Take.nil | apply Take.here | apply Take.there)); done)); rfl; rfl)))
        | (refine gStore ?_; (first
            | (apply F_store1 rfl rfl; (focus (first | rfl | assumption)); exact T.sc3; (focus ((repeat (first | exact Upd.here | apply Upd.there)); done)); (focus ((repeat (first | exact SetSeg.nil | apply SetSeg.here | apply SetSeg.there)); done)); (first | exact okst2 | exact okst1 | exact okst1'))
            | (apply F_storeN rfl rfl; (focus (first | rfl | assumption | (simp only [List.append_nil, List.all_cons, List.all_nil, Bool.and_true, Bool.true_and, one_int, one_bool, one_string, one_slice, one_pointer, *]; done))); exact T.rw25; (focus ((repeat (first | exact Upd.here | apply Upd.there)); done)); (focus ((repeat (first | exact SetSeg.nil | apply SetSeg.here | apply SetSeg.there)); done)); (first | exact okst2 | exact okst1 | exact okst1'))
            | (apply F_storeM0 rfl rfl; (focus ((repeat (first | exact Upd.here | apply Upd.there)); done)); (focus assumption); exact T.sc3; (focus (first | rfl | assumption)); (focus ((repeat (first | exact SetSeg.nil | apply SetSeg.here | apply SetSeg.there)); done)); (focus omega); (first | exact okst2 | exact okst1 | exact okst1'))
            | (apply F_storeM1 rfl rfl; (focus ((repeat (first | exact Upd.here | apply Upd.there)); done)); (focus assumption); exact T.sc3; (focus (first | rfl | assumption)); (focus ((repeat (first | exact SetSeg.nil | apply SetSeg.here | apply SetSeg.there)); done)); (focus omega); (first | exact okst2 | exact okst1 | exact okst1'))
            | (apply F_storeS1 rfl rfl; (focus ((repeat (first | exact Upd.here | apply Upd.there)); done)); exact T.sc3; (focus (first | rfl | assumption)); (focus omega); (first | exact okst2 | exact okst1 | exact okst1'))
            | (apply F_storeSN rfl rfl; (focus ((repeat (first | exact Upd.here | apply Upd.there)); done)); exact T.rw25; rfl; (focus (first | rfl | assumption | (simp only [List.append_nil, List.all_cons, List.all_nil, Bool.and_true, Bool.true_and, one_int, one_bool, one_string, one_slice, one_pointer, *]; done))); rfl; (focus omega); (first | exact okst2 | exact okst1 | exact okst1'))))
        | (refine gCall ?_; (first
            | (refine S_callX (f := 53) rfl T.pf53 rfl (fun w hst => open_c v l hm hby w hst.ext) rfl (fun zz hzz => ?_); simp only [List.cons_append, List.nil_append]; revert hzz; revert zz; intro rd hcr)
            | (apply S_callB (f := 57) (b := rd.1) (hp := T.pf57) (hv := rfl) (hd := rfl); (case hpick => ((repeat (first | exact Pick.here | exact Pick.last | apply Pick.there | apply Pick.over)); done)); (case hc => exact l5List_c rd.1 rd.2.1 rd.2.2 _ 8 (by omega) hcr (by omega)); (case hnb => (intro _ _; exact ⟨_, List.Mem.head _, rfl⟩)); (case hk => (first | exact okst2 | exact okst1 | exact okst1')); intro zz hzz; simp only [List.cons_append, List.nil_append]; revert hzz; revert zz; rintro ⟨⟨sa, da⟩, q2⟩ ⟨hc1, hc2, hc3, hc4⟩; dsimp only at hc1 hc2 hc3 hc4 ⊢)
            | (apply S_callB (f := 57) (b := rd.1) (hp := T.pf57) (hv := rfl) (hd := rfl); (case hpick => ((repeat (first | exact Pick.here | exact Pick.last | apply Pick.there | apply Pick.over)); done)); (case hc => exact l5List_c rd.1 rd.2.1 rd.2.2 _ 6 (by omega) hcr (by omega)); (case hnb => (intro _ _; exact ⟨_, List.Mem.head _, rfl⟩)); (case hk => (first | exact okst2 | exact okst1 | exact okst1')); intro zz hzz; simp only [List.cons_append, List.nil_append]; revert hzz; revert zz; rintro ⟨⟨sb, db⟩, q3⟩ ⟨hd1, hd2, hd3, hd4⟩; dsimp only at hd1 hd2 hd3 hd4 ⊢)
            | (apply F_len rfl rfl rfl; (focus exact ⟨_, _, by exact T.sl37⟩); (focus (first | exact len_nil | (apply len_given; assumption) | (apply len_row; (focus ((repeat (first | exact List.Mem.head _ | refine List.Mem.tail _ ?_)); done))) | (refine len_isN ?_; assumption))))
            | (apply F_append rfl rfl rfl rfl; exact T.el37; (focus (intro sv; (focus ((repeat (first | exact Upd.here | apply Upd.there)); done)))); (focus (first | exact rd_nil | (apply rd_given; (focus assumption); (focus (first | exact freeG0 | exact freeG1))) | (apply rd_row; (focus ((repeat (first | exact List.Mem.head _ | refine List.Mem.tail _ ?_)); done)); (focus (first | exact freeR0 | exact freeR1))))); (focus (first | rfl | assumption | (apply all_flat; intro _ _; rfl) | (rw [List.append_nil]; assumption) | (simp only [List.append_nil, List.all_cons, List.all_nil, Bool.and_true, Bool.true_and, one_int, one_bool, one_string, one_slice, one_pointer, *]; done) | simp)); (first | exact okst2 | exact okst1 | exact okst1'); (focus (simp only [maxLen]; first | omega | (simp only [List.length_take, List.length_drop]; omega))); (focus (first | omega | (simp only [List.length_take, List.length_drop]; omega))); intro sv; (try (refine S_fact (row_one (v := sv) (by (focus ((repeat (first | exact List.Mem.head _ | refine List.Mem.tail _ ?_)); done)))) (fun hone => ?_))))))
        | (refine gBin ?_; (first
            | (refine S_lss rfl rfl rfl ?_)
            | (refine S_eql rfl rfl rfl ?_)
            | (refine S_add rfl rfl ?_ rfl ?_; (focus (unfold rng; omega)))
            | (refine S_eqlB Try.underlying4 rfl rfl rfl ?_)))
        | (refine gPick ?_; (first
            | (refine S_pickT rfl rfl rfl ?_)
            | (refine S_pickF rfl rfl rfl ?_)))
        | (apply S_alloc rfl (hd := rfl); exact T.zc25; intro kb)
        | (apply F_build2 rfl (hd := rfl); exact T.st25; (focus ((repeat (first | exact BuildR.nil | (apply BuildR.cons; (first | exact T.fs25_0 | exact T.fs25_1); rfl; rfl; (focus ((repeat (first | exact SetSeg.nil | apply SetSeg.here | apply SetSeg.there)); done))) | (apply BuildR.cons1; (first | exact T.fs25_0 | exact T.fs25_1); (focus assumption); (focus ((repeat (first | exact SetSeg.nil | apply SetSeg.here | apply SetSeg.there)); done))))); done)))
        | (refine S_extract rfl rfl rfl ?_)
        | (refine S_done ?_)))
    | (refine gC ?_; (first
        | (refine C_seq ?_)
        | (refine gReg ?_; (first
            | (refine gReg (i := 0) ?_; refine C_plain [(0, 0), (1, 0)] (by kernel_rfl) (s := [⟨0, none, _, _, _⟩, ⟨0, none, _, _, _⟩]) rfl ?_)
            | (refine gReg (i := 1) ?_; refine C_plain [(0, 0), (1, 2), (2, 0)] (by kernel_rfl) (s := [⟨0, none, _, _, _⟩, ⟨2, none, _, _, _⟩, ⟨0, none, _, _, _⟩]) rfl ?_)
            | (refine gReg (i := 2) ?_; refine C_plain [(0, 0), (1, 2), (2, 0)] (by kernel_rfl) (s := [⟨0, none, _, _, _⟩, ⟨2, none, _, _, _⟩, ⟨0, none, _, _, _⟩]) rfl ?_)
            | (refine gReg (i := 3) ?_; refine C_plain [(0, 0), (1, 2), (2, 0)] (by kernel_rfl) (s := [⟨0, none, _, _, _⟩, ⟨2, none, _, _, _⟩, ⟨0, none, _, _, _⟩]) rfl ?_)
            | (refine gReg (i := 4) ?_; refine C_plain [(0, 0)] (by kernel_rfl) (s := [⟨0, none, _, _, _⟩]) rfl ?_)
            | (refine gReg (i := 5) ?_; refine C_plain [(0, 0), (1, 0), (2, 0), (3, 0), (4, 0), (5, 0), (6, 2), (7, 0), (8, 0)] (by kernel_rfl) (s := [⟨0, none, _, _, _⟩, ⟨0, none, _, _, _⟩, ⟨0, none, _, _, _⟩, ⟨0, none, _, _, _⟩, ⟨0, none, _, _, _⟩, ⟨0, some (20, true), _, _, _⟩, ⟨2, some (20, true), _, _, _⟩, ⟨0, some (20, true), _, _, _⟩, ⟨0, none, _, _, _⟩]) rfl ?_)
            | (refine gReg (i := 7) ?_; refine C_plain [(0, 0), (1, 0), (2, 0), (3, 0), (4, 2), (5, 0), (6, 0), (7, 0), (8, 0), (9, 0), (10, 0), (11, 0), (12, 0)] (by kernel_rfl) (s := [⟨0, none, _, _, _⟩, ⟨0, none, _, _, _⟩, ⟨0, none, _, _, _⟩, ⟨0, none, _, _, _⟩, ⟨2, none, _, _, _⟩, ⟨0, none, _, _, _⟩, ⟨0, some (32, true), _, _, _⟩, ⟨0, some (32, true), _, _, _⟩, ⟨0, some (32, true), _, _, _⟩, ⟨0, some (32, true), _, _, _⟩, ⟨0, some (32, true), _, _, _⟩, ⟨0, some (32, true), _, _, _⟩, ⟨0, none, _, _, _⟩]) rfl ?_)
            | (refine gReg (i := 8) ?_; refine C_plain [(0, 0), (1, 0), (2, 0), (3, 0), (4, 2), (5, 0), (6, 0), (7, 0), (8, 2), (9, 2), (10, 2), (11, 2)] (by kernel_rfl) (s := [⟨0, none, _, _, _⟩, ⟨0, none, _, _, _⟩, ⟨0, none, _, _, _⟩, ⟨0, none, _, _, _⟩, ⟨2, none, _, _, _⟩, ⟨0, none, _, _, _⟩, ⟨0, none, _, _, _⟩, ⟨0, none, _, _, _⟩, ⟨2, none, _, _, _⟩, ⟨2, none, _, _, _⟩, ⟨2, none, _, _, _⟩, ⟨2, none, _, _, _⟩]) rfl ?_)
            | (refine gReg (i := 9) ?_; refine C_plain [(0, 0), (1, 0), (2, 2), (3, 2), (4, 0)] (by kernel_rfl) (s := [⟨0, none, _, _, _⟩, ⟨0, none, _, _, _⟩, ⟨2, none, _, _, _⟩, ⟨2, none, _, _, _⟩, ⟨0, none, _, _, _⟩]) rfl ?_)
            | (refine gReg (i := 6) ?_; refine C_plain [(0, 0), (1, 0), (2, 0)] (by kernel_rfl) (s := [⟨0, none, _, _, _⟩, ⟨0, none, _, _, _⟩, ⟨0, none, _, _, _⟩]) rfl ?_)
            | (refine gReg (i := 10) ?_; refine C_plain [(0, 0), (1, 0), (2, 0), (3, 0)] (by kernel_rfl) (s := [⟨0, none, _, _, _⟩, ⟨0, none, _, _, _⟩, ⟨0, none, _, _, _⟩, ⟨0, none, _, _, _⟩]) rfl ?_)))
        | (refine C_true rfl ?_)
        | (refine C_false rfl ?_)
        | (refine C_split rfl ?_ ?_ <;> (intro hb; (try simp only [decide_eq_true_eq] at hb); (try simp only [decide_eq_false_iff_not] at hb); (try simp only [Bool.not_eq_true'] at hb); (try simp only [Bool.not_eq_false'] at hb); (try (exfalso; first | contradiction | omega))))
        | (refine C_skip ?_)
        | (refine C_exit ?_)
        | (refine C_ret ?_)
        | (refine C_block ?_)))
    | (refine gE ?_; (first
        | (refine E_then ?_)
        | (refine E_thenX ?_)
        | (refine E_thenR ?_)
        | (refine E_block ?_)
        | (refine E_blockY ?_)
        | (refine E_blockR ?_)
        | (refine E_calm ?_)
        | (refine E_blockX rfl ?_)
        | (apply E_ret1 rfl; (first | exact Res.tmp rfl | (apply R_cellAll rfl; (focus ((repeat (first | exact List.Mem.head _ | refine List.Mem.tail _ ?_)); done)); exact T.rw25) | (apply R_cell1 rfl; (focus ((repeat (first | exact List.Mem.head _ | refine List.Mem.tail _ ?_)); done)); exact T.sc3)))
        | (apply E_ret2 rfl; (first | exact Res.tmp rfl | (apply R_cellAll rfl; (focus ((repeat (first | exact List.Mem.head _ | refine List.Mem.tail _ ?_)); done)); exact T.rw25) | (apply R_cell1 rfl; (focus ((repeat (first | exact List.Mem.head _ | refine List.Mem.tail _ ?_)); done)); exact T.sc3)); (first | exact Res.tmp rfl | (apply R_cellAll rfl; (focus ((repeat (first | exact List.Mem.head _ | refine List.Mem.tail _ ?_)); done)); exact T.rw25) | (apply R_cell1 rfl; (focus ((repeat (first | exact List.Mem.head _ | refine List.Mem.tail _ ?_)); done)); exact T.sc3)))
        | (apply E_ret3 rfl; (first | exact Res.tmp rfl | (apply R_cellAll rfl; (focus ((repeat (first | exact List.Mem.head _ | refine List.Mem.tail _ ?_)); done)); exact T.rw25) | (apply R_cell1 rfl; (focus ((repeat (first | exact List.Mem.head _ | refine List.Mem.tail _ ?_)); done)); exact T.sc3)); (first | exact Res.tmp rfl | (apply R_cellAll rfl; (focus ((repeat (first | exact List.Mem.head _ | refine List.Mem.tail _ ?_)); done)); exact T.rw25) | (apply R_cell1 rfl; (focus ((repeat (first | exact List.Mem.head _ | refine List.Mem.tail _ ?_)); done)); exact T.sc3)); (first | exact Res.tmp rfl | (apply R_cellAll rfl; (focus ((repeat (first | exact List.Mem.head _ | refine List.Mem.tail _ ?_)); done)); exact T.rw25) | (apply R_cell1 rfl; (focus ((repeat (first | exact List.Mem.head _ | refine List.Mem.tail _ ?_)); done)); exact T.sc3))))))
  refine C_loop (α := Nat × Value × List MNetPrefix × Int) (fun s => [(7, .int .i64 (s.1 : Int)), (6, s.2.1), (5, sa), (4, .pointer (some ⟨rd.1, 0, none⟩))]) (fun s => [.blk rd.1 72 (rdr rd.2.1 s.2.2.2), .row s.2.1 25 2 s.2.2.1.length (s.2.2.1.flatMap clNetPrefix), .row sa 25 2 da.length (da.flatMap clNetPrefix)])
    (fun s => s.1 ≤ da.length ∧ s.2.2.1.length ≤ 5 + s.1 ∧ 0 ≤ s.2.2.2 ∧ s.2.2.2 ≤ 9000 + (s.1 : Int)) (fun s => da.length - s.1) (0, sb, db, q3) ⟨by dsimp only; omega, by dsimp only; omega, by dsimp only; omega, by dsimp only; omega⟩ ⟨rfl, rfl, rfl, rfl, trivial⟩ (List.Sublist.refl _) ?_
  rintro ⟨i, sb, db, q⟩ ⟨h1, h2, h3, h4⟩
  dsimp only at *
  obtain ⟨bk, hbk⟩ : ∃ b, okP (ix da i).1 (ix da i).2 = b := ⟨_, rfl⟩
  have hbt : bk = true → 0 ≤ (ix da i).2 ∧ (ix da i).2 ≤ 16 ∧ 0 ≤ (ix da i).1 ∧ (ix da i).1 ≤ 65535 := fun h => okP_t (hbk.trans h)
  repeat' (first
    | (refine gS ?_; (first
        | (refine gGuard ?_; (first
            | (refine S_on rfl ?_)
            | (refine S_off rfl rfl rfl ?_)
            | (refine S_offn rfl rfl ?_)
            | (refine S_offU rfl rfl ?_)
            | (refine S_offUn rfl ?_)
            | (refine S_gsplit rfl ?_ ?_ <;> (intro hb; (try simp only [decide_eq_true_eq] at hb); (try simp only [decide_eq_false_iff_not] at hb); (try simp only [Bool.not_eq_true'] at hb); (try simp only [Bool.not_eq_false'] at hb); (try (exfalso; first | contradiction | omega)); (try (have hx1 := nthD (l := da) (k := i) hb)); (try (have hbt1 := hbt hb))))))
        | (refine S_move rfl rfl ?_)
        | (refine S_assign rfl rfl ?_)
        | (apply F_field rfl rfl; exact T.fl25_1)
        | (apply F_fieldS rfl rfl; exact T.fl25_1; (focus (first | exact len_nil | (apply len_given; assumption) | (apply len_row; (focus ((repeat (first | exact List.Mem.head _ | refine List.Mem.tail _ ?_)); done))) | (refine len_isN ?_; assumption))); (focus omega))
        | (apply F_idx rfl rfl rfl; exact T.sl37; (focus rfl); (focus (first | exact len_nil | (apply len_given; assumption) | (apply len_row; (focus ((repeat (first | exact List.Mem.head _ | refine List.Mem.tail _ ?_)); done))) | (refine len_isN ?_; assumption))); (focus omega))
        | (apply F_idxZ rfl rfl rfl; exact T.sl37; (focus omega); (focus (first | exact len_nil | (apply len_given; assumption) | (apply len_row; (focus ((repeat (first | exact List.Mem.head _ | refine List.Mem.tail _ ?_)); done))) | (refine len_isN ?_; assumption))); (focus omega))
        | (apply F_bs0 rfl rfl; exact T.el37; rfl; intro sv; (try (refine S_fact (row_one (v := sv) (by (focus ((repeat (first | exact List.Mem.head _ | refine List.Mem.tail _ ?_)); done)))) (fun hone => ?_))))
        | (apply F_bs rfl rfl; exact T.el37; rfl; rfl; rfl; rfl; (focus ((repeat (first | exact Dense.nil | (apply Dense.cons; rfl; rfl))); done)); intro sv; (try (refine S_fact (row_one (v := sv) (by (focus ((repeat (first | exact List.Mem.head _ | refine List.Mem.tail _ ?_)); done)))) (fun hone => ?_))))
        | (refine gLoad ?_; (first
            | (apply F_load1 rfl rfl; (focus ((repeat (first | exact List.Mem.head _ | refine List.Mem.tail _ ?_)); done)); exact T.sc3; rfl; (focus (first | exact free0 | exact free1)))
            | (apply F_loadAll rfl rfl; (focus ((repeat (first | exact List.Mem.head _ | refine List.Mem.tail _ ?_)); done)); exact T.rw25; (focus (first | exact free0 | exact free1)))
            | (apply F_loadP rfl rfl; (focus ((repeat (first | exact List.Mem.head _ | refine List.Mem.tail _ ?_)); done)); exact T.rw25; (focus ((repeat (first | exact Take.nil | apply Take.here | apply Take.there)); done)); rfl; (focus (first | exact free0 | exact free1)))
            | (apply F_loadS1 rfl rfl; exact T.sc3; (focus (first | exact rd_nil | (apply rd_given; (focus assumption); (focus (first | exact freeG0 | exact freeG1))) | (apply rd_row; (focus ((repeat (first | exact List.Mem.head _ | refine List.Mem.tail _ ?_)); done)); (focus (first | exact freeR0 | exact freeR1))))); (focus (first | (apply at_cell; (focus (apply at_flat; (focus (intro _; rfl)); (focus assumption))); rfl) | (apply at_cell0; (focus (apply at_flat; (focus (intro _; rfl)); (focus assumption))); rfl) | (apply at_cell; (focus (apply at_mid0; (focus assumption))); rfl) | (apply at_cell0; (focus (apply at_mid0; (focus assumption))); rfl) | rfl)))
            | (apply F_loadSN rfl rfl; exact T.rw25; (focus (first | exact rd_nil | (apply rd_given; (focus assumption); (focus (first | exact freeG0 | exact freeG1))) | (apply rd_row; (focus ((repeat (first | exact List.Mem.head _ | refine List.Mem.tail _ ?_)); done)); (focus (first | exact freeR0 | exact freeR1))))); (focus (first | (focus (apply at_flat; (focus (intro _; rfl)); (focus assumption))) | exact at_self)); rfl; rfl)
            | (apply F_loadSP rfl rfl; exact T.rw25; (focus (first | exact rd_nil | (apply rd_given; (focus assumption); (focus (first | exact freeG0 | exact freeG1))) | (apply rd_row; (focus ((repeat (first | exact List.Mem.head _ | refine List.Mem.tail _ ?_)); done)); (focus (first | exact freeR0 | exact freeR1))))); (focus (apply at_flat; (focus (intro _; rfl)); (focus assumption))); (focus ((repeat (first | exact Take.nil | apply Take.here | apply Take.there)); done)); rfl; rfl)
            | (apply F_loadI rfl rfl; exact T.sc3; (focus (first | exact rd_nil | (apply rd_given; (focus assumption); (focus (first | exact freeG0 | exact freeG1))) | (apply rd_row; (focus ((repeat (first | exact List.Mem.head _ | refine List.Mem.tail _ ?_)); done)); (focus (first | exact freeR0 | exact freeR1))))); (focus ((repeat (first | exact LitI.nil | apply LitI.cons | apply LitI.app)); done)); (focus (simp only [List.length_cons, List.length_nil]; omega)); intro zi hzi; (simp only [List.mem_cons, List.not_mem_nil, or_false] at hzi); (first | (replace hzi : 0 ≤ zi ∧ zi ≤ 16 := by omega) | (replace hzi : 0 ≤ zi ∧ zi ≤ 128 := by omega) | (replace hzi : 0 ≤ zi ∧ zi ≤ 200 := by omega) | (replace hzi : 0 ≤ zi ∧ zi ≤ 65535 := by omega) | (replace hzi : 0 ≤ zi ∧ zi ≤ 70000 := by omega) | (replace hzi : -70000 ≤ zi ∧ zi ≤ 70000 := by omega) | (replace hzi : -70000 ≤ zi ∧ zi ≤ 2199023255552 := by omega) | (replace hzi : -70000 ≤ zi ∧ zi ≤ 4611686018427387904 := by omega) | (replace hzi : -9223372036854775808 ≤ zi ∧ zi ≤ 9223372036854775807 := by omega)))
            | (apply F_loadST rfl rfl; exact T.rw25; (focus (first | exact rd_nil | (apply rd_given; (focus assumption); (focus (first | exact freeG0 | exact freeG1))) | (apply rd_row; (focus ((repeat (first | exact List.Mem.head _ | refine List.Mem.tail _ ?_)); done)); (focus (first | exact freeR0 | exact freeR1))))); (focus ((repeat (first | exact Take.nil | apply Take.here | apply Take.there)); done)); rfl; rfl)))
        | (refine gStore ?_; (first
            | (apply F_store1 rfl rfl; (focus (first | rfl | assumption)); exact T.sc3; (focus ((repeat (first | exact Upd.here | apply Upd.there)); done)); (focus ((repeat (first | exact SetSeg.nil | apply SetSeg.here | apply SetSeg.there)); done)); (first | exact okst2 | exact okst1 | exact okst1'))
            | (apply F_storeN rfl rfl; (focus (first | rfl | assumption | (simp only [List.append_nil, List.all_cons, List.all_nil, Bool.and_true, Bool.true_and, one_int, one_bool, one_string, one_slice, one_pointer, *]; done))); exact T.rw25; (focus ((repeat (first | exact Upd.here | apply Upd.there)); done)); (focus ((repeat (first | exact SetSeg.nil | apply SetSeg.here | apply SetSeg.there)); done)); (first | exact okst2 | exact okst1 | exact okst1'))
            | (apply F_storeM0 rfl rfl; (focus ((repeat (first | exact Upd.here | apply Upd.there)); done)); (focus assumption); exact T.sc3; (focus (first | rfl | assumption)); (focus ((repeat (first | exact SetSeg.nil | apply SetSeg.here | apply SetSeg.there)); done)); (focus omega); (first | exact okst2 | exact okst1 | exact okst1'))
            | (apply F_storeM1 rfl rfl; (focus ((repeat (first | exact Upd.here | apply Upd.there)); done)); (focus assumption); exact T.sc3; (focus (first | rfl | assumption)); (focus ((repeat (first | exact SetSeg.nil | apply SetSeg.here | apply SetSeg.there)); done)); (focus omega); (first | exact okst2 | exact okst1 | exact okst1'))
            | (apply F_storeS1 rfl rfl; (focus ((repeat (first | exact Upd.here | apply Upd.there)); done)); exact T.sc3; (focus (first | rfl | assumption)); (focus omega); (first | exact okst2 | exact okst1 | exact okst1'))
            | (apply F_storeSN rfl rfl; (focus ((repeat (first | exact Upd.here | apply Upd.there)); done)); exact T.rw25; rfl; (focus (first | rfl | assumption | (simp only [List.append_nil, List.all_cons, List.all_nil, Bool.and_true, Bool.true_and, one_int, one_bool, one_string, one_slice, one_pointer, *]; done))); rfl; (focus omega); (first | exact okst2 | exact okst1 | exact okst1'))))
        | (refine gCall ?_; (first
            | (refine S_callN (f := 14) rfl T.pf14 rfl (fun w hst => specNetOk_l hbk w) rfl ?_)
            | (refine S_callN (f := 51) rfl T.pf51 rfl (fun w hst => l1Halves_c _ _ (by omega) (by omega) (by omega) (by omega) w) rfl ?_)
            | (apply S_callB (f := 55) (b := rd.1) (hp := T.pf55) (hv := rfl) (hd := rfl); (case hpick => ((repeat (first | exact Pick.here | exact Pick.last | apply Pick.there | apply Pick.over)); done)); (case hc => exact pick_c rd.1 rd.2.1 rd.2.2 _ 2 hcr (by omega)); (case hnb => (intro _ _; exact ⟨_, List.Mem.head _, rfl⟩)); (case hk => (first | exact okst2 | exact okst1 | exact okst1')); intro zz hzz; simp only [List.cons_append, List.nil_append]; revert hzz; revert zz; intro y hy)
            | (apply F_len rfl rfl rfl; (focus exact ⟨_, _, by exact T.sl37⟩); (focus (first | exact len_nil | (apply len_given; assumption) | (apply len_row; (focus ((repeat (first | exact List.Mem.head _ | refine List.Mem.tail _ ?_)); done))) | (refine len_isN ?_; assumption))))
            | (apply F_append rfl rfl rfl rfl; exact T.el37; (focus (intro sv; (focus ((repeat (first | exact Upd.here | apply Upd.there)); done)))); (focus (first | exact rd_nil | (apply rd_given; (focus assumption); (focus (first | exact freeG0 | exact freeG1))) | (apply rd_row; (focus ((repeat (first | exact List.Mem.head _ | refine List.Mem.tail _ ?_)); done)); (focus (first | exact freeR0 | exact freeR1))))); (focus (first | rfl | assumption | (apply all_flat; intro _ _; rfl) | (rw [List.append_nil]; assumption) | (simp only [List.append_nil, List.all_cons, List.all_nil, Bool.and_true, Bool.true_and, one_int, one_bool, one_string, one_slice, one_pointer, *]; done) | simp)); (first | exact okst2 | exact okst1 | exact okst1'); (focus (simp only [maxLen]; first | omega | (simp only [List.length_take, List.length_drop]; omega))); (focus (first | omega | (simp only [List.length_take, List.length_drop]; omega))); intro sv; (try (refine S_fact (row_one (v := sv) (by (focus ((repeat (first | exact List.Mem.head _ | refine List.Mem.tail _ ?_)); done)))) (fun hone => ?_))))))
        | (refine gBin ?_; (first
            | (refine S_lss rfl rfl rfl ?_)
            | (refine S_eql rfl rfl rfl ?_)
            | (refine S_add rfl rfl ?_ rfl ?_; (focus (unfold rng; omega)))
            | (refine S_eqlB Try.underlying4 rfl rfl rfl ?_)))
        | (refine gPick ?_; (first
            | (refine S_pickT rfl rfl rfl ?_)
            | (refine S_pickF rfl rfl rfl ?_)))
        | (apply S_alloc rfl (hd := rfl); exact T.zc25; intro kb)
        | (apply F_build2 rfl (hd := rfl); exact T.st25; (focus ((repeat (first | exact BuildR.nil | (apply BuildR.cons; (first | exact T.fs25_0 | exact T.fs25_1); rfl; rfl; (focus ((repeat (first | exact SetSeg.nil | apply SetSeg.here | apply SetSeg.there)); done))) | (apply BuildR.cons1; (first | exact T.fs25_0 | exact T.fs25_1); (focus assumption); (focus ((repeat (first | exact SetSeg.nil | apply SetSeg.here | apply SetSeg.there)); done))))); done)))
        | (refine S_extract rfl rfl rfl ?_)
        | (refine S_done ?_)))
    | (refine gC ?_; (first
        | (refine C_seq ?_)
        | (refine gReg ?_; (first
            | (refine gReg (i := 0) ?_; refine C_plain [(0, 0), (1, 0)] (by kernel_rfl) (s := [⟨0, none, _, _, _⟩, ⟨0, none, _, _, _⟩]) rfl ?_)
            | (refine gReg (i := 1) ?_; refine C_plain [(0, 0), (1, 2), (2, 0)] (by kernel_rfl) (s := [⟨0, none, _, _, _⟩, ⟨2, none, _, _, _⟩, ⟨0, none, _, _, _⟩]) rfl ?_)
            | (refine gReg (i := 2) ?_; refine C_plain [(0, 0), (1, 2), (2, 0)] (by kernel_rfl) (s := [⟨0, none, _, _, _⟩, ⟨2, none, _, _, _⟩, ⟨0, none, _, _, _⟩]) rfl ?_)
            | (refine gReg (i := 3) ?_; refine C_plain [(0, 0), (1, 2), (2, 0)] (by kernel_rfl) (s := [⟨0, none, _, _, _⟩, ⟨2, none, _, _, _⟩, ⟨0, none, _, _, _⟩]) rfl ?_)
            | (refine gReg (i := 4) ?_; refine C_plain [(0, 0)] (by kernel_rfl) (s := [⟨0, none, _, _, _⟩]) rfl ?_)
            | (refine gReg (i := 5) ?_; refine C_plain [(0, 0), (1, 0), (2, 0), (3, 0), (4, 0), (5, 0), (6, 2), (7, 0), (8, 0)] (by kernel_rfl) (s := [⟨0, none, _, _, _⟩, ⟨0, none, _, _, _⟩, ⟨0, none, _, _, _⟩, ⟨0, none, _, _, _⟩, ⟨0, none, _, _, _⟩, ⟨0, some (20, true), _, _, _⟩, ⟨2, some (20, true), _, _, _⟩, ⟨0, some (20, true), _, _, _⟩, ⟨0, none, _, _, _⟩]) rfl ?_)
            | (refine gReg (i := 7) ?_; refine C_plain [(0, 0), (1, 0), (2, 0), (3, 0), (4, 2), (5, 0), (6, 0), (7, 0), (8, 0), (9, 0), (10, 0), (11, 0), (12, 0)] (by kernel_rfl) (s := [⟨0, none, _, _, _⟩, ⟨0, none, _, _, _⟩, ⟨0, none, _, _, _⟩, ⟨0, none, _, _, _⟩, ⟨2, none, _, _, _⟩, ⟨0, none, _, _, _⟩, ⟨0, some (32, true), _, _, _⟩, ⟨0, some (32, true), _, _, _⟩, ⟨0, some (32, true), _, _, _⟩, ⟨0, some (32, true), _, _, _⟩, ⟨0, some (32, true), _, _, _⟩, ⟨0, some (32, true), _, _, _⟩, ⟨0, none, _, _, _⟩]) rfl ?_)
            | (refine gReg (i := 8) ?_; refine C_plain [(0, 0), (1, 0), (2, 0), (3, 0), (4, 2), (5, 0), (6, 0), (7, 0), (8, 2), (9, 2), (10, 2), (11, 2)] (by kernel_rfl) (s := [⟨0, none, _, _, _⟩, ⟨0, none, _, _, _⟩, ⟨0, none, _, _, _⟩, ⟨0, none, _, _, _⟩, ⟨2, none, _, _, _⟩, ⟨0, none, _, _, _⟩, ⟨0, none, _, _, _⟩, ⟨0, none, _, _, _⟩, ⟨2, none, _, _, _⟩, ⟨2, none, _, _, _⟩, ⟨2, none, _, _, _⟩, ⟨2, none, _, _, _⟩]) rfl ?_)
            | (refine gReg (i := 9) ?_; refine C_plain [(0, 0), (1, 0), (2, 2), (3, 2), (4, 0)] (by kernel_rfl) (s := [⟨0, none, _, _, _⟩, ⟨0, none, _, _, _⟩, ⟨2, none, _, _, _⟩, ⟨2, none, _, _, _⟩, ⟨0, none, _, _, _⟩]) rfl ?_)
            | (refine gReg (i := 6) ?_; refine C_plain [(0, 0), (1, 0), (2, 0)] (by kernel_rfl) (s := [⟨0, none, _, _, _⟩, ⟨0, none, _, _, _⟩, ⟨0, none, _, _, _⟩]) rfl ?_)
            | (refine gReg (i := 10) ?_; refine C_plain [(0, 0), (1, 0), (2, 0), (3, 0)] (by kernel_rfl) (s := [⟨0, none, _, _, _⟩, ⟨0, none, _, _, _⟩, ⟨0, none, _, _, _⟩, ⟨0, none, _, _, _⟩]) rfl ?_)))
        | (refine C_true rfl ?_)
        | (refine C_false rfl ?_)
        | (refine C_split rfl ?_ ?_ <;> (intro hb; (try simp only [decide_eq_true_eq] at hb); (try simp only [decide_eq_false_iff_not] at hb); (try simp only [Bool.not_eq_true'] at hb); (try simp only [Bool.not_eq_false'] at hb); (try (exfalso; first | contradiction | omega)); (try (have hx1 := nthD (l := da) (k := i) hb)); (try (have hbt1 := hbt hb))))
        | (refine C_skip ?_)
        | (refine C_exit ?_)
        | (refine C_ret ?_)
        | (refine C_block ?_)))
    | (refine gE ?_; (first
        | (refine E_then ?_)
        | (refine E_thenX ?_)
        | (refine E_thenR ?_)
        | (refine E_block ?_)
        | (refine E_blockY ?_)
        | (refine E_blockR ?_)
        | (refine E_calm ?_)
        | (refine E_blockX rfl ?_)
        | (apply E_ret1 rfl; (first | exact Res.tmp rfl | (apply R_cellAll rfl; (focus ((repeat (first | exact List.Mem.head _ | refine List.Mem.tail _ ?_)); done)); exact T.rw25) | (apply R_cell1 rfl; (focus ((repeat (first | exact List.Mem.head _ | refine List.Mem.tail _ ?_)); done)); exact T.sc3)))
        | (apply E_ret2 rfl; (first | exact Res.tmp rfl | (apply R_cellAll rfl; (focus ((repeat (first | exact List.Mem.head _ | refine List.Mem.tail _ ?_)); done)); exact T.rw25) | (apply R_cell1 rfl; (focus ((repeat (first | exact List.Mem.head _ | refine List.Mem.tail _ ?_)); done)); exact T.sc3)); (first | exact Res.tmp rfl | (apply R_cellAll rfl; (focus ((repeat (first | exact List.Mem.head _ | refine List.Mem.tail _ ?_)); done)); exact T.rw25) | (apply R_cell1 rfl; (focus ((repeat (first | exact List.Mem.head _ | refine List.Mem.tail _ ?_)); done)); exact T.sc3)))
        | (apply E_ret3 rfl; (first | exact Res.tmp rfl | (apply R_cellAll rfl; (focus ((repeat (first | exact List.Mem.head _ | refine List.Mem.tail _ ?_)); done)); exact T.rw25) | (apply R_cell1 rfl; (focus ((repeat (first | exact List.Mem.head _ | refine List.Mem.tail _ ?_)); done)); exact T.sc3)); (first | exact Res.tmp rfl | (apply R_cellAll rfl; (focus ((repeat (first | exact List.Mem.head _ | refine List.Mem.tail _ ?_)); done)); exact T.rw25) | (apply R_cell1 rfl; (focus ((repeat (first | exact List.Mem.head _ | refine List.Mem.tail _ ?_)); done)); exact T.sc3)); (first | exact Res.tmp rfl | (apply R_cellAll rfl; (focus ((repeat (first | exact List.Mem.head _ | refine List.Mem.tail _ ?_)); done)); exact T.rw25) | (apply R_cell1 rfl; (focus ((repeat (first | exact List.Mem.head _ | refine List.Mem.tail _ ?_)); done)); exact T.sc3))))))
  · refine E_roundS (α := Nat × Value × List MNetPrefix × Int) (i + 1, sv, db ++ [((ix da i).1, (ix da i).2 + 1)], q + 1) ⟨?_, ?_, ?_, ?_⟩ ?_ ⟨rfl, rfl, rfl, rfl, trivial⟩ (by (focus (apply Ent.flat; (simp only [List.length_append, List.length_cons, List.length_nil, Nat.zero_add, flat_many, flat_row, flat_blk, flat_append, flat_nil, List.map_append, List.map_cons, List.map_nil, List.flatMap_append, List.flatMap_cons, List.flatMap_nil, List.append_assoc, List.append_nil, List.nil_append, List.cons_append, Row.blk_mk, rwSNetPrefix, rwSuint8]); ((repeat (first | exact Pull.nil | (apply Pull.app; (focus ((repeat (first | exact PickA.here | exact PickA.all | apply PickA.there | apply PickA.over)); done))) | (apply Pull.cons; (focus ((repeat (first | exact Pick.here | exact Pick.last | apply Pick.there | apply Pick.over)); done))) | (apply Pull.atom; (focus ((repeat (first | exact PickA.here | exact PickA.all | apply PickA.there | apply PickA.over)); done))))); done))))
    · dsimp only; omega
    · simp only [List.length_append, List.length_cons, List.length_nil]; omega
    · dsimp only; omega
    · dsimp only; omega
    · dsimp only; omega
  · exact E_roundS (α := Nat × Value × List MNetPrefix × Int) (i + 1, sb, db, q + 1) ⟨by dsimp only; omega, by dsimp only; omega, by dsimp only; omega, by dsimp only; omega⟩ (by dsimp only; omega) ⟨rfl, rfl, rfl, rfl, trivial⟩ (by (focus (apply Ent.flat; (simp only [List.length_append, List.length_cons, List.length_nil, Nat.zero_add, flat_many, flat_row, flat_blk, flat_append, flat_nil, List.map_append, List.map_cons, List.map_nil, List.flatMap_append, List.flatMap_cons, List.flatMap_nil, List.append_assoc, List.append_nil, List.nil_append, List.cons_append, Row.blk_mk, rwSNetPrefix, rwSuint8]); ((repeat (first | exact Pull.nil | (apply Pull.app; (focus ((repeat (first | exact PickA.here | exact PickA.all | apply PickA.there | apply PickA.over)); done))) | (apply Pull.cons; (focus ((repeat (first | exact Pick.here | exact Pick.last | apply Pick.there | apply Pick.over)); done))) | (apply Pull.atom; (focus ((repeat (first | exact PickA.here | exact PickA.all | apply PickA.there | apply PickA.over)); done))))); done))))
  · exact E_roundS (α := Nat × Value × List MNetPrefix × Int) (i + 1, sb, db, q + 1) ⟨by dsimp only; omega, by dsimp only; omega, by dsimp only; omega, by dsimp only; omega⟩ (by dsimp only; omega) ⟨rfl, rfl, rfl, rfl, trivial⟩ (by (focus (apply Ent.flat; (simp only [List.length_append, List.length_cons, List.length_nil, Nat.zero_add, flat_many, flat_row, flat_blk, flat_append, flat_nil, List.map_append, List.map_cons, List.map_nil, List.flatMap_append, List.flatMap_cons, List.flatMap_nil, List.append_assoc, List.append_nil, List.nil_append, List.cons_append, Row.blk_mk, rwSNetPrefix, rwSuint8]); ((repeat (first | exact Pull.nil | (apply Pull.app; (focus ((repeat (first | exact PickA.here | exact PickA.all | apply PickA.there | apply PickA.over)); done))) | (apply Pull.cons; (focus ((repeat (first | exact Pick.here | exact Pick.last | apply Pick.there | apply Pick.over)); done))) | (apply Pull.atom; (focus ((repeat (first | exact PickA.here | exact PickA.all | apply PickA.there | apply PickA.over)); done))))); done))))
  all_goals exact retX (α := MSNetPrefix × MSNetPrefix) ((sa, da), (sb, db)) ⟨by dsimp only; omega, by dsimp only; omega⟩ rfl (by (focus (apply Ent.flat; (simp only [List.length_append, List.length_cons, List.length_nil, Nat.zero_add, flat_many, flat_row, flat_blk, flat_append, flat_nil, List.map_append, List.map_cons, List.map_nil, List.flatMap_append, List.flatMap_cons, List.flatMap_nil, List.append_assoc, List.append_nil, List.nil_append, List.cons_append, Row.blk_mk, rwSNetPrefix, rwSuint8]); ((repeat (first | exact Pull.nil | (apply Pull.app; (focus ((repeat (first | exact PickA.here | exact PickA.all | apply PickA.there | apply PickA.over)); done))) | (apply Pull.cons; (focus ((repeat (first | exact Pick.here | exact Pick.last | apply Pick.there | apply Pick.over)); done))) | (apply Pull.atom; (focus ((repeat (first | exact PickA.here | exact PickA.all | apply PickA.there | apply PickA.over)); done))))); done))))
end Go.Proofs.Ytobgbogglilfjaa

/- The bytes of pieces laid together. -/
import Derived.Test.YtodhjpnfokkfeaaFragj
import Derived.Test.YtodhjpnfokkfeaaSymg
set_option linter.unusedSimpArgs false
set_option linter.unusedVariables false
namespace Go.Proofs.Ytodhjpnfokkfeaa
open Go Go.RowKit
attribute [local irreducible] Calls GoS GoC GoE GoT Mid IsFl IsSc IsRw IsSl IsEl IsSt IsFs sp Mem Rd LenOf szR
def clBy (y : Int) : List Value := [.int .u8 y]
def clBo (b : Bool) : List Value := [.bool b]
theorem setAt_1 {α : Type} {f : α → List Value} (hf : ∀ x, (f x).length = 1) : ∀ (l : List α) (k : Nat) (x : α), k < l.length → setAt (l.flatMap f) (k * 1) (f x) = (l.set k x).flatMap f
  | [], k, _, h => by simp at h
  | a :: l, 0, x, _ => by
    have h1 := hf a
    have h2 := hf x
    match ha : f a, hx : f x with
    | [u], [v] => simp [setAt, List.flatMap_cons, ha, hx]
    | [], _ => rw [ha] at h1; simp at h1
    | _ :: _ :: _, _ => rw [ha] at h1; simp at h1
    | [_], [] => rw [hx] at h2; simp at h2
    | [_], _ :: _ :: _ => rw [hx] at h2; simp at h2
  | a :: l, k + 1, x, h => by
    have h1 := hf a
    have ih := setAt_1 hf l k x (by simpa using h)
    match ha : f a with
    | [u] =>
      rw [Nat.mul_one] at ih ⊢
      simp only [setAt, List.flatMap_cons, ha, List.set_cons_succ, List.cons_append, List.nil_append, List.take_succ_cons] at ih ⊢
      rw [← ih, show k + 1 + (f x).length = (k + (f x).length) + 1 by omega, List.drop_succ_cons]
    | [] => rw [ha] at h1; simp at h1
    | _ :: _ :: _ => rw [ha] at h1; simp at h1
theorem setBy (ds : List Int) (k : Nat) (b : Int) (h : k < ds.length) : setAt (ds.flatMap clBy) (k * 1) [.int .u8 b] = (ds.set k b).flatMap clBy := setAt_1 (fun _ => rfl) ds k b h
theorem setBo (ks : List Bool) (k : Nat) (b : Bool) (h : k < ks.length) : setAt (ks.flatMap clBo) (k * 1) [.bool b] = (ks.set k b).flatMap clBo := setAt_1 (fun _ => rfl) ks k b h
theorem zeroBy (e : Nat) : (List.replicate e [Value.int .u8 0]).flatten = (List.replicate e (0 : Int)).flatMap clBy := by
  rw [List.flatMap_def, List.map_replicate]; rfl
theorem zeroBo (e : Nat) : (List.replicate e [Value.bool false]).flatten = (List.replicate e false).flatMap clBo := by
  rw [List.flatMap_def, List.map_replicate]; rfl
/-- what is known is right -/
def Right (L : List CFragPacket) (e : Nat) (ds : List Int) (ks : List Bool) : Prop := ds.length = e ∧ ks.length = e ∧ ∀ a : Nat, ks[a]? = some true → (∃ c ∈ L, hasB c (a : Int) = true) ∧ ds[a]? = some (byteL L (a : Int))
/-- the bytes of a piece below a place are known -/
def Known (c : CFragPacket) (z : Int) (ks : List Bool) : Prop := ∀ a : Nat, offP c ≤ (a : Int) → (a : Int) < z → ks[a]? = some true
theorem Right.set {L : List CFragPacket} {e : Nat} {ds : List Int} {ks : List Bool} (h : Right L e ds ks) (hag : ∀ c ∈ L, ∀ d ∈ L, Agree c d) {c : CFragPacket} (hc : c ∈ L) {k : Nat} (hk : hasB c (k : Int) = true) : Right L e (ds.set k (byteP c (k : Int))) (ks.set k true) := by
  refine ⟨by simp [h.1], by simp [h.2.1], fun a ha => ?_⟩
  rw [List.getElem?_set] at ha
  by_cases hka : k = a
  · subst hka
    refine ⟨⟨c, hc, hk⟩, ?_⟩
    rw [if_pos rfl] at ha
    split at ha
    · rename_i hlt
      rw [List.getElem?_set_self (by rw [h.1, ← h.2.1]; exact hlt), byteL_of hag hc hk]
    · cases ha
  · rw [if_neg hka] at ha
    rw [List.getElem?_set_ne hka]
    exact h.2.2 a ha
theorem Known.set {c : CFragPacket} {z : Int} {ks : List Bool} {k : Nat} (h : Known c z ks) : Known c z (ks.set k true) := fun a h1 h2 => by
  have h3 := h a h1 h2
  rw [List.getElem?_set]
  split
  · rename_i hka
    subst hka
    obtain ⟨hlt, _⟩ := List.getElem?_eq_some_iff.1 h3
    rw [if_pos hlt]
  · exact h3
theorem Known.step {c : CFragPacket} {z : Int} {ks : List Bool} {k : Nat} (h : Known c z ks) (hz : (k : Int) = z) (hk : k < ks.length) : Known c (z + 1) (ks.set k true) := fun a h1 h2 => by
  by_cases hka : k = a
  · subst hka; rw [List.getElem?_set_self hk]
  · exact h.set a h1 (by omega)
theorem filled_c (x : MSFragPacket) (e : Nat) (he : e ≤ 1048576) (hn : x.2.length ≤ 1048576) (hl : ∀ y ∈ x.2, 0 ≤ y.2.2.2.2.2.2.1 ∧ y.2.2.2.2.2.2.1 + (y.2.2.2.2.2.2.2.2.2.length : Int) ≤ (e : Int)) (hag : ∀ c ∈ x.2.map ctFragPacket, ∀ d ∈ x.2.map ctFragPacket, Agree c d) (w : World) (hx : Rds w (rwSFragPacket x)) : Calls Try.prog 61 #[x.1, .int .i64 (e : Int)] w
    (RetX (fun y : MSuint8 × Bool => (y.2 = true → y.1.2 = (List.range e).map fun a : Nat => byteL (x.2.map ctFragPacket) (a : Int)) ∧ (y.2 = true ↔ ((List.range e).all fun a : Nat => (x.2.map ctFragPacket).any fun c => hasB c (a : Int)) = true) ∧ (y.2 = false → y.1.2 = [])) (fun y => .tuple #[y.1.1, .bool y.2]) (fun y => [.many (rwSuint8 y.1)]) w) := by
  obtain ⟨v, l⟩ := x
  have hm := Rds.head hx
  have hr := Rds.flatMap.1 (Rds.tail hx)
  dsimp only at *
  refine enter (n := 57) (E := [(0, _), (1, _)]) Try.func61 rfl rfl rfl rfl ?_
  repeat' (first
    |(refine gS ?_;(first
        |(refine S_move rfl rfl ?_)
        |(refine S_assign rfl rfl ?_)
        |(apply F_make rfl rfl rfl;(first|exact T.el22|exact T.el27|exact T.el110);rfl;(focus omega);(focus (simp only [maxLen];omega));intro sv;(try (refine S_fact (row_one (v := sv) (by (focus ((repeat (first|exact mH|refine mT ?_));done)))) (fun hone => ?_))))
        |(refine S_done ?_)))
    |((first
        |(refine gSeqReg (i := 1) ?_;refine C_join (fun s : Value × Value => [(6,s.1),(7,s.2),(0,v)]) (fun s => [.row s.2 4 1 e (List.replicate e [Value.bool false]).flatten,.row s.1 5 1 e (List.replicate e [Value.int .u8 0]).flatten]) (fun _ => True) ?_ ?_)
        |(refine C_seq ?_)
        |(refine gReg ?_;(first
            |(refine gReg (i := 0) ?_;refine C_plain [(0,0),(1,0)] (by kernel_rfl) (s := [⟨0,none,_,_,_⟩,⟨0,none,_,_,_⟩]) rfl ?_)
            |(refine gReg (i := 1) ?_;refine C_drawnT (.br [(0,0),(2,0)] (.fin [(1,1),(4,0),(3,1),(5,0)]) (.fin [(3,1),(1,1),(4,0),(5,0)])) [] T.mixed (by kernel_rfl) (s := (.br [⟨0,none,_,_,_⟩,⟨0,none,_,_,_⟩] (.fin [⟨1,none,_,_,_⟩,⟨0,none,_,_,_⟩,⟨1,none,_,_,_⟩,⟨0,none,_,_,_⟩]) (.fin [⟨1,none,_,_,_⟩,⟨1,none,_,_,_⟩,⟨0,none,_,_,_⟩,⟨0,none,_,_,_⟩]))) rfl ?_)))
        |(refine T_fin ?_)
        |(refine T_br ?_)))
    |(refine gE ?_;(first
        |(refine E_then ?_)
        |(refine E_calm ?_)
        | (refine E_both ?_ ?_))))
  · rename_i s1 h1
    exact E_join (α := Value × Value) (s1,sv) trivial ⟨rfl,rfl,rfl,trivial⟩ entA
  · rename_i s1 h1
    exact E_join (α := Value × Value) (sv,s1) trivial ⟨rfl,rfl,rfl,trivial⟩ entA
  rintro ⟨sd, sk⟩ _
  dsimp only
  rw [zeroBy, zeroBo]
  repeat' (first
    |(refine gS ?_;(first
        |(refine S_move rfl rfl ?_)
        |(refine gCall ?_;(first
            |(apply F_len rfl rfl rfl;(focus exact ⟨_,_,by (first|exact T.sl22|exact T.sl27|exact T.sl110)⟩);(focus (first|exact len_nil|(apply len_given;assumption)|(apply len_row;(focus ((repeat (first|exact mH|refine mT ?_));done)))|(apply len_isN;assumption))))))
        |(refine S_done ?_)))
    |((first
        |(refine C_seq ?_)
        |(refine gReg ?_;(first
            |(refine gReg (i := 2) ?_;refine C_plain [(0,0),(1,0),(2,0)] (by kernel_rfl) (s := [⟨0,none,_,_,_⟩,⟨0,none,_,_,_⟩,⟨0,none,_,_,_⟩]) rfl ?_)))
        |(refine C_block ?_)))
    |(refine gE ?_;(first
        |(refine E_then ?_))))
  refine C_loop (α := Nat × List Int × List Bool) (fun s => [(20, .int .i64 (s.1 : Int)), (19, .int .i64 (l.length : Int)), (18, v), (6, sd), (7, sk), (0, v)]) (fun s => [.row sk 4 1 e (s.2.2.flatMap clBo), .row sd 5 1 e (s.2.1.flatMap clBy)])
    (fun s => s.1 ≤ l.length ∧ Right (l.map ctFragPacket) e s.2.1 s.2.2 ∧ ∀ j c, j < s.1 → (l.map ctFragPacket)[j]? = some c → Known c (endP c) s.2.2) (fun s => l.length - s.1) (0, List.replicate e 0, List.replicate e false)
    ⟨Nat.zero_le _, ⟨by simp, by simp, fun a ha => by rw [List.getElem?_replicate] at ha; split at ha <;> cases ha⟩, fun j c h => by cases h⟩ ⟨rfl, rfl, rfl, rfl, rfl, rfl, trivial⟩ (List.Sublist.refl _) ?_
  rintro ⟨i, ds, ks⟩ ⟨hi, hR, hK⟩
  dsimp only at *
  have hp : (i : Int) < (l.length : Int) → l[i]? = some (ix l i) ∧ Rds w (rwFragPacket (ix l i)) ∧ 0 ≤ (ix l i).2.2.2.2.2.2.1 ∧ (ix l i).2.2.2.2.2.2.1 + ((ix l i).2.2.2.2.2.2.2.2.2.length : Int) ≤ (e : Int) := fun h => by
    have hx := nthD h
    have hmem := List.mem_of_getElem? hx
    exact ⟨hx, hr _ hmem, hl _ hmem⟩
  have hkn : (i : Int) < (l.length : Int) → (l.map ctFragPacket)[i]? = some (ctFragPacket (ix l i)) := fun h => by rw [List.getElem?_map, nthD h]; rfl
  repeat' (first
    |(refine gS ?_;(first
        |(refine S_move rfl rfl ?_)
        |(apply F_field rfl rfl;(first|exact T.fl24_6|exact T.fl24_8))
        |(apply F_idx rfl rfl rfl;(first|exact T.sl22|exact T.sl27|exact T.sl110);(focus rfl);(focus (first|exact len_nil|(apply len_given;assumption)|(apply len_row;(focus ((repeat (first|exact mH|refine mT ?_));done)))|(apply len_isN;assumption)));(focus omega))
        |(refine gLoad ?_;(first
            |(apply F_load1 rfl rfl;(focus ((repeat (first|exact mH|refine mT ?_));done));(first|exact T.sc3|exact T.sc4|exact T.sc5|exact T.sc22);rfl;(focus (first|exact free0|exact free1|(refine free2 ?_ ?_;(focus ((repeat (first|(apply apartS1;(focus ((repeat (first|exact mH|refine mT ?_));done));omega;done)|(apply apartS2;(focus ((repeat (first|exact mH|refine mT ?_));done));omega;done)|refine apart3 ?_));done));exact free1)|(refine free2 ?_ ?_;(focus ((repeat (first|(apply apart1;(repeat (first|exact mH|refine mT ?_));done)|(apply apart2;(repeat (first|exact mH|refine mT ?_));done)|refine apart3 ?_));done));(first|exact free1|(refine free2 ?_ ?_;(focus ((repeat (first|(apply apart1;(repeat (first|exact mH|refine mT ?_));done)|(apply apart2;(repeat (first|exact mH|refine mT ?_));done)|refine apart3 ?_));done));exact free1))))))
            |(apply F_loadSN rfl rfl;exact T.rw24;(focus (first|exact rd_nil|(apply rd_given;(focus assumption);(focus (first|exact freeG0|exact freeG1|(apply freeG2S;(focus ((repeat (first|exact mH|refine mT ?_));done));omega;exact freeG1)|(apply freeG2;(focus ((repeat (first|exact mH|refine mT ?_));done));(first|exact freeG1|(apply freeG2;(focus ((repeat (first|exact mH|refine mT ?_));done));exact freeG1))))))|(apply rd_row;(focus ((repeat (first|exact mH|refine mT ?_));done));(focus (first|exact freeR0|exact freeR1|(refine freeR2 ?_ ?_;(focus ((repeat (first|(apply apartRS1;(focus ((repeat (first|exact mH|refine mT ?_));done));omega;done)|(apply apartRS2;(focus ((repeat (first|exact mH|refine mT ?_));done));omega;done)|refine apartR3 ?_));done));exact freeR1)|(refine freeR2 ?_ ?_;(focus ((repeat (first|(apply apartR1;(focus ((repeat (first|exact mH|refine mT ?_));done));done)|(apply apartR2;(focus ((repeat (first|exact mH|refine mT ?_));done));done)|refine apartR3 ?_));done));(first|exact freeR1|(refine freeR2 ?_ ?_;(focus ((repeat (first|(apply apartR1;(focus ((repeat (first|exact mH|refine mT ?_));done));done)|(apply apartR2;(focus ((repeat (first|exact mH|refine mT ?_));done));done)|refine apartR3 ?_));done));exact freeR1))))))));(focus (first|(focus (apply at_flat;(focus (intro _;rfl));(focus assumption)))|exact at_self));rfl;rfl)))
        |(refine gStore ?_;(first
            |(apply F_storeN rfl rfl;(focus (first|rfl|assumption|(simp only [List.append_nil,List.all_cons,List.all_nil,Bool.and_true,Bool.true_and,one_int,one_bool,one_string,one_slice,one_pointer, *];done)));exact T.rw24;(focus ((repeat (first|exact Upd.here|apply Upd.there));done));(focus ((repeat (first|exact SetSeg.nil|apply SetSeg.here|apply SetSeg.there));done));(first|exact okst2|exact okst1|exact okst1'))))
        |(refine gCall ?_;(first
            |(apply F_len rfl rfl rfl;(focus exact ⟨_,_,by (first|exact T.sl22|exact T.sl27|exact T.sl110)⟩);(focus (first|exact len_nil|(apply len_given;assumption)|(apply len_row;(focus ((repeat (first|exact mH|refine mT ?_));done)))|(apply len_isN;assumption))))))
        |(refine gBin ?_;(first
            |(refine S_lss rfl rfl rfl ?_)))
        |(apply S_alloc rfl (hd := rfl);exact T.zc24;intro kb)
        |(refine S_done ?_)))
    |((first
        |(refine C_seq ?_)
        |(refine gReg ?_;(first
            |(refine gReg (i := 3) ?_;refine C_plain [(0,0)] (by kernel_rfl) (s := [⟨0,none,_,_,_⟩]) rfl ?_)
            |(refine gReg (i := 4) ?_;refine C_plain [(0,0),(1,0),(2,2),(3,2)] (by kernel_rfl) (s := [⟨0,none,_,_,_⟩,⟨0,none,_,_,_⟩,⟨2,none,_,_,_⟩,⟨2,none,_,_,_⟩]) rfl ?_)
            |(refine gReg (i := 5) ?_;refine C_plain [(0,0),(1,0),(2,0),(3,0)] (by kernel_rfl) (s := [⟨0,none,_,_,_⟩,⟨0,none,_,_,_⟩,⟨0,none,_,_,_⟩,⟨0,none,_,_,_⟩]) rfl ?_)
            |(refine gReg (i := 11) ?_;refine C_plain [(0,0),(1,0),(2,0)] (by kernel_rfl) (s := [⟨0,none,_,_,_⟩,⟨0,none,_,_,_⟩,⟨0,none,_,_,_⟩]) rfl ?_)))
        |(refine C_split rfl ?_ ?_ <;> (intro hb;(try simp only [decide_eq_true_eq] at hb);(try simp only [decide_eq_false_iff_not] at hb);(try simp only [Bool.not_eq_true'] at hb);(try simp only [Bool.not_eq_false'] at hb);(try (exfalso;first|contradiction|omega));(try (have hq := hp hb));(try (have hq1 := hq.1));(try (have hq2 := hq.2.1));(try (have hq3 := hq.2.2.1));(try (have hq4 := hq.2.2.2));(try (have hq5 := hkn hb));(try (have hq6 := Rds.head hq2));(try (have hq7 := oneFragPacket hq2))))
        |(refine C_skip ?_)
        |(refine C_exit ?_)
        |(refine C_block ?_)))
    |(refine gE ?_;(first
        |(refine E_then ?_)
        |(refine E_thenX ?_)
        |(refine E_blockY ?_))))
  · generalize ix l i = x at *
    have hmem : ctFragPacket x ∈ l.map ctFragPacket := List.mem_of_getElem? hq5
    have e1 : offP (ctFragPacket x) = x.2.2.2.2.2.2.1 := rfl
    have e3 : endP (ctFragPacket x) = x.2.2.2.2.2.2.1 + (x.2.2.2.2.2.2.2.2.2.length : Int) := rfl
    have e7 : ∀ a, byteP (ctFragPacket x) a = ix x.2.2.2.2.2.2.2.2.2 (a - x.2.2.2.2.2.2.1).toNat := fun a => rfl
    refine C_loop (α := Nat × List Int × List Bool) (fun s => [(27, .int .i64 (s.1 : Int)), (26, .int .i64 (x.2.2.2.2.2.2.2.2.2.length : Int)), (25, x.2.2.2.2.2.2.2.2.1), (9, .pointer (some ⟨kb, 0, none⟩)), (20, .int .i64 (i : Int)), (19, .int .i64 (l.length : Int)), (18, v), (6, sd), (7, sk), (0, v)]) (fun s => [.blk kb 24 (clFragPacket x), .row sk 4 1 e (s.2.2.flatMap clBo), .row sd 5 1 e (s.2.1.flatMap clBy)])
      (fun s => s.1 ≤ x.2.2.2.2.2.2.2.2.2.length ∧ Right (l.map ctFragPacket) e s.2.1 s.2.2 ∧ (∀ j c, j < i → (l.map ctFragPacket)[j]? = some c → Known c (endP c) s.2.2) ∧ Known (ctFragPacket x) (offP (ctFragPacket x) + (s.1 : Int)) s.2.2) (fun s => x.2.2.2.2.2.2.2.2.2.length - s.1) (0, ds, ks)
      ⟨Nat.zero_le _, hR, hK, fun a h1 h2 => by dsimp only at h2; omega⟩ ⟨rfl, rfl, rfl, rfl, rfl, rfl, rfl, rfl, rfl, rfl, trivial⟩ (List.Sublist.refl _) ?_
    rintro ⟨j, ds, ks⟩ ⟨hj, hR, hK, hN⟩
    dsimp only at *
    have hp2 : (j : Int) < (x.2.2.2.2.2.2.2.2.2.length : Int) → x.2.2.2.2.2.2.2.2.2[j]? = some (ix x.2.2.2.2.2.2.2.2.2 j) := fun h => nthD h
    repeat' (first
      |(refine gS ?_;(first
          |(refine S_move rfl rfl ?_)
          |(refine S_assign rfl rfl ?_)
          |(apply F_field rfl rfl;(first|exact T.fl24_6|exact T.fl24_8))
          |(apply F_idx rfl rfl rfl;(first|exact T.sl22|exact T.sl27|exact T.sl110);(focus rfl);(focus (first|exact len_nil|(apply len_given;assumption)|(apply len_row;(focus ((repeat (first|exact mH|refine mT ?_));done)))|(apply len_isN;assumption)));(focus omega))
          |(apply F_idxZ rfl rfl rfl;(first|exact T.sl22|exact T.sl27|exact T.sl110);(focus omega);(focus (first|exact len_nil|(apply len_given;assumption)|(apply len_row;(focus ((repeat (first|exact mH|refine mT ?_));done)))|(apply len_isN;assumption)));(focus omega))
          |(refine gLoad ?_;(first
              |(apply F_load1 rfl rfl;(focus ((repeat (first|exact mH|refine mT ?_));done));(first|exact T.sc3|exact T.sc4|exact T.sc5|exact T.sc22);rfl;(focus (first|exact free0|exact free1|(refine free2 ?_ ?_;(focus ((repeat (first|(apply apartS1;(focus ((repeat (first|exact mH|refine mT ?_));done));omega;done)|(apply apartS2;(focus ((repeat (first|exact mH|refine mT ?_));done));omega;done)|refine apart3 ?_));done));exact free1)|(refine free2 ?_ ?_;(focus ((repeat (first|(apply apart1;(repeat (first|exact mH|refine mT ?_));done)|(apply apart2;(repeat (first|exact mH|refine mT ?_));done)|refine apart3 ?_));done));(first|exact free1|(refine free2 ?_ ?_;(focus ((repeat (first|(apply apart1;(repeat (first|exact mH|refine mT ?_));done)|(apply apart2;(repeat (first|exact mH|refine mT ?_));done)|refine apart3 ?_));done));exact free1))))))
              |(apply F_loadS1 rfl rfl;(first|exact T.sc3|exact T.sc4|exact T.sc5|exact T.sc22);(focus (first|exact rd_nil|(apply rd_given;(focus assumption);(focus (first|exact freeG0|exact freeG1|(apply freeG2S;(focus ((repeat (first|exact mH|refine mT ?_));done));omega;exact freeG1)|(apply freeG2;(focus ((repeat (first|exact mH|refine mT ?_));done));(first|exact freeG1|(apply freeG2;(focus ((repeat (first|exact mH|refine mT ?_));done));exact freeG1))))))|(apply rd_row;(focus ((repeat (first|exact mH|refine mT ?_));done));(focus (first|exact freeR0|exact freeR1|(refine freeR2 ?_ ?_;(focus ((repeat (first|(apply apartRS1;(focus ((repeat (first|exact mH|refine mT ?_));done));omega;done)|(apply apartRS2;(focus ((repeat (first|exact mH|refine mT ?_));done));omega;done)|refine apartR3 ?_));done));exact freeR1)|(refine freeR2 ?_ ?_;(focus ((repeat (first|(apply apartR1;(focus ((repeat (first|exact mH|refine mT ?_));done));done)|(apply apartR2;(focus ((repeat (first|exact mH|refine mT ?_));done));done)|refine apartR3 ?_));done));(first|exact freeR1|(refine freeR2 ?_ ?_;(focus ((repeat (first|(apply apartR1;(focus ((repeat (first|exact mH|refine mT ?_));done));done)|(apply apartR2;(focus ((repeat (first|exact mH|refine mT ?_));done));done)|refine apartR3 ?_));done));exact freeR1))))))));(focus (first|(apply at_cell;(focus (apply at_flat;(focus (intro _;rfl));(focus assumption)));rfl)|(apply at_cell0;(focus (apply at_flat;(focus (intro _;rfl));(focus assumption)));rfl)|(apply at_cell;(focus (apply at_mid0;(focus assumption)));rfl)|(apply at_cell0;(focus (apply at_mid0;(focus assumption)));rfl)|rfl)))))
          |(refine gStore ?_;(first
              |(apply F_storeS1 rfl rfl;(focus ((repeat (first|exact Upd.here|apply Upd.there));done));(first|exact T.sc3|exact T.sc4|exact T.sc5|exact T.sc22);(focus (first|rfl|assumption));(focus omega);(first|exact okst2|exact okst1|exact okst1'))))
          |(refine gBin ?_;(first
              |(refine S_lss rfl rfl rfl ?_)
              |(refine S_add rfl rfl ?_ rfl ?_;(focus (unfold rng;omega)))))
          |(refine S_done ?_)))
      |((first
          |(refine C_seq ?_)
          |(refine gReg ?_;(first
              |(refine gReg (i := 6) ?_;refine C_plain [(0,0)] (by kernel_rfl) (s := [⟨0,none,_,_,_⟩]) rfl ?_)
              |(refine gReg (i := 7) ?_;refine C_plain [(0,0),(1,0),(2,0),(3,0),(4,0)] (by kernel_rfl) (s := [⟨0,none,_,_,_⟩,⟨0,none,_,_,_⟩,⟨0,none,_,_,_⟩,⟨0,none,_,_,_⟩,⟨0,none,_,_,_⟩]) rfl ?_)
              |(refine gReg (i := 8) ?_;refine C_drawnS 6 rfl [(0,0),(1,0),(2,0),(3,0),(4,0),(5,0),(6,0),(7,0),(8,0),(9,0),(10,0),(11,0),(12,1),(13,0),(14,2)] T.mixed (by kernel_rfl) (s := [⟨0,none,_,_,_⟩,⟨0,none,_,_,_⟩,⟨0,none,_,_,_⟩,⟨0,none,_,_,_⟩,⟨0,none,_,_,_⟩,⟨0,none,_,_,_⟩,⟨0,none,_,_,_⟩,⟨0,none,_,_,_⟩,⟨0,none,_,_,_⟩,⟨0,none,_,_,_⟩,⟨0,none,_,_,_⟩,⟨0,none,_,_,_⟩,⟨1,none,_,_,_⟩,⟨0,none,_,_,_⟩,⟨2,none,_,_,_⟩]) rfl ?_)
              |(refine gReg (i := 9) ?_;refine C_plain [(0,0),(1,0)] (by kernel_rfl) (s := [⟨0,none,_,_,_⟩,⟨0,none,_,_,_⟩]) rfl ?_)
              |(refine gReg (i := 10) ?_;refine C_plain [(0,0),(1,0)] (by kernel_rfl) (s := [⟨0,none,_,_,_⟩,⟨0,none,_,_,_⟩]) rfl ?_)))
          |(refine C_split rfl ?_ ?_ <;> (intro hb;(try simp only [decide_eq_true_eq] at hb);(try simp only [decide_eq_false_iff_not] at hb);(try simp only [Bool.not_eq_true'] at hb);(try simp only [Bool.not_eq_false'] at hb);(try (exfalso;first|contradiction|omega));(try (have hx2 := hp2 hb))))
          |(refine C_skip ?_)
          |(refine C_exit ?_)
          |(refine C_block ?_)))
      |(refine gE ?_;(first
          |(refine E_then ?_)
          |(refine E_thenX ?_)
          |(refine E_block ?_)
          |(refine E_blockY ?_)
          |(refine E_calm ?_))))
    · have hkz : (((x.2.2.2.2.2.2.1 + (j : Int)).toNat : Nat) : Int) = x.2.2.2.2.2.2.1 + (j : Int) := Int.toNat_of_nonneg (by omega)
      have hkl : (x.2.2.2.2.2.2.1 + (j : Int)).toNat < e := by omega
      have hby : byteP (ctFragPacket x) (((x.2.2.2.2.2.2.1 + (j : Int)).toNat : Nat) : Int) = ix x.2.2.2.2.2.2.2.2.2 j := by
        rw [hkz, e7, show x.2.2.2.2.2.2.1 + (j : Int) - x.2.2.2.2.2.2.1 = (j : Int) by omega]; rfl
      have hhb : hasB (ctFragPacket x) (((x.2.2.2.2.2.2.1 + (j : Int)).toNat : Nat) : Int) = true := hasB_iff.2 ⟨by omega, by omega⟩
      refine E_roundS (α := Nat × List Int × List Bool) (j + 1, ds.set (x.2.2.2.2.2.2.1 + (j : Int)).toNat (ix x.2.2.2.2.2.2.2.2.2 j), ks.set (x.2.2.2.2.2.2.1 + (j : Int)).toNat true) ⟨by dsimp only; omega, ?_, ?_, ?_⟩ (by dsimp only; omega) ⟨rfl, rfl, rfl, rfl, rfl, rfl, rfl, rfl, rfl, rfl, trivial⟩ ?_
      · have := hR.set hag hmem hhb
        rwa [hby] at this
      · exact fun j' c h1 h2 => (hK j' c h1 h2).set
      · have := hN.step (k := (x.2.2.2.2.2.2.1 + (j : Int)).toNat) (by rw [hkz, e1]) (by rw [hR.2.1]; exact hkl)
        dsimp only
        rw [show offP (ctFragPacket x) + ((j + 1 : Nat) : Int) = offP (ctFragPacket x) + (j : Int) + 1 by omega]
        exact this
      · rw [setBo ks _ true (by rw [hR.2.1]; exact hkl), setBy ds _ _ (by rw [hR.1]; exact hkl)]
        exact entA
    · refine E_roundS (α := Nat × List Int × List Bool) (i + 1,ds,ks) ⟨by dsimp only;omega,hR,?_⟩ (by dsimp only;omega) ⟨rfl,rfl,rfl,rfl,rfl,rfl,trivial⟩ entA
      intro j' c h1 h2
      rcases Nat.lt_or_ge j' i with h3 | h3
      · exact hK j' c h3 h2
      · have h4 : j' = i := by dsimp only at h1; omega
        subst h4
        rw [hq5] at h2
        cases h2
        have hje : j = x.2.2.2.2.2.2.2.2.2.length := by omega
        rw [hje] at hN
        exact hN
  · have hie : i = l.length := by omega
    have hkn2 : ∀ c ∈ l.map ctFragPacket, Known c (endP c) ks := fun c hc => by
      obtain ⟨j, hj⟩ := List.getElem?_of_mem hc
      have hjl : j < (l.map ctFragPacket).length := (List.getElem?_eq_some_iff.1 hj).1
      rw [List.length_map] at hjl
      exact hK j c (by omega) hj
    have hiff : ∀ a : Nat, a < e → (ks[a]? = some true ↔ ((l.map ctFragPacket).any fun c => hasB c (a : Int)) = true) := fun a ha => by
      constructor
      · intro h
        obtain ⟨c, hc, hb⟩ := (hR.2.2 a h).1
        exact List.any_eq_true.2 ⟨c, hc, hb⟩
      · intro h
        obtain ⟨c, hc, hb⟩ := List.any_eq_true.1 h
        have hb := hasB_iff.1 hb
        exact hkn2 c hc a hb.1 hb.2
    refine C_loop (α := Nat) (fun a => [(49, .int .i64 (a : Int)), (48, .int .i64 (e : Int)), (47, sk), (6, sd)]) (fun _ => [.row sk 4 1 e (ks.flatMap clBo), .row sd 5 1 e (ds.flatMap clBy)])
      (fun a => a ≤ e ∧ ∀ j, j < a → ks[j]? = some true) (fun a => e - a) 0 ⟨Nat.zero_le _, fun j h => by omega⟩ ⟨rfl, rfl, rfl, rfl, trivial⟩ (List.Sublist.refl _) ?_
    rintro a ⟨ha, hall⟩
    obtain ⟨kv, hkv⟩ : ∃ b, ix ks a = b := ⟨_, rfl⟩
    have hkk : (a : Int) < (e : Int) → ks[a]? = some kv := fun h => by rw [← hkv]; exact nthD (by rw [hR.2.1]; exact h)
    repeat' (first
      |(refine gS ?_;(first
          |(refine S_move rfl rfl ?_)
          |(refine S_assign rfl rfl ?_)
          |(apply F_idx rfl rfl rfl;(first|exact T.sl22|exact T.sl27|exact T.sl110);(focus rfl);(focus (first|exact len_nil|(apply len_given;assumption)|(apply len_row;(focus ((repeat (first|exact mH|refine mT ?_));done)))|(apply len_isN;assumption)));(focus omega))
          |(refine gLoad ?_;(first
              |(apply F_loadS1 rfl rfl;(first|exact T.sc3|exact T.sc4|exact T.sc5|exact T.sc22);(focus (first|exact rd_nil|(apply rd_given;(focus assumption);(focus (first|exact freeG0|exact freeG1|(apply freeG2S;(focus ((repeat (first|exact mH|refine mT ?_));done));omega;exact freeG1)|(apply freeG2;(focus ((repeat (first|exact mH|refine mT ?_));done));(first|exact freeG1|(apply freeG2;(focus ((repeat (first|exact mH|refine mT ?_));done));exact freeG1))))))|(apply rd_row;(focus ((repeat (first|exact mH|refine mT ?_));done));(focus (first|exact freeR0|exact freeR1|(refine freeR2 ?_ ?_;(focus ((repeat (first|(apply apartRS1;(focus ((repeat (first|exact mH|refine mT ?_));done));omega;done)|(apply apartRS2;(focus ((repeat (first|exact mH|refine mT ?_));done));omega;done)|refine apartR3 ?_));done));exact freeR1)|(refine freeR2 ?_ ?_;(focus ((repeat (first|(apply apartR1;(focus ((repeat (first|exact mH|refine mT ?_));done));done)|(apply apartR2;(focus ((repeat (first|exact mH|refine mT ?_));done));done)|refine apartR3 ?_));done));(first|exact freeR1|(refine freeR2 ?_ ?_;(focus ((repeat (first|(apply apartR1;(focus ((repeat (first|exact mH|refine mT ?_));done));done)|(apply apartR2;(focus ((repeat (first|exact mH|refine mT ?_));done));done)|refine apartR3 ?_));done));exact freeR1))))))));(focus (first|(apply at_cell;(focus (apply at_flat;(focus (intro _;rfl));(focus assumption)));rfl)|(apply at_cell0;(focus (apply at_flat;(focus (intro _;rfl));(focus assumption)));rfl)|(apply at_cell;(focus (apply at_mid0;(focus assumption)));rfl)|(apply at_cell0;(focus (apply at_mid0;(focus assumption)));rfl)|rfl)))))
          |(refine gBin ?_;(first
              |(refine S_lss rfl rfl rfl ?_)
              |(refine S_add rfl rfl ?_ rfl ?_;(focus (unfold rng;omega)))))
          |(refine S_not rfl rfl ?_)
          |(refine S_done ?_)))
      |((first
          |(refine C_seq ?_)
          |(refine gReg ?_;(first
              |(refine gReg (i := 12) ?_;refine C_plain [(0,0)] (by kernel_rfl) (s := [⟨0,none,_,_,_⟩]) rfl ?_)
              |(refine gReg (i := 13) ?_;refine C_plain [(0,0),(1,0),(2,0)] (by kernel_rfl) (s := [⟨0,none,_,_,_⟩,⟨0,none,_,_,_⟩,⟨0,none,_,_,_⟩]) rfl ?_)
              |(refine gReg (i := 14) ?_;refine C_plain [(0,0),(1,0)] (by kernel_rfl) (s := [⟨0,none,_,_,_⟩,⟨0,none,_,_,_⟩]) rfl ?_)
              |(refine gReg (i := 15) ?_;refine C_plain [(0,0),(1,0)] (by kernel_rfl) (s := [⟨0,none,_,_,_⟩,⟨0,none,_,_,_⟩]) rfl ?_)
              |(refine gReg (i := 16) ?_;refine C_plain [(0,0),(1,0)] (by kernel_rfl) (s := [⟨0,none,_,_,_⟩,⟨0,none,_,_,_⟩]) rfl ?_)
              |(refine gReg (i := 17) ?_;refine C_plain [(0,0),(1,0),(2,0)] (by kernel_rfl) (s := [⟨0,none,_,_,_⟩,⟨0,none,_,_,_⟩,⟨0,none,_,_,_⟩]) rfl ?_)))
          |(refine C_split rfl ?_ ?_ <;> (intro hb;(try simp only [decide_eq_true_eq] at hb);(try simp only [decide_eq_false_iff_not] at hb);(try simp only [Bool.not_eq_true'] at hb);(try simp only [Bool.not_eq_false'] at hb);(try (exfalso;first|contradiction|omega));(try (have hk2 := hkk hb))))
          |(refine C_skip ?_)
          |(refine C_exit ?_)
          |(refine C_ret ?_)
          |(refine C_block ?_)))
      |(refine gE ?_;(first
          |(refine E_then ?_)
          |(refine E_thenX ?_)
          |(refine E_thenR ?_)
          |(refine E_block ?_)
          |(refine E_blockY ?_)
          |(refine E_blockR ?_)
          |(apply E_ret2 rfl;(first|exact Res.tmp rfl|(apply R_cellAll rfl;(focus ((repeat (first|exact mH|refine mT ?_));done));exact T.rw24)|(apply R_cell1 rfl;(focus ((repeat (first|exact mH|refine mT ?_));done));(first|exact T.sc3|exact T.sc4|exact T.sc5|exact T.sc22)));(first|exact Res.tmp rfl|(apply R_cellAll rfl;(focus ((repeat (first|exact mH|refine mT ?_));done));exact T.rw24)|(apply R_cell1 rfl;(focus ((repeat (first|exact mH|refine mT ?_));done));(first|exact T.sc3|exact T.sc4|exact T.sc5|exact T.sc22)))))))
    · have hkf : kv = false := by assumption
      have hnot : ¬ ((List.range e).all fun a : Nat => (l.map ctFragPacket).any fun c => hasB c (a : Int)) = true := fun h => by
        have h2 := (hiff a (by omega)).2 (List.all_eq_true.1 h a (List.mem_range.2 (by omega)))
        rw [hk2, hkf] at h2; cases h2
      refine retX (((.slice none 0 0,[]),false) : MSuint8 × Bool) ?_ rfl (Ent.trans (Ent.ghost 5 1) entA)
      exact ⟨fun h => (by cases h), iff_of_false (by decide) hnot, fun _ => rfl⟩
    · have hkf : kv = true := by assumption
      refine E_round (α := Nat) (a + 1) ⟨by omega, fun j hj => ?_⟩ (by omega) ⟨rfl, rfl, rfl, rfl, trivial⟩ (List.Sublist.refl _)
      rcases Nat.lt_or_ge j a with h | h
      · exact hall j h
      · have : j = a := by omega
        subst this
        rw [hk2, hkf]
    · have hae : a = e := by omega
      subst hae
      have hds : ds = (List.range a).map fun z : Nat => byteL (l.map ctFragPacket) (z : Int) := by
        apply List.ext_getElem?
        intro j
        rcases Nat.lt_or_ge j a with h | h
        · rw [(hR.2.2 j (hall j h)).2, List.getElem?_map, List.getElem?_range h]; rfl
        · rw [List.getElem?_eq_none (by rw [hR.1]; exact h), List.getElem?_eq_none (by simpa using h)]
      refine retX (((sd, ds), true) : MSuint8 × Bool) ?_ rfl ?_
      · exact ⟨fun _ => hds, iff_of_true rfl (List.all_eq_true.2 fun j hj => (hiff j (List.mem_range.1 hj)).1 (hall j (List.mem_range.1 hj))), fun h => by cases h⟩
      have hda : a = ds.length := hR.1.symm
      have hcl : ds.flatMap clBy = ds.flatMap fun y : Int => ([.int .u8 y] : List Value) := rfl
      rw [hcl]
      dsimp only
      have hE : Blk.row sd 5 1 a (ds.flatMap fun y : Int => ([.int .u8 y] : List Value)) = Blk.row sd 5 1 ds.length (ds.flatMap fun y : Int => ([.int .u8 y] : List Value)) := by rw [← hda]
      rw [hE]
      exact entA
end Go.Proofs.Ytodhjpnfokkfeaa

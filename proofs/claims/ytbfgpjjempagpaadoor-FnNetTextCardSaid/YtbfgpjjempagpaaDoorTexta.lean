/- The texts of addresses and prefixes: what both write. -/
import Derived.Test.YtbfgpjjempagpaaDoorShelfA
import Derived.Test.YtbfgpjjempagpaaDoorSymj
import Derived.Test.YtbfgpjjempagpaaDoorBas
import Derived.Test.YtbfgpjjempagpaaDoorNeta
import Derived.Lib.ItoaMem
import Derived.Lib.SmallJoins
set_option linter.unusedSimpArgs false
set_option linter.unusedVariables false
namespace Go.Proofs.YtbfgpjjempagpaaDoor
open Go Go.RowKit Go.Lib
/-- one byte -/
theorem S_sOf1 {P : Program} {n : Nat} {w0 : World} {r : Option (List Nat)} {Q : Exit → Act → World → Prop} {E : List (Nat × Value)} {L : List Blk} {l : List Stp} {d : Nat} {ty ta tb e : TypeId} {x : Operand} {v : Value} {z : Int} (ha : P.underlying ta = some (.slice e)) (he8 : P.underlying e = some (.int .u8)) (hb : P.underlying tb = some .string) (hx : ev E x = some v) (hr : Rd w0 L r v 1 1 [.int .u8 z]) (hz : 0 ≤ z ∧ z ≤ 255) (hd : Nat.blt d n = true) (h : GoS P n w0 r Q ((d, .string (str [UInt8.ofNat z.toNat])) :: E) L l) : GoS P n w0 r Q E L (⟨0, none, some d, .convert ta tb x, ty⟩ :: l) := by
  have e1 : ([UInt8.ofNat z.toNat].map fun b => Value.int .u8 (b.toNat : Int)) = [.int .u8 z] := by
    simp
    omega
  exact S_sOf (bs := [UInt8.ofNat z.toNat]) ha he8 hb hx (by rw [e1]; exact hr) hd h
theorem S_sub8 {P : Program} {n : Nat} {w0 : World} {r : Option (List Nat)} {Q : Exit → Act → World → Prop} {E : List (Nat × Value)} {L : List Blk} {l : List Stp} {d : Nat} {ty t t' : TypeId} {x y : Operand} {p q : Int} (hx : ev E x = some (.int .u8 p)) (hy : ev E y = some (.int .u8 q)) (hr : 0 ≤ p - q) (hr2 : p - q ≤ 255) (hd : Nat.blt d n = true) (h : GoS P n w0 r Q ((d, .int .u8 (p - q)) :: E) L l) : GoS P n w0 r Q E L (⟨0, none, some d, .binOp .sub t x y t', ty⟩ :: l) :=
  S_read hd (fun ρ w he _ w' _ => by
    have e : IntKind.u8.wrap (p - q) = p - q := by rw [IntKind.wrap_u8]; omega
    have hx := he _ _ hx
    have hy := he _ _ hy
    simp [Stp.oper, execOp, hx, hy, go_sem, e]) h
/-- the table that the library reads -/
def Tab (w : World) : Prop := TabIs Tryd.prog w "internal/strconv.uint64pow10" .u64 pow10Tab
theorem gPow : ∃ g, Tryd.prog.globalNamed "internal/strconv.uint64pow10" = some g := Option.isSome_iff_exists.1 (by kernel_rfl)
theorem Tab.ext {w w' : World} (h : Tab w) (k : Ext w w') : Tab w' := by
  obtain ⟨g, hg⟩ := gPow
  exact Joins.tab_stays hg h k (Nat.le_refl _)
theorem ext_grow (w : World) (k : Nat) (os : Array Obj) : Ext w (Sort.grow (w.drewN k) os) := by
  refine ⟨rfl, rfl, rfl, by simp [Sort.grow], fun i hi => ?_⟩
  simp only [Sort.grow, World.heap_drewN]
  rw [Array.getElem?_append_left hi]
theorem nDigits_5 {n : Nat} (h : n ≤ 99999) : (decDigits n).length ≤ 5 := by
  rw [decDigits_length]
  by_cases h1 : n < 10
  · rw [nDigits_small h1]; omega
  rw [nDigits_big h1]
  by_cases h2 : n / 10 < 10
  · rw [nDigits_small h2]; omega
  rw [nDigits_big h2]
  by_cases h3 : n / 10 / 10 < 10
  · rw [nDigits_small h3]; omega
  rw [nDigits_big h3]
  by_cases h4 : n / 10 / 10 / 10 < 10
  · rw [nDigits_small h4]; omega
  rw [nDigits_big h4, nDigits_small (by omega)]; omega
theorem itoa_c (n : Nat) (hn : n ≤ 9223372036854775807) (w : World) (ht : Tab w) : Calls Tryd.prog 27 #[.int .i64 (n : Int)] w (RetN (.string (str (decDigits n))) w) := by
  refine (Tryd.strconv_Itoa (n : Int) (by omega) (by omega) w ht).mono ?_
  rintro e w' ⟨rfl, k, os, rfl⟩
  refine ⟨?_, ext_grow w k os⟩
  rw [itoa_nonneg]; rfl
attribute [local irreducible] Calls GoS GoC GoE GoT Mid IsFl IsSc IsRw IsSl IsEl IsSt IsFs sp Mem Rd LenOf szR Tab
theorem l2Dec_c : ∀ n : Nat, n ≤ 65535 → ∀ w, Calls Tryd.prog 25 #[.int .i64 (n : Int)] w (RetN (.string (str (decDigits n))) w) := by
  intro n
  induction n using Nat.strongRecOn with
  | ind n ih =>
    intro hn w
    have ihq : ¬ (n : Int) < 10 → ∀ w, Calls Tryd.prog 25 #[.int .i64 ((n : Int) / 10)] w (RetN (.string (str (decDigits (n / 10)))) w) := fun h w => by
      have := ih (n / 10) (by omega) (by omega) w
      rwa [Int.natCast_ediv] at this
    have hlen := nDigits_5 (n := n / 10) (by omega)
    have hlit : Value.string { data := #[] } = .string (str []) := by unfold str; rfl
    refine enter (n := 20) (E := [(0, _)]) Tryd.func25 rfl rfl rfl rfl ?_
    repeat' (first
      |(refine gS ?_;(first
          |(refine S_move rfl rfl ?_)
          |(refine S_assign rfl rfl ?_)
          |(apply F_bs0 rfl rfl;exact T.el35;rfl;intro sv;(try (refine S_fact (row_one (v := sv) (by (focus ((repeat (first|exact mH|refine mT ?_));done)))) (fun hone => ?_))))
          |(apply F_bs rfl rfl;exact T.el35;rfl;rfl;rfl;rfl;(focus ((repeat (first|exact Dense.nil|(apply Dense.cons;rfl;rfl)));done));intro sv;(try (refine S_fact (row_one (v := sv) (by (focus ((repeat (first|exact mH|refine mT ?_));done)))) (fun hone => ?_))))
          |(refine gCall ?_;(first
              |(show GoS _ _ _ _ _ _ _ (⟨_,_,_,.call ⟨.value (.func 25),_,_⟩,_⟩ :: _);refine S_callN (f := 25) rfl T.pf25 rfl (fun w hst => ihz w) rfl ?_)
              |((apply S_sOf1 Tryd.underlying35 Tryd.underlying5 Tryd.underlying9 rfl;(focus (apply rd_row;(focus ((repeat (first|exact mH|refine mT ?_));done));(first|exact freeR0|exact freeR1)));(focus omega);rfl))
              |((refine S_sAdd rfl rfl ?_ rfl ?_;(focus (simp only [List.length_cons,List.length_nil];omega))))))
          |(refine gBin ?_;(first
              |((apply S_sOf1 Tryd.underlying35 Tryd.underlying5 Tryd.underlying9 rfl;(focus (apply rd_row;(focus ((repeat (first|exact mH|refine mT ?_));done));(first|exact freeR0|exact freeR1)));(focus omega);rfl))
              |((refine S_sAdd rfl rfl ?_ rfl ?_;(focus (simp only [List.length_cons,List.length_nil];omega))))
              |(refine S_lss rfl rfl rfl ?_)
              |(refine S_add rfl rfl ?_ rfl ?_;(focus (unfold rng;omega)))
              |(refine S_rem rfl rfl ?_ ?_ rfl ?_;(focus omega);(focus omega))
              |(refine S_quo rfl rfl ?_ ?_ ?_ rfl ?_;(focus omega);(focus omega);(focus (unfold rng;omega)))
              |(refine S_remT rfl rfl ?_ rfl ?_;(focus omega))))
          |(refine S_conv8 rfl rfl Tryd.underlying3 Tryd.underlying5 ?_)
          |(refine S_done ?_)
          |((apply S_sOf1 Tryd.underlying35 Tryd.underlying5 Tryd.underlying9 rfl;(focus (apply rd_row;(focus ((repeat (first|exact mH|refine mT ?_));done));(first|exact freeR0|exact freeR1)));(focus omega);rfl))
          |((refine S_sAdd rfl rfl ?_ rfl ?_;(focus (simp only [List.length_cons,List.length_nil];omega))))))
      |((first
          |(refine C_seq ?_)
          |(refine gReg ?_;(first
              |(refine gReg (i := 0) ?_;refine C_plain [(0,0)] (by kernel_rfl) (s := [⟨0,none,_,_,_⟩]) rfl ?_)
              |(refine gReg (i := 1) ?_;refine C_plain [(0,0),(1,0)] (by kernel_rfl) (s := [⟨0,none,_,_,_⟩,⟨0,none,_,_,_⟩]) rfl ?_)
              |(refine gReg (i := 2) ?_;refine C_plain [(0,0),(1,0),(2,0),(3,2),(4,0),(5,0)] (by kernel_rfl) (s := [⟨0,none,_,_,_⟩,⟨0,none,_,_,_⟩,⟨0,none,_,_,_⟩,⟨2,none,_,_,_⟩,⟨0,none,_,_,_⟩,⟨0,none,_,_,_⟩]) rfl ?_)
              |(refine gReg (i := 3) ?_;refine C_drawnT (.br [(0,0),(1,0),(3,0),(4,0),(5,0),(6,0)] (.fin [(2,1),(7,1),(8,0),(9,0),(10,0)]) (.fin [(7,1),(8,0),(2,1),(9,0),(10,0)])) [] T.mixed (by kernel_rfl) (s := (.br [⟨0,none,_,_,_⟩,⟨0,none,_,_,_⟩,⟨0,none,_,_,_⟩,⟨0,none,_,_,_⟩,⟨0,none,_,_,_⟩,⟨0,none,_,_,_⟩] (.fin [⟨1,none,_,_,_⟩,⟨1,none,_,_,_⟩,⟨0,none,_,_,_⟩,⟨0,none,_,_,_⟩,⟨0,none,_,_,_⟩]) (.fin [⟨1,none,_,_,_⟩,⟨0,none,_,_,_⟩,⟨1,none,_,_,_⟩,⟨0,none,_,_,_⟩,⟨0,none,_,_,_⟩]))) rfl ?_)))
          |(refine C_true rfl ?_)
          |(refine C_false rfl ?_)
          |(refine C_split rfl ?_ ?_ <;> (intro hb;(try simp only [decide_eq_true_eq] at hb);(try simp only [decide_eq_false_iff_not] at hb);(try simp only [Bool.not_eq_true'] at hb);(try simp only [Bool.not_eq_false'] at hb);(try (exfalso;first|contradiction|omega));(try (have ihz := ihq hb))))
          |(refine C_skip ?_)
          |(refine C_exit ?_)
          |(refine C_ret ?_)
          |(refine C_block ?_)
          |(refine T_fin ?_)
          |(refine T_br ?_)))
      |(refine gE ?_;(first
          |(refine E_then ?_)
          |(refine E_thenX ?_)
          |(refine E_thenR ?_)
          |(refine E_block ?_)
          |(refine E_blockY ?_)
          |(refine E_blockR ?_)
          |(refine E_calm ?_)
          |(refine E_blockX rfl ?_)
          |(apply E_ret1 rfl;(first|exact Res.tmp rfl|(apply R_cellAll rfl;(focus ((repeat (first|exact mH|refine mT ?_));done));fail)|(apply R_cell1 rfl;(focus ((repeat (first|exact mH|refine mT ?_));done));fail)))
          |(apply E_ret2 rfl;(first|exact Res.tmp rfl|(apply R_cellAll rfl;(focus ((repeat (first|exact mH|refine mT ?_));done));fail)|(apply R_cell1 rfl;(focus ((repeat (first|exact mH|refine mT ?_));done));fail));(first|exact Res.tmp rfl|(apply R_cellAll rfl;(focus ((repeat (first|exact mH|refine mT ?_));done));fail)|(apply R_cell1 rfl;(focus ((repeat (first|exact mH|refine mT ?_));done));fail)))
          |(apply E_ret3 rfl;(first|exact Res.tmp rfl|(apply R_cellAll rfl;(focus ((repeat (first|exact mH|refine mT ?_));done));fail)|(apply R_cell1 rfl;(focus ((repeat (first|exact mH|refine mT ?_));done));fail));(first|exact Res.tmp rfl|(apply R_cellAll rfl;(focus ((repeat (first|exact mH|refine mT ?_));done));fail)|(apply R_cell1 rfl;(focus ((repeat (first|exact mH|refine mT ?_));done));fail));(first|exact Res.tmp rfl|(apply R_cellAll rfl;(focus ((repeat (first|exact mH|refine mT ?_));done));fail)|(apply R_cell1 rfl;(focus ((repeat (first|exact mH|refine mT ?_));done));fail)))
          | (refine E_both ?_ ?_))))
    · refine retN ?_
      rw [decDigits_one (by omega)]
      congr 3
      congr 1
      omega
    all_goals
      refine retN ?_
      rw [decDigits.eq_def n, dif_neg (by omega)]
      congr 5
      omega
theorem l2DecZ_c (z : Int) (h : 0 ≤ z ∧ z ≤ 65535) (w : World) : Calls Tryd.prog 25 #[.int .i64 z] w (RetN (.string (str (decDigits z.toNat))) w) := by
  have := l2Dec_c z.toNat (by omega) w
  rwa [Int.toNat_of_nonneg h.1] at this
theorem itoaZ_c (z : Int) (h : 0 ≤ z ∧ z ≤ 9223372036854775807) (w : World) (ht : Tab w) : Calls Tryd.prog 27 #[.int .i64 z] w (RetN (.string (str (decDigits z.toNat))) w) := by
  have := itoa_c z.toNat (by omega) w ht
  rwa [Int.toNat_of_nonneg h.1] at this
def addrText (a : Int) : List UInt8 := bif inB a 0 65535 then decDigits (a / 256).toNat ++ [46] ++ decDigits (a % 256).toNat else []
theorem addr_len {a : Int} (h : inB a 0 65535 = true) : (decDigits (a / 256).toNat).length ≤ 5 ∧ (decDigits (a % 256).toNat).length ≤ 5 := by
  have := inB_t h
  exact ⟨nDigits_5 (by omega), nDigits_5 (by omega)⟩
theorem addrText_len (a : Int) : (addrText a).length ≤ 11 := by
  unfold addrText
  cases h : inB a 0 65535
  · simp
  · have := addr_len h
    simp only [cond_true, List.length_append, List.length_cons, List.length_nil]; omega
theorem specNetAddrText_c (a : Int) (w : World) : Calls Tryd.prog 8 #[.int .i64 a] w (RetN (.string (str (addrText a))) w) := by
  refine enter (n := 14) (E := [(0, _)]) Tryd.func8 rfl rfl rfl rfl ?_
  repeat' (first
    |(refine gS ?_;(first
        |(refine S_move rfl rfl ?_)
        |(refine S_assign rfl rfl ?_)
        |(refine gCall ?_;(first
            |(show GoS _ _ _ _ _ _ _ (⟨_,_,_,.call ⟨.value (.func 24),_,_⟩,_⟩ :: _);refine S_callN (f := 24) rfl T.pf24 rfl (fun w hst => l1In_c _ _ _ w) rfl ?_)
            |(show GoS _ _ _ _ _ _ _ (⟨_,_,_,.call ⟨.value (.func 25),_,_⟩,_⟩ :: _);refine S_callN (f := 25) rfl T.pf25 rfl (fun w hst => l2DecZ_c _ (by omega) w) rfl ?_)
            |((refine S_sAdd rfl rfl ?_ rfl ?_;(focus (simp only [List.length_append,List.length_cons,List.length_nil];omega))))))
        |(refine gBin ?_;(first
            |((refine S_sAdd rfl rfl ?_ rfl ?_;(focus (simp only [List.length_append,List.length_cons,List.length_nil];omega))))
            |(refine S_add rfl rfl ?_ rfl ?_;(focus (unfold rng;omega)))
            |(refine S_rem rfl rfl ?_ ?_ rfl ?_;(focus omega);(focus omega))
            |(refine S_quo rfl rfl ?_ ?_ ?_ rfl ?_;(focus omega);(focus omega);(focus (unfold rng;omega)))
            |(refine S_remT rfl rfl ?_ rfl ?_;(focus omega))))
        |(refine S_not rfl rfl ?_)
        |(refine S_done ?_)
        |((refine S_sAdd rfl rfl ?_ rfl ?_;(focus (simp only [List.length_append,List.length_cons,List.length_nil];omega))))))
    |(refine gC ?_;(first
        |(refine C_seq ?_)
        |(refine gReg ?_;(first
            |(refine gReg (i := 0) ?_;refine C_plain [(0,0)] (by kernel_rfl) (s := [⟨0,none,_,_,_⟩]) rfl ?_)
            |(refine gReg (i := 1) ?_;refine C_plain [(0,0),(1,2),(2,0)] (by kernel_rfl) (s := [⟨0,none,_,_,_⟩,⟨2,none,_,_,_⟩,⟨0,none,_,_,_⟩]) rfl ?_)
            |(refine gReg (i := 2) ?_;refine C_plain [(0,0)] (by kernel_rfl) (s := [⟨0,none,_,_,_⟩]) rfl ?_)
            |(refine gReg (i := 3) ?_;refine C_plain [(0,0),(1,0),(2,2),(3,0),(4,0),(5,0),(6,2),(7,0),(8,0)] (by kernel_rfl) (s := [⟨0,none,_,_,_⟩,⟨0,none,_,_,_⟩,⟨2,none,_,_,_⟩,⟨0,none,_,_,_⟩,⟨0,none,_,_,_⟩,⟨0,none,_,_,_⟩,⟨2,none,_,_,_⟩,⟨0,none,_,_,_⟩,⟨0,none,_,_,_⟩]) rfl ?_)))
        |(refine C_true rfl ?_)
        |(refine C_false rfl ?_)
        |(refine C_split rfl ?_ ?_ <;> (intro hb;(try simp only [decide_eq_true_eq] at hb);(try simp only [decide_eq_false_iff_not] at hb);(try simp only [Bool.not_eq_true'] at hb);(try simp only [Bool.not_eq_false'] at hb);(try (exfalso;first|contradiction|omega));(try (have hin := inB_t hb));(try (have hl := addr_len hb))))
        |(refine C_skip ?_)
        |(refine C_exit ?_)
        |(refine C_ret ?_)
        |(refine C_block ?_)))
    |(refine gE ?_;(first
        |(refine E_then ?_)
        |(refine E_thenX ?_)
        |(refine E_thenR ?_)
        |(refine E_block ?_)
        |(refine E_blockY ?_)
        |(refine E_blockR ?_)
        |(refine E_calm ?_)
        |(refine E_blockX rfl ?_)
        |(apply E_ret1 rfl;(first|exact Res.tmp rfl|(apply R_cellAll rfl;(focus ((repeat (first|exact mH|refine mT ?_));done));fail)|(apply R_cell1 rfl;(focus ((repeat (first|exact mH|refine mT ?_));done));fail)))
        |(apply E_ret2 rfl;(first|exact Res.tmp rfl|(apply R_cellAll rfl;(focus ((repeat (first|exact mH|refine mT ?_));done));fail)|(apply R_cell1 rfl;(focus ((repeat (first|exact mH|refine mT ?_));done));fail));(first|exact Res.tmp rfl|(apply R_cellAll rfl;(focus ((repeat (first|exact mH|refine mT ?_));done));fail)|(apply R_cell1 rfl;(focus ((repeat (first|exact mH|refine mT ?_));done));fail)))
        | (apply E_ret3 rfl; (first | exact Res.tmp rfl | (apply R_cellAll rfl; (focus ((repeat (first | exact List.Mem.head _ | refine List.Mem.tail _ ?_)); done)); fail) | (apply R_cell1 rfl; (focus ((repeat (first | exact List.Mem.head _ | refine List.Mem.tail _ ?_)); done)); fail)); (first | exact Res.tmp rfl | (apply R_cellAll rfl; (focus ((repeat (first | exact List.Mem.head _ | refine List.Mem.tail _ ?_)); done)); fail) | (apply R_cell1 rfl; (focus ((repeat (first | exact List.Mem.head _ | refine List.Mem.tail _ ?_)); done)); fail)); (first | exact Res.tmp rfl | (apply R_cellAll rfl; (focus ((repeat (first | exact List.Mem.head _ | refine List.Mem.tail _ ?_)); done)); fail) | (apply R_cell1 rfl; (focus ((repeat (first | exact List.Mem.head _ | refine List.Mem.tail _ ?_)); done)); fail))))))
  all_goals (refine retN ?_; simp only [addrText, *]; rfl)
theorem implNetAddrText_c (a : Int) (w : World) (ht : Tab w) : Calls Tryd.prog 9 #[.int .i64 a] w (RetN (.string (str (addrText a))) w) := by
  refine enter (n := 14) (E := [(0, _)]) Tryd.func9 rfl rfl rfl rfl ?_
  repeat' (first
    |(refine gS ?_;(first
        |(refine S_move rfl rfl ?_)
        |(refine S_assign rfl rfl ?_)
        |(refine gCall ?_;(first
            |(show GoS _ _ _ _ _ _ _ (⟨_,_,_,.call ⟨.value (.func 26),_,_⟩,_⟩ :: _);refine S_callN (f := 26) rfl T.pf26 rfl (fun w hst => within_c _ _ _ w) rfl ?_)
            |(show GoS _ _ _ _ _ _ _ (⟨_,_,_,.call ⟨.value (.func 27),_,_⟩,_⟩ :: _);refine S_callN (f := 27) rfl T.pf27 rfl (fun w hst => itoaZ_c _ (by omega) w (ht.ext hst.ext)) rfl ?_)
            |((refine S_sAdd rfl rfl ?_ rfl ?_;(focus (simp only [List.length_append,List.length_cons,List.length_nil];omega))))))
        |(refine gBin ?_;(first
            |((refine S_sAdd rfl rfl ?_ rfl ?_;(focus (simp only [List.length_append,List.length_cons,List.length_nil];omega))))
            |(refine S_add rfl rfl ?_ rfl ?_;(focus (unfold rng;omega)))
            |(refine S_rem rfl rfl ?_ ?_ rfl ?_;(focus omega);(focus omega))
            |(refine S_quo rfl rfl ?_ ?_ ?_ rfl ?_;(focus omega);(focus omega);(focus (unfold rng;omega)))
            |(refine S_remT rfl rfl ?_ rfl ?_;(focus omega))))
        |(refine S_not rfl rfl ?_)
        |(refine S_done ?_)
        |((refine S_sAdd rfl rfl ?_ rfl ?_;(focus (simp only [List.length_append,List.length_cons,List.length_nil];omega))))))
    |(refine gC ?_;(first
        |(refine C_seq ?_)
        |(refine gReg ?_;(first
            |(refine gReg (i := 0) ?_;refine C_plain [(0,0)] (by kernel_rfl) (s := [⟨0,none,_,_,_⟩]) rfl ?_)
            |(refine gReg (i := 1) ?_;refine C_plain [(0,0),(1,2),(2,0)] (by kernel_rfl) (s := [⟨0,none,_,_,_⟩,⟨2,none,_,_,_⟩,⟨0,none,_,_,_⟩]) rfl ?_)
            |(refine gReg (i := 2) ?_;refine C_plain [(0,0)] (by kernel_rfl) (s := [⟨0,none,_,_,_⟩]) rfl ?_)
            |(refine gReg (i := 3) ?_;refine C_plain [(0,0),(1,0),(2,2),(3,0),(4,0),(5,0),(6,2),(7,0),(8,0)] (by kernel_rfl) (s := [⟨0,none,_,_,_⟩,⟨0,none,_,_,_⟩,⟨2,none,_,_,_⟩,⟨0,none,_,_,_⟩,⟨0,none,_,_,_⟩,⟨0,none,_,_,_⟩,⟨2,none,_,_,_⟩,⟨0,none,_,_,_⟩,⟨0,none,_,_,_⟩]) rfl ?_)))
        |(refine C_true rfl ?_)
        |(refine C_false rfl ?_)
        |(refine C_split rfl ?_ ?_ <;> (intro hb;(try simp only [decide_eq_true_eq] at hb);(try simp only [decide_eq_false_iff_not] at hb);(try simp only [Bool.not_eq_true'] at hb);(try simp only [Bool.not_eq_false'] at hb);(try (exfalso;first|contradiction|omega));(try (have hin := inB_t hb));(try (have hl := addr_len hb))))
        |(refine C_skip ?_)
        |(refine C_exit ?_)
        |(refine C_ret ?_)
        |(refine C_block ?_)))
    |(refine gE ?_;(first
        |(refine E_then ?_)
        |(refine E_thenX ?_)
        |(refine E_thenR ?_)
        |(refine E_block ?_)
        |(refine E_blockY ?_)
        |(refine E_blockR ?_)
        |(refine E_calm ?_)
        |(refine E_blockX rfl ?_)
        |(apply E_ret1 rfl;(first|exact Res.tmp rfl|(apply R_cellAll rfl;(focus ((repeat (first|exact mH|refine mT ?_));done));fail)|(apply R_cell1 rfl;(focus ((repeat (first|exact mH|refine mT ?_));done));fail)))
        |(apply E_ret2 rfl;(first|exact Res.tmp rfl|(apply R_cellAll rfl;(focus ((repeat (first|exact mH|refine mT ?_));done));fail)|(apply R_cell1 rfl;(focus ((repeat (first|exact mH|refine mT ?_));done));fail));(first|exact Res.tmp rfl|(apply R_cellAll rfl;(focus ((repeat (first|exact mH|refine mT ?_));done));fail)|(apply R_cell1 rfl;(focus ((repeat (first|exact mH|refine mT ?_));done));fail)))
        | (apply E_ret3 rfl; (first | exact Res.tmp rfl | (apply R_cellAll rfl; (focus ((repeat (first | exact List.Mem.head _ | refine List.Mem.tail _ ?_)); done)); fail) | (apply R_cell1 rfl; (focus ((repeat (first | exact List.Mem.head _ | refine List.Mem.tail _ ?_)); done)); fail)); (first | exact Res.tmp rfl | (apply R_cellAll rfl; (focus ((repeat (first | exact List.Mem.head _ | refine List.Mem.tail _ ?_)); done)); fail) | (apply R_cell1 rfl; (focus ((repeat (first | exact List.Mem.head _ | refine List.Mem.tail _ ?_)); done)); fail)); (first | exact Res.tmp rfl | (apply R_cellAll rfl; (focus ((repeat (first | exact List.Mem.head _ | refine List.Mem.tail _ ?_)); done)); fail) | (apply R_cell1 rfl; (focus ((repeat (first | exact List.Mem.head _ | refine List.Mem.tail _ ?_)); done)); fail))))))
  all_goals (refine retN ?_; simp only [addrText, *]; rfl)
def netText (a l : Int) : List UInt8 := bif okP a l then addrText a ++ [47] ++ decDigits l.toNat else []
theorem len_l {a l : Int} (h : okP a l = true) : (decDigits l.toNat).length ≤ 5 := by
  have := okP_t h
  exact nDigits_5 (by omega)
theorem specNetText_c (a l : Int) (w : World) : Calls Tryd.prog 10 #[.agg #[.int .i64 a, .int .i64 l]] w (RetN (.string (str (netText a l))) w) := by
  have hla := addrText_len a
  refine enter (n := 14) (E := [(0, _)]) Tryd.func10 rfl rfl rfl rfl ?_
  repeat' (first
    |(refine gS ?_;(first
        |(refine S_move rfl rfl ?_)
        |(refine S_assign rfl rfl ?_)
        |(apply F_field rfl rfl;(first|exact T.fl27_0|exact T.fl27_1))
        |(refine gLoad ?_;(first
            |(apply F_load1 rfl rfl;(focus ((repeat (first|exact mH|refine mT ?_));done));exact T.sc3;rfl;(focus (first|exact free0|exact free1)))
            |(apply F_loadAll rfl rfl;(focus ((repeat (first|exact mH|refine mT ?_));done));exact T.rw27;(focus (first|exact free0|exact free1)))
            |(apply F_loadP rfl rfl;(focus ((repeat (first|exact mH|refine mT ?_));done));exact T.rw27;(focus ((repeat (first|exact Take.nil|apply Take.here|apply Take.there));done));rfl;(focus (first|exact free0|exact free1)))
            |((refine S_sAdd rfl rfl ?_ rfl ?_;(focus (simp only [List.length_append,List.length_cons,List.length_nil];omega))))))
        |(refine gCall ?_;(first
            |(show GoS _ _ _ _ _ _ _ (⟨_,_,_,.call ⟨.value (.func 21),_,_⟩,_⟩ :: _);refine S_callN (f := 21) rfl T.pf21 rfl (fun w hst => specNetOk_c _ _ w) rfl ?_)
            |(show GoS _ _ _ _ _ _ _ (⟨_,_,_,.call ⟨.value (.func 8),_,_⟩,_⟩ :: _);refine S_callN (f := 8) rfl T.pf8 rfl (fun w hst => specNetAddrText_c _ w) rfl ?_)
            |(show GoS _ _ _ _ _ _ _ (⟨_,_,_,.call ⟨.value (.func 25),_,_⟩,_⟩ :: _);refine S_callN (f := 25) rfl T.pf25 rfl (fun w hst => l2DecZ_c _ (by omega) w) rfl ?_)
            |((refine S_sAdd rfl rfl ?_ rfl ?_;(focus (simp only [List.length_append,List.length_cons,List.length_nil];omega))))))
        |(refine gBin ?_;(first
            |((refine S_sAdd rfl rfl ?_ rfl ?_;(focus (simp only [List.length_append,List.length_cons,List.length_nil];omega))))
            |(refine S_add rfl rfl ?_ rfl ?_;(focus (unfold rng;omega)))))
        |(refine S_box rfl rfl rfl ?_;intro kb)
        |(refine S_not rfl rfl ?_)
        |(refine S_done ?_)
        |(refine S_box1 rfl rfl rfl rfl ?_;intro kb)
        |((refine S_sAdd rfl rfl ?_ rfl ?_;(focus (simp only [List.length_append,List.length_cons,List.length_nil];omega))))))
    |(refine gC ?_;(first
        |(refine C_seq ?_)
        |(refine gReg ?_;(first
            |(refine gReg (i := 0) ?_;refine C_plain [(0,2),(1,0)] (by kernel_rfl) (s := [⟨2,none,_,_,_⟩,⟨0,none,_,_,_⟩]) rfl ?_)
            |(refine gReg (i := 1) ?_;refine C_plain [(0,0),(1,2),(2,0)] (by kernel_rfl) (s := [⟨0,none,_,_,_⟩,⟨2,none,_,_,_⟩,⟨0,none,_,_,_⟩]) rfl ?_)
            |(refine gReg (i := 2) ?_;refine C_plain [(0,0)] (by kernel_rfl) (s := [⟨0,none,_,_,_⟩]) rfl ?_)
            |(refine gReg (i := 3) ?_;refine C_drawn [(0,0),(1,0),(4,0),(5,0),(2,1),(3,0),(6,1),(7,0),(8,0)] [] T.mixed (by kernel_rfl) (s := [⟨0,none,_,_,_⟩,⟨0,none,_,_,_⟩,⟨0,none,_,_,_⟩,⟨0,none,_,_,_⟩,⟨1,none,_,_,_⟩,⟨0,none,_,_,_⟩,⟨1,none,_,_,_⟩,⟨0,none,_,_,_⟩,⟨0,none,_,_,_⟩]) rfl ?_)))
        |(refine C_true rfl ?_)
        |(refine C_false rfl ?_)
        |(refine C_split rfl ?_ ?_ <;> (intro hb;(try simp only [decide_eq_true_eq] at hb);(try simp only [decide_eq_false_iff_not] at hb);(try simp only [Bool.not_eq_true'] at hb);(try simp only [Bool.not_eq_false'] at hb);(try (exfalso;first|contradiction|omega));(try (have hin := okP_t hb));(try (have hl := len_l hb))))
        |(refine C_skip ?_)
        |(refine C_exit ?_)
        |(refine C_ret ?_)
        |(refine C_block ?_)))
    |(refine gE ?_;(first
        |(refine E_then ?_)
        |(refine E_thenX ?_)
        |(refine E_thenR ?_)
        |(refine E_block ?_)
        |(refine E_blockY ?_)
        |(refine E_blockR ?_)
        |(refine E_calm ?_)
        |(refine E_blockX rfl ?_)
        |(apply E_ret1 rfl;(first|exact Res.tmp rfl|(apply R_cellAll rfl;(focus ((repeat (first|exact mH|refine mT ?_));done));exact T.rw27)|(apply R_cell1 rfl;(focus ((repeat (first|exact mH|refine mT ?_));done));exact T.sc3)))
        |(apply E_ret2 rfl;(first|exact Res.tmp rfl|(apply R_cellAll rfl;(focus ((repeat (first|exact mH|refine mT ?_));done));exact T.rw27)|(apply R_cell1 rfl;(focus ((repeat (first|exact mH|refine mT ?_));done));exact T.sc3));(first|exact Res.tmp rfl|(apply R_cellAll rfl;(focus ((repeat (first|exact mH|refine mT ?_));done));exact T.rw27)|(apply R_cell1 rfl;(focus ((repeat (first|exact mH|refine mT ?_));done));exact T.sc3)))
        | (apply E_ret3 rfl; (first | exact Res.tmp rfl | (apply R_cellAll rfl; (focus ((repeat (first | exact List.Mem.head _ | refine List.Mem.tail _ ?_)); done)); exact T.rw27) | (apply R_cell1 rfl; (focus ((repeat (first | exact List.Mem.head _ | refine List.Mem.tail _ ?_)); done)); exact T.sc3)); (first | exact Res.tmp rfl | (apply R_cellAll rfl; (focus ((repeat (first | exact List.Mem.head _ | refine List.Mem.tail _ ?_)); done)); exact T.rw27) | (apply R_cell1 rfl; (focus ((repeat (first | exact List.Mem.head _ | refine List.Mem.tail _ ?_)); done)); exact T.sc3)); (first | exact Res.tmp rfl | (apply R_cellAll rfl; (focus ((repeat (first | exact List.Mem.head _ | refine List.Mem.tail _ ?_)); done)); exact T.rw27) | (apply R_cell1 rfl; (focus ((repeat (first | exact List.Mem.head _ | refine List.Mem.tail _ ?_)); done)); exact T.sc3))))))
  all_goals (refine retN ?_; simp only [netText, *]; rfl)
theorem implNetText_c (a l : Int) (w : World) (ht : Tab w) : Calls Tryd.prog 12 #[.agg #[.int .i64 a, .int .i64 l]] w (RetN (.string (str (netText a l))) w) := by
  have hla := addrText_len a
  refine enter (n := 14) (E := [(0, _)]) Tryd.func12 rfl rfl rfl rfl ?_
  repeat' (first
    |(refine gS ?_;(first
        |(refine S_move rfl rfl ?_)
        |(refine S_assign rfl rfl ?_)
        |(apply F_field rfl rfl;(first|exact T.fl27_0|exact T.fl27_1))
        |(refine gLoad ?_;(first
            |(apply F_load1 rfl rfl;(focus ((repeat (first|exact mH|refine mT ?_));done));exact T.sc3;rfl;(focus (first|exact free0|exact free1)))
            |(apply F_loadAll rfl rfl;(focus ((repeat (first|exact mH|refine mT ?_));done));exact T.rw27;(focus (first|exact free0|exact free1)))
            |(apply F_loadP rfl rfl;(focus ((repeat (first|exact mH|refine mT ?_));done));exact T.rw27;(focus ((repeat (first|exact Take.nil|apply Take.here|apply Take.there));done));rfl;(focus (first|exact free0|exact free1)))
            |((refine S_sAdd rfl rfl ?_ rfl ?_;(focus (simp only [List.length_append,List.length_cons,List.length_nil];omega))))))
        |(refine gCall ?_;(first
            |(show GoS _ _ _ _ _ _ _ (⟨_,_,_,.call ⟨.value (.func 19),_,_⟩,_⟩ :: _);refine S_callN (f := 19) rfl T.pf19 rfl (fun w hst => implNetOk_c _ _ w) rfl ?_)
            |(show GoS _ _ _ _ _ _ _ (⟨_,_,_,.call ⟨.value (.func 9),_,_⟩,_⟩ :: _);refine S_callN (f := 9) rfl T.pf9 rfl (fun w hst => implNetAddrText_c _ w (ht.ext hst.ext)) rfl ?_)
            |(show GoS _ _ _ _ _ _ _ (⟨_,_,_,.call ⟨.value (.func 27),_,_⟩,_⟩ :: _);refine S_callN (f := 27) rfl T.pf27 rfl (fun w hst => itoaZ_c _ (by omega) w (ht.ext hst.ext)) rfl ?_)
            |((refine S_sAdd rfl rfl ?_ rfl ?_;(focus (simp only [List.length_append,List.length_cons,List.length_nil];omega))))))
        |(refine gBin ?_;(first
            |((refine S_sAdd rfl rfl ?_ rfl ?_;(focus (simp only [List.length_append,List.length_cons,List.length_nil];omega))))
            |(refine S_add rfl rfl ?_ rfl ?_;(focus (unfold rng;omega)))))
        |(refine S_box rfl rfl rfl ?_;intro kb)
        |(refine S_not rfl rfl ?_)
        |(refine S_done ?_)
        |(refine S_box1 rfl rfl rfl rfl ?_;intro kb)
        |((refine S_sAdd rfl rfl ?_ rfl ?_;(focus (simp only [List.length_append,List.length_cons,List.length_nil];omega))))))
    |(refine gC ?_;(first
        |(refine C_seq ?_)
        |(refine gReg ?_;(first
            |(refine gReg (i := 0) ?_;refine C_plain [(0,2),(1,0)] (by kernel_rfl) (s := [⟨2,none,_,_,_⟩,⟨0,none,_,_,_⟩]) rfl ?_)
            |(refine gReg (i := 1) ?_;refine C_plain [(0,0),(1,2),(2,0)] (by kernel_rfl) (s := [⟨0,none,_,_,_⟩,⟨2,none,_,_,_⟩,⟨0,none,_,_,_⟩]) rfl ?_)
            |(refine gReg (i := 2) ?_;refine C_plain [(0,0)] (by kernel_rfl) (s := [⟨0,none,_,_,_⟩]) rfl ?_)
            |(refine gReg (i := 3) ?_;refine C_drawn [(0,0),(1,0),(4,0),(5,0),(2,1),(3,0),(6,1),(7,0),(8,0)] [] T.mixed (by kernel_rfl) (s := [⟨0,none,_,_,_⟩,⟨0,none,_,_,_⟩,⟨0,none,_,_,_⟩,⟨0,none,_,_,_⟩,⟨1,none,_,_,_⟩,⟨0,none,_,_,_⟩,⟨1,none,_,_,_⟩,⟨0,none,_,_,_⟩,⟨0,none,_,_,_⟩]) rfl ?_)))
        |(refine C_true rfl ?_)
        |(refine C_false rfl ?_)
        |(refine C_split rfl ?_ ?_ <;> (intro hb;(try simp only [decide_eq_true_eq] at hb);(try simp only [decide_eq_false_iff_not] at hb);(try simp only [Bool.not_eq_true'] at hb);(try simp only [Bool.not_eq_false'] at hb);(try (exfalso;first|contradiction|omega));(try (have hin := okP_t hb));(try (have hl := len_l hb))))
        |(refine C_skip ?_)
        |(refine C_exit ?_)
        |(refine C_ret ?_)
        |(refine C_block ?_)))
    |(refine gE ?_;(first
        |(refine E_then ?_)
        |(refine E_thenX ?_)
        |(refine E_thenR ?_)
        |(refine E_block ?_)
        |(refine E_blockY ?_)
        |(refine E_blockR ?_)
        |(refine E_calm ?_)
        |(refine E_blockX rfl ?_)
        |(apply E_ret1 rfl;(first|exact Res.tmp rfl|(apply R_cellAll rfl;(focus ((repeat (first|exact mH|refine mT ?_));done));exact T.rw27)|(apply R_cell1 rfl;(focus ((repeat (first|exact mH|refine mT ?_));done));exact T.sc3)))
        |(apply E_ret2 rfl;(first|exact Res.tmp rfl|(apply R_cellAll rfl;(focus ((repeat (first|exact mH|refine mT ?_));done));exact T.rw27)|(apply R_cell1 rfl;(focus ((repeat (first|exact mH|refine mT ?_));done));exact T.sc3));(first|exact Res.tmp rfl|(apply R_cellAll rfl;(focus ((repeat (first|exact mH|refine mT ?_));done));exact T.rw27)|(apply R_cell1 rfl;(focus ((repeat (first|exact mH|refine mT ?_));done));exact T.sc3)))
        | (apply E_ret3 rfl; (first | exact Res.tmp rfl | (apply R_cellAll rfl; (focus ((repeat (first | exact List.Mem.head _ | refine List.Mem.tail _ ?_)); done)); exact T.rw27) | (apply R_cell1 rfl; (focus ((repeat (first | exact List.Mem.head _ | refine List.Mem.tail _ ?_)); done)); exact T.sc3)); (first | exact Res.tmp rfl | (apply R_cellAll rfl; (focus ((repeat (first | exact List.Mem.head _ | refine List.Mem.tail _ ?_)); done)); exact T.rw27) | (apply R_cell1 rfl; (focus ((repeat (first | exact List.Mem.head _ | refine List.Mem.tail _ ?_)); done)); exact T.sc3)); (first | exact Res.tmp rfl | (apply R_cellAll rfl; (focus ((repeat (first | exact List.Mem.head _ | refine List.Mem.tail _ ?_)); done)); exact T.rw27) | (apply R_cell1 rfl; (focus ((repeat (first | exact List.Mem.head _ | refine List.Mem.tail _ ?_)); done)); exact T.sc3))))))
  all_goals (refine retN ?_; simp only [netText, *]; rfl)
end Go.Proofs.YtbfgpjjempagpaaDoor

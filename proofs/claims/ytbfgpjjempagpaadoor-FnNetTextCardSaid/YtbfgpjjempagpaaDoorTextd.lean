/- Numbers and addresses out of texts: what both read. -/
import Derived.Test.YtbfgpjjempagpaaDoorTextc
import Derived.Test.YtbfgpjjempagpaaDoorTextl
import Derived.Test.YtbfgpjjempagpaaDoorTextb
import Derived.Test.YtbfgpjjempagpaaDoorShelfB
import Derived.Lib.AtoiErrMem
import Derived.Lib.AtoiAllCases
set_option linter.unusedSimpArgs false
set_option linter.unusedVariables false
namespace Go.Proofs.YtbfgpjjempagpaaDoor
open Go Go.RowKit Go.Lib
theorem str_data (l : List UInt8) : (str l).data.toList = l := by simp [str]
theorem ext_drewN (w : World) (k : Nat) : Ext w (w.drewN k) := ⟨rfl, rfl, rfl, Nat.le_refl _, fun _ _ => rfl⟩
theorem strCut_c (l : List UInt8) (c : UInt8) (hl : l.length ≤ 1048576) (w : World) (hw : LaidW w) : Calls Tryd.prog 30 #[.string (str l), .string (str [c])] w (RetN (.tuple #[.string (str (Lib.cut l [c]).1), .string (str (Lib.cut l [c]).2.1), .bool (Lib.cut l [c]).2.2]) w) := by
  obtain ⟨m, hm⟩ := hw.most
  refine (Tryd.strings_Cut (str l) (str [c]) m w (by rw [str_size]; omega) hm).mono ?_
  rintro e w' ⟨rfl, k, rfl⟩
  refine ⟨?_, ext_drewN w k⟩
  rw [str_data, str_data]; rfl
section
variable {P : Program} {n : Nat} {w0 : World} {r : Option (List Nat)} {Q : Exit → Act → World → Prop} {E : List (Nat × Value)} {L : List Blk} {l : List Stp} {d : Nat} {ty t t' : TypeId} {x : Operand} {ms : Array (String × TypeId)}
theorem run_eqIn0 (e : Nat) (w : World) (ht : P.underlying t = some (.interface ms)) : (Op.equalIn (e + 1) t .nilIface .nilIface).run P w = .ok true w := by simp [Op.equalIn, run_underlying ht]
theorem run_eqIn1 (e : Nat) {u : TypeId} {p : Value} (w : World) (ht : P.underlying t = some (.interface ms)) : (Op.equalIn (e + 1) t (.iface u p) .nilIface).run P w = .ok false w := by simp [Op.equalIn, run_underlying ht]
theorem S_neqNil0 (ht : P.underlying t = some (.interface ms)) (hx : ev E x = some .nilIface) (hd : Nat.blt d n = true) (h : GoS P n w0 r Q ((d, .bool false) :: E) L l) : GoS P n w0 r Q E L (⟨0, none, some d, .binOp .neq t x (.const .nilIface) t', ty⟩ :: l) :=
  S_read hd (fun ρ w he _ w' _ => by
    have hx := he _ _ hx
    have hy : ρ (.const .nilIface) = .nilIface := he (.const .nilIface) _ rfl
    have hb : (binOp .neq t .nilIface .nilIface).run P w' = .ok (.bool false) w' := by
      simp only [binOp]
      simp [Op.equal, Op.maxDepth, run_eqIn0 9999 w' ht]
    simp [Stp.oper, execOp, hx, hy, eqGuard, hb]) h
theorem S_neqNil1 {u : TypeId} {p : Value} (ht : P.underlying t = some (.interface ms)) (hx : ev E x = some (.iface u p)) (hd : Nat.blt d n = true) (h : GoS P n w0 r Q ((d, .bool true) :: E) L l) : GoS P n w0 r Q E L (⟨0, none, some d, .binOp .neq t x (.const .nilIface) t', ty⟩ :: l) :=
  S_read hd (fun ρ w he _ w' _ => by
    have hx := he _ _ hx
    have hy : ρ (.const .nilIface) = .nilIface := he (.const .nilIface) _ rfl
    have hb : (binOp .neq t (.iface u p) .nilIface).run P w' = .ok (.bool true) w' := by
      simp only [binOp]
      simp [Op.equal, Op.maxDepth, run_eqIn1 9999 w' ht]
    simp [Stp.oper, execOp, hx, hy, eqGuard, hb]) h
end
theorem atoi_c (l : List UInt8) (hl : l.length ≤ 1048576) (w : World) (he : Errs w) : Calls Tryd.prog 41 #[.string (str l)] w (RetX (fun q : Int × Value => (q.2 = .nilIface ∧ atoiAll l = .ok q.1) ∨ ((∃ t N, q.2 = .iface t (.pointer (some ⟨N, 0, none⟩))) ∧ ∀ v, atoiAll l ≠ .ok v)) (fun q => .tuple #[.int .i64 q.1, q.2]) (fun _ => []) w) := by
  have hs : (str l).size ≤ 281474976710656 := by rw [str_size]; omega
  have hd := str_data l
  have fin : ∀ (q : Int × Value) (w' : World), ((q.2 = .nilIface ∧ atoiAll l = .ok q.1) ∨ ((∃ t N, q.2 = .iface t (.pointer (some ⟨N, 0, none⟩))) ∧ ∀ v, atoiAll l ≠ .ok v)) → Ext w w' → RetX (fun q : Int × Value => (q.2 = .nilIface ∧ atoiAll l = .ok q.1) ∨ ((∃ t N, q.2 = .iface t (.pointer (some ⟨N, 0, none⟩))) ∧ ∀ v, atoiAll l ≠ .ok v)) (fun q => .tuple #[.int .i64 q.1, q.2]) (fun _ => []) w (.returned (.tuple #[.int .i64 q.1, q.2])) w' := fun q w' h k => ⟨q, h, rfl, k, by simp, .nil⟩
  obtain ⟨r, h⟩ : ∃ r, atoiAll l = r := ⟨_, rfl⟩
  cases r
  · refine (Any.strconv_Atoi_ok Tryd.laysC172 (str l) (by rw [str_size]; omega) _ (by rw [hd]; exact h) w).mono ?_
    rintro e w' ⟨rfl, hw⟩
    refine fin (_, .nilIface) w' (.inl ⟨rfl, h⟩) ?_
    rcases hw with rfl | ⟨t, rfl⟩
    · exact Ext.refl _
    · exact bytesWorld_below _ _ _
  · obtain ⟨t, p, hv⟩ := he.syn
    refine (Any.strconv_Atoi_syntax_var Tryd.laysC172 (str l) hs (by rw [hd]; exact h) t p w hv).mono ?_
    rintro e w' ⟨N, rfl, _, _, k⟩
    exact fin (0, _) w' (.inr ⟨⟨_, _, rfl⟩, fun v e => by rw [h] at e; cases e⟩) k
  · obtain ⟨t, p, hv⟩ := he.ran
    refine (Any.strconv_Atoi_range_var Tryd.laysC172 (str l) hs (by rw [hd]; exact h) t p w hv).mono ?_
    rintro e w' ⟨N, rfl, _, _, k⟩
    exact fin (_, _) w' (.inr ⟨⟨_, _, rfl⟩, fun v e => by rw [h] at e; cases e⟩) k
attribute [local irreducible] Calls GoS GoC GoE GoT Mid IsEq IsFl IsSc IsRw IsSl IsEl IsSt IsFs sp Mem Rd LenOf szR Tab
theorem atoi_le {l : List UInt8} {v : Int} (h : atoiAll l = .ok v) : v ≤ 9223372036854775807 := (atoiAll_bounds h).2
theorem decimal_c (l : List UInt8) (hl : l.length ≤ 1048576) (w : World) (hw : LaidW w) (he : Errs w) : Calls Tryd.prog 31 #[.string (str l)] w (RetN (.int .i64 (decV l)) w) := by
  refine enter (n := 23) (E := [(0, _)]) Tryd.func31 rfl rfl rfl rfl ?_
  repeat' (first
    |(refine gS ?_;(first
        |(refine gGuard ?_;(first
            |(refine S_on rfl ?_)
            |(refine S_off rfl rfl rfl ?_)
            |(refine S_offn rfl rfl ?_)
            |(refine S_offU rfl rfl ?_)
            |(refine S_offUn rfl ?_)
            |(refine S_gsplit rfl ?_ ?_ <;> (intro hb;(try simp only [decide_eq_true_eq] at hb);(try simp only [decide_eq_false_iff_not] at hb);(try simp only [Bool.not_eq_true'] at hb);(try simp only [Bool.not_eq_false'] at hb);(try (exfalso;first|contradiction|omega));(try (have hle := atoi_le hq))))))
        |(refine S_move rfl rfl ?_)
        |(refine S_assign rfl rfl ?_)
        |(refine gCall ?_;(first
            |(show GoS _ _ _ _ _ _ _ (⟨_,_,_,.call ⟨.value (.func 41),_,_⟩,_⟩ :: _);refine S_callX (f := 41) rfl T.pf41 rfl (fun w hst => atoi_c l hl w (he.ext hst.ext)) rfl (fun zz hzz => ?_);simp only [List.cons_append,List.nil_append];revert hzz;revert zz;rintro ⟨n,ev⟩ hq;dsimp only at hq ⊢;rcases hq with ⟨rfl,hq⟩|⟨⟨t,N,rfl⟩,hq⟩)
            |(show GoS _ _ _ _ _ _ _ (⟨_,_,_,.call ⟨.value (.func 27),_,_⟩,_⟩ :: _);refine S_callN (f := 27) rfl T.pf27 rfl (fun w hst => itoaZ_c _ (by omega) w (hw.tab.ext hst.ext)) rfl ?_)
            |((refine S_neqNil0 Tryd.underlying54 rfl rfl ?_))
            |((refine S_neqNil1 Tryd.underlying54 rfl rfl ?_))
            |((refine S_sNeq rfl rfl rfl ?_))))
        |(refine gBin ?_;(first
            |((refine S_neqNil0 Tryd.underlying54 rfl rfl ?_))
            |((refine S_neqNil1 Tryd.underlying54 rfl rfl ?_))
            |((refine S_sNeq rfl rfl rfl ?_))
            |(refine S_lss rfl rfl rfl ?_)
            |(refine S_neq rfl rfl rfl ?_)
            |(refine S_neqB Tryd.underlying4 rfl rfl rfl ?_)))
        |(refine gPick ?_;(first
            |(refine S_pickT rfl rfl rfl ?_)
            |(refine S_pickF rfl rfl rfl ?_)))
        |(refine S_extract rfl rfl rfl ?_)
        |(refine S_done ?_)
        |((refine S_neqNil0 Tryd.underlying54 rfl rfl ?_))
        |((refine S_neqNil1 Tryd.underlying54 rfl rfl ?_))
        |((refine S_sNeq rfl rfl rfl ?_))))
    |(refine gC ?_;(first
        |(refine C_seq ?_)
        |(refine gReg ?_;(first
            |(refine gReg (i := 0) ?_;refine C_plain [(0,0)] (by kernel_rfl) (s := [⟨0,none,_,_,_⟩]) rfl ?_)
            |(refine gReg (i := 1) ?_;refine C_plain [(0,0),(1,2),(2,0),(3,0),(4,0),(5,0),(6,0)] (by kernel_rfl) (s := [⟨0,none,_,_,_⟩,⟨2,none,_,_,_⟩,⟨0,none,_,_,_⟩,⟨0,none,_,_,_⟩,⟨0,none,_,_,_⟩,⟨0,none,_,_,_⟩,⟨0,none,_,_,_⟩]) rfl ?_)
            |(refine gReg (i := 2) ?_;refine C_plain [(0,0),(1,0),(2,0),(3,0),(4,0),(5,0),(6,0),(7,0),(8,2),(9,0),(10,0),(11,0)] (by kernel_rfl) (s := [⟨0,none,_,_,_⟩,⟨0,none,_,_,_⟩,⟨0,none,_,_,_⟩,⟨0,some (12,false),_,_,_⟩,⟨0,some (12,false),_,_,_⟩,⟨0,none,_,_,_⟩,⟨0,none,_,_,_⟩,⟨0,some (16,false),_,_,_⟩,⟨2,some (16,false),_,_,_⟩,⟨0,some (16,false),_,_,_⟩,⟨0,some (16,false),_,_,_⟩,⟨0,none,_,_,_⟩]) rfl ?_)
            |(refine gReg (i := 3) ?_;refine C_plain [(0,0)] (by kernel_rfl) (s := [⟨0,none,_,_,_⟩]) rfl ?_)
            |(refine gReg (i := 4) ?_;refine C_plain [(0,0),(1,0)] (by kernel_rfl) (s := [⟨0,none,_,_,_⟩,⟨0,none,_,_,_⟩]) rfl ?_)))
        |(refine C_true rfl ?_)
        |(refine C_false rfl ?_)
        |(refine C_split rfl ?_ ?_ <;> (intro hb;(try simp only [decide_eq_true_eq] at hb);(try simp only [decide_eq_false_iff_not] at hb);(try simp only [Bool.not_eq_true'] at hb);(try simp only [Bool.not_eq_false'] at hb);(try (exfalso;first|contradiction|omega));(try (have hle := atoi_le hq))))
        |(refine C_skip ?_)
        |(refine C_exit ?_)
        |(refine C_ret ?_)
        |(refine C_block ?_)))
    |(refine gE ?_;(first
        |(refine E_then ?_)
        |(refine E_thenX ?_)
        |(refine E_thenR ?_)
        |(refine E_block ?_)
        |(refine E_blockY ?_)
        |(refine E_blockR ?_)
        |(refine E_calm ?_)
        |(refine E_blockX rfl ?_)
        |(apply E_ret1 rfl;(first|exact Res.tmp rfl|(apply R_cellAll rfl;(focus ((repeat (first|exact mH|refine mT ?_));done));fail)|(apply R_cell1 rfl;(focus ((repeat (first|exact mH|refine mT ?_));done));fail)))
        |(apply E_ret2 rfl;(first|exact Res.tmp rfl|(apply R_cellAll rfl;(focus ((repeat (first|exact mH|refine mT ?_));done));fail)|(apply R_cell1 rfl;(focus ((repeat (first|exact mH|refine mT ?_));done));fail));(first|exact Res.tmp rfl|(apply R_cellAll rfl;(focus ((repeat (first|exact mH|refine mT ?_));done));fail)|(apply R_cell1 rfl;(focus ((repeat (first|exact mH|refine mT ?_));done));fail)))
        | (apply E_ret3 rfl; (first | exact Res.tmp rfl | (apply R_cellAll rfl; (focus ((repeat (first | exact List.Mem.head _ | refine List.Mem.tail _ ?_)); done)); fail) | (apply R_cell1 rfl; (focus ((repeat (first | exact List.Mem.head _ | refine List.Mem.tail _ ?_)); done)); fail)); (first | exact Res.tmp rfl | (apply R_cellAll rfl; (focus ((repeat (first | exact List.Mem.head _ | refine List.Mem.tail _ ?_)); done)); fail) | (apply R_cell1 rfl; (focus ((repeat (first | exact List.Mem.head _ | refine List.Mem.tail _ ?_)); done)); fail)); (first | exact Res.tmp rfl | (apply R_cellAll rfl; (focus ((repeat (first | exact List.Mem.head _ | refine List.Mem.tail _ ?_)); done)); fail) | (apply R_cell1 rfl; (focus ((repeat (first | exact List.Mem.head _ | refine List.Mem.tail _ ?_)); done)); fail))))))
  · refine retN ?_
    rw [decV, hq]
    simp only
    rw [if_neg (by rintro ⟨h, _⟩; omega)]
  · refine retN ?_
    rw [decV, hq]
    simp only
    rw [if_neg (by rintro ⟨_, h⟩; exact hb h)]
  · refine retN ?_
    rw [decV, hq]
    simp only
    rw [if_pos ⟨by omega, Decidable.not_not.1 hb⟩]
  · refine retN ?_
    unfold decV
    split
    · rename_i v h; exact absurd h (hq v)
    · rfl
theorem cut_len (l : List UInt8) (c : UInt8) : (Lib.cut l [c]).1.length ≤ l.length ∧ (Lib.cut l [c]).2.1.length ≤ l.length := by
  unfold Lib.cut
  split
  · simp only [List.length_take, List.length_drop]; omega
  · simp
theorem implNetAddr_c (l : List UInt8) (hl : l.length ≤ 1048576) (w : World) (hw : LaidW w) (he : Errs w) : Calls Tryd.prog 14 #[.string (str l)] w (RetN (.int .i64 (addrI l)) w) := by
  have hcl := cut_len l 46
  have hdef : addrI l = if (Lib.cut l [46]).2.2 = true ∧ inR (decV (Lib.cut l [46]).1) = true ∧ inR (decV (Lib.cut l [46]).2.1) = true then 256 * decV (Lib.cut l [46]).1 + decV (Lib.cut l [46]).2.1 else -1 := rfl
  have hsc := strCut_c l 46 hl
  rw [hdef]
  generalize hq : Lib.cut l [46] = q at hcl hsc ⊢
  obtain ⟨a, b, f⟩ := q
  dsimp only at hcl hsc ⊢
  obtain ⟨za, hza⟩ : ∃ z, decV a = z := ⟨_, rfl⟩
  obtain ⟨zb, hzb⟩ : ∃ z, decV b = z := ⟨_, rfl⟩
  have hda := decimal_c a (by omega)
  have hdb := decimal_c b (by omega)
  rw [hza] at hda ⊢
  rw [hzb] at hdb ⊢
  have hin : ∀ z : Int, inR z = inB z 0 255 := fun z => rfl
  rw [hin, hin]
  refine enter (n := 34) (E := [(0, _)]) Tryd.func14 rfl rfl rfl rfl ?_
  repeat' (first
    |(refine gS ?_;(first
        |(refine gGuard ?_;(first
            |(refine S_on rfl ?_)
            |(refine S_off rfl rfl rfl ?_)
            |(refine S_offn rfl rfl ?_)
            |(refine S_offU rfl rfl ?_)
            |(refine S_offUn rfl ?_)
            |(refine S_gsplit rfl ?_ ?_ <;> (intro hb;(try simp only [decide_eq_true_eq] at hb);(try simp only [decide_eq_false_iff_not] at hb);(try simp only [Bool.not_eq_true'] at hb);(try simp only [Bool.not_eq_false'] at hb);(try (exfalso;first|contradiction|omega));(try (have hir := inB_t hb))))))
        |(refine S_move rfl rfl ?_)
        |(refine S_assign rfl rfl ?_)
        |(refine gCall ?_;(first
            |(show GoS _ _ _ _ _ _ _ (⟨_,_,_,.call ⟨.value (.func 30),_,_⟩,_⟩ :: _);refine S_callN (f := 30) rfl T.pf30 rfl (fun w hst => hsc w (hw.ext hst.ext)) rfl ?_)
            |(show GoS _ _ _ _ _ _ _ (⟨_,_,_,.call ⟨.value (.func 31),_,_⟩,_⟩ :: _);refine S_callN (f := 31) rfl T.pf31 rfl (fun w hst => hda w (hw.ext hst.ext) (he.ext hst.ext)) rfl ?_)
            |(show GoS _ _ _ _ _ _ _ (⟨_,_,_,.call ⟨.value (.func 31),_,_⟩,_⟩ :: _);refine S_callN (f := 31) rfl T.pf31 rfl (fun w hst => hdb w (hw.ext hst.ext) (he.ext hst.ext)) rfl ?_)
            |(show GoS _ _ _ _ _ _ _ (⟨_,_,_,.call ⟨.value (.func 26),_,_⟩,_⟩ :: _);refine S_callN (f := 26) rfl T.pf26 rfl (fun w hst => within_c _ _ _ w) rfl ?_)))
        |(refine gBin ?_;(first
            |(refine S_add rfl rfl ?_ rfl ?_;(focus (unfold rng;omega)))
            |(refine S_mul rfl rfl ?_ rfl ?_;(focus (unfold rng;omega)))))
        |(refine gPick ?_;(first
            |(refine S_pickT rfl rfl rfl ?_)
            |(refine S_pickF rfl rfl rfl ?_)))
        |(refine S_not rfl rfl ?_)
        |(refine S_extract rfl rfl rfl ?_)
        |(refine S_done ?_)))
    |(refine gC ?_;(first
        |(refine C_seq ?_)
        |(refine gReg ?_;(first
            |(refine gReg (i := 0) ?_;refine C_plain [(0,0)] (by kernel_rfl) (s := [⟨0,none,_,_,_⟩]) rfl ?_)
            |(refine gReg (i := 1) ?_;refine C_plain [(0,0),(1,2),(2,0),(3,0),(4,0),(5,0),(6,0),(7,0),(8,0)] (by kernel_rfl) (s := [⟨0,none,_,_,_⟩,⟨2,none,_,_,_⟩,⟨0,none,_,_,_⟩,⟨0,none,_,_,_⟩,⟨0,none,_,_,_⟩,⟨0,none,_,_,_⟩,⟨0,none,_,_,_⟩,⟨0,none,_,_,_⟩,⟨0,none,_,_,_⟩]) rfl ?_)
            |(refine gReg (i := 2) ?_;refine C_plain [(0,0),(1,2),(2,0),(3,2),(4,0),(5,0)] (by kernel_rfl) (s := [⟨0,none,_,_,_⟩,⟨2,none,_,_,_⟩,⟨0,none,_,_,_⟩,⟨2,none,_,_,_⟩,⟨0,none,_,_,_⟩,⟨0,none,_,_,_⟩]) rfl ?_)
            |(refine gReg (i := 3) ?_;refine C_plain [(0,0),(1,0),(2,0),(3,0),(4,2),(5,0),(6,0),(7,0),(8,0),(9,2),(10,0),(11,0)] (by kernel_rfl) (s := [⟨0,none,_,_,_⟩,⟨0,none,_,_,_⟩,⟨0,none,_,_,_⟩,⟨0,some (20,false),_,_,_⟩,⟨2,some (20,false),_,_,_⟩,⟨0,some (20,false),_,_,_⟩,⟨0,none,_,_,_⟩,⟨0,none,_,_,_⟩,⟨0,some (25,false),_,_,_⟩,⟨2,some (25,false),_,_,_⟩,⟨0,some (25,false),_,_,_⟩,⟨0,none,_,_,_⟩]) rfl ?_)
            |(refine gReg (i := 4) ?_;refine C_plain [(0,0)] (by kernel_rfl) (s := [⟨0,none,_,_,_⟩]) rfl ?_)
            |(refine gReg (i := 5) ?_;refine C_plain [(0,0),(1,0),(2,0),(3,0),(4,0)] (by kernel_rfl) (s := [⟨0,none,_,_,_⟩,⟨0,none,_,_,_⟩,⟨0,none,_,_,_⟩,⟨0,none,_,_,_⟩,⟨0,none,_,_,_⟩]) rfl ?_)))
        |(refine C_true rfl ?_)
        |(refine C_false rfl ?_)
        |(refine C_split rfl ?_ ?_ <;> (intro hb;(try simp only [decide_eq_true_eq] at hb);(try simp only [decide_eq_false_iff_not] at hb);(try simp only [Bool.not_eq_true'] at hb);(try simp only [Bool.not_eq_false'] at hb);(try (exfalso;first|contradiction|omega));(try (have hir := inB_t hb))))
        |(refine C_skip ?_)
        |(refine C_exit ?_)
        |(refine C_ret ?_)
        |(refine C_block ?_)))
    |(refine gE ?_;(first
        |(refine E_then ?_)
        |(refine E_thenX ?_)
        |(refine E_thenR ?_)
        |(refine E_block ?_)
        |(refine E_blockY ?_)
        |(refine E_blockR ?_)
        |(refine E_calm ?_)
        |(refine E_blockX rfl ?_)
        |(apply E_ret1 rfl;(first|exact Res.tmp rfl|(apply R_cellAll rfl;(focus ((repeat (first|exact mH|refine mT ?_));done));fail)|(apply R_cell1 rfl;(focus ((repeat (first|exact mH|refine mT ?_));done));fail)))
        |(apply E_ret2 rfl;(first|exact Res.tmp rfl|(apply R_cellAll rfl;(focus ((repeat (first|exact mH|refine mT ?_));done));fail)|(apply R_cell1 rfl;(focus ((repeat (first|exact mH|refine mT ?_));done));fail));(first|exact Res.tmp rfl|(apply R_cellAll rfl;(focus ((repeat (first|exact mH|refine mT ?_));done));fail)|(apply R_cell1 rfl;(focus ((repeat (first|exact mH|refine mT ?_));done));fail)))
        | (apply E_ret3 rfl; (first | exact Res.tmp rfl | (apply R_cellAll rfl; (focus ((repeat (first | exact List.Mem.head _ | refine List.Mem.tail _ ?_)); done)); fail) | (apply R_cell1 rfl; (focus ((repeat (first | exact List.Mem.head _ | refine List.Mem.tail _ ?_)); done)); fail)); (first | exact Res.tmp rfl | (apply R_cellAll rfl; (focus ((repeat (first | exact List.Mem.head _ | refine List.Mem.tail _ ?_)); done)); fail) | (apply R_cell1 rfl; (focus ((repeat (first | exact List.Mem.head _ | refine List.Mem.tail _ ?_)); done)); fail)); (first | exact Res.tmp rfl | (apply R_cellAll rfl; (focus ((repeat (first | exact List.Mem.head _ | refine List.Mem.tail _ ?_)); done)); fail) | (apply R_cell1 rfl; (focus ((repeat (first | exact List.Mem.head _ | refine List.Mem.tail _ ?_)); done)); fail))))))
  all_goals (refine retN ?_; simp_all)
theorem l2Num_c (l : List UInt8) (hl : l.length ≤ 1048576) (w : World) : Calls Tryd.prog 29 #[.string (str l)] w (RetN (.int .i64 (numV l)) w) := by
  have h0 := byteAt_rng l 0
  refine enter (n := 44) (E := [(0, _)]) Tryd.func29 rfl rfl rfl rfl ?_
  repeat' (first
    |(refine gS ?_;(first
        |(refine gGuard ?_;(first
            |(refine S_on rfl ?_)
            |(refine S_off rfl rfl rfl ?_)
            |(refine S_offn rfl rfl ?_)
            |(refine S_offU rfl rfl ?_)
            |(refine S_offUn rfl ?_)
            |(refine S_gsplit rfl ?_ ?_ <;> (intro hb;(try simp only [decide_eq_true_eq] at hb);(try simp only [decide_eq_false_iff_not] at hb);(try simp only [Bool.not_eq_true'] at hb);(try simp only [Bool.not_eq_false'] at hb);(try (exfalso;first|contradiction|omega));(try (have hin := inB_t hb))))))
        |(refine S_move rfl rfl ?_)
        |(refine S_assign rfl rfl ?_)
        |(refine gCall ?_;(first
            |(show GoS _ _ _ _ _ _ _ (⟨_,_,_,.call ⟨.value (.func 24),_,_⟩,_⟩ :: _);refine S_callN (f := 24) rfl T.pf24 rfl (fun w hst => l1In_c _ _ _ w) rfl ?_)
            |((refine S_sLen Tryd.underlying9 rfl rfl rfl ?_))
            |((refine S_sIdx Tryd.underlying9 rfl rfl ?_ ?_ rfl ?_;(focus omega);(focus omega)))))
        |(refine gBin ?_;(first
            |((refine S_sLen Tryd.underlying9 rfl rfl rfl ?_))
            |((refine S_sIdx Tryd.underlying9 rfl rfl ?_ ?_ rfl ?_;(focus omega);(focus omega)))
            |(refine S_lss rfl rfl rfl ?_)
            |(refine S_gtr rfl rfl rfl ?_)
            |(refine S_eql rfl rfl rfl ?_)
            |(refine S_add rfl rfl ?_ rfl ?_;(focus (unfold rng;omega)))
            |(refine S_sub rfl rfl ?_ rfl ?_;(focus (unfold rng;omega)))
            |(refine S_mul rfl rfl ?_ rfl ?_;(focus (unfold rng;omega)))
            |(refine S_eqlB Tryd.underlying4 rfl rfl rfl ?_)))
        |(refine gPick ?_;(first
            |(refine S_pickT rfl rfl rfl ?_)
            |(refine S_pickF rfl rfl rfl ?_)))
        |(refine S_convW rfl rfl Tryd.underlying5 Tryd.underlying3 ?_ ?_;(focus (unfold rng;omega)))
        |(refine S_not rfl rfl ?_)
        |(refine S_done ?_)
        |((refine S_sLen Tryd.underlying9 rfl rfl rfl ?_))
        |((refine S_sIdx Tryd.underlying9 rfl rfl ?_ ?_ rfl ?_;(focus omega);(focus omega)))))
    |(refine gC ?_;(first
        |(refine C_seq ?_)
        |(refine gReg ?_;(first
            |(refine gReg (i := 0) ?_;refine C_plain [(0,0)] (by kernel_rfl) (s := [⟨0,none,_,_,_⟩]) rfl ?_)
            |(refine gReg (i := 1) ?_;refine C_plain [(0,0),(1,0),(2,2),(3,0),(4,0),(5,0),(6,0),(7,0),(8,0),(9,0),(10,0),(11,0),(12,0),(13,0)] (by kernel_rfl) (s := [⟨0,none,_,_,_⟩,⟨0,none,_,_,_⟩,⟨2,none,_,_,_⟩,⟨0,none,_,_,_⟩,⟨0,none,_,_,_⟩,⟨0,some (9,false),_,_,_⟩,⟨0,some (9,false),_,_,_⟩,⟨0,some (9,false),_,_,_⟩,⟨0,some (9,false),_,_,_⟩,⟨0,some (13,true),_,_,_⟩,⟨0,some (13,true),_,_,_⟩,⟨0,some (13,true),_,_,_⟩,⟨0,some (9,false),_,_,_⟩,⟨0,none,_,_,_⟩]) rfl ?_)
            |(refine gReg (i := 2) ?_;refine C_plain [(0,0)] (by kernel_rfl) (s := [⟨0,none,_,_,_⟩]) rfl ?_)
            |(refine gReg (i := 3) ?_;refine C_plain [(0,0)] (by kernel_rfl) (s := [⟨0,none,_,_,_⟩]) rfl ?_)
            |(refine gReg (i := 4) ?_;refine C_plain [(0,0)] (by kernel_rfl) (s := [⟨0,none,_,_,_⟩]) rfl ?_)
            |(refine gReg (i := 7) ?_;refine C_plain [(0,0),(1,0),(2,0),(3,0),(4,0),(5,0),(6,0),(7,0),(8,0),(9,0)] (by kernel_rfl) (s := [⟨0,none,_,_,_⟩,⟨0,none,_,_,_⟩,⟨0,none,_,_,_⟩,⟨0,none,_,_,_⟩,⟨0,none,_,_,_⟩,⟨0,some (29,false),_,_,_⟩,⟨0,some (29,false),_,_,_⟩,⟨0,some (29,false),_,_,_⟩,⟨0,some (29,false),_,_,_⟩,⟨0,none,_,_,_⟩]) rfl ?_)
            |(refine gReg (i := 8) ?_;refine C_plain [(0,0)] (by kernel_rfl) (s := [⟨0,none,_,_,_⟩]) rfl ?_)
            |(refine gReg (i := 9) ?_;refine C_plain [(0,0),(1,0),(2,0),(3,0),(4,0),(5,0),(6,0),(7,0),(8,0)] (by kernel_rfl) (s := [⟨0,none,_,_,_⟩,⟨0,none,_,_,_⟩,⟨0,none,_,_,_⟩,⟨0,none,_,_,_⟩,⟨0,none,_,_,_⟩,⟨0,none,_,_,_⟩,⟨0,none,_,_,_⟩,⟨0,none,_,_,_⟩,⟨0,none,_,_,_⟩]) rfl ?_)
            |(refine gReg (i := 6) ?_;refine C_plain [(0,0),(1,0),(2,0)] (by kernel_rfl) (s := [⟨0,none,_,_,_⟩,⟨0,none,_,_,_⟩,⟨0,none,_,_,_⟩]) rfl ?_)
            |(refine gReg (i := 10) ?_;refine C_plain [(0,0),(1,0)] (by kernel_rfl) (s := [⟨0,none,_,_,_⟩,⟨0,none,_,_,_⟩]) rfl ?_)))
        |(refine C_true rfl ?_)
        |(refine C_false rfl ?_)
        |(refine C_split rfl ?_ ?_ <;> (intro hb;(try simp only [decide_eq_true_eq] at hb);(try simp only [decide_eq_false_iff_not] at hb);(try simp only [Bool.not_eq_true'] at hb);(try simp only [Bool.not_eq_false'] at hb);(try (exfalso;first|contradiction|omega));(try (have hin := inB_t hb))))
        |(refine C_skip ?_)
        |(refine C_exit ?_)
        |(refine C_ret ?_)
        |(refine C_block ?_)))
    |(refine gE ?_;(first
        |(refine E_then ?_)
        |(refine E_thenX ?_)
        |(refine E_thenR ?_)
        |(refine E_block ?_)
        |(refine E_blockY ?_)
        |(refine E_blockR ?_)
        |(refine E_calm ?_)
        |(refine E_blockX rfl ?_)
        |(apply E_ret1 rfl;(first|exact Res.tmp rfl|(apply R_cellAll rfl;(focus ((repeat (first|exact mH|refine mT ?_));done));fail)|(apply R_cell1 rfl;(focus ((repeat (first|exact mH|refine mT ?_));done));fail)))
        |(apply E_ret2 rfl;(first|exact Res.tmp rfl|(apply R_cellAll rfl;(focus ((repeat (first|exact mH|refine mT ?_));done));fail)|(apply R_cell1 rfl;(focus ((repeat (first|exact mH|refine mT ?_));done));fail));(first|exact Res.tmp rfl|(apply R_cellAll rfl;(focus ((repeat (first|exact mH|refine mT ?_));done));fail)|(apply R_cell1 rfl;(focus ((repeat (first|exact mH|refine mT ?_));done));fail)))
        | (apply E_ret3 rfl; (first | exact Res.tmp rfl | (apply R_cellAll rfl; (focus ((repeat (first | exact List.Mem.head _ | refine List.Mem.tail _ ?_)); done)); fail) | (apply R_cell1 rfl; (focus ((repeat (first | exact List.Mem.head _ | refine List.Mem.tail _ ?_)); done)); fail)); (first | exact Res.tmp rfl | (apply R_cellAll rfl; (focus ((repeat (first | exact List.Mem.head _ | refine List.Mem.tail _ ?_)); done)); fail) | (apply R_cell1 rfl; (focus ((repeat (first | exact List.Mem.head _ | refine List.Mem.tail _ ?_)); done)); fail)); (first | exact Res.tmp rfl | (apply R_cellAll rfl; (focus ((repeat (first | exact List.Mem.head _ | refine List.Mem.tail _ ?_)); done)); fail) | (apply R_cell1 rfl; (focus ((repeat (first | exact List.Mem.head _ | refine List.Mem.tail _ ?_)); done)); fail))))))
  · refine retN ?_
    rw [numV, if_neg fun h => ?_]
    have h1 := numOk_iff.1 h
    have h2 : inB (l.length : Int) 1 5 = true := by simp [inB]; omega
    rw [hb] at h2; cases h2
  · refine retN ?_
    rw [numV, if_neg fun h => ?_]
    have h1 : l.getD 0 0 = 48 := UInt8.toNat_inj.1 (by
      have h2 : ((l.getD 0 0).toNat : Int) = 48 := hb
      have h3 : (48 : UInt8).toNat = 48 := rfl
      omega)
    have hlen : 1 < l.length := by omega
    rw [numOk, h1, decide_eq_true hlen] at h
    simp at h
  all_goals
    have hnz : ¬ (1 < l.length ∧ l.getD 0 0 = 48) := fun h => by
      first
        | omega
        | (have h2 : byteAt l (Int.toNat 0) = 48 := by
             show ((l.getD 0 0).toNat : Int) = 48
             rw [h.2]; rfl
           omega)
    have hpn : (∀ c ∈ l, digitB c = true) → numV l = (valL l : Int) := fun hd => by
      rw [numV, if_pos]
      have h1 : (l.all digitB) = true := List.all_eq_true.2 hd
      have h2 : decide (1 ≤ l.length) = true := decide_eq_true (by omega)
      have h3 : decide (l.length ≤ 5) = true := decide_eq_true (by omega)
      have h4 : (!(decide (1 < l.length) && decide (l.getD 0 0 = 48))) = true := by
        by_cases h5 : 1 < l.length
        · have h6 : ¬ l.getD 0 0 = 48 := fun h => hnz ⟨h5, h⟩
          rw [decide_eq_false h6]; simp
        · rw [decide_eq_false h5]; rfl
      rw [numOk, h1, h2, h3, h4]; rfl
    have hbad : ∀ i, i < l.length → digitB (l.getD i 0) = false → numV l = -1 := fun i hi hd => (dec_of_not (List.mem_of_getElem? (getD_mem hi)) hd).2
    refine C_loop (α := Nat × Int) (fun s => [(4, .int .i64 (s.1 : Int)), (3, .int .i64 s.2), (0, .string (str l))]) (fun _ => []) (fun s => s.1 ≤ l.length ∧ s.2 = (valL (l.take s.1) : Int) ∧ ∀ c ∈ l.take s.1, digitB c = true) (fun s => l.length - s.1) (0, 0) ⟨Nat.zero_le _, rfl, by simp⟩ ⟨rfl, rfl, rfl, trivial⟩ (List.Sublist.refl _) ?_
    rintro ⟨i, n⟩ ⟨hi, hn, hd⟩
    dsimp only at *
    have hvl := val_lt (l.take i).length (l.take i) rfl hd
    have hpw : 10 ^ (l.take i).length ≤ 10 ^ 5 := Nat.pow_le_pow_right (by decide) (by rw [List.length_take]; omega)
    have hnr : 0 ≤ n ∧ n < 100000 := by omega
    clear hvl hpw
    have hbr := byteAt_rng l i
    have hbd : byteAt l i = ((l.getD i 0).toNat : Int) := rfl
  all_goals
    repeat' (first
      |(refine gS ?_;(first
          |(refine gGuard ?_;(first
              |(refine S_on rfl ?_)
              |(refine S_off rfl rfl rfl ?_)
              |(refine S_offn rfl rfl ?_)
              |(refine S_offU rfl rfl ?_)
              |(refine S_offUn rfl ?_)
              |(refine S_gsplit rfl ?_ ?_ <;> (intro hb;(try simp only [decide_eq_true_eq] at hb);(try simp only [decide_eq_false_iff_not] at hb);(try simp only [Bool.not_eq_true'] at hb);(try simp only [Bool.not_eq_false'] at hb);(try (exfalso;first|contradiction|omega))))))
          |(refine S_move rfl rfl ?_)
          |(refine S_assign rfl rfl ?_)
          |(refine gCall ?_;(first
              |((refine S_sLen Tryd.underlying9 rfl rfl rfl ?_))
              |((refine S_sIdx Tryd.underlying9 rfl rfl ?_ ?_ rfl ?_;(focus omega);(focus omega)))
              |((refine S_sub8 rfl rfl ?_ ?_ rfl ?_;(focus omega);(focus omega)))))
          |(refine gBin ?_;(first
              |((refine S_sLen Tryd.underlying9 rfl rfl rfl ?_))
              |((refine S_sIdx Tryd.underlying9 rfl rfl ?_ ?_ rfl ?_;(focus omega);(focus omega)))
              |((refine S_sub8 rfl rfl ?_ ?_ rfl ?_;(focus omega);(focus omega)))
              |(refine S_lss rfl rfl rfl ?_)
              |(refine S_gtr rfl rfl rfl ?_)
              |(refine S_eql rfl rfl rfl ?_)
              |(refine S_add rfl rfl ?_ rfl ?_;(focus (unfold rng;omega)))
              |(refine S_sub rfl rfl ?_ rfl ?_;(focus (unfold rng;omega)))
              |(refine S_mul rfl rfl ?_ rfl ?_;(focus (unfold rng;omega)))
              |(refine S_eqlB Tryd.underlying4 rfl rfl rfl ?_)))
          |(refine gPick ?_;(first
              |(refine S_pickT rfl rfl rfl ?_)
              |(refine S_pickF rfl rfl rfl ?_)))
          |(refine S_convW rfl rfl Tryd.underlying5 Tryd.underlying3 ?_ ?_;(focus (unfold rng;omega)))
          |(refine S_not rfl rfl ?_)
          |(refine S_done ?_)
          |((refine S_sLen Tryd.underlying9 rfl rfl rfl ?_))
          |((refine S_sIdx Tryd.underlying9 rfl rfl ?_ ?_ rfl ?_;(focus omega);(focus omega)))
          |((refine S_sub8 rfl rfl ?_ ?_ rfl ?_;(focus omega);(focus omega)))))
      |(refine gC ?_;(first
          |(refine C_seq ?_)
          |(refine gReg ?_;(first
              |(refine gReg (i := 0) ?_;refine C_plain [(0,0)] (by kernel_rfl) (s := [⟨0,none,_,_,_⟩]) rfl ?_)
              |(refine gReg (i := 1) ?_;refine C_plain [(0,0),(1,0),(2,2),(3,0),(4,0),(5,0),(6,0),(7,0),(8,0),(9,0),(10,0),(11,0),(12,0),(13,0)] (by kernel_rfl) (s := [⟨0,none,_,_,_⟩,⟨0,none,_,_,_⟩,⟨2,none,_,_,_⟩,⟨0,none,_,_,_⟩,⟨0,none,_,_,_⟩,⟨0,some (9,false),_,_,_⟩,⟨0,some (9,false),_,_,_⟩,⟨0,some (9,false),_,_,_⟩,⟨0,some (9,false),_,_,_⟩,⟨0,some (13,true),_,_,_⟩,⟨0,some (13,true),_,_,_⟩,⟨0,some (13,true),_,_,_⟩,⟨0,some (9,false),_,_,_⟩,⟨0,none,_,_,_⟩]) rfl ?_)
              |(refine gReg (i := 2) ?_;refine C_plain [(0,0)] (by kernel_rfl) (s := [⟨0,none,_,_,_⟩]) rfl ?_)
              |(refine gReg (i := 3) ?_;refine C_plain [(0,0)] (by kernel_rfl) (s := [⟨0,none,_,_,_⟩]) rfl ?_)
              |(refine gReg (i := 4) ?_;refine C_plain [(0,0)] (by kernel_rfl) (s := [⟨0,none,_,_,_⟩]) rfl ?_)
              |(refine gReg (i := 5) ?_;refine C_plain [(0,0),(1,0),(2,0),(3,0)] (by kernel_rfl) (s := [⟨0,none,_,_,_⟩,⟨0,none,_,_,_⟩,⟨0,none,_,_,_⟩,⟨0,none,_,_,_⟩]) rfl ?_)
              |(refine gReg (i := 7) ?_;refine C_plain [(0,0),(1,0),(2,0),(3,0),(4,0),(5,0),(6,0),(7,0),(8,0),(9,0)] (by kernel_rfl) (s := [⟨0,none,_,_,_⟩,⟨0,none,_,_,_⟩,⟨0,none,_,_,_⟩,⟨0,none,_,_,_⟩,⟨0,none,_,_,_⟩,⟨0,some (29,false),_,_,_⟩,⟨0,some (29,false),_,_,_⟩,⟨0,some (29,false),_,_,_⟩,⟨0,some (29,false),_,_,_⟩,⟨0,none,_,_,_⟩]) rfl ?_)
              |(refine gReg (i := 8) ?_;refine C_plain [(0,0)] (by kernel_rfl) (s := [⟨0,none,_,_,_⟩]) rfl ?_)
              |(refine gReg (i := 9) ?_;refine C_plain [(0,0),(1,0),(2,0),(3,0),(4,0),(5,0),(6,0),(7,0),(8,0)] (by kernel_rfl) (s := [⟨0,none,_,_,_⟩,⟨0,none,_,_,_⟩,⟨0,none,_,_,_⟩,⟨0,none,_,_,_⟩,⟨0,none,_,_,_⟩,⟨0,none,_,_,_⟩,⟨0,none,_,_,_⟩,⟨0,none,_,_,_⟩,⟨0,none,_,_,_⟩]) rfl ?_)
              |(refine gReg (i := 6) ?_;refine C_plain [(0,0),(1,0),(2,0)] (by kernel_rfl) (s := [⟨0,none,_,_,_⟩,⟨0,none,_,_,_⟩,⟨0,none,_,_,_⟩]) rfl ?_)
              |(refine gReg (i := 10) ?_;refine C_plain [(0,0),(1,0)] (by kernel_rfl) (s := [⟨0,none,_,_,_⟩,⟨0,none,_,_,_⟩]) rfl ?_)))
          |(refine C_true rfl ?_)
          |(refine C_false rfl ?_)
          |(refine C_split rfl ?_ ?_ <;> (intro hb;(try simp only [decide_eq_true_eq] at hb);(try simp only [decide_eq_false_iff_not] at hb);(try simp only [Bool.not_eq_true'] at hb);(try simp only [Bool.not_eq_false'] at hb);(try (exfalso;first|contradiction|omega))))
          |(refine C_skip ?_)
          |(refine C_exit ?_)
          |(refine C_ret ?_)
          |(refine C_block ?_)))
      |(refine gE ?_;(first
          |(refine E_then ?_)
          |(refine E_thenX ?_)
          |(refine E_thenR ?_)
          |(refine E_block ?_)
          |(refine E_blockY ?_)
          |(refine E_blockR ?_)
          |(refine E_calm ?_)
          |(refine E_blockX rfl ?_)
          |(apply E_ret1 rfl;(first|exact Res.tmp rfl|(apply R_cellAll rfl;(focus ((repeat (first|exact mH|refine mT ?_));done));fail)|(apply R_cell1 rfl;(focus ((repeat (first|exact mH|refine mT ?_));done));fail)))
          |(apply E_ret2 rfl;(first|exact Res.tmp rfl|(apply R_cellAll rfl;(focus ((repeat (first|exact mH|refine mT ?_));done));fail)|(apply R_cell1 rfl;(focus ((repeat (first|exact mH|refine mT ?_));done));fail));(first|exact Res.tmp rfl|(apply R_cellAll rfl;(focus ((repeat (first|exact mH|refine mT ?_));done));fail)|(apply R_cell1 rfl;(focus ((repeat (first|exact mH|refine mT ?_));done));fail)))
          | (apply E_ret3 rfl; (first | exact Res.tmp rfl | (apply R_cellAll rfl; (focus ((repeat (first | exact List.Mem.head _ | refine List.Mem.tail _ ?_)); done)); fail) | (apply R_cell1 rfl; (focus ((repeat (first | exact List.Mem.head _ | refine List.Mem.tail _ ?_)); done)); fail)); (first | exact Res.tmp rfl | (apply R_cellAll rfl; (focus ((repeat (first | exact List.Mem.head _ | refine List.Mem.tail _ ?_)); done)); fail) | (apply R_cell1 rfl; (focus ((repeat (first | exact List.Mem.head _ | refine List.Mem.tail _ ?_)); done)); fail)); (first | exact Res.tmp rfl | (apply R_cellAll rfl; (focus ((repeat (first | exact List.Mem.head _ | refine List.Mem.tail _ ?_)); done)); fail) | (apply R_cell1 rfl; (focus ((repeat (first | exact List.Mem.head _ | refine List.Mem.tail _ ?_)); done)); fail))))))
  all_goals first
    | (refine retN ?_
       rw [hbad i (by omega) (by
         rw [digitB, Bool.and_eq_false_iff, decide_eq_false_iff_not, decide_eq_false_iff_not]
         have h7 : byteAt l ((i : Int)).toNat = byteAt l i := rfl
         omega)])
    | (refine retN ?_
       have e : i = l.length := by omega
       rw [e, List.take_length] at hn hd
       rw [hpn hd, hn])
    | (have h7 : byteAt l ((i : Int)).toNat = byteAt l i := rfl
       have hx := getD_mem (l := l) (j := i) (by omega)
       refine E_round (α := Nat × Int) (i + 1, _) ⟨by dsimp only; omega, ?_, ?_⟩ (by dsimp only; omega) ⟨rfl, rfl, rfl, trivial⟩ (List.nil_sublist _)
       · dsimp only
         rw [take_snoc hx, val_snoc]
         omega
       · dsimp only
         rw [take_snoc hx]
         intro c hc
         rcases List.mem_append.1 hc with h | h
         · exact hd c h
         · rw [List.mem_singleton] at h
           rw [h, digitB_iff]
           omega)
theorem l2Cut_c (l : List UInt8) (c : UInt8) (hl : l.length ≤ 1048576) (w : World) : Calls Tryd.prog 28 #[.string (str l), .int .u8 (c.toNat : Int)] w (RetR 9 1 (piecesL l c).length ((piecesL l c).flatMap fun y : List UInt8 => ([.string (str y)] : List Value)) w) := by
  refine enter (n := 35) (E := [(0, _), (1, _)]) Tryd.func28 rfl rfl rfl rfl ?_
  repeat' (first
    |(refine gS ?_;(first
        |(refine S_move rfl rfl ?_)
        |(refine S_assign rfl rfl ?_)
        |(apply F_slice rfl rfl;exact T.sl42;(focus (first|(focus (first|exact len_nil|(apply len_given;assumption)|(apply len_row;(focus ((repeat (first|exact mH|refine mT ?_));done)))|(apply len_isN;assumption)))|(apply len_sub;(focus (first|exact len_nil|(apply len_given;assumption)|(apply len_row;(focus ((repeat (first|exact mH|refine mT ?_));done)))|(apply len_isN;assumption)));(focus omega);(focus omega))));(focus exact ⟨_,_,rfl,by omega,rfl⟩);(focus exact ⟨_,_,rfl,by omega,rfl⟩);(focus omega);(focus omega))
        |(apply F_slice rfl rfl;exact T.sl42;(focus (first|(focus (first|exact len_nil|(apply len_given;assumption)|(apply len_row;(focus ((repeat (first|exact mH|refine mT ?_));done)))|(apply len_isN;assumption)))|(apply len_sub;(focus (first|exact len_nil|(apply len_given;assumption)|(apply len_row;(focus ((repeat (first|exact mH|refine mT ?_));done)))|(apply len_isN;assumption)));(focus omega);(focus omega))));(focus exact ⟨_,_,rfl,by omega,rfl⟩);(focus exact rfl);(focus omega);(focus omega))
        |(apply F_bs0 rfl rfl;exact T.el42;rfl;intro sv;(try (refine S_fact (row_one (v := sv) (by (focus ((repeat (first|exact mH|refine mT ?_));done)))) (fun hone => ?_))))
        |(apply F_bs rfl rfl;exact T.el42;rfl;rfl;rfl;rfl;(focus ((repeat (first|exact Dense.nil|(apply Dense.cons;rfl;rfl)));done));intro sv;(try (refine S_fact (row_one (v := sv) (by (focus ((repeat (first|exact mH|refine mT ?_));done)))) (fun hone => ?_))))
        |(refine gCall ?_;(first
            |(apply F_len rfl rfl rfl;(focus exact ⟨_,_,by exact T.sl42⟩);(focus (first|(focus (first|exact len_nil|(apply len_given;assumption)|(apply len_row;(focus ((repeat (first|exact mH|refine mT ?_));done)))|(apply len_isN;assumption)))|(apply len_sub;(focus (first|exact len_nil|(apply len_given;assumption)|(apply len_row;(focus ((repeat (first|exact mH|refine mT ?_));done)))|(apply len_isN;assumption)));(focus omega);(focus omega)))))
            |(apply F_append rfl rfl rfl rfl;exact T.el42;(focus (intro sv;(focus ((repeat (first|exact Upd.here|apply Upd.there));done))));(focus (first|exact rd_nil|(apply rd_given;(focus assumption);(focus (first|exact freeG0|exact freeG1)))|(apply rd_row;(focus ((repeat (first|exact mH|refine mT ?_));done));(focus (first|exact freeR0|exact freeR1)))|(apply rd_sub;(focus (apply rd_given;(focus assumption);(focus (first|exact freeG0|exact freeG1))));(focus (intro _;rfl));(focus omega);(focus omega))|(apply rd_sub;(focus (apply rd_row;(focus ((repeat (first|exact mH|refine mT ?_));done));(focus (first|exact freeR0|exact freeR1))));(focus (intro _;rfl));(focus omega);(focus omega))));(focus (first|rfl|assumption|(apply all_flat;intro _ _;rfl)|(rw [List.append_nil];assumption)|(simp only [List.append_nil,List.all_cons,List.all_nil,Bool.and_true,Bool.true_and,one_int,one_bool,one_string,one_slice,one_pointer, *];done)|simp));(first|exact okst2|exact okst1|exact okst1');(focus (simp only [maxLen];first|omega|(simp only [List.length_take,List.length_drop];omega)));(focus (first|omega|(simp only [List.length_take,List.length_drop];omega)));intro sv;(try (refine S_fact (row_one (v := sv) (by (focus ((repeat (first|exact mH|refine mT ?_));done)))) (fun hone => ?_))))))
        |(refine gBin ?_;(first
            |(refine S_lss rfl rfl rfl ?_)
            |(refine S_eql rfl rfl rfl ?_)
            |(refine S_add rfl rfl ?_ rfl ?_;(focus (unfold rng;omega)))
            |(refine S_eqlB Tryd.underlying4 rfl rfl rfl ?_)))
        |(refine S_done ?_)))
    |(refine gC ?_;(first
        |(refine C_seq ?_)
        |(refine gReg ?_;(first
            |(refine gReg (i := 0) ?_;refine C_plain [(0,0)] (by kernel_rfl) (s := [⟨0,none,_,_,_⟩]) rfl ?_)
            |(refine gReg (i := 1) ?_;refine C_plain [(0,2),(1,0)] (by kernel_rfl) (s := [⟨2,none,_,_,_⟩,⟨0,none,_,_,_⟩]) rfl ?_)
            |(refine gReg (i := 2) ?_;refine C_plain [(0,0)] (by kernel_rfl) (s := [⟨0,none,_,_,_⟩]) rfl ?_)
            |(refine gReg (i := 3) ?_;refine C_plain [(0,0)] (by kernel_rfl) (s := [⟨0,none,_,_,_⟩]) rfl ?_)
            |(refine gReg (i := 4) ?_;refine C_plain [(0,0),(1,0),(2,0),(3,0)] (by kernel_rfl) (s := [⟨0,none,_,_,_⟩,⟨0,none,_,_,_⟩,⟨0,none,_,_,_⟩,⟨0,none,_,_,_⟩]) rfl ?_)
            |(refine gReg (i := 6) ?_;refine C_plain [(0,0),(1,0),(2,0),(3,0),(4,0)] (by kernel_rfl) (s := [⟨0,none,_,_,_⟩,⟨0,none,_,_,_⟩,⟨0,none,_,_,_⟩,⟨0,none,_,_,_⟩,⟨0,none,_,_,_⟩]) rfl ?_)
            |(refine gReg (i := 7) ?_;refine C_plain [(0,0),(1,0),(2,0),(3,0),(4,0),(5,2),(6,2),(7,0)] (by kernel_rfl) (s := [⟨0,none,_,_,_⟩,⟨0,none,_,_,_⟩,⟨0,none,_,_,_⟩,⟨0,none,_,_,_⟩,⟨0,none,_,_,_⟩,⟨2,none,_,_,_⟩,⟨2,none,_,_,_⟩,⟨0,none,_,_,_⟩]) rfl ?_)
            |(refine gReg (i := 8) ?_;refine C_plain [(0,0),(1,0),(2,0)] (by kernel_rfl) (s := [⟨0,none,_,_,_⟩,⟨0,none,_,_,_⟩,⟨0,none,_,_,_⟩]) rfl ?_)
            |(refine gReg (i := 5) ?_;refine C_plain [(0,0),(1,0),(2,0)] (by kernel_rfl) (s := [⟨0,none,_,_,_⟩,⟨0,none,_,_,_⟩,⟨0,none,_,_,_⟩]) rfl ?_)
            |(refine gReg (i := 9) ?_;refine C_plain [(0,0),(1,0),(2,0),(3,0),(4,2),(5,2),(6,0)] (by kernel_rfl) (s := [⟨0,none,_,_,_⟩,⟨0,none,_,_,_⟩,⟨0,none,_,_,_⟩,⟨0,none,_,_,_⟩,⟨2,none,_,_,_⟩,⟨2,none,_,_,_⟩,⟨0,none,_,_,_⟩]) rfl ?_)))
        |(refine C_true rfl ?_)
        |(refine C_false rfl ?_)
        |(refine C_split rfl ?_ ?_ <;> (intro hb;(try simp only [decide_eq_true_eq] at hb);(try simp only [decide_eq_false_iff_not] at hb);(try simp only [Bool.not_eq_true'] at hb);(try simp only [Bool.not_eq_false'] at hb);(try (exfalso;first|contradiction|omega))))
        |(refine C_skip ?_)
        |(refine C_exit ?_)
        |(refine C_ret ?_)
        |(refine C_block ?_)))
    |(refine gE ?_;(first
        |(refine E_then ?_)
        |(refine E_thenX ?_)
        |(refine E_thenR ?_)
        |(refine E_block ?_)
        |(refine E_blockY ?_)
        |(refine E_blockR ?_)
        |(refine E_calm ?_)
        |(refine E_blockX rfl ?_)
        |(apply E_ret1 rfl;(first|exact Res.tmp rfl|(apply R_cellAll rfl;(focus ((repeat (first|exact mH|refine mT ?_));done));fail)|(apply R_cell1 rfl;(focus ((repeat (first|exact mH|refine mT ?_));done));fail)))
        |(apply E_ret2 rfl;(first|exact Res.tmp rfl|(apply R_cellAll rfl;(focus ((repeat (first|exact mH|refine mT ?_));done));fail)|(apply R_cell1 rfl;(focus ((repeat (first|exact mH|refine mT ?_));done));fail));(first|exact Res.tmp rfl|(apply R_cellAll rfl;(focus ((repeat (first|exact mH|refine mT ?_));done));fail)|(apply R_cell1 rfl;(focus ((repeat (first|exact mH|refine mT ?_));done));fail)))
        | (apply E_ret3 rfl; (first | exact Res.tmp rfl | (apply R_cellAll rfl; (focus ((repeat (first | exact List.Mem.head _ | refine List.Mem.tail _ ?_)); done)); fail) | (apply R_cell1 rfl; (focus ((repeat (first | exact List.Mem.head _ | refine List.Mem.tail _ ?_)); done)); fail)); (first | exact Res.tmp rfl | (apply R_cellAll rfl; (focus ((repeat (first | exact List.Mem.head _ | refine List.Mem.tail _ ?_)); done)); fail) | (apply R_cell1 rfl; (focus ((repeat (first | exact List.Mem.head _ | refine List.Mem.tail _ ?_)); done)); fail)); (first | exact Res.tmp rfl | (apply R_cellAll rfl; (focus ((repeat (first | exact List.Mem.head _ | refine List.Mem.tail _ ?_)); done)); fail) | (apply R_cell1 rfl; (focus ((repeat (first | exact List.Mem.head _ | refine List.Mem.tail _ ?_)); done)); fail))))))
  refine C_loop (α := Nat × Nat × Value × List (List UInt8)) (fun s => [(7, .int .i64 (s.1 : Int)), (6, .int .i64 (s.2.1 : Int)), (5, s.2.2.1), (0, .string (str l)), (1, .int .u8 (c.toNat : Int))]) (fun s => [.row s.2.2.1 9 1 s.2.2.2.length (s.2.2.2.flatMap fun y : List UInt8 => ([.string (str y)] : List Value))]) (fun s => s.1 ≤ l.length ∧ cutS l c s.1 = (s.2.2.2, s.2.1)) (fun s => l.length - s.1) (0, 0, sv, []) ⟨Nat.zero_le _, rfl⟩ ⟨rfl, rfl, rfl, rfl, rfl, trivial⟩ (List.Sublist.refl _) ?_
  rintro ⟨i, from_, sv, dn⟩ ⟨hi, hc⟩
  dsimp only at *
  have hfr := cutS_from l c i
  have hdl := cutS_len l c i
  rw [hc] at hfr hdl
  dsimp only at hfr hdl
  have hstep : cutS l c (i + 1) = if l.getD i 0 = c then (dn ++ [(l.drop from_).take (i - from_)], i + 1) else (dn, from_) := by rw [cutS, hc]
  have hbd : byteAt l ((i : Int)).toNat = ((l.getD i 0).toNat : Int) := rfl
  repeat' (first
    |(refine gS ?_;(first
        |(refine S_move rfl rfl ?_)
        |(refine S_assign rfl rfl ?_)
        |(apply F_slice rfl rfl;exact T.sl42;(focus (first|(focus (first|exact len_nil|(apply len_given;assumption)|(apply len_row;(focus ((repeat (first|exact mH|refine mT ?_));done)))|(apply len_isN;assumption)))|(apply len_sub;(focus (first|exact len_nil|(apply len_given;assumption)|(apply len_row;(focus ((repeat (first|exact mH|refine mT ?_));done)))|(apply len_isN;assumption)));(focus omega);(focus omega))));(focus exact ⟨_,_,rfl,by omega,rfl⟩);(focus exact ⟨_,_,rfl,by omega,rfl⟩);(focus omega);(focus omega))
        |(apply F_slice rfl rfl;exact T.sl42;(focus (first|(focus (first|exact len_nil|(apply len_given;assumption)|(apply len_row;(focus ((repeat (first|exact mH|refine mT ?_));done)))|(apply len_isN;assumption)))|(apply len_sub;(focus (first|exact len_nil|(apply len_given;assumption)|(apply len_row;(focus ((repeat (first|exact mH|refine mT ?_));done)))|(apply len_isN;assumption)));(focus omega);(focus omega))));(focus exact ⟨_,_,rfl,by omega,rfl⟩);(focus exact rfl);(focus omega);(focus omega))
        |(apply F_bs0 rfl rfl;exact T.el42;rfl;intro sv;(try (refine S_fact (row_one (v := sv) (by (focus ((repeat (first|exact mH|refine mT ?_));done)))) (fun hone => ?_))))
        |(apply F_bs rfl rfl;exact T.el42;rfl;rfl;rfl;rfl;(focus ((repeat (first|exact Dense.nil|(apply Dense.cons;rfl;rfl)));done));intro sv;(try (refine S_fact (row_one (v := sv) (by (focus ((repeat (first|exact mH|refine mT ?_));done)))) (fun hone => ?_))))
        |(refine gCall ?_;(first
            |(apply F_len rfl rfl rfl;(focus exact ⟨_,_,by exact T.sl42⟩);(focus (first|(focus (first|exact len_nil|(apply len_given;assumption)|(apply len_row;(focus ((repeat (first|exact mH|refine mT ?_));done)))|(apply len_isN;assumption)))|(apply len_sub;(focus (first|exact len_nil|(apply len_given;assumption)|(apply len_row;(focus ((repeat (first|exact mH|refine mT ?_));done)))|(apply len_isN;assumption)));(focus omega);(focus omega)))))
            |(apply F_append rfl rfl rfl rfl;exact T.el42;(focus (intro sv;(focus ((repeat (first|exact Upd.here|apply Upd.there));done))));(focus (first|exact rd_nil|(apply rd_given;(focus assumption);(focus (first|exact freeG0|exact freeG1)))|(apply rd_row;(focus ((repeat (first|exact mH|refine mT ?_));done));(focus (first|exact freeR0|exact freeR1)))|(apply rd_sub;(focus (apply rd_given;(focus assumption);(focus (first|exact freeG0|exact freeG1))));(focus (intro _;rfl));(focus omega);(focus omega))|(apply rd_sub;(focus (apply rd_row;(focus ((repeat (first|exact mH|refine mT ?_));done));(focus (first|exact freeR0|exact freeR1))));(focus (intro _;rfl));(focus omega);(focus omega))));(focus (first|rfl|assumption|(apply all_flat;intro _ _;rfl)|(rw [List.append_nil];assumption)|(simp only [List.append_nil,List.all_cons,List.all_nil,Bool.and_true,Bool.true_and,one_int,one_bool,one_string,one_slice,one_pointer, *];done)|simp));(first|exact okst2|exact okst1|exact okst1');(focus (simp only [maxLen];first|omega|(simp only [List.length_take,List.length_drop];omega)));(focus (first|omega|(simp only [List.length_take,List.length_drop];omega)));intro sv;(try (refine S_fact (row_one (v := sv) (by (focus ((repeat (first|exact mH|refine mT ?_));done)))) (fun hone => ?_))))
            |((refine S_sLen Tryd.underlying9 rfl rfl rfl ?_))
            |((refine S_sIdx Tryd.underlying9 rfl rfl ?_ ?_ rfl ?_;(focus omega);(focus omega)))
            |((refine S_sSliceLH Tryd.underlying9 rfl rfl rfl ?_ ?_ ?_ rfl ?_;(focus omega);(focus omega);(focus omega)))
            |((refine S_sSliceL Tryd.underlying9 rfl rfl ?_ ?_ rfl ?_;(focus omega);(focus omega)))))
        |(refine gBin ?_;(first
            |((refine S_sLen Tryd.underlying9 rfl rfl rfl ?_))
            |((refine S_sIdx Tryd.underlying9 rfl rfl ?_ ?_ rfl ?_;(focus omega);(focus omega)))
            |((refine S_sSliceLH Tryd.underlying9 rfl rfl rfl ?_ ?_ ?_ rfl ?_;(focus omega);(focus omega);(focus omega)))
            |((refine S_sSliceL Tryd.underlying9 rfl rfl ?_ ?_ rfl ?_;(focus omega);(focus omega)))
            |(refine S_lss rfl rfl rfl ?_)
            |(refine S_eql rfl rfl rfl ?_)
            |(refine S_add rfl rfl ?_ rfl ?_;(focus (unfold rng;omega)))
            |(refine S_eqlB Tryd.underlying4 rfl rfl rfl ?_)))
        |(refine S_done ?_)
        |((refine S_sLen Tryd.underlying9 rfl rfl rfl ?_))
        |((refine S_sIdx Tryd.underlying9 rfl rfl ?_ ?_ rfl ?_;(focus omega);(focus omega)))
        |((refine S_sSliceLH Tryd.underlying9 rfl rfl rfl ?_ ?_ ?_ rfl ?_;(focus omega);(focus omega);(focus omega)))
        |((refine S_sSliceL Tryd.underlying9 rfl rfl ?_ ?_ rfl ?_;(focus omega);(focus omega)))))
    |(refine gC ?_;(first
        |(refine C_seq ?_)
        |(refine gReg ?_;(first
            |(refine gReg (i := 0) ?_;refine C_plain [(0,0)] (by kernel_rfl) (s := [⟨0,none,_,_,_⟩]) rfl ?_)
            |(refine gReg (i := 1) ?_;refine C_plain [(0,2),(1,0)] (by kernel_rfl) (s := [⟨2,none,_,_,_⟩,⟨0,none,_,_,_⟩]) rfl ?_)
            |(refine gReg (i := 2) ?_;refine C_plain [(0,0)] (by kernel_rfl) (s := [⟨0,none,_,_,_⟩]) rfl ?_)
            |(refine gReg (i := 3) ?_;refine C_plain [(0,0)] (by kernel_rfl) (s := [⟨0,none,_,_,_⟩]) rfl ?_)
            |(refine gReg (i := 4) ?_;refine C_plain [(0,0),(1,0),(2,0),(3,0)] (by kernel_rfl) (s := [⟨0,none,_,_,_⟩,⟨0,none,_,_,_⟩,⟨0,none,_,_,_⟩,⟨0,none,_,_,_⟩]) rfl ?_)
            |(refine gReg (i := 6) ?_;refine C_plain [(0,0),(1,0),(2,0),(3,0),(4,0)] (by kernel_rfl) (s := [⟨0,none,_,_,_⟩,⟨0,none,_,_,_⟩,⟨0,none,_,_,_⟩,⟨0,none,_,_,_⟩,⟨0,none,_,_,_⟩]) rfl ?_)
            |(refine gReg (i := 7) ?_;refine C_plain [(0,0),(1,0),(2,0),(3,0),(4,0),(5,2),(6,2),(7,0)] (by kernel_rfl) (s := [⟨0,none,_,_,_⟩,⟨0,none,_,_,_⟩,⟨0,none,_,_,_⟩,⟨0,none,_,_,_⟩,⟨0,none,_,_,_⟩,⟨2,none,_,_,_⟩,⟨2,none,_,_,_⟩,⟨0,none,_,_,_⟩]) rfl ?_)
            |(refine gReg (i := 8) ?_;refine C_plain [(0,0),(1,0),(2,0)] (by kernel_rfl) (s := [⟨0,none,_,_,_⟩,⟨0,none,_,_,_⟩,⟨0,none,_,_,_⟩]) rfl ?_)
            |(refine gReg (i := 5) ?_;refine C_plain [(0,0),(1,0),(2,0)] (by kernel_rfl) (s := [⟨0,none,_,_,_⟩,⟨0,none,_,_,_⟩,⟨0,none,_,_,_⟩]) rfl ?_)
            |(refine gReg (i := 9) ?_;refine C_plain [(0,0),(1,0),(2,0),(3,0),(4,2),(5,2),(6,0)] (by kernel_rfl) (s := [⟨0,none,_,_,_⟩,⟨0,none,_,_,_⟩,⟨0,none,_,_,_⟩,⟨0,none,_,_,_⟩,⟨2,none,_,_,_⟩,⟨2,none,_,_,_⟩,⟨0,none,_,_,_⟩]) rfl ?_)))
        |(refine C_true rfl ?_)
        |(refine C_false rfl ?_)
        |(refine C_split rfl ?_ ?_ <;> (intro hb;(try simp only [decide_eq_true_eq] at hb);(try simp only [decide_eq_false_iff_not] at hb);(try simp only [Bool.not_eq_true'] at hb);(try simp only [Bool.not_eq_false'] at hb);(try (exfalso;first|contradiction|omega))))
        |(refine C_skip ?_)
        |(refine C_exit ?_)
        |(refine C_ret ?_)
        |(refine C_block ?_)))
    |(refine gE ?_;(first
        |(refine E_then ?_)
        |(refine E_thenX ?_)
        |(refine E_thenR ?_)
        |(refine E_block ?_)
        |(refine E_blockY ?_)
        |(refine E_blockR ?_)
        |(refine E_calm ?_)
        |(refine E_blockX rfl ?_)
        |(apply E_ret1 rfl;(first|exact Res.tmp rfl|(apply R_cellAll rfl;(focus ((repeat (first|exact mH|refine mT ?_));done));fail)|(apply R_cell1 rfl;(focus ((repeat (first|exact mH|refine mT ?_));done));fail)))
        |(apply E_ret2 rfl;(first|exact Res.tmp rfl|(apply R_cellAll rfl;(focus ((repeat (first|exact mH|refine mT ?_));done));fail)|(apply R_cell1 rfl;(focus ((repeat (first|exact mH|refine mT ?_));done));fail));(first|exact Res.tmp rfl|(apply R_cellAll rfl;(focus ((repeat (first|exact mH|refine mT ?_));done));fail)|(apply R_cell1 rfl;(focus ((repeat (first|exact mH|refine mT ?_));done));fail)))
        | (apply E_ret3 rfl; (first | exact Res.tmp rfl | (apply R_cellAll rfl; (focus ((repeat (first | exact List.Mem.head _ | refine List.Mem.tail _ ?_)); done)); fail) | (apply R_cell1 rfl; (focus ((repeat (first | exact List.Mem.head _ | refine List.Mem.tail _ ?_)); done)); fail)); (first | exact Res.tmp rfl | (apply R_cellAll rfl; (focus ((repeat (first | exact List.Mem.head _ | refine List.Mem.tail _ ?_)); done)); fail) | (apply R_cell1 rfl; (focus ((repeat (first | exact List.Mem.head _ | refine List.Mem.tail _ ?_)); done)); fail)); (first | exact Res.tmp rfl | (apply R_cellAll rfl; (focus ((repeat (first | exact List.Mem.head _ | refine List.Mem.tail _ ?_)); done)); fail) | (apply R_cell1 rfl; (focus ((repeat (first | exact List.Mem.head _ | refine List.Mem.tail _ ?_)); done)); fail))))))
  · have hx : l.getD i 0 = c := UInt8.toNat_inj.1 (by omega)
    refine E_roundS (α := Nat × Nat × Value × List (List UInt8)) (i + 1,i + 1,sv,dn ++ [(l.drop from_).take (i - from_)]) ⟨by dsimp only;omega,by dsimp only;rw [hstep,if_pos hx]⟩ (by dsimp only;omega) ⟨rfl,rfl,rfl,rfl,rfl,trivial⟩ (by (focus (apply Ent.flat;(simp only [List.length_append,List.length_cons,List.length_nil,Nat.zero_add,flat_many,flat_row,flat_blk,flat_append,flat_nil,List.map_append,List.map_cons,List.map_nil,List.flatMap_append,List.flatMap_cons,List.flatMap_nil,List.append_assoc,List.append_nil,List.nil_append,List.cons_append,Row.blk_mk,rwSuint8]);((repeat (first|exact Pull.nil|(apply Pull.app;(focus ((repeat (first|exact PickA.here|exact PickA.all|apply PickA.there|apply PickA.over));done)))|(apply Pull.cons;(focus ((repeat (first|exact Pick.here|exact Pick.last|apply Pick.there|apply Pick.over));done)))|(apply Pull.atom;(focus ((repeat (first|exact PickA.here|exact PickA.all|apply PickA.there|apply PickA.over));done)))));done))))
  · have hx : ¬ l.getD i 0 = c := fun h => hb (by rw [hbd, h])
    exact E_roundS (α := Nat × Nat × Value × List (List UInt8)) (i + 1, from_, sv, dn) ⟨by dsimp only; omega, by dsimp only; rw [hstep, if_neg hx]⟩ (by dsimp only; omega) ⟨rfl, rfl, rfl, rfl, rfl, trivial⟩ Ent.refl
  · have e : i = l.length := by omega
    have hp : piecesL l c = dn ++ [l.drop from_] := by rw [piecesL, ← e, hc]
    refine retR (List.Mem.tail _ (List.Mem.head _)) ?_ ?_
    · rw [hp, List.length_append]; rfl
    · rw [hp, List.flatMap_append]; rfl
theorem cutS_piece (l : List UInt8) (c : UInt8) : ∀ i, ∀ p ∈ (cutS l c i).1, p.length ≤ l.length
  | 0, p, hp => by cases hp
  | i + 1, p, hp => by
    rw [cutS] at hp
    split at hp
    · rcases List.mem_append.1 hp with h | h
      · exact cutS_piece l c i p h
      · rw [List.mem_singleton] at h
        subst h
        rw [List.length_take, List.length_drop]; omega
    · exact cutS_piece l c i p hp
theorem pieces_len (l : List UInt8) (c : UInt8) : ∀ p ∈ piecesL l c, p.length ≤ l.length := fun p hp => by
  rcases List.mem_append.1 hp with h | h
  · exact cutS_piece l c _ p h
  · rw [List.mem_singleton] at h
    subst h
    rw [List.length_drop]; omega
theorem two_of {α : Type} {l : List α} (h : l.length = 2) : ∃ a b, l = [a, b] := by
  match l, h with
  | [a, b], _ => exact ⟨a, b, rfl⟩
theorem specNetAddr_c (l : List UInt8) (hl : l.length ≤ 1048576) (w : World) : Calls Tryd.prog 13 #[.string (str l)] w (RetN (.int .i64 (addrS l)) w) := by
  have hdef : addrS l = (match piecesL l 46 with
    | [a, b] => if inR (numV a) = true ∧ inR (numV b) = true then 256 * numV a + numV b else -1
    | _ => -1) := rfl
  have hc := l2Cut_c l 46 hl
  have hpl := pieces_len l 46
  rw [hdef]
  clear hdef
  generalize piecesL l 46 = ps at hc hpl ⊢
  refine enter (n := 31) (E := [(0, _)]) Tryd.func13 rfl rfl rfl rfl ?_
  repeat' (first
    |(refine gS ?_;(first
        |(refine gGuard ?_;(first
            |(refine S_on rfl ?_)
            |(refine S_off rfl rfl rfl ?_)
            |(refine S_offn rfl rfl ?_)
            |(refine S_offU rfl rfl ?_)
            |(refine S_offUn rfl ?_)
            |(refine S_gsplit rfl ?_ ?_ <;> (intro hb;(try simp only [decide_eq_true_eq] at hb);(try simp only [decide_eq_false_iff_not] at hb);(try simp only [Bool.not_eq_true'] at hb);(try simp only [Bool.not_eq_false'] at hb);(try (exfalso;first|contradiction|omega))))))
        |(refine S_move rfl rfl ?_)
        |(refine S_assign rfl rfl ?_)
        |(apply F_idx rfl rfl rfl;exact T.sl42;(focus rfl);(focus (first|exact len_nil|(apply len_given;assumption)|(apply len_row;(focus ((repeat (first|exact mH|refine mT ?_));done)))|(apply len_isN;assumption)));(focus omega))
        |(apply F_idxZ rfl rfl rfl;exact T.sl42;(focus omega);(focus (first|exact len_nil|(apply len_given;assumption)|(apply len_row;(focus ((repeat (first|exact mH|refine mT ?_));done)))|(apply len_isN;assumption)));(focus omega))
        |(refine gLoad ?_;(first
            |(apply F_load1 rfl rfl;(focus ((repeat (first|exact mH|refine mT ?_));done));exact T.sc9;rfl;(focus (first|exact free0|exact free1)))
            |(apply F_loadS1 rfl rfl;exact T.sc9;(focus (first|exact rd_nil|(apply rd_given;(focus assumption);(focus (first|exact freeG0|exact freeG1)))|(apply rd_row;(focus ((repeat (first|exact mH|refine mT ?_));done));(focus (first|exact freeR0|exact freeR1)))));(focus (first|(apply at_cell;(focus (apply at_flat;(focus (intro _;rfl));(focus assumption)));rfl)|(apply at_cell0;(focus (apply at_flat;(focus (intro _;rfl));(focus assumption)));rfl)|(apply at_cell;(focus (apply at_mid0;(focus assumption)));rfl)|(apply at_cell0;(focus (apply at_mid0;(focus assumption)));rfl)|rfl)))))
        |(refine gCall ?_;(first
            |(show GoS _ _ _ _ _ _ _ (⟨_,_,_,.call ⟨.value (.func 28),_,_⟩,_⟩ :: _);refine S_callR (f := 28) rfl T.pf28 rfl (fun w hst => hc w) rfl ?_;intro sv)
            |(apply F_len rfl rfl rfl;(focus exact ⟨_,_,by exact T.sl42⟩);(focus (first|exact len_nil|(apply len_given;assumption)|(apply len_row;(focus ((repeat (first|exact mH|refine mT ?_));done)))|(apply len_isN;assumption))))))
        |(refine gBin ?_;(first
            |(refine S_neq rfl rfl rfl ?_)
            |(refine S_add rfl rfl ?_ rfl ?_;(focus (unfold rng;omega)))
            |(refine S_mul rfl rfl ?_ rfl ?_;(focus (unfold rng;omega)))
            |(refine S_neqB Tryd.underlying4 rfl rfl rfl ?_)))
        |(refine gPick ?_;(first
            |(refine S_pickT rfl rfl rfl ?_)
            |(refine S_pickF rfl rfl rfl ?_)))
        |(refine S_not rfl rfl ?_)
        |(refine S_done ?_)))
    |(refine gC ?_;(first
        |(refine C_seq ?_)
        |(refine gReg ?_;(first
            |(refine gReg (i := 0) ?_;refine C_plain [(0,0)] (by kernel_rfl) (s := [⟨0,none,_,_,_⟩]) rfl ?_)
            |(refine gReg (i := 1) ?_;refine C_plain [(0,0),(1,2),(2,0)] (by kernel_rfl) (s := [⟨0,none,_,_,_⟩,⟨2,none,_,_,_⟩,⟨0,none,_,_,_⟩]) rfl ?_)
            |(refine gReg (i := 3) ?_;refine C_plain [(0,0)] (by kernel_rfl) (s := [⟨0,none,_,_,_⟩]) rfl ?_)
            |(refine gReg (i := 4) ?_;refine C_plain [(0,0),(1,0),(2,0),(3,2),(4,0)] (by kernel_rfl) (s := [⟨0,none,_,_,_⟩,⟨0,none,_,_,_⟩,⟨0,none,_,_,_⟩,⟨2,none,_,_,_⟩,⟨0,none,_,_,_⟩]) rfl ?_)
            |(refine gReg (i := 5) ?_;refine C_plain [(0,0),(1,0),(2,0),(3,2),(4,0)] (by kernel_rfl) (s := [⟨0,none,_,_,_⟩,⟨0,none,_,_,_⟩,⟨0,none,_,_,_⟩,⟨2,none,_,_,_⟩,⟨0,none,_,_,_⟩]) rfl ?_)
            |(refine gReg (i := 6) ?_;refine C_plain [(0,0),(1,2),(2,0),(3,0),(4,0),(5,2),(6,0),(7,0)] (by kernel_rfl) (s := [⟨0,none,_,_,_⟩,⟨2,none,_,_,_⟩,⟨0,none,_,_,_⟩,⟨0,none,_,_,_⟩,⟨0,some (22,false),_,_,_⟩,⟨2,some (22,false),_,_,_⟩,⟨0,some (22,false),_,_,_⟩,⟨0,none,_,_,_⟩]) rfl ?_)
            |(refine gReg (i := 7) ?_;refine C_plain [(0,0)] (by kernel_rfl) (s := [⟨0,none,_,_,_⟩]) rfl ?_)
            |(refine gReg (i := 8) ?_;refine C_plain [(0,0),(1,0),(2,0),(3,0),(4,0)] (by kernel_rfl) (s := [⟨0,none,_,_,_⟩,⟨0,none,_,_,_⟩,⟨0,none,_,_,_⟩,⟨0,none,_,_,_⟩,⟨0,none,_,_,_⟩]) rfl ?_)))
        |(refine C_true rfl ?_)
        |(refine C_false rfl ?_)
        |(refine C_split rfl ?_ ?_ <;> (intro hb;(try simp only [decide_eq_true_eq] at hb);(try simp only [decide_eq_false_iff_not] at hb);(try simp only [Bool.not_eq_true'] at hb);(try simp only [Bool.not_eq_false'] at hb);(try (exfalso;first|contradiction|omega))))
        |(refine C_skip ?_)
        |(refine C_exit ?_)
        |(refine C_ret ?_)
        |(refine C_block ?_)))
    |(refine gE ?_;(first
        |(refine E_then ?_)
        |(refine E_thenX ?_)
        |(refine E_thenR ?_)
        |(refine E_block ?_)
        |(refine E_blockY ?_)
        |(refine E_blockR ?_)
        |(refine E_calm ?_)
        |(refine E_blockX rfl ?_)
        |(apply E_ret1 rfl;(first|exact Res.tmp rfl|(apply R_cellAll rfl;(focus ((repeat (first|exact mH|refine mT ?_));done));fail)|(apply R_cell1 rfl;(focus ((repeat (first|exact mH|refine mT ?_));done));exact T.sc9)))
        |(apply E_ret2 rfl;(first|exact Res.tmp rfl|(apply R_cellAll rfl;(focus ((repeat (first|exact mH|refine mT ?_));done));fail)|(apply R_cell1 rfl;(focus ((repeat (first|exact mH|refine mT ?_));done));exact T.sc9));(first|exact Res.tmp rfl|(apply R_cellAll rfl;(focus ((repeat (first|exact mH|refine mT ?_));done));fail)|(apply R_cell1 rfl;(focus ((repeat (first|exact mH|refine mT ?_));done));exact T.sc9)))
        | (apply E_ret3 rfl; (first | exact Res.tmp rfl | (apply R_cellAll rfl; (focus ((repeat (first | exact List.Mem.head _ | refine List.Mem.tail _ ?_)); done)); fail) | (apply R_cell1 rfl; (focus ((repeat (first | exact List.Mem.head _ | refine List.Mem.tail _ ?_)); done)); exact T.sc9)); (first | exact Res.tmp rfl | (apply R_cellAll rfl; (focus ((repeat (first | exact List.Mem.head _ | refine List.Mem.tail _ ?_)); done)); fail) | (apply R_cell1 rfl; (focus ((repeat (first | exact List.Mem.head _ | refine List.Mem.tail _ ?_)); done)); exact T.sc9)); (first | exact Res.tmp rfl | (apply R_cellAll rfl; (focus ((repeat (first | exact List.Mem.head _ | refine List.Mem.tail _ ?_)); done)); fail) | (apply R_cell1 rfl; (focus ((repeat (first | exact List.Mem.head _ | refine List.Mem.tail _ ?_)); done)); exact T.sc9))))))
  have hin : ∀ z : Int, inR z = inB z 0 255 := fun z => rfl
  by_cases h2 : ps.length = 2
  · obtain ⟨a, b, rfl⟩ := two_of h2
    have hla := l2Num_c a (Nat.le_trans (hpl a (by simp)) hl)
    have hlb := l2Num_c b (Nat.le_trans (hpl b (by simp)) hl)
    simp only [hin]
    generalize numV a = za at hla ⊢
    generalize numV b = zb at hlb ⊢
    repeat' (first
      |(refine gS ?_;(first
          |(refine gGuard ?_;(first
              |(refine S_on rfl ?_)
              |(refine S_off rfl rfl rfl ?_)
              |(refine S_offn rfl rfl ?_)
              |(refine S_offU rfl rfl ?_)
              |(refine S_offUn rfl ?_)
              |(refine S_gsplit rfl ?_ ?_ <;> (intro hb;(try simp only [decide_eq_true_eq] at hb);(try simp only [decide_eq_false_iff_not] at hb);(try simp only [Bool.not_eq_true'] at hb);(try simp only [Bool.not_eq_false'] at hb);(try (exfalso;first|contradiction|omega));(try (have hir := inB_t hb))))))
          |(refine S_move rfl rfl ?_)
          |(refine S_assign rfl rfl ?_)
          |(apply F_idx rfl rfl rfl;exact T.sl42;(focus rfl);(focus (first|exact len_nil|(apply len_given;assumption)|(apply len_row;(focus ((repeat (first|exact mH|refine mT ?_));done)))|(apply len_isN;assumption)));(focus omega))
          |(apply F_idxZ rfl rfl rfl;exact T.sl42;(focus omega);(focus (first|exact len_nil|(apply len_given;assumption)|(apply len_row;(focus ((repeat (first|exact mH|refine mT ?_));done)))|(apply len_isN;assumption)));(focus omega))
          |(refine gLoad ?_;(first
              |(apply F_load1 rfl rfl;(focus ((repeat (first|exact mH|refine mT ?_));done));exact T.sc9;rfl;(focus (first|exact free0|exact free1)))
              |(apply F_loadS1 rfl rfl;exact T.sc9;(focus (first|exact rd_nil|(apply rd_given;(focus assumption);(focus (first|exact freeG0|exact freeG1)))|(apply rd_row;(focus ((repeat (first|exact mH|refine mT ?_));done));(focus (first|exact freeR0|exact freeR1)))));(focus (first|(apply at_cell;(focus (apply at_flat;(focus (intro _;rfl));(focus assumption)));rfl)|(apply at_cell0;(focus (apply at_flat;(focus (intro _;rfl));(focus assumption)));rfl)|(apply at_cell;(focus (apply at_mid0;(focus assumption)));rfl)|(apply at_cell0;(focus (apply at_mid0;(focus assumption)));rfl)|rfl)))))
          |(refine gCall ?_;(first
              |(show GoS _ _ _ _ _ _ _ (⟨_,_,_,.call ⟨.value (.func 29),_,_⟩,_⟩ :: _);refine S_callN (f := 29) rfl T.pf29 rfl (fun w hst => hla w) rfl ?_)
              |(show GoS _ _ _ _ _ _ _ (⟨_,_,_,.call ⟨.value (.func 29),_,_⟩,_⟩ :: _);refine S_callN (f := 29) rfl T.pf29 rfl (fun w hst => hlb w) rfl ?_)
              |(show GoS _ _ _ _ _ _ _ (⟨_,_,_,.call ⟨.value (.func 24),_,_⟩,_⟩ :: _);refine S_callN (f := 24) rfl T.pf24 rfl (fun w hst => l1In_c _ _ _ w) rfl ?_)
              |(apply F_len rfl rfl rfl;(focus exact ⟨_,_,by exact T.sl42⟩);(focus (first|exact len_nil|(apply len_given;assumption)|(apply len_row;(focus ((repeat (first|exact mH|refine mT ?_));done)))|(apply len_isN;assumption))))))
          |(refine gBin ?_;(first
              |(refine S_neq rfl rfl rfl ?_)
              |(refine S_add rfl rfl ?_ rfl ?_;(focus (unfold rng;omega)))
              |(refine S_mul rfl rfl ?_ rfl ?_;(focus (unfold rng;omega)))
              |(refine S_neqB Tryd.underlying4 rfl rfl rfl ?_)))
          |(refine gPick ?_;(first
              |(refine S_pickT rfl rfl rfl ?_)
              |(refine S_pickF rfl rfl rfl ?_)))
          |(refine S_not rfl rfl ?_)
          |(refine S_done ?_)))
      |(refine gC ?_;(first
          |(refine C_seq ?_)
          |(refine gReg ?_;(first
              |(refine gReg (i := 0) ?_;refine C_plain [(0,0)] (by kernel_rfl) (s := [⟨0,none,_,_,_⟩]) rfl ?_)
              |(refine gReg (i := 1) ?_;refine C_plain [(0,0),(1,2),(2,0)] (by kernel_rfl) (s := [⟨0,none,_,_,_⟩,⟨2,none,_,_,_⟩,⟨0,none,_,_,_⟩]) rfl ?_)
              |(refine gReg (i := 2) ?_;refine C_plain [(0,0),(1,0),(2,0)] (by kernel_rfl) (s := [⟨0,none,_,_,_⟩,⟨0,none,_,_,_⟩,⟨0,none,_,_,_⟩]) rfl ?_)
              |(refine gReg (i := 3) ?_;refine C_plain [(0,0)] (by kernel_rfl) (s := [⟨0,none,_,_,_⟩]) rfl ?_)
              |(refine gReg (i := 4) ?_;refine C_plain [(0,0),(1,0),(2,0),(3,2),(4,0)] (by kernel_rfl) (s := [⟨0,none,_,_,_⟩,⟨0,none,_,_,_⟩,⟨0,none,_,_,_⟩,⟨2,none,_,_,_⟩,⟨0,none,_,_,_⟩]) rfl ?_)
              |(refine gReg (i := 5) ?_;refine C_plain [(0,0),(1,0),(2,0),(3,2),(4,0)] (by kernel_rfl) (s := [⟨0,none,_,_,_⟩,⟨0,none,_,_,_⟩,⟨0,none,_,_,_⟩,⟨2,none,_,_,_⟩,⟨0,none,_,_,_⟩]) rfl ?_)
              |(refine gReg (i := 6) ?_;refine C_plain [(0,0),(1,2),(2,0),(3,0),(4,0),(5,2),(6,0),(7,0)] (by kernel_rfl) (s := [⟨0,none,_,_,_⟩,⟨2,none,_,_,_⟩,⟨0,none,_,_,_⟩,⟨0,none,_,_,_⟩,⟨0,some (22,false),_,_,_⟩,⟨2,some (22,false),_,_,_⟩,⟨0,some (22,false),_,_,_⟩,⟨0,none,_,_,_⟩]) rfl ?_)
              |(refine gReg (i := 7) ?_;refine C_plain [(0,0)] (by kernel_rfl) (s := [⟨0,none,_,_,_⟩]) rfl ?_)
              |(refine gReg (i := 8) ?_;refine C_plain [(0,0),(1,0),(2,0),(3,0),(4,0)] (by kernel_rfl) (s := [⟨0,none,_,_,_⟩,⟨0,none,_,_,_⟩,⟨0,none,_,_,_⟩,⟨0,none,_,_,_⟩,⟨0,none,_,_,_⟩]) rfl ?_)))
          |(refine C_true rfl ?_)
          |(refine C_false rfl ?_)
          |(refine C_split rfl ?_ ?_ <;> (intro hb;(try simp only [decide_eq_true_eq] at hb);(try simp only [decide_eq_false_iff_not] at hb);(try simp only [Bool.not_eq_true'] at hb);(try simp only [Bool.not_eq_false'] at hb);(try (exfalso;first|contradiction|omega));(try (have hir := inB_t hb))))
          |(refine C_skip ?_)
          |(refine C_exit ?_)
          |(refine C_ret ?_)
          |(refine C_block ?_)))
      |(refine gE ?_;(first
          |(refine E_then ?_)
          |(refine E_thenX ?_)
          |(refine E_thenR ?_)
          |(refine E_block ?_)
          |(refine E_blockY ?_)
          |(refine E_blockR ?_)
          |(refine E_calm ?_)
          |(refine E_blockX rfl ?_)
          |(apply E_ret1 rfl;(first|exact Res.tmp rfl|(apply R_cellAll rfl;(focus ((repeat (first|exact mH|refine mT ?_));done));fail)|(apply R_cell1 rfl;(focus ((repeat (first|exact mH|refine mT ?_));done));exact T.sc9)))
          |(apply E_ret2 rfl;(first|exact Res.tmp rfl|(apply R_cellAll rfl;(focus ((repeat (first|exact mH|refine mT ?_));done));fail)|(apply R_cell1 rfl;(focus ((repeat (first|exact mH|refine mT ?_));done));exact T.sc9));(first|exact Res.tmp rfl|(apply R_cellAll rfl;(focus ((repeat (first|exact mH|refine mT ?_));done));fail)|(apply R_cell1 rfl;(focus ((repeat (first|exact mH|refine mT ?_));done));exact T.sc9)))
          | (apply E_ret3 rfl; (first | exact Res.tmp rfl | (apply R_cellAll rfl; (focus ((repeat (first | exact List.Mem.head _ | refine List.Mem.tail _ ?_)); done)); fail) | (apply R_cell1 rfl; (focus ((repeat (first | exact List.Mem.head _ | refine List.Mem.tail _ ?_)); done)); exact T.sc9)); (first | exact Res.tmp rfl | (apply R_cellAll rfl; (focus ((repeat (first | exact List.Mem.head _ | refine List.Mem.tail _ ?_)); done)); fail) | (apply R_cell1 rfl; (focus ((repeat (first | exact List.Mem.head _ | refine List.Mem.tail _ ?_)); done)); exact T.sc9)); (first | exact Res.tmp rfl | (apply R_cellAll rfl; (focus ((repeat (first | exact List.Mem.head _ | refine List.Mem.tail _ ?_)); done)); fail) | (apply R_cell1 rfl; (focus ((repeat (first | exact List.Mem.head _ | refine List.Mem.tail _ ?_)); done)); exact T.sc9))))))
    all_goals (refine retN ?_; simp_all)
  · skip
    repeat' (first
      |(refine gS ?_;(first
          |(refine gGuard ?_;(first
              |(refine S_on rfl ?_)
              |(refine S_off rfl rfl rfl ?_)
              |(refine S_offn rfl rfl ?_)
              |(refine S_offU rfl rfl ?_)
              |(refine S_offUn rfl ?_)
              |(refine S_gsplit rfl ?_ ?_ <;> (intro hb;(try simp only [decide_eq_true_eq] at hb);(try simp only [decide_eq_false_iff_not] at hb);(try simp only [Bool.not_eq_true'] at hb);(try simp only [Bool.not_eq_false'] at hb);(try (exfalso;first|contradiction|omega))))))
          |(refine S_move rfl rfl ?_)
          |(refine S_assign rfl rfl ?_)
          |(apply F_idx rfl rfl rfl;exact T.sl42;(focus rfl);(focus (first|exact len_nil|(apply len_given;assumption)|(apply len_row;(focus ((repeat (first|exact mH|refine mT ?_));done)))|(apply len_isN;assumption)));(focus omega))
          |(apply F_idxZ rfl rfl rfl;exact T.sl42;(focus omega);(focus (first|exact len_nil|(apply len_given;assumption)|(apply len_row;(focus ((repeat (first|exact mH|refine mT ?_));done)))|(apply len_isN;assumption)));(focus omega))
          |(refine gLoad ?_;(first
              |(apply F_load1 rfl rfl;(focus ((repeat (first|exact mH|refine mT ?_));done));exact T.sc9;rfl;(focus (first|exact free0|exact free1)))
              |(apply F_loadS1 rfl rfl;exact T.sc9;(focus (first|exact rd_nil|(apply rd_given;(focus assumption);(focus (first|exact freeG0|exact freeG1)))|(apply rd_row;(focus ((repeat (first|exact mH|refine mT ?_));done));(focus (first|exact freeR0|exact freeR1)))));(focus (first|(apply at_cell;(focus (apply at_flat;(focus (intro _;rfl));(focus assumption)));rfl)|(apply at_cell0;(focus (apply at_flat;(focus (intro _;rfl));(focus assumption)));rfl)|(apply at_cell;(focus (apply at_mid0;(focus assumption)));rfl)|(apply at_cell0;(focus (apply at_mid0;(focus assumption)));rfl)|rfl)))))
          |(refine gCall ?_;(first
              |(apply F_len rfl rfl rfl;(focus exact ⟨_,_,by exact T.sl42⟩);(focus (first|exact len_nil|(apply len_given;assumption)|(apply len_row;(focus ((repeat (first|exact mH|refine mT ?_));done)))|(apply len_isN;assumption))))))
          |(refine gBin ?_;(first
              |(refine S_neq rfl rfl rfl ?_)
              |(refine S_add rfl rfl ?_ rfl ?_;(focus (unfold rng;omega)))
              |(refine S_mul rfl rfl ?_ rfl ?_;(focus (unfold rng;omega)))
              |(refine S_neqB Tryd.underlying4 rfl rfl rfl ?_)))
          |(refine gPick ?_;(first
              |(refine S_pickT rfl rfl rfl ?_)
              |(refine S_pickF rfl rfl rfl ?_)))
          |(refine S_not rfl rfl ?_)
          |(refine S_done ?_)))
      |(refine gC ?_;(first
          |(refine C_seq ?_)
          |(refine gReg ?_;(first
              |(refine gReg (i := 0) ?_;refine C_plain [(0,0)] (by kernel_rfl) (s := [⟨0,none,_,_,_⟩]) rfl ?_)
              |(refine gReg (i := 1) ?_;refine C_plain [(0,0),(1,2),(2,0)] (by kernel_rfl) (s := [⟨0,none,_,_,_⟩,⟨2,none,_,_,_⟩,⟨0,none,_,_,_⟩]) rfl ?_)
              |(refine gReg (i := 2) ?_;refine C_plain [(0,0),(1,0),(2,0)] (by kernel_rfl) (s := [⟨0,none,_,_,_⟩,⟨0,none,_,_,_⟩,⟨0,none,_,_,_⟩]) rfl ?_)
              |(refine gReg (i := 3) ?_;refine C_plain [(0,0)] (by kernel_rfl) (s := [⟨0,none,_,_,_⟩]) rfl ?_)
              |(refine gReg (i := 4) ?_;refine C_plain [(0,0),(1,0),(2,0),(3,2),(4,0)] (by kernel_rfl) (s := [⟨0,none,_,_,_⟩,⟨0,none,_,_,_⟩,⟨0,none,_,_,_⟩,⟨2,none,_,_,_⟩,⟨0,none,_,_,_⟩]) rfl ?_)
              |(refine gReg (i := 5) ?_;refine C_plain [(0,0),(1,0),(2,0),(3,2),(4,0)] (by kernel_rfl) (s := [⟨0,none,_,_,_⟩,⟨0,none,_,_,_⟩,⟨0,none,_,_,_⟩,⟨2,none,_,_,_⟩,⟨0,none,_,_,_⟩]) rfl ?_)
              |(refine gReg (i := 6) ?_;refine C_plain [(0,0),(1,2),(2,0),(3,0),(4,0),(5,2),(6,0),(7,0)] (by kernel_rfl) (s := [⟨0,none,_,_,_⟩,⟨2,none,_,_,_⟩,⟨0,none,_,_,_⟩,⟨0,none,_,_,_⟩,⟨0,some (22,false),_,_,_⟩,⟨2,some (22,false),_,_,_⟩,⟨0,some (22,false),_,_,_⟩,⟨0,none,_,_,_⟩]) rfl ?_)
              |(refine gReg (i := 7) ?_;refine C_plain [(0,0)] (by kernel_rfl) (s := [⟨0,none,_,_,_⟩]) rfl ?_)
              |(refine gReg (i := 8) ?_;refine C_plain [(0,0),(1,0),(2,0),(3,0),(4,0)] (by kernel_rfl) (s := [⟨0,none,_,_,_⟩,⟨0,none,_,_,_⟩,⟨0,none,_,_,_⟩,⟨0,none,_,_,_⟩,⟨0,none,_,_,_⟩]) rfl ?_)))
          |(refine C_true rfl ?_)
          |(refine C_false rfl ?_)
          |(refine C_split rfl ?_ ?_ <;> (intro hb;(try simp only [decide_eq_true_eq] at hb);(try simp only [decide_eq_false_iff_not] at hb);(try simp only [Bool.not_eq_true'] at hb);(try simp only [Bool.not_eq_false'] at hb);(try (exfalso;first|contradiction|omega))))
          |(refine C_skip ?_)
          |(refine C_exit ?_)
          |(refine C_ret ?_)
          |(refine C_block ?_)))
      |(refine gE ?_;(first
          |(refine E_then ?_)
          |(refine E_thenX ?_)
          |(refine E_thenR ?_)
          |(refine E_block ?_)
          |(refine E_blockY ?_)
          |(refine E_blockR ?_)
          |(refine E_calm ?_)
          |(refine E_blockX rfl ?_)
          |(apply E_ret1 rfl;(first|exact Res.tmp rfl|(apply R_cellAll rfl;(focus ((repeat (first|exact mH|refine mT ?_));done));fail)|(apply R_cell1 rfl;(focus ((repeat (first|exact mH|refine mT ?_));done));exact T.sc9)))
          |(apply E_ret2 rfl;(first|exact Res.tmp rfl|(apply R_cellAll rfl;(focus ((repeat (first|exact mH|refine mT ?_));done));fail)|(apply R_cell1 rfl;(focus ((repeat (first|exact mH|refine mT ?_));done));exact T.sc9));(first|exact Res.tmp rfl|(apply R_cellAll rfl;(focus ((repeat (first|exact mH|refine mT ?_));done));fail)|(apply R_cell1 rfl;(focus ((repeat (first|exact mH|refine mT ?_));done));exact T.sc9)))
          | (apply E_ret3 rfl; (first | exact Res.tmp rfl | (apply R_cellAll rfl; (focus ((repeat (first | exact List.Mem.head _ | refine List.Mem.tail _ ?_)); done)); fail) | (apply R_cell1 rfl; (focus ((repeat (first | exact List.Mem.head _ | refine List.Mem.tail _ ?_)); done)); exact T.sc9)); (first | exact Res.tmp rfl | (apply R_cellAll rfl; (focus ((repeat (first | exact List.Mem.head _ | refine List.Mem.tail _ ?_)); done)); fail) | (apply R_cell1 rfl; (focus ((repeat (first | exact List.Mem.head _ | refine List.Mem.tail _ ?_)); done)); exact T.sc9)); (first | exact Res.tmp rfl | (apply R_cellAll rfl; (focus ((repeat (first | exact List.Mem.head _ | refine List.Mem.tail _ ?_)); done)); fail) | (apply R_cell1 rfl; (focus ((repeat (first | exact List.Mem.head _ | refine List.Mem.tail _ ?_)); done)); exact T.sc9))))))
    all_goals
      refine retN ?_
      split
      · exact absurd rfl h2
      · rfl
def parseI (l : List UInt8) : (Int × Int) × Bool := if (Lib.cut l [47]).2.2 = true ∧ okP (addrI (Lib.cut l [47]).1) (decV (Lib.cut l [47]).2.1) = true then ((addrI (Lib.cut l [47]).1, decV (Lib.cut l [47]).2.1), true) else ((0, 0), false)
def parseS (l : List UInt8) : (Int × Int) × Bool :=
  match piecesL l 47 with
  | [a, b] => if okP (addrS a) (numV b) = true then ((addrS a, numV b), true) else ((0, 0), false)
  | _ => ((0, 0), false)
theorem okP_num (a : Int) (l : List UInt8) : okP a (decV l) = okP a (numV l) ∧ (okP a (numV l) = true → decV l = numV l) := by
  rcases dec_num l with h | ⟨h1, h2⟩
  · rw [h]; exact ⟨rfl, fun _ => rfl⟩
  · have e1 : okP a (decV l) = false := Bool.eq_false_iff.2 fun h => by have := okP_t h; omega
    have e2 : okP a (numV l) = false := Bool.eq_false_iff.2 fun h => by have := okP_t h; omega
    rw [e1, e2]
    exact ⟨rfl, fun h => by cases h⟩
theorem parse_eq (l : List UInt8) : parseI l = parseS l := by
  rcases pieces_cut l 47 with ⟨h1, h2⟩ | ⟨a, b, h1, h2 | ⟨h2, h3⟩⟩
  · rw [parseI, parseS, h1, h2]; simp
  · rw [parseI, parseS, h1, h2]
    simp only [true_and]
    have hb := okP_num (addrI a) b
    rw [hb.1, addr_eq]
    rw [addr_eq] at hb
    by_cases h : okP (addrS a) (numV b) = true
    · rw [if_pos h, if_pos h, hb.2 h]
    · rw [if_neg h, if_neg h]
  · have hn := (dec_of_not h2 (by decide)).1
    rw [parseI, h1, parseS]
    rw [if_neg (by rw [hn]; rintro ⟨_, h⟩; have := okP_t h; omega)]
    split
    · rename_i q1 q2 e
      rw [e] at h3; simp at h3
    · rfl
theorem implNetParse_c (l : List UInt8) (hl : l.length ≤ 1048576) (w : World) (hw : LaidW w) (he : Errs w) : Calls Tryd.prog 16 #[.string (str l)] w (RetN (.tuple #[.agg #[.int .i64 (parseI l).1.1, .int .i64 (parseI l).1.2], .bool (parseI l).2]) w) := by
  have hcl := cut_len l 47
  have hdef : parseI l = if (Lib.cut l [47]).2.2 = true ∧ okP (addrI (Lib.cut l [47]).1) (decV (Lib.cut l [47]).2.1) = true then ((addrI (Lib.cut l [47]).1, decV (Lib.cut l [47]).2.1), true) else ((0, 0), false) := rfl
  have hsc := strCut_c l 47 hl
  rw [hdef]
  clear hdef
  generalize hq : Lib.cut l [47] = q at hcl hsc ⊢
  obtain ⟨a, b, f⟩ := q
  dsimp only at hcl hsc ⊢
  have hda := implNetAddr_c a (by omega)
  have hdb := decimal_c b (by omega)
  generalize addrI a = za at hda ⊢
  generalize decV b = zb at hdb ⊢
  refine enter (n := 28) (E := [(0, _)]) Tryd.func16 rfl rfl rfl rfl ?_
  repeat' (first
    |(refine gS ?_;(first
        |(refine gGuard ?_;(first
            |(refine S_on rfl ?_)
            |(refine S_off rfl rfl rfl ?_)
            |(refine S_offn rfl rfl ?_)
            |(refine S_offU rfl rfl ?_)
            |(refine S_offUn rfl ?_)
            |(refine S_gsplit rfl ?_ ?_ <;> (intro hb;(try simp only [decide_eq_true_eq] at hb);(try simp only [decide_eq_false_iff_not] at hb);(try simp only [Bool.not_eq_true'] at hb);(try simp only [Bool.not_eq_false'] at hb);(try (exfalso;first|contradiction|omega))))))
        |(refine S_move rfl rfl ?_)
        |(refine S_assign rfl rfl ?_)
        |(refine gLoad ?_;(first
            |(apply F_loadAll rfl rfl;(focus ((repeat (first|exact mH|refine mT ?_));done));exact T.rw27;(focus (first|exact free0|exact free1)))
            |(apply F_loadP rfl rfl;(focus ((repeat (first|exact mH|refine mT ?_));done));exact T.rw27;(focus ((repeat (first|exact Take.nil|apply Take.here|apply Take.there));done));rfl;(focus (first|exact free0|exact free1)))))
        |(refine gStore ?_;(first
            |(apply F_storeN rfl rfl;(focus (first|rfl|assumption|(simp only [List.append_nil,List.all_cons,List.all_nil,Bool.and_true,Bool.true_and,one_int,one_bool,one_string,one_slice,one_pointer, *];done)));exact T.rw27;(focus ((repeat (first|exact Upd.here|apply Upd.there));done));(focus ((repeat (first|exact SetSeg.nil|apply SetSeg.here|apply SetSeg.there));done));(first|exact okst2|exact okst1|exact okst1'))))
        |(refine gCall ?_;(first
            |(show GoS _ _ _ _ _ _ _ (⟨_,_,_,.call ⟨.value (.func 30),_,_⟩,_⟩ :: _);refine S_callN (f := 30) rfl T.pf30 rfl (fun w hst => hsc w (hw.ext hst.ext)) rfl ?_)
            |(show GoS _ _ _ _ _ _ _ (⟨_,_,_,.call ⟨.value (.func 14),_,_⟩,_⟩ :: _);refine S_callN (f := 14) rfl T.pf14 rfl (fun w hst => hda w (hw.ext hst.ext) (he.ext hst.ext)) rfl ?_)
            |(show GoS _ _ _ _ _ _ _ (⟨_,_,_,.call ⟨.value (.func 31),_,_⟩,_⟩ :: _);refine S_callN (f := 31) rfl T.pf31 rfl (fun w hst => hdb w (hw.ext hst.ext) (he.ext hst.ext)) rfl ?_)
            |(show GoS _ _ _ _ _ _ _ (⟨_,_,_,.call ⟨.value (.func 19),_,_⟩,_⟩ :: _);refine S_callN (f := 19) rfl T.pf19 rfl (fun w hst => implNetOk_c _ _ w) rfl ?_)))
        |(refine gPick ?_;(first
            |(refine S_pickT rfl rfl rfl ?_)
            |(refine S_pickF rfl rfl rfl ?_)))
        |(apply S_alloc rfl (hd := rfl);exact T.zc27;intro kb)
        |(apply F_build2 rfl (hd := rfl);exact T.st27;(focus ((repeat (first|exact BuildR.nil|(apply BuildR.cons;(first|exact T.fs27_0|exact T.fs27_1);rfl;rfl;(focus ((repeat (first|exact SetSeg.nil|apply SetSeg.here|apply SetSeg.there));done)))|(apply BuildR.cons1;(first|exact T.fs27_0|exact T.fs27_1);(focus assumption);(focus ((repeat (first|exact SetSeg.nil|apply SetSeg.here|apply SetSeg.there));done)))));done)))
        |(refine S_not rfl rfl ?_)
        |(refine S_extract rfl rfl rfl ?_)
        |(refine S_done ?_)))
    |(refine gC ?_;(first
        |(refine C_seq ?_)
        |(refine gReg ?_;(first
            |(refine gReg (i := 0) ?_;refine C_plain [(0,2),(1,0)] (by kernel_rfl) (s := [⟨2,none,_,_,_⟩,⟨0,none,_,_,_⟩]) rfl ?_)
            |(refine gReg (i := 1) ?_;refine C_plain [(0,0),(1,2),(2,0),(3,0),(4,0),(5,0),(6,0),(7,0),(8,0)] (by kernel_rfl) (s := [⟨0,none,_,_,_⟩,⟨2,none,_,_,_⟩,⟨0,none,_,_,_⟩,⟨0,none,_,_,_⟩,⟨0,none,_,_,_⟩,⟨0,none,_,_,_⟩,⟨0,none,_,_,_⟩,⟨0,none,_,_,_⟩,⟨0,none,_,_,_⟩]) rfl ?_)
            |(refine gReg (i := 2) ?_;refine C_plain [(0,0),(1,2),(2,0),(3,2),(4,0),(5,2),(6,2)] (by kernel_rfl) (s := [⟨0,none,_,_,_⟩,⟨2,none,_,_,_⟩,⟨0,none,_,_,_⟩,⟨2,none,_,_,_⟩,⟨0,none,_,_,_⟩,⟨2,none,_,_,_⟩,⟨2,none,_,_,_⟩]) rfl ?_)
            |(refine gReg (i := 3) ?_;refine C_plain [(0,0),(1,0),(2,0),(3,0),(4,2),(5,0),(6,0)] (by kernel_rfl) (s := [⟨0,none,_,_,_⟩,⟨0,none,_,_,_⟩,⟨0,none,_,_,_⟩,⟨0,some (21,false),_,_,_⟩,⟨2,some (21,false),_,_,_⟩,⟨0,some (21,false),_,_,_⟩,⟨0,none,_,_,_⟩]) rfl ?_)
            |(refine gReg (i := 4) ?_;refine C_plain [(0,0),(1,2),(2,0)] (by kernel_rfl) (s := [⟨0,none,_,_,_⟩,⟨2,none,_,_,_⟩,⟨0,none,_,_,_⟩]) rfl ?_)
            |(refine gReg (i := 5) ?_;refine C_plain [(0,0),(1,2),(2,0)] (by kernel_rfl) (s := [⟨0,none,_,_,_⟩,⟨2,none,_,_,_⟩,⟨0,none,_,_,_⟩]) rfl ?_)))
        |(refine C_true rfl ?_)
        |(refine C_false rfl ?_)
        |(refine C_split rfl ?_ ?_ <;> (intro hb;(try simp only [decide_eq_true_eq] at hb);(try simp only [decide_eq_false_iff_not] at hb);(try simp only [Bool.not_eq_true'] at hb);(try simp only [Bool.not_eq_false'] at hb);(try (exfalso;first|contradiction|omega))))
        |(refine C_skip ?_)
        |(refine C_exit ?_)
        |(refine C_ret ?_)
        |(refine C_block ?_)))
    |(refine gE ?_;(first
        |(refine E_then ?_)
        |(refine E_thenX ?_)
        |(refine E_thenR ?_)
        |(refine E_block ?_)
        |(refine E_blockY ?_)
        |(refine E_blockR ?_)
        |(refine E_calm ?_)
        |(refine E_blockX rfl ?_)
        |(apply E_ret1 rfl;(first|exact Res.tmp rfl|(apply R_cellAll rfl;(focus ((repeat (first|exact mH|refine mT ?_));done));exact T.rw27)|(apply R_cell1 rfl;(focus ((repeat (first|exact mH|refine mT ?_));done));fail)))
        |(apply E_ret2 rfl;(first|exact Res.tmp rfl|(apply R_cellAll rfl;(focus ((repeat (first|exact mH|refine mT ?_));done));exact T.rw27)|(apply R_cell1 rfl;(focus ((repeat (first|exact mH|refine mT ?_));done));fail));(first|exact Res.tmp rfl|(apply R_cellAll rfl;(focus ((repeat (first|exact mH|refine mT ?_));done));exact T.rw27)|(apply R_cell1 rfl;(focus ((repeat (first|exact mH|refine mT ?_));done));fail)))
        | (apply E_ret3 rfl; (first | exact Res.tmp rfl | (apply R_cellAll rfl; (focus ((repeat (first | exact List.Mem.head _ | refine List.Mem.tail _ ?_)); done)); exact T.rw27) | (apply R_cell1 rfl; (focus ((repeat (first | exact List.Mem.head _ | refine List.Mem.tail _ ?_)); done)); fail)); (first | exact Res.tmp rfl | (apply R_cellAll rfl; (focus ((repeat (first | exact List.Mem.head _ | refine List.Mem.tail _ ?_)); done)); exact T.rw27) | (apply R_cell1 rfl; (focus ((repeat (first | exact List.Mem.head _ | refine List.Mem.tail _ ?_)); done)); fail)); (first | exact Res.tmp rfl | (apply R_cellAll rfl; (focus ((repeat (first | exact List.Mem.head _ | refine List.Mem.tail _ ?_)); done)); exact T.rw27) | (apply R_cell1 rfl; (focus ((repeat (first | exact List.Mem.head _ | refine List.Mem.tail _ ?_)); done)); fail))))))
  all_goals (refine retN ?_; simp_all)
theorem specNetParse_c (l : List UInt8) (hl : l.length ≤ 1048576) (w : World) : Calls Tryd.prog 15 #[.string (str l)] w (RetN (.tuple #[.agg #[.int .i64 (parseS l).1.1, .int .i64 (parseS l).1.2], .bool (parseS l).2]) w) := by
  have hdef : parseS l = (match piecesL l 47 with
    | [a, b] => if okP (addrS a) (numV b) = true then ((addrS a, numV b), true) else ((0, 0), false)
    | _ => ((0, 0), false)) := rfl
  have hc := l2Cut_c l 47 hl
  have hpl := pieces_len l 47
  rw [hdef]
  clear hdef
  generalize piecesL l 47 = ps at hc hpl ⊢
  refine enter (n := 26) (E := [(0, _)]) Tryd.func15 rfl rfl rfl rfl ?_
  repeat' (first
    |(refine gS ?_;(first
        |(refine S_move rfl rfl ?_)
        |(refine S_assign rfl rfl ?_)
        |(apply F_idx rfl rfl rfl;exact T.sl42;(focus rfl);(focus (first|exact len_nil|(apply len_given;assumption)|(apply len_row;(focus ((repeat (first|exact mH|refine mT ?_));done)))|(apply len_isN;assumption)));(focus omega))
        |(apply F_idxZ rfl rfl rfl;exact T.sl42;(focus omega);(focus (first|exact len_nil|(apply len_given;assumption)|(apply len_row;(focus ((repeat (first|exact mH|refine mT ?_));done)))|(apply len_isN;assumption)));(focus omega))
        |(refine gLoad ?_;(first
            |(apply F_load1 rfl rfl;(focus ((repeat (first|exact mH|refine mT ?_));done));exact T.sc9;rfl;(focus (first|exact free0|exact free1)))
            |(apply F_loadAll rfl rfl;(focus ((repeat (first|exact mH|refine mT ?_));done));exact T.rw27;(focus (first|exact free0|exact free1)))
            |(apply F_loadP rfl rfl;(focus ((repeat (first|exact mH|refine mT ?_));done));exact T.rw27;(focus ((repeat (first|exact Take.nil|apply Take.here|apply Take.there));done));rfl;(focus (first|exact free0|exact free1)))
            |(apply F_loadS1 rfl rfl;exact T.sc9;(focus (first|exact rd_nil|(apply rd_given;(focus assumption);(focus (first|exact freeG0|exact freeG1)))|(apply rd_row;(focus ((repeat (first|exact mH|refine mT ?_));done));(focus (first|exact freeR0|exact freeR1)))));(focus (first|(apply at_cell;(focus (apply at_flat;(focus (intro _;rfl));(focus assumption)));rfl)|(apply at_cell0;(focus (apply at_flat;(focus (intro _;rfl));(focus assumption)));rfl)|(apply at_cell;(focus (apply at_mid0;(focus assumption)));rfl)|(apply at_cell0;(focus (apply at_mid0;(focus assumption)));rfl)|rfl)))
            |(apply F_loadSN rfl rfl;exact T.rw27;(focus (first|exact rd_nil|(apply rd_given;(focus assumption);(focus (first|exact freeG0|exact freeG1)))|(apply rd_row;(focus ((repeat (first|exact mH|refine mT ?_));done));(focus (first|exact freeR0|exact freeR1)))));(focus (first|(focus (apply at_flat;(focus (intro _;rfl));(focus assumption)))|exact at_self));rfl;rfl)
            |(apply F_loadSP rfl rfl;exact T.rw27;(focus (first|exact rd_nil|(apply rd_given;(focus assumption);(focus (first|exact freeG0|exact freeG1)))|(apply rd_row;(focus ((repeat (first|exact mH|refine mT ?_));done));(focus (first|exact freeR0|exact freeR1)))));(focus (apply at_flat;(focus (intro _;rfl));(focus assumption)));(focus ((repeat (first|exact Take.nil|apply Take.here|apply Take.there));done));rfl;rfl)))
        |(refine gStore ?_;(first
            |(apply F_store1 rfl rfl;(focus (first|rfl|assumption));exact T.sc9;(focus ((repeat (first|exact Upd.here|apply Upd.there));done));(focus ((repeat (first|exact SetSeg.nil|apply SetSeg.here|apply SetSeg.there));done));(first|exact okst2|exact okst1|exact okst1'))
            |(apply F_storeN rfl rfl;(focus (first|rfl|assumption|(simp only [List.append_nil,List.all_cons,List.all_nil,Bool.and_true,Bool.true_and,one_int,one_bool,one_string,one_slice,one_pointer, *];done)));exact T.rw27;(focus ((repeat (first|exact Upd.here|apply Upd.there));done));(focus ((repeat (first|exact SetSeg.nil|apply SetSeg.here|apply SetSeg.there));done));(first|exact okst2|exact okst1|exact okst1'))
            |(apply F_storeM0 rfl rfl;(focus ((repeat (first|exact Upd.here|apply Upd.there));done));(focus assumption);exact T.sc9;(focus (first|rfl|assumption));(focus ((repeat (first|exact SetSeg.nil|apply SetSeg.here|apply SetSeg.there));done));(focus omega);(first|exact okst2|exact okst1|exact okst1'))
            |(apply F_storeM1 rfl rfl;(focus ((repeat (first|exact Upd.here|apply Upd.there));done));(focus assumption);exact T.sc9;(focus (first|rfl|assumption));(focus ((repeat (first|exact SetSeg.nil|apply SetSeg.here|apply SetSeg.there));done));(focus omega);(first|exact okst2|exact okst1|exact okst1'))
            |(apply F_storeS1 rfl rfl;(focus ((repeat (first|exact Upd.here|apply Upd.there));done));exact T.sc9;(focus (first|rfl|assumption));(focus omega);(first|exact okst2|exact okst1|exact okst1'))
            |(apply F_storeSN rfl rfl;(focus ((repeat (first|exact Upd.here|apply Upd.there));done));exact T.rw27;rfl;(focus (first|rfl|assumption|(simp only [List.append_nil,List.all_cons,List.all_nil,Bool.and_true,Bool.true_and,one_int,one_bool,one_string,one_slice,one_pointer, *];done)));rfl;(focus omega);(first|exact okst2|exact okst1|exact okst1'))))
        |(refine gCall ?_;(first
            |(show GoS _ _ _ _ _ _ _ (⟨_,_,_,.call ⟨.value (.func 28),_,_⟩,_⟩ :: _);refine S_callR (f := 28) rfl T.pf28 rfl (fun w hst => hc w) rfl ?_;intro sv)
            |(apply F_len rfl rfl rfl;(focus exact ⟨_,_,by exact T.sl42⟩);(focus (first|exact len_nil|(apply len_given;assumption)|(apply len_row;(focus ((repeat (first|exact mH|refine mT ?_));done)))|(apply len_isN;assumption))))))
        |(refine gBin ?_;(first
            |(refine S_neq rfl rfl rfl ?_)
            |(refine S_neqB Tryd.underlying4 rfl rfl rfl ?_)))
        |(apply S_alloc rfl (hd := rfl);exact T.zc27;intro kb)
        |(apply F_build2 rfl (hd := rfl);exact T.st27;(focus ((repeat (first|exact BuildR.nil|(apply BuildR.cons;(first|exact T.fs27_0|exact T.fs27_1);rfl;rfl;(focus ((repeat (first|exact SetSeg.nil|apply SetSeg.here|apply SetSeg.there));done)))|(apply BuildR.cons1;(first|exact T.fs27_0|exact T.fs27_1);(focus assumption);(focus ((repeat (first|exact SetSeg.nil|apply SetSeg.here|apply SetSeg.there));done)))));done)))
        |(refine S_not rfl rfl ?_)
        |(refine S_done ?_)))
    |((first
        |(refine C_seq ?_)
        |(refine gReg ?_;(first
            |(refine gReg (i := 0) ?_;refine C_plain [(0,2),(1,0)] (by kernel_rfl) (s := [⟨2,none,_,_,_⟩,⟨0,none,_,_,_⟩]) rfl ?_)
            |(refine gReg (i := 1) ?_;refine C_plain [(0,0),(1,2),(2,0)] (by kernel_rfl) (s := [⟨0,none,_,_,_⟩,⟨2,none,_,_,_⟩,⟨0,none,_,_,_⟩]) rfl ?_)
            |(refine gReg (i := 3) ?_;refine C_plain [(0,0),(1,2),(2,0)] (by kernel_rfl) (s := [⟨0,none,_,_,_⟩,⟨2,none,_,_,_⟩,⟨0,none,_,_,_⟩]) rfl ?_)
            |(refine gReg (i := 4) ?_;refine C_drawnT (.br [(0,0),(1,0),(2,0),(4,0),(5,0),(6,0)] (.br [(3,1)] (.fin [(7,1),(8,0),(9,1),(10,2)]) (.fin [(9,1),(7,1),(8,0),(10,2)])) (.fin [(9,1),(3,1),(7,1),(8,0),(10,2)])) [] T.mixed (by kernel_rfl) (s := (.br [⟨0,none,_,_,_⟩,⟨0,none,_,_,_⟩,⟨0,none,_,_,_⟩,⟨0,none,_,_,_⟩,⟨0,none,_,_,_⟩,⟨0,none,_,_,_⟩] (.br [⟨1,none,_,_,_⟩] (.fin [⟨1,none,_,_,_⟩,⟨0,none,_,_,_⟩,⟨1,none,_,_,_⟩,⟨2,none,_,_,_⟩]) (.fin [⟨1,none,_,_,_⟩,⟨1,none,_,_,_⟩,⟨0,none,_,_,_⟩,⟨2,none,_,_,_⟩])) (.fin [⟨1,none,_,_,_⟩,⟨1,none,_,_,_⟩,⟨1,none,_,_,_⟩,⟨0,none,_,_,_⟩,⟨2,none,_,_,_⟩]))) rfl ?_)
            |(refine gReg (i := 5) ?_;refine C_plain [(0,0),(1,2),(2,0)] (by kernel_rfl) (s := [⟨0,none,_,_,_⟩,⟨2,none,_,_,_⟩,⟨0,none,_,_,_⟩]) rfl ?_)
            |(refine gReg (i := 6) ?_;refine C_plain [(0,0),(1,2),(2,0)] (by kernel_rfl) (s := [⟨0,none,_,_,_⟩,⟨2,none,_,_,_⟩,⟨0,none,_,_,_⟩]) rfl ?_)
            |(refine gReg (i := 7) ?_;refine C_plain [(0,0),(1,2),(2,0)] (by kernel_rfl) (s := [⟨0,none,_,_,_⟩,⟨2,none,_,_,_⟩,⟨0,none,_,_,_⟩]) rfl ?_)))
        |(refine C_true rfl ?_)
        |(refine C_false rfl ?_)
        |(refine C_split rfl ?_ ?_ <;> (intro hb;(try simp only [decide_eq_true_eq] at hb);(try simp only [decide_eq_false_iff_not] at hb);(try simp only [Bool.not_eq_true'] at hb);(try simp only [Bool.not_eq_false'] at hb);(try (exfalso;first|contradiction|omega))))
        |(refine C_skip ?_)
        |(refine C_exit ?_)
        |(refine C_ret ?_)
        |(refine C_block ?_)
        |(refine T_fin ?_)
        |(refine T_br ?_)))
    |(refine gE ?_;(first
        |(refine E_then ?_)
        |(refine E_thenX ?_)
        |(refine E_thenR ?_)
        |(refine E_block ?_)
        |(refine E_blockY ?_)
        |(refine E_blockR ?_)
        |(refine E_calm ?_)
        |(refine E_blockX rfl ?_)
        |(apply E_ret1 rfl;(first|exact Res.tmp rfl|(apply R_cellAll rfl;(focus ((repeat (first|exact mH|refine mT ?_));done));exact T.rw27)|(apply R_cell1 rfl;(focus ((repeat (first|exact mH|refine mT ?_));done));exact T.sc9)))
        |(apply E_ret2 rfl;(first|exact Res.tmp rfl|(apply R_cellAll rfl;(focus ((repeat (first|exact mH|refine mT ?_));done));exact T.rw27)|(apply R_cell1 rfl;(focus ((repeat (first|exact mH|refine mT ?_));done));exact T.sc9));(first|exact Res.tmp rfl|(apply R_cellAll rfl;(focus ((repeat (first|exact mH|refine mT ?_));done));exact T.rw27)|(apply R_cell1 rfl;(focus ((repeat (first|exact mH|refine mT ?_));done));exact T.sc9)))
        |(apply E_ret3 rfl;(first|exact Res.tmp rfl|(apply R_cellAll rfl;(focus ((repeat (first|exact mH|refine mT ?_));done));exact T.rw27)|(apply R_cell1 rfl;(focus ((repeat (first|exact mH|refine mT ?_));done));exact T.sc9));(first|exact Res.tmp rfl|(apply R_cellAll rfl;(focus ((repeat (first|exact mH|refine mT ?_));done));exact T.rw27)|(apply R_cell1 rfl;(focus ((repeat (first|exact mH|refine mT ?_));done));exact T.sc9));(first|exact Res.tmp rfl|(apply R_cellAll rfl;(focus ((repeat (first|exact mH|refine mT ?_));done));exact T.rw27)|(apply R_cell1 rfl;(focus ((repeat (first|exact mH|refine mT ?_));done));exact T.sc9)))
        | (refine E_both ?_ ?_))))
  by_cases h2 : ps.length = 2
  · obtain ⟨a, b, rfl⟩ := two_of h2
    have hla := specNetAddr_c a (Nat.le_trans (hpl a (by simp)) hl)
    have hlb := l2Num_c b (Nat.le_trans (hpl b (by simp)) hl)
    dsimp only
    generalize addrS a = za at hla ⊢
    generalize numV b = zb at hlb ⊢
    repeat' (first
      |(refine gS ?_;(first
          |(refine S_move rfl rfl ?_)
          |(refine S_assign rfl rfl ?_)
          |(apply F_idx rfl rfl rfl;exact T.sl42;(focus rfl);(focus (first|exact len_nil|(apply len_given;assumption)|(apply len_row;(focus ((repeat (first|exact mH|refine mT ?_));done)))|(apply len_isN;assumption)));(focus omega))
          |(apply F_idxZ rfl rfl rfl;exact T.sl42;(focus omega);(focus (first|exact len_nil|(apply len_given;assumption)|(apply len_row;(focus ((repeat (first|exact mH|refine mT ?_));done)))|(apply len_isN;assumption)));(focus omega))
          |(refine gLoad ?_;(first
              |(apply F_load1 rfl rfl;(focus ((repeat (first|exact mH|refine mT ?_));done));exact T.sc9;rfl;(focus (first|exact free0|exact free1)))
              |(apply F_loadAll rfl rfl;(focus ((repeat (first|exact mH|refine mT ?_));done));exact T.rw27;(focus (first|exact free0|exact free1)))
              |(apply F_loadP rfl rfl;(focus ((repeat (first|exact mH|refine mT ?_));done));exact T.rw27;(focus ((repeat (first|exact Take.nil|apply Take.here|apply Take.there));done));rfl;(focus (first|exact free0|exact free1)))
              |(apply F_loadS1 rfl rfl;exact T.sc9;(focus (first|exact rd_nil|(apply rd_given;(focus assumption);(focus (first|exact freeG0|exact freeG1)))|(apply rd_row;(focus ((repeat (first|exact mH|refine mT ?_));done));(focus (first|exact freeR0|exact freeR1)))));(focus (first|(apply at_cell;(focus (apply at_flat;(focus (intro _;rfl));(focus assumption)));rfl)|(apply at_cell0;(focus (apply at_flat;(focus (intro _;rfl));(focus assumption)));rfl)|(apply at_cell;(focus (apply at_mid0;(focus assumption)));rfl)|(apply at_cell0;(focus (apply at_mid0;(focus assumption)));rfl)|rfl)))
              |(apply F_loadSN rfl rfl;exact T.rw27;(focus (first|exact rd_nil|(apply rd_given;(focus assumption);(focus (first|exact freeG0|exact freeG1)))|(apply rd_row;(focus ((repeat (first|exact mH|refine mT ?_));done));(focus (first|exact freeR0|exact freeR1)))));(focus (first|(focus (apply at_flat;(focus (intro _;rfl));(focus assumption)))|exact at_self));rfl;rfl)
              |(apply F_loadSP rfl rfl;exact T.rw27;(focus (first|exact rd_nil|(apply rd_given;(focus assumption);(focus (first|exact freeG0|exact freeG1)))|(apply rd_row;(focus ((repeat (first|exact mH|refine mT ?_));done));(focus (first|exact freeR0|exact freeR1)))));(focus (apply at_flat;(focus (intro _;rfl));(focus assumption)));(focus ((repeat (first|exact Take.nil|apply Take.here|apply Take.there));done));rfl;rfl)))
          |(refine gStore ?_;(first
              |(apply F_store1 rfl rfl;(focus (first|rfl|assumption));exact T.sc9;(focus ((repeat (first|exact Upd.here|apply Upd.there));done));(focus ((repeat (first|exact SetSeg.nil|apply SetSeg.here|apply SetSeg.there));done));(first|exact okst2|exact okst1|exact okst1'))
              |(apply F_storeN rfl rfl;(focus (first|rfl|assumption|(simp only [List.append_nil,List.all_cons,List.all_nil,Bool.and_true,Bool.true_and,one_int,one_bool,one_string,one_slice,one_pointer, *];done)));exact T.rw27;(focus ((repeat (first|exact Upd.here|apply Upd.there));done));(focus ((repeat (first|exact SetSeg.nil|apply SetSeg.here|apply SetSeg.there));done));(first|exact okst2|exact okst1|exact okst1'))
              |(apply F_storeM0 rfl rfl;(focus ((repeat (first|exact Upd.here|apply Upd.there));done));(focus assumption);exact T.sc9;(focus (first|rfl|assumption));(focus ((repeat (first|exact SetSeg.nil|apply SetSeg.here|apply SetSeg.there));done));(focus omega);(first|exact okst2|exact okst1|exact okst1'))
              |(apply F_storeM1 rfl rfl;(focus ((repeat (first|exact Upd.here|apply Upd.there));done));(focus assumption);exact T.sc9;(focus (first|rfl|assumption));(focus ((repeat (first|exact SetSeg.nil|apply SetSeg.here|apply SetSeg.there));done));(focus omega);(first|exact okst2|exact okst1|exact okst1'))
              |(apply F_storeS1 rfl rfl;(focus ((repeat (first|exact Upd.here|apply Upd.there));done));exact T.sc9;(focus (first|rfl|assumption));(focus omega);(first|exact okst2|exact okst1|exact okst1'))
              |(apply F_storeSN rfl rfl;(focus ((repeat (first|exact Upd.here|apply Upd.there));done));exact T.rw27;rfl;(focus (first|rfl|assumption|(simp only [List.append_nil,List.all_cons,List.all_nil,Bool.and_true,Bool.true_and,one_int,one_bool,one_string,one_slice,one_pointer, *];done)));rfl;(focus omega);(first|exact okst2|exact okst1|exact okst1'))))
          |(refine gCall ?_;(first
              |(show GoS _ _ _ _ _ _ _ (⟨_,_,_,.call ⟨.value (.func 13),_,_⟩,_⟩ :: _);refine S_callN (f := 13) rfl T.pf13 rfl (fun w hst => hla w) rfl ?_)
              |(show GoS _ _ _ _ _ _ _ (⟨_,_,_,.call ⟨.value (.func 29),_,_⟩,_⟩ :: _);refine S_callN (f := 29) rfl T.pf29 rfl (fun w hst => hlb w) rfl ?_)
              |(show GoS _ _ _ _ _ _ _ (⟨_,_,_,.call ⟨.value (.func 21),_,_⟩,_⟩ :: _);refine S_callN (f := 21) rfl T.pf21 rfl (fun w hst => specNetOk_c _ _ w) rfl ?_)
              |(apply F_len rfl rfl rfl;(focus exact ⟨_,_,by exact T.sl42⟩);(focus (first|exact len_nil|(apply len_given;assumption)|(apply len_row;(focus ((repeat (first|exact mH|refine mT ?_));done)))|(apply len_isN;assumption))))))
          |(refine gBin ?_;(first
              |(refine S_neq rfl rfl rfl ?_)
              |(refine S_neqB Tryd.underlying4 rfl rfl rfl ?_)))
          |(apply S_alloc rfl (hd := rfl);exact T.zc27;intro kb)
          |(apply F_build2 rfl (hd := rfl);exact T.st27;(focus ((repeat (first|exact BuildR.nil|(apply BuildR.cons;(first|exact T.fs27_0|exact T.fs27_1);rfl;rfl;(focus ((repeat (first|exact SetSeg.nil|apply SetSeg.here|apply SetSeg.there));done)))|(apply BuildR.cons1;(first|exact T.fs27_0|exact T.fs27_1);(focus assumption);(focus ((repeat (first|exact SetSeg.nil|apply SetSeg.here|apply SetSeg.there));done)))));done)))
          |(refine S_not rfl rfl ?_)
          |(refine S_done ?_)))
      |((first
          |(refine C_seq ?_)
          |(refine gReg ?_;(first
              |(refine gReg (i := 0) ?_;refine C_plain [(0,2),(1,0)] (by kernel_rfl) (s := [⟨2,none,_,_,_⟩,⟨0,none,_,_,_⟩]) rfl ?_)
              |(refine gReg (i := 1) ?_;refine C_plain [(0,0),(1,2),(2,0)] (by kernel_rfl) (s := [⟨0,none,_,_,_⟩,⟨2,none,_,_,_⟩,⟨0,none,_,_,_⟩]) rfl ?_)
              |(refine gReg (i := 2) ?_;refine C_plain [(0,0),(1,0),(2,0)] (by kernel_rfl) (s := [⟨0,none,_,_,_⟩,⟨0,none,_,_,_⟩,⟨0,none,_,_,_⟩]) rfl ?_)
              |(refine gReg (i := 3) ?_;refine C_plain [(0,0),(1,2),(2,0)] (by kernel_rfl) (s := [⟨0,none,_,_,_⟩,⟨2,none,_,_,_⟩,⟨0,none,_,_,_⟩]) rfl ?_)
              |(refine gReg (i := 4) ?_;refine C_drawnT (.br [(0,0),(1,0),(2,0),(4,0),(5,0),(6,0)] (.br [(3,1)] (.fin [(7,1),(8,0),(9,1),(10,2)]) (.fin [(9,1),(7,1),(8,0),(10,2)])) (.fin [(9,1),(3,1),(7,1),(8,0),(10,2)])) [] T.mixed (by kernel_rfl) (s := (.br [⟨0,none,_,_,_⟩,⟨0,none,_,_,_⟩,⟨0,none,_,_,_⟩,⟨0,none,_,_,_⟩,⟨0,none,_,_,_⟩,⟨0,none,_,_,_⟩] (.br [⟨1,none,_,_,_⟩] (.fin [⟨1,none,_,_,_⟩,⟨0,none,_,_,_⟩,⟨1,none,_,_,_⟩,⟨2,none,_,_,_⟩]) (.fin [⟨1,none,_,_,_⟩,⟨1,none,_,_,_⟩,⟨0,none,_,_,_⟩,⟨2,none,_,_,_⟩])) (.fin [⟨1,none,_,_,_⟩,⟨1,none,_,_,_⟩,⟨1,none,_,_,_⟩,⟨0,none,_,_,_⟩,⟨2,none,_,_,_⟩]))) rfl ?_)
              |(refine gReg (i := 5) ?_;refine C_plain [(0,0),(1,2),(2,0)] (by kernel_rfl) (s := [⟨0,none,_,_,_⟩,⟨2,none,_,_,_⟩,⟨0,none,_,_,_⟩]) rfl ?_)
              |(refine gReg (i := 6) ?_;refine C_plain [(0,0),(1,2),(2,0)] (by kernel_rfl) (s := [⟨0,none,_,_,_⟩,⟨2,none,_,_,_⟩,⟨0,none,_,_,_⟩]) rfl ?_)
              |(refine gReg (i := 7) ?_;refine C_plain [(0,0),(1,2),(2,0)] (by kernel_rfl) (s := [⟨0,none,_,_,_⟩,⟨2,none,_,_,_⟩,⟨0,none,_,_,_⟩]) rfl ?_)))
          |(refine C_true rfl ?_)
          |(refine C_false rfl ?_)
          |(refine C_split rfl ?_ ?_ <;> (intro hb;(try simp only [decide_eq_true_eq] at hb);(try simp only [decide_eq_false_iff_not] at hb);(try simp only [Bool.not_eq_true'] at hb);(try simp only [Bool.not_eq_false'] at hb);(try (exfalso;first|contradiction|omega))))
          |(refine C_skip ?_)
          |(refine C_exit ?_)
          |(refine C_ret ?_)
          |(refine C_block ?_)
          |(refine T_fin ?_)
          |(refine T_br ?_)))
      |(refine gE ?_;(first
          |(refine E_then ?_)
          |(refine E_thenX ?_)
          |(refine E_thenR ?_)
          |(refine E_block ?_)
          |(refine E_blockY ?_)
          |(refine E_blockR ?_)
          |(refine E_calm ?_)
          |(refine E_blockX rfl ?_)
          |(apply E_ret1 rfl;(first|exact Res.tmp rfl|(apply R_cellAll rfl;(focus ((repeat (first|exact mH|refine mT ?_));done));exact T.rw27)|(apply R_cell1 rfl;(focus ((repeat (first|exact mH|refine mT ?_));done));exact T.sc9)))
          |(apply E_ret2 rfl;(first|exact Res.tmp rfl|(apply R_cellAll rfl;(focus ((repeat (first|exact mH|refine mT ?_));done));exact T.rw27)|(apply R_cell1 rfl;(focus ((repeat (first|exact mH|refine mT ?_));done));exact T.sc9));(first|exact Res.tmp rfl|(apply R_cellAll rfl;(focus ((repeat (first|exact mH|refine mT ?_));done));exact T.rw27)|(apply R_cell1 rfl;(focus ((repeat (first|exact mH|refine mT ?_));done));exact T.sc9)))
          |(apply E_ret3 rfl;(first|exact Res.tmp rfl|(apply R_cellAll rfl;(focus ((repeat (first|exact mH|refine mT ?_));done));exact T.rw27)|(apply R_cell1 rfl;(focus ((repeat (first|exact mH|refine mT ?_));done));exact T.sc9));(first|exact Res.tmp rfl|(apply R_cellAll rfl;(focus ((repeat (first|exact mH|refine mT ?_));done));exact T.rw27)|(apply R_cell1 rfl;(focus ((repeat (first|exact mH|refine mT ?_));done));exact T.sc9));(first|exact Res.tmp rfl|(apply R_cellAll rfl;(focus ((repeat (first|exact mH|refine mT ?_));done));exact T.rw27)|(apply R_cell1 rfl;(focus ((repeat (first|exact mH|refine mT ?_));done));exact T.sc9)))
          | (refine E_both ?_ ?_))))
    all_goals (refine retN ?_; simp_all)
  · skip
    repeat' (first
      |(refine gS ?_;(first
          |(refine S_move rfl rfl ?_)
          |(refine S_assign rfl rfl ?_)
          |(apply F_idx rfl rfl rfl;exact T.sl42;(focus rfl);(focus (first|exact len_nil|(apply len_given;assumption)|(apply len_row;(focus ((repeat (first|exact mH|refine mT ?_));done)))|(apply len_isN;assumption)));(focus omega))
          |(apply F_idxZ rfl rfl rfl;exact T.sl42;(focus omega);(focus (first|exact len_nil|(apply len_given;assumption)|(apply len_row;(focus ((repeat (first|exact mH|refine mT ?_));done)))|(apply len_isN;assumption)));(focus omega))
          |(refine gLoad ?_;(first
              |(apply F_load1 rfl rfl;(focus ((repeat (first|exact mH|refine mT ?_));done));exact T.sc9;rfl;(focus (first|exact free0|exact free1)))
              |(apply F_loadAll rfl rfl;(focus ((repeat (first|exact mH|refine mT ?_));done));exact T.rw27;(focus (first|exact free0|exact free1)))
              |(apply F_loadP rfl rfl;(focus ((repeat (first|exact mH|refine mT ?_));done));exact T.rw27;(focus ((repeat (first|exact Take.nil|apply Take.here|apply Take.there));done));rfl;(focus (first|exact free0|exact free1)))
              |(apply F_loadS1 rfl rfl;exact T.sc9;(focus (first|exact rd_nil|(apply rd_given;(focus assumption);(focus (first|exact freeG0|exact freeG1)))|(apply rd_row;(focus ((repeat (first|exact mH|refine mT ?_));done));(focus (first|exact freeR0|exact freeR1)))));(focus (first|(apply at_cell;(focus (apply at_flat;(focus (intro _;rfl));(focus assumption)));rfl)|(apply at_cell0;(focus (apply at_flat;(focus (intro _;rfl));(focus assumption)));rfl)|(apply at_cell;(focus (apply at_mid0;(focus assumption)));rfl)|(apply at_cell0;(focus (apply at_mid0;(focus assumption)));rfl)|rfl)))
              |(apply F_loadSN rfl rfl;exact T.rw27;(focus (first|exact rd_nil|(apply rd_given;(focus assumption);(focus (first|exact freeG0|exact freeG1)))|(apply rd_row;(focus ((repeat (first|exact mH|refine mT ?_));done));(focus (first|exact freeR0|exact freeR1)))));(focus (first|(focus (apply at_flat;(focus (intro _;rfl));(focus assumption)))|exact at_self));rfl;rfl)
              |(apply F_loadSP rfl rfl;exact T.rw27;(focus (first|exact rd_nil|(apply rd_given;(focus assumption);(focus (first|exact freeG0|exact freeG1)))|(apply rd_row;(focus ((repeat (first|exact mH|refine mT ?_));done));(focus (first|exact freeR0|exact freeR1)))));(focus (apply at_flat;(focus (intro _;rfl));(focus assumption)));(focus ((repeat (first|exact Take.nil|apply Take.here|apply Take.there));done));rfl;rfl)))
          |(refine gStore ?_;(first
              |(apply F_store1 rfl rfl;(focus (first|rfl|assumption));exact T.sc9;(focus ((repeat (first|exact Upd.here|apply Upd.there));done));(focus ((repeat (first|exact SetSeg.nil|apply SetSeg.here|apply SetSeg.there));done));(first|exact okst2|exact okst1|exact okst1'))
              |(apply F_storeN rfl rfl;(focus (first|rfl|assumption|(simp only [List.append_nil,List.all_cons,List.all_nil,Bool.and_true,Bool.true_and,one_int,one_bool,one_string,one_slice,one_pointer, *];done)));exact T.rw27;(focus ((repeat (first|exact Upd.here|apply Upd.there));done));(focus ((repeat (first|exact SetSeg.nil|apply SetSeg.here|apply SetSeg.there));done));(first|exact okst2|exact okst1|exact okst1'))
              |(apply F_storeM0 rfl rfl;(focus ((repeat (first|exact Upd.here|apply Upd.there));done));(focus assumption);exact T.sc9;(focus (first|rfl|assumption));(focus ((repeat (first|exact SetSeg.nil|apply SetSeg.here|apply SetSeg.there));done));(focus omega);(first|exact okst2|exact okst1|exact okst1'))
              |(apply F_storeM1 rfl rfl;(focus ((repeat (first|exact Upd.here|apply Upd.there));done));(focus assumption);exact T.sc9;(focus (first|rfl|assumption));(focus ((repeat (first|exact SetSeg.nil|apply SetSeg.here|apply SetSeg.there));done));(focus omega);(first|exact okst2|exact okst1|exact okst1'))
              |(apply F_storeS1 rfl rfl;(focus ((repeat (first|exact Upd.here|apply Upd.there));done));exact T.sc9;(focus (first|rfl|assumption));(focus omega);(first|exact okst2|exact okst1|exact okst1'))
              |(apply F_storeSN rfl rfl;(focus ((repeat (first|exact Upd.here|apply Upd.there));done));exact T.rw27;rfl;(focus (first|rfl|assumption|(simp only [List.append_nil,List.all_cons,List.all_nil,Bool.and_true,Bool.true_and,one_int,one_bool,one_string,one_slice,one_pointer, *];done)));rfl;(focus omega);(first|exact okst2|exact okst1|exact okst1'))))
          |(refine gCall ?_;(first
              |(apply F_len rfl rfl rfl;(focus exact ⟨_,_,by exact T.sl42⟩);(focus (first|exact len_nil|(apply len_given;assumption)|(apply len_row;(focus ((repeat (first|exact mH|refine mT ?_));done)))|(apply len_isN;assumption))))))
          |(refine gBin ?_;(first
              |(refine S_neq rfl rfl rfl ?_)
              |(refine S_neqB Tryd.underlying4 rfl rfl rfl ?_)))
          |(apply S_alloc rfl (hd := rfl);exact T.zc27;intro kb)
          |(apply F_build2 rfl (hd := rfl);exact T.st27;(focus ((repeat (first|exact BuildR.nil|(apply BuildR.cons;(first|exact T.fs27_0|exact T.fs27_1);rfl;rfl;(focus ((repeat (first|exact SetSeg.nil|apply SetSeg.here|apply SetSeg.there));done)))|(apply BuildR.cons1;(first|exact T.fs27_0|exact T.fs27_1);(focus assumption);(focus ((repeat (first|exact SetSeg.nil|apply SetSeg.here|apply SetSeg.there));done)))));done)))
          |(refine S_not rfl rfl ?_)
          |(refine S_done ?_)))
      |((first
          |(refine C_seq ?_)
          |(refine gReg ?_;(first
              |(refine gReg (i := 0) ?_;refine C_plain [(0,2),(1,0)] (by kernel_rfl) (s := [⟨2,none,_,_,_⟩,⟨0,none,_,_,_⟩]) rfl ?_)
              |(refine gReg (i := 1) ?_;refine C_plain [(0,0),(1,2),(2,0)] (by kernel_rfl) (s := [⟨0,none,_,_,_⟩,⟨2,none,_,_,_⟩,⟨0,none,_,_,_⟩]) rfl ?_)
              |(refine gReg (i := 2) ?_;refine C_plain [(0,0),(1,0),(2,0)] (by kernel_rfl) (s := [⟨0,none,_,_,_⟩,⟨0,none,_,_,_⟩,⟨0,none,_,_,_⟩]) rfl ?_)
              |(refine gReg (i := 3) ?_;refine C_plain [(0,0),(1,2),(2,0)] (by kernel_rfl) (s := [⟨0,none,_,_,_⟩,⟨2,none,_,_,_⟩,⟨0,none,_,_,_⟩]) rfl ?_)
              |(refine gReg (i := 4) ?_;refine C_drawnT (.br [(0,0),(1,0),(2,0),(4,0),(5,0),(6,0)] (.br [(3,1)] (.fin [(7,1),(8,0),(9,1),(10,2)]) (.fin [(9,1),(7,1),(8,0),(10,2)])) (.fin [(9,1),(3,1),(7,1),(8,0),(10,2)])) [] T.mixed (by kernel_rfl) (s := (.br [⟨0,none,_,_,_⟩,⟨0,none,_,_,_⟩,⟨0,none,_,_,_⟩,⟨0,none,_,_,_⟩,⟨0,none,_,_,_⟩,⟨0,none,_,_,_⟩] (.br [⟨1,none,_,_,_⟩] (.fin [⟨1,none,_,_,_⟩,⟨0,none,_,_,_⟩,⟨1,none,_,_,_⟩,⟨2,none,_,_,_⟩]) (.fin [⟨1,none,_,_,_⟩,⟨1,none,_,_,_⟩,⟨0,none,_,_,_⟩,⟨2,none,_,_,_⟩])) (.fin [⟨1,none,_,_,_⟩,⟨1,none,_,_,_⟩,⟨1,none,_,_,_⟩,⟨0,none,_,_,_⟩,⟨2,none,_,_,_⟩]))) rfl ?_)
              |(refine gReg (i := 5) ?_;refine C_plain [(0,0),(1,2),(2,0)] (by kernel_rfl) (s := [⟨0,none,_,_,_⟩,⟨2,none,_,_,_⟩,⟨0,none,_,_,_⟩]) rfl ?_)
              |(refine gReg (i := 6) ?_;refine C_plain [(0,0),(1,2),(2,0)] (by kernel_rfl) (s := [⟨0,none,_,_,_⟩,⟨2,none,_,_,_⟩,⟨0,none,_,_,_⟩]) rfl ?_)
              |(refine gReg (i := 7) ?_;refine C_plain [(0,0),(1,2),(2,0)] (by kernel_rfl) (s := [⟨0,none,_,_,_⟩,⟨2,none,_,_,_⟩,⟨0,none,_,_,_⟩]) rfl ?_)))
          |(refine C_true rfl ?_)
          |(refine C_false rfl ?_)
          |(refine C_split rfl ?_ ?_ <;> (intro hb;(try simp only [decide_eq_true_eq] at hb);(try simp only [decide_eq_false_iff_not] at hb);(try simp only [Bool.not_eq_true'] at hb);(try simp only [Bool.not_eq_false'] at hb);(try (exfalso;first|contradiction|omega))))
          |(refine C_skip ?_)
          |(refine C_exit ?_)
          |(refine C_ret ?_)
          |(refine C_block ?_)
          |(refine T_fin ?_)
          |(refine T_br ?_)))
      |(refine gE ?_;(first
          |(refine E_then ?_)
          |(refine E_thenX ?_)
          |(refine E_thenR ?_)
          |(refine E_block ?_)
          |(refine E_blockY ?_)
          |(refine E_blockR ?_)
          |(refine E_calm ?_)
          |(refine E_blockX rfl ?_)
          |(apply E_ret1 rfl;(first|exact Res.tmp rfl|(apply R_cellAll rfl;(focus ((repeat (first|exact mH|refine mT ?_));done));exact T.rw27)|(apply R_cell1 rfl;(focus ((repeat (first|exact mH|refine mT ?_));done));exact T.sc9)))
          |(apply E_ret2 rfl;(first|exact Res.tmp rfl|(apply R_cellAll rfl;(focus ((repeat (first|exact mH|refine mT ?_));done));exact T.rw27)|(apply R_cell1 rfl;(focus ((repeat (first|exact mH|refine mT ?_));done));exact T.sc9));(first|exact Res.tmp rfl|(apply R_cellAll rfl;(focus ((repeat (first|exact mH|refine mT ?_));done));exact T.rw27)|(apply R_cell1 rfl;(focus ((repeat (first|exact mH|refine mT ?_));done));exact T.sc9)))
          |(apply E_ret3 rfl;(first|exact Res.tmp rfl|(apply R_cellAll rfl;(focus ((repeat (first|exact mH|refine mT ?_));done));exact T.rw27)|(apply R_cell1 rfl;(focus ((repeat (first|exact mH|refine mT ?_));done));exact T.sc9));(first|exact Res.tmp rfl|(apply R_cellAll rfl;(focus ((repeat (first|exact mH|refine mT ?_));done));exact T.rw27)|(apply R_cell1 rfl;(focus ((repeat (first|exact mH|refine mT ?_));done));exact T.sc9));(first|exact Res.tmp rfl|(apply R_cellAll rfl;(focus ((repeat (first|exact mH|refine mT ?_));done));exact T.rw27)|(apply R_cell1 rfl;(focus ((repeat (first|exact mH|refine mT ?_));done));exact T.sc9)))
          | (refine E_both ?_ ?_))))
    all_goals
      refine retN ?_
      split
      · exact absurd rfl h2
      · rfl
end Go.Proofs.YtbfgpjjempagpaaDoor

/- The law FnExactFragJoin: for every list of pieces both functions answer the same, none changes its argument, and what is handed back is new memory. No condition. -/
import Derived.Test.YtkfgfebendkihaaFragl
import Derived.Test.YtkfgfebendkihaaFragm
import Derived.Test.YtkfgfebendkihaaFragd
import Derived.Test.YtkfgfebendkihaaOpens
set_option linter.unusedSimpArgs false
set_option linter.unusedVariables false
namespace Go.Proofs.Ytkfgfebendkihaa.fnExactFragJoin
open Go Go.ChangeShapes Go.WideShapes Go.ChangeAt Go.RowKit
attribute [local irreducible] Calls GoS GoC GoE GoT IsFl IsSc IsRw IsSl IsEl IsSt IsFs sp Mem Rd LenOf szR
theorem join_len {l : List CFragPacket} {d : CFragPacket} (h : d = (joinC l).1) : mkFragPacket d ≤ 67108864 := by
  have e := mkleFragPacket d
  have e2 : wtFragPacket d ≤ 128 := by
    rw [h]
    unfold joinC
    split
    · rename_i hok
      split
      · split
        · exact Nat.zero_le _
        · rename_i hE
          split
          · simp only [wtFragPacket, wholeC, List.length_map, List.length_range]
            have hof : ∀ c ∈ l, 0 ≤ offP c ∧ endP c ≤ 128 := fun c hc => by
              have h2 := (okJ_iff.1 hok).2.2 c hc
              simp only [alikeC, Bool.and_eq_true] at h2
              have h3 := fragOk_t h2.1.1
              exact ⟨h3.2.2.1, h3.2.2.2⟩
            obtain ⟨c, hc, _, h2⟩ := endL_mem (fun c hc => (hof c hc).1) hE
            have := (hof c hc).2
            omega
          · exact Nat.zero_le _
      · exact Nat.zero_le _
    · exact Nat.zero_le _
  omega
theorem el_len {l : List MFragPacket} (h : wtSFragPacket (l.map ctFragPacket) ≤ 1048576) : l.length ≤ 1048576 ∧ ∀ y ∈ l, y.2.2.2.2.2.2.2.2.2.length ≤ 1048576 := by
  unfold wtSFragPacket at h
  rw [List.length_map] at h
  refine ⟨by omega, fun y hy => ?_⟩
  have h2 : y.2.2.2.2.2.2.2.2.2.length ≤ (((l.map ctFragPacket).map wtFragPacket).sum) := sum_mem (by
    rw [List.map_map]
    exact List.mem_map.2 ⟨y, hy, rfl⟩)
  omega
attribute [local irreducible] joinC mkSFragPacket mkFragPacket wtSFragPacket hdFragPacket hdSFragPacket
set_option maxHeartbeats 1000000 in
theorem walk (w : World) (x : MSFragPacket) (hx : okSFragPacket w x) : Calls Try.prog 12 #[x.1] w (RetN (.bool true) w) := by
  have hr := rdsSFragPacket hx
  refine enter (n := 96) (E := [(0, _)]) Try.func12 rfl rfl rfl rfl ?_
  repeat' (first
    | (refine gS ?_; (first
        | (refine gGuard ?_; (first
            | (refine S_on rfl ?_)
            | (refine S_off rfl rfl rfl ?_)
            | (refine S_offn rfl rfl ?_)
            | (refine S_offU rfl rfl ?_)
            | (refine S_offUn rfl ?_)
            | (refine S_gsplit rfl ?_ ?_ <;> (intro hb; (try simp only [decide_eq_true_eq] at hb); (try simp only [decide_eq_false_iff_not] at hb); (try simp only [Bool.not_eq_true'] at hb); (try simp only [Bool.not_eq_false'] at hb); (try (exfalso; first | contradiction | omega)); (try (have hsz := szR_ok hb)); (try (have hwt : wtSFragPacket (x.2.map ctFragPacket) ≤ 1048576 := by omega))))))
        | (refine S_move rfl rfl ?_)
        | (refine S_assign rfl rfl ?_)
        | (refine gLoad ?_; (first
            | (apply F_loadAll rfl rfl; (focus ((repeat (first | exact List.Mem.head _ | refine List.Mem.tail _ ?_)); done)); exact T.rw27; (focus (first | exact free0 | exact free1)))
            | (apply F_loadP rfl rfl; (focus ((repeat (first | exact List.Mem.head _ | refine List.Mem.tail _ ?_)); done)); exact T.rw27; (focus ((repeat (first | exact Take.nil | apply Take.here | apply Take.there)); done)); rfl; (focus (first | exact free0 | exact free1)))))
        | (refine gStore ?_; (first
            | (apply F_storeN rfl rfl; (focus (first | rfl | assumption | (simp only [List.append_nil, List.all_cons, List.all_nil, Bool.and_true, Bool.true_and, one_int, one_bool, one_string, one_slice, one_pointer, *]; done))); exact T.rw27; (focus ((repeat (first | exact Upd.here | apply Upd.there)); done)); (focus ((repeat (first | exact SetSeg.nil | apply SetSeg.here | apply SetSeg.there)); done)); (first | exact okst2 | exact okst1 | exact okst1'))))
        | (refine gCall ?_; (first
            | (refine S_callN (f := 41) rfl T.pf41 rfl (fun w hst => szSFragPacket_c _ _ (by omega) w (by first | (refine Rds.given hst ?_; assumption) | (apply Rds.many hst; (focus ((repeat (first | exact List.Mem.head _ | refine List.Mem.tail _ ?_)); done))) | (apply Rds.row hst; (focus ((repeat (first | exact List.Mem.head _ | refine List.Mem.tail _ ?_)); done))))) rfl ?_)
            | (refine S_callX (f := 42) rfl T.pf42 rfl (fun w hst => toSFragPacket_c _ w (by first | (refine Rds.given hst ?_; assumption) | (apply Rds.many hst; (focus ((repeat (first | exact List.Mem.head _ | refine List.Mem.tail _ ?_)); done))) | (apply Rds.row hst; (focus ((repeat (first | exact List.Mem.head _ | refine List.Mem.tail _ ?_)); done)))) hwt) rfl (fun zz hzz => ?_); simp only [List.cons_append, List.nil_append]; revert hzz; revert zz; intro y hy; refine S_fact (fun w hs => Rds.one1 (Rds.many hs (by (focus ((repeat (first | exact List.Mem.head _ | refine List.Mem.tail _ ?_)); done))))) (fun hone => ?_); have hly : wtSFragPacket (y.2.map ctFragPacket) ≤ 1048576 := (by rw [hy]; exact hwt); have hl1 := (el_len hly).1; have hl2 := (el_len hly).2; have hmy : mkSFragPacket (y.2.map ctFragPacket) ≤ 67108864 := (by have e := mkleSFragPacket (y.2.map ctFragPacket); omega))
            | (refine S_callX (f := 39) rfl T.pf39 rfl (fun w hst => specFragJoin_c _ (by assumption) (by assumption) w (by first | (refine Rds.given hst ?_; assumption) | (apply Rds.many hst; (focus ((repeat (first | exact List.Mem.head _ | refine List.Mem.tail _ ?_)); done))) | (apply Rds.row hst; (focus ((repeat (first | exact List.Mem.head _ | refine List.Mem.tail _ ?_)); done))))) rfl (fun zz hzz => ?_); simp only [List.cons_append, List.nil_append]; revert hzz; revert zz; intro z hz; refine S_fact (fun w hs => oneFragPacket (Rds.many hs (by (focus ((repeat (first | exact List.Mem.head _ | refine List.Mem.tail _ ?_)); done))))) (fun hone => ?_); have hlz := join_len hz)
            | (refine S_callX (f := 37) rfl T.pf37 rfl (fun w hst => implFragJoin_c _ (by assumption) (by assumption) w (by first | (refine Rds.given hst ?_; assumption) | (apply Rds.many hst; (focus ((repeat (first | exact List.Mem.head _ | refine List.Mem.tail _ ?_)); done))) | (apply Rds.row hst; (focus ((repeat (first | exact List.Mem.head _ | refine List.Mem.tail _ ?_)); done))))) rfl (fun zz hzz => ?_); simp only [List.cons_append, List.nil_append]; revert hzz; revert zz; intro z hz; refine S_fact (fun w hs => oneFragPacket (Rds.many hs (by (focus ((repeat (first | exact List.Mem.head _ | refine List.Mem.tail _ ?_)); done))))) (fun hone => ?_); have hlz := join_len hz)
            | (refine S_callN (f := 19) rfl T.pf19 rfl (fun w hst => eqFragPacket_c _ _ w (by first | (refine Rds.given hst ?_; assumption) | (apply Rds.many hst; (focus ((repeat (first | exact List.Mem.head _ | refine List.Mem.tail _ ?_)); done))) | (apply Rds.row hst; (focus ((repeat (first | exact List.Mem.head _ | refine List.Mem.tail _ ?_)); done)))) (by first | (refine Rds.given hst ?_; assumption) | (apply Rds.many hst; (focus ((repeat (first | exact List.Mem.head _ | refine List.Mem.tail _ ?_)); done))) | (apply Rds.row hst; (focus ((repeat (first | exact List.Mem.head _ | refine List.Mem.tail _ ?_)); done))))) rfl ?_)
            | (refine S_callN (f := 32) rfl T.pf32 rfl (fun w hst => eqSFragPacket_c _ _ w (by first | (refine Rds.given hst ?_; assumption) | (apply Rds.many hst; (focus ((repeat (first | exact List.Mem.head _ | refine List.Mem.tail _ ?_)); done))) | (apply Rds.row hst; (focus ((repeat (first | exact List.Mem.head _ | refine List.Mem.tail _ ?_)); done)))) (by first | (refine Rds.given hst ?_; assumption) | (apply Rds.many hst; (focus ((repeat (first | exact List.Mem.head _ | refine List.Mem.tail _ ?_)); done))) | (apply Rds.row hst; (focus ((repeat (first | exact List.Mem.head _ | refine List.Mem.tail _ ?_)); done))))) rfl ?_)
            | (apply S_callS (f := 33) T.pf33 rfl rfl (fun w hst => markSFragPacket_c _ _ (by omega) (by omega) _ w hst); (focus ((repeat (first | exact Pull.nil | (apply Pull.app; (focus ((repeat (first | exact PickA.here | exact PickA.all | apply PickA.there | apply PickA.over)); done))) | (apply Pull.cons; (focus ((repeat (first | exact Pick.here | exact Pick.last | apply Pick.there | apply Pick.over)); done))) | (apply Pull.atom; (focus ((repeat (first | exact PickA.here | exact PickA.all | apply PickA.there | apply PickA.over)); done))))); done)); intro zz hzz; simp only [List.cons_append, List.nil_append]; revert hzz; revert zz; rintro m ⟨hm1, hm2, hm3⟩)
            | (apply S_callS (f := 26) T.pf26 rfl rfl (fun w hst => markFragPacket_c _ _ (by omega) (by omega) _ w hst); (focus ((repeat (first | exact Pull.nil | (apply Pull.app; (focus ((repeat (first | exact PickA.here | exact PickA.all | apply PickA.there | apply PickA.over)); done))) | (apply Pull.cons; (focus ((repeat (first | exact Pick.here | exact Pick.last | apply Pick.there | apply Pick.over)); done))) | (apply Pull.atom; (focus ((repeat (first | exact PickA.here | exact PickA.all | apply PickA.there | apply PickA.over)); done))))); done)); intro zz hzz; simp only [List.cons_append, List.nil_append]; revert hzz; revert zz; rintro m ⟨hm1, hm2, hm3⟩)
            | (refine S_callN (f := 27) rfl T.pf27 rfl (fun w hst => heldFragPacket_c m _ (by assumption) _ (by omega) (by omega) (by assumption) w (by first | (refine Rds.given hst ?_; assumption) | (apply Rds.many hst; (focus ((repeat (first | exact List.Mem.head _ | refine List.Mem.tail _ ?_)); done))) | (apply Rds.row hst; (focus ((repeat (first | exact List.Mem.head _ | refine List.Mem.tail _ ?_)); done))))) rfl ?_)))
        | (refine gBin ?_; (first
            | (refine S_lss rfl rfl rfl ?_)
            | (refine S_neq rfl rfl rfl ?_)
            | (refine S_neqB Try.underlying4 rfl rfl rfl ?_)))
        | (refine gPick ?_; (first
            | (refine S_pickT rfl rfl rfl ?_)
            | (refine S_pickF rfl rfl rfl ?_)))
        | (apply S_alloc rfl (hd := rfl); exact T.zc27; intro kb)
        | (apply F_build2 rfl (hd := rfl); exact T.st27; (focus ((repeat (first | exact BuildR.nil | (apply BuildR.cons; (first | exact T.fs27_0 | exact T.fs27_1 | exact T.fs27_2 | exact T.fs27_3 | exact T.fs27_4 | exact T.fs27_5 | exact T.fs27_6 | exact T.fs27_7 | exact T.fs27_8); rfl; rfl; (focus ((repeat (first | exact SetSeg.nil | apply SetSeg.here | apply SetSeg.there)); done))) | (apply BuildR.cons1; (first | exact T.fs27_0 | exact T.fs27_1 | exact T.fs27_2 | exact T.fs27_3 | exact T.fs27_4 | exact T.fs27_5 | exact T.fs27_6 | exact T.fs27_7 | exact T.fs27_8); (focus assumption); (focus ((repeat (first | exact SetSeg.nil | apply SetSeg.here | apply SetSeg.there)); done))))); done)))
        | (refine S_not rfl rfl ?_)
        | (refine S_extract rfl rfl rfl ?_)
        | (refine S_done ?_)))
    | (refine gC ?_; (first
        | (refine C_seq ?_)
        | (refine gReg ?_; (first
            | (refine gReg (i := 0) ?_; refine C_plain [(0, 0)] (by kernel_rfl) (s := [⟨0, none, _, _, _⟩]) rfl ?_)
            | (refine gReg (i := 1) ?_; refine C_plain [(0, 0)] (by kernel_rfl) (s := [⟨0, none, _, _, _⟩]) rfl ?_)
            | (refine gReg (i := 2) ?_; refine C_plain [(0, 0), (1, 0), (2, 2), (3, 0)] (by kernel_rfl) (s := [⟨0, none, _, _, _⟩, ⟨0, none, _, _, _⟩, ⟨2, none, _, _, _⟩, ⟨0, none, _, _, _⟩]) rfl ?_)
            | (refine gReg (i := 3) ?_; refine C_plain [(0, 0), (1, 0)] (by kernel_rfl) (s := [⟨0, none, _, _, _⟩, ⟨0, none, _, _, _⟩]) rfl ?_)
            | (refine gReg (i := 4) ?_; refine C_plain [(0, 0)] (by kernel_rfl) (s := [⟨0, none, _, _, _⟩]) rfl ?_)
            | (refine gReg (i := 5) ?_; refine C_plain [(0, 0), (1, 2), (2, 2), (3, 0), (4, 0), (5, 0), (6, 2), (7, 2), (8, 0)] (by kernel_rfl) (s := [⟨0, none, _, _, _⟩, ⟨2, none, _, _, _⟩, ⟨2, none, _, _, _⟩, ⟨0, none, _, _, _⟩, ⟨0, none, _, _, _⟩, ⟨0, none, _, _, _⟩, ⟨2, none, _, _, _⟩, ⟨2, none, _, _, _⟩, ⟨0, none, _, _, _⟩]) rfl ?_)
            | (refine gReg (i := 6) ?_; refine C_plain [(0, 0), (1, 2), (2, 0)] (by kernel_rfl) (s := [⟨0, none, _, _, _⟩, ⟨2, none, _, _, _⟩, ⟨0, none, _, _, _⟩]) rfl ?_)
            | (refine gReg (i := 7) ?_; refine C_plain [(0, 0), (1, 2), (2, 0), (3, 0), (4, 0), (5, 2), (6, 2), (7, 0)] (by kernel_rfl) (s := [⟨0, none, _, _, _⟩, ⟨2, none, _, _, _⟩, ⟨0, none, _, _, _⟩, ⟨0, none, _, _, _⟩, ⟨0, none, _, _, _⟩, ⟨2, none, _, _, _⟩, ⟨2, none, _, _, _⟩, ⟨0, none, _, _, _⟩]) rfl ?_)
            | (refine gReg (i := 8) ?_; refine C_plain [(0, 0), (1, 0), (2, 2), (3, 0), (4, 0), (5, 0), (6, 0), (7, 0), (8, 0)] (by kernel_rfl) (s := [⟨0, none, _, _, _⟩, ⟨0, none, _, _, _⟩, ⟨2, none, _, _, _⟩, ⟨0, none, _, _, _⟩, ⟨0, none, _, _, _⟩, ⟨0, some (36, false), _, _, _⟩, ⟨0, some (36, false), _, _, _⟩, ⟨0, some (36, false), _, _, _⟩, ⟨0, none, _, _, _⟩]) rfl ?_)
            | (refine gReg (i := 9) ?_; refine C_plain [(0, 0)] (by kernel_rfl) (s := [⟨0, none, _, _, _⟩]) rfl ?_)
            | (refine gReg (i := 10) ?_; refine C_plain [(0, 0), (1, 0), (2, 2), (3, 2), (4, 0)] (by kernel_rfl) (s := [⟨0, none, _, _, _⟩, ⟨0, none, _, _, _⟩, ⟨2, none, _, _, _⟩, ⟨2, none, _, _, _⟩, ⟨0, none, _, _, _⟩]) rfl ?_)
            | (refine gReg (i := 11) ?_; refine C_plain [(0, 0)] (by kernel_rfl) (s := [⟨0, none, _, _, _⟩]) rfl ?_)
            | (refine gReg (i := 12) ?_; refine C_plain [(0, 0)] (by kernel_rfl) (s := [⟨0, none, _, _, _⟩]) rfl ?_)
            | (refine gReg (i := 13) ?_; refine C_plain [(0, 0), (1, 0), (2, 2), (3, 0)] (by kernel_rfl) (s := [⟨0, none, _, _, _⟩, ⟨0, none, _, _, _⟩, ⟨2, none, _, _, _⟩, ⟨0, none, _, _, _⟩]) rfl ?_)
            | (refine gReg (i := 14) ?_; refine C_plain [(0, 0), (1, 0), (2, 0), (3, 0), (4, 0), (5, 2), (6, 0), (7, 0), (8, 0), (9, 0), (10, 0), (11, 0), (12, 0)] (by kernel_rfl) (s := [⟨0, none, _, _, _⟩, ⟨0, none, _, _, _⟩, ⟨0, none, _, _, _⟩, ⟨0, some (51, false), _, _, _⟩, ⟨0, some (51, false), _, _, _⟩, ⟨2, some (51, false), _, _, _⟩, ⟨0, some (51, false), _, _, _⟩, ⟨0, none, _, _, _⟩, ⟨0, none, _, _, _⟩, ⟨0, some (57, false), _, _, _⟩, ⟨0, some (57, false), _, _, _⟩, ⟨0, some (57, false), _, _, _⟩, ⟨0, none, _, _, _⟩]) rfl ?_)
            | (refine gReg (i := 15) ?_; refine C_plain [(0, 0)] (by kernel_rfl) (s := [⟨0, none, _, _, _⟩]) rfl ?_)
            | (refine gReg (i := 16) ?_; refine C_plain [(0, 0)] (by kernel_rfl) (s := [⟨0, none, _, _, _⟩]) rfl ?_)
            | (refine gReg (i := 17) ?_; refine C_plain [(0, 0), (1, 0), (2, 2), (3, 0)] (by kernel_rfl) (s := [⟨0, none, _, _, _⟩, ⟨0, none, _, _, _⟩, ⟨2, none, _, _, _⟩, ⟨0, none, _, _, _⟩]) rfl ?_)
            | (refine gReg (i := 18) ?_; refine C_plain [(0, 0)] (by kernel_rfl) (s := [⟨0, none, _, _, _⟩]) rfl ?_)
            | (refine gReg (i := 19) ?_; refine C_plain [(0, 0), (1, 0), (2, 2), (3, 0)] (by kernel_rfl) (s := [⟨0, none, _, _, _⟩, ⟨0, none, _, _, _⟩, ⟨2, none, _, _, _⟩, ⟨0, none, _, _, _⟩]) rfl ?_)
            | (refine gReg (i := 20) ?_; refine C_plain [(0, 0), (1, 0)] (by kernel_rfl) (s := [⟨0, none, _, _, _⟩, ⟨0, none, _, _, _⟩]) rfl ?_)
            | (refine gReg (i := 21) ?_; refine C_plain [(0, 0)] (by kernel_rfl) (s := [⟨0, none, _, _, _⟩]) rfl ?_)
            | (refine gReg (i := 22) ?_; refine C_plain [(0, 0), (1, 0), (2, 0)] (by kernel_rfl) (s := [⟨0, none, _, _, _⟩, ⟨0, none, _, _, _⟩, ⟨0, none, _, _, _⟩]) rfl ?_)
            | (refine gReg (i := 23) ?_; refine C_plain [(0, 0)] (by kernel_rfl) (s := [⟨0, none, _, _, _⟩]) rfl ?_)
            | (refine gReg (i := 24) ?_; refine C_plain [(0, 0), (1, 2), (2, 2), (3, 0), (4, 0), (5, 0), (6, 2), (7, 2), (8, 0)] (by kernel_rfl) (s := [⟨0, none, _, _, _⟩, ⟨2, none, _, _, _⟩, ⟨2, none, _, _, _⟩, ⟨0, none, _, _, _⟩, ⟨0, none, _, _, _⟩, ⟨0, none, _, _, _⟩, ⟨2, none, _, _, _⟩, ⟨2, none, _, _, _⟩, ⟨0, none, _, _, _⟩]) rfl ?_)
            | (refine gReg (i := 25) ?_; refine C_plain [(0, 0), (1, 0), (2, 2), (3, 0), (4, 0), (5, 0), (6, 0), (7, 0), (8, 0)] (by kernel_rfl) (s := [⟨0, none, _, _, _⟩, ⟨0, none, _, _, _⟩, ⟨2, none, _, _, _⟩, ⟨0, none, _, _, _⟩, ⟨0, none, _, _, _⟩, ⟨0, some (83, false), _, _, _⟩, ⟨0, some (83, false), _, _, _⟩, ⟨0, some (83, false), _, _, _⟩, ⟨0, none, _, _, _⟩]) rfl ?_)
            | (refine gReg (i := 26) ?_; refine C_plain [(0, 0)] (by kernel_rfl) (s := [⟨0, none, _, _, _⟩]) rfl ?_)
            | (refine gReg (i := 27) ?_; refine C_plain [(0, 0)] (by kernel_rfl) (s := [⟨0, none, _, _, _⟩]) rfl ?_)
            | (refine gReg (i := 28) ?_; refine C_plain [(0, 0), (1, 0), (2, 2), (3, 0)] (by kernel_rfl) (s := [⟨0, none, _, _, _⟩, ⟨0, none, _, _, _⟩, ⟨2, none, _, _, _⟩, ⟨0, none, _, _, _⟩]) rfl ?_)
            | (refine gReg (i := 29) ?_; refine C_plain [(0, 0), (1, 0)] (by kernel_rfl) (s := [⟨0, none, _, _, _⟩, ⟨0, none, _, _, _⟩]) rfl ?_)
            | (refine gReg (i := 30) ?_; refine C_plain [(0, 0)] (by kernel_rfl) (s := [⟨0, none, _, _, _⟩]) rfl ?_)
            | (refine gReg (i := 31) ?_; refine C_plain [(0, 0), (1, 0), (2, 0)] (by kernel_rfl) (s := [⟨0, none, _, _, _⟩, ⟨0, none, _, _, _⟩, ⟨0, none, _, _, _⟩]) rfl ?_)
            | (refine gReg (i := 32) ?_; refine C_plain [(0, 0)] (by kernel_rfl) (s := [⟨0, none, _, _, _⟩]) rfl ?_)
            | (refine gReg (i := 33) ?_; refine C_plain [(0, 0)] (by kernel_rfl) (s := [⟨0, none, _, _, _⟩]) rfl ?_)))
        | (refine C_true rfl ?_)
        | (refine C_false rfl ?_)
        | (refine C_split rfl ?_ ?_ <;> (intro hb; (try simp only [decide_eq_true_eq] at hb); (try simp only [decide_eq_false_iff_not] at hb); (try simp only [Bool.not_eq_true'] at hb); (try simp only [Bool.not_eq_false'] at hb); (try (exfalso; first | contradiction | omega)); (try (have hsz := szR_ok hb)); (try (have hwt : wtSFragPacket (x.2.map ctFragPacket) ≤ 1048576 := by omega))))
        | (refine C_skip ?_)
        | (refine C_exit ?_)
        | (refine C_ret ?_)
        | (refine C_block ?_)))
    | (refine gE ?_; (first
        | (refine E_then ?_)
        | (refine E_thenX ?_)
        | (refine E_thenR ?_)
        | (refine E_block ?_)
        | (refine E_blockY ?_)
        | (refine E_blockR ?_)
        | (refine E_calm ?_)
        | (refine E_blockX rfl ?_)
        | (apply E_ret1 rfl; (first | exact Res.tmp rfl | (apply R_cellAll rfl; (focus ((repeat (first | exact List.Mem.head _ | refine List.Mem.tail _ ?_)); done)); exact T.rw27) | (apply R_cell1 rfl; (focus ((repeat (first | exact List.Mem.head _ | refine List.Mem.tail _ ?_)); done)); fail)))
        | (apply E_ret2 rfl; (first | exact Res.tmp rfl | (apply R_cellAll rfl; (focus ((repeat (first | exact List.Mem.head _ | refine List.Mem.tail _ ?_)); done)); exact T.rw27) | (apply R_cell1 rfl; (focus ((repeat (first | exact List.Mem.head _ | refine List.Mem.tail _ ?_)); done)); fail)); (first | exact Res.tmp rfl | (apply R_cellAll rfl; (focus ((repeat (first | exact List.Mem.head _ | refine List.Mem.tail _ ?_)); done)); exact T.rw27) | (apply R_cell1 rfl; (focus ((repeat (first | exact List.Mem.head _ | refine List.Mem.tail _ ?_)); done)); fail)))
        | (apply E_ret3 rfl; (first | exact Res.tmp rfl | (apply R_cellAll rfl; (focus ((repeat (first | exact List.Mem.head _ | refine List.Mem.tail _ ?_)); done)); exact T.rw27) | (apply R_cell1 rfl; (focus ((repeat (first | exact List.Mem.head _ | refine List.Mem.tail _ ?_)); done)); fail)); (first | exact Res.tmp rfl | (apply R_cellAll rfl; (focus ((repeat (first | exact List.Mem.head _ | refine List.Mem.tail _ ?_)); done)); exact T.rw27) | (apply R_cell1 rfl; (focus ((repeat (first | exact List.Mem.head _ | refine List.Mem.tail _ ?_)); done)); fail)); (first | exact Res.tmp rfl | (apply R_cellAll rfl; (focus ((repeat (first | exact List.Mem.head _ | refine List.Mem.tail _ ?_)); done)); exact T.rw27) | (apply R_cell1 rfl; (focus ((repeat (first | exact List.Mem.head _ | refine List.Mem.tail _ ?_)); done)); fail))))))
  all_goals (refine retN ?_; simp_all)
set_option maxRecDepth 100000 in
theorem lifted (os : Os) (started : os.Started) (H : Type) (enc : TypeId × Value → H) :
    ReturnsInHanded {} Try.checked os 12 .any (Rows.fnExactFragJoinSpec.pre6 enc Try.prog Try.f12 Rows.fnExactFragJoinRow.domain false) (Rows.fnExactFragJoinSpec.post enc Try.prog Try.f12 false true false false) := by
  refine returnsInHanded_of_change (C := Try.checked) own started (by kernel_rfl) Try.func12
    (ChangeSpec.witness6 (enc := enc) (C := Try.checked) false ⟨#[], #[.slice none 0 0], []⟩ 8 (by kernel_rfl) (by kernel_rfl) (by kernel_rfl) (by kernel_rfl)) ?_
  intro W base args ds gs before hval0 hW hcnd _
  have hval : ∀ (j : Nat) t v, Try.f12.params[j]? = some t → args[j]? = some v → Value.okWide Try.prog W .any base t v := hval0
  have hW' := hW
  obtain ⟨p, q, hA0, hV, rfl, hfz, hnd⟩ := hW
  have hA : DataW.TrodAll enc Try.prog W 0 (fun _ => true) true Try.f12.params.toList args.toList ds p := hA0
  rw [Try.params12] at hA hval
  obtain ⟨v0, vs0, d0, ds0, p0, q0, hargs, rfl, rfl, h0, r0⟩ := trodAll_cons hA
  obtain ⟨rfl, rfl, rfl⟩ := trodAll_nil r0
  obtain rfl : args = #[v0] := by cases args; simp_all
  obtain ⟨rfl, rfl⟩ := trodVars_none hV
  have k0 := h0
  have lt0 : ∀ x ∈ p0, x.block < W.heap.size := by obtain ⟨m, hm⟩ := k0; exact DataW.trod_lt m _ _ _ hm
  obtain ⟨y0, rfl, w0⟩ := par_SFragPacket (hval 0 50 v0 rfl rfl) h0
  clear hA0 hval0
  refine (walk W y0 w0).mono fun e W' ⟨he, bel⟩ => ?_
  subst he
  exact ⟨_, rfl, _, _, _, [], _, [], hW', trodAll_mk1 (shut_bool Try.underlying4 _), (trodAll_cons_mk (Below.trod laidOut (by kernel_rfl) (of_decide_eq_true (by kernel_rfl)) k0 bel lt0) trodAll_mk0), rfl, bel.frame _, fun h => by cases h⟩
theorem over : Rows.fnExactFragJoinRow.holds Try.pinned (OpenSpec.ofChange Rows.fnExactFragJoinSpec) :=
  OpenClaim.holds_of_wide 12 Try.f12 rfl rfl rfl rfl rfl rfl rfl ⟨rfl, rfl, rfl, rfl, rfl⟩ rfl rfl rfl rfl rfl (by kernel_rfl) Try.func12 (by kernel_rfl)
    (of_decide_eq_true (by kernel_rfl)) (by unfold Func.isWrapper; rw [if_neg (of_decide_eq_false (by kernel_rfl))]; exact ⟨rfl, rfl⟩)
    (fun os started H enc _ => lifted os started H enc)
theorem proved : Rows.FnExactFragJoinSaid := over
#print axioms proved
end Go.Proofs.Ytkfgfebendkihaa.fnExactFragJoin

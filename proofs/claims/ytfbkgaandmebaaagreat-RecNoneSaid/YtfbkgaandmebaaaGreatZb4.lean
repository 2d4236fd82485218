/- Put together by pack.py (my own program) of texts of mine: RtP9, RtP10, RtP11, RtP12, Ru1, Rv1. -/
import Derived.IntWalk
import Derived.Test.YtfbkgaandmebaaaGreatZb3
namespace Go.Proofs.YtfbkgaandmebaaaGreat
set_option linter.unusedVariables false
set_option maxRecDepth 20000
set_option maxHeartbeats 10000000
theorem offshootlaw06_RecLast.ok (K : Nat) (v0 : List ApiChange) (r : Bool) (h : offshootlaw06_RecLast.f K v0 = some r) :
    FW.Ok Go.Proofs.Tryz.prog 3 [.row (r_ApiChange_cells v0)] (.lit (.bool r)) := by
  refine FW.enter (xs := [.row (r_ApiChange_cells v0)]) Go.Proofs.Tryz.func3 rfl Go.Proofs.Tryz.ntmps3 rfl ?_
  intro M w0 a hk
  unfold offshootlaw06_RecLast.f at h
  refine FW.wreg ?_; intro K' hK1
  refine FW.lfun (y := .lit (.bool false)) hk rfl rfl rfl rfl (FW.f_assign hk (FW.holds_nil _) rfl) ?_; clear hk; intro a w hk
  refine FW.lend (hK1 _ _ ?_); clear hK1 K'
  refine FW.wreg ?_; intro K' hK2
  obtain ⟨t1, hr_t1, h⟩ := FW.bnd h
  refine FW.l_callH (I1 := ([] : List FW.It)) (I2 := []) (js := []) hk rfl rfl rfl rfl rfl Go.Proofs.Tryz.func9 rfl (by kernel_rfl) (offshootlaw06_open.ok K 60 _ hr_t1 ) ?_; clear hk
  rintro _ _ ⟨bx2, xbNt1_0_1, xrNt1_0_2, bx1, xdNt1_1_0, xcNt1_1_0, xrNt1_1_1, xdNt1_1_3, xcNt1_1_3, rfl, rfl⟩ a w hk
  refine FW.lfun (y := .tup [.lit (.pointer (some ⟨bx2, 0, none⟩)), .lit (.pointer (some ⟨bx1, 0, none⟩)), .lit (.bool t1.2.2)]) hk rfl rfl rfl rfl (FW.f_move hk (FW.holds_nil _) rfl) ?_; clear hk; intro a w hk
  refine FW.lfun (y := .lit (.pointer (some ⟨bx2, 0, none⟩))) hk rfl rfl rfl rfl (FW.f_extract hk (FW.holds_nil _) rfl rfl) ?_; clear hk; intro a w hk
  refine FW.lfun (y := .lit (.pointer (some ⟨bx1, 0, none⟩))) hk rfl rfl rfl rfl (FW.f_extract hk (FW.holds_nil _) rfl rfl) ?_; clear hk; intro a w hk
  refine FW.lfun (y := .lit (.bool t1.2.2)) hk rfl rfl rfl rfl (FW.f_extract hk (FW.holds_nil _) rfl rfl) ?_; clear hk; intro a w hk
  refine FW.lfun (y := .lit (.pointer (some ⟨bx2, 0, none⟩))) hk rfl rfl rfl rfl (FW.f_assign hk (FW.holds_nil _) rfl) ?_; clear hk; intro a w hk
  refine FW.lfun (y := .lit (.pointer (some ⟨bx1, 0, none⟩))) hk rfl rfl rfl rfl (FW.f_assign hk (FW.holds_nil _) rfl) ?_; clear hk; intro a w hk
  refine FW.lfun (y := .lit (.bool t1.2.2)) hk rfl rfl rfl rfl (FW.f_assign hk (FW.holds_nil _) rfl) ?_; clear hk; intro a w hk
  refine FW.lend (hK2 _ _ ?_); clear hK2 K'
  refine FW.wreg ?_; intro K' hK3
  refine FW.l_buildSlice0 (f := ApiChange.cells) hk rfl rfl Go.Proofs.Tryz.underlying22 rfl (fun _ => rfl) ?_; clear hk; intro bx3 a w hk
  refine FW.lfun (y := .lit (.slice (some ⟨bx3, 0, none⟩) (List.length ([] : List ApiChange)) 0)) hk rfl rfl rfl rfl (FW.f_assign hk (FW.holds_nil _) rfl) ?_; clear hk; intro a w hk
  refine FW.lend (hK3 _ _ ?_); clear hK3 K'
  refine FW.wseq ?_; intro K' hK4
  refine FW.wreg ?_; intro K' hK5
  refine FW.lfun (y := .lit (.int .i64 0)) hk rfl rfl rfl rfl (FW.f_assign hk (FW.holds_nil _) rfl) ?_; clear hk; intro a w hk
  refine FW.lend (hK5 _ _ ?_); clear hK5 K'
  refine wp_block ?_
  refine FW.wloop (T := Nat × List ApiChange × Int × Int × Bool × (List (Int × (List UInt8))) × Int × Int × Int × Int × Int × Bool × List (List UInt8) × (List (Int × (List UInt8))) × List ApiFall × List ApiChange × Bool × Int × Option Addr × Nat × Nat × Option Addr × Nat × Nat × Option Addr × Nat) (fun x a w => match x with | (kl1, l8, y5_3, y5_4, y5_5, m7, y6_1, y6_2, y6_3, y6_4, y1_2, y1_4, l2, m3, l4, v0, v5, v7, xd8, xc8, xr7, xd2, xc2, xr3, xd4, xc4) => FW.S M w0 a w 102 [FW.orow xd8 xc8 29 3 ApiChange.cells l8, FW.blk bx2 69 ([.lit (.pointer (some ⟨bx1, 0, none⟩)), .lit (.pointer (some ⟨xbNt1_0_1, 0, none⟩)), .lit (.map (some xr7)), .lit (.int .i64 y5_3), .lit (.int .u64 y5_4), .lit (.bool y5_5)]), FW.mapI (.int .u64) (Value.int .u64) FW.evS xr7 m7, FW.blk xbNt1_0_1 99 ([.lit (.pointer (some ⟨bx1, 0, none⟩)), .lit (.int .i64 y6_1), .lit (.int .i64 y6_2), .lit (.int .i64 y6_3), .lit (.int .u64 y6_4)]), FW.blk bx1 75 ([.lit (.slice xd2 (List.length l2) xc2), .lit (.map (some xr3)), .lit (.int .i64 y1_2), .lit (.slice xd4 (List.length l4) xc4), .lit (.bool y1_4)]), FW.orow xd2 xc2 9 1 c_str l2, FW.mapI (.int .i64) (Value.int .i64) FW.evS xr3 m3, FW.orow xd4 xc4 52 3 ApiFall.cells l4] [(0, [], .row (r_ApiChange_cells v0)), (3, [], .lit (.pointer (some ⟨bx2, 0, none⟩))), (4, [], .lit (.pointer (some ⟨bx1, 0, none⟩))), (5, [], .lit (.bool v5)), (6, [], .lit (.slice xd8 (List.length l8) xc8)), (7, [], .lit (.int .i64 v7))] ∧ offshootlaw06_RecLast.l1 K kl1 l8 y5_3 y5_4 y5_5 m7 y6_1 y6_2 y6_3 y6_4 y1_2 y1_4 l2 m3 l4 v0 v5 v7 = some r) (fun x => x.1) (K, ([] : List ApiChange), t1.1.half, t1.1.round, t1.1.dead, t1.1.m, t1.1.l.from_, t1.1.l.to_, t1.1.l.at_, t1.1.l.next, t1.2.1.steps, t1.2.1.off, t1.2.1.sure, t1.2.1.cache, t1.2.1.falls, v0, t1.2.2, 0, (some ⟨bx3, 0, none⟩), 0, xrNt1_0_2, xdNt1_1_0, xcNt1_1_0, xrNt1_1_1, xdNt1_1_3, xcNt1_1_3) ⟨hk.sub ⟨rfl, rfl, rfl, rfl, rfl, rfl, trivial⟩, h⟩ ?_
  clear hk h
  rintro ⟨kl1, l8, y5_3, y5_4, y5_5, m7, y6_1, y6_2, y6_3, y6_4, y1_2, y1_4, l2, m3, l4, v0, v5, v7, xd8, xc8, xr7, xd2, xc2, xr3, xd4, xc4⟩ a w ⟨hk, h⟩ K' hK6
  cases kl1 with
  | zero => simp [offshootlaw06_RecLast.l1] at h
  | succ kl1 =>
  rw [offshootlaw06_RecLast.l1.eq_2] at h
  refine FW.wseq ?_; intro K' hK7
  refine FW.wreg ?_; intro K' hK8
  refine FW.lfun (y := .lit (.int .i64 v7)) hk rfl rfl rfl rfl (FW.f_move hk (FW.holds_nil _) rfl) ?_; clear hk; intro a w hk
  refine FW.lfun (y := .row (r_ApiChange_cells v0)) hk rfl rfl rfl rfl (FW.f_move hk (FW.holds_nil _) rfl) ?_; clear hk; intro a w hk
  refine FW.lfun (y := .lit (.int .i64 (List.length v0 : Int))) hk rfl rfl rfl rfl (FW.f_len (R := r_ApiChange_cells) (f := ApiChange.cells) (l := v0) r_ApiChange_cells_eq Go.Proofs.Tryz.underlying22 hk (FW.holds_nil _) rfl) ?_; clear hk; intro a w hk
  refine FW.lfun (y := .lit (.bool (decide (v7 < (List.length v0 : Int))))) hk rfl rfl rfl rfl ((FW.f_pure (FW.p_lss hk.kn (FW.holds_nil _) rfl rfl))) ?_; clear hk; intro a w hk
  refine FW.lfun (y := .lit (.bool (decide (v7 < (List.length v0 : Int))))) hk rfl rfl rfl rfl (FW.f_move hk (FW.holds_nil _) rfl) ?_; clear hk; intro a w hk
  refine FW.lfunG (y := .lit (.int .i64 v7)) hk rfl rfl rfl rfl rfl rfl rfl rfl (fun hc => FW.f_move hk hc rfl) ?_; clear hk; intro a w hk
  refine FW.lfunG (y := .lit (.bool (decide (v7 < 10)))) hk rfl rfl rfl rfl rfl rfl rfl rfl (fun hc => (FW.f_pure (FW.p_lss hk.kn hc rfl rfl))) ?_; clear hk; intro a w hk
  refine FW.lfun (y := .lit (.bool ((decide (v7 < (List.length v0 : Int))) && (decide (v7 < 10))))) hk rfl rfl rfl rfl ((FW.f_pure (FW.p_pick_and hk.kn (FW.holds_nil _) rfl rfl))) ?_; clear hk; intro a w hk
  refine FW.lend (hK8 _ _ ?_); clear hK8 K'
  refine FW.wcondF (b := ((decide (v7 < (List.length v0 : Int))) && (decide (v7 < 10)))) hk h rfl (fun h hb => ?_) (fun h hb => ?_)
  · skip
    refine wp_skip ?_
    (repeat first | refine FW.then_normal ?_ | refine FW.block_normal ?_); refine hK7 _ _ ?_
    refine FW.wseq ?_; intro K' hK9
    refine wp_block ?_
    obtain ⟨hc1, h⟩ := FW.chk h
    obtain ⟨hc2, h⟩ := FW.chk h
    refine FW.wdrawE (.next [true, true, true, true, true, true, true, true, true, true, true, false, false] 11 [true, true, true, true, true, true, true, true, true, true, true, false, false] (.next [true, true, true, true, true, true, true, true, true, true, true, false, false] 12 [true, true, true, true, true, true, true, true, true, true, true, true, false] (.leaf [false, false, false, false, false, false, false, false, false, false, false, false, false]))) [(28, [], .row (r_ApiChange_cells v0)), (29, [], .lit (.int .i64 v7)), (30, [], .ref (ApiChange.cells (List.getD v0 (Int.toNat v7) default))), (31, [], .ref (List.drop 1 (ApiChange.cells (List.getD v0 (Int.toNat v7) default)))), (32, [], .lit (.string (FW.B ((List.getD v0 (Int.toNat v7) default).S)))), (33, [], .row (r_ApiChange_cells v0)), (34, [], .lit (.int .i64 v7)), (35, [], .ref (ApiChange.cells (List.getD v0 (Int.toNat v7) default))), (36, [], .ref (List.drop 2 (ApiChange.cells (List.getD v0 (Int.toNat v7) default)))), (37, [], .lit (.bool ((List.getD v0 (Int.toNat v7) default).Gone))), (38, [], .agg ((ApiChange.cells (⟨7, (List.getD v0 (Int.toNat v7) default).S, (List.getD v0 (Int.toNat v7) default).Gone⟩ : ApiChange)))), (8, [], .agg []), (102, [], .lit undef)] (by kernel_rfl) (by kernel_rfl) (by kernel_rfl) (by kernel_rfl) hk ?_; clear hk
    refine FW.gnext ?_ rfl rfl rfl rfl rfl ?_
    · skip
      refine FW.gfun (y := .row (r_ApiChange_cells v0)) rfl rfl rfl rfl (fun a w hk => FW.f_move hk (FW.holds_nil _) rfl) ?_
      refine FW.gfun (y := .lit (.int .i64 v7)) rfl rfl rfl rfl (fun a w hk => FW.f_move hk (FW.holds_nil _) rfl) ?_
      refine FW.gfun (y := .ref (ApiChange.cells (List.getD v0 (Int.toNat v7) default))) rfl rfl rfl rfl (fun a w hk => FW.f_indexAddr (R := r_ApiChange_cells) (f := ApiChange.cells) (l := v0) (sz := 3) r_ApiChange_cells_eq (fun _ => rfl) hk (FW.holds_nil _) rfl rfl Go.Proofs.Tryz.underlying22 (by kernel_rfl) hc1) ?_
      refine FW.gfun (y := .ref (List.drop 1 (ApiChange.cells (List.getD v0 (Int.toNat v7) default)))) rfl rfl rfl rfl (fun a w hk => FW.f_fieldAddr hk (FW.holds_nil _) rfl Go.Proofs.Tryz.underlying29 rfl (by kernel_rfl) rfl) ?_
      refine FW.gfun (y := .lit (.string (FW.B ((List.getD v0 (Int.toNat v7) default).S)))) rfl rfl rfl rfl (fun a w hk => FW.f_load1 hk (FW.holds_nil _) rfl rfl Go.Proofs.Tryz.underlying9 rfl) ?_
      refine FW.gfun (y := .row (r_ApiChange_cells v0)) rfl rfl rfl rfl (fun a w hk => FW.f_move hk (FW.holds_nil _) rfl) ?_
      refine FW.gfun (y := .lit (.int .i64 v7)) rfl rfl rfl rfl (fun a w hk => FW.f_move hk (FW.holds_nil _) rfl) ?_
      refine FW.gfun (y := .ref (ApiChange.cells (List.getD v0 (Int.toNat v7) default))) rfl rfl rfl rfl (fun a w hk => FW.f_indexAddr (R := r_ApiChange_cells) (f := ApiChange.cells) (l := v0) (sz := 3) r_ApiChange_cells_eq (fun _ => rfl) hk (FW.holds_nil _) rfl rfl Go.Proofs.Tryz.underlying22 (by kernel_rfl) hc2) ?_
      refine FW.gfun (y := .ref (List.drop 2 (ApiChange.cells (List.getD v0 (Int.toNat v7) default)))) rfl rfl rfl rfl (fun a w hk => FW.f_fieldAddr hk (FW.holds_nil _) rfl Go.Proofs.Tryz.underlying29 rfl (by kernel_rfl) rfl) ?_
      refine FW.gfun (y := .lit (.bool ((List.getD v0 (Int.toNat v7) default).Gone))) rfl rfl rfl rfl (fun a w hk => FW.f_load1 hk (FW.holds_nil _) rfl rfl Go.Proofs.Tryz.underlying4 rfl) ?_
      refine FW.gfun (y := .agg ((ApiChange.cells (⟨7, (List.getD v0 (Int.toNat v7) default).S, (List.getD v0 (Int.toNat v7) default).Gone⟩ : ApiChange)))) rfl rfl rfl rfl (fun a w hk => FW.f_build hk (FW.holds_nil _) rfl rfl) ?_
      refine FW.gskip rfl rfl ?_
      refine FW.gskip0 rfl ?_
      exact FW.gend
    · skip
      intro σD a w opsD QD hk hf hQ hX
      refine FW.l_alloc (zs := (ApiChange.cells (⟨0, [], false⟩ : ApiChange))) [] hk rfl hf rfl rfl ?_; clear hk; intro bx4 a w hk
      refine hQ _ _ a w ?_ hk; clear hk hQ hf hX
      refine ⟨[(28, [], .row (r_ApiChange_cells v0)), (29, [], .lit (.int .i64 v7)), (30, [], .ref (ApiChange.cells (List.getD v0 (Int.toNat v7) default))), (31, [], .ref (List.drop 1 (ApiChange.cells (List.getD v0 (Int.toNat v7) default)))), (32, [], .lit (.string (FW.B ((List.getD v0 (Int.toNat v7) default).S)))), (33, [], .row (r_ApiChange_cells v0)), (34, [], .lit (.int .i64 v7)), (35, [], .ref (ApiChange.cells (List.getD v0 (Int.toNat v7) default))), (36, [], .ref (List.drop 2 (ApiChange.cells (List.getD v0 (Int.toNat v7) default)))), (37, [], .lit (.bool ((List.getD v0 (Int.toNat v7) default).Gone))), (38, [], .agg ((ApiChange.cells (⟨7, (List.getD v0 (Int.toNat v7) default).S, (List.getD v0 (Int.toNat v7) default).Gone⟩ : ApiChange)))), (8, [], .lit (.pointer (some ⟨bx4, 0, none⟩))), (102, [], .lit undef)], And.intro rfl (And.intro rfl (And.intro rfl (And.intro rfl (And.intro rfl (And.intro rfl (And.intro rfl (And.intro rfl (And.intro rfl (And.intro rfl (And.intro rfl (trivial))))))))))), rfl, ?_⟩
      refine FW.gnext0 ?_ rfl rfl rfl ?_
      · skip
        refine FW.gfun (y := .row (r_ApiChange_cells v0)) rfl rfl rfl rfl (fun a w hk => FW.f_move hk (FW.holds_nil _) rfl) ?_
        refine FW.gfun (y := .lit (.int .i64 v7)) rfl rfl rfl rfl (fun a w hk => FW.f_move hk (FW.holds_nil _) rfl) ?_
        refine FW.gfun (y := .ref (ApiChange.cells (List.getD v0 (Int.toNat v7) default))) rfl rfl rfl rfl (fun a w hk => FW.f_indexAddr (R := r_ApiChange_cells) (f := ApiChange.cells) (l := v0) (sz := 3) r_ApiChange_cells_eq (fun _ => rfl) hk (FW.holds_nil _) rfl rfl Go.Proofs.Tryz.underlying22 (by kernel_rfl) hc1) ?_
        refine FW.gfun (y := .ref (List.drop 1 (ApiChange.cells (List.getD v0 (Int.toNat v7) default)))) rfl rfl rfl rfl (fun a w hk => FW.f_fieldAddr hk (FW.holds_nil _) rfl Go.Proofs.Tryz.underlying29 rfl (by kernel_rfl) rfl) ?_
        refine FW.gfun (y := .lit (.string (FW.B ((List.getD v0 (Int.toNat v7) default).S)))) rfl rfl rfl rfl (fun a w hk => FW.f_load1 hk (FW.holds_nil _) rfl rfl Go.Proofs.Tryz.underlying9 rfl) ?_
        refine FW.gfun (y := .row (r_ApiChange_cells v0)) rfl rfl rfl rfl (fun a w hk => FW.f_move hk (FW.holds_nil _) rfl) ?_
        refine FW.gfun (y := .lit (.int .i64 v7)) rfl rfl rfl rfl (fun a w hk => FW.f_move hk (FW.holds_nil _) rfl) ?_
        refine FW.gfun (y := .ref (ApiChange.cells (List.getD v0 (Int.toNat v7) default))) rfl rfl rfl rfl (fun a w hk => FW.f_indexAddr (R := r_ApiChange_cells) (f := ApiChange.cells) (l := v0) (sz := 3) r_ApiChange_cells_eq (fun _ => rfl) hk (FW.holds_nil _) rfl rfl Go.Proofs.Tryz.underlying22 (by kernel_rfl) hc2) ?_
        refine FW.gfun (y := .ref (List.drop 2 (ApiChange.cells (List.getD v0 (Int.toNat v7) default)))) rfl rfl rfl rfl (fun a w hk => FW.f_fieldAddr hk (FW.holds_nil _) rfl Go.Proofs.Tryz.underlying29 rfl (by kernel_rfl) rfl) ?_
        refine FW.gfun (y := .lit (.bool ((List.getD v0 (Int.toNat v7) default).Gone))) rfl rfl rfl rfl (fun a w hk => FW.f_load1 hk (FW.holds_nil _) rfl rfl Go.Proofs.Tryz.underlying4 rfl) ?_
        refine FW.gfun (y := .agg ((ApiChange.cells (⟨7, (List.getD v0 (Int.toNat v7) default).S, (List.getD v0 (Int.toNat v7) default).Gone⟩ : ApiChange)))) rfl rfl rfl rfl (fun a w hk => FW.f_build hk (FW.holds_nil _) rfl rfl) ?_
        refine FW.gskip rfl rfl ?_
        refine FW.gskip0 rfl ?_
        exact FW.gend
      · skip
        intro σD a w opsD QD hk hQ hX
        refine FW.l_store (I' := [FW.blk bx4 29 ((ApiChange.cells (⟨7, (List.getD v0 (Int.toNat v7) default).S, (List.getD v0 (Int.toNat v7) default).Gone⟩ : ApiChange))), FW.orow xd8 xc8 29 3 ApiChange.cells l8, FW.blk bx2 69 ([.lit (.pointer (some ⟨bx1, 0, none⟩)), .lit (.pointer (some ⟨xbNt1_0_1, 0, none⟩)), .lit (.map (some xr7)), .lit (.int .i64 y5_3), .lit (.int .u64 y5_4), .lit (.bool y5_5)]), FW.mapI (.int .u64) (Value.int .u64) FW.evS xr7 m7, FW.blk xbNt1_0_1 99 ([.lit (.pointer (some ⟨bx1, 0, none⟩)), .lit (.int .i64 y6_1), .lit (.int .i64 y6_2), .lit (.int .i64 y6_3), .lit (.int .u64 y6_4)]), FW.blk bx1 75 ([.lit (.slice xd2 (List.length l2) xc2), .lit (.map (some xr3)), .lit (.int .i64 y1_2), .lit (.slice xd4 (List.length l4) xc4), .lit (.bool y1_4)]), FW.orow xd2 xc2 9 1 c_str l2, FW.mapI (.int .i64) (Value.int .i64) FW.evS xr3 m3, FW.orow xd4 xc4 52 3 ApiFall.cells l4]) (cs' := (ApiChange.cells (⟨7, (List.getD v0 (Int.toNat v7) default).S, (List.getD v0 (Int.toNat v7) default).Gone⟩ : ApiChange))) (j := 0) hk rfl rfl rfl rfl rfl (by kernel_rfl) rfl rfl ?_; clear hk; intro w hk
        refine hQ _ a w ?_ hk; clear hk hQ hX
        refine ⟨[(28, [], .row (r_ApiChange_cells v0)), (29, [], .lit (.int .i64 v7)), (30, [], .ref (ApiChange.cells (List.getD v0 (Int.toNat v7) default))), (31, [], .ref (List.drop 1 (ApiChange.cells (List.getD v0 (Int.toNat v7) default)))), (32, [], .lit (.string (FW.B ((List.getD v0 (Int.toNat v7) default).S)))), (33, [], .row (r_ApiChange_cells v0)), (34, [], .lit (.int .i64 v7)), (35, [], .ref (ApiChange.cells (List.getD v0 (Int.toNat v7) default))), (36, [], .ref (List.drop 2 (ApiChange.cells (List.getD v0 (Int.toNat v7) default)))), (37, [], .lit (.bool ((List.getD v0 (Int.toNat v7) default).Gone))), (38, [], .agg ((ApiChange.cells (⟨7, (List.getD v0 (Int.toNat v7) default).S, (List.getD v0 (Int.toNat v7) default).Gone⟩ : ApiChange)))), (8, [], .lit (.pointer (some ⟨bx4, 0, none⟩))), (102, [], .lit undef)], And.intro rfl (And.intro rfl (And.intro rfl (And.intro rfl (And.intro rfl (And.intro rfl (And.intro rfl (And.intro rfl (And.intro rfl (And.intro rfl (And.intro rfl (And.intro rfl (trivial)))))))))))), rfl, ?_⟩
        refine FW.glast ?_ ?_
        · skip
          refine FW.gskip rfl rfl ?_
          refine FW.gskip rfl rfl ?_
          refine FW.gskip rfl rfl ?_
          refine FW.gskip rfl rfl ?_
          refine FW.gskip rfl rfl ?_
          refine FW.gskip rfl rfl ?_
          refine FW.gskip rfl rfl ?_
          refine FW.gskip rfl rfl ?_
          refine FW.gskip rfl rfl ?_
          refine FW.gskip rfl rfl ?_
          refine FW.gskip rfl rfl ?_
          refine FW.gskip rfl rfl ?_
          refine FW.gskip0 rfl ?_
          exact FW.gend
        · skip
          intro a w hk; simp only [FW.stD, cond_true] at hk
          refine FW.wseqJ (fun a w => ∃ (y9 : ApiChange) (v0 : List ApiChange) (v5 : Bool) (v7 : Int), FW.S M w0 a w 102 [FW.blk bx4 29 ((ApiChange.cells y9)), FW.orow xd8 xc8 29 3 ApiChange.cells l8, FW.blk bx2 69 ([.lit (.pointer (some ⟨bx1, 0, none⟩)), .lit (.pointer (some ⟨xbNt1_0_1, 0, none⟩)), .lit (.map (some xr7)), .lit (.int .i64 y5_3), .lit (.int .u64 y5_4), .lit (.bool y5_5)]), FW.mapI (.int .u64) (Value.int .u64) FW.evS xr7 m7, FW.blk xbNt1_0_1 99 ([.lit (.pointer (some ⟨bx1, 0, none⟩)), .lit (.int .i64 y6_1), .lit (.int .i64 y6_2), .lit (.int .i64 y6_3), .lit (.int .u64 y6_4)]), FW.blk bx1 75 ([.lit (.slice xd2 (List.length l2) xc2), .lit (.map (some xr3)), .lit (.int .i64 y1_2), .lit (.slice xd4 (List.length l4) xc4), .lit (.bool y1_4)]), FW.orow xd2 xc2 9 1 c_str l2, FW.mapI (.int .i64) (Value.int .i64) FW.evS xr3 m3, FW.orow xd4 xc4 52 3 ApiFall.cells l4] [(0, [], .row (r_ApiChange_cells v0)), (3, [], .lit (.pointer (some ⟨bx2, 0, none⟩))), (4, [], .lit (.pointer (some ⟨bx1, 0, none⟩))), (5, [], .lit (.bool v5)), (6, [], .lit (.slice xd8 (List.length l8) xc8)), (7, [], .lit (.int .i64 v7)), (8, [], .lit (.pointer (some ⟨bx4, 0, none⟩)))] ∧ offshootlaw06_RecLast.j1 (offshootlaw06_RecLast.l1 K kl1) K l2 l4 l8 m3 m7 y1_2 y1_4 y5_3 y5_4 y5_5 y6_1 y6_2 y6_3 y6_4 y9 v0 v5 v7 = some r) ?_ ?_
          · clear hk h
            rintro a w ⟨y9, v0, v5, v7, hk, h⟩
            unfold offshootlaw06_RecLast.j1 at h
            refine FW.wseqJ (fun a w => ∃ (y9 : ApiChange) (v0 : List ApiChange) (v5 : Bool) (v7 : Int), FW.S M w0 a w 102 [FW.blk bx4 29 ((ApiChange.cells y9)), FW.orow xd8 xc8 29 3 ApiChange.cells l8, FW.blk bx2 69 ([.lit (.pointer (some ⟨bx1, 0, none⟩)), .lit (.pointer (some ⟨xbNt1_0_1, 0, none⟩)), .lit (.map (some xr7)), .lit (.int .i64 y5_3), .lit (.int .u64 y5_4), .lit (.bool y5_5)]), FW.mapI (.int .u64) (Value.int .u64) FW.evS xr7 m7, FW.blk xbNt1_0_1 99 ([.lit (.pointer (some ⟨bx1, 0, none⟩)), .lit (.int .i64 y6_1), .lit (.int .i64 y6_2), .lit (.int .i64 y6_3), .lit (.int .u64 y6_4)]), FW.blk bx1 75 ([.lit (.slice xd2 (List.length l2) xc2), .lit (.map (some xr3)), .lit (.int .i64 y1_2), .lit (.slice xd4 (List.length l4) xc4), .lit (.bool y1_4)]), FW.orow xd2 xc2 9 1 c_str l2, FW.mapI (.int .i64) (Value.int .i64) FW.evS xr3 m3, FW.orow xd4 xc4 52 3 ApiFall.cells l4] [(0, [], .row (r_ApiChange_cells v0)), (3, [], .lit (.pointer (some ⟨bx2, 0, none⟩))), (4, [], .lit (.pointer (some ⟨bx1, 0, none⟩))), (5, [], .lit (.bool v5)), (6, [], .lit (.slice xd8 (List.length l8) xc8)), (7, [], .lit (.int .i64 v7)), (8, [], .lit (.pointer (some ⟨bx4, 0, none⟩)))] ∧ offshootlaw06_RecLast.j2 (offshootlaw06_RecLast.l1 K kl1) K l2 l4 l8 m3 m7 y1_2 y1_4 y5_3 y5_4 y5_5 y6_1 y6_2 y6_3 y6_4 y9 v0 v5 v7 = some r) ?_ ?_
            · clear hk h
              rintro a w ⟨y9, v0, v5, v7, hk, h⟩
              unfold offshootlaw06_RecLast.j2 at h
              refine FW.wreg1 ?_
              refine FW.lfun (y := .lit (.slice xd8 (List.length l8) xc8)) hk rfl rfl rfl rfl (FW.f_move hk (FW.holds_nil _) rfl) ?_; clear hk; intro a w hk
              refine FW.lfun (y := .agg ((ApiChange.cells y9))) hk rfl rfl rfl rfl (FW.f_loadBlk hk (FW.holds_nil _) (j := 0) rfl rfl Go.Proofs.Tryz.underlying29 rfl rfl rfl rfl) ?_; clear hk; intro a w hk
              refine FW.l_buildSlice (f := ApiChange.cells) (l := ([y9] : List ApiChange)) hk rfl rfl rfl Go.Proofs.Tryz.underlying22 rfl rfl rfl rfl (fun _ => rfl) rfl ?_; clear hk; intro bx5 a w hk
              obtain ⟨hc3, h⟩ := FW.chk h
              refine FW.l_append (l2 := ([y9] : List ApiChange)) (l3 := (l8 ++ ([y9] : List ApiChange))) (I' := fun ad1 cap1 => [FW.orow (some ⟨bx5, 0, none⟩) 1 29 3 ApiChange.cells ([y9] : List ApiChange), FW.blk bx4 29 ((ApiChange.cells y9)), FW.orow ad1 cap1 29 3 ApiChange.cells (l8 ++ ([y9] : List ApiChange)), FW.blk bx2 69 ([.lit (.pointer (some ⟨bx1, 0, none⟩)), .lit (.pointer (some ⟨xbNt1_0_1, 0, none⟩)), .lit (.map (some xr7)), .lit (.int .i64 y5_3), .lit (.int .u64 y5_4), .lit (.bool y5_5)]), FW.mapI (.int .u64) (Value.int .u64) FW.evS xr7 m7, FW.blk xbNt1_0_1 99 ([.lit (.pointer (some ⟨bx1, 0, none⟩)), .lit (.int .i64 y6_1), .lit (.int .i64 y6_2), .lit (.int .i64 y6_3), .lit (.int .u64 y6_4)]), FW.blk bx1 75 ([.lit (.slice xd2 (List.length l2) xc2), .lit (.map (some xr3)), .lit (.int .i64 y1_2), .lit (.slice xd4 (List.length l4) xc4), .lit (.bool y1_4)]), FW.orow xd2 xc2 9 1 c_str l2, FW.mapI (.int .i64) (Value.int .i64) FW.evS xr3 m3, FW.orow xd4 xc4 52 3 ApiFall.cells l4]) (j := 2) hk rfl rfl rfl rfl (FW.own_src hk (j := 0) rfl rfl (fun _ => rfl) Go.Proofs.Tryz.underlying22) Go.Proofs.Tryz.underlying22 (by kernel_rfl) hc3 rfl (fun _ _ => rfl) ?_; clear hk; intro ad1 cap1 a w hk
              replace hk := FW.S.dropI (I' := [FW.blk bx4 29 ((ApiChange.cells y9)), FW.orow ad1 cap1 29 3 ApiChange.cells (l8 ++ ([y9] : List ApiChange)), FW.blk bx2 69 ([.lit (.pointer (some ⟨bx1, 0, none⟩)), .lit (.pointer (some ⟨xbNt1_0_1, 0, none⟩)), .lit (.map (some xr7)), .lit (.int .i64 y5_3), .lit (.int .u64 y5_4), .lit (.bool y5_5)]), FW.mapI (.int .u64) (Value.int .u64) FW.evS xr7 m7, FW.blk xbNt1_0_1 99 ([.lit (.pointer (some ⟨bx1, 0, none⟩)), .lit (.int .i64 y6_1), .lit (.int .i64 y6_2), .lit (.int .i64 y6_3), .lit (.int .u64 y6_4)]), FW.blk bx1 75 ([.lit (.slice xd2 (List.length l2) xc2), .lit (.map (some xr3)), .lit (.int .i64 y1_2), .lit (.slice xd4 (List.length l4) xc4), .lit (.bool y1_4)]), FW.orow xd2 xc2 9 1 c_str l2, FW.mapI (.int .i64) (Value.int .i64) FW.evS xr3 m3, FW.orow xd4 xc4 52 3 ApiFall.cells l4]) hk 0 rfl
              refine FW.lfun (y := .lit (.slice ad1 (List.length (l8 ++ ([y9] : List ApiChange))) cap1)) hk rfl rfl rfl rfl (FW.f_assign hk (FW.holds_nil _) rfl) ?_; clear hk; intro a w hk
              refine wpList_nil ?_
              (repeat first | refine FW.then_normal ?_ | refine FW.block_normal ?_); refine hK9 _ _ ?_
              refine FW.wreg1 ?_
              refine FW.lfun (y := .lit (.int .i64 v7)) hk rfl rfl rfl rfl (FW.f_move hk (FW.holds_nil _) rfl) ?_; clear hk; intro a w hk
              refine FW.lfun (y := .lit (.int .i64 (IntKind.wrap .i64 (v7 + 1)))) hk rfl rfl rfl rfl ((FW.f_pure (FW.p_add hk.kn (FW.holds_nil _) rfl rfl))) ?_; clear hk; intro a w hk
              refine FW.lfun (y := .lit (.int .i64 (IntKind.wrap .i64 (v7 + 1)))) hk rfl rfl rfl rfl (FW.f_assign hk (FW.holds_nil _) rfl) ?_; clear hk; intro a w hk
              refine wpList_nil ?_
              (repeat first | refine FW.then_normal ?_ | refine FW.block_normal ?_); exact hK6 (kl1, (l8 ++ ([y9] : List ApiChange)), y5_3, y5_4, y5_5, m7, y6_1, y6_2, y6_3, y6_4, y1_2, y1_4, l2, m3, l4, v0, v5, (IntKind.wrap .i64 (v7 + 1)), ad1, cap1, xr7, xd2, xc2, xr3, xd4, xc4) _ _ (Nat.lt_succ_self _) ⟨(hk.drop 0).sub ⟨rfl, rfl, rfl, rfl, rfl, rfl, trivial⟩, h⟩
            · intro K' hK12
              refine FW.wreg ?_; intro K' hK15
              refine FW.lfun (y := .lit (.pointer (some ⟨bx4, 2, none⟩))) hk rfl rfl rfl rfl (FW.f_fieldPtr hk (FW.holds_nil _) rfl Go.Proofs.Tryz.underlying29 rfl (by kernel_rfl) rfl) ?_; clear hk; intro a w hk
              refine FW.lfun (y := .lit (.bool y9.Gone)) hk rfl rfl rfl rfl (FW.f_loadBlk1 hk (FW.holds_nil _) (j := 0) rfl rfl Go.Proofs.Tryz.underlying4 rfl rfl) ?_; clear hk; intro a w hk
              refine FW.lend (hK15 _ _ ?_); clear hK15 K'
              refine FW.wcondF (b := y9.Gone) hk h rfl (fun h hb => ?_) (fun h hb => ?_)
              · skip
                refine FW.wreg1 ?_
                refine FW.lfun (y := .lit (.pointer (some ⟨bx4, 1, none⟩))) hk rfl rfl rfl rfl (FW.f_fieldPtr hk (FW.holds_nil _) rfl Go.Proofs.Tryz.underlying29 rfl (by kernel_rfl) rfl) ?_; clear hk; intro a w hk
                refine FW.l_store (I' := [FW.blk bx4 29 ((ApiChange.cells (⟨y9.ID, ([] : List UInt8), y9.Gone⟩ : ApiChange))), FW.orow xd8 xc8 29 3 ApiChange.cells l8, FW.blk bx2 69 ([.lit (.pointer (some ⟨bx1, 0, none⟩)), .lit (.pointer (some ⟨xbNt1_0_1, 0, none⟩)), .lit (.map (some xr7)), .lit (.int .i64 y5_3), .lit (.int .u64 y5_4), .lit (.bool y5_5)]), FW.mapI (.int .u64) (Value.int .u64) FW.evS xr7 m7, FW.blk xbNt1_0_1 99 ([.lit (.pointer (some ⟨bx1, 0, none⟩)), .lit (.int .i64 y6_1), .lit (.int .i64 y6_2), .lit (.int .i64 y6_3), .lit (.int .u64 y6_4)]), FW.blk bx1 75 ([.lit (.slice xd2 (List.length l2) xc2), .lit (.map (some xr3)), .lit (.int .i64 y1_2), .lit (.slice xd4 (List.length l4) xc4), .lit (.bool y1_4)]), FW.orow xd2 xc2 9 1 c_str l2, FW.mapI (.int .i64) (Value.int .i64) FW.evS xr3 m3, FW.orow xd4 xc4 52 3 ApiFall.cells l4]) (cs' := (ApiChange.cells (⟨y9.ID, ([] : List UInt8), y9.Gone⟩ : ApiChange))) (j := 0) hk rfl rfl rfl rfl rfl (by kernel_rfl) rfl rfl ?_; clear hk; intro w hk
                refine wpList_nil ?_
                (repeat first | refine FW.then_normal ?_ | refine FW.block_normal ?_); exact hK12 _ _ ⟨(⟨y9.ID, ([] : List UInt8), y9.Gone⟩ : ApiChange), v0, v5, v7, hk.sub ⟨rfl, rfl, rfl, rfl, rfl, rfl, rfl, trivial⟩, h⟩
              refine wp_skip ?_
              (repeat first | refine FW.then_normal ?_ | refine FW.block_normal ?_); exact hK12 _ _ ⟨y9, v0, v5, v7, hk.sub ⟨rfl, rfl, rfl, rfl, rfl, rfl, rfl, trivial⟩, h⟩
          · intro K' hK11
            refine FW.wreg ?_; intro K' hK17
            refine FW.lfun (y := .lit (.pointer (some ⟨bx4, 1, none⟩))) hk rfl rfl rfl rfl (FW.f_fieldPtr hk (FW.holds_nil _) rfl Go.Proofs.Tryz.underlying29 rfl (by kernel_rfl) rfl) ?_; clear hk; intro a w hk
            refine FW.lfun (y := .lit (.string (FW.B ((List.getD v0 (Int.toNat v7) default).S)))) hk rfl rfl rfl rfl (FW.f_loadBlk1 hk (FW.holds_nil _) (j := 0) rfl rfl Go.Proofs.Tryz.underlying9 rfl rfl) ?_; clear hk; intro a w hk
            refine FW.lfun (y := .lit (.int .i64 (List.length ((List.getD v0 (Int.toNat v7) default).S) : Int))) hk rfl rfl rfl rfl ((FW.f_pure (FW.p_slen Go.Proofs.Tryz.underlying9 hk.kn (FW.holds_nil _) rfl))) ?_; clear hk; intro a w hk
            refine FW.lfun (y := .lit (.bool (decide (40 < (List.length ((List.getD v0 (Int.toNat v7) default).S) : Int))))) hk rfl rfl rfl rfl ((FW.f_pure (FW.p_gtr hk.kn (FW.holds_nil _) rfl rfl))) ?_; clear hk; intro a w hk
            refine FW.lend (hK17 _ _ ?_); clear hK17 K'
            refine FW.wcondF (b := (decide (40 < (List.length ((List.getD v0 (Int.toNat v7) default).S) : Int)))) hk h rfl (fun h hb => ?_) (fun h hb => ?_)
            · skip
              refine FW.wreg1 ?_
              refine FW.lfun (y := .lit (.pointer (some ⟨bx4, 1, none⟩))) hk rfl rfl rfl rfl (FW.f_fieldPtr hk (FW.holds_nil _) rfl Go.Proofs.Tryz.underlying29 rfl (by kernel_rfl) rfl) ?_; clear hk; intro a w hk
              refine FW.lfun (y := .lit (.string (FW.B ((List.getD v0 (Int.toNat v7) default).S)))) hk rfl rfl rfl rfl (FW.f_loadBlk1 hk (FW.holds_nil _) (j := 0) rfl rfl Go.Proofs.Tryz.underlying9 rfl rfl) ?_; clear hk; intro a w hk
              obtain ⟨hc4, h⟩ := FW.chk h
              refine FW.lfun (y := .lit (.string (FW.B (List.take (Int.toNat 40) ((List.getD v0 (Int.toNat v7) default).S))))) hk rfl rfl rfl rfl ((FW.f_pure (FW.p_slice_hi Go.Proofs.Tryz.underlying9 hk.kn (FW.holds_nil _) rfl rfl hc4))) ?_; clear hk; intro a w hk
              refine FW.lfun (y := .lit (.pointer (some ⟨bx4, 1, none⟩))) hk rfl rfl rfl rfl (FW.f_fieldPtr hk (FW.holds_nil _) rfl Go.Proofs.Tryz.underlying29 rfl (by kernel_rfl) rfl) ?_; clear hk; intro a w hk
              refine FW.l_store (I' := [FW.blk bx4 29 ((ApiChange.cells (⟨7, (List.take (Int.toNat 40) ((List.getD v0 (Int.toNat v7) default).S)), (List.getD v0 (Int.toNat v7) default).Gone⟩ : ApiChange))), FW.orow xd8 xc8 29 3 ApiChange.cells l8, FW.blk bx2 69 ([.lit (.pointer (some ⟨bx1, 0, none⟩)), .lit (.pointer (some ⟨xbNt1_0_1, 0, none⟩)), .lit (.map (some xr7)), .lit (.int .i64 y5_3), .lit (.int .u64 y5_4), .lit (.bool y5_5)]), FW.mapI (.int .u64) (Value.int .u64) FW.evS xr7 m7, FW.blk xbNt1_0_1 99 ([.lit (.pointer (some ⟨bx1, 0, none⟩)), .lit (.int .i64 y6_1), .lit (.int .i64 y6_2), .lit (.int .i64 y6_3), .lit (.int .u64 y6_4)]), FW.blk bx1 75 ([.lit (.slice xd2 (List.length l2) xc2), .lit (.map (some xr3)), .lit (.int .i64 y1_2), .lit (.slice xd4 (List.length l4) xc4), .lit (.bool y1_4)]), FW.orow xd2 xc2 9 1 c_str l2, FW.mapI (.int .i64) (Value.int .i64) FW.evS xr3 m3, FW.orow xd4 xc4 52 3 ApiFall.cells l4]) (cs' := (ApiChange.cells (⟨7, (List.take (Int.toNat 40) ((List.getD v0 (Int.toNat v7) default).S)), (List.getD v0 (Int.toNat v7) default).Gone⟩ : ApiChange))) (j := 0) hk rfl rfl rfl rfl rfl (by kernel_rfl) rfl rfl ?_; clear hk; intro w hk
              refine wpList_nil ?_
              (repeat first | refine FW.then_normal ?_ | refine FW.block_normal ?_); exact hK11 _ _ ⟨(⟨7, (List.take (Int.toNat 40) ((List.getD v0 (Int.toNat v7) default).S)), (List.getD v0 (Int.toNat v7) default).Gone⟩ : ApiChange), v0, v5, v7, hk.sub ⟨rfl, rfl, rfl, rfl, rfl, rfl, rfl, trivial⟩, h⟩
            refine wp_skip ?_
            (repeat first | refine FW.then_normal ?_ | refine FW.block_normal ?_); exact hK11 _ _ ⟨(⟨7, (List.getD v0 (Int.toNat v7) default).S, (List.getD v0 (Int.toNat v7) default).Gone⟩ : ApiChange), v0, v5, v7, hk.sub ⟨rfl, rfl, rfl, rfl, rfl, rfl, rfl, trivial⟩, h⟩
  refine wp_exit ?_; (repeat first | refine FW.then_exit ?_ | refine FW.block_exit_ne rfl ?_); refine FW.block_exit ?_
  (repeat first | refine FW.then_normal ?_ | refine FW.block_normal ?_); refine hK4 _ _ ?_
  refine FW.wreg ?_; intro K' hK19
  refine FW.lfun (y := .lit (.pointer (some ⟨bx2, 0, none⟩))) hk rfl rfl rfl rfl (FW.f_move hk (FW.holds_nil _) rfl) ?_; clear hk; intro a w hk
  refine FW.lfun (y := .lit (.slice xd8 (List.length l8) xc8)) hk rfl rfl rfl rfl (FW.f_move hk (FW.holds_nil _) rfl) ?_; clear hk; intro a w hk
  replace hk := FW.S.freezeR2 (I' := [FW.blk bx2 69 ([.lit (.pointer (some ⟨bx1, 0, none⟩)), .lit (.pointer (some ⟨xbNt1_0_1, 0, none⟩)), .lit (.map (some xr7)), .lit (.int .i64 y5_3), .lit (.int .u64 y5_4), .lit (.bool y5_5)]), FW.mapI (.int .u64) (Value.int .u64) FW.evS xr7 m7, FW.blk xbNt1_0_1 99 ([.lit (.pointer (some ⟨bx1, 0, none⟩)), .lit (.int .i64 y6_1), .lit (.int .i64 y6_2), .lit (.int .i64 y6_3), .lit (.int .u64 y6_4)]), FW.blk bx1 75 ([.lit (.slice xd2 (List.length l2) xc2), .lit (.map (some xr3)), .lit (.int .i64 y1_2), .lit (.slice xd4 (List.length l4) xc4), .lit (.bool y1_4)]), FW.orow xd2 xc2 9 1 c_str l2, FW.mapI (.int .i64) (Value.int .i64) FW.evS xr3 m3, FW.orow xd4 xc4 52 3 ApiFall.cells l4]) r_ApiChange_cells_eq hk (j := 0) rfl (t := 55) (t' := 6) rfl rfl rfl
  obtain ⟨t2, hr_t2, h⟩ := FW.bnd h
  refine FW.l_callH (I1 := (ORecStore.items bx2 bx1 xbNt1_0_1 xr7 (⟨(⟨y6_1, y6_2, y6_3, y6_4⟩ : OLogLog), m7, y5_3, y5_4, y5_5⟩ : ORecStore)) ++ (ODevDev.items bx1 xd2 xc2 xr3 xd4 xc4 (⟨l2, m3, y1_2, l4, y1_4⟩ : ODevDev))) (I2 := []) (js := [6, 6, 6, 6, 6, 6, 6]) hk rfl rfl rfl rfl rfl Go.Proofs.Tryz.func10 rfl (by kernel_rfl) (rec_Store_Commit.ok K (⟨(⟨y6_1, y6_2, y6_3, y6_4⟩ : OLogLog), m7, y5_3, y5_4, y5_5⟩ : ORecStore) (⟨l2, m3, y1_2, l4, y1_4⟩ : ODevDev) l8 _ hr_t2 bx2 bx1 xbNt1_0_1 xr7 xd2 xc2 xr3 xd4 xc4) ?_; clear hk
  rintro _ _ ⟨zb1, zr1, zd1, zc1, zr2, zd2, zc2, rfl, rfl⟩ a w hk
  refine FW.lfun (y := .lit (.int .i64 t2.1)) hk rfl rfl rfl rfl (FW.f_assign hk (FW.holds_nil _) rfl) ?_; clear hk; intro a w hk
  refine FW.lend (hK19 _ _ ?_); clear hK19 K'
  refine FW.wreg ?_; intro K' hK20
  refine FW.lfun (y := .lit (.pointer (some ⟨bx2, 0, none⟩))) hk rfl rfl rfl rfl (FW.f_move hk (FW.holds_nil _) rfl) ?_; clear hk; intro a w hk
  obtain ⟨t3, hr_t3, h⟩ := FW.bnd h
  refine FW.l_callH (I1 := (ORecStore.items bx2 bx1 zb1 zr1 t2.2.1) ++ (ODevDev.items bx1 zd1 zc1 zr2 zd2 zc2 t2.2.2)) (I2 := []) (js := [6, 6, 6, 6, 6, 6, 6]) hk rfl rfl rfl rfl rfl Go.Proofs.Tryz.func11 rfl (by kernel_rfl) (rec_Store_Get.ok t2.2.1 t2.2.2 7 _ hr_t3 bx2 bx1 zb1 zr1 zd1 zc1 zr2 zd2 zc2) ?_; clear hk
  rintro _ _ ⟨rfl, rfl⟩ a w hk
  refine FW.lfun (y := .tup [.lit (.string (FW.B t3.1)), .lit (.bool t3.2)]) hk rfl rfl rfl rfl (FW.f_move hk (FW.holds_nil _) rfl) ?_; clear hk; intro a w hk
  refine FW.lfun (y := .lit (.string (FW.B t3.1))) hk rfl rfl rfl rfl (FW.f_extract hk (FW.holds_nil _) rfl rfl) ?_; clear hk; intro a w hk
  refine FW.lfun (y := .lit (.bool t3.2)) hk rfl rfl rfl rfl (FW.f_extract hk (FW.holds_nil _) rfl rfl) ?_; clear hk; intro a w hk
  refine FW.lfun (y := .lit (.string (FW.B t3.1))) hk rfl rfl rfl rfl (FW.f_assign hk (FW.holds_nil _) rfl) ?_; clear hk; intro a w hk
  refine FW.lfun (y := .lit (.bool t3.2)) hk rfl rfl rfl rfl (FW.f_assign hk (FW.holds_nil _) rfl) ?_; clear hk; intro a w hk
  refine FW.lend (hK20 _ _ ?_); clear hK20 K'
  refine FW.wseq ?_; intro K' hK21
  refine FW.wreg ?_; intro K' hK22
  obtain ⟨t4, hr_t4, h⟩ := FW.bnd h
  refine FW.lfun (y := .lit (.bool t4)) hk rfl rfl rfl rfl (FW.f_call hk (FW.holds_nil _) rfl rfl Go.Proofs.Tryz.func12 rfl (by kernel_rfl) (offshootlaw06_awake.ok K  _ hr_t4)) ?_; clear hk; intro a w hk
  refine FW.lfun (y := .lit (.bool (!t4))) hk rfl rfl rfl rfl ((FW.f_pure (FW.p_not hk.kn (FW.holds_nil _) rfl))) ?_; clear hk; intro a w hk
  refine FW.lfun (y := .lit (.bool (!t4))) hk rfl rfl rfl rfl (FW.f_move hk (FW.holds_nil _) rfl) ?_; clear hk; intro a w hk
  refine FW.lfunG (y := .lit (.bool v5)) hk rfl rfl rfl rfl rfl rfl rfl rfl (fun hc => FW.f_move hk hc rfl) ?_; clear hk; intro a w hk
  refine FW.lfunG (y := .lit (.bool (!v5))) hk rfl rfl rfl rfl rfl rfl rfl rfl (fun hc => (FW.f_pure (FW.p_not hk.kn hc rfl))) ?_; clear hk; intro a w hk
  refine FW.lfun (y := .lit (.bool ((!t4) || (!v5)))) hk rfl rfl rfl rfl ((FW.f_pure (FW.p_pick_or hk.kn (FW.holds_nil _) rfl rfl))) ?_; clear hk; intro a w hk
  refine FW.lfun (y := .lit (.bool ((!t4) || (!v5)))) hk rfl rfl rfl rfl (FW.f_move hk (FW.holds_nil _) rfl) ?_; clear hk; intro a w hk
  refine FW.lfunG (y := .lit (.int .i64 t2.1)) hk rfl rfl rfl rfl rfl rfl rfl rfl (fun hc => FW.f_move hk hc rfl) ?_; clear hk; intro a w hk
  refine FW.lfunG (y := .lit (.bool (!decide (t2.1 = 0)))) hk rfl rfl rfl rfl rfl rfl rfl rfl (fun hc => (FW.f_pure (FW.p_neq hk.kn hc rfl rfl))) ?_; clear hk; intro a w hk
  refine FW.lfun (y := .lit (.bool (((!t4) || (!v5)) || (!decide (t2.1 = 0))))) hk rfl rfl rfl rfl ((FW.f_pure (FW.p_pick_or hk.kn (FW.holds_nil _) rfl rfl))) ?_; clear hk; intro a w hk
  refine FW.lfun (y := .lit (.bool (((!t4) || (!v5)) || (!decide (t2.1 = 0))))) hk rfl rfl rfl rfl (FW.f_move hk (FW.holds_nil _) rfl) ?_; clear hk; intro a w hk
  refine FW.lfunG (y := .lit (.pointer (some ⟨bx1, 0, none⟩))) hk rfl rfl rfl rfl rfl rfl rfl rfl (fun hc => FW.f_move hk hc rfl) ?_; clear hk; intro a w hk
  obtain ⟨t5, hr_t5, hn_t5, h⟩ := FW.bndG2 h
  refine FW.l_callHG (I1 := (ODevDev.items bx1 zd1 zc1 zr2 zd2 zc2 t2.2.2)) (I2 := [FW.blk bx2 69 ([.lit (.pointer (some ⟨bx1, 0, none⟩)), .lit (.pointer (some ⟨zb1, 0, none⟩)), .lit (.map (some zr1)), .lit (.int .i64 t2.2.1.half), .lit (.int .u64 t2.2.1.round), .lit (.bool t2.2.1.dead)]), FW.mapI (.int .u64) (Value.int .u64) FW.evS zr1 t2.2.1.m, FW.blk zb1 99 ([.lit (.pointer (some ⟨bx1, 0, none⟩)), .lit (.int .i64 t2.2.1.l.from_), .lit (.int .i64 t2.2.1.l.to_), .lit (.int .i64 t2.2.1.l.at_), .lit (.int .u64 t2.2.1.l.next)])]) (js := [6, 6, 6, 6]) hk rfl rfl rfl rfl rfl rfl rfl rfl rfl Go.Proofs.Tryz.func13 rfl (by kernel_rfl) (fun hc => dev_Dev_Off.ok t2.2.2 _ (hr_t5 (FW.asm_out (p := (((!t4) || (!v5)) || (!decide (t2.1 = 0))) = false) hk.kn hc (fun e0 => e0))) bx1 zd1 zc1 zr2 zd2 zc2) (fun hn => by obtain rfl := hn_t5 (fun hp => hn (FW.asm_in hk.kn (by have e0 := hp; exact ⟨e0, rfl, trivial⟩))); exact ⟨_, rfl, rfl⟩) ?_; clear hk
  rintro _ _ ⟨rfl, rfl⟩ a w hk
  refine FW.lfun (y := .lit (.bool ((((!t4) || (!v5)) || (!decide (t2.1 = 0))) || t5))) hk rfl rfl rfl rfl ((FW.f_pure (FW.p_pick_or hk.kn (FW.holds_nil _) rfl rfl))) ?_; clear hk; intro a w hk
  refine FW.lend (hK22 _ _ ?_); clear hK22 K'
  refine FW.wcondF (b := ((((!t4) || (!v5)) || (!decide (t2.1 = 0))) || t5)) hk h rfl (fun h hb => ?_) (fun h hb => ?_)
  · skip
    refine FW.wreg ?_; intro K' hK23
    refine FW.lfun (y := .lit (.bool false)) hk rfl rfl rfl rfl (FW.f_assign hk (FW.holds_nil _) rfl) ?_; clear hk; intro a w hk
    refine FW.lend (hK23 _ _ ?_); clear hK23 K'
    refine wp_ret ?_
    (repeat first | refine FW.then_ret ?_ | refine FW.block_ret ?_)
    obtain rfl := Option.some.inj h
    exact FW.fret1 hk rfl rfl
  refine wp_skip ?_
  (repeat first | refine FW.then_normal ?_ | refine FW.block_normal ?_); refine hK21 _ _ ?_
  refine FW.wseq ?_; intro K' hK24
  refine FW.wreg ?_; intro K' hK25
  refine FW.lfun (y := .row (r_ApiChange_cells l8)) hk rfl rfl rfl rfl (FW.f_move hk (FW.holds_nil _) rfl) ?_; clear hk; intro a w hk
  refine FW.lfun (y := .lit (.int .i64 (List.length l8 : Int))) hk rfl rfl rfl rfl (FW.f_len (R := r_ApiChange_cells) (f := ApiChange.cells) (l := l8) r_ApiChange_cells_eq Go.Proofs.Tryz.underlying22 hk (FW.holds_nil _) rfl) ?_; clear hk; intro a w hk
  refine FW.lfun (y := .lit (.bool (decide ((List.length l8 : Int) = 0)))) hk rfl rfl rfl rfl ((FW.f_pure (FW.p_eql hk.kn (FW.holds_nil _) rfl rfl))) ?_; clear hk; intro a w hk
  refine FW.lfun (y := .lit (.bool (decide ((List.length l8 : Int) = 0)))) hk rfl rfl rfl rfl (FW.f_move hk (FW.holds_nil _) rfl) ?_; clear hk; intro a w hk
  refine FW.lfunG (y := .row (r_ApiChange_cells l8)) hk rfl rfl rfl rfl rfl rfl rfl rfl (fun hc => FW.f_move hk hc rfl) ?_; clear hk; intro a w hk
  refine FW.lfunG (y := .row (r_ApiChange_cells l8)) hk rfl rfl rfl rfl rfl rfl rfl rfl (fun hc => FW.f_move hk hc rfl) ?_; clear hk; intro a w hk
  refine FW.lfunG (y := .lit (.int .i64 (List.length l8 : Int))) hk rfl rfl rfl rfl rfl rfl rfl rfl (fun hc => FW.f_len (R := r_ApiChange_cells) (f := ApiChange.cells) (l := l8) r_ApiChange_cells_eq Go.Proofs.Tryz.underlying22 hk hc rfl) ?_; clear hk; intro a w hk
  refine FW.lfunG (y := .lit (.int .i64 (IntKind.wrap .i64 ((List.length l8 : Int) - 1)))) hk rfl rfl rfl rfl rfl rfl rfl rfl (fun hc => (FW.f_pure (FW.p_sub hk.kn hc rfl rfl))) ?_; clear hk; intro a w hk
  obtain ⟨hc5, h⟩ := FW.chk h
  refine FW.lfunG (y := .ref (ApiChange.cells (List.getD l8 (Int.toNat (IntKind.wrap .i64 ((List.length l8 : Int) - 1))) default))) hk rfl rfl rfl rfl rfl rfl rfl rfl (fun hc => FW.f_indexAddr (R := r_ApiChange_cells) (f := ApiChange.cells) (l := l8) (sz := 3) r_ApiChange_cells_eq (fun _ => rfl) hk hc rfl rfl Go.Proofs.Tryz.underlying22 (by kernel_rfl) hc5) ?_; clear hk; intro a w hk
  refine FW.lfunG (y := .ref (List.drop 2 (ApiChange.cells (List.getD l8 (Int.toNat (IntKind.wrap .i64 ((List.length l8 : Int) - 1))) default)))) hk rfl rfl rfl rfl rfl rfl rfl rfl (fun hc => FW.f_fieldAddr hk hc rfl Go.Proofs.Tryz.underlying29 rfl (by kernel_rfl) rfl) ?_; clear hk; intro a w hk
  refine FW.lfunG (y := .lit (.bool ((List.getD l8 (Int.toNat (IntKind.wrap .i64 ((List.length l8 : Int) - 1))) default).Gone))) hk rfl rfl rfl rfl rfl rfl rfl rfl (fun hc => FW.f_load1 hk hc rfl rfl Go.Proofs.Tryz.underlying4 rfl) ?_; clear hk; intro a w hk
  refine FW.lfun (y := .lit (.bool ((decide ((List.length l8 : Int) = 0)) || ((List.getD l8 (Int.toNat (IntKind.wrap .i64 ((List.length l8 : Int) - 1))) default).Gone)))) hk rfl rfl rfl rfl ((FW.f_pure (FW.p_pick_or hk.kn (FW.holds_nil _) rfl rfl))) ?_; clear hk; intro a w hk
  refine FW.lend (hK25 _ _ ?_); clear hK25 K'
  refine FW.wcondF (b := ((decide ((List.length l8 : Int) = 0)) || ((List.getD l8 (Int.toNat (IntKind.wrap .i64 ((List.length l8 : Int) - 1))) default).Gone))) hk h rfl (fun h hb => ?_) (fun h hb => ?_)
  · skip
    refine FW.wreg ?_; intro K' hK26
    refine FW.lfun (y := .lit (.bool t3.2)) hk rfl rfl rfl rfl (FW.f_move hk (FW.holds_nil _) rfl) ?_; clear hk; intro a w hk
    refine FW.lfun (y := .lit (.bool (!t3.2))) hk rfl rfl rfl rfl ((FW.f_pure (FW.p_not hk.kn (FW.holds_nil _) rfl))) ?_; clear hk; intro a w hk
    refine FW.lfun (y := .lit (.bool (!t3.2))) hk rfl rfl rfl rfl (FW.f_assign hk (FW.holds_nil _) rfl) ?_; clear hk; intro a w hk
    refine FW.lend (hK26 _ _ ?_); clear hK26 K'
    refine wp_ret ?_
    (repeat first | refine FW.then_ret ?_ | refine FW.block_ret ?_)
    obtain rfl := Option.some.inj h
    exact FW.fret1 hk rfl rfl
  refine wp_skip ?_
  (repeat first | refine FW.then_normal ?_ | refine FW.block_normal ?_); refine hK24 _ _ ?_
  refine FW.wreg ?_; intro K' hK27
  refine FW.lfun (y := .lit (.bool t3.2)) hk rfl rfl rfl rfl (FW.f_move hk (FW.holds_nil _) rfl) ?_; clear hk; intro a w hk
  refine FW.lfun (y := .lit (.bool t3.2)) hk rfl rfl rfl rfl (FW.f_move hk (FW.holds_nil _) rfl) ?_; clear hk; intro a w hk
  refine FW.lfunG (y := .lit (.string (FW.B t3.1))) hk rfl rfl rfl rfl rfl rfl rfl rfl (fun hc => FW.f_move hk hc rfl) ?_; clear hk; intro a w hk
  refine FW.lfunG (y := .row (r_ApiChange_cells l8)) hk rfl rfl rfl rfl rfl rfl rfl rfl (fun hc => FW.f_move hk hc rfl) ?_; clear hk; intro a w hk
  refine FW.lfunG (y := .row (r_ApiChange_cells l8)) hk rfl rfl rfl rfl rfl rfl rfl rfl (fun hc => FW.f_move hk hc rfl) ?_; clear hk; intro a w hk
  refine FW.lfunG (y := .lit (.int .i64 (List.length l8 : Int))) hk rfl rfl rfl rfl rfl rfl rfl rfl (fun hc => FW.f_len (R := r_ApiChange_cells) (f := ApiChange.cells) (l := l8) r_ApiChange_cells_eq Go.Proofs.Tryz.underlying22 hk hc rfl) ?_; clear hk; intro a w hk
  refine FW.lfunG (y := .lit (.int .i64 (IntKind.wrap .i64 ((List.length l8 : Int) - 1)))) hk rfl rfl rfl rfl rfl rfl rfl rfl (fun hc => (FW.f_pure (FW.p_sub hk.kn hc rfl rfl))) ?_; clear hk; intro a w hk
  obtain ⟨hc6, h⟩ := FW.chk h
  refine FW.lfunG (y := .ref (ApiChange.cells (List.getD l8 (Int.toNat (IntKind.wrap .i64 ((List.length l8 : Int) - 1))) default))) hk rfl rfl rfl rfl rfl rfl rfl rfl (fun hc => FW.f_indexAddr (R := r_ApiChange_cells) (f := ApiChange.cells) (l := l8) (sz := 3) r_ApiChange_cells_eq (fun _ => rfl) hk hc rfl rfl Go.Proofs.Tryz.underlying22 (by kernel_rfl) hc6) ?_; clear hk; intro a w hk
  refine FW.lfunG (y := .ref (List.drop 1 (ApiChange.cells (List.getD l8 (Int.toNat (IntKind.wrap .i64 ((List.length l8 : Int) - 1))) default)))) hk rfl rfl rfl rfl rfl rfl rfl rfl (fun hc => FW.f_fieldAddr hk hc rfl Go.Proofs.Tryz.underlying29 rfl (by kernel_rfl) rfl) ?_; clear hk; intro a w hk
  refine FW.lfunG (y := .lit (.string (FW.B ((List.getD l8 (Int.toNat (IntKind.wrap .i64 ((List.length l8 : Int) - 1))) default).S)))) hk rfl rfl rfl rfl rfl rfl rfl rfl (fun hc => FW.f_load1 hk hc rfl rfl Go.Proofs.Tryz.underlying9 rfl) ?_; clear hk; intro a w hk
  refine FW.lfunG (y := .lit (.bool (decide (t3.1 = ((List.getD l8 (Int.toNat (IntKind.wrap .i64 ((List.length l8 : Int) - 1))) default).S))))) hk rfl rfl rfl rfl rfl rfl rfl rfl (fun hc => (FW.f_pure (FW.p_seql hk.kn hc rfl rfl))) ?_; clear hk; intro a w hk
  refine FW.lfun (y := .lit (.bool (t3.2 && (decide (t3.1 = ((List.getD l8 (Int.toNat (IntKind.wrap .i64 ((List.length l8 : Int) - 1))) default).S)))))) hk rfl rfl rfl rfl ((FW.f_pure (FW.p_pick_and hk.kn (FW.holds_nil _) rfl rfl))) ?_; clear hk; intro a w hk
  refine FW.lfun (y := .lit (.bool (t3.2 && (decide (t3.1 = ((List.getD l8 (Int.toNat (IntKind.wrap .i64 ((List.length l8 : Int) - 1))) default).S)))))) hk rfl rfl rfl rfl (FW.f_assign hk (FW.holds_nil _) rfl) ?_; clear hk; intro a w hk
  refine FW.lend (hK27 _ _ ?_); clear hK27 K'
  refine wp_ret ?_
  (repeat first | refine FW.then_ret ?_ | refine FW.block_ret ?_)
  obtain rfl := Option.some.inj h
  exact FW.fret1 hk rfl rfl
theorem rec_Store_Get_nil.ok  (v1 : Int) (r : List UInt8 × Bool) (h : rec_Store_Get_nil.f v1 = some r) :
    FW.Ok Go.Proofs.Tryz.prog 11 [.lit (.pointer none), .lit (.int .u64 v1)] (.tup [.lit (.string (FW.B r.1)), .lit (.bool r.2)]) := by
  refine FW.enter (xs := [.lit (.pointer none), .lit (.int .u64 v1)]) Go.Proofs.Tryz.func11 rfl Go.Proofs.Tryz.ntmps11 rfl ?_
  intro M w0 a hk
  unfold rec_Store_Get_nil.f at h
  refine FW.wreg ?_; intro K' hK1
  refine FW.lfun (y := .lit (.string (FW.B ([] : List UInt8)))) hk rfl rfl rfl rfl (FW.f_assign hk (FW.holds_nil _) rfl) ?_; clear hk; intro a w hk
  refine FW.lfun (y := .lit (.bool false)) hk rfl rfl rfl rfl (FW.f_assign hk (FW.holds_nil _) rfl) ?_; clear hk; intro a w hk
  refine FW.lend (hK1 _ _ ?_); clear hK1 K'
  refine FW.wseq ?_; intro K' hK2
  refine FW.wreg ?_; intro K' hK3
  refine FW.lfun (y := .lit (.pointer none)) hk rfl rfl rfl rfl (FW.f_move hk (FW.holds_nil _) rfl) ?_; clear hk; intro a w hk
  refine FW.lfun (y := .lit (.bool true)) hk rfl rfl rfl rfl ((FW.f_pure (FW.p_ptrEq Go.Proofs.Tryz.underlying23 hk.kn (FW.holds_nil _) rfl rfl rfl))) ?_; clear hk; intro a w hk
  refine FW.lend (hK3 _ _ ?_); clear hK3 K'
  refine FW.wcondT hk rfl ?_
  refine FW.wreg ?_; intro K' hK4
  refine FW.lfun (y := .lit (.string (FW.B ([] : List UInt8)))) hk rfl rfl rfl rfl (FW.f_assign hk (FW.holds_nil _) rfl) ?_; clear hk; intro a w hk
  refine FW.lfun (y := .lit (.bool false)) hk rfl rfl rfl rfl (FW.f_assign hk (FW.holds_nil _) rfl) ?_; clear hk; intro a w hk
  refine FW.lend (hK4 _ _ ?_); clear hK4 K'
  refine wp_ret ?_
  (repeat first | refine FW.then_ret ?_ | refine FW.block_ret ?_)
  obtain rfl := Option.some.inj h
  exact FW.fret2 hk rfl rfl rfl
theorem rec_Store_Snap_nil.ok   (r : Unit) (h : rec_Store_Snap_nil.f = some r) :
    FW.Ok Go.Proofs.Tryz.prog 17 [.lit (.pointer none)] (.lit (.func (.func 34) #[] #[])) := by
  refine FW.enter (xs := [.lit (.pointer none)]) Go.Proofs.Tryz.func17 rfl Go.Proofs.Tryz.ntmps17 rfl ?_
  intro M w0 a hk
  unfold rec_Store_Snap_nil.f at h
  refine FW.wreg ?_; intro K' hK1
  refine FW.lfun (y := .lit .nilFunc) hk rfl rfl rfl rfl (FW.f_assign hk (FW.holds_nil _) rfl) ?_; clear hk; intro a w hk
  refine FW.lend (hK1 _ _ ?_); clear hK1 K'
  refine FW.wseq ?_; intro K' hK2
  refine FW.wreg ?_; intro K' hK3
  refine FW.lfun (y := .lit (.pointer none)) hk rfl rfl rfl rfl (FW.f_move hk (FW.holds_nil _) rfl) ?_; clear hk; intro a w hk
  refine FW.lfun (y := .lit (.bool true)) hk rfl rfl rfl rfl ((FW.f_pure (FW.p_ptrEq Go.Proofs.Tryz.underlying23 hk.kn (FW.holds_nil _) rfl rfl rfl))) ?_; clear hk; intro a w hk
  refine FW.lend (hK3 _ _ ?_); clear hK3 K'
  refine FW.wcondT hk rfl ?_
  refine FW.wreg ?_; intro K' hK4
  refine FW.lfun (y := .lit (.func (.func 34) #[] #[])) hk rfl rfl rfl rfl (FW.f_assign hk (FW.holds_nil _) rfl) ?_; clear hk; intro a w hk
  refine FW.lend (hK4 _ _ ?_); clear hK4 K'
  refine wp_ret ?_
  (repeat first | refine FW.then_ret ?_ | refine FW.block_ret ?_)
  exact FW.fret1 hk rfl rfl
theorem rec_Store_Snap_1.ok  (v0 : Int) (r : List UInt8 × Bool) (h : rec_Store_Snap_1.f v0 = some r) :
    FW.Ok Go.Proofs.Tryz.prog 34 [.lit (.int .u64 v0)] (.tup [.lit (.string (FW.B r.1)), .lit (.bool r.2)]) := by
  refine FW.enter (xs := [.lit (.int .u64 v0)]) Go.Proofs.Tryz.func34 rfl Go.Proofs.Tryz.ntmps34 rfl ?_
  intro M w0 a hk
  unfold rec_Store_Snap_1.f at h
  refine FW.wreg ?_; intro K' hK1
  refine FW.lfun (y := .lit (.string (FW.B ([] : List UInt8)))) hk rfl rfl rfl rfl (FW.f_assign hk (FW.holds_nil _) rfl) ?_; clear hk; intro a w hk
  refine FW.lfun (y := .lit (.bool false)) hk rfl rfl rfl rfl (FW.f_assign hk (FW.holds_nil _) rfl) ?_; clear hk; intro a w hk
  refine FW.lend (hK1 _ _ ?_); clear hK1 K'
  refine FW.wreg ?_; intro K' hK2
  refine FW.lfun (y := .lit (.string (FW.B ([] : List UInt8)))) hk rfl rfl rfl rfl (FW.f_assign hk (FW.holds_nil _) rfl) ?_; clear hk; intro a w hk
  refine FW.lfun (y := .lit (.bool false)) hk rfl rfl rfl rfl (FW.f_assign hk (FW.holds_nil _) rfl) ?_; clear hk; intro a w hk
  refine FW.lend (hK2 _ _ ?_); clear hK2 K'
  refine wp_ret ?_
  (repeat first | refine FW.then_ret ?_ | refine FW.block_ret ?_)
  obtain rfl := Option.some.inj h
  exact FW.fret2 hk rfl rfl rfl
theorem dev_Dev_Len_nil.ok   (r : Int) (h : dev_Dev_Len_nil.f = some r) :
    FW.Ok Go.Proofs.Tryz.prog 36 [.lit (.pointer none)] (.lit (.int .i64 r)) := by
  refine FW.enter (xs := [.lit (.pointer none)]) Go.Proofs.Tryz.func36 rfl Go.Proofs.Tryz.ntmps36 rfl ?_
  intro M w0 a hk
  unfold dev_Dev_Len_nil.f at h
  refine FW.wreg ?_; intro K' hK1
  refine FW.lfun (y := .lit (.int .i64 0)) hk rfl rfl rfl rfl (FW.f_assign hk (FW.holds_nil _) rfl) ?_; clear hk; intro a w hk
  refine FW.lend (hK1 _ _ ?_); clear hK1 K'
  refine FW.wseq ?_; intro K' hK2
  refine FW.wreg ?_; intro K' hK3
  refine FW.lfun (y := .lit (.pointer none)) hk rfl rfl rfl rfl (FW.f_move hk (FW.holds_nil _) rfl) ?_; clear hk; intro a w hk
  refine FW.lfun (y := .lit (.bool true)) hk rfl rfl rfl rfl ((FW.f_pure (FW.p_ptrEq Go.Proofs.Tryz.underlying24 hk.kn (FW.holds_nil _) rfl rfl rfl))) ?_; clear hk; intro a w hk
  refine FW.lend (hK3 _ _ ?_); clear hK3 K'
  refine FW.wcondT hk rfl ?_
  refine FW.wreg ?_; intro K' hK4
  refine FW.lfun (y := .lit (.int .i64 0)) hk rfl rfl rfl rfl (FW.f_assign hk (FW.holds_nil _) rfl) ?_; clear hk; intro a w hk
  refine FW.lend (hK4 _ _ ?_); clear hK4 K'
  refine wp_ret ?_
  (repeat first | refine FW.then_ret ?_ | refine FW.block_ret ?_)
  obtain rfl := Option.some.inj h
  exact FW.fret1 hk rfl rfl
theorem dev_Dev_Off_nil.ok   (r : Bool) (h : dev_Dev_Off_nil.f = some r) :
    FW.Ok Go.Proofs.Tryz.prog 13 [.lit (.pointer none)] (.lit (.bool r)) := by
  refine FW.enter (xs := [.lit (.pointer none)]) Go.Proofs.Tryz.func13 rfl Go.Proofs.Tryz.ntmps13 rfl ?_
  intro M w0 a hk
  unfold dev_Dev_Off_nil.f at h
  refine FW.wreg ?_; intro K' hK1
  refine FW.lfun (y := .lit (.bool false)) hk rfl rfl rfl rfl (FW.f_assign hk (FW.holds_nil _) rfl) ?_; clear hk; intro a w hk
  refine FW.lend (hK1 _ _ ?_); clear hK1 K'
  refine FW.wreg ?_; intro K' hK2
  refine FW.lfun (y := .lit (.pointer none)) hk rfl rfl rfl rfl (FW.f_move hk (FW.holds_nil _) rfl) ?_; clear hk; intro a w hk
  refine FW.lfun (y := .lit (.bool true)) hk rfl rfl rfl rfl ((FW.f_pure (FW.p_ptrEq Go.Proofs.Tryz.underlying24 hk.kn (FW.holds_nil _) rfl rfl rfl))) ?_; clear hk; intro a w hk
  refine FW.lfun (y := .lit (.bool true)) hk rfl rfl rfl rfl (FW.f_move hk (FW.holds_nil _) rfl) ?_; clear hk; intro a w hk
  refine FW.lfunG (y := .lit (.bool false)) hk rfl rfl rfl rfl rfl rfl rfl rfl (fun hc => (FW.noHold hk.kn rfl rfl hc).elim) ?_; clear hk; intro a w hk
  refine FW.lfunG (y := .lit (.bool false)) hk rfl rfl rfl rfl rfl rfl rfl rfl (fun hc => (FW.noHold hk.kn rfl rfl hc).elim) ?_; clear hk; intro a w hk
  refine FW.lfunG (y := .lit (.bool false)) hk rfl rfl rfl rfl rfl rfl rfl rfl (fun hc => (FW.noHold hk.kn rfl rfl hc).elim) ?_; clear hk; intro a w hk
  refine FW.lfunG (y := .lit (.bool false)) hk rfl rfl rfl rfl rfl rfl rfl rfl (fun hc => (FW.noHold hk.kn rfl rfl hc).elim) ?_; clear hk; intro a w hk
  refine FW.lfun (y := .lit (.bool true)) hk rfl rfl rfl rfl ((FW.f_pure (FW.p_pickT hk.kn (FW.holds_nil _) rfl rfl))) ?_; clear hk; intro a w hk
  refine FW.lfun (y := .lit (.bool true)) hk rfl rfl rfl rfl (FW.f_assign hk (FW.holds_nil _) rfl) ?_; clear hk; intro a w hk
  refine FW.lend (hK2 _ _ ?_); clear hK2 K'
  refine wp_ret ?_
  (repeat first | refine FW.then_ret ?_ | refine FW.block_ret ?_)
  obtain rfl := Option.some.inj h
  exact FW.fret1 hk rfl rfl
theorem rec_parts_nil.ok   (r : Int × Int × Int × Int) (h : rec_parts_nil.f = some r) :
    FW.Ok Go.Proofs.Tryz.prog 40 [.lit (.pointer none)] (.agg [.lit (.int .i64 r.1), .lit (.int .i64 r.2.1), .lit (.int .i64 r.2.2.1), .lit (.int .i64 r.2.2.2)]) := by
  refine FW.enter (xs := [.lit (.pointer none)]) Go.Proofs.Tryz.func40 rfl Go.Proofs.Tryz.ntmps40 rfl ?_
  intro M w0 a hk
  unfold rec_parts_nil.f at h
  refine FW.wreg ?_; intro K' hK1
  refine FW.l_alloc (zs := [.lit (.int .i64 0), .lit (.int .i64 0), .lit (.int .i64 0), .lit (.int .i64 0)]) [] hk rfl rfl rfl rfl ?_; clear hk; intro bx1 a w hk
  refine FW.lend (hK1 _ _ ?_); clear hK1 K'
  refine FW.wreg ?_; intro K' hK2
  refine FW.lfun (y := .lit (.pointer none)) hk rfl rfl rfl rfl (FW.f_move hk (FW.holds_nil _) rfl) ?_; clear hk; intro a w hk
  obtain ⟨t1, hr_t1, h⟩ := FW.bnd h
  refine FW.lfun (y := .lit (.int .i64 t1)) hk rfl rfl rfl rfl (FW.f_call hk (FW.holds_nil _) rfl rfl Go.Proofs.Tryz.func36 rfl (by kernel_rfl) (dev_Dev_Len_nil.ok  _ hr_t1)) ?_; clear hk; intro a w hk
  refine FW.lfun (y := .lit (.int .i64 (IntKind.wrap .i64 (t1 * 2)))) hk rfl rfl rfl rfl ((FW.f_pure (FW.p_mul hk.kn (FW.holds_nil _) rfl rfl))) ?_; clear hk; intro a w hk
  refine FW.lfun (y := .lit (.int .i64 (IntKind.wrap .i64 (Int.tdiv (IntKind.wrap .i64 (t1 * 2)) 5)))) hk rfl rfl rfl rfl ((FW.f_pure (FW.p_quo hk.kn (FW.holds_nil _) rfl rfl (show ¬ (5 : Int) = 0 from by decide)))) ?_; clear hk; intro a w hk
  refine FW.lfun (y := .lit (.int .i64 (IntKind.wrap .i64 (Int.tdiv (IntKind.wrap .i64 (t1 * 2)) 5)))) hk rfl rfl rfl rfl (FW.f_assign hk (FW.holds_nil _) rfl) ?_; clear hk; intro a w hk
  refine FW.lend (hK2 _ _ ?_); clear hK2 K'
  refine FW.wreg ?_; intro K' hK3
  refine FW.lfun (y := .lit (.int .i64 (IntKind.wrap .i64 (Int.tdiv (IntKind.wrap .i64 (t1 * 2)) 5)))) hk rfl rfl rfl rfl (FW.f_move hk (FW.holds_nil _) rfl) ?_; clear hk; intro a w hk
  refine FW.lfun (y := .lit (.int .i64 (IntKind.wrap .i64 (Int.tdiv (IntKind.wrap .i64 (t1 * 2)) 5)))) hk rfl rfl rfl rfl (FW.f_move hk (FW.holds_nil _) rfl) ?_; clear hk; intro a w hk
  refine FW.lfun (y := .lit (.int .i64 (IntKind.wrap .i64 (2 * (IntKind.wrap .i64 (Int.tdiv (IntKind.wrap .i64 (t1 * 2)) 5)))))) hk rfl rfl rfl rfl ((FW.f_pure (FW.p_mul hk.kn (FW.holds_nil _) rfl rfl))) ?_; clear hk; intro a w hk
  refine FW.lfun (y := .lit (.pointer none)) hk rfl rfl rfl rfl (FW.f_move hk (FW.holds_nil _) rfl) ?_; clear hk; intro a w hk
  obtain ⟨t2, hr_t2, h⟩ := FW.bnd h
  refine FW.lfun (y := .lit (.int .i64 t2)) hk rfl rfl rfl rfl (FW.f_call hk (FW.holds_nil _) rfl rfl Go.Proofs.Tryz.func36 rfl (by kernel_rfl) (dev_Dev_Len_nil.ok  _ hr_t2)) ?_; clear hk; intro a w hk
  refine FW.lfun (y := .agg [.lit (.int .i64 ((0, (IntKind.wrap .i64 (Int.tdiv (IntKind.wrap .i64 (t1 * 2)) 5)), (IntKind.wrap .i64 (2 * (IntKind.wrap .i64 (Int.tdiv (IntKind.wrap .i64 (t1 * 2)) 5)))), t2).1)), .lit (.int .i64 ((0, (IntKind.wrap .i64 (Int.tdiv (IntKind.wrap .i64 (t1 * 2)) 5)), (IntKind.wrap .i64 (2 * (IntKind.wrap .i64 (Int.tdiv (IntKind.wrap .i64 (t1 * 2)) 5)))), t2).2.1)), .lit (.int .i64 ((0, (IntKind.wrap .i64 (Int.tdiv (IntKind.wrap .i64 (t1 * 2)) 5)), (IntKind.wrap .i64 (2 * (IntKind.wrap .i64 (Int.tdiv (IntKind.wrap .i64 (t1 * 2)) 5)))), t2).2.2.1)), .lit (.int .i64 ((0, (IntKind.wrap .i64 (Int.tdiv (IntKind.wrap .i64 (t1 * 2)) 5)), (IntKind.wrap .i64 (2 * (IntKind.wrap .i64 (Int.tdiv (IntKind.wrap .i64 (t1 * 2)) 5)))), t2).2.2.2))]) hk rfl rfl rfl rfl (FW.f_build hk (FW.holds_nil _) rfl rfl) ?_; clear hk; intro a w hk
  refine FW.l_store (I' := [FW.blk bx1 79 ([.lit (.int .i64 ((0, (IntKind.wrap .i64 (Int.tdiv (IntKind.wrap .i64 (t1 * 2)) 5)), (IntKind.wrap .i64 (2 * (IntKind.wrap .i64 (Int.tdiv (IntKind.wrap .i64 (t1 * 2)) 5)))), t2).1)), .lit (.int .i64 ((0, (IntKind.wrap .i64 (Int.tdiv (IntKind.wrap .i64 (t1 * 2)) 5)), (IntKind.wrap .i64 (2 * (IntKind.wrap .i64 (Int.tdiv (IntKind.wrap .i64 (t1 * 2)) 5)))), t2).2.1)), .lit (.int .i64 ((0, (IntKind.wrap .i64 (Int.tdiv (IntKind.wrap .i64 (t1 * 2)) 5)), (IntKind.wrap .i64 (2 * (IntKind.wrap .i64 (Int.tdiv (IntKind.wrap .i64 (t1 * 2)) 5)))), t2).2.2.1)), .lit (.int .i64 ((0, (IntKind.wrap .i64 (Int.tdiv (IntKind.wrap .i64 (t1 * 2)) 5)), (IntKind.wrap .i64 (2 * (IntKind.wrap .i64 (Int.tdiv (IntKind.wrap .i64 (t1 * 2)) 5)))), t2).2.2.2))])]) (cs' := [.lit (.int .i64 ((0, (IntKind.wrap .i64 (Int.tdiv (IntKind.wrap .i64 (t1 * 2)) 5)), (IntKind.wrap .i64 (2 * (IntKind.wrap .i64 (Int.tdiv (IntKind.wrap .i64 (t1 * 2)) 5)))), t2).1)), .lit (.int .i64 ((0, (IntKind.wrap .i64 (Int.tdiv (IntKind.wrap .i64 (t1 * 2)) 5)), (IntKind.wrap .i64 (2 * (IntKind.wrap .i64 (Int.tdiv (IntKind.wrap .i64 (t1 * 2)) 5)))), t2).2.1)), .lit (.int .i64 ((0, (IntKind.wrap .i64 (Int.tdiv (IntKind.wrap .i64 (t1 * 2)) 5)), (IntKind.wrap .i64 (2 * (IntKind.wrap .i64 (Int.tdiv (IntKind.wrap .i64 (t1 * 2)) 5)))), t2).2.2.1)), .lit (.int .i64 ((0, (IntKind.wrap .i64 (Int.tdiv (IntKind.wrap .i64 (t1 * 2)) 5)), (IntKind.wrap .i64 (2 * (IntKind.wrap .i64 (Int.tdiv (IntKind.wrap .i64 (t1 * 2)) 5)))), t2).2.2.2))]) (j := 0) hk rfl rfl rfl rfl rfl (by kernel_rfl) rfl rfl ?_; clear hk; intro w hk
  refine FW.lend (hK3 _ _ ?_); clear hK3 K'
  refine wp_ret ?_
  (repeat first | refine FW.then_ret ?_ | refine FW.block_ret ?_)
  obtain rfl := Option.some.inj h
  exact FW.fretR1 hk rfl (FW.rcell hk rfl (j := 0) rfl Go.Proofs.Tryz.underlying79 rfl (by kernel_rfl))
theorem dev_Dev_Read_nil.ok  (v1 : Int) (r : List UInt8 × Int) (h : dev_Dev_Read_nil.f v1 = some r) :
    FW.Ok Go.Proofs.Tryz.prog 61 [.lit (.pointer none), .lit (.int .i64 v1)] (.tup [.lit (.string (FW.B r.1)), .lit (.int .i64 r.2)]) := by
  refine FW.enter (xs := [.lit (.pointer none), .lit (.int .i64 v1)]) Go.Proofs.Tryz.func61 rfl Go.Proofs.Tryz.ntmps61 rfl ?_
  intro M w0 a hk
  unfold dev_Dev_Read_nil.f at h
  refine FW.wreg ?_; intro K' hK1
  refine FW.lfun (y := .lit (.string (FW.B ([] : List UInt8)))) hk rfl rfl rfl rfl (FW.f_assign hk (FW.holds_nil _) rfl) ?_; clear hk; intro a w hk
  refine FW.lfun (y := .lit (.int .i64 0)) hk rfl rfl rfl rfl (FW.f_assign hk (FW.holds_nil _) rfl) ?_; clear hk; intro a w hk
  refine FW.lend (hK1 _ _ ?_); clear hK1 K'
  refine FW.wseq ?_; intro K' hK2
  refine wp_block ?_
  refine FW.wreg ?_; intro K' hK3
  refine FW.lfun (y := .lit (.pointer none)) hk rfl rfl rfl rfl (FW.f_move hk (FW.holds_nil _) rfl) ?_; clear hk; intro a w hk
  obtain ⟨t1, hr_t1, h⟩ := FW.bnd h
  refine FW.lfun (y := .lit (.bool t1)) hk rfl rfl rfl rfl (FW.f_call hk (FW.holds_nil _) rfl rfl Go.Proofs.Tryz.func13 rfl (by kernel_rfl) (dev_Dev_Off_nil.ok  _ hr_t1)) ?_; clear hk; intro a w hk
  refine FW.lfun (y := .lit (.bool t1)) hk rfl rfl rfl rfl (FW.f_assign hk (FW.holds_nil _) rfl) ?_; clear hk; intro a w hk
  refine FW.lend (hK3 _ _ ?_); clear hK3 K'
  refine FW.wcondF (b := t1) hk h rfl (fun h hb => ?_) (fun h hb => ?_)
  · skip
    refine FW.wreg ?_; intro K' hK4
    refine FW.lfun (y := .lit (.string (FW.B ([] : List UInt8)))) hk rfl rfl rfl rfl (FW.f_assign hk (FW.holds_nil _) rfl) ?_; clear hk; intro a w hk
    refine FW.lfun (y := .lit (.int .i64 7)) hk rfl rfl rfl rfl (FW.f_assign hk (FW.holds_nil _) rfl) ?_; clear hk; intro a w hk
    refine FW.lend (hK4 _ _ ?_); clear hK4 K'
    refine wp_ret ?_
    (repeat first | refine FW.then_ret ?_ | refine FW.block_ret ?_)
    obtain rfl := Option.some.inj h
    exact FW.fret2 hk rfl rfl rfl
  cases h
end Go.Proofs.YtfbkgaandmebaaaGreat
namespace Go.Proofs.YtfbkgaandmebaaaGreat
set_option linter.unusedVariables false
set_option maxRecDepth 20000
set_option maxHeartbeats 10000000
theorem log_Open_nil_opt.ok (K : Nat) (v1 : Int) (v2 : Int) (v3 : Int) (r : Option OLogLog × List (List UInt8) × Int) (h : log_Open_nil_opt.f K v1 v2 v3 = some r) :
    FW.OkH Go.Proofs.Tryz.prog 41 [.lit (.pointer none), .lit (.int .i64 v1), .lit (.int .i64 v2), .lit (.int .u64 v3)] [] (fun y I => ∃ (bn0 : Nat), y = .tup [FW.ptrO r.1 bn0, .row (r_c_str r.2.1), .lit (.int .i64 r.2.2)] ∧ I = (FW.optI r.1 fun x => ([] : List FW.It))) := by
  refine FW.enterH (xs := [.lit (.pointer none), .lit (.int .i64 v1), .lit (.int .i64 v2), .lit (.int .u64 v3)]) Go.Proofs.Tryz.func41 rfl Go.Proofs.Tryz.ntmps41 rfl ?_
  intro M w0 a hk
  unfold log_Open_nil_opt.f at h
  refine FW.wreg ?_; intro K' hK1
  refine FW.lfun (y := .lit (.pointer none)) hk rfl rfl rfl rfl (FW.f_assign hk (FW.holds_nil _) rfl) ?_; clear hk; intro a w hk
  refine FW.lfun (y := .row (r_c_str [])) hk rfl rfl rfl rfl (FW.f_assignNil) ?_; clear hk; intro a w hk
  refine FW.lfun (y := .lit (.int .i64 0)) hk rfl rfl rfl rfl (FW.f_assign hk (FW.holds_nil _) rfl) ?_; clear hk; intro a w hk
  refine FW.lend (hK1 _ _ ?_); clear hK1 K'
  refine FW.wseq ?_; intro K' hK2
  refine FW.wreg ?_; intro K' hK3
  refine FW.lfun (y := .lit (.pointer none)) hk rfl rfl rfl rfl (FW.f_move hk (FW.holds_nil _) rfl) ?_; clear hk; intro a w hk
  refine FW.lfun (y := .lit (.bool true)) hk rfl rfl rfl rfl ((FW.f_pure (FW.p_ptrEq Go.Proofs.Tryz.underlying24 hk.kn (FW.holds_nil _) rfl rfl rfl))) ?_; clear hk; intro a w hk
  refine FW.lfun (y := .lit (.bool true)) hk rfl rfl rfl rfl (FW.f_move hk (FW.holds_nil _) rfl) ?_; clear hk; intro a w hk
  refine FW.lfunG (y := .lit (.bool false)) hk rfl rfl rfl rfl rfl rfl rfl rfl (fun hc => (FW.noHold hk.kn rfl rfl hc).elim) ?_; clear hk; intro a w hk
  refine FW.lfunG (y := .lit (.bool false)) hk rfl rfl rfl rfl rfl rfl rfl rfl (fun hc => (FW.noHold hk.kn rfl rfl hc).elim) ?_; clear hk; intro a w hk
  refine FW.lfun (y := .lit (.bool true)) hk rfl rfl rfl rfl ((FW.f_pure (FW.p_pickT hk.kn (FW.holds_nil _) rfl rfl))) ?_; clear hk; intro a w hk
  refine FW.lfun (y := .lit (.bool true)) hk rfl rfl rfl rfl (FW.f_move hk (FW.holds_nil _) rfl) ?_; clear hk; intro a w hk
  refine FW.lfunG (y := .lit (.bool false)) hk rfl rfl rfl rfl rfl rfl rfl rfl (fun hc => (FW.noHold hk.kn rfl rfl hc).elim) ?_; clear hk; intro a w hk
  refine FW.lfunG (y := .lit (.bool false)) hk rfl rfl rfl rfl rfl rfl rfl rfl (fun hc => (FW.noHold hk.kn rfl rfl hc).elim) ?_; clear hk; intro a w hk
  refine FW.lfunG (y := .lit (.bool false)) hk rfl rfl rfl rfl rfl rfl rfl rfl (fun hc => (FW.noHold hk.kn rfl rfl hc).elim) ?_; clear hk; intro a w hk
  refine FW.lfun (y := .lit (.bool true)) hk rfl rfl rfl rfl ((FW.f_pure (FW.p_pickT hk.kn (FW.holds_nil _) rfl rfl))) ?_; clear hk; intro a w hk
  refine FW.lfun (y := .lit (.bool true)) hk rfl rfl rfl rfl (FW.f_move hk (FW.holds_nil _) rfl) ?_; clear hk; intro a w hk
  refine FW.lfunG (y := .lit (.bool false)) hk rfl rfl rfl rfl rfl rfl rfl rfl (fun hc => (FW.noHold hk.kn rfl rfl hc).elim) ?_; clear hk; intro a w hk
  refine FW.lfunG (y := .lit (.bool false)) hk rfl rfl rfl rfl rfl rfl rfl rfl (fun hc => (FW.noHold hk.kn rfl rfl hc).elim) ?_; clear hk; intro a w hk
  refine FW.lfunG (y := .lit (.bool false)) hk rfl rfl rfl rfl rfl rfl rfl rfl (fun hc => (FW.noHold hk.kn rfl rfl hc).elim) ?_; clear hk; intro a w hk
  refine FW.lfunG (y := .lit (.bool false)) hk rfl rfl rfl rfl rfl rfl rfl rfl (fun hc => (FW.noHold hk.kn rfl rfl hc).elim) ?_; clear hk; intro a w hk
  refine FW.lfun (y := .lit (.bool true)) hk rfl rfl rfl rfl ((FW.f_pure (FW.p_pickT hk.kn (FW.holds_nil _) rfl rfl))) ?_; clear hk; intro a w hk
  refine FW.lfun (y := .lit (.bool true)) hk rfl rfl rfl rfl (FW.f_move hk (FW.holds_nil _) rfl) ?_; clear hk; intro a w hk
  refine FW.lfunG (y := .lit (.bool false)) hk rfl rfl rfl rfl rfl rfl rfl rfl (fun hc => (FW.noHold hk.kn rfl rfl hc).elim) ?_; clear hk; intro a w hk
  refine FW.lfunG (y := .lit (.bool false)) hk rfl rfl rfl rfl rfl rfl rfl rfl (fun hc => (FW.noHold hk.kn rfl rfl hc).elim) ?_; clear hk; intro a w hk
  refine FW.lfun (y := .lit (.bool true)) hk rfl rfl rfl rfl ((FW.f_pure (FW.p_pickT hk.kn (FW.holds_nil _) rfl rfl))) ?_; clear hk; intro a w hk
  refine FW.lend (hK3 _ _ ?_); clear hK3 K'
  refine FW.wcondT hk rfl ?_
  refine FW.wreg ?_; intro K' hK4
  refine FW.lfun (y := .lit (.pointer none)) hk rfl rfl rfl rfl (FW.f_assign hk (FW.holds_nil _) rfl) ?_; clear hk; intro a w hk
  refine FW.lfun (y := .row (r_c_str [])) hk rfl rfl rfl rfl (FW.f_assignNil) ?_; clear hk; intro a w hk
  refine FW.lfun (y := .lit (.int .i64 1)) hk rfl rfl rfl rfl (FW.f_assign hk (FW.holds_nil _) rfl) ?_; clear hk; intro a w hk
  refine FW.lend (hK4 _ _ ?_); clear hK4 K'
  refine wp_ret ?_
  (repeat first | refine FW.then_ret ?_ | refine FW.block_ret ?_)
  obtain rfl := Option.some.inj h
  replace hk := FW.S.keep (I1 := []) (I2 := []) (js := []) hk rfl
  exact FW.fretH3 hk rfl (FW.rtmp hk rfl) (FW.rtmp hk rfl) (FW.rtmp hk rfl) ⟨0, rfl, rfl⟩
theorem rec_image_nil.ok (K : Nat) (v1 : Int) (v2 : Int) (r : List UInt8 × Bool) (h : rec_image_nil.f K v1 v2 = some r) :
    FW.Ok Go.Proofs.Tryz.prog 62 [.lit (.pointer none), .lit (.int .i64 v1), .lit (.int .u64 v2)] (.tup [.lit (.string (FW.B r.1)), .lit (.bool r.2)]) := by
  refine FW.enter (xs := [.lit (.pointer none), .lit (.int .i64 v1), .lit (.int .u64 v2)]) Go.Proofs.Tryz.func62 rfl Go.Proofs.Tryz.ntmps62 rfl ?_
  intro M w0 a hk
  unfold rec_image_nil.f at h
  refine FW.wreg ?_; intro K' hK1
  refine FW.lfun (y := .lit (.string (FW.B ([] : List UInt8)))) hk rfl rfl rfl rfl (FW.f_assign hk (FW.holds_nil _) rfl) ?_; clear hk; intro a w hk
  refine FW.lfun (y := .lit (.bool false)) hk rfl rfl rfl rfl (FW.f_assign hk (FW.holds_nil _) rfl) ?_; clear hk; intro a w hk
  refine FW.lend (hK1 _ _ ?_); clear hK1 K'
  refine FW.wseq ?_; intro K' hK2
  refine FW.wreg ?_; intro K' hK3
  refine FW.lfun (y := .lit (.int .u64 v2)) hk rfl rfl rfl rfl (FW.f_move hk (FW.holds_nil _) rfl) ?_; clear hk; intro a w hk
  refine FW.lfun (y := .lit (.bool (decide (v2 = 0)))) hk rfl rfl rfl rfl ((FW.f_pure (FW.p_eql hk.kn (FW.holds_nil _) rfl rfl))) ?_; clear hk; intro a w hk
  refine FW.lend (hK3 _ _ ?_); clear hK3 K'
  refine FW.wcondF (b := (decide (v2 = 0))) hk h rfl (fun h hb => ?_) (fun h hb => ?_)
  · skip
    refine FW.wreg ?_; intro K' hK4
    refine FW.lfun (y := .lit (.string (FW.B ([] : List UInt8)))) hk rfl rfl rfl rfl (FW.f_assign hk (FW.holds_nil _) rfl) ?_; clear hk; intro a w hk
    refine FW.lfun (y := .lit (.bool false)) hk rfl rfl rfl rfl (FW.f_assign hk (FW.holds_nil _) rfl) ?_; clear hk; intro a w hk
    refine FW.lend (hK4 _ _ ?_); clear hK4 K'
    refine wp_ret ?_
    (repeat first | refine FW.then_ret ?_ | refine FW.block_ret ?_)
    obtain rfl := Option.some.inj h
    exact FW.fret2 hk rfl rfl rfl
  refine wp_skip ?_
  (repeat first | refine FW.then_normal ?_ | refine FW.block_normal ?_); refine hK2 _ _ ?_
  refine FW.wreg ?_; intro K' hK5
  refine FW.lfun (y := .lit (.pointer none)) hk rfl rfl rfl rfl (FW.f_move hk (FW.holds_nil _) rfl) ?_; clear hk; intro a w hk
  obtain ⟨t1, hr_t1, h⟩ := FW.bnd h
  refine FW.lfun (y := .agg [.lit (.int .i64 t1.1), .lit (.int .i64 t1.2.1), .lit (.int .i64 t1.2.2.1), .lit (.int .i64 t1.2.2.2)]) hk rfl rfl rfl rfl (FW.f_call hk (FW.holds_nil _) rfl rfl Go.Proofs.Tryz.func40 rfl (by kernel_rfl) (rec_parts_nil.ok  _ hr_t1)) ?_; clear hk; intro a w hk
  refine FW.l_alloc (zs := [.lit (.int .i64 0), .lit (.int .i64 0), .lit (.int .i64 0), .lit (.int .i64 0)]) [] hk rfl rfl rfl rfl ?_; clear hk; intro bx1 a w hk
  refine FW.l_store (I' := [FW.blk bx1 79 ([.lit (.int .i64 t1.1), .lit (.int .i64 t1.2.1), .lit (.int .i64 t1.2.2.1), .lit (.int .i64 t1.2.2.2)])]) (cs' := [.lit (.int .i64 t1.1), .lit (.int .i64 t1.2.1), .lit (.int .i64 t1.2.2.1), .lit (.int .i64 t1.2.2.2)]) (j := 0) hk rfl rfl rfl rfl rfl (by kernel_rfl) rfl rfl ?_; clear hk; intro w hk
  replace hk := FW.S.toArr (f := c_i64) (N := 4) (l := [t1.1, t1.2.1, t1.2.2.1, t1.2.2.2]) (I' := [FW.orow (some ⟨bx1, 0, none⟩) 4 79 1 c_i64 ([t1.1, t1.2.1, t1.2.2.1, t1.2.2.2] : List Int)]) (j := 0) (fun _ => rfl) hk rfl rfl rfl (by decide) rfl
  refine FW.lend (hK5 _ _ ?_); clear hK5 K'
  obtain ⟨hc1, h⟩ := FW.chk h
  obtain ⟨hc2, h⟩ := FW.chk h
  obtain ⟨t2, hr_t2, h⟩ := FW.bnd h
  refine FW.wdrawE (.next [true, true, true, true, true, true, true, true, true, false, false, false, false, false, false, false, false] 9 [true, true, true, true, true, true, true, true, true, false, false, false, false, false, false, false, false] (.leaf [false, false, false, false, false, false, false, false, false, false, true, true, true, true, true, true, true])) [(17, [], .lit (.pointer none)), (18, [], .lit (.int .i64 v1)), (19, [], FW.elA (some ⟨bx1, 0, none⟩) 1 v1), (20, [], .lit (.int .i64 (List.getD ([t1.1, t1.2.1, t1.2.2.1, t1.2.2.2] : List Int) (Int.toNat v1) default))), (21, [], .lit (.int .i64 v1)), (22, [], .lit (.int .i64 (IntKind.wrap .i64 (v1 + 1)))), (23, [], FW.elA (some ⟨bx1, 0, none⟩) 1 (IntKind.wrap .i64 (v1 + 1))), (24, [], .lit (.int .i64 (List.getD ([t1.1, t1.2.1, t1.2.2.1, t1.2.2.2] : List Int) (Int.toNat (IntKind.wrap .i64 (v1 + 1))) default))), (25, [], .lit (.int .u64 v2)), (26, [], .agg []), (16, [], .agg []), (27, [], .agg []), (28, [], .agg []), (29, [], .agg []), (9, [], .agg []), (10, [], .agg []), (11, [], .agg [])] (by kernel_rfl) (by kernel_rfl) (by kernel_rfl) (by kernel_rfl) hk ?_; clear hk
  refine FW.gnext ?_ rfl rfl rfl rfl rfl ?_
  · skip
    refine FW.gfun (y := .lit (.pointer none)) rfl rfl rfl rfl (fun a w hk => FW.f_move hk (FW.holds_nil _) rfl) ?_
    refine FW.gfun (y := .lit (.int .i64 v1)) rfl rfl rfl rfl (fun a w hk => FW.f_move hk (FW.holds_nil _) rfl) ?_
    refine FW.gfun (y := FW.elA (some ⟨bx1, 0, none⟩) 1 v1) rfl rfl rfl rfl (fun a w hk => FW.f_idxArr (f := c_i64) (l := ([t1.1, t1.2.1, t1.2.2.1, t1.2.2.2] : List Int)) hk (FW.holds_nil _) (j := 0) rfl rfl rfl Go.Proofs.Tryz.underlying79 (by kernel_rfl) hc1) ?_
    refine FW.gfun (y := .lit (.int .i64 (List.getD ([t1.1, t1.2.1, t1.2.2.1, t1.2.2.2] : List Int) (Int.toNat v1) default))) rfl rfl rfl rfl (fun a w hk => FW.f_loadOwn1 (f := c_i64) (l := ([t1.1, t1.2.1, t1.2.2.1, t1.2.2.2] : List Int)) hk (FW.holds_nil _) (j := 0) rfl rfl hc1 rfl Go.Proofs.Tryz.underlying3 rfl) ?_
    refine FW.gfun (y := .lit (.int .i64 v1)) rfl rfl rfl rfl (fun a w hk => FW.f_move hk (FW.holds_nil _) rfl) ?_
    refine FW.gfun (y := .lit (.int .i64 (IntKind.wrap .i64 (v1 + 1)))) rfl rfl rfl rfl (fun a w hk => (FW.f_pure (FW.p_add hk.kn (FW.holds_nil _) rfl rfl))) ?_
    refine FW.gfun (y := FW.elA (some ⟨bx1, 0, none⟩) 1 (IntKind.wrap .i64 (v1 + 1))) rfl rfl rfl rfl (fun a w hk => FW.f_idxArr (f := c_i64) (l := ([t1.1, t1.2.1, t1.2.2.1, t1.2.2.2] : List Int)) hk (FW.holds_nil _) (j := 0) rfl rfl rfl Go.Proofs.Tryz.underlying79 (by kernel_rfl) hc2) ?_
    refine FW.gfun (y := .lit (.int .i64 (List.getD ([t1.1, t1.2.1, t1.2.2.1, t1.2.2.2] : List Int) (Int.toNat (IntKind.wrap .i64 (v1 + 1))) default))) rfl rfl rfl rfl (fun a w hk => FW.f_loadOwn1 (f := c_i64) (l := ([t1.1, t1.2.1, t1.2.2.1, t1.2.2.2] : List Int)) hk (FW.holds_nil _) (j := 0) rfl rfl hc2 rfl Go.Proofs.Tryz.underlying3 rfl) ?_
    refine FW.gfun (y := .lit (.int .u64 v2)) rfl rfl rfl rfl (fun a w hk => FW.f_move hk (FW.holds_nil _) rfl) ?_
    refine FW.gskip rfl rfl ?_
    refine FW.gskip rfl rfl ?_
    refine FW.gskip rfl rfl ?_
    refine FW.gskip rfl rfl ?_
    refine FW.gskip rfl rfl ?_
    refine FW.gskip rfl rfl ?_
    refine FW.gskip rfl rfl ?_
    refine FW.gskip rfl rfl ?_
    exact FW.gend
  · skip
    intro σD a w opsD QD hk hf hQ hX
    refine FW.l_callH (I1 := ([] : List FW.It)) (I2 := [FW.orow (some ⟨bx1, 0, none⟩) 4 79 1 c_i64 ([t1.1, t1.2.1, t1.2.2.1, t1.2.2.2] : List Int)]) (js := []) hk rfl rfl hf rfl rfl Go.Proofs.Tryz.func41 rfl (by kernel_rfl) (log_Open_nil_opt.ok K (List.getD ([t1.1, t1.2.1, t1.2.2.1, t1.2.2.2] : List Int) (Int.toNat v1) default) (List.getD ([t1.1, t1.2.1, t1.2.2.1, t1.2.2.2] : List Int) (Int.toNat (IntKind.wrap .i64 (v1 + 1))) default) v2 _ hr_t2 ) ?_; clear hk
    rintro _ _ ⟨bx2, rfl, rfl⟩ a w hk
    replace hk := FW.S.dropL hk
    refine hQ _ _ a w ?_ hk; clear hk hQ hf hX
    refine ⟨[(17, [], .lit (.pointer none)), (18, [], .lit (.int .i64 v1)), (19, [], FW.elA (some ⟨bx1, 0, none⟩) 1 v1), (20, [], .lit (.int .i64 (List.getD ([t1.1, t1.2.1, t1.2.2.1, t1.2.2.2] : List Int) (Int.toNat v1) default))), (21, [], .lit (.int .i64 v1)), (22, [], .lit (.int .i64 (IntKind.wrap .i64 (v1 + 1)))), (23, [], FW.elA (some ⟨bx1, 0, none⟩) 1 (IntKind.wrap .i64 (v1 + 1))), (24, [], .lit (.int .i64 (List.getD ([t1.1, t1.2.1, t1.2.2.1, t1.2.2.2] : List Int) (Int.toNat (IntKind.wrap .i64 (v1 + 1))) default))), (25, [], .lit (.int .u64 v2)), (26, [], .tup [FW.ptrO t2.1 bx2, .row (r_c_str t2.2.1), .lit (.int .i64 t2.2.2)]), (16, [], .tup [FW.ptrO t2.1 bx2, .row (r_c_str t2.2.1), .lit (.int .i64 t2.2.2)]), (27, [], FW.ptrO t2.1 bx2), (28, [], .row (r_c_str t2.2.1)), (29, [], .lit (.int .i64 t2.2.2)), (9, [], FW.ptrO t2.1 bx2), (10, [], .row (r_c_str t2.2.1)), (11, [], .lit (.int .i64 t2.2.2))], And.intro rfl (And.intro rfl (And.intro rfl (And.intro rfl (And.intro rfl (And.intro rfl (And.intro rfl (And.intro rfl (And.intro rfl (trivial))))))))), rfl, ?_⟩
    refine FW.glast ?_ ?_
    · skip
      refine FW.gskip rfl rfl ?_
      refine FW.gskip rfl rfl ?_
      refine FW.gskip rfl rfl ?_
      refine FW.gskip rfl rfl ?_
      refine FW.gskip rfl rfl ?_
      refine FW.gskip rfl rfl ?_
      refine FW.gskip rfl rfl ?_
      refine FW.gskip rfl rfl ?_
      refine FW.gskip rfl rfl ?_
      refine FW.gskip rfl rfl ?_
      refine FW.gfun (y := .tup [FW.ptrO t2.1 bx2, .row (r_c_str t2.2.1), .lit (.int .i64 t2.2.2)]) rfl rfl rfl rfl (fun a w hk => FW.f_move hk (FW.holds_nil _) rfl) ?_
      refine FW.gfun (y := FW.ptrO t2.1 bx2) rfl rfl rfl rfl (fun a w hk => FW.f_extract hk (FW.holds_nil _) rfl rfl) ?_
      refine FW.gfun (y := .row (r_c_str t2.2.1)) rfl rfl rfl rfl (fun a w hk => FW.f_extract hk (FW.holds_nil _) rfl rfl) ?_
      refine FW.gfun (y := .lit (.int .i64 t2.2.2)) rfl rfl rfl rfl (fun a w hk => FW.f_extract hk (FW.holds_nil _) rfl rfl) ?_
      refine FW.gfun (y := FW.ptrO t2.1 bx2) rfl rfl rfl rfl (fun a w hk => FW.f_assign hk (FW.holds_nil _) rfl) ?_
      refine FW.gfun (y := .row (r_c_str t2.2.1)) rfl rfl rfl rfl (fun a w hk => FW.f_assign hk (FW.holds_nil _) rfl) ?_
      refine FW.gfun (y := .lit (.int .i64 t2.2.2)) rfl rfl rfl rfl (fun a w hk => FW.f_assign hk (FW.holds_nil _) rfl) ?_
      exact FW.gend
    · skip
      intro a w hk; simp only [FW.stD, cond_true] at hk
      refine FW.wreg ?_; intro K' hK7
      refine FW.lfun (y := .row (r_c_str t2.2.1)) hk rfl rfl rfl rfl (FW.f_move hk (FW.holds_nil _) rfl) ?_; clear hk; intro a w hk
      obtain ⟨t3, hr_t3, h⟩ := FW.bnd h
      refine FW.lfun (y := .lit (.string (FW.B t3))) hk rfl rfl rfl rfl (FW.f_call hk (FW.holds_nil _) rfl rfl Go.Proofs.Tryz.func86 rfl (by kernel_rfl) (rec_at.ok t2.2.1 0 _ hr_t3)) ?_; clear hk; intro a w hk
      refine FW.lfun (y := .lit (.int .i64 t2.2.2)) hk rfl rfl rfl rfl (FW.f_move hk (FW.holds_nil _) rfl) ?_; clear hk; intro a w hk
      refine FW.lfun (y := .lit (.bool (decide (t2.2.2 = 0)))) hk rfl rfl rfl rfl ((FW.f_pure (FW.p_eql hk.kn (FW.holds_nil _) rfl rfl))) ?_; clear hk; intro a w hk
      refine FW.lfun (y := .lit (.bool (decide (t2.2.2 = 0)))) hk rfl rfl rfl rfl (FW.f_move hk (FW.holds_nil _) rfl) ?_; clear hk; intro a w hk
      refine FW.lfunG (y := .row (r_c_str t2.2.1)) hk rfl rfl rfl rfl rfl rfl rfl rfl (fun hc => FW.f_move hk hc rfl) ?_; clear hk; intro a w hk
      refine FW.lfunG (y := .lit (.int .i64 (List.length t2.2.1 : Int))) hk rfl rfl rfl rfl rfl rfl rfl rfl (fun hc => FW.f_len (R := r_c_str) (f := c_str) (l := t2.2.1) r_c_str_eq Go.Proofs.Tryz.underlying72 hk hc rfl) ?_; clear hk; intro a w hk
      refine FW.lfunG (y := .lit (.bool (decide (0 < (List.length t2.2.1 : Int))))) hk rfl rfl rfl rfl rfl rfl rfl rfl (fun hc => (FW.f_pure (FW.p_gtr hk.kn hc rfl rfl))) ?_; clear hk; intro a w hk
      refine FW.lfun (y := .lit (.bool ((decide (t2.2.2 = 0)) && (decide (0 < (List.length t2.2.1 : Int)))))) hk rfl rfl rfl rfl ((FW.f_pure (FW.p_pick_and hk.kn (FW.holds_nil _) rfl rfl))) ?_; clear hk; intro a w hk
      refine FW.lfun (y := .lit (.string (FW.B t3))) hk rfl rfl rfl rfl (FW.f_assign hk (FW.holds_nil _) rfl) ?_; clear hk; intro a w hk
      refine FW.lfun (y := .lit (.bool ((decide (t2.2.2 = 0)) && (decide (0 < (List.length t2.2.1 : Int)))))) hk rfl rfl rfl rfl (FW.f_assign hk (FW.holds_nil _) rfl) ?_; clear hk; intro a w hk
      refine FW.lend (hK7 _ _ ?_); clear hK7 K'
      refine wp_ret ?_
      (repeat first | refine FW.then_ret ?_ | refine FW.block_ret ?_)
      obtain rfl := Option.some.inj h
      exact FW.fret2 hk rfl rfl rfl
theorem rec_newest_nil.ok (K : Nat)  (r : Int × Int × List UInt8) (h : rec_newest_nil.f K = some r) :
    FW.Ok Go.Proofs.Tryz.prog 37 [.lit (.pointer none)] (.tup [.lit (.int .i64 r.1), .lit (.int .u64 r.2.1), .lit (.string (FW.B r.2.2))]) := by
  refine FW.enter (xs := [.lit (.pointer none)]) Go.Proofs.Tryz.func37 rfl Go.Proofs.Tryz.ntmps37 rfl ?_
  intro M w0 a hk
  unfold rec_newest_nil.f at h
  refine FW.wreg ?_; intro K' hK1
  refine FW.lfun (y := .lit (.int .i64 0)) hk rfl rfl rfl rfl (FW.f_assign hk (FW.holds_nil _) rfl) ?_; clear hk; intro a w hk
  refine FW.lfun (y := .lit (.int .u64 0)) hk rfl rfl rfl rfl (FW.f_assign hk (FW.holds_nil _) rfl) ?_; clear hk; intro a w hk
  refine FW.lfun (y := .lit (.string (FW.B ([] : List UInt8)))) hk rfl rfl rfl rfl (FW.f_assign hk (FW.holds_nil _) rfl) ?_; clear hk; intro a w hk
  refine FW.lend (hK1 _ _ ?_); clear hK1 K'
  refine FW.wreg ?_; intro K' hK2
  refine FW.lfun (y := .lit (.int .i64 1)) hk rfl rfl rfl rfl (FW.f_assign hk (FW.holds_nil _) rfl) ?_; clear hk; intro a w hk
  refine FW.lfun (y := .lit (.int .u64 0)) hk rfl rfl rfl rfl (FW.f_assign hk (FW.holds_nil _) rfl) ?_; clear hk; intro a w hk
  refine FW.lfun (y := .lit (.string (FW.B ([] : List UInt8)))) hk rfl rfl rfl rfl (FW.f_assign hk (FW.holds_nil _) rfl) ?_; clear hk; intro a w hk
  refine FW.lend (hK2 _ _ ?_); clear hK2 K'
  refine FW.wreg ?_; intro K' hK3
  refine FW.lfun (y := .lit (.pointer none)) hk rfl rfl rfl rfl (FW.f_move hk (FW.holds_nil _) rfl) ?_; clear hk; intro a w hk
  obtain ⟨t1, hr_t1, h⟩ := FW.bnd h
  refine FW.lfun (y := .agg [.lit (.int .i64 t1.1), .lit (.int .i64 t1.2.1), .lit (.int .i64 t1.2.2.1), .lit (.int .i64 t1.2.2.2)]) hk rfl rfl rfl rfl (FW.f_call hk (FW.holds_nil _) rfl rfl Go.Proofs.Tryz.func40 rfl (by kernel_rfl) (rec_parts_nil.ok  _ hr_t1)) ?_; clear hk; intro a w hk
  refine FW.l_alloc (zs := [.lit (.int .i64 0), .lit (.int .i64 0), .lit (.int .i64 0), .lit (.int .i64 0)]) [] hk rfl rfl rfl rfl ?_; clear hk; intro bx1 a w hk
  refine FW.l_store (I' := [FW.blk bx1 79 ([.lit (.int .i64 t1.1), .lit (.int .i64 t1.2.1), .lit (.int .i64 t1.2.2.1), .lit (.int .i64 t1.2.2.2)])]) (cs' := [.lit (.int .i64 t1.1), .lit (.int .i64 t1.2.1), .lit (.int .i64 t1.2.2.1), .lit (.int .i64 t1.2.2.2)]) (j := 0) hk rfl rfl rfl rfl rfl (by kernel_rfl) rfl rfl ?_; clear hk; intro w hk
  replace hk := FW.S.toArr (f := c_i64) (N := 4) (l := [t1.1, t1.2.1, t1.2.2.1, t1.2.2.2]) (I' := [FW.orow (some ⟨bx1, 0, none⟩) 4 79 1 c_i64 ([t1.1, t1.2.1, t1.2.2.1, t1.2.2.2] : List Int)]) (j := 0) (fun _ => rfl) hk rfl rfl rfl (by decide) rfl
  refine FW.lend (hK3 _ _ ?_); clear hK3 K'
  refine FW.wseq ?_; intro K' hK4
  refine FW.wreg ?_; intro K' hK5
  refine FW.lfun (y := .lit (.int .i64 0)) hk rfl rfl rfl rfl (FW.f_move hk (FW.holds_nil _) rfl) ?_; clear hk; intro a w hk
  refine FW.lend (hK5 _ _ ?_); clear hK5 K'
  refine wp_block ?_
  refine FW.wloop (T := Nat × List Int × Int × Int × List UInt8 × Int) (fun x a w => match x with | (kl1, l1, v5, v6, v7, v17) => FW.S M w0 a w 53 [FW.orow (some ⟨bx1, 0, none⟩) 4 79 1 c_i64 l1] [(0, [], .lit (.pointer none)), (5, [], .lit (.int .i64 v5)), (6, [], .lit (.int .u64 v6)), (7, [], .lit (.string (FW.B v7))), (8, [], .lit (.pointer (some ⟨bx1, 0, none⟩))), (17, [], .lit (.int .i64 v17))] ∧ rec_newest_nil.l1 K kl1 l1 v5 v6 v7 v17 = some r) (fun x => x.1) (K, ([t1.1, t1.2.1, t1.2.2.1, t1.2.2.2] : List Int), 1, 0, ([] : List UInt8), 0) ⟨hk.sub ⟨rfl, rfl, rfl, rfl, rfl, rfl, trivial⟩, h⟩ ?_
  clear hk h
  rintro ⟨kl1, l1, v5, v6, v7, v17⟩ a w ⟨hk, h⟩ K' hK6
  cases kl1 with
  | zero => simp [rec_newest_nil.l1] at h
  | succ kl1 =>
  rw [rec_newest_nil.l1.eq_2] at h
  refine FW.wreg ?_; intro K' hK7
  refine FW.lfun (y := .lit (.bool (decide (v17 < 2)))) hk rfl rfl rfl rfl ((FW.f_pure (FW.p_lss hk.kn (FW.holds_nil _) rfl rfl))) ?_; clear hk; intro a w hk
  refine FW.lend (hK7 _ _ ?_); clear hK7 K'
  refine FW.wseq ?_; intro K' hK8
  refine FW.wcondF (b := (decide (v17 < 2))) hk h rfl (fun h hb => ?_) (fun h hb => ?_)
  · skip
    refine wp_skip ?_
    (repeat first | refine FW.then_normal ?_ | refine FW.block_normal ?_); refine hK8 _ _ ?_
    refine FW.wseqJ (fun a w => ∃ (v5 : Int) (v6 : Int) (v7 : List UInt8) (v17 : Int), FW.S M w0 a w 53 [FW.orow (some ⟨bx1, 0, none⟩) 4 79 1 c_i64 l1] [(0, [], .lit (.pointer none)), (5, [], .lit (.int .i64 v5)), (6, [], .lit (.int .u64 v6)), (7, [], .lit (.string (FW.B v7))), (8, [], .lit (.pointer (some ⟨bx1, 0, none⟩))), (17, [], .lit (.int .i64 v17))] ∧ rec_newest_nil.j1 (rec_newest_nil.l1 K kl1) K l1 v5 v6 v7 v17 = some r) ?_ ?_
    · clear hk h
      rintro a w ⟨v5, v6, v7, v17, hk, h⟩
      unfold rec_newest_nil.j1 at h
      refine FW.wreg1 ?_
      refine FW.lfun (y := .lit (.int .i64 (IntKind.wrap .i64 (v17 + 1)))) hk rfl rfl rfl rfl ((FW.f_pure (FW.p_add hk.kn (FW.holds_nil _) rfl rfl))) ?_; clear hk; intro a w hk
      refine FW.lfun (y := .lit (.int .i64 (IntKind.wrap .i64 (v17 + 1)))) hk rfl rfl rfl rfl (FW.f_move hk (FW.holds_nil _) rfl) ?_; clear hk; intro a w hk
      refine wpList_nil ?_
      (repeat first | refine FW.then_normal ?_ | refine FW.block_normal ?_); exact hK6 (kl1, l1, v5, v6, v7, (IntKind.wrap .i64 (v17 + 1))) _ _ (Nat.lt_succ_self _) ⟨hk.sub ⟨rfl, rfl, rfl, rfl, rfl, rfl, trivial⟩, h⟩
    · intro K' hK9
      refine wp_block ?_
      refine FW.wreg ?_; intro K' hK11
      refine FW.lfun (y := .lit (.int .i64 v17)) hk rfl rfl rfl rfl (FW.f_move hk (FW.holds_nil _) rfl) ?_; clear hk; intro a w hk
      refine FW.lfun (y := .lit (.int .i64 v17)) hk rfl rfl rfl rfl (FW.f_assign hk (FW.holds_nil _) rfl) ?_; clear hk; intro a w hk
      refine FW.lend (hK11 _ _ ?_); clear hK11 K'
      refine FW.wreg ?_; intro K' hK12
      refine FW.lfun (y := .lit (.pointer none)) hk rfl rfl rfl rfl (FW.f_move hk (FW.holds_nil _) rfl) ?_; clear hk; intro a w hk
      refine FW.lfun (y := .lit (.int .i64 v17)) hk rfl rfl rfl rfl (FW.f_move hk (FW.holds_nil _) rfl) ?_; clear hk; intro a w hk
      obtain ⟨hc1, h⟩ := FW.chk h
      refine FW.lfun (y := FW.elA (some ⟨bx1, 0, none⟩) 1 v17) hk rfl rfl rfl rfl (FW.f_idxArr (f := c_i64) (l := l1) hk (FW.holds_nil _) (j := 0) rfl rfl rfl Go.Proofs.Tryz.underlying79 (by kernel_rfl) hc1) ?_; clear hk; intro a w hk
      refine FW.lfun (y := .lit (.int .i64 (List.getD l1 (Int.toNat v17) default))) hk rfl rfl rfl rfl (FW.f_loadOwn1 (f := c_i64) (l := l1) hk (FW.holds_nil _) (j := 0) rfl rfl hc1 rfl Go.Proofs.Tryz.underlying3 rfl) ?_; clear hk; intro a w hk
      obtain ⟨t2, hr_t2, h⟩ := FW.bnd h
      refine FW.lfun (y := .tup [.lit (.string (FW.B t2.1)), .lit (.int .i64 t2.2)]) hk rfl rfl rfl rfl (FW.f_call hk (FW.holds_nil _) rfl rfl Go.Proofs.Tryz.func61 rfl (by kernel_rfl) (dev_Dev_Read_nil.ok (List.getD l1 (Int.toNat v17) default) _ hr_t2)) ?_; clear hk; intro a w hk
      refine FW.lfun (y := .tup [.lit (.string (FW.B t2.1)), .lit (.int .i64 t2.2)]) hk rfl rfl rfl rfl (FW.f_move hk (FW.holds_nil _) rfl) ?_; clear hk; intro a w hk
      refine FW.lfun (y := .lit (.string (FW.B t2.1))) hk rfl rfl rfl rfl (FW.f_extract hk (FW.holds_nil _) rfl rfl) ?_; clear hk; intro a w hk
      refine FW.lfun (y := .lit (.int .i64 t2.2)) hk rfl rfl rfl rfl (FW.f_extract hk (FW.holds_nil _) rfl rfl) ?_; clear hk; intro a w hk
      refine FW.lfun (y := .lit (.string (FW.B t2.1))) hk rfl rfl rfl rfl (FW.f_assign hk (FW.holds_nil _) rfl) ?_; clear hk; intro a w hk
      refine FW.lfun (y := .lit (.int .i64 t2.2)) hk rfl rfl rfl rfl (FW.f_assign hk (FW.holds_nil _) rfl) ?_; clear hk; intro a w hk
      refine FW.lend (hK12 _ _ ?_); clear hK12 K'
      refine FW.wseq ?_; intro K' hK13
      refine FW.wreg ?_; intro K' hK14
      refine FW.lfun (y := .lit (.int .i64 t2.2)) hk rfl rfl rfl rfl (FW.f_move hk (FW.holds_nil _) rfl) ?_; clear hk; intro a w hk
      refine FW.lfun (y := .lit (.bool (!decide (t2.2 = 0)))) hk rfl rfl rfl rfl ((FW.f_pure (FW.p_neq hk.kn (FW.holds_nil _) rfl rfl))) ?_; clear hk; intro a w hk
      refine FW.lend (hK14 _ _ ?_); clear hK14 K'
      refine FW.wcondF (b := (!decide (t2.2 = 0))) hk h rfl (fun h hb => ?_) (fun h hb => ?_)
      · skip
        refine wp_exit ?_; (repeat first | refine FW.then_exit ?_ | refine FW.block_exit_ne rfl ?_); refine FW.block_exit ?_
        (repeat first | refine FW.then_normal ?_ | refine FW.block_normal ?_); exact hK9 _ _ ⟨v5, v6, v7, v17, hk.sub ⟨rfl, rfl, rfl, rfl, rfl, rfl, trivial⟩, h⟩
      refine wp_skip ?_
      (repeat first | refine FW.then_normal ?_ | refine FW.block_normal ?_); refine hK13 _ _ ?_
      refine FW.wreg ?_; intro K' hK15
      refine FW.lfun (y := .lit (.string (FW.B t2.1))) hk rfl rfl rfl rfl (FW.f_move hk (FW.holds_nil _) rfl) ?_; clear hk; intro a w hk
      obtain ⟨hc2, h⟩ := FW.chk h
      refine FW.lfun (y := .lit (.string (FW.B (List.take (Int.toNat 8) t2.1)))) hk rfl rfl rfl rfl ((FW.f_pure (FW.p_slice_hi Go.Proofs.Tryz.underlying9 hk.kn (FW.holds_nil _) rfl rfl hc2))) ?_; clear hk; intro a w hk
      obtain ⟨t3, hr_t3, h⟩ := FW.bnd h
      refine FW.lfun (y := .lit (.int .u64 t3)) hk rfl rfl rfl rfl (FW.f_call hk (FW.holds_nil _) rfl rfl Go.Proofs.Tryz.func38 rfl (by kernel_rfl) (val_Wide.ok K (List.take (Int.toNat 8) t2.1) _ hr_t3)) ?_; clear hk; intro a w hk
      refine FW.lfun (y := .lit (.int .u64 t3)) hk rfl rfl rfl rfl (FW.f_assign hk (FW.holds_nil _) rfl) ?_; clear hk; intro a w hk
      refine FW.lend (hK15 _ _ ?_); clear hK15 K'
      refine FW.wreg ?_; intro K' hK16
      refine FW.lfun (y := .lit (.pointer none)) hk rfl rfl rfl rfl (FW.f_move hk (FW.holds_nil _) rfl) ?_; clear hk; intro a w hk
      refine FW.lfun (y := .lit (.int .i64 v17)) hk rfl rfl rfl rfl (FW.f_move hk (FW.holds_nil _) rfl) ?_; clear hk; intro a w hk
      refine FW.lfun (y := .lit (.int .u64 t3)) hk rfl rfl rfl rfl (FW.f_move hk (FW.holds_nil _) rfl) ?_; clear hk; intro a w hk
      obtain ⟨t4, hr_t4, h⟩ := FW.bnd h
      refine FW.lfun (y := .tup [.lit (.string (FW.B t4.1)), .lit (.bool t4.2)]) hk rfl rfl rfl rfl (FW.f_call hk (FW.holds_nil _) rfl rfl Go.Proofs.Tryz.func62 rfl (by kernel_rfl) (rec_image_nil.ok K v17 t3 _ hr_t4)) ?_; clear hk; intro a w hk
      refine FW.lfun (y := .tup [.lit (.string (FW.B t4.1)), .lit (.bool t4.2)]) hk rfl rfl rfl rfl (FW.f_move hk (FW.holds_nil _) rfl) ?_; clear hk; intro a w hk
      refine FW.lfun (y := .lit (.string (FW.B t4.1))) hk rfl rfl rfl rfl (FW.f_extract hk (FW.holds_nil _) rfl rfl) ?_; clear hk; intro a w hk
      refine FW.lfun (y := .lit (.bool t4.2)) hk rfl rfl rfl rfl (FW.f_extract hk (FW.holds_nil _) rfl rfl) ?_; clear hk; intro a w hk
      refine FW.lfun (y := .lit (.string (FW.B t4.1))) hk rfl rfl rfl rfl (FW.f_assign hk (FW.holds_nil _) rfl) ?_; clear hk; intro a w hk
      refine FW.lfun (y := .lit (.bool t4.2)) hk rfl rfl rfl rfl (FW.f_assign hk (FW.holds_nil _) rfl) ?_; clear hk; intro a w hk
      refine FW.lend (hK16 _ _ ?_); clear hK16 K'
      refine FW.wreg ?_; intro K' hK17
      refine FW.lfun (y := .lit (.bool t4.2)) hk rfl rfl rfl rfl (FW.f_move hk (FW.holds_nil _) rfl) ?_; clear hk; intro a w hk
      refine FW.lfun (y := .lit (.bool t4.2)) hk rfl rfl rfl rfl (FW.f_move hk (FW.holds_nil _) rfl) ?_; clear hk; intro a w hk
      refine FW.lfunG (y := .lit (.int .u64 t3)) hk rfl rfl rfl rfl rfl rfl rfl rfl (fun hc => FW.f_move hk hc rfl) ?_; clear hk; intro a w hk
      refine FW.lfunG (y := .lit (.int .u64 v6)) hk rfl rfl rfl rfl rfl rfl rfl rfl (fun hc => FW.f_move hk hc rfl) ?_; clear hk; intro a w hk
      refine FW.lfunG (y := .lit (.bool (decide (v6 < t3)))) hk rfl rfl rfl rfl rfl rfl rfl rfl (fun hc => (FW.f_pure (FW.p_gtr hk.kn hc rfl rfl))) ?_; clear hk; intro a w hk
      refine FW.lfun (y := .lit (.bool (t4.2 && (decide (v6 < t3))))) hk rfl rfl rfl rfl ((FW.f_pure (FW.p_pick_and hk.kn (FW.holds_nil _) rfl rfl))) ?_; clear hk; intro a w hk
      refine FW.lend (hK17 _ _ ?_); clear hK17 K'
      refine FW.wcondF (b := (t4.2 && (decide (v6 < t3)))) hk h rfl (fun h hb => ?_) (fun h hb => ?_)
      · skip
        refine FW.wreg1 ?_
        refine FW.lfun (y := .lit (.int .i64 v17)) hk rfl rfl rfl rfl (FW.f_move hk (FW.holds_nil _) rfl) ?_; clear hk; intro a w hk
        refine FW.lfun (y := .lit (.int .u64 t3)) hk rfl rfl rfl rfl (FW.f_move hk (FW.holds_nil _) rfl) ?_; clear hk; intro a w hk
        refine FW.lfun (y := .lit (.string (FW.B t4.1))) hk rfl rfl rfl rfl (FW.f_move hk (FW.holds_nil _) rfl) ?_; clear hk; intro a w hk
        refine FW.lfun (y := .lit (.int .i64 v17)) hk rfl rfl rfl rfl (FW.f_assign hk (FW.holds_nil _) rfl) ?_; clear hk; intro a w hk
        refine FW.lfun (y := .lit (.int .u64 t3)) hk rfl rfl rfl rfl (FW.f_assign hk (FW.holds_nil _) rfl) ?_; clear hk; intro a w hk
        refine FW.lfun (y := .lit (.string (FW.B t4.1))) hk rfl rfl rfl rfl (FW.f_assign hk (FW.holds_nil _) rfl) ?_; clear hk; intro a w hk
        refine wpList_nil ?_
        (repeat first | refine FW.then_normal ?_ | refine FW.block_normal ?_); exact hK9 _ _ ⟨v17, t3, t4.1, v17, hk.sub ⟨rfl, rfl, rfl, rfl, rfl, rfl, trivial⟩, h⟩
      refine wp_skip ?_
      (repeat first | refine FW.then_normal ?_ | refine FW.block_normal ?_); exact hK9 _ _ ⟨v5, v6, v7, v17, hk.sub ⟨rfl, rfl, rfl, rfl, rfl, rfl, trivial⟩, h⟩
  refine wp_exit ?_; (repeat first | refine FW.then_exit ?_ | refine FW.block_exit_ne rfl ?_); refine FW.block_exit ?_
  (repeat first | refine FW.then_normal ?_ | refine FW.block_normal ?_); refine hK4 _ _ ?_
  refine FW.wreg ?_; intro K' hK19
  refine FW.lfun (y := .lit (.int .i64 v5)) hk rfl rfl rfl rfl (FW.f_move hk (FW.holds_nil _) rfl) ?_; clear hk; intro a w hk
  refine FW.lfun (y := .lit (.int .u64 v6)) hk rfl rfl rfl rfl (FW.f_move hk (FW.holds_nil _) rfl) ?_; clear hk; intro a w hk
  refine FW.lfun (y := .lit (.string (FW.B v7))) hk rfl rfl rfl rfl (FW.f_move hk (FW.holds_nil _) rfl) ?_; clear hk; intro a w hk
  refine FW.lfun (y := .lit (.int .i64 v5)) hk rfl rfl rfl rfl (FW.f_assign hk (FW.holds_nil _) rfl) ?_; clear hk; intro a w hk
  refine FW.lfun (y := .lit (.int .u64 v6)) hk rfl rfl rfl rfl (FW.f_assign hk (FW.holds_nil _) rfl) ?_; clear hk; intro a w hk
  refine FW.lfun (y := .lit (.string (FW.B v7))) hk rfl rfl rfl rfl (FW.f_assign hk (FW.holds_nil _) rfl) ?_; clear hk; intro a w hk
  refine FW.lend (hK19 _ _ ?_); clear hK19 K'
  refine wp_ret ?_
  (repeat first | refine FW.then_ret ?_ | refine FW.block_ret ?_)
  obtain rfl := Option.some.inj h
  exact FW.fret3 hk rfl rfl rfl rfl
theorem rec_Open_nil_opt.ok (K : Nat)  (r : Option ORecStore × Int) (h : rec_Open_nil_opt.f K = some r) :
    FW.OkH Go.Proofs.Tryz.prog 19 [.lit (.pointer none)] [] (fun y I => ∃ (bn0 : Nat) (zxbn0_1 : Nat) (zxrn0_2 : Nat), y = .tup [FW.ptrO r.1 bn0, .lit (.int .i64 r.2)] ∧ I = (FW.optI r.1 fun x => ([] : List FW.It))) := by
  refine FW.enterH (xs := [.lit (.pointer none)]) Go.Proofs.Tryz.func19 rfl Go.Proofs.Tryz.ntmps19 rfl ?_
  intro M w0 a hk
  unfold rec_Open_nil_opt.f at h
  refine FW.wreg ?_; intro K' hK1
  refine FW.lfun (y := .lit (.pointer none)) hk rfl rfl rfl rfl (FW.f_assign hk (FW.holds_nil _) rfl) ?_; clear hk; intro a w hk
  refine FW.lfun (y := .lit (.int .i64 0)) hk rfl rfl rfl rfl (FW.f_assign hk (FW.holds_nil _) rfl) ?_; clear hk; intro a w hk
  refine FW.lend (hK1 _ _ ?_); clear hK1 K'
  refine FW.wseq ?_; intro K' hK2
  refine wp_block ?_
  refine FW.wreg ?_; intro K' hK3
  refine FW.lfun (y := .lit (.pointer none)) hk rfl rfl rfl rfl (FW.f_move hk (FW.holds_nil _) rfl) ?_; clear hk; intro a w hk
  refine FW.lfun (y := .lit (.bool true)) hk rfl rfl rfl rfl ((FW.f_pure (FW.p_ptrEq Go.Proofs.Tryz.underlying24 hk.kn (FW.holds_nil _) rfl rfl rfl))) ?_; clear hk; intro a w hk
  refine FW.lfun (y := .lit (.bool true)) hk rfl rfl rfl rfl (FW.f_move hk (FW.holds_nil _) rfl) ?_; clear hk; intro a w hk
  refine FW.lfunG (y := .lit (.bool false)) hk rfl rfl rfl rfl rfl rfl rfl rfl (fun hc => (FW.noHold hk.kn rfl rfl hc).elim) ?_; clear hk; intro a w hk
  refine FW.lfunG (y := .lit (.bool false)) hk rfl rfl rfl rfl rfl rfl rfl rfl (fun hc => (FW.noHold hk.kn rfl rfl hc).elim) ?_; clear hk; intro a w hk
  refine FW.lfunG (y := .lit (.bool false)) hk rfl rfl rfl rfl rfl rfl rfl rfl (fun hc => (FW.noHold hk.kn rfl rfl hc).elim) ?_; clear hk; intro a w hk
  refine FW.lfun (y := .lit (.bool true)) hk rfl rfl rfl rfl ((FW.f_pure (FW.p_pickT hk.kn (FW.holds_nil _) rfl rfl))) ?_; clear hk; intro a w hk
  refine FW.lfun (y := .lit (.bool true)) hk rfl rfl rfl rfl (FW.f_assign hk (FW.holds_nil _) rfl) ?_; clear hk; intro a w hk
  refine FW.lend (hK3 _ _ ?_); clear hK3 K'
  refine FW.wcondT hk rfl ?_
  refine FW.wreg ?_; intro K' hK4
  refine FW.lfun (y := .lit (.pointer none)) hk rfl rfl rfl rfl (FW.f_assign hk (FW.holds_nil _) rfl) ?_; clear hk; intro a w hk
  refine FW.lfun (y := .lit (.int .i64 1)) hk rfl rfl rfl rfl (FW.f_assign hk (FW.holds_nil _) rfl) ?_; clear hk; intro a w hk
  refine FW.lend (hK4 _ _ ?_); clear hK4 K'
  refine wp_ret ?_
  (repeat first | refine FW.then_ret ?_ | refine FW.block_ret ?_)
  obtain rfl := Option.some.inj h
  replace hk := FW.S.keep (I1 := []) (I2 := []) (js := []) hk rfl
  exact FW.fretH2 hk rfl (FW.rtmp hk rfl) (FW.rtmp hk rfl) ⟨0, 0, 0, rfl, rfl⟩
end Go.Proofs.YtfbkgaandmebaaaGreat
namespace Go.Proofs.YtfbkgaandmebaaaGreat
set_option linter.unusedVariables false
set_option maxRecDepth 20000
set_option maxHeartbeats 10000000
theorem rec_Open_opt.ok (K : Nat) (v0 : ODevDev) (r : Option ORecStore × Int × ODevDev) (h : rec_Open_opt.f K v0 = some r) :
    ∀ (b0 : Nat) (xd0_0 : Option Addr) (xc0_0 : Nat) (xr0_1 : Nat) (xd0_3 : Option Addr) (xc0_3 : Nat), FW.OkH Go.Proofs.Tryz.prog 19 [.lit (.pointer (some ⟨b0, 0, none⟩))] (ODevDev.items b0 xd0_0 xc0_0 xr0_1 xd0_3 xc0_3 v0) (fun y I => ∃ (bn0 : Nat) (zxbn0_1 : Nat) (zxrn0_2 : Nat) (zxd0_0 : Option Addr) (zxc0_0 : Nat) (zxr0_1 : Nat) (zxd0_3 : Option Addr) (zxc0_3 : Nat), y = .tup [FW.ptrO r.1 bn0, .lit (.int .i64 r.2.1)] ∧ I = (FW.optI r.1 fun x => ORecStore.items bn0 b0 zxbn0_1 zxrn0_2 x) ++ (ODevDev.items b0 zxd0_0 zxc0_0 zxr0_1 zxd0_3 zxc0_3 r.2.2)) := by
  intro b0 xd0_0 xc0_0 xr0_1 xd0_3 xc0_3
  refine FW.enterH (xs := [.lit (.pointer (some ⟨b0, 0, none⟩))]) Go.Proofs.Tryz.func19 rfl Go.Proofs.Tryz.ntmps19 rfl ?_
  intro M w0 a hk
  replace hk : FW.S M w0 a w0.toWorld 98 [FW.blk b0 75 ([.lit (.slice xd0_0 (List.length v0.sure) xc0_0), .lit (.map (some xr0_1)), .lit (.int .i64 v0.steps), .lit (.slice xd0_3 (List.length v0.falls) xc0_3), .lit (.bool v0.off)]), FW.orow xd0_0 xc0_0 9 1 c_str v0.sure, FW.mapI (.int .i64) (Value.int .i64) FW.evS xr0_1 v0.cache, FW.orow xd0_3 xc0_3 52 3 ApiFall.cells v0.falls] [(0, [], .lit (.pointer (some ⟨b0, 0, none⟩)))] := hk
  unfold rec_Open_opt.f at h
  refine FW.wreg ?_; intro K' hK1
  refine FW.lfun (y := .lit (.pointer none)) hk rfl rfl rfl rfl (FW.f_assign hk (FW.holds_nil _) rfl) ?_; clear hk; intro a w hk
  refine FW.lfun (y := .lit (.int .i64 0)) hk rfl rfl rfl rfl (FW.f_assign hk (FW.holds_nil _) rfl) ?_; clear hk; intro a w hk
  refine FW.lend (hK1 _ _ ?_); clear hK1 K'
  refine FW.wseq ?_; intro K' hK2
  refine wp_block ?_
  refine FW.wreg ?_; intro K' hK3
  refine FW.lfun (y := .lit (.pointer (some ⟨b0, 0, none⟩))) hk rfl rfl rfl rfl (FW.f_move hk (FW.holds_nil _) rfl) ?_; clear hk; intro a w hk
  refine FW.lfun (y := .lit (.bool false)) hk rfl rfl rfl rfl ((FW.f_pure (FW.p_ptrEq Go.Proofs.Tryz.underlying24 hk.kn (FW.holds_nil _) rfl rfl rfl))) ?_; clear hk; intro a w hk
  refine FW.lfun (y := .lit (.bool false)) hk rfl rfl rfl rfl (FW.f_move hk (FW.holds_nil _) rfl) ?_; clear hk; intro a w hk
  refine FW.lfunG (y := .lit (.pointer (some ⟨b0, 0, none⟩))) hk rfl rfl rfl rfl rfl rfl rfl rfl (fun hc => FW.f_move hk hc rfl) ?_; clear hk; intro a w hk
  obtain ⟨t1, hr_t1, hn_t1, h⟩ := FW.bndG2 h
  refine FW.l_callHG (I1 := (ODevDev.items b0 xd0_0 xc0_0 xr0_1 xd0_3 xc0_3 v0)) (I2 := []) (js := [3, 3, 3, 3]) hk rfl rfl rfl rfl rfl rfl rfl rfl rfl Go.Proofs.Tryz.func36 rfl (by kernel_rfl) (fun hc => dev_Dev_Len.ok v0 _ (hr_t1 (FW.asm_out (p := false = false) hk.kn hc (fun e0 => e0))) b0 xd0_0 xc0_0 xr0_1 xd0_3 xc0_3) (fun hn => by obtain rfl := hn_t1 (fun hp => hn (FW.asm_in hk.kn (by have e0 := hp; exact ⟨e0, rfl, trivial⟩))); exact ⟨_, rfl, rfl⟩) ?_; clear hk
  rintro _ _ ⟨rfl, rfl⟩ a w hk
  refine FW.lfunG (y := .lit (.bool (decide (t1 < 16)))) hk rfl rfl rfl rfl rfl rfl rfl rfl (fun hc => (FW.f_pure (FW.p_lss hk.kn hc rfl rfl))) ?_; clear hk; intro a w hk
  refine FW.lfun (y := .lit (.bool (decide (t1 < 16)))) hk rfl rfl rfl rfl ((FW.f_pure (FW.p_pickX hk.kn (FW.holds_nil _) rfl rfl))) ?_; clear hk; intro a w hk
  refine FW.lfun (y := .lit (.bool (decide (t1 < 16)))) hk rfl rfl rfl rfl (FW.f_assign hk (FW.holds_nil _) rfl) ?_; clear hk; intro a w hk
  refine FW.lend (hK3 _ _ ?_); clear hK3 K'
  refine FW.wcondF (b := (decide (t1 < 16))) hk h rfl (fun h hb => ?_) (fun h hb => ?_)
  · skip
    refine FW.wreg ?_; intro K' hK4
    refine FW.lfun (y := .lit (.pointer none)) hk rfl rfl rfl rfl (FW.f_assign hk (FW.holds_nil _) rfl) ?_; clear hk; intro a w hk
    refine FW.lfun (y := .lit (.int .i64 1)) hk rfl rfl rfl rfl (FW.f_assign hk (FW.holds_nil _) rfl) ?_; clear hk; intro a w hk
    refine FW.lend (hK4 _ _ ?_); clear hK4 K'
    refine wp_ret ?_
    (repeat first | refine FW.then_ret ?_ | refine FW.block_ret ?_)
    obtain rfl := Option.some.inj h
    replace hk := FW.S.keep (I1 := [FW.blk b0 75 ([.lit (.slice xd0_0 (List.length v0.sure) xc0_0), .lit (.map (some xr0_1)), .lit (.int .i64 v0.steps), .lit (.slice xd0_3 (List.length v0.falls) xc0_3), .lit (.bool v0.off)]), FW.orow xd0_0 xc0_0 9 1 c_str v0.sure, FW.mapI (.int .i64) (Value.int .i64) FW.evS xr0_1 v0.cache, FW.orow xd0_3 xc0_3 52 3 ApiFall.cells v0.falls]) (I2 := []) (js := [3, 3, 3, 3]) hk rfl
    exact FW.fretH2 hk rfl (FW.rtmp hk rfl) (FW.rtmp hk rfl) ⟨0, 0, 0, xd0_0, xc0_0, xr0_1, xd0_3, xc0_3, rfl, rfl⟩
  refine FW.wreg ?_; intro K' hK5
  refine FW.lfun (y := .lit (.pointer (some ⟨b0, 0, none⟩))) hk rfl rfl rfl rfl (FW.f_move hk (FW.holds_nil _) rfl) ?_; clear hk; intro a w hk
  obtain ⟨t2, hr_t2, h⟩ := FW.bnd h
  refine FW.l_callH (I1 := (ODevDev.items b0 xd0_0 xc0_0 xr0_1 xd0_3 xc0_3 v0)) (I2 := []) (js := [3, 3, 3, 3]) hk rfl rfl rfl rfl rfl Go.Proofs.Tryz.func13 rfl (by kernel_rfl) (dev_Dev_Off.ok v0 _ hr_t2 b0 xd0_0 xc0_0 xr0_1 xd0_3 xc0_3) ?_; clear hk
  rintro _ _ ⟨rfl, rfl⟩ a w hk
  refine FW.lfun (y := .lit (.bool t2)) hk rfl rfl rfl rfl (FW.f_assign hk (FW.holds_nil _) rfl) ?_; clear hk; intro a w hk
  refine FW.lend (hK5 _ _ ?_); clear hK5 K'
  refine FW.wcondF (b := t2) hk h rfl (fun h hb => ?_) (fun h hb => ?_)
  · skip
    refine FW.wreg ?_; intro K' hK6
    refine FW.lfun (y := .lit (.pointer none)) hk rfl rfl rfl rfl (FW.f_assign hk (FW.holds_nil _) rfl) ?_; clear hk; intro a w hk
    refine FW.lfun (y := .lit (.int .i64 7)) hk rfl rfl rfl rfl (FW.f_assign hk (FW.holds_nil _) rfl) ?_; clear hk; intro a w hk
    refine FW.lend (hK6 _ _ ?_); clear hK6 K'
    refine wp_ret ?_
    (repeat first | refine FW.then_ret ?_ | refine FW.block_ret ?_)
    obtain rfl := Option.some.inj h
    replace hk := FW.S.keep (I1 := [FW.blk b0 75 ([.lit (.slice xd0_0 (List.length v0.sure) xc0_0), .lit (.map (some xr0_1)), .lit (.int .i64 v0.steps), .lit (.slice xd0_3 (List.length v0.falls) xc0_3), .lit (.bool v0.off)]), FW.orow xd0_0 xc0_0 9 1 c_str v0.sure, FW.mapI (.int .i64) (Value.int .i64) FW.evS xr0_1 v0.cache, FW.orow xd0_3 xc0_3 52 3 ApiFall.cells v0.falls]) (I2 := []) (js := [3, 3, 3, 3]) hk rfl
    exact FW.fretH2 hk rfl (FW.rtmp hk rfl) (FW.rtmp hk rfl) ⟨0, 0, 0, xd0_0, xc0_0, xr0_1, xd0_3, xc0_3, rfl, rfl⟩
  refine wp_skip ?_
  (repeat first | refine FW.then_normal ?_ | refine FW.block_normal ?_); refine hK2 _ _ ?_
  refine FW.wreg ?_; intro K' hK7
  refine FW.lfun (y := .lit (.pointer (some ⟨b0, 0, none⟩))) hk rfl rfl rfl rfl (FW.f_move hk (FW.holds_nil _) rfl) ?_; clear hk; intro a w hk
  refine FW.l_makeMap (κ := Int) (ν := List UInt8) (D := .int .u64) (ek := Value.int .u64) (ev := FW.evS) hk rfl rfl FW.keyU64 ?_; clear hk; intro r1 a w hk
  refine FW.lfun (y := .agg ([.lit (.pointer (some ⟨b0, 0, none⟩)), .lit (.pointer none), .lit (.map (some r1)), .lit (.int .i64 0), .lit (.int .u64 0), .lit (.bool false)])) hk rfl rfl rfl rfl (FW.f_build hk (FW.holds_nil _) rfl rfl) ?_; clear hk; intro a w hk
  refine FW.l_box (cs := [.lit (.pointer (some ⟨b0, 0, none⟩)), .lit (.pointer none), .lit (.map (some r1)), .lit (.int .i64 0), .lit (.int .u64 0), .lit (.bool false)]) hk rfl rfl rfl rfl rfl ?_; clear hk; intro bx1 a w hk
  refine FW.lfun (y := .lit (.pointer (some ⟨bx1, 0, none⟩))) hk rfl rfl rfl rfl (FW.f_assign hk (FW.holds_nil _) rfl) ?_; clear hk; intro a w hk
  refine FW.lend (hK7 _ _ ?_); clear hK7 K'
  refine FW.wreg ?_; intro K' hK8
  refine FW.lfun (y := .lit (.string (FW.B ([] : List UInt8)))) hk rfl rfl rfl rfl (FW.f_assign hk (FW.holds_nil _) rfl) ?_; clear hk; intro a w hk
  refine FW.lend (hK8 _ _ ?_); clear hK8 K'
  refine FW.wreg ?_; intro K' hK9
  refine FW.lfun (y := .lit (.pointer (some ⟨bx1, 0, none⟩))) hk rfl rfl rfl rfl (FW.f_move hk (FW.holds_nil _) rfl) ?_; clear hk; intro a w hk
  refine FW.lfun (y := .lit (.pointer (some ⟨bx1, 0, none⟩))) hk rfl rfl rfl rfl (FW.f_move hk (FW.holds_nil _) rfl) ?_; clear hk; intro a w hk
  refine FW.lfun (y := .lit (.pointer (some ⟨b0, 0, none⟩))) hk rfl rfl rfl rfl (FW.f_move hk (FW.holds_nil _) rfl) ?_; clear hk; intro a w hk
  obtain ⟨t3, hr_t3, h⟩ := FW.bnd h
  refine FW.l_callH (I1 := (ODevDev.items b0 xd0_0 xc0_0 xr0_1 xd0_3 xc0_3 v0)) (I2 := [FW.blk bx1 69 ([.lit (.pointer (some ⟨b0, 0, none⟩)), .lit (.pointer none), .lit (.map (some r1)), .lit (.int .i64 0), .lit (.int .u64 0), .lit (.bool false)]), FW.mapI (.int .u64) (Value.int .u64) FW.evS r1 ([] : List (Int × (List UInt8)))]) (js := [5, 5, 5, 5]) hk rfl rfl rfl rfl rfl Go.Proofs.Tryz.func37 rfl (by kernel_rfl) (rec_newest.ok K v0 _ hr_t3 b0 xd0_0 xc0_0 xr0_1 xd0_3 xc0_3) ?_; clear hk
  rintro _ _ ⟨zd1, zc1, zr1, zd2, zc2, rfl, rfl⟩ a w hk
  refine FW.lfun (y := .tup [.lit (.int .i64 t3.1), .lit (.int .u64 t3.2.1), .lit (.string (FW.B t3.2.2.1))]) hk rfl rfl rfl rfl (FW.f_move hk (FW.holds_nil _) rfl) ?_; clear hk; intro a w hk
  refine FW.lfun (y := .lit (.int .i64 t3.1)) hk rfl rfl rfl rfl (FW.f_extract hk (FW.holds_nil _) rfl rfl) ?_; clear hk; intro a w hk
  refine FW.lfun (y := .lit (.int .u64 t3.2.1)) hk rfl rfl rfl rfl (FW.f_extract hk (FW.holds_nil _) rfl rfl) ?_; clear hk; intro a w hk
  refine FW.lfun (y := .lit (.string (FW.B t3.2.2.1))) hk rfl rfl rfl rfl (FW.f_extract hk (FW.holds_nil _) rfl rfl) ?_; clear hk; intro a w hk
  refine FW.lfun (y := .lit (.pointer (some ⟨bx1, 0, none⟩))) hk rfl rfl rfl rfl ((FW.f_pure (FW.p_nilCheck hk.kn (FW.holds_nil _) rfl))) ?_; clear hk; intro a w hk
  refine FW.lfun (y := .lit (.pointer (some ⟨bx1, 3, none⟩))) hk rfl rfl rfl rfl (FW.f_fieldPtr hk (FW.holds_nil _) rfl Go.Proofs.Tryz.underlying69 rfl (by kernel_rfl) rfl) ?_; clear hk; intro a w hk
  refine FW.l_store (I' := [FW.blk b0 75 ([.lit (.slice zd1 (List.length t3.2.2.2.sure) zc1), .lit (.map (some zr1)), .lit (.int .i64 t3.2.2.2.steps), .lit (.slice zd2 (List.length t3.2.2.2.falls) zc2), .lit (.bool t3.2.2.2.off)]), FW.orow zd1 zc1 9 1 c_str t3.2.2.2.sure, FW.mapI (.int .i64) (Value.int .i64) FW.evS zr1 t3.2.2.2.cache, FW.orow zd2 zc2 52 3 ApiFall.cells t3.2.2.2.falls, FW.blk bx1 69 ([.lit (.pointer (some ⟨b0, 0, none⟩)), .lit (.pointer none), .lit (.map (some r1)), .lit (.int .i64 t3.1), .lit (.int .u64 0), .lit (.bool false)]), FW.mapI (.int .u64) (Value.int .u64) FW.evS r1 ([] : List (Int × (List UInt8)))]) (cs' := [.lit (.pointer (some ⟨b0, 0, none⟩)), .lit (.pointer none), .lit (.map (some r1)), .lit (.int .i64 t3.1), .lit (.int .u64 0), .lit (.bool false)]) (j := 4) hk rfl rfl rfl rfl rfl (by kernel_rfl) rfl rfl ?_; clear hk; intro w hk
  refine FW.lfun (y := .lit (.pointer (some ⟨bx1, 0, none⟩))) hk rfl rfl rfl rfl ((FW.f_pure (FW.p_nilCheck hk.kn (FW.holds_nil _) rfl))) ?_; clear hk; intro a w hk
  refine FW.lfun (y := .lit (.pointer (some ⟨bx1, 4, none⟩))) hk rfl rfl rfl rfl (FW.f_fieldPtr hk (FW.holds_nil _) rfl Go.Proofs.Tryz.underlying69 rfl (by kernel_rfl) rfl) ?_; clear hk; intro a w hk
  refine FW.l_store (I' := [FW.blk b0 75 ([.lit (.slice zd1 (List.length t3.2.2.2.sure) zc1), .lit (.map (some zr1)), .lit (.int .i64 t3.2.2.2.steps), .lit (.slice zd2 (List.length t3.2.2.2.falls) zc2), .lit (.bool t3.2.2.2.off)]), FW.orow zd1 zc1 9 1 c_str t3.2.2.2.sure, FW.mapI (.int .i64) (Value.int .i64) FW.evS zr1 t3.2.2.2.cache, FW.orow zd2 zc2 52 3 ApiFall.cells t3.2.2.2.falls, FW.blk bx1 69 ([.lit (.pointer (some ⟨b0, 0, none⟩)), .lit (.pointer none), .lit (.map (some r1)), .lit (.int .i64 t3.1), .lit (.int .u64 t3.2.1), .lit (.bool false)]), FW.mapI (.int .u64) (Value.int .u64) FW.evS r1 ([] : List (Int × (List UInt8)))]) (cs' := [.lit (.pointer (some ⟨b0, 0, none⟩)), .lit (.pointer none), .lit (.map (some r1)), .lit (.int .i64 t3.1), .lit (.int .u64 t3.2.1), .lit (.bool false)]) (j := 4) hk rfl rfl rfl rfl rfl (by kernel_rfl) rfl rfl ?_; clear hk; intro w hk
  refine FW.lfun (y := .lit (.string (FW.B t3.2.2.1))) hk rfl rfl rfl rfl (FW.f_assign hk (FW.holds_nil _) rfl) ?_; clear hk; intro a w hk
  refine FW.lend (hK9 _ _ ?_); clear hK9 K'
  refine FW.wreg ?_; intro K' hK10
  refine FW.lfun (y := .lit (.int .u64 1)) hk rfl rfl rfl rfl (FW.f_assign hk (FW.holds_nil _) rfl) ?_; clear hk; intro a w hk
  refine FW.lend (hK10 _ _ ?_); clear hK10 K'
  refine FW.wseqJ (fun a w => ∃ (y1_2 : Int) (y1_4 : Bool) (l2 : List (List UInt8)) (m3 : List (Int × (List UInt8))) (l4 : List ApiFall) (y6_3 : Int) (y6_4 : Int) (y6_5 : Bool) (v6 : Int) (xd2 : Option Addr) (xc2 : Nat) (xr3 : Nat) (xd4 : Option Addr) (xc4 : Nat), FW.S M w0 a w 98 [FW.blk b0 75 ([.lit (.slice xd2 (List.length l2) xc2), .lit (.map (some xr3)), .lit (.int .i64 y1_2), .lit (.slice xd4 (List.length l4) xc4), .lit (.bool y1_4)]), FW.orow xd2 xc2 9 1 c_str l2, FW.mapI (.int .i64) (Value.int .i64) FW.evS xr3 m3, FW.orow xd4 xc4 52 3 ApiFall.cells l4, FW.blk bx1 69 ([.lit (.pointer (some ⟨b0, 0, none⟩)), .lit (.pointer none), .lit (.map (some r1)), .lit (.int .i64 y6_3), .lit (.int .u64 y6_4), .lit (.bool y6_5)]), FW.mapI (.int .u64) (Value.int .u64) FW.evS r1 ([] : List (Int × (List UInt8)))] [(0, [], .lit (.pointer (some ⟨b0, 0, none⟩))), (4, [], .lit (.pointer (some ⟨bx1, 0, none⟩))), (6, [], .lit (.int .u64 v6))] ∧ rec_Open_opt.j1 K y1_2 y1_4 l2 m3 l4 y6_3 y6_4 y6_5 v6 = some r) ?_ ?_
  · clear hk h
    rintro a w ⟨y1_2, y1_4, l2, m3, l4, y6_3, y6_4, y6_5, v6, xd2, xc2, xr3, xd4, xc4, hk, h⟩
    unfold rec_Open_opt.j1 at h
    refine FW.wreg ?_; intro K' hK12
    refine FW.lfun (y := .lit (.pointer (some ⟨b0, 0, none⟩))) hk rfl rfl rfl rfl (FW.f_move hk (FW.holds_nil _) rfl) ?_; clear hk; intro a w hk
    obtain ⟨t4, hr_t4, h⟩ := FW.bnd h
    refine FW.l_callH (I1 := (ODevDev.items b0 xd2 xc2 xr3 xd4 xc4 (⟨l2, m3, y1_2, l4, y1_4⟩ : ODevDev))) (I2 := [FW.blk bx1 69 ([.lit (.pointer (some ⟨b0, 0, none⟩)), .lit (.pointer none), .lit (.map (some r1)), .lit (.int .i64 y6_3), .lit (.int .u64 y6_4), .lit (.bool y6_5)]), FW.mapI (.int .u64) (Value.int .u64) FW.evS r1 ([] : List (Int × (List UInt8)))]) (js := [3, 3, 3, 3]) hk rfl rfl rfl rfl rfl Go.Proofs.Tryz.func40 rfl (by kernel_rfl) (rec_parts.ok (⟨l2, m3, y1_2, l4, y1_4⟩ : ODevDev) _ hr_t4 b0 xd2 xc2 xr3 xd4 xc4) ?_; clear hk
    rintro _ _ ⟨rfl, rfl⟩ a w hk
    refine FW.l_alloc (zs := [.lit (.int .i64 0), .lit (.int .i64 0), .lit (.int .i64 0), .lit (.int .i64 0)]) [] hk rfl rfl rfl rfl ?_; clear hk; intro bx2 a w hk
    refine FW.l_store (I' := [FW.blk bx2 79 ([.lit (.int .i64 t4.1), .lit (.int .i64 t4.2.1), .lit (.int .i64 t4.2.2.1), .lit (.int .i64 t4.2.2.2)]), FW.blk b0 75 ([.lit (.slice xd2 (List.length l2) xc2), .lit (.map (some xr3)), .lit (.int .i64 y1_2), .lit (.slice xd4 (List.length l4) xc4), .lit (.bool y1_4)]), FW.orow xd2 xc2 9 1 c_str l2, FW.mapI (.int .i64) (Value.int .i64) FW.evS xr3 m3, FW.orow xd4 xc4 52 3 ApiFall.cells l4, FW.blk bx1 69 ([.lit (.pointer (some ⟨b0, 0, none⟩)), .lit (.pointer none), .lit (.map (some r1)), .lit (.int .i64 y6_3), .lit (.int .u64 y6_4), .lit (.bool y6_5)]), FW.mapI (.int .u64) (Value.int .u64) FW.evS r1 ([] : List (Int × (List UInt8)))]) (cs' := [.lit (.int .i64 t4.1), .lit (.int .i64 t4.2.1), .lit (.int .i64 t4.2.2.1), .lit (.int .i64 t4.2.2.2)]) (j := 0) hk rfl rfl rfl rfl rfl (by kernel_rfl) rfl rfl ?_; clear hk; intro w hk
    replace hk := FW.S.toArr (f := c_i64) (N := 4) (l := [t4.1, t4.2.1, t4.2.2.1, t4.2.2.2]) (I' := [FW.orow (some ⟨bx2, 0, none⟩) 4 79 1 c_i64 ([t4.1, t4.2.1, t4.2.2.1, t4.2.2.2] : List Int), FW.blk b0 75 ([.lit (.slice xd2 (List.length l2) xc2), .lit (.map (some xr3)), .lit (.int .i64 y1_2), .lit (.slice xd4 (List.length l4) xc4), .lit (.bool y1_4)]), FW.orow xd2 xc2 9 1 c_str l2, FW.mapI (.int .i64) (Value.int .i64) FW.evS xr3 m3, FW.orow xd4 xc4 52 3 ApiFall.cells l4, FW.blk bx1 69 ([.lit (.pointer (some ⟨b0, 0, none⟩)), .lit (.pointer none), .lit (.map (some r1)), .lit (.int .i64 y6_3), .lit (.int .u64 y6_4), .lit (.bool y6_5)]), FW.mapI (.int .u64) (Value.int .u64) FW.evS r1 ([] : List (Int × (List UInt8)))]) (j := 0) (fun _ => rfl) hk rfl rfl rfl (by decide) rfl
    refine FW.lend (hK12 _ _ ?_); clear hK12 K'
    refine FW.wreg ?_; intro K' hK13
    refine FW.lfun (y := .lit (.pointer (some ⟨b0, 0, none⟩))) hk rfl rfl rfl rfl (FW.f_move hk (FW.holds_nil _) rfl) ?_; clear hk; intro a w hk
    obtain ⟨hc1, h⟩ := FW.chk h
    refine FW.lfun (y := FW.elA (some ⟨bx2, 0, none⟩) 1 2) hk rfl rfl rfl rfl (FW.f_idxArr (f := c_i64) (l := ([t4.1, t4.2.1, t4.2.2.1, t4.2.2.2] : List Int)) hk (FW.holds_nil _) (j := 0) rfl rfl rfl Go.Proofs.Tryz.underlying79 (by kernel_rfl) hc1) ?_; clear hk; intro a w hk
    refine FW.lfun (y := .lit (.int .i64 (List.getD ([t4.1, t4.2.1, t4.2.2.1, t4.2.2.2] : List Int) (Int.toNat 2) default))) hk rfl rfl rfl rfl (FW.f_loadOwn1 (f := c_i64) (l := ([t4.1, t4.2.1, t4.2.2.1, t4.2.2.2] : List Int)) hk (FW.holds_nil _) (j := 0) rfl rfl hc1 rfl Go.Proofs.Tryz.underlying3 rfl) ?_; clear hk; intro a w hk
    obtain ⟨hc2, h⟩ := FW.chk h
    refine FW.lfun (y := FW.elA (some ⟨bx2, 0, none⟩) 1 3) hk rfl rfl rfl rfl (FW.f_idxArr (f := c_i64) (l := ([t4.1, t4.2.1, t4.2.2.1, t4.2.2.2] : List Int)) hk (FW.holds_nil _) (j := 0) rfl rfl rfl Go.Proofs.Tryz.underlying79 (by kernel_rfl) hc2) ?_; clear hk; intro a w hk
    refine FW.lfun (y := .lit (.int .i64 (List.getD ([t4.1, t4.2.1, t4.2.2.1, t4.2.2.2] : List Int) (Int.toNat 3) default))) hk rfl rfl rfl rfl (FW.f_loadOwn1 (f := c_i64) (l := ([t4.1, t4.2.1, t4.2.2.1, t4.2.2.2] : List Int)) hk (FW.holds_nil _) (j := 0) rfl rfl hc2 rfl Go.Proofs.Tryz.underlying3 rfl) ?_; clear hk; intro a w hk
    refine FW.lfun (y := .lit (.int .u64 v6)) hk rfl rfl rfl rfl (FW.f_move hk (FW.holds_nil _) rfl) ?_; clear hk; intro a w hk
    obtain ⟨t5, hr_t5, h⟩ := FW.bnd h
    refine FW.l_callH (I1 := (ODevDev.items b0 xd2 xc2 xr3 xd4 xc4 (⟨l2, m3, y1_2, l4, y1_4⟩ : ODevDev))) (I2 := [FW.orow (some ⟨bx2, 0, none⟩) 4 79 1 c_i64 ([t4.1, t4.2.1, t4.2.2.1, t4.2.2.2] : List Int), FW.blk bx1 69 ([.lit (.pointer (some ⟨b0, 0, none⟩)), .lit (.pointer none), .lit (.map (some r1)), .lit (.int .i64 y6_3), .lit (.int .u64 y6_4), .lit (.bool y6_5)]), FW.mapI (.int .u64) (Value.int .u64) FW.evS r1 ([] : List (Int × (List UInt8)))]) (js := [4, 4, 4, 4]) hk rfl rfl rfl rfl rfl Go.Proofs.Tryz.func41 rfl (by kernel_rfl) (log_Open.ok K (⟨l2, m3, y1_2, l4, y1_4⟩ : ODevDev) (List.getD ([t4.1, t4.2.1, t4.2.2.1, t4.2.2.2] : List Int) (Int.toNat 2) default) (List.getD ([t4.1, t4.2.1, t4.2.2.1, t4.2.2.2] : List Int) (Int.toNat 3) default) v6 _ hr_t5 b0 xd2 xc2 xr3 xd4 xc4) ?_; clear hk
    rintro _ _ ⟨bx3, zd3, zc3, zr2, zd4, zc4, rfl, rfl⟩ a w hk
    refine FW.lfun (y := .tup [.lit (.pointer (some ⟨bx3, 0, none⟩)), .row (r_c_str t5.2.1), .lit (.int .i64 t5.2.2.1)]) hk rfl rfl rfl rfl (FW.f_move hk (FW.holds_nil _) rfl) ?_; clear hk; intro a w hk
    refine FW.lfun (y := .lit (.pointer (some ⟨bx3, 0, none⟩))) hk rfl rfl rfl rfl (FW.f_extract hk (FW.holds_nil _) rfl rfl) ?_; clear hk; intro a w hk
    refine FW.lfun (y := .row (r_c_str t5.2.1)) hk rfl rfl rfl rfl (FW.f_extract hk (FW.holds_nil _) rfl rfl) ?_; clear hk; intro a w hk
    refine FW.lfun (y := .lit (.int .i64 t5.2.2.1)) hk rfl rfl rfl rfl (FW.f_extract hk (FW.holds_nil _) rfl rfl) ?_; clear hk; intro a w hk
    refine FW.lfun (y := .lit (.pointer (some ⟨bx3, 0, none⟩))) hk rfl rfl rfl rfl (FW.f_assign hk (FW.holds_nil _) rfl) ?_; clear hk; intro a w hk
    refine FW.lfun (y := .row (r_c_str t5.2.1)) hk rfl rfl rfl rfl (FW.f_assign hk (FW.holds_nil _) rfl) ?_; clear hk; intro a w hk
    refine FW.lfun (y := .lit (.int .i64 t5.2.2.1)) hk rfl rfl rfl rfl (FW.f_assign hk (FW.holds_nil _) rfl) ?_; clear hk; intro a w hk
    refine FW.lend (hK13 _ _ ?_); clear hK13 K'
    refine FW.wseq ?_; intro K' hK14
    refine FW.wreg ?_; intro K' hK15
    refine FW.lfun (y := .lit (.int .i64 t5.2.2.1)) hk rfl rfl rfl rfl (FW.f_move hk (FW.holds_nil _) rfl) ?_; clear hk; intro a w hk
    refine FW.lfun (y := .lit (.bool (!decide (t5.2.2.1 = 0)))) hk rfl rfl rfl rfl ((FW.f_pure (FW.p_neq hk.kn (FW.holds_nil _) rfl rfl))) ?_; clear hk; intro a w hk
    refine FW.lend (hK15 _ _ ?_); clear hK15 K'
    refine FW.wcondF (b := (!decide (t5.2.2.1 = 0))) hk h rfl (fun h hb => ?_) (fun h hb => ?_)
    · skip
      refine FW.wreg ?_; intro K' hK16
      refine FW.lfun (y := .lit (.int .i64 t5.2.2.1)) hk rfl rfl rfl rfl (FW.f_move hk (FW.holds_nil _) rfl) ?_; clear hk; intro a w hk
      refine FW.lfun (y := .lit (.pointer none)) hk rfl rfl rfl rfl (FW.f_assign hk (FW.holds_nil _) rfl) ?_; clear hk; intro a w hk
      refine FW.lfun (y := .lit (.int .i64 t5.2.2.1)) hk rfl rfl rfl rfl (FW.f_assign hk (FW.holds_nil _) rfl) ?_; clear hk; intro a w hk
      refine FW.lend (hK16 _ _ ?_); clear hK16 K'
      refine wp_ret ?_
      (repeat first | refine FW.then_ret ?_ | refine FW.block_ret ?_)
      obtain rfl := Option.some.inj h
      replace hk := FW.S.keep (I1 := [FW.blk b0 75 ([.lit (.slice zd3 (List.length t5.2.2.2.sure) zc3), .lit (.map (some zr2)), .lit (.int .i64 t5.2.2.2.steps), .lit (.slice zd4 (List.length t5.2.2.2.falls) zc4), .lit (.bool t5.2.2.2.off)]), FW.orow zd3 zc3 9 1 c_str t5.2.2.2.sure, FW.mapI (.int .i64) (Value.int .i64) FW.evS zr2 t5.2.2.2.cache, FW.orow zd4 zc4 52 3 ApiFall.cells t5.2.2.2.falls]) (I2 := [FW.blk bx3 99 ([.lit (.pointer (some ⟨b0, 0, none⟩)), .lit (.int .i64 t5.1.from_), .lit (.int .i64 t5.1.to_), .lit (.int .i64 t5.1.at_), .lit (.int .u64 t5.1.next)]), FW.orow (some ⟨bx2, 0, none⟩) 4 79 1 c_i64 ([t4.1, t4.2.1, t4.2.2.1, t4.2.2.2] : List Int), FW.blk bx1 69 ([.lit (.pointer (some ⟨b0, 0, none⟩)), .lit (.pointer none), .lit (.map (some r1)), .lit (.int .i64 y6_3), .lit (.int .u64 y6_4), .lit (.bool y6_5)]), FW.mapI (.int .u64) (Value.int .u64) FW.evS r1 ([] : List (Int × (List UInt8)))]) (js := [4, 4, 4, 4]) hk rfl
      exact FW.fretH2 hk rfl (FW.rtmp hk rfl) (FW.rtmp hk rfl) ⟨0, 0, 0, zd3, zc3, zr2, zd4, zc4, rfl, rfl⟩
    refine wp_skip ?_
    (repeat first | refine FW.then_normal ?_ | refine FW.block_normal ?_); refine hK14 _ _ ?_
    refine FW.wreg ?_; intro K' hK17
    refine FW.lfun (y := .lit (.pointer (some ⟨bx1, 0, none⟩))) hk rfl rfl rfl rfl (FW.f_move hk (FW.holds_nil _) rfl) ?_; clear hk; intro a w hk
    refine FW.lfun (y := .lit (.pointer (some ⟨bx3, 0, none⟩))) hk rfl rfl rfl rfl (FW.f_move hk (FW.holds_nil _) rfl) ?_; clear hk; intro a w hk
    refine FW.lfun (y := .lit (.pointer (some ⟨bx1, 0, none⟩))) hk rfl rfl rfl rfl ((FW.f_pure (FW.p_nilCheck hk.kn (FW.holds_nil _) rfl))) ?_; clear hk; intro a w hk
    refine FW.lfun (y := .lit (.pointer (some ⟨bx1, 1, none⟩))) hk rfl rfl rfl rfl (FW.f_fieldPtr hk (FW.holds_nil _) rfl Go.Proofs.Tryz.underlying69 rfl (by kernel_rfl) rfl) ?_; clear hk; intro a w hk
    refine FW.l_store (I' := [FW.blk bx3 99 ([.lit (.pointer (some ⟨b0, 0, none⟩)), .lit (.int .i64 t5.1.from_), .lit (.int .i64 t5.1.to_), .lit (.int .i64 t5.1.at_), .lit (.int .u64 t5.1.next)]), FW.blk b0 75 ([.lit (.slice zd3 (List.length t5.2.2.2.sure) zc3), .lit (.map (some zr2)), .lit (.int .i64 t5.2.2.2.steps), .lit (.slice zd4 (List.length t5.2.2.2.falls) zc4), .lit (.bool t5.2.2.2.off)]), FW.orow zd3 zc3 9 1 c_str t5.2.2.2.sure, FW.mapI (.int .i64) (Value.int .i64) FW.evS zr2 t5.2.2.2.cache, FW.orow zd4 zc4 52 3 ApiFall.cells t5.2.2.2.falls, FW.orow (some ⟨bx2, 0, none⟩) 4 79 1 c_i64 ([t4.1, t4.2.1, t4.2.2.1, t4.2.2.2] : List Int), FW.blk bx1 69 ([.lit (.pointer (some ⟨b0, 0, none⟩)), .lit (.pointer (some ⟨bx3, 0, none⟩)), .lit (.map (some r1)), .lit (.int .i64 y6_3), .lit (.int .u64 y6_4), .lit (.bool y6_5)]), FW.mapI (.int .u64) (Value.int .u64) FW.evS r1 ([] : List (Int × (List UInt8)))]) (cs' := [.lit (.pointer (some ⟨b0, 0, none⟩)), .lit (.pointer (some ⟨bx3, 0, none⟩)), .lit (.map (some r1)), .lit (.int .i64 y6_3), .lit (.int .u64 y6_4), .lit (.bool y6_5)]) (j := 6) hk rfl rfl rfl rfl rfl (by kernel_rfl) rfl rfl ?_; clear hk; intro w hk
    refine FW.lend (hK17 _ _ ?_); clear hK17 K'
    refine FW.wseq ?_; intro K' hK18
    refine FW.wreg ?_; intro K' hK19
    refine FW.lfun (y := .row (r_c_str t5.2.1)) hk rfl rfl rfl rfl (FW.f_move hk (FW.holds_nil _) rfl) ?_; clear hk; intro a w hk
    refine FW.lfun (y := .lit (.int .i64 (List.length t5.2.1 : Int))) hk rfl rfl rfl rfl (FW.f_len (R := r_c_str) (f := c_str) (l := t5.2.1) r_c_str_eq Go.Proofs.Tryz.underlying72 hk (FW.holds_nil _) rfl) ?_; clear hk; intro a w hk
    refine FW.lfun (y := .lit (.int .i64 0)) hk rfl rfl rfl rfl (FW.f_move hk (FW.holds_nil _) rfl) ?_; clear hk; intro a w hk
    refine FW.lend (hK19 _ _ ?_); clear hK19 K'
    refine wp_block ?_
    refine FW.wloop (T := Nat × Int × Int × Int × Int × Int × Bool × List (List UInt8) × (List (Int × (List UInt8))) × List ApiFall × Int × Int × Bool × (List (Int × (List UInt8))) × List (List UInt8) × Int × Int × Nat × Option Addr × Nat × Nat × Option Addr × Nat × Nat) (fun x a w => match x with | (kl1, y8_1, y8_2, y8_3, y8_4, y1_2, y1_4, l2, m3, l4, y6_3, y6_4, y6_5, m5, v80, v81, v82, xn8, xd2, xc2, xr3, xd4, xc4, xr5) => FW.S M w0 a w 98 [FW.blk xn8 99 ([.lit (.pointer (some ⟨b0, 0, none⟩)), .lit (.int .i64 y8_1), .lit (.int .i64 y8_2), .lit (.int .i64 y8_3), .lit (.int .u64 y8_4)]), FW.blk b0 75 ([.lit (.slice xd2 (List.length l2) xc2), .lit (.map (some xr3)), .lit (.int .i64 y1_2), .lit (.slice xd4 (List.length l4) xc4), .lit (.bool y1_4)]), FW.orow xd2 xc2 9 1 c_str l2, FW.mapI (.int .i64) (Value.int .i64) FW.evS xr3 m3, FW.orow xd4 xc4 52 3 ApiFall.cells l4, FW.blk bx1 69 ([.lit (.pointer (some ⟨b0, 0, none⟩)), .lit (.pointer (some ⟨xn8, 0, none⟩)), .lit (.map (some xr5)), .lit (.int .i64 y6_3), .lit (.int .u64 y6_4), .lit (.bool y6_5)]), FW.mapI (.int .u64) (Value.int .u64) FW.evS xr5 m5] [(4, [], .lit (.pointer (some ⟨bx1, 0, none⟩))), (80, [], .row (r_c_str v80)), (81, [], .lit (.int .i64 v81)), (82, [], .lit (.int .i64 v82))] ∧ rec_Open_opt.l1 K kl1 y8_1 y8_2 y8_3 y8_4 y1_2 y1_4 l2 m3 l4 y6_3 y6_4 y6_5 m5 v80 v81 v82 = some r) (fun x => x.1) (K, t5.1.from_, t5.1.to_, t5.1.at_, t5.1.next, t5.2.2.2.steps, t5.2.2.2.off, t5.2.2.2.sure, t5.2.2.2.cache, t5.2.2.2.falls, y6_3, y6_4, y6_5, ([] : List (Int × (List UInt8))), t5.2.1, (List.length t5.2.1 : Int), 0, bx3, zd3, zc3, zr2, zd4, zc4, r1) ⟨(hk.drop 5).sub ⟨rfl, rfl, rfl, rfl, trivial⟩, h⟩ ?_
    clear hk h
    rintro ⟨kl1, y8_1, y8_2, y8_3, y8_4, y1_2, y1_4, l2, m3, l4, y6_3, y6_4, y6_5, m5, v80, v81, v82, xn8, xd2, xc2, xr3, xd4, xc4, xr5⟩ a w ⟨hk, h⟩ K' hK20
    cases kl1 with
    | zero => simp [rec_Open_opt.l1] at h
    | succ kl1 =>
    rw [rec_Open_opt.l1.eq_2] at h
    refine FW.wreg ?_; intro K' hK21
    refine FW.lfun (y := .lit (.bool (decide (v82 < v81)))) hk rfl rfl rfl rfl ((FW.f_pure (FW.p_lss hk.kn (FW.holds_nil _) rfl rfl))) ?_; clear hk; intro a w hk
    refine FW.lend (hK21 _ _ ?_); clear hK21 K'
    refine FW.wseq ?_; intro K' hK22
    refine FW.wcondF (b := (decide (v82 < v81))) hk h rfl (fun h hb => ?_) (fun h hb => ?_)
    · skip
      refine wp_skip ?_
      (repeat first | refine FW.then_normal ?_ | refine FW.block_normal ?_); refine hK22 _ _ ?_
      refine FW.wseq ?_; intro K' hK23
      refine wp_block ?_
      refine FW.wreg ?_; intro K' hK24
      obtain ⟨hc3, h⟩ := FW.chk h
      refine FW.lfun (y := .ref (c_str (List.getD v80 (Int.toNat v82) default))) hk rfl rfl rfl rfl (FW.f_indexAddr (R := r_c_str) (f := c_str) (l := v80) (sz := 1) r_c_str_eq (fun _ => rfl) hk (FW.holds_nil _) rfl rfl Go.Proofs.Tryz.underlying72 (by kernel_rfl) hc3) ?_; clear hk; intro a w hk
      refine FW.lfun (y := .lit (.string (FW.B (List.getD v80 (Int.toNat v82) default)))) hk rfl rfl rfl rfl (FW.f_load1 hk (FW.holds_nil _) rfl rfl Go.Proofs.Tryz.underlying9 rfl) ?_; clear hk; intro a w hk
      refine FW.lfun (y := .lit (.string (FW.B (List.getD v80 (Int.toNat v82) default)))) hk rfl rfl rfl rfl (FW.f_assign hk (FW.holds_nil _) rfl) ?_; clear hk; intro a w hk
      refine FW.lend (hK24 _ _ ?_); clear hK24 K'
      refine FW.wreg ?_; intro K' hK25
      refine FW.lfun (y := .lit (.string (FW.B (List.getD v80 (Int.toNat v82) default)))) hk rfl rfl rfl rfl (FW.f_move hk (FW.holds_nil _) rfl) ?_; clear hk; intro a w hk
      obtain ⟨t6, hr_t6, h⟩ := FW.bnd h
      refine FW.lfun (y := .tup [.row (r_ApiChange_cells t6.1), .lit (.int .i64 t6.2)]) hk rfl rfl rfl rfl (FW.f_call hk (FW.holds_nil _) rfl rfl Go.Proofs.Tryz.func42 rfl (by kernel_rfl) (rec_Unbatch.ok K (List.getD v80 (Int.toNat v82) default) _ hr_t6)) ?_; clear hk; intro a w hk
      refine FW.lfun (y := .tup [.row (r_ApiChange_cells t6.1), .lit (.int .i64 t6.2)]) hk rfl rfl rfl rfl (FW.f_move hk (FW.holds_nil _) rfl) ?_; clear hk; intro a w hk
      refine FW.lfun (y := .row (r_ApiChange_cells t6.1)) hk rfl rfl rfl rfl (FW.f_extract hk (FW.holds_nil _) rfl rfl) ?_; clear hk; intro a w hk
      refine FW.lfun (y := .lit (.int .i64 t6.2)) hk rfl rfl rfl rfl (FW.f_extract hk (FW.holds_nil _) rfl rfl) ?_; clear hk; intro a w hk
      refine FW.lfun (y := .row (r_ApiChange_cells t6.1)) hk rfl rfl rfl rfl (FW.f_assign hk (FW.holds_nil _) rfl) ?_; clear hk; intro a w hk
      refine FW.lfun (y := .lit (.int .i64 t6.2)) hk rfl rfl rfl rfl (FW.f_assign hk (FW.holds_nil _) rfl) ?_; clear hk; intro a w hk
      refine FW.lend (hK25 _ _ ?_); clear hK25 K'
      refine FW.wseq ?_; intro K' hK26
      refine FW.wreg ?_; intro K' hK27
      refine FW.lfun (y := .lit (.int .i64 t6.2)) hk rfl rfl rfl rfl (FW.f_move hk (FW.holds_nil _) rfl) ?_; clear hk; intro a w hk
      refine FW.lfun (y := .lit (.bool (!decide (t6.2 = 0)))) hk rfl rfl rfl rfl ((FW.f_pure (FW.p_neq hk.kn (FW.holds_nil _) rfl rfl))) ?_; clear hk; intro a w hk
      refine FW.lend (hK27 _ _ ?_); clear hK27 K'
      refine FW.wcondF (b := (!decide (t6.2 = 0))) hk h rfl (fun h hb => ?_) (fun h hb => ?_)
      · skip
        refine FW.wreg ?_; intro K' hK28
        refine FW.lfun (y := .lit (.pointer none)) hk rfl rfl rfl rfl (FW.f_assign hk (FW.holds_nil _) rfl) ?_; clear hk; intro a w hk
        refine FW.lfun (y := .lit (.int .i64 60)) hk rfl rfl rfl rfl (FW.f_assign hk (FW.holds_nil _) rfl) ?_; clear hk; intro a w hk
        refine FW.lend (hK28 _ _ ?_); clear hK28 K'
        refine wp_ret ?_
        (repeat first | refine FW.then_ret ?_ | refine FW.block_ret ?_)
        obtain rfl := Option.some.inj h
        replace hk := FW.S.keep (I1 := [FW.blk b0 75 ([.lit (.slice xd2 (List.length l2) xc2), .lit (.map (some xr3)), .lit (.int .i64 y1_2), .lit (.slice xd4 (List.length l4) xc4), .lit (.bool y1_4)]), FW.orow xd2 xc2 9 1 c_str l2, FW.mapI (.int .i64) (Value.int .i64) FW.evS xr3 m3, FW.orow xd4 xc4 52 3 ApiFall.cells l4]) (I2 := [FW.blk xn8 99 ([.lit (.pointer (some ⟨b0, 0, none⟩)), .lit (.int .i64 y8_1), .lit (.int .i64 y8_2), .lit (.int .i64 y8_3), .lit (.int .u64 y8_4)]), FW.blk bx1 69 ([.lit (.pointer (some ⟨b0, 0, none⟩)), .lit (.pointer (some ⟨xn8, 0, none⟩)), .lit (.map (some xr5)), .lit (.int .i64 y6_3), .lit (.int .u64 y6_4), .lit (.bool y6_5)]), FW.mapI (.int .u64) (Value.int .u64) FW.evS xr5 m5]) (js := [4, 4, 4, 4]) hk rfl
        exact FW.fretH2 hk rfl (FW.rtmp hk rfl) (FW.rtmp hk rfl) ⟨0, 0, 0, xd2, xc2, xr3, xd4, xc4, rfl, rfl⟩
      refine wp_skip ?_
      (repeat first | refine FW.then_normal ?_ | refine FW.block_normal ?_); refine hK26 _ _ ?_
      refine FW.wreg1 ?_
      refine FW.lfun (y := .lit (.pointer (some ⟨bx1, 0, none⟩))) hk rfl rfl rfl rfl (FW.f_move hk (FW.holds_nil _) rfl) ?_; clear hk; intro a w hk
      refine FW.lfun (y := .row (r_ApiChange_cells t6.1)) hk rfl rfl rfl rfl (FW.f_move hk (FW.holds_nil _) rfl) ?_; clear hk; intro a w hk
      obtain ⟨t7, hr_t7, h⟩ := FW.bnd h
      refine FW.l_callH (I1 := (ORecStore.items bx1 b0 xn8 xr5 (⟨(⟨y8_1, y8_2, y8_3, y8_4⟩ : OLogLog), m5, y6_3, y6_4, y6_5⟩ : ORecStore)) ++ (ODevDev.items b0 xd2 xc2 xr3 xd4 xc4 (⟨l2, m3, y1_2, l4, y1_4⟩ : ODevDev))) (I2 := []) (js := [4, 4, 4, 4, 4, 6, 6]) hk rfl rfl rfl rfl rfl Go.Proofs.Tryz.func33 rfl (by kernel_rfl) (rec_Store_do.ok K (⟨(⟨y8_1, y8_2, y8_3, y8_4⟩ : OLogLog), m5, y6_3, y6_4, y6_5⟩ : ORecStore) (⟨l2, m3, y1_2, l4, y1_4⟩ : ODevDev) t6.1 _ hr_t7 bx1 b0 xn8 xr5 xd2 xc2 xr3 xd4 xc4) ?_; clear hk
      rintro _ _ ⟨zb1, zr3, zd5, zc5, zr4, zd6, zc6, rfl, rfl⟩ a w hk
      refine wpList_nil ?_
      (repeat first | refine FW.then_normal ?_ | refine FW.block_normal ?_); refine hK23 _ _ ?_
      refine FW.wreg1 ?_
      refine FW.lfun (y := .lit (.int .i64 (IntKind.wrap .i64 (v82 + 1)))) hk rfl rfl rfl rfl ((FW.f_pure (FW.p_add hk.kn (FW.holds_nil _) rfl rfl))) ?_; clear hk; intro a w hk
      refine FW.lfun (y := .lit (.int .i64 (IntKind.wrap .i64 (v82 + 1)))) hk rfl rfl rfl rfl (FW.f_move hk (FW.holds_nil _) rfl) ?_; clear hk; intro a w hk
      refine wpList_nil ?_
      (repeat first | refine FW.then_normal ?_ | refine FW.block_normal ?_); exact hK20 (kl1, t7.1.l.from_, t7.1.l.to_, t7.1.l.at_, t7.1.l.next, t7.2.steps, t7.2.off, t7.2.sure, t7.2.cache, t7.2.falls, t7.1.half, t7.1.round, t7.1.dead, t7.1.m, v80, v81, (IntKind.wrap .i64 (v82 + 1)), zb1, zd5, zc5, zr4, zd6, zc6, zr3) _ _ (Nat.lt_succ_self _) ⟨(FW.S.pick hk (js := [1, 1, 6, 6, 6, 6, 6]) rfl).sub ⟨rfl, rfl, rfl, rfl, trivial⟩, h⟩
    refine wp_exit ?_; (repeat first | refine FW.then_exit ?_ | refine FW.block_exit_ne rfl ?_); refine FW.block_exit ?_
    (repeat first | refine FW.then_normal ?_ | refine FW.block_normal ?_); refine hK18 _ _ ?_
    refine FW.wreg ?_; intro K' hK31
    refine FW.lfun (y := .lit (.pointer (some ⟨bx1, 0, none⟩))) hk rfl rfl rfl rfl (FW.f_move hk (FW.holds_nil _) rfl) ?_; clear hk; intro a w hk
    refine FW.lfun (y := .lit (.pointer (some ⟨bx1, 0, none⟩))) hk rfl rfl rfl rfl (FW.f_assign hk (FW.holds_nil _) rfl) ?_; clear hk; intro a w hk
    refine FW.lfun (y := .lit (.int .i64 0)) hk rfl rfl rfl rfl (FW.f_assign hk (FW.holds_nil _) rfl) ?_; clear hk; intro a w hk
    refine FW.lend (hK31 _ _ ?_); clear hK31 K'
    refine wp_ret ?_
    (repeat first | refine FW.then_ret ?_ | refine FW.block_ret ?_)
    obtain rfl := Option.some.inj h
    replace hk := FW.S.keep (I1 := [FW.blk bx1 69 ([.lit (.pointer (some ⟨b0, 0, none⟩)), .lit (.pointer (some ⟨xn8, 0, none⟩)), .lit (.map (some xr5)), .lit (.int .i64 y6_3), .lit (.int .u64 y6_4), .lit (.bool y6_5)]), FW.mapI (.int .u64) (Value.int .u64) FW.evS xr5 m5, FW.blk xn8 99 ([.lit (.pointer (some ⟨b0, 0, none⟩)), .lit (.int .i64 y8_1), .lit (.int .i64 y8_2), .lit (.int .i64 y8_3), .lit (.int .u64 y8_4)]), FW.blk b0 75 ([.lit (.slice xd2 (List.length l2) xc2), .lit (.map (some xr3)), .lit (.int .i64 y1_2), .lit (.slice xd4 (List.length l4) xc4), .lit (.bool y1_4)]), FW.orow xd2 xc2 9 1 c_str l2, FW.mapI (.int .i64) (Value.int .i64) FW.evS xr3 m3, FW.orow xd4 xc4 52 3 ApiFall.cells l4]) (I2 := []) (js := [4, 4, 4, 4, 4, 6, 6]) hk rfl
    exact FW.fretH2 hk rfl (FW.rtmp hk rfl) (FW.rtmp hk rfl) ⟨bx1, xn8, xr5, xd2, xc2, xr3, xd4, xc4, rfl, rfl⟩
  · intro K' hK11
    refine FW.wreg ?_; intro K' hK32
    refine FW.lfun (y := .lit (.pointer (some ⟨bx1, 0, none⟩))) hk rfl rfl rfl rfl (FW.f_move hk (FW.holds_nil _) rfl) ?_; clear hk; intro a w hk
    refine FW.lfun (y := .lit (.pointer (some ⟨bx1, 0, none⟩))) hk rfl rfl rfl rfl ((FW.f_pure (FW.p_nilCheck hk.kn (FW.holds_nil _) rfl))) ?_; clear hk; intro a w hk
    refine FW.lfun (y := .lit (.pointer (some ⟨bx1, 4, none⟩))) hk rfl rfl rfl rfl (FW.f_fieldPtr hk (FW.holds_nil _) rfl Go.Proofs.Tryz.underlying69 rfl (by kernel_rfl) rfl) ?_; clear hk; intro a w hk
    refine FW.lfun (y := .lit (.int .u64 t3.2.1)) hk rfl rfl rfl rfl (FW.f_loadBlk1 hk (FW.holds_nil _) (j := 4) rfl rfl Go.Proofs.Tryz.underlying27 rfl rfl) ?_; clear hk; intro a w hk
    refine FW.lfun (y := .lit (.bool (decide (0 < t3.2.1)))) hk rfl rfl rfl rfl ((FW.f_pure (FW.p_gtr hk.kn (FW.holds_nil _) rfl rfl))) ?_; clear hk; intro a w hk
    refine FW.lend (hK32 _ _ ?_); clear hK32 K'
    refine FW.wcondF (b := (decide (0 < t3.2.1))) hk h rfl (fun h hb => ?_) (fun h hb => ?_)
    · skip
      cases h
    refine wp_skip ?_
    (repeat first | refine FW.then_normal ?_ | refine FW.block_normal ?_); exact hK11 _ _ ⟨t3.2.2.2.steps, t3.2.2.2.off, t3.2.2.2.sure, t3.2.2.2.cache, t3.2.2.2.falls, t3.1, t3.2.1, false, 1, zd1, zc1, zr1, zd2, zc2, hk.sub ⟨rfl, rfl, rfl, trivial⟩, h⟩
theorem rec_Store_Dead_nil.ok   (r : Bool) (h : rec_Store_Dead_nil.f = some r) :
    FW.Ok Go.Proofs.Tryz.prog 28 [.lit (.pointer none)] (.lit (.bool r)) := by
  refine FW.enter (xs := [.lit (.pointer none)]) Go.Proofs.Tryz.func28 rfl Go.Proofs.Tryz.ntmps28 rfl ?_
  intro M w0 a hk
  unfold rec_Store_Dead_nil.f at h
  refine FW.wreg ?_; intro K' hK1
  refine FW.lfun (y := .lit (.bool false)) hk rfl rfl rfl rfl (FW.f_assign hk (FW.holds_nil _) rfl) ?_; clear hk; intro a w hk
  refine FW.lend (hK1 _ _ ?_); clear hK1 K'
  refine FW.wreg ?_; intro K' hK2
  refine FW.lfun (y := .lit (.pointer none)) hk rfl rfl rfl rfl (FW.f_move hk (FW.holds_nil _) rfl) ?_; clear hk; intro a w hk
  refine FW.lfun (y := .lit (.bool true)) hk rfl rfl rfl rfl ((FW.f_pure (FW.p_ptrEq Go.Proofs.Tryz.underlying23 hk.kn (FW.holds_nil _) rfl rfl rfl))) ?_; clear hk; intro a w hk
  refine FW.lfun (y := .lit (.bool true)) hk rfl rfl rfl rfl (FW.f_move hk (FW.holds_nil _) rfl) ?_; clear hk; intro a w hk
  refine FW.lfunG (y := .lit (.bool false)) hk rfl rfl rfl rfl rfl rfl rfl rfl (fun hc => (FW.noHold hk.kn rfl rfl hc).elim) ?_; clear hk; intro a w hk
  refine FW.lfunG (y := .lit (.bool false)) hk rfl rfl rfl rfl rfl rfl rfl rfl (fun hc => (FW.noHold hk.kn rfl rfl hc).elim) ?_; clear hk; intro a w hk
  refine FW.lfunG (y := .lit (.bool false)) hk rfl rfl rfl rfl rfl rfl rfl rfl (fun hc => (FW.noHold hk.kn rfl rfl hc).elim) ?_; clear hk; intro a w hk
  refine FW.lfunG (y := .lit (.bool false)) hk rfl rfl rfl rfl rfl rfl rfl rfl (fun hc => (FW.noHold hk.kn rfl rfl hc).elim) ?_; clear hk; intro a w hk
  refine FW.lfun (y := .lit (.bool true)) hk rfl rfl rfl rfl ((FW.f_pure (FW.p_pickT hk.kn (FW.holds_nil _) rfl rfl))) ?_; clear hk; intro a w hk
  refine FW.lfun (y := .lit (.bool true)) hk rfl rfl rfl rfl (FW.f_move hk (FW.holds_nil _) rfl) ?_; clear hk; intro a w hk
  refine FW.lfunG (y := .lit (.bool false)) hk rfl rfl rfl rfl rfl rfl rfl rfl (fun hc => (FW.noHold hk.kn rfl rfl hc).elim) ?_; clear hk; intro a w hk
  refine FW.lfunG (y := .lit (.bool false)) hk rfl rfl rfl rfl rfl rfl rfl rfl (fun hc => (FW.noHold hk.kn rfl rfl hc).elim) ?_; clear hk; intro a w hk
  refine FW.lfunG (y := .lit (.bool false)) hk rfl rfl rfl rfl rfl rfl rfl rfl (fun hc => (FW.noHold hk.kn rfl rfl hc).elim) ?_; clear hk; intro a w hk
  refine FW.lfunG (y := .lit (.bool false)) hk rfl rfl rfl rfl rfl rfl rfl rfl (fun hc => (FW.noHold hk.kn rfl rfl hc).elim) ?_; clear hk; intro a w hk
  refine FW.lfunG (y := .lit (.bool false)) hk rfl rfl rfl rfl rfl rfl rfl rfl (fun hc => (FW.noHold hk.kn rfl rfl hc).elim) ?_; clear hk; intro a w hk
  refine FW.lfun (y := .lit (.bool true)) hk rfl rfl rfl rfl ((FW.f_pure (FW.p_pickT hk.kn (FW.holds_nil _) rfl rfl))) ?_; clear hk; intro a w hk
  refine FW.lfun (y := .lit (.bool true)) hk rfl rfl rfl rfl (FW.f_assign hk (FW.holds_nil _) rfl) ?_; clear hk; intro a w hk
  refine FW.lend (hK2 _ _ ?_); clear hK2 K'
  refine wp_ret ?_
  (repeat first | refine FW.then_ret ?_ | refine FW.block_ret ?_)
  obtain rfl := Option.some.inj h
  exact FW.fret1 hk rfl rfl
theorem rec_Store_Commit_nil.ok (K : Nat) (v1 : List ApiChange) (r : Int) (h : rec_Store_Commit_nil.f K v1 = some r) :
    FW.Ok Go.Proofs.Tryz.prog 10 [.lit (.pointer none), .row (r_ApiChange_cells v1)] (.lit (.int .i64 r)) := by
  refine FW.enter (xs := [.lit (.pointer none), .row (r_ApiChange_cells v1)]) Go.Proofs.Tryz.func10 rfl Go.Proofs.Tryz.ntmps10 rfl ?_
  intro M w0 a hk
  unfold rec_Store_Commit_nil.f at h
  refine FW.wreg ?_; intro K' hK1
  refine FW.lfun (y := .lit (.int .i64 0)) hk rfl rfl rfl rfl (FW.f_assign hk (FW.holds_nil _) rfl) ?_; clear hk; intro a w hk
  refine FW.lend (hK1 _ _ ?_); clear hK1 K'
  refine FW.wseq ?_; intro K' hK2
  refine FW.wreg ?_; intro K' hK3
  refine FW.lfun (y := .lit (.pointer none)) hk rfl rfl rfl rfl (FW.f_move hk (FW.holds_nil _) rfl) ?_; clear hk; intro a w hk
  obtain ⟨t1, hr_t1, h⟩ := FW.bnd h
  refine FW.lfun (y := .lit (.bool t1)) hk rfl rfl rfl rfl (FW.f_call hk (FW.holds_nil _) rfl rfl Go.Proofs.Tryz.func28 rfl (by kernel_rfl) (rec_Store_Dead_nil.ok  _ hr_t1)) ?_; clear hk; intro a w hk
  refine FW.lend (hK3 _ _ ?_); clear hK3 K'
  refine FW.wcondF (b := t1) hk h rfl (fun h hb => ?_) (fun h hb => ?_)
  · skip
    refine FW.wreg ?_; intro K' hK4
    refine FW.lfun (y := .lit (.int .i64 7)) hk rfl rfl rfl rfl (FW.f_assign hk (FW.holds_nil _) rfl) ?_; clear hk; intro a w hk
    refine FW.lend (hK4 _ _ ?_); clear hK4 K'
    refine wp_ret ?_
    (repeat first | refine FW.then_ret ?_ | refine FW.block_ret ?_)
    obtain rfl := Option.some.inj h
    exact FW.fret1 hk rfl rfl
  refine wp_skip ?_
  (repeat first | refine FW.then_normal ?_ | refine FW.block_normal ?_); refine hK2 _ _ ?_
  refine FW.wseq ?_; intro K' hK5
  refine FW.wreg ?_; intro K' hK6
  refine FW.lfun (y := .row (r_ApiChange_cells v1)) hk rfl rfl rfl rfl (FW.f_move hk (FW.holds_nil _) rfl) ?_; clear hk; intro a w hk
  refine FW.lfun (y := .lit (.int .i64 (List.length v1 : Int))) hk rfl rfl rfl rfl (FW.f_len (R := r_ApiChange_cells) (f := ApiChange.cells) (l := v1) r_ApiChange_cells_eq Go.Proofs.Tryz.underlying22 hk (FW.holds_nil _) rfl) ?_; clear hk; intro a w hk
  refine FW.lfun (y := .lit (.bool (decide (3000 < (List.length v1 : Int))))) hk rfl rfl rfl rfl ((FW.f_pure (FW.p_gtr hk.kn (FW.holds_nil _) rfl rfl))) ?_; clear hk; intro a w hk
  refine FW.lend (hK6 _ _ ?_); clear hK6 K'
  refine FW.wcondF (b := (decide (3000 < (List.length v1 : Int)))) hk h rfl (fun h hb => ?_) (fun h hb => ?_)
  · skip
    refine FW.wreg ?_; intro K' hK7
    refine FW.lfun (y := .lit (.int .i64 3)) hk rfl rfl rfl rfl (FW.f_assign hk (FW.holds_nil _) rfl) ?_; clear hk; intro a w hk
    refine FW.lend (hK7 _ _ ?_); clear hK7 K'
    refine wp_ret ?_
    (repeat first | refine FW.then_ret ?_ | refine FW.block_ret ?_)
    obtain rfl := Option.some.inj h
    exact FW.fret1 hk rfl rfl
  refine wp_skip ?_
  (repeat first | refine FW.then_normal ?_ | refine FW.block_normal ?_); refine hK5 _ _ ?_
  refine FW.wseq ?_; intro K' hK8
  refine FW.wreg ?_; intro K' hK9
  refine FW.lfun (y := .row (r_ApiChange_cells v1)) hk rfl rfl rfl rfl (FW.f_move hk (FW.holds_nil _) rfl) ?_; clear hk; intro a w hk
  refine FW.lfun (y := .lit (.int .i64 (List.length v1 : Int))) hk rfl rfl rfl rfl (FW.f_len (R := r_ApiChange_cells) (f := ApiChange.cells) (l := v1) r_ApiChange_cells_eq Go.Proofs.Tryz.underlying22 hk (FW.holds_nil _) rfl) ?_; clear hk; intro a w hk
  refine FW.lfun (y := .lit (.int .i64 0)) hk rfl rfl rfl rfl (FW.f_move hk (FW.holds_nil _) rfl) ?_; clear hk; intro a w hk
  refine FW.lend (hK9 _ _ ?_); clear hK9 K'
  refine wp_block ?_
  refine FW.wloop (T := Nat × List ApiChange × List ApiChange × Int × Int) (fun x a w => match x with | (kl1, v1, v14, v15, v16) => FW.S M w0 a w 58 [] [(0, [], .lit (.pointer none)), (1, [], .row (r_ApiChange_cells v1)), (14, [], .row (r_ApiChange_cells v14)), (15, [], .lit (.int .i64 v15)), (16, [], .lit (.int .i64 v16))] ∧ rec_Store_Commit_nil.l1 K kl1 v1 v14 v15 v16 = some r) (fun x => x.1) (K, v1, v1, (List.length v1 : Int), 0) ⟨hk.sub ⟨rfl, rfl, rfl, rfl, rfl, trivial⟩, h⟩ ?_
  clear hk h
  rintro ⟨kl1, v1, v14, v15, v16⟩ a w ⟨hk, h⟩ K' hK10
  cases kl1 with
  | zero => simp [rec_Store_Commit_nil.l1] at h
  | succ kl1 =>
  rw [rec_Store_Commit_nil.l1.eq_2] at h
  refine FW.wreg ?_; intro K' hK11
  refine FW.lfun (y := .lit (.bool (decide (v16 < v15)))) hk rfl rfl rfl rfl ((FW.f_pure (FW.p_lss hk.kn (FW.holds_nil _) rfl rfl))) ?_; clear hk; intro a w hk
  refine FW.lend (hK11 _ _ ?_); clear hK11 K'
  refine FW.wseq ?_; intro K' hK12
  refine FW.wcondF (b := (decide (v16 < v15))) hk h rfl (fun h hb => ?_) (fun h hb => ?_)
  · skip
    refine wp_skip ?_
    (repeat first | refine FW.then_normal ?_ | refine FW.block_normal ?_); refine hK12 _ _ ?_
    refine FW.wseq ?_; intro K' hK13
    refine wp_block ?_
    refine FW.wreg ?_; intro K' hK14
    obtain ⟨hc1, h⟩ := FW.chk h
    refine FW.lfun (y := .ref (ApiChange.cells (List.getD v14 (Int.toNat v16) default))) hk rfl rfl rfl rfl (FW.f_indexAddr (R := r_ApiChange_cells) (f := ApiChange.cells) (l := v14) (sz := 3) r_ApiChange_cells_eq (fun _ => rfl) hk (FW.holds_nil _) rfl rfl Go.Proofs.Tryz.underlying22 (by kernel_rfl) hc1) ?_; clear hk; intro a w hk
    refine FW.lfun (y := .agg ((ApiChange.cells (List.getD v14 (Int.toNat v16) default)))) hk rfl rfl rfl rfl (FW.f_load hk (FW.holds_nil _) rfl Go.Proofs.Tryz.underlying29 rfl rfl rfl rfl) ?_; clear hk; intro a w hk
    refine FW.l_alloc (zs := (ApiChange.cells (⟨0, [], false⟩ : ApiChange))) [] hk rfl rfl rfl rfl ?_; clear hk; intro bx1 a w hk
    refine FW.l_store (I' := [FW.blk bx1 29 ((ApiChange.cells (List.getD v14 (Int.toNat v16) default)))]) (cs' := (ApiChange.cells (List.getD v14 (Int.toNat v16) default))) (j := 0) hk rfl rfl rfl rfl rfl (by kernel_rfl) rfl rfl ?_; clear hk; intro w hk
    refine FW.lend (hK14 _ _ ?_); clear hK14 K'
    refine FW.wseq ?_; intro K' hK15
    refine FW.wreg ?_; intro K' hK16
    refine FW.lfun (y := .lit (.pointer (some ⟨bx1, 2, none⟩))) hk rfl rfl rfl rfl (FW.f_fieldPtr hk (FW.holds_nil _) rfl Go.Proofs.Tryz.underlying29 rfl (by kernel_rfl) rfl) ?_; clear hk; intro a w hk
    refine FW.lfun (y := .lit (.bool ((List.getD v14 (Int.toNat v16) default).Gone))) hk rfl rfl rfl rfl (FW.f_loadBlk1 hk (FW.holds_nil _) (j := 0) rfl rfl Go.Proofs.Tryz.underlying4 rfl rfl) ?_; clear hk; intro a w hk
    refine FW.lfun (y := .lit (.bool ((List.getD v14 (Int.toNat v16) default).Gone))) hk rfl rfl rfl rfl (FW.f_move hk (FW.holds_nil _) rfl) ?_; clear hk; intro a w hk
    refine FW.lfunG (y := .lit (.pointer (some ⟨bx1, 1, none⟩))) hk rfl rfl rfl rfl rfl rfl rfl rfl (fun hc => FW.f_fieldPtr hk hc rfl Go.Proofs.Tryz.underlying29 rfl (by kernel_rfl) rfl) ?_; clear hk; intro a w hk
    refine FW.lfunG (y := .lit (.string (FW.B ((List.getD v14 (Int.toNat v16) default).S)))) hk rfl rfl rfl rfl rfl rfl rfl rfl (fun hc => FW.f_loadBlk1 hk hc (j := 0) rfl rfl Go.Proofs.Tryz.underlying9 rfl rfl) ?_; clear hk; intro a w hk
    refine FW.lfunG (y := .lit (.bool (!decide (((List.getD v14 (Int.toNat v16) default).S) = ([] : List UInt8))))) hk rfl rfl rfl rfl rfl rfl rfl rfl (fun hc => (FW.f_pure (FW.p_sneq hk.kn hc rfl rfl))) ?_; clear hk; intro a w hk
    refine FW.lfun (y := .lit (.bool (((List.getD v14 (Int.toNat v16) default).Gone) && (!decide (((List.getD v14 (Int.toNat v16) default).S) = ([] : List UInt8)))))) hk rfl rfl rfl rfl ((FW.f_pure (FW.p_pick_and hk.kn (FW.holds_nil _) rfl rfl))) ?_; clear hk; intro a w hk
    refine FW.lend (hK16 _ _ ?_); clear hK16 K'
    refine FW.wcondF (b := (((List.getD v14 (Int.toNat v16) default).Gone) && (!decide (((List.getD v14 (Int.toNat v16) default).S) = ([] : List UInt8))))) hk h rfl (fun h hb => ?_) (fun h hb => ?_)
    · skip
      refine FW.wreg ?_; intro K' hK17
      refine FW.lfun (y := .lit (.int .i64 1)) hk rfl rfl rfl rfl (FW.f_assign hk (FW.holds_nil _) rfl) ?_; clear hk; intro a w hk
      refine FW.lend (hK17 _ _ ?_); clear hK17 K'
      refine wp_ret ?_
      (repeat first | refine FW.then_ret ?_ | refine FW.block_ret ?_)
      obtain rfl := Option.some.inj h
      exact FW.fret1 hk rfl rfl
    refine wp_skip ?_
    (repeat first | refine FW.then_normal ?_ | refine FW.block_normal ?_); refine hK15 _ _ ?_
    refine FW.wreg ?_; intro K' hK18
    refine FW.lfun (y := .lit (.pointer (some ⟨bx1, 1, none⟩))) hk rfl rfl rfl rfl (FW.f_fieldPtr hk (FW.holds_nil _) rfl Go.Proofs.Tryz.underlying29 rfl (by kernel_rfl) rfl) ?_; clear hk; intro a w hk
    refine FW.lfun (y := .lit (.string (FW.B ((List.getD v14 (Int.toNat v16) default).S)))) hk rfl rfl rfl rfl (FW.f_loadBlk1 hk (FW.holds_nil _) (j := 0) rfl rfl Go.Proofs.Tryz.underlying9 rfl rfl) ?_; clear hk; intro a w hk
    refine FW.lfun (y := .lit (.int .i64 (List.length ((List.getD v14 (Int.toNat v16) default).S) : Int))) hk rfl rfl rfl rfl ((FW.f_pure (FW.p_slen Go.Proofs.Tryz.underlying9 hk.kn (FW.holds_nil _) rfl))) ?_; clear hk; intro a w hk
    refine FW.lfun (y := .lit (.bool (decide (498 < (List.length ((List.getD v14 (Int.toNat v16) default).S) : Int))))) hk rfl rfl rfl rfl ((FW.f_pure (FW.p_gtr hk.kn (FW.holds_nil _) rfl rfl))) ?_; clear hk; intro a w hk
    refine FW.lend (hK18 _ _ ?_); clear hK18 K'
    refine FW.wcondF (b := (decide (498 < (List.length ((List.getD v14 (Int.toNat v16) default).S) : Int)))) hk h rfl (fun h hb => ?_) (fun h hb => ?_)
    · skip
      refine FW.wreg ?_; intro K' hK19
      refine FW.lfun (y := .lit (.int .i64 3)) hk rfl rfl rfl rfl (FW.f_assign hk (FW.holds_nil _) rfl) ?_; clear hk; intro a w hk
      refine FW.lend (hK19 _ _ ?_); clear hK19 K'
      refine wp_ret ?_
      (repeat first | refine FW.then_ret ?_ | refine FW.block_ret ?_)
      obtain rfl := Option.some.inj h
      exact FW.fret1 hk rfl rfl
    refine wp_skip ?_
    (repeat first | refine FW.then_normal ?_ | refine FW.block_normal ?_); refine hK13 _ _ ?_
    refine FW.wreg1 ?_
    refine FW.lfun (y := .lit (.int .i64 (IntKind.wrap .i64 (v16 + 1)))) hk rfl rfl rfl rfl ((FW.f_pure (FW.p_add hk.kn (FW.holds_nil _) rfl rfl))) ?_; clear hk; intro a w hk
    refine FW.lfun (y := .lit (.int .i64 (IntKind.wrap .i64 (v16 + 1)))) hk rfl rfl rfl rfl (FW.f_move hk (FW.holds_nil _) rfl) ?_; clear hk; intro a w hk
    refine wpList_nil ?_
    (repeat first | refine FW.then_normal ?_ | refine FW.block_normal ?_); exact hK10 (kl1, v1, v14, v15, (IntKind.wrap .i64 (v16 + 1))) _ _ (Nat.lt_succ_self _) ⟨(hk.drop 0).sub ⟨rfl, rfl, rfl, rfl, rfl, trivial⟩, h⟩
  cases h
theorem rec_Store_IDs_nil.ok   (r : List Int) (h : rec_Store_IDs_nil.f = some r) :
    FW.Ok Go.Proofs.Tryz.prog 29 [.lit (.pointer none)] (.row (r_c_u64 r)) := by
  refine FW.enter (xs := [.lit (.pointer none)]) Go.Proofs.Tryz.func29 rfl Go.Proofs.Tryz.ntmps29 rfl ?_
  intro M w0 a hk
  unfold rec_Store_IDs_nil.f at h
  refine FW.wreg ?_; intro K' hK1
  refine FW.lfun (y := .row (r_c_u64 [])) hk rfl rfl rfl rfl (FW.f_assignNil) ?_; clear hk; intro a w hk
  refine FW.lend (hK1 _ _ ?_); clear hK1 K'
  refine FW.wseq ?_; intro K' hK2
  refine FW.wreg ?_; intro K' hK3
  refine FW.lfun (y := .lit (.pointer none)) hk rfl rfl rfl rfl (FW.f_move hk (FW.holds_nil _) rfl) ?_; clear hk; intro a w hk
  refine FW.lfun (y := .lit (.bool true)) hk rfl rfl rfl rfl ((FW.f_pure (FW.p_ptrEq Go.Proofs.Tryz.underlying23 hk.kn (FW.holds_nil _) rfl rfl rfl))) ?_; clear hk; intro a w hk
  refine FW.lend (hK3 _ _ ?_); clear hK3 K'
  refine FW.wcondT hk rfl ?_
  refine FW.wreg ?_; intro K' hK4
  refine FW.lfun (y := .row (r_c_u64 [])) hk rfl rfl rfl rfl (FW.f_assignNil) ?_; clear hk; intro a w hk
  refine FW.lend (hK4 _ _ ?_); clear hK4 K'
  refine wp_ret ?_
  (repeat first | refine FW.then_ret ?_ | refine FW.block_ret ?_)
  obtain rfl := Option.some.inj h
  exact FW.fret1 hk rfl rfl
theorem rec_Store_Round_nil.ok   (r : Int) (h : rec_Store_Round_nil.f = some r) :
    FW.Ok Go.Proofs.Tryz.prog 22 [.lit (.pointer none)] (.lit (.int .u64 r)) := by
  refine FW.enter (xs := [.lit (.pointer none)]) Go.Proofs.Tryz.func22 rfl Go.Proofs.Tryz.ntmps22 rfl ?_
  intro M w0 a hk
  unfold rec_Store_Round_nil.f at h
  refine FW.wreg ?_; intro K' hK1
  refine FW.lfun (y := .lit (.int .u64 0)) hk rfl rfl rfl rfl (FW.f_assign hk (FW.holds_nil _) rfl) ?_; clear hk; intro a w hk
  refine FW.lend (hK1 _ _ ?_); clear hK1 K'
  refine FW.wseq ?_; intro K' hK2
  refine FW.wreg ?_; intro K' hK3
  refine FW.lfun (y := .lit (.pointer none)) hk rfl rfl rfl rfl (FW.f_move hk (FW.holds_nil _) rfl) ?_; clear hk; intro a w hk
  refine FW.lfun (y := .lit (.bool true)) hk rfl rfl rfl rfl ((FW.f_pure (FW.p_ptrEq Go.Proofs.Tryz.underlying23 hk.kn (FW.holds_nil _) rfl rfl rfl))) ?_; clear hk; intro a w hk
  refine FW.lend (hK3 _ _ ?_); clear hK3 K'
  refine FW.wcondT hk rfl ?_
  refine FW.wreg ?_; intro K' hK4
  refine FW.lfun (y := .lit (.int .u64 0)) hk rfl rfl rfl rfl (FW.f_assign hk (FW.holds_nil _) rfl) ?_; clear hk; intro a w hk
  refine FW.lend (hK4 _ _ ?_); clear hK4 K'
  refine wp_ret ?_
  (repeat first | refine FW.then_ret ?_ | refine FW.block_ret ?_)
  obtain rfl := Option.some.inj h
  exact FW.fret1 hk rfl rfl
end Go.Proofs.YtfbkgaandmebaaaGreat
namespace Go.Proofs.YtfbkgaandmebaaaGreat
set_option linter.unusedVariables false
set_option maxRecDepth 20000
set_option maxHeartbeats 10000000
theorem offshootlaw06_RecNone.ok (K : Nat) (v0 : Int) (v1 : ApiChange) (r : Bool) (h : offshootlaw06_RecNone.f K v0 v1 = some r) :
    FW.Ok Go.Proofs.Tryz.prog 8 [.lit (.int .i64 v0), .agg (ApiChange.cells v1)] (.lit (.bool r)) := by
  refine FW.enter (xs := [.lit (.int .i64 v0), .agg (ApiChange.cells v1)]) Go.Proofs.Tryz.func8 rfl Go.Proofs.Tryz.ntmps8 rfl ?_
  intro M w0 a hk
  unfold offshootlaw06_RecNone.f at h
  refine FW.wreg ?_; intro K' hK1
  refine FW.l_box (cs := (ApiChange.cells v1)) hk rfl rfl rfl rfl rfl ?_; clear hk; intro bx1 a w hk
  refine FW.lfun (y := .lit (.bool false)) hk rfl rfl rfl rfl (FW.f_assign hk (FW.holds_nil _) rfl) ?_; clear hk; intro a w hk
  refine FW.lend (hK1 _ _ ?_); clear hK1 K'
  refine FW.wseq ?_; intro K' hK2
  refine FW.wreg ?_; intro K' hK3
  obtain ⟨t1, hr_t1, h⟩ := FW.bnd h
  refine FW.lfun (y := .lit (.bool t1)) hk rfl rfl rfl rfl (FW.f_call hk (FW.holds_nil _) rfl rfl Go.Proofs.Tryz.func12 rfl (by kernel_rfl) (offshootlaw06_awake.ok K  _ hr_t1)) ?_; clear hk; intro a w hk
  refine FW.lfun (y := .lit (.bool (!t1))) hk rfl rfl rfl rfl ((FW.f_pure (FW.p_not hk.kn (FW.holds_nil _) rfl))) ?_; clear hk; intro a w hk
  refine FW.lend (hK3 _ _ ?_); clear hK3 K'
  refine FW.wcondF (b := (!t1)) hk h rfl (fun h hb => ?_) (fun h hb => ?_)
  · skip
    refine FW.wreg ?_; intro K' hK4
    refine FW.lfun (y := .lit (.bool false)) hk rfl rfl rfl rfl (FW.f_assign hk (FW.holds_nil _) rfl) ?_; clear hk; intro a w hk
    refine FW.lend (hK4 _ _ ?_); clear hK4 K'
    refine wp_ret ?_
    (repeat first | refine FW.then_ret ?_ | refine FW.block_ret ?_)
    obtain rfl := Option.some.inj h
    exact FW.fret1 hk rfl rfl
  refine wp_skip ?_
  (repeat first | refine FW.then_normal ?_ | refine FW.block_normal ?_); refine hK2 _ _ ?_
  refine FW.wreg ?_; intro K' hK5
  refine FW.lfun (y := .lit (.pointer none)) hk rfl rfl rfl rfl (FW.f_assign hk (FW.holds_nil _) rfl) ?_; clear hk; intro a w hk
  refine FW.lend (hK5 _ _ ?_); clear hK5 K'
  refine FW.wreg ?_; intro K' hK6
  refine FW.lfun (y := .lit (.pointer none)) hk rfl rfl rfl rfl (FW.f_move hk (FW.holds_nil _) rfl) ?_; clear hk; intro a w hk
  refine FW.lfun (y := .lit (.pointer (some ⟨bx1, 0, none⟩))) hk rfl rfl rfl rfl (FW.f_fieldPtr hk (FW.holds_nil _) rfl Go.Proofs.Tryz.underlying29 rfl (by kernel_rfl) rfl) ?_; clear hk; intro a w hk
  refine FW.lfun (y := .lit (.int .u64 v1.ID)) hk rfl rfl rfl rfl (FW.f_loadBlk1 hk (FW.holds_nil _) (j := 0) rfl rfl Go.Proofs.Tryz.underlying27 rfl rfl) ?_; clear hk; intro a w hk
  obtain ⟨t2, hr_t2, h⟩ := FW.bnd h
  refine FW.lfun (y := .tup [.lit (.string (FW.B t2.1)), .lit (.bool t2.2)]) hk rfl rfl rfl rfl (FW.f_call hk (FW.holds_nil _) rfl rfl Go.Proofs.Tryz.func11 rfl (by kernel_rfl) (rec_Store_Get_nil.ok v1.ID _ hr_t2)) ?_; clear hk; intro a w hk
  refine FW.lfun (y := .tup [.lit (.string (FW.B t2.1)), .lit (.bool t2.2)]) hk rfl rfl rfl rfl (FW.f_move hk (FW.holds_nil _) rfl) ?_; clear hk; intro a w hk
  refine FW.lfun (y := .lit (.string (FW.B t2.1))) hk rfl rfl rfl rfl (FW.f_extract hk (FW.holds_nil _) rfl rfl) ?_; clear hk; intro a w hk
  refine FW.lfun (y := .lit (.bool t2.2)) hk rfl rfl rfl rfl (FW.f_extract hk (FW.holds_nil _) rfl rfl) ?_; clear hk; intro a w hk
  refine FW.lfun (y := .lit (.string (FW.B t2.1))) hk rfl rfl rfl rfl (FW.f_assign hk (FW.holds_nil _) rfl) ?_; clear hk; intro a w hk
  refine FW.lfun (y := .lit (.bool t2.2)) hk rfl rfl rfl rfl (FW.f_assign hk (FW.holds_nil _) rfl) ?_; clear hk; intro a w hk
  refine FW.lend (hK6 _ _ ?_); clear hK6 K'
  obtain ⟨t3, hr_t3, h⟩ := FW.bnd h
  obtain ⟨t4, hr_t4, h⟩ := FW.bnd h
  refine FW.wdraw (by kernel_rfl) (by kernel_rfl) hk ?_; clear hk
  refine FW.dfun (y := .lit (.pointer none)) rfl rfl rfl rfl (fun a w hk => FW.f_move hk (FW.holds_nil _) rfl) ?_
  refine FW.dfun (y := .lit (.func (.func 34) #[] #[])) rfl rfl rfl rfl (fun a w hk => FW.f_call hk (FW.holds_nil _) rfl rfl Go.Proofs.Tryz.func17 rfl (by kernel_rfl) (rec_Store_Snap_nil.ok  _ hr_t3)) ?_
  refine FW.dfun (y := .lit (.pointer (some ⟨bx1, 0, none⟩))) rfl rfl rfl rfl (fun a w hk => FW.f_fieldPtr hk (FW.holds_nil _) rfl Go.Proofs.Tryz.underlying29 rfl (by kernel_rfl) rfl) ?_
  refine FW.dfun (y := .lit (.int .u64 v1.ID)) rfl rfl rfl rfl (fun a w hk => FW.f_loadBlk1 hk (FW.holds_nil _) (j := 0) rfl rfl Go.Proofs.Tryz.underlying27 rfl rfl) ?_
  refine FW.dfun (y := .tup [.lit (.string (FW.B t4.1)), .lit (.bool t4.2)]) rfl rfl rfl rfl (fun a w hk => FW.f_call hk (FW.holds_nil _) rfl rfl Go.Proofs.Tryz.func34 rfl (by kernel_rfl) (rec_Store_Snap_1.ok v1.ID _ hr_t4)) ?_
  refine FW.dfun (y := .tup [.lit (.string (FW.B t4.1)), .lit (.bool t4.2)]) rfl rfl rfl rfl (fun a w hk => FW.f_move hk (FW.holds_nil _) rfl) ?_
  refine FW.dfun (y := .lit (.string (FW.B t4.1))) rfl rfl rfl rfl (fun a w hk => FW.f_extract hk (FW.holds_nil _) rfl rfl) ?_
  refine FW.dfun (y := .lit (.bool t4.2)) rfl rfl rfl rfl (fun a w hk => FW.f_extract hk (FW.holds_nil _) rfl rfl) ?_
  refine FW.dfun (y := .lit (.string (FW.B t4.1))) rfl rfl rfl rfl (fun a w hk => FW.f_assign hk (FW.holds_nil _) rfl) ?_
  refine FW.dfun (y := .lit (.bool t4.2)) rfl rfl rfl rfl (fun a w hk => FW.f_assign hk (FW.holds_nil _) rfl) ?_
  refine FW.dend ?_; intro a w hk
  refine FW.wreg ?_; intro K' hK8
  obtain ⟨t5, hr_t5, h⟩ := FW.bnd h
  refine FW.l_callH (I1 := ([] : List FW.It)) (I2 := [FW.blk bx1 29 ((ApiChange.cells v1))]) (js := []) hk rfl rfl rfl rfl rfl Go.Proofs.Tryz.func19 rfl (by kernel_rfl) (rec_Open_nil_opt.ok K  _ hr_t5 ) ?_; clear hk
  rintro _ _ ⟨bx2, xbNt5_0_1, xrNt5_0_2, rfl, rfl⟩ a w hk
  replace hk := FW.S.dropL hk
  refine FW.lfun (y := .tup [FW.ptrO t5.1 bx2, .lit (.int .i64 t5.2)]) hk rfl rfl rfl rfl (FW.f_move hk (FW.holds_nil _) rfl) ?_; clear hk; intro a w hk
  refine FW.lfun (y := FW.ptrO t5.1 bx2) hk rfl rfl rfl rfl (FW.f_extract hk (FW.holds_nil _) rfl rfl) ?_; clear hk; intro a w hk
  refine FW.lfun (y := .lit (.int .i64 t5.2)) hk rfl rfl rfl rfl (FW.f_extract hk (FW.holds_nil _) rfl rfl) ?_; clear hk; intro a w hk
  refine FW.lfun (y := FW.ptrO t5.1 bx2) hk rfl rfl rfl rfl (FW.f_assign hk (FW.holds_nil _) rfl) ?_; clear hk; intro a w hk
  refine FW.lfun (y := .lit (.int .i64 t5.2)) hk rfl rfl rfl rfl (FW.f_assign hk (FW.holds_nil _) rfl) ?_; clear hk; intro a w hk
  refine FW.lend (hK8 _ _ ?_); clear hK8 K'
  refine FW.wreg ?_; intro K' hK9
  refine FW.lfun (y := .lit (.int .i64 v0)) hk rfl rfl rfl rfl (FW.f_move hk (FW.holds_nil _) rfl) ?_; clear hk; intro a w hk
  refine FW.lfun (y := .lit (.int .i64 (FW.andI .i64 v0 31))) hk rfl rfl rfl rfl ((FW.f_pure (FW.p_and hk.kn (FW.holds_nil _) rfl rfl))) ?_; clear hk; intro a w hk
  refine FW.lfun (y := .lit (.int .i64 (FW.andI .i64 v0 31))) hk rfl rfl rfl rfl (FW.f_assign hk (FW.holds_nil _) rfl) ?_; clear hk; intro a w hk
  refine FW.lend (hK9 _ _ ?_); clear hK9 K'
  refine FW.wreg ?_; intro K' hK10
  refine FW.lfun (y := .lit (.int .i64 (FW.andI .i64 v0 31))) hk rfl rfl rfl rfl (FW.f_move hk (FW.holds_nil _) rfl) ?_; clear hk; intro a w hk
  obtain ⟨t6, hr_t6, h⟩ := FW.bnd h
  refine FW.l_callH (I1 := ([] : List FW.It)) (I2 := [FW.blk bx1 29 ((ApiChange.cells v1))]) (js := []) hk rfl rfl rfl rfl rfl Go.Proofs.Tryz.func27 rfl (by kernel_rfl) (dev_New.ok K (FW.andI .i64 v0 31) _ hr_t6 ) ?_; clear hk
  rintro _ _ ⟨bx3, xdNt6_0_0, xcNt6_0_0, xrNt6_0_1, xdNt6_0_3, xcNt6_0_3, rfl, rfl⟩ a w hk
  refine FW.lfun (y := .tup [.lit (.pointer (some ⟨bx3, 0, none⟩)), .lit (.int .i64 t6.2)]) hk rfl rfl rfl rfl (FW.f_move hk (FW.holds_nil _) rfl) ?_; clear hk; intro a w hk
  refine FW.lfun (y := .lit (.pointer (some ⟨bx3, 0, none⟩))) hk rfl rfl rfl rfl (FW.f_extract hk (FW.holds_nil _) rfl rfl) ?_; clear hk; intro a w hk
  refine FW.lfun (y := .lit (.int .i64 t6.2)) hk rfl rfl rfl rfl (FW.f_extract hk (FW.holds_nil _) rfl rfl) ?_; clear hk; intro a w hk
  refine FW.lfun (y := .lit (.pointer (some ⟨bx3, 0, none⟩))) hk rfl rfl rfl rfl (FW.f_assign hk (FW.holds_nil _) rfl) ?_; clear hk; intro a w hk
  refine FW.lfun (y := .lit (.int .i64 t6.2)) hk rfl rfl rfl rfl (FW.f_assign hk (FW.holds_nil _) rfl) ?_; clear hk; intro a w hk
  refine FW.lend (hK10 _ _ ?_); clear hK10 K'
  refine FW.wreg ?_; intro K' hK11
  refine FW.lfun (y := .lit (.pointer (some ⟨bx3, 0, none⟩))) hk rfl rfl rfl rfl (FW.f_move hk (FW.holds_nil _) rfl) ?_; clear hk; intro a w hk
  obtain ⟨t7, hr_t7, h⟩ := FW.bnd h
  refine FW.l_callH (I1 := (ODevDev.items bx3 xdNt6_0_0 xcNt6_0_0 xrNt6_0_1 xdNt6_0_3 xcNt6_0_3 t6.1)) (I2 := [FW.blk bx1 29 ((ApiChange.cells v1))]) (js := [3, 3, 3, 3]) hk rfl rfl rfl rfl rfl Go.Proofs.Tryz.func19 rfl (by kernel_rfl) (rec_Open_opt.ok K t6.1 _ hr_t7 bx3 xdNt6_0_0 xcNt6_0_0 xrNt6_0_1 xdNt6_0_3 xcNt6_0_3) ?_; clear hk
  rintro _ _ ⟨bx4, xbNt7_0_1, xrNt7_0_2, zd1, zc1, zr1, zd2, zc2, rfl, rfl⟩ a w hk
  replace hk := FW.S.dropL2 hk
  refine FW.lfun (y := .tup [FW.ptrO t7.1 bx4, .lit (.int .i64 t7.2.1)]) hk rfl rfl rfl rfl (FW.f_move hk (FW.holds_nil _) rfl) ?_; clear hk; intro a w hk
  refine FW.lfun (y := FW.ptrO t7.1 bx4) hk rfl rfl rfl rfl (FW.f_extract hk (FW.holds_nil _) rfl rfl) ?_; clear hk; intro a w hk
  refine FW.lfun (y := .lit (.int .i64 t7.2.1)) hk rfl rfl rfl rfl (FW.f_extract hk (FW.holds_nil _) rfl rfl) ?_; clear hk; intro a w hk
  refine FW.lfun (y := FW.ptrO t7.1 bx4) hk rfl rfl rfl rfl (FW.f_assign hk (FW.holds_nil _) rfl) ?_; clear hk; intro a w hk
  refine FW.lfun (y := .lit (.int .i64 t7.2.1)) hk rfl rfl rfl rfl (FW.f_assign hk (FW.holds_nil _) rfl) ?_; clear hk; intro a w hk
  refine FW.lend (hK11 _ _ ?_); clear hK11 K'
  refine FW.wreg ?_; intro K' hK12
  obtain ⟨t8, hr_t8, h⟩ := FW.bnd h
  refine FW.l_callH (I1 := ([] : List FW.It)) (I2 := [FW.blk bx3 75 ([.lit (.slice zd1 (List.length t7.2.2.sure) zc1), .lit (.map (some zr1)), .lit (.int .i64 t7.2.2.steps), .lit (.slice zd2 (List.length t7.2.2.falls) zc2), .lit (.bool t7.2.2.off)]), FW.orow zd1 zc1 9 1 c_str t7.2.2.sure, FW.mapI (.int .i64) (Value.int .i64) FW.evS zr1 t7.2.2.cache, FW.orow zd2 zc2 52 3 ApiFall.cells t7.2.2.falls, FW.blk bx1 29 ((ApiChange.cells v1))]) (js := []) hk rfl rfl rfl rfl rfl Go.Proofs.Tryz.func9 rfl (by kernel_rfl) (offshootlaw06_open.ok K 20 _ hr_t8 ) ?_; clear hk
  rintro _ _ ⟨bx6, xbNt8_0_1, xrNt8_0_2, bx5, xdNt8_1_0, xcNt8_1_0, xrNt8_1_1, xdNt8_1_3, xcNt8_1_3, rfl, rfl⟩ a w hk
  refine FW.lfun (y := .tup [.lit (.pointer (some ⟨bx6, 0, none⟩)), .lit (.pointer (some ⟨bx5, 0, none⟩)), .lit (.bool t8.2.2)]) hk rfl rfl rfl rfl (FW.f_move hk (FW.holds_nil _) rfl) ?_; clear hk; intro a w hk
  refine FW.lfun (y := .lit (.pointer (some ⟨bx6, 0, none⟩))) hk rfl rfl rfl rfl (FW.f_extract hk (FW.holds_nil _) rfl rfl) ?_; clear hk; intro a w hk
  refine FW.lfun (y := .lit (.pointer (some ⟨bx5, 0, none⟩))) hk rfl rfl rfl rfl (FW.f_extract hk (FW.holds_nil _) rfl rfl) ?_; clear hk; intro a w hk
  refine FW.lfun (y := .lit (.bool t8.2.2)) hk rfl rfl rfl rfl (FW.f_extract hk (FW.holds_nil _) rfl rfl) ?_; clear hk; intro a w hk
  refine FW.lfun (y := .lit (.pointer (some ⟨bx6, 0, none⟩))) hk rfl rfl rfl rfl (FW.f_assign hk (FW.holds_nil _) rfl) ?_; clear hk; intro a w hk
  refine FW.lfun (y := .lit (.pointer (some ⟨bx5, 0, none⟩))) hk rfl rfl rfl rfl (FW.f_assign hk (FW.holds_nil _) rfl) ?_; clear hk; intro a w hk
  refine FW.lfun (y := .lit (.bool t8.2.2)) hk rfl rfl rfl rfl (FW.f_assign hk (FW.holds_nil _) rfl) ?_; clear hk; intro a w hk
  refine FW.lend (hK12 _ _ ?_); clear hK12 K'
  refine FW.wreg ?_; intro K' hK13
  refine FW.lfun (y := .lit (.pointer (some ⟨bx5, 0, none⟩))) hk rfl rfl rfl rfl (FW.f_move hk (FW.holds_nil _) rfl) ?_; clear hk; intro a w hk
  obtain ⟨t9, hr_t9, h⟩ := FW.bnd h
  refine FW.l_callH (I1 := (ODevDev.items bx5 xdNt8_1_0 xcNt8_1_0 xrNt8_1_1 xdNt8_1_3 xcNt8_1_3 t8.2.1)) (I2 := [FW.blk bx6 69 ([.lit (.pointer (some ⟨bx5, 0, none⟩)), .lit (.pointer (some ⟨xbNt8_0_1, 0, none⟩)), .lit (.map (some xrNt8_0_2)), .lit (.int .i64 t8.1.half), .lit (.int .u64 t8.1.round), .lit (.bool t8.1.dead)]), FW.mapI (.int .u64) (Value.int .u64) FW.evS xrNt8_0_2 t8.1.m, FW.blk xbNt8_0_1 99 ([.lit (.pointer (some ⟨bx5, 0, none⟩)), .lit (.int .i64 t8.1.l.from_), .lit (.int .i64 t8.1.l.to_), .lit (.int .i64 t8.1.l.at_), .lit (.int .u64 t8.1.l.next)]), FW.blk bx3 75 ([.lit (.slice zd1 (List.length t7.2.2.sure) zc1), .lit (.map (some zr1)), .lit (.int .i64 t7.2.2.steps), .lit (.slice zd2 (List.length t7.2.2.falls) zc2), .lit (.bool t7.2.2.off)]), FW.orow zd1 zc1 9 1 c_str t7.2.2.sure, FW.mapI (.int .i64) (Value.int .i64) FW.evS zr1 t7.2.2.cache, FW.orow zd2 zc2 52 3 ApiFall.cells t7.2.2.falls, FW.blk bx1 29 ((ApiChange.cells v1))]) (js := [6, 6, 6, 6]) hk rfl rfl rfl rfl rfl Go.Proofs.Tryz.func26 rfl (by kernel_rfl) (dev_Dev_Crash.ok K t8.2.1 0 0 _ hr_t9 bx5 xdNt8_1_0 xcNt8_1_0 xrNt8_1_1 xdNt8_1_3 xcNt8_1_3) ?_; clear hk
  rintro _ _ ⟨zd3, zc3, zr2, zd4, zc4, rfl, rfl⟩ a w hk
  refine FW.lend (hK13 _ _ ?_); clear hK13 K'
  refine FW.wreg ?_; intro K' hK14
  refine FW.lfun (y := .lit (.pointer (some ⟨bx6, 0, none⟩))) hk rfl rfl rfl rfl (FW.f_move hk (FW.holds_nil _) rfl) ?_; clear hk; intro a w hk
  obtain ⟨t10, hr_t10, h⟩ := FW.bnd h
  refine FW.l_callH (I1 := (ORecStore.items bx6 bx5 xbNt8_0_1 xrNt8_0_2 t8.1) ++ (ODevDev.items bx5 zd3 zc3 zr2 zd4 zc4 t9)) (I2 := [FW.blk bx3 75 ([.lit (.slice zd1 (List.length t7.2.2.sure) zc1), .lit (.map (some zr1)), .lit (.int .i64 t7.2.2.steps), .lit (.slice zd2 (List.length t7.2.2.falls) zc2), .lit (.bool t7.2.2.off)]), FW.orow zd1 zc1 9 1 c_str t7.2.2.sure, FW.mapI (.int .i64) (Value.int .i64) FW.evS zr1 t7.2.2.cache, FW.orow zd2 zc2 52 3 ApiFall.cells t7.2.2.falls, FW.blk bx1 29 ((ApiChange.cells v1))]) (js := [3, 3, 3, 3, 6, 6, 6]) hk rfl rfl rfl rfl rfl Go.Proofs.Tryz.func10 rfl (by kernel_rfl) (FW.OkH.nil1 (rec_Store_Commit.ok K t8.1 t9 [] _ hr_t10 bx6 bx5 xbNt8_0_1 xrNt8_0_2 zd3 zc3 zr2 zd4 zc4)) ?_; clear hk
  rintro _ _ ⟨zb1, zr3, zd5, zc5, zr4, zd6, zc6, rfl, rfl⟩ a w hk
  refine FW.lfun (y := .lit (.int .i64 t10.1)) hk rfl rfl rfl rfl (FW.f_assign hk (FW.holds_nil _) rfl) ?_; clear hk; intro a w hk
  refine FW.lend (hK14 _ _ ?_); clear hK14 K'
  refine FW.wreg ?_; intro K' hK15
  refine FW.lfun (y := .lit (.pointer (some ⟨bx5, 0, none⟩))) hk rfl rfl rfl rfl (FW.f_move hk (FW.holds_nil _) rfl) ?_; clear hk; intro a w hk
  obtain ⟨t11, hr_t11, h⟩ := FW.bnd h
  refine FW.l_callH (I1 := (ODevDev.items bx5 zd5 zc5 zr4 zd6 zc6 t10.2.2)) (I2 := [FW.blk bx6 69 ([.lit (.pointer (some ⟨bx5, 0, none⟩)), .lit (.pointer (some ⟨zb1, 0, none⟩)), .lit (.map (some zr3)), .lit (.int .i64 t10.2.1.half), .lit (.int .u64 t10.2.1.round), .lit (.bool t10.2.1.dead)]), FW.mapI (.int .u64) (Value.int .u64) FW.evS zr3 t10.2.1.m, FW.blk zb1 99 ([.lit (.pointer (some ⟨bx5, 0, none⟩)), .lit (.int .i64 t10.2.1.l.from_), .lit (.int .i64 t10.2.1.l.to_), .lit (.int .i64 t10.2.1.l.at_), .lit (.int .u64 t10.2.1.l.next)]), FW.blk bx3 75 ([.lit (.slice zd1 (List.length t7.2.2.sure) zc1), .lit (.map (some zr1)), .lit (.int .i64 t7.2.2.steps), .lit (.slice zd2 (List.length t7.2.2.falls) zc2), .lit (.bool t7.2.2.off)]), FW.orow zd1 zc1 9 1 c_str t7.2.2.sure, FW.mapI (.int .i64) (Value.int .i64) FW.evS zr1 t7.2.2.cache, FW.orow zd2 zc2 52 3 ApiFall.cells t7.2.2.falls, FW.blk bx1 29 ((ApiChange.cells v1))]) (js := [6, 6, 6, 6]) hk rfl rfl rfl rfl rfl Go.Proofs.Tryz.func19 rfl (by kernel_rfl) (rec_Open_opt.ok K t10.2.2 _ hr_t11 bx5 zd5 zc5 zr4 zd6 zc6) ?_; clear hk
  rintro _ _ ⟨bx7, xbNt11_0_1, xrNt11_0_2, zd7, zc7, zr5, zd8, zc8, rfl, rfl⟩ a w hk
  replace hk := FW.S.dropL2 hk
  refine FW.lfun (y := .tup [FW.ptrO t11.1 bx7, .lit (.int .i64 t11.2.1)]) hk rfl rfl rfl rfl (FW.f_move hk (FW.holds_nil _) rfl) ?_; clear hk; intro a w hk
  refine FW.lfun (y := FW.ptrO t11.1 bx7) hk rfl rfl rfl rfl (FW.f_extract hk (FW.holds_nil _) rfl rfl) ?_; clear hk; intro a w hk
  refine FW.lfun (y := .lit (.int .i64 t11.2.1)) hk rfl rfl rfl rfl (FW.f_extract hk (FW.holds_nil _) rfl rfl) ?_; clear hk; intro a w hk
  refine FW.lfun (y := FW.ptrO t11.1 bx7) hk rfl rfl rfl rfl (FW.f_assign hk (FW.holds_nil _) rfl) ?_; clear hk; intro a w hk
  refine FW.lfun (y := .lit (.int .i64 t11.2.1)) hk rfl rfl rfl rfl (FW.f_assign hk (FW.holds_nil _) rfl) ?_; clear hk; intro a w hk
  refine FW.lend (hK15 _ _ ?_); clear hK15 K'
  refine FW.wreg ?_; intro K' hK16
  refine FW.lfun (y := .lit (.pointer (some ⟨bx5, 0, none⟩))) hk rfl rfl rfl rfl (FW.f_move hk (FW.holds_nil _) rfl) ?_; clear hk; intro a w hk
  obtain ⟨t12, hr_t12, h⟩ := FW.bnd h
  refine FW.l_callH (I1 := (ODevDev.items bx5 zd7 zc7 zr5 zd8 zc8 t11.2.2)) (I2 := [FW.blk bx6 69 ([.lit (.pointer (some ⟨bx5, 0, none⟩)), .lit (.pointer (some ⟨zb1, 0, none⟩)), .lit (.map (some zr3)), .lit (.int .i64 t10.2.1.half), .lit (.int .u64 t10.2.1.round), .lit (.bool t10.2.1.dead)]), FW.mapI (.int .u64) (Value.int .u64) FW.evS zr3 t10.2.1.m, FW.blk zb1 99 ([.lit (.pointer (some ⟨bx5, 0, none⟩)), .lit (.int .i64 t10.2.1.l.from_), .lit (.int .i64 t10.2.1.l.to_), .lit (.int .i64 t10.2.1.l.at_), .lit (.int .u64 t10.2.1.l.next)]), FW.blk bx3 75 ([.lit (.slice zd1 (List.length t7.2.2.sure) zc1), .lit (.map (some zr1)), .lit (.int .i64 t7.2.2.steps), .lit (.slice zd2 (List.length t7.2.2.falls) zc2), .lit (.bool t7.2.2.off)]), FW.orow zd1 zc1 9 1 c_str t7.2.2.sure, FW.mapI (.int .i64) (Value.int .i64) FW.evS zr1 t7.2.2.cache, FW.orow zd2 zc2 52 3 ApiFall.cells t7.2.2.falls, FW.blk bx1 29 ((ApiChange.cells v1))]) (js := [3, 3, 3, 3]) hk rfl rfl rfl rfl rfl Go.Proofs.Tryz.func25 rfl (by kernel_rfl) (dev_Dev_Up.ok t11.2.2 _ hr_t12 bx5 zd7 zc7 zr5 zd8 zc8) ?_; clear hk
  rintro _ _ ⟨zd9, zc9, zr6, zd10, zc10, rfl, rfl⟩ a w hk
  refine FW.lend (hK16 _ _ ?_); clear hK16 K'
  refine FW.wreg ?_; intro K' hK17
  obtain ⟨t13, hr_t13, h⟩ := FW.bnd h
  refine FW.lfun (y := .lit (.bool t13)) hk rfl rfl rfl rfl (FW.f_call hk (FW.holds_nil _) rfl rfl Go.Proofs.Tryz.func12 rfl (by kernel_rfl) (offshootlaw06_awake.ok K  _ hr_t13)) ?_; clear hk; intro a w hk
  refine FW.lfun (y := .lit (.bool t13)) hk rfl rfl rfl rfl (FW.f_move hk (FW.holds_nil _) rfl) ?_; clear hk; intro a w hk
  refine FW.lfunG (y := .lit (.bool t8.2.2)) hk rfl rfl rfl rfl rfl rfl rfl rfl (fun hc => FW.f_move hk hc rfl) ?_; clear hk; intro a w hk
  refine FW.lfun (y := .lit (.bool (t13 && t8.2.2))) hk rfl rfl rfl rfl ((FW.f_pure (FW.p_pick_and hk.kn (FW.holds_nil _) rfl rfl))) ?_; clear hk; intro a w hk
  refine FW.lfun (y := .lit (.bool (t13 && t8.2.2))) hk rfl rfl rfl rfl (FW.f_move hk (FW.holds_nil _) rfl) ?_; clear hk; intro a w hk
  refine FW.lfunG (y := .lit (.bool t2.2)) hk rfl rfl rfl rfl rfl rfl rfl rfl (fun hc => FW.f_move hk hc rfl) ?_; clear hk; intro a w hk
  refine FW.lfunG (y := .lit (.bool (!t2.2))) hk rfl rfl rfl rfl rfl rfl rfl rfl (fun hc => (FW.f_pure (FW.p_not hk.kn hc rfl))) ?_; clear hk; intro a w hk
  refine FW.lfun (y := .lit (.bool ((t13 && t8.2.2) && (!t2.2)))) hk rfl rfl rfl rfl ((FW.f_pure (FW.p_pick_and hk.kn (FW.holds_nil _) rfl rfl))) ?_; clear hk; intro a w hk
  refine FW.lfun (y := .lit (.bool ((t13 && t8.2.2) && (!t2.2)))) hk rfl rfl rfl rfl (FW.f_move hk (FW.holds_nil _) rfl) ?_; clear hk; intro a w hk
  refine FW.lfunG (y := .lit (.bool t4.2)) hk rfl rfl rfl rfl rfl rfl rfl rfl (fun hc => FW.f_move hk hc rfl) ?_; clear hk; intro a w hk
  refine FW.lfunG (y := .lit (.bool (!t4.2))) hk rfl rfl rfl rfl rfl rfl rfl rfl (fun hc => (FW.f_pure (FW.p_not hk.kn hc rfl))) ?_; clear hk; intro a w hk
  refine FW.lfun (y := .lit (.bool (((t13 && t8.2.2) && (!t2.2)) && (!t4.2)))) hk rfl rfl rfl rfl ((FW.f_pure (FW.p_pick_and hk.kn (FW.holds_nil _) rfl rfl))) ?_; clear hk; intro a w hk
  refine FW.lfun (y := .lit (.bool (((t13 && t8.2.2) && (!t2.2)) && (!t4.2)))) hk rfl rfl rfl rfl (FW.f_move hk (FW.holds_nil _) rfl) ?_; clear hk; intro a w hk
  refine FW.lfunG (y := .lit (.pointer none)) hk rfl rfl rfl rfl rfl rfl rfl rfl (fun hc => FW.f_move hk hc rfl) ?_; clear hk; intro a w hk
  obtain ⟨t14, hr_t14, h⟩ := FW.bndG h
  refine FW.lfunG (y := .lit (.int .i64 t14)) hk rfl rfl rfl rfl rfl rfl rfl rfl (fun hc => FW.f_call hk hc rfl rfl Go.Proofs.Tryz.func10 rfl (by kernel_rfl) (FW.Ok.nil1 (rec_Store_Commit_nil.ok K [] _ (hr_t14 (FW.asm_out (p := (((t13 && t8.2.2) && (!t2.2)) && (!t4.2)) = true) hk.kn hc (fun e0 => e0)))))) ?_; clear hk; intro a w hk
  refine FW.lfunG (y := .lit (.bool (decide (t14 = 7)))) hk rfl rfl rfl rfl rfl rfl rfl rfl (fun hc => (FW.f_pure (FW.p_eql hk.kn hc rfl rfl))) ?_; clear hk; intro a w hk
  refine FW.lfun (y := .lit (.bool ((((t13 && t8.2.2) && (!t2.2)) && (!t4.2)) && (decide (t14 = 7))))) hk rfl rfl rfl rfl ((FW.f_pure (FW.p_pick_and hk.kn (FW.holds_nil _) rfl rfl))) ?_; clear hk; intro a w hk
  refine FW.lfun (y := .lit (.bool ((((t13 && t8.2.2) && (!t2.2)) && (!t4.2)) && (decide (t14 = 7))))) hk rfl rfl rfl rfl (FW.f_move hk (FW.holds_nil _) rfl) ?_; clear hk; intro a w hk
  refine FW.lfunG (y := .lit (.pointer none)) hk rfl rfl rfl rfl rfl rfl rfl rfl (fun hc => FW.f_move hk hc rfl) ?_; clear hk; intro a w hk
  obtain ⟨t15, hr_t15, h⟩ := FW.bndG h
  refine FW.lfunG (y := .lit (.bool t15)) hk rfl rfl rfl rfl rfl rfl rfl rfl (fun hc => FW.f_call hk hc rfl rfl Go.Proofs.Tryz.func28 rfl (by kernel_rfl) (rec_Store_Dead_nil.ok  _ (hr_t15 (FW.asm_out (p := ((((t13 && t8.2.2) && (!t2.2)) && (!t4.2)) && (decide (t14 = 7))) = true) hk.kn hc (fun e0 => e0))))) ?_; clear hk; intro a w hk
  refine FW.lfun (y := .lit (.bool (((((t13 && t8.2.2) && (!t2.2)) && (!t4.2)) && (decide (t14 = 7))) && t15))) hk rfl rfl rfl rfl ((FW.f_pure (FW.p_pick_and hk.kn (FW.holds_nil _) rfl rfl))) ?_; clear hk; intro a w hk
  refine FW.lfun (y := .lit (.bool (((((t13 && t8.2.2) && (!t2.2)) && (!t4.2)) && (decide (t14 = 7))) && t15))) hk rfl rfl rfl rfl (FW.f_move hk (FW.holds_nil _) rfl) ?_; clear hk; intro a w hk
  refine FW.lfunG (y := .lit (.pointer none)) hk rfl rfl rfl rfl rfl rfl rfl rfl (fun hc => FW.f_move hk hc rfl) ?_; clear hk; intro a w hk
  obtain ⟨t16, hr_t16, h⟩ := FW.bndG h
  refine FW.lfunG (y := .row (r_c_u64 t16)) hk rfl rfl rfl rfl rfl rfl rfl rfl (fun hc => FW.f_call hk hc rfl rfl Go.Proofs.Tryz.func29 rfl (by kernel_rfl) (rec_Store_IDs_nil.ok  _ (hr_t16 (FW.asm_out (p := (((((t13 && t8.2.2) && (!t2.2)) && (!t4.2)) && (decide (t14 = 7))) && t15) = true) hk.kn hc (fun e0 => e0))))) ?_; clear hk; intro a w hk
  refine FW.lfunG (y := .lit (.int .i64 (List.length t16 : Int))) hk rfl rfl rfl rfl rfl rfl rfl rfl (fun hc => FW.f_len (R := r_c_u64) (f := c_u64) (l := t16) r_c_u64_eq Go.Proofs.Tryz.underlying62 hk hc rfl) ?_; clear hk; intro a w hk
  refine FW.lfunG (y := .lit (.bool (decide ((List.length t16 : Int) = 0)))) hk rfl rfl rfl rfl rfl rfl rfl rfl (fun hc => (FW.f_pure (FW.p_eql hk.kn hc rfl rfl))) ?_; clear hk; intro a w hk
  refine FW.lfun (y := .lit (.bool ((((((t13 && t8.2.2) && (!t2.2)) && (!t4.2)) && (decide (t14 = 7))) && t15) && (decide ((List.length t16 : Int) = 0))))) hk rfl rfl rfl rfl ((FW.f_pure (FW.p_pick_and hk.kn (FW.holds_nil _) rfl rfl))) ?_; clear hk; intro a w hk
  refine FW.lfun (y := .lit (.bool ((((((t13 && t8.2.2) && (!t2.2)) && (!t4.2)) && (decide (t14 = 7))) && t15) && (decide ((List.length t16 : Int) = 0))))) hk rfl rfl rfl rfl (FW.f_move hk (FW.holds_nil _) rfl) ?_; clear hk; intro a w hk
  refine FW.lfunG (y := .lit (.pointer none)) hk rfl rfl rfl rfl rfl rfl rfl rfl (fun hc => FW.f_move hk hc rfl) ?_; clear hk; intro a w hk
  obtain ⟨t17, hr_t17, h⟩ := FW.bndG h
  refine FW.lfunG (y := .lit (.int .u64 t17)) hk rfl rfl rfl rfl rfl rfl rfl rfl (fun hc => FW.f_call hk hc rfl rfl Go.Proofs.Tryz.func22 rfl (by kernel_rfl) (rec_Store_Round_nil.ok  _ (hr_t17 (FW.asm_out (p := ((((((t13 && t8.2.2) && (!t2.2)) && (!t4.2)) && (decide (t14 = 7))) && t15) && (decide ((List.length t16 : Int) = 0))) = true) hk.kn hc (fun e0 => e0))))) ?_; clear hk; intro a w hk
  refine FW.lfunG (y := .lit (.bool (decide (t17 = 0)))) hk rfl rfl rfl rfl rfl rfl rfl rfl (fun hc => (FW.f_pure (FW.p_eql hk.kn hc rfl rfl))) ?_; clear hk; intro a w hk
  refine FW.lfun (y := .lit (.bool (((((((t13 && t8.2.2) && (!t2.2)) && (!t4.2)) && (decide (t14 = 7))) && t15) && (decide ((List.length t16 : Int) = 0))) && (decide (t17 = 0))))) hk rfl rfl rfl rfl ((FW.f_pure (FW.p_pick_and hk.kn (FW.holds_nil _) rfl rfl))) ?_; clear hk; intro a w hk
  refine FW.lfun (y := .lit (.bool (((((((t13 && t8.2.2) && (!t2.2)) && (!t4.2)) && (decide (t14 = 7))) && t15) && (decide ((List.length t16 : Int) = 0))) && (decide (t17 = 0))))) hk rfl rfl rfl rfl (FW.f_move hk (FW.holds_nil _) rfl) ?_; clear hk; intro a w hk
  refine FW.lfunG (y := .lit (.int .i64 t5.2)) hk rfl rfl rfl rfl rfl rfl rfl rfl (fun hc => FW.f_move hk hc rfl) ?_; clear hk; intro a w hk
  refine FW.lfunG (y := .lit (.bool (decide (t5.2 = 1)))) hk rfl rfl rfl rfl rfl rfl rfl rfl (fun hc => (FW.f_pure (FW.p_eql hk.kn hc rfl rfl))) ?_; clear hk; intro a w hk
  refine FW.lfun (y := .lit (.bool ((((((((t13 && t8.2.2) && (!t2.2)) && (!t4.2)) && (decide (t14 = 7))) && t15) && (decide ((List.length t16 : Int) = 0))) && (decide (t17 = 0))) && (decide (t5.2 = 1))))) hk rfl rfl rfl rfl ((FW.f_pure (FW.p_pick_and hk.kn (FW.holds_nil _) rfl rfl))) ?_; clear hk; intro a w hk
  refine FW.lfun (y := .lit (.bool ((((((((t13 && t8.2.2) && (!t2.2)) && (!t4.2)) && (decide (t14 = 7))) && t15) && (decide ((List.length t16 : Int) = 0))) && (decide (t17 = 0))) && (decide (t5.2 = 1))))) hk rfl rfl rfl rfl (FW.f_move hk (FW.holds_nil _) rfl) ?_; clear hk; intro a w hk
  refine FW.lfunG (y := .lit (.int .i64 t6.2)) hk rfl rfl rfl rfl rfl rfl rfl rfl (fun hc => FW.f_move hk hc rfl) ?_; clear hk; intro a w hk
  refine FW.lfunG (y := .lit (.bool (decide (t6.2 = 0)))) hk rfl rfl rfl rfl rfl rfl rfl rfl (fun hc => (FW.f_pure (FW.p_eql hk.kn hc rfl rfl))) ?_; clear hk; intro a w hk
  refine FW.lfun (y := .lit (.bool (((((((((t13 && t8.2.2) && (!t2.2)) && (!t4.2)) && (decide (t14 = 7))) && t15) && (decide ((List.length t16 : Int) = 0))) && (decide (t17 = 0))) && (decide (t5.2 = 1))) && (decide (t6.2 = 0))))) hk rfl rfl rfl rfl ((FW.f_pure (FW.p_pick_and hk.kn (FW.holds_nil _) rfl rfl))) ?_; clear hk; intro a w hk
  refine FW.lfun (y := .lit (.bool (((((((((t13 && t8.2.2) && (!t2.2)) && (!t4.2)) && (decide (t14 = 7))) && t15) && (decide ((List.length t16 : Int) = 0))) && (decide (t17 = 0))) && (decide (t5.2 = 1))) && (decide (t6.2 = 0))))) hk rfl rfl rfl rfl (FW.f_move hk (FW.holds_nil _) rfl) ?_; clear hk; intro a w hk
  refine FW.lfunG (y := .lit (.int .i64 t7.2.1)) hk rfl rfl rfl rfl rfl rfl rfl rfl (fun hc => FW.f_move hk hc rfl) ?_; clear hk; intro a w hk
  refine FW.lfunG (y := .lit (.bool (decide (t7.2.1 = 0)))) hk rfl rfl rfl rfl rfl rfl rfl rfl (fun hc => (FW.f_pure (FW.p_eql hk.kn hc rfl rfl))) ?_; clear hk; intro a w hk
  refine FW.lfunG (y := .lit (.int .i64 (FW.andI .i64 v0 31))) hk rfl rfl rfl rfl rfl rfl rfl rfl (fun hc => FW.f_move hk hc rfl) ?_; clear hk; intro a w hk
  refine FW.lfunG (y := .lit (.bool (decide (16 ≤ (FW.andI .i64 v0 31))))) hk rfl rfl rfl rfl rfl rfl rfl rfl (fun hc => (FW.f_pure (FW.p_geq hk.kn hc rfl rfl))) ?_; clear hk; intro a w hk
  refine FW.lfunG (y := .lit (.bool ((decide (t7.2.1 = 0)) == (decide (16 ≤ (FW.andI .i64 v0 31)))))) hk rfl rfl rfl rfl rfl rfl rfl rfl (fun hc => (FW.f_pure (FW.p_beql Go.Proofs.Tryz.underlying4 hk.kn hc rfl rfl))) ?_; clear hk; intro a w hk
  refine FW.lfun (y := .lit (.bool ((((((((((t13 && t8.2.2) && (!t2.2)) && (!t4.2)) && (decide (t14 = 7))) && t15) && (decide ((List.length t16 : Int) = 0))) && (decide (t17 = 0))) && (decide (t5.2 = 1))) && (decide (t6.2 = 0))) && ((decide (t7.2.1 = 0)) == (decide (16 ≤ (FW.andI .i64 v0 31))))))) hk rfl rfl rfl rfl ((FW.f_pure (FW.p_pick_and hk.kn (FW.holds_nil _) rfl rfl))) ?_; clear hk; intro a w hk
  refine FW.lfun (y := .lit (.bool ((((((((((t13 && t8.2.2) && (!t2.2)) && (!t4.2)) && (decide (t14 = 7))) && t15) && (decide ((List.length t16 : Int) = 0))) && (decide (t17 = 0))) && (decide (t5.2 = 1))) && (decide (t6.2 = 0))) && ((decide (t7.2.1 = 0)) == (decide (16 ≤ (FW.andI .i64 v0 31))))))) hk rfl rfl rfl rfl (FW.f_move hk (FW.holds_nil _) rfl) ?_; clear hk; intro a w hk
  refine FW.lfunG (y := .lit (.int .i64 t7.2.1)) hk rfl rfl rfl rfl rfl rfl rfl rfl (fun hc => FW.f_move hk hc rfl) ?_; clear hk; intro a w hk
  refine FW.lfunG (y := .lit (.bool (decide (t7.2.1 = 0)))) hk rfl rfl rfl rfl rfl rfl rfl rfl (fun hc => (FW.f_pure (FW.p_eql hk.kn hc rfl rfl))) ?_; clear hk; intro a w hk
  refine FW.lfunG (y := .lit (.bool (decide (t7.2.1 = 0)))) hk rfl rfl rfl rfl rfl rfl rfl rfl (fun hc => FW.f_move hk hc rfl) ?_; clear hk; intro a w hk
  refine FW.lfunG (y := .lit (.int .i64 t7.2.1)) hk rfl rfl rfl rfl rfl rfl rfl rfl (fun hc => FW.f_move hk hc rfl) ?_; clear hk; intro a w hk
  refine FW.lfunG (y := .lit (.bool (decide (t7.2.1 = 1)))) hk rfl rfl rfl rfl rfl rfl rfl rfl (fun hc => (FW.f_pure (FW.p_eql hk.kn hc rfl rfl))) ?_; clear hk; intro a w hk
  refine FW.lfunG (y := .lit (.bool ((decide (t7.2.1 = 0)) || (decide (t7.2.1 = 1))))) hk rfl rfl rfl rfl rfl rfl rfl rfl (fun hc => (FW.f_pure (FW.p_pick_or hk.kn hc rfl rfl))) ?_; clear hk; intro a w hk
  refine FW.lfun (y := .lit (.bool (((((((((((t13 && t8.2.2) && (!t2.2)) && (!t4.2)) && (decide (t14 = 7))) && t15) && (decide ((List.length t16 : Int) = 0))) && (decide (t17 = 0))) && (decide (t5.2 = 1))) && (decide (t6.2 = 0))) && ((decide (t7.2.1 = 0)) == (decide (16 ≤ (FW.andI .i64 v0 31))))) && ((decide (t7.2.1 = 0)) || (decide (t7.2.1 = 1)))))) hk rfl rfl rfl rfl ((FW.f_pure (FW.p_pick_and hk.kn (FW.holds_nil _) rfl rfl))) ?_; clear hk; intro a w hk
  refine FW.lfun (y := .lit (.bool (((((((((((t13 && t8.2.2) && (!t2.2)) && (!t4.2)) && (decide (t14 = 7))) && t15) && (decide ((List.length t16 : Int) = 0))) && (decide (t17 = 0))) && (decide (t5.2 = 1))) && (decide (t6.2 = 0))) && ((decide (t7.2.1 = 0)) == (decide (16 ≤ (FW.andI .i64 v0 31))))) && ((decide (t7.2.1 = 0)) || (decide (t7.2.1 = 1)))))) hk rfl rfl rfl rfl (FW.f_move hk (FW.holds_nil _) rfl) ?_; clear hk; intro a w hk
  refine FW.lfunG (y := .lit (.int .i64 t10.1)) hk rfl rfl rfl rfl rfl rfl rfl rfl (fun hc => FW.f_move hk hc rfl) ?_; clear hk; intro a w hk
  refine FW.lfunG (y := .lit (.bool (decide (t10.1 = 7)))) hk rfl rfl rfl rfl rfl rfl rfl rfl (fun hc => (FW.f_pure (FW.p_eql hk.kn hc rfl rfl))) ?_; clear hk; intro a w hk
  refine FW.lfun (y := .lit (.bool ((((((((((((t13 && t8.2.2) && (!t2.2)) && (!t4.2)) && (decide (t14 = 7))) && t15) && (decide ((List.length t16 : Int) = 0))) && (decide (t17 = 0))) && (decide (t5.2 = 1))) && (decide (t6.2 = 0))) && ((decide (t7.2.1 = 0)) == (decide (16 ≤ (FW.andI .i64 v0 31))))) && ((decide (t7.2.1 = 0)) || (decide (t7.2.1 = 1)))) && (decide (t10.1 = 7))))) hk rfl rfl rfl rfl ((FW.f_pure (FW.p_pick_and hk.kn (FW.holds_nil _) rfl rfl))) ?_; clear hk; intro a w hk
  refine FW.lfun (y := .lit (.bool ((((((((((((t13 && t8.2.2) && (!t2.2)) && (!t4.2)) && (decide (t14 = 7))) && t15) && (decide ((List.length t16 : Int) = 0))) && (decide (t17 = 0))) && (decide (t5.2 = 1))) && (decide (t6.2 = 0))) && ((decide (t7.2.1 = 0)) == (decide (16 ≤ (FW.andI .i64 v0 31))))) && ((decide (t7.2.1 = 0)) || (decide (t7.2.1 = 1)))) && (decide (t10.1 = 7))))) hk rfl rfl rfl rfl (FW.f_move hk (FW.holds_nil _) rfl) ?_; clear hk; intro a w hk
  refine FW.lfunG (y := .lit (.int .i64 t11.2.1)) hk rfl rfl rfl rfl rfl rfl rfl rfl (fun hc => FW.f_move hk hc rfl) ?_; clear hk; intro a w hk
  refine FW.lfunG (y := .lit (.bool (decide (t11.2.1 = 7)))) hk rfl rfl rfl rfl rfl rfl rfl rfl (fun hc => (FW.f_pure (FW.p_eql hk.kn hc rfl rfl))) ?_; clear hk; intro a w hk
  refine FW.lfun (y := .lit (.bool (((((((((((((t13 && t8.2.2) && (!t2.2)) && (!t4.2)) && (decide (t14 = 7))) && t15) && (decide ((List.length t16 : Int) = 0))) && (decide (t17 = 0))) && (decide (t5.2 = 1))) && (decide (t6.2 = 0))) && ((decide (t7.2.1 = 0)) == (decide (16 ≤ (FW.andI .i64 v0 31))))) && ((decide (t7.2.1 = 0)) || (decide (t7.2.1 = 1)))) && (decide (t10.1 = 7))) && (decide (t11.2.1 = 7))))) hk rfl rfl rfl rfl ((FW.f_pure (FW.p_pick_and hk.kn (FW.holds_nil _) rfl rfl))) ?_; clear hk; intro a w hk
  refine FW.lfun (y := .lit (.bool (((((((((((((t13 && t8.2.2) && (!t2.2)) && (!t4.2)) && (decide (t14 = 7))) && t15) && (decide ((List.length t16 : Int) = 0))) && (decide (t17 = 0))) && (decide (t5.2 = 1))) && (decide (t6.2 = 0))) && ((decide (t7.2.1 = 0)) == (decide (16 ≤ (FW.andI .i64 v0 31))))) && ((decide (t7.2.1 = 0)) || (decide (t7.2.1 = 1)))) && (decide (t10.1 = 7))) && (decide (t11.2.1 = 7))))) hk rfl rfl rfl rfl (FW.f_assign hk (FW.holds_nil _) rfl) ?_; clear hk; intro a w hk
  refine FW.lend (hK17 _ _ ?_); clear hK17 K'
  refine wp_ret ?_
  (repeat first | refine FW.then_ret ?_ | refine FW.block_ret ?_)
  obtain rfl := Option.some.inj h
  exact FW.fret1 hk rfl rfl
end Go.Proofs.YtfbkgaandmebaaaGreat
namespace Go.Proofs.YtfbkgaandmebaaaGreat
set_option linter.unusedVariables false
set_option maxHeartbeats 1000000
def Sat {α : Type} (x : Option α) (P : α → Prop) : Prop := ∃ r, x = some r ∧ P r
section
variable {α β : Type} {x : Option α} {P Q : α → Prop}
theorem Sat.some {r : α} (h : P r) : Sat (some r) P := ⟨r, rfl, h⟩
theorem Sat.mono (h : Sat x P) (h' : ∀ r, P r → Q r) : Sat x Q := let ⟨r, h1, h2⟩ := h; ⟨r, h1, h' r h2⟩
theorem Sat.chk {p : Prop} [Decidable p] (hp : p) (h : Sat x P) : Sat (if p then x else none) P := by rw [if_pos hp]; exact h
theorem Sat.bind {F : β → Option α} {y : Option β} {R : β → Prop} (h : Sat y R) (h' : ∀ r, R r → Sat (F r) P) : Sat (Option.bind y F) P := by
  obtain ⟨r, rfl, hr⟩ := h
  exact h' r hr
theorem Sat.get {r : α} (h : Sat x (fun y => y = r)) : x = Option.some r := by obtain ⟨y, h1, rfl⟩ := h; exact h1
end
theorem W_in {x : Int} (h0 : -9223372036854775808 ≤ x) (h1 : x ≤ 9223372036854775807) : IntKind.wrap .i64 x = x := IntWalk.i64_in x ⟨h0, h1⟩
abbrev Sec := List UInt8
def KD : Nat := 1000000
theorem flushS_len (m : List (Int × Sec)) : ∀ sure : List Sec, (flushS sure m).length = sure.length := by
  unfold flushS
  induction m with
  | nil => intro s; rfl
  | cons p m ih => intro s; rw [List.foldl_cons, ih, List.length_set]
structure Dv (n : Nat) (sure : List Sec) (m : List (Int × Sec)) : Prop where
  len : sure.length = n
  secs : ∀ s ∈ sure, s.length = 128
  keys : ∀ p ∈ m, 0 ≤ p.1 ∧ p.1 < (n : Int) ∧ p.2.length = 128
  nd : (m.map (·.1)).Nodup
theorem mget_none {m : List (Int × Sec)} {k : Int} (h : ∀ p ∈ m, p.1 ≠ k) : FW.mget m k = none := by
  unfold FW.mget
  rw [Option.map_eq_none_iff, List.find?_eq_none]
  intro p hp; simpa using h p hp
end Go.Proofs.YtfbkgaandmebaaaGreat
namespace Go.Proofs.YtfbkgaandmebaaaGreat
set_option linter.unusedVariables false
set_option maxHeartbeats 1000000
structure Torn (sure : List Sec) (C : List (Int × Sec)) (S : List Sec) : Prop where
  other : ∀ q : Nat, (∀ p ∈ C, p.1.toNat ≠ q) → S[q]? = sure[q]?
  at_ : ∀ p ∈ C, ∃ t, t ≤ 128 ∧ S[p.1.toNat]? = some (p.2.take t ++ (sure.getD p.1.toNat []).drop t)
structure Is (n : Nat) (F : List ApiFall) (d : ODevDev) (V0 V : List Sec) (lo c S : Nat) : Prop where
  off : d.off = false
  dv : Dv n d.sure d.cache
  sure0 : d.sure = V0
  view : flushS d.sure d.cache = V
  few : d.cache.length ≤ c
  keys : ∀ p ∈ d.cache, (lo : Int) ≤ p.1
  fl : d.falls = F
  st : d.steps = (S : Int)
structure Cr (n : Nat) (d : ODevDev) (V0 : List Sec) (C : List (Int × Sec)) (S : Nat) : Prop where
  off : d.off = true
  c0 : d.cache = []
  dv : Dv n d.sure []
  f0 : d.falls = []
  st : d.steps = (S : Int)
  torn : Torn V0 C d.sure
def NF (F : List ApiFall) (S T : Nat) : Prop := ∀ f ∈ F, f.At < (S : Int) ∨ (T : Int) ≤ f.At
theorem NF.trans {F : List ApiFall} {S T U : Nat} (h : NF F S T) (h' : NF F T U) (h1 : S ≤ T) (h2 : T ≤ U) : NF F S U := fun f hf => by
  have a := h f hf
  have b := h' f hf
  omega
theorem NF.one {F : List ApiFall} {S : Nat} (h : ∀ f ∈ F, f.At ≠ (S : Int)) : NF F S (S + 1) := fun f hf => by
  have := h f hf
  omega
section
variable {n lo c S : Nat} {d : ODevDev} {V V0 : List Sec} {K : Nat} {F : List ApiFall}
theorem Is.len (h : Is n F d V0 V lo c S) : V.length = n := by rw [← h.view, flushS_len, h.dv.len]
end
def zeros (n : Nat) : List UInt8 := List.replicate n 0
theorem rep_zero (n : Nat) : strings_Repeat.f ([0] : List UInt8) (n : Int) = some (zeros n) ∨ 1000000 < n := by
  by_cases h : n ≤ 1000000
  · left
    unfold strings_Repeat.f
    rw [if_pos (by simp; omega), Int.toNat_natCast]
    congr 1
    unfold zeros
    induction n with
    | zero => rfl
    | succ n ih =>
      rw [List.replicate_succ, ← ih (by omega)]
      rfl
  · right; omega
end Go.Proofs.YtfbkgaandmebaaaGreat
namespace Go.Proofs.YtfbkgaandmebaaaGreat
set_option linter.unusedVariables false
set_option maxHeartbeats 2000000
theorem andI_mask (x : Int) (m : Nat) (hm : m < 2 ^ 62) : ∃ k : Nat, k ≤ m ∧ FW.andI .i64 x (m : Int) = (k : Int) := by
  unfold FW.andI
  refine ⟨(BitVec.ofInt IntKind.i64.bits x &&& BitVec.ofInt IntKind.i64.bits (m : Int)).toNat, ?_, ?_⟩
  · rw [BitVec.toNat_and]
    have e : (BitVec.ofInt IntKind.i64.bits (m : Int)).toNat = m := by
      show (BitVec.ofInt 64 (m : Int)).toNat = m
      rw [BitVec.toNat_ofInt]
      omega
    rw [e]
    exact Nat.and_le_right
  · have h : (BitVec.ofInt IntKind.i64.bits x &&& BitVec.ofInt IntKind.i64.bits (m : Int)).toNat ≤ m := by
      rw [BitVec.toNat_and]
      have e : (BitVec.ofInt IntKind.i64.bits (m : Int)).toNat = m := by
        show (BitVec.ofInt 64 (m : Int)).toNat = m
        rw [BitVec.toNat_ofInt]
        omega
      rw [e]
      exact Nat.and_le_right
    exact W_in (by omega) (by omega)
end Go.Proofs.YtfbkgaandmebaaaGreat
namespace Go.Proofs.YtfbkgaandmebaaaGreat
set_option linter.unusedVariables false
set_option maxHeartbeats 2000000
structure Lc (n : Nat) (d : ODevDev) (V0 : List Sec) (lo b : Nat) : Prop where
  off : d.off = true
  c0 : d.cache = []
  dv : Dv n d.sure []
  f0 : d.falls = []
  st : ∃ S : Nat, d.steps = (S : Int) ∧ S ≤ b
  low : ∀ q, q < lo → d.sure[q]? = V0[q]?
theorem Cr.low {n S lo b : Nat} {d : ODevDev} {V0 : List Sec} {C : List (Int × Sec)} (h : Cr n d V0 C S) (hk : ∀ p ∈ C, (lo : Int) ≤ p.1) (hb : S ≤ b) : Lc n d V0 lo b :=
  ⟨h.off, h.c0, h.dv, h.f0, ⟨S, h.st, hb⟩, fun q hq => h.torn.other q fun p hp e => by have := hk p hp; omega⟩
end Go.Proofs.YtfbkgaandmebaaaGreat
namespace Go.Proofs.YtfbkgaandmebaaaGreat
set_option linter.unusedVariables false
set_option linter.unusedSimpArgs false
set_option maxHeartbeats 1000000
theorem rec_none_all : ∀ k : Fin 32, offshootlaw06_RecNone.f KD (k.val : Int) ⟨0, [], false⟩ = some true := by decide +kernel
theorem rec_none_true (n : Int) (c : ApiChange) : ∃ K, offshootlaw06_RecNone.f K n c = some true := by
  refine ⟨KD, ?_⟩
  obtain ⟨k, hk, e⟩ := andI_mask n 31 (by omega)
  obtain ⟨k', hk', e'⟩ := andI_mask (k : Int) 31 (by omega)
  have h := rec_none_all ⟨k, by omega⟩
  have e0 : FW.andI .i64 ((⟨k, by omega⟩ : Fin 32).val : Int) 31 = (k : Int) := by
    have : ∀ q : Fin 32, FW.andI .i64 (q.val : Int) 31 = (q.val : Int) := by decide +kernel
    exact this ⟨k, by omega⟩
  have e1 : FW.andI .i64 n 31 = (k : Int) := e
  unfold offshootlaw06_RecNone.f rec_Store_Get_nil.f rec_Store_Snap_1.f at h ⊢
  rw [e0] at h
  rw [e1]
  exact h
def Chg (l : List ApiChange) : Prop := l.length ≤ 10 ∧ ∀ x ∈ l, x.ID = 7 ∧ x.S.length ≤ 40 ∧ (x.Gone = true → x.S = [])
theorem Chg.get {l : List ApiChange} (h : Chg l) {i : Nat} (hi : i < l.length) : (l.getD i default).ID = 7 ∧ (l.getD i default).S.length ≤ 40 ∧ ((l.getD i default).Gone = true → (l.getD i default).S = []) := by
  refine h.2 _ ?_
  rw [List.getD_eq_getElem?_getD, List.getElem?_eq_getElem hi]
  exact List.getElem_mem hi
end Go.Proofs.YtfbkgaandmebaaaGreat

/- Put together by pack.py (my own program) of texts of mine: RtP9, RtP10, RtP11, RtP12, Ru1, Rv1. -/
import Derived.IntWalk
import Derived.Test.YtfbkgaandmebaaaGreatZa3
namespace Go.Proofs.YtfbkgaandmebaaaGreat
set_option linter.unusedVariables false
set_option maxRecDepth 20000
set_option maxHeartbeats 10000000
theorem offshootlaw06_RecLast.ok (K : Nat) (v0 : List ApiChange) (r : Bool) (h : offshootlaw06_RecLast.f K v0 = some r) :
    FW.Ok Go.Proofs.Tryz.prog 3 [.row (r_ApiChange_cells v0)] (.lit (.bool r)) := by
  refine FW.enter (xs := [.row (r_ApiChange_cells v0)]) Go.Proofs.Tryz.func3 rfl Go.Proofs.Tryz.ntmps3 rfl ?_
  intro M w0 a hk
  unfold offshootlaw06_RecLast.f at h
  refine FW.wreg ?_; intro K' hK1
  refine FW.lfun (y := .lit (.bool false)) hk rfl rfl rfl rfl (FW.f_assign hk (FW.holds_nil _) rfl) ?_; clear hk; intro a w hk
  refine FW.lend (hK1 _ _ ?_); clear hK1 K'
  refine FW.wreg ?_; intro K' hK2
  obtain ⟨t1, hr_t1, h⟩ := FW.bnd h
  refine FW.l_callH (I1 := ([] : List FW.It)) (I2 := []) (js := []) hk rfl rfl rfl rfl rfl Go.Proofs.Tryz.func9 rfl (by kernel_rfl) (offshootlaw06_open.ok K 60 _ hr_t1 ) ?_; clear hk
  rintro _ _ ⟨bx2, xbNt1_0_1, xrNt1_0_2, bx1, xdNt1_1_0, xcNt1_1_0, xrNt1_1_1, xdNt1_1_3, xcNt1_1_3, rfl, rfl⟩ a w hk
  refine FW.lfun (y := .tup [.lit (.pointer (some ⟨bx2, 0, none⟩)), .lit (.pointer (some ⟨bx1, 0, none⟩)), .lit (.bool t1.2.2)]) hk rfl rfl rfl rfl (FW.f_move hk (FW.holds_nil _) rfl) ?_; clear hk; intro a w hk
  refine FW.lfun (y := .lit (.pointer (some ⟨bx2, 0, none⟩))) hk rfl rfl rfl rfl (FW.f_extract hk (FW.holds_nil _) rfl rfl) ?_; clear hk; intro a w hk
  refine FW.lfun (y := .lit (.pointer (some ⟨bx1, 0, none⟩))) hk rfl rfl rfl rfl (FW.f_extract hk (FW.holds_nil _) rfl rfl) ?_; clear hk; intro a w hk
  refine FW.lfun (y := .lit (.bool t1.2.2)) hk rfl rfl rfl rfl (FW.f_extract hk (FW.holds_nil _) rfl rfl) ?_; clear hk; intro a w hk
  refine FW.lfun (y := .lit (.pointer (some ⟨bx2, 0, none⟩))) hk rfl rfl rfl rfl (FW.f_assign hk (FW.holds_nil _) rfl) ?_; clear hk; intro a w hk
  refine FW.lfun (y := .lit (.pointer (some ⟨bx1, 0, none⟩))) hk rfl rfl rfl rfl (FW.f_assign hk (FW.holds_nil _) rfl) ?_; clear hk; intro a w hk
  refine FW.lfun (y := .lit (.bool t1.2.2)) hk rfl rfl rfl rfl (FW.f_assign hk (FW.holds_nil _) rfl) ?_; clear hk; intro a w hk
  refine FW.lend (hK2 _ _ ?_); clear hK2 K'
  refine FW.wreg ?_; intro K' hK3
  refine FW.l_buildSlice0 (f := ApiChange.cells) hk rfl rfl Go.Proofs.Tryz.underlying22 rfl (fun _ => rfl) ?_; clear hk; intro bx3 a w hk
  refine FW.lfun (y := .lit (.slice (some ⟨bx3, 0, none⟩) (List.length ([] : List ApiChange)) 0)) hk rfl rfl rfl rfl (FW.f_assign hk (FW.holds_nil _) rfl) ?_; clear hk; intro a w hk
  refine FW.lend (hK3 _ _ ?_); clear hK3 K'
  refine FW.wseq ?_; intro K' hK4
  refine FW.wreg ?_; intro K' hK5
  refine FW.lfun (y := .lit (.int .i64 0)) hk rfl rfl rfl rfl (FW.f_assign hk (FW.holds_nil _) rfl) ?_; clear hk; intro a w hk
  refine FW.lend (hK5 _ _ ?_); clear hK5 K'
  refine wp_block ?_
  refine FW.wloop (T := Nat × List ApiChange × Int × Int × Bool × (List (Int × (List UInt8))) × Int × Int × Int × Int × Int × Bool × List (List UInt8) × (List (Int × (List UInt8))) × List ApiFall × List ApiChange × Bool × Int × Option Addr × Nat × Nat × Option Addr × Nat × Nat × Option Addr × Nat) (fun x a w => match x with | (kl1, l8, y5_3, y5_4, y5_5, m7, y6_1, y6_2, y6_3, y6_4, y1_2, y1_4, l2, m3, l4, v0, v5, v7, xd8, xc8, xr7, xd2, xc2, xr3, xd4, xc4) => FW.S M w0 a w 102 [FW.orow xd8 xc8 29 3 ApiChange.cells l8, FW.blk bx2 69 ([.lit (.pointer (some ⟨bx1, 0, none⟩)), .lit (.pointer (some ⟨xbNt1_0_1, 0, none⟩)), .lit (.map (some xr7)), .lit (.int .i64 y5_3), .lit (.int .u64 y5_4), .lit (.bool y5_5)]), FW.mapI (.int .u64) (Value.int .u64) FW.evS xr7 m7, FW.blk xbNt1_0_1 99 ([.lit (.pointer (some ⟨bx1, 0, none⟩)), .lit (.int .i64 y6_1), .lit (.int .i64 y6_2), .lit (.int .i64 y6_3), .lit (.int .u64 y6_4)]), FW.blk bx1 75 ([.lit (.slice xd2 (List.length l2) xc2), .lit (.map (some xr3)), .lit (.int .i64 y1_2), .lit (.slice xd4 (List.length l4) xc4), .lit (.bool y1_4)]), FW.orow xd2 xc2 9 1 c_str l2, FW.mapI (.int .i64) (Value.int .i64) FW.evS xr3 m3, FW.orow xd4 xc4 52 3 ApiFall.cells l4] [(0, [], .row (r_ApiChange_cells v0)), (3, [], .lit (.pointer (some ⟨bx2, 0, none⟩))), (4, [], .lit (.pointer (some ⟨bx1, 0, none⟩))), (5, [], .lit (.bool v5)), (6, [], .lit (.slice xd8 (List.length l8) xc8)), (7, [], .lit (.int .i64 v7))] ∧ offshootlaw06_RecLast.l1 K kl1 l8 y5_3 y5_4 y5_5 m7 y6_1 y6_2 y6_3 y6_4 y1_2 y1_4 l2 m3 l4 v0 v5 v7 = some r) (fun x => x.1) (K, ([] : List ApiChange), t1.1.half, t1.1.round, t1.1.dead, t1.1.m, t1.1.l.from_, t1.1.l.to_, t1.1.l.at_, t1.1.l.next, t1.2.1.steps, t1.2.1.off, t1.2.1.sure, t1.2.1.cache, t1.2.1.falls, v0, t1.2.2, 0, (some ⟨bx3, 0, none⟩), 0, xrNt1_0_2, xdNt1_1_0, xcNt1_1_0, xrNt1_1_1, xdNt1_1_3, xcNt1_1_3) ⟨hk.sub ⟨rfl, rfl, rfl, rfl, rfl, rfl, trivial⟩, h⟩ ?_
  clear hk h
  rintro ⟨kl1, l8, y5_3, y5_4, y5_5, m7, y6_1, y6_2, y6_3, y6_4, y1_2, y1_4, l2, m3, l4, v0, v5, v7, xd8, xc8, xr7, xd2, xc2, xr3, xd4, xc4⟩ a w ⟨hk, h⟩ K' hK6
  cases kl1 with
  | zero => simp [offshootlaw06_RecLast.l1] at h
  | succ kl1 =>
  rw [offshootlaw06_RecLast.l1.eq_2] at h
  refine FW.wseq ?_; intro K' hK7
  refine FW.wreg ?_; intro K' hK8
  refine FW.lfun (y := .lit (.int .i64 v7)) hk rfl rfl rfl rfl (FW.f_move hk (FW.holds_nil _) rfl) ?_; clear hk; intro a w hk
  refine FW.lfun (y := .row (r_ApiChange_cells v0)) hk rfl rfl rfl rfl (FW.f_move hk (FW.holds_nil _) rfl) ?_; clear hk; intro a w hk
  refine FW.lfun (y := .lit (.int .i64 (List.length v0 : Int))) hk rfl rfl rfl rfl (FW.f_len (R := r_ApiChange_cells) (f := ApiChange.cells) (l := v0) r_ApiChange_cells_eq Go.Proofs.Tryz.underlying22 hk (FW.holds_nil _) rfl) ?_; clear hk; intro a w hk
  refine FW.lfun (y := .lit (.bool (decide (v7 < (List.length v0 : Int))))) hk rfl rfl rfl rfl ((FW.f_pure (FW.p_lss hk.kn (FW.holds_nil _) rfl rfl))) ?_; clear hk; intro a w hk
  refine FW.lfun (y := .lit (.bool (decide (v7 < (List.length v0 : Int))))) hk rfl rfl rfl rfl (FW.f_move hk (FW.holds_nil _) rfl) ?_; clear hk; intro a w hk
  refine FW.lfunG (y := .lit (.int .i64 v7)) hk rfl rfl rfl rfl rfl rfl rfl rfl (fun hc => FW.f_move hk hc rfl) ?_; clear hk; intro a w hk
  refine FW.lfunG (y := .lit (.bool (decide (v7 < 10)))) hk rfl rfl rfl rfl rfl rfl rfl rfl (fun hc => (FW.f_pure (FW.p_lss hk.kn hc rfl rfl))) ?_; clear hk; intro a w hk
  refine FW.lfun (y := .lit (.bool ((decide (v7 < (List.length v0 : Int))) && (decide (v7 < 10))))) hk rfl rfl rfl rfl ((FW.f_pure (FW.p_pick_and hk.kn (FW.holds_nil _) rfl rfl))) ?_; clear hk; intro a w hk
  refine FW.lend (hK8 _ _ ?_); clear hK8 K'
  refine FW.wcondF (b := ((decide (v7 < (List.length v0 : Int))) && (decide (v7 < 10)))) hk h rfl (fun h hb => ?_) (fun h hb => ?_)
  · skip
    refine wp_skip ?_
    (repeat first | refine FW.then_normal ?_ | refine FW.block_normal ?_); refine hK7 _ _ ?_
    refine FW.wseq ?_; intro K' hK9
    refine wp_block ?_
    obtain ⟨hc1, h⟩ := FW.chk h
    obtain ⟨hc2, h⟩ := FW.chk h
    refine FW.wdrawE (.next [true, true, true, true, true, true, true, true, true, true, true, false, false] 11 [true, true, true, true, true, true, true, true, true, true, true, false, false] (.next [true, true, true, true, true, true, true, true, true, true, true, false, false] 12 [true, true, true, true, true, true, true, true, true, true, true, true, false] (.leaf [false, false, false, false, false, false, false, false, false, false, false, false, false]))) [(28, [], .row (r_ApiChange_cells v0)), (29, [], .lit (.int .i64 v7)), (30, [], .ref (ApiChange.cells (List.getD v0 (Int.toNat v7) default))), (31, [], .ref (List.drop 1 (ApiChange.cells (List.getD v0 (Int.toNat v7) default)))), (32, [], .lit (.string (FW.B ((List.getD v0 (Int.toNat v7) default).S)))), (33, [], .row (r_ApiChange_cells v0)), (34, [], .lit (.int .i64 v7)), (35, [], .ref (ApiChange.cells (List.getD v0 (Int.toNat v7) default))), (36, [], .ref (List.drop 2 (ApiChange.cells (List.getD v0 (Int.toNat v7) default)))), (37, [], .lit (.bool ((List.getD v0 (Int.toNat v7) default).Gone))), (38, [], .agg ((ApiChange.cells (⟨7, (List.getD v0 (Int.toNat v7) default).S, (List.getD v0 (Int.toNat v7) default).Gone⟩ : ApiChange)))), (8, [], .agg []), (102, [], .lit undef)] (by kernel_rfl) (by kernel_rfl) (by kernel_rfl) (by kernel_rfl) hk ?_; clear hk
    refine FW.gnext ?_ rfl rfl rfl rfl rfl ?_
    · skip
      refine FW.gfun (y := .row (r_ApiChange_cells v0)) rfl rfl rfl rfl (fun a w hk => FW.f_move hk (FW.holds_nil _) rfl) ?_
      refine FW.gfun (y := .lit (.int .i64 v7)) rfl rfl rfl rfl (fun a w hk => FW.f_move hk (FW.holds_nil _) rfl) ?_
      refine FW.gfun (y := .ref (ApiChange.cells (List.getD v0 (Int.toNat v7) default))) rfl rfl rfl rfl (fun a w hk => FW.f_indexAddr (R := r_ApiChange_cells) (f := ApiChange.cells) (l := v0) (sz := 3) r_ApiChange_cells_eq (fun _ => rfl) hk (FW.holds_nil _) rfl rfl Go.Proofs.Tryz.underlying22 (by kernel_rfl) hc1) ?_
      refine FW.gfun (y := .ref (List.drop 1 (ApiChange.cells (List.getD v0 (Int.toNat v7) default)))) rfl rfl rfl rfl (fun a w hk => FW.f_fieldAddr hk (FW.holds_nil _) rfl Go.Proofs.Tryz.underlying29 rfl (by kernel_rfl) rfl) ?_
      refine FW.gfun (y := .lit (.string (FW.B ((List.getD v0 (Int.toNat v7) default).S)))) rfl rfl rfl rfl (fun a w hk => FW.f_load1 hk (FW.holds_nil _) rfl rfl Go.Proofs.Tryz.underlying9 rfl) ?_
      refine FW.gfun (y := .row (r_ApiChange_cells v0)) rfl rfl rfl rfl (fun a w hk => FW.f_move hk (FW.holds_nil _) rfl) ?_
      refine FW.gfun (y := .lit (.int .i64 v7)) rfl rfl rfl rfl (fun a w hk => FW.f_move hk (FW.holds_nil _) rfl) ?_
      refine FW.gfun (y := .ref (ApiChange.cells (List.getD v0 (Int.toNat v7) default))) rfl rfl rfl rfl (fun a w hk => FW.f_indexAddr (R := r_ApiChange_cells) (f := ApiChange.cells) (l := v0) (sz := 3) r_ApiChange_cells_eq (fun _ => rfl) hk (FW.holds_nil _) rfl rfl Go.Proofs.Tryz.underlying22 (by kernel_rfl) hc2) ?_
      refine FW.gfun (y := .ref (List.drop 2 (ApiChange.cells (List.getD v0 (Int.toNat v7) default)))) rfl rfl rfl rfl (fun a w hk => FW.f_fieldAddr hk (FW.holds_nil _) rfl Go.Proofs.Tryz.underlying29 rfl (by kernel_rfl) rfl) ?_
      refine FW.gfun (y := .lit (.bool ((List.getD v0 (Int.toNat v7) default).Gone))) rfl rfl rfl rfl (fun a w hk => FW.f_load1 hk (FW.holds_nil _) rfl rfl Go.Proofs.Tryz.underlying4 rfl) ?_
      refine FW.gfun (y := .agg ((ApiChange.cells (⟨7, (List.getD v0 (Int.toNat v7) default).S, (List.getD v0 (Int.toNat v7) default).Gone⟩ : ApiChange)))) rfl rfl rfl rfl (fun a w hk => FW.f_build hk (FW.holds_nil _) rfl rfl) ?_
      refine FW.gskip rfl rfl ?_
      refine FW.gskip0 rfl ?_
      exact FW.gend
    · skip
      intro σD a w opsD QD hk hf hQ hX
      refine FW.l_alloc (zs := (ApiChange.cells (⟨0, [], false⟩ : ApiChange))) [] hk rfl hf rfl rfl ?_; clear hk; intro bx4 a w hk
      refine hQ _ _ a w ?_ hk; clear hk hQ hf hX
      refine ⟨[(28, [], .row (r_ApiChange_cells v0)), (29, [], .lit (.int .i64 v7)), (30, [], .ref (ApiChange.cells (List.getD v0 (Int.toNat v7) default))), (31, [], .ref (List.drop 1 (ApiChange.cells (List.getD v0 (Int.toNat v7) default)))), (32, [], .lit (.string (FW.B ((List.getD v0 (Int.toNat v7) default).S)))), (33, [], .row (r_ApiChange_cells v0)), (34, [], .lit (.int .i64 v7)), (35, [], .ref (ApiChange.cells (List.getD v0 (Int.toNat v7) default))), (36, [], .ref (List.drop 2 (ApiChange.cells (List.getD v0 (Int.toNat v7) default)))), (37, [], .lit (.bool ((List.getD v0 (Int.toNat v7) default).Gone))), (38, [], .agg ((ApiChange.cells (⟨7, (List.getD v0 (Int.toNat v7) default).S, (List.getD v0 (Int.toNat v7) default).Gone⟩ : ApiChange)))), (8, [], .lit (.pointer (some ⟨bx4, 0, none⟩))), (102, [], .lit undef)], And.intro rfl (And.intro rfl (And.intro rfl (And.intro rfl (And.intro rfl (And.intro rfl (And.intro rfl (And.intro rfl (And.intro rfl (And.intro rfl (And.intro rfl (trivial))))))))))), rfl, ?_⟩
      refine FW.gnext0 ?_ rfl rfl rfl ?_
      · skip
        refine FW.gfun (y := .row (r_ApiChange_cells v0)) rfl rfl rfl rfl (fun a w hk => FW.f_move hk (FW.holds_nil _) rfl) ?_
        refine FW.gfun (y := .lit (.int .i64 v7)) rfl rfl rfl rfl (fun a w hk => FW.f_move hk (FW.holds_nil _) rfl) ?_
        refine FW.gfun (y := .ref (ApiChange.cells (List.getD v0 (Int.toNat v7) default))) rfl rfl rfl rfl (fun a w hk => FW.f_indexAddr (R := r_ApiChange_cells) (f := ApiChange.cells) (l := v0) (sz := 3) r_ApiChange_cells_eq (fun _ => rfl) hk (FW.holds_nil _) rfl rfl Go.Proofs.Tryz.underlying22 (by kernel_rfl) hc1) ?_
        refine FW.gfun (y := .ref (List.drop 1 (ApiChange.cells (List.getD v0 (Int.toNat v7) default)))) rfl rfl rfl rfl (fun a w hk => FW.f_fieldAddr hk (FW.holds_nil _) rfl Go.Proofs.Tryz.underlying29 rfl (by kernel_rfl) rfl) ?_
        refine FW.gfun (y := .lit (.string (FW.B ((List.getD v0 (Int.toNat v7) default).S)))) rfl rfl rfl rfl (fun a w hk => FW.f_load1 hk (FW.holds_nil _) rfl rfl Go.Proofs.Tryz.underlying9 rfl) ?_
        refine FW.gfun (y := .row (r_ApiChange_cells v0)) rfl rfl rfl rfl (fun a w hk => FW.f_move hk (FW.holds_nil _) rfl) ?_
        refine FW.gfun (y := .lit (.int .i64 v7)) rfl rfl rfl rfl (fun a w hk => FW.f_move hk (FW.holds_nil _) rfl) ?_
        refine FW.gfun (y := .ref (ApiChange.cells (List.getD v0 (Int.toNat v7) default))) rfl rfl rfl rfl (fun a w hk => FW.f_indexAddr (R := r_ApiChange_cells) (f := ApiChange.cells) (l := v0) (sz := 3) r_ApiChange_cells_eq (fun _ => rfl) hk (FW.holds_nil _) rfl rfl Go.Proofs.Tryz.underlying22 (by kernel_rfl) hc2) ?_
        refine FW.gfun (y := .ref (List.drop 2 (ApiChange.cells (List.getD v0 (Int.toNat v7) default)))) rfl rfl rfl rfl (fun a w hk => FW.f_fieldAddr hk (FW.holds_nil _) rfl Go.Proofs.Tryz.underlying29 rfl (by kernel_rfl) rfl) ?_
        refine FW.gfun (y := .lit (.bool ((List.getD v0 (Int.toNat v7) default).Gone))) rfl rfl rfl rfl (fun a w hk => FW.f_load1 hk (FW.holds_nil _) rfl rfl Go.Proofs.Tryz.underlying4 rfl) ?_
        refine FW.gfun (y := .agg ((ApiChange.cells (⟨7, (List.getD v0 (Int.toNat v7) default).S, (List.getD v0 (Int.toNat v7) default).Gone⟩ : ApiChange)))) rfl rfl rfl rfl (fun a w hk => FW.f_build hk (FW.holds_nil _) rfl rfl) ?_
        refine FW.gskip rfl rfl ?_
        refine FW.gskip0 rfl ?_
        exact FW.gend
      · skip
        intro σD a w opsD QD hk hQ hX
        refine FW.l_store (I' := [FW.blk bx4 29 ((ApiChange.cells (⟨7, (List.getD v0 (Int.toNat v7) default).S, (List.getD v0 (Int.toNat v7) default).Gone⟩ : ApiChange))), FW.orow xd8 xc8 29 3 ApiChange.cells l8, FW.blk bx2 69 ([.lit (.pointer (some ⟨bx1, 0, none⟩)), .lit (.pointer (some ⟨xbNt1_0_1, 0, none⟩)), .lit (.map (some xr7)), .lit (.int .i64 y5_3), .lit (.int .u64 y5_4), .lit (.bool y5_5)]), FW.mapI (.int .u64) (Value.int .u64) FW.evS xr7 m7, FW.blk xbNt1_0_1 99 ([.lit (.pointer (some ⟨bx1, 0, none⟩)), .lit (.int .i64 y6_1), .lit (.int .i64 y6_2), .lit (.int .i64 y6_3), .lit (.int .u64 y6_4)]), FW.blk bx1 75 ([.lit (.slice xd2 (List.length l2) xc2), .lit (.map (some xr3)), .lit (.int .i64 y1_2), .lit (.slice xd4 (List.length l4) xc4), .lit (.bool y1_4)]), FW.orow xd2 xc2 9 1 c_str l2, FW.mapI (.int .i64) (Value.int .i64) FW.evS xr3 m3, FW.orow xd4 xc4 52 3 ApiFall.cells l4]) (cs' := (ApiChange.cells (⟨7, (List.getD v0 (Int.toNat v7) default).S, (List.getD v0 (Int.toNat v7) default).Gone⟩ : ApiChange))) (j := 0) hk rfl rfl rfl rfl rfl (by kernel_rfl) rfl rfl ?_; clear hk; intro w hk
        refine hQ _ a w ?_ hk; clear hk hQ hX
        refine ⟨[(28, [], .row (r_ApiChange_cells v0)), (29, [], .lit (.int .i64 v7)), (30, [], .ref (ApiChange.cells (List.getD v0 (Int.toNat v7) default))), (31, [], .ref (List.drop 1 (ApiChange.cells (List.getD v0 (Int.toNat v7) default)))), (32, [], .lit (.string (FW.B ((List.getD v0 (Int.toNat v7) default).S)))), (33, [], .row (r_ApiChange_cells v0)), (34, [], .lit (.int .i64 v7)), (35, [], .ref (ApiChange.cells (List.getD v0 (Int.toNat v7) default))), (36, [], .ref (List.drop 2 (ApiChange.cells (List.getD v0 (Int.toNat v7) default)))), (37, [], .lit (.bool ((List.getD v0 (Int.toNat v7) default).Gone))), (38, [], .agg ((ApiChange.cells (⟨7, (List.getD v0 (Int.toNat v7) default).S, (List.getD v0 (Int.toNat v7) default).Gone⟩ : ApiChange)))), (8, [], .lit (.pointer (some ⟨bx4, 0, none⟩))), (102, [], .lit undef)], And.intro rfl (And.intro rfl (And.intro rfl (And.intro rfl (And.intro rfl (And.intro rfl (And.intro rfl (And.intro rfl (And.intro rfl (And.intro rfl (And.intro rfl (And.intro rfl (trivial)))))))))))), rfl, ?_⟩
        refine FW.glast ?_ ?_
        · skip
          refine FW.gskip rfl rfl ?_
          refine FW.gskip rfl rfl ?_
          refine FW.gskip rfl rfl ?_
          refine FW.gskip rfl rfl ?_
          refine FW.gskip rfl rfl ?_
          refine FW.gskip rfl rfl ?_
          refine FW.gskip rfl rfl ?_
          refine FW.gskip rfl rfl ?_
          refine FW.gskip rfl rfl ?_
          refine FW.gskip rfl rfl ?_
          refine FW.gskip rfl rfl ?_
          refine FW.gskip rfl rfl ?_
          refine FW.gskip0 rfl ?_
          exact FW.gend
        · skip
          intro a w hk; simp only [FW.stD, cond_true] at hk
          refine FW.wseqJ (fun a w => ∃ (y9 : ApiChange) (v0 : List ApiChange) (v5 : Bool) (v7 : Int), FW.S M w0 a w 102 [FW.blk bx4 29 ((ApiChange.cells y9)), FW.orow xd8 xc8 29 3 ApiChange.cells l8, FW.blk bx2 69 ([.lit (.pointer (some ⟨bx1, 0, none⟩)), .lit (.pointer (some ⟨xbNt1_0_1, 0, none⟩)), .lit (.map (some xr7)), .lit (.int .i64 y5_3), .lit (.int .u64 y5_4), .lit (.bool y5_5)]), FW.mapI (.int .u64) (Value.int .u64) FW.evS xr7 m7, FW.blk xbNt1_0_1 99 ([.lit (.pointer (some ⟨bx1, 0, none⟩)), .lit (.int .i64 y6_1), .lit (.int .i64 y6_2), .lit (.int .i64 y6_3), .lit (.int .u64 y6_4)]), FW.blk bx1 75 ([.lit (.slice xd2 (List.length l2) xc2), .lit (.map (some xr3)), .lit (.int .i64 y1_2), .lit (.slice xd4 (List.length l4) xc4), .lit (.bool y1_4)]), FW.orow xd2 xc2 9 1 c_str l2, FW.mapI (.int .i64) (Value.int .i64) FW.evS xr3 m3, FW.orow xd4 xc4 52 3 ApiFall.cells l4] [(0, [], .row (r_ApiChange_cells v0)), (3, [], .lit (.pointer (some ⟨bx2, 0, none⟩))), (4, [], .lit (.pointer (some ⟨bx1, 0, none⟩))), (5, [], .lit (.bool v5)), (6, [], .lit (.slice xd8 (List.length l8) xc8)), (7, [], .lit (.int .i64 v7)), (8, [], .lit (.pointer (some ⟨bx4, 0, none⟩)))] ∧ offshootlaw06_RecLast.j1 (offshootlaw06_RecLast.l1 K kl1) K l2 l4 l8 m3 m7 y1_2 y1_4 y5_3 y5_4 y5_5 y6_1 y6_2 y6_3 y6_4 y9 v0 v5 v7 = some r) ?_ ?_
          · clear hk h
            rintro a w ⟨y9, v0, v5, v7, hk, h⟩
            unfold offshootlaw06_RecLast.j1 at h
            refine FW.wseqJ (fun a w => ∃ (y9 : ApiChange) (v0 : List ApiChange) (v5 : Bool) (v7 : Int), FW.S M w0 a w 102 [FW.blk bx4 29 ((ApiChange.cells y9)), FW.orow xd8 xc8 29 3 ApiChange.cells l8, FW.blk bx2 69 ([.lit (.pointer (some ⟨bx1, 0, none⟩)), .lit (.pointer (some ⟨xbNt1_0_1, 0, none⟩)), .lit (.map (some xr7)), .lit (.int .i64 y5_3), .lit (.int .u64 y5_4), .lit (.bool y5_5)]), FW.mapI (.int .u64) (Value.int .u64) FW.evS xr7 m7, FW.blk xbNt1_0_1 99 ([.lit (.pointer (some ⟨bx1, 0, none⟩)), .lit (.int .i64 y6_1), .lit (.int .i64 y6_2), .lit (.int .i64 y6_3), .lit (.int .u64 y6_4)]), FW.blk bx1 75 ([.lit (.slice xd2 (List.length l2) xc2), .lit (.map (some xr3)), .lit (.int .i64 y1_2), .lit (.slice xd4 (List.length l4) xc4), .lit (.bool y1_4)]), FW.orow xd2 xc2 9 1 c_str l2, FW.mapI (.int .i64) (Value.int .i64) FW.evS xr3 m3, FW.orow xd4 xc4 52 3 ApiFall.cells l4] [(0, [], .row (r_ApiChange_cells v0)), (3, [], .lit (.pointer (some ⟨bx2, 0, none⟩))), (4, [], .lit (.pointer (some ⟨bx1, 0, none⟩))), (5, [], .lit (.bool v5)), (6, [], .lit (.slice xd8 (List.length l8) xc8)), (7, [], .lit (.int .i64 v7)), (8, [], .lit (.pointer (some ⟨bx4, 0, none⟩)))] ∧ offshootlaw06_RecLast.j2 (offshootlaw06_RecLast.l1 K kl1) K l2 l4 l8 m3 m7 y1_2 y1_4 y5_3 y5_4 y5_5 y6_1 y6_2 y6_3 y6_4 y9 v0 v5 v7 = some r) ?_ ?_
            · clear hk h
              rintro a w ⟨y9, v0, v5, v7, hk, h⟩
              unfold offshootlaw06_RecLast.j2 at h
              refine FW.wreg1 ?_
              refine FW.lfun (y := .lit (.slice xd8 (List.length l8) xc8)) hk rfl rfl rfl rfl (FW.f_move hk (FW.holds_nil _) rfl) ?_; clear hk; intro a w hk
              refine FW.lfun (y := .agg ((ApiChange.cells y9))) hk rfl rfl rfl rfl (FW.f_loadBlk hk (FW.holds_nil _) (j := 0) rfl rfl Go.Proofs.Tryz.underlying29 rfl rfl rfl rfl) ?_; clear hk; intro a w hk
              refine FW.l_buildSlice (f := ApiChange.cells) (l := ([y9] : List ApiChange)) hk rfl rfl rfl Go.Proofs.Tryz.underlying22 rfl rfl rfl rfl (fun _ => rfl) rfl ?_; clear hk; intro bx5 a w hk
              obtain ⟨hc3, h⟩ := FW.chk h
              refine FW.l_append (l2 := ([y9] : List ApiChange)) (l3 := (l8 ++ ([y9] : List ApiChange))) (I' := fun ad1 cap1 => [FW.orow (some ⟨bx5, 0, none⟩) 1 29 3 ApiChange.cells ([y9] : List ApiChange), FW.blk bx4 29 ((ApiChange.cells y9)), FW.orow ad1 cap1 29 3 ApiChange.cells (l8 ++ ([y9] : List ApiChange)), FW.blk bx2 69 ([.lit (.pointer (some ⟨bx1, 0, none⟩)), .lit (.pointer (some ⟨xbNt1_0_1, 0, none⟩)), .lit (.map (some xr7)), .lit (.int .i64 y5_3), .lit (.int .u64 y5_4), .lit (.bool y5_5)]), FW.mapI (.int .u64) (Value.int .u64) FW.evS xr7 m7, FW.blk xbNt1_0_1 99 ([.lit (.pointer (some ⟨bx1, 0, none⟩)), .lit (.int .i64 y6_1), .lit (.int .i64 y6_2), .lit (.int .i64 y6_3), .lit (.int .u64 y6_4)]), FW.blk bx1 75 ([.lit (.slice xd2 (List.length l2) xc2), .lit (.map (some xr3)), .lit (.int .i64 y1_2), .lit (.slice xd4 (List.length l4) xc4), .lit (.bool y1_4)]), FW.orow xd2 xc2 9 1 c_str l2, FW.mapI (.int .i64) (Value.int .i64) FW.evS xr3 m3, FW.orow xd4 xc4 52 3 ApiFall.cells l4]) (j := 2) hk rfl rfl rfl rfl (FW.own_src hk (j := 0) rfl rfl (fun _ => rfl) Go.Proofs.Tryz.underlying22) Go.Proofs.Tryz.underlying22 (by kernel_rfl) hc3 rfl (fun _ _ => rfl) ?_; clear hk; intro ad1 cap1 a w hk
              replace hk := FW.S.dropI (I' := [FW.blk bx4 29 ((ApiChange.cells y9)), FW.orow ad1 cap1 29 3 ApiChange.cells (l8 ++ ([y9] : List ApiChange)), FW.blk bx2 69 ([.lit (.pointer (some ⟨bx1, 0, none⟩)), .lit (.pointer (some ⟨xbNt1_0_1, 0, none⟩)), .lit (.map (some xr7)), .lit (.int .i64 y5_3), .lit (.int .u64 y5_4), .lit (.bool y5_5)]), FW.mapI (.int .u64) (Value.int .u64) FW.evS xr7 m7, FW.blk xbNt1_0_1 99 ([.lit (.pointer (some ⟨bx1, 0, none⟩)), .lit (.int .i64 y6_1), .lit (.int .i64 y6_2), .lit (.int .i64 y6_3), .lit (.int .u64 y6_4)]), FW.blk bx1 75 ([.lit (.slice xd2 (List.length l2) xc2), .lit (.map (some xr3)), .lit (.int .i64 y1_2), .lit (.slice xd4 (List.length l4) xc4), .lit (.bool y1_4)]), FW.orow xd2 xc2 9 1 c_str l2, FW.mapI (.int .i64) (Value.int .i64) FW.evS xr3 m3, FW.orow xd4 xc4 52 3 ApiFall.cells l4]) hk 0 rfl
              refine FW.lfun (y := .lit (.slice ad1 (List.length (l8 ++ ([y9] : List ApiChange))) cap1)) hk rfl rfl rfl rfl (FW.f_assign hk (FW.holds_nil _) rfl) ?_; clear hk; intro a w hk
              refine wpList_nil ?_
              (repeat first | refine FW.then_normal ?_ | refine FW.block_normal ?_); refine hK9 _ _ ?_
              refine FW.wreg1 ?_
              refine FW.lfun (y := .lit (.int .i64 v7)) hk rfl rfl rfl rfl (FW.f_move hk (FW.holds_nil _) rfl) ?_; clear hk; intro a w hk
              refine FW.lfun (y := .lit (.int .i64 (IntKind.wrap .i64 (v7 + 1)))) hk rfl rfl rfl rfl ((FW.f_pure (FW.p_add hk.kn (FW.holds_nil _) rfl rfl))) ?_; clear hk; intro a w hk
              refine FW.lfun (y := .lit (.int .i64 (IntKind.wrap .i64 (v7 + 1)))) hk rfl rfl rfl rfl (FW.f_assign hk (FW.holds_nil _) rfl) ?_; clear hk; intro a w hk
              refine wpList_nil ?_
              (repeat first | refine FW.then_normal ?_ | refine FW.block_normal ?_); exact hK6 (kl1, (l8 ++ ([y9] : List ApiChange)), y5_3, y5_4, y5_5, m7, y6_1, y6_2, y6_3, y6_4, y1_2, y1_4, l2, m3, l4, v0, v5, (IntKind.wrap .i64 (v7 + 1)), ad1, cap1, xr7, xd2, xc2, xr3, xd4, xc4) _ _ (Nat.lt_succ_self _) ⟨(hk.drop 0).sub ⟨rfl, rfl, rfl, rfl, rfl, rfl, trivial⟩, h⟩
            · intro K' hK12
              refine FW.wreg ?_; intro K' hK15
              refine FW.lfun (y := .lit (.pointer (some ⟨bx4, 2, none⟩))) hk rfl rfl rfl rfl (FW.f_fieldPtr hk (FW.holds_nil _) rfl Go.Proofs.Tryz.underlying29 rfl (by kernel_rfl) rfl) ?_; clear hk; intro a w hk
              refine FW.lfun (y := .lit (.bool y9.Gone)) hk rfl rfl rfl rfl (FW.f_loadBlk1 hk (FW.holds_nil _) (j := 0) rfl rfl Go.Proofs.Tryz.underlying4 rfl rfl) ?_; clear hk; intro a w hk
              refine FW.lend (hK15 _ _ ?_); clear hK15 K'
              refine FW.wcondF (b := y9.Gone) hk h rfl (fun h hb => ?_) (fun h hb => ?_)
              · skip
                refine FW.wreg1 ?_
                refine FW.lfun (y := .lit (.pointer (some ⟨bx4, 1, none⟩))) hk rfl rfl rfl rfl (FW.f_fieldPtr hk (FW.holds_nil _) rfl Go.Proofs.Tryz.underlying29 rfl (by kernel_rfl) rfl) ?_; clear hk; intro a w hk
                refine FW.l_store (I' := [FW.blk bx4 29 ((ApiChange.cells (⟨y9.ID, ([] : List UInt8), y9.Gone⟩ : ApiChange))), FW.orow xd8 xc8 29 3 ApiChange.cells l8, FW.blk bx2 69 ([.lit (.pointer (some ⟨bx1, 0, none⟩)), .lit (.pointer (some ⟨xbNt1_0_1, 0, none⟩)), .lit (.map (some xr7)), .lit (.int .i64 y5_3), .lit (.int .u64 y5_4), .lit (.bool y5_5)]), FW.mapI (.int .u64) (Value.int .u64) FW.evS xr7 m7, FW.blk xbNt1_0_1 99 ([.lit (.pointer (some ⟨bx1, 0, none⟩)), .lit (.int .i64 y6_1), .lit (.int .i64 y6_2), .lit (.int .i64 y6_3), .lit (.int .u64 y6_4)]), FW.blk bx1 75 ([.lit (.slice xd2 (List.length l2) xc2), .lit (.map (some xr3)), .lit (.int .i64 y1_2), .lit (.slice xd4 (List.length l4) xc4), .lit (.bool y1_4)]), FW.orow xd2 xc2 9 1 c_str l2, FW.mapI (.int .i64) (Value.int .i64) FW.evS xr3 m3, FW.orow xd4 xc4 52 3 ApiFall.cells l4]) (cs' := (ApiChange.cells (⟨y9.ID, ([] : List UInt8), y9.Gone⟩ : ApiChange))) (j := 0) hk rfl rfl rfl rfl rfl (by kernel_rfl) rfl rfl ?_; clear hk; intro w hk
                refine wpList_nil ?_
                (repeat first | refine FW.then_normal ?_ | refine FW.block_normal ?_); exact hK12 _ _ ⟨(⟨y9.ID, ([] : List UInt8), y9.Gone⟩ : ApiChange), v0, v5, v7, hk.sub ⟨rfl, rfl, rfl, rfl, rfl, rfl, rfl, trivial⟩, h⟩
              refine wp_skip ?_
              (repeat first | refine FW.then_normal ?_ | refine FW.block_normal ?_); exact hK12 _ _ ⟨y9, v0, v5, v7, hk.sub ⟨rfl, rfl, rfl, rfl, rfl, rfl, rfl, trivial⟩, h⟩
          · intro K' hK11
            refine FW.wreg ?_; intro K' hK17
            refine FW.lfun (y := .lit (.pointer (some ⟨bx4, 1, none⟩))) hk rfl rfl rfl rfl (FW.f_fieldPtr hk (FW.holds_nil _) rfl Go.Proofs.Tryz.underlying29 rfl (by kernel_rfl) rfl) ?_; clear hk; intro a w hk
            refine FW.lfun (y := .lit (.string (FW.B ((List.getD v0 (Int.toNat v7) default).S)))) hk rfl rfl rfl rfl (FW.f_loadBlk1 hk (FW.holds_nil _) (j := 0) rfl rfl Go.Proofs.Tryz.underlying9 rfl rfl) ?_; clear hk; intro a w hk
            refine FW.lfun (y := .lit (.int .i64 (List.length ((List.getD v0 (Int.toNat v7) default).S) : Int))) hk rfl rfl rfl rfl ((FW.f_pure (FW.p_slen Go.Proofs.Tryz.underlying9 hk.kn (FW.holds_nil _) rfl))) ?_; clear hk; intro a w hk
            refine FW.lfun (y := .lit (.bool (decide (40 < (List.length ((List.getD v0 (Int.toNat v7) default).S) : Int))))) hk rfl rfl rfl rfl ((FW.f_pure (FW.p_gtr hk.kn (FW.holds_nil _) rfl rfl))) ?_; clear hk; intro a w hk
            refine FW.lend (hK17 _ _ ?_); clear hK17 K'
            refine FW.wcondF (b := (decide (40 < (List.length ((List.getD v0 (Int.toNat v7) default).S) : Int)))) hk h rfl (fun h hb => ?_) (fun h hb => ?_)
            · skip
              refine FW.wreg1 ?_
              refine FW.lfun (y := .lit (.pointer (some ⟨bx4, 1, none⟩))) hk rfl rfl rfl rfl (FW.f_fieldPtr hk (FW.holds_nil _) rfl Go.Proofs.Tryz.underlying29 rfl (by kernel_rfl) rfl) ?_; clear hk; intro a w hk
              refine FW.lfun (y := .lit (.string (FW.B ((List.getD v0 (Int.toNat v7) default).S)))) hk rfl rfl rfl rfl (FW.f_loadBlk1 hk (FW.holds_nil _) (j := 0) rfl rfl Go.Proofs.Tryz.underlying9 rfl rfl) ?_; clear hk; intro a w hk
              obtain ⟨hc4, h⟩ := FW.chk h
              refine FW.lfun (y := .lit (.string (FW.B (List.take (Int.toNat 40) ((List.getD v0 (Int.toNat v7) default).S))))) hk rfl rfl rfl rfl ((FW.f_pure (FW.p_slice_hi Go.Proofs.Tryz.underlying9 hk.kn (FW.holds_nil _) rfl rfl hc4))) ?_; clear hk; intro a w hk
              refine FW.lfun (y := .lit (.pointer (some ⟨bx4, 1, none⟩))) hk rfl rfl rfl rfl (FW.f_fieldPtr hk (FW.holds_nil _) rfl Go.Proofs.Tryz.underlying29 rfl (by kernel_rfl) rfl) ?_; clear hk; intro a w hk
              refine FW.l_store (I' := [FW.blk bx4 29 ((ApiChange.cells (⟨7, (List.take (Int.toNat 40) ((List.getD v0 (Int.toNat v7) default).S)), (List.getD v0 (Int.toNat v7) default).Gone⟩ : ApiChange))), FW.orow xd8 xc8 29 3 ApiChange.cells l8, FW.blk bx2 69 ([.lit (.pointer (some ⟨bx1, 0, none⟩)), .lit (.pointer (some ⟨xbNt1_0_1, 0, none⟩)), .lit (.map (some xr7)), .lit (.int .i64 y5_3), .lit (.int .u64 y5_4), .lit (.bool y5_5)]), FW.mapI (.int .u64) (Value.int .u64) FW.evS xr7 m7, FW.blk xbNt1_0_1 99 ([.lit (.pointer (some ⟨bx1, 0, none⟩)), .lit (.int .i64 y6_1), .lit (.int .i64 y6_2), .lit (.int .i64 y6_3), .lit (.int .u64 y6_4)]), FW.blk bx1 75 ([.lit (.slice xd2 (List.length l2) xc2), .lit (.map (some xr3)), .lit (.int .i64 y1_2), .lit (.slice xd4 (List.length l4) xc4), .lit (.bool y1_4)]), FW.orow xd2 xc2 9 1 c_str l2, FW.mapI (.int .i64) (Value.int .i64) FW.evS xr3 m3, FW.orow xd4 xc4 52 3 ApiFall.cells l4]) (cs' := (ApiChange.cells (⟨7, (List.take (Int.toNat 40) ((List.getD v0 (Int.toNat v7) default).S)), (List.getD v0 (Int.toNat v7) default).Gone⟩ : ApiChange))) (j := 0) hk rfl rfl rfl rfl rfl (by kernel_rfl) rfl rfl ?_; clear hk; intro w hk
              refine wpList_nil ?_
              (repeat first | refine FW.then_normal ?_ | refine FW.block_normal ?_); exact hK11 _ _ ⟨(⟨7, (List.take (Int.toNat 40) ((List.getD v0 (Int.toNat v7) default).S)), (List.getD v0 (Int.toNat v7) default).Gone⟩ : ApiChange), v0, v5, v7, hk.sub ⟨rfl, rfl, rfl, rfl, rfl, rfl, rfl, trivial⟩, h⟩
            refine wp_skip ?_
            (repeat first | refine FW.then_normal ?_ | refine FW.block_normal ?_); exact hK11 _ _ ⟨(⟨7, (List.getD v0 (Int.toNat v7) default).S, (List.getD v0 (Int.toNat v7) default).Gone⟩ : ApiChange), v0, v5, v7, hk.sub ⟨rfl, rfl, rfl, rfl, rfl, rfl, rfl, trivial⟩, h⟩
  refine wp_exit ?_; (repeat first | refine FW.then_exit ?_ | refine FW.block_exit_ne rfl ?_); refine FW.block_exit ?_
  (repeat first | refine FW.then_normal ?_ | refine FW.block_normal ?_); refine hK4 _ _ ?_
  refine FW.wreg ?_; intro K' hK19
  refine FW.lfun (y := .lit (.pointer (some ⟨bx2, 0, none⟩))) hk rfl rfl rfl rfl (FW.f_move hk (FW.holds_nil _) rfl) ?_; clear hk; intro a w hk
  refine FW.lfun (y := .lit (.slice xd8 (List.length l8) xc8)) hk rfl rfl rfl rfl (FW.f_move hk (FW.holds_nil _) rfl) ?_; clear hk; intro a w hk
  replace hk := FW.S.freezeR2 (I' := [FW.blk bx2 69 ([.lit (.pointer (some ⟨bx1, 0, none⟩)), .lit (.pointer (some ⟨xbNt1_0_1, 0, none⟩)), .lit (.map (some xr7)), .lit (.int .i64 y5_3), .lit (.int .u64 y5_4), .lit (.bool y5_5)]), FW.mapI (.int .u64) (Value.int .u64) FW.evS xr7 m7, FW.blk xbNt1_0_1 99 ([.lit (.pointer (some ⟨bx1, 0, none⟩)), .lit (.int .i64 y6_1), .lit (.int .i64 y6_2), .lit (.int .i64 y6_3), .lit (.int .u64 y6_4)]), FW.blk bx1 75 ([.lit (.slice xd2 (List.length l2) xc2), .lit (.map (some xr3)), .lit (.int .i64 y1_2), .lit (.slice xd4 (List.length l4) xc4), .lit (.bool y1_4)]), FW.orow xd2 xc2 9 1 c_str l2, FW.mapI (.int .i64) (Value.int .i64) FW.evS xr3 m3, FW.orow xd4 xc4 52 3 ApiFall.cells l4]) r_ApiChange_cells_eq hk (j := 0) rfl (t := 55) (t' := 6) rfl rfl rfl
  obtain ⟨t2, hr_t2, h⟩ := FW.bnd h
  refine FW.l_callH (I1 := (ORecStore.items bx2 bx1 xbNt1_0_1 xr7 (⟨(⟨y6_1, y6_2, y6_3, y6_4⟩ : OLogLog), m7, y5_3, y5_4, y5_5⟩ : ORecStore)) ++ (ODevDev.items bx1 xd2 xc2 xr3 xd4 xc4 (⟨l2, m3, y1_2, l4, y1_4⟩ : ODevDev))) (I2 := []) (js := [6, 6, 6, 6, 6, 6, 6]) hk rfl rfl rfl rfl rfl Go.Proofs.Tryz.func10 rfl (by kernel_rfl) (rec_Store_Commit.ok K (⟨(⟨y6_1, y6_2, y6_3, y6_4⟩ : OLogLog), m7, y5_3, y5_4, y5_5⟩ : ORecStore) (⟨l2, m3, y1_2, l4, y1_4⟩ : ODevDev) l8 _ hr_t2 bx2 bx1 xbNt1_0_1 xr7 xd2 xc2 xr3 xd4 xc4) ?_; clear hk
  rintro _ _ ⟨zb1, zr1, zd1, zc1, zr2, zd2, zc2, rfl, rfl⟩ a w hk
  refine FW.lfun (y := .lit (.int .i64 t2.1)) hk rfl rfl rfl rfl (FW.f_assign hk (FW.holds_nil _) rfl) ?_; clear hk; intro a w hk
  refine FW.lend (hK19 _ _ ?_); clear hK19 K'
  refine FW.wreg ?_; intro K' hK20
  refine FW.lfun (y := .lit (.pointer (some ⟨bx2, 0, none⟩))) hk rfl rfl rfl rfl (FW.f_move hk (FW.holds_nil _) rfl) ?_; clear hk; intro a w hk
  obtain ⟨t3, hr_t3, h⟩ := FW.bnd h
  refine FW.l_callH (I1 := (ORecStore.items bx2 bx1 zb1 zr1 t2.2.1) ++ (ODevDev.items bx1 zd1 zc1 zr2 zd2 zc2 t2.2.2)) (I2 := []) (js := [6, 6, 6, 6, 6, 6, 6]) hk rfl rfl rfl rfl rfl Go.Proofs.Tryz.func11 rfl (by kernel_rfl) (rec_Store_Get.ok t2.2.1 t2.2.2 7 _ hr_t3 bx2 bx1 zb1 zr1 zd1 zc1 zr2 zd2 zc2) ?_; clear hk
  rintro _ _ ⟨rfl, rfl⟩ a w hk
  refine FW.lfun (y := .tup [.lit (.string (FW.B t3.1)), .lit (.bool t3.2)]) hk rfl rfl rfl rfl (FW.f_move hk (FW.holds_nil _) rfl) ?_; clear hk; intro a w hk
  refine FW.lfun (y := .lit (.string (FW.B t3.1))) hk rfl rfl rfl rfl (FW.f_extract hk (FW.holds_nil _) rfl rfl) ?_; clear hk; intro a w hk
  refine FW.lfun (y := .lit (.bool t3.2)) hk rfl rfl rfl rfl (FW.f_extract hk (FW.holds_nil _) rfl rfl) ?_; clear hk; intro a w hk
  refine FW.lfun (y := .lit (.string (FW.B t3.1))) hk rfl rfl rfl rfl (FW.f_assign hk (FW.holds_nil _) rfl) ?_; clear hk; intro a w hk
  refine FW.lfun (y := .lit (.bool t3.2)) hk rfl rfl rfl rfl (FW.f_assign hk (FW.holds_nil _) rfl) ?_; clear hk; intro a w hk
  refine FW.lend (hK20 _ _ ?_); clear hK20 K'
  refine FW.wseq ?_; intro K' hK21
  refine FW.wreg ?_; intro K' hK22
  obtain ⟨t4, hr_t4, h⟩ := FW.bnd h
  refine FW.lfun (y := .lit (.bool t4)) hk rfl rfl rfl rfl (FW.f_call hk (FW.holds_nil _) rfl rfl Go.Proofs.Tryz.func12 rfl (by kernel_rfl) (offshootlaw06_awake.ok K  _ hr_t4)) ?_; clear hk; intro a w hk
  refine FW.lfun (y := .lit (.bool (!t4))) hk rfl rfl rfl rfl ((FW.f_pure (FW.p_not hk.kn (FW.holds_nil _) rfl))) ?_; clear hk; intro a w hk
  refine FW.lfun (y := .lit (.bool (!t4))) hk rfl rfl rfl rfl (FW.f_move hk (FW.holds_nil _) rfl) ?_; clear hk; intro a w hk
  refine FW.lfunG (y := .lit (.bool v5)) hk rfl rfl rfl rfl rfl rfl rfl rfl (fun hc => FW.f_move hk hc rfl) ?_; clear hk; intro a w hk
  refine FW.lfunG (y := .lit (.bool (!v5))) hk rfl rfl rfl rfl rfl rfl rfl rfl (fun hc => (FW.f_pure (FW.p_not hk.kn hc rfl))) ?_; clear hk; intro a w hk
  refine FW.lfun (y := .lit (.bool ((!t4) || (!v5)))) hk rfl rfl rfl rfl ((FW.f_pure (FW.p_pick_or hk.kn (FW.holds_nil _) rfl rfl))) ?_; clear hk; intro a w hk
  refine FW.lfun (y := .lit (.bool ((!t4) || (!v5)))) hk rfl rfl rfl rfl (FW.f_move hk (FW.holds_nil _) rfl) ?_; clear hk; intro a w hk
  refine FW.lfunG (y := .lit (.int .i64 t2.1)) hk rfl rfl rfl rfl rfl rfl rfl rfl (fun hc => FW.f_move hk hc rfl) ?_; clear hk; intro a w hk
  refine FW.lfunG (y := .lit (.bool (!decide (t2.1 = 0)))) hk rfl rfl rfl rfl rfl rfl rfl rfl (fun hc => (FW.f_pure (FW.p_neq hk.kn hc rfl rfl))) ?_; clear hk; intro a w hk
  refine FW.lfun (y := .lit (.bool (((!t4) || (!v5)) || (!decide (t2.1 = 0))))) hk rfl rfl rfl rfl ((FW.f_pure (FW.p_pick_or hk.kn (FW.holds_nil _) rfl rfl))) ?_; clear hk; intro a w hk
  refine FW.lfun (y := .lit (.bool (((!t4) || (!v5)) || (!decide (t2.1 = 0))))) hk rfl rfl rfl rfl (FW.f_move hk (FW.holds_nil _) rfl) ?_; clear hk; intro a w hk
  refine FW.lfunG (y := .lit (.pointer (some ⟨bx1, 0, none⟩))) hk rfl rfl rfl rfl rfl rfl rfl rfl (fun hc => FW.f_move hk hc rfl) ?_; clear hk; intro a w hk
  obtain ⟨t5, hr_t5, hn_t5, h⟩ := FW.bndG2 h
  refine FW.l_callHG (I1 := (ODevDev.items bx1 zd1 zc1 zr2 zd2 zc2 t2.2.2)) (I2 := [FW.blk bx2 69 ([.lit (.pointer (some ⟨bx1, 0, none⟩)), .lit (.pointer (some ⟨zb1, 0, none⟩)), .lit (.map (some zr1)), .lit (.int .i64 t2.2.1.half), .lit (.int .u64 t2.2.1.round), .lit (.bool t2.2.1.dead)]), FW.mapI (.int .u64) (Value.int .u64) FW.evS zr1 t2.2.1.m, FW.blk zb1 99 ([.lit (.pointer (some ⟨bx1, 0, none⟩)), .lit (.int .i64 t2.2.1.l.from_), .lit (.int .i64 t2.2.1.l.to_), .lit (.int .i64 t2.2.1.l.at_), .lit (.int .u64 t2.2.1.l.next)])]) (js := [6, 6, 6, 6]) hk rfl rfl rfl rfl rfl rfl rfl rfl rfl Go.Proofs.Tryz.func13 rfl (by kernel_rfl) (fun hc => dev_Dev_Off.ok t2.2.2 _ (hr_t5 (FW.asm_out (p := (((!t4) || (!v5)) || (!decide (t2.1 = 0))) = false) hk.kn hc (fun e0 => e0))) bx1 zd1 zc1 zr2 zd2 zc2) (fun hn => by obtain rfl := hn_t5 (fun hp => hn (FW.asm_in hk.kn (by have e0 := hp; exact ⟨e0, rfl, trivial⟩))); exact ⟨_, rfl, rfl⟩) ?_; clear hk
  rintro _ _ ⟨rfl, rfl⟩ a w hk
  refine FW.lfun (y := .lit (.bool ((((!t4) || (!v5)) || (!decide (t2.1 = 0))) || t5))) hk rfl rfl rfl rfl ((FW.f_pure (FW.p_pick_or hk.kn (FW.holds_nil _) rfl rfl))) ?_; clear hk; intro a w hk
  refine FW.lend (hK22 _ _ ?_); clear hK22 K'
  refine FW.wcondF (b := ((((!t4) || (!v5)) || (!decide (t2.1 = 0))) || t5)) hk h rfl (fun h hb => ?_) (fun h hb => ?_)
  · skip
    refine FW.wreg ?_; intro K' hK23
    refine FW.lfun (y := .lit (.bool false)) hk rfl rfl rfl rfl (FW.f_assign hk (FW.holds_nil _) rfl) ?_; clear hk; intro a w hk
    refine FW.lend (hK23 _ _ ?_); clear hK23 K'
    refine wp_ret ?_
    (repeat first | refine FW.then_ret ?_ | refine FW.block_ret ?_)
    obtain rfl := Option.some.inj h
    exact FW.fret1 hk rfl rfl
  refine wp_skip ?_
  (repeat first | refine FW.then_normal ?_ | refine FW.block_normal ?_); refine hK21 _ _ ?_
  refine FW.wseq ?_; intro K' hK24
  refine FW.wreg ?_; intro K' hK25
  refine FW.lfun (y := .row (r_ApiChange_cells l8)) hk rfl rfl rfl rfl (FW.f_move hk (FW.holds_nil _) rfl) ?_; clear hk; intro a w hk
  refine FW.lfun (y := .lit (.int .i64 (List.length l8 : Int))) hk rfl rfl rfl rfl (FW.f_len (R := r_ApiChange_cells) (f := ApiChange.cells) (l := l8) r_ApiChange_cells_eq Go.Proofs.Tryz.underlying22 hk (FW.holds_nil _) rfl) ?_; clear hk; intro a w hk
  refine FW.lfun (y := .lit (.bool (decide ((List.length l8 : Int) = 0)))) hk rfl rfl rfl rfl ((FW.f_pure (FW.p_eql hk.kn (FW.holds_nil _) rfl rfl))) ?_; clear hk; intro a w hk
  refine FW.lfun (y := .lit (.bool (decide ((List.length l8 : Int) = 0)))) hk rfl rfl rfl rfl (FW.f_move hk (FW.holds_nil _) rfl) ?_; clear hk; intro a w hk
  refine FW.lfunG (y := .row (r_ApiChange_cells l8)) hk rfl rfl rfl rfl rfl rfl rfl rfl (fun hc => FW.f_move hk hc rfl) ?_; clear hk; intro a w hk
  refine FW.lfunG (y := .row (r_ApiChange_cells l8)) hk rfl rfl rfl rfl rfl rfl rfl rfl (fun hc => FW.f_move hk hc rfl) ?_; clear hk; intro a w hk
  refine FW.lfunG (y := .lit (.int .i64 (List.length l8 : Int))) hk rfl rfl rfl rfl rfl rfl rfl rfl (fun hc => FW.f_len (R := r_ApiChange_cells) (f := ApiChange.cells) (l := l8) r_ApiChange_cells_eq Go.Proofs.Tryz.underlying22 hk hc rfl) ?_; clear hk; intro a w hk
  refine FW.lfunG (y := .lit (.int .i64 (IntKind.wrap .i64 ((List.length l8 : Int) - 1)))) hk rfl rfl rfl rfl rfl rfl rfl rfl (fun hc => (FW.f_pure (FW.p_sub hk.kn hc rfl rfl))) ?_; clear hk; intro a w hk
  obtain ⟨hc5, h⟩ := FW.chk h
  refine FW.lfunG (y := .ref (ApiChange.cells (List.getD l8 (Int.toNat (IntKind.wrap .i64 ((List.length l8 : Int) - 1))) default))) hk rfl rfl rfl rfl rfl rfl rfl rfl (fun hc => FW.f_indexAddr (R := r_ApiChange_cells) (f := ApiChange.cells) (l := l8) (sz := 3) r_ApiChange_cells_eq (fun _ => rfl) hk hc rfl rfl Go.Proofs.Tryz.underlying22 (by kernel_rfl) hc5) ?_; clear hk; intro a w hk
  refine FW.lfunG (y := .ref (List.drop 2 (ApiChange.cells (List.getD l8 (Int.toNat (IntKind.wrap .i64 ((List.length l8 : Int) - 1))) default)))) hk rfl rfl rfl rfl rfl rfl rfl rfl (fun hc => FW.f_fieldAddr hk hc rfl Go.Proofs.Tryz.underlying29 rfl (by kernel_rfl) rfl) ?_; clear hk; intro a w hk
  refine FW.lfunG (y := .lit (.bool ((List.getD l8 (Int.toNat (IntKind.wrap .i64 ((List.length l8 : Int) - 1))) default).Gone))) hk rfl rfl rfl rfl rfl rfl rfl rfl (fun hc => FW.f_load1 hk hc rfl rfl Go.Proofs.Tryz.underlying4 rfl) ?_; clear hk; intro a w hk
  refine FW.lfun (y := .lit (.bool ((decide ((List.length l8 : Int) = 0)) || ((List.getD l8 (Int.toNat (IntKind.wrap .i64 ((List.length l8 : Int) - 1))) default).Gone)))) hk rfl rfl rfl rfl ((FW.f_pure (FW.p_pick_or hk.kn (FW.holds_nil _) rfl rfl))) ?_; clear hk; intro a w hk
  refine FW.lend (hK25 _ _ ?_); clear hK25 K'
  refine FW.wcondF (b := ((decide ((List.length l8 : Int) = 0)) || ((List.getD l8 (Int.toNat (IntKind.wrap .i64 ((List.length l8 : Int) - 1))) default).Gone))) hk h rfl (fun h hb => ?_) (fun h hb => ?_)
  · skip
    refine FW.wreg ?_; intro K' hK26
    refine FW.lfun (y := .lit (.bool t3.2)) hk rfl rfl rfl rfl (FW.f_move hk (FW.holds_nil _) rfl) ?_; clear hk; intro a w hk
    refine FW.lfun (y := .lit (.bool (!t3.2))) hk rfl rfl rfl rfl ((FW.f_pure (FW.p_not hk.kn (FW.holds_nil _) rfl))) ?_; clear hk; intro a w hk
    refine FW.lfun (y := .lit (.bool (!t3.2))) hk rfl rfl rfl rfl (FW.f_assign hk (FW.holds_nil _) rfl) ?_; clear hk; intro a w hk
    refine FW.lend (hK26 _ _ ?_); clear hK26 K'
    refine wp_ret ?_
    (repeat first | refine FW.then_ret ?_ | refine FW.block_ret ?_)
    obtain rfl := Option.some.inj h
    exact FW.fret1 hk rfl rfl
  refine wp_skip ?_
  (repeat first | refine FW.then_normal ?_ | refine FW.block_normal ?_); refine hK24 _ _ ?_
  refine FW.wreg ?_; intro K' hK27
  refine FW.lfun (y := .lit (.bool t3.2)) hk rfl rfl rfl rfl (FW.f_move hk (FW.holds_nil _) rfl) ?_; clear hk; intro a w hk
  refine FW.lfun (y := .lit (.bool t3.2)) hk rfl rfl rfl rfl (FW.f_move hk (FW.holds_nil _) rfl) ?_; clear hk; intro a w hk
  refine FW.lfunG (y := .lit (.string (FW.B t3.1))) hk rfl rfl rfl rfl rfl rfl rfl rfl (fun hc => FW.f_move hk hc rfl) ?_; clear hk; intro a w hk
  refine FW.lfunG (y := .row (r_ApiChange_cells l8)) hk rfl rfl rfl rfl rfl rfl rfl rfl (fun hc => FW.f_move hk hc rfl) ?_; clear hk; intro a w hk
  refine FW.lfunG (y := .row (r_ApiChange_cells l8)) hk rfl rfl rfl rfl rfl rfl rfl rfl (fun hc => FW.f_move hk hc rfl) ?_; clear hk; intro a w hk
  refine FW.lfunG (y := .lit (.int .i64 (List.length l8 : Int))) hk rfl rfl rfl rfl rfl rfl rfl rfl (fun hc => FW.f_len (R := r_ApiChange_cells) (f := ApiChange.cells) (l := l8) r_ApiChange_cells_eq Go.Proofs.Tryz.underlying22 hk hc rfl) ?_; clear hk; intro a w hk
  refine FW.lfunG (y := .lit (.int .i64 (IntKind.wrap .i64 ((List.length l8 : Int) - 1)))) hk rfl rfl rfl rfl rfl rfl rfl rfl (fun hc => (FW.f_pure (FW.p_sub hk.kn hc rfl rfl))) ?_; clear hk; intro a w hk
  obtain ⟨hc6, h⟩ := FW.chk h
  refine FW.lfunG (y := .ref (ApiChange.cells (List.getD l8 (Int.toNat (IntKind.wrap .i64 ((List.length l8 : Int) - 1))) default))) hk rfl rfl rfl rfl rfl rfl rfl rfl (fun hc => FW.f_indexAddr (R := r_ApiChange_cells) (f := ApiChange.cells) (l := l8) (sz := 3) r_ApiChange_cells_eq (fun _ => rfl) hk hc rfl rfl Go.Proofs.Tryz.underlying22 (by kernel_rfl) hc6) ?_; clear hk; intro a w hk
  refine FW.lfunG (y := .ref (List.drop 1 (ApiChange.cells (List.getD l8 (Int.toNat (IntKind.wrap .i64 ((List.length l8 : Int) - 1))) default)))) hk rfl rfl rfl rfl rfl rfl rfl rfl (fun hc => FW.f_fieldAddr hk hc rfl Go.Proofs.Tryz.underlying29 rfl (by kernel_rfl) rfl) ?_; clear hk; intro a w hk
  refine FW.lfunG (y := .lit (.string (FW.B ((List.getD l8 (Int.toNat (IntKind.wrap .i64 ((List.length l8 : Int) - 1))) default).S)))) hk rfl rfl rfl rfl rfl rfl rfl rfl (fun hc => FW.f_load1 hk hc rfl rfl Go.Proofs.Tryz.underlying9 rfl) ?_; clear hk; intro a w hk
  refine FW.lfunG (y := .lit (.bool (decide (t3.1 = ((List.getD l8 (Int.toNat (IntKind.wrap .i64 ((List.length l8 : Int) - 1))) default).S))))) hk rfl rfl rfl rfl rfl rfl rfl rfl (fun hc => (FW.f_pure (FW.p_seql hk.kn hc rfl rfl))) ?_; clear hk; intro a w hk
  refine FW.lfun (y := .lit (.bool (t3.2 && (decide (t3.1 = ((List.getD l8 (Int.toNat (IntKind.wrap .i64 ((List.length l8 : Int) - 1))) default).S)))))) hk rfl rfl rfl rfl ((FW.f_pure (FW.p_pick_and hk.kn (FW.holds_nil _) rfl rfl))) ?_; clear hk; intro a w hk
  refine FW.lfun (y := .lit (.bool (t3.2 && (decide (t3.1 = ((List.getD l8 (Int.toNat (IntKind.wrap .i64 ((List.length l8 : Int) - 1))) default).S)))))) hk rfl rfl rfl rfl (FW.f_assign hk (FW.holds_nil _) rfl) ?_; clear hk; intro a w hk
  refine FW.lend (hK27 _ _ ?_); clear hK27 K'
  refine wp_ret ?_
  (repeat first | refine FW.then_ret ?_ | refine FW.block_ret ?_)
  obtain rfl := Option.some.inj h
  exact FW.fret1 hk rfl rfl
theorem rec_Store_Get_nil.ok  (v1 : Int) (r : List UInt8 × Bool) (h : rec_Store_Get_nil.f v1 = some r) :
    FW.Ok Go.Proofs.Tryz.prog 11 [.lit (.pointer none), .lit (.int .u64 v1)] (.tup [.lit (.string (FW.B r.1)), .lit (.bool r.2)]) := by
  refine FW.enter (xs := [.lit (.pointer none), .lit (.int .u64 v1)]) Go.Proofs.Tryz.func11 rfl Go.Proofs.Tryz.ntmps11 rfl ?_
  intro M w0 a hk
  unfold rec_Store_Get_nil.f at h
  refine FW.wreg ?_; intro K' hK1
  refine FW.lfun (y := .lit (.string (FW.B ([] : List UInt8)))) hk rfl rfl rfl rfl (FW.f_assign hk (FW.holds_nil _) rfl) ?_; clear hk; intro a w hk
  refine FW.lfun (y := .lit (.bool false)) hk rfl rfl rfl rfl (FW.f_assign hk (FW.holds_nil _) rfl) ?_; clear hk; intro a w hk
  refine FW.lend (hK1 _ _ ?_); clear hK1 K'
  refine FW.wseq ?_; intro K' hK2
  refine FW.wreg ?_; intro K' hK3
  refine FW.lfun (y := .lit (.pointer none)) hk rfl rfl rfl rfl (FW.f_move hk (FW.holds_nil _) rfl) ?_; clear hk; intro a w hk
  refine FW.lfun (y := .lit (.bool true)) hk rfl rfl rfl rfl ((FW.f_pure (FW.p_ptrEq Go.Proofs.Tryz.underlying23 hk.kn (FW.holds_nil _) rfl rfl rfl))) ?_; clear hk; intro a w hk
  refine FW.lend (hK3 _ _ ?_); clear hK3 K'
  refine FW.wcondT hk rfl ?_
  refine FW.wreg ?_; intro K' hK4
  refine FW.lfun (y := .lit (.string (FW.B ([] : List UInt8)))) hk rfl rfl rfl rfl (FW.f_assign hk (FW.holds_nil _) rfl) ?_; clear hk; intro a w hk
  refine FW.lfun (y := .lit (.bool false)) hk rfl rfl rfl rfl (FW.f_assign hk (FW.holds_nil _) rfl) ?_; clear hk; intro a w hk
  refine FW.lend (hK4 _ _ ?_); clear hK4 K'
  refine wp_ret ?_
  (repeat first | refine FW.then_ret ?_ | refine FW.block_ret ?_)
  obtain rfl := Option.some.inj h
  exact FW.fret2 hk rfl rfl rfl
theorem rec_Store_Snap_nil.ok   (r : Unit) (h : rec_Store_Snap_nil.f = some r) :
    FW.Ok Go.Proofs.Tryz.prog 17 [.lit (.pointer none)] (.lit (.func (.func 34) #[] #[])) := by
  refine FW.enter (xs := [.lit (.pointer none)]) Go.Proofs.Tryz.func17 rfl Go.Proofs.Tryz.ntmps17 rfl ?_
  intro M w0 a hk
  unfold rec_Store_Snap_nil.f at h
  refine FW.wreg ?_; intro K' hK1
  refine FW.lfun (y := .lit .nilFunc) hk rfl rfl rfl rfl (FW.f_assign hk (FW.holds_nil _) rfl) ?_; clear hk; intro a w hk
  refine FW.lend (hK1 _ _ ?_); clear hK1 K'
  refine FW.wseq ?_; intro K' hK2
  refine FW.wreg ?_; intro K' hK3
  refine FW.lfun (y := .lit (.pointer none)) hk rfl rfl rfl rfl (FW.f_move hk (FW.holds_nil _) rfl) ?_; clear hk; intro a w hk
  refine FW.lfun (y := .lit (.bool true)) hk rfl rfl rfl rfl ((FW.f_pure (FW.p_ptrEq Go.Proofs.Tryz.underlying23 hk.kn (FW.holds_nil _) rfl rfl rfl))) ?_; clear hk; intro a w hk
  refine FW.lend (hK3 _ _ ?_); clear hK3 K'
  refine FW.wcondT hk rfl ?_
  refine FW.wreg ?_; intro K' hK4
  refine FW.lfun (y := .lit (.func (.func 34) #[] #[])) hk rfl rfl rfl rfl (FW.f_assign hk (FW.holds_nil _) rfl) ?_; clear hk; intro a w hk
  refine FW.lend (hK4 _ _ ?_); clear hK4 K'
  refine wp_ret ?_
  (repeat first | refine FW.then_ret ?_ | refine FW.block_ret ?_)
  exact FW.fret1 hk rfl rfl
theorem rec_Store_Snap_1.ok  (v0 : Int) (r : List UInt8 × Bool) (h : rec_Store_Snap_1.f v0 = some r) :
    FW.Ok Go.Proofs.Tryz.prog 34 [.lit (.int .u64 v0)] (.tup [.lit (.string (FW.B r.1)), .lit (.bool r.2)]) := by
  refine FW.enter (xs := [.lit (.int .u64 v0)]) Go.Proofs.Tryz.func34 rfl Go.Proofs.Tryz.ntmps34 rfl ?_
  intro M w0 a hk
  unfold rec_Store_Snap_1.f at h
  refine FW.wreg ?_; intro K' hK1
  refine FW.lfun (y := .lit (.string (FW.B ([] : List UInt8)))) hk rfl rfl rfl rfl (FW.f_assign hk (FW.holds_nil _) rfl) ?_; clear hk; intro a w hk
  refine FW.lfun (y := .lit (.bool false)) hk rfl rfl rfl rfl (FW.f_assign hk (FW.holds_nil _) rfl) ?_; clear hk; intro a w hk
  refine FW.lend (hK1 _ _ ?_); clear hK1 K'
  refine FW.wreg ?_; intro K' hK2
  refine FW.lfun (y := .lit (.string (FW.B ([] : List UInt8)))) hk rfl rfl rfl rfl (FW.f_assign hk (FW.holds_nil _) rfl) ?_; clear hk; intro a w hk
  refine FW.lfun (y := .lit (.bool false)) hk rfl rfl rfl rfl (FW.f_assign hk (FW.holds_nil _) rfl) ?_; clear hk; intro a w hk
  refine FW.lend (hK2 _ _ ?_); clear hK2 K'
  refine wp_ret ?_
  (repeat first | refine FW.then_ret ?_ | refine FW.block_ret ?_)
  obtain rfl := Option.some.inj h
  exact FW.fret2 hk rfl rfl rfl
theorem dev_Dev_Len_nil.ok   (r : Int) (h : dev_Dev_Len_nil.f = some r) :
    FW.Ok Go.Proofs.Tryz.prog 36 [.lit (.pointer none)] (.lit (.int .i64 r)) := by
  refine FW.enter (xs := [.lit (.pointer none)]) Go.Proofs.Tryz.func36 rfl Go.Proofs.Tryz.ntmps36 rfl ?_
  intro M w0 a hk
  unfold dev_Dev_Len_nil.f at h
  refine FW.wreg ?_; intro K' hK1
  refine FW.lfun (y := .lit (.int .i64 0)) hk rfl rfl rfl rfl (FW.f_assign hk (FW.holds_nil _) rfl) ?_; clear hk; intro a w hk
  refine FW.lend (hK1 _ _ ?_); clear hK1 K'
  refine FW.wseq ?_; intro K' hK2
  refine FW.wreg ?_; intro K' hK3
  refine FW.lfun (y := .lit (.pointer none)) hk rfl rfl rfl rfl (FW.f_move hk (FW.holds_nil _) rfl) ?_; clear hk; intro a w hk
  refine FW.lfun (y := .lit (.bool true)) hk rfl rfl rfl rfl ((FW.f_pure (FW.p_ptrEq Go.Proofs.Tryz.underlying24 hk.kn (FW.holds_nil _) rfl rfl rfl))) ?_; clear hk; intro a w hk
  refine FW.lend (hK3 _ _ ?_); clear hK3 K'
  refine FW.wcondT hk rfl ?_
  refine FW.wreg ?_; intro K' hK4
  refine FW.lfun (y := .lit (.int .i64 0)) hk rfl rfl rfl rfl (FW.f_assign hk (FW.holds_nil _) rfl) ?_; clear hk; intro a w hk
  refine FW.lend (hK4 _ _ ?_); clear hK4 K'
  refine wp_ret ?_
  (repeat first | refine FW.then_ret ?_ | refine FW.block_ret ?_)
  obtain rfl := Option.some.inj h
  exact FW.fret1 hk rfl rfl
theorem dev_Dev_Off_nil.ok   (r : Bool) (h : dev_Dev_Off_nil.f = some r) :
    FW.Ok Go.Proofs.Tryz.prog 13 [.lit (.pointer none)] (.lit (.bool r)) := by
  refine FW.enter (xs := [.lit (.pointer none)]) Go.Proofs.Tryz.func13 rfl Go.Proofs.Tryz.ntmps13 rfl ?_
  intro M w0 a hk
  unfold dev_Dev_Off_nil.f at h
  refine FW.wreg ?_; intro K' hK1
  refine FW.lfun (y := .lit (.bool false)) hk rfl rfl rfl rfl (FW.f_assign hk (FW.holds_nil _) rfl) ?_; clear hk; intro a w hk
  refine FW.lend (hK1 _ _ ?_); clear hK1 K'
  refine FW.wreg ?_; intro K' hK2
  refine FW.lfun (y := .lit (.pointer none)) hk rfl rfl rfl rfl (FW.f_move hk (FW.holds_nil _) rfl) ?_; clear hk; intro a w hk
  refine FW.lfun (y := .lit (.bool true)) hk rfl rfl rfl rfl ((FW.f_pure (FW.p_ptrEq Go.Proofs.Tryz.underlying24 hk.kn (FW.holds_nil _) rfl rfl rfl))) ?_; clear hk; intro a w hk
  refine FW.lfun (y := .lit (.bool true)) hk rfl rfl rfl rfl (FW.f_move hk (FW.holds_nil _) rfl) ?_; clear hk; intro a w hk
  refine FW.lfunG (y := .lit (.bool false)) hk rfl rfl rfl rfl rfl rfl rfl rfl (fun hc => (FW.noHold hk.kn rfl rfl hc).elim) ?_; clear hk; intro a w hk
  refine FW.lfunG (y := .lit (.bool false)) hk rfl rfl rfl rfl rfl rfl rfl rfl (fun hc => (FW.noHold hk.kn rfl rfl hc).elim) ?_; clear hk; intro a w hk
  refine FW.lfunG (y := .lit (.bool false)) hk rfl rfl rfl rfl rfl rfl rfl rfl (fun hc => (FW.noHold hk.kn rfl rfl hc).elim) ?_; clear hk; intro a w hk
  refine FW.lfunG (y := .lit (.bool false)) hk rfl rfl rfl rfl rfl rfl rfl rfl (fun hc => (FW.noHold hk.kn rfl rfl hc).elim) ?_; clear hk; intro a w hk
  refine FW.lfun (y := .lit (.bool true)) hk rfl rfl rfl rfl ((FW.f_pure (FW.p_pickT hk.kn (FW.holds_nil _) rfl rfl))) ?_; clear hk; intro a w hk
  refine FW.lfun (y := .lit (.bool true)) hk rfl rfl rfl rfl (FW.f_assign hk (FW.holds_nil _) rfl) ?_; clear hk; intro a w hk
  refine FW.lend (hK2 _ _ ?_); clear hK2 K'
  refine wp_ret ?_
  (repeat first | refine FW.then_ret ?_ | refine FW.block_ret ?_)
  obtain rfl := Option.some.inj h
  exact FW.fret1 hk rfl rfl
theorem rec_parts_nil.ok   (r : Int × Int × Int × Int) (h : rec_parts_nil.f = some r) :
    FW.Ok Go.Proofs.Tryz.prog 40 [.lit (.pointer none)] (.agg [.lit (.int .i64 r.1), .lit (.int .i64 r.2.1), .lit (.int .i64 r.2.2.1), .lit (.int .i64 r.2.2.2)]) := by
  refine FW.enter (xs := [.lit (.pointer none)]) Go.Proofs.Tryz.func40 rfl Go.Proofs.Tryz.ntmps40 rfl ?_
  intro M w0 a hk
  unfold rec_parts_nil.f at h
  refine FW.wreg ?_; intro K' hK1
  refine FW.l_alloc (zs := [.lit (.int .i64 0), .lit (.int .i64 0), .lit (.int .i64 0), .lit (.int .i64 0)]) [] hk rfl rfl rfl rfl ?_; clear hk; intro bx1 a w hk
  refine FW.lend (hK1 _ _ ?_); clear hK1 K'
  refine FW.wreg ?_; intro K' hK2
  refine FW.lfun (y := .lit (.pointer none)) hk rfl rfl rfl rfl (FW.f_move hk (FW.holds_nil _) rfl) ?_; clear hk; intro a w hk
  obtain ⟨t1, hr_t1, h⟩ := FW.bnd h
  refine FW.lfun (y := .lit (.int .i64 t1)) hk rfl rfl rfl rfl (FW.f_call hk (FW.holds_nil _) rfl rfl Go.Proofs.Tryz.func36 rfl (by kernel_rfl) (dev_Dev_Len_nil.ok  _ hr_t1)) ?_; clear hk; intro a w hk
  refine FW.lfun (y := .lit (.int .i64 (IntKind.wrap .i64 (t1 * 2)))) hk rfl rfl rfl rfl ((FW.f_pure (FW.p_mul hk.kn (FW.holds_nil _) rfl rfl))) ?_; clear hk; intro a w hk
  refine FW.lfun (y := .lit (.int .i64 (IntKind.wrap .i64 (Int.tdiv (IntKind.wrap .i64 (t1 * 2)) 5)))) hk rfl rfl rfl rfl ((FW.f_pure (FW.p_quo hk.kn (FW.holds_nil _) rfl rfl (show ¬ (5 : Int) = 0 from by decide)))) ?_; clear hk; intro a w hk
  refine FW.lfun (y := .lit (.int .i64 (IntKind.wrap .i64 (Int.tdiv (IntKind.wrap .i64 (t1 * 2)) 5)))) hk rfl rfl rfl rfl (FW.f_assign hk (FW.holds_nil _) rfl) ?_; clear hk; intro a w hk
  refine FW.lend (hK2 _ _ ?_); clear hK2 K'
  refine FW.wreg ?_; intro K' hK3
  refine FW.lfun (y := .lit (.int .i64 (IntKind.wrap .i64 (Int.tdiv (IntKind.wrap .i64 (t1 * 2)) 5)))) hk rfl rfl rfl rfl (FW.f_move hk (FW.holds_nil _) rfl) ?_; clear hk; intro a w hk
  refine FW.lfun (y := .lit (.int .i64 (IntKind.wrap .i64 (Int.tdiv (IntKind.wrap .i64 (t1 * 2)) 5)))) hk rfl rfl rfl rfl (FW.f_move hk (FW.holds_nil _) rfl) ?_; clear hk; intro a w hk
  refine FW.lfun (y := .lit (.int .i64 (IntKind.wrap .i64 (2 * (IntKind.wrap .i64 (Int.tdiv (IntKind.wrap .i64 (t1 * 2)) 5)))))) hk rfl rfl rfl rfl ((FW.f_pure (FW.p_mul hk.kn (FW.holds_nil _) rfl rfl))) ?_; clear hk; intro a w hk
  refine FW.lfun (y := .lit (.pointer none)) hk rfl rfl rfl rfl (FW.f_move hk (FW.holds_nil _) rfl) ?_; clear hk; intro a w hk
  obtain ⟨t2, hr_t2, h⟩ := FW.bnd h
  refine FW.lfun (y := .lit (.int .i64 t2)) hk rfl rfl rfl rfl (FW.f_call hk (FW.holds_nil _) rfl rfl Go.Proofs.Tryz.func36 rfl (by kernel_rfl) (dev_Dev_Len_nil.ok  _ hr_t2)) ?_; clear hk; intro a w hk
  refine FW.lfun (y := .agg [.lit (.int .i64 ((0, (IntKind.wrap .i64 (Int.tdiv (IntKind.wrap .i64 (t1 * 2)) 5)), (IntKind.wrap .i64 (2 * (IntKind.wrap .i64 (Int.tdiv (IntKind.wrap .i64 (t1 * 2)) 5)))), t2).1)), .lit (.int .i64 ((0, (IntKind.wrap .i64 (Int.tdiv (IntKind.wrap .i64 (t1 * 2)) 5)), (IntKind.wrap .i64 (2 * (IntKind.wrap .i64 (Int.tdiv (IntKind.wrap .i64 (t1 * 2)) 5)))), t2).2.1)), .lit (.int .i64 ((0, (IntKind.wrap .i64 (Int.tdiv (IntKind.wrap .i64 (t1 * 2)) 5)), (IntKind.wrap .i64 (2 * (IntKind.wrap .i64 (Int.tdiv (IntKind.wrap .i64 (t1 * 2)) 5)))), t2).2.2.1)), .lit (.int .i64 ((0, (IntKind.wrap .i64 (Int.tdiv (IntKind.wrap .i64 (t1 * 2)) 5)), (IntKind.wrap .i64 (2 * (IntKind.wrap .i64 (Int.tdiv (IntKind.wrap .i64 (t1 * 2)) 5)))), t2).2.2.2))]) hk rfl rfl rfl rfl (FW.f_build hk (FW.holds_nil _) rfl rfl) ?_; clear hk; intro a w hk
  refine FW.l_store (I' := [FW.blk bx1 79 ([.lit (.int .i64 ((0, (IntKind.wrap .i64 (Int.tdiv (IntKind.wrap .i64 (t1 * 2)) 5)), (IntKind.wrap .i64 (2 * (IntKind.wrap .i64 (Int.tdiv (IntKind.wrap .i64 (t1 * 2)) 5)))), t2).1)), .lit (.int .i64 ((0, (IntKind.wrap .i64 (Int.tdiv (IntKind.wrap .i64 (t1 * 2)) 5)), (IntKind.wrap .i64 (2 * (IntKind.wrap .i64 (Int.tdiv (IntKind.wrap .i64 (t1 * 2)) 5)))), t2).2.1)), .lit (.int .i64 ((0, (IntKind.wrap .i64 (Int.tdiv (IntKind.wrap .i64 (t1 * 2)) 5)), (IntKind.wrap .i64 (2 * (IntKind.wrap .i64 (Int.tdiv (IntKind.wrap .i64 (t1 * 2)) 5)))), t2).2.2.1)), .lit (.int .i64 ((0, (IntKind.wrap .i64 (Int.tdiv (IntKind.wrap .i64 (t1 * 2)) 5)), (IntKind.wrap .i64 (2 * (IntKind.wrap .i64 (Int.tdiv (IntKind.wrap .i64 (t1 * 2)) 5)))), t2).2.2.2))])]) (cs' := [.lit (.int .i64 ((0, (IntKind.wrap .i64 (Int.tdiv (IntKind.wrap .i64 (t1 * 2)) 5)), (IntKind.wrap .i64 (2 * (IntKind.wrap .i64 (Int.tdiv (IntKind.wrap .i64 (t1 * 2)) 5)))), t2).1)), .lit (.int .i64 ((0, (IntKind.wrap .i64 (Int.tdiv (IntKind.wrap .i64 (t1 * 2)) 5)), (IntKind.wrap .i64 (2 * (IntKind.wrap .i64 (Int.tdiv (IntKind.wrap .i64 (t1 * 2)) 5)))), t2).2.1)), .lit (.int .i64 ((0, (IntKind.wrap .i64 (Int.tdiv (IntKind.wrap .i64 (t1 * 2)) 5)), (IntKind.wrap .i64 (2 * (IntKind.wrap .i64 (Int.tdiv (IntKind.wrap .i64 (t1 * 2)) 5)))), t2).2.2.1)), .lit (.int .i64 ((0, (IntKind.wrap .i64 (Int.tdiv (IntKind.wrap .i64 (t1 * 2)) 5)), (IntKind.wrap .i64 (2 * (IntKind.wrap .i64 (Int.tdiv (IntKind.wrap .i64 (t1 * 2)) 5)))), t2).2.2.2))]) (j := 0) hk rfl rfl rfl rfl rfl (by kernel_rfl) rfl rfl ?_; clear hk; intro w hk
  refine FW.lend (hK3 _ _ ?_); clear hK3 K'
  refine wp_ret ?_
  (repeat first | refine FW.then_ret ?_ | refine FW.block_ret ?_)
  obtain rfl := Option.some.inj h
  exact FW.fretR1 hk rfl (FW.rcell hk rfl (j := 0) rfl Go.Proofs.Tryz.underlying79 rfl (by kernel_rfl))
theorem dev_Dev_Read_nil.ok  (v1 : Int) (r : List UInt8 × Int) (h : dev_Dev_Read_nil.f v1 = some r) :
    FW.Ok Go.Proofs.Tryz.prog 61 [.lit (.pointer none), .lit (.int .i64 v1)] (.tup [.lit (.string (FW.B r.1)), .lit (.int .i64 r.2)]) := by
  refine FW.enter (xs := [.lit (.pointer none), .lit (.int .i64 v1)]) Go.Proofs.Tryz.func61 rfl Go.Proofs.Tryz.ntmps61 rfl ?_
  intro M w0 a hk
  unfold dev_Dev_Read_nil.f at h
  refine FW.wreg ?_; intro K' hK1
  refine FW.lfun (y := .lit (.string (FW.B ([] : List UInt8)))) hk rfl rfl rfl rfl (FW.f_assign hk (FW.holds_nil _) rfl) ?_; clear hk; intro a w hk
  refine FW.lfun (y := .lit (.int .i64 0)) hk rfl rfl rfl rfl (FW.f_assign hk (FW.holds_nil _) rfl) ?_; clear hk; intro a w hk
  refine FW.lend (hK1 _ _ ?_); clear hK1 K'
  refine FW.wseq ?_; intro K' hK2
  refine wp_block ?_
  refine FW.wreg ?_; intro K' hK3
  refine FW.lfun (y := .lit (.pointer none)) hk rfl rfl rfl rfl (FW.f_move hk (FW.holds_nil _) rfl) ?_; clear hk; intro a w hk
  obtain ⟨t1, hr_t1, h⟩ := FW.bnd h
  refine FW.lfun (y := .lit (.bool t1)) hk rfl rfl rfl rfl (FW.f_call hk (FW.holds_nil _) rfl rfl Go.Proofs.Tryz.func13 rfl (by kernel_rfl) (dev_Dev_Off_nil.ok  _ hr_t1)) ?_; clear hk; intro a w hk
  refine FW.lfun (y := .lit (.bool t1)) hk rfl rfl rfl rfl (FW.f_assign hk (FW.holds_nil _) rfl) ?_; clear hk; intro a w hk
  refine FW.lend (hK3 _ _ ?_); clear hK3 K'
  refine FW.wcondF (b := t1) hk h rfl (fun h hb => ?_) (fun h hb => ?_)
  · skip
    refine FW.wreg ?_; intro K' hK4
    refine FW.lfun (y := .lit (.string (FW.B ([] : List UInt8)))) hk rfl rfl rfl rfl (FW.f_assign hk (FW.holds_nil _) rfl) ?_; clear hk; intro a w hk
    refine FW.lfun (y := .lit (.int .i64 7)) hk rfl rfl rfl rfl (FW.f_assign hk (FW.holds_nil _) rfl) ?_; clear hk; intro a w hk
    refine FW.lend (hK4 _ _ ?_); clear hK4 K'
    refine wp_ret ?_
    (repeat first | refine FW.then_ret ?_ | refine FW.block_ret ?_)
    obtain rfl := Option.some.inj h
    exact FW.fret2 hk rfl rfl rfl
  cases h
end Go.Proofs.YtfbkgaandmebaaaGreat
namespace Go.Proofs.YtfbkgaandmebaaaGreat
set_option linter.unusedVariables false
set_option maxRecDepth 20000
set_option maxHeartbeats 10000000
theorem log_Open_nil_opt.ok (K : Nat) (v1 : Int) (v2 : Int) (v3 : Int) (r : Option OLogLog × List (List UInt8) × Int) (h : log_Open_nil_opt.f K v1 v2 v3 = some r) :
    FW.OkH Go.Proofs.Tryz.prog 41 [.lit (.pointer none), .lit (.int .i64 v1), .lit (.int .i64 v2), .lit (.int .u64 v3)] [] (fun y I => ∃ (bn0 : Nat), y = .tup [FW.ptrO r.1 bn0, .row (r_c_str r.2.1), .lit (.int .i64 r.2.2)] ∧ I = (FW.optI r.1 fun x => ([] : List FW.It))) := by
  refine FW.enterH (xs := [.lit (.pointer none), .lit (.int .i64 v1), .lit (.int .i64 v2), .lit (.int .u64 v3)]) Go.Proofs.Tryz.func41 rfl Go.Proofs.Tryz.ntmps41 rfl ?_
  intro M w0 a hk
  unfold log_Open_nil_opt.f at h
  refine FW.wreg ?_; intro K' hK1
  refine FW.lfun (y := .lit (.pointer none)) hk rfl rfl rfl rfl (FW.f_assign hk (FW.holds_nil _) rfl) ?_; clear hk; intro a w hk
  refine FW.lfun (y := .row (r_c_str [])) hk rfl rfl rfl rfl (FW.f_assignNil) ?_; clear hk; intro a w hk
  refine FW.lfun (y := .lit (.int .i64 0)) hk rfl rfl rfl rfl (FW.f_assign hk (FW.holds_nil _) rfl) ?_; clear hk; intro a w hk
  refine FW.lend (hK1 _ _ ?_); clear hK1 K'
  refine FW.wseq ?_; intro K' hK2
  refine FW.wreg ?_; intro K' hK3
  refine FW.lfun (y := .lit (.pointer none)) hk rfl rfl rfl rfl (FW.f_move hk (FW.holds_nil _) rfl) ?_; clear hk; intro a w hk
  refine FW.lfun (y := .lit (.bool true)) hk rfl rfl rfl rfl ((FW.f_pure (FW.p_ptrEq Go.Proofs.Tryz.underlying24 hk.kn (FW.holds_nil _) rfl rfl rfl))) ?_; clear hk; intro a w hk
  refine FW.lfun (y := .lit (.bool true)) hk rfl rfl rfl rfl (FW.f_move hk (FW.holds_nil _) rfl) ?_; clear hk; intro a w hk
  refine FW.lfunG (y := .lit (.bool false)) hk rfl rfl rfl rfl rfl rfl rfl rfl (fun hc => (FW.noHold hk.kn rfl rfl hc).elim) ?_; clear hk; intro a w hk
  refine FW.lfunG (y := .lit (.bool false)) hk rfl rfl rfl rfl rfl rfl rfl rfl (fun hc => (FW.noHold hk.kn rfl rfl hc).elim) ?_; clear hk; intro a w hk
  refine FW.lfun (y := .lit (.bool true)) hk rfl rfl rfl rfl ((FW.f_pure (FW.p_pickT hk.kn (FW.holds_nil _) rfl rfl))) ?_; clear hk; intro a w hk
  refine FW.lfun (y := .lit (.bool true)) hk rfl rfl rfl rfl (FW.f_move hk (FW.holds_nil _) rfl) ?_; clear hk; intro a w hk
  refine FW.lfunG (y := .lit (.bool false)) hk rfl rfl rfl rfl rfl rfl rfl rfl (fun hc => (FW.noHold hk.kn rfl rfl hc).elim) ?_; clear hk; intro a w hk
  refine FW.lfunG (y := .lit (.bool false)) hk rfl rfl rfl rfl rfl rfl rfl rfl (fun hc => (FW.noHold hk.kn rfl rfl hc).elim) ?_; clear hk; intro a w hk
  refine FW.lfunG (y := .lit (.bool false)) hk rfl rfl rfl rfl rfl rfl rfl rfl (fun hc => (FW.noHold hk.kn rfl rfl hc).elim) ?_; clear hk; intro a w hk
  refine FW.lfun (y := .lit (.bool true)) hk rfl rfl rfl rfl ((FW.f_pure (FW.p_pickT hk.kn (FW.holds_nil _) rfl rfl))) ?_; clear hk; intro a w hk
  refine FW.lfun (y := .lit (.bool true)) hk rfl rfl rfl rfl (FW.f_move hk (FW.holds_nil _) rfl) ?_; clear hk; intro a w hk
  refine FW.lfunG (y := .lit (.bool false)) hk rfl rfl rfl rfl rfl rfl rfl rfl (fun hc => (FW.noHold hk.kn rfl rfl hc).elim) ?_; clear hk; intro a w hk
  refine FW.lfunG (y := .lit (.bool false)) hk rfl rfl rfl rfl rfl rfl rfl rfl (fun hc => (FW.noHold hk.kn rfl rfl hc).elim) ?_; clear hk; intro a w hk
  refine FW.lfunG (y := .lit (.bool false)) hk rfl rfl rfl rfl rfl rfl rfl rfl (fun hc => (FW.noHold hk.kn rfl rfl hc).elim) ?_; clear hk; intro a w hk
  refine FW.lfunG (y := .lit (.bool false)) hk rfl rfl rfl rfl rfl rfl rfl rfl (fun hc => (FW.noHold hk.kn rfl rfl hc).elim) ?_; clear hk; intro a w hk
  refine FW.lfun (y := .lit (.bool true)) hk rfl rfl rfl rfl ((FW.f_pure (FW.p_pickT hk.kn (FW.holds_nil _) rfl rfl))) ?_; clear hk; intro a w hk
  refine FW.lfun (y := .lit (.bool true)) hk rfl rfl rfl rfl (FW.f_move hk (FW.holds_nil _) rfl) ?_; clear hk; intro a w hk
  refine FW.lfunG (y := .lit (.bool false)) hk rfl rfl rfl rfl rfl rfl rfl rfl (fun hc => (FW.noHold hk.kn rfl rfl hc).elim) ?_; clear hk; intro a w hk
  refine FW.lfunG (y := .lit (.bool false)) hk rfl rfl rfl rfl rfl rfl rfl rfl (fun hc => (FW.noHold hk.kn rfl rfl hc).elim) ?_; clear hk; intro a w hk
  refine FW.lfun (y := .lit (.bool true)) hk rfl rfl rfl rfl ((FW.f_pure (FW.p_pickT hk.kn (FW.holds_nil _) rfl rfl))) ?_; clear hk; intro a w hk
  refine FW.lend (hK3 _ _ ?_); clear hK3 K'
  refine FW.wcondT hk rfl ?_
  refine FW.wreg ?_; intro K' hK4
  refine FW.lfun (y := .lit (.pointer none)) hk rfl rfl rfl rfl (FW.f_assign hk (FW.holds_nil _) rfl) ?_; clear hk; intro a w hk
  refine FW.lfun (y := .row (r_c_str [])) hk rfl rfl rfl rfl (FW.f_assignNil) ?_; clear hk; intro a w hk
  refine FW.lfun (y := .lit (.int .i64 1)) hk rfl rfl rfl rfl (FW.f_assign hk (FW.holds_nil _) rfl) ?_; clear hk; intro a w hk
  refine FW.lend (hK4 _ _ ?_); clear hK4 K'
  refine wp_ret ?_
  (repeat first | refine FW.then_ret ?_ | refine FW.block_ret ?_)
  obtain rfl := Option.some.inj h
  replace hk := FW.S.keep (I1 := []) (I2 := []) (js := []) hk rfl
  exact FW.fretH3 hk rfl (FW.rtmp hk rfl) (FW.rtmp hk rfl) (FW.rtmp hk rfl) ⟨0, rfl, rfl⟩
theorem rec_image_nil.ok (K : Nat) (v1 : Int) (v2 : Int) (r : List UInt8 × Bool) (h : rec_image_nil.f K v1 v2 = some r) :
    FW.Ok Go.Proofs.Tryz.prog 62 [.lit (.pointer none), .lit (.int .i64 v1), .lit (.int .u64 v2)] (.tup [.lit (.string (FW.B r.1)), .lit (.bool r.2)]) := by
  refine FW.enter (xs := [.lit (.pointer none), .lit (.int .i64 v1), .lit (.int .u64 v2)]) Go.Proofs.Tryz.func62 rfl Go.Proofs.Tryz.ntmps62 rfl ?_
  intro M w0 a hk
  unfold rec_image_nil.f at h
  refine FW.wreg ?_; intro K' hK1
  refine FW.lfun (y := .lit (.string (FW.B ([] : List UInt8)))) hk rfl rfl rfl rfl (FW.f_assign hk (FW.holds_nil _) rfl) ?_; clear hk; intro a w hk
  refine FW.lfun (y := .lit (.bool false)) hk rfl rfl rfl rfl (FW.f_assign hk (FW.holds_nil _) rfl) ?_; clear hk; intro a w hk
  refine FW.lend (hK1 _ _ ?_); clear hK1 K'
  refine FW.wseq ?_; intro K' hK2
  refine FW.wreg ?_; intro K' hK3
  refine FW.lfun (y := .lit (.int .u64 v2)) hk rfl rfl rfl rfl (FW.f_move hk (FW.holds_nil _) rfl) ?_; clear hk; intro a w hk
  refine FW.lfun (y := .lit (.bool (decide (v2 = 0)))) hk rfl rfl rfl rfl ((FW.f_pure (FW.p_eql hk.kn (FW.holds_nil _) rfl rfl))) ?_; clear hk; intro a w hk
  refine FW.lend (hK3 _ _ ?_); clear hK3 K'
  refine FW.wcondF (b := (decide (v2 = 0))) hk h rfl (fun h hb => ?_) (fun h hb => ?_)
  · skip
    refine FW.wreg ?_; intro K' hK4
    refine FW.lfun (y := .lit (.string (FW.B ([] : List UInt8)))) hk rfl rfl rfl rfl (FW.f_assign hk (FW.holds_nil _) rfl) ?_; clear hk; intro a w hk
    refine FW.lfun (y := .lit (.bool false)) hk rfl rfl rfl rfl (FW.f_assign hk (FW.holds_nil _) rfl) ?_; clear hk; intro a w hk
    refine FW.lend (hK4 _ _ ?_); clear hK4 K'
    refine wp_ret ?_
    (repeat first | refine FW.then_ret ?_ | refine FW.block_ret ?_)
    obtain rfl := Option.some.inj h
    exact FW.fret2 hk rfl rfl rfl
  refine wp_skip ?_
  (repeat first | refine FW.then_normal ?_ | refine FW.block_normal ?_); refine hK2 _ _ ?_
  refine FW.wreg ?_; intro K' hK5
  refine FW.lfun (y := .lit (.pointer none)) hk rfl rfl rfl rfl (FW.f_move hk (FW.holds_nil _) rfl) ?_; clear hk; intro a w hk
  obtain ⟨t1, hr_t1, h⟩ := FW.bnd h
  refine FW.lfun (y := .agg [.lit (.int .i64 t1.1), .lit (.int .i64 t1.2.1), .lit (.int .i64 t1.2.2.1), .lit (.int .i64 t1.2.2.2)]) hk rfl rfl rfl rfl (FW.f_call hk (FW.holds_nil _) rfl rfl Go.Proofs.Tryz.func40 rfl (by kernel_rfl) (rec_parts_nil.ok  _ hr_t1)) ?_; clear hk; intro a w hk
  refine FW.l_alloc (zs := [.lit (.int .i64 0), .lit (.int .i64 0), .lit (.int .i64 0), .lit (.int .i64 0)]) [] hk rfl rfl rfl rfl ?_; clear hk; intro bx1 a w hk
  refine FW.l_store (I' := [FW.blk bx1 79 ([.lit (.int .i64 t1.1), .lit (.int .i64 t1.2.1), .lit (.int .i64 t1.2.2.1), .lit (.int .i64 t1.2.2.2)])]) (cs' := [.lit (.int .i64 t1.1), .lit (.int .i64 t1.2.1), .lit (.int .i64 t1.2.2.1), .lit (.int .i64 t1.2.2.2)]) (j := 0) hk rfl rfl rfl rfl rfl (by kernel_rfl) rfl rfl ?_; clear hk; intro w hk
  replace hk := FW.S.toArr (f := c_i64) (N := 4) (l := [t1.1, t1.2.1, t1.2.2.1, t1.2.2.2]) (I' := [FW.orow (some ⟨bx1, 0, none⟩) 4 79 1 c_i64 ([t1.1, t1.2.1, t1.2.2.1, t1.2.2.2] : List Int)]) (j := 0) (fun _ => rfl) hk rfl rfl rfl (by decide) rfl
  refine FW.lend (hK5 _ _ ?_); clear hK5 K'
  obtain ⟨hc1, h⟩ := FW.chk h
  obtain ⟨hc2, h⟩ := FW.chk h
  obtain ⟨t2, hr_t2, h⟩ := FW.bnd h
  refine FW.wdrawE (.next [true, true, true, true, true, true, true, true, true, false, false, false, false, false, false, false, false] 9 [true, true, true, true, true, true, true, true, true, false, false, false, false, false, false, false, false] (.leaf [false, false, false, false, false, false, false, false, false, false, true, true, true, true, true, true, true])) [(17, [], .lit (.pointer none)), (18, [], .lit (.int .i64 v1)), (19, [], FW.elA (some ⟨bx1, 0, none⟩) 1 v1), (20, [], .lit (.int .i64 (List.getD ([t1.1, t1.2.1, t1.2.2.1, t1.2.2.2] : List Int) (Int.toNat v1) default))), (21, [], .lit (.int .i64 v1)), (22, [], .lit (.int .i64 (IntKind.wrap .i64 (v1 + 1)))), (23, [], FW.elA (some ⟨bx1, 0, none⟩) 1 (IntKind.wrap .i64 (v1 + 1))), (24, [], .lit (.int .i64 (List.getD ([t1.1, t1.2.1, t1.2.2.1, t1.2.2.2] : List Int) (Int.toNat (IntKind.wrap .i64 (v1 + 1))) default))), (25, [], .lit (.int .u64 v2)), (26, [], .agg []), (16, [], .agg []), (27, [], .agg []), (28, [], .agg []), (29, [], .agg []), (9, [], .agg []), (10, [], .agg []), (11, [], .agg [])] (by kernel_rfl) (by kernel_rfl) (by kernel_rfl) (by kernel_rfl) hk ?_; clear hk
  refine FW.gnext ?_ rfl rfl rfl rfl rfl ?_
  · skip
    refine FW.gfun (y := .lit (.pointer none)) rfl rfl rfl rfl (fun a w hk => FW.f_move hk (FW.holds_nil _) rfl) ?_
    refine FW.gfun (y := .lit (.int .i64 v1)) rfl rfl rfl rfl (fun a w hk => FW.f_move hk (FW.holds_nil _) rfl) ?_
    refine FW.gfun (y := FW.elA (some ⟨bx1, 0, none⟩) 1 v1) rfl rfl rfl rfl (fun a w hk => FW.f_idxArr (f := c_i64) (l := ([t1.1, t1.2.1, t1.2.2.1, t1.2.2.2] : List Int)) hk (FW.holds_nil _) (j := 0) rfl rfl rfl Go.Proofs.Tryz.underlying79 (by kernel_rfl) hc1) ?_
    refine FW.gfun (y := .lit (.int .i64 (List.getD ([t1.1, t1.2.1, t1.2.2.1, t1.2.2.2] : List Int) (Int.toNat v1) default))) rfl rfl rfl rfl (fun a w hk => FW.f_loadOwn1 (f := c_i64) (l := ([t1.1, t1.2.1, t1.2.2.1, t1.2.2.2] : List Int)) hk (FW.holds_nil _) (j := 0) rfl rfl hc1 rfl Go.Proofs.Tryz.underlying3 rfl) ?_
    refine FW.gfun (y := .lit (.int .i64 v1)) rfl rfl rfl rfl (fun a w hk => FW.f_move hk (FW.holds_nil _) rfl) ?_
    refine FW.gfun (y := .lit (.int .i64 (IntKind.wrap .i64 (v1 + 1)))) rfl rfl rfl rfl (fun a w hk => (FW.f_pure (FW.p_add hk.kn (FW.holds_nil _) rfl rfl))) ?_
    refine FW.gfun (y := FW.elA (some ⟨bx1, 0, none⟩) 1 (IntKind.wrap .i64 (v1 + 1))) rfl rfl rfl rfl (fun a w hk => FW.f_idxArr (f := c_i64) (l := ([t1.1, t1.2.1, t1.2.2.1, t1.2.2.2] : List Int)) hk (FW.holds_nil _) (j := 0) rfl rfl rfl Go.Proofs.Tryz.underlying79 (by kernel_rfl) hc2) ?_
    refine FW.gfun (y := .lit (.int .i64 (List.getD ([t1.1, t1.2.1, t1.2.2.1, t1.2.2.2] : List Int) (Int.toNat (IntKind.wrap .i64 (v1 + 1))) default))) rfl rfl rfl rfl (fun a w hk => FW.f_loadOwn1 (f := c_i64) (l := ([t1.1, t1.2.1, t1.2.2.1, t1.2.2.2] : List Int)) hk (FW.holds_nil _) (j := 0) rfl rfl hc2 rfl Go.Proofs.Tryz.underlying3 rfl) ?_
    refine FW.gfun (y := .lit (.int .u64 v2)) rfl rfl rfl rfl (fun a w hk => FW.f_move hk (FW.holds_nil _) rfl) ?_
    refine FW.gskip rfl rfl ?_
    refine FW.gskip rfl rfl ?_
    refine FW.gskip rfl rfl ?_
    refine FW.gskip rfl rfl ?_
    refine FW.gskip rfl rfl ?_
    refine FW.gskip rfl rfl ?_
    refine FW.gskip rfl rfl ?_
    refine FW.gskip rfl rfl ?_
    exact FW.gend
  · skip
    intro σD a w opsD QD hk hf hQ hX
    refine FW.l_callH (I1 := ([] : List FW.It)) (I2 := [FW.orow (some ⟨bx1, 0, none⟩) 4 79 1 c_i64 ([t1.1, t1.2.1, t1.2.2.1, t1.2.2.2] : List Int)]) (js := []) hk rfl rfl hf rfl rfl Go.Proofs.Tryz.func41 rfl (by kernel_rfl) (log_Open_nil_opt.ok K (List.getD ([t1.1, t1.2.1, t1.2.2.1, t1.2.2.2] : List Int) (Int.toNat v1) default) (List.getD ([t1.1, t1.2.1, t1.2.2.1, t1.2.2.2] : List Int) (Int.toNat (IntKind.wrap .i64 (v1 + 1))) default) v2 _ hr_t2 ) ?_; clear hk
    rintro _ _ ⟨bx2, rfl, rfl⟩ a w hk
    replace hk := FW.S.dropL hk
    refine hQ _ _ a w ?_ hk; clear hk hQ hf hX
    refine ⟨[(17, [], .lit (.pointer none)), (18, [], .lit (.int .i64 v1)), (19, [], FW.elA (some ⟨bx1, 0, none⟩) 1 v1), (20, [], .lit (.int .i64 (List.getD ([t1.1, t1.2.1, t1.2.2.1, t1.2.2.2] : List Int) (Int.toNat v1) default))), (21, [], .lit (.int .i64 v1)), (22, [], .lit (.int .i64 (IntKind.wrap .i64 (v1 + 1)))), (23, [], FW.elA (some ⟨bx1, 0, none⟩) 1 (IntKind.wrap .i64 (v1 + 1))), (24, [], .lit (.int .i64 (List.getD ([t1.1, t1.2.1, t1.2.2.1, t1.2.2.2] : List Int) (Int.toNat (IntKind.wrap .i64 (v1 + 1))) default))), (25, [], .lit (.int .u64 v2)), (26, [], .tup [FW.ptrO t2.1 bx2, .row (r_c_str t2.2.1), .lit (.int .i64 t2.2.2)]), (16, [], .tup [FW.ptrO t2.1 bx2, .row (r_c_str t2.2.1), .lit (.int .i64 t2.2.2)]), (27, [], FW.ptrO t2.1 bx2), (28, [], .row (r_c_str t2.2.1)), (29, [], .lit (.int .i64 t2.2.2)), (9, [], FW.ptrO t2.1 bx2), (10, [], .row (r_c_str t2.2.1)), (11, [], .lit (.int .i64 t2.2.2))], And.intro rfl (And.intro rfl (And.intro rfl (And.intro rfl (And.intro rfl (And.intro rfl (And.intro rfl (And.intro rfl (And.intro rfl (trivial))))))))), rfl, ?_⟩
    refine FW.glast ?_ ?_
    · skip
      refine FW.gskip rfl rfl ?_
      refine FW.gskip rfl rfl ?_
      refine FW.gskip rfl rfl ?_
      refine FW.gskip rfl rfl ?_
      refine FW.gskip rfl rfl ?_
      refine FW.gskip rfl rfl ?_
      refine FW.gskip rfl rfl ?_
      refine FW.gskip rfl rfl ?_
      refine FW.gskip rfl rfl ?_
      refine FW.gskip rfl rfl ?_
      refine FW.gfun (y := .tup [FW.ptrO t2.1 bx2, .row (r_c_str t2.2.1), .lit (.int .i64 t2.2.2)]) rfl rfl rfl rfl (fun a w hk => FW.f_move hk (FW.holds_nil _) rfl) ?_
      refine FW.gfun (y := FW.ptrO t2.1 bx2) rfl rfl rfl rfl (fun a w hk => FW.f_extract hk (FW.holds_nil _) rfl rfl) ?_
      refine FW.gfun (y := .row (r_c_str t2.2.1)) rfl rfl rfl rfl (fun a w hk => FW.f_extract hk (FW.holds_nil _) rfl rfl) ?_
      refine FW.gfun (y := .lit (.int .i64 t2.2.2)) rfl rfl rfl rfl (fun a w hk => FW.f_extract hk (FW.holds_nil _) rfl rfl) ?_
      refine FW.gfun (y := FW.ptrO t2.1 bx2) rfl rfl rfl rfl (fun a w hk => FW.f_assign hk (FW.holds_nil _) rfl) ?_
      refine FW.gfun (y := .row (r_c_str t2.2.1)) rfl rfl rfl rfl (fun a w hk => FW.f_assign hk (FW.holds_nil _) rfl) ?_
      refine FW.gfun (y := .lit (.int .i64 t2.2.2)) rfl rfl rfl rfl (fun a w hk => FW.f_assign hk (FW.holds_nil _) rfl) ?_
      exact FW.gend
    · skip
      intro a w hk; simp only [FW.stD, cond_true] at hk
      refine FW.wreg ?_; intro K' hK7
      refine FW.lfun (y := .row (r_c_str t2.2.1)) hk rfl rfl rfl rfl (FW.f_move hk (FW.holds_nil _) rfl) ?_; clear hk; intro a w hk
      obtain ⟨t3, hr_t3, h⟩ := FW.bnd h
      refine FW.lfun (y := .lit (.string (FW.B t3))) hk rfl rfl rfl rfl (FW.f_call hk (FW.holds_nil _) rfl rfl Go.Proofs.Tryz.func86 rfl (by kernel_rfl) (rec_at.ok t2.2.1 0 _ hr_t3)) ?_; clear hk; intro a w hk
      refine FW.lfun (y := .lit (.int .i64 t2.2.2)) hk rfl rfl rfl rfl (FW.f_move hk (FW.holds_nil _) rfl) ?_; clear hk; intro a w hk
      refine FW.lfun (y := .lit (.bool (decide (t2.2.2 = 0)))) hk rfl rfl rfl rfl ((FW.f_pure (FW.p_eql hk.kn (FW.holds_nil _) rfl rfl))) ?_; clear hk; intro a w hk
      refine FW.lfun (y := .lit (.bool (decide (t2.2.2 = 0)))) hk rfl rfl rfl rfl (FW.f_move hk (FW.holds_nil _) rfl) ?_; clear hk; intro a w hk
      refine FW.lfunG (y := .row (r_c_str t2.2.1)) hk rfl rfl rfl rfl rfl rfl rfl rfl (fun hc => FW.f_move hk hc rfl) ?_; clear hk; intro a w hk
      refine FW.lfunG (y := .lit (.int .i64 (List.length t2.2.1 : Int))) hk rfl rfl rfl rfl rfl rfl rfl rfl (fun hc => FW.f_len (R := r_c_str) (f := c_str) (l := t2.2.1) r_c_str_eq Go.Proofs.Tryz.underlying72 hk hc rfl) ?_; clear hk; intro a w hk
      refine FW.lfunG (y := .lit (.bool (decide (0 < (List.length t2.2.1 : Int))))) hk rfl rfl rfl rfl rfl rfl rfl rfl (fun hc => (FW.f_pure (FW.p_gtr hk.kn hc rfl rfl))) ?_; clear hk; intro a w hk
      refine FW.lfun (y := .lit (.bool ((decide (t2.2.2 = 0)) && (decide (0 < (List.length t2.2.1 : Int)))))) hk rfl rfl rfl rfl ((FW.f_pure (FW.p_pick_and hk.kn (FW.holds_nil _) rfl rfl))) ?_; clear hk; intro a w hk
      refine FW.lfun (y := .lit (.string (FW.B t3))) hk rfl rfl rfl rfl (FW.f_assign hk (FW.holds_nil _) rfl) ?_; clear hk; intro a w hk
      refine FW.lfun (y := .lit (.bool ((decide (t2.2.2 = 0)) && (decide (0 < (List.length t2.2.1 : Int)))))) hk rfl rfl rfl rfl (FW.f_assign hk (FW.holds_nil _) rfl) ?_; clear hk; intro a w hk
      refine FW.lend (hK7 _ _ ?_); clear hK7 K'
      refine wp_ret ?_
      (repeat first | refine FW.then_ret ?_ | refine FW.block_ret ?_)
      obtain rfl := Option.some.inj h
      exact FW.fret2 hk rfl rfl rfl
theorem rec_newest_nil.ok (K : Nat)  (r : Int × Int × List UInt8) (h : rec_newest_nil.f K = some r) :
    FW.Ok Go.Proofs.Tryz.prog 37 [.lit (.pointer none)] (.tup [.lit (.int .i64 r.1), .lit (.int .u64 r.2.1), .lit (.string (FW.B r.2.2))]) := by
  refine FW.enter (xs := [.lit (.pointer none)]) Go.Proofs.Tryz.func37 rfl Go.Proofs.Tryz.ntmps37 rfl ?_
  intro M w0 a hk
  unfold rec_newest_nil.f at h
  refine FW.wreg ?_; intro K' hK1
  refine FW.lfun (y := .lit (.int .i64 0)) hk rfl rfl rfl rfl (FW.f_assign hk (FW.holds_nil _) rfl) ?_; clear hk; intro a w hk
  refine FW.lfun (y := .lit (.int .u64 0)) hk rfl rfl rfl rfl (FW.f_assign hk (FW.holds_nil _) rfl) ?_; clear hk; intro a w hk
  refine FW.lfun (y := .lit (.string (FW.B ([] : List UInt8)))) hk rfl rfl rfl rfl (FW.f_assign hk (FW.holds_nil _) rfl) ?_; clear hk; intro a w hk
  refine FW.lend (hK1 _ _ ?_); clear hK1 K'
  refine FW.wreg ?_; intro K' hK2
  refine FW.lfun (y := .lit (.int .i64 1)) hk rfl rfl rfl rfl (FW.f_assign hk (FW.holds_nil _) rfl) ?_; clear hk; intro a w hk
  refine FW.lfun (y := .lit (.int .u64 0)) hk rfl rfl rfl rfl (FW.f_assign hk (FW.holds_nil _) rfl) ?_; clear hk; intro a w hk
  refine FW.lfun (y := .lit (.string (FW.B ([] : List UInt8)))) hk rfl rfl rfl rfl (FW.f_assign hk (FW.holds_nil _) rfl) ?_; clear hk; intro a w hk
  refine FW.lend (hK2 _ _ ?_); clear hK2 K'
  refine FW.wreg ?_; intro K' hK3
  refine FW.lfun (y := .lit (.pointer none)) hk rfl rfl rfl rfl (FW.f_move hk (FW.holds_nil _) rfl) ?_; clear hk; intro a w hk
  obtain ⟨t1, hr_t1, h⟩ := FW.bnd h
  refine FW.lfun (y := .agg [.lit (.int .i64 t1.1), .lit (.int .i64 t1.2.1), .lit (.int .i64 t1.2.2.1), .lit (.int .i64 t1.2.2.2)]) hk rfl rfl rfl rfl (FW.f_call hk (FW.holds_nil _) rfl rfl Go.Proofs.Tryz.func40 rfl (by kernel_rfl) (rec_parts_nil.ok  _ hr_t1)) ?_; clear hk; intro a w hk
  refine FW.l_alloc (zs := [.lit (.int .i64 0), .lit (.int .i64 0), .lit (.int .i64 0), .lit (.int .i64 0)]) [] hk rfl rfl rfl rfl ?_; clear hk; intro bx1 a w hk
  refine FW.l_store (I' := [FW.blk bx1 79 ([.lit (.int .i64 t1.1), .lit (.int .i64 t1.2.1), .lit (.int .i64 t1.2.2.1), .lit (.int .i64 t1.2.2.2)])]) (cs' := [.lit (.int .i64 t1.1), .lit (.int .i64 t1.2.1), .lit (.int .i64 t1.2.2.1), .lit (.int .i64 t1.2.2.2)]) (j := 0) hk rfl rfl rfl rfl rfl (by kernel_rfl) rfl rfl ?_; clear hk; intro w hk
  replace hk := FW.S.toArr (f := c_i64) (N := 4) (l := [t1.1, t1.2.1, t1.2.2.1, t1.2.2.2]) (I' := [FW.orow (some ⟨bx1, 0, none⟩) 4 79 1 c_i64 ([t1.1, t1.2.1, t1.2.2.1, t1.2.2.2] : List Int)]) (j := 0) (fun _ => rfl) hk rfl rfl rfl (by decide) rfl
  refine FW.lend (hK3 _ _ ?_); clear hK3 K'
  refine FW.wseq ?_; intro K' hK4
  refine FW.wreg ?_; intro K' hK5
  refine FW.lfun (y := .lit (.int .i64 0)) hk rfl rfl rfl rfl (FW.f_move hk (FW.holds_nil _) rfl) ?_; clear hk; intro a w hk
  refine FW.lend (hK5 _ _ ?_); clear hK5 K'
  refine wp_block ?_
  refine FW.wloop (T := Nat × List Int × Int × Int × List UInt8 × Int) (fun x a w => match x with | (kl1, l1, v5, v6, v7, v17) => FW.S M w0 a w 53 [FW.orow (some ⟨bx1, 0, none⟩) 4 79 1 c_i64 l1] [(0, [], .lit (.pointer none)), (5, [], .lit (.int .i64 v5)), (6, [], .lit (.int .u64 v6)), (7, [], .lit (.string (FW.B v7))), (8, [], .lit (.pointer (some ⟨bx1, 0, none⟩))), (17, [], .lit (.int .i64 v17))] ∧ rec_newest_nil.l1 K kl1 l1 v5 v6 v7 v17 = some r) (fun x => x.1) (K, ([t1.1, t1.2.1, t1.2.2.1, t1.2.2.2] : List Int), 1, 0, ([] : List UInt8), 0) ⟨hk.sub ⟨rfl, rfl, rfl, rfl, rfl, rfl, trivial⟩, h⟩ ?_
  clear hk h
  rintro ⟨kl1, l1, v5, v6, v7, v17⟩ a w ⟨hk, h⟩ K' hK6
  cases kl1 with
  | zero => simp [rec_newest_nil.l1] at h
  | succ kl1 =>
  rw [rec_newest_nil.l1.eq_2] at h
  refine FW.wreg ?_; intro K' hK7
  refine FW.lfun (y := .lit (.bool (decide (v17 < 2)))) hk rfl rfl rfl rfl ((FW.f_pure (FW.p_lss hk.kn (FW.holds_nil _) rfl rfl))) ?_; clear hk; intro a w hk
  refine FW.lend (hK7 _ _ ?_); clear hK7 K'
  refine FW.wseq ?_; intro K' hK8
  refine FW.wcondF (b := (decide (v17 < 2))) hk h rfl (fun h hb => ?_) (fun h hb => ?_)
  · skip
    refine wp_skip ?_
    (repeat first | refine FW.then_normal ?_ | refine FW.block_normal ?_); refine hK8 _ _ ?_
    refine FW.wseqJ (fun a w => ∃ (v5 : Int) (v6 : Int) (v7 : List UInt8) (v17 : Int), FW.S M w0 a w 53 [FW.orow (some ⟨bx1, 0, none⟩) 4 79 1 c_i64 l1] [(0, [], .lit (.pointer none)), (5, [], .lit (.int .i64 v5)), (6, [], .lit (.int .u64 v6)), (7, [], .lit (.string (FW.B v7))), (8, [], .lit (.pointer (some ⟨bx1, 0, none⟩))), (17, [], .lit (.int .i64 v17))] ∧ rec_newest_nil.j1 (rec_newest_nil.l1 K kl1) K l1 v5 v6 v7 v17 = some r) ?_ ?_
    · clear hk h
      rintro a w ⟨v5, v6, v7, v17, hk, h⟩
      unfold rec_newest_nil.j1 at h
      refine FW.wreg1 ?_
      refine FW.lfun (y := .lit (.int .i64 (IntKind.wrap .i64 (v17 + 1)))) hk rfl rfl rfl rfl ((FW.f_pure (FW.p_add hk.kn (FW.holds_nil _) rfl rfl))) ?_; clear hk; intro a w hk
      refine FW.lfun (y := .lit (.int .i64 (IntKind.wrap .i64 (v17 + 1)))) hk rfl rfl rfl rfl (FW.f_move hk (FW.holds_nil _) rfl) ?_; clear hk; intro a w hk
      refine wpList_nil ?_
      (repeat first | refine FW.then_normal ?_ | refine FW.block_normal ?_); exact hK6 (kl1, l1, v5, v6, v7, (IntKind.wrap .i64 (v17 + 1))) _ _ (Nat.lt_succ_self _) ⟨hk.sub ⟨rfl, rfl, rfl, rfl, rfl, rfl, trivial⟩, h⟩
    · intro K' hK9
      refine wp_block ?_
      refine FW.wreg ?_; intro K' hK11
      refine FW.lfun (y := .lit (.int .i64 v17)) hk rfl rfl rfl rfl (FW.f_move hk (FW.holds_nil _) rfl) ?_; clear hk; intro a w hk
      refine FW.lfun (y := .lit (.int .i64 v17)) hk rfl rfl rfl rfl (FW.f_assign hk (FW.holds_nil _) rfl) ?_; clear hk; intro a w hk
      refine FW.lend (hK11 _ _ ?_); clear hK11 K'
      refine FW.wreg ?_; intro K' hK12
      refine FW.lfun (y := .lit (.pointer none)) hk rfl rfl rfl rfl (FW.f_move hk (FW.holds_nil _) rfl) ?_; clear hk; intro a w hk
      refine FW.lfun (y := .lit (.int .i64 v17)) hk rfl rfl rfl rfl (FW.f_move hk (FW.holds_nil _) rfl) ?_; clear hk; intro a w hk
      obtain ⟨hc1, h⟩ := FW.chk h
      refine FW.lfun (y := FW.elA (some ⟨bx1, 0, none⟩) 1 v17) hk rfl rfl rfl rfl (FW.f_idxArr (f := c_i64) (l := l1) hk (FW.holds_nil _) (j := 0) rfl rfl rfl Go.Proofs.Tryz.underlying79 (by kernel_rfl) hc1) ?_; clear hk; intro a w hk
      refine FW.lfun (y := .lit (.int .i64 (List.getD l1 (Int.toNat v17) default))) hk rfl rfl rfl rfl (FW.f_loadOwn1 (f := c_i64) (l := l1) hk (FW.holds_nil _) (j := 0) rfl rfl hc1 rfl Go.Proofs.Tryz.underlying3 rfl) ?_; clear hk; intro a w hk
      obtain ⟨t2, hr_t2, h⟩ := FW.bnd h
      refine FW.lfun (y := .tup [.lit (.string (FW.B t2.1)), .lit (.int .i64 t2.2)]) hk rfl rfl rfl rfl (FW.f_call hk (FW.holds_nil _) rfl rfl Go.Proofs.Tryz.func61 rfl (by kernel_rfl) (dev_Dev_Read_nil.ok (List.getD l1 (Int.toNat v17) default) _ hr_t2)) ?_; clear hk; intro a w hk
      refine FW.lfun (y := .tup [.lit (.string (FW.B t2.1)), .lit (.int .i64 t2.2)]) hk rfl rfl rfl rfl (FW.f_move hk (FW.holds_nil _) rfl) ?_; clear hk; intro a w hk
      refine FW.lfun (y := .lit (.string (FW.B t2.1))) hk rfl rfl rfl rfl (FW.f_extract hk (FW.holds_nil _) rfl rfl) ?_; clear hk; intro a w hk
      refine FW.lfun (y := .lit (.int .i64 t2.2)) hk rfl rfl rfl rfl (FW.f_extract hk (FW.holds_nil _) rfl rfl) ?_; clear hk; intro a w hk
      refine FW.lfun (y := .lit (.string (FW.B t2.1))) hk rfl rfl rfl rfl (FW.f_assign hk (FW.holds_nil _) rfl) ?_; clear hk; intro a w hk
      refine FW.lfun (y := .lit (.int .i64 t2.2)) hk rfl rfl rfl rfl (FW.f_assign hk (FW.holds_nil _) rfl) ?_; clear hk; intro a w hk
      refine FW.lend (hK12 _ _ ?_); clear hK12 K'
      refine FW.wseq ?_; intro K' hK13
      refine FW.wreg ?_; intro K' hK14
      refine FW.lfun (y := .lit (.int .i64 t2.2)) hk rfl rfl rfl rfl (FW.f_move hk (FW.holds_nil _) rfl) ?_; clear hk; intro a w hk
      refine FW.lfun (y := .lit (.bool (!decide (t2.2 = 0)))) hk rfl rfl rfl rfl ((FW.f_pure (FW.p_neq hk.kn (FW.holds_nil _) rfl rfl))) ?_; clear hk; intro a w hk
      refine FW.lend (hK14 _ _ ?_); clear hK14 K'
      refine FW.wcondF (b := (!decide (t2.2 = 0))) hk h rfl (fun h hb => ?_) (fun h hb => ?_)
      · skip
        refine wp_exit ?_; (repeat first | refine FW.then_exit ?_ | refine FW.block_exit_ne rfl ?_); refine FW.block_exit ?_
        (repeat first | refine FW.then_normal ?_ | refine FW.block_normal ?_); exact hK9 _ _ ⟨v5, v6, v7, v17, hk.sub ⟨rfl, rfl, rfl, rfl, rfl, rfl, trivial⟩, h⟩
      refine wp_skip ?_
      (repeat first | refine FW.then_normal ?_ | refine FW.block_normal ?_); refine hK13 _ _ ?_
      refine FW.wreg ?_; intro K' hK15
      refine FW.lfun (y := .lit (.string (FW.B t2.1))) hk rfl rfl rfl rfl (FW.f_move hk (FW.holds_nil _) rfl) ?_; clear hk; intro a w hk
      obtain ⟨hc2, h⟩ := FW.chk h
      refine FW.lfun (y := .lit (.string (FW.B (List.take (Int.toNat 8) t2.1)))) hk rfl rfl rfl rfl ((FW.f_pure (FW.p_slice_hi Go.Proofs.Tryz.underlying9 hk.kn (FW.holds_nil _) rfl rfl hc2))) ?_; clear hk; intro a w hk
      obtain ⟨t3, hr_t3, h⟩ := FW.bnd h
      refine FW.lfun (y := .lit (.int .u64 t3)) hk rfl rfl rfl rfl (FW.f_call hk (FW.holds_nil _) rfl rfl Go.Proofs.Tryz.func38 rfl (by kernel_rfl) (val_Wide.ok K (List.take (Int.toNat 8) t2.1) _ hr_t3)) ?_; clear hk; intro a w hk
      refine FW.lfun (y := .lit (.int .u64 t3)) hk rfl rfl rfl rfl (FW.f_assign hk (FW.holds_nil _) rfl) ?_; clear hk; intro a w hk
      refine FW.lend (hK15 _ _ ?_); clear hK15 K'
      refine FW.wreg ?_; intro K' hK16
      refine FW.lfun (y := .lit (.pointer none)) hk rfl rfl rfl rfl (FW.f_move hk (FW.holds_nil _) rfl) ?_; clear hk; intro a w hk
      refine FW.lfun (y := .lit (.int .i64 v17)) hk rfl rfl rfl rfl (FW.f_move hk (FW.holds_nil _) rfl) ?_; clear hk; intro a w hk
      refine FW.lfun (y := .lit (.int .u64 t3)) hk rfl rfl rfl rfl (FW.f_move hk (FW.holds_nil _) rfl) ?_; clear hk; intro a w hk
      obtain ⟨t4, hr_t4, h⟩ := FW.bnd h
      refine FW.lfun (y := .tup [.lit (.string (FW.B t4.1)), .lit (.bool t4.2)]) hk rfl rfl rfl rfl (FW.f_call hk (FW.holds_nil _) rfl rfl Go.Proofs.Tryz.func62 rfl (by kernel_rfl) (rec_image_nil.ok K v17 t3 _ hr_t4)) ?_; clear hk; intro a w hk
      refine FW.lfun (y := .tup [.lit (.string (FW.B t4.1)), .lit (.bool t4.2)]) hk rfl rfl rfl rfl (FW.f_move hk (FW.holds_nil _) rfl) ?_; clear hk; intro a w hk
      refine FW.lfun (y := .lit (.string (FW.B t4.1))) hk rfl rfl rfl rfl (FW.f_extract hk (FW.holds_nil _) rfl rfl) ?_; clear hk; intro a w hk
      refine FW.lfun (y := .lit (.bool t4.2)) hk rfl rfl rfl rfl (FW.f_extract hk (FW.holds_nil _) rfl rfl) ?_; clear hk; intro a w hk
      refine FW.lfun (y := .lit (.string (FW.B t4.1))) hk rfl rfl rfl rfl (FW.f_assign hk (FW.holds_nil _) rfl) ?_; clear hk; intro a w hk
      refine FW.lfun (y := .lit (.bool t4.2)) hk rfl rfl rfl rfl (FW.f_assign hk (FW.holds_nil _) rfl) ?_; clear hk; intro a w hk
      refine FW.lend (hK16 _ _ ?_); clear hK16 K'
      refine FW.wreg ?_; intro K' hK17
      refine FW.lfun (y := .lit (.bool t4.2)) hk rfl rfl rfl rfl (FW.f_move hk (FW.holds_nil _) rfl) ?_; clear hk; intro a w hk
      refine FW.lfun (y := .lit (.bool t4.2)) hk rfl rfl rfl rfl (FW.f_move hk (FW.holds_nil _) rfl) ?_; clear hk; intro a w hk
      refine FW.lfunG (y := .lit (.int .u64 t3)) hk rfl rfl rfl rfl rfl rfl rfl rfl (fun hc => FW.f_move hk hc rfl) ?_; clear hk; intro a w hk
      refine FW.lfunG (y := .lit (.int .u64 v6)) hk rfl rfl rfl rfl rfl rfl rfl rfl (fun hc => FW.f_move hk hc rfl) ?_; clear hk; intro a w hk
      refine FW.lfunG (y := .lit (.bool (decide (v6 < t3)))) hk rfl rfl rfl rfl rfl rfl rfl rfl (fun hc => (FW.f_pure (FW.p_gtr hk.kn hc rfl rfl))) ?_; clear hk; intro a w hk
      refine FW.lfun (y := .lit (.bool (t4.2 && (decide (v6 < t3))))) hk rfl rfl rfl rfl ((FW.f_pure (FW.p_pick_and hk.kn (FW.holds_nil _) rfl rfl))) ?_; clear hk; intro a w hk
      refine FW.lend (hK17 _ _ ?_); clear hK17 K'
      refine FW.wcondF (b := (t4.2 && (decide (v6 < t3)))) hk h rfl (fun h hb => ?_) (fun h hb => ?_)
      · skip
        refine FW.wreg1 ?_
        refine FW.lfun (y := .lit (.int .i64 v17)) hk rfl rfl rfl rfl (FW.f_move hk (FW.holds_nil _) rfl) ?_; clear hk; intro a w hk
        refine FW.lfun (y := .lit (.int .u64 t3)) hk rfl rfl rfl rfl (FW.f_move hk (FW.holds_nil _) rfl) ?_; clear hk; intro a w hk
        refine FW.lfun (y := .lit (.string (FW.B t4.1))) hk rfl rfl rfl rfl (FW.f_move hk (FW.holds_nil _) rfl) ?_; clear hk; intro a w hk
        refine FW.lfun (y := .lit (.int .i64 v17)) hk rfl rfl rfl rfl (FW.f_assign hk (FW.holds_nil _) rfl) ?_; clear hk; intro a w hk
        refine FW.lfun (y := .lit (.int .u64 t3)) hk rfl rfl rfl rfl (FW.f_assign hk (FW.holds_nil _) rfl) ?_; clear hk; intro a w hk
        refine FW.lfun (y := .lit (.string (FW.B t4.1))) hk rfl rfl rfl rfl (FW.f_assign hk (FW.holds_nil _) rfl) ?_; clear hk; intro a w hk
        refine wpList_nil ?_
        (repeat first | refine FW.then_normal ?_ | refine FW.block_normal ?_); exact hK9 _ _ ⟨v17, t3, t4.1, v17, hk.sub ⟨rfl, rfl, rfl, rfl, rfl, rfl, trivial⟩, h⟩
      refine wp_skip ?_
      (repeat first | refine FW.then_normal ?_ | refine FW.block_normal ?_); exact hK9 _ _ ⟨v5, v6, v7, v17, hk.sub ⟨rfl, rfl, rfl, rfl, rfl, rfl, trivial⟩, h⟩
  refine wp_exit ?_; (repeat first | refine FW.then_exit ?_ | refine FW.block_exit_ne rfl ?_); refine FW.block_exit ?_
  (repeat first | refine FW.then_normal ?_ | refine FW.block_normal ?_); refine hK4 _ _ ?_
  refine FW.wreg ?_; intro K' hK19
  refine FW.lfun (y := .lit (.int .i64 v5)) hk rfl rfl rfl rfl (FW.f_move hk (FW.holds_nil _) rfl) ?_; clear hk; intro a w hk
  refine FW.lfun (y := .lit (.int .u64 v6)) hk rfl rfl rfl rfl (FW.f_move hk (FW.holds_nil _) rfl) ?_; clear hk; intro a w hk
  refine FW.lfun (y := .lit (.string (FW.B v7))) hk rfl rfl rfl rfl (FW.f_move hk (FW.holds_nil _) rfl) ?_; clear hk; intro a w hk
  refine FW.lfun (y := .lit (.int .i64 v5)) hk rfl rfl rfl rfl (FW.f_assign hk (FW.holds_nil _) rfl) ?_; clear hk; intro a w hk
  refine FW.lfun (y := .lit (.int .u64 v6)) hk rfl rfl rfl rfl (FW.f_assign hk (FW.holds_nil _) rfl) ?_; clear hk; intro a w hk
  refine FW.lfun (y := .lit (.string (FW.B v7))) hk rfl rfl rfl rfl (FW.f_assign hk (FW.holds_nil _) rfl) ?_; clear hk; intro a w hk
  refine FW.lend (hK19 _ _ ?_); clear hK19 K'
  refine wp_ret ?_
  (repeat first | refine FW.then_ret ?_ | refine FW.block_ret ?_)
  obtain rfl := Option.some.inj h
  exact FW.fret3 hk rfl rfl rfl rfl
theorem rec_Open_nil_opt.ok (K : Nat)  (r : Option ORecStore × Int) (h : rec_Open_nil_opt.f K = some r) :
    FW.OkH Go.Proofs.Tryz.prog 19 [.lit (.pointer none)] [] (fun y I => ∃ (bn0 : Nat) (zxbn0_1 : Nat) (zxrn0_2 : Nat), y = .tup [FW.ptrO r.1 bn0, .lit (.int .i64 r.2)] ∧ I = (FW.optI r.1 fun x => ([] : List FW.It))) := by
  refine FW.enterH (xs := [.lit (.pointer none)]) Go.Proofs.Tryz.func19 rfl Go.Proofs.Tryz.ntmps19 rfl ?_
  intro M w0 a hk
  unfold rec_Open_nil_opt.f at h
  refine FW.wreg ?_; intro K' hK1
  refine FW.lfun (y := .lit (.pointer none)) hk rfl rfl rfl rfl (FW.f_assign hk (FW.holds_nil _) rfl) ?_; clear hk; intro a w hk
  refine FW.lfun (y := .lit (.int .i64 0)) hk rfl rfl rfl rfl (FW.f_assign hk (FW.holds_nil _) rfl) ?_; clear hk; intro a w hk
  refine FW.lend (hK1 _ _ ?_); clear hK1 K'
  refine FW.wseq ?_; intro K' hK2
  refine wp_block ?_
  refine FW.wreg ?_; intro K' hK3
  refine FW.lfun (y := .lit (.pointer none)) hk rfl rfl rfl rfl (FW.f_move hk (FW.holds_nil _) rfl) ?_; clear hk; intro a w hk
  refine FW.lfun (y := .lit (.bool true)) hk rfl rfl rfl rfl ((FW.f_pure (FW.p_ptrEq Go.Proofs.Tryz.underlying24 hk.kn (FW.holds_nil _) rfl rfl rfl))) ?_; clear hk; intro a w hk
  refine FW.lfun (y := .lit (.bool true)) hk rfl rfl rfl rfl (FW.f_move hk (FW.holds_nil _) rfl) ?_; clear hk; intro a w hk
  refine FW.lfunG (y := .lit (.bool false)) hk rfl rfl rfl rfl rfl rfl rfl rfl (fun hc => (FW.noHold hk.kn rfl rfl hc).elim) ?_; clear hk; intro a w hk
  refine FW.lfunG (y := .lit (.bool false)) hk rfl rfl rfl rfl rfl rfl rfl rfl (fun hc => (FW.noHold hk.kn rfl rfl hc).elim) ?_; clear hk; intro a w hk
  refine FW.lfunG (y := .lit (.bool false)) hk rfl rfl rfl rfl rfl rfl rfl rfl (fun hc => (FW.noHold hk.kn rfl rfl hc).elim) ?_; clear hk; intro a w hk
  refine FW.lfun (y := .lit (.bool true)) hk rfl rfl rfl rfl ((FW.f_pure (FW.p_pickT hk.kn (FW.holds_nil _) rfl rfl))) ?_; clear hk; intro a w hk
  refine FW.lfun (y := .lit (.bool true)) hk rfl rfl rfl rfl (FW.f_assign hk (FW.holds_nil _) rfl) ?_; clear hk; intro a w hk
  refine FW.lend (hK3 _ _ ?_); clear hK3 K'
  refine FW.wcondT hk rfl ?_
  refine FW.wreg ?_; intro K' hK4
  refine FW.lfun (y := .lit (.pointer none)) hk rfl rfl rfl rfl (FW.f_assign hk (FW.holds_nil _) rfl) ?_; clear hk; intro a w hk
  refine FW.lfun (y := .lit (.int .i64 1)) hk rfl rfl rfl rfl (FW.f_assign hk (FW.holds_nil _) rfl) ?_; clear hk; intro a w hk
  refine FW.lend (hK4 _ _ ?_); clear hK4 K'
  refine wp_ret ?_
  (repeat first | refine FW.then_ret ?_ | refine FW.block_ret ?_)
  obtain rfl := Option.some.inj h
  replace hk := FW.S.keep (I1 := []) (I2 := []) (js := []) hk rfl
  exact FW.fretH2 hk rfl (FW.rtmp hk rfl) (FW.rtmp hk rfl) ⟨0, 0, 0, rfl, rfl⟩
end Go.Proofs.YtfbkgaandmebaaaGreat
namespace Go.Proofs.YtfbkgaandmebaaaGreat
set_option linter.unusedVariables false
set_option maxRecDepth 20000
set_option maxHeartbeats 10000000
theorem rec_Open_opt.ok (K : Nat) (v0 : ODevDev) (r : Option ORecStore × Int × ODevDev) (h : rec_Open_opt.f K v0 = some r) :
    ∀ (b0 : Nat) (xd0_0 : Option Addr) (xc0_0 : Nat) (xr0_1 : Nat) (xd0_3 : Option Addr) (xc0_3 : Nat), FW.OkH Go.Proofs.Tryz.prog 19 [.lit (.pointer (some ⟨b0, 0, none⟩))] (ODevDev.items b0 xd0_0 xc0_0 xr0_1 xd0_3 xc0_3 v0) (fun y I => ∃ (bn0 : Nat) (zxbn0_1 : Nat) (zxrn0_2 : Nat) (zxd0_0 : Option Addr) (zxc0_0 : Nat) (zxr0_1 : Nat) (zxd0_3 : Option Addr) (zxc0_3 : Nat), y = .tup [FW.ptrO r.1 bn0, .lit (.int .i64 r.2.1)] ∧ I = (FW.optI r.1 fun x => ORecStore.items bn0 b0 zxbn0_1 zxrn0_2 x) ++ (ODevDev.items b0 zxd0_0 zxc0_0 zxr0_1 zxd0_3 zxc0_3 r.2.2)) := by
  intro b0 xd0_0 xc0_0 xr0_1 xd0_3 xc0_3
  refine FW.enterH (xs := [.lit (.pointer (some ⟨b0, 0, none⟩))]) Go.Proofs.Tryz.func19 rfl Go.Proofs.Tryz.ntmps19 rfl ?_
  intro M w0 a hk
  replace hk : FW.S M w0 a w0.toWorld 98 [FW.blk b0 75 ([.lit (.slice xd0_0 (List.length v0.sure) xc0_0), .lit (.map (some xr0_1)), .lit (.int .i64 v0.steps), .lit (.slice xd0_3 (List.length v0.falls) xc0_3), .lit (.bool v0.off)]), FW.orow xd0_0 xc0_0 9 1 c_str v0.sure, FW.mapI (.int .i64) (Value.int .i64) FW.evS xr0_1 v0.cache, FW.orow xd0_3 xc0_3 52 3 ApiFall.cells v0.falls] [(0, [], .lit (.pointer (some ⟨b0, 0, none⟩)))] := hk
  unfold rec_Open_opt.f at h
  refine FW.wreg ?_; intro K' hK1
  refine FW.lfun (y := .lit (.pointer none)) hk rfl rfl rfl rfl (FW.f_assign hk (FW.holds_nil _) rfl) ?_; clear hk; intro a w hk
  refine FW.lfun (y := .lit (.int .i64 0)) hk rfl rfl rfl rfl (FW.f_assign hk (FW.holds_nil _) rfl) ?_; clear hk; intro a w hk
  refine FW.lend (hK1 _ _ ?_); clear hK1 K'
  refine FW.wseq ?_; intro K' hK2
  refine wp_block ?_
  refine FW.wreg ?_; intro K' hK3
  refine FW.lfun (y := .lit (.pointer (some ⟨b0, 0, none⟩))) hk rfl rfl rfl rfl (FW.f_move hk (FW.holds_nil _) rfl) ?_; clear hk; intro a w hk
  refine FW.lfun (y := .lit (.bool false)) hk rfl rfl rfl rfl ((FW.f_pure (FW.p_ptrEq Go.Proofs.Tryz.underlying24 hk.kn (FW.holds_nil _) rfl rfl rfl))) ?_; clear hk; intro a w hk
  refine FW.lfun (y := .lit (.bool false)) hk rfl rfl rfl rfl (FW.f_move hk (FW.holds_nil _) rfl) ?_; clear hk; intro a w hk
  refine FW.lfunG (y := .lit (.pointer (some ⟨b0, 0, none⟩))) hk rfl rfl rfl rfl rfl rfl rfl rfl (fun hc => FW.f_move hk hc rfl) ?_; clear hk; intro a w hk
  obtain ⟨t1, hr_t1, hn_t1, h⟩ := FW.bndG2 h
  refine FW.l_callHG (I1 := (ODevDev.items b0 xd0_0 xc0_0 xr0_1 xd0_3 xc0_3 v0)) (I2 := []) (js := [3, 3, 3, 3]) hk rfl rfl rfl rfl rfl rfl rfl rfl rfl Go.Proofs.Tryz.func36 rfl (by kernel_rfl) (fun hc => dev_Dev_Len.ok v0 _ (hr_t1 (FW.asm_out (p := false = false) hk.kn hc (fun e0 => e0))) b0 xd0_0 xc0_0 xr0_1 xd0_3 xc0_3) (fun hn => by obtain rfl := hn_t1 (fun hp => hn (FW.asm_in hk.kn (by have e0 := hp; exact ⟨e0, rfl, trivial⟩))); exact ⟨_, rfl, rfl⟩) ?_; clear hk
  rintro _ _ ⟨rfl, rfl⟩ a w hk
  refine FW.lfunG (y := .lit (.bool (decide (t1 < 16)))) hk rfl rfl rfl rfl rfl rfl rfl rfl (fun hc => (FW.f_pure (FW.p_lss hk.kn hc rfl rfl))) ?_; clear hk; intro a w hk
  refine FW.lfun (y := .lit (.bool (decide (t1 < 16)))) hk rfl rfl rfl rfl ((FW.f_pure (FW.p_pickX hk.kn (FW.holds_nil _) rfl rfl))) ?_; clear hk; intro a w hk
  refine FW.lfun (y := .lit (.bool (decide (t1 < 16)))) hk rfl rfl rfl rfl (FW.f_assign hk (FW.holds_nil _) rfl) ?_; clear hk; intro a w hk
  refine FW.lend (hK3 _ _ ?_); clear hK3 K'
  refine FW.wcondF (b := (decide (t1 < 16))) hk h rfl (fun h hb => ?_) (fun h hb => ?_)
  · skip
    refine FW.wreg ?_; intro K' hK4
    refine FW.lfun (y := .lit (.pointer none)) hk rfl rfl rfl rfl (FW.f_assign hk (FW.holds_nil _) rfl) ?_; clear hk; intro a w hk
    refine FW.lfun (y := .lit (.int .i64 1)) hk rfl rfl rfl rfl (FW.f_assign hk (FW.holds_nil _) rfl) ?_; clear hk; intro a w hk
    refine FW.lend (hK4 _ _ ?_); clear hK4 K'
    refine wp_ret ?_
    (repeat first | refine FW.then_ret ?_ | refine FW.block_ret ?_)
    obtain rfl := Option.some.inj h
    replace hk := FW.S.keep (I1 := [FW.blk b0 75 ([.lit (.slice xd0_0 (List.length v0.sure) xc0_0), .lit (.map (some xr0_1)), .lit (.int .i64 v0.steps), .lit (.slice xd0_3 (List.length v0.falls) xc0_3), .lit (.bool v0.off)]), FW.orow xd0_0 xc0_0 9 1 c_str v0.sure, FW.mapI (.int .i64) (Value.int .i64) FW.evS xr0_1 v0.cache, FW.orow xd0_3 xc0_3 52 3 ApiFall.cells v0.falls]) (I2 := []) (js := [3, 3, 3, 3]) hk rfl
    exact FW.fretH2 hk rfl (FW.rtmp hk rfl) (FW.rtmp hk rfl) ⟨0, 0, 0, xd0_0, xc0_0, xr0_1, xd0_3, xc0_3, rfl, rfl⟩
  refine FW.wreg ?_; intro K' hK5
  refine FW.lfun (y := .lit (.pointer (some ⟨b0, 0, none⟩))) hk rfl rfl rfl rfl (FW.f_move hk (FW.holds_nil _) rfl) ?_; clear hk; intro a w hk
  obtain ⟨t2, hr_t2, h⟩ := FW.bnd h
  refine FW.l_callH (I1 := (ODevDev.items b0 xd0_0 xc0_0 xr0_1 xd0_3 xc0_3 v0)) (I2 := []) (js := [3, 3, 3, 3]) hk rfl rfl rfl rfl rfl Go.Proofs.Tryz.func13 rfl (by kernel_rfl) (dev_Dev_Off.ok v0 _ hr_t2 b0 xd0_0 xc0_0 xr0_1 xd0_3 xc0_3) ?_; clear hk
  rintro _ _ ⟨rfl, rfl⟩ a w hk
  refine FW.lfun (y := .lit (.bool t2)) hk rfl rfl rfl rfl (FW.f_assign hk (FW.holds_nil _) rfl) ?_; clear hk; intro a w hk
  refine FW.lend (hK5 _ _ ?_); clear hK5 K'
  refine FW.wcondF (b := t2) hk h rfl (fun h hb => ?_) (fun h hb => ?_)
  · skip
    refine FW.wreg ?_; intro K' hK6
    refine FW.lfun (y := .lit (.pointer none)) hk rfl rfl rfl rfl (FW.f_assign hk (FW.holds_nil _) rfl) ?_; clear hk; intro a w hk
    refine FW.lfun (y := .lit (.int .i64 7)) hk rfl rfl rfl rfl (FW.f_assign hk (FW.holds_nil _) rfl) ?_; clear hk; intro a w hk
    refine FW.lend (hK6 _ _ ?_); clear hK6 K'
    refine wp_ret ?_
    (repeat first | refine FW.then_ret ?_ | refine FW.block_ret ?_)
    obtain rfl := Option.some.inj h
    replace hk := FW.S.keep (I1 := [FW.blk b0 75 ([.lit (.slice xd0_0 (List.length v0.sure) xc0_0), .lit (.map (some xr0_1)), .lit (.int .i64 v0.steps), .lit (.slice xd0_3 (List.length v0.falls) xc0_3), .lit (.bool v0.off)]), FW.orow xd0_0 xc0_0 9 1 c_str v0.sure, FW.mapI (.int .i64) (Value.int .i64) FW.evS xr0_1 v0.cache, FW.orow xd0_3 xc0_3 52 3 ApiFall.cells v0.falls]) (I2 := []) (js := [3, 3, 3, 3]) hk rfl
    exact FW.fretH2 hk rfl (FW.rtmp hk rfl) (FW.rtmp hk rfl) ⟨0, 0, 0, xd0_0, xc0_0, xr0_1, xd0_3, xc0_3, rfl, rfl⟩
  refine wp_skip ?_
  (repeat first | refine FW.then_normal ?_ | refine FW.block_normal ?_); refine hK2 _ _ ?_
  refine FW.wreg ?_; intro K' hK7
  refine FW.lfun (y := .lit (.pointer (some ⟨b0, 0, none⟩))) hk rfl rfl rfl rfl (FW.f_move hk (FW.holds_nil _) rfl) ?_; clear hk; intro a w hk
  refine FW.l_makeMap (κ := Int) (ν := List UInt8) (D := .int .u64) (ek := Value.int .u64) (ev := FW.evS) hk rfl rfl FW.keyU64 ?_; clear hk; intro r1 a w hk
  refine FW.lfun (y := .agg ([.lit (.pointer (some ⟨b0, 0, none⟩)), .lit (.pointer none), .lit (.map (some r1)), .lit (.int .i64 0), .lit (.int .u64 0), .lit (.bool false)])) hk rfl rfl rfl rfl (FW.f_build hk (FW.holds_nil _) rfl rfl) ?_; clear hk; intro a w hk
  refine FW.l_box (cs := [.lit (.pointer (some ⟨b0, 0, none⟩)), .lit (.pointer none), .lit (.map (some r1)), .lit (.int .i64 0), .lit (.int .u64 0), .lit (.bool false)]) hk rfl rfl rfl rfl rfl ?_; clear hk; intro bx1 a w hk
  refine FW.lfun (y := .lit (.pointer (some ⟨bx1, 0, none⟩))) hk rfl rfl rfl rfl (FW.f_assign hk (FW.holds_nil _) rfl) ?_; clear hk; intro a w hk
  refine FW.lend (hK7 _ _ ?_); clear hK7 K'
  refine FW.wreg ?_; intro K' hK8
  refine FW.lfun (y := .lit (.string (FW.B ([] : List UInt8)))) hk rfl rfl rfl rfl (FW.f_assign hk (FW.holds_nil _) rfl) ?_; clear hk; intro a w hk
  refine FW.lend (hK8 _ _ ?_); clear hK8 K'
  refine FW.wreg ?_; intro K' hK9
  refine FW.lfun (y := .lit (.pointer (some ⟨bx1, 0, none⟩))) hk rfl rfl rfl rfl (FW.f_move hk (FW.holds_nil _) rfl) ?_; clear hk; intro a w hk
  refine FW.lfun (y := .lit (.pointer (some ⟨bx1, 0, none⟩))) hk rfl rfl rfl rfl (FW.f_move hk (FW.holds_nil _) rfl) ?_; clear hk; intro a w hk
  refine FW.lfun (y := .lit (.pointer (some ⟨b0, 0, none⟩))) hk rfl rfl rfl rfl (FW.f_move hk (FW.holds_nil _) rfl) ?_; clear hk; intro a w hk
  obtain ⟨t3, hr_t3, h⟩ := FW.bnd h
  refine FW.l_callH (I1 := (ODevDev.items b0 xd0_0 xc0_0 xr0_1 xd0_3 xc0_3 v0)) (I2 := [FW.blk bx1 69 ([.lit (.pointer (some ⟨b0, 0, none⟩)), .lit (.pointer none), .lit (.map (some r1)), .lit (.int .i64 0), .lit (.int .u64 0), .lit (.bool false)]), FW.mapI (.int .u64) (Value.int .u64) FW.evS r1 ([] : List (Int × (List UInt8)))]) (js := [5, 5, 5, 5]) hk rfl rfl rfl rfl rfl Go.Proofs.Tryz.func37 rfl (by kernel_rfl) (rec_newest.ok K v0 _ hr_t3 b0 xd0_0 xc0_0 xr0_1 xd0_3 xc0_3) ?_; clear hk
  rintro _ _ ⟨zd1, zc1, zr1, zd2, zc2, rfl, rfl⟩ a w hk
  refine FW.lfun (y := .tup [.lit (.int .i64 t3.1), .lit (.int .u64 t3.2.1), .lit (.string (FW.B t3.2.2.1))]) hk rfl rfl rfl rfl (FW.f_move hk (FW.holds_nil _) rfl) ?_; clear hk; intro a w hk
  refine FW.lfun (y := .lit (.int .i64 t3.1)) hk rfl rfl rfl rfl (FW.f_extract hk (FW.holds_nil _) rfl rfl) ?_; clear hk; intro a w hk
  refine FW.lfun (y := .lit (.int .u64 t3.2.1)) hk rfl rfl rfl rfl (FW.f_extract hk (FW.holds_nil _) rfl rfl) ?_; clear hk; intro a w hk
  refine FW.lfun (y := .lit (.string (FW.B t3.2.2.1))) hk rfl rfl rfl rfl (FW.f_extract hk (FW.holds_nil _) rfl rfl) ?_; clear hk; intro a w hk
  refine FW.lfun (y := .lit (.pointer (some ⟨bx1, 0, none⟩))) hk rfl rfl rfl rfl ((FW.f_pure (FW.p_nilCheck hk.kn (FW.holds_nil _) rfl))) ?_; clear hk; intro a w hk
  refine FW.lfun (y := .lit (.pointer (some ⟨bx1, 3, none⟩))) hk rfl rfl rfl rfl (FW.f_fieldPtr hk (FW.holds_nil _) rfl Go.Proofs.Tryz.underlying69 rfl (by kernel_rfl) rfl) ?_; clear hk; intro a w hk
  refine FW.l_store (I' := [FW.blk b0 75 ([.lit (.slice zd1 (List.length t3.2.2.2.sure) zc1), .lit (.map (some zr1)), .lit (.int .i64 t3.2.2.2.steps), .lit (.slice zd2 (List.length t3.2.2.2.falls) zc2), .lit (.bool t3.2.2.2.off)]), FW.orow zd1 zc1 9 1 c_str t3.2.2.2.sure, FW.mapI (.int .i64) (Value.int .i64) FW.evS zr1 t3.2.2.2.cache, FW.orow zd2 zc2 52 3 ApiFall.cells t3.2.2.2.falls, FW.blk bx1 69 ([.lit (.pointer (some ⟨b0, 0, none⟩)), .lit (.pointer none), .lit (.map (some r1)), .lit (.int .i64 t3.1), .lit (.int .u64 0), .lit (.bool false)]), FW.mapI (.int .u64) (Value.int .u64) FW.evS r1 ([] : List (Int × (List UInt8)))]) (cs' := [.lit (.pointer (some ⟨b0, 0, none⟩)), .lit (.pointer none), .lit (.map (some r1)), .lit (.int .i64 t3.1), .lit (.int .u64 0), .lit (.bool false)]) (j := 4) hk rfl rfl rfl rfl rfl (by kernel_rfl) rfl rfl ?_; clear hk; intro w hk
  refine FW.lfun (y := .lit (.pointer (some ⟨bx1, 0, none⟩))) hk rfl rfl rfl rfl ((FW.f_pure (FW.p_nilCheck hk.kn (FW.holds_nil _) rfl))) ?_; clear hk; intro a w hk
  refine FW.lfun (y := .lit (.pointer (some ⟨bx1, 4, none⟩))) hk rfl rfl rfl rfl (FW.f_fieldPtr hk (FW.holds_nil _) rfl Go.Proofs.Tryz.underlying69 rfl (by kernel_rfl) rfl) ?_; clear hk; intro a w hk
  refine FW.l_store (I' := [FW.blk b0 75 ([.lit (.slice zd1 (List.length t3.2.2.2.sure) zc1), .lit (.map (some zr1)), .lit (.int .i64 t3.2.2.2.steps), .lit (.slice zd2 (List.length t3.2.2.2.falls) zc2), .lit (.bool t3.2.2.2.off)]), FW.orow zd1 zc1 9 1 c_str t3.2.2.2.sure, FW.mapI (.int .i64) (Value.int .i64) FW.evS zr1 t3.2.2.2.cache, FW.orow zd2 zc2 52 3 ApiFall.cells t3.2.2.2.falls, FW.blk bx1 69 ([.lit (.pointer (some ⟨b0, 0, none⟩)), .lit (.pointer none), .lit (.map (some r1)), .lit (.int .i64 t3.1), .lit (.int .u64 t3.2.1), .lit (.bool false)]), FW.mapI (.int .u64) (Value.int .u64) FW.evS r1 ([] : List (Int × (List UInt8)))]) (cs' := [.lit (.pointer (some ⟨b0, 0, none⟩)), .lit (.pointer none), .lit (.map (some r1)), .lit (.int .i64 t3.1), .lit (.int .u64 t3.2.1), .lit (.bool false)]) (j := 4) hk rfl rfl rfl rfl rfl (by kernel_rfl) rfl rfl ?_; clear hk; intro w hk
  refine FW.lfun (y := .lit (.string (FW.B t3.2.2.1))) hk rfl rfl rfl rfl (FW.f_assign hk (FW.holds_nil _) rfl) ?_; clear hk; intro a w hk
  refine FW.lend (hK9 _ _ ?_); clear hK9 K'
  refine FW.wreg ?_; intro K' hK10
  refine FW.lfun (y := .lit (.int .u64 1)) hk rfl rfl rfl rfl (FW.f_assign hk (FW.holds_nil _) rfl) ?_; clear hk; intro a w hk
  refine FW.lend (hK10 _ _ ?_); clear hK10 K'
  refine FW.wseqJ (fun a w => ∃ (y1_2 : Int) (y1_4 : Bool) (l2 : List (List UInt8)) (m3 : List (Int × (List UInt8))) (l4 : List ApiFall) (y6_3 : Int) (y6_4 : Int) (y6_5 : Bool) (v6 : Int) (xd2 : Option Addr) (xc2 : Nat) (xr3 : Nat) (xd4 : Option Addr) (xc4 : Nat), FW.S M w0 a w 98 [FW.blk b0 75 ([.lit (.slice xd2 (List.length l2) xc2), .lit (.map (some xr3)), .lit (.int .i64 y1_2), .lit (.slice xd4 (List.length l4) xc4), .lit (.bool y1_4)]), FW.orow xd2 xc2 9 1 c_str l2, FW.mapI (.int .i64) (Value.int .i64) FW.evS xr3 m3, FW.orow xd4 xc4 52 3 ApiFall.cells l4, FW.blk bx1 69 ([.lit (.pointer (some ⟨b0, 0, none⟩)), .lit (.pointer none), .lit (.map (some r1)), .lit (.int .i64 y6_3), .lit (.int .u64 y6_4), .lit (.bool y6_5)]), FW.mapI (.int .u64) (Value.int .u64) FW.evS r1 ([] : List (Int × (List UInt8)))] [(0, [], .lit (.pointer (some ⟨b0, 0, none⟩))), (4, [], .lit (.pointer (some ⟨bx1, 0, none⟩))), (6, [], .lit (.int .u64 v6))] ∧ rec_Open_opt.j1 K y1_2 y1_4 l2 m3 l4 y6_3 y6_4 y6_5 v6 = some r) ?_ ?_
  · clear hk h
    rintro a w ⟨y1_2, y1_4, l2, m3, l4, y6_3, y6_4, y6_5, v6, xd2, xc2, xr3, xd4, xc4, hk, h⟩
    unfold rec_Open_opt.j1 at h
    refine FW.wreg ?_; intro K' hK12
    refine FW.lfun (y := .lit (.pointer (some ⟨b0, 0, none⟩))) hk rfl rfl rfl rfl (FW.f_move hk (FW.holds_nil _) rfl) ?_; clear hk; intro a w hk
    obtain ⟨t4, hr_t4, h⟩ := FW.bnd h
    refine FW.l_callH (I1 := (ODevDev.items b0 xd2 xc2 xr3 xd4 xc4 (⟨l2, m3, y1_2, l4, y1_4⟩ : ODevDev))) (I2 := [FW.blk bx1 69 ([.lit (.pointer (some ⟨b0, 0, none⟩)), .lit (.pointer none), .lit (.map (some r1)), .lit (.int .i64 y6_3), .lit (.int .u64 y6_4), .lit (.bool y6_5)]), FW.mapI (.int .u64) (Value.int .u64) FW.evS r1 ([] : List (Int × (List UInt8)))]) (js := [3, 3, 3, 3]) hk rfl rfl rfl rfl rfl Go.Proofs.Tryz.func40 rfl (by kernel_rfl) (rec_parts.ok (⟨l2, m3, y1_2, l4, y1_4⟩ : ODevDev) _ hr_t4 b0 xd2 xc2 xr3 xd4 xc4) ?_; clear hk
    rintro _ _ ⟨rfl, rfl⟩ a w hk
    refine FW.l_alloc (zs := [.lit (.int .i64 0), .lit (.int .i64 0), .lit (.int .i64 0), .lit (.int .i64 0)]) [] hk rfl rfl rfl rfl ?_; clear hk; intro bx2 a w hk
    refine FW.l_store (I' := [FW.blk bx2 79 ([.lit (.int .i64 t4.1), .lit (.int .i64 t4.2.1), .lit (.int .i64 t4.2.2.1), .lit (.int .i64 t4.2.2.2)]), FW.blk b0 75 ([.lit (.slice xd2 (List.length l2) xc2), .lit (.map (some xr3)), .lit (.int .i64 y1_2), .lit (.slice xd4 (List.length l4) xc4), .lit (.bool y1_4)]), FW.orow xd2 xc2 9 1 c_str l2, FW.mapI (.int .i64) (Value.int .i64) FW.evS xr3 m3, FW.orow xd4 xc4 52 3 ApiFall.cells l4, FW.blk bx1 69 ([.lit (.pointer (some ⟨b0, 0, none⟩)), .lit (.pointer none), .lit (.map (some r1)), .lit (.int .i64 y6_3), .lit (.int .u64 y6_4), .lit (.bool y6_5)]), FW.mapI (.int .u64) (Value.int .u64) FW.evS r1 ([] : List (Int × (List UInt8)))]) (cs' := [.lit (.int .i64 t4.1), .lit (.int .i64 t4.2.1), .lit (.int .i64 t4.2.2.1), .lit (.int .i64 t4.2.2.2)]) (j := 0) hk rfl rfl rfl rfl rfl (by kernel_rfl) rfl rfl ?_; clear hk; intro w hk
    replace hk := FW.S.toArr (f := c_i64) (N := 4) (l := [t4.1, t4.2.1, t4.2.2.1, t4.2.2.2]) (I' := [FW.orow (some ⟨bx2, 0, none⟩) 4 79 1 c_i64 ([t4.1, t4.2.1, t4.2.2.1, t4.2.2.2] : List Int), FW.blk b0 75 ([.lit (.slice xd2 (List.length l2) xc2), .lit (.map (some xr3)), .lit (.int .i64 y1_2), .lit (.slice xd4 (List.length l4) xc4), .lit (.bool y1_4)]), FW.orow xd2 xc2 9 1 c_str l2, FW.mapI (.int .i64) (Value.int .i64) FW.evS xr3 m3, FW.orow xd4 xc4 52 3 ApiFall.cells l4, FW.blk bx1 69 ([.lit (.pointer (some ⟨b0, 0, none⟩)), .lit (.pointer none), .lit (.map (some r1)), .lit (.int .i64 y6_3), .lit (.int .u64 y6_4), .lit (.bool y6_5)]), FW.mapI (.int .u64) (Value.int .u64) FW.evS r1 ([] : List (Int × (List UInt8)))]) (j := 0) (fun _ => rfl) hk rfl rfl rfl (by decide) rfl
    refine FW.lend (hK12 _ _ ?_); clear hK12 K'
    refine FW.wreg ?_; intro K' hK13
    refine FW.lfun (y := .lit (.pointer (some ⟨b0, 0, none⟩))) hk rfl rfl rfl rfl (FW.f_move hk (FW.holds_nil _) rfl) ?_; clear hk; intro a w hk
    obtain ⟨hc1, h⟩ := FW.chk h
    refine FW.lfun (y := FW.elA (some ⟨bx2, 0, none⟩) 1 2) hk rfl rfl rfl rfl (FW.f_idxArr (f := c_i64) (l := ([t4.1, t4.2.1, t4.2.2.1, t4.2.2.2] : List Int)) hk (FW.holds_nil _) (j := 0) rfl rfl rfl Go.Proofs.Tryz.underlying79 (by kernel_rfl) hc1) ?_; clear hk; intro a w hk
    refine FW.lfun (y := .lit (.int .i64 (List.getD ([t4.1, t4.2.1, t4.2.2.1, t4.2.2.2] : List Int) (Int.toNat 2) default))) hk rfl rfl rfl rfl (FW.f_loadOwn1 (f := c_i64) (l := ([t4.1, t4.2.1, t4.2.2.1, t4.2.2.2] : List Int)) hk (FW.holds_nil _) (j := 0) rfl rfl hc1 rfl Go.Proofs.Tryz.underlying3 rfl) ?_; clear hk; intro a w hk
    obtain ⟨hc2, h⟩ := FW.chk h
    refine FW.lfun (y := FW.elA (some ⟨bx2, 0, none⟩) 1 3) hk rfl rfl rfl rfl (FW.f_idxArr (f := c_i64) (l := ([t4.1, t4.2.1, t4.2.2.1, t4.2.2.2] : List Int)) hk (FW.holds_nil _) (j := 0) rfl rfl rfl Go.Proofs.Tryz.underlying79 (by kernel_rfl) hc2) ?_; clear hk; intro a w hk
    refine FW.lfun (y := .lit (.int .i64 (List.getD ([t4.1, t4.2.1, t4.2.2.1, t4.2.2.2] : List Int) (Int.toNat 3) default))) hk rfl rfl rfl rfl (FW.f_loadOwn1 (f := c_i64) (l := ([t4.1, t4.2.1, t4.2.2.1, t4.2.2.2] : List Int)) hk (FW.holds_nil _) (j := 0) rfl rfl hc2 rfl Go.Proofs.Tryz.underlying3 rfl) ?_; clear hk; intro a w hk
    refine FW.lfun (y := .lit (.int .u64 v6)) hk rfl rfl rfl rfl (FW.f_move hk (FW.holds_nil _) rfl) ?_; clear hk; intro a w hk
    obtain ⟨t5, hr_t5, h⟩ := FW.bnd h
    refine FW.l_callH (I1 := (ODevDev.items b0 xd2 xc2 xr3 xd4 xc4 (⟨l2, m3, y1_2, l4, y1_4⟩ : ODevDev))) (I2 := [FW.orow (some ⟨bx2, 0, none⟩) 4 79 1 c_i64 ([t4.1, t4.2.1, t4.2.2.1, t4.2.2.2] : List Int), FW.blk bx1 69 ([.lit (.pointer (some ⟨b0, 0, none⟩)), .lit (.pointer none), .lit (.map (some r1)), .lit (.int .i64 y6_3), .lit (.int .u64 y6_4), .lit (.bool y6_5)]), FW.mapI (.int .u64) (Value.int .u64) FW.evS r1 ([] : List (Int × (List UInt8)))]) (js := [4, 4, 4, 4]) hk rfl rfl rfl rfl rfl Go.Proofs.Tryz.func41 rfl (by kernel_rfl) (log_Open.ok K (⟨l2, m3, y1_2, l4, y1_4⟩ : ODevDev) (List.getD ([t4.1, t4.2.1, t4.2.2.1, t4.2.2.2] : List Int) (Int.toNat 2) default) (List.getD ([t4.1, t4.2.1, t4.2.2.1, t4.2.2.2] : List Int) (Int.toNat 3) default) v6 _ hr_t5 b0 xd2 xc2 xr3 xd4 xc4) ?_; clear hk
    rintro _ _ ⟨bx3, zd3, zc3, zr2, zd4, zc4, rfl, rfl⟩ a w hk
    refine FW.lfun (y := .tup [.lit (.pointer (some ⟨bx3, 0, none⟩)), .row (r_c_str t5.2.1), .lit (.int .i64 t5.2.2.1)]) hk rfl rfl rfl rfl (FW.f_move hk (FW.holds_nil _) rfl) ?_; clear hk; intro a w hk
    refine FW.lfun (y := .lit (.pointer (some ⟨bx3, 0, none⟩))) hk rfl rfl rfl rfl (FW.f_extract hk (FW.holds_nil _) rfl rfl) ?_; clear hk; intro a w hk
    refine FW.lfun (y := .row (r_c_str t5.2.1)) hk rfl rfl rfl rfl (FW.f_extract hk (FW.holds_nil _) rfl rfl) ?_; clear hk; intro a w hk
    refine FW.lfun (y := .lit (.int .i64 t5.2.2.1)) hk rfl rfl rfl rfl (FW.f_extract hk (FW.holds_nil _) rfl rfl) ?_; clear hk; intro a w hk
    refine FW.lfun (y := .lit (.pointer (some ⟨bx3, 0, none⟩))) hk rfl rfl rfl rfl (FW.f_assign hk (FW.holds_nil _) rfl) ?_; clear hk; intro a w hk
    refine FW.lfun (y := .row (r_c_str t5.2.1)) hk rfl rfl rfl rfl (FW.f_assign hk (FW.holds_nil _) rfl) ?_; clear hk; intro a w hk
    refine FW.lfun (y := .lit (.int .i64 t5.2.2.1)) hk rfl rfl rfl rfl (FW.f_assign hk (FW.holds_nil _) rfl) ?_; clear hk; intro a w hk
    refine FW.lend (hK13 _ _ ?_); clear hK13 K'
    refine FW.wseq ?_; intro K' hK14
    refine FW.wreg ?_; intro K' hK15
    refine FW.lfun (y := .lit (.int .i64 t5.2.2.1)) hk rfl rfl rfl rfl (FW.f_move hk (FW.holds_nil _) rfl) ?_; clear hk; intro a w hk
    refine FW.lfun (y := .lit (.bool (!decide (t5.2.2.1 = 0)))) hk rfl rfl rfl rfl ((FW.f_pure (FW.p_neq hk.kn (FW.holds_nil _) rfl rfl))) ?_; clear hk; intro a w hk
    refine FW.lend (hK15 _ _ ?_); clear hK15 K'
    refine FW.wcondF (b := (!decide (t5.2.2.1 = 0))) hk h rfl (fun h hb => ?_) (fun h hb => ?_)
    · skip
      refine FW.wreg ?_; intro K' hK16
      refine FW.lfun (y := .lit (.int .i64 t5.2.2.1)) hk rfl rfl rfl rfl (FW.f_move hk (FW.holds_nil _) rfl) ?_; clear hk; intro a w hk
      refine FW.lfun (y := .lit (.pointer none)) hk rfl rfl rfl rfl (FW.f_assign hk (FW.holds_nil _) rfl) ?_; clear hk; intro a w hk
      refine FW.lfun (y := .lit (.int .i64 t5.2.2.1)) hk rfl rfl rfl rfl (FW.f_assign hk (FW.holds_nil _) rfl) ?_; clear hk; intro a w hk
      refine FW.lend (hK16 _ _ ?_); clear hK16 K'
      refine wp_ret ?_
      (repeat first | refine FW.then_ret ?_ | refine FW.block_ret ?_)
      obtain rfl := Option.some.inj h
      replace hk := FW.S.keep (I1 := [FW.blk b0 75 ([.lit (.slice zd3 (List.length t5.2.2.2.sure) zc3), .lit (.map (some zr2)), .lit (.int .i64 t5.2.2.2.steps), .lit (.slice zd4 (List.length t5.2.2.2.falls) zc4), .lit (.bool t5.2.2.2.off)]), FW.orow zd3 zc3 9 1 c_str t5.2.2.2.sure, FW.mapI (.int .i64) (Value.int .i64) FW.evS zr2 t5.2.2.2.cache, FW.orow zd4 zc4 52 3 ApiFall.cells t5.2.2.2.falls]) (I2 := [FW.blk bx3 99 ([.lit (.pointer (some ⟨b0, 0, none⟩)), .lit (.int .i64 t5.1.from_), .lit (.int .i64 t5.1.to_), .lit (.int .i64 t5.1.at_), .lit (.int .u64 t5.1.next)]), FW.orow (some ⟨bx2, 0, none⟩) 4 79 1 c_i64 ([t4.1, t4.2.1, t4.2.2.1, t4.2.2.2] : List Int), FW.blk bx1 69 ([.lit (.pointer (some ⟨b0, 0, none⟩)), .lit (.pointer none), .lit (.map (some r1)), .lit (.int .i64 y6_3), .lit (.int .u64 y6_4), .lit (.bool y6_5)]), FW.mapI (.int .u64) (Value.int .u64) FW.evS r1 ([] : List (Int × (List UInt8)))]) (js := [4, 4, 4, 4]) hk rfl
      exact FW.fretH2 hk rfl (FW.rtmp hk rfl) (FW.rtmp hk rfl) ⟨0, 0, 0, zd3, zc3, zr2, zd4, zc4, rfl, rfl⟩
    refine wp_skip ?_
    (repeat first | refine FW.then_normal ?_ | refine FW.block_normal ?_); refine hK14 _ _ ?_
    refine FW.wreg ?_; intro K' hK17
    refine FW.lfun (y := .lit (.pointer (some ⟨bx1, 0, none⟩))) hk rfl rfl rfl rfl (FW.f_move hk (FW.holds_nil _) rfl) ?_; clear hk; intro a w hk
    refine FW.lfun (y := .lit (.pointer (some ⟨bx3, 0, none⟩))) hk rfl rfl rfl rfl (FW.f_move hk (FW.holds_nil _) rfl) ?_; clear hk; intro a w hk
    refine FW.lfun (y := .lit (.pointer (some ⟨bx1, 0, none⟩))) hk rfl rfl rfl rfl ((FW.f_pure (FW.p_nilCheck hk.kn (FW.holds_nil _) rfl))) ?_; clear hk; intro a w hk
    refine FW.lfun (y := .lit (.pointer (some ⟨bx1, 1, none⟩))) hk rfl rfl rfl rfl (FW.f_fieldPtr hk (FW.holds_nil _) rfl Go.Proofs.Tryz.underlying69 rfl (by kernel_rfl) rfl) ?_; clear hk; intro a w hk
    refine FW.l_store (I' := [FW.blk bx3 99 ([.lit (.pointer (some ⟨b0, 0, none⟩)), .lit (.int .i64 t5.1.from_), .lit (.int .i64 t5.1.to_), .lit (.int .i64 t5.1.at_), .lit (.int .u64 t5.1.next)]), FW.blk b0 75 ([.lit (.slice zd3 (List.length t5.2.2.2.sure) zc3), .lit (.map (some zr2)), .lit (.int .i64 t5.2.2.2.steps), .lit (.slice zd4 (List.length t5.2.2.2.falls) zc4), .lit (.bool t5.2.2.2.off)]), FW.orow zd3 zc3 9 1 c_str t5.2.2.2.sure, FW.mapI (.int .i64) (Value.int .i64) FW.evS zr2 t5.2.2.2.cache, FW.orow zd4 zc4 52 3 ApiFall.cells t5.2.2.2.falls, FW.orow (some ⟨bx2, 0, none⟩) 4 79 1 c_i64 ([t4.1, t4.2.1, t4.2.2.1, t4.2.2.2] : List Int), FW.blk bx1 69 ([.lit (.pointer (some ⟨b0, 0, none⟩)), .lit (.pointer (some ⟨bx3, 0, none⟩)), .lit (.map (some r1)), .lit (.int .i64 y6_3), .lit (.int .u64 y6_4), .lit (.bool y6_5)]), FW.mapI (.int .u64) (Value.int .u64) FW.evS r1 ([] : List (Int × (List UInt8)))]) (cs' := [.lit (.pointer (some ⟨b0, 0, none⟩)), .lit (.pointer (some ⟨bx3, 0, none⟩)), .lit (.map (some r1)), .lit (.int .i64 y6_3), .lit (.int .u64 y6_4), .lit (.bool y6_5)]) (j := 6) hk rfl rfl rfl rfl rfl (by kernel_rfl) rfl rfl ?_; clear hk; intro w hk
    refine FW.lend (hK17 _ _ ?_); clear hK17 K'
    refine FW.wseq ?_; intro K' hK18
    refine FW.wreg ?_; intro K' hK19
    refine FW.lfun (y := .row (r_c_str t5.2.1)) hk rfl rfl rfl rfl (FW.f_move hk (FW.holds_nil _) rfl) ?_; clear hk; intro a w hk
    refine FW.lfun (y := .lit (.int .i64 (List.length t5.2.1 : Int))) hk rfl rfl rfl rfl (FW.f_len (R := r_c_str) (f := c_str) (l := t5.2.1) r_c_str_eq Go.Proofs.Tryz.underlying72 hk (FW.holds_nil _) rfl) ?_; clear hk; intro a w hk
    refine FW.lfun (y := .lit (.int .i64 0)) hk rfl rfl rfl rfl (FW.f_move hk (FW.holds_nil _) rfl) ?_; clear hk; intro a w hk
    refine FW.lend (hK19 _ _ ?_); clear hK19 K'
    refine wp_block ?_
    refine FW.wloop (T := Nat × Int × Int × Int × Int × Int × Bool × List (List UInt8) × (List (Int × (List UInt8))) × List ApiFall × Int × Int × Bool × (List (Int × (List UInt8))) × List (List UInt8) × Int × Int × Nat × Option Addr × Nat × Nat × Option Addr × Nat × Nat) (fun x a w => match x with | (kl1, y8_1, y8_2, y8_3, y8_4, y1_2, y1_4, l2, m3, l4, y6_3, y6_4, y6_5, m5, v80, v81, v82, xn8, xd2, xc2, xr3, xd4, xc4, xr5) => FW.S M w0 a w 98 [FW.blk xn8 99 ([.lit (.pointer (some ⟨b0, 0, none⟩)), .lit (.int .i64 y8_1), .lit (.int .i64 y8_2), .lit (.int .i64 y8_3), .lit (.int .u64 y8_4)]), FW.blk b0 75 ([.lit (.slice xd2 (List.length l2) xc2), .lit (.map (some xr3)), .lit (.int .i64 y1_2), .lit (.slice xd4 (List.length l4) xc4), .lit (.bool y1_4)]), FW.orow xd2 xc2 9 1 c_str l2, FW.mapI (.int .i64) (Value.int .i64) FW.evS xr3 m3, FW.orow xd4 xc4 52 3 ApiFall.cells l4, FW.blk bx1 69 ([.lit (.pointer (some ⟨b0, 0, none⟩)), .lit (.pointer (some ⟨xn8, 0, none⟩)), .lit (.map (some xr5)), .lit (.int .i64 y6_3), .lit (.int .u64 y6_4), .lit (.bool y6_5)]), FW.mapI (.int .u64) (Value.int .u64) FW.evS xr5 m5] [(4, [], .lit (.pointer (some ⟨bx1, 0, none⟩))), (80, [], .row (r_c_str v80)), (81, [], .lit (.int .i64 v81)), (82, [], .lit (.int .i64 v82))] ∧ rec_Open_opt.l1 K kl1 y8_1 y8_2 y8_3 y8_4 y1_2 y1_4 l2 m3 l4 y6_3 y6_4 y6_5 m5 v80 v81 v82 = some r) (fun x => x.1) (K, t5.1.from_, t5.1.to_, t5.1.at_, t5.1.next, t5.2.2.2.steps, t5.2.2.2.off, t5.2.2.2.sure, t5.2.2.2.cache, t5.2.2.2.falls, y6_3, y6_4, y6_5, ([] : List (Int × (List UInt8))), t5.2.1, (List.length t5.2.1 : Int), 0, bx3, zd3, zc3, zr2, zd4, zc4, r1) ⟨(hk.drop 5).sub ⟨rfl, rfl, rfl, rfl, trivial⟩, h⟩ ?_
    clear hk h
    rintro ⟨kl1, y8_1, y8_2, y8_3, y8_4, y1_2, y1_4, l2, m3, l4, y6_3, y6_4, y6_5, m5, v80, v81, v82, xn8, xd2, xc2, xr3, xd4, xc4, xr5⟩ a w ⟨hk, h⟩ K' hK20
    cases kl1 with
    | zero => simp [rec_Open_opt.l1] at h
    | succ kl1 =>
    rw [rec_Open_opt.l1.eq_2] at h
    refine FW.wreg ?_; intro K' hK21
    refine FW.lfun (y := .lit (.bool (decide (v82 < v81)))) hk rfl rfl rfl rfl ((FW.f_pure (FW.p_lss hk.kn (FW.holds_nil _) rfl rfl))) ?_; clear hk; intro a w hk
    refine FW.lend (hK21 _ _ ?_); clear hK21 K'
    refine FW.wseq ?_; intro K' hK22
    refine FW.wcondF (b := (decide (v82 < v81))) hk h rfl (fun h hb => ?_) (fun h hb => ?_)
    · skip
      refine wp_skip ?_
      (repeat first | refine FW.then_normal ?_ | refine FW.block_normal ?_); refine hK22 _ _ ?_
      refine FW.wseq ?_; intro K' hK23
      refine wp_block ?_
      refine FW.wreg ?_; intro K' hK24
      obtain ⟨hc3, h⟩ := FW.chk h
      refine FW.lfun (y := .ref (c_str (List.getD v80 (Int.toNat v82) default))) hk rfl rfl rfl rfl (FW.f_indexAddr (R := r_c_str) (f := c_str) (l := v80) (sz := 1) r_c_str_eq (fun _ => rfl) hk (FW.holds_nil _) rfl rfl Go.Proofs.Tryz.underlying72 (by kernel_rfl) hc3) ?_; clear hk; intro a w hk
      refine FW.lfun (y := .lit (.string (FW.B (List.getD v80 (Int.toNat v82) default)))) hk rfl rfl rfl rfl (FW.f_load1 hk (FW.holds_nil _) rfl rfl Go.Proofs.Tryz.underlying9 rfl) ?_; clear hk; intro a w hk
      refine FW.lfun (y := .lit (.string (FW.B (List.getD v80 (Int.toNat v82) default)))) hk rfl rfl rfl rfl (FW.f_assign hk (FW.holds_nil _) rfl) ?_; clear hk; intro a w hk
      refine FW.lend (hK24 _ _ ?_); clear hK24 K'
      refine FW.wreg ?_; intro K' hK25
      refine FW.lfun (y := .lit (.string (FW.B (List.getD v80 (Int.toNat v82) default)))) hk rfl rfl rfl rfl (FW.f_move hk (FW.holds_nil _) rfl) ?_; clear hk; intro a w hk
      obtain ⟨t6, hr_t6, h⟩ := FW.bnd h
      refine FW.lfun (y := .tup [.row (r_ApiChange_cells t6.1), .lit (.int .i64 t6.2)]) hk rfl rfl rfl rfl (FW.f_call hk (FW.holds_nil _) rfl rfl Go.Proofs.Tryz.func42 rfl (by kernel_rfl) (rec_Unbatch.ok K (List.getD v80 (Int.toNat v82) default) _ hr_t6)) ?_; clear hk; intro a w hk
      refine FW.lfun (y := .tup [.row (r_ApiChange_cells t6.1), .lit (.int .i64 t6.2)]) hk rfl rfl rfl rfl (FW.f_move hk (FW.holds_nil _) rfl) ?_; clear hk; intro a w hk
      refine FW.lfun (y := .row (r_ApiChange_cells t6.1)) hk rfl rfl rfl rfl (FW.f_extract hk (FW.holds_nil _) rfl rfl) ?_; clear hk; intro a w hk
      refine FW.lfun (y := .lit (.int .i64 t6.2)) hk rfl rfl rfl rfl (FW.f_extract hk (FW.holds_nil _) rfl rfl) ?_; clear hk; intro a w hk
      refine FW.lfun (y := .row (r_ApiChange_cells t6.1)) hk rfl rfl rfl rfl (FW.f_assign hk (FW.holds_nil _) rfl) ?_; clear hk; intro a w hk
      refine FW.lfun (y := .lit (.int .i64 t6.2)) hk rfl rfl rfl rfl (FW.f_assign hk (FW.holds_nil _) rfl) ?_; clear hk; intro a w hk
      refine FW.lend (hK25 _ _ ?_); clear hK25 K'
      refine FW.wseq ?_; intro K' hK26
      refine FW.wreg ?_; intro K' hK27
      refine FW.lfun (y := .lit (.int .i64 t6.2)) hk rfl rfl rfl rfl (FW.f_move hk (FW.holds_nil _) rfl) ?_; clear hk; intro a w hk
      refine FW.lfun (y := .lit (.bool (!decide (t6.2 = 0)))) hk rfl rfl rfl rfl ((FW.f_pure (FW.p_neq hk.kn (FW.holds_nil _) rfl rfl))) ?_; clear hk; intro a w hk
      refine FW.lend (hK27 _ _ ?_); clear hK27 K'
      refine FW.wcondF (b := (!decide (t6.2 = 0))) hk h rfl (fun h hb => ?_) (fun h hb => ?_)
      · skip
        refine FW.wreg ?_; intro K' hK28
        refine FW.lfun (y := .lit (.pointer none)) hk rfl rfl rfl rfl (FW.f_assign hk (FW.holds_nil _) rfl) ?_; clear hk; intro a w hk
        refine FW.lfun (y := .lit (.int .i64 60)) hk rfl rfl rfl rfl (FW.f_assign hk (FW.holds_nil _) rfl) ?_; clear hk; intro a w hk
        refine FW.lend (hK28 _ _ ?_); clear hK28 K'
        refine wp_ret ?_
        (repeat first | refine FW.then_ret ?_ | refine FW.block_ret ?_)
        obtain rfl := Option.some.inj h
        replace hk := FW.S.keep (I1 := [FW.blk b0 75 ([.lit (.slice xd2 (List.length l2) xc2), .lit (.map (some xr3)), .lit (.int .i64 y1_2), .lit (.slice xd4 (List.length l4) xc4), .lit (.bool y1_4)]), FW.orow xd2 xc2 9 1 c_str l2, FW.mapI (.int .i64) (Value.int .i64) FW.evS xr3 m3, FW.orow xd4 xc4 52 3 ApiFall.cells l4]) (I2 := [FW.blk xn8 99 ([.lit (.pointer (some ⟨b0, 0, none⟩)), .lit (.int .i64 y8_1), .lit (.int .i64 y8_2), .lit (.int .i64 y8_3), .lit (.int .u64 y8_4)]), FW.blk bx1 69 ([.lit (.pointer (some ⟨b0, 0, none⟩)), .lit (.pointer (some ⟨xn8, 0, none⟩)), .lit (.map (some xr5)), .lit (.int .i64 y6_3), .lit (.int .u64 y6_4), .lit (.bool y6_5)]), FW.mapI (.int .u64) (Value.int .u64) FW.evS xr5 m5]) (js := [4, 4, 4, 4]) hk rfl
        exact FW.fretH2 hk rfl (FW.rtmp hk rfl) (FW.rtmp hk rfl) ⟨0, 0, 0, xd2, xc2, xr3, xd4, xc4, rfl, rfl⟩
      refine wp_skip ?_
      (repeat first | refine FW.then_normal ?_ | refine FW.block_normal ?_); refine hK26 _ _ ?_
      refine FW.wreg1 ?_
      refine FW.lfun (y := .lit (.pointer (some ⟨bx1, 0, none⟩))) hk rfl rfl rfl rfl (FW.f_move hk (FW.holds_nil _) rfl) ?_; clear hk; intro a w hk
      refine FW.lfun (y := .row (r_ApiChange_cells t6.1)) hk rfl rfl rfl rfl (FW.f_move hk (FW.holds_nil _) rfl) ?_; clear hk; intro a w hk
      obtain ⟨t7, hr_t7, h⟩ := FW.bnd h
      refine FW.l_callH (I1 := (ORecStore.items bx1 b0 xn8 xr5 (⟨(⟨y8_1, y8_2, y8_3, y8_4⟩ : OLogLog), m5, y6_3, y6_4, y6_5⟩ : ORecStore)) ++ (ODevDev.items b0 xd2 xc2 xr3 xd4 xc4 (⟨l2, m3, y1_2, l4, y1_4⟩ : ODevDev))) (I2 := []) (js := [4, 4, 4, 4, 4, 6, 6]) hk rfl rfl rfl rfl rfl Go.Proofs.Tryz.func33 rfl (by kernel_rfl) (rec_Store_do.ok K (⟨(⟨y8_1, y8_2, y8_3, y8_4⟩ : OLogLog), m5, y6_3, y6_4, y6_5⟩ : ORecStore) (⟨l2, m3, y1_2, l4, y1_4⟩ : ODevDev) t6.1 _ hr_t7 bx1 b0 xn8 xr5 xd2 xc2 xr3 xd4 xc4) ?_; clear hk
      rintro _ _ ⟨zb1, zr3, zd5, zc5, zr4, zd6, zc6, rfl, rfl⟩ a w hk
      refine wpList_nil ?_
      (repeat first | refine FW.then_normal ?_ | refine FW.block_normal ?_); refine hK23 _ _ ?_
      refine FW.wreg1 ?_
      refine FW.lfun (y := .lit (.int .i64 (IntKind.wrap .i64 (v82 + 1)))) hk rfl rfl rfl rfl ((FW.f_pure (FW.p_add hk.kn (FW.holds_nil _) rfl rfl))) ?_; clear hk; intro a w hk
      refine FW.lfun (y := .lit (.int .i64 (IntKind.wrap .i64 (v82 + 1)))) hk rfl rfl rfl rfl (FW.f_move hk (FW.holds_nil _) rfl) ?_; clear hk; intro a w hk
      refine wpList_nil ?_
      (repeat first | refine FW.then_normal ?_ | refine FW.block_normal ?_); exact hK20 (kl1, t7.1.l.from_, t7.1.l.to_, t7.1.l.at_, t7.1.l.next, t7.2.steps, t7.2.off, t7.2.sure, t7.2.cache, t7.2.falls, t7.1.half, t7.1.round, t7.1.dead, t7.1.m, v80, v81, (IntKind.wrap .i64 (v82 + 1)), zb1, zd5, zc5, zr4, zd6, zc6, zr3) _ _ (Nat.lt_succ_self _) ⟨(FW.S.pick hk (js := [1, 1, 6, 6, 6, 6, 6]) rfl).sub ⟨rfl, rfl, rfl, rfl, trivial⟩, h⟩
    refine wp_exit ?_; (repeat first | refine FW.then_exit ?_ | refine FW.block_exit_ne rfl ?_); refine FW.block_exit ?_
    (repeat first | refine FW.then_normal ?_ | refine FW.block_normal ?_); refine hK18 _ _ ?_
    refine FW.wreg ?_; intro K' hK31
    refine FW.lfun (y := .lit (.pointer (some ⟨bx1, 0, none⟩))) hk rfl rfl rfl rfl (FW.f_move hk (FW.holds_nil _) rfl) ?_; clear hk; intro a w hk
    refine FW.lfun (y := .lit (.pointer (some ⟨bx1, 0, none⟩))) hk rfl rfl rfl rfl (FW.f_assign hk (FW.holds_nil _) rfl) ?_; clear hk; intro a w hk
    refine FW.lfun (y := .lit (.int .i64 0)) hk rfl rfl rfl rfl (FW.f_assign hk (FW.holds_nil _) rfl) ?_; clear hk; intro a w hk
    refine FW.lend (hK31 _ _ ?_); clear hK31 K'
    refine wp_ret ?_
    (repeat first | refine FW.then_ret ?_ | refine FW.block_ret ?_)
    obtain rfl := Option.some.inj h
    replace hk := FW.S.keep (I1 := [FW.blk bx1 69 ([.lit (.pointer (some ⟨b0, 0, none⟩)), .lit (.pointer (some ⟨xn8, 0, none⟩)), .lit (.map (some xr5)), .lit (.int .i64 y6_3), .lit (.int .u64 y6_4), .lit (.bool y6_5)]), FW.mapI (.int .u64) (Value.int .u64) FW.evS xr5 m5, FW.blk xn8 99 ([.lit (.pointer (some ⟨b0, 0, none⟩)), .lit (.int .i64 y8_1), .lit (.int .i64 y8_2), .lit (.int .i64 y8_3), .lit (.int .u64 y8_4)]), FW.blk b0 75 ([.lit (.slice xd2 (List.length l2) xc2), .lit (.map (some xr3)), .lit (.int .i64 y1_2), .lit (.slice xd4 (List.length l4) xc4), .lit (.bool y1_4)]), FW.orow xd2 xc2 9 1 c_str l2, FW.mapI (.int .i64) (Value.int .i64) FW.evS xr3 m3, FW.orow xd4 xc4 52 3 ApiFall.cells l4]) (I2 := []) (js := [4, 4, 4, 4, 4, 6, 6]) hk rfl
    exact FW.fretH2 hk rfl (FW.rtmp hk rfl) (FW.rtmp hk rfl) ⟨bx1, xn8, xr5, xd2, xc2, xr3, xd4, xc4, rfl, rfl⟩
  · intro K' hK11
    refine FW.wreg ?_; intro K' hK32
    refine FW.lfun (y := .lit (.pointer (some ⟨bx1, 0, none⟩))) hk rfl rfl rfl rfl (FW.f_move hk (FW.holds_nil _) rfl) ?_; clear hk; intro a w hk
    refine FW.lfun (y := .lit (.pointer (some ⟨bx1, 0, none⟩))) hk rfl rfl rfl rfl ((FW.f_pure (FW.p_nilCheck hk.kn (FW.holds_nil _) rfl))) ?_; clear hk; intro a w hk
    refine FW.lfun (y := .lit (.pointer (some ⟨bx1, 4, none⟩))) hk rfl rfl rfl rfl (FW.f_fieldPtr hk (FW.holds_nil _) rfl Go.Proofs.Tryz.underlying69 rfl (by kernel_rfl) rfl) ?_; clear hk; intro a w hk
    refine FW.lfun (y := .lit (.int .u64 t3.2.1)) hk rfl rfl rfl rfl (FW.f_loadBlk1 hk (FW.holds_nil _) (j := 4) rfl rfl Go.Proofs.Tryz.underlying27 rfl rfl) ?_; clear hk; intro a w hk
    refine FW.lfun (y := .lit (.bool (decide (0 < t3.2.1)))) hk rfl rfl rfl rfl ((FW.f_pure (FW.p_gtr hk.kn (FW.holds_nil _) rfl rfl))) ?_; clear hk; intro a w hk
    refine FW.lend (hK32 _ _ ?_); clear hK32 K'
    refine FW.wcondF (b := (decide (0 < t3.2.1))) hk h rfl (fun h hb => ?_) (fun h hb => ?_)
    · skip
      cases h
    refine wp_skip ?_
    (repeat first | refine FW.then_normal ?_ | refine FW.block_normal ?_); exact hK11 _ _ ⟨t3.2.2.2.steps, t3.2.2.2.off, t3.2.2.2.sure, t3.2.2.2.cache, t3.2.2.2.falls, t3.1, t3.2.1, false, 1, zd1, zc1, zr1, zd2, zc2, hk.sub ⟨rfl, rfl, rfl, trivial⟩, h⟩
theorem rec_Store_Dead_nil.ok   (r : Bool) (h : rec_Store_Dead_nil.f = some r) :
    FW.Ok Go.Proofs.Tryz.prog 28 [.lit (.pointer none)] (.lit (.bool r)) := by
  refine FW.enter (xs := [.lit (.pointer none)]) Go.Proofs.Tryz.func28 rfl Go.Proofs.Tryz.ntmps28 rfl ?_
  intro M w0 a hk
  unfold rec_Store_Dead_nil.f at h
  refine FW.wreg ?_; intro K' hK1
  refine FW.lfun (y := .lit (.bool false)) hk rfl rfl rfl rfl (FW.f_assign hk (FW.holds_nil _) rfl) ?_; clear hk; intro a w hk
  refine FW.lend (hK1 _ _ ?_); clear hK1 K'
  refine FW.wreg ?_; intro K' hK2
  refine FW.lfun (y := .lit (.pointer none)) hk rfl rfl rfl rfl (FW.f_move hk (FW.holds_nil _) rfl) ?_; clear hk; intro a w hk
  refine FW.lfun (y := .lit (.bool true)) hk rfl rfl rfl rfl ((FW.f_pure (FW.p_ptrEq Go.Proofs.Tryz.underlying23 hk.kn (FW.holds_nil _) rfl rfl rfl))) ?_; clear hk; intro a w hk
  refine FW.lfun (y := .lit (.bool true)) hk rfl rfl rfl rfl (FW.f_move hk (FW.holds_nil _) rfl) ?_; clear hk; intro a w hk
  refine FW.lfunG (y := .lit (.bool false)) hk rfl rfl rfl rfl rfl rfl rfl rfl (fun hc => (FW.noHold hk.kn rfl rfl hc).elim) ?_; clear hk; intro a w hk
  refine FW.lfunG (y := .lit (.bool false)) hk rfl rfl rfl rfl rfl rfl rfl rfl (fun hc => (FW.noHold hk.kn rfl rfl hc).elim) ?_; clear hk; intro a w hk
  refine FW.lfunG (y := .lit (.bool false)) hk rfl rfl rfl rfl rfl rfl rfl rfl (fun hc => (FW.noHold hk.kn rfl rfl hc).elim) ?_; clear hk; intro a w hk
  refine FW.lfunG (y := .lit (.bool false)) hk rfl rfl rfl rfl rfl rfl rfl rfl (fun hc => (FW.noHold hk.kn rfl rfl hc).elim) ?_; clear hk; intro a w hk
  refine FW.lfun (y := .lit (.bool true)) hk rfl rfl rfl rfl ((FW.f_pure (FW.p_pickT hk.kn (FW.holds_nil _) rfl rfl))) ?_; clear hk; intro a w hk
  refine FW.lfun (y := .lit (.bool true)) hk rfl rfl rfl rfl (FW.f_move hk (FW.holds_nil _) rfl) ?_; clear hk; intro a w hk
  refine FW.lfunG (y := .lit (.bool false)) hk rfl rfl rfl rfl rfl rfl rfl rfl (fun hc => (FW.noHold hk.kn rfl rfl hc).elim) ?_; clear hk; intro a w hk
  refine FW.lfunG (y := .lit (.bool false)) hk rfl rfl rfl rfl rfl rfl rfl rfl (fun hc => (FW.noHold hk.kn rfl rfl hc).elim) ?_; clear hk; intro a w hk
  refine FW.lfunG (y := .lit (.bool false)) hk rfl rfl rfl rfl rfl rfl rfl rfl (fun hc => (FW.noHold hk.kn rfl rfl hc).elim) ?_; clear hk; intro a w hk
  refine FW.lfunG (y := .lit (.bool false)) hk rfl rfl rfl rfl rfl rfl rfl rfl (fun hc => (FW.noHold hk.kn rfl rfl hc).elim) ?_; clear hk; intro a w hk
  refine FW.lfunG (y := .lit (.bool false)) hk rfl rfl rfl rfl rfl rfl rfl rfl (fun hc => (FW.noHold hk.kn rfl rfl hc).elim) ?_; clear hk; intro a w hk
  refine FW.lfun (y := .lit (.bool true)) hk rfl rfl rfl rfl ((FW.f_pure (FW.p_pickT hk.kn (FW.holds_nil _) rfl rfl))) ?_; clear hk; intro a w hk
  refine FW.lfun (y := .lit (.bool true)) hk rfl rfl rfl rfl (FW.f_assign hk (FW.holds_nil _) rfl) ?_; clear hk; intro a w hk
  refine FW.lend (hK2 _ _ ?_); clear hK2 K'
  refine wp_ret ?_
  (repeat first | refine FW.then_ret ?_ | refine FW.block_ret ?_)
  obtain rfl := Option.some.inj h
  exact FW.fret1 hk rfl rfl
theorem rec_Store_Commit_nil.ok (K : Nat) (v1 : List ApiChange) (r : Int) (h : rec_Store_Commit_nil.f K v1 = some r) :
    FW.Ok Go.Proofs.Tryz.prog 10 [.lit (.pointer none), .row (r_ApiChange_cells v1)] (.lit (.int .i64 r)) := by
  refine FW.enter (xs := [.lit (.pointer none), .row (r_ApiChange_cells v1)]) Go.Proofs.Tryz.func10 rfl Go.Proofs.Tryz.ntmps10 rfl ?_
  intro M w0 a hk
  unfold rec_Store_Commit_nil.f at h
  refine FW.wreg ?_; intro K' hK1
  refine FW.lfun (y := .lit (.int .i64 0)) hk rfl rfl rfl rfl (FW.f_assign hk (FW.holds_nil _) rfl) ?_; clear hk; intro a w hk
  refine FW.lend (hK1 _ _ ?_); clear hK1 K'
  refine FW.wseq ?_; intro K' hK2
  refine FW.wreg ?_; intro K' hK3
  refine FW.lfun (y := .lit (.pointer none)) hk rfl rfl rfl rfl (FW.f_move hk (FW.holds_nil _) rfl) ?_; clear hk; intro a w hk
  obtain ⟨t1, hr_t1, h⟩ := FW.bnd h
  refine FW.lfun (y := .lit (.bool t1)) hk rfl rfl rfl rfl (FW.f_call hk (FW.holds_nil _) rfl rfl Go.Proofs.Tryz.func28 rfl (by kernel_rfl) (rec_Store_Dead_nil.ok  _ hr_t1)) ?_; clear hk; intro a w hk
  refine FW.lend (hK3 _ _ ?_); clear hK3 K'
  refine FW.wcondF (b := t1) hk h rfl (fun h hb => ?_) (fun h hb => ?_)
  · skip
    refine FW.wreg ?_; intro K' hK4
    refine FW.lfun (y := .lit (.int .i64 7)) hk rfl rfl rfl rfl (FW.f_assign hk (FW.holds_nil _) rfl) ?_; clear hk; intro a w hk
    refine FW.lend (hK4 _ _ ?_); clear hK4 K'
    refine wp_ret ?_
    (repeat first | refine FW.then_ret ?_ | refine FW.block_ret ?_)
    obtain rfl := Option.some.inj h
    exact FW.fret1 hk rfl rfl
  refine wp_skip ?_
  (repeat first | refine FW.then_normal ?_ | refine FW.block_normal ?_); refine hK2 _ _ ?_
  refine FW.wseq ?_; intro K' hK5
  refine FW.wreg ?_; intro K' hK6
  refine FW.lfun (y := .row (r_ApiChange_cells v1)) hk rfl rfl rfl rfl (FW.f_move hk (FW.holds_nil _) rfl) ?_; clear hk; intro a w hk
  refine FW.lfun (y := .lit (.int .i64 (List.length v1 : Int))) hk rfl rfl rfl rfl (FW.f_len (R := r_ApiChange_cells) (f := ApiChange.cells) (l := v1) r_ApiChange_cells_eq Go.Proofs.Tryz.underlying22 hk (FW.holds_nil _) rfl) ?_; clear hk; intro a w hk
  refine FW.lfun (y := .lit (.bool (decide (3000 < (List.length v1 : Int))))) hk rfl rfl rfl rfl ((FW.f_pure (FW.p_gtr hk.kn (FW.holds_nil _) rfl rfl))) ?_; clear hk; intro a w hk
  refine FW.lend (hK6 _ _ ?_); clear hK6 K'
  refine FW.wcondF (b := (decide (3000 < (List.length v1 : Int)))) hk h rfl (fun h hb => ?_) (fun h hb => ?_)
  · skip
    refine FW.wreg ?_; intro K' hK7
    refine FW.lfun (y := .lit (.int .i64 3)) hk rfl rfl rfl rfl (FW.f_assign hk (FW.holds_nil _) rfl) ?_; clear hk; intro a w hk
    refine FW.lend (hK7 _ _ ?_); clear hK7 K'
    refine wp_ret ?_
    (repeat first | refine FW.then_ret ?_ | refine FW.block_ret ?_)
    obtain rfl := Option.some.inj h
    exact FW.fret1 hk rfl rfl
  refine wp_skip ?_
  (repeat first | refine FW.then_normal ?_ | refine FW.block_normal ?_); refine hK5 _ _ ?_
  refine FW.wseq ?_; intro K' hK8
  refine FW.wreg ?_; intro K' hK9
  refine FW.lfun (y := .row (r_ApiChange_cells v1)) hk rfl rfl rfl rfl (FW.f_move hk (FW.holds_nil _) rfl) ?_; clear hk; intro a w hk
  refine FW.lfun (y := .lit (.int .i64 (List.length v1 : Int))) hk rfl rfl rfl rfl (FW.f_len (R := r_ApiChange_cells) (f := ApiChange.cells) (l := v1) r_ApiChange_cells_eq Go.Proofs.Tryz.underlying22 hk (FW.holds_nil _) rfl) ?_; clear hk; intro a w hk
  refine FW.lfun (y := .lit (.int .i64 0)) hk rfl rfl rfl rfl (FW.f_move hk (FW.holds_nil _) rfl) ?_; clear hk; intro a w hk
  refine FW.lend (hK9 _ _ ?_); clear hK9 K'
  refine wp_block ?_
  refine FW.wloop (T := Nat × List ApiChange × List ApiChange × Int × Int) (fun x a w => match x with | (kl1, v1, v14, v15, v16) => FW.S M w0 a w 58 [] [(0, [], .lit (.pointer none)), (1, [], .row (r_ApiChange_cells v1)), (14, [], .row (r_ApiChange_cells v14)), (15, [], .lit (.int .i64 v15)), (16, [], .lit (.int .i64 v16))] ∧ rec_Store_Commit_nil.l1 K kl1 v1 v14 v15 v16 = some r) (fun x => x.1) (K, v1, v1, (List.length v1 : Int), 0) ⟨hk.sub ⟨rfl, rfl, rfl, rfl, rfl, trivial⟩, h⟩ ?_
  clear hk h
  rintro ⟨kl1, v1, v14, v15, v16⟩ a w ⟨hk, h⟩ K' hK10
  cases kl1 with
  | zero => simp [rec_Store_Commit_nil.l1] at h
  | succ kl1 =>
  rw [rec_Store_Commit_nil.l1.eq_2] at h
  refine FW.wreg ?_; intro K' hK11
  refine FW.lfun (y := .lit (.bool (decide (v16 < v15)))) hk rfl rfl rfl rfl ((FW.f_pure (FW.p_lss hk.kn (FW.holds_nil _) rfl rfl))) ?_; clear hk; intro a w hk
  refine FW.lend (hK11 _ _ ?_); clear hK11 K'
  refine FW.wseq ?_; intro K' hK12
  refine FW.wcondF (b := (decide (v16 < v15))) hk h rfl (fun h hb => ?_) (fun h hb => ?_)
  · skip
    refine wp_skip ?_
    (repeat first | refine FW.then_normal ?_ | refine FW.block_normal ?_); refine hK12 _ _ ?_
    refine FW.wseq ?_; intro K' hK13
    refine wp_block ?_
    refine FW.wreg ?_; intro K' hK14
    obtain ⟨hc1, h⟩ := FW.chk h
    refine FW.lfun (y := .ref (ApiChange.cells (List.getD v14 (Int.toNat v16) default))) hk rfl rfl rfl rfl (FW.f_indexAddr (R := r_ApiChange_cells) (f := ApiChange.cells) (l := v14) (sz := 3) r_ApiChange_cells_eq (fun _ => rfl) hk (FW.holds_nil _) rfl rfl Go.Proofs.Tryz.underlying22 (by kernel_rfl) hc1) ?_; clear hk; intro a w hk
    refine FW.lfun (y := .agg ((ApiChange.cells (List.getD v14 (Int.toNat v16) default)))) hk rfl rfl rfl rfl (FW.f_load hk (FW.holds_nil _) rfl Go.Proofs.Tryz.underlying29 rfl rfl rfl rfl) ?_; clear hk; intro a w hk
    refine FW.l_alloc (zs := (ApiChange.cells (⟨0, [], false⟩ : ApiChange))) [] hk rfl rfl rfl rfl ?_; clear hk; intro bx1 a w hk
    refine FW.l_store (I' := [FW.blk bx1 29 ((ApiChange.cells (List.getD v14 (Int.toNat v16) default)))]) (cs' := (ApiChange.cells (List.getD v14 (Int.toNat v16) default))) (j := 0) hk rfl rfl rfl rfl rfl (by kernel_rfl) rfl rfl ?_; clear hk; intro w hk
    refine FW.lend (hK14 _ _ ?_); clear hK14 K'
    refine FW.wseq ?_; intro K' hK15
    refine FW.wreg ?_; intro K' hK16
    refine FW.lfun (y := .lit (.pointer (some ⟨bx1, 2, none⟩))) hk rfl rfl rfl rfl (FW.f_fieldPtr hk (FW.holds_nil _) rfl Go.Proofs.Tryz.underlying29 rfl (by kernel_rfl) rfl) ?_; clear hk; intro a w hk
    refine FW.lfun (y := .lit (.bool ((List.getD v14 (Int.toNat v16) default).Gone))) hk rfl rfl rfl rfl (FW.f_loadBlk1 hk (FW.holds_nil _) (j := 0) rfl rfl Go.Proofs.Tryz.underlying4 rfl rfl) ?_; clear hk; intro a w hk
    refine FW.lfun (y := .lit (.bool ((List.getD v14 (Int.toNat v16) default).Gone))) hk rfl rfl rfl rfl (FW.f_move hk (FW.holds_nil _) rfl) ?_; clear hk; intro a w hk
    refine FW.lfunG (y := .lit (.pointer (some ⟨bx1, 1, none⟩))) hk rfl rfl rfl rfl rfl rfl rfl rfl (fun hc => FW.f_fieldPtr hk hc rfl Go.Proofs.Tryz.underlying29 rfl (by kernel_rfl) rfl) ?_; clear hk; intro a w hk
    refine FW.lfunG (y := .lit (.string (FW.B ((List.getD v14 (Int.toNat v16) default).S)))) hk rfl rfl rfl rfl rfl rfl rfl rfl (fun hc => FW.f_loadBlk1 hk hc (j := 0) rfl rfl Go.Proofs.Tryz.underlying9 rfl rfl) ?_; clear hk; intro a w hk
    refine FW.lfunG (y := .lit (.bool (!decide (((List.getD v14 (Int.toNat v16) default).S) = ([] : List UInt8))))) hk rfl rfl rfl rfl rfl rfl rfl rfl (fun hc => (FW.f_pure (FW.p_sneq hk.kn hc rfl rfl))) ?_; clear hk; intro a w hk
    refine FW.lfun (y := .lit (.bool (((List.getD v14 (Int.toNat v16) default).Gone) && (!decide (((List.getD v14 (Int.toNat v16) default).S) = ([] : List UInt8)))))) hk rfl rfl rfl rfl ((FW.f_pure (FW.p_pick_and hk.kn (FW.holds_nil _) rfl rfl))) ?_; clear hk; intro a w hk
    refine FW.lend (hK16 _ _ ?_); clear hK16 K'
    refine FW.wcondF (b := (((List.getD v14 (Int.toNat v16) default).Gone) && (!decide (((List.getD v14 (Int.toNat v16) default).S) = ([] : List UInt8))))) hk h rfl (fun h hb => ?_) (fun h hb => ?_)
    · skip
      refine FW.wreg ?_; intro K' hK17
      refine FW.lfun (y := .lit (.int .i64 1)) hk rfl rfl rfl rfl (FW.f_assign hk (FW.holds_nil _) rfl) ?_; clear hk; intro a w hk
      refine FW.lend (hK17 _ _ ?_); clear hK17 K'
      refine wp_ret ?_
      (repeat first | refine FW.then_ret ?_ | refine FW.block_ret ?_)
      obtain rfl := Option.some.inj h
      exact FW.fret1 hk rfl rfl
    refine wp_skip ?_
    (repeat first | refine FW.then_normal ?_ | refine FW.block_normal ?_); refine hK15 _ _ ?_
    refine FW.wreg ?_; intro K' hK18
    refine FW.lfun (y := .lit (.pointer (some ⟨bx1, 1, none⟩))) hk rfl rfl rfl rfl (FW.f_fieldPtr hk (FW.holds_nil _) rfl Go.Proofs.Tryz.underlying29 rfl (by kernel_rfl) rfl) ?_; clear hk; intro a w hk
    refine FW.lfun (y := .lit (.string (FW.B ((List.getD v14 (Int.toNat v16) default).S)))) hk rfl rfl rfl rfl (FW.f_loadBlk1 hk (FW.holds_nil _) (j := 0) rfl rfl Go.Proofs.Tryz.underlying9 rfl rfl) ?_; clear hk; intro a w hk
    refine FW.lfun (y := .lit (.int .i64 (List.length ((List.getD v14 (Int.toNat v16) default).S) : Int))) hk rfl rfl rfl rfl ((FW.f_pure (FW.p_slen Go.Proofs.Tryz.underlying9 hk.kn (FW.holds_nil _) rfl))) ?_; clear hk; intro a w hk
    refine FW.lfun (y := .lit (.bool (decide (498 < (List.length ((List.getD v14 (Int.toNat v16) default).S) : Int))))) hk rfl rfl rfl rfl ((FW.f_pure (FW.p_gtr hk.kn (FW.holds_nil _) rfl rfl))) ?_; clear hk; intro a w hk
    refine FW.lend (hK18 _ _ ?_); clear hK18 K'
    refine FW.wcondF (b := (decide (498 < (List.length ((List.getD v14 (Int.toNat v16) default).S) : Int)))) hk h rfl (fun h hb => ?_) (fun h hb => ?_)
    · skip
      refine FW.wreg ?_; intro K' hK19
      refine FW.lfun (y := .lit (.int .i64 3)) hk rfl rfl rfl rfl (FW.f_assign hk (FW.holds_nil _) rfl) ?_; clear hk; intro a w hk
      refine FW.lend (hK19 _ _ ?_); clear hK19 K'
      refine wp_ret ?_
      (repeat first | refine FW.then_ret ?_ | refine FW.block_ret ?_)
      obtain rfl := Option.some.inj h
      exact FW.fret1 hk rfl rfl
    refine wp_skip ?_
    (repeat first | refine FW.then_normal ?_ | refine FW.block_normal ?_); refine hK13 _ _ ?_
    refine FW.wreg1 ?_
    refine FW.lfun (y := .lit (.int .i64 (IntKind.wrap .i64 (v16 + 1)))) hk rfl rfl rfl rfl ((FW.f_pure (FW.p_add hk.kn (FW.holds_nil _) rfl rfl))) ?_; clear hk; intro a w hk
    refine FW.lfun (y := .lit (.int .i64 (IntKind.wrap .i64 (v16 + 1)))) hk rfl rfl rfl rfl (FW.f_move hk (FW.holds_nil _) rfl) ?_; clear hk; intro a w hk
    refine wpList_nil ?_
    (repeat first | refine FW.then_normal ?_ | refine FW.block_normal ?_); exact hK10 (kl1, v1, v14, v15, (IntKind.wrap .i64 (v16 + 1))) _ _ (Nat.lt_succ_self _) ⟨(hk.drop 0).sub ⟨rfl, rfl, rfl, rfl, rfl, trivial⟩, h⟩
  cases h
theorem rec_Store_IDs_nil.ok   (r : List Int) (h : rec_Store_IDs_nil.f = some r) :
    FW.Ok Go.Proofs.Tryz.prog 29 [.lit (.pointer none)] (.row (r_c_u64 r)) := by
  refine FW.enter (xs := [.lit (.pointer none)]) Go.Proofs.Tryz.func29 rfl Go.Proofs.Tryz.ntmps29 rfl ?_
  intro M w0 a hk
  unfold rec_Store_IDs_nil.f at h
  refine FW.wreg ?_; intro K' hK1
  refine FW.lfun (y := .row (r_c_u64 [])) hk rfl rfl rfl rfl (FW.f_assignNil) ?_; clear hk; intro a w hk
  refine FW.lend (hK1 _ _ ?_); clear hK1 K'
  refine FW.wseq ?_; intro K' hK2
  refine FW.wreg ?_; intro K' hK3
  refine FW.lfun (y := .lit (.pointer none)) hk rfl rfl rfl rfl (FW.f_move hk (FW.holds_nil _) rfl) ?_; clear hk; intro a w hk
  refine FW.lfun (y := .lit (.bool true)) hk rfl rfl rfl rfl ((FW.f_pure (FW.p_ptrEq Go.Proofs.Tryz.underlying23 hk.kn (FW.holds_nil _) rfl rfl rfl))) ?_; clear hk; intro a w hk
  refine FW.lend (hK3 _ _ ?_); clear hK3 K'
  refine FW.wcondT hk rfl ?_
  refine FW.wreg ?_; intro K' hK4
  refine FW.lfun (y := .row (r_c_u64 [])) hk rfl rfl rfl rfl (FW.f_assignNil) ?_; clear hk; intro a w hk
  refine FW.lend (hK4 _ _ ?_); clear hK4 K'
  refine wp_ret ?_
  (repeat first | refine FW.then_ret ?_ | refine FW.block_ret ?_)
  obtain rfl := Option.some.inj h
  exact FW.fret1 hk rfl rfl
theorem rec_Store_Round_nil.ok   (r : Int) (h : rec_Store_Round_nil.f = some r) :
    FW.Ok Go.Proofs.Tryz.prog 22 [.lit (.pointer none)] (.lit (.int .u64 r)) := by
  refine FW.enter (xs := [.lit (.pointer none)]) Go.Proofs.Tryz.func22 rfl Go.Proofs.Tryz.ntmps22 rfl ?_
  intro M w0 a hk
  unfold rec_Store_Round_nil.f at h
  refine FW.wreg ?_; intro K' hK1
  refine FW.lfun (y := .lit (.int .u64 0)) hk rfl rfl rfl rfl (FW.f_assign hk (FW.holds_nil _) rfl) ?_; clear hk; intro a w hk
  refine FW.lend (hK1 _ _ ?_); clear hK1 K'
  refine FW.wseq ?_; intro K' hK2
  refine FW.wreg ?_; intro K' hK3
  refine FW.lfun (y := .lit (.pointer none)) hk rfl rfl rfl rfl (FW.f_move hk (FW.holds_nil _) rfl) ?_; clear hk; intro a w hk
  refine FW.lfun (y := .lit (.bool true)) hk rfl rfl rfl rfl ((FW.f_pure (FW.p_ptrEq Go.Proofs.Tryz.underlying23 hk.kn (FW.holds_nil _) rfl rfl rfl))) ?_; clear hk; intro a w hk
  refine FW.lend (hK3 _ _ ?_); clear hK3 K'
  refine FW.wcondT hk rfl ?_
  refine FW.wreg ?_; intro K' hK4
  refine FW.lfun (y := .lit (.int .u64 0)) hk rfl rfl rfl rfl (FW.f_assign hk (FW.holds_nil _) rfl) ?_; clear hk; intro a w hk
  refine FW.lend (hK4 _ _ ?_); clear hK4 K'
  refine wp_ret ?_
  (repeat first | refine FW.then_ret ?_ | refine FW.block_ret ?_)
  obtain rfl := Option.some.inj h
  exact FW.fret1 hk rfl rfl
end Go.Proofs.YtfbkgaandmebaaaGreat
namespace Go.Proofs.YtfbkgaandmebaaaGreat
set_option linter.unusedVariables false
set_option maxRecDepth 20000
set_option maxHeartbeats 10000000
theorem offshootlaw06_RecNone.ok (K : Nat) (v0 : Int) (v1 : ApiChange) (r : Bool) (h : offshootlaw06_RecNone.f K v0 v1 = some r) :
    FW.Ok Go.Proofs.Tryz.prog 8 [.lit (.int .i64 v0), .agg (ApiChange.cells v1)] (.lit (.bool r)) := by
  refine FW.enter (xs := [.lit (.int .i64 v0), .agg (ApiChange.cells v1)]) Go.Proofs.Tryz.func8 rfl Go.Proofs.Tryz.ntmps8 rfl ?_
  intro M w0 a hk
  unfold offshootlaw06_RecNone.f at h
  refine FW.wreg ?_; intro K' hK1
  refine FW.l_box (cs := (ApiChange.cells v1)) hk rfl rfl rfl rfl rfl ?_; clear hk; intro bx1 a w hk
  refine FW.lfun (y := .lit (.bool false)) hk rfl rfl rfl rfl (FW.f_assign hk (FW.holds_nil _) rfl) ?_; clear hk; intro a w hk
  refine FW.lend (hK1 _ _ ?_); clear hK1 K'
  refine FW.wseq ?_; intro K' hK2
  refine FW.wreg ?_; intro K' hK3
  obtain ⟨t1, hr_t1, h⟩ := FW.bnd h
  refine FW.lfun (y := .lit (.bool t1)) hk rfl rfl rfl rfl (FW.f_call hk (FW.holds_nil _) rfl rfl Go.Proofs.Tryz.func12 rfl (by kernel_rfl) (offshootlaw06_awake.ok K  _ hr_t1)) ?_; clear hk; intro a w hk
  refine FW.lfun (y := .lit (.bool (!t1))) hk rfl rfl rfl rfl ((FW.f_pure (FW.p_not hk.kn (FW.holds_nil _) rfl))) ?_; clear hk; intro a w hk
  refine FW.lend (hK3 _ _ ?_); clear hK3 K'
  refine FW.wcondF (b := (!t1)) hk h rfl (fun h hb => ?_) (fun h hb => ?_)
  · skip
    refine FW.wreg ?_; intro K' hK4
    refine FW.lfun (y := .lit (.bool false)) hk rfl rfl rfl rfl (FW.f_assign hk (FW.holds_nil _) rfl) ?_; clear hk; intro a w hk
    refine FW.lend (hK4 _ _ ?_); clear hK4 K'
    refine wp_ret ?_
    (repeat first | refine FW.then_ret ?_ | refine FW.block_ret ?_)
    obtain rfl := Option.some.inj h
    exact FW.fret1 hk rfl rfl
  refine wp_skip ?_
  (repeat first | refine FW.then_normal ?_ | refine FW.block_normal ?_); refine hK2 _ _ ?_
  refine FW.wreg ?_; intro K' hK5
  refine FW.lfun (y := .lit (.pointer none)) hk rfl rfl rfl rfl (FW.f_assign hk (FW.holds_nil _) rfl) ?_; clear hk; intro a w hk
  refine FW.lend (hK5 _ _ ?_); clear hK5 K'
  refine FW.wreg ?_; intro K' hK6
  refine FW.lfun (y := .lit (.pointer none)) hk rfl rfl rfl rfl (FW.f_move hk (FW.holds_nil _) rfl) ?_; clear hk; intro a w hk
  refine FW.lfun (y := .lit (.pointer (some ⟨bx1, 0, none⟩))) hk rfl rfl rfl rfl (FW.f_fieldPtr hk (FW.holds_nil _) rfl Go.Proofs.Tryz.underlying29 rfl (by kernel_rfl) rfl) ?_; clear hk; intro a w hk
  refine FW.lfun (y := .lit (.int .u64 v1.ID)) hk rfl rfl rfl rfl (FW.f_loadBlk1 hk (FW.holds_nil _) (j := 0) rfl rfl Go.Proofs.Tryz.underlying27 rfl rfl) ?_; clear hk; intro a w hk
  obtain ⟨t2, hr_t2, h⟩ := FW.bnd h
  refine FW.lfun (y := .tup [.lit (.string (FW.B t2.1)), .lit (.bool t2.2)]) hk rfl rfl rfl rfl (FW.f_call hk (FW.holds_nil _) rfl rfl Go.Proofs.Tryz.func11 rfl (by kernel_rfl) (rec_Store_Get_nil.ok v1.ID _ hr_t2)) ?_; clear hk; intro a w hk
  refine FW.lfun (y := .tup [.lit (.string (FW.B t2.1)), .lit (.bool t2.2)]) hk rfl rfl rfl rfl (FW.f_move hk (FW.holds_nil _) rfl) ?_; clear hk; intro a w hk
  refine FW.lfun (y := .lit (.string (FW.B t2.1))) hk rfl rfl rfl rfl (FW.f_extract hk (FW.holds_nil _) rfl rfl) ?_; clear hk; intro a w hk
  refine FW.lfun (y := .lit (.bool t2.2)) hk rfl rfl rfl rfl (FW.f_extract hk (FW.holds_nil _) rfl rfl) ?_; clear hk; intro a w hk
  refine FW.lfun (y := .lit (.string (FW.B t2.1))) hk rfl rfl rfl rfl (FW.f_assign hk (FW.holds_nil _) rfl) ?_; clear hk; intro a w hk
  refine FW.lfun (y := .lit (.bool t2.2)) hk rfl rfl rfl rfl (FW.f_assign hk (FW.holds_nil _) rfl) ?_; clear hk; intro a w hk
  refine FW.lend (hK6 _ _ ?_); clear hK6 K'
  obtain ⟨t3, hr_t3, h⟩ := FW.bnd h
  obtain ⟨t4, hr_t4, h⟩ := FW.bnd h
  refine FW.wdraw (by kernel_rfl) (by kernel_rfl) hk ?_; clear hk
  refine FW.dfun (y := .lit (.pointer none)) rfl rfl rfl rfl (fun a w hk => FW.f_move hk (FW.holds_nil _) rfl) ?_
  refine FW.dfun (y := .lit (.func (.func 34) #[] #[])) rfl rfl rfl rfl (fun a w hk => FW.f_call hk (FW.holds_nil _) rfl rfl Go.Proofs.Tryz.func17 rfl (by kernel_rfl) (rec_Store_Snap_nil.ok  _ hr_t3)) ?_
  refine FW.dfun (y := .lit (.pointer (some ⟨bx1, 0, none⟩))) rfl rfl rfl rfl (fun a w hk => FW.f_fieldPtr hk (FW.holds_nil _) rfl Go.Proofs.Tryz.underlying29 rfl (by kernel_rfl) rfl) ?_
  refine FW.dfun (y := .lit (.int .u64 v1.ID)) rfl rfl rfl rfl (fun a w hk => FW.f_loadBlk1 hk (FW.holds_nil _) (j := 0) rfl rfl Go.Proofs.Tryz.underlying27 rfl rfl) ?_
  refine FW.dfun (y := .tup [.lit (.string (FW.B t4.1)), .lit (.bool t4.2)]) rfl rfl rfl rfl (fun a w hk => FW.f_call hk (FW.holds_nil _) rfl rfl Go.Proofs.Tryz.func34 rfl (by kernel_rfl) (rec_Store_Snap_1.ok v1.ID _ hr_t4)) ?_
  refine FW.dfun (y := .tup [.lit (.string (FW.B t4.1)), .lit (.bool t4.2)]) rfl rfl rfl rfl (fun a w hk => FW.f_move hk (FW.holds_nil _) rfl) ?_
  refine FW.dfun (y := .lit (.string (FW.B t4.1))) rfl rfl rfl rfl (fun a w hk => FW.f_extract hk (FW.holds_nil _) rfl rfl) ?_
  refine FW.dfun (y := .lit (.bool t4.2)) rfl rfl rfl rfl (fun a w hk => FW.f_extract hk (FW.holds_nil _) rfl rfl) ?_
  refine FW.dfun (y := .lit (.string (FW.B t4.1))) rfl rfl rfl rfl (fun a w hk => FW.f_assign hk (FW.holds_nil _) rfl) ?_
  refine FW.dfun (y := .lit (.bool t4.2)) rfl rfl rfl rfl (fun a w hk => FW.f_assign hk (FW.holds_nil _) rfl) ?_
  refine FW.dend ?_; intro a w hk
  refine FW.wreg ?_; intro K' hK8
  obtain ⟨t5, hr_t5, h⟩ := FW.bnd h
  refine FW.l_callH (I1 := ([] : List FW.It)) (I2 := [FW.blk bx1 29 ((ApiChange.cells v1))]) (js := []) hk rfl rfl rfl rfl rfl Go.Proofs.Tryz.func19 rfl (by kernel_rfl) (rec_Open_nil_opt.ok K  _ hr_t5 ) ?_; clear hk
  rintro _ _ ⟨bx2, xbNt5_0_1, xrNt5_0_2, rfl, rfl⟩ a w hk
  replace hk := FW.S.dropL hk
  refine FW.lfun (y := .tup [FW.ptrO t5.1 bx2, .lit (.int .i64 t5.2)]) hk rfl rfl rfl rfl (FW.f_move hk (FW.holds_nil _) rfl) ?_; clear hk; intro a w hk
  refine FW.lfun (y := FW.ptrO t5.1 bx2) hk rfl rfl rfl rfl (FW.f_extract hk (FW.holds_nil _) rfl rfl) ?_; clear hk; intro a w hk
  refine FW.lfun (y := .lit (.int .i64 t5.2)) hk rfl rfl rfl rfl (FW.f_extract hk (FW.holds_nil _) rfl rfl) ?_; clear hk; intro a w hk
  refine FW.lfun (y := FW.ptrO t5.1 bx2) hk rfl rfl rfl rfl (FW.f_assign hk (FW.holds_nil _) rfl) ?_; clear hk; intro a w hk
  refine FW.lfun (y := .lit (.int .i64 t5.2)) hk rfl rfl rfl rfl (FW.f_assign hk (FW.holds_nil _) rfl) ?_; clear hk; intro a w hk
  refine FW.lend (hK8 _ _ ?_); clear hK8 K'
  refine FW.wreg ?_; intro K' hK9
  refine FW.lfun (y := .lit (.int .i64 v0)) hk rfl rfl rfl rfl (FW.f_move hk (FW.holds_nil _) rfl) ?_; clear hk; intro a w hk
  refine FW.lfun (y := .lit (.int .i64 (FW.andI .i64 v0 31))) hk rfl rfl rfl rfl ((FW.f_pure (FW.p_and hk.kn (FW.holds_nil _) rfl rfl))) ?_; clear hk; intro a w hk
  refine FW.lfun (y := .lit (.int .i64 (FW.andI .i64 v0 31))) hk rfl rfl rfl rfl (FW.f_assign hk (FW.holds_nil _) rfl) ?_; clear hk; intro a w hk
  refine FW.lend (hK9 _ _ ?_); clear hK9 K'
  refine FW.wreg ?_; intro K' hK10
  refine FW.lfun (y := .lit (.int .i64 (FW.andI .i64 v0 31))) hk rfl rfl rfl rfl (FW.f_move hk (FW.holds_nil _) rfl) ?_; clear hk; intro a w hk
  obtain ⟨t6, hr_t6, h⟩ := FW.bnd h
  refine FW.l_callH (I1 := ([] : List FW.It)) (I2 := [FW.blk bx1 29 ((ApiChange.cells v1))]) (js := []) hk rfl rfl rfl rfl rfl Go.Proofs.Tryz.func27 rfl (by kernel_rfl) (dev_New.ok K (FW.andI .i64 v0 31) _ hr_t6 ) ?_; clear hk
  rintro _ _ ⟨bx3, xdNt6_0_0, xcNt6_0_0, xrNt6_0_1, xdNt6_0_3, xcNt6_0_3, rfl, rfl⟩ a w hk
  refine FW.lfun (y := .tup [.lit (.pointer (some ⟨bx3, 0, none⟩)), .lit (.int .i64 t6.2)]) hk rfl rfl rfl rfl (FW.f_move hk (FW.holds_nil _) rfl) ?_; clear hk; intro a w hk
  refine FW.lfun (y := .lit (.pointer (some ⟨bx3, 0, none⟩))) hk rfl rfl rfl rfl (FW.f_extract hk (FW.holds_nil _) rfl rfl) ?_; clear hk; intro a w hk
  refine FW.lfun (y := .lit (.int .i64 t6.2)) hk rfl rfl rfl rfl (FW.f_extract hk (FW.holds_nil _) rfl rfl) ?_; clear hk; intro a w hk
  refine FW.lfun (y := .lit (.pointer (some ⟨bx3, 0, none⟩))) hk rfl rfl rfl rfl (FW.f_assign hk (FW.holds_nil _) rfl) ?_; clear hk; intro a w hk
  refine FW.lfun (y := .lit (.int .i64 t6.2)) hk rfl rfl rfl rfl (FW.f_assign hk (FW.holds_nil _) rfl) ?_; clear hk; intro a w hk
  refine FW.lend (hK10 _ _ ?_); clear hK10 K'
  refine FW.wreg ?_; intro K' hK11
  refine FW.lfun (y := .lit (.pointer (some ⟨bx3, 0, none⟩))) hk rfl rfl rfl rfl (FW.f_move hk (FW.holds_nil _) rfl) ?_; clear hk; intro a w hk
  obtain ⟨t7, hr_t7, h⟩ := FW.bnd h
  refine FW.l_callH (I1 := (ODevDev.items bx3 xdNt6_0_0 xcNt6_0_0 xrNt6_0_1 xdNt6_0_3 xcNt6_0_3 t6.1)) (I2 := [FW.blk bx1 29 ((ApiChange.cells v1))]) (js := [3, 3, 3, 3]) hk rfl rfl rfl rfl rfl Go.Proofs.Tryz.func19 rfl (by kernel_rfl) (rec_Open_opt.ok K t6.1 _ hr_t7 bx3 xdNt6_0_0 xcNt6_0_0 xrNt6_0_1 xdNt6_0_3 xcNt6_0_3) ?_; clear hk
  rintro _ _ ⟨bx4, xbNt7_0_1, xrNt7_0_2, zd1, zc1, zr1, zd2, zc2, rfl, rfl⟩ a w hk
  replace hk := FW.S.dropL2 hk
  refine FW.lfun (y := .tup [FW.ptrO t7.1 bx4, .lit (.int .i64 t7.2.1)]) hk rfl rfl rfl rfl (FW.f_move hk (FW.holds_nil _) rfl) ?_; clear hk; intro a w hk
  refine FW.lfun (y := FW.ptrO t7.1 bx4) hk rfl rfl rfl rfl (FW.f_extract hk (FW.holds_nil _) rfl rfl) ?_; clear hk; intro a w hk
  refine FW.lfun (y := .lit (.int .i64 t7.2.1)) hk rfl rfl rfl rfl (FW.f_extract hk (FW.holds_nil _) rfl rfl) ?_; clear hk; intro a w hk
  refine FW.lfun (y := FW.ptrO t7.1 bx4) hk rfl rfl rfl rfl (FW.f_assign hk (FW.holds_nil _) rfl) ?_; clear hk; intro a w hk
  refine FW.lfun (y := .lit (.int .i64 t7.2.1)) hk rfl rfl rfl rfl (FW.f_assign hk (FW.holds_nil _) rfl) ?_; clear hk; intro a w hk
  refine FW.lend (hK11 _ _ ?_); clear hK11 K'
  refine FW.wreg ?_; intro K' hK12
  obtain ⟨t8, hr_t8, h⟩ := FW.bnd h
  refine FW.l_callH (I1 := ([] : List FW.It)) (I2 := [FW.blk bx3 75 ([.lit (.slice zd1 (List.length t7.2.2.sure) zc1), .lit (.map (some zr1)), .lit (.int .i64 t7.2.2.steps), .lit (.slice zd2 (List.length t7.2.2.falls) zc2), .lit (.bool t7.2.2.off)]), FW.orow zd1 zc1 9 1 c_str t7.2.2.sure, FW.mapI (.int .i64) (Value.int .i64) FW.evS zr1 t7.2.2.cache, FW.orow zd2 zc2 52 3 ApiFall.cells t7.2.2.falls, FW.blk bx1 29 ((ApiChange.cells v1))]) (js := []) hk rfl rfl rfl rfl rfl Go.Proofs.Tryz.func9 rfl (by kernel_rfl) (offshootlaw06_open.ok K 20 _ hr_t8 ) ?_; clear hk
  rintro _ _ ⟨bx6, xbNt8_0_1, xrNt8_0_2, bx5, xdNt8_1_0, xcNt8_1_0, xrNt8_1_1, xdNt8_1_3, xcNt8_1_3, rfl, rfl⟩ a w hk
  refine FW.lfun (y := .tup [.lit (.pointer (some ⟨bx6, 0, none⟩)), .lit (.pointer (some ⟨bx5, 0, none⟩)), .lit (.bool t8.2.2)]) hk rfl rfl rfl rfl (FW.f_move hk (FW.holds_nil _) rfl) ?_; clear hk; intro a w hk
  refine FW.lfun (y := .lit (.pointer (some ⟨bx6, 0, none⟩))) hk rfl rfl rfl rfl (FW.f_extract hk (FW.holds_nil _) rfl rfl) ?_; clear hk; intro a w hk
  refine FW.lfun (y := .lit (.pointer (some ⟨bx5, 0, none⟩))) hk rfl rfl rfl rfl (FW.f_extract hk (FW.holds_nil _) rfl rfl) ?_; clear hk; intro a w hk
  refine FW.lfun (y := .lit (.bool t8.2.2)) hk rfl rfl rfl rfl (FW.f_extract hk (FW.holds_nil _) rfl rfl) ?_; clear hk; intro a w hk
  refine FW.lfun (y := .lit (.pointer (some ⟨bx6, 0, none⟩))) hk rfl rfl rfl rfl (FW.f_assign hk (FW.holds_nil _) rfl) ?_; clear hk; intro a w hk
  refine FW.lfun (y := .lit (.pointer (some ⟨bx5, 0, none⟩))) hk rfl rfl rfl rfl (FW.f_assign hk (FW.holds_nil _) rfl) ?_; clear hk; intro a w hk
  refine FW.lfun (y := .lit (.bool t8.2.2)) hk rfl rfl rfl rfl (FW.f_assign hk (FW.holds_nil _) rfl) ?_; clear hk; intro a w hk
  refine FW.lend (hK12 _ _ ?_); clear hK12 K'
  refine FW.wreg ?_; intro K' hK13
  refine FW.lfun (y := .lit (.pointer (some ⟨bx5, 0, none⟩))) hk rfl rfl rfl rfl (FW.f_move hk (FW.holds_nil _) rfl) ?_; clear hk; intro a w hk
  obtain ⟨t9, hr_t9, h⟩ := FW.bnd h
  refine FW.l_callH (I1 := (ODevDev.items bx5 xdNt8_1_0 xcNt8_1_0 xrNt8_1_1 xdNt8_1_3 xcNt8_1_3 t8.2.1)) (I2 := [FW.blk bx6 69 ([.lit (.pointer (some ⟨bx5, 0, none⟩)), .lit (.pointer (some ⟨xbNt8_0_1, 0, none⟩)), .lit (.map (some xrNt8_0_2)), .lit (.int .i64 t8.1.half), .lit (.int .u64 t8.1.round), .lit (.bool t8.1.dead)]), FW.mapI (.int .u64) (Value.int .u64) FW.evS xrNt8_0_2 t8.1.m, FW.blk xbNt8_0_1 99 ([.lit (.pointer (some ⟨bx5, 0, none⟩)), .lit (.int .i64 t8.1.l.from_), .lit (.int .i64 t8.1.l.to_), .lit (.int .i64 t8.1.l.at_), .lit (.int .u64 t8.1.l.next)]), FW.blk bx3 75 ([.lit (.slice zd1 (List.length t7.2.2.sure) zc1), .lit (.map (some zr1)), .lit (.int .i64 t7.2.2.steps), .lit (.slice zd2 (List.length t7.2.2.falls) zc2), .lit (.bool t7.2.2.off)]), FW.orow zd1 zc1 9 1 c_str t7.2.2.sure, FW.mapI (.int .i64) (Value.int .i64) FW.evS zr1 t7.2.2.cache, FW.orow zd2 zc2 52 3 ApiFall.cells t7.2.2.falls, FW.blk bx1 29 ((ApiChange.cells v1))]) (js := [6, 6, 6, 6]) hk rfl rfl rfl rfl rfl Go.Proofs.Tryz.func26 rfl (by kernel_rfl) (dev_Dev_Crash.ok K t8.2.1 0 0 _ hr_t9 bx5 xdNt8_1_0 xcNt8_1_0 xrNt8_1_1 xdNt8_1_3 xcNt8_1_3) ?_; clear hk
  rintro _ _ ⟨zd3, zc3, zr2, zd4, zc4, rfl, rfl⟩ a w hk
  refine FW.lend (hK13 _ _ ?_); clear hK13 K'
  refine FW.wreg ?_; intro K' hK14
  refine FW.lfun (y := .lit (.pointer (some ⟨bx6, 0, none⟩))) hk rfl rfl rfl rfl (FW.f_move hk (FW.holds_nil _) rfl) ?_; clear hk; intro a w hk
  obtain ⟨t10, hr_t10, h⟩ := FW.bnd h
  refine FW.l_callH (I1 := (ORecStore.items bx6 bx5 xbNt8_0_1 xrNt8_0_2 t8.1) ++ (ODevDev.items bx5 zd3 zc3 zr2 zd4 zc4 t9)) (I2 := [FW.blk bx3 75 ([.lit (.slice zd1 (List.length t7.2.2.sure) zc1), .lit (.map (some zr1)), .lit (.int .i64 t7.2.2.steps), .lit (.slice zd2 (List.length t7.2.2.falls) zc2), .lit (.bool t7.2.2.off)]), FW.orow zd1 zc1 9 1 c_str t7.2.2.sure, FW.mapI (.int .i64) (Value.int .i64) FW.evS zr1 t7.2.2.cache, FW.orow zd2 zc2 52 3 ApiFall.cells t7.2.2.falls, FW.blk bx1 29 ((ApiChange.cells v1))]) (js := [3, 3, 3, 3, 6, 6, 6]) hk rfl rfl rfl rfl rfl Go.Proofs.Tryz.func10 rfl (by kernel_rfl) (FW.OkH.nil1 (rec_Store_Commit.ok K t8.1 t9 [] _ hr_t10 bx6 bx5 xbNt8_0_1 xrNt8_0_2 zd3 zc3 zr2 zd4 zc4)) ?_; clear hk
  rintro _ _ ⟨zb1, zr3, zd5, zc5, zr4, zd6, zc6, rfl, rfl⟩ a w hk
  refine FW.lfun (y := .lit (.int .i64 t10.1)) hk rfl rfl rfl rfl (FW.f_assign hk (FW.holds_nil _) rfl) ?_; clear hk; intro a w hk
  refine FW.lend (hK14 _ _ ?_); clear hK14 K'
  refine FW.wreg ?_; intro K' hK15
  refine FW.lfun (y := .lit (.pointer (some ⟨bx5, 0, none⟩))) hk rfl rfl rfl rfl (FW.f_move hk (FW.holds_nil _) rfl) ?_; clear hk; intro a w hk
  obtain ⟨t11, hr_t11, h⟩ := FW.bnd h
  refine FW.l_callH (I1 := (ODevDev.items bx5 zd5 zc5 zr4 zd6 zc6 t10.2.2)) (I2 := [FW.blk bx6 69 ([.lit (.pointer (some ⟨bx5, 0, none⟩)), .lit (.pointer (some ⟨zb1, 0, none⟩)), .lit (.map (some zr3)), .lit (.int .i64 t10.2.1.half), .lit (.int .u64 t10.2.1.round), .lit (.bool t10.2.1.dead)]), FW.mapI (.int .u64) (Value.int .u64) FW.evS zr3 t10.2.1.m, FW.blk zb1 99 ([.lit (.pointer (some ⟨bx5, 0, none⟩)), .lit (.int .i64 t10.2.1.l.from_), .lit (.int .i64 t10.2.1.l.to_), .lit (.int .i64 t10.2.1.l.at_), .lit (.int .u64 t10.2.1.l.next)]), FW.blk bx3 75 ([.lit (.slice zd1 (List.length t7.2.2.sure) zc1), .lit (.map (some zr1)), .lit (.int .i64 t7.2.2.steps), .lit (.slice zd2 (List.length t7.2.2.falls) zc2), .lit (.bool t7.2.2.off)]), FW.orow zd1 zc1 9 1 c_str t7.2.2.sure, FW.mapI (.int .i64) (Value.int .i64) FW.evS zr1 t7.2.2.cache, FW.orow zd2 zc2 52 3 ApiFall.cells t7.2.2.falls, FW.blk bx1 29 ((ApiChange.cells v1))]) (js := [6, 6, 6, 6]) hk rfl rfl rfl rfl rfl Go.Proofs.Tryz.func19 rfl (by kernel_rfl) (rec_Open_opt.ok K t10.2.2 _ hr_t11 bx5 zd5 zc5 zr4 zd6 zc6) ?_; clear hk
  rintro _ _ ⟨bx7, xbNt11_0_1, xrNt11_0_2, zd7, zc7, zr5, zd8, zc8, rfl, rfl⟩ a w hk
  replace hk := FW.S.dropL2 hk
  refine FW.lfun (y := .tup [FW.ptrO t11.1 bx7, .lit (.int .i64 t11.2.1)]) hk rfl rfl rfl rfl (FW.f_move hk (FW.holds_nil _) rfl) ?_; clear hk; intro a w hk
  refine FW.lfun (y := FW.ptrO t11.1 bx7) hk rfl rfl rfl rfl (FW.f_extract hk (FW.holds_nil _) rfl rfl) ?_; clear hk; intro a w hk
  refine FW.lfun (y := .lit (.int .i64 t11.2.1)) hk rfl rfl rfl rfl (FW.f_extract hk (FW.holds_nil _) rfl rfl) ?_; clear hk; intro a w hk
  refine FW.lfun (y := FW.ptrO t11.1 bx7) hk rfl rfl rfl rfl (FW.f_assign hk (FW.holds_nil _) rfl) ?_; clear hk; intro a w hk
  refine FW.lfun (y := .lit (.int .i64 t11.2.1)) hk rfl rfl rfl rfl (FW.f_assign hk (FW.holds_nil _) rfl) ?_; clear hk; intro a w hk
  refine FW.lend (hK15 _ _ ?_); clear hK15 K'
  refine FW.wreg ?_; intro K' hK16
  refine FW.lfun (y := .lit (.pointer (some ⟨bx5, 0, none⟩))) hk rfl rfl rfl rfl (FW.f_move hk (FW.holds_nil _) rfl) ?_; clear hk; intro a w hk
  obtain ⟨t12, hr_t12, h⟩ := FW.bnd h
  refine FW.l_callH (I1 := (ODevDev.items bx5 zd7 zc7 zr5 zd8 zc8 t11.2.2)) (I2 := [FW.blk bx6 69 ([.lit (.pointer (some ⟨bx5, 0, none⟩)), .lit (.pointer (some ⟨zb1, 0, none⟩)), .lit (.map (some zr3)), .lit (.int .i64 t10.2.1.half), .lit (.int .u64 t10.2.1.round), .lit (.bool t10.2.1.dead)]), FW.mapI (.int .u64) (Value.int .u64) FW.evS zr3 t10.2.1.m, FW.blk zb1 99 ([.lit (.pointer (some ⟨bx5, 0, none⟩)), .lit (.int .i64 t10.2.1.l.from_), .lit (.int .i64 t10.2.1.l.to_), .lit (.int .i64 t10.2.1.l.at_), .lit (.int .u64 t10.2.1.l.next)]), FW.blk bx3 75 ([.lit (.slice zd1 (List.length t7.2.2.sure) zc1), .lit (.map (some zr1)), .lit (.int .i64 t7.2.2.steps), .lit (.slice zd2 (List.length t7.2.2.falls) zc2), .lit (.bool t7.2.2.off)]), FW.orow zd1 zc1 9 1 c_str t7.2.2.sure, FW.mapI (.int .i64) (Value.int .i64) FW.evS zr1 t7.2.2.cache, FW.orow zd2 zc2 52 3 ApiFall.cells t7.2.2.falls, FW.blk bx1 29 ((ApiChange.cells v1))]) (js := [3, 3, 3, 3]) hk rfl rfl rfl rfl rfl Go.Proofs.Tryz.func25 rfl (by kernel_rfl) (dev_Dev_Up.ok t11.2.2 _ hr_t12 bx5 zd7 zc7 zr5 zd8 zc8) ?_; clear hk
  rintro _ _ ⟨zd9, zc9, zr6, zd10, zc10, rfl, rfl⟩ a w hk
  refine FW.lend (hK16 _ _ ?_); clear hK16 K'
  refine FW.wreg ?_; intro K' hK17
  obtain ⟨t13, hr_t13, h⟩ := FW.bnd h
  refine FW.lfun (y := .lit (.bool t13)) hk rfl rfl rfl rfl (FW.f_call hk (FW.holds_nil _) rfl rfl Go.Proofs.Tryz.func12 rfl (by kernel_rfl) (offshootlaw06_awake.ok K  _ hr_t13)) ?_; clear hk; intro a w hk
  refine FW.lfun (y := .lit (.bool t13)) hk rfl rfl rfl rfl (FW.f_move hk (FW.holds_nil _) rfl) ?_; clear hk; intro a w hk
  refine FW.lfunG (y := .lit (.bool t8.2.2)) hk rfl rfl rfl rfl rfl rfl rfl rfl (fun hc => FW.f_move hk hc rfl) ?_; clear hk; intro a w hk
  refine FW.lfun (y := .lit (.bool (t13 && t8.2.2))) hk rfl rfl rfl rfl ((FW.f_pure (FW.p_pick_and hk.kn (FW.holds_nil _) rfl rfl))) ?_; clear hk; intro a w hk
  refine FW.lfun (y := .lit (.bool (t13 && t8.2.2))) hk rfl rfl rfl rfl (FW.f_move hk (FW.holds_nil _) rfl) ?_; clear hk; intro a w hk
  refine FW.lfunG (y := .lit (.bool t2.2)) hk rfl rfl rfl rfl rfl rfl rfl rfl (fun hc => FW.f_move hk hc rfl) ?_; clear hk; intro a w hk
  refine FW.lfunG (y := .lit (.bool (!t2.2))) hk rfl rfl rfl rfl rfl rfl rfl rfl (fun hc => (FW.f_pure (FW.p_not hk.kn hc rfl))) ?_; clear hk; intro a w hk
  refine FW.lfun (y := .lit (.bool ((t13 && t8.2.2) && (!t2.2)))) hk rfl rfl rfl rfl ((FW.f_pure (FW.p_pick_and hk.kn (FW.holds_nil _) rfl rfl))) ?_; clear hk; intro a w hk
  refine FW.lfun (y := .lit (.bool ((t13 && t8.2.2) && (!t2.2)))) hk rfl rfl rfl rfl (FW.f_move hk (FW.holds_nil _) rfl) ?_; clear hk; intro a w hk
  refine FW.lfunG (y := .lit (.bool t4.2)) hk rfl rfl rfl rfl rfl rfl rfl rfl (fun hc => FW.f_move hk hc rfl) ?_; clear hk; intro a w hk
  refine FW.lfunG (y := .lit (.bool (!t4.2))) hk rfl rfl rfl rfl rfl rfl rfl rfl (fun hc => (FW.f_pure (FW.p_not hk.kn hc rfl))) ?_; clear hk; intro a w hk
  refine FW.lfun (y := .lit (.bool (((t13 && t8.2.2) && (!t2.2)) && (!t4.2)))) hk rfl rfl rfl rfl ((FW.f_pure (FW.p_pick_and hk.kn (FW.holds_nil _) rfl rfl))) ?_; clear hk; intro a w hk
  refine FW.lfun (y := .lit (.bool (((t13 && t8.2.2) && (!t2.2)) && (!t4.2)))) hk rfl rfl rfl rfl (FW.f_move hk (FW.holds_nil _) rfl) ?_; clear hk; intro a w hk
  refine FW.lfunG (y := .lit (.pointer none)) hk rfl rfl rfl rfl rfl rfl rfl rfl (fun hc => FW.f_move hk hc rfl) ?_; clear hk; intro a w hk
  obtain ⟨t14, hr_t14, h⟩ := FW.bndG h
  refine FW.lfunG (y := .lit (.int .i64 t14)) hk rfl rfl rfl rfl rfl rfl rfl rfl (fun hc => FW.f_call hk hc rfl rfl Go.Proofs.Tryz.func10 rfl (by kernel_rfl) (FW.Ok.nil1 (rec_Store_Commit_nil.ok K [] _ (hr_t14 (FW.asm_out (p := (((t13 && t8.2.2) && (!t2.2)) && (!t4.2)) = true) hk.kn hc (fun e0 => e0)))))) ?_; clear hk; intro a w hk
  refine FW.lfunG (y := .lit (.bool (decide (t14 = 7)))) hk rfl rfl rfl rfl rfl rfl rfl rfl (fun hc => (FW.f_pure (FW.p_eql hk.kn hc rfl rfl))) ?_; clear hk; intro a w hk
  refine FW.lfun (y := .lit (.bool ((((t13 && t8.2.2) && (!t2.2)) && (!t4.2)) && (decide (t14 = 7))))) hk rfl rfl rfl rfl ((FW.f_pure (FW.p_pick_and hk.kn (FW.holds_nil _) rfl rfl))) ?_; clear hk; intro a w hk
  refine FW.lfun (y := .lit (.bool ((((t13 && t8.2.2) && (!t2.2)) && (!t4.2)) && (decide (t14 = 7))))) hk rfl rfl rfl rfl (FW.f_move hk (FW.holds_nil _) rfl) ?_; clear hk; intro a w hk
  refine FW.lfunG (y := .lit (.pointer none)) hk rfl rfl rfl rfl rfl rfl rfl rfl (fun hc => FW.f_move hk hc rfl) ?_; clear hk; intro a w hk
  obtain ⟨t15, hr_t15, h⟩ := FW.bndG h
  refine FW.lfunG (y := .lit (.bool t15)) hk rfl rfl rfl rfl rfl rfl rfl rfl (fun hc => FW.f_call hk hc rfl rfl Go.Proofs.Tryz.func28 rfl (by kernel_rfl) (rec_Store_Dead_nil.ok  _ (hr_t15 (FW.asm_out (p := ((((t13 && t8.2.2) && (!t2.2)) && (!t4.2)) && (decide (t14 = 7))) = true) hk.kn hc (fun e0 => e0))))) ?_; clear hk; intro a w hk
  refine FW.lfun (y := .lit (.bool (((((t13 && t8.2.2) && (!t2.2)) && (!t4.2)) && (decide (t14 = 7))) && t15))) hk rfl rfl rfl rfl ((FW.f_pure (FW.p_pick_and hk.kn (FW.holds_nil _) rfl rfl))) ?_; clear hk; intro a w hk
  refine FW.lfun (y := .lit (.bool (((((t13 && t8.2.2) && (!t2.2)) && (!t4.2)) && (decide (t14 = 7))) && t15))) hk rfl rfl rfl rfl (FW.f_move hk (FW.holds_nil _) rfl) ?_; clear hk; intro a w hk
  refine FW.lfunG (y := .lit (.pointer none)) hk rfl rfl rfl rfl rfl rfl rfl rfl (fun hc => FW.f_move hk hc rfl) ?_; clear hk; intro a w hk
  obtain ⟨t16, hr_t16, h⟩ := FW.bndG h
  refine FW.lfunG (y := .row (r_c_u64 t16)) hk rfl rfl rfl rfl rfl rfl rfl rfl (fun hc => FW.f_call hk hc rfl rfl Go.Proofs.Tryz.func29 rfl (by kernel_rfl) (rec_Store_IDs_nil.ok  _ (hr_t16 (FW.asm_out (p := (((((t13 && t8.2.2) && (!t2.2)) && (!t4.2)) && (decide (t14 = 7))) && t15) = true) hk.kn hc (fun e0 => e0))))) ?_; clear hk; intro a w hk
  refine FW.lfunG (y := .lit (.int .i64 (List.length t16 : Int))) hk rfl rfl rfl rfl rfl rfl rfl rfl (fun hc => FW.f_len (R := r_c_u64) (f := c_u64) (l := t16) r_c_u64_eq Go.Proofs.Tryz.underlying62 hk hc rfl) ?_; clear hk; intro a w hk
  refine FW.lfunG (y := .lit (.bool (decide ((List.length t16 : Int) = 0)))) hk rfl rfl rfl rfl rfl rfl rfl rfl (fun hc => (FW.f_pure (FW.p_eql hk.kn hc rfl rfl))) ?_; clear hk; intro a w hk
  refine FW.lfun (y := .lit (.bool ((((((t13 && t8.2.2) && (!t2.2)) && (!t4.2)) && (decide (t14 = 7))) && t15) && (decide ((List.length t16 : Int) = 0))))) hk rfl rfl rfl rfl ((FW.f_pure (FW.p_pick_and hk.kn (FW.holds_nil _) rfl rfl))) ?_; clear hk; intro a w hk
  refine FW.lfun (y := .lit (.bool ((((((t13 && t8.2.2) && (!t2.2)) && (!t4.2)) && (decide (t14 = 7))) && t15) && (decide ((List.length t16 : Int) = 0))))) hk rfl rfl rfl rfl (FW.f_move hk (FW.holds_nil _) rfl) ?_; clear hk; intro a w hk
  refine FW.lfunG (y := .lit (.pointer none)) hk rfl rfl rfl rfl rfl rfl rfl rfl (fun hc => FW.f_move hk hc rfl) ?_; clear hk; intro a w hk
  obtain ⟨t17, hr_t17, h⟩ := FW.bndG h
  refine FW.lfunG (y := .lit (.int .u64 t17)) hk rfl rfl rfl rfl rfl rfl rfl rfl (fun hc => FW.f_call hk hc rfl rfl Go.Proofs.Tryz.func22 rfl (by kernel_rfl) (rec_Store_Round_nil.ok  _ (hr_t17 (FW.asm_out (p := ((((((t13 && t8.2.2) && (!t2.2)) && (!t4.2)) && (decide (t14 = 7))) && t15) && (decide ((List.length t16 : Int) = 0))) = true) hk.kn hc (fun e0 => e0))))) ?_; clear hk; intro a w hk
  refine FW.lfunG (y := .lit (.bool (decide (t17 = 0)))) hk rfl rfl rfl rfl rfl rfl rfl rfl (fun hc => (FW.f_pure (FW.p_eql hk.kn hc rfl rfl))) ?_; clear hk; intro a w hk
  refine FW.lfun (y := .lit (.bool (((((((t13 && t8.2.2) && (!t2.2)) && (!t4.2)) && (decide (t14 = 7))) && t15) && (decide ((List.length t16 : Int) = 0))) && (decide (t17 = 0))))) hk rfl rfl rfl rfl ((FW.f_pure (FW.p_pick_and hk.kn (FW.holds_nil _) rfl rfl))) ?_; clear hk; intro a w hk
  refine FW.lfun (y := .lit (.bool (((((((t13 && t8.2.2) && (!t2.2)) && (!t4.2)) && (decide (t14 = 7))) && t15) && (decide ((List.length t16 : Int) = 0))) && (decide (t17 = 0))))) hk rfl rfl rfl rfl (FW.f_move hk (FW.holds_nil _) rfl) ?_; clear hk; intro a w hk
  refine FW.lfunG (y := .lit (.int .i64 t5.2)) hk rfl rfl rfl rfl rfl rfl rfl rfl (fun hc => FW.f_move hk hc rfl) ?_; clear hk; intro a w hk
  refine FW.lfunG (y := .lit (.bool (decide (t5.2 = 1)))) hk rfl rfl rfl rfl rfl rfl rfl rfl (fun hc => (FW.f_pure (FW.p_eql hk.kn hc rfl rfl))) ?_; clear hk; intro a w hk
  refine FW.lfun (y := .lit (.bool ((((((((t13 && t8.2.2) && (!t2.2)) && (!t4.2)) && (decide (t14 = 7))) && t15) && (decide ((List.length t16 : Int) = 0))) && (decide (t17 = 0))) && (decide (t5.2 = 1))))) hk rfl rfl rfl rfl ((FW.f_pure (FW.p_pick_and hk.kn (FW.holds_nil _) rfl rfl))) ?_; clear hk; intro a w hk
  refine FW.lfun (y := .lit (.bool ((((((((t13 && t8.2.2) && (!t2.2)) && (!t4.2)) && (decide (t14 = 7))) && t15) && (decide ((List.length t16 : Int) = 0))) && (decide (t17 = 0))) && (decide (t5.2 = 1))))) hk rfl rfl rfl rfl (FW.f_move hk (FW.holds_nil _) rfl) ?_; clear hk; intro a w hk
  refine FW.lfunG (y := .lit (.int .i64 t6.2)) hk rfl rfl rfl rfl rfl rfl rfl rfl (fun hc => FW.f_move hk hc rfl) ?_; clear hk; intro a w hk
  refine FW.lfunG (y := .lit (.bool (decide (t6.2 = 0)))) hk rfl rfl rfl rfl rfl rfl rfl rfl (fun hc => (FW.f_pure (FW.p_eql hk.kn hc rfl rfl))) ?_; clear hk; intro a w hk
  refine FW.lfun (y := .lit (.bool (((((((((t13 && t8.2.2) && (!t2.2)) && (!t4.2)) && (decide (t14 = 7))) && t15) && (decide ((List.length t16 : Int) = 0))) && (decide (t17 = 0))) && (decide (t5.2 = 1))) && (decide (t6.2 = 0))))) hk rfl rfl rfl rfl ((FW.f_pure (FW.p_pick_and hk.kn (FW.holds_nil _) rfl rfl))) ?_; clear hk; intro a w hk
  refine FW.lfun (y := .lit (.bool (((((((((t13 && t8.2.2) && (!t2.2)) && (!t4.2)) && (decide (t14 = 7))) && t15) && (decide ((List.length t16 : Int) = 0))) && (decide (t17 = 0))) && (decide (t5.2 = 1))) && (decide (t6.2 = 0))))) hk rfl rfl rfl rfl (FW.f_move hk (FW.holds_nil _) rfl) ?_; clear hk; intro a w hk
  refine FW.lfunG (y := .lit (.int .i64 t7.2.1)) hk rfl rfl rfl rfl rfl rfl rfl rfl (fun hc => FW.f_move hk hc rfl) ?_; clear hk; intro a w hk
  refine FW.lfunG (y := .lit (.bool (decide (t7.2.1 = 0)))) hk rfl rfl rfl rfl rfl rfl rfl rfl (fun hc => (FW.f_pure (FW.p_eql hk.kn hc rfl rfl))) ?_; clear hk; intro a w hk
  refine FW.lfunG (y := .lit (.int .i64 (FW.andI .i64 v0 31))) hk rfl rfl rfl rfl rfl rfl rfl rfl (fun hc => FW.f_move hk hc rfl) ?_; clear hk; intro a w hk
  refine FW.lfunG (y := .lit (.bool (decide (16 ≤ (FW.andI .i64 v0 31))))) hk rfl rfl rfl rfl rfl rfl rfl rfl (fun hc => (FW.f_pure (FW.p_geq hk.kn hc rfl rfl))) ?_; clear hk; intro a w hk
  refine FW.lfunG (y := .lit (.bool ((decide (t7.2.1 = 0)) == (decide (16 ≤ (FW.andI .i64 v0 31)))))) hk rfl rfl rfl rfl rfl rfl rfl rfl (fun hc => (FW.f_pure (FW.p_beql Go.Proofs.Tryz.underlying4 hk.kn hc rfl rfl))) ?_; clear hk; intro a w hk
  refine FW.lfun (y := .lit (.bool ((((((((((t13 && t8.2.2) && (!t2.2)) && (!t4.2)) && (decide (t14 = 7))) && t15) && (decide ((List.length t16 : Int) = 0))) && (decide (t17 = 0))) && (decide (t5.2 = 1))) && (decide (t6.2 = 0))) && ((decide (t7.2.1 = 0)) == (decide (16 ≤ (FW.andI .i64 v0 31))))))) hk rfl rfl rfl rfl ((FW.f_pure (FW.p_pick_and hk.kn (FW.holds_nil _) rfl rfl))) ?_; clear hk; intro a w hk
  refine FW.lfun (y := .lit (.bool ((((((((((t13 && t8.2.2) && (!t2.2)) && (!t4.2)) && (decide (t14 = 7))) && t15) && (decide ((List.length t16 : Int) = 0))) && (decide (t17 = 0))) && (decide (t5.2 = 1))) && (decide (t6.2 = 0))) && ((decide (t7.2.1 = 0)) == (decide (16 ≤ (FW.andI .i64 v0 31))))))) hk rfl rfl rfl rfl (FW.f_move hk (FW.holds_nil _) rfl) ?_; clear hk; intro a w hk
  refine FW.lfunG (y := .lit (.int .i64 t7.2.1)) hk rfl rfl rfl rfl rfl rfl rfl rfl (fun hc => FW.f_move hk hc rfl) ?_; clear hk; intro a w hk
  refine FW.lfunG (y := .lit (.bool (decide (t7.2.1 = 0)))) hk rfl rfl rfl rfl rfl rfl rfl rfl (fun hc => (FW.f_pure (FW.p_eql hk.kn hc rfl rfl))) ?_; clear hk; intro a w hk
  refine FW.lfunG (y := .lit (.bool (decide (t7.2.1 = 0)))) hk rfl rfl rfl rfl rfl rfl rfl rfl (fun hc => FW.f_move hk hc rfl) ?_; clear hk; intro a w hk
  refine FW.lfunG (y := .lit (.int .i64 t7.2.1)) hk rfl rfl rfl rfl rfl rfl rfl rfl (fun hc => FW.f_move hk hc rfl) ?_; clear hk; intro a w hk
  refine FW.lfunG (y := .lit (.bool (decide (t7.2.1 = 1)))) hk rfl rfl rfl rfl rfl rfl rfl rfl (fun hc => (FW.f_pure (FW.p_eql hk.kn hc rfl rfl))) ?_; clear hk; intro a w hk
  refine FW.lfunG (y := .lit (.bool ((decide (t7.2.1 = 0)) || (decide (t7.2.1 = 1))))) hk rfl rfl rfl rfl rfl rfl rfl rfl (fun hc => (FW.f_pure (FW.p_pick_or hk.kn hc rfl rfl))) ?_; clear hk; intro a w hk
  refine FW.lfun (y := .lit (.bool (((((((((((t13 && t8.2.2) && (!t2.2)) && (!t4.2)) && (decide (t14 = 7))) && t15) && (decide ((List.length t16 : Int) = 0))) && (decide (t17 = 0))) && (decide (t5.2 = 1))) && (decide (t6.2 = 0))) && ((decide (t7.2.1 = 0)) == (decide (16 ≤ (FW.andI .i64 v0 31))))) && ((decide (t7.2.1 = 0)) || (decide (t7.2.1 = 1)))))) hk rfl rfl rfl rfl ((FW.f_pure (FW.p_pick_and hk.kn (FW.holds_nil _) rfl rfl))) ?_; clear hk; intro a w hk
  refine FW.lfun (y := .lit (.bool (((((((((((t13 && t8.2.2) && (!t2.2)) && (!t4.2)) && (decide (t14 = 7))) && t15) && (decide ((List.length t16 : Int) = 0))) && (decide (t17 = 0))) && (decide (t5.2 = 1))) && (decide (t6.2 = 0))) && ((decide (t7.2.1 = 0)) == (decide (16 ≤ (FW.andI .i64 v0 31))))) && ((decide (t7.2.1 = 0)) || (decide (t7.2.1 = 1)))))) hk rfl rfl rfl rfl (FW.f_move hk (FW.holds_nil _) rfl) ?_; clear hk; intro a w hk
  refine FW.lfunG (y := .lit (.int .i64 t10.1)) hk rfl rfl rfl rfl rfl rfl rfl rfl (fun hc => FW.f_move hk hc rfl) ?_; clear hk; intro a w hk
  refine FW.lfunG (y := .lit (.bool (decide (t10.1 = 7)))) hk rfl rfl rfl rfl rfl rfl rfl rfl (fun hc => (FW.f_pure (FW.p_eql hk.kn hc rfl rfl))) ?_; clear hk; intro a w hk
  refine FW.lfun (y := .lit (.bool ((((((((((((t13 && t8.2.2) && (!t2.2)) && (!t4.2)) && (decide (t14 = 7))) && t15) && (decide ((List.length t16 : Int) = 0))) && (decide (t17 = 0))) && (decide (t5.2 = 1))) && (decide (t6.2 = 0))) && ((decide (t7.2.1 = 0)) == (decide (16 ≤ (FW.andI .i64 v0 31))))) && ((decide (t7.2.1 = 0)) || (decide (t7.2.1 = 1)))) && (decide (t10.1 = 7))))) hk rfl rfl rfl rfl ((FW.f_pure (FW.p_pick_and hk.kn (FW.holds_nil _) rfl rfl))) ?_; clear hk; intro a w hk
  refine FW.lfun (y := .lit (.bool ((((((((((((t13 && t8.2.2) && (!t2.2)) && (!t4.2)) && (decide (t14 = 7))) && t15) && (decide ((List.length t16 : Int) = 0))) && (decide (t17 = 0))) && (decide (t5.2 = 1))) && (decide (t6.2 = 0))) && ((decide (t7.2.1 = 0)) == (decide (16 ≤ (FW.andI .i64 v0 31))))) && ((decide (t7.2.1 = 0)) || (decide (t7.2.1 = 1)))) && (decide (t10.1 = 7))))) hk rfl rfl rfl rfl (FW.f_move hk (FW.holds_nil _) rfl) ?_; clear hk; intro a w hk
  refine FW.lfunG (y := .lit (.int .i64 t11.2.1)) hk rfl rfl rfl rfl rfl rfl rfl rfl (fun hc => FW.f_move hk hc rfl) ?_; clear hk; intro a w hk
  refine FW.lfunG (y := .lit (.bool (decide (t11.2.1 = 7)))) hk rfl rfl rfl rfl rfl rfl rfl rfl (fun hc => (FW.f_pure (FW.p_eql hk.kn hc rfl rfl))) ?_; clear hk; intro a w hk
  refine FW.lfun (y := .lit (.bool (((((((((((((t13 && t8.2.2) && (!t2.2)) && (!t4.2)) && (decide (t14 = 7))) && t15) && (decide ((List.length t16 : Int) = 0))) && (decide (t17 = 0))) && (decide (t5.2 = 1))) && (decide (t6.2 = 0))) && ((decide (t7.2.1 = 0)) == (decide (16 ≤ (FW.andI .i64 v0 31))))) && ((decide (t7.2.1 = 0)) || (decide (t7.2.1 = 1)))) && (decide (t10.1 = 7))) && (decide (t11.2.1 = 7))))) hk rfl rfl rfl rfl ((FW.f_pure (FW.p_pick_and hk.kn (FW.holds_nil _) rfl rfl))) ?_; clear hk; intro a w hk
  refine FW.lfun (y := .lit (.bool (((((((((((((t13 && t8.2.2) && (!t2.2)) && (!t4.2)) && (decide (t14 = 7))) && t15) && (decide ((List.length t16 : Int) = 0))) && (decide (t17 = 0))) && (decide (t5.2 = 1))) && (decide (t6.2 = 0))) && ((decide (t7.2.1 = 0)) == (decide (16 ≤ (FW.andI .i64 v0 31))))) && ((decide (t7.2.1 = 0)) || (decide (t7.2.1 = 1)))) && (decide (t10.1 = 7))) && (decide (t11.2.1 = 7))))) hk rfl rfl rfl rfl (FW.f_assign hk (FW.holds_nil _) rfl) ?_; clear hk; intro a w hk
  refine FW.lend (hK17 _ _ ?_); clear hK17 K'
  refine wp_ret ?_
  (repeat first | refine FW.then_ret ?_ | refine FW.block_ret ?_)
  obtain rfl := Option.some.inj h
  exact FW.fret1 hk rfl rfl
end Go.Proofs.YtfbkgaandmebaaaGreat
namespace Go.Proofs.YtfbkgaandmebaaaGreat
set_option linter.unusedVariables false
set_option maxHeartbeats 1000000
def Sat {α : Type} (x : Option α) (P : α → Prop) : Prop := ∃ r, x = some r ∧ P r
section
variable {α β : Type} {x : Option α} {P Q : α → Prop}
theorem Sat.some {r : α} (h : P r) : Sat (some r) P := ⟨r, rfl, h⟩
theorem Sat.mono (h : Sat x P) (h' : ∀ r, P r → Q r) : Sat x Q := let ⟨r, h1, h2⟩ := h; ⟨r, h1, h' r h2⟩
theorem Sat.chk {p : Prop} [Decidable p] (hp : p) (h : Sat x P) : Sat (if p then x else none) P := by rw [if_pos hp]; exact h
theorem Sat.ite {b : Bool} {y : Option α} (h1 : b = true → Sat x P) (h2 : b = false → Sat y P) : Sat (if b = true then x else y) P := by
  cases b with
  | true => rw [if_pos rfl]; exact h1 rfl
  | false => rw [if_neg (by simp)]; exact h2 rfl
theorem Sat.bind {F : β → Option α} {y : Option β} {R : β → Prop} (h : Sat y R) (h' : ∀ r, R r → Sat (F r) P) : Sat (Option.bind y F) P := by
  obtain ⟨r, rfl, hr⟩ := h
  exact h' r hr
theorem Sat.bindE {F : β → Option α} {y : Option β} {r : β} (h : y = Option.some r) (h' : Sat (F r) P) : Sat (Option.bind y F) P := by subst h; exact h'
theorem Sat.get {r : α} (h : Sat x (fun y => y = r)) : x = Option.some r := by obtain ⟨y, h1, rfl⟩ := h; exact h1
end
theorem W_in {x : Int} (h0 : -9223372036854775808 ≤ x) (h1 : x ≤ 9223372036854775807) : IntKind.wrap .i64 x = x := IntWalk.i64_in x ⟨h0, h1⟩
abbrev Sec := List UInt8
def KD : Nat := 1000000
theorem mput_mem {m : List (Int × Sec)} {k : Int} {v : Sec} {p : Int × Sec} (h : p ∈ FW.mput m k v) : p ∈ m ∨ p = (k, v) := by
  unfold FW.mput at h
  split at h
  · obtain ⟨q, hq, hqp⟩ := List.mem_map.1 h
    by_cases e : q.1 = k
    · rw [if_pos e] at hqp
      rw [← hqp, e]; exact .inr rfl
    · rw [if_neg e] at hqp
      rw [← hqp]; exact .inl hq
  · rcases List.mem_append.1 h with h | h
    · exact .inl h
    · simp only [List.mem_cons, List.not_mem_nil, or_false] at h
      exact .inr h
theorem mput_self (m : List (Int × Sec)) (k : Int) (v : Sec) : (k, v) ∈ FW.mput m k v := by
  unfold FW.mput
  split
  · rename_i h
    rw [List.any_eq_true] at h
    obtain ⟨q, hq, he⟩ := h
    have he' : q.1 = k := by simpa using he
    exact List.mem_map.2 ⟨q, hq, by rw [if_pos he', he']⟩
  · exact List.mem_append_right _ (by simp)
theorem mput_nd {m : List (Int × Sec)} (h : (m.map (·.1)).Nodup) (k : Int) (v : Sec) : ((FW.mput m k v).map (·.1)).Nodup := by
  unfold FW.mput
  split
  · have e : (m.map fun p => if p.1 = k then (p.1, v) else p).map (·.1) = m.map (·.1) := by
      rw [List.map_map]
      refine List.map_congr_left fun p _ => ?_
      by_cases e : p.1 = k <;> simp [e]
    rw [e]; exact h
  · rename_i hn
    rw [List.map_append, List.nodup_append]
    refine ⟨h, by simp, ?_⟩
    intro a ha b hb hab
    simp only [List.map_cons, List.map_nil, List.mem_cons, List.not_mem_nil, or_false] at hb
    obtain ⟨p, hp, rfl⟩ := List.mem_map.1 ha
    apply hn
    rw [List.any_eq_true]
    exact ⟨p, hp, by simpa using hab.trans hb⟩
theorem mput_len (m : List (Int × Sec)) (k : Int) (v : Sec) : (FW.mput m k v).length ≤ m.length + 1 := by
  unfold FW.mput
  split <;> simp
theorem mget_mem {m : List (Int × Sec)} (h : (m.map (·.1)).Nodup) {p : Int × Sec} (hp : p ∈ m) : FW.mget m p.1 = some p.2 := by
  obtain ⟨j, hj⟩ := List.mem_iff_getElem?.1 hp
  exact FW.mget_at h hj
theorem flushS_len (m : List (Int × Sec)) : ∀ sure : List Sec, (flushS sure m).length = sure.length := by
  unfold flushS
  induction m with
  | nil => intro s; rfl
  | cons p m ih => intro s; rw [List.foldl_cons, ih, List.length_set]
theorem flushS_all (m : List (Int × Sec)) : ∀ sure : List Sec, (∀ s ∈ sure, s.length = 128) → (∀ p ∈ m, p.2.length = 128) → ∀ s ∈ flushS sure m, s.length = 128 := by
  unfold flushS
  induction m with
  | nil => intro s h _; exact h
  | cons p m ih =>
    intro s h h2
    rw [List.foldl_cons]
    refine ih _ (fun x hx => ?_) fun q hq => h2 q (List.mem_cons_of_mem _ hq)
    rcases List.mem_or_eq_of_mem_set hx with hx | rfl
    · exact h x hx
    · exact h2 p List.mem_cons_self
theorem flushS_other (m : List (Int × Sec)) (i : Nat) : ∀ sure : List Sec, (∀ p ∈ m, p.1.toNat ≠ i) → (flushS sure m)[i]? = sure[i]? := by
  unfold flushS
  induction m with
  | nil => intro s _; rfl
  | cons p m ih =>
    intro s h
    rw [List.foldl_cons, ih _ (fun q hq => h q (List.mem_cons_of_mem _ hq)), List.getElem?_set_ne (h p List.mem_cons_self)]
theorem flushS_at (m : List (Int × Sec)) (k : Int) (v : Sec) (hk : 0 ≤ k) : ∀ sure : List Sec, (m.map (·.1)).Nodup → (∀ p ∈ m, 0 ≤ p.1) → (k, v) ∈ m → k.toNat < sure.length → (flushS sure m)[k.toNat]? = some v := by
  induction m with
  | nil => intro s _ _ h; cases h
  | cons p m ih =>
    intro s hn hp hm hl
    rw [List.map_cons, List.nodup_cons] at hn
    have e : flushS s (p :: m) = flushS (s.set p.1.toNat p.2) m := rfl
    rw [e]
    rcases List.mem_cons.1 hm with rfl | hm
    · rw [flushS_other m _ _ fun q hq heq => hn.1 (List.mem_map.2 ⟨q, hq, ?_⟩), List.getElem?_set_self hl]
      have h1 := hp q (List.mem_cons_of_mem _ hq)
      show q.1 = k
      have h2 : q.1.toNat = k.toNat := heq
      omega
    · exact ih _ hn.2 (fun q hq => hp q (List.mem_cons_of_mem _ hq)) hm (by simpa using hl)
theorem sortK_mem {m : List (Int × Sec)} {x : Int} : x ∈ FW.sortK m ↔ ∃ p ∈ m, p.1 = x := by
  unfold FW.sortK
  rw [(List.mergeSort_perm _ _).mem_iff, List.mem_map]
structure Dv (n : Nat) (sure : List Sec) (m : List (Int × Sec)) : Prop where
  len : sure.length = n
  secs : ∀ s ∈ sure, s.length = 128
  keys : ∀ p ∈ m, 0 ≤ p.1 ∧ p.1 < (n : Int) ∧ p.2.length = 128
  nd : (m.map (·.1)).Nodup
theorem dv_put {n : Nat} {sure : List Sec} {m : List (Int × Sec)} (h : Dv n sure m) {i : Int} (h0 : 0 ≤ i) (h1 : i < (n : Int)) {s : Sec} (hs : s.length = 128) : Dv n sure (FW.mput m i s) :=
  ⟨h.len, h.secs, fun p hp => by
    rcases mput_mem hp with hp | rfl
    · exact h.keys p hp
    · exact ⟨h0, h1, hs⟩, mput_nd h.nd i s⟩
theorem dv_flush {n : Nat} {sure : List Sec} {m : List (Int × Sec)} (h : Dv n sure m) : Dv n (flushS sure m) [] :=
  ⟨(flushS_len m sure).trans h.len, flushS_all m sure h.secs fun p hp => (h.keys p hp).2.2, by simp, by simp⟩
theorem mget_none {m : List (Int × Sec)} {k : Int} (h : ∀ p ∈ m, p.1 ≠ k) : FW.mget m k = none := by
  unfold FW.mget
  rw [Option.map_eq_none_iff, List.find?_eq_none]
  intro p hp; simpa using h p hp
end Go.Proofs.YtfbkgaandmebaaaGreat
namespace Go.Proofs.YtfbkgaandmebaaaGreat
set_option linter.unusedVariables false
set_option maxHeartbeats 1000000
def clipT (torn : Int) : Int := if (128 : Int) < (if torn < 0 then 0 else torn) then 128 else (if torn < 0 then 0 else torn)
theorem clipT_in (torn : Int) : 0 ≤ clipT torn ∧ clipT torn ≤ 128 := by
  unfold clipT
  split <;> split <;> omega
section
variable {K n : Nat} {d : ODevDev}
theorem off_eq (d : ODevDev) : dev_Dev_Off.f d = some d.off := rfl
theorem idx_eq (hK : 3 ≤ K) (hf : d.falls.length ≤ 1) : slices_IndexFunc_api_Fall_api_Fall_of_dev_Dev_step_1.f K ⟨⟩ d = some (if (d.falls.head?.map fun f => decide (f.At = d.steps)) = some true then 0 else -1) := by
  obtain ⟨k, rfl⟩ : ∃ k, K = k + 2 := ⟨K - 2, by omega⟩
  unfold slices_IndexFunc_api_Fall_api_Fall_of_dev_Dev_step_1.f
  obtain ⟨sure, cache, steps, falls, off⟩ := d
  match falls, hf with
  | [], _ => rw [slices_IndexFunc_api_Fall_api_Fall_of_dev_Dev_step_1.l1]; simp
  | [f], _ =>
    rw [slices_IndexFunc_api_Fall_api_Fall_of_dev_Dev_step_1.l1]
    by_cases h : f.At = steps
    · simp [dev_Dev_step_1.f, h]
    · rw [if_pos (by simp), if_pos (by simp)]
      simp only [dev_Dev_step_1.f, Option.bind_some]
      rw [if_neg (by simp [h]), slices_IndexFunc_api_Fall_api_Fall_of_dev_Dev_step_1.l1, W_in (by omega) (by omega), if_neg (by simp), if_neg (by simp [h])]
end
end Go.Proofs.YtfbkgaandmebaaaGreat
namespace Go.Proofs.YtfbkgaandmebaaaGreat
set_option linter.unusedVariables false
set_option maxHeartbeats 1000000
structure Torn (sure : List Sec) (C : List (Int × Sec)) (S : List Sec) : Prop where
  other : ∀ q : Nat, (∀ p ∈ C, p.1.toNat ≠ q) → S[q]? = sure[q]?
  at_ : ∀ p ∈ C, ∃ t, t ≤ 128 ∧ S[p.1.toNat]? = some (p.2.take t ++ (sure.getD p.1.toNat []).drop t)
theorem ctorn_l1 (K : Nat) (n : Nat) (hn : n ≤ 65536) (d : ODevDev) (L : List Int) (hL : L.length ≤ 2000) (hx : ∀ x ∈ L, 0 ≤ x ∧ x < (n : Int) ∧ ∃ s, FW.mget d.cache x = some s ∧ s.length = 128) (hnd : L.Nodup) (st : Int) (off : Bool) (keep : Int) (U : List Sec) (hU : ∀ s ∈ U, s.length = 128) (hUl : U.length = n) :
    ∀ (k : Nat) (i : Nat) (sure : List Sec) (torn : Int), sure.length = n → (∀ s ∈ sure, s.length = 128) → i ≤ L.length → L.length - i < k → (∀ x ∈ L.drop i, sure[x.toNat]? = U[x.toNat]?) →
      ∃ S : List Sec, S.length = n ∧ (∀ s ∈ S, s.length = 128) ∧ dev_Dev_Crash.l1 K d k st off sure keep torn L (L.length : Int) (i : Int) = some ⟨S, [], st, d.falls, true⟩ ∧
        (∀ q : Nat, (∀ x ∈ L.drop i, x.toNat ≠ q) → S[q]? = sure[q]?) ∧ ∀ x ∈ L.drop i, ∃ t, t ≤ 128 ∧ S[x.toNat]? = some (((FW.mget d.cache x).getD []).take t ++ (U.getD x.toNat []).drop t) := by
  intro k
  induction k with
  | zero => intro i sure torn h0 h1 h2 h3; omega
  | succ k ih =>
    intro i sure torn h0 h1 h2 h3 hold
    by_cases hi : i < L.length
    · obtain ⟨x, hxd⟩ : ∃ x, L[i] = x := ⟨_, rfl⟩
      have hmem : x ∈ L := hxd ▸ List.getElem_mem hi
      obtain ⟨x0, x1, s, x3, x2⟩ := hx x hmem
      have e1 : L.getD i default = x := by simp [List.getD_eq_getElem?_getD, hi, hxd]
      have hdrop : L.drop i = x :: L.drop (i + 1) := by rw [List.drop_eq_getElem_cons hi, hxd]
      have hnot : ∀ y ∈ L.drop (i + 1), y.toNat ≠ x.toNat := by
        intro y hy e
        have h1 : (L.drop i).Nodup := hnd.sublist (List.drop_sublist _ _)
        rw [hdrop, List.nodup_cons] at h1
        have hy0 := (hx y (List.mem_of_mem_drop hy)).1
        have : y = x := by omega
        subst this
        exact h1.1 hy
      obtain ⟨b, hb⟩ : ∃ b, b = (if (63 : Int) < (i : Int) then 63 else (i : Int)) := ⟨_, rfl⟩
      have hb0 : 0 ≤ b ∧ b ≤ 63 := by rw [hb]; split <;> omega
      obtain ⟨c0, c1⟩ := clipT_in torn
      have hcl : (if ((128 : Nat) : Int) < (if torn < 0 then 0 else torn) then ((128 : Nat) : Int) else (if torn < 0 then 0 else torn)) = clipT torn := rfl
      have hlt : x.toNat < sure.length := by omega
      have hin : sure.getD x.toNat default ∈ sure := by
        rw [List.getD_eq_getElem?_getD, List.getElem?_eq_getElem hlt]
        exact List.getElem_mem hlt
      have hl := h1 _ hin
      have hUx : sure.getD x.toNat default = U.getD x.toNat [] := by
        rw [List.getD_eq_getElem?_getD, List.getD_eq_getElem?_getD, hold x (by rw [hdrop]; exact List.mem_cons_self), List.getElem?_eq_getElem (by omega)]; rfl
      have hR : dev_Dev_Crash.l1 K d (k + 1) st off sure keep torn L (L.length : Int) (i : Int) =
          if FW.andI .u64 (FW.shrI .u64 keep b) 1 = 0 then dev_Dev_Crash.j1 (dev_Dev_Crash.l1 K d k) K sure d st off keep 0 x (List.take (clipT torn).toNat s ++ List.drop (clipT torn).toNat (sure.getD x.toNat default)) L (L.length : Int) (i : Int)
          else dev_Dev_Crash.j1 (dev_Dev_Crash.l1 K d k) K sure d st off keep torn x s L (L.length : Int) (i : Int) := by
        rw [dev_Dev_Crash.l1, if_pos (by simp; omega), if_pos ⟨by omega, by omega⟩, if_pos (by split <;> omega), Int.toNat_natCast, e1]
        simp only [x3, Option.getD_some, x2]
        rw [hcl, ← hb]
        by_cases hp : FW.andI .u64 (FW.shrI .u64 keep b) 1 = 0
        · rw [if_pos (by simpa using hp), if_pos ⟨c0, by omega⟩, if_pos ⟨x0, by omega⟩, if_pos ⟨c0, by omega⟩, if_pos (by simp only [List.length_take, List.length_drop, x2, hl]; omega), if_pos hp]
        · rw [if_neg (by simpa using hp), if_neg hp]
      have fin : ∀ (w : Sec) (torn : Int), w.length = 128 → (∃ t, t ≤ 128 ∧ w = s.take t ++ (U.getD x.toNat []).drop t) → ∃ S : List Sec, S.length = n ∧ (∀ s ∈ S, s.length = 128) ∧
          dev_Dev_Crash.j1 (dev_Dev_Crash.l1 K d k) K sure d st off keep torn x w L (L.length : Int) (i : Int) = some ⟨S, [], st, d.falls, true⟩ ∧
          (∀ q : Nat, (∀ x ∈ L.drop i, x.toNat ≠ q) → S[q]? = sure[q]?) ∧ ∀ x ∈ L.drop i, ∃ t, t ≤ 128 ∧ S[x.toNat]? = some (((FW.mget d.cache x).getD []).take t ++ (U.getD x.toNat []).drop t) := by
        intro w torn hw hwt
        obtain ⟨S, s1, s2, s3, s4, s5⟩ := ih (i + 1) (sure.set x.toNat w) torn (by simpa using h0) (fun z hz => by
          rcases List.mem_or_eq_of_mem_set hz with hz | rfl
          · exact h1 z hz
          · exact hw) (by omega) (by omega) (fun y hy => by
          rw [List.getElem?_set_ne (fun e => hnot y hy e.symm)]
          exact hold y (by rw [hdrop]; exact List.mem_cons_of_mem _ hy))
        refine ⟨S, s1, s2, ?_, ?_, ?_⟩
        · unfold dev_Dev_Crash.j1
          rw [if_pos ⟨x0, by omega⟩, W_in (by omega) (by omega), show ((i : Int) + 1) = ((i + 1 : Nat) : Int) by omega]
          exact s3
        · intro q hq
          rw [hdrop] at hq
          rw [s4 q fun y hy => hq y (List.mem_cons_of_mem _ hy), List.getElem?_set_ne (hq x List.mem_cons_self)]
        · intro y hy
          rw [hdrop] at hy
          rcases List.mem_cons.1 hy with rfl | hy
          · obtain ⟨t, t1, t2⟩ := hwt
            refine ⟨t, t1, ?_⟩
            rw [s4 _ hnot, List.getElem?_set_self hlt, x3, Option.getD_some, t2]
          · exact s5 y hy
      rw [hR]
      by_cases hp : FW.andI .u64 (FW.shrI .u64 keep b) 1 = 0
      · rw [if_pos hp]
        exact fin _ 0 (by simp only [List.length_append, List.length_take, List.length_drop, x2, hl]; omega) ⟨(clipT torn).toNat, by omega, by rw [hUx]⟩
      · rw [if_neg hp]
        refine fin s torn x2 ⟨128, Nat.le_refl _, ?_⟩
        have hl2 : (U.getD x.toNat []).length = 128 := by rw [← hUx]; exact hl
        rw [List.take_of_length_le (by omega), List.drop_of_length_le (by omega), List.append_nil]
    · have : i = L.length := by omega
      subst this
      refine ⟨sure, h0, h1, ?_, fun q _ => rfl, fun y hy => ?_⟩
      · rw [dev_Dev_Crash.l1, if_neg (by simp)]
      · rw [List.drop_length] at hy; cases hy
theorem sortK_nodup {m : List (Int × Sec)} (h : (m.map (·.1)).Nodup) : (FW.sortK m).Nodup := by
  unfold FW.sortK
  exact (List.mergeSort_perm _ _).nodup_iff.2 h
theorem sortK_len (m : List (Int × Sec)) : (FW.sortK m).length = m.length := by
  unfold FW.sortK
  rw [List.length_mergeSort, List.length_map]
section
variable {K n : Nat} {d : ODevDev}
theorem crash_torn (hK : 3000 < K) (hn : n ≤ 65536) (h : Dv n d.sure d.cache) (ho : d.off = false) (hl : d.cache.length ≤ 1000) (keep torn : Int) :
    ∃ S, dev_Dev_Crash.f K d keep torn = some ⟨S, [], d.steps, d.falls, true⟩ ∧ Dv n S [] ∧ Torn d.sure d.cache S := by
  unfold dev_Dev_Crash.f
  rw [off_eq, Option.bind_some, if_neg (by simp [ho])]
  have hok : FW.keysOk d.cache = true := by
    unfold FW.keysOk
    rw [Bool.and_eq_true, List.all_eq_true]
    refine ⟨fun p hp => ?_, by simp; omega⟩
    obtain ⟨p0, p1, _⟩ := h.keys p hp
    simp [FW.in64]; omega
  rw [if_pos hok]
  obtain ⟨S, s1, s2, s3, s4, s5⟩ := ctorn_l1 K n hn d (FW.sortK d.cache) (by rw [sortK_len]; omega) (fun x hx => by
    obtain ⟨p, hp, rfl⟩ := sortK_mem.1 hx
    exact ⟨(h.keys p hp).1, (h.keys p hp).2.1, p.2, mget_mem h.nd hp, (h.keys p hp).2.2⟩) (sortK_nodup h.nd) d.steps d.off keep d.sure h.secs h.len K 0 d.sure torn h.len h.secs (by omega) (by rw [sortK_len]; omega) (fun x _ => rfl)
  rw [List.drop_zero] at s4 s5
  refine ⟨S, s3, ⟨s1, s2, by simp, by simp⟩, fun q hq => s4 q fun x hx => ?_, fun p hp => ?_⟩
  · obtain ⟨p, hp, rfl⟩ := sortK_mem.1 hx
    exact hq p hp
  · have := s5 p.1 (sortK_mem.2 ⟨p, hp, rfl⟩)
    rw [mget_mem h.nd hp] at this
    exact this
theorem step_x (hK : 3000 < K) (hn : n ≤ 65536) (h : Dv n d.sure d.cache) (ho : d.off = false) (hl : d.cache.length ≤ 1000) (f1 : d.falls.length ≤ 1) {S : Nat} (hS : d.steps = (S : Int)) (hS2 : S ≤ 1000000) :
    (dev_Dev_step.f K d = some (0, ⟨d.sure, d.cache, ((S + 1 : Nat) : Int), d.falls, d.off⟩) ∧ ∀ f ∈ d.falls, f.At ≠ (S : Int)) ∨
    (∃ X, dev_Dev_step.f K d = some (7, ⟨X, [], (S : Int), [], true⟩) ∧ Dv n X [] ∧ Torn d.sure d.cache X ∧ d.falls ≠ []) := by
  unfold dev_Dev_step.f
  rw [idx_eq (by omega) f1]
  simp only [Option.bind_some]
  by_cases hc : (d.falls.head?.map fun f => decide (f.At = d.steps)) = some true
  · right
    rw [if_pos hc]
    match hfl : d.falls, f1 with
    | [], _ => rw [hfl] at hc; simp at hc
    | [f], _ =>
      obtain ⟨X, h1, h2, h3⟩ := crash_torn (d := ⟨d.sure, d.cache, d.steps, [], d.off⟩) hK hn h ho hl f.Keep f.Torn
      refine ⟨X, ?_, h2, h3, by simp⟩
      rw [if_neg (by simp), if_pos (by simp), if_pos ⟨by simp, rfl, by rw [W_in (by omega) (by omega)]; rfl⟩]
      simp only [Int.toNat_zero, List.getD_cons_zero]
      rw [h1, ← hS]; rfl
  · left
    rw [if_neg hc, if_pos (by simp), hS, W_in (by omega) (by omega)]
    refine ⟨rfl, fun f hf e => hc ?_⟩
    match hfl : d.falls, f1 with
    | [], _ => rw [hfl] at hf; cases hf
    | [g], _ =>
      rw [hfl] at hf
      simp only [List.mem_cons, List.not_mem_nil, or_false] at hf
      subst hf
      simp [hS, e]
end
theorem flushS_mapX (k : Int) (v : Sec) (i : Nat) (hi : i ≠ k.toNat) : ∀ (m : List (Int × Sec)) (s s' : List Sec), s[i]? = s'[i]? → s.length = s'.length → (flushS s (m.map fun p => if p.1 = k then (p.1, v) else p))[i]? = (flushS s' m)[i]? := by
  intro m
  induction m with
  | nil => intro s s' h _; exact h
  | cons p m ih =>
    intro s s' h hl
    have e1 : flushS s ((p :: m).map fun p => if p.1 = k then (p.1, v) else p) = flushS (s.set p.1.toNat (if p.1 = k then (p.1, v) else p).2) (m.map fun p => if p.1 = k then (p.1, v) else p) := by
      unfold flushS
      rw [List.map_cons, List.foldl_cons]
      congr 2
      split <;> rfl
    have e2 : flushS s' (p :: m) = flushS (s'.set p.1.toNat p.2) m := rfl
    rw [e1, e2]
    refine ih _ _ ?_ (by simp [hl])
    by_cases hk : p.1 = k
    · rw [if_pos hk, List.getElem?_set_ne (by rw [hk]; exact fun h => hi h.symm), List.getElem?_set_ne (by rw [hk]; exact fun h => hi h.symm), h]
    · rw [if_neg hk]
      simp only [List.getElem?_set, hl, h]
theorem flushS_putX {n : Nat} {sure : List Sec} {m : List (Int × Sec)} (h : Dv n sure m) {k : Nat} (hk : k < n) (v : Sec) (hv : v.length = 128) : flushS sure (FW.mput m (k : Int) v) = (flushS sure m).set k v := by
  apply List.ext_getElem?
  intro i
  have hd : Dv n sure (FW.mput m (k : Int) v) := dv_put h (by omega) (by omega) hv
  by_cases hi : i = k
  · subst hi
    have := flushS_at (FW.mput m (i : Int) v) (i : Int) v (by omega) sure hd.nd (fun p hp => (hd.keys p hp).1) (mput_self m _ v) (by rw [h.len]; omega)
    rw [Int.toNat_natCast] at this
    rw [this, List.getElem?_set_self (by rw [flushS_len, h.len]; exact hk)]
  · rw [List.getElem?_set_ne (fun e => hi e.symm)]
    unfold FW.mput
    split
    · exact flushS_mapX (k : Int) v i (by simpa using hi) m sure sure rfl rfl
    · unfold flushS
      rw [List.foldl_append, List.foldl_cons, List.foldl_nil, List.getElem?_set_ne (by simpa using fun e => hi e.symm)]
structure Is (n : Nat) (F : List ApiFall) (d : ODevDev) (V0 V : List Sec) (lo c S : Nat) : Prop where
  off : d.off = false
  dv : Dv n d.sure d.cache
  sure0 : d.sure = V0
  view : flushS d.sure d.cache = V
  few : d.cache.length ≤ c
  keys : ∀ p ∈ d.cache, (lo : Int) ≤ p.1
  fl : d.falls = F
  st : d.steps = (S : Int)
structure Cr (n : Nat) (d : ODevDev) (V0 : List Sec) (C : List (Int × Sec)) (S : Nat) : Prop where
  off : d.off = true
  c0 : d.cache = []
  dv : Dv n d.sure []
  f0 : d.falls = []
  st : d.steps = (S : Int)
  torn : Torn V0 C d.sure
def NF (F : List ApiFall) (S T : Nat) : Prop := ∀ f ∈ F, f.At < (S : Int) ∨ (T : Int) ≤ f.At
theorem NF.trans {F : List ApiFall} {S T U : Nat} (h : NF F S T) (h' : NF F T U) (h1 : S ≤ T) (h2 : T ≤ U) : NF F S U := fun f hf => by
  have a := h f hf
  have b := h' f hf
  omega
theorem NF.one {F : List ApiFall} {S : Nat} (h : ∀ f ∈ F, f.At ≠ (S : Int)) : NF F S (S + 1) := fun f hf => by
  have := h f hf
  omega
section
variable {n lo c S : Nat} {d : ODevDev} {V V0 : List Sec} {K : Nat} {F : List ApiFall}
theorem Is.len (h : Is n F d V0 V lo c S) : V.length = n := by rw [← h.view, flushS_len, h.dv.len]
theorem Is.relo (h : Is n F d V0 V lo 0 S) (lo' : Nat) : Is n F d V0 V lo' 0 S := by
  have e : d.cache = [] := List.eq_nil_of_length_eq_zero (Nat.le_zero.1 h.few)
  exact ⟨h.off, h.dv, h.sure0, h.view, h.few, by rw [e]; simp, h.fl, h.st⟩
theorem Is.write (h : Is n F d V0 V lo c S) (hK : 3000 < K) (hn : n ≤ 65536) (hF : F.length ≤ 1) (hc : c < 1000) (hS : S ≤ 1000000) {i : Nat} (hlo : lo ≤ i) (hi : i < n) {s : Sec} (hs : s.length = 128) :
    Sat (dev_Dev_Write.f K d (i : Int) s) fun r => (r.1 = 0 ∧ Is n F r.2 V0 (V.set i s) lo (c + 1) (S + 1) ∧ r.2.cache = FW.mput d.cache (i : Int) s ∧ NF F S (S + 1)) ∨ (r.1 = 7 ∧ F ≠ [] ∧ Cr n r.2 V0 d.cache S) := by
  have hl := h.dv.len
  have hf := h.few
  unfold dev_Dev_Write.f
  rw [off_eq, Option.bind_some, if_neg (by simp [h.off]), if_neg (by simp [hs]; omega)]
  rcases step_x hK hn h.dv h.off (by omega) (by rw [h.fl]; exact hF) h.st hS with ⟨h1, h2⟩ | ⟨X, h1, h2, h3, h4⟩
  · rw [h1, Option.bind_some, if_neg (by simp)]
    refine Sat.some (.inl ⟨rfl, ⟨h.off, dv_put h.dv (by omega) (by omega) hs, h.sure0, ?_, ?_, ?_, h.fl, rfl⟩, rfl, NF.one (by rw [← h.fl]; exact h2)⟩)
    · rw [← h.view]; exact flushS_putX h.dv hi s hs
    · have := mput_len d.cache (i : Int) s
      dsimp only; omega
    · intro p hp
      rcases mput_mem hp with hp | rfl
      · exact h.keys p hp
      · show (lo : Int) ≤ (i : Int)
        omega
  · rw [h1, Option.bind_some, if_pos (by simp)]
    refine Sat.some (.inr ⟨rfl, by rw [← h.fl]; exact h4, rfl, rfl, h2, rfl, rfl, ?_⟩)
    rw [← h.sure0]; exact h3
theorem Is.flush (h : Is n F d V0 V lo c S) (hK : 3000 < K) (hn : n ≤ 65536) (hF : F.length ≤ 1) (hc : c < 1000) (hS : S ≤ 1000000) :
    Sat (dev_Dev_Flush.f K d) fun r => (r.1 = 0 ∧ Is n F r.2 V V 0 0 (S + 1) ∧ NF F S (S + 1)) ∨ (r.1 = 7 ∧ F ≠ [] ∧ Cr n r.2 V0 d.cache S) := by
  have hl := h.dv.len
  have hf := h.few
  unfold dev_Dev_Flush.f
  rw [off_eq, Option.bind_some, if_neg (by simp [h.off])]
  rcases step_x hK hn h.dv h.off (by omega) (by rw [h.fl]; exact hF) h.st hS with ⟨h1, h2⟩ | ⟨X, h1, h2, h3, h4⟩
  · rw [h1, Option.bind_some, if_neg (by simp)]
    refine Sat.chk ?_ ?_
    · unfold flushOk
      rw [List.all_eq_true]
      intro p hp
      have := h.dv.keys p hp
      simp; omega
    · refine Sat.some (.inl ⟨rfl, ⟨h.off, dv_flush h.dv, h.view, ?_, by simp, by simp, h.fl, rfl⟩, NF.one (by rw [← h.fl]; exact h2)⟩)
      rw [← h.view]; rfl
  · rw [h1, Option.bind_some, if_pos (by simp)]
    refine Sat.some (.inr ⟨rfl, by rw [← h.fl]; exact h4, rfl, rfl, h2, rfl, rfl, ?_⟩)
    rw [← h.sure0]; exact h3
end
def zeros (n : Nat) : List UInt8 := List.replicate n 0
theorem rep_zero (n : Nat) : strings_Repeat.f ([0] : List UInt8) (n : Int) = some (zeros n) ∨ 1000000 < n := by
  by_cases h : n ≤ 1000000
  · left
    unfold strings_Repeat.f
    rw [if_pos (by simp; omega), Int.toNat_natCast]
    congr 1
    unfold zeros
    induction n with
    | zero => rfl
    | succ n ih =>
      rw [List.replicate_succ, ← ih (by omega)]
      rfl
  · right; omega
end Go.Proofs.YtfbkgaandmebaaaGreat
namespace Go.Proofs.YtfbkgaandmebaaaGreat
set_option linter.unusedVariables false
set_option maxHeartbeats 2000000
def secsN (n : Nat) : Nat := 1 + ((n - 104) + 127) / 128
theorem sectors_eq (n : Nat) (hn : n ≤ 1000000000) : log_Sectors.f (n : Int) = some (secsN n : Int) := by
  unfold log_Sectors.f secsN
  rw [W_in (x := (n : Int) - 104) (by omega) (by omega)]
  have e : (if (n : Int) - 104 < 0 then 0 else (n : Int) - 104) = ((n - 104 : Nat) : Int) := by
    split <;> omega
  rw [e, W_in (x := ((n - 104 : Nat) : Int) + 128) (by omega) (by omega), W_in (x := ((n - 104 : Nat) : Int) + 128 - 1) (by omega) (by omega)]
  have e2 : (((n - 104 : Nat) : Int) + 128 - 1) = ((n - 104 + 127 : Nat) : Int) := by omega
  rw [e2]
  have e3 : Int.tdiv ((n - 104 + 127 : Nat) : Int) 128 = (((n - 104 + 127) / 128 : Nat) : Int) := by
    rw [Int.tdiv_eq_ediv_of_nonneg (by omega)]; omega
  rw [e3, W_in (x := (((n - 104 + 127) / 128 : Nat) : Int)) (by omega) (by omega), W_in (by omega) (by omega)]
  congr 1
def eightS (n : Nat) : List UInt8 := [0, 0, 0, 0, 0, 0, UInt8.ofNat (n / 256), UInt8.ofNat (n % 256)]
theorem eightS_len (n : Nat) : (eightS n).length = 8 := rfl
theorem eight_all : ∀ n : Fin 1100, val_Eight.f KD (n.val : Int) = some (eightS n.val) ∧ val_Wide.f KD (eightS n.val) = some (n.val : Int) := by decide +kernel
theorem eight_eq {n : Nat} (h : n < 1100) : val_Eight.f KD (n : Int) = some (eightS n) := (eight_all ⟨n, h⟩).1
theorem WU_in {x : Int} (h0 : 0 ≤ x) (h1 : x < 18446744073709551616) : IntKind.wrap .u64 x = x := by rw [IntKind.wrap_u64]; omega
def padS (s : List UInt8) : List UInt8 := s ++ zeros (104 + 128 * (secsN s.length - 1) - s.length)
theorem secsN_le (n : Nat) : n ≤ 104 + 128 * (secsN n - 1) := by unfold secsN; omega
theorem secsN_pos (n : Nat) : 1 ≤ secsN n := by unfold secsN; omega
theorem secsN_few {n : Nat} (h : n ≤ 1090) : secsN n ≤ 9 := by unfold secsN; omega
theorem padS_len (s : List UInt8) : (padS s).length = 104 + 128 * (secsN s.length - 1) := by
  have := secsN_le s.length
  simp [padS, zeros]; omega
theorem zeros_get (n i : Nat) : (zeros n)[i]? = if i < n then some 0 else none := by
  unfold zeros
  rw [List.getElem?_replicate]
theorem pad_get (x : List UInt8) (m q : Nat) : (x ++ zeros m)[q]? = if q < x.length then x[q]? else if q < x.length + m then some 0 else none := by
  by_cases h : q < x.length
  · rw [if_pos h, List.getElem?_append_left h]
  · rw [if_neg h, List.getElem?_append_right (by omega), zeros_get]
    by_cases h2 : q < x.length + m
    · rw [if_pos h2, if_pos (by omega)]
    · rw [if_neg h2, if_neg (by omega)]
theorem padS_get (s : List UInt8) (q : Nat) : (padS s)[q]? = if q < s.length then s[q]? else if q < 104 + 128 * (secsN s.length - 1) then some 0 else none := by
  have := secsN_le s.length
  unfold padS
  rw [pad_get, show s.length + (104 + 128 * (secsN s.length - 1) - s.length) = 104 + 128 * (secsN s.length - 1) by omega]
def headS (num : Nat) (s : List UInt8) : Sec := eightS num ++ eightS s.length ++ (padS s).take 104 ++ eightS num
def chunkS (s : List UInt8) (j : Nat) : Sec := ((padS s).drop (104 + 128 * j)).take 128
def chunksS (s : List UInt8) : List Sec := (List.range (secsN s.length - 1)).map (chunkS s)
theorem headS_len (num : Nat) (s : List UInt8) : (headS num s).length = 128 := by
  have := padS_len s
  simp [headS, eightS_len]; omega
theorem chunkS_len (s : List UInt8) {j : Nat} (h : j < secsN s.length - 1) : (chunkS s j).length = 128 := by
  have := padS_len s
  simp [chunkS]; omega
theorem chunksS_len (s : List UInt8) : (chunksS s).length = secsN s.length - 1 := by simp [chunksS]
theorem chunksS_get (s : List UInt8) (j : Nat) : (chunksS s)[j]? = if j < secsN s.length - 1 then some (chunkS s j) else none := by
  unfold chunksS
  rw [List.getElem?_map]
  by_cases h : j < secsN s.length - 1
  · rw [if_pos h, List.getElem?_range h]; rfl
  · rw [if_neg h, List.getElem?_eq_none (by simp; omega)]; rfl
theorem chunk_eq (s : List UInt8) {j : Nat} (h : j < secsN s.length - 1) (m : Nat) (hm : m = min (s.drop (104 + 128 * j)).length 128) : (s.drop (104 + 128 * j)).take m ++ zeros (128 - m) = chunkS s j := by
  apply List.ext_getElem?
  intro q
  have hl := padS_len s
  rw [pad_get]
  unfold chunkS
  rw [List.getElem?_take, List.getElem?_take, List.getElem?_drop, List.getElem?_drop, padS_get]
  simp only [List.length_take, List.length_drop] at *
  by_cases h1 : q < 128
  · rw [if_pos h1]
    by_cases h2 : 104 + 128 * j + q < s.length
    · rw [if_pos (by omega), if_pos (by omega), if_pos h2]
    · rw [if_neg (by omega), if_pos (by omega), if_neg h2, if_pos (by omega)]
  · rw [if_neg h1, if_neg (by omega), if_neg (by omega)]
theorem head_part (s : List UInt8) (m : Nat) (hm : m = min s.length 104) : s.take m ++ zeros (104 - m) = (padS s).take 104 := by
  apply List.ext_getElem?
  intro q
  have hl := secsN_le s.length
  rw [pad_get, List.getElem?_take, List.getElem?_take, padS_get]
  simp only [List.length_take]
  by_cases h1 : q < 104
  · rw [if_pos h1]
    by_cases h2 : q < s.length
    · rw [if_pos (by omega), if_pos (by omega), if_pos h2]
    · rw [if_neg (by omega), if_pos (by omega), if_neg h2, if_pos (by omega)]
  · rw [if_neg h1, if_neg (by omega), if_neg (by omega)]
theorem log_pad_eq (v : List UInt8) (n : Nat) (h : v.length ≤ n) (hn : n ≤ 1000) : log_pad.f v (n : Int) = some (v ++ zeros (n - v.length)) := by
  unfold log_pad.f
  rw [W_in (by omega) (by omega), show (n : Int) - (v.length : Int) = ((n - v.length : Nat) : Int) by omega, (rep_zero _).resolve_right (by omega)]
  simp only [Option.bind_some]
  rw [if_pos (by simp [zeros]; omega)]
theorem minI (m n : Nat) : (if (m : Int) < (n : Int) then (m : Int) else (n : Int)) = ((min n m : Nat) : Int) := by
  split <;> omega
theorem log_head_eq (num : Nat) (hn : num < 1000) (s : List UInt8) (hs : s.length ≤ 1090) : log_head.f KD (num : Int) s = some (headS num s) := by
  refine Sat.get ?_
  unfold log_head.f
  have hl := padS_len s
  have l1 : (List.take 104 (padS s)).length = 104 := by rw [List.length_take]; omega
  have l0 : (eightS num ++ eightS s.length).length = 16 := by rw [List.length_append, eightS_len, eightS_len]
  refine Sat.bindE (eight_eq (show num < 1100 by omega)) ?_
  refine Sat.bindE (by rw [WU_in (by omega) (by omega)]; exact eight_eq (show s.length < 1100 by omega)) ?_
  refine Sat.chk (by rw [eightS_len, eightS_len]; omega) ?_
  rw [show (104 : Int) = ((104 : Nat) : Int) from rfl, minI]
  refine Sat.chk ⟨by omega, by omega⟩ ?_
  rw [Int.toNat_natCast]
  refine Sat.bindE (log_pad_eq _ 104 (by rw [List.length_take]; omega) (by omega)) ?_
  rw [show 104 - (List.take (min s.length 104) s).length = 104 - min s.length 104 by rw [List.length_take]; omega, head_part s _ rfl]
  refine Sat.chk (by rw [l0, l1]; omega) ?_
  refine Sat.bindE (eight_eq (show num < 1100 by omega)) ?_
  refine Sat.chk (by rw [List.length_append, l0, l1, eightS_len]; omega) ?_
  exact Sat.some rfl
end Go.Proofs.YtfbkgaandmebaaaGreat
namespace Go.Proofs.YtfbkgaandmebaaaGreat
set_option linter.unusedVariables false
set_option maxHeartbeats 2000000
def lay (V : List Sec) (i : Nat) : List Sec → List Sec
  | [] => V
  | x :: xs => lay (V.set i x) (i + 1) xs
theorem lay_get : ∀ (L : List Sec) (V : List Sec) (i q : Nat), (lay V i L)[q]? = if i ≤ q ∧ q < i + L.length ∧ q < V.length then L[q - i]? else V[q]?
  | [], V, i, q => by
    rw [lay, if_neg]
    simp; omega
  | x :: L, V, i, q => by
    rw [lay, lay_get L, List.length_set]
    by_cases h : i = q
    · subst h
      rw [if_neg (by omega)]
      by_cases hv : i < V.length
      · rw [if_pos ⟨by omega, by simp, hv⟩, List.getElem?_set_self hv]; simp
      · rw [if_neg (by omega), List.getElem?_eq_none (by simp; omega), List.getElem?_eq_none (by omega)]
    · rw [List.getElem?_set_ne h]
      by_cases hc : i + 1 ≤ q ∧ q < i + 1 + L.length ∧ q < V.length
      · rw [if_pos hc, if_pos ⟨by omega, by simp; omega, hc.2.2⟩, show q - i = (q - (i + 1)) + 1 by omega, List.getElem?_cons_succ]
      · rw [if_neg hc, if_neg]
        simp only [List.length_cons]; omega
def tailS (tO at' : Nat) : List Sec := if at' < tO then [zeros 128] else []
theorem chunks_drop (s : List UInt8) {j : Nat} (h : j < secsN s.length - 1) : (chunksS s).drop j = chunkS s j :: (chunksS s).drop (j + 1) := by
  rw [List.drop_eq_getElem_cons (by rw [chunksS_len]; exact h)]
  congr 1
  have := chunksS_get s j
  rw [if_pos h, List.getElem?_eq_getElem (by rw [chunksS_len]; exact h)] at this
  injection this
structure Lc (n : Nat) (d : ODevDev) (V0 : List Sec) (lo b : Nat) : Prop where
  off : d.off = true
  c0 : d.cache = []
  dv : Dv n d.sure []
  f0 : d.falls = []
  st : ∃ S : Nat, d.steps = (S : Int) ∧ S ≤ b
  low : ∀ q, q < lo → d.sure[q]? = V0[q]?
theorem Cr.low {n S lo b : Nat} {d : ODevDev} {V0 : List Sec} {C : List (Int × Sec)} (h : Cr n d V0 C S) (hk : ∀ p ∈ C, (lo : Int) ≤ p.1) (hb : S ≤ b) : Lc n d V0 lo b :=
  ⟨h.off, h.c0, h.dv, h.f0, ⟨S, h.st, hb⟩, fun q hq => h.torn.other q fun p hp e => by have := hk p hp; omega⟩
theorem KD_big : 3000 < KD := by unfold KD; omega
theorem body_l1 (N tO at' : Nat) (f g : Int) (s : List UInt8) (F : List ApiFall) (hF : F.length ≤ 1) (V0 : List Sec) (hs : s.length ≤ 1090) (hend : at' + secsN s.length ≤ tO) (hto : tO ≤ N) (hN : N ≤ 1000) (b : Nat) (hb : b ≤ 1000000) :
    ∀ (k : Nat) (j : Nat) (d : ODevDev) (V : List Sec) (c S : Nat), Is N F d V0 V (at' + 1) c S → c ≤ j → j ≤ secsN s.length - 1 → S + (secsN s.length - 1 - j) + 3 ≤ b → secsN s.length - 1 - j < k →
      Sat (log_Log_body.l1 KD ⟨f, tO, at', g⟩ k d.steps d.off d.sure d.cache d.falls ((at' + secsN s.length : Nat) : Int) (s.drop (104 + 128 * j)) ((at' + 1 + j : Nat) : Int)) fun r =>
        (r.1 = 0 ∧ r.2.1 = ⟨f, tO, at', g⟩ ∧ ∃ T, T = S + (secsN s.length - 1 - j) + (tailS tO (at' + secsN s.length)).length + 1 ∧
          Is N F r.2.2 (lay V (at' + 1 + j) ((chunksS s).drop j ++ tailS tO (at' + secsN s.length))) (lay V (at' + 1 + j) ((chunksS s).drop j ++ tailS tO (at' + secsN s.length))) 0 0 T ∧ NF F S T) ∨
        (r.1 = 7 ∧ F ≠ [] ∧ Lc N r.2.2 V0 (at' + 1) b) := by
  have hk1 := secsN_pos s.length
  have hk5 := secsN_few hs
  intro k
  induction k with
  | zero => intro j d V c S h0 h1 h2 hb' h3; omega
  | succ k ih =>
    intro j d V c S h0 h1 h2 hb' h3
    rw [log_Log_body.l1]
    refine Sat.ite (fun hi => ?_) (fun hi => ?_)
    · simp only [decide_eq_true_eq] at hi
      have hj : j < secsN s.length - 1 := by omega
      rw [show (128 : Int) = ((128 : Nat) : Int) from rfl, minI]
      refine Sat.chk ⟨by omega, by omega⟩ ?_
      rw [Int.toNat_natCast]
      refine Sat.bindE (log_pad_eq _ 128 (by rw [List.length_take]; omega) (by omega)) ?_
      have e : List.take (min (s.drop (104 + 128 * j)).length 128) (s.drop (104 + 128 * j)) ++ zeros (128 - (List.take (min (s.drop (104 + 128 * j)).length 128) (s.drop (104 + 128 * j))).length) = chunkS s j := by
        rw [List.length_take, show min (min (s.drop (104 + 128 * j)).length 128) (s.drop (104 + 128 * j)).length = min (s.drop (104 + 128 * j)).length 128 by omega]
        exact chunk_eq s hj _ rfl
      rw [e]
      refine Sat.bind (h0.write KD_big (by omega) hF (by omega) (by omega) (i := at' + 1 + j) (by omega) (by omega) (chunkS_len s hj)) fun t ht => ?_
      rcases ht with ⟨t1, t2, _, t4⟩ | ⟨t1, t2, t3⟩
      · refine Sat.ite (fun h => by simp [t1] at h) (fun _ => ?_)
        refine Sat.chk ⟨by omega, by omega⟩ ?_
        rw [W_in (by omega) (by omega), show ((at' + 1 + j : Nat) : Int) + 1 = ((at' + 1 + (j + 1) : Nat) : Int) by omega]
        have e2 : List.drop (min (s.drop (104 + 128 * j)).length 128) (s.drop (104 + 128 * j)) = s.drop (104 + 128 * (j + 1)) := by
          rw [List.drop_drop]
          by_cases hl : 128 ≤ (s.drop (104 + 128 * j)).length
          · rw [show min (s.drop (104 + 128 * j)).length 128 = 128 by omega]
            congr 1
          · rw [List.length_drop] at *
            rw [List.drop_eq_nil_of_le (by omega), List.drop_eq_nil_of_le (by omega)]
        rw [e2]
        refine (ih (j + 1) t.2 _ (c + 1) (S + 1) t2 (by omega) (by omega) (by omega) (by omega)).mono fun r hr => ?_
        rcases hr with ⟨r1, r2, T, r3, r4, r5⟩ | hr
        · refine .inl ⟨r1, r2, T, by omega, ?_, t4.trans r5 (by omega) (by omega)⟩
          rw [chunks_drop s hj]
          exact r4
        · exact .inr hr
      · refine Sat.ite (fun _ => ?_) (fun h => by simp [t1] at h)
        exact Sat.some (.inr ⟨t1, t2, t3.low h0.keys (by omega)⟩)
    · simp only [decide_eq_false_iff_not] at hi
      have hj : j = secsN s.length - 1 := by omega
      subst hj
      have e0 : (chunksS s).drop (secsN s.length - 1) = [] := List.drop_eq_nil_of_le (by rw [chunksS_len]; omega)
      rw [e0, List.nil_append]
      have last : ∀ (d : ODevDev) (V : List Sec) (c S : Nat), Is N F d V0 V (at' + 1) c S → c < 1000 → S ≤ b → Sat (log_Log_body.j1 (log_Log_body.l1 KD ⟨f, tO, at', g⟩ k) KD ⟨f, tO, at', g⟩ d.steps d.off d.sure d.cache d.falls) fun r =>
          (r.1 = 0 ∧ r.2.1 = ⟨f, tO, at', g⟩ ∧ Is N F r.2.2 V V 0 0 (S + 1) ∧ NF F S (S + 1)) ∨ (r.1 = 7 ∧ F ≠ [] ∧ Lc N r.2.2 V0 (at' + 1) b) := by
        intro d V c S h hc hS
        unfold log_Log_body.j1
        refine Sat.bind (h.flush KD_big (by omega) hF hc (by omega)) fun t ht => ?_
        rcases ht with ⟨t1, t2, t3⟩ | ⟨t1, t2, t3⟩
        · exact Sat.some (.inl ⟨t1, rfl, t2, t3⟩)
        · exact Sat.some (.inr ⟨t1, t2, t3.low h.keys hS⟩)
      refine Sat.ite (fun he => ?_) (fun he => ?_)
      · simp only [decide_eq_true_eq] at he
        rw [show (128 : Int) = ((128 : Nat) : Int) from rfl]
        refine Sat.bindE (log_pad_eq _ 128 (by simp) (by omega)) ?_
        have e3 : ([] : List UInt8) ++ zeros (128 - ([] : List UInt8).length) = zeros 128 := rfl
        rw [e3]
        have e4 : tailS tO (at' + secsN s.length) = [zeros 128] := if_pos (by omega)
        refine Sat.bind (h0.write KD_big (by omega) hF (by omega) (by omega) (i := at' + secsN s.length) (by omega) (by omega) (by simp [zeros])) fun t ht => ?_
        rcases ht with ⟨t1, t2, _, t4⟩ | ⟨t1, t2, t3⟩
        · refine Sat.ite (fun h => by simp [t1] at h) (fun _ => ?_)
          refine (last t.2 _ _ _ t2 (by omega) (by omega)).mono fun r hr => ?_
          rcases hr with ⟨r1, r2, r3, r4⟩ | hr
          · refine .inl ⟨r1, r2, _, rfl, ?_, ?_⟩
            · rw [e4, show at' + 1 + (secsN s.length - 1) = at' + secsN s.length by omega, show S + (secsN s.length - 1 - (secsN s.length - 1)) + ([zeros 128] : List Sec).length + 1 = S + 1 + 1 by simp]
              exact r3
            · rw [e4, show S + (secsN s.length - 1 - (secsN s.length - 1)) + ([zeros 128] : List Sec).length + 1 = S + 1 + 1 by simp]
              exact t4.trans r4 (by omega) (by omega)
          · exact .inr hr
        · refine Sat.ite (fun _ => ?_) (fun h => by simp [t1] at h)
          exact Sat.some (.inr ⟨t1, t2, t3.low h0.keys (by omega)⟩)
      · simp only [decide_eq_false_iff_not] at he
        have e4 : tailS tO (at' + secsN s.length) = [] := if_neg (by omega)
        refine (last d V c S h0 (by omega) (by omega)).mono fun r hr => ?_
        rcases hr with ⟨r1, r2, r3, r4⟩ | hr
        · refine .inl ⟨r1, r2, _, rfl, ?_, ?_⟩
          · rw [e4, show S + (secsN s.length - 1 - (secsN s.length - 1)) + ([] : List Sec).length + 1 = S + 1 by simp]
            exact r3
          · rw [e4, show S + (secsN s.length - 1 - (secsN s.length - 1)) + ([] : List Sec).length + 1 = S + 1 by simp]
            exact r4
        · exact .inr hr
section
variable {N tO at' num S : Nat} {f g : Int} {s : List UInt8} {F : List ApiFall} {d : ODevDev} {V : List Sec}
theorem body_sat (hs : s.length ≤ 1090) (hend : at' + secsN s.length ≤ tO) (hto : tO ≤ N) (hN : N ≤ 1000) (hF : F.length ≤ 1) (hS : S + 20 ≤ 1000000) (h : Is N F d V V 0 0 S) :
    Sat (log_Log_body.f KD ⟨f, tO, at', g⟩ d s) fun r =>
      (r.1 = 0 ∧ r.2.1 = ⟨f, tO, at', g⟩ ∧ ∃ T, T = S + (secsN s.length - 1) + (tailS tO (at' + secsN s.length)).length + 1 ∧
        Is N F r.2.2 (lay V (at' + 1) (chunksS s ++ tailS tO (at' + secsN s.length))) (lay V (at' + 1) (chunksS s ++ tailS tO (at' + secsN s.length))) 0 0 T ∧ NF F S T) ∨
      (r.1 = 7 ∧ F ≠ [] ∧ Lc N r.2.2 V (at' + 1) (S + 20)) := by
  have hk1 := secsN_pos s.length
  have hk5 := secsN_few hs
  unfold log_Log_body.f
  refine Sat.bindE (sectors_eq s.length (by omega)) ?_
  rw [show (104 : Int) = ((104 : Nat) : Int) from rfl, minI]
  refine Sat.chk ⟨by omega, by omega⟩ ?_
  dsimp only
  rw [W_in (by omega) (by omega), W_in (by omega) (by omega), Int.toNat_natCast, show ((at' : Int) + (secsN s.length : Int)) = ((at' + secsN s.length : Nat) : Int) by omega, show ((at' : Int) + 1) = ((at' + 1 + 0 : Nat) : Int) by omega]
  have e : s.drop (min s.length 104) = s.drop (104 + 128 * 0) := by
    by_cases hl : 104 ≤ s.length
    · rw [show min s.length 104 = 104 by omega]
    · rw [List.drop_eq_nil_of_le (by omega), List.drop_eq_nil_of_le (by omega)]
  rw [e]
  exact body_l1 N tO at' f g s F hF V hs hend hto hN (S + 20) hS KD 0 d V 0 S (h.relo _) (by omega) (by omega) (by omega) (by unfold KD; omega)
def added (tO : Nat) (V : List Sec) (at' num : Nat) (s : List UInt8) : List Sec := (lay V (at' + 1) (chunksS s ++ tailS tO (at' + secsN s.length))).set at' (headS num s)
theorem lay_low (q : Nat) (L : List Sec) (h : q ≤ at') : (lay V (at' + 1) L)[q]? = V[q]? := by
  rw [lay_get, if_neg (by omega)]
theorem add_x (hs : s.length ≤ 1090) (hend : at' + secsN s.length ≤ tO) (hto : tO ≤ N) (hN : N ≤ 1000) (hnum : num < 1000) (hF : F.length ≤ 1) (hS : S + 30 ≤ 1000000) (h : Is N F d V V 0 0 S) :
    Sat (log_Log_Add.f KD ⟨f, tO, at', num⟩ d s) fun r =>
      (r.1 = 0 ∧ r.2.1 = ⟨f, tO, (at' + secsN s.length : Nat), (num + 1 : Nat)⟩ ∧ ∃ T, T = S + (secsN s.length - 1) + (tailS tO (at' + secsN s.length)).length + 3 ∧
        Is N F r.2.2 (added tO V at' num s) (added tO V at' num s) 0 0 T ∧ NF F S T) ∨
      (r.1 = 7 ∧ F ≠ [] ∧ Lc N r.2.2 V at' (S + 30) ∧ (r.2.2.sure[at']? = V[at']? ∨
        ∃ t, t ≤ 128 ∧ r.2.2.sure[at']? = some ((headS num s).take t ++ (V.getD at' []).drop t) ∧ ∀ q, q ≠ at' → r.2.2.sure[q]? = (added tO V at' num s)[q]?)) := by
  have hk1 := secsN_pos s.length
  have hk5 := secsN_few hs
  have htl : (tailS tO (at' + secsN s.length)).length ≤ 1 := by unfold tailS; split <;> simp
  unfold log_Log_Add.f
  rw [if_pos rfl]
  refine Sat.bindE (off_eq d) ?_
  refine Sat.ite (fun hh => by rw [h.off] at hh; cases hh) (fun _ => ?_)
  refine Sat.bindE (sectors_eq s.length (by omega)) ?_
  dsimp only
  rw [W_in (by omega) (by omega)]
  refine Sat.ite (fun hh => by simp at hh; omega) (fun _ => ?_)
  refine Sat.bind (body_sat hs hend hto hN hF (by omega) h) fun t ht => ?_
  rcases ht with ⟨t1, t2, T, t3, t4, t5⟩ | ⟨t1, t2, t3⟩
  · refine Sat.ite (fun hh => by simp [t1] at hh) (fun _ => ?_)
    rw [t2]
    dsimp only
    refine Sat.bindE (log_head_eq num (by omega) s hs) ?_
    have ec : t.2.2.cache = [] := List.eq_nil_of_length_eq_zero (Nat.le_zero.1 t4.few)
    refine Sat.bind (t4.write KD_big (by omega) hF (by omega) (by omega) (i := at') (by omega) (by omega) (headS_len num s)) fun u hu => ?_
    rcases hu with ⟨u1, u2, u3, u4⟩ | ⟨u1, u2, u3⟩
    · refine Sat.ite (fun hh => by simp [u1] at hh) (fun _ => ?_)
      refine Sat.bind (u2.flush KD_big (by omega) hF (by omega) (by omega)) fun v hv => ?_
      rcases hv with ⟨v1, v2, v3⟩ | ⟨v1, v2, v3⟩
      · refine Sat.ite (fun hh => by simp [v1] at hh) (fun _ => ?_)
        refine Sat.bindE (sectors_eq s.length (by omega)) ?_
        rw [W_in (by omega) (by omega), WU_in (by omega) (by omega)]
        refine Sat.some (.inl ⟨rfl, by dsimp only; congr 1 <;> omega, T + 1 + 1, by omega, v2, ?_⟩)
        exact (t5.trans u4 (by omega) (by omega)).trans v3 (by omega) (by omega)
      · refine Sat.ite (fun _ => ?_) (fun hh => by simp [v1] at hh)
        rw [ec] at u3
        have eC : u.2.cache = [((at' : Int), headS num s)] := by rw [u3]; rfl
        rw [eC] at v3
        have hoth : ∀ q, q ≠ at' → v.2.sure[q]? = (lay V (at' + 1) (chunksS s ++ tailS tO (at' + secsN s.length)))[q]? := fun q hq => v3.torn.other q fun p hp e => by
          simp only [List.mem_cons, List.not_mem_nil, or_false] at hp
          subst hp
          simp only [Int.toNat_natCast] at e
          exact hq e.symm
        refine Sat.some (.inr ⟨v1, v2, ⟨v3.off, v3.c0, v3.dv, v3.f0, ⟨_, v3.st, by omega⟩, fun q hq => ?_⟩, .inr ?_⟩)
        · rw [hoth q (by omega)]; exact lay_low q _ (by omega)
        · obtain ⟨w, w1, w2⟩ := v3.torn.at_ _ (List.mem_cons_self)
          simp only [Int.toNat_natCast] at w2
          refine ⟨w, w1, ?_, fun q hq => ?_⟩
          · rw [w2, List.getD_eq_getElem?_getD, List.getD_eq_getElem?_getD, lay_low at' _ (Nat.le_refl _)]
          · rw [hoth q hq]
            unfold added
            rw [List.getElem?_set_ne (fun e => hq e.symm)]
    · refine Sat.ite (fun _ => ?_) (fun hh => by simp [u1] at hh)
      rw [ec] at u3
      have hoth : ∀ q, u.2.sure[q]? = (lay V (at' + 1) (chunksS s ++ tailS tO (at' + secsN s.length)))[q]? := fun q => u3.torn.other q fun p hp => by cases hp
      refine Sat.some (.inr ⟨u1, u2, ⟨u3.off, u3.c0, u3.dv, u3.f0, ⟨_, u3.st, by omega⟩, fun q hq => ?_⟩, .inl ?_⟩)
      · rw [hoth q]; exact lay_low q _ (by omega)
      · rw [hoth at']; exact lay_low at' _ (Nat.le_refl _)
  · refine Sat.ite (fun _ => ?_) (fun hh => by simp [t1] at hh)
    obtain ⟨S', hS', hS''⟩ := t3.st
    exact Sat.some (.inr ⟨t1, t2, ⟨t3.off, t3.c0, t3.dv, t3.f0, ⟨S', hS', by omega⟩, fun q hq => t3.low q (by omega)⟩, .inl (t3.low at' (by omega))⟩)
end
end Go.Proofs.YtfbkgaandmebaaaGreat
namespace Go.Proofs.YtfbkgaandmebaaaGreat
set_option linter.unusedVariables false
set_option linter.unusedSimpArgs false
set_option maxHeartbeats 1000000
theorem awake06 : offshootlaw06_awake.f KD = some true := by decide +kernel
def Chg (l : List ApiChange) : Prop := l.length ≤ 10 ∧ ∀ x ∈ l, x.ID = 7 ∧ x.S.length ≤ 40 ∧ (x.Gone = true → x.S = [])
theorem Chg.get {l : List ApiChange} (h : Chg l) {i : Nat} (hi : i < l.length) : (l.getD i default).ID = 7 ∧ (l.getD i default).S.length ≤ 40 ∧ ((l.getD i default).Gone = true → (l.getD i default).S = []) := by
  refine h.2 _ ?_
  rw [List.getD_eq_getElem?_getD, List.getElem?_eq_getElem hi]
  exact List.getElem_mem hi
theorem two_len (v : Int) : Sat (val_Two.f v) fun r => r.length = 2 := ⟨_, rfl, by simp [FW.toB]⟩
theorem batch_l1 (l : List ApiChange) (h : Chg l) : ∀ (k i : Nat) (acc : List UInt8), i ≤ l.length → l.length - i < k → acc.length ≤ 2 + 50 * i → Sat (rec_Batch.l1 KD k acc l (l.length : Int) (i : Int)) fun r => r.length ≤ 502 := by
  intro k
  induction k with
  | zero => intro i acc h0 h1; omega
  | succ k ih =>
    intro i acc h0 h1 h2
    have hl := h.1
    rw [rec_Batch.l1]
    refine Sat.ite (fun hh => ?_) (fun hh => Sat.some (by omega))
    have hi : i < l.length := by
      have : (i : Int) < (l.length : Int) := by simpa using hh
      omega
    refine Sat.chk ⟨by omega, by omega⟩ ?_
    obtain ⟨g1, g2, g3⟩ := h.get hi
    have fin : ∀ v6 : List UInt8, v6.length = 2 → Sat (rec_Batch.j1 (rec_Batch.l1 KD k) KD l (i : Int) acc v6 l (l.length : Int) (i : Int)) fun r => r.length ≤ 502 := by
      intro v6 h6
      unfold rec_Batch.j1
      rw [Int.toNat_natCast, g1]
      refine Sat.bindE (eight_eq (n := 7) (by omega)) ?_
      have h8 := eightS_len 7
      refine Sat.chk (by rw [h8, h6]; decide) (Sat.chk (by simp only [List.length_append]; omega) (Sat.chk (by simp only [List.length_append]; omega) ?_))
      rw [W_in (by omega) (by omega), show (i : Int) + 1 = ((i + 1 : Nat) : Int) by omega]
      exact ih (i + 1) _ (by omega) (by omega) (by simp only [List.length_append]; omega)
    refine Sat.bind (two_len _) fun t ht => Sat.ite (fun _ => fin _ rfl) (fun _ => fin _ ht)
theorem batch_len (l : List ApiChange) (h : Chg l) : Sat (rec_Batch.f KD l) fun r => r.length ≤ 502 := by
  unfold rec_Batch.f
  refine Sat.bind (two_len _) fun t ht => ?_
  exact batch_l1 l h KD 0 t (by omega) (by have := h.1; have := KD_big; omega) (by omega)
def chg (l : List ApiChange) (m : List (Int × List UInt8)) : List (Int × List UInt8) := l.foldl (fun m x => if x.Gone = true then FW.mdel m x.ID else FW.mput m x.ID x.S) m
theorem change_l1 (l : List ApiChange) (K : Nat) : ∀ (k i : Nat) (m : List (Int × List UInt8)), i ≤ l.length → l.length - i < k → l.length ≤ 1000000 → rec_change.l1 K k m l (l.length : Int) (i : Int) = some (chg (l.drop i) m) := by
  intro k
  induction k with
  | zero => intro i m h0 h1; omega
  | succ k ih =>
    intro i m h0 h1 h2
    rw [rec_change.l1]
    by_cases hi : i < l.length
    · have hd : l.drop i = l.getD i default :: l.drop (i + 1) := by
        rw [List.drop_eq_getElem_cons hi, List.getD_eq_getElem?_getD, List.getElem?_eq_getElem hi]; rfl
      rw [if_pos (decide_eq_true (by omega)), if_pos ⟨by omega, by omega⟩, Int.toNat_natCast, hd, chg, List.foldl_cons]
      unfold rec_change.j1
      rw [W_in (by omega) (by omega), show (i : Int) + 1 = ((i + 1 : Nat) : Int) by omega, ih (i + 1) _ (by omega) (by omega) h2, ih (i + 1) _ (by omega) (by omega) h2]
      by_cases hg : (l.getD i default).Gone = true
      · rw [if_pos hg, if_pos hg]; rfl
      · rw [if_neg hg, if_neg hg]; rfl
    · rw [if_neg (by rw [decide_eq_true_eq]; omega), List.drop_of_length_le (by omega)]; rfl
theorem change_eq (l : List ApiChange) (m : List (Int × List UInt8)) (hl : l.length ≤ 900000) : rec_change.f KD m l = some (chg l m) := by
  unfold rec_change.f
  have := change_l1 l KD KD 0 m (by omega) (by unfold KD; omega) (by omega)
  simpa using this
theorem commit_l1 (s : ORecStore) (d : ODevDev) (l : List ApiChange) (h : Chg l) (P : Int × ORecStore × ODevDev → Prop) (hfin : ∀ k, Sat (rec_Store_Commit.l1 KD s d (k + 1) l l (l.length : Int) (l.length : Int)) P) :
    ∀ (k i : Nat), i ≤ l.length → l.length - i < k → Sat (rec_Store_Commit.l1 KD s d k l l (l.length : Int) (i : Int)) P := by
  intro k
  induction k with
  | zero => intro i h0 h1; omega
  | succ k ih =>
    intro i h0 h1
    have hl := h.1
    by_cases hi : i < l.length
    · rw [rec_Store_Commit.l1, if_pos (decide_eq_true (by omega))]
      obtain ⟨g1, g2, g3⟩ := h.get hi
      refine Sat.chk ⟨by omega, by omega⟩ ?_
      rw [Int.toNat_natCast, if_neg (by
        simp only [Bool.and_eq_true, Bool.not_eq_true', decide_eq_false_iff_not]
        exact fun hh => hh.2 (g3 hh.1)), if_neg (by simp only [decide_eq_true_eq]; omega), W_in (by omega) (by omega), show (i : Int) + 1 = ((i + 1 : Nat) : Int) by omega]
      exact ih (i + 1) (by omega) (by omega)
    · have e : i = l.length := by omega
      rw [e]; exact hfin k
theorem rzero_len (n : Nat) : ∀ s ∈ List.replicate n (zeros 128), s.length = 128 := fun s hs => by rw [List.eq_of_mem_replicate hs]; simp [zeros]
theorem commit_one (l : List ApiChange) (h : Chg l) (d : ODevDev) (hd : Is 60 [] d d.sure d.sure 0 0 0) :
    Sat (rec_Store_Commit.f KD ⟨⟨48, 60, 48, 1⟩, [], 1, 0, false⟩ d l) fun r => r.1 = 0 ∧ r.2.1.m = chg l [] ∧ r.2.2.off = false := by
  have hl := h.1
  unfold rec_Store_Commit.f rec_Store_Dead.f dev_Dev_Off.f
  rw [if_pos rfl]
  refine Sat.bindE (r := d.off) rfl ?_
  rw [hd.off]
  refine Sat.ite (fun hh => by simp at hh) (fun _ => ?_)
  refine Sat.ite (fun hh => absurd (of_decide_eq_true hh) (by omega)) (fun _ => ?_)
  refine commit_l1 _ d l h _ (fun k => ?_) KD 0 (by omega) (by have := KD_big; omega)
  rw [rec_Store_Commit.l1, if_neg (by simp)]
  refine Sat.bind (batch_len l h) fun b hb => ?_
  have hs : secsN b.length ≤ 5 := by unfold secsN; omega
  have ha := add_x (N := 60) (tO := 60) (at' := 48) (num := 1) (S := 0) (f := 48) (s := b) (F := []) (d := d) (V := d.sure) (by omega) (by omega) (by omega) (by omega) (by omega) (by simp) (by omega) hd
  refine Sat.bind ha fun r hr => ?_
  rcases hr with ⟨r1, r2, T, _, r3, _⟩ | ⟨_, hF, _⟩
  · rw [r1]
    refine Sat.ite (fun hh => by simp at hh) (fun _ => ?_)
    unfold rec_Store_Commit.j1 rec_Store_do.f
    refine Sat.ite (fun _ => ?_) (fun hh => by simp at hh)
    refine Sat.bindE (r := ((⟨r.2.1, chg l [], 1, 0, false⟩ : ORecStore), r.2.2)) (by rw [change_eq l _ (by omega)]; rfl) ?_
    unfold rec_Store_Commit.j2
    refine Sat.ite (fun hh => by simp at hh) (fun _ => ?_)
    exact Sat.some ⟨rfl, rfl, r3.off⟩
  · exact absurd rfl hF
theorem mget_del (m : List (Int × List UInt8)) (k : Int) : FW.mget (FW.mdel m k) k = none := by
  refine mget_none fun p hp => ?_
  unfold FW.mdel at hp
  have := (List.mem_filter.1 hp).2
  simpa using this
theorem mget_put (m : List (Int × List UInt8)) (k : Int) (v : List UInt8) : FW.mget (FW.mput m k v) k = some v := by
  unfold FW.mput FW.mget
  split
  · rename_i h
    induction m with
    | nil => simp at h
    | cons p r ih =>
      by_cases e : p.1 = k
      · rw [List.map_cons, if_pos e, List.find?_cons, e]; simp
      · rw [List.map_cons, if_neg e, List.find?_cons_of_neg (by simpa using e)]
        refine ih ?_
        simpa [e] using h
  · rename_i h
    rw [List.find?_append]
    have : (m.find? fun p => decide (p.1 = k)) = none := by
      rw [List.find?_eq_none]
      intro p hp hk
      exact h (List.any_eq_true.2 ⟨p, hp, hk⟩)
    rw [this]; simp
theorem open60 : (offshootlaw06_open.f KD 60).map (fun r => decide (r.1.l.from_ = 48) && decide (r.1.l.to_ = 60) && decide (r.1.l.at_ = 48) && decide (r.1.l.next = 1) && r.1.m.isEmpty && decide (r.1.half = 1) && decide (r.1.round = 0) && !r.1.dead && r.2.2 && decide (r.2.1.steps = 0) && !r.2.1.off && r.2.1.cache.isEmpty && r.2.1.falls.isEmpty && decide (r.2.1.sure = List.replicate 60 (zeros 128))) = some true := by decide +kernel
theorem rec_last_l1 (d : ODevDev) (hd : Is 60 [] d d.sure d.sure 0 0 0) (v0 : List ApiChange) : ∀ (k i : Nat) (l : List ApiChange), Chg l → l.length = i → i ≤ v0.length → i ≤ 10 → 10 - i < k →
    offshootlaw06_RecLast.l1 KD k l 1 0 false [] 48 60 48 1 d.steps d.off d.sure d.cache d.falls v0 true (i : Int) = some true := by
  intro k
  induction k with
  | zero => intro i l h h0 h1 h2 h3; omega
  | succ k ih =>
    intro i l h h0 h1 h2 h3
    rw [offshootlaw06_RecLast.l1]
    by_cases hc : i < v0.length ∧ i < 10
    · rw [if_pos (by simp only [Bool.and_eq_true, decide_eq_true_eq]; omega), if_pos ⟨by omega, by omega⟩, if_pos ⟨by omega, by omega⟩, Int.toNat_natCast]
      have key : ∀ x : ApiChange, x.ID = 7 → x.S.length ≤ 40 → offshootlaw06_RecLast.j1 (offshootlaw06_RecLast.l1 KD k) KD d.sure d.falls l d.cache [] d.steps d.off 1 0 false 48 60 48 1 x v0 true (i : Int) = some true := by
        intro x h7 h40
        have last : ∀ y : ApiChange, y.ID = 7 → y.S.length ≤ 40 → (y.Gone = true → y.S = []) → offshootlaw06_RecLast.j2 (offshootlaw06_RecLast.l1 KD k) KD d.sure d.falls l d.cache [] d.steps d.off 1 0 false 48 60 48 1 y v0 true (i : Int) = some true := by
          intro y y1 y2 y3
          unfold offshootlaw06_RecLast.j2
          rw [if_pos (by simp only [List.length_cons, List.length_nil]; omega), W_in (by omega) (by omega), show (i : Int) + 1 = ((i + 1 : Nat) : Int) by omega]
          refine ih (i + 1) (l ++ [y]) ⟨by simp; omega, fun z hz => ?_⟩ (by simp [h0]) (by omega) (by omega) (by omega)
          rcases List.mem_append.1 hz with hz | hz
          · exact h.2 z hz
          · simp only [List.mem_cons, List.not_mem_nil, or_false] at hz
            rw [hz]; exact ⟨y1, y2, y3⟩
        unfold offshootlaw06_RecLast.j1
        by_cases hg : x.Gone = true
        · rw [if_pos hg]; exact last _ h7 (Nat.zero_le _) fun _ => rfl
        · rw [if_neg hg]; exact last x h7 h40 fun h => absurd h hg
      by_cases h40 : 40 < ((v0.getD i default).S.length : Int)
      · rw [if_pos (by simpa using h40), if_pos ⟨by omega, by omega⟩]
        exact key _ rfl (by rw [List.length_take]; show min 40 _ ≤ 40; omega)
      · rw [if_neg (by simpa using h40)]
        exact key _ rfl (by show (v0.getD i default).S.length ≤ 40; omega)
    · rw [if_neg (by simp only [Bool.and_eq_true, decide_eq_true_eq]; omega)]
      obtain ⟨r, c1, c2, c3, c4⟩ := commit_one l h d hd
      have ed : (⟨d.sure, d.cache, d.steps, d.falls, d.off⟩ : ODevDev) = d := by cases d; rfl
      rw [ed, c1, Option.bind_some, rec_Store_Get.f, Option.bind_some, awake06, Option.bind_some, c2, c3]
      rw [if_pos (by simp), dev_Dev_Off.f, Option.bind_some, c4, if_neg (by simp)]
      rcases List.eq_nil_or_concat l with rfl | ⟨q, x, rfl⟩
      · rw [if_pos (by simp), if_pos (by simp)]
        simp [chg, FW.mget]
      · rw [List.concat_eq_append] at h ⊢
        have hx := h.2 x (by simp)
        have e1 : IntKind.wrap .i64 (((q ++ [x]).length : Int) - 1) = (q.length : Int) := by
          rw [W_in (by have := h.1; omega) (by have := h.1; omega)]; simp
        have e2 : (q ++ [x]).getD q.length default = x := by simp [List.getD_eq_getElem?_getD]
        rw [e1, Int.toNat_natCast, e2, if_pos (fun _ => ⟨by omega, by simp; omega⟩)]
        have e3 : chg (q ++ [x]) [] = if x.Gone = true then FW.mdel (chg q []) 7 else FW.mput (chg q []) 7 x.S := by
          unfold chg
          rw [List.foldl_append, List.foldl_cons, List.foldl_nil, hx.1]
        have e4 : decide (((q ++ [x]).length : Int) = 0) = false := by
          rw [decide_eq_false_iff_not]; simp; omega
        rw [e3, e4]
        cases hg : x.Gone with
        | true => simp only [if_true, mget_del]; simp
        | false => simp only [Bool.false_eq_true, if_false, mget_put]; simp; omega
theorem rec_last_true (v0 : List ApiChange) : ∃ K, offshootlaw06_RecLast.f K v0 = some true := by
  refine ⟨KD, ?_⟩
  have h := open60
  cases ho : offshootlaw06_open.f KD 60 with
  | none => rw [ho] at h; cases h
  | some r =>
    rw [ho, Option.map_some] at h
    have h := Option.some.inj h
    simp only [Bool.and_eq_true, Bool.not_eq_true', decide_eq_true_eq, List.isEmpty_iff] at h
    obtain ⟨⟨⟨⟨⟨⟨⟨⟨⟨⟨⟨⟨⟨a1, a2⟩, a3⟩, a4⟩, b⟩, c1⟩, c2⟩, c3⟩, c4⟩, d1⟩, d2⟩, d3⟩, d4⟩, d5⟩ := h
    unfold offshootlaw06_RecLast.f
    rw [ho, Option.bind_some, a1, a2, a3, a4, b, c1, c2, c3, c4]
    have hd : Is 60 [] r.2.1 r.2.1.sure r.2.1.sure 0 0 0 := by
      refine ⟨d2, ?_, rfl, by rw [d3]; rfl, by rw [d3]; simp, by rw [d3]; simp, d4, d1⟩
      rw [d3, d5]
      exact ⟨by simp, rzero_len 60, by simp, by simp⟩
    exact rec_last_l1 r.2.1 hd v0 KD 0 [] ⟨by simp, by simp⟩ rfl (by omega) (by omega) (by unfold KD; omega)
end Go.Proofs.YtfbkgaandmebaaaGreat

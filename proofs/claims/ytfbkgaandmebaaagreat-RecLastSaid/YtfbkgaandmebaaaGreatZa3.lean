/- Put together by pack.py (my own program) of texts of mine: RtP4, RtP5, RtP6, RtP7, RtP8. -/
import Derived.Test.YtfbkgaandmebaaaGreatZa2
namespace Go.Proofs.YtfbkgaandmebaaaGreat
set_option linter.unusedVariables false
set_option maxRecDepth 20000
set_option maxHeartbeats 10000000
theorem rec_change.ok (K : Nat) (v0 : OMap67) (v1 : List ApiChange) (r : OMap67) (h : rec_change.f K v0 v1 = some r) :
    ∀ (b0 : Nat) (xr0_r : Nat), FW.OkH Go.Proofs.Tryz.prog 57 [.lit (.map (some xr0_r)), .row (r_ApiChange_cells v1)] (OMap67.items b0 xr0_r v0) (fun y I => y = .tup [] ∧ I = OMap67.items b0 xr0_r r) := by
  intro b0 xr0_r
  refine FW.enterH (xs := [.lit (.map (some xr0_r)), .row (r_ApiChange_cells v1)]) Go.Proofs.Tryz.func57 rfl Go.Proofs.Tryz.ntmps57 rfl ?_
  intro M w0 a hk
  replace hk : FW.S M w0 a w0.toWorld 23 [FW.mapI (.int .u64) (Value.int .u64) FW.evS xr0_r v0] [(0, [], .lit (.map (some xr0_r))), (1, [], .row (r_ApiChange_cells v1))] := hk
  unfold rec_change.f at h
  refine FW.wreg ?_; intro K' hK1
  refine FW.lfun (y := .row (r_ApiChange_cells v1)) hk rfl rfl rfl rfl (FW.f_move hk (FW.holds_nil _) rfl) ?_; clear hk; intro a w hk
  refine FW.lfun (y := .lit (.int .i64 (List.length v1 : Int))) hk rfl rfl rfl rfl (FW.f_len (R := r_ApiChange_cells) (f := ApiChange.cells) (l := v1) r_ApiChange_cells_eq Go.Proofs.Tryz.underlying22 hk (FW.holds_nil _) rfl) ?_; clear hk; intro a w hk
  refine FW.lfun (y := .lit (.int .i64 0)) hk rfl rfl rfl rfl (FW.f_move hk (FW.holds_nil _) rfl) ?_; clear hk; intro a w hk
  refine FW.lend (hK1 _ _ ?_); clear hK1 K'
  refine wp_block ?_
  refine FW.wloop (T := Nat × (List (Int × (List UInt8))) × List ApiChange × Int × Int) (fun x a w => match x with | (kl1, m1, v6, v7, v8) => FW.S M w0 a w 23 [FW.mapI (.int .u64) (Value.int .u64) FW.evS xr0_r m1] [(0, [], .lit (.map (some xr0_r))), (6, [], .row (r_ApiChange_cells v6)), (7, [], .lit (.int .i64 v7)), (8, [], .lit (.int .i64 v8))] ∧ rec_change.l1 K kl1 m1 v6 v7 v8 = some r) (fun x => x.1) (K, v0, v1, (List.length v1 : Int), 0) ⟨hk.sub ⟨rfl, rfl, rfl, rfl, trivial⟩, h⟩ ?_
  clear hk h
  rintro ⟨kl1, m1, v6, v7, v8⟩ a w ⟨hk, h⟩ K' hK2
  cases kl1 with
  | zero => simp [rec_change.l1] at h
  | succ kl1 =>
  rw [rec_change.l1.eq_2] at h
  refine FW.wreg ?_; intro K' hK3
  refine FW.lfun (y := .lit (.bool (decide (v8 < v7)))) hk rfl rfl rfl rfl ((FW.f_pure (FW.p_lss hk.kn (FW.holds_nil _) rfl rfl))) ?_; clear hk; intro a w hk
  refine FW.lend (hK3 _ _ ?_); clear hK3 K'
  refine FW.wseq ?_; intro K' hK4
  refine FW.wcondF (b := (decide (v8 < v7))) hk h rfl (fun h hb => ?_) (fun h hb => ?_)
  · skip
    refine wp_skip ?_
    (repeat first | refine FW.then_normal ?_ | refine FW.block_normal ?_); refine hK4 _ _ ?_
    refine FW.wseqJ (fun a w => ∃ (m1 : List (Int × (List UInt8))) (v6 : List ApiChange) (v7 : Int) (v8 : Int), FW.S M w0 a w 23 [FW.mapI (.int .u64) (Value.int .u64) FW.evS xr0_r m1] [(0, [], .lit (.map (some xr0_r))), (6, [], .row (r_ApiChange_cells v6)), (7, [], .lit (.int .i64 v7)), (8, [], .lit (.int .i64 v8))] ∧ rec_change.j1 (rec_change.l1 K kl1) K m1 v6 v7 v8 = some r) ?_ ?_
    · clear hk h
      rintro a w ⟨m1, v6, v7, v8, hk, h⟩
      unfold rec_change.j1 at h
      refine FW.wreg1 ?_
      refine FW.lfun (y := .lit (.int .i64 (IntKind.wrap .i64 (v8 + 1)))) hk rfl rfl rfl rfl ((FW.f_pure (FW.p_add hk.kn (FW.holds_nil _) rfl rfl))) ?_; clear hk; intro a w hk
      refine FW.lfun (y := .lit (.int .i64 (IntKind.wrap .i64 (v8 + 1)))) hk rfl rfl rfl rfl (FW.f_move hk (FW.holds_nil _) rfl) ?_; clear hk; intro a w hk
      refine wpList_nil ?_
      (repeat first | refine FW.then_normal ?_ | refine FW.block_normal ?_); exact hK2 (kl1, m1, v6, v7, (IntKind.wrap .i64 (v8 + 1))) _ _ (Nat.lt_succ_self _) ⟨hk.sub ⟨rfl, rfl, rfl, rfl, trivial⟩, h⟩
    · intro K' hK5
      refine wp_block ?_
      refine FW.wreg ?_; intro K' hK7
      obtain ⟨hc1, h⟩ := FW.chk h
      refine FW.lfun (y := .ref (ApiChange.cells (List.getD v6 (Int.toNat v8) default))) hk rfl rfl rfl rfl (FW.f_indexAddr (R := r_ApiChange_cells) (f := ApiChange.cells) (l := v6) (sz := 3) r_ApiChange_cells_eq (fun _ => rfl) hk (FW.holds_nil _) rfl rfl Go.Proofs.Tryz.underlying22 (by kernel_rfl) hc1) ?_; clear hk; intro a w hk
      refine FW.lfun (y := .agg ((ApiChange.cells (List.getD v6 (Int.toNat v8) default)))) hk rfl rfl rfl rfl (FW.f_load hk (FW.holds_nil _) rfl Go.Proofs.Tryz.underlying29 rfl rfl rfl rfl) ?_; clear hk; intro a w hk
      refine FW.l_alloc (zs := (ApiChange.cells (⟨0, [], false⟩ : ApiChange))) [] hk rfl rfl rfl rfl ?_; clear hk; intro bx1 a w hk
      refine FW.l_store (I' := [FW.blk bx1 29 ((ApiChange.cells (List.getD v6 (Int.toNat v8) default))), FW.mapI (.int .u64) (Value.int .u64) FW.evS xr0_r m1]) (cs' := (ApiChange.cells (List.getD v6 (Int.toNat v8) default))) (j := 0) hk rfl rfl rfl rfl rfl (by kernel_rfl) rfl rfl ?_; clear hk; intro w hk
      refine FW.lend (hK7 _ _ ?_); clear hK7 K'
      refine FW.wreg ?_; intro K' hK8
      refine FW.lfun (y := .lit (.pointer (some ⟨bx1, 2, none⟩))) hk rfl rfl rfl rfl (FW.f_fieldPtr hk (FW.holds_nil _) rfl Go.Proofs.Tryz.underlying29 rfl (by kernel_rfl) rfl) ?_; clear hk; intro a w hk
      refine FW.lfun (y := .lit (.bool ((List.getD v6 (Int.toNat v8) default).Gone))) hk rfl rfl rfl rfl (FW.f_loadBlk1 hk (FW.holds_nil _) (j := 0) rfl rfl Go.Proofs.Tryz.underlying4 rfl rfl) ?_; clear hk; intro a w hk
      refine FW.lend (hK8 _ _ ?_); clear hK8 K'
      refine FW.wcondF (b := (List.getD v6 (Int.toNat v8) default).Gone) hk h rfl (fun h hb => ?_) (fun h hb => ?_)
      · skip
        refine FW.wreg1 ?_
        refine FW.lfun (y := .lit (.map (some xr0_r))) hk rfl rfl rfl rfl (FW.f_move hk (FW.holds_nil _) rfl) ?_; clear hk; intro a w hk
        refine FW.lfun (y := .lit (.pointer (some ⟨bx1, 0, none⟩))) hk rfl rfl rfl rfl (FW.f_fieldPtr hk (FW.holds_nil _) rfl Go.Proofs.Tryz.underlying29 rfl (by kernel_rfl) rfl) ?_; clear hk; intro a w hk
        refine FW.lfun (y := .lit (.int .u64 ((List.getD v6 (Int.toNat v8) default).ID))) hk rfl rfl rfl rfl (FW.f_loadBlk1 hk (FW.holds_nil _) (j := 0) rfl rfl Go.Proofs.Tryz.underlying27 rfl rfl) ?_; clear hk; intro a w hk
        refine FW.l_mapDelete (ev := FW.evS) (k := ((List.getD v6 (Int.toNat v8) default).ID)) (I' := [FW.blk bx1 29 ((ApiChange.cells (List.getD v6 (Int.toNat v8) default))), FW.mapI (.int .u64) (Value.int .u64) FW.evS xr0_r (FW.mdel m1 ((List.getD v6 (Int.toNat v8) default).ID))]) (j := 1) hk rfl rfl rfl Go.Proofs.Tryz.underlying67 Go.Proofs.Tryz.underlying27 rfl ?_; clear hk; intro w hk
        refine wpList_nil ?_
        (repeat first | refine FW.then_normal ?_ | refine FW.block_normal ?_); exact hK5 _ _ ⟨(FW.mdel m1 ((List.getD v6 (Int.toNat v8) default).ID)), v6, v7, v8, (hk.drop 0).sub ⟨rfl, rfl, rfl, rfl, trivial⟩, h⟩
      refine FW.wreg1 ?_
      refine FW.lfun (y := .lit (.map (some xr0_r))) hk rfl rfl rfl rfl (FW.f_move hk (FW.holds_nil _) rfl) ?_; clear hk; intro a w hk
      refine FW.lfun (y := .lit (.pointer (some ⟨bx1, 0, none⟩))) hk rfl rfl rfl rfl (FW.f_fieldPtr hk (FW.holds_nil _) rfl Go.Proofs.Tryz.underlying29 rfl (by kernel_rfl) rfl) ?_; clear hk; intro a w hk
      refine FW.lfun (y := .lit (.int .u64 ((List.getD v6 (Int.toNat v8) default).ID))) hk rfl rfl rfl rfl (FW.f_loadBlk1 hk (FW.holds_nil _) (j := 0) rfl rfl Go.Proofs.Tryz.underlying27 rfl rfl) ?_; clear hk; intro a w hk
      refine FW.lfun (y := .lit (.pointer (some ⟨bx1, 1, none⟩))) hk rfl rfl rfl rfl (FW.f_fieldPtr hk (FW.holds_nil _) rfl Go.Proofs.Tryz.underlying29 rfl (by kernel_rfl) rfl) ?_; clear hk; intro a w hk
      refine FW.lfun (y := .lit (.string (FW.B ((List.getD v6 (Int.toNat v8) default).S)))) hk rfl rfl rfl rfl (FW.f_loadBlk1 hk (FW.holds_nil _) (j := 0) rfl rfl Go.Proofs.Tryz.underlying9 rfl rfl) ?_; clear hk; intro a w hk
      refine FW.l_mapUpdate (ev := FW.evS) (I' := [FW.blk bx1 29 ((ApiChange.cells (List.getD v6 (Int.toNat v8) default))), FW.mapI (.int .u64) (Value.int .u64) FW.evS xr0_r (FW.mput m1 ((List.getD v6 (Int.toNat v8) default).ID) ((List.getD v6 (Int.toNat v8) default).S))]) (j := 1) hk rfl rfl rfl rfl Go.Proofs.Tryz.underlying67 Go.Proofs.Tryz.underlying27 rfl ?_; clear hk; intro w hk
      refine wpList_nil ?_
      (repeat first | refine FW.then_normal ?_ | refine FW.block_normal ?_); exact hK5 _ _ ⟨(FW.mput m1 ((List.getD v6 (Int.toNat v8) default).ID) ((List.getD v6 (Int.toNat v8) default).S)), v6, v7, v8, (hk.drop 0).sub ⟨rfl, rfl, rfl, rfl, trivial⟩, h⟩
  refine wp_exit ?_; (repeat first | refine FW.then_exit ?_ | refine FW.block_exit_ne rfl ?_); refine FW.block_exit ?_
  (repeat first | refine FW.then_normal ?_ | refine FW.block_normal ?_)
  refine FW.fnorm ?_
  obtain rfl := Option.some.inj h
  replace hk := FW.S.keep (I1 := [FW.mapI (.int .u64) (Value.int .u64) FW.evS xr0_r m1]) (I2 := []) (js := [0]) hk rfl
  exact FW.fretH0 hk rfl ⟨rfl, rfl⟩
theorem rec_Store_do.ok (K : Nat) (v0 : ORecStore) (v0_0 : ODevDev) (v1 : List ApiChange) (r : ORecStore × ODevDev) (h : rec_Store_do.f K v0 v0_0 v1 = some r) :
    ∀ (b0 : Nat) (b0_0 : Nat) (xb0_1 : Nat) (xr0_2 : Nat) (xd0_0_0 : Option Addr) (xc0_0_0 : Nat) (xr0_0_1 : Nat) (xd0_0_3 : Option Addr) (xc0_0_3 : Nat), FW.OkH Go.Proofs.Tryz.prog 33 [.lit (.pointer (some ⟨b0, 0, none⟩)), .row (r_ApiChange_cells v1)] ((ORecStore.items b0 b0_0 xb0_1 xr0_2 v0) ++ (ODevDev.items b0_0 xd0_0_0 xc0_0_0 xr0_0_1 xd0_0_3 xc0_0_3 v0_0)) (fun y I => ∃ (zxb0_1 : Nat) (zxr0_2 : Nat) (zxd0_0_0 : Option Addr) (zxc0_0_0 : Nat) (zxr0_0_1 : Nat) (zxd0_0_3 : Option Addr) (zxc0_0_3 : Nat), y = .tup [] ∧ I = (ORecStore.items b0 b0_0 zxb0_1 zxr0_2 r.1) ++ (ODevDev.items b0_0 zxd0_0_0 zxc0_0_0 zxr0_0_1 zxd0_0_3 zxc0_0_3 r.2)) := by
  intro b0 b0_0 xb0_1 xr0_2 xd0_0_0 xc0_0_0 xr0_0_1 xd0_0_3 xc0_0_3
  refine FW.enterH (xs := [.lit (.pointer (some ⟨b0, 0, none⟩)), .row (r_ApiChange_cells v1)]) Go.Proofs.Tryz.func33 rfl Go.Proofs.Tryz.ntmps33 rfl ?_
  intro M w0 a hk
  replace hk : FW.S M w0 a w0.toWorld 17 [FW.blk b0 69 ([.lit (.pointer (some ⟨b0_0, 0, none⟩)), .lit (.pointer (some ⟨xb0_1, 0, none⟩)), .lit (.map (some xr0_2)), .lit (.int .i64 v0.half), .lit (.int .u64 v0.round), .lit (.bool v0.dead)]), FW.mapI (.int .u64) (Value.int .u64) FW.evS xr0_2 v0.m, FW.blk xb0_1 99 ([.lit (.pointer (some ⟨b0_0, 0, none⟩)), .lit (.int .i64 v0.l.from_), .lit (.int .i64 v0.l.to_), .lit (.int .i64 v0.l.at_), .lit (.int .u64 v0.l.next)]), FW.blk b0_0 75 ([.lit (.slice xd0_0_0 (List.length v0_0.sure) xc0_0_0), .lit (.map (some xr0_0_1)), .lit (.int .i64 v0_0.steps), .lit (.slice xd0_0_3 (List.length v0_0.falls) xc0_0_3), .lit (.bool v0_0.off)]), FW.orow xd0_0_0 xc0_0_0 9 1 c_str v0_0.sure, FW.mapI (.int .i64) (Value.int .i64) FW.evS xr0_0_1 v0_0.cache, FW.orow xd0_0_3 xc0_0_3 52 3 ApiFall.cells v0_0.falls] [(0, [], .lit (.pointer (some ⟨b0, 0, none⟩))), (1, [], .row (r_ApiChange_cells v1))] := hk
  unfold rec_Store_do.f at h
  refine FW.wreg ?_; intro K' hK1
  refine FW.lfun (y := .lit (.pointer (some ⟨b0, 0, none⟩))) hk rfl rfl rfl rfl (FW.f_move hk (FW.holds_nil _) rfl) ?_; clear hk; intro a w hk
  refine FW.lfun (y := .lit (.pointer (some ⟨b0, 0, none⟩))) hk rfl rfl rfl rfl ((FW.f_pure (FW.p_nilCheck hk.kn (FW.holds_nil _) rfl))) ?_; clear hk; intro a w hk
  refine FW.lfun (y := .lit (.pointer (some ⟨b0, 2, none⟩))) hk rfl rfl rfl rfl (FW.f_fieldPtr hk (FW.holds_nil _) rfl Go.Proofs.Tryz.underlying69 rfl (by kernel_rfl) rfl) ?_; clear hk; intro a w hk
  refine FW.lfun (y := .lit (.map (some xr0_2))) hk rfl rfl rfl rfl (FW.f_loadBlk1 hk (FW.holds_nil _) (j := 0) rfl rfl Go.Proofs.Tryz.underlying67 rfl rfl) ?_; clear hk; intro a w hk
  refine FW.l_callH (I1 := [FW.mapI (.int .u64) (Value.int .u64) FW.evS xr0_2 v0.m]) (I2 := [FW.blk b0 69 ([.lit (.pointer (some ⟨b0_0, 0, none⟩)), .lit (.pointer (some ⟨xb0_1, 0, none⟩)), .lit (.map (some xr0_2)), .lit (.int .i64 v0.half), .lit (.int .u64 v0.round), .lit (.bool v0.dead)]), FW.blk xb0_1 99 ([.lit (.pointer (some ⟨b0_0, 0, none⟩)), .lit (.int .i64 v0.l.from_), .lit (.int .i64 v0.l.to_), .lit (.int .i64 v0.l.at_), .lit (.int .u64 v0.l.next)]), FW.blk b0_0 75 ([.lit (.slice xd0_0_0 (List.length v0_0.sure) xc0_0_0), .lit (.map (some xr0_0_1)), .lit (.int .i64 v0_0.steps), .lit (.slice xd0_0_3 (List.length v0_0.falls) xc0_0_3), .lit (.bool v0_0.off)]), FW.orow xd0_0_0 xc0_0_0 9 1 c_str v0_0.sure, FW.mapI (.int .i64) (Value.int .i64) FW.evS xr0_0_1 v0_0.cache, FW.orow xd0_0_3 xc0_0_3 52 3 ApiFall.cells v0_0.falls]) (js := [1]) hk rfl rfl rfl rfl rfl Go.Proofs.Tryz.func56 rfl (by kernel_rfl) (mapsCloneU.ok v0.m _) ?_; clear hk
  rintro _ _ ⟨zr1, rfl, rfl⟩ a w hk
  refine FW.lfun (y := .lit (.map (some zr1))) hk rfl rfl rfl rfl (FW.f_assign hk (FW.holds_nil _) rfl) ?_; clear hk; intro a w hk
  refine FW.lend (hK1 _ _ ?_); clear hK1 K'
  refine FW.wreg ?_; intro K' hK2
  refine FW.lfun (y := .lit (.map (some zr1))) hk rfl rfl rfl rfl (FW.f_move hk (FW.holds_nil _) rfl) ?_; clear hk; intro a w hk
  refine FW.lfun (y := .row (r_ApiChange_cells v1)) hk rfl rfl rfl rfl (FW.f_move hk (FW.holds_nil _) rfl) ?_; clear hk; intro a w hk
  obtain ⟨t1, hr_t1, h⟩ := FW.bnd h
  refine FW.l_callH (I1 := (OMap67.items 0 zr1 v0.m)) (I2 := [FW.mapI (.int .u64) (Value.int .u64) FW.evS xr0_2 v0.m, FW.blk b0 69 ([.lit (.pointer (some ⟨b0_0, 0, none⟩)), .lit (.pointer (some ⟨xb0_1, 0, none⟩)), .lit (.map (some xr0_2)), .lit (.int .i64 v0.half), .lit (.int .u64 v0.round), .lit (.bool v0.dead)]), FW.blk xb0_1 99 ([.lit (.pointer (some ⟨b0_0, 0, none⟩)), .lit (.int .i64 v0.l.from_), .lit (.int .i64 v0.l.to_), .lit (.int .i64 v0.l.at_), .lit (.int .u64 v0.l.next)]), FW.blk b0_0 75 ([.lit (.slice xd0_0_0 (List.length v0_0.sure) xc0_0_0), .lit (.map (some xr0_0_1)), .lit (.int .i64 v0_0.steps), .lit (.slice xd0_0_3 (List.length v0_0.falls) xc0_0_3), .lit (.bool v0_0.off)]), FW.orow xd0_0_0 xc0_0_0 9 1 c_str v0_0.sure, FW.mapI (.int .i64) (Value.int .i64) FW.evS xr0_0_1 v0_0.cache, FW.orow xd0_0_3 xc0_0_3 52 3 ApiFall.cells v0_0.falls]) (js := [0]) hk rfl rfl rfl rfl rfl Go.Proofs.Tryz.func57 rfl (by kernel_rfl) (rec_change.ok K v0.m v1 _ hr_t1 0 zr1) ?_; clear hk
  rintro _ _ ⟨rfl, rfl⟩ a w hk
  refine FW.lend (hK2 _ _ ?_); clear hK2 K'
  refine FW.wreg1 ?_
  refine FW.lfun (y := .lit (.pointer (some ⟨b0, 0, none⟩))) hk rfl rfl rfl rfl (FW.f_move hk (FW.holds_nil _) rfl) ?_; clear hk; intro a w hk
  refine FW.lfun (y := .lit (.map (some zr1))) hk rfl rfl rfl rfl (FW.f_move hk (FW.holds_nil _) rfl) ?_; clear hk; intro a w hk
  refine FW.lfun (y := .lit (.pointer (some ⟨b0, 0, none⟩))) hk rfl rfl rfl rfl ((FW.f_pure (FW.p_nilCheck hk.kn (FW.holds_nil _) rfl))) ?_; clear hk; intro a w hk
  refine FW.lfun (y := .lit (.pointer (some ⟨b0, 2, none⟩))) hk rfl rfl rfl rfl (FW.f_fieldPtr hk (FW.holds_nil _) rfl Go.Proofs.Tryz.underlying69 rfl (by kernel_rfl) rfl) ?_; clear hk; intro a w hk
  refine FW.l_store (I' := [FW.mapI (.int .u64) (Value.int .u64) FW.evS zr1 t1, FW.mapI (.int .u64) (Value.int .u64) FW.evS xr0_2 v0.m, FW.blk b0 69 ([.lit (.pointer (some ⟨b0_0, 0, none⟩)), .lit (.pointer (some ⟨xb0_1, 0, none⟩)), .lit (.map (some zr1)), .lit (.int .i64 v0.half), .lit (.int .u64 v0.round), .lit (.bool v0.dead)]), FW.blk xb0_1 99 ([.lit (.pointer (some ⟨b0_0, 0, none⟩)), .lit (.int .i64 v0.l.from_), .lit (.int .i64 v0.l.to_), .lit (.int .i64 v0.l.at_), .lit (.int .u64 v0.l.next)]), FW.blk b0_0 75 ([.lit (.slice xd0_0_0 (List.length v0_0.sure) xc0_0_0), .lit (.map (some xr0_0_1)), .lit (.int .i64 v0_0.steps), .lit (.slice xd0_0_3 (List.length v0_0.falls) xc0_0_3), .lit (.bool v0_0.off)]), FW.orow xd0_0_0 xc0_0_0 9 1 c_str v0_0.sure, FW.mapI (.int .i64) (Value.int .i64) FW.evS xr0_0_1 v0_0.cache, FW.orow xd0_0_3 xc0_0_3 52 3 ApiFall.cells v0_0.falls]) (cs' := [.lit (.pointer (some ⟨b0_0, 0, none⟩)), .lit (.pointer (some ⟨xb0_1, 0, none⟩)), .lit (.map (some zr1)), .lit (.int .i64 v0.half), .lit (.int .u64 v0.round), .lit (.bool v0.dead)]) (j := 2) hk rfl rfl rfl rfl rfl (by kernel_rfl) rfl rfl ?_; clear hk; intro w hk
  refine wpList_nil ?_
  (repeat first | refine FW.then_normal ?_ | refine FW.block_normal ?_)
  refine FW.fnorm ?_
  obtain rfl := Option.some.inj h
  replace hk := FW.S.keep (I1 := [FW.blk b0 69 ([.lit (.pointer (some ⟨b0_0, 0, none⟩)), .lit (.pointer (some ⟨xb0_1, 0, none⟩)), .lit (.map (some zr1)), .lit (.int .i64 v0.half), .lit (.int .u64 v0.round), .lit (.bool v0.dead)]), FW.mapI (.int .u64) (Value.int .u64) FW.evS zr1 t1, FW.blk xb0_1 99 ([.lit (.pointer (some ⟨b0_0, 0, none⟩)), .lit (.int .i64 v0.l.from_), .lit (.int .i64 v0.l.to_), .lit (.int .i64 v0.l.at_), .lit (.int .u64 v0.l.next)]), FW.blk b0_0 75 ([.lit (.slice xd0_0_0 (List.length v0_0.sure) xc0_0_0), .lit (.map (some xr0_0_1)), .lit (.int .i64 v0_0.steps), .lit (.slice xd0_0_3 (List.length v0_0.falls) xc0_0_3), .lit (.bool v0_0.off)]), FW.orow xd0_0_0 xc0_0_0 9 1 c_str v0_0.sure, FW.mapI (.int .i64) (Value.int .i64) FW.evS xr0_0_1 v0_0.cache, FW.orow xd0_0_3 xc0_0_3 52 3 ApiFall.cells v0_0.falls]) (I2 := [FW.mapI (.int .u64) (Value.int .u64) FW.evS xr0_2 v0.m]) (js := [7, 7, 7, 7, 7, 5, 7]) hk rfl
  exact FW.fretH0 hk rfl ⟨xb0_1, zr1, xd0_0_0, xc0_0_0, xr0_0_1, xd0_0_3, xc0_0_3, rfl, rfl⟩
theorem rec_Open.ok (K : Nat) (v0 : ODevDev) (r : ORecStore × Int × ODevDev) (h : rec_Open.f K v0 = some r) :
    ∀ (b0 : Nat) (xd0_0 : Option Addr) (xc0_0 : Nat) (xr0_1 : Nat) (xd0_3 : Option Addr) (xc0_3 : Nat), FW.OkH Go.Proofs.Tryz.prog 19 [.lit (.pointer (some ⟨b0, 0, none⟩))] (ODevDev.items b0 xd0_0 xc0_0 xr0_1 xd0_3 xc0_3 v0) (fun y I => ∃ (bn0 : Nat) (zxbn0_1 : Nat) (zxrn0_2 : Nat) (zxd0_0 : Option Addr) (zxc0_0 : Nat) (zxr0_1 : Nat) (zxd0_3 : Option Addr) (zxc0_3 : Nat), y = .tup [.lit (.pointer (some ⟨bn0, 0, none⟩)), .lit (.int .i64 r.2.1)] ∧ I = (ORecStore.items bn0 b0 zxbn0_1 zxrn0_2 r.1) ++ (ODevDev.items b0 zxd0_0 zxc0_0 zxr0_1 zxd0_3 zxc0_3 r.2.2)) := by
  intro b0 xd0_0 xc0_0 xr0_1 xd0_3 xc0_3
  refine FW.enterH (xs := [.lit (.pointer (some ⟨b0, 0, none⟩))]) Go.Proofs.Tryz.func19 rfl Go.Proofs.Tryz.ntmps19 rfl ?_
  intro M w0 a hk
  replace hk : FW.S M w0 a w0.toWorld 98 [FW.blk b0 75 ([.lit (.slice xd0_0 (List.length v0.sure) xc0_0), .lit (.map (some xr0_1)), .lit (.int .i64 v0.steps), .lit (.slice xd0_3 (List.length v0.falls) xc0_3), .lit (.bool v0.off)]), FW.orow xd0_0 xc0_0 9 1 c_str v0.sure, FW.mapI (.int .i64) (Value.int .i64) FW.evS xr0_1 v0.cache, FW.orow xd0_3 xc0_3 52 3 ApiFall.cells v0.falls] [(0, [], .lit (.pointer (some ⟨b0, 0, none⟩)))] := hk
  unfold rec_Open.f at h
  refine FW.wreg ?_; intro K' hK1
  refine FW.lfun (y := .lit (.pointer none)) hk rfl rfl rfl rfl (FW.f_assign hk (FW.holds_nil _) rfl) ?_; clear hk; intro a w hk
  refine FW.lfun (y := .lit (.int .i64 0)) hk rfl rfl rfl rfl (FW.f_assign hk (FW.holds_nil _) rfl) ?_; clear hk; intro a w hk
  refine FW.lend (hK1 _ _ ?_); clear hK1 K'
  refine FW.wseq ?_; intro K' hK2
  refine wp_block ?_
  refine FW.wreg ?_; intro K' hK3
  refine FW.lfun (y := .lit (.pointer (some ⟨b0, 0, none⟩))) hk rfl rfl rfl rfl (FW.f_move hk (FW.holds_nil _) rfl) ?_; clear hk; intro a w hk
  refine FW.lfun (y := .lit (.bool false)) hk rfl rfl rfl rfl ((FW.f_pure (FW.p_ptrEq Go.Proofs.Tryz.underlying24 hk.kn (FW.holds_nil _) rfl rfl rfl))) ?_; clear hk; intro a w hk
  refine FW.lfun (y := .lit (.bool false)) hk rfl rfl rfl rfl (FW.f_move hk (FW.holds_nil _) rfl) ?_; clear hk; intro a w hk
  refine FW.lfunG (y := .lit (.pointer (some ⟨b0, 0, none⟩))) hk rfl rfl rfl rfl rfl rfl rfl rfl (fun hc => FW.f_move hk hc rfl) ?_; clear hk; intro a w hk
  obtain ⟨t1, hr_t1, hn_t1, h⟩ := FW.bndG2 h
  refine FW.l_callHG (I1 := (ODevDev.items b0 xd0_0 xc0_0 xr0_1 xd0_3 xc0_3 v0)) (I2 := []) (js := [3, 3, 3, 3]) hk rfl rfl rfl rfl rfl rfl rfl rfl rfl Go.Proofs.Tryz.func36 rfl (by kernel_rfl) (fun hc => dev_Dev_Len.ok v0 _ (hr_t1 (FW.asm_out (p := false = false) hk.kn hc (fun e0 => e0))) b0 xd0_0 xc0_0 xr0_1 xd0_3 xc0_3) (fun hn => by obtain rfl := hn_t1 (fun hp => hn (FW.asm_in hk.kn (by have e0 := hp; exact ⟨e0, rfl, trivial⟩))); exact ⟨_, rfl, rfl⟩) ?_; clear hk
  rintro _ _ ⟨rfl, rfl⟩ a w hk
  refine FW.lfunG (y := .lit (.bool (decide (t1 < 16)))) hk rfl rfl rfl rfl rfl rfl rfl rfl (fun hc => (FW.f_pure (FW.p_lss hk.kn hc rfl rfl))) ?_; clear hk; intro a w hk
  refine FW.lfun (y := .lit (.bool (decide (t1 < 16)))) hk rfl rfl rfl rfl ((FW.f_pure (FW.p_pickX hk.kn (FW.holds_nil _) rfl rfl))) ?_; clear hk; intro a w hk
  refine FW.lfun (y := .lit (.bool (decide (t1 < 16)))) hk rfl rfl rfl rfl (FW.f_assign hk (FW.holds_nil _) rfl) ?_; clear hk; intro a w hk
  refine FW.lend (hK3 _ _ ?_); clear hK3 K'
  refine FW.wcondF (b := (decide (t1 < 16))) hk h rfl (fun h hb => ?_) (fun h hb => ?_)
  · skip
    cases h
  refine FW.wreg ?_; intro K' hK4
  refine FW.lfun (y := .lit (.pointer (some ⟨b0, 0, none⟩))) hk rfl rfl rfl rfl (FW.f_move hk (FW.holds_nil _) rfl) ?_; clear hk; intro a w hk
  obtain ⟨t2, hr_t2, h⟩ := FW.bnd h
  refine FW.l_callH (I1 := (ODevDev.items b0 xd0_0 xc0_0 xr0_1 xd0_3 xc0_3 v0)) (I2 := []) (js := [3, 3, 3, 3]) hk rfl rfl rfl rfl rfl Go.Proofs.Tryz.func13 rfl (by kernel_rfl) (dev_Dev_Off.ok v0 _ hr_t2 b0 xd0_0 xc0_0 xr0_1 xd0_3 xc0_3) ?_; clear hk
  rintro _ _ ⟨rfl, rfl⟩ a w hk
  refine FW.lfun (y := .lit (.bool t2)) hk rfl rfl rfl rfl (FW.f_assign hk (FW.holds_nil _) rfl) ?_; clear hk; intro a w hk
  refine FW.lend (hK4 _ _ ?_); clear hK4 K'
  refine FW.wcondF (b := t2) hk h rfl (fun h hb => ?_) (fun h hb => ?_)
  · skip
    cases h
  refine wp_skip ?_
  (repeat first | refine FW.then_normal ?_ | refine FW.block_normal ?_); refine hK2 _ _ ?_
  refine FW.wreg ?_; intro K' hK5
  refine FW.lfun (y := .lit (.pointer (some ⟨b0, 0, none⟩))) hk rfl rfl rfl rfl (FW.f_move hk (FW.holds_nil _) rfl) ?_; clear hk; intro a w hk
  refine FW.l_makeMap (κ := Int) (ν := List UInt8) (D := .int .u64) (ek := Value.int .u64) (ev := FW.evS) hk rfl rfl FW.keyU64 ?_; clear hk; intro r1 a w hk
  refine FW.lfun (y := .agg ([.lit (.pointer (some ⟨b0, 0, none⟩)), .lit (.pointer none), .lit (.map (some r1)), .lit (.int .i64 0), .lit (.int .u64 0), .lit (.bool false)])) hk rfl rfl rfl rfl (FW.f_build hk (FW.holds_nil _) rfl rfl) ?_; clear hk; intro a w hk
  refine FW.l_box (cs := [.lit (.pointer (some ⟨b0, 0, none⟩)), .lit (.pointer none), .lit (.map (some r1)), .lit (.int .i64 0), .lit (.int .u64 0), .lit (.bool false)]) hk rfl rfl rfl rfl rfl ?_; clear hk; intro bx1 a w hk
  refine FW.lfun (y := .lit (.pointer (some ⟨bx1, 0, none⟩))) hk rfl rfl rfl rfl (FW.f_assign hk (FW.holds_nil _) rfl) ?_; clear hk; intro a w hk
  refine FW.lend (hK5 _ _ ?_); clear hK5 K'
  refine FW.wreg ?_; intro K' hK6
  refine FW.lfun (y := .lit (.string (FW.B ([] : List UInt8)))) hk rfl rfl rfl rfl (FW.f_assign hk (FW.holds_nil _) rfl) ?_; clear hk; intro a w hk
  refine FW.lend (hK6 _ _ ?_); clear hK6 K'
  refine FW.wreg ?_; intro K' hK7
  refine FW.lfun (y := .lit (.pointer (some ⟨bx1, 0, none⟩))) hk rfl rfl rfl rfl (FW.f_move hk (FW.holds_nil _) rfl) ?_; clear hk; intro a w hk
  refine FW.lfun (y := .lit (.pointer (some ⟨bx1, 0, none⟩))) hk rfl rfl rfl rfl (FW.f_move hk (FW.holds_nil _) rfl) ?_; clear hk; intro a w hk
  refine FW.lfun (y := .lit (.pointer (some ⟨b0, 0, none⟩))) hk rfl rfl rfl rfl (FW.f_move hk (FW.holds_nil _) rfl) ?_; clear hk; intro a w hk
  obtain ⟨t3, hr_t3, h⟩ := FW.bnd h
  refine FW.l_callH (I1 := (ODevDev.items b0 xd0_0 xc0_0 xr0_1 xd0_3 xc0_3 v0)) (I2 := [FW.blk bx1 69 ([.lit (.pointer (some ⟨b0, 0, none⟩)), .lit (.pointer none), .lit (.map (some r1)), .lit (.int .i64 0), .lit (.int .u64 0), .lit (.bool false)]), FW.mapI (.int .u64) (Value.int .u64) FW.evS r1 ([] : List (Int × (List UInt8)))]) (js := [5, 5, 5, 5]) hk rfl rfl rfl rfl rfl Go.Proofs.Tryz.func37 rfl (by kernel_rfl) (rec_newest.ok K v0 _ hr_t3 b0 xd0_0 xc0_0 xr0_1 xd0_3 xc0_3) ?_; clear hk
  rintro _ _ ⟨zd1, zc1, zr1, zd2, zc2, rfl, rfl⟩ a w hk
  refine FW.lfun (y := .tup [.lit (.int .i64 t3.1), .lit (.int .u64 t3.2.1), .lit (.string (FW.B t3.2.2.1))]) hk rfl rfl rfl rfl (FW.f_move hk (FW.holds_nil _) rfl) ?_; clear hk; intro a w hk
  refine FW.lfun (y := .lit (.int .i64 t3.1)) hk rfl rfl rfl rfl (FW.f_extract hk (FW.holds_nil _) rfl rfl) ?_; clear hk; intro a w hk
  refine FW.lfun (y := .lit (.int .u64 t3.2.1)) hk rfl rfl rfl rfl (FW.f_extract hk (FW.holds_nil _) rfl rfl) ?_; clear hk; intro a w hk
  refine FW.lfun (y := .lit (.string (FW.B t3.2.2.1))) hk rfl rfl rfl rfl (FW.f_extract hk (FW.holds_nil _) rfl rfl) ?_; clear hk; intro a w hk
  refine FW.lfun (y := .lit (.pointer (some ⟨bx1, 0, none⟩))) hk rfl rfl rfl rfl ((FW.f_pure (FW.p_nilCheck hk.kn (FW.holds_nil _) rfl))) ?_; clear hk; intro a w hk
  refine FW.lfun (y := .lit (.pointer (some ⟨bx1, 3, none⟩))) hk rfl rfl rfl rfl (FW.f_fieldPtr hk (FW.holds_nil _) rfl Go.Proofs.Tryz.underlying69 rfl (by kernel_rfl) rfl) ?_; clear hk; intro a w hk
  refine FW.l_store (I' := [FW.blk b0 75 ([.lit (.slice zd1 (List.length t3.2.2.2.sure) zc1), .lit (.map (some zr1)), .lit (.int .i64 t3.2.2.2.steps), .lit (.slice zd2 (List.length t3.2.2.2.falls) zc2), .lit (.bool t3.2.2.2.off)]), FW.orow zd1 zc1 9 1 c_str t3.2.2.2.sure, FW.mapI (.int .i64) (Value.int .i64) FW.evS zr1 t3.2.2.2.cache, FW.orow zd2 zc2 52 3 ApiFall.cells t3.2.2.2.falls, FW.blk bx1 69 ([.lit (.pointer (some ⟨b0, 0, none⟩)), .lit (.pointer none), .lit (.map (some r1)), .lit (.int .i64 t3.1), .lit (.int .u64 0), .lit (.bool false)]), FW.mapI (.int .u64) (Value.int .u64) FW.evS r1 ([] : List (Int × (List UInt8)))]) (cs' := [.lit (.pointer (some ⟨b0, 0, none⟩)), .lit (.pointer none), .lit (.map (some r1)), .lit (.int .i64 t3.1), .lit (.int .u64 0), .lit (.bool false)]) (j := 4) hk rfl rfl rfl rfl rfl (by kernel_rfl) rfl rfl ?_; clear hk; intro w hk
  refine FW.lfun (y := .lit (.pointer (some ⟨bx1, 0, none⟩))) hk rfl rfl rfl rfl ((FW.f_pure (FW.p_nilCheck hk.kn (FW.holds_nil _) rfl))) ?_; clear hk; intro a w hk
  refine FW.lfun (y := .lit (.pointer (some ⟨bx1, 4, none⟩))) hk rfl rfl rfl rfl (FW.f_fieldPtr hk (FW.holds_nil _) rfl Go.Proofs.Tryz.underlying69 rfl (by kernel_rfl) rfl) ?_; clear hk; intro a w hk
  refine FW.l_store (I' := [FW.blk b0 75 ([.lit (.slice zd1 (List.length t3.2.2.2.sure) zc1), .lit (.map (some zr1)), .lit (.int .i64 t3.2.2.2.steps), .lit (.slice zd2 (List.length t3.2.2.2.falls) zc2), .lit (.bool t3.2.2.2.off)]), FW.orow zd1 zc1 9 1 c_str t3.2.2.2.sure, FW.mapI (.int .i64) (Value.int .i64) FW.evS zr1 t3.2.2.2.cache, FW.orow zd2 zc2 52 3 ApiFall.cells t3.2.2.2.falls, FW.blk bx1 69 ([.lit (.pointer (some ⟨b0, 0, none⟩)), .lit (.pointer none), .lit (.map (some r1)), .lit (.int .i64 t3.1), .lit (.int .u64 t3.2.1), .lit (.bool false)]), FW.mapI (.int .u64) (Value.int .u64) FW.evS r1 ([] : List (Int × (List UInt8)))]) (cs' := [.lit (.pointer (some ⟨b0, 0, none⟩)), .lit (.pointer none), .lit (.map (some r1)), .lit (.int .i64 t3.1), .lit (.int .u64 t3.2.1), .lit (.bool false)]) (j := 4) hk rfl rfl rfl rfl rfl (by kernel_rfl) rfl rfl ?_; clear hk; intro w hk
  refine FW.lfun (y := .lit (.string (FW.B t3.2.2.1))) hk rfl rfl rfl rfl (FW.f_assign hk (FW.holds_nil _) rfl) ?_; clear hk; intro a w hk
  refine FW.lend (hK7 _ _ ?_); clear hK7 K'
  refine FW.wreg ?_; intro K' hK8
  refine FW.lfun (y := .lit (.int .u64 1)) hk rfl rfl rfl rfl (FW.f_assign hk (FW.holds_nil _) rfl) ?_; clear hk; intro a w hk
  refine FW.lend (hK8 _ _ ?_); clear hK8 K'
  refine FW.wseqJ (fun a w => ∃ (y1_2 : Int) (y1_4 : Bool) (l2 : List (List UInt8)) (m3 : List (Int × (List UInt8))) (l4 : List ApiFall) (y6_3 : Int) (y6_4 : Int) (y6_5 : Bool) (v6 : Int) (xd2 : Option Addr) (xc2 : Nat) (xr3 : Nat) (xd4 : Option Addr) (xc4 : Nat), FW.S M w0 a w 98 [FW.blk b0 75 ([.lit (.slice xd2 (List.length l2) xc2), .lit (.map (some xr3)), .lit (.int .i64 y1_2), .lit (.slice xd4 (List.length l4) xc4), .lit (.bool y1_4)]), FW.orow xd2 xc2 9 1 c_str l2, FW.mapI (.int .i64) (Value.int .i64) FW.evS xr3 m3, FW.orow xd4 xc4 52 3 ApiFall.cells l4, FW.blk bx1 69 ([.lit (.pointer (some ⟨b0, 0, none⟩)), .lit (.pointer none), .lit (.map (some r1)), .lit (.int .i64 y6_3), .lit (.int .u64 y6_4), .lit (.bool y6_5)]), FW.mapI (.int .u64) (Value.int .u64) FW.evS r1 ([] : List (Int × (List UInt8)))] [(0, [], .lit (.pointer (some ⟨b0, 0, none⟩))), (4, [], .lit (.pointer (some ⟨bx1, 0, none⟩))), (6, [], .lit (.int .u64 v6))] ∧ rec_Open.j1 K y1_2 y1_4 l2 m3 l4 y6_3 y6_4 y6_5 v6 = some r) ?_ ?_
  · clear hk h
    rintro a w ⟨y1_2, y1_4, l2, m3, l4, y6_3, y6_4, y6_5, v6, xd2, xc2, xr3, xd4, xc4, hk, h⟩
    unfold rec_Open.j1 at h
    refine FW.wreg ?_; intro K' hK10
    refine FW.lfun (y := .lit (.pointer (some ⟨b0, 0, none⟩))) hk rfl rfl rfl rfl (FW.f_move hk (FW.holds_nil _) rfl) ?_; clear hk; intro a w hk
    obtain ⟨t4, hr_t4, h⟩ := FW.bnd h
    refine FW.l_callH (I1 := (ODevDev.items b0 xd2 xc2 xr3 xd4 xc4 (⟨l2, m3, y1_2, l4, y1_4⟩ : ODevDev))) (I2 := [FW.blk bx1 69 ([.lit (.pointer (some ⟨b0, 0, none⟩)), .lit (.pointer none), .lit (.map (some r1)), .lit (.int .i64 y6_3), .lit (.int .u64 y6_4), .lit (.bool y6_5)]), FW.mapI (.int .u64) (Value.int .u64) FW.evS r1 ([] : List (Int × (List UInt8)))]) (js := [3, 3, 3, 3]) hk rfl rfl rfl rfl rfl Go.Proofs.Tryz.func40 rfl (by kernel_rfl) (rec_parts.ok (⟨l2, m3, y1_2, l4, y1_4⟩ : ODevDev) _ hr_t4 b0 xd2 xc2 xr3 xd4 xc4) ?_; clear hk
    rintro _ _ ⟨rfl, rfl⟩ a w hk
    refine FW.l_alloc (zs := [.lit (.int .i64 0), .lit (.int .i64 0), .lit (.int .i64 0), .lit (.int .i64 0)]) [] hk rfl rfl rfl rfl ?_; clear hk; intro bx2 a w hk
    refine FW.l_store (I' := [FW.blk bx2 79 ([.lit (.int .i64 t4.1), .lit (.int .i64 t4.2.1), .lit (.int .i64 t4.2.2.1), .lit (.int .i64 t4.2.2.2)]), FW.blk b0 75 ([.lit (.slice xd2 (List.length l2) xc2), .lit (.map (some xr3)), .lit (.int .i64 y1_2), .lit (.slice xd4 (List.length l4) xc4), .lit (.bool y1_4)]), FW.orow xd2 xc2 9 1 c_str l2, FW.mapI (.int .i64) (Value.int .i64) FW.evS xr3 m3, FW.orow xd4 xc4 52 3 ApiFall.cells l4, FW.blk bx1 69 ([.lit (.pointer (some ⟨b0, 0, none⟩)), .lit (.pointer none), .lit (.map (some r1)), .lit (.int .i64 y6_3), .lit (.int .u64 y6_4), .lit (.bool y6_5)]), FW.mapI (.int .u64) (Value.int .u64) FW.evS r1 ([] : List (Int × (List UInt8)))]) (cs' := [.lit (.int .i64 t4.1), .lit (.int .i64 t4.2.1), .lit (.int .i64 t4.2.2.1), .lit (.int .i64 t4.2.2.2)]) (j := 0) hk rfl rfl rfl rfl rfl (by kernel_rfl) rfl rfl ?_; clear hk; intro w hk
    replace hk := FW.S.toArr (f := c_i64) (N := 4) (l := [t4.1, t4.2.1, t4.2.2.1, t4.2.2.2]) (I' := [FW.orow (some ⟨bx2, 0, none⟩) 4 79 1 c_i64 ([t4.1, t4.2.1, t4.2.2.1, t4.2.2.2] : List Int), FW.blk b0 75 ([.lit (.slice xd2 (List.length l2) xc2), .lit (.map (some xr3)), .lit (.int .i64 y1_2), .lit (.slice xd4 (List.length l4) xc4), .lit (.bool y1_4)]), FW.orow xd2 xc2 9 1 c_str l2, FW.mapI (.int .i64) (Value.int .i64) FW.evS xr3 m3, FW.orow xd4 xc4 52 3 ApiFall.cells l4, FW.blk bx1 69 ([.lit (.pointer (some ⟨b0, 0, none⟩)), .lit (.pointer none), .lit (.map (some r1)), .lit (.int .i64 y6_3), .lit (.int .u64 y6_4), .lit (.bool y6_5)]), FW.mapI (.int .u64) (Value.int .u64) FW.evS r1 ([] : List (Int × (List UInt8)))]) (j := 0) (fun _ => rfl) hk rfl rfl rfl (by decide) rfl
    refine FW.lend (hK10 _ _ ?_); clear hK10 K'
    refine FW.wreg ?_; intro K' hK11
    refine FW.lfun (y := .lit (.pointer (some ⟨b0, 0, none⟩))) hk rfl rfl rfl rfl (FW.f_move hk (FW.holds_nil _) rfl) ?_; clear hk; intro a w hk
    obtain ⟨hc1, h⟩ := FW.chk h
    refine FW.lfun (y := FW.elA (some ⟨bx2, 0, none⟩) 1 2) hk rfl rfl rfl rfl (FW.f_idxArr (f := c_i64) (l := ([t4.1, t4.2.1, t4.2.2.1, t4.2.2.2] : List Int)) hk (FW.holds_nil _) (j := 0) rfl rfl rfl Go.Proofs.Tryz.underlying79 (by kernel_rfl) hc1) ?_; clear hk; intro a w hk
    refine FW.lfun (y := .lit (.int .i64 (List.getD ([t4.1, t4.2.1, t4.2.2.1, t4.2.2.2] : List Int) (Int.toNat 2) default))) hk rfl rfl rfl rfl (FW.f_loadOwn1 (f := c_i64) (l := ([t4.1, t4.2.1, t4.2.2.1, t4.2.2.2] : List Int)) hk (FW.holds_nil _) (j := 0) rfl rfl hc1 rfl Go.Proofs.Tryz.underlying3 rfl) ?_; clear hk; intro a w hk
    obtain ⟨hc2, h⟩ := FW.chk h
    refine FW.lfun (y := FW.elA (some ⟨bx2, 0, none⟩) 1 3) hk rfl rfl rfl rfl (FW.f_idxArr (f := c_i64) (l := ([t4.1, t4.2.1, t4.2.2.1, t4.2.2.2] : List Int)) hk (FW.holds_nil _) (j := 0) rfl rfl rfl Go.Proofs.Tryz.underlying79 (by kernel_rfl) hc2) ?_; clear hk; intro a w hk
    refine FW.lfun (y := .lit (.int .i64 (List.getD ([t4.1, t4.2.1, t4.2.2.1, t4.2.2.2] : List Int) (Int.toNat 3) default))) hk rfl rfl rfl rfl (FW.f_loadOwn1 (f := c_i64) (l := ([t4.1, t4.2.1, t4.2.2.1, t4.2.2.2] : List Int)) hk (FW.holds_nil _) (j := 0) rfl rfl hc2 rfl Go.Proofs.Tryz.underlying3 rfl) ?_; clear hk; intro a w hk
    refine FW.lfun (y := .lit (.int .u64 v6)) hk rfl rfl rfl rfl (FW.f_move hk (FW.holds_nil _) rfl) ?_; clear hk; intro a w hk
    obtain ⟨t5, hr_t5, h⟩ := FW.bnd h
    refine FW.l_callH (I1 := (ODevDev.items b0 xd2 xc2 xr3 xd4 xc4 (⟨l2, m3, y1_2, l4, y1_4⟩ : ODevDev))) (I2 := [FW.orow (some ⟨bx2, 0, none⟩) 4 79 1 c_i64 ([t4.1, t4.2.1, t4.2.2.1, t4.2.2.2] : List Int), FW.blk bx1 69 ([.lit (.pointer (some ⟨b0, 0, none⟩)), .lit (.pointer none), .lit (.map (some r1)), .lit (.int .i64 y6_3), .lit (.int .u64 y6_4), .lit (.bool y6_5)]), FW.mapI (.int .u64) (Value.int .u64) FW.evS r1 ([] : List (Int × (List UInt8)))]) (js := [4, 4, 4, 4]) hk rfl rfl rfl rfl rfl Go.Proofs.Tryz.func41 rfl (by kernel_rfl) (log_Open.ok K (⟨l2, m3, y1_2, l4, y1_4⟩ : ODevDev) (List.getD ([t4.1, t4.2.1, t4.2.2.1, t4.2.2.2] : List Int) (Int.toNat 2) default) (List.getD ([t4.1, t4.2.1, t4.2.2.1, t4.2.2.2] : List Int) (Int.toNat 3) default) v6 _ hr_t5 b0 xd2 xc2 xr3 xd4 xc4) ?_; clear hk
    rintro _ _ ⟨bx3, zd3, zc3, zr2, zd4, zc4, rfl, rfl⟩ a w hk
    refine FW.lfun (y := .tup [.lit (.pointer (some ⟨bx3, 0, none⟩)), .row (r_c_str t5.2.1), .lit (.int .i64 t5.2.2.1)]) hk rfl rfl rfl rfl (FW.f_move hk (FW.holds_nil _) rfl) ?_; clear hk; intro a w hk
    refine FW.lfun (y := .lit (.pointer (some ⟨bx3, 0, none⟩))) hk rfl rfl rfl rfl (FW.f_extract hk (FW.holds_nil _) rfl rfl) ?_; clear hk; intro a w hk
    refine FW.lfun (y := .row (r_c_str t5.2.1)) hk rfl rfl rfl rfl (FW.f_extract hk (FW.holds_nil _) rfl rfl) ?_; clear hk; intro a w hk
    refine FW.lfun (y := .lit (.int .i64 t5.2.2.1)) hk rfl rfl rfl rfl (FW.f_extract hk (FW.holds_nil _) rfl rfl) ?_; clear hk; intro a w hk
    refine FW.lfun (y := .lit (.pointer (some ⟨bx3, 0, none⟩))) hk rfl rfl rfl rfl (FW.f_assign hk (FW.holds_nil _) rfl) ?_; clear hk; intro a w hk
    refine FW.lfun (y := .row (r_c_str t5.2.1)) hk rfl rfl rfl rfl (FW.f_assign hk (FW.holds_nil _) rfl) ?_; clear hk; intro a w hk
    refine FW.lfun (y := .lit (.int .i64 t5.2.2.1)) hk rfl rfl rfl rfl (FW.f_assign hk (FW.holds_nil _) rfl) ?_; clear hk; intro a w hk
    refine FW.lend (hK11 _ _ ?_); clear hK11 K'
    refine FW.wseq ?_; intro K' hK12
    refine FW.wreg ?_; intro K' hK13
    refine FW.lfun (y := .lit (.int .i64 t5.2.2.1)) hk rfl rfl rfl rfl (FW.f_move hk (FW.holds_nil _) rfl) ?_; clear hk; intro a w hk
    refine FW.lfun (y := .lit (.bool (!decide (t5.2.2.1 = 0)))) hk rfl rfl rfl rfl ((FW.f_pure (FW.p_neq hk.kn (FW.holds_nil _) rfl rfl))) ?_; clear hk; intro a w hk
    refine FW.lend (hK13 _ _ ?_); clear hK13 K'
    refine FW.wcondF (b := (!decide (t5.2.2.1 = 0))) hk h rfl (fun h hb => ?_) (fun h hb => ?_)
    · skip
      cases h
    refine wp_skip ?_
    (repeat first | refine FW.then_normal ?_ | refine FW.block_normal ?_); refine hK12 _ _ ?_
    refine FW.wreg ?_; intro K' hK14
    refine FW.lfun (y := .lit (.pointer (some ⟨bx1, 0, none⟩))) hk rfl rfl rfl rfl (FW.f_move hk (FW.holds_nil _) rfl) ?_; clear hk; intro a w hk
    refine FW.lfun (y := .lit (.pointer (some ⟨bx3, 0, none⟩))) hk rfl rfl rfl rfl (FW.f_move hk (FW.holds_nil _) rfl) ?_; clear hk; intro a w hk
    refine FW.lfun (y := .lit (.pointer (some ⟨bx1, 0, none⟩))) hk rfl rfl rfl rfl ((FW.f_pure (FW.p_nilCheck hk.kn (FW.holds_nil _) rfl))) ?_; clear hk; intro a w hk
    refine FW.lfun (y := .lit (.pointer (some ⟨bx1, 1, none⟩))) hk rfl rfl rfl rfl (FW.f_fieldPtr hk (FW.holds_nil _) rfl Go.Proofs.Tryz.underlying69 rfl (by kernel_rfl) rfl) ?_; clear hk; intro a w hk
    refine FW.l_store (I' := [FW.blk bx3 99 ([.lit (.pointer (some ⟨b0, 0, none⟩)), .lit (.int .i64 t5.1.from_), .lit (.int .i64 t5.1.to_), .lit (.int .i64 t5.1.at_), .lit (.int .u64 t5.1.next)]), FW.blk b0 75 ([.lit (.slice zd3 (List.length t5.2.2.2.sure) zc3), .lit (.map (some zr2)), .lit (.int .i64 t5.2.2.2.steps), .lit (.slice zd4 (List.length t5.2.2.2.falls) zc4), .lit (.bool t5.2.2.2.off)]), FW.orow zd3 zc3 9 1 c_str t5.2.2.2.sure, FW.mapI (.int .i64) (Value.int .i64) FW.evS zr2 t5.2.2.2.cache, FW.orow zd4 zc4 52 3 ApiFall.cells t5.2.2.2.falls, FW.orow (some ⟨bx2, 0, none⟩) 4 79 1 c_i64 ([t4.1, t4.2.1, t4.2.2.1, t4.2.2.2] : List Int), FW.blk bx1 69 ([.lit (.pointer (some ⟨b0, 0, none⟩)), .lit (.pointer (some ⟨bx3, 0, none⟩)), .lit (.map (some r1)), .lit (.int .i64 y6_3), .lit (.int .u64 y6_4), .lit (.bool y6_5)]), FW.mapI (.int .u64) (Value.int .u64) FW.evS r1 ([] : List (Int × (List UInt8)))]) (cs' := [.lit (.pointer (some ⟨b0, 0, none⟩)), .lit (.pointer (some ⟨bx3, 0, none⟩)), .lit (.map (some r1)), .lit (.int .i64 y6_3), .lit (.int .u64 y6_4), .lit (.bool y6_5)]) (j := 6) hk rfl rfl rfl rfl rfl (by kernel_rfl) rfl rfl ?_; clear hk; intro w hk
    refine FW.lend (hK14 _ _ ?_); clear hK14 K'
    refine FW.wseq ?_; intro K' hK15
    refine FW.wreg ?_; intro K' hK16
    refine FW.lfun (y := .row (r_c_str t5.2.1)) hk rfl rfl rfl rfl (FW.f_move hk (FW.holds_nil _) rfl) ?_; clear hk; intro a w hk
    refine FW.lfun (y := .lit (.int .i64 (List.length t5.2.1 : Int))) hk rfl rfl rfl rfl (FW.f_len (R := r_c_str) (f := c_str) (l := t5.2.1) r_c_str_eq Go.Proofs.Tryz.underlying72 hk (FW.holds_nil _) rfl) ?_; clear hk; intro a w hk
    refine FW.lfun (y := .lit (.int .i64 0)) hk rfl rfl rfl rfl (FW.f_move hk (FW.holds_nil _) rfl) ?_; clear hk; intro a w hk
    refine FW.lend (hK16 _ _ ?_); clear hK16 K'
    refine wp_block ?_
    refine FW.wloop (T := Nat × Int × Int × Int × Int × Int × Bool × List (List UInt8) × (List (Int × (List UInt8))) × List ApiFall × Int × Int × Bool × (List (Int × (List UInt8))) × List (List UInt8) × Int × Int × Nat × Option Addr × Nat × Nat × Option Addr × Nat × Nat) (fun x a w => match x with | (kl1, y8_1, y8_2, y8_3, y8_4, y1_2, y1_4, l2, m3, l4, y6_3, y6_4, y6_5, m5, v80, v81, v82, xn8, xd2, xc2, xr3, xd4, xc4, xr5) => FW.S M w0 a w 98 [FW.blk xn8 99 ([.lit (.pointer (some ⟨b0, 0, none⟩)), .lit (.int .i64 y8_1), .lit (.int .i64 y8_2), .lit (.int .i64 y8_3), .lit (.int .u64 y8_4)]), FW.blk b0 75 ([.lit (.slice xd2 (List.length l2) xc2), .lit (.map (some xr3)), .lit (.int .i64 y1_2), .lit (.slice xd4 (List.length l4) xc4), .lit (.bool y1_4)]), FW.orow xd2 xc2 9 1 c_str l2, FW.mapI (.int .i64) (Value.int .i64) FW.evS xr3 m3, FW.orow xd4 xc4 52 3 ApiFall.cells l4, FW.blk bx1 69 ([.lit (.pointer (some ⟨b0, 0, none⟩)), .lit (.pointer (some ⟨xn8, 0, none⟩)), .lit (.map (some xr5)), .lit (.int .i64 y6_3), .lit (.int .u64 y6_4), .lit (.bool y6_5)]), FW.mapI (.int .u64) (Value.int .u64) FW.evS xr5 m5] [(4, [], .lit (.pointer (some ⟨bx1, 0, none⟩))), (80, [], .row (r_c_str v80)), (81, [], .lit (.int .i64 v81)), (82, [], .lit (.int .i64 v82))] ∧ rec_Open.l1 K kl1 y8_1 y8_2 y8_3 y8_4 y1_2 y1_4 l2 m3 l4 y6_3 y6_4 y6_5 m5 v80 v81 v82 = some r) (fun x => x.1) (K, t5.1.from_, t5.1.to_, t5.1.at_, t5.1.next, t5.2.2.2.steps, t5.2.2.2.off, t5.2.2.2.sure, t5.2.2.2.cache, t5.2.2.2.falls, y6_3, y6_4, y6_5, ([] : List (Int × (List UInt8))), t5.2.1, (List.length t5.2.1 : Int), 0, bx3, zd3, zc3, zr2, zd4, zc4, r1) ⟨(hk.drop 5).sub ⟨rfl, rfl, rfl, rfl, trivial⟩, h⟩ ?_
    clear hk h
    rintro ⟨kl1, y8_1, y8_2, y8_3, y8_4, y1_2, y1_4, l2, m3, l4, y6_3, y6_4, y6_5, m5, v80, v81, v82, xn8, xd2, xc2, xr3, xd4, xc4, xr5⟩ a w ⟨hk, h⟩ K' hK17
    cases kl1 with
    | zero => simp [rec_Open.l1] at h
    | succ kl1 =>
    rw [rec_Open.l1.eq_2] at h
    refine FW.wreg ?_; intro K' hK18
    refine FW.lfun (y := .lit (.bool (decide (v82 < v81)))) hk rfl rfl rfl rfl ((FW.f_pure (FW.p_lss hk.kn (FW.holds_nil _) rfl rfl))) ?_; clear hk; intro a w hk
    refine FW.lend (hK18 _ _ ?_); clear hK18 K'
    refine FW.wseq ?_; intro K' hK19
    refine FW.wcondF (b := (decide (v82 < v81))) hk h rfl (fun h hb => ?_) (fun h hb => ?_)
    · skip
      refine wp_skip ?_
      (repeat first | refine FW.then_normal ?_ | refine FW.block_normal ?_); refine hK19 _ _ ?_
      refine FW.wseq ?_; intro K' hK20
      refine wp_block ?_
      refine FW.wreg ?_; intro K' hK21
      obtain ⟨hc3, h⟩ := FW.chk h
      refine FW.lfun (y := .ref (c_str (List.getD v80 (Int.toNat v82) default))) hk rfl rfl rfl rfl (FW.f_indexAddr (R := r_c_str) (f := c_str) (l := v80) (sz := 1) r_c_str_eq (fun _ => rfl) hk (FW.holds_nil _) rfl rfl Go.Proofs.Tryz.underlying72 (by kernel_rfl) hc3) ?_; clear hk; intro a w hk
      refine FW.lfun (y := .lit (.string (FW.B (List.getD v80 (Int.toNat v82) default)))) hk rfl rfl rfl rfl (FW.f_load1 hk (FW.holds_nil _) rfl rfl Go.Proofs.Tryz.underlying9 rfl) ?_; clear hk; intro a w hk
      refine FW.lfun (y := .lit (.string (FW.B (List.getD v80 (Int.toNat v82) default)))) hk rfl rfl rfl rfl (FW.f_assign hk (FW.holds_nil _) rfl) ?_; clear hk; intro a w hk
      refine FW.lend (hK21 _ _ ?_); clear hK21 K'
      refine FW.wreg ?_; intro K' hK22
      refine FW.lfun (y := .lit (.string (FW.B (List.getD v80 (Int.toNat v82) default)))) hk rfl rfl rfl rfl (FW.f_move hk (FW.holds_nil _) rfl) ?_; clear hk; intro a w hk
      obtain ⟨t6, hr_t6, h⟩ := FW.bnd h
      refine FW.lfun (y := .tup [.row (r_ApiChange_cells t6.1), .lit (.int .i64 t6.2)]) hk rfl rfl rfl rfl (FW.f_call hk (FW.holds_nil _) rfl rfl Go.Proofs.Tryz.func42 rfl (by kernel_rfl) (rec_Unbatch.ok K (List.getD v80 (Int.toNat v82) default) _ hr_t6)) ?_; clear hk; intro a w hk
      refine FW.lfun (y := .tup [.row (r_ApiChange_cells t6.1), .lit (.int .i64 t6.2)]) hk rfl rfl rfl rfl (FW.f_move hk (FW.holds_nil _) rfl) ?_; clear hk; intro a w hk
      refine FW.lfun (y := .row (r_ApiChange_cells t6.1)) hk rfl rfl rfl rfl (FW.f_extract hk (FW.holds_nil _) rfl rfl) ?_; clear hk; intro a w hk
      refine FW.lfun (y := .lit (.int .i64 t6.2)) hk rfl rfl rfl rfl (FW.f_extract hk (FW.holds_nil _) rfl rfl) ?_; clear hk; intro a w hk
      refine FW.lfun (y := .row (r_ApiChange_cells t6.1)) hk rfl rfl rfl rfl (FW.f_assign hk (FW.holds_nil _) rfl) ?_; clear hk; intro a w hk
      refine FW.lfun (y := .lit (.int .i64 t6.2)) hk rfl rfl rfl rfl (FW.f_assign hk (FW.holds_nil _) rfl) ?_; clear hk; intro a w hk
      refine FW.lend (hK22 _ _ ?_); clear hK22 K'
      refine FW.wseq ?_; intro K' hK23
      refine FW.wreg ?_; intro K' hK24
      refine FW.lfun (y := .lit (.int .i64 t6.2)) hk rfl rfl rfl rfl (FW.f_move hk (FW.holds_nil _) rfl) ?_; clear hk; intro a w hk
      refine FW.lfun (y := .lit (.bool (!decide (t6.2 = 0)))) hk rfl rfl rfl rfl ((FW.f_pure (FW.p_neq hk.kn (FW.holds_nil _) rfl rfl))) ?_; clear hk; intro a w hk
      refine FW.lend (hK24 _ _ ?_); clear hK24 K'
      refine FW.wcondF (b := (!decide (t6.2 = 0))) hk h rfl (fun h hb => ?_) (fun h hb => ?_)
      · skip
        cases h
      refine wp_skip ?_
      (repeat first | refine FW.then_normal ?_ | refine FW.block_normal ?_); refine hK23 _ _ ?_
      refine FW.wreg1 ?_
      refine FW.lfun (y := .lit (.pointer (some ⟨bx1, 0, none⟩))) hk rfl rfl rfl rfl (FW.f_move hk (FW.holds_nil _) rfl) ?_; clear hk; intro a w hk
      refine FW.lfun (y := .row (r_ApiChange_cells t6.1)) hk rfl rfl rfl rfl (FW.f_move hk (FW.holds_nil _) rfl) ?_; clear hk; intro a w hk
      obtain ⟨t7, hr_t7, h⟩ := FW.bnd h
      refine FW.l_callH (I1 := (ORecStore.items bx1 b0 xn8 xr5 (⟨(⟨y8_1, y8_2, y8_3, y8_4⟩ : OLogLog), m5, y6_3, y6_4, y6_5⟩ : ORecStore)) ++ (ODevDev.items b0 xd2 xc2 xr3 xd4 xc4 (⟨l2, m3, y1_2, l4, y1_4⟩ : ODevDev))) (I2 := []) (js := [4, 4, 4, 4, 4, 6, 6]) hk rfl rfl rfl rfl rfl Go.Proofs.Tryz.func33 rfl (by kernel_rfl) (rec_Store_do.ok K (⟨(⟨y8_1, y8_2, y8_3, y8_4⟩ : OLogLog), m5, y6_3, y6_4, y6_5⟩ : ORecStore) (⟨l2, m3, y1_2, l4, y1_4⟩ : ODevDev) t6.1 _ hr_t7 bx1 b0 xn8 xr5 xd2 xc2 xr3 xd4 xc4) ?_; clear hk
      rintro _ _ ⟨zb1, zr3, zd5, zc5, zr4, zd6, zc6, rfl, rfl⟩ a w hk
      refine wpList_nil ?_
      (repeat first | refine FW.then_normal ?_ | refine FW.block_normal ?_); refine hK20 _ _ ?_
      refine FW.wreg1 ?_
      refine FW.lfun (y := .lit (.int .i64 (IntKind.wrap .i64 (v82 + 1)))) hk rfl rfl rfl rfl ((FW.f_pure (FW.p_add hk.kn (FW.holds_nil _) rfl rfl))) ?_; clear hk; intro a w hk
      refine FW.lfun (y := .lit (.int .i64 (IntKind.wrap .i64 (v82 + 1)))) hk rfl rfl rfl rfl (FW.f_move hk (FW.holds_nil _) rfl) ?_; clear hk; intro a w hk
      refine wpList_nil ?_
      (repeat first | refine FW.then_normal ?_ | refine FW.block_normal ?_); exact hK17 (kl1, t7.1.l.from_, t7.1.l.to_, t7.1.l.at_, t7.1.l.next, t7.2.steps, t7.2.off, t7.2.sure, t7.2.cache, t7.2.falls, t7.1.half, t7.1.round, t7.1.dead, t7.1.m, v80, v81, (IntKind.wrap .i64 (v82 + 1)), zb1, zd5, zc5, zr4, zd6, zc6, zr3) _ _ (Nat.lt_succ_self _) ⟨(FW.S.pick hk (js := [1, 1, 6, 6, 6, 6, 6]) rfl).sub ⟨rfl, rfl, rfl, rfl, trivial⟩, h⟩
    refine wp_exit ?_; (repeat first | refine FW.then_exit ?_ | refine FW.block_exit_ne rfl ?_); refine FW.block_exit ?_
    (repeat first | refine FW.then_normal ?_ | refine FW.block_normal ?_); refine hK15 _ _ ?_
    refine FW.wreg ?_; intro K' hK27
    refine FW.lfun (y := .lit (.pointer (some ⟨bx1, 0, none⟩))) hk rfl rfl rfl rfl (FW.f_move hk (FW.holds_nil _) rfl) ?_; clear hk; intro a w hk
    refine FW.lfun (y := .lit (.pointer (some ⟨bx1, 0, none⟩))) hk rfl rfl rfl rfl (FW.f_assign hk (FW.holds_nil _) rfl) ?_; clear hk; intro a w hk
    refine FW.lfun (y := .lit (.int .i64 0)) hk rfl rfl rfl rfl (FW.f_assign hk (FW.holds_nil _) rfl) ?_; clear hk; intro a w hk
    refine FW.lend (hK27 _ _ ?_); clear hK27 K'
    refine wp_ret ?_
    (repeat first | refine FW.then_ret ?_ | refine FW.block_ret ?_)
    obtain rfl := Option.some.inj h
    replace hk := FW.S.keep (I1 := [FW.blk bx1 69 ([.lit (.pointer (some ⟨b0, 0, none⟩)), .lit (.pointer (some ⟨xn8, 0, none⟩)), .lit (.map (some xr5)), .lit (.int .i64 y6_3), .lit (.int .u64 y6_4), .lit (.bool y6_5)]), FW.mapI (.int .u64) (Value.int .u64) FW.evS xr5 m5, FW.blk xn8 99 ([.lit (.pointer (some ⟨b0, 0, none⟩)), .lit (.int .i64 y8_1), .lit (.int .i64 y8_2), .lit (.int .i64 y8_3), .lit (.int .u64 y8_4)]), FW.blk b0 75 ([.lit (.slice xd2 (List.length l2) xc2), .lit (.map (some xr3)), .lit (.int .i64 y1_2), .lit (.slice xd4 (List.length l4) xc4), .lit (.bool y1_4)]), FW.orow xd2 xc2 9 1 c_str l2, FW.mapI (.int .i64) (Value.int .i64) FW.evS xr3 m3, FW.orow xd4 xc4 52 3 ApiFall.cells l4]) (I2 := []) (js := [4, 4, 4, 4, 4, 6, 6]) hk rfl
    exact FW.fretH2 hk rfl (FW.rtmp hk rfl) (FW.rtmp hk rfl) ⟨bx1, xn8, xr5, xd2, xc2, xr3, xd4, xc4, rfl, rfl⟩
  · intro K' hK9
    refine FW.wreg ?_; intro K' hK28
    refine FW.lfun (y := .lit (.pointer (some ⟨bx1, 0, none⟩))) hk rfl rfl rfl rfl (FW.f_move hk (FW.holds_nil _) rfl) ?_; clear hk; intro a w hk
    refine FW.lfun (y := .lit (.pointer (some ⟨bx1, 0, none⟩))) hk rfl rfl rfl rfl ((FW.f_pure (FW.p_nilCheck hk.kn (FW.holds_nil _) rfl))) ?_; clear hk; intro a w hk
    refine FW.lfun (y := .lit (.pointer (some ⟨bx1, 4, none⟩))) hk rfl rfl rfl rfl (FW.f_fieldPtr hk (FW.holds_nil _) rfl Go.Proofs.Tryz.underlying69 rfl (by kernel_rfl) rfl) ?_; clear hk; intro a w hk
    refine FW.lfun (y := .lit (.int .u64 t3.2.1)) hk rfl rfl rfl rfl (FW.f_loadBlk1 hk (FW.holds_nil _) (j := 4) rfl rfl Go.Proofs.Tryz.underlying27 rfl rfl) ?_; clear hk; intro a w hk
    refine FW.lfun (y := .lit (.bool (decide (0 < t3.2.1)))) hk rfl rfl rfl rfl ((FW.f_pure (FW.p_gtr hk.kn (FW.holds_nil _) rfl rfl))) ?_; clear hk; intro a w hk
    refine FW.lend (hK28 _ _ ?_); clear hK28 K'
    refine FW.wcondF (b := (decide (0 < t3.2.1))) hk h rfl (fun h hb => ?_) (fun h hb => ?_)
    · skip
      cases h
    refine wp_skip ?_
    (repeat first | refine FW.then_normal ?_ | refine FW.block_normal ?_); exact hK9 _ _ ⟨t3.2.2.2.steps, t3.2.2.2.off, t3.2.2.2.sure, t3.2.2.2.cache, t3.2.2.2.falls, t3.1, t3.2.1, false, 1, zd1, zc1, zr1, zd2, zc2, hk.sub ⟨rfl, rfl, rfl, trivial⟩, h⟩
theorem offshootlaw06_open.ok (K : Nat) (v0 : Int) (r : ORecStore × ODevDev × Bool) (h : offshootlaw06_open.f K v0 = some r) :
    FW.OkH Go.Proofs.Tryz.prog 9 [.lit (.int .i64 v0)] [] (fun y I => ∃ (bn0 : Nat) (zxbn0_1 : Nat) (zxrn0_2 : Nat) (bn1 : Nat) (zxdn1_0 : Option Addr) (zxcn1_0 : Nat) (zxrn1_1 : Nat) (zxdn1_3 : Option Addr) (zxcn1_3 : Nat), y = .tup [.lit (.pointer (some ⟨bn0, 0, none⟩)), .lit (.pointer (some ⟨bn1, 0, none⟩)), .lit (.bool r.2.2)] ∧ I = (ORecStore.items bn0 bn1 zxbn0_1 zxrn0_2 r.1) ++ (ODevDev.items bn1 zxdn1_0 zxcn1_0 zxrn1_1 zxdn1_3 zxcn1_3 r.2.1)) := by
  refine FW.enterH (xs := [.lit (.int .i64 v0)]) Go.Proofs.Tryz.func9 rfl Go.Proofs.Tryz.ntmps9 rfl ?_
  intro M w0 a hk
  unfold offshootlaw06_open.f at h
  refine FW.wreg ?_; intro K' hK1
  refine FW.lfun (y := .lit (.pointer none)) hk rfl rfl rfl rfl (FW.f_assign hk (FW.holds_nil _) rfl) ?_; clear hk; intro a w hk
  refine FW.lfun (y := .lit (.pointer none)) hk rfl rfl rfl rfl (FW.f_assign hk (FW.holds_nil _) rfl) ?_; clear hk; intro a w hk
  refine FW.lfun (y := .lit (.bool false)) hk rfl rfl rfl rfl (FW.f_assign hk (FW.holds_nil _) rfl) ?_; clear hk; intro a w hk
  refine FW.lend (hK1 _ _ ?_); clear hK1 K'
  refine FW.wreg ?_; intro K' hK2
  refine FW.lfun (y := .lit (.int .i64 v0)) hk rfl rfl rfl rfl (FW.f_move hk (FW.holds_nil _) rfl) ?_; clear hk; intro a w hk
  obtain ⟨t1, hr_t1, h⟩ := FW.bnd h
  refine FW.l_callH (I1 := ([] : List FW.It)) (I2 := []) (js := []) hk rfl rfl rfl rfl rfl Go.Proofs.Tryz.func27 rfl (by kernel_rfl) (dev_New.ok K v0 _ hr_t1 ) ?_; clear hk
  rintro _ _ ⟨bx1, xdNt1_0_0, xcNt1_0_0, xrNt1_0_1, xdNt1_0_3, xcNt1_0_3, rfl, rfl⟩ a w hk
  refine FW.lfun (y := .tup [.lit (.pointer (some ⟨bx1, 0, none⟩)), .lit (.int .i64 t1.2)]) hk rfl rfl rfl rfl (FW.f_move hk (FW.holds_nil _) rfl) ?_; clear hk; intro a w hk
  refine FW.lfun (y := .lit (.pointer (some ⟨bx1, 0, none⟩))) hk rfl rfl rfl rfl (FW.f_extract hk (FW.holds_nil _) rfl rfl) ?_; clear hk; intro a w hk
  refine FW.lfun (y := .lit (.int .i64 t1.2)) hk rfl rfl rfl rfl (FW.f_extract hk (FW.holds_nil _) rfl rfl) ?_; clear hk; intro a w hk
  refine FW.lfun (y := .lit (.pointer (some ⟨bx1, 0, none⟩))) hk rfl rfl rfl rfl (FW.f_assign hk (FW.holds_nil _) rfl) ?_; clear hk; intro a w hk
  refine FW.lfun (y := .lit (.int .i64 t1.2)) hk rfl rfl rfl rfl (FW.f_assign hk (FW.holds_nil _) rfl) ?_; clear hk; intro a w hk
  refine FW.lend (hK2 _ _ ?_); clear hK2 K'
  refine FW.wreg ?_; intro K' hK3
  refine FW.lfun (y := .lit (.pointer (some ⟨bx1, 0, none⟩))) hk rfl rfl rfl rfl (FW.f_move hk (FW.holds_nil _) rfl) ?_; clear hk; intro a w hk
  obtain ⟨t2, hr_t2, h⟩ := FW.bnd h
  refine FW.l_callH (I1 := (ODevDev.items bx1 xdNt1_0_0 xcNt1_0_0 xrNt1_0_1 xdNt1_0_3 xcNt1_0_3 t1.1)) (I2 := []) (js := [3, 3, 3, 3]) hk rfl rfl rfl rfl rfl Go.Proofs.Tryz.func19 rfl (by kernel_rfl) (rec_Open.ok K t1.1 _ hr_t2 bx1 xdNt1_0_0 xcNt1_0_0 xrNt1_0_1 xdNt1_0_3 xcNt1_0_3) ?_; clear hk
  rintro _ _ ⟨bx2, xbNt2_0_1, xrNt2_0_2, zd1, zc1, zr1, zd2, zc2, rfl, rfl⟩ a w hk
  refine FW.lfun (y := .tup [.lit (.pointer (some ⟨bx2, 0, none⟩)), .lit (.int .i64 t2.2.1)]) hk rfl rfl rfl rfl (FW.f_move hk (FW.holds_nil _) rfl) ?_; clear hk; intro a w hk
  refine FW.lfun (y := .lit (.pointer (some ⟨bx2, 0, none⟩))) hk rfl rfl rfl rfl (FW.f_extract hk (FW.holds_nil _) rfl rfl) ?_; clear hk; intro a w hk
  refine FW.lfun (y := .lit (.int .i64 t2.2.1)) hk rfl rfl rfl rfl (FW.f_extract hk (FW.holds_nil _) rfl rfl) ?_; clear hk; intro a w hk
  refine FW.lfun (y := .lit (.pointer (some ⟨bx2, 0, none⟩))) hk rfl rfl rfl rfl (FW.f_assign hk (FW.holds_nil _) rfl) ?_; clear hk; intro a w hk
  refine FW.lfun (y := .lit (.int .i64 t2.2.1)) hk rfl rfl rfl rfl (FW.f_assign hk (FW.holds_nil _) rfl) ?_; clear hk; intro a w hk
  refine FW.lend (hK3 _ _ ?_); clear hK3 K'
  refine FW.wreg ?_; intro K' hK4
  refine FW.lfun (y := .lit (.pointer (some ⟨bx2, 0, none⟩))) hk rfl rfl rfl rfl (FW.f_move hk (FW.holds_nil _) rfl) ?_; clear hk; intro a w hk
  refine FW.lfun (y := .lit (.pointer (some ⟨bx1, 0, none⟩))) hk rfl rfl rfl rfl (FW.f_move hk (FW.holds_nil _) rfl) ?_; clear hk; intro a w hk
  refine FW.lfun (y := .lit (.int .i64 t1.2)) hk rfl rfl rfl rfl (FW.f_move hk (FW.holds_nil _) rfl) ?_; clear hk; intro a w hk
  refine FW.lfun (y := .lit (.bool (decide (t1.2 = 0)))) hk rfl rfl rfl rfl ((FW.f_pure (FW.p_eql hk.kn (FW.holds_nil _) rfl rfl))) ?_; clear hk; intro a w hk
  refine FW.lfun (y := .lit (.bool (decide (t1.2 = 0)))) hk rfl rfl rfl rfl (FW.f_move hk (FW.holds_nil _) rfl) ?_; clear hk; intro a w hk
  refine FW.lfunG (y := .lit (.int .i64 t2.2.1)) hk rfl rfl rfl rfl rfl rfl rfl rfl (fun hc => FW.f_move hk hc rfl) ?_; clear hk; intro a w hk
  refine FW.lfunG (y := .lit (.bool (decide (t2.2.1 = 0)))) hk rfl rfl rfl rfl rfl rfl rfl rfl (fun hc => (FW.f_pure (FW.p_eql hk.kn hc rfl rfl))) ?_; clear hk; intro a w hk
  refine FW.lfun (y := .lit (.bool ((decide (t1.2 = 0)) && (decide (t2.2.1 = 0))))) hk rfl rfl rfl rfl ((FW.f_pure (FW.p_pick_and hk.kn (FW.holds_nil _) rfl rfl))) ?_; clear hk; intro a w hk
  refine FW.lfun (y := .lit (.bool ((decide (t1.2 = 0)) && (decide (t2.2.1 = 0))))) hk rfl rfl rfl rfl (FW.f_move hk (FW.holds_nil _) rfl) ?_; clear hk; intro a w hk
  refine FW.lfunG (y := .lit (.pointer (some ⟨bx2, 0, none⟩))) hk rfl rfl rfl rfl rfl rfl rfl rfl (fun hc => FW.f_move hk hc rfl) ?_; clear hk; intro a w hk
  refine FW.lfunG (y := .lit (.bool true)) hk rfl rfl rfl rfl rfl rfl rfl rfl (fun hc => (FW.f_pure (FW.p_ptrNe Go.Proofs.Tryz.underlying23 hk.kn hc rfl rfl rfl))) ?_; clear hk; intro a w hk
  refine FW.lfun (y := .lit (.bool (((decide (t1.2 = 0)) && (decide (t2.2.1 = 0))) && true))) hk rfl rfl rfl rfl ((FW.f_pure (FW.p_pick_and hk.kn (FW.holds_nil _) rfl rfl))) ?_; clear hk; intro a w hk
  refine FW.lfun (y := .lit (.pointer (some ⟨bx2, 0, none⟩))) hk rfl rfl rfl rfl (FW.f_assign hk (FW.holds_nil _) rfl) ?_; clear hk; intro a w hk
  refine FW.lfun (y := .lit (.pointer (some ⟨bx1, 0, none⟩))) hk rfl rfl rfl rfl (FW.f_assign hk (FW.holds_nil _) rfl) ?_; clear hk; intro a w hk
  refine FW.lfun (y := .lit (.bool (((decide (t1.2 = 0)) && (decide (t2.2.1 = 0))) && true))) hk rfl rfl rfl rfl (FW.f_assign hk (FW.holds_nil _) rfl) ?_; clear hk; intro a w hk
  refine FW.lend (hK4 _ _ ?_); clear hK4 K'
  refine wp_ret ?_
  (repeat first | refine FW.then_ret ?_ | refine FW.block_ret ?_)
  obtain rfl := Option.some.inj h
  replace hk := FW.S.keep (I1 := [FW.blk bx2 69 ([.lit (.pointer (some ⟨bx1, 0, none⟩)), .lit (.pointer (some ⟨xbNt2_0_1, 0, none⟩)), .lit (.map (some xrNt2_0_2)), .lit (.int .i64 t2.1.half), .lit (.int .u64 t2.1.round), .lit (.bool t2.1.dead)]), FW.mapI (.int .u64) (Value.int .u64) FW.evS xrNt2_0_2 t2.1.m, FW.blk xbNt2_0_1 99 ([.lit (.pointer (some ⟨bx1, 0, none⟩)), .lit (.int .i64 t2.1.l.from_), .lit (.int .i64 t2.1.l.to_), .lit (.int .i64 t2.1.l.at_), .lit (.int .u64 t2.1.l.next)]), FW.blk bx1 75 ([.lit (.slice zd1 (List.length t2.2.2.sure) zc1), .lit (.map (some zr1)), .lit (.int .i64 t2.2.2.steps), .lit (.slice zd2 (List.length t2.2.2.falls) zc2), .lit (.bool t2.2.2.off)]), FW.orow zd1 zc1 9 1 c_str t2.2.2.sure, FW.mapI (.int .i64) (Value.int .i64) FW.evS zr1 t2.2.2.cache, FW.orow zd2 zc2 52 3 ApiFall.cells t2.2.2.falls]) (I2 := []) (js := [6, 6, 6, 6, 6, 6, 6]) hk rfl
  exact FW.fretH3 hk rfl (FW.rtmp hk rfl) (FW.rtmp hk rfl) (FW.rtmp hk rfl) ⟨bx2, xbNt2_0_1, xrNt2_0_2, bx1, zd1, zc1, zr1, zd2, zc2, rfl, rfl⟩
end Go.Proofs.YtfbkgaandmebaaaGreat
namespace Go.Proofs.YtfbkgaandmebaaaGreat
set_option linter.unusedVariables false
set_option maxRecDepth 20000
set_option maxHeartbeats 10000000
theorem rec_Store_Dead.ok  (v0 : ORecStore) (v0_0 : ODevDev) (r : Bool) (h : rec_Store_Dead.f v0 v0_0 = some r) :
    ∀ (b0 : Nat) (b0_0 : Nat) (xb0_1 : Nat) (xr0_2 : Nat) (xd0_0_0 : Option Addr) (xc0_0_0 : Nat) (xr0_0_1 : Nat) (xd0_0_3 : Option Addr) (xc0_0_3 : Nat), FW.OkH Go.Proofs.Tryz.prog 28 [.lit (.pointer (some ⟨b0, 0, none⟩))] ((ORecStore.items b0 b0_0 xb0_1 xr0_2 v0) ++ (ODevDev.items b0_0 xd0_0_0 xc0_0_0 xr0_0_1 xd0_0_3 xc0_0_3 v0_0)) (fun y I => y = .lit (.bool r) ∧ I = (ORecStore.items b0 b0_0 xb0_1 xr0_2 v0) ++ (ODevDev.items b0_0 xd0_0_0 xc0_0_0 xr0_0_1 xd0_0_3 xc0_0_3 v0_0)) := by
  intro b0 b0_0 xb0_1 xr0_2 xd0_0_0 xc0_0_0 xr0_0_1 xd0_0_3 xc0_0_3
  refine FW.enterH (xs := [.lit (.pointer (some ⟨b0, 0, none⟩))]) Go.Proofs.Tryz.func28 rfl Go.Proofs.Tryz.ntmps28 rfl ?_
  intro M w0 a hk
  replace hk : FW.S M w0 a w0.toWorld 18 [FW.blk b0 69 ([.lit (.pointer (some ⟨b0_0, 0, none⟩)), .lit (.pointer (some ⟨xb0_1, 0, none⟩)), .lit (.map (some xr0_2)), .lit (.int .i64 v0.half), .lit (.int .u64 v0.round), .lit (.bool v0.dead)]), FW.mapI (.int .u64) (Value.int .u64) FW.evS xr0_2 v0.m, FW.blk xb0_1 99 ([.lit (.pointer (some ⟨b0_0, 0, none⟩)), .lit (.int .i64 v0.l.from_), .lit (.int .i64 v0.l.to_), .lit (.int .i64 v0.l.at_), .lit (.int .u64 v0.l.next)]), FW.blk b0_0 75 ([.lit (.slice xd0_0_0 (List.length v0_0.sure) xc0_0_0), .lit (.map (some xr0_0_1)), .lit (.int .i64 v0_0.steps), .lit (.slice xd0_0_3 (List.length v0_0.falls) xc0_0_3), .lit (.bool v0_0.off)]), FW.orow xd0_0_0 xc0_0_0 9 1 c_str v0_0.sure, FW.mapI (.int .i64) (Value.int .i64) FW.evS xr0_0_1 v0_0.cache, FW.orow xd0_0_3 xc0_0_3 52 3 ApiFall.cells v0_0.falls] [(0, [], .lit (.pointer (some ⟨b0, 0, none⟩)))] := hk
  unfold rec_Store_Dead.f at h
  refine FW.wreg ?_; intro K' hK1
  refine FW.lfun (y := .lit (.bool false)) hk rfl rfl rfl rfl (FW.f_assign hk (FW.holds_nil _) rfl) ?_; clear hk; intro a w hk
  refine FW.lend (hK1 _ _ ?_); clear hK1 K'
  refine FW.wreg ?_; intro K' hK2
  refine FW.lfun (y := .lit (.pointer (some ⟨b0, 0, none⟩))) hk rfl rfl rfl rfl (FW.f_move hk (FW.holds_nil _) rfl) ?_; clear hk; intro a w hk
  refine FW.lfun (y := .lit (.bool false)) hk rfl rfl rfl rfl ((FW.f_pure (FW.p_ptrEq Go.Proofs.Tryz.underlying23 hk.kn (FW.holds_nil _) rfl rfl rfl))) ?_; clear hk; intro a w hk
  refine FW.lfun (y := .lit (.bool false)) hk rfl rfl rfl rfl (FW.f_move hk (FW.holds_nil _) rfl) ?_; clear hk; intro a w hk
  refine FW.lfunG (y := .lit (.pointer (some ⟨b0, 0, none⟩))) hk rfl rfl rfl rfl rfl rfl rfl rfl (fun hc => FW.f_move hk hc rfl) ?_; clear hk; intro a w hk
  refine FW.lfunG (y := .lit (.pointer (some ⟨b0, 0, none⟩))) hk rfl rfl rfl rfl rfl rfl rfl rfl (fun hc => (FW.f_pure (FW.p_nilCheck hk.kn hc rfl))) ?_; clear hk; intro a w hk
  refine FW.lfunG (y := .lit (.pointer (some ⟨b0, 5, none⟩))) hk rfl rfl rfl rfl rfl rfl rfl rfl (fun hc => FW.f_fieldPtr hk hc rfl Go.Proofs.Tryz.underlying69 rfl (by kernel_rfl) rfl) ?_; clear hk; intro a w hk
  refine FW.lfunG (y := .lit (.bool v0.dead)) hk rfl rfl rfl rfl rfl rfl rfl rfl (fun hc => FW.f_loadBlk1 hk hc (j := 0) rfl rfl Go.Proofs.Tryz.underlying4 rfl rfl) ?_; clear hk; intro a w hk
  refine FW.lfun (y := .lit (.bool v0.dead)) hk rfl rfl rfl rfl ((FW.f_pure (FW.p_pickX hk.kn (FW.holds_nil _) rfl rfl))) ?_; clear hk; intro a w hk
  refine FW.lfun (y := .lit (.bool v0.dead)) hk rfl rfl rfl rfl (FW.f_move hk (FW.holds_nil _) rfl) ?_; clear hk; intro a w hk
  refine FW.lfunG (y := .lit (.pointer (some ⟨b0, 0, none⟩))) hk rfl rfl rfl rfl rfl rfl rfl rfl (fun hc => FW.f_move hk hc rfl) ?_; clear hk; intro a w hk
  refine FW.lfunG (y := .lit (.pointer (some ⟨b0, 0, none⟩))) hk rfl rfl rfl rfl rfl rfl rfl rfl (fun hc => (FW.f_pure (FW.p_nilCheck hk.kn hc rfl))) ?_; clear hk; intro a w hk
  refine FW.lfunG (y := .lit (.pointer (some ⟨b0, 0, none⟩))) hk rfl rfl rfl rfl rfl rfl rfl rfl (fun hc => FW.f_fieldPtr hk hc rfl Go.Proofs.Tryz.underlying69 rfl (by kernel_rfl) rfl) ?_; clear hk; intro a w hk
  refine FW.lfunG (y := .lit (.pointer (some ⟨b0_0, 0, none⟩))) hk rfl rfl rfl rfl rfl rfl rfl rfl (fun hc => FW.f_loadBlk1 hk hc (j := 0) rfl rfl Go.Proofs.Tryz.underlying24 rfl rfl) ?_; clear hk; intro a w hk
  obtain ⟨t1, hr_t1, hn_t1, h⟩ := FW.bndG2 h
  refine FW.l_callHG (I1 := (ODevDev.items b0_0 xd0_0_0 xc0_0_0 xr0_0_1 xd0_0_3 xc0_0_3 v0_0)) (I2 := [FW.blk b0 69 ([.lit (.pointer (some ⟨b0_0, 0, none⟩)), .lit (.pointer (some ⟨xb0_1, 0, none⟩)), .lit (.map (some xr0_2)), .lit (.int .i64 v0.half), .lit (.int .u64 v0.round), .lit (.bool v0.dead)]), FW.mapI (.int .u64) (Value.int .u64) FW.evS xr0_2 v0.m, FW.blk xb0_1 99 ([.lit (.pointer (some ⟨b0_0, 0, none⟩)), .lit (.int .i64 v0.l.from_), .lit (.int .i64 v0.l.to_), .lit (.int .i64 v0.l.at_), .lit (.int .u64 v0.l.next)])]) (js := [6, 6, 6, 6]) hk rfl rfl rfl rfl rfl rfl rfl rfl rfl Go.Proofs.Tryz.func13 rfl (by kernel_rfl) (fun hc => dev_Dev_Off.ok v0_0 _ (hr_t1 (FW.asm_out (p := v0.dead = false) hk.kn hc (fun e0 => e0))) b0_0 xd0_0_0 xc0_0_0 xr0_0_1 xd0_0_3 xc0_0_3) (fun hn => by obtain rfl := hn_t1 (fun hp => hn (FW.asm_in hk.kn (by have e0 := hp; exact ⟨e0, rfl, trivial⟩))); exact ⟨_, rfl, rfl⟩) ?_; clear hk
  rintro _ _ ⟨rfl, rfl⟩ a w hk
  refine FW.lfun (y := .lit (.bool (v0.dead || t1))) hk rfl rfl rfl rfl ((FW.f_pure (FW.p_pick_or hk.kn (FW.holds_nil _) rfl rfl))) ?_; clear hk; intro a w hk
  refine FW.lfun (y := .lit (.bool (v0.dead || t1))) hk rfl rfl rfl rfl (FW.f_assign hk (FW.holds_nil _) rfl) ?_; clear hk; intro a w hk
  refine FW.lend (hK2 _ _ ?_); clear hK2 K'
  refine wp_ret ?_
  (repeat first | refine FW.then_ret ?_ | refine FW.block_ret ?_)
  obtain rfl := Option.some.inj h
  replace hk := FW.S.keep (I1 := [FW.blk b0 69 ([.lit (.pointer (some ⟨b0_0, 0, none⟩)), .lit (.pointer (some ⟨xb0_1, 0, none⟩)), .lit (.map (some xr0_2)), .lit (.int .i64 v0.half), .lit (.int .u64 v0.round), .lit (.bool v0.dead)]), FW.mapI (.int .u64) (Value.int .u64) FW.evS xr0_2 v0.m, FW.blk xb0_1 99 ([.lit (.pointer (some ⟨b0_0, 0, none⟩)), .lit (.int .i64 v0.l.from_), .lit (.int .i64 v0.l.to_), .lit (.int .i64 v0.l.at_), .lit (.int .u64 v0.l.next)]), FW.blk b0_0 75 ([.lit (.slice xd0_0_0 (List.length v0_0.sure) xc0_0_0), .lit (.map (some xr0_0_1)), .lit (.int .i64 v0_0.steps), .lit (.slice xd0_0_3 (List.length v0_0.falls) xc0_0_3), .lit (.bool v0_0.off)]), FW.orow xd0_0_0 xc0_0_0 9 1 c_str v0_0.sure, FW.mapI (.int .i64) (Value.int .i64) FW.evS xr0_0_1 v0_0.cache, FW.orow xd0_0_3 xc0_0_3 52 3 ApiFall.cells v0_0.falls]) (I2 := []) (js := [3, 3, 3, 3, 6, 6, 6]) hk rfl
  exact FW.fretH1 hk rfl (FW.rtmp hk rfl) ⟨rfl, rfl⟩
theorem rec_Batch.ok (K : Nat) (v0 : List ApiChange) (r : List UInt8) (h : rec_Batch.f K v0 = some r) :
    FW.Ok Go.Proofs.Tryz.prog 30 [.row (r_ApiChange_cells v0)] (.lit (.string (FW.B r))) := by
  refine FW.enter (xs := [.row (r_ApiChange_cells v0)]) Go.Proofs.Tryz.func30 rfl Go.Proofs.Tryz.ntmps30 rfl ?_
  intro M w0 a hk
  unfold rec_Batch.f at h
  refine FW.wreg ?_; intro K' hK1
  refine FW.lfun (y := .lit (.string (FW.B ([] : List UInt8)))) hk rfl rfl rfl rfl (FW.f_assign hk (FW.holds_nil _) rfl) ?_; clear hk; intro a w hk
  refine FW.lend (hK1 _ _ ?_); clear hK1 K'
  refine FW.wreg ?_; intro K' hK2
  refine FW.lfun (y := .row (r_ApiChange_cells v0)) hk rfl rfl rfl rfl (FW.f_move hk (FW.holds_nil _) rfl) ?_; clear hk; intro a w hk
  refine FW.lfun (y := .lit (.int .i64 (List.length v0 : Int))) hk rfl rfl rfl rfl (FW.f_len (R := r_ApiChange_cells) (f := ApiChange.cells) (l := v0) r_ApiChange_cells_eq Go.Proofs.Tryz.underlying22 hk (FW.holds_nil _) rfl) ?_; clear hk; intro a w hk
  obtain ⟨t1, hr_t1, h⟩ := FW.bnd h
  refine FW.lfun (y := .lit (.string (FW.B t1))) hk rfl rfl rfl rfl (FW.f_call hk (FW.holds_nil _) rfl rfl Go.Proofs.Tryz.func49 rfl (by kernel_rfl) (val_Two.ok (List.length v0 : Int) _ hr_t1)) ?_; clear hk; intro a w hk
  refine FW.lfun (y := .lit (.string (FW.B t1))) hk rfl rfl rfl rfl (FW.f_assign hk (FW.holds_nil _) rfl) ?_; clear hk; intro a w hk
  refine FW.lend (hK2 _ _ ?_); clear hK2 K'
  refine FW.wseq ?_; intro K' hK3
  refine FW.wreg ?_; intro K' hK4
  refine FW.lfun (y := .row (r_ApiChange_cells v0)) hk rfl rfl rfl rfl (FW.f_move hk (FW.holds_nil _) rfl) ?_; clear hk; intro a w hk
  refine FW.lfun (y := .lit (.int .i64 (List.length v0 : Int))) hk rfl rfl rfl rfl (FW.f_len (R := r_ApiChange_cells) (f := ApiChange.cells) (l := v0) r_ApiChange_cells_eq Go.Proofs.Tryz.underlying22 hk (FW.holds_nil _) rfl) ?_; clear hk; intro a w hk
  refine FW.lfun (y := .lit (.int .i64 0)) hk rfl rfl rfl rfl (FW.f_move hk (FW.holds_nil _) rfl) ?_; clear hk; intro a w hk
  refine FW.lend (hK4 _ _ ?_); clear hK4 K'
  refine wp_block ?_
  refine FW.wloop (T := Nat × List UInt8 × List ApiChange × Int × Int) (fun x a w => match x with | (kl1, v3, v10, v11, v12) => FW.S M w0 a w 34 [] [(3, [], .lit (.string (FW.B v3))), (10, [], .row (r_ApiChange_cells v10)), (11, [], .lit (.int .i64 v11)), (12, [], .lit (.int .i64 v12))] ∧ rec_Batch.l1 K kl1 v3 v10 v11 v12 = some r) (fun x => x.1) (K, t1, v0, (List.length v0 : Int), 0) ⟨hk.sub ⟨rfl, rfl, rfl, rfl, trivial⟩, h⟩ ?_
  clear hk h
  rintro ⟨kl1, v3, v10, v11, v12⟩ a w ⟨hk, h⟩ K' hK5
  cases kl1 with
  | zero => simp [rec_Batch.l1] at h
  | succ kl1 =>
  rw [rec_Batch.l1.eq_2] at h
  refine FW.wreg ?_; intro K' hK6
  refine FW.lfun (y := .lit (.bool (decide (v12 < v11)))) hk rfl rfl rfl rfl ((FW.f_pure (FW.p_lss hk.kn (FW.holds_nil _) rfl rfl))) ?_; clear hk; intro a w hk
  refine FW.lend (hK6 _ _ ?_); clear hK6 K'
  refine FW.wseq ?_; intro K' hK7
  refine FW.wcondF (b := (decide (v12 < v11))) hk h rfl (fun h hb => ?_) (fun h hb => ?_)
  · skip
    refine wp_skip ?_
    (repeat first | refine FW.then_normal ?_ | refine FW.block_normal ?_); refine hK7 _ _ ?_
    refine FW.wseq ?_; intro K' hK8
    refine wp_block ?_
    refine FW.wreg ?_; intro K' hK9
    obtain ⟨hc1, h⟩ := FW.chk h
    refine FW.lfun (y := .ref (ApiChange.cells (List.getD v10 (Int.toNat v12) default))) hk rfl rfl rfl rfl (FW.f_indexAddr (R := r_ApiChange_cells) (f := ApiChange.cells) (l := v10) (sz := 3) r_ApiChange_cells_eq (fun _ => rfl) hk (FW.holds_nil _) rfl rfl Go.Proofs.Tryz.underlying22 (by kernel_rfl) hc1) ?_; clear hk; intro a w hk
    refine FW.lfun (y := .agg ((ApiChange.cells (List.getD v10 (Int.toNat v12) default)))) hk rfl rfl rfl rfl (FW.f_load hk (FW.holds_nil _) rfl Go.Proofs.Tryz.underlying29 rfl rfl rfl rfl) ?_; clear hk; intro a w hk
    refine FW.l_alloc (zs := (ApiChange.cells (⟨0, [], false⟩ : ApiChange))) [] hk rfl rfl rfl rfl ?_; clear hk; intro bx1 a w hk
    refine FW.l_store (I' := [FW.blk bx1 29 ((ApiChange.cells (List.getD v10 (Int.toNat v12) default)))]) (cs' := (ApiChange.cells (List.getD v10 (Int.toNat v12) default))) (j := 0) hk rfl rfl rfl rfl rfl (by kernel_rfl) rfl rfl ?_; clear hk; intro w hk
    refine FW.lend (hK9 _ _ ?_); clear hK9 K'
    refine FW.wreg ?_; intro K' hK10
    refine FW.lfun (y := .lit (.pointer (some ⟨bx1, 1, none⟩))) hk rfl rfl rfl rfl (FW.f_fieldPtr hk (FW.holds_nil _) rfl Go.Proofs.Tryz.underlying29 rfl (by kernel_rfl) rfl) ?_; clear hk; intro a w hk
    refine FW.lfun (y := .lit (.string (FW.B ((List.getD v10 (Int.toNat v12) default).S)))) hk rfl rfl rfl rfl (FW.f_loadBlk1 hk (FW.holds_nil _) (j := 0) rfl rfl Go.Proofs.Tryz.underlying9 rfl rfl) ?_; clear hk; intro a w hk
    refine FW.lfun (y := .lit (.int .i64 (List.length ((List.getD v10 (Int.toNat v12) default).S) : Int))) hk rfl rfl rfl rfl ((FW.f_pure (FW.p_slen Go.Proofs.Tryz.underlying9 hk.kn (FW.holds_nil _) rfl))) ?_; clear hk; intro a w hk
    obtain ⟨t2, hr_t2, h⟩ := FW.bnd h
    refine FW.lfun (y := .lit (.string (FW.B t2))) hk rfl rfl rfl rfl (FW.f_call hk (FW.holds_nil _) rfl rfl Go.Proofs.Tryz.func49 rfl (by kernel_rfl) (val_Two.ok (List.length ((List.getD v10 (Int.toNat v12) default).S) : Int) _ hr_t2)) ?_; clear hk; intro a w hk
    refine FW.lfun (y := .lit (.string (FW.B t2))) hk rfl rfl rfl rfl (FW.f_assign hk (FW.holds_nil _) rfl) ?_; clear hk; intro a w hk
    refine FW.lend (hK10 _ _ ?_); clear hK10 K'
    refine FW.wseqJ (fun a w => ∃ (v3 : List UInt8) (v6 : List UInt8) (v10 : List ApiChange) (v11 : Int) (v12 : Int), FW.S M w0 a w 34 [FW.blk bx1 29 ((ApiChange.cells (List.getD v10 (Int.toNat v12) default)))] [(3, [], .lit (.string (FW.B v3))), (5, [], .lit (.pointer (some ⟨bx1, 0, none⟩))), (6, [], .lit (.string (FW.B v6))), (10, [], .row (r_ApiChange_cells v10)), (11, [], .lit (.int .i64 v11)), (12, [], .lit (.int .i64 v12))] ∧ rec_Batch.j1 (rec_Batch.l1 K kl1) K v10 v12 v3 v6 v10 v11 v12 = some r) ?_ ?_
    · clear hk h
      rintro a w ⟨v3, v6, v10, v11, v12, hk, h⟩
      unfold rec_Batch.j1 at h
      obtain ⟨t3, hr_t3, h⟩ := FW.bnd h
      obtain ⟨hc2, h⟩ := FW.chk h
      obtain ⟨hc3, h⟩ := FW.chk h
      obtain ⟨hc4, h⟩ := FW.chk h
      refine FW.wdraw1 (by kernel_rfl) (by kernel_rfl) hk ?_; clear hk
      refine FW.dfun (y := .lit (.string (FW.B v3))) rfl rfl rfl rfl (fun a w hk => FW.f_move hk (FW.holds_nil _) rfl) ?_
      refine FW.dfun (y := .lit (.pointer (some ⟨bx1, 0, none⟩))) rfl rfl rfl rfl (fun a w hk => FW.f_fieldPtr hk (FW.holds_nil _) rfl Go.Proofs.Tryz.underlying29 rfl (by kernel_rfl) rfl) ?_
      refine FW.dfun (y := .lit (.int .u64 ((List.getD v10 (Int.toNat v12) default).ID))) rfl rfl rfl rfl (fun a w hk => FW.f_loadBlk1 hk (FW.holds_nil _) (j := 0) rfl rfl Go.Proofs.Tryz.underlying27 rfl rfl) ?_
      refine FW.dfun (y := .lit (.string (FW.B t3))) rfl rfl rfl rfl (fun a w hk => FW.f_call hk (FW.holds_nil _) rfl rfl Go.Proofs.Tryz.func50 rfl (by kernel_rfl) (val_Eight.ok K ((List.getD v10 (Int.toNat v12) default).ID) _ hr_t3)) ?_
      refine FW.dfun (y := .lit (.string (FW.B v6))) rfl rfl rfl rfl (fun a w hk => FW.f_move hk (FW.holds_nil _) rfl) ?_
      refine FW.dfun (y := .lit (.string (FW.B (t3 ++ v6)))) rfl rfl rfl rfl (fun a w hk => (FW.f_pure (FW.p_sadd hk.kn (FW.holds_nil _) rfl rfl hc2))) ?_
      refine FW.dfun (y := .lit (.pointer (some ⟨bx1, 1, none⟩))) rfl rfl rfl rfl (fun a w hk => FW.f_fieldPtr hk (FW.holds_nil _) rfl Go.Proofs.Tryz.underlying29 rfl (by kernel_rfl) rfl) ?_
      refine FW.dfun (y := .lit (.string (FW.B ((List.getD v10 (Int.toNat v12) default).S)))) rfl rfl rfl rfl (fun a w hk => FW.f_loadBlk1 hk (FW.holds_nil _) (j := 0) rfl rfl Go.Proofs.Tryz.underlying9 rfl rfl) ?_
      refine FW.dfun (y := .lit (.string (FW.B ((t3 ++ v6) ++ ((List.getD v10 (Int.toNat v12) default).S))))) rfl rfl rfl rfl (fun a w hk => (FW.f_pure (FW.p_sadd hk.kn (FW.holds_nil _) rfl rfl hc3))) ?_
      refine FW.dfun (y := .lit (.string (FW.B (v3 ++ ((t3 ++ v6) ++ ((List.getD v10 (Int.toNat v12) default).S)))))) rfl rfl rfl rfl (fun a w hk => (FW.f_pure (FW.p_sadd hk.kn (FW.holds_nil _) rfl rfl hc4))) ?_
      refine FW.dfun (y := .lit (.string (FW.B (v3 ++ ((t3 ++ v6) ++ ((List.getD v10 (Int.toNat v12) default).S)))))) rfl rfl rfl rfl (fun a w hk => FW.f_assign hk (FW.holds_nil _) rfl) ?_
      refine FW.dend ?_; intro a w hk
      (repeat first | refine FW.then_normal ?_ | refine FW.block_normal ?_); refine hK8 _ _ ?_
      refine FW.wreg1 ?_
      refine FW.lfun (y := .lit (.int .i64 (IntKind.wrap .i64 (v12 + 1)))) hk rfl rfl rfl rfl ((FW.f_pure (FW.p_add hk.kn (FW.holds_nil _) rfl rfl))) ?_; clear hk; intro a w hk
      refine FW.lfun (y := .lit (.int .i64 (IntKind.wrap .i64 (v12 + 1)))) hk rfl rfl rfl rfl (FW.f_move hk (FW.holds_nil _) rfl) ?_; clear hk; intro a w hk
      refine wpList_nil ?_
      (repeat first | refine FW.then_normal ?_ | refine FW.block_normal ?_); exact hK5 (kl1, (v3 ++ ((t3 ++ v6) ++ ((List.getD v10 (Int.toNat v12) default).S))), v10, v11, (IntKind.wrap .i64 (v12 + 1))) _ _ (Nat.lt_succ_self _) ⟨(hk.drop 0).sub ⟨rfl, rfl, rfl, rfl, trivial⟩, h⟩
    · intro K' hK11
      refine FW.wreg ?_; intro K' hK14
      refine FW.lfun (y := .lit (.pointer (some ⟨bx1, 2, none⟩))) hk rfl rfl rfl rfl (FW.f_fieldPtr hk (FW.holds_nil _) rfl Go.Proofs.Tryz.underlying29 rfl (by kernel_rfl) rfl) ?_; clear hk; intro a w hk
      refine FW.lfun (y := .lit (.bool ((List.getD v10 (Int.toNat v12) default).Gone))) hk rfl rfl rfl rfl (FW.f_loadBlk1 hk (FW.holds_nil _) (j := 0) rfl rfl Go.Proofs.Tryz.underlying4 rfl rfl) ?_; clear hk; intro a w hk
      refine FW.lend (hK14 _ _ ?_); clear hK14 K'
      refine FW.wcondF (b := (List.getD v10 (Int.toNat v12) default).Gone) hk h rfl (fun h hb => ?_) (fun h hb => ?_)
      · skip
        refine FW.wreg1 ?_
        refine FW.lfun (y := .lit (.string (FW.B ([255, 255] : List UInt8)))) hk rfl rfl rfl rfl (FW.f_assign hk (FW.holds_nil _) rfl) ?_; clear hk; intro a w hk
        refine wpList_nil ?_
        (repeat first | refine FW.then_normal ?_ | refine FW.block_normal ?_); exact hK11 _ _ ⟨v3, ([255, 255] : List UInt8), v10, v11, v12, hk.sub ⟨rfl, rfl, rfl, rfl, rfl, rfl, trivial⟩, h⟩
      refine wp_skip ?_
      (repeat first | refine FW.then_normal ?_ | refine FW.block_normal ?_); exact hK11 _ _ ⟨v3, t2, v10, v11, v12, hk.sub ⟨rfl, rfl, rfl, rfl, rfl, rfl, trivial⟩, h⟩
  refine wp_exit ?_; (repeat first | refine FW.then_exit ?_ | refine FW.block_exit_ne rfl ?_); refine FW.block_exit ?_
  (repeat first | refine FW.then_normal ?_ | refine FW.block_normal ?_); refine hK3 _ _ ?_
  refine FW.wreg ?_; intro K' hK16
  refine FW.lfun (y := .lit (.string (FW.B v3))) hk rfl rfl rfl rfl (FW.f_move hk (FW.holds_nil _) rfl) ?_; clear hk; intro a w hk
  refine FW.lfun (y := .lit (.string (FW.B v3))) hk rfl rfl rfl rfl (FW.f_assign hk (FW.holds_nil _) rfl) ?_; clear hk; intro a w hk
  refine FW.lend (hK16 _ _ ?_); clear hK16 K'
  refine wp_ret ?_
  (repeat first | refine FW.then_ret ?_ | refine FW.block_ret ?_)
  obtain rfl := Option.some.inj h
  exact FW.fret1 hk rfl rfl
theorem log_pad.ok  (v0 : List UInt8) (v1 : Int) (r : List UInt8) (h : log_pad.f v0 v1 = some r) :
    FW.Ok Go.Proofs.Tryz.prog 78 [.lit (.string (FW.B v0)), .lit (.int .i64 v1)] (.lit (.string (FW.B r))) := by
  refine FW.enter (xs := [.lit (.string (FW.B v0)), .lit (.int .i64 v1)]) Go.Proofs.Tryz.func78 rfl Go.Proofs.Tryz.ntmps78 rfl ?_
  intro M w0 a hk
  unfold log_pad.f at h
  refine FW.wreg ?_; intro K' hK1
  refine FW.lfun (y := .lit (.string (FW.B ([] : List UInt8)))) hk rfl rfl rfl rfl (FW.f_assign hk (FW.holds_nil _) rfl) ?_; clear hk; intro a w hk
  refine FW.lend (hK1 _ _ ?_); clear hK1 K'
  refine FW.wreg ?_; intro K' hK2
  refine FW.lfun (y := .lit (.string (FW.B v0))) hk rfl rfl rfl rfl (FW.f_move hk (FW.holds_nil _) rfl) ?_; clear hk; intro a w hk
  refine FW.lfun (y := .lit (.int .i64 v1)) hk rfl rfl rfl rfl (FW.f_move hk (FW.holds_nil _) rfl) ?_; clear hk; intro a w hk
  refine FW.lfun (y := .lit (.string (FW.B v0))) hk rfl rfl rfl rfl (FW.f_move hk (FW.holds_nil _) rfl) ?_; clear hk; intro a w hk
  refine FW.lfun (y := .lit (.int .i64 (List.length v0 : Int))) hk rfl rfl rfl rfl ((FW.f_pure (FW.p_slen Go.Proofs.Tryz.underlying9 hk.kn (FW.holds_nil _) rfl))) ?_; clear hk; intro a w hk
  refine FW.lfun (y := .lit (.int .i64 (IntKind.wrap .i64 (v1 - (List.length v0 : Int))))) hk rfl rfl rfl rfl ((FW.f_pure (FW.p_sub hk.kn (FW.holds_nil _) rfl rfl))) ?_; clear hk; intro a w hk
  obtain ⟨t1, hr_t1, h⟩ := FW.bnd h
  refine FW.lfun (y := .lit (.string (FW.B t1))) hk rfl rfl rfl rfl (FW.f_call hk (FW.holds_nil _) rfl rfl Go.Proofs.Tryz.func46 rfl (by kernel_rfl) (strings_Repeat.ok ([0] : List UInt8) (IntKind.wrap .i64 (v1 - (List.length v0 : Int))) _ hr_t1)) ?_; clear hk; intro a w hk
  obtain ⟨hc1, h⟩ := FW.chk h
  refine FW.lfun (y := .lit (.string (FW.B (v0 ++ t1)))) hk rfl rfl rfl rfl ((FW.f_pure (FW.p_sadd hk.kn (FW.holds_nil _) rfl rfl hc1))) ?_; clear hk; intro a w hk
  refine FW.lfun (y := .lit (.string (FW.B (v0 ++ t1)))) hk rfl rfl rfl rfl (FW.f_assign hk (FW.holds_nil _) rfl) ?_; clear hk; intro a w hk
  refine FW.lend (hK2 _ _ ?_); clear hK2 K'
  refine wp_ret ?_
  (repeat first | refine FW.then_ret ?_ | refine FW.block_ret ?_)
  obtain rfl := Option.some.inj h
  exact FW.fret1 hk rfl rfl
theorem log_Log_body.ok (K : Nat) (v0 : OLogLog) (v0_0 : ODevDev) (v1 : List UInt8) (r : Int × OLogLog × ODevDev) (h : log_Log_body.f K v0 v0_0 v1 = some r) :
    ∀ (b0 : Nat) (b0_0 : Nat) (xd0_0_0 : Option Addr) (xc0_0_0 : Nat) (xr0_0_1 : Nat) (xd0_0_3 : Option Addr) (xc0_0_3 : Nat), FW.OkH Go.Proofs.Tryz.prog 52 [.lit (.pointer (some ⟨b0, 0, none⟩)), .lit (.string (FW.B v1))] ((OLogLog.items b0 b0_0 v0) ++ (ODevDev.items b0_0 xd0_0_0 xc0_0_0 xr0_0_1 xd0_0_3 xc0_0_3 v0_0)) (fun y I => ∃ (zxd0_0_0 : Option Addr) (zxc0_0_0 : Nat) (zxr0_0_1 : Nat) (zxd0_0_3 : Option Addr) (zxc0_0_3 : Nat), y = .lit (.int .i64 r.1) ∧ I = (OLogLog.items b0 b0_0 r.2.1) ++ (ODevDev.items b0_0 zxd0_0_0 zxc0_0_0 zxr0_0_1 zxd0_0_3 zxc0_0_3 r.2.2)) := by
  intro b0 b0_0 xd0_0_0 xc0_0_0 xr0_0_1 xd0_0_3 xc0_0_3
  refine FW.enterH (xs := [.lit (.pointer (some ⟨b0, 0, none⟩)), .lit (.string (FW.B v1))]) Go.Proofs.Tryz.func52 rfl Go.Proofs.Tryz.ntmps52 rfl ?_
  intro M w0 a hk
  replace hk : FW.S M w0 a w0.toWorld 74 [FW.blk b0 99 ([.lit (.pointer (some ⟨b0_0, 0, none⟩)), .lit (.int .i64 v0.from_), .lit (.int .i64 v0.to_), .lit (.int .i64 v0.at_), .lit (.int .u64 v0.next)]), FW.blk b0_0 75 ([.lit (.slice xd0_0_0 (List.length v0_0.sure) xc0_0_0), .lit (.map (some xr0_0_1)), .lit (.int .i64 v0_0.steps), .lit (.slice xd0_0_3 (List.length v0_0.falls) xc0_0_3), .lit (.bool v0_0.off)]), FW.orow xd0_0_0 xc0_0_0 9 1 c_str v0_0.sure, FW.mapI (.int .i64) (Value.int .i64) FW.evS xr0_0_1 v0_0.cache, FW.orow xd0_0_3 xc0_0_3 52 3 ApiFall.cells v0_0.falls] [(0, [], .lit (.pointer (some ⟨b0, 0, none⟩))), (1, [], .lit (.string (FW.B v1)))] := hk
  unfold log_Log_body.f at h
  refine FW.wreg ?_; intro K' hK1
  refine FW.lfun (y := .lit (.int .i64 0)) hk rfl rfl rfl rfl (FW.f_assign hk (FW.holds_nil _) rfl) ?_; clear hk; intro a w hk
  refine FW.lend (hK1 _ _ ?_); clear hK1 K'
  obtain ⟨t1, hr_t1, h⟩ := FW.bnd h
  refine FW.wdraw (by kernel_rfl) (by kernel_rfl) hk ?_; clear hk
  refine FW.dfun (y := .lit (.pointer (some ⟨b0, 0, none⟩))) rfl rfl rfl rfl (fun a w hk => FW.f_move hk (FW.holds_nil _) rfl) ?_
  refine FW.dfun (y := .lit (.pointer (some ⟨b0, 0, none⟩))) rfl rfl rfl rfl (fun a w hk => (FW.f_pure (FW.p_nilCheck hk.kn (FW.holds_nil _) rfl))) ?_
  refine FW.dfun (y := .lit (.pointer (some ⟨b0, 3, none⟩))) rfl rfl rfl rfl (fun a w hk => FW.f_fieldPtr hk (FW.holds_nil _) rfl Go.Proofs.Tryz.underlying99 rfl (by kernel_rfl) rfl) ?_
  refine FW.dfun (y := .lit (.int .i64 v0.at_)) rfl rfl rfl rfl (fun a w hk => FW.f_loadBlk1 hk (FW.holds_nil _) (j := 0) rfl rfl Go.Proofs.Tryz.underlying3 rfl rfl) ?_
  refine FW.dfun (y := .lit (.string (FW.B v1))) rfl rfl rfl rfl (fun a w hk => FW.f_move hk (FW.holds_nil _) rfl) ?_
  refine FW.dfun (y := .lit (.int .i64 (List.length v1 : Int))) rfl rfl rfl rfl (fun a w hk => (FW.f_pure (FW.p_slen Go.Proofs.Tryz.underlying9 hk.kn (FW.holds_nil _) rfl))) ?_
  refine FW.dfun (y := .lit (.int .i64 t1)) rfl rfl rfl rfl (fun a w hk => FW.f_call hk (FW.holds_nil _) rfl rfl Go.Proofs.Tryz.func51 rfl (by kernel_rfl) (log_Sectors.ok (List.length v1 : Int) _ hr_t1)) ?_
  refine FW.dfun (y := .lit (.int .i64 (IntKind.wrap .i64 (v0.at_ + t1)))) rfl rfl rfl rfl (fun a w hk => (FW.f_pure (FW.p_add hk.kn (FW.holds_nil _) rfl rfl))) ?_
  refine FW.dfun (y := .lit (.int .i64 (IntKind.wrap .i64 (v0.at_ + t1)))) rfl rfl rfl rfl (fun a w hk => FW.f_assign hk (FW.holds_nil _) rfl) ?_
  refine FW.dend ?_; intro a w hk
  refine FW.wreg ?_; intro K' hK3
  refine FW.lfun (y := .lit (.string (FW.B v1))) hk rfl rfl rfl rfl (FW.f_move hk (FW.holds_nil _) rfl) ?_; clear hk; intro a w hk
  refine FW.lfun (y := .lit (.string (FW.B v1))) hk rfl rfl rfl rfl (FW.f_move hk (FW.holds_nil _) rfl) ?_; clear hk; intro a w hk
  refine FW.lfun (y := .lit (.int .i64 (List.length v1 : Int))) hk rfl rfl rfl rfl ((FW.f_pure (FW.p_slen Go.Proofs.Tryz.underlying9 hk.kn (FW.holds_nil _) rfl))) ?_; clear hk; intro a w hk
  refine FW.lfun (y := .lit (.int .i64 (if 104 < (List.length v1 : Int) then 104 else (List.length v1 : Int)))) hk rfl rfl rfl rfl ((FW.f_pure (FW.p_min hk.kn (FW.holds_nil _) rfl rfl))) ?_; clear hk; intro a w hk
  obtain ⟨hc1, h⟩ := FW.chk h
  refine FW.lfun (y := .lit (.string (FW.B (List.drop (Int.toNat (if 104 < (List.length v1 : Int) then 104 else (List.length v1 : Int))) v1)))) hk rfl rfl rfl rfl ((FW.f_pure (FW.p_slice_lo Go.Proofs.Tryz.underlying9 hk.kn (FW.holds_nil _) rfl rfl hc1))) ?_; clear hk; intro a w hk
  refine FW.lfun (y := .lit (.string (FW.B (List.drop (Int.toNat (if 104 < (List.length v1 : Int) then 104 else (List.length v1 : Int))) v1)))) hk rfl rfl rfl rfl (FW.f_assign hk (FW.holds_nil _) rfl) ?_; clear hk; intro a w hk
  refine FW.lend (hK3 _ _ ?_); clear hK3 K'
  refine FW.wseq ?_; intro K' hK4
  refine FW.wreg ?_; intro K' hK5
  refine FW.lfun (y := .lit (.pointer (some ⟨b0, 0, none⟩))) hk rfl rfl rfl rfl (FW.f_move hk (FW.holds_nil _) rfl) ?_; clear hk; intro a w hk
  refine FW.lfun (y := .lit (.pointer (some ⟨b0, 0, none⟩))) hk rfl rfl rfl rfl ((FW.f_pure (FW.p_nilCheck hk.kn (FW.holds_nil _) rfl))) ?_; clear hk; intro a w hk
  refine FW.lfun (y := .lit (.pointer (some ⟨b0, 3, none⟩))) hk rfl rfl rfl rfl (FW.f_fieldPtr hk (FW.holds_nil _) rfl Go.Proofs.Tryz.underlying99 rfl (by kernel_rfl) rfl) ?_; clear hk; intro a w hk
  refine FW.lfun (y := .lit (.int .i64 v0.at_)) hk rfl rfl rfl rfl (FW.f_loadBlk1 hk (FW.holds_nil _) (j := 0) rfl rfl Go.Proofs.Tryz.underlying3 rfl rfl) ?_; clear hk; intro a w hk
  refine FW.lfun (y := .lit (.int .i64 (IntKind.wrap .i64 (v0.at_ + 1)))) hk rfl rfl rfl rfl ((FW.f_pure (FW.p_add hk.kn (FW.holds_nil _) rfl rfl))) ?_; clear hk; intro a w hk
  refine FW.lfun (y := .lit (.int .i64 (IntKind.wrap .i64 (v0.at_ + 1)))) hk rfl rfl rfl rfl (FW.f_assign hk (FW.holds_nil _) rfl) ?_; clear hk; intro a w hk
  refine FW.lend (hK5 _ _ ?_); clear hK5 K'
  refine wp_block ?_
  refine FW.wloop (T := Nat × Int × Bool × List (List UInt8) × (List (Int × (List UInt8))) × List ApiFall × Int × List UInt8 × Int × Option Addr × Nat × Nat × Option Addr × Nat) (fun x a w => match x with | (kl1, y2_2, y2_4, l3, m4, l5, v5, v6, v7, xd3, xc3, xr4, xd5, xc5) => FW.S M w0 a w 74 [FW.blk b0 99 ([.lit (.pointer (some ⟨b0_0, 0, none⟩)), .lit (.int .i64 v0.from_), .lit (.int .i64 v0.to_), .lit (.int .i64 v0.at_), .lit (.int .u64 v0.next)]), FW.blk b0_0 75 ([.lit (.slice xd3 (List.length l3) xc3), .lit (.map (some xr4)), .lit (.int .i64 y2_2), .lit (.slice xd5 (List.length l5) xc5), .lit (.bool y2_4)]), FW.orow xd3 xc3 9 1 c_str l3, FW.mapI (.int .i64) (Value.int .i64) FW.evS xr4 m4, FW.orow xd5 xc5 52 3 ApiFall.cells l5] [(0, [], .lit (.pointer (some ⟨b0, 0, none⟩))), (5, [], .lit (.int .i64 v5)), (6, [], .lit (.string (FW.B v6))), (7, [], .lit (.int .i64 v7))] ∧ log_Log_body.l1 K v0 kl1 y2_2 y2_4 l3 m4 l5 v5 v6 v7 = some r) (fun x => x.1) (K, v0_0.steps, v0_0.off, v0_0.sure, v0_0.cache, v0_0.falls, (IntKind.wrap .i64 (v0.at_ + t1)), (List.drop (Int.toNat (if 104 < (List.length v1 : Int) then 104 else (List.length v1 : Int))) v1), (IntKind.wrap .i64 (v0.at_ + 1)), xd0_0_0, xc0_0_0, xr0_0_1, xd0_0_3, xc0_0_3) ⟨hk.sub ⟨rfl, rfl, rfl, rfl, trivial⟩, h⟩ ?_
  clear hk h
  rintro ⟨kl1, y2_2, y2_4, l3, m4, l5, v5, v6, v7, xd3, xc3, xr4, xd5, xc5⟩ a w ⟨hk, h⟩ K' hK6
  cases kl1 with
  | zero => simp [log_Log_body.l1] at h
  | succ kl1 =>
  rw [log_Log_body.l1.eq_2] at h
  refine FW.wseq ?_; intro K' hK7
  refine FW.wreg ?_; intro K' hK8
  refine FW.lfun (y := .lit (.int .i64 v7)) hk rfl rfl rfl rfl (FW.f_move hk (FW.holds_nil _) rfl) ?_; clear hk; intro a w hk
  refine FW.lfun (y := .lit (.int .i64 v5)) hk rfl rfl rfl rfl (FW.f_move hk (FW.holds_nil _) rfl) ?_; clear hk; intro a w hk
  refine FW.lfun (y := .lit (.bool (decide (v7 < v5)))) hk rfl rfl rfl rfl ((FW.f_pure (FW.p_lss hk.kn (FW.holds_nil _) rfl rfl))) ?_; clear hk; intro a w hk
  refine FW.lend (hK8 _ _ ?_); clear hK8 K'
  refine FW.wcondF (b := (decide (v7 < v5))) hk h rfl (fun h hb => ?_) (fun h hb => ?_)
  · skip
    refine wp_skip ?_
    (repeat first | refine FW.then_normal ?_ | refine FW.block_normal ?_); refine hK7 _ _ ?_
    refine FW.wseq ?_; intro K' hK9
    refine wp_block ?_
    refine FW.wreg ?_; intro K' hK10
    refine FW.lfun (y := .lit (.string (FW.B v6))) hk rfl rfl rfl rfl (FW.f_move hk (FW.holds_nil _) rfl) ?_; clear hk; intro a w hk
    refine FW.lfun (y := .lit (.int .i64 (List.length v6 : Int))) hk rfl rfl rfl rfl ((FW.f_pure (FW.p_slen Go.Proofs.Tryz.underlying9 hk.kn (FW.holds_nil _) rfl))) ?_; clear hk; intro a w hk
    refine FW.lfun (y := .lit (.int .i64 (if 128 < (List.length v6 : Int) then 128 else (List.length v6 : Int)))) hk rfl rfl rfl rfl ((FW.f_pure (FW.p_min hk.kn (FW.holds_nil _) rfl rfl))) ?_; clear hk; intro a w hk
    refine FW.lfun (y := .lit (.int .i64 (if 128 < (List.length v6 : Int) then 128 else (List.length v6 : Int)))) hk rfl rfl rfl rfl (FW.f_assign hk (FW.holds_nil _) rfl) ?_; clear hk; intro a w hk
    refine FW.lend (hK10 _ _ ?_); clear hK10 K'
    refine FW.wseq ?_; intro K' hK11
    obtain ⟨hc2, h⟩ := FW.chk h
    obtain ⟨t2, hr_t2, h⟩ := FW.bnd h
    obtain ⟨t3, hr_t3, h⟩ := FW.bnd h
    refine FW.wdrawE (.next [true, true, true, true, true, true, true, true, true, false, false] 9 [true, true, true, true, true, true, true, true, true, false, false] (.leaf [false, false, false, false, false, false, false, false, false, false, true])) [(37, [], .lit (.pointer (some ⟨b0, 0, none⟩))), (38, [], .lit (.pointer (some ⟨b0, 0, none⟩))), (39, [], .lit (.pointer (some ⟨b0, 0, none⟩))), (40, [], .lit (.pointer (some ⟨b0_0, 0, none⟩))), (41, [], .lit (.int .i64 v7)), (42, [], .lit (.string (FW.B v6))), (43, [], .lit (.int .i64 (if 128 < (List.length v6 : Int) then 128 else (List.length v6 : Int)))), (44, [], .lit (.string (FW.B (List.take (Int.toNat (if 128 < (List.length v6 : Int) then 128 else (List.length v6 : Int))) v6)))), (45, [], .lit (.string (FW.B t2))), (46, [], .agg []), (9, [], .agg [])] (by kernel_rfl) (by kernel_rfl) (by kernel_rfl) (by kernel_rfl) hk ?_; clear hk
    refine FW.gnext ?_ rfl rfl rfl rfl rfl ?_
    · skip
      refine FW.gfun (y := .lit (.pointer (some ⟨b0, 0, none⟩))) rfl rfl rfl rfl (fun a w hk => FW.f_move hk (FW.holds_nil _) rfl) ?_
      refine FW.gfun (y := .lit (.pointer (some ⟨b0, 0, none⟩))) rfl rfl rfl rfl (fun a w hk => (FW.f_pure (FW.p_nilCheck hk.kn (FW.holds_nil _) rfl))) ?_
      refine FW.gfun (y := .lit (.pointer (some ⟨b0, 0, none⟩))) rfl rfl rfl rfl (fun a w hk => FW.f_fieldPtr hk (FW.holds_nil _) rfl Go.Proofs.Tryz.underlying99 rfl (by kernel_rfl) rfl) ?_
      refine FW.gfun (y := .lit (.pointer (some ⟨b0_0, 0, none⟩))) rfl rfl rfl rfl (fun a w hk => FW.f_loadBlk1 hk (FW.holds_nil _) (j := 0) rfl rfl Go.Proofs.Tryz.underlying24 rfl rfl) ?_
      refine FW.gfun (y := .lit (.int .i64 v7)) rfl rfl rfl rfl (fun a w hk => FW.f_move hk (FW.holds_nil _) rfl) ?_
      refine FW.gfun (y := .lit (.string (FW.B v6))) rfl rfl rfl rfl (fun a w hk => FW.f_move hk (FW.holds_nil _) rfl) ?_
      refine FW.gfun (y := .lit (.int .i64 (if 128 < (List.length v6 : Int) then 128 else (List.length v6 : Int)))) rfl rfl rfl rfl (fun a w hk => FW.f_move hk (FW.holds_nil _) rfl) ?_
      refine FW.gfun (y := .lit (.string (FW.B (List.take (Int.toNat (if 128 < (List.length v6 : Int) then 128 else (List.length v6 : Int))) v6)))) rfl rfl rfl rfl (fun a w hk => (FW.f_pure (FW.p_slice_hi Go.Proofs.Tryz.underlying9 hk.kn (FW.holds_nil _) rfl rfl hc2))) ?_
      refine FW.gfun (y := .lit (.string (FW.B t2))) rfl rfl rfl rfl (fun a w hk => FW.f_call hk (FW.holds_nil _) rfl rfl Go.Proofs.Tryz.func78 rfl (by kernel_rfl) (log_pad.ok (List.take (Int.toNat (if 128 < (List.length v6 : Int) then 128 else (List.length v6 : Int))) v6) 128 _ hr_t2)) ?_
      refine FW.gskip rfl rfl ?_
      refine FW.gskip rfl rfl ?_
      exact FW.gend
    · skip
      intro σD a w opsD QD hk hf hQ hX
      refine FW.l_callH (I1 := (ODevDev.items b0_0 xd3 xc3 xr4 xd5 xc5 (⟨l3, m4, y2_2, l5, y2_4⟩ : ODevDev))) (I2 := [FW.blk b0 99 ([.lit (.pointer (some ⟨b0_0, 0, none⟩)), .lit (.int .i64 v0.from_), .lit (.int .i64 v0.to_), .lit (.int .i64 v0.at_), .lit (.int .u64 v0.next)])]) (js := [4, 4, 4, 4]) hk rfl rfl hf rfl rfl Go.Proofs.Tryz.func53 rfl (by kernel_rfl) (dev_Dev_Write.ok K (⟨l3, m4, y2_2, l5, y2_4⟩ : ODevDev) v7 t2 _ hr_t3 b0_0 xd3 xc3 xr4 xd5 xc5) ?_; clear hk
      rintro _ _ ⟨zd1, zc1, zr1, zd2, zc2, rfl, rfl⟩ a w hk
      refine hQ _ _ a w ?_ hk; clear hk hQ hf hX
      refine ⟨[(37, [], .lit (.pointer (some ⟨b0, 0, none⟩))), (38, [], .lit (.pointer (some ⟨b0, 0, none⟩))), (39, [], .lit (.pointer (some ⟨b0, 0, none⟩))), (40, [], .lit (.pointer (some ⟨b0_0, 0, none⟩))), (41, [], .lit (.int .i64 v7)), (42, [], .lit (.string (FW.B v6))), (43, [], .lit (.int .i64 (if 128 < (List.length v6 : Int) then 128 else (List.length v6 : Int)))), (44, [], .lit (.string (FW.B (List.take (Int.toNat (if 128 < (List.length v6 : Int) then 128 else (List.length v6 : Int))) v6)))), (45, [], .lit (.string (FW.B t2))), (46, [], .lit (.int .i64 t3.1)), (9, [], .lit (.int .i64 t3.1))], And.intro rfl (And.intro rfl (And.intro rfl (And.intro rfl (And.intro rfl (And.intro rfl (And.intro rfl (And.intro rfl (And.intro rfl (trivial))))))))), rfl, ?_⟩
      refine FW.glast ?_ ?_
      · skip
        refine FW.gskip rfl rfl ?_
        refine FW.gskip rfl rfl ?_
        refine FW.gskip rfl rfl ?_
        refine FW.gskip rfl rfl ?_
        refine FW.gskip rfl rfl ?_
        refine FW.gskip rfl rfl ?_
        refine FW.gskip rfl rfl ?_
        refine FW.gskip rfl rfl ?_
        refine FW.gskip rfl rfl ?_
        refine FW.gskip rfl rfl ?_
        refine FW.gfun (y := .lit (.int .i64 t3.1)) rfl rfl rfl rfl (fun a w hk => FW.f_assign hk (FW.holds_nil _) rfl) ?_
        exact FW.gend
      · skip
        intro a w hk; simp only [FW.stD, cond_true] at hk
        refine FW.wreg ?_; intro K' hK13
        refine FW.lfun (y := .lit (.int .i64 t3.1)) hk rfl rfl rfl rfl (FW.f_move hk (FW.holds_nil _) rfl) ?_; clear hk; intro a w hk
        refine FW.lfun (y := .lit (.bool (!decide (t3.1 = 0)))) hk rfl rfl rfl rfl ((FW.f_pure (FW.p_neq hk.kn (FW.holds_nil _) rfl rfl))) ?_; clear hk; intro a w hk
        refine FW.lend (hK13 _ _ ?_); clear hK13 K'
        refine FW.wcondF (b := (!decide (t3.1 = 0))) hk h rfl (fun h hb => ?_) (fun h hb => ?_)
        · skip
          refine FW.wreg ?_; intro K' hK14
          refine FW.lfun (y := .lit (.int .i64 t3.1)) hk rfl rfl rfl rfl (FW.f_move hk (FW.holds_nil _) rfl) ?_; clear hk; intro a w hk
          refine FW.lfun (y := .lit (.int .i64 t3.1)) hk rfl rfl rfl rfl (FW.f_assign hk (FW.holds_nil _) rfl) ?_; clear hk; intro a w hk
          refine FW.lend (hK14 _ _ ?_); clear hK14 K'
          refine wp_ret ?_
          (repeat first | refine FW.then_ret ?_ | refine FW.block_ret ?_)
          obtain rfl := Option.some.inj h
          replace hk := FW.S.keep (I1 := [FW.blk b0 99 ([.lit (.pointer (some ⟨b0_0, 0, none⟩)), .lit (.int .i64 v0.from_), .lit (.int .i64 v0.to_), .lit (.int .i64 v0.at_), .lit (.int .u64 v0.next)]), FW.blk b0_0 75 ([.lit (.slice zd1 (List.length t3.2.sure) zc1), .lit (.map (some zr1)), .lit (.int .i64 t3.2.steps), .lit (.slice zd2 (List.length t3.2.falls) zc2), .lit (.bool t3.2.off)]), FW.orow zd1 zc1 9 1 c_str t3.2.sure, FW.mapI (.int .i64) (Value.int .i64) FW.evS zr1 t3.2.cache, FW.orow zd2 zc2 52 3 ApiFall.cells t3.2.falls]) (I2 := []) (js := [3, 3, 3, 3, 4]) hk rfl
          exact FW.fretH1 hk rfl (FW.rtmp hk rfl) ⟨zd1, zc1, zr1, zd2, zc2, rfl, rfl⟩
        refine wp_skip ?_
        (repeat first | refine FW.then_normal ?_ | refine FW.block_normal ?_); refine hK11 _ _ ?_
        refine FW.wreg1 ?_
        refine FW.lfun (y := .lit (.string (FW.B v6))) hk rfl rfl rfl rfl (FW.f_move hk (FW.holds_nil _) rfl) ?_; clear hk; intro a w hk
        refine FW.lfun (y := .lit (.int .i64 (if 128 < (List.length v6 : Int) then 128 else (List.length v6 : Int)))) hk rfl rfl rfl rfl (FW.f_move hk (FW.holds_nil _) rfl) ?_; clear hk; intro a w hk
        obtain ⟨hc3, h⟩ := FW.chk h
        refine FW.lfun (y := .lit (.string (FW.B (List.drop (Int.toNat (if 128 < (List.length v6 : Int) then 128 else (List.length v6 : Int))) v6)))) hk rfl rfl rfl rfl ((FW.f_pure (FW.p_slice_lo Go.Proofs.Tryz.underlying9 hk.kn (FW.holds_nil _) rfl rfl hc3))) ?_; clear hk; intro a w hk
        refine FW.lfun (y := .lit (.string (FW.B (List.drop (Int.toNat (if 128 < (List.length v6 : Int) then 128 else (List.length v6 : Int))) v6)))) hk rfl rfl rfl rfl (FW.f_assign hk (FW.holds_nil _) rfl) ?_; clear hk; intro a w hk
        refine wpList_nil ?_
        (repeat first | refine FW.then_normal ?_ | refine FW.block_normal ?_); refine hK9 _ _ ?_
        refine FW.wreg1 ?_
        refine FW.lfun (y := .lit (.int .i64 v7)) hk rfl rfl rfl rfl (FW.f_move hk (FW.holds_nil _) rfl) ?_; clear hk; intro a w hk
        refine FW.lfun (y := .lit (.int .i64 (IntKind.wrap .i64 (v7 + 1)))) hk rfl rfl rfl rfl ((FW.f_pure (FW.p_add hk.kn (FW.holds_nil _) rfl rfl))) ?_; clear hk; intro a w hk
        refine FW.lfun (y := .lit (.int .i64 (IntKind.wrap .i64 (v7 + 1)))) hk rfl rfl rfl rfl (FW.f_assign hk (FW.holds_nil _) rfl) ?_; clear hk; intro a w hk
        refine wpList_nil ?_
        (repeat first | refine FW.then_normal ?_ | refine FW.block_normal ?_); exact hK6 (kl1, t3.2.steps, t3.2.off, t3.2.sure, t3.2.cache, t3.2.falls, v5, (List.drop (Int.toNat (if 128 < (List.length v6 : Int) then 128 else (List.length v6 : Int))) v6), (IntKind.wrap .i64 (v7 + 1)), zd1, zc1, zr1, zd2, zc2) _ _ (Nat.lt_succ_self _) ⟨(FW.S.pick hk (js := [3, 3, 3, 3, 4]) rfl).sub ⟨rfl, rfl, rfl, rfl, trivial⟩, h⟩
  refine wp_exit ?_; (repeat first | refine FW.then_exit ?_ | refine FW.block_exit_ne rfl ?_); refine FW.block_exit ?_
  (repeat first | refine FW.then_normal ?_ | refine FW.block_normal ?_); refine hK4 _ _ ?_
  refine FW.wseqJ (fun a w => ∃ (y2_2 : Int) (y2_4 : Bool) (l3 : List (List UInt8)) (m4 : List (Int × (List UInt8))) (l5 : List ApiFall) (xd3 : Option Addr) (xc3 : Nat) (xr4 : Nat) (xd5 : Option Addr) (xc5 : Nat), FW.S M w0 a w 74 [FW.blk b0_0 75 ([.lit (.slice xd3 (List.length l3) xc3), .lit (.map (some xr4)), .lit (.int .i64 y2_2), .lit (.slice xd5 (List.length l5) xc5), .lit (.bool y2_4)]), FW.orow xd3 xc3 9 1 c_str l3, FW.mapI (.int .i64) (Value.int .i64) FW.evS xr4 m4, FW.orow xd5 xc5 52 3 ApiFall.cells l5, FW.blk b0 99 ([.lit (.pointer (some ⟨b0_0, 0, none⟩)), .lit (.int .i64 v0.from_), .lit (.int .i64 v0.to_), .lit (.int .i64 v0.at_), .lit (.int .u64 v0.next)])] [(0, [], .lit (.pointer (some ⟨b0, 0, none⟩)))] ∧ log_Log_body.j1 (log_Log_body.l1 K v0 kl1) K v0 y2_2 y2_4 l3 m4 l5 = some r) ?_ ?_
  · clear hk h
    rintro a w ⟨y2_2, y2_4, l3, m4, l5, xd3, xc3, xr4, xd5, xc5, hk, h⟩
    unfold log_Log_body.j1 at h
    refine FW.wreg ?_; intro K' hK18
    refine FW.lfun (y := .lit (.pointer (some ⟨b0, 0, none⟩))) hk rfl rfl rfl rfl (FW.f_move hk (FW.holds_nil _) rfl) ?_; clear hk; intro a w hk
    refine FW.lfun (y := .lit (.pointer (some ⟨b0, 0, none⟩))) hk rfl rfl rfl rfl ((FW.f_pure (FW.p_nilCheck hk.kn (FW.holds_nil _) rfl))) ?_; clear hk; intro a w hk
    refine FW.lfun (y := .lit (.pointer (some ⟨b0, 0, none⟩))) hk rfl rfl rfl rfl (FW.f_fieldPtr hk (FW.holds_nil _) rfl Go.Proofs.Tryz.underlying99 rfl (by kernel_rfl) rfl) ?_; clear hk; intro a w hk
    refine FW.lfun (y := .lit (.pointer (some ⟨b0_0, 0, none⟩))) hk rfl rfl rfl rfl (FW.f_loadBlk1 hk (FW.holds_nil _) (j := 4) rfl rfl Go.Proofs.Tryz.underlying24 rfl rfl) ?_; clear hk; intro a w hk
    obtain ⟨t4, hr_t4, h⟩ := FW.bnd h
    refine FW.l_callH (I1 := (ODevDev.items b0_0 xd3 xc3 xr4 xd5 xc5 (⟨l3, m4, y2_2, l5, y2_4⟩ : ODevDev))) (I2 := [FW.blk b0 99 ([.lit (.pointer (some ⟨b0_0, 0, none⟩)), .lit (.int .i64 v0.from_), .lit (.int .i64 v0.to_), .lit (.int .i64 v0.at_), .lit (.int .u64 v0.next)])]) (js := [3, 3, 3, 3]) hk rfl rfl rfl rfl rfl Go.Proofs.Tryz.func55 rfl (by kernel_rfl) (dev_Dev_Flush.ok K (⟨l3, m4, y2_2, l5, y2_4⟩ : ODevDev) _ hr_t4 b0_0 xd3 xc3 xr4 xd5 xc5) ?_; clear hk
    rintro _ _ ⟨zd3, zc3, zr2, zd4, zc4, rfl, rfl⟩ a w hk
    refine FW.lfun (y := .lit (.int .i64 t4.1)) hk rfl rfl rfl rfl (FW.f_assign hk (FW.holds_nil _) rfl) ?_; clear hk; intro a w hk
    refine FW.lend (hK18 _ _ ?_); clear hK18 K'
    refine wp_ret ?_
    (repeat first | refine FW.then_ret ?_ | refine FW.block_ret ?_)
    obtain rfl := Option.some.inj h
    replace hk := FW.S.keep (I1 := [FW.blk b0 99 ([.lit (.pointer (some ⟨b0_0, 0, none⟩)), .lit (.int .i64 v0.from_), .lit (.int .i64 v0.to_), .lit (.int .i64 v0.at_), .lit (.int .u64 v0.next)]), FW.blk b0_0 75 ([.lit (.slice zd3 (List.length t4.2.sure) zc3), .lit (.map (some zr2)), .lit (.int .i64 t4.2.steps), .lit (.slice zd4 (List.length t4.2.falls) zc4), .lit (.bool t4.2.off)]), FW.orow zd3 zc3 9 1 c_str t4.2.sure, FW.mapI (.int .i64) (Value.int .i64) FW.evS zr2 t4.2.cache, FW.orow zd4 zc4 52 3 ApiFall.cells t4.2.falls]) (I2 := []) (js := [3, 3, 3, 3, 4]) hk rfl
    exact FW.fretH1 hk rfl (FW.rtmp hk rfl) ⟨zd3, zc3, zr2, zd4, zc4, rfl, rfl⟩
  · intro K' hK17
    refine FW.wreg ?_; intro K' hK19
    refine FW.lfun (y := .lit (.int .i64 v5)) hk rfl rfl rfl rfl (FW.f_move hk (FW.holds_nil _) rfl) ?_; clear hk; intro a w hk
    refine FW.lfun (y := .lit (.pointer (some ⟨b0, 0, none⟩))) hk rfl rfl rfl rfl (FW.f_move hk (FW.holds_nil _) rfl) ?_; clear hk; intro a w hk
    refine FW.lfun (y := .lit (.pointer (some ⟨b0, 0, none⟩))) hk rfl rfl rfl rfl ((FW.f_pure (FW.p_nilCheck hk.kn (FW.holds_nil _) rfl))) ?_; clear hk; intro a w hk
    refine FW.lfun (y := .lit (.pointer (some ⟨b0, 2, none⟩))) hk rfl rfl rfl rfl (FW.f_fieldPtr hk (FW.holds_nil _) rfl Go.Proofs.Tryz.underlying99 rfl (by kernel_rfl) rfl) ?_; clear hk; intro a w hk
    refine FW.lfun (y := .lit (.int .i64 v0.to_)) hk rfl rfl rfl rfl (FW.f_loadBlk1 hk (FW.holds_nil _) (j := 0) rfl rfl Go.Proofs.Tryz.underlying3 rfl rfl) ?_; clear hk; intro a w hk
    refine FW.lfun (y := .lit (.bool (decide (v5 < v0.to_)))) hk rfl rfl rfl rfl ((FW.f_pure (FW.p_lss hk.kn (FW.holds_nil _) rfl rfl))) ?_; clear hk; intro a w hk
    refine FW.lend (hK19 _ _ ?_); clear hK19 K'
    refine FW.wcondF (b := (decide (v5 < v0.to_))) hk h rfl (fun h hb => ?_) (fun h hb => ?_)
    · skip
      obtain ⟨t5, hr_t5, h⟩ := FW.bnd h
      obtain ⟨t6, hr_t6, h⟩ := FW.bnd h
      refine FW.wdrawE (.next [true, true, true, true, true, true, false, false] 6 [true, true, true, true, true, true, false, false] (.leaf [false, false, false, false, false, false, false, true])) [(59, [], .lit (.pointer (some ⟨b0, 0, none⟩))), (60, [], .lit (.pointer (some ⟨b0, 0, none⟩))), (61, [], .lit (.pointer (some ⟨b0, 0, none⟩))), (62, [], .lit (.pointer (some ⟨b0_0, 0, none⟩))), (63, [], .lit (.int .i64 v5)), (64, [], .lit (.string (FW.B t5))), (65, [], .agg []), (10, [], .agg [])] (by kernel_rfl) (by kernel_rfl) (by kernel_rfl) (by kernel_rfl) hk ?_; clear hk
      refine FW.gnext ?_ rfl rfl rfl rfl rfl ?_
      · skip
        refine FW.gfun (y := .lit (.pointer (some ⟨b0, 0, none⟩))) rfl rfl rfl rfl (fun a w hk => FW.f_move hk (FW.holds_nil _) rfl) ?_
        refine FW.gfun (y := .lit (.pointer (some ⟨b0, 0, none⟩))) rfl rfl rfl rfl (fun a w hk => (FW.f_pure (FW.p_nilCheck hk.kn (FW.holds_nil _) rfl))) ?_
        refine FW.gfun (y := .lit (.pointer (some ⟨b0, 0, none⟩))) rfl rfl rfl rfl (fun a w hk => FW.f_fieldPtr hk (FW.holds_nil _) rfl Go.Proofs.Tryz.underlying99 rfl (by kernel_rfl) rfl) ?_
        refine FW.gfun (y := .lit (.pointer (some ⟨b0_0, 0, none⟩))) rfl rfl rfl rfl (fun a w hk => FW.f_loadBlk1 hk (FW.holds_nil _) (j := 0) rfl rfl Go.Proofs.Tryz.underlying24 rfl rfl) ?_
        refine FW.gfun (y := .lit (.int .i64 v5)) rfl rfl rfl rfl (fun a w hk => FW.f_move hk (FW.holds_nil _) rfl) ?_
        refine FW.gfun (y := .lit (.string (FW.B t5))) rfl rfl rfl rfl (fun a w hk => FW.f_call hk (FW.holds_nil _) rfl rfl Go.Proofs.Tryz.func78 rfl (by kernel_rfl) (log_pad.ok ([] : List UInt8) 128 _ hr_t5)) ?_
        refine FW.gskip rfl rfl ?_
        refine FW.gskip rfl rfl ?_
        exact FW.gend
      · skip
        intro σD a w opsD QD hk hf hQ hX
        refine FW.l_callH (I1 := (ODevDev.items b0_0 xd3 xc3 xr4 xd5 xc5 (⟨l3, m4, y2_2, l5, y2_4⟩ : ODevDev))) (I2 := [FW.blk b0 99 ([.lit (.pointer (some ⟨b0_0, 0, none⟩)), .lit (.int .i64 v0.from_), .lit (.int .i64 v0.to_), .lit (.int .i64 v0.at_), .lit (.int .u64 v0.next)])]) (js := [4, 4, 4, 4]) hk rfl rfl hf rfl rfl Go.Proofs.Tryz.func53 rfl (by kernel_rfl) (dev_Dev_Write.ok K (⟨l3, m4, y2_2, l5, y2_4⟩ : ODevDev) v5 t5 _ hr_t6 b0_0 xd3 xc3 xr4 xd5 xc5) ?_; clear hk
        rintro _ _ ⟨zd5, zc5, zr3, zd6, zc6, rfl, rfl⟩ a w hk
        refine hQ _ _ a w ?_ hk; clear hk hQ hf hX
        refine ⟨[(59, [], .lit (.pointer (some ⟨b0, 0, none⟩))), (60, [], .lit (.pointer (some ⟨b0, 0, none⟩))), (61, [], .lit (.pointer (some ⟨b0, 0, none⟩))), (62, [], .lit (.pointer (some ⟨b0_0, 0, none⟩))), (63, [], .lit (.int .i64 v5)), (64, [], .lit (.string (FW.B t5))), (65, [], .lit (.int .i64 t6.1)), (10, [], .lit (.int .i64 t6.1))], And.intro rfl (And.intro rfl (And.intro rfl (And.intro rfl (And.intro rfl (And.intro rfl (trivial)))))), rfl, ?_⟩
        refine FW.glast ?_ ?_
        · skip
          refine FW.gskip rfl rfl ?_
          refine FW.gskip rfl rfl ?_
          refine FW.gskip rfl rfl ?_
          refine FW.gskip rfl rfl ?_
          refine FW.gskip rfl rfl ?_
          refine FW.gskip rfl rfl ?_
          refine FW.gskip rfl rfl ?_
          refine FW.gfun (y := .lit (.int .i64 t6.1)) rfl rfl rfl rfl (fun a w hk => FW.f_assign hk (FW.holds_nil _) rfl) ?_
          exact FW.gend
        · skip
          intro a w hk; simp only [FW.stD, cond_true] at hk
          refine FW.wreg ?_; intro K' hK21
          refine FW.lfun (y := .lit (.int .i64 t6.1)) hk rfl rfl rfl rfl (FW.f_move hk (FW.holds_nil _) rfl) ?_; clear hk; intro a w hk
          refine FW.lfun (y := .lit (.bool (!decide (t6.1 = 0)))) hk rfl rfl rfl rfl ((FW.f_pure (FW.p_neq hk.kn (FW.holds_nil _) rfl rfl))) ?_; clear hk; intro a w hk
          refine FW.lend (hK21 _ _ ?_); clear hK21 K'
          refine FW.wcondF (b := (!decide (t6.1 = 0))) hk h rfl (fun h hb => ?_) (fun h hb => ?_)
          · skip
            refine FW.wreg ?_; intro K' hK22
            refine FW.lfun (y := .lit (.int .i64 t6.1)) hk rfl rfl rfl rfl (FW.f_move hk (FW.holds_nil _) rfl) ?_; clear hk; intro a w hk
            refine FW.lfun (y := .lit (.int .i64 t6.1)) hk rfl rfl rfl rfl (FW.f_assign hk (FW.holds_nil _) rfl) ?_; clear hk; intro a w hk
            refine FW.lend (hK22 _ _ ?_); clear hK22 K'
            refine wp_ret ?_
            (repeat first | refine FW.then_ret ?_ | refine FW.block_ret ?_)
            obtain rfl := Option.some.inj h
            replace hk := FW.S.keep (I1 := [FW.blk b0 99 ([.lit (.pointer (some ⟨b0_0, 0, none⟩)), .lit (.int .i64 v0.from_), .lit (.int .i64 v0.to_), .lit (.int .i64 v0.at_), .lit (.int .u64 v0.next)]), FW.blk b0_0 75 ([.lit (.slice zd5 (List.length t6.2.sure) zc5), .lit (.map (some zr3)), .lit (.int .i64 t6.2.steps), .lit (.slice zd6 (List.length t6.2.falls) zc6), .lit (.bool t6.2.off)]), FW.orow zd5 zc5 9 1 c_str t6.2.sure, FW.mapI (.int .i64) (Value.int .i64) FW.evS zr3 t6.2.cache, FW.orow zd6 zc6 52 3 ApiFall.cells t6.2.falls]) (I2 := []) (js := [3, 3, 3, 3, 4]) hk rfl
            exact FW.fretH1 hk rfl (FW.rtmp hk rfl) ⟨zd5, zc5, zr3, zd6, zc6, rfl, rfl⟩
          refine wp_skip ?_
          (repeat first | refine FW.then_normal ?_ | refine FW.block_normal ?_); exact hK17 _ _ ⟨t6.2.steps, t6.2.off, t6.2.sure, t6.2.cache, t6.2.falls, zd5, zc5, zr3, zd6, zc6, hk.sub ⟨rfl, trivial⟩, h⟩
    refine wp_skip ?_
    (repeat first | refine FW.then_normal ?_ | refine FW.block_normal ?_); exact hK17 _ _ ⟨y2_2, y2_4, l3, m4, l5, xd3, xc3, xr4, xd5, xc5, (FW.S.pick hk (js := [0, 4, 4, 4, 4]) rfl).sub ⟨rfl, trivial⟩, h⟩
theorem log_head.ok (K : Nat) (v0 : Int) (v1 : List UInt8) (r : List UInt8) (h : log_head.f K v0 v1 = some r) :
    FW.Ok Go.Proofs.Tryz.prog 54 [.lit (.int .u64 v0), .lit (.string (FW.B v1))] (.lit (.string (FW.B r))) := by
  refine FW.enter (xs := [.lit (.int .u64 v0), .lit (.string (FW.B v1))]) Go.Proofs.Tryz.func54 rfl Go.Proofs.Tryz.ntmps54 rfl ?_
  intro M w0 a hk
  unfold log_head.f at h
  refine FW.wreg ?_; intro K' hK1
  refine FW.lfun (y := .lit (.string (FW.B ([] : List UInt8)))) hk rfl rfl rfl rfl (FW.f_assign hk (FW.holds_nil _) rfl) ?_; clear hk; intro a w hk
  refine FW.lend (hK1 _ _ ?_); clear hK1 K'
  obtain ⟨t1, hr_t1, h⟩ := FW.bnd h
  obtain ⟨t2, hr_t2, h⟩ := FW.bnd h
  obtain ⟨hc1, h⟩ := FW.chk h
  obtain ⟨hc2, h⟩ := FW.chk h
  obtain ⟨t3, hr_t3, h⟩ := FW.bnd h
  obtain ⟨hc3, h⟩ := FW.chk h
  obtain ⟨t4, hr_t4, h⟩ := FW.bnd h
  obtain ⟨hc4, h⟩ := FW.chk h
  refine FW.wdraw (by kernel_rfl) (by kernel_rfl) hk ?_; clear hk
  refine FW.dfun (y := .lit (.int .u64 v0)) rfl rfl rfl rfl (fun a w hk => FW.f_move hk (FW.holds_nil _) rfl) ?_
  refine FW.dfun (y := .lit (.string (FW.B t1))) rfl rfl rfl rfl (fun a w hk => FW.f_call hk (FW.holds_nil _) rfl rfl Go.Proofs.Tryz.func50 rfl (by kernel_rfl) (val_Eight.ok K v0 _ hr_t1)) ?_
  refine FW.dfun (y := .lit (.string (FW.B v1))) rfl rfl rfl rfl (fun a w hk => FW.f_move hk (FW.holds_nil _) rfl) ?_
  refine FW.dfun (y := .lit (.int .i64 (List.length v1 : Int))) rfl rfl rfl rfl (fun a w hk => (FW.f_pure (FW.p_slen Go.Proofs.Tryz.underlying9 hk.kn (FW.holds_nil _) rfl))) ?_
  refine FW.dfun (y := .lit (.int .u64 (IntKind.wrap .u64 (List.length v1 : Int)))) rfl rfl rfl rfl (fun a w hk => (FW.f_pure (FW.p_conv Go.Proofs.Tryz.underlying3 Go.Proofs.Tryz.underlying27 hk.kn (FW.holds_nil _) rfl))) ?_
  refine FW.dfun (y := .lit (.string (FW.B t2))) rfl rfl rfl rfl (fun a w hk => FW.f_call hk (FW.holds_nil _) rfl rfl Go.Proofs.Tryz.func50 rfl (by kernel_rfl) (val_Eight.ok K (IntKind.wrap .u64 (List.length v1 : Int)) _ hr_t2)) ?_
  refine FW.dfun (y := .lit (.string (FW.B (t1 ++ t2)))) rfl rfl rfl rfl (fun a w hk => (FW.f_pure (FW.p_sadd hk.kn (FW.holds_nil _) rfl rfl hc1))) ?_
  refine FW.dfun (y := .lit (.string (FW.B v1))) rfl rfl rfl rfl (fun a w hk => FW.f_move hk (FW.holds_nil _) rfl) ?_
  refine FW.dfun (y := .lit (.string (FW.B v1))) rfl rfl rfl rfl (fun a w hk => FW.f_move hk (FW.holds_nil _) rfl) ?_
  refine FW.dfun (y := .lit (.int .i64 (List.length v1 : Int))) rfl rfl rfl rfl (fun a w hk => (FW.f_pure (FW.p_slen Go.Proofs.Tryz.underlying9 hk.kn (FW.holds_nil _) rfl))) ?_
  refine FW.dfun (y := .lit (.int .i64 (if 104 < (List.length v1 : Int) then 104 else (List.length v1 : Int)))) rfl rfl rfl rfl (fun a w hk => (FW.f_pure (FW.p_min hk.kn (FW.holds_nil _) rfl rfl))) ?_
  refine FW.dfun (y := .lit (.string (FW.B (List.take (Int.toNat (if 104 < (List.length v1 : Int) then 104 else (List.length v1 : Int))) v1)))) rfl rfl rfl rfl (fun a w hk => (FW.f_pure (FW.p_slice_hi Go.Proofs.Tryz.underlying9 hk.kn (FW.holds_nil _) rfl rfl hc2))) ?_
  refine FW.dfun (y := .lit (.string (FW.B t3))) rfl rfl rfl rfl (fun a w hk => FW.f_call hk (FW.holds_nil _) rfl rfl Go.Proofs.Tryz.func78 rfl (by kernel_rfl) (log_pad.ok (List.take (Int.toNat (if 104 < (List.length v1 : Int) then 104 else (List.length v1 : Int))) v1) 104 _ hr_t3)) ?_
  refine FW.dfun (y := .lit (.string (FW.B ((t1 ++ t2) ++ t3)))) rfl rfl rfl rfl (fun a w hk => (FW.f_pure (FW.p_sadd hk.kn (FW.holds_nil _) rfl rfl hc3))) ?_
  refine FW.dfun (y := .lit (.int .u64 v0)) rfl rfl rfl rfl (fun a w hk => FW.f_move hk (FW.holds_nil _) rfl) ?_
  refine FW.dfun (y := .lit (.string (FW.B t4))) rfl rfl rfl rfl (fun a w hk => FW.f_call hk (FW.holds_nil _) rfl rfl Go.Proofs.Tryz.func50 rfl (by kernel_rfl) (val_Eight.ok K v0 _ hr_t4)) ?_
  refine FW.dfun (y := .lit (.string (FW.B (((t1 ++ t2) ++ t3) ++ t4)))) rfl rfl rfl rfl (fun a w hk => (FW.f_pure (FW.p_sadd hk.kn (FW.holds_nil _) rfl rfl hc4))) ?_
  refine FW.dfun (y := .lit (.string (FW.B (((t1 ++ t2) ++ t3) ++ t4)))) rfl rfl rfl rfl (fun a w hk => FW.f_assign hk (FW.holds_nil _) rfl) ?_
  refine FW.dend ?_; intro a w hk
  refine wp_ret ?_
  (repeat first | refine FW.then_ret ?_ | refine FW.block_ret ?_)
  obtain rfl := Option.some.inj h
  exact FW.fret1 hk rfl rfl
end Go.Proofs.YtfbkgaandmebaaaGreat
namespace Go.Proofs.YtfbkgaandmebaaaGreat
set_option linter.unusedVariables false
set_option maxRecDepth 20000
set_option maxHeartbeats 10000000
theorem log_Log_Add.ok (K : Nat) (v0 : OLogLog) (v0_0 : ODevDev) (v1 : List UInt8) (r : Int × OLogLog × ODevDev) (h : log_Log_Add.f K v0 v0_0 v1 = some r) :
    ∀ (b0 : Nat) (b0_0 : Nat) (xd0_0_0 : Option Addr) (xc0_0_0 : Nat) (xr0_0_1 : Nat) (xd0_0_3 : Option Addr) (xc0_0_3 : Nat), FW.OkH Go.Proofs.Tryz.prog 31 [.lit (.pointer (some ⟨b0, 0, none⟩)), .lit (.string (FW.B v1))] ((OLogLog.items b0 b0_0 v0) ++ (ODevDev.items b0_0 xd0_0_0 xc0_0_0 xr0_0_1 xd0_0_3 xc0_0_3 v0_0)) (fun y I => ∃ (zxd0_0_0 : Option Addr) (zxc0_0_0 : Nat) (zxr0_0_1 : Nat) (zxd0_0_3 : Option Addr) (zxc0_0_3 : Nat), y = .lit (.int .i64 r.1) ∧ I = (OLogLog.items b0 b0_0 r.2.1) ++ (ODevDev.items b0_0 zxd0_0_0 zxc0_0_0 zxr0_0_1 zxd0_0_3 zxc0_0_3 r.2.2)) := by
  intro b0 b0_0 xd0_0_0 xc0_0_0 xr0_0_1 xd0_0_3 xc0_0_3
  refine FW.enterH (xs := [.lit (.pointer (some ⟨b0, 0, none⟩)), .lit (.string (FW.B v1))]) Go.Proofs.Tryz.func31 rfl Go.Proofs.Tryz.ntmps31 rfl ?_
  intro M w0 a hk
  replace hk : FW.S M w0 a w0.toWorld 81 [FW.blk b0 99 ([.lit (.pointer (some ⟨b0_0, 0, none⟩)), .lit (.int .i64 v0.from_), .lit (.int .i64 v0.to_), .lit (.int .i64 v0.at_), .lit (.int .u64 v0.next)]), FW.blk b0_0 75 ([.lit (.slice xd0_0_0 (List.length v0_0.sure) xc0_0_0), .lit (.map (some xr0_0_1)), .lit (.int .i64 v0_0.steps), .lit (.slice xd0_0_3 (List.length v0_0.falls) xc0_0_3), .lit (.bool v0_0.off)]), FW.orow xd0_0_0 xc0_0_0 9 1 c_str v0_0.sure, FW.mapI (.int .i64) (Value.int .i64) FW.evS xr0_0_1 v0_0.cache, FW.orow xd0_0_3 xc0_0_3 52 3 ApiFall.cells v0_0.falls] [(0, [], .lit (.pointer (some ⟨b0, 0, none⟩))), (1, [], .lit (.string (FW.B v1)))] := hk
  unfold log_Log_Add.f at h
  refine FW.wreg ?_; intro K' hK1
  refine FW.lfun (y := .lit (.int .i64 0)) hk rfl rfl rfl rfl (FW.f_assign hk (FW.holds_nil _) rfl) ?_; clear hk; intro a w hk
  refine FW.lend (hK1 _ _ ?_); clear hK1 K'
  refine FW.wseq ?_; intro K' hK2
  refine wp_block ?_
  refine FW.wreg ?_; intro K' hK3
  refine FW.lfun (y := .lit (.pointer (some ⟨b0, 0, none⟩))) hk rfl rfl rfl rfl (FW.f_move hk (FW.holds_nil _) rfl) ?_; clear hk; intro a w hk
  refine FW.lfun (y := .lit (.bool false)) hk rfl rfl rfl rfl ((FW.f_pure (FW.p_ptrEq Go.Proofs.Tryz.underlying66 hk.kn (FW.holds_nil _) rfl rfl rfl))) ?_; clear hk; intro a w hk
  refine FW.lfun (y := .lit (.bool false)) hk rfl rfl rfl rfl (FW.f_move hk (FW.holds_nil _) rfl) ?_; clear hk; intro a w hk
  refine FW.lfunG (y := .lit (.pointer (some ⟨b0, 0, none⟩))) hk rfl rfl rfl rfl rfl rfl rfl rfl (fun hc => FW.f_move hk hc rfl) ?_; clear hk; intro a w hk
  refine FW.lfunG (y := .lit (.pointer (some ⟨b0, 0, none⟩))) hk rfl rfl rfl rfl rfl rfl rfl rfl (fun hc => (FW.f_pure (FW.p_nilCheck hk.kn hc rfl))) ?_; clear hk; intro a w hk
  refine FW.lfunG (y := .lit (.pointer (some ⟨b0, 0, none⟩))) hk rfl rfl rfl rfl rfl rfl rfl rfl (fun hc => FW.f_fieldPtr hk hc rfl Go.Proofs.Tryz.underlying99 rfl (by kernel_rfl) rfl) ?_; clear hk; intro a w hk
  refine FW.lfunG (y := .lit (.pointer (some ⟨b0_0, 0, none⟩))) hk rfl rfl rfl rfl rfl rfl rfl rfl (fun hc => FW.f_loadBlk1 hk hc (j := 0) rfl rfl Go.Proofs.Tryz.underlying24 rfl rfl) ?_; clear hk; intro a w hk
  obtain ⟨t1, hr_t1, hn_t1, h⟩ := FW.bndG2 h
  refine FW.l_callHG (I1 := (ODevDev.items b0_0 xd0_0_0 xc0_0_0 xr0_0_1 xd0_0_3 xc0_0_3 v0_0)) (I2 := [FW.blk b0 99 ([.lit (.pointer (some ⟨b0_0, 0, none⟩)), .lit (.int .i64 v0.from_), .lit (.int .i64 v0.to_), .lit (.int .i64 v0.at_), .lit (.int .u64 v0.next)])]) (js := [4, 4, 4, 4]) hk rfl rfl rfl rfl rfl rfl rfl rfl rfl Go.Proofs.Tryz.func13 rfl (by kernel_rfl) (fun hc => dev_Dev_Off.ok v0_0 _ (hr_t1 (FW.asm_out (p := false = false) hk.kn hc (fun e0 => e0))) b0_0 xd0_0_0 xc0_0_0 xr0_0_1 xd0_0_3 xc0_0_3) (fun hn => by obtain rfl := hn_t1 (fun hp => hn (FW.asm_in hk.kn (by have e0 := hp; exact ⟨e0, rfl, trivial⟩))); exact ⟨_, rfl, rfl⟩) ?_; clear hk
  rintro _ _ ⟨rfl, rfl⟩ a w hk
  refine FW.lfun (y := .lit (.bool t1)) hk rfl rfl rfl rfl ((FW.f_pure (FW.p_pickX hk.kn (FW.holds_nil _) rfl rfl))) ?_; clear hk; intro a w hk
  refine FW.lfun (y := .lit (.bool t1)) hk rfl rfl rfl rfl (FW.f_assign hk (FW.holds_nil _) rfl) ?_; clear hk; intro a w hk
  refine FW.lend (hK3 _ _ ?_); clear hK3 K'
  refine FW.wcondF (b := t1) hk h rfl (fun h hb => ?_) (fun h hb => ?_)
  · skip
    refine FW.wreg ?_; intro K' hK4
    refine FW.lfun (y := .lit (.int .i64 7)) hk rfl rfl rfl rfl (FW.f_assign hk (FW.holds_nil _) rfl) ?_; clear hk; intro a w hk
    refine FW.lend (hK4 _ _ ?_); clear hK4 K'
    refine wp_ret ?_
    (repeat first | refine FW.then_ret ?_ | refine FW.block_ret ?_)
    obtain rfl := Option.some.inj h
    replace hk := FW.S.keep (I1 := [FW.blk b0 99 ([.lit (.pointer (some ⟨b0_0, 0, none⟩)), .lit (.int .i64 v0.from_), .lit (.int .i64 v0.to_), .lit (.int .i64 v0.at_), .lit (.int .u64 v0.next)]), FW.blk b0_0 75 ([.lit (.slice xd0_0_0 (List.length v0_0.sure) xc0_0_0), .lit (.map (some xr0_0_1)), .lit (.int .i64 v0_0.steps), .lit (.slice xd0_0_3 (List.length v0_0.falls) xc0_0_3), .lit (.bool v0_0.off)]), FW.orow xd0_0_0 xc0_0_0 9 1 c_str v0_0.sure, FW.mapI (.int .i64) (Value.int .i64) FW.evS xr0_0_1 v0_0.cache, FW.orow xd0_0_3 xc0_0_3 52 3 ApiFall.cells v0_0.falls]) (I2 := []) (js := [3, 3, 3, 3, 4]) hk rfl
    exact FW.fretH1 hk rfl (FW.rtmp hk rfl) ⟨xd0_0_0, xc0_0_0, xr0_0_1, xd0_0_3, xc0_0_3, rfl, rfl⟩
  obtain ⟨t2, hr_t2, h⟩ := FW.bnd h
  refine FW.wdraw (by kernel_rfl) (by kernel_rfl) hk ?_; clear hk
  refine FW.dfun (y := .lit (.string (FW.B v1))) rfl rfl rfl rfl (fun a w hk => FW.f_move hk (FW.holds_nil _) rfl) ?_
  refine FW.dfun (y := .lit (.int .i64 (List.length v1 : Int))) rfl rfl rfl rfl (fun a w hk => (FW.f_pure (FW.p_slen Go.Proofs.Tryz.underlying9 hk.kn (FW.holds_nil _) rfl))) ?_
  refine FW.dfun (y := .lit (.int .i64 t2)) rfl rfl rfl rfl (fun a w hk => FW.f_call hk (FW.holds_nil _) rfl rfl Go.Proofs.Tryz.func51 rfl (by kernel_rfl) (log_Sectors.ok (List.length v1 : Int) _ hr_t2)) ?_
  refine FW.dfun (y := .lit (.pointer (some ⟨b0, 0, none⟩))) rfl rfl rfl rfl (fun a w hk => FW.f_move hk (FW.holds_nil _) rfl) ?_
  refine FW.dfun (y := .lit (.pointer (some ⟨b0, 0, none⟩))) rfl rfl rfl rfl (fun a w hk => (FW.f_pure (FW.p_nilCheck hk.kn (FW.holds_nil _) rfl))) ?_
  refine FW.dfun (y := .lit (.pointer (some ⟨b0, 2, none⟩))) rfl rfl rfl rfl (fun a w hk => FW.f_fieldPtr hk (FW.holds_nil _) rfl Go.Proofs.Tryz.underlying99 rfl (by kernel_rfl) rfl) ?_
  refine FW.dfun (y := .lit (.int .i64 v0.to_)) rfl rfl rfl rfl (fun a w hk => FW.f_loadBlk1 hk (FW.holds_nil _) (j := 4) rfl rfl Go.Proofs.Tryz.underlying3 rfl rfl) ?_
  refine FW.dfun (y := .lit (.pointer (some ⟨b0, 0, none⟩))) rfl rfl rfl rfl (fun a w hk => FW.f_move hk (FW.holds_nil _) rfl) ?_
  refine FW.dfun (y := .lit (.pointer (some ⟨b0, 0, none⟩))) rfl rfl rfl rfl (fun a w hk => (FW.f_pure (FW.p_nilCheck hk.kn (FW.holds_nil _) rfl))) ?_
  refine FW.dfun (y := .lit (.pointer (some ⟨b0, 3, none⟩))) rfl rfl rfl rfl (fun a w hk => FW.f_fieldPtr hk (FW.holds_nil _) rfl Go.Proofs.Tryz.underlying99 rfl (by kernel_rfl) rfl) ?_
  refine FW.dfun (y := .lit (.int .i64 v0.at_)) rfl rfl rfl rfl (fun a w hk => FW.f_loadBlk1 hk (FW.holds_nil _) (j := 4) rfl rfl Go.Proofs.Tryz.underlying3 rfl rfl) ?_
  refine FW.dfun (y := .lit (.int .i64 (IntKind.wrap .i64 (v0.to_ - v0.at_)))) rfl rfl rfl rfl (fun a w hk => (FW.f_pure (FW.p_sub hk.kn (FW.holds_nil _) rfl rfl))) ?_
  refine FW.dfun (y := .lit (.bool (decide ((IntKind.wrap .i64 (v0.to_ - v0.at_)) < t2)))) rfl rfl rfl rfl (fun a w hk => (FW.f_pure (FW.p_gtr hk.kn (FW.holds_nil _) rfl rfl))) ?_
  refine FW.dfun (y := .lit (.bool (decide ((IntKind.wrap .i64 (v0.to_ - v0.at_)) < t2)))) rfl rfl rfl rfl (fun a w hk => FW.f_assign hk (FW.holds_nil _) rfl) ?_
  refine FW.dend ?_; intro a w hk
  refine FW.wcondF (b := (decide ((IntKind.wrap .i64 (v0.to_ - v0.at_)) < t2))) hk h rfl (fun h hb => ?_) (fun h hb => ?_)
  · skip
    refine FW.wreg ?_; intro K' hK6
    refine FW.lfun (y := .lit (.int .i64 40)) hk rfl rfl rfl rfl (FW.f_assign hk (FW.holds_nil _) rfl) ?_; clear hk; intro a w hk
    refine FW.lend (hK6 _ _ ?_); clear hK6 K'
    refine wp_ret ?_
    (repeat first | refine FW.then_ret ?_ | refine FW.block_ret ?_)
    obtain rfl := Option.some.inj h
    replace hk := FW.S.keep (I1 := [FW.blk b0 99 ([.lit (.pointer (some ⟨b0_0, 0, none⟩)), .lit (.int .i64 v0.from_), .lit (.int .i64 v0.to_), .lit (.int .i64 v0.at_), .lit (.int .u64 v0.next)]), FW.blk b0_0 75 ([.lit (.slice xd0_0_0 (List.length v0_0.sure) xc0_0_0), .lit (.map (some xr0_0_1)), .lit (.int .i64 v0_0.steps), .lit (.slice xd0_0_3 (List.length v0_0.falls) xc0_0_3), .lit (.bool v0_0.off)]), FW.orow xd0_0_0 xc0_0_0 9 1 c_str v0_0.sure, FW.mapI (.int .i64) (Value.int .i64) FW.evS xr0_0_1 v0_0.cache, FW.orow xd0_0_3 xc0_0_3 52 3 ApiFall.cells v0_0.falls]) (I2 := []) (js := [3, 3, 3, 3, 4]) hk rfl
    exact FW.fretH1 hk rfl (FW.rtmp hk rfl) ⟨xd0_0_0, xc0_0_0, xr0_0_1, xd0_0_3, xc0_0_3, rfl, rfl⟩
  refine wp_skip ?_
  (repeat first | refine FW.then_normal ?_ | refine FW.block_normal ?_); refine hK2 _ _ ?_
  refine FW.wseq ?_; intro K' hK7
  refine FW.wreg ?_; intro K' hK8
  refine FW.lfun (y := .lit (.pointer (some ⟨b0, 0, none⟩))) hk rfl rfl rfl rfl (FW.f_move hk (FW.holds_nil _) rfl) ?_; clear hk; intro a w hk
  refine FW.lfun (y := .lit (.string (FW.B v1))) hk rfl rfl rfl rfl (FW.f_move hk (FW.holds_nil _) rfl) ?_; clear hk; intro a w hk
  obtain ⟨t3, hr_t3, h⟩ := FW.bnd h
  refine FW.l_callH (I1 := (OLogLog.items b0 b0_0 v0) ++ (ODevDev.items b0_0 xd0_0_0 xc0_0_0 xr0_0_1 xd0_0_3 xc0_0_3 v0_0)) (I2 := []) (js := [3, 3, 3, 3, 4]) hk rfl rfl rfl rfl rfl Go.Proofs.Tryz.func52 rfl (by kernel_rfl) (log_Log_body.ok K v0 v0_0 v1 _ hr_t3 b0 b0_0 xd0_0_0 xc0_0_0 xr0_0_1 xd0_0_3 xc0_0_3) ?_; clear hk
  rintro _ _ ⟨zd1, zc1, zr1, zd2, zc2, rfl, rfl⟩ a w hk
  refine FW.lfun (y := .lit (.int .i64 t3.1)) hk rfl rfl rfl rfl (FW.f_assign hk (FW.holds_nil _) rfl) ?_; clear hk; intro a w hk
  refine FW.lend (hK8 _ _ ?_); clear hK8 K'
  refine FW.wreg ?_; intro K' hK9
  refine FW.lfun (y := .lit (.int .i64 t3.1)) hk rfl rfl rfl rfl (FW.f_move hk (FW.holds_nil _) rfl) ?_; clear hk; intro a w hk
  refine FW.lfun (y := .lit (.bool (!decide (t3.1 = 0)))) hk rfl rfl rfl rfl ((FW.f_pure (FW.p_neq hk.kn (FW.holds_nil _) rfl rfl))) ?_; clear hk; intro a w hk
  refine FW.lend (hK9 _ _ ?_); clear hK9 K'
  refine FW.wcondF (b := (!decide (t3.1 = 0))) hk h rfl (fun h hb => ?_) (fun h hb => ?_)
  · skip
    refine FW.wreg ?_; intro K' hK10
    refine FW.lfun (y := .lit (.int .i64 t3.1)) hk rfl rfl rfl rfl (FW.f_move hk (FW.holds_nil _) rfl) ?_; clear hk; intro a w hk
    refine FW.lfun (y := .lit (.int .i64 t3.1)) hk rfl rfl rfl rfl (FW.f_assign hk (FW.holds_nil _) rfl) ?_; clear hk; intro a w hk
    refine FW.lend (hK10 _ _ ?_); clear hK10 K'
    refine wp_ret ?_
    (repeat first | refine FW.then_ret ?_ | refine FW.block_ret ?_)
    obtain rfl := Option.some.inj h
    replace hk := FW.S.keep (I1 := [FW.blk b0 99 ([.lit (.pointer (some ⟨b0_0, 0, none⟩)), .lit (.int .i64 t3.2.1.from_), .lit (.int .i64 t3.2.1.to_), .lit (.int .i64 t3.2.1.at_), .lit (.int .u64 t3.2.1.next)]), FW.blk b0_0 75 ([.lit (.slice zd1 (List.length t3.2.2.sure) zc1), .lit (.map (some zr1)), .lit (.int .i64 t3.2.2.steps), .lit (.slice zd2 (List.length t3.2.2.falls) zc2), .lit (.bool t3.2.2.off)]), FW.orow zd1 zc1 9 1 c_str t3.2.2.sure, FW.mapI (.int .i64) (Value.int .i64) FW.evS zr1 t3.2.2.cache, FW.orow zd2 zc2 52 3 ApiFall.cells t3.2.2.falls]) (I2 := []) (js := [4, 4, 4, 4, 4]) hk rfl
    exact FW.fretH1 hk rfl (FW.rtmp hk rfl) ⟨zd1, zc1, zr1, zd2, zc2, rfl, rfl⟩
  refine wp_skip ?_
  (repeat first | refine FW.then_normal ?_ | refine FW.block_normal ?_); refine hK7 _ _ ?_
  refine FW.wseq ?_; intro K' hK11
  obtain ⟨t4, hr_t4, h⟩ := FW.bnd h
  obtain ⟨t5, hr_t5, h⟩ := FW.bnd h
  refine FW.wdrawE (.next [true, true, true, true, true, true, true, true, true, true, true, true, true, true, false, false] 14 [true, true, true, true, true, true, true, true, true, true, true, true, true, true, false, false] (.leaf [false, false, false, false, false, false, false, false, false, false, false, false, false, false, false, true])) [(38, [], .lit (.pointer (some ⟨b0, 0, none⟩))), (39, [], .lit (.pointer (some ⟨b0, 0, none⟩))), (40, [], .lit (.pointer (some ⟨b0, 0, none⟩))), (41, [], .lit (.pointer (some ⟨b0_0, 0, none⟩))), (42, [], .lit (.pointer (some ⟨b0, 0, none⟩))), (43, [], .lit (.pointer (some ⟨b0, 0, none⟩))), (44, [], .lit (.pointer (some ⟨b0, 3, none⟩))), (45, [], .lit (.int .i64 t3.2.1.at_)), (46, [], .lit (.pointer (some ⟨b0, 0, none⟩))), (47, [], .lit (.pointer (some ⟨b0, 0, none⟩))), (48, [], .lit (.pointer (some ⟨b0, 4, none⟩))), (49, [], .lit (.int .u64 t3.2.1.next)), (50, [], .lit (.string (FW.B v1))), (51, [], .lit (.string (FW.B t4))), (52, [], .agg []), (6, [], .agg [])] (by kernel_rfl) (by kernel_rfl) (by kernel_rfl) (by kernel_rfl) hk ?_; clear hk
  refine FW.gnext ?_ rfl rfl rfl rfl rfl ?_
  · skip
    refine FW.gfun (y := .lit (.pointer (some ⟨b0, 0, none⟩))) rfl rfl rfl rfl (fun a w hk => FW.f_move hk (FW.holds_nil _) rfl) ?_
    refine FW.gfun (y := .lit (.pointer (some ⟨b0, 0, none⟩))) rfl rfl rfl rfl (fun a w hk => (FW.f_pure (FW.p_nilCheck hk.kn (FW.holds_nil _) rfl))) ?_
    refine FW.gfun (y := .lit (.pointer (some ⟨b0, 0, none⟩))) rfl rfl rfl rfl (fun a w hk => FW.f_fieldPtr hk (FW.holds_nil _) rfl Go.Proofs.Tryz.underlying99 rfl (by kernel_rfl) rfl) ?_
    refine FW.gfun (y := .lit (.pointer (some ⟨b0_0, 0, none⟩))) rfl rfl rfl rfl (fun a w hk => FW.f_loadBlk1 hk (FW.holds_nil _) (j := 0) rfl rfl Go.Proofs.Tryz.underlying24 rfl rfl) ?_
    refine FW.gfun (y := .lit (.pointer (some ⟨b0, 0, none⟩))) rfl rfl rfl rfl (fun a w hk => FW.f_move hk (FW.holds_nil _) rfl) ?_
    refine FW.gfun (y := .lit (.pointer (some ⟨b0, 0, none⟩))) rfl rfl rfl rfl (fun a w hk => (FW.f_pure (FW.p_nilCheck hk.kn (FW.holds_nil _) rfl))) ?_
    refine FW.gfun (y := .lit (.pointer (some ⟨b0, 3, none⟩))) rfl rfl rfl rfl (fun a w hk => FW.f_fieldPtr hk (FW.holds_nil _) rfl Go.Proofs.Tryz.underlying99 rfl (by kernel_rfl) rfl) ?_
    refine FW.gfun (y := .lit (.int .i64 t3.2.1.at_)) rfl rfl rfl rfl (fun a w hk => FW.f_loadBlk1 hk (FW.holds_nil _) (j := 0) rfl rfl Go.Proofs.Tryz.underlying3 rfl rfl) ?_
    refine FW.gfun (y := .lit (.pointer (some ⟨b0, 0, none⟩))) rfl rfl rfl rfl (fun a w hk => FW.f_move hk (FW.holds_nil _) rfl) ?_
    refine FW.gfun (y := .lit (.pointer (some ⟨b0, 0, none⟩))) rfl rfl rfl rfl (fun a w hk => (FW.f_pure (FW.p_nilCheck hk.kn (FW.holds_nil _) rfl))) ?_
    refine FW.gfun (y := .lit (.pointer (some ⟨b0, 4, none⟩))) rfl rfl rfl rfl (fun a w hk => FW.f_fieldPtr hk (FW.holds_nil _) rfl Go.Proofs.Tryz.underlying99 rfl (by kernel_rfl) rfl) ?_
    refine FW.gfun (y := .lit (.int .u64 t3.2.1.next)) rfl rfl rfl rfl (fun a w hk => FW.f_loadBlk1 hk (FW.holds_nil _) (j := 0) rfl rfl Go.Proofs.Tryz.underlying27 rfl rfl) ?_
    refine FW.gfun (y := .lit (.string (FW.B v1))) rfl rfl rfl rfl (fun a w hk => FW.f_move hk (FW.holds_nil _) rfl) ?_
    refine FW.gfun (y := .lit (.string (FW.B t4))) rfl rfl rfl rfl (fun a w hk => FW.f_call hk (FW.holds_nil _) rfl rfl Go.Proofs.Tryz.func54 rfl (by kernel_rfl) (log_head.ok K t3.2.1.next v1 _ hr_t4)) ?_
    refine FW.gskip rfl rfl ?_
    refine FW.gskip rfl rfl ?_
    exact FW.gend
  · skip
    intro σD a w opsD QD hk hf hQ hX
    refine FW.l_callH (I1 := (ODevDev.items b0_0 zd1 zc1 zr1 zd2 zc2 t3.2.2)) (I2 := [FW.blk b0 99 ([.lit (.pointer (some ⟨b0_0, 0, none⟩)), .lit (.int .i64 t3.2.1.from_), .lit (.int .i64 t3.2.1.to_), .lit (.int .i64 t3.2.1.at_), .lit (.int .u64 t3.2.1.next)])]) (js := [4, 4, 4, 4]) hk rfl rfl hf rfl rfl Go.Proofs.Tryz.func53 rfl (by kernel_rfl) (dev_Dev_Write.ok K t3.2.2 t3.2.1.at_ t4 _ hr_t5 b0_0 zd1 zc1 zr1 zd2 zc2) ?_; clear hk
    rintro _ _ ⟨zd3, zc3, zr2, zd4, zc4, rfl, rfl⟩ a w hk
    refine hQ _ _ a w ?_ hk; clear hk hQ hf hX
    refine ⟨[(38, [], .lit (.pointer (some ⟨b0, 0, none⟩))), (39, [], .lit (.pointer (some ⟨b0, 0, none⟩))), (40, [], .lit (.pointer (some ⟨b0, 0, none⟩))), (41, [], .lit (.pointer (some ⟨b0_0, 0, none⟩))), (42, [], .lit (.pointer (some ⟨b0, 0, none⟩))), (43, [], .lit (.pointer (some ⟨b0, 0, none⟩))), (44, [], .lit (.pointer (some ⟨b0, 3, none⟩))), (45, [], .lit (.int .i64 t3.2.1.at_)), (46, [], .lit (.pointer (some ⟨b0, 0, none⟩))), (47, [], .lit (.pointer (some ⟨b0, 0, none⟩))), (48, [], .lit (.pointer (some ⟨b0, 4, none⟩))), (49, [], .lit (.int .u64 t3.2.1.next)), (50, [], .lit (.string (FW.B v1))), (51, [], .lit (.string (FW.B t4))), (52, [], .lit (.int .i64 t5.1)), (6, [], .lit (.int .i64 t5.1))], And.intro rfl (And.intro rfl (And.intro rfl (And.intro rfl (And.intro rfl (And.intro rfl (And.intro rfl (And.intro rfl (And.intro rfl (And.intro rfl (And.intro rfl (And.intro rfl (And.intro rfl (And.intro rfl (trivial)))))))))))))), rfl, ?_⟩
    refine FW.glast ?_ ?_
    · skip
      refine FW.gskip rfl rfl ?_
      refine FW.gskip rfl rfl ?_
      refine FW.gskip rfl rfl ?_
      refine FW.gskip rfl rfl ?_
      refine FW.gskip rfl rfl ?_
      refine FW.gskip rfl rfl ?_
      refine FW.gskip rfl rfl ?_
      refine FW.gskip rfl rfl ?_
      refine FW.gskip rfl rfl ?_
      refine FW.gskip rfl rfl ?_
      refine FW.gskip rfl rfl ?_
      refine FW.gskip rfl rfl ?_
      refine FW.gskip rfl rfl ?_
      refine FW.gskip rfl rfl ?_
      refine FW.gskip rfl rfl ?_
      refine FW.gfun (y := .lit (.int .i64 t5.1)) rfl rfl rfl rfl (fun a w hk => FW.f_assign hk (FW.holds_nil _) rfl) ?_
      exact FW.gend
    · skip
      intro a w hk; simp only [FW.stD, cond_true] at hk
      refine FW.wreg ?_; intro K' hK13
      refine FW.lfun (y := .lit (.int .i64 t5.1)) hk rfl rfl rfl rfl (FW.f_move hk (FW.holds_nil _) rfl) ?_; clear hk; intro a w hk
      refine FW.lfun (y := .lit (.bool (!decide (t5.1 = 0)))) hk rfl rfl rfl rfl ((FW.f_pure (FW.p_neq hk.kn (FW.holds_nil _) rfl rfl))) ?_; clear hk; intro a w hk
      refine FW.lend (hK13 _ _ ?_); clear hK13 K'
      refine FW.wcondF (b := (!decide (t5.1 = 0))) hk h rfl (fun h hb => ?_) (fun h hb => ?_)
      · skip
        refine FW.wreg ?_; intro K' hK14
        refine FW.lfun (y := .lit (.int .i64 t5.1)) hk rfl rfl rfl rfl (FW.f_move hk (FW.holds_nil _) rfl) ?_; clear hk; intro a w hk
        refine FW.lfun (y := .lit (.int .i64 t5.1)) hk rfl rfl rfl rfl (FW.f_assign hk (FW.holds_nil _) rfl) ?_; clear hk; intro a w hk
        refine FW.lend (hK14 _ _ ?_); clear hK14 K'
        refine wp_ret ?_
        (repeat first | refine FW.then_ret ?_ | refine FW.block_ret ?_)
        obtain rfl := Option.some.inj h
        replace hk := FW.S.keep (I1 := [FW.blk b0 99 ([.lit (.pointer (some ⟨b0_0, 0, none⟩)), .lit (.int .i64 t3.2.1.from_), .lit (.int .i64 t3.2.1.to_), .lit (.int .i64 t3.2.1.at_), .lit (.int .u64 t3.2.1.next)]), FW.blk b0_0 75 ([.lit (.slice zd3 (List.length t5.2.sure) zc3), .lit (.map (some zr2)), .lit (.int .i64 t5.2.steps), .lit (.slice zd4 (List.length t5.2.falls) zc4), .lit (.bool t5.2.off)]), FW.orow zd3 zc3 9 1 c_str t5.2.sure, FW.mapI (.int .i64) (Value.int .i64) FW.evS zr2 t5.2.cache, FW.orow zd4 zc4 52 3 ApiFall.cells t5.2.falls]) (I2 := []) (js := [3, 3, 3, 3, 4]) hk rfl
        exact FW.fretH1 hk rfl (FW.rtmp hk rfl) ⟨zd3, zc3, zr2, zd4, zc4, rfl, rfl⟩
      refine wp_skip ?_
      (repeat first | refine FW.then_normal ?_ | refine FW.block_normal ?_); refine hK11 _ _ ?_
      refine FW.wseq ?_; intro K' hK15
      refine FW.wreg ?_; intro K' hK16
      refine FW.lfun (y := .lit (.pointer (some ⟨b0, 0, none⟩))) hk rfl rfl rfl rfl (FW.f_move hk (FW.holds_nil _) rfl) ?_; clear hk; intro a w hk
      refine FW.lfun (y := .lit (.pointer (some ⟨b0, 0, none⟩))) hk rfl rfl rfl rfl ((FW.f_pure (FW.p_nilCheck hk.kn (FW.holds_nil _) rfl))) ?_; clear hk; intro a w hk
      refine FW.lfun (y := .lit (.pointer (some ⟨b0, 0, none⟩))) hk rfl rfl rfl rfl (FW.f_fieldPtr hk (FW.holds_nil _) rfl Go.Proofs.Tryz.underlying99 rfl (by kernel_rfl) rfl) ?_; clear hk; intro a w hk
      refine FW.lfun (y := .lit (.pointer (some ⟨b0_0, 0, none⟩))) hk rfl rfl rfl rfl (FW.f_loadBlk1 hk (FW.holds_nil _) (j := 4) rfl rfl Go.Proofs.Tryz.underlying24 rfl rfl) ?_; clear hk; intro a w hk
      obtain ⟨t6, hr_t6, h⟩ := FW.bnd h
      refine FW.l_callH (I1 := (ODevDev.items b0_0 zd3 zc3 zr2 zd4 zc4 t5.2)) (I2 := [FW.blk b0 99 ([.lit (.pointer (some ⟨b0_0, 0, none⟩)), .lit (.int .i64 t3.2.1.from_), .lit (.int .i64 t3.2.1.to_), .lit (.int .i64 t3.2.1.at_), .lit (.int .u64 t3.2.1.next)])]) (js := [3, 3, 3, 3]) hk rfl rfl rfl rfl rfl Go.Proofs.Tryz.func55 rfl (by kernel_rfl) (dev_Dev_Flush.ok K t5.2 _ hr_t6 b0_0 zd3 zc3 zr2 zd4 zc4) ?_; clear hk
      rintro _ _ ⟨zd5, zc5, zr3, zd6, zc6, rfl, rfl⟩ a w hk
      refine FW.lfun (y := .lit (.int .i64 t6.1)) hk rfl rfl rfl rfl (FW.f_assign hk (FW.holds_nil _) rfl) ?_; clear hk; intro a w hk
      refine FW.lend (hK16 _ _ ?_); clear hK16 K'
      refine FW.wreg ?_; intro K' hK17
      refine FW.lfun (y := .lit (.int .i64 t6.1)) hk rfl rfl rfl rfl (FW.f_move hk (FW.holds_nil _) rfl) ?_; clear hk; intro a w hk
      refine FW.lfun (y := .lit (.bool (!decide (t6.1 = 0)))) hk rfl rfl rfl rfl ((FW.f_pure (FW.p_neq hk.kn (FW.holds_nil _) rfl rfl))) ?_; clear hk; intro a w hk
      refine FW.lend (hK17 _ _ ?_); clear hK17 K'
      refine FW.wcondF (b := (!decide (t6.1 = 0))) hk h rfl (fun h hb => ?_) (fun h hb => ?_)
      · skip
        refine FW.wreg ?_; intro K' hK18
        refine FW.lfun (y := .lit (.int .i64 t6.1)) hk rfl rfl rfl rfl (FW.f_move hk (FW.holds_nil _) rfl) ?_; clear hk; intro a w hk
        refine FW.lfun (y := .lit (.int .i64 t6.1)) hk rfl rfl rfl rfl (FW.f_assign hk (FW.holds_nil _) rfl) ?_; clear hk; intro a w hk
        refine FW.lend (hK18 _ _ ?_); clear hK18 K'
        refine wp_ret ?_
        (repeat first | refine FW.then_ret ?_ | refine FW.block_ret ?_)
        obtain rfl := Option.some.inj h
        replace hk := FW.S.keep (I1 := [FW.blk b0 99 ([.lit (.pointer (some ⟨b0_0, 0, none⟩)), .lit (.int .i64 t3.2.1.from_), .lit (.int .i64 t3.2.1.to_), .lit (.int .i64 t3.2.1.at_), .lit (.int .u64 t3.2.1.next)]), FW.blk b0_0 75 ([.lit (.slice zd5 (List.length t6.2.sure) zc5), .lit (.map (some zr3)), .lit (.int .i64 t6.2.steps), .lit (.slice zd6 (List.length t6.2.falls) zc6), .lit (.bool t6.2.off)]), FW.orow zd5 zc5 9 1 c_str t6.2.sure, FW.mapI (.int .i64) (Value.int .i64) FW.evS zr3 t6.2.cache, FW.orow zd6 zc6 52 3 ApiFall.cells t6.2.falls]) (I2 := []) (js := [3, 3, 3, 3, 4]) hk rfl
        exact FW.fretH1 hk rfl (FW.rtmp hk rfl) ⟨zd5, zc5, zr3, zd6, zc6, rfl, rfl⟩
      refine wp_skip ?_
      (repeat first | refine FW.then_normal ?_ | refine FW.block_normal ?_); refine hK15 _ _ ?_
      obtain ⟨t7, hr_t7, h⟩ := FW.bnd h
      refine FW.wdrawE (.next [true, true, true, true, true, true, true, true, true, true, false] 10 [true, true, true, true, true, true, true, true, true, true, false] (.leaf [false, false, false, false, false, false, false, false, false, false, false])) [(64, [], .lit (.pointer (some ⟨b0, 0, none⟩))), (65, [], .lit (.pointer (some ⟨b0, 0, none⟩))), (66, [], .lit (.pointer (some ⟨b0, 3, none⟩))), (67, [], .lit (.int .i64 t3.2.1.at_)), (68, [], .lit (.string (FW.B v1))), (69, [], .lit (.int .i64 (List.length v1 : Int))), (70, [], .lit (.int .i64 t7)), (71, [], .lit (.int .i64 (IntKind.wrap .i64 (t3.2.1.at_ + t7)))), (72, [], .lit (.pointer (some ⟨b0, 0, none⟩))), (73, [], .lit (.pointer (some ⟨b0, 3, none⟩))), (81, [], .lit undef)] (by kernel_rfl) (by kernel_rfl) (by kernel_rfl) (by kernel_rfl) hk ?_; clear hk
      refine FW.gnext0 ?_ rfl rfl rfl ?_
      · skip
        refine FW.gfun (y := .lit (.pointer (some ⟨b0, 0, none⟩))) rfl rfl rfl rfl (fun a w hk => FW.f_move hk (FW.holds_nil _) rfl) ?_
        refine FW.gfun (y := .lit (.pointer (some ⟨b0, 0, none⟩))) rfl rfl rfl rfl (fun a w hk => (FW.f_pure (FW.p_nilCheck hk.kn (FW.holds_nil _) rfl))) ?_
        refine FW.gfun (y := .lit (.pointer (some ⟨b0, 3, none⟩))) rfl rfl rfl rfl (fun a w hk => FW.f_fieldPtr hk (FW.holds_nil _) rfl Go.Proofs.Tryz.underlying99 rfl (by kernel_rfl) rfl) ?_
        refine FW.gfun (y := .lit (.int .i64 t3.2.1.at_)) rfl rfl rfl rfl (fun a w hk => FW.f_loadBlk1 hk (FW.holds_nil _) (j := 4) rfl rfl Go.Proofs.Tryz.underlying3 rfl rfl) ?_
        refine FW.gfun (y := .lit (.string (FW.B v1))) rfl rfl rfl rfl (fun a w hk => FW.f_move hk (FW.holds_nil _) rfl) ?_
        refine FW.gfun (y := .lit (.int .i64 (List.length v1 : Int))) rfl rfl rfl rfl (fun a w hk => (FW.f_pure (FW.p_slen Go.Proofs.Tryz.underlying9 hk.kn (FW.holds_nil _) rfl))) ?_
        refine FW.gfun (y := .lit (.int .i64 t7)) rfl rfl rfl rfl (fun a w hk => FW.f_call hk (FW.holds_nil _) rfl rfl Go.Proofs.Tryz.func51 rfl (by kernel_rfl) (log_Sectors.ok (List.length v1 : Int) _ hr_t7)) ?_
        refine FW.gfun (y := .lit (.int .i64 (IntKind.wrap .i64 (t3.2.1.at_ + t7)))) rfl rfl rfl rfl (fun a w hk => (FW.f_pure (FW.p_add hk.kn (FW.holds_nil _) rfl rfl))) ?_
        refine FW.gfun (y := .lit (.pointer (some ⟨b0, 0, none⟩))) rfl rfl rfl rfl (fun a w hk => (FW.f_pure (FW.p_nilCheck hk.kn (FW.holds_nil _) rfl))) ?_
        refine FW.gfun (y := .lit (.pointer (some ⟨b0, 3, none⟩))) rfl rfl rfl rfl (fun a w hk => FW.f_fieldPtr hk (FW.holds_nil _) rfl Go.Proofs.Tryz.underlying99 rfl (by kernel_rfl) rfl) ?_
        refine FW.gskip0 rfl ?_
        exact FW.gend
      · skip
        intro σD a w opsD QD hk hQ hX
        refine FW.l_store (I' := [FW.blk b0_0 75 ([.lit (.slice zd5 (List.length t6.2.sure) zc5), .lit (.map (some zr3)), .lit (.int .i64 t6.2.steps), .lit (.slice zd6 (List.length t6.2.falls) zc6), .lit (.bool t6.2.off)]), FW.orow zd5 zc5 9 1 c_str t6.2.sure, FW.mapI (.int .i64) (Value.int .i64) FW.evS zr3 t6.2.cache, FW.orow zd6 zc6 52 3 ApiFall.cells t6.2.falls, FW.blk b0 99 ([.lit (.pointer (some ⟨b0_0, 0, none⟩)), .lit (.int .i64 t3.2.1.from_), .lit (.int .i64 t3.2.1.to_), .lit (.int .i64 (IntKind.wrap .i64 (t3.2.1.at_ + t7))), .lit (.int .u64 t3.2.1.next)])]) (cs' := [.lit (.pointer (some ⟨b0_0, 0, none⟩)), .lit (.int .i64 t3.2.1.from_), .lit (.int .i64 t3.2.1.to_), .lit (.int .i64 (IntKind.wrap .i64 (t3.2.1.at_ + t7))), .lit (.int .u64 t3.2.1.next)]) (j := 4) hk rfl rfl rfl rfl rfl (by kernel_rfl) rfl rfl ?_; clear hk; intro w hk
        refine hQ _ a w ?_ hk; clear hk hQ hX
        refine ⟨[(64, [], .lit (.pointer (some ⟨b0, 0, none⟩))), (65, [], .lit (.pointer (some ⟨b0, 0, none⟩))), (66, [], .lit (.pointer (some ⟨b0, 3, none⟩))), (67, [], .lit (.int .i64 t3.2.1.at_)), (68, [], .lit (.string (FW.B v1))), (69, [], .lit (.int .i64 (List.length v1 : Int))), (70, [], .lit (.int .i64 t7)), (71, [], .lit (.int .i64 (IntKind.wrap .i64 (t3.2.1.at_ + t7)))), (72, [], .lit (.pointer (some ⟨b0, 0, none⟩))), (73, [], .lit (.pointer (some ⟨b0, 3, none⟩))), (81, [], .lit undef)], And.intro rfl (And.intro rfl (And.intro rfl (And.intro rfl (And.intro rfl (And.intro rfl (And.intro rfl (And.intro rfl (And.intro rfl (And.intro rfl (trivial)))))))))), rfl, ?_⟩
        refine FW.glast ?_ ?_
        · skip
          refine FW.gskip rfl rfl ?_
          refine FW.gskip rfl rfl ?_
          refine FW.gskip rfl rfl ?_
          refine FW.gskip rfl rfl ?_
          refine FW.gskip rfl rfl ?_
          refine FW.gskip rfl rfl ?_
          refine FW.gskip rfl rfl ?_
          refine FW.gskip rfl rfl ?_
          refine FW.gskip rfl rfl ?_
          refine FW.gskip rfl rfl ?_
          refine FW.gskip0 rfl ?_
          exact FW.gend
        · skip
          intro a w hk; simp only [FW.stD, cond_true] at hk
          refine FW.wreg ?_; intro K' hK20
          refine FW.lfun (y := .lit (.pointer (some ⟨b0, 0, none⟩))) hk rfl rfl rfl rfl (FW.f_move hk (FW.holds_nil _) rfl) ?_; clear hk; intro a w hk
          refine FW.lfun (y := .lit (.pointer (some ⟨b0, 0, none⟩))) hk rfl rfl rfl rfl ((FW.f_pure (FW.p_nilCheck hk.kn (FW.holds_nil _) rfl))) ?_; clear hk; intro a w hk
          refine FW.lfun (y := .lit (.pointer (some ⟨b0, 4, none⟩))) hk rfl rfl rfl rfl (FW.f_fieldPtr hk (FW.holds_nil _) rfl Go.Proofs.Tryz.underlying99 rfl (by kernel_rfl) rfl) ?_; clear hk; intro a w hk
          refine FW.lfun (y := .lit (.int .u64 t3.2.1.next)) hk rfl rfl rfl rfl (FW.f_loadBlk1 hk (FW.holds_nil _) (j := 4) rfl rfl Go.Proofs.Tryz.underlying27 rfl rfl) ?_; clear hk; intro a w hk
          refine FW.lfun (y := .lit (.int .u64 (IntKind.wrap .u64 (t3.2.1.next + 1)))) hk rfl rfl rfl rfl ((FW.f_pure (FW.p_add hk.kn (FW.holds_nil _) rfl rfl))) ?_; clear hk; intro a w hk
          refine FW.lfun (y := .lit (.pointer (some ⟨b0, 0, none⟩))) hk rfl rfl rfl rfl ((FW.f_pure (FW.p_nilCheck hk.kn (FW.holds_nil _) rfl))) ?_; clear hk; intro a w hk
          refine FW.lfun (y := .lit (.pointer (some ⟨b0, 4, none⟩))) hk rfl rfl rfl rfl (FW.f_fieldPtr hk (FW.holds_nil _) rfl Go.Proofs.Tryz.underlying99 rfl (by kernel_rfl) rfl) ?_; clear hk; intro a w hk
          refine FW.l_store (I' := [FW.blk b0_0 75 ([.lit (.slice zd5 (List.length t6.2.sure) zc5), .lit (.map (some zr3)), .lit (.int .i64 t6.2.steps), .lit (.slice zd6 (List.length t6.2.falls) zc6), .lit (.bool t6.2.off)]), FW.orow zd5 zc5 9 1 c_str t6.2.sure, FW.mapI (.int .i64) (Value.int .i64) FW.evS zr3 t6.2.cache, FW.orow zd6 zc6 52 3 ApiFall.cells t6.2.falls, FW.blk b0 99 ([.lit (.pointer (some ⟨b0_0, 0, none⟩)), .lit (.int .i64 t3.2.1.from_), .lit (.int .i64 t3.2.1.to_), .lit (.int .i64 (IntKind.wrap .i64 (t3.2.1.at_ + t7))), .lit (.int .u64 (IntKind.wrap .u64 (t3.2.1.next + 1)))])]) (cs' := [.lit (.pointer (some ⟨b0_0, 0, none⟩)), .lit (.int .i64 t3.2.1.from_), .lit (.int .i64 t3.2.1.to_), .lit (.int .i64 (IntKind.wrap .i64 (t3.2.1.at_ + t7))), .lit (.int .u64 (IntKind.wrap .u64 (t3.2.1.next + 1)))]) (j := 4) hk rfl rfl rfl rfl rfl (by kernel_rfl) rfl rfl ?_; clear hk; intro w hk
          refine FW.lend (hK20 _ _ ?_); clear hK20 K'
          refine FW.wreg ?_; intro K' hK21
          refine FW.lfun (y := .lit (.int .i64 0)) hk rfl rfl rfl rfl (FW.f_assign hk (FW.holds_nil _) rfl) ?_; clear hk; intro a w hk
          refine FW.lend (hK21 _ _ ?_); clear hK21 K'
          refine wp_ret ?_
          (repeat first | refine FW.then_ret ?_ | refine FW.block_ret ?_)
          obtain rfl := Option.some.inj h
          replace hk := FW.S.keep (I1 := [FW.blk b0 99 ([.lit (.pointer (some ⟨b0_0, 0, none⟩)), .lit (.int .i64 t3.2.1.from_), .lit (.int .i64 t3.2.1.to_), .lit (.int .i64 (IntKind.wrap .i64 (t3.2.1.at_ + t7))), .lit (.int .u64 (IntKind.wrap .u64 (t3.2.1.next + 1)))]), FW.blk b0_0 75 ([.lit (.slice zd5 (List.length t6.2.sure) zc5), .lit (.map (some zr3)), .lit (.int .i64 t6.2.steps), .lit (.slice zd6 (List.length t6.2.falls) zc6), .lit (.bool t6.2.off)]), FW.orow zd5 zc5 9 1 c_str t6.2.sure, FW.mapI (.int .i64) (Value.int .i64) FW.evS zr3 t6.2.cache, FW.orow zd6 zc6 52 3 ApiFall.cells t6.2.falls]) (I2 := []) (js := [3, 3, 3, 3, 4]) hk rfl
          exact FW.fretH1 hk rfl (FW.rtmp hk rfl) ⟨zd5, zc5, zr3, zd6, zc6, rfl, rfl⟩
theorem log_Log_Next.ok  (v0 : OLogLog) (v0_0 : ODevDev) (r : Int) (h : log_Log_Next.f v0 v0_0 = some r) :
    ∀ (b0 : Nat) (b0_0 : Nat) (xd0_0_0 : Option Addr) (xc0_0_0 : Nat) (xr0_0_1 : Nat) (xd0_0_3 : Option Addr) (xc0_0_3 : Nat), FW.OkH Go.Proofs.Tryz.prog 58 [.lit (.pointer (some ⟨b0, 0, none⟩))] ((OLogLog.items b0 b0_0 v0) ++ (ODevDev.items b0_0 xd0_0_0 xc0_0_0 xr0_0_1 xd0_0_3 xc0_0_3 v0_0)) (fun y I => y = .lit (.int .u64 r) ∧ I = (OLogLog.items b0 b0_0 v0) ++ (ODevDev.items b0_0 xd0_0_0 xc0_0_0 xr0_0_1 xd0_0_3 xc0_0_3 v0_0)) := by
  intro b0 b0_0 xd0_0_0 xc0_0_0 xr0_0_1 xd0_0_3 xc0_0_3
  refine FW.enterH (xs := [.lit (.pointer (some ⟨b0, 0, none⟩))]) Go.Proofs.Tryz.func58 rfl Go.Proofs.Tryz.ntmps58 rfl ?_
  intro M w0 a hk
  replace hk : FW.S M w0 a w0.toWorld 9 [FW.blk b0 99 ([.lit (.pointer (some ⟨b0_0, 0, none⟩)), .lit (.int .i64 v0.from_), .lit (.int .i64 v0.to_), .lit (.int .i64 v0.at_), .lit (.int .u64 v0.next)]), FW.blk b0_0 75 ([.lit (.slice xd0_0_0 (List.length v0_0.sure) xc0_0_0), .lit (.map (some xr0_0_1)), .lit (.int .i64 v0_0.steps), .lit (.slice xd0_0_3 (List.length v0_0.falls) xc0_0_3), .lit (.bool v0_0.off)]), FW.orow xd0_0_0 xc0_0_0 9 1 c_str v0_0.sure, FW.mapI (.int .i64) (Value.int .i64) FW.evS xr0_0_1 v0_0.cache, FW.orow xd0_0_3 xc0_0_3 52 3 ApiFall.cells v0_0.falls] [(0, [], .lit (.pointer (some ⟨b0, 0, none⟩)))] := hk
  unfold log_Log_Next.f at h
  refine FW.wreg ?_; intro K' hK1
  refine FW.lfun (y := .lit (.int .u64 0)) hk rfl rfl rfl rfl (FW.f_assign hk (FW.holds_nil _) rfl) ?_; clear hk; intro a w hk
  refine FW.lend (hK1 _ _ ?_); clear hK1 K'
  refine FW.wseq ?_; intro K' hK2
  refine FW.wreg ?_; intro K' hK3
  refine FW.lfun (y := .lit (.pointer (some ⟨b0, 0, none⟩))) hk rfl rfl rfl rfl (FW.f_move hk (FW.holds_nil _) rfl) ?_; clear hk; intro a w hk
  refine FW.lfun (y := .lit (.bool false)) hk rfl rfl rfl rfl ((FW.f_pure (FW.p_ptrEq Go.Proofs.Tryz.underlying66 hk.kn (FW.holds_nil _) rfl rfl rfl))) ?_; clear hk; intro a w hk
  refine FW.lend (hK3 _ _ ?_); clear hK3 K'
  refine FW.wcondX hk rfl ?_
  refine wp_skip ?_
  (repeat first | refine FW.then_normal ?_ | refine FW.block_normal ?_); refine hK2 _ _ ?_
  refine FW.wreg ?_; intro K' hK4
  refine FW.lfun (y := .lit (.pointer (some ⟨b0, 0, none⟩))) hk rfl rfl rfl rfl (FW.f_move hk (FW.holds_nil _) rfl) ?_; clear hk; intro a w hk
  refine FW.lfun (y := .lit (.pointer (some ⟨b0, 0, none⟩))) hk rfl rfl rfl rfl ((FW.f_pure (FW.p_nilCheck hk.kn (FW.holds_nil _) rfl))) ?_; clear hk; intro a w hk
  refine FW.lfun (y := .lit (.pointer (some ⟨b0, 4, none⟩))) hk rfl rfl rfl rfl (FW.f_fieldPtr hk (FW.holds_nil _) rfl Go.Proofs.Tryz.underlying99 rfl (by kernel_rfl) rfl) ?_; clear hk; intro a w hk
  refine FW.lfun (y := .lit (.int .u64 v0.next)) hk rfl rfl rfl rfl (FW.f_loadBlk1 hk (FW.holds_nil _) (j := 0) rfl rfl Go.Proofs.Tryz.underlying27 rfl rfl) ?_; clear hk; intro a w hk
  refine FW.lfun (y := .lit (.int .u64 v0.next)) hk rfl rfl rfl rfl (FW.f_assign hk (FW.holds_nil _) rfl) ?_; clear hk; intro a w hk
  refine FW.lend (hK4 _ _ ?_); clear hK4 K'
  refine wp_ret ?_
  (repeat first | refine FW.then_ret ?_ | refine FW.block_ret ?_)
  obtain rfl := Option.some.inj h
  replace hk := FW.S.keep (I1 := [FW.blk b0 99 ([.lit (.pointer (some ⟨b0_0, 0, none⟩)), .lit (.int .i64 v0.from_), .lit (.int .i64 v0.to_), .lit (.int .i64 v0.at_), .lit (.int .u64 v0.next)]), FW.blk b0_0 75 ([.lit (.slice xd0_0_0 (List.length v0_0.sure) xc0_0_0), .lit (.map (some xr0_0_1)), .lit (.int .i64 v0_0.steps), .lit (.slice xd0_0_3 (List.length v0_0.falls) xc0_0_3), .lit (.bool v0_0.off)]), FW.orow xd0_0_0 xc0_0_0 9 1 c_str v0_0.sure, FW.mapI (.int .i64) (Value.int .i64) FW.evS xr0_0_1 v0_0.cache, FW.orow xd0_0_3 xc0_0_3 52 3 ApiFall.cells v0_0.falls]) (I2 := []) (js := [4, 4, 4, 4, 4]) hk rfl
  exact FW.fretH1 hk rfl (FW.rtmp hk rfl) ⟨rfl, rfl⟩
theorem log_Log_Reset.ok  (v0 : OLogLog) (v0_0 : ODevDev) (r : OLogLog × ODevDev) (h : log_Log_Reset.f v0 v0_0 = some r) :
    ∀ (b0 : Nat) (b0_0 : Nat) (xd0_0_0 : Option Addr) (xc0_0_0 : Nat) (xr0_0_1 : Nat) (xd0_0_3 : Option Addr) (xc0_0_3 : Nat), FW.OkH Go.Proofs.Tryz.prog 60 [.lit (.pointer (some ⟨b0, 0, none⟩))] ((OLogLog.items b0 b0_0 v0) ++ (ODevDev.items b0_0 xd0_0_0 xc0_0_0 xr0_0_1 xd0_0_3 xc0_0_3 v0_0)) (fun y I => ∃ (zxd0_0_0 : Option Addr) (zxc0_0_0 : Nat) (zxr0_0_1 : Nat) (zxd0_0_3 : Option Addr) (zxc0_0_3 : Nat), y = .tup [] ∧ I = (OLogLog.items b0 b0_0 r.1) ++ (ODevDev.items b0_0 zxd0_0_0 zxc0_0_0 zxr0_0_1 zxd0_0_3 zxc0_0_3 r.2)) := by
  intro b0 b0_0 xd0_0_0 xc0_0_0 xr0_0_1 xd0_0_3 xc0_0_3
  refine FW.enterH (xs := [.lit (.pointer (some ⟨b0, 0, none⟩))]) Go.Proofs.Tryz.func60 rfl Go.Proofs.Tryz.ntmps60 rfl ?_
  intro M w0 a hk
  replace hk : FW.S M w0 a w0.toWorld 11 [FW.blk b0 99 ([.lit (.pointer (some ⟨b0_0, 0, none⟩)), .lit (.int .i64 v0.from_), .lit (.int .i64 v0.to_), .lit (.int .i64 v0.at_), .lit (.int .u64 v0.next)]), FW.blk b0_0 75 ([.lit (.slice xd0_0_0 (List.length v0_0.sure) xc0_0_0), .lit (.map (some xr0_0_1)), .lit (.int .i64 v0_0.steps), .lit (.slice xd0_0_3 (List.length v0_0.falls) xc0_0_3), .lit (.bool v0_0.off)]), FW.orow xd0_0_0 xc0_0_0 9 1 c_str v0_0.sure, FW.mapI (.int .i64) (Value.int .i64) FW.evS xr0_0_1 v0_0.cache, FW.orow xd0_0_3 xc0_0_3 52 3 ApiFall.cells v0_0.falls] [(0, [], .lit (.pointer (some ⟨b0, 0, none⟩)))] := hk
  unfold log_Log_Reset.f at h
  refine FW.wreg ?_; intro K' hK1
  refine FW.lfun (y := .lit (.pointer (some ⟨b0, 0, none⟩))) hk rfl rfl rfl rfl (FW.f_move hk (FW.holds_nil _) rfl) ?_; clear hk; intro a w hk
  refine FW.lfun (y := .lit (.bool true)) hk rfl rfl rfl rfl ((FW.f_pure (FW.p_ptrNe Go.Proofs.Tryz.underlying66 hk.kn (FW.holds_nil _) rfl rfl rfl))) ?_; clear hk; intro a w hk
  refine FW.lend (hK1 _ _ ?_); clear hK1 K'
  refine FW.wcondT hk rfl ?_
  refine FW.wreg1 ?_
  refine FW.lfun (y := .lit (.pointer (some ⟨b0, 0, none⟩))) hk rfl rfl rfl rfl (FW.f_move hk (FW.holds_nil _) rfl) ?_; clear hk; intro a w hk
  refine FW.lfun (y := .lit (.pointer (some ⟨b0, 0, none⟩))) hk rfl rfl rfl rfl (FW.f_move hk (FW.holds_nil _) rfl) ?_; clear hk; intro a w hk
  refine FW.lfun (y := .lit (.pointer (some ⟨b0, 0, none⟩))) hk rfl rfl rfl rfl ((FW.f_pure (FW.p_nilCheck hk.kn (FW.holds_nil _) rfl))) ?_; clear hk; intro a w hk
  refine FW.lfun (y := .lit (.pointer (some ⟨b0, 1, none⟩))) hk rfl rfl rfl rfl (FW.f_fieldPtr hk (FW.holds_nil _) rfl Go.Proofs.Tryz.underlying99 rfl (by kernel_rfl) rfl) ?_; clear hk; intro a w hk
  refine FW.lfun (y := .lit (.int .i64 v0.from_)) hk rfl rfl rfl rfl (FW.f_loadBlk1 hk (FW.holds_nil _) (j := 0) rfl rfl Go.Proofs.Tryz.underlying3 rfl rfl) ?_; clear hk; intro a w hk
  refine FW.lfun (y := .lit (.pointer (some ⟨b0, 0, none⟩))) hk rfl rfl rfl rfl ((FW.f_pure (FW.p_nilCheck hk.kn (FW.holds_nil _) rfl))) ?_; clear hk; intro a w hk
  refine FW.lfun (y := .lit (.pointer (some ⟨b0, 3, none⟩))) hk rfl rfl rfl rfl (FW.f_fieldPtr hk (FW.holds_nil _) rfl Go.Proofs.Tryz.underlying99 rfl (by kernel_rfl) rfl) ?_; clear hk; intro a w hk
  refine FW.l_store (I' := [FW.blk b0 99 ([.lit (.pointer (some ⟨b0_0, 0, none⟩)), .lit (.int .i64 v0.from_), .lit (.int .i64 v0.to_), .lit (.int .i64 v0.from_), .lit (.int .u64 v0.next)]), FW.blk b0_0 75 ([.lit (.slice xd0_0_0 (List.length v0_0.sure) xc0_0_0), .lit (.map (some xr0_0_1)), .lit (.int .i64 v0_0.steps), .lit (.slice xd0_0_3 (List.length v0_0.falls) xc0_0_3), .lit (.bool v0_0.off)]), FW.orow xd0_0_0 xc0_0_0 9 1 c_str v0_0.sure, FW.mapI (.int .i64) (Value.int .i64) FW.evS xr0_0_1 v0_0.cache, FW.orow xd0_0_3 xc0_0_3 52 3 ApiFall.cells v0_0.falls]) (cs' := [.lit (.pointer (some ⟨b0_0, 0, none⟩)), .lit (.int .i64 v0.from_), .lit (.int .i64 v0.to_), .lit (.int .i64 v0.from_), .lit (.int .u64 v0.next)]) (j := 0) hk rfl rfl rfl rfl rfl (by kernel_rfl) rfl rfl ?_; clear hk; intro w hk
  refine wpList_nil ?_
  (repeat first | refine FW.then_normal ?_ | refine FW.block_normal ?_)
  refine FW.fnorm ?_
  obtain rfl := Option.some.inj h
  replace hk := FW.S.keep (I1 := [FW.blk b0 99 ([.lit (.pointer (some ⟨b0_0, 0, none⟩)), .lit (.int .i64 v0.from_), .lit (.int .i64 v0.to_), .lit (.int .i64 v0.from_), .lit (.int .u64 v0.next)]), FW.blk b0_0 75 ([.lit (.slice xd0_0_0 (List.length v0_0.sure) xc0_0_0), .lit (.map (some xr0_0_1)), .lit (.int .i64 v0_0.steps), .lit (.slice xd0_0_3 (List.length v0_0.falls) xc0_0_3), .lit (.bool v0_0.off)]), FW.orow xd0_0_0 xc0_0_0 9 1 c_str v0_0.sure, FW.mapI (.int .i64) (Value.int .i64) FW.evS xr0_0_1 v0_0.cache, FW.orow xd0_0_3 xc0_0_3 52 3 ApiFall.cells v0_0.falls]) (I2 := []) (js := [4, 4, 4, 4, 4]) hk rfl
  exact FW.fretH0 hk rfl ⟨xd0_0_0, xc0_0_0, xr0_0_1, xd0_0_3, xc0_0_3, rfl, rfl⟩
end Go.Proofs.YtfbkgaandmebaaaGreat
namespace Go.Proofs.YtfbkgaandmebaaaGreat
set_option linter.unusedVariables false
set_option maxRecDepth 20000
set_option maxHeartbeats 10000000
theorem rec_Store_fold.ok (K : Nat) (v0 : ORecStore) (v0_0 : ODevDev) (v1 : List ApiChange) (r : Int × ORecStore × ODevDev) (h : rec_Store_fold.f K v0 v0_0 v1 = some r) :
    ∀ (b0 : Nat) (b0_0 : Nat) (xb0_1 : Nat) (xr0_2 : Nat) (xd0_0_0 : Option Addr) (xc0_0_0 : Nat) (xr0_0_1 : Nat) (xd0_0_3 : Option Addr) (xc0_0_3 : Nat), FW.OkH Go.Proofs.Tryz.prog 32 [.lit (.pointer (some ⟨b0, 0, none⟩)), .row (r_ApiChange_cells v1)] ((ORecStore.items b0 b0_0 xb0_1 xr0_2 v0) ++ (ODevDev.items b0_0 xd0_0_0 xc0_0_0 xr0_0_1 xd0_0_3 xc0_0_3 v0_0)) (fun y I => ∃ (zxb0_1 : Nat) (zxr0_2 : Nat) (zxd0_0_0 : Option Addr) (zxc0_0_0 : Nat) (zxr0_0_1 : Nat) (zxd0_0_3 : Option Addr) (zxc0_0_3 : Nat), y = .lit (.int .i64 r.1) ∧ I = (ORecStore.items b0 b0_0 zxb0_1 zxr0_2 r.2.1) ++ (ODevDev.items b0_0 zxd0_0_0 zxc0_0_0 zxr0_0_1 zxd0_0_3 zxc0_0_3 r.2.2)) := by
  intro b0 b0_0 xb0_1 xr0_2 xd0_0_0 xc0_0_0 xr0_0_1 xd0_0_3 xc0_0_3
  refine FW.enterH (xs := [.lit (.pointer (some ⟨b0, 0, none⟩)), .row (r_ApiChange_cells v1)]) Go.Proofs.Tryz.func32 rfl Go.Proofs.Tryz.ntmps32 rfl ?_
  intro M w0 a hk
  replace hk : FW.S M w0 a w0.toWorld 118 [FW.blk b0 69 ([.lit (.pointer (some ⟨b0_0, 0, none⟩)), .lit (.pointer (some ⟨xb0_1, 0, none⟩)), .lit (.map (some xr0_2)), .lit (.int .i64 v0.half), .lit (.int .u64 v0.round), .lit (.bool v0.dead)]), FW.mapI (.int .u64) (Value.int .u64) FW.evS xr0_2 v0.m, FW.blk xb0_1 99 ([.lit (.pointer (some ⟨b0_0, 0, none⟩)), .lit (.int .i64 v0.l.from_), .lit (.int .i64 v0.l.to_), .lit (.int .i64 v0.l.at_), .lit (.int .u64 v0.l.next)]), FW.blk b0_0 75 ([.lit (.slice xd0_0_0 (List.length v0_0.sure) xc0_0_0), .lit (.map (some xr0_0_1)), .lit (.int .i64 v0_0.steps), .lit (.slice xd0_0_3 (List.length v0_0.falls) xc0_0_3), .lit (.bool v0_0.off)]), FW.orow xd0_0_0 xc0_0_0 9 1 c_str v0_0.sure, FW.mapI (.int .i64) (Value.int .i64) FW.evS xr0_0_1 v0_0.cache, FW.orow xd0_0_3 xc0_0_3 52 3 ApiFall.cells v0_0.falls] [(0, [], .lit (.pointer (some ⟨b0, 0, none⟩))), (1, [], .row (r_ApiChange_cells v1))] := hk
  unfold rec_Store_fold.f at h
  refine FW.wreg ?_; intro K' hK1
  refine FW.lfun (y := .lit (.int .i64 0)) hk rfl rfl rfl rfl (FW.f_assign hk (FW.holds_nil _) rfl) ?_; clear hk; intro a w hk
  refine FW.lend (hK1 _ _ ?_); clear hK1 K'
  refine FW.wreg ?_; intro K' hK2
  refine FW.lfun (y := .lit (.pointer (some ⟨b0, 0, none⟩))) hk rfl rfl rfl rfl (FW.f_move hk (FW.holds_nil _) rfl) ?_; clear hk; intro a w hk
  refine FW.lfun (y := .lit (.pointer (some ⟨b0, 0, none⟩))) hk rfl rfl rfl rfl ((FW.f_pure (FW.p_nilCheck hk.kn (FW.holds_nil _) rfl))) ?_; clear hk; intro a w hk
  refine FW.lfun (y := .lit (.pointer (some ⟨b0, 2, none⟩))) hk rfl rfl rfl rfl (FW.f_fieldPtr hk (FW.holds_nil _) rfl Go.Proofs.Tryz.underlying69 rfl (by kernel_rfl) rfl) ?_; clear hk; intro a w hk
  refine FW.lfun (y := .lit (.map (some xr0_2))) hk rfl rfl rfl rfl (FW.f_loadBlk1 hk (FW.holds_nil _) (j := 0) rfl rfl Go.Proofs.Tryz.underlying67 rfl rfl) ?_; clear hk; intro a w hk
  refine FW.l_callH (I1 := [FW.mapI (.int .u64) (Value.int .u64) FW.evS xr0_2 v0.m]) (I2 := [FW.blk b0 69 ([.lit (.pointer (some ⟨b0_0, 0, none⟩)), .lit (.pointer (some ⟨xb0_1, 0, none⟩)), .lit (.map (some xr0_2)), .lit (.int .i64 v0.half), .lit (.int .u64 v0.round), .lit (.bool v0.dead)]), FW.blk xb0_1 99 ([.lit (.pointer (some ⟨b0_0, 0, none⟩)), .lit (.int .i64 v0.l.from_), .lit (.int .i64 v0.l.to_), .lit (.int .i64 v0.l.at_), .lit (.int .u64 v0.l.next)]), FW.blk b0_0 75 ([.lit (.slice xd0_0_0 (List.length v0_0.sure) xc0_0_0), .lit (.map (some xr0_0_1)), .lit (.int .i64 v0_0.steps), .lit (.slice xd0_0_3 (List.length v0_0.falls) xc0_0_3), .lit (.bool v0_0.off)]), FW.orow xd0_0_0 xc0_0_0 9 1 c_str v0_0.sure, FW.mapI (.int .i64) (Value.int .i64) FW.evS xr0_0_1 v0_0.cache, FW.orow xd0_0_3 xc0_0_3 52 3 ApiFall.cells v0_0.falls]) (js := [1]) hk rfl rfl rfl rfl rfl Go.Proofs.Tryz.func56 rfl (by kernel_rfl) (mapsCloneU.ok v0.m _) ?_; clear hk
  rintro _ _ ⟨zr1, rfl, rfl⟩ a w hk
  refine FW.lfun (y := .lit (.map (some zr1))) hk rfl rfl rfl rfl (FW.f_assign hk (FW.holds_nil _) rfl) ?_; clear hk; intro a w hk
  refine FW.lend (hK2 _ _ ?_); clear hK2 K'
  refine FW.wreg ?_; intro K' hK3
  refine FW.lfun (y := .lit (.map (some zr1))) hk rfl rfl rfl rfl (FW.f_move hk (FW.holds_nil _) rfl) ?_; clear hk; intro a w hk
  refine FW.lfun (y := .row (r_ApiChange_cells v1)) hk rfl rfl rfl rfl (FW.f_move hk (FW.holds_nil _) rfl) ?_; clear hk; intro a w hk
  obtain ⟨t1, hr_t1, h⟩ := FW.bnd h
  refine FW.l_callH (I1 := (OMap67.items 0 zr1 v0.m)) (I2 := [FW.mapI (.int .u64) (Value.int .u64) FW.evS xr0_2 v0.m, FW.blk b0 69 ([.lit (.pointer (some ⟨b0_0, 0, none⟩)), .lit (.pointer (some ⟨xb0_1, 0, none⟩)), .lit (.map (some xr0_2)), .lit (.int .i64 v0.half), .lit (.int .u64 v0.round), .lit (.bool v0.dead)]), FW.blk xb0_1 99 ([.lit (.pointer (some ⟨b0_0, 0, none⟩)), .lit (.int .i64 v0.l.from_), .lit (.int .i64 v0.l.to_), .lit (.int .i64 v0.l.at_), .lit (.int .u64 v0.l.next)]), FW.blk b0_0 75 ([.lit (.slice xd0_0_0 (List.length v0_0.sure) xc0_0_0), .lit (.map (some xr0_0_1)), .lit (.int .i64 v0_0.steps), .lit (.slice xd0_0_3 (List.length v0_0.falls) xc0_0_3), .lit (.bool v0_0.off)]), FW.orow xd0_0_0 xc0_0_0 9 1 c_str v0_0.sure, FW.mapI (.int .i64) (Value.int .i64) FW.evS xr0_0_1 v0_0.cache, FW.orow xd0_0_3 xc0_0_3 52 3 ApiFall.cells v0_0.falls]) (js := [0]) hk rfl rfl rfl rfl rfl Go.Proofs.Tryz.func57 rfl (by kernel_rfl) (rec_change.ok K v0.m v1 _ hr_t1 0 zr1) ?_; clear hk
  rintro _ _ ⟨rfl, rfl⟩ a w hk
  refine FW.lend (hK3 _ _ ?_); clear hK3 K'
  refine FW.wreg ?_; intro K' hK4
  refine FW.lfun (y := .lit (.pointer (some ⟨b0, 0, none⟩))) hk rfl rfl rfl rfl (FW.f_move hk (FW.holds_nil _) rfl) ?_; clear hk; intro a w hk
  refine FW.lfun (y := .lit (.pointer (some ⟨b0, 0, none⟩))) hk rfl rfl rfl rfl ((FW.f_pure (FW.p_nilCheck hk.kn (FW.holds_nil _) rfl))) ?_; clear hk; intro a w hk
  refine FW.lfun (y := .lit (.pointer (some ⟨b0, 0, none⟩))) hk rfl rfl rfl rfl (FW.f_fieldPtr hk (FW.holds_nil _) rfl Go.Proofs.Tryz.underlying69 rfl (by kernel_rfl) rfl) ?_; clear hk; intro a w hk
  refine FW.lfun (y := .lit (.pointer (some ⟨b0_0, 0, none⟩))) hk rfl rfl rfl rfl (FW.f_loadBlk1 hk (FW.holds_nil _) (j := 2) rfl rfl Go.Proofs.Tryz.underlying24 rfl rfl) ?_; clear hk; intro a w hk
  obtain ⟨t2, hr_t2, h⟩ := FW.bnd h
  refine FW.l_callH (I1 := (ODevDev.items b0_0 xd0_0_0 xc0_0_0 xr0_0_1 xd0_0_3 xc0_0_3 v0_0)) (I2 := [FW.mapI (.int .u64) (Value.int .u64) FW.evS zr1 t1, FW.mapI (.int .u64) (Value.int .u64) FW.evS xr0_2 v0.m, FW.blk b0 69 ([.lit (.pointer (some ⟨b0_0, 0, none⟩)), .lit (.pointer (some ⟨xb0_1, 0, none⟩)), .lit (.map (some xr0_2)), .lit (.int .i64 v0.half), .lit (.int .u64 v0.round), .lit (.bool v0.dead)]), FW.blk xb0_1 99 ([.lit (.pointer (some ⟨b0_0, 0, none⟩)), .lit (.int .i64 v0.l.from_), .lit (.int .i64 v0.l.to_), .lit (.int .i64 v0.l.at_), .lit (.int .u64 v0.l.next)])]) (js := [7, 7, 7, 7]) hk rfl rfl rfl rfl rfl Go.Proofs.Tryz.func40 rfl (by kernel_rfl) (rec_parts.ok v0_0 _ hr_t2 b0_0 xd0_0_0 xc0_0_0 xr0_0_1 xd0_0_3 xc0_0_3) ?_; clear hk
  rintro _ _ ⟨rfl, rfl⟩ a w hk
  refine FW.l_alloc (zs := [.lit (.int .i64 0), .lit (.int .i64 0), .lit (.int .i64 0), .lit (.int .i64 0)]) [] hk rfl rfl rfl rfl ?_; clear hk; intro bx1 a w hk
  refine FW.l_store (I' := [FW.blk bx1 79 ([.lit (.int .i64 t2.1), .lit (.int .i64 t2.2.1), .lit (.int .i64 t2.2.2.1), .lit (.int .i64 t2.2.2.2)]), FW.blk b0_0 75 ([.lit (.slice xd0_0_0 (List.length v0_0.sure) xc0_0_0), .lit (.map (some xr0_0_1)), .lit (.int .i64 v0_0.steps), .lit (.slice xd0_0_3 (List.length v0_0.falls) xc0_0_3), .lit (.bool v0_0.off)]), FW.orow xd0_0_0 xc0_0_0 9 1 c_str v0_0.sure, FW.mapI (.int .i64) (Value.int .i64) FW.evS xr0_0_1 v0_0.cache, FW.orow xd0_0_3 xc0_0_3 52 3 ApiFall.cells v0_0.falls, FW.mapI (.int .u64) (Value.int .u64) FW.evS zr1 t1, FW.mapI (.int .u64) (Value.int .u64) FW.evS xr0_2 v0.m, FW.blk b0 69 ([.lit (.pointer (some ⟨b0_0, 0, none⟩)), .lit (.pointer (some ⟨xb0_1, 0, none⟩)), .lit (.map (some xr0_2)), .lit (.int .i64 v0.half), .lit (.int .u64 v0.round), .lit (.bool v0.dead)]), FW.blk xb0_1 99 ([.lit (.pointer (some ⟨b0_0, 0, none⟩)), .lit (.int .i64 v0.l.from_), .lit (.int .i64 v0.l.to_), .lit (.int .i64 v0.l.at_), .lit (.int .u64 v0.l.next)])]) (cs' := [.lit (.int .i64 t2.1), .lit (.int .i64 t2.2.1), .lit (.int .i64 t2.2.2.1), .lit (.int .i64 t2.2.2.2)]) (j := 0) hk rfl rfl rfl rfl rfl (by kernel_rfl) rfl rfl ?_; clear hk; intro w hk
  replace hk := FW.S.toArr (f := c_i64) (N := 4) (l := [t2.1, t2.2.1, t2.2.2.1, t2.2.2.2]) (I' := [FW.orow (some ⟨bx1, 0, none⟩) 4 79 1 c_i64 ([t2.1, t2.2.1, t2.2.2.1, t2.2.2.2] : List Int), FW.blk b0_0 75 ([.lit (.slice xd0_0_0 (List.length v0_0.sure) xc0_0_0), .lit (.map (some xr0_0_1)), .lit (.int .i64 v0_0.steps), .lit (.slice xd0_0_3 (List.length v0_0.falls) xc0_0_3), .lit (.bool v0_0.off)]), FW.orow xd0_0_0 xc0_0_0 9 1 c_str v0_0.sure, FW.mapI (.int .i64) (Value.int .i64) FW.evS xr0_0_1 v0_0.cache, FW.orow xd0_0_3 xc0_0_3 52 3 ApiFall.cells v0_0.falls, FW.mapI (.int .u64) (Value.int .u64) FW.evS zr1 t1, FW.mapI (.int .u64) (Value.int .u64) FW.evS xr0_2 v0.m, FW.blk b0 69 ([.lit (.pointer (some ⟨b0_0, 0, none⟩)), .lit (.pointer (some ⟨xb0_1, 0, none⟩)), .lit (.map (some xr0_2)), .lit (.int .i64 v0.half), .lit (.int .u64 v0.round), .lit (.bool v0.dead)]), FW.blk xb0_1 99 ([.lit (.pointer (some ⟨b0_0, 0, none⟩)), .lit (.int .i64 v0.l.from_), .lit (.int .i64 v0.l.to_), .lit (.int .i64 v0.l.at_), .lit (.int .u64 v0.l.next)])]) (j := 0) (fun _ => rfl) hk rfl rfl rfl (by decide) rfl
  refine FW.lend (hK4 _ _ ?_); clear hK4 K'
  refine FW.wreg ?_; intro K' hK5
  refine FW.lfun (y := .lit (.pointer (some ⟨b0, 0, none⟩))) hk rfl rfl rfl rfl (FW.f_move hk (FW.holds_nil _) rfl) ?_; clear hk; intro a w hk
  refine FW.lfun (y := .lit (.pointer (some ⟨b0, 0, none⟩))) hk rfl rfl rfl rfl ((FW.f_pure (FW.p_nilCheck hk.kn (FW.holds_nil _) rfl))) ?_; clear hk; intro a w hk
  refine FW.lfun (y := .lit (.pointer (some ⟨b0, 3, none⟩))) hk rfl rfl rfl rfl (FW.f_fieldPtr hk (FW.holds_nil _) rfl Go.Proofs.Tryz.underlying69 rfl (by kernel_rfl) rfl) ?_; clear hk; intro a w hk
  refine FW.lfun (y := .lit (.int .i64 v0.half)) hk rfl rfl rfl rfl (FW.f_loadBlk1 hk (FW.holds_nil _) (j := 7) rfl rfl Go.Proofs.Tryz.underlying3 rfl rfl) ?_; clear hk; intro a w hk
  refine FW.lfun (y := .lit (.int .i64 (IntKind.wrap .i64 (1 - v0.half)))) hk rfl rfl rfl rfl ((FW.f_pure (FW.p_sub hk.kn (FW.holds_nil _) rfl rfl))) ?_; clear hk; intro a w hk
  refine FW.lfun (y := .lit (.int .i64 (IntKind.wrap .i64 (1 - v0.half)))) hk rfl rfl rfl rfl (FW.f_assign hk (FW.holds_nil _) rfl) ?_; clear hk; intro a w hk
  refine FW.lend (hK5 _ _ ?_); clear hK5 K'
  obtain ⟨hc1, h⟩ := FW.chk h
  obtain ⟨hc2, h⟩ := FW.chk h
  obtain ⟨t3, hr_t3, h⟩ := FW.bnd h
  refine FW.wdrawE (.next [true, true, true, true, true, true, true, true, true, true, true, true, true, true, true, true, false, false, false, false, false, false, false, false] 16 [true, true, true, true, true, true, true, true, true, true, true, true, true, true, true, true, false, false, false, false, false, false, false, false] (.leaf [false, false, false, false, false, false, false, false, false, false, false, false, false, false, false, false, false, true, true, true, true, true, true, true])) [(33, [], .lit (.pointer (some ⟨b0, 0, none⟩))), (34, [], .lit (.pointer (some ⟨b0, 0, none⟩))), (35, [], .lit (.pointer (some ⟨b0, 0, none⟩))), (36, [], .lit (.pointer (some ⟨b0_0, 0, none⟩))), (37, [], .lit (.int .i64 (IntKind.wrap .i64 (1 - v0.half)))), (38, [], FW.elA (some ⟨bx1, 0, none⟩) 1 (IntKind.wrap .i64 (1 - v0.half))), (39, [], .lit (.int .i64 (List.getD ([t2.1, t2.2.1, t2.2.2.1, t2.2.2.2] : List Int) (Int.toNat (IntKind.wrap .i64 (1 - v0.half))) default))), (40, [], .lit (.int .i64 (IntKind.wrap .i64 (1 - v0.half)))), (41, [], .lit (.int .i64 (IntKind.wrap .i64 ((IntKind.wrap .i64 (1 - v0.half)) + 1)))), (42, [], FW.elA (some ⟨bx1, 0, none⟩) 1 (IntKind.wrap .i64 ((IntKind.wrap .i64 (1 - v0.half)) + 1))), (43, [], .lit (.int .i64 (List.getD ([t2.1, t2.2.1, t2.2.2.1, t2.2.2.2] : List Int) (Int.toNat (IntKind.wrap .i64 ((IntKind.wrap .i64 (1 - v0.half)) + 1))) default))), (44, [], .lit (.pointer (some ⟨b0, 0, none⟩))), (45, [], .lit (.pointer (some ⟨b0, 0, none⟩))), (46, [], .lit (.pointer (some ⟨b0, 4, none⟩))), (47, [], .lit (.int .u64 v0.round)), (48, [], .lit (.int .u64 (IntKind.wrap .u64 (v0.round + 1)))), (49, [], .agg []), (32, [], .agg []), (50, [], .agg []), (51, [], .agg []), (52, [], .agg []), (8, [], .agg []), (9, [], .agg []), (10, [], .agg [])] (by kernel_rfl) (by kernel_rfl) (by kernel_rfl) (by kernel_rfl) hk ?_; clear hk
  refine FW.gnext ?_ rfl rfl rfl rfl rfl ?_
  · skip
    refine FW.gfun (y := .lit (.pointer (some ⟨b0, 0, none⟩))) rfl rfl rfl rfl (fun a w hk => FW.f_move hk (FW.holds_nil _) rfl) ?_
    refine FW.gfun (y := .lit (.pointer (some ⟨b0, 0, none⟩))) rfl rfl rfl rfl (fun a w hk => (FW.f_pure (FW.p_nilCheck hk.kn (FW.holds_nil _) rfl))) ?_
    refine FW.gfun (y := .lit (.pointer (some ⟨b0, 0, none⟩))) rfl rfl rfl rfl (fun a w hk => FW.f_fieldPtr hk (FW.holds_nil _) rfl Go.Proofs.Tryz.underlying69 rfl (by kernel_rfl) rfl) ?_
    refine FW.gfun (y := .lit (.pointer (some ⟨b0_0, 0, none⟩))) rfl rfl rfl rfl (fun a w hk => FW.f_loadBlk1 hk (FW.holds_nil _) (j := 7) rfl rfl Go.Proofs.Tryz.underlying24 rfl rfl) ?_
    refine FW.gfun (y := .lit (.int .i64 (IntKind.wrap .i64 (1 - v0.half)))) rfl rfl rfl rfl (fun a w hk => FW.f_move hk (FW.holds_nil _) rfl) ?_
    refine FW.gfun (y := FW.elA (some ⟨bx1, 0, none⟩) 1 (IntKind.wrap .i64 (1 - v0.half))) rfl rfl rfl rfl (fun a w hk => FW.f_idxArr (f := c_i64) (l := ([t2.1, t2.2.1, t2.2.2.1, t2.2.2.2] : List Int)) hk (FW.holds_nil _) (j := 0) rfl rfl rfl Go.Proofs.Tryz.underlying79 (by kernel_rfl) hc1) ?_
    refine FW.gfun (y := .lit (.int .i64 (List.getD ([t2.1, t2.2.1, t2.2.2.1, t2.2.2.2] : List Int) (Int.toNat (IntKind.wrap .i64 (1 - v0.half))) default))) rfl rfl rfl rfl (fun a w hk => FW.f_loadOwn1 (f := c_i64) (l := ([t2.1, t2.2.1, t2.2.2.1, t2.2.2.2] : List Int)) hk (FW.holds_nil _) (j := 0) rfl rfl hc1 rfl Go.Proofs.Tryz.underlying3 rfl) ?_
    refine FW.gfun (y := .lit (.int .i64 (IntKind.wrap .i64 (1 - v0.half)))) rfl rfl rfl rfl (fun a w hk => FW.f_move hk (FW.holds_nil _) rfl) ?_
    refine FW.gfun (y := .lit (.int .i64 (IntKind.wrap .i64 ((IntKind.wrap .i64 (1 - v0.half)) + 1)))) rfl rfl rfl rfl (fun a w hk => (FW.f_pure (FW.p_add hk.kn (FW.holds_nil _) rfl rfl))) ?_
    refine FW.gfun (y := FW.elA (some ⟨bx1, 0, none⟩) 1 (IntKind.wrap .i64 ((IntKind.wrap .i64 (1 - v0.half)) + 1))) rfl rfl rfl rfl (fun a w hk => FW.f_idxArr (f := c_i64) (l := ([t2.1, t2.2.1, t2.2.2.1, t2.2.2.2] : List Int)) hk (FW.holds_nil _) (j := 0) rfl rfl rfl Go.Proofs.Tryz.underlying79 (by kernel_rfl) hc2) ?_
    refine FW.gfun (y := .lit (.int .i64 (List.getD ([t2.1, t2.2.1, t2.2.2.1, t2.2.2.2] : List Int) (Int.toNat (IntKind.wrap .i64 ((IntKind.wrap .i64 (1 - v0.half)) + 1))) default))) rfl rfl rfl rfl (fun a w hk => FW.f_loadOwn1 (f := c_i64) (l := ([t2.1, t2.2.1, t2.2.2.1, t2.2.2.2] : List Int)) hk (FW.holds_nil _) (j := 0) rfl rfl hc2 rfl Go.Proofs.Tryz.underlying3 rfl) ?_
    refine FW.gfun (y := .lit (.pointer (some ⟨b0, 0, none⟩))) rfl rfl rfl rfl (fun a w hk => FW.f_move hk (FW.holds_nil _) rfl) ?_
    refine FW.gfun (y := .lit (.pointer (some ⟨b0, 0, none⟩))) rfl rfl rfl rfl (fun a w hk => (FW.f_pure (FW.p_nilCheck hk.kn (FW.holds_nil _) rfl))) ?_
    refine FW.gfun (y := .lit (.pointer (some ⟨b0, 4, none⟩))) rfl rfl rfl rfl (fun a w hk => FW.f_fieldPtr hk (FW.holds_nil _) rfl Go.Proofs.Tryz.underlying69 rfl (by kernel_rfl) rfl) ?_
    refine FW.gfun (y := .lit (.int .u64 v0.round)) rfl rfl rfl rfl (fun a w hk => FW.f_loadBlk1 hk (FW.holds_nil _) (j := 7) rfl rfl Go.Proofs.Tryz.underlying27 rfl rfl) ?_
    refine FW.gfun (y := .lit (.int .u64 (IntKind.wrap .u64 (v0.round + 1)))) rfl rfl rfl rfl (fun a w hk => (FW.f_pure (FW.p_add hk.kn (FW.holds_nil _) rfl rfl))) ?_
    refine FW.gskip rfl rfl ?_
    refine FW.gskip rfl rfl ?_
    refine FW.gskip rfl rfl ?_
    refine FW.gskip rfl rfl ?_
    refine FW.gskip rfl rfl ?_
    refine FW.gskip rfl rfl ?_
    refine FW.gskip rfl rfl ?_
    refine FW.gskip rfl rfl ?_
    exact FW.gend
  · skip
    intro σD a w opsD QD hk hf hQ hX
    refine FW.l_callH (I1 := (ODevDev.items b0_0 xd0_0_0 xc0_0_0 xr0_0_1 xd0_0_3 xc0_0_3 v0_0)) (I2 := [FW.orow (some ⟨bx1, 0, none⟩) 4 79 1 c_i64 ([t2.1, t2.2.1, t2.2.2.1, t2.2.2.2] : List Int), FW.mapI (.int .u64) (Value.int .u64) FW.evS zr1 t1, FW.mapI (.int .u64) (Value.int .u64) FW.evS xr0_2 v0.m, FW.blk b0 69 ([.lit (.pointer (some ⟨b0_0, 0, none⟩)), .lit (.pointer (some ⟨xb0_1, 0, none⟩)), .lit (.map (some xr0_2)), .lit (.int .i64 v0.half), .lit (.int .u64 v0.round), .lit (.bool v0.dead)]), FW.blk xb0_1 99 ([.lit (.pointer (some ⟨b0_0, 0, none⟩)), .lit (.int .i64 v0.l.from_), .lit (.int .i64 v0.l.to_), .lit (.int .i64 v0.l.at_), .lit (.int .u64 v0.l.next)])]) (js := [4, 4, 4, 4]) hk rfl rfl hf rfl rfl Go.Proofs.Tryz.func41 rfl (by kernel_rfl) (log_Open.ok K v0_0 (List.getD ([t2.1, t2.2.1, t2.2.2.1, t2.2.2.2] : List Int) (Int.toNat (IntKind.wrap .i64 (1 - v0.half))) default) (List.getD ([t2.1, t2.2.1, t2.2.2.1, t2.2.2.2] : List Int) (Int.toNat (IntKind.wrap .i64 ((IntKind.wrap .i64 (1 - v0.half)) + 1))) default) (IntKind.wrap .u64 (v0.round + 1)) _ hr_t3 b0_0 xd0_0_0 xc0_0_0 xr0_0_1 xd0_0_3 xc0_0_3) ?_; clear hk
    rintro _ _ ⟨bx2, zd1, zc1, zr2, zd2, zc2, rfl, rfl⟩ a w hk
    refine hQ _ _ a w ?_ hk; clear hk hQ hf hX
    refine ⟨[(33, [], .lit (.pointer (some ⟨b0, 0, none⟩))), (34, [], .lit (.pointer (some ⟨b0, 0, none⟩))), (35, [], .lit (.pointer (some ⟨b0, 0, none⟩))), (36, [], .lit (.pointer (some ⟨b0_0, 0, none⟩))), (37, [], .lit (.int .i64 (IntKind.wrap .i64 (1 - v0.half)))), (38, [], FW.elA (some ⟨bx1, 0, none⟩) 1 (IntKind.wrap .i64 (1 - v0.half))), (39, [], .lit (.int .i64 (List.getD ([t2.1, t2.2.1, t2.2.2.1, t2.2.2.2] : List Int) (Int.toNat (IntKind.wrap .i64 (1 - v0.half))) default))), (40, [], .lit (.int .i64 (IntKind.wrap .i64 (1 - v0.half)))), (41, [], .lit (.int .i64 (IntKind.wrap .i64 ((IntKind.wrap .i64 (1 - v0.half)) + 1)))), (42, [], FW.elA (some ⟨bx1, 0, none⟩) 1 (IntKind.wrap .i64 ((IntKind.wrap .i64 (1 - v0.half)) + 1))), (43, [], .lit (.int .i64 (List.getD ([t2.1, t2.2.1, t2.2.2.1, t2.2.2.2] : List Int) (Int.toNat (IntKind.wrap .i64 ((IntKind.wrap .i64 (1 - v0.half)) + 1))) default))), (44, [], .lit (.pointer (some ⟨b0, 0, none⟩))), (45, [], .lit (.pointer (some ⟨b0, 0, none⟩))), (46, [], .lit (.pointer (some ⟨b0, 4, none⟩))), (47, [], .lit (.int .u64 v0.round)), (48, [], .lit (.int .u64 (IntKind.wrap .u64 (v0.round + 1)))), (49, [], .tup [.lit (.pointer (some ⟨bx2, 0, none⟩)), .row (r_c_str t3.2.1), .lit (.int .i64 t3.2.2.1)]), (32, [], .tup [.lit (.pointer (some ⟨bx2, 0, none⟩)), .row (r_c_str t3.2.1), .lit (.int .i64 t3.2.2.1)]), (50, [], .lit (.pointer (some ⟨bx2, 0, none⟩))), (51, [], .row (r_c_str t3.2.1)), (52, [], .lit (.int .i64 t3.2.2.1)), (8, [], .lit (.pointer (some ⟨bx2, 0, none⟩))), (9, [], .row (r_c_str t3.2.1)), (10, [], .lit (.int .i64 t3.2.2.1))], And.intro rfl (And.intro rfl (And.intro rfl (And.intro rfl (And.intro rfl (And.intro rfl (And.intro rfl (And.intro rfl (And.intro rfl (And.intro rfl (And.intro rfl (And.intro rfl (And.intro rfl (And.intro rfl (And.intro rfl (And.intro rfl (trivial)))))))))))))))), rfl, ?_⟩
    refine FW.glast ?_ ?_
    · skip
      refine FW.gskip rfl rfl ?_
      refine FW.gskip rfl rfl ?_
      refine FW.gskip rfl rfl ?_
      refine FW.gskip rfl rfl ?_
      refine FW.gskip rfl rfl ?_
      refine FW.gskip rfl rfl ?_
      refine FW.gskip rfl rfl ?_
      refine FW.gskip rfl rfl ?_
      refine FW.gskip rfl rfl ?_
      refine FW.gskip rfl rfl ?_
      refine FW.gskip rfl rfl ?_
      refine FW.gskip rfl rfl ?_
      refine FW.gskip rfl rfl ?_
      refine FW.gskip rfl rfl ?_
      refine FW.gskip rfl rfl ?_
      refine FW.gskip rfl rfl ?_
      refine FW.gskip rfl rfl ?_
      refine FW.gfun (y := .tup [.lit (.pointer (some ⟨bx2, 0, none⟩)), .row (r_c_str t3.2.1), .lit (.int .i64 t3.2.2.1)]) rfl rfl rfl rfl (fun a w hk => FW.f_move hk (FW.holds_nil _) rfl) ?_
      refine FW.gfun (y := .lit (.pointer (some ⟨bx2, 0, none⟩))) rfl rfl rfl rfl (fun a w hk => FW.f_extract hk (FW.holds_nil _) rfl rfl) ?_
      refine FW.gfun (y := .row (r_c_str t3.2.1)) rfl rfl rfl rfl (fun a w hk => FW.f_extract hk (FW.holds_nil _) rfl rfl) ?_
      refine FW.gfun (y := .lit (.int .i64 t3.2.2.1)) rfl rfl rfl rfl (fun a w hk => FW.f_extract hk (FW.holds_nil _) rfl rfl) ?_
      refine FW.gfun (y := .lit (.pointer (some ⟨bx2, 0, none⟩))) rfl rfl rfl rfl (fun a w hk => FW.f_assign hk (FW.holds_nil _) rfl) ?_
      refine FW.gfun (y := .row (r_c_str t3.2.1)) rfl rfl rfl rfl (fun a w hk => FW.f_assign hk (FW.holds_nil _) rfl) ?_
      refine FW.gfun (y := .lit (.int .i64 t3.2.2.1)) rfl rfl rfl rfl (fun a w hk => FW.f_assign hk (FW.holds_nil _) rfl) ?_
      exact FW.gend
    · skip
      intro a w hk; simp only [FW.stD, cond_true] at hk
      refine FW.wseq ?_; intro K' hK7
      refine FW.wreg ?_; intro K' hK8
      refine FW.lfun (y := .lit (.int .i64 t3.2.2.1)) hk rfl rfl rfl rfl (FW.f_move hk (FW.holds_nil _) rfl) ?_; clear hk; intro a w hk
      refine FW.lfun (y := .lit (.bool (!decide (t3.2.2.1 = 0)))) hk rfl rfl rfl rfl ((FW.f_pure (FW.p_neq hk.kn (FW.holds_nil _) rfl rfl))) ?_; clear hk; intro a w hk
      refine FW.lend (hK8 _ _ ?_); clear hK8 K'
      refine FW.wcondF (b := (!decide (t3.2.2.1 = 0))) hk h rfl (fun h hb => ?_) (fun h hb => ?_)
      · skip
        refine FW.wreg ?_; intro K' hK9
        refine FW.lfun (y := .lit (.int .i64 t3.2.2.1)) hk rfl rfl rfl rfl (FW.f_move hk (FW.holds_nil _) rfl) ?_; clear hk; intro a w hk
        refine FW.lfun (y := .lit (.int .i64 t3.2.2.1)) hk rfl rfl rfl rfl (FW.f_assign hk (FW.holds_nil _) rfl) ?_; clear hk; intro a w hk
        refine FW.lend (hK9 _ _ ?_); clear hK9 K'
        refine wp_ret ?_
        (repeat first | refine FW.then_ret ?_ | refine FW.block_ret ?_)
        obtain rfl := Option.some.inj h
        replace hk := FW.S.keep (I1 := [FW.blk b0 69 ([.lit (.pointer (some ⟨b0_0, 0, none⟩)), .lit (.pointer (some ⟨xb0_1, 0, none⟩)), .lit (.map (some xr0_2)), .lit (.int .i64 v0.half), .lit (.int .u64 v0.round), .lit (.bool v0.dead)]), FW.mapI (.int .u64) (Value.int .u64) FW.evS xr0_2 v0.m, FW.blk xb0_1 99 ([.lit (.pointer (some ⟨b0_0, 0, none⟩)), .lit (.int .i64 v0.l.from_), .lit (.int .i64 v0.l.to_), .lit (.int .i64 v0.l.at_), .lit (.int .u64 v0.l.next)]), FW.blk b0_0 75 ([.lit (.slice zd1 (List.length t3.2.2.2.sure) zc1), .lit (.map (some zr2)), .lit (.int .i64 t3.2.2.2.steps), .lit (.slice zd2 (List.length t3.2.2.2.falls) zc2), .lit (.bool t3.2.2.2.off)]), FW.orow zd1 zc1 9 1 c_str t3.2.2.2.sure, FW.mapI (.int .i64) (Value.int .i64) FW.evS zr2 t3.2.2.2.cache, FW.orow zd2 zc2 52 3 ApiFall.cells t3.2.2.2.falls]) (I2 := [FW.blk bx2 99 ([.lit (.pointer (some ⟨b0_0, 0, none⟩)), .lit (.int .i64 t3.1.from_), .lit (.int .i64 t3.1.to_), .lit (.int .i64 t3.1.at_), .lit (.int .u64 t3.1.next)]), FW.orow (some ⟨bx1, 0, none⟩) 4 79 1 c_i64 ([t2.1, t2.2.1, t2.2.2.1, t2.2.2.2] : List Int), FW.mapI (.int .u64) (Value.int .u64) FW.evS zr1 t1]) (js := [4, 4, 4, 4, 9, 8, 9]) hk rfl
        exact FW.fretH1 hk rfl (FW.rtmp hk rfl) ⟨xb0_1, xr0_2, zd1, zc1, zr2, zd2, zc2, rfl, rfl⟩
      cases h
theorem rec_Store_Commit.ok (K : Nat) (v0 : ORecStore) (v0_0 : ODevDev) (v1 : List ApiChange) (r : Int × ORecStore × ODevDev) (h : rec_Store_Commit.f K v0 v0_0 v1 = some r) :
    ∀ (b0 : Nat) (b0_0 : Nat) (xb0_1 : Nat) (xr0_2 : Nat) (xd0_0_0 : Option Addr) (xc0_0_0 : Nat) (xr0_0_1 : Nat) (xd0_0_3 : Option Addr) (xc0_0_3 : Nat), FW.OkH Go.Proofs.Tryz.prog 10 [.lit (.pointer (some ⟨b0, 0, none⟩)), .row (r_ApiChange_cells v1)] ((ORecStore.items b0 b0_0 xb0_1 xr0_2 v0) ++ (ODevDev.items b0_0 xd0_0_0 xc0_0_0 xr0_0_1 xd0_0_3 xc0_0_3 v0_0)) (fun y I => ∃ (zxb0_1 : Nat) (zxr0_2 : Nat) (zxd0_0_0 : Option Addr) (zxc0_0_0 : Nat) (zxr0_0_1 : Nat) (zxd0_0_3 : Option Addr) (zxc0_0_3 : Nat), y = .lit (.int .i64 r.1) ∧ I = (ORecStore.items b0 b0_0 zxb0_1 zxr0_2 r.2.1) ++ (ODevDev.items b0_0 zxd0_0_0 zxc0_0_0 zxr0_0_1 zxd0_0_3 zxc0_0_3 r.2.2)) := by
  intro b0 b0_0 xb0_1 xr0_2 xd0_0_0 xc0_0_0 xr0_0_1 xd0_0_3 xc0_0_3
  refine FW.enterH (xs := [.lit (.pointer (some ⟨b0, 0, none⟩)), .row (r_ApiChange_cells v1)]) Go.Proofs.Tryz.func10 rfl Go.Proofs.Tryz.ntmps10 rfl ?_
  intro M w0 a hk
  replace hk : FW.S M w0 a w0.toWorld 58 [FW.blk b0 69 ([.lit (.pointer (some ⟨b0_0, 0, none⟩)), .lit (.pointer (some ⟨xb0_1, 0, none⟩)), .lit (.map (some xr0_2)), .lit (.int .i64 v0.half), .lit (.int .u64 v0.round), .lit (.bool v0.dead)]), FW.mapI (.int .u64) (Value.int .u64) FW.evS xr0_2 v0.m, FW.blk xb0_1 99 ([.lit (.pointer (some ⟨b0_0, 0, none⟩)), .lit (.int .i64 v0.l.from_), .lit (.int .i64 v0.l.to_), .lit (.int .i64 v0.l.at_), .lit (.int .u64 v0.l.next)]), FW.blk b0_0 75 ([.lit (.slice xd0_0_0 (List.length v0_0.sure) xc0_0_0), .lit (.map (some xr0_0_1)), .lit (.int .i64 v0_0.steps), .lit (.slice xd0_0_3 (List.length v0_0.falls) xc0_0_3), .lit (.bool v0_0.off)]), FW.orow xd0_0_0 xc0_0_0 9 1 c_str v0_0.sure, FW.mapI (.int .i64) (Value.int .i64) FW.evS xr0_0_1 v0_0.cache, FW.orow xd0_0_3 xc0_0_3 52 3 ApiFall.cells v0_0.falls] [(0, [], .lit (.pointer (some ⟨b0, 0, none⟩))), (1, [], .row (r_ApiChange_cells v1))] := hk
  unfold rec_Store_Commit.f at h
  refine FW.wreg ?_; intro K' hK1
  refine FW.lfun (y := .lit (.int .i64 0)) hk rfl rfl rfl rfl (FW.f_assign hk (FW.holds_nil _) rfl) ?_; clear hk; intro a w hk
  refine FW.lend (hK1 _ _ ?_); clear hK1 K'
  refine FW.wseq ?_; intro K' hK2
  refine FW.wreg ?_; intro K' hK3
  refine FW.lfun (y := .lit (.pointer (some ⟨b0, 0, none⟩))) hk rfl rfl rfl rfl (FW.f_move hk (FW.holds_nil _) rfl) ?_; clear hk; intro a w hk
  obtain ⟨t1, hr_t1, h⟩ := FW.bnd h
  refine FW.l_callH (I1 := (ORecStore.items b0 b0_0 xb0_1 xr0_2 v0) ++ (ODevDev.items b0_0 xd0_0_0 xc0_0_0 xr0_0_1 xd0_0_3 xc0_0_3 v0_0)) (I2 := []) (js := [6, 6, 6, 6, 6, 6, 6]) hk rfl rfl rfl rfl rfl Go.Proofs.Tryz.func28 rfl (by kernel_rfl) (rec_Store_Dead.ok v0 v0_0 _ hr_t1 b0 b0_0 xb0_1 xr0_2 xd0_0_0 xc0_0_0 xr0_0_1 xd0_0_3 xc0_0_3) ?_; clear hk
  rintro _ _ ⟨rfl, rfl⟩ a w hk
  refine FW.lend (hK3 _ _ ?_); clear hK3 K'
  refine FW.wcondF (b := t1) hk h rfl (fun h hb => ?_) (fun h hb => ?_)
  · skip
    refine FW.wreg ?_; intro K' hK4
    refine FW.lfun (y := .lit (.int .i64 7)) hk rfl rfl rfl rfl (FW.f_assign hk (FW.holds_nil _) rfl) ?_; clear hk; intro a w hk
    refine FW.lend (hK4 _ _ ?_); clear hK4 K'
    refine wp_ret ?_
    (repeat first | refine FW.then_ret ?_ | refine FW.block_ret ?_)
    obtain rfl := Option.some.inj h
    replace hk := FW.S.keep (I1 := [FW.blk b0 69 ([.lit (.pointer (some ⟨b0_0, 0, none⟩)), .lit (.pointer (some ⟨xb0_1, 0, none⟩)), .lit (.map (some xr0_2)), .lit (.int .i64 v0.half), .lit (.int .u64 v0.round), .lit (.bool v0.dead)]), FW.mapI (.int .u64) (Value.int .u64) FW.evS xr0_2 v0.m, FW.blk xb0_1 99 ([.lit (.pointer (some ⟨b0_0, 0, none⟩)), .lit (.int .i64 v0.l.from_), .lit (.int .i64 v0.l.to_), .lit (.int .i64 v0.l.at_), .lit (.int .u64 v0.l.next)]), FW.blk b0_0 75 ([.lit (.slice xd0_0_0 (List.length v0_0.sure) xc0_0_0), .lit (.map (some xr0_0_1)), .lit (.int .i64 v0_0.steps), .lit (.slice xd0_0_3 (List.length v0_0.falls) xc0_0_3), .lit (.bool v0_0.off)]), FW.orow xd0_0_0 xc0_0_0 9 1 c_str v0_0.sure, FW.mapI (.int .i64) (Value.int .i64) FW.evS xr0_0_1 v0_0.cache, FW.orow xd0_0_3 xc0_0_3 52 3 ApiFall.cells v0_0.falls]) (I2 := []) (js := [6, 6, 6, 6, 6, 6, 6]) hk rfl
    exact FW.fretH1 hk rfl (FW.rtmp hk rfl) ⟨xb0_1, xr0_2, xd0_0_0, xc0_0_0, xr0_0_1, xd0_0_3, xc0_0_3, rfl, rfl⟩
  refine wp_skip ?_
  (repeat first | refine FW.then_normal ?_ | refine FW.block_normal ?_); refine hK2 _ _ ?_
  refine FW.wseq ?_; intro K' hK5
  refine FW.wreg ?_; intro K' hK6
  refine FW.lfun (y := .row (r_ApiChange_cells v1)) hk rfl rfl rfl rfl (FW.f_move hk (FW.holds_nil _) rfl) ?_; clear hk; intro a w hk
  refine FW.lfun (y := .lit (.int .i64 (List.length v1 : Int))) hk rfl rfl rfl rfl (FW.f_len (R := r_ApiChange_cells) (f := ApiChange.cells) (l := v1) r_ApiChange_cells_eq Go.Proofs.Tryz.underlying22 hk (FW.holds_nil _) rfl) ?_; clear hk; intro a w hk
  refine FW.lfun (y := .lit (.bool (decide (3000 < (List.length v1 : Int))))) hk rfl rfl rfl rfl ((FW.f_pure (FW.p_gtr hk.kn (FW.holds_nil _) rfl rfl))) ?_; clear hk; intro a w hk
  refine FW.lend (hK6 _ _ ?_); clear hK6 K'
  refine FW.wcondF (b := (decide (3000 < (List.length v1 : Int)))) hk h rfl (fun h hb => ?_) (fun h hb => ?_)
  · skip
    refine FW.wreg ?_; intro K' hK7
    refine FW.lfun (y := .lit (.int .i64 3)) hk rfl rfl rfl rfl (FW.f_assign hk (FW.holds_nil _) rfl) ?_; clear hk; intro a w hk
    refine FW.lend (hK7 _ _ ?_); clear hK7 K'
    refine wp_ret ?_
    (repeat first | refine FW.then_ret ?_ | refine FW.block_ret ?_)
    obtain rfl := Option.some.inj h
    replace hk := FW.S.keep (I1 := [FW.blk b0 69 ([.lit (.pointer (some ⟨b0_0, 0, none⟩)), .lit (.pointer (some ⟨xb0_1, 0, none⟩)), .lit (.map (some xr0_2)), .lit (.int .i64 v0.half), .lit (.int .u64 v0.round), .lit (.bool v0.dead)]), FW.mapI (.int .u64) (Value.int .u64) FW.evS xr0_2 v0.m, FW.blk xb0_1 99 ([.lit (.pointer (some ⟨b0_0, 0, none⟩)), .lit (.int .i64 v0.l.from_), .lit (.int .i64 v0.l.to_), .lit (.int .i64 v0.l.at_), .lit (.int .u64 v0.l.next)]), FW.blk b0_0 75 ([.lit (.slice xd0_0_0 (List.length v0_0.sure) xc0_0_0), .lit (.map (some xr0_0_1)), .lit (.int .i64 v0_0.steps), .lit (.slice xd0_0_3 (List.length v0_0.falls) xc0_0_3), .lit (.bool v0_0.off)]), FW.orow xd0_0_0 xc0_0_0 9 1 c_str v0_0.sure, FW.mapI (.int .i64) (Value.int .i64) FW.evS xr0_0_1 v0_0.cache, FW.orow xd0_0_3 xc0_0_3 52 3 ApiFall.cells v0_0.falls]) (I2 := []) (js := [6, 6, 6, 6, 6, 6, 6]) hk rfl
    exact FW.fretH1 hk rfl (FW.rtmp hk rfl) ⟨xb0_1, xr0_2, xd0_0_0, xc0_0_0, xr0_0_1, xd0_0_3, xc0_0_3, rfl, rfl⟩
  refine wp_skip ?_
  (repeat first | refine FW.then_normal ?_ | refine FW.block_normal ?_); refine hK5 _ _ ?_
  refine FW.wseq ?_; intro K' hK8
  refine FW.wreg ?_; intro K' hK9
  refine FW.lfun (y := .row (r_ApiChange_cells v1)) hk rfl rfl rfl rfl (FW.f_move hk (FW.holds_nil _) rfl) ?_; clear hk; intro a w hk
  refine FW.lfun (y := .lit (.int .i64 (List.length v1 : Int))) hk rfl rfl rfl rfl (FW.f_len (R := r_ApiChange_cells) (f := ApiChange.cells) (l := v1) r_ApiChange_cells_eq Go.Proofs.Tryz.underlying22 hk (FW.holds_nil _) rfl) ?_; clear hk; intro a w hk
  refine FW.lfun (y := .lit (.int .i64 0)) hk rfl rfl rfl rfl (FW.f_move hk (FW.holds_nil _) rfl) ?_; clear hk; intro a w hk
  refine FW.lend (hK9 _ _ ?_); clear hK9 K'
  refine wp_block ?_
  refine FW.wloop (T := Nat × List ApiChange × List ApiChange × Int × Int) (fun x a w => match x with | (kl1, v1, v14, v15, v16) => FW.S M w0 a w 58 [FW.blk b0 69 ([.lit (.pointer (some ⟨b0_0, 0, none⟩)), .lit (.pointer (some ⟨xb0_1, 0, none⟩)), .lit (.map (some xr0_2)), .lit (.int .i64 v0.half), .lit (.int .u64 v0.round), .lit (.bool v0.dead)]), FW.mapI (.int .u64) (Value.int .u64) FW.evS xr0_2 v0.m, FW.blk xb0_1 99 ([.lit (.pointer (some ⟨b0_0, 0, none⟩)), .lit (.int .i64 v0.l.from_), .lit (.int .i64 v0.l.to_), .lit (.int .i64 v0.l.at_), .lit (.int .u64 v0.l.next)]), FW.blk b0_0 75 ([.lit (.slice xd0_0_0 (List.length v0_0.sure) xc0_0_0), .lit (.map (some xr0_0_1)), .lit (.int .i64 v0_0.steps), .lit (.slice xd0_0_3 (List.length v0_0.falls) xc0_0_3), .lit (.bool v0_0.off)]), FW.orow xd0_0_0 xc0_0_0 9 1 c_str v0_0.sure, FW.mapI (.int .i64) (Value.int .i64) FW.evS xr0_0_1 v0_0.cache, FW.orow xd0_0_3 xc0_0_3 52 3 ApiFall.cells v0_0.falls] [(0, [], .lit (.pointer (some ⟨b0, 0, none⟩))), (1, [], .row (r_ApiChange_cells v1)), (14, [], .row (r_ApiChange_cells v14)), (15, [], .lit (.int .i64 v15)), (16, [], .lit (.int .i64 v16))] ∧ rec_Store_Commit.l1 K v0 v0_0 kl1 v1 v14 v15 v16 = some r) (fun x => x.1) (K, v1, v1, (List.length v1 : Int), 0) ⟨hk.sub ⟨rfl, rfl, rfl, rfl, rfl, trivial⟩, h⟩ ?_
  clear hk h
  rintro ⟨kl1, v1, v14, v15, v16⟩ a w ⟨hk, h⟩ K' hK10
  cases kl1 with
  | zero => simp [rec_Store_Commit.l1] at h
  | succ kl1 =>
  rw [rec_Store_Commit.l1.eq_2] at h
  refine FW.wreg ?_; intro K' hK11
  refine FW.lfun (y := .lit (.bool (decide (v16 < v15)))) hk rfl rfl rfl rfl ((FW.f_pure (FW.p_lss hk.kn (FW.holds_nil _) rfl rfl))) ?_; clear hk; intro a w hk
  refine FW.lend (hK11 _ _ ?_); clear hK11 K'
  refine FW.wseq ?_; intro K' hK12
  refine FW.wcondF (b := (decide (v16 < v15))) hk h rfl (fun h hb => ?_) (fun h hb => ?_)
  · skip
    refine wp_skip ?_
    (repeat first | refine FW.then_normal ?_ | refine FW.block_normal ?_); refine hK12 _ _ ?_
    refine FW.wseq ?_; intro K' hK13
    refine wp_block ?_
    refine FW.wreg ?_; intro K' hK14
    obtain ⟨hc1, h⟩ := FW.chk h
    refine FW.lfun (y := .ref (ApiChange.cells (List.getD v14 (Int.toNat v16) default))) hk rfl rfl rfl rfl (FW.f_indexAddr (R := r_ApiChange_cells) (f := ApiChange.cells) (l := v14) (sz := 3) r_ApiChange_cells_eq (fun _ => rfl) hk (FW.holds_nil _) rfl rfl Go.Proofs.Tryz.underlying22 (by kernel_rfl) hc1) ?_; clear hk; intro a w hk
    refine FW.lfun (y := .agg ((ApiChange.cells (List.getD v14 (Int.toNat v16) default)))) hk rfl rfl rfl rfl (FW.f_load hk (FW.holds_nil _) rfl Go.Proofs.Tryz.underlying29 rfl rfl rfl rfl) ?_; clear hk; intro a w hk
    refine FW.l_alloc (zs := (ApiChange.cells (⟨0, [], false⟩ : ApiChange))) [] hk rfl rfl rfl rfl ?_; clear hk; intro bx1 a w hk
    refine FW.l_store (I' := [FW.blk bx1 29 ((ApiChange.cells (List.getD v14 (Int.toNat v16) default))), FW.blk b0 69 ([.lit (.pointer (some ⟨b0_0, 0, none⟩)), .lit (.pointer (some ⟨xb0_1, 0, none⟩)), .lit (.map (some xr0_2)), .lit (.int .i64 v0.half), .lit (.int .u64 v0.round), .lit (.bool v0.dead)]), FW.mapI (.int .u64) (Value.int .u64) FW.evS xr0_2 v0.m, FW.blk xb0_1 99 ([.lit (.pointer (some ⟨b0_0, 0, none⟩)), .lit (.int .i64 v0.l.from_), .lit (.int .i64 v0.l.to_), .lit (.int .i64 v0.l.at_), .lit (.int .u64 v0.l.next)]), FW.blk b0_0 75 ([.lit (.slice xd0_0_0 (List.length v0_0.sure) xc0_0_0), .lit (.map (some xr0_0_1)), .lit (.int .i64 v0_0.steps), .lit (.slice xd0_0_3 (List.length v0_0.falls) xc0_0_3), .lit (.bool v0_0.off)]), FW.orow xd0_0_0 xc0_0_0 9 1 c_str v0_0.sure, FW.mapI (.int .i64) (Value.int .i64) FW.evS xr0_0_1 v0_0.cache, FW.orow xd0_0_3 xc0_0_3 52 3 ApiFall.cells v0_0.falls]) (cs' := (ApiChange.cells (List.getD v14 (Int.toNat v16) default))) (j := 0) hk rfl rfl rfl rfl rfl (by kernel_rfl) rfl rfl ?_; clear hk; intro w hk
    refine FW.lend (hK14 _ _ ?_); clear hK14 K'
    refine FW.wseq ?_; intro K' hK15
    refine FW.wreg ?_; intro K' hK16
    refine FW.lfun (y := .lit (.pointer (some ⟨bx1, 2, none⟩))) hk rfl rfl rfl rfl (FW.f_fieldPtr hk (FW.holds_nil _) rfl Go.Proofs.Tryz.underlying29 rfl (by kernel_rfl) rfl) ?_; clear hk; intro a w hk
    refine FW.lfun (y := .lit (.bool ((List.getD v14 (Int.toNat v16) default).Gone))) hk rfl rfl rfl rfl (FW.f_loadBlk1 hk (FW.holds_nil _) (j := 0) rfl rfl Go.Proofs.Tryz.underlying4 rfl rfl) ?_; clear hk; intro a w hk
    refine FW.lfun (y := .lit (.bool ((List.getD v14 (Int.toNat v16) default).Gone))) hk rfl rfl rfl rfl (FW.f_move hk (FW.holds_nil _) rfl) ?_; clear hk; intro a w hk
    refine FW.lfunG (y := .lit (.pointer (some ⟨bx1, 1, none⟩))) hk rfl rfl rfl rfl rfl rfl rfl rfl (fun hc => FW.f_fieldPtr hk hc rfl Go.Proofs.Tryz.underlying29 rfl (by kernel_rfl) rfl) ?_; clear hk; intro a w hk
    refine FW.lfunG (y := .lit (.string (FW.B ((List.getD v14 (Int.toNat v16) default).S)))) hk rfl rfl rfl rfl rfl rfl rfl rfl (fun hc => FW.f_loadBlk1 hk hc (j := 0) rfl rfl Go.Proofs.Tryz.underlying9 rfl rfl) ?_; clear hk; intro a w hk
    refine FW.lfunG (y := .lit (.bool (!decide (((List.getD v14 (Int.toNat v16) default).S) = ([] : List UInt8))))) hk rfl rfl rfl rfl rfl rfl rfl rfl (fun hc => (FW.f_pure (FW.p_sneq hk.kn hc rfl rfl))) ?_; clear hk; intro a w hk
    refine FW.lfun (y := .lit (.bool (((List.getD v14 (Int.toNat v16) default).Gone) && (!decide (((List.getD v14 (Int.toNat v16) default).S) = ([] : List UInt8)))))) hk rfl rfl rfl rfl ((FW.f_pure (FW.p_pick_and hk.kn (FW.holds_nil _) rfl rfl))) ?_; clear hk; intro a w hk
    refine FW.lend (hK16 _ _ ?_); clear hK16 K'
    refine FW.wcondF (b := (((List.getD v14 (Int.toNat v16) default).Gone) && (!decide (((List.getD v14 (Int.toNat v16) default).S) = ([] : List UInt8))))) hk h rfl (fun h hb => ?_) (fun h hb => ?_)
    · skip
      refine FW.wreg ?_; intro K' hK17
      refine FW.lfun (y := .lit (.int .i64 1)) hk rfl rfl rfl rfl (FW.f_assign hk (FW.holds_nil _) rfl) ?_; clear hk; intro a w hk
      refine FW.lend (hK17 _ _ ?_); clear hK17 K'
      refine wp_ret ?_
      (repeat first | refine FW.then_ret ?_ | refine FW.block_ret ?_)
      obtain rfl := Option.some.inj h
      replace hk := FW.S.keep (I1 := [FW.blk b0 69 ([.lit (.pointer (some ⟨b0_0, 0, none⟩)), .lit (.pointer (some ⟨xb0_1, 0, none⟩)), .lit (.map (some xr0_2)), .lit (.int .i64 v0.half), .lit (.int .u64 v0.round), .lit (.bool v0.dead)]), FW.mapI (.int .u64) (Value.int .u64) FW.evS xr0_2 v0.m, FW.blk xb0_1 99 ([.lit (.pointer (some ⟨b0_0, 0, none⟩)), .lit (.int .i64 v0.l.from_), .lit (.int .i64 v0.l.to_), .lit (.int .i64 v0.l.at_), .lit (.int .u64 v0.l.next)]), FW.blk b0_0 75 ([.lit (.slice xd0_0_0 (List.length v0_0.sure) xc0_0_0), .lit (.map (some xr0_0_1)), .lit (.int .i64 v0_0.steps), .lit (.slice xd0_0_3 (List.length v0_0.falls) xc0_0_3), .lit (.bool v0_0.off)]), FW.orow xd0_0_0 xc0_0_0 9 1 c_str v0_0.sure, FW.mapI (.int .i64) (Value.int .i64) FW.evS xr0_0_1 v0_0.cache, FW.orow xd0_0_3 xc0_0_3 52 3 ApiFall.cells v0_0.falls]) (I2 := [FW.blk bx1 29 ((ApiChange.cells (List.getD v14 (Int.toNat v16) default)))]) (js := [7, 7, 7, 7, 7, 7, 7]) hk rfl
      exact FW.fretH1 hk rfl (FW.rtmp hk rfl) ⟨xb0_1, xr0_2, xd0_0_0, xc0_0_0, xr0_0_1, xd0_0_3, xc0_0_3, rfl, rfl⟩
    refine wp_skip ?_
    (repeat first | refine FW.then_normal ?_ | refine FW.block_normal ?_); refine hK15 _ _ ?_
    refine FW.wreg ?_; intro K' hK18
    refine FW.lfun (y := .lit (.pointer (some ⟨bx1, 1, none⟩))) hk rfl rfl rfl rfl (FW.f_fieldPtr hk (FW.holds_nil _) rfl Go.Proofs.Tryz.underlying29 rfl (by kernel_rfl) rfl) ?_; clear hk; intro a w hk
    refine FW.lfun (y := .lit (.string (FW.B ((List.getD v14 (Int.toNat v16) default).S)))) hk rfl rfl rfl rfl (FW.f_loadBlk1 hk (FW.holds_nil _) (j := 0) rfl rfl Go.Proofs.Tryz.underlying9 rfl rfl) ?_; clear hk; intro a w hk
    refine FW.lfun (y := .lit (.int .i64 (List.length ((List.getD v14 (Int.toNat v16) default).S) : Int))) hk rfl rfl rfl rfl ((FW.f_pure (FW.p_slen Go.Proofs.Tryz.underlying9 hk.kn (FW.holds_nil _) rfl))) ?_; clear hk; intro a w hk
    refine FW.lfun (y := .lit (.bool (decide (498 < (List.length ((List.getD v14 (Int.toNat v16) default).S) : Int))))) hk rfl rfl rfl rfl ((FW.f_pure (FW.p_gtr hk.kn (FW.holds_nil _) rfl rfl))) ?_; clear hk; intro a w hk
    refine FW.lend (hK18 _ _ ?_); clear hK18 K'
    refine FW.wcondF (b := (decide (498 < (List.length ((List.getD v14 (Int.toNat v16) default).S) : Int)))) hk h rfl (fun h hb => ?_) (fun h hb => ?_)
    · skip
      refine FW.wreg ?_; intro K' hK19
      refine FW.lfun (y := .lit (.int .i64 3)) hk rfl rfl rfl rfl (FW.f_assign hk (FW.holds_nil _) rfl) ?_; clear hk; intro a w hk
      refine FW.lend (hK19 _ _ ?_); clear hK19 K'
      refine wp_ret ?_
      (repeat first | refine FW.then_ret ?_ | refine FW.block_ret ?_)
      obtain rfl := Option.some.inj h
      replace hk := FW.S.keep (I1 := [FW.blk b0 69 ([.lit (.pointer (some ⟨b0_0, 0, none⟩)), .lit (.pointer (some ⟨xb0_1, 0, none⟩)), .lit (.map (some xr0_2)), .lit (.int .i64 v0.half), .lit (.int .u64 v0.round), .lit (.bool v0.dead)]), FW.mapI (.int .u64) (Value.int .u64) FW.evS xr0_2 v0.m, FW.blk xb0_1 99 ([.lit (.pointer (some ⟨b0_0, 0, none⟩)), .lit (.int .i64 v0.l.from_), .lit (.int .i64 v0.l.to_), .lit (.int .i64 v0.l.at_), .lit (.int .u64 v0.l.next)]), FW.blk b0_0 75 ([.lit (.slice xd0_0_0 (List.length v0_0.sure) xc0_0_0), .lit (.map (some xr0_0_1)), .lit (.int .i64 v0_0.steps), .lit (.slice xd0_0_3 (List.length v0_0.falls) xc0_0_3), .lit (.bool v0_0.off)]), FW.orow xd0_0_0 xc0_0_0 9 1 c_str v0_0.sure, FW.mapI (.int .i64) (Value.int .i64) FW.evS xr0_0_1 v0_0.cache, FW.orow xd0_0_3 xc0_0_3 52 3 ApiFall.cells v0_0.falls]) (I2 := [FW.blk bx1 29 ((ApiChange.cells (List.getD v14 (Int.toNat v16) default)))]) (js := [7, 7, 7, 7, 7, 7, 7]) hk rfl
      exact FW.fretH1 hk rfl (FW.rtmp hk rfl) ⟨xb0_1, xr0_2, xd0_0_0, xc0_0_0, xr0_0_1, xd0_0_3, xc0_0_3, rfl, rfl⟩
    refine wp_skip ?_
    (repeat first | refine FW.then_normal ?_ | refine FW.block_normal ?_); refine hK13 _ _ ?_
    refine FW.wreg1 ?_
    refine FW.lfun (y := .lit (.int .i64 (IntKind.wrap .i64 (v16 + 1)))) hk rfl rfl rfl rfl ((FW.f_pure (FW.p_add hk.kn (FW.holds_nil _) rfl rfl))) ?_; clear hk; intro a w hk
    refine FW.lfun (y := .lit (.int .i64 (IntKind.wrap .i64 (v16 + 1)))) hk rfl rfl rfl rfl (FW.f_move hk (FW.holds_nil _) rfl) ?_; clear hk; intro a w hk
    refine wpList_nil ?_
    (repeat first | refine FW.then_normal ?_ | refine FW.block_normal ?_); exact hK10 (kl1, v1, v14, v15, (IntKind.wrap .i64 (v16 + 1))) _ _ (Nat.lt_succ_self _) ⟨(hk.drop 0).sub ⟨rfl, rfl, rfl, rfl, rfl, trivial⟩, h⟩
  refine wp_exit ?_; (repeat first | refine FW.then_exit ?_ | refine FW.block_exit_ne rfl ?_); refine FW.block_exit ?_
  (repeat first | refine FW.then_normal ?_ | refine FW.block_normal ?_); refine hK8 _ _ ?_
  refine FW.wreg ?_; intro K' hK21
  refine FW.lfun (y := .row (r_ApiChange_cells v1)) hk rfl rfl rfl rfl (FW.f_move hk (FW.holds_nil _) rfl) ?_; clear hk; intro a w hk
  obtain ⟨t2, hr_t2, h⟩ := FW.bnd h
  refine FW.lfun (y := .lit (.string (FW.B t2))) hk rfl rfl rfl rfl (FW.f_call hk (FW.holds_nil _) rfl rfl Go.Proofs.Tryz.func30 rfl (by kernel_rfl) (rec_Batch.ok K v1 _ hr_t2)) ?_; clear hk; intro a w hk
  refine FW.lfun (y := .lit (.string (FW.B t2))) hk rfl rfl rfl rfl (FW.f_assign hk (FW.holds_nil _) rfl) ?_; clear hk; intro a w hk
  refine FW.lend (hK21 _ _ ?_); clear hK21 K'
  refine FW.wreg ?_; intro K' hK22
  refine FW.lfun (y := .lit (.pointer (some ⟨b0, 0, none⟩))) hk rfl rfl rfl rfl (FW.f_move hk (FW.holds_nil _) rfl) ?_; clear hk; intro a w hk
  refine FW.lfun (y := .lit (.pointer (some ⟨b0, 0, none⟩))) hk rfl rfl rfl rfl ((FW.f_pure (FW.p_nilCheck hk.kn (FW.holds_nil _) rfl))) ?_; clear hk; intro a w hk
  refine FW.lfun (y := .lit (.pointer (some ⟨b0, 1, none⟩))) hk rfl rfl rfl rfl (FW.f_fieldPtr hk (FW.holds_nil _) rfl Go.Proofs.Tryz.underlying69 rfl (by kernel_rfl) rfl) ?_; clear hk; intro a w hk
  refine FW.lfun (y := .lit (.pointer (some ⟨xb0_1, 0, none⟩))) hk rfl rfl rfl rfl (FW.f_loadBlk1 hk (FW.holds_nil _) (j := 0) rfl rfl Go.Proofs.Tryz.underlying66 rfl rfl) ?_; clear hk; intro a w hk
  refine FW.lfun (y := .lit (.string (FW.B t2))) hk rfl rfl rfl rfl (FW.f_move hk (FW.holds_nil _) rfl) ?_; clear hk; intro a w hk
  obtain ⟨t3, hr_t3, h⟩ := FW.bnd h
  refine FW.l_callH (I1 := (OLogLog.items xb0_1 b0_0 v0.l) ++ (ODevDev.items b0_0 xd0_0_0 xc0_0_0 xr0_0_1 xd0_0_3 xc0_0_3 v0_0)) (I2 := [FW.blk b0 69 ([.lit (.pointer (some ⟨b0_0, 0, none⟩)), .lit (.pointer (some ⟨xb0_1, 0, none⟩)), .lit (.map (some xr0_2)), .lit (.int .i64 v0.half), .lit (.int .u64 v0.round), .lit (.bool v0.dead)]), FW.mapI (.int .u64) (Value.int .u64) FW.evS xr0_2 v0.m]) (js := [6, 6, 6, 6, 6]) hk rfl rfl rfl rfl rfl Go.Proofs.Tryz.func31 rfl (by kernel_rfl) (log_Log_Add.ok K v0.l v0_0 t2 _ hr_t3 xb0_1 b0_0 xd0_0_0 xc0_0_0 xr0_0_1 xd0_0_3 xc0_0_3) ?_; clear hk
  rintro _ _ ⟨zd1, zc1, zr1, zd2, zc2, rfl, rfl⟩ a w hk
  refine FW.lfun (y := .lit (.int .i64 t3.1)) hk rfl rfl rfl rfl (FW.f_assign hk (FW.holds_nil _) rfl) ?_; clear hk; intro a w hk
  refine FW.lend (hK22 _ _ ?_); clear hK22 K'
  refine FW.wseqJ (fun a w => ∃ (y1_3 : Int) (y1_4 : Int) (y1_5 : Bool) (m7 : List (Int × (List UInt8))) (y6_1 : Int) (y6_2 : Int) (y6_3 : Int) (y6_4 : Int) (y2_2 : Int) (y2_4 : Bool) (l3 : List (List UInt8)) (m4 : List (Int × (List UInt8))) (l5 : List ApiFall) (v1 : List ApiChange) (v8 : Int) (xr7 : Nat) (xn6 : Nat) (xd3 : Option Addr) (xc3 : Nat) (xr4 : Nat) (xd5 : Option Addr) (xc5 : Nat), FW.S M w0 a w 58 [FW.blk b0 69 ([.lit (.pointer (some ⟨b0_0, 0, none⟩)), .lit (.pointer (some ⟨xn6, 0, none⟩)), .lit (.map (some xr7)), .lit (.int .i64 y1_3), .lit (.int .u64 y1_4), .lit (.bool y1_5)]), FW.mapI (.int .u64) (Value.int .u64) FW.evS xr7 m7, FW.blk xn6 99 ([.lit (.pointer (some ⟨b0_0, 0, none⟩)), .lit (.int .i64 y6_1), .lit (.int .i64 y6_2), .lit (.int .i64 y6_3), .lit (.int .u64 y6_4)]), FW.blk b0_0 75 ([.lit (.slice xd3 (List.length l3) xc3), .lit (.map (some xr4)), .lit (.int .i64 y2_2), .lit (.slice xd5 (List.length l5) xc5), .lit (.bool y2_4)]), FW.orow xd3 xc3 9 1 c_str l3, FW.mapI (.int .i64) (Value.int .i64) FW.evS xr4 m4, FW.orow xd5 xc5 52 3 ApiFall.cells l5] [(0, [], .lit (.pointer (some ⟨b0, 0, none⟩))), (1, [], .row (r_ApiChange_cells v1)), (8, [], .lit (.int .i64 v8))] ∧ rec_Store_Commit.j1 (rec_Store_Commit.l1 K v0 v0_0 kl1) K y1_3 y1_4 y1_5 m7 y6_1 y6_2 y6_3 y6_4 y2_2 y2_4 l3 m4 l5 v1 v8 = some r) ?_ ?_
  · clear hk h
    rintro a w ⟨y1_3, y1_4, y1_5, m7, y6_1, y6_2, y6_3, y6_4, y2_2, y2_4, l3, m4, l5, v1, v8, xr7, xn6, xd3, xc3, xr4, xd5, xc5, hk, h⟩
    unfold rec_Store_Commit.j1 at h
    refine FW.wseqJ (fun a w => ∃ (y1_3 : Int) (y1_4 : Int) (y1_5 : Bool) (m7 : List (Int × (List UInt8))) (y6_1 : Int) (y6_2 : Int) (y6_3 : Int) (y6_4 : Int) (y2_2 : Int) (y2_4 : Bool) (l3 : List (List UInt8)) (m4 : List (Int × (List UInt8))) (l5 : List ApiFall) (v8 : Int) (xr7 : Nat) (xn6 : Nat) (xd3 : Option Addr) (xc3 : Nat) (xr4 : Nat) (xd5 : Option Addr) (xc5 : Nat), FW.S M w0 a w 58 [FW.blk b0 69 ([.lit (.pointer (some ⟨b0_0, 0, none⟩)), .lit (.pointer (some ⟨xn6, 0, none⟩)), .lit (.map (some xr7)), .lit (.int .i64 y1_3), .lit (.int .u64 y1_4), .lit (.bool y1_5)]), FW.mapI (.int .u64) (Value.int .u64) FW.evS xr7 m7, FW.blk xn6 99 ([.lit (.pointer (some ⟨b0_0, 0, none⟩)), .lit (.int .i64 y6_1), .lit (.int .i64 y6_2), .lit (.int .i64 y6_3), .lit (.int .u64 y6_4)]), FW.blk b0_0 75 ([.lit (.slice xd3 (List.length l3) xc3), .lit (.map (some xr4)), .lit (.int .i64 y2_2), .lit (.slice xd5 (List.length l5) xc5), .lit (.bool y2_4)]), FW.orow xd3 xc3 9 1 c_str l3, FW.mapI (.int .i64) (Value.int .i64) FW.evS xr4 m4, FW.orow xd5 xc5 52 3 ApiFall.cells l5] [(0, [], .lit (.pointer (some ⟨b0, 0, none⟩))), (8, [], .lit (.int .i64 v8))] ∧ rec_Store_Commit.j2 (rec_Store_Commit.l1 K v0 v0_0 kl1) K y1_3 y1_4 y1_5 m7 y6_1 y6_2 y6_3 y6_4 y2_2 y2_4 l3 m4 l5 v8 = some r) ?_ ?_
    · clear hk h
      rintro a w ⟨y1_3, y1_4, y1_5, m7, y6_1, y6_2, y6_3, y6_4, y2_2, y2_4, l3, m4, l5, v8, xr7, xn6, xd3, xc3, xr4, xd5, xc5, hk, h⟩
      unfold rec_Store_Commit.j2 at h
      refine FW.wseqJ (fun a w => ∃ (y1_3 : Int) (y1_4 : Int) (y1_5 : Bool) (v8 : Int), FW.S M w0 a w 58 [FW.blk b0 69 ([.lit (.pointer (some ⟨b0_0, 0, none⟩)), .lit (.pointer (some ⟨xn6, 0, none⟩)), .lit (.map (some xr7)), .lit (.int .i64 y1_3), .lit (.int .u64 y1_4), .lit (.bool y1_5)]), FW.mapI (.int .u64) (Value.int .u64) FW.evS xr7 m7, FW.blk xn6 99 ([.lit (.pointer (some ⟨b0_0, 0, none⟩)), .lit (.int .i64 y6_1), .lit (.int .i64 y6_2), .lit (.int .i64 y6_3), .lit (.int .u64 y6_4)]), FW.blk b0_0 75 ([.lit (.slice xd3 (List.length l3) xc3), .lit (.map (some xr4)), .lit (.int .i64 y2_2), .lit (.slice xd5 (List.length l5) xc5), .lit (.bool y2_4)]), FW.orow xd3 xc3 9 1 c_str l3, FW.mapI (.int .i64) (Value.int .i64) FW.evS xr4 m4, FW.orow xd5 xc5 52 3 ApiFall.cells l5] [(8, [], .lit (.int .i64 v8))] ∧ rec_Store_Commit.j3 (rec_Store_Commit.l1 K v0 v0_0 kl1) K l3 l5 m4 m7 y2_2 y2_4 y6_1 y6_2 y6_3 y6_4 y1_3 y1_4 y1_5 v8 = some r) ?_ ?_
      · clear hk h
        rintro a w ⟨y1_3, y1_4, y1_5, v8, hk, h⟩
        unfold rec_Store_Commit.j3 at h
        refine FW.wreg ?_; intro K' hK26
        refine FW.lfun (y := .lit (.int .i64 v8)) hk rfl rfl rfl rfl (FW.f_move hk (FW.holds_nil _) rfl) ?_; clear hk; intro a w hk
        refine FW.lfun (y := .lit (.int .i64 v8)) hk rfl rfl rfl rfl (FW.f_assign hk (FW.holds_nil _) rfl) ?_; clear hk; intro a w hk
        refine FW.lend (hK26 _ _ ?_); clear hK26 K'
        refine wp_ret ?_
        (repeat first | refine FW.then_ret ?_ | refine FW.block_ret ?_)
        obtain rfl := Option.some.inj h
        replace hk := FW.S.keep (I1 := [FW.blk b0 69 ([.lit (.pointer (some ⟨b0_0, 0, none⟩)), .lit (.pointer (some ⟨xn6, 0, none⟩)), .lit (.map (some xr7)), .lit (.int .i64 y1_3), .lit (.int .u64 y1_4), .lit (.bool y1_5)]), FW.mapI (.int .u64) (Value.int .u64) FW.evS xr7 m7, FW.blk xn6 99 ([.lit (.pointer (some ⟨b0_0, 0, none⟩)), .lit (.int .i64 y6_1), .lit (.int .i64 y6_2), .lit (.int .i64 y6_3), .lit (.int .u64 y6_4)]), FW.blk b0_0 75 ([.lit (.slice xd3 (List.length l3) xc3), .lit (.map (some xr4)), .lit (.int .i64 y2_2), .lit (.slice xd5 (List.length l5) xc5), .lit (.bool y2_4)]), FW.orow xd3 xc3 9 1 c_str l3, FW.mapI (.int .i64) (Value.int .i64) FW.evS xr4 m4, FW.orow xd5 xc5 52 3 ApiFall.cells l5]) (I2 := []) (js := [6, 6, 6, 6, 6, 6, 6]) hk rfl
        exact FW.fretH1 hk rfl (FW.rtmp hk rfl) ⟨xn6, xr7, xd3, xc3, xr4, xd5, xc5, rfl, rfl⟩
      · intro K' hK25
        refine FW.wreg ?_; intro K' hK27
        refine FW.lfun (y := .lit (.int .i64 v8)) hk rfl rfl rfl rfl (FW.f_move hk (FW.holds_nil _) rfl) ?_; clear hk; intro a w hk
        refine FW.lfun (y := .lit (.bool (decide (v8 = 7)))) hk rfl rfl rfl rfl ((FW.f_pure (FW.p_eql hk.kn (FW.holds_nil _) rfl rfl))) ?_; clear hk; intro a w hk
        refine FW.lend (hK27 _ _ ?_); clear hK27 K'
        refine FW.wcondF (b := (decide (v8 = 7))) hk h rfl (fun h hb => ?_) (fun h hb => ?_)
        · skip
          refine FW.wreg1 ?_
          refine FW.lfun (y := .lit (.pointer (some ⟨b0, 0, none⟩))) hk rfl rfl rfl rfl (FW.f_move hk (FW.holds_nil _) rfl) ?_; clear hk; intro a w hk
          refine FW.lfun (y := .lit (.pointer (some ⟨b0, 0, none⟩))) hk rfl rfl rfl rfl ((FW.f_pure (FW.p_nilCheck hk.kn (FW.holds_nil _) rfl))) ?_; clear hk; intro a w hk
          refine FW.lfun (y := .lit (.pointer (some ⟨b0, 5, none⟩))) hk rfl rfl rfl rfl (FW.f_fieldPtr hk (FW.holds_nil _) rfl Go.Proofs.Tryz.underlying69 rfl (by kernel_rfl) rfl) ?_; clear hk; intro a w hk
          refine FW.l_store (I' := [FW.blk b0 69 ([.lit (.pointer (some ⟨b0_0, 0, none⟩)), .lit (.pointer (some ⟨xn6, 0, none⟩)), .lit (.map (some xr7)), .lit (.int .i64 y1_3), .lit (.int .u64 y1_4), .lit (.bool true)]), FW.mapI (.int .u64) (Value.int .u64) FW.evS xr7 m7, FW.blk xn6 99 ([.lit (.pointer (some ⟨b0_0, 0, none⟩)), .lit (.int .i64 y6_1), .lit (.int .i64 y6_2), .lit (.int .i64 y6_3), .lit (.int .u64 y6_4)]), FW.blk b0_0 75 ([.lit (.slice xd3 (List.length l3) xc3), .lit (.map (some xr4)), .lit (.int .i64 y2_2), .lit (.slice xd5 (List.length l5) xc5), .lit (.bool y2_4)]), FW.orow xd3 xc3 9 1 c_str l3, FW.mapI (.int .i64) (Value.int .i64) FW.evS xr4 m4, FW.orow xd5 xc5 52 3 ApiFall.cells l5]) (cs' := [.lit (.pointer (some ⟨b0_0, 0, none⟩)), .lit (.pointer (some ⟨xn6, 0, none⟩)), .lit (.map (some xr7)), .lit (.int .i64 y1_3), .lit (.int .u64 y1_4), .lit (.bool true)]) (j := 0) hk rfl rfl rfl rfl rfl (by kernel_rfl) rfl rfl ?_; clear hk; intro w hk
          refine wpList_nil ?_
          (repeat first | refine FW.then_normal ?_ | refine FW.block_normal ?_); exact hK25 _ _ ⟨y1_3, y1_4, true, v8, hk.sub ⟨rfl, trivial⟩, h⟩
        refine wp_skip ?_
        (repeat first | refine FW.then_normal ?_ | refine FW.block_normal ?_); exact hK25 _ _ ⟨y1_3, y1_4, y1_5, v8, hk.sub ⟨rfl, trivial⟩, h⟩
    · intro K' hK24
      refine FW.wreg ?_; intro K' hK29
      refine FW.lfun (y := .lit (.int .i64 v8)) hk rfl rfl rfl rfl (FW.f_move hk (FW.holds_nil _) rfl) ?_; clear hk; intro a w hk
      refine FW.lfun (y := .lit (.bool (decide (v8 = 0)))) hk rfl rfl rfl rfl ((FW.f_pure (FW.p_eql hk.kn (FW.holds_nil _) rfl rfl))) ?_; clear hk; intro a w hk
      refine FW.lend (hK29 _ _ ?_); clear hK29 K'
      refine FW.wcondF (b := (decide (v8 = 0))) hk h rfl (fun h hb => ?_) (fun h hb => ?_)
      · skip
        refine FW.wreg1 ?_
        refine FW.lfun (y := .lit (.pointer (some ⟨b0, 0, none⟩))) hk rfl rfl rfl rfl (FW.f_move hk (FW.holds_nil _) rfl) ?_; clear hk; intro a w hk
        refine FW.lfun (y := .row (r_ApiChange_cells v1)) hk rfl rfl rfl rfl (FW.f_move hk (FW.holds_nil _) rfl) ?_; clear hk; intro a w hk
        obtain ⟨t4, hr_t4, h⟩ := FW.bnd h
        refine FW.l_callH (I1 := (ORecStore.items b0 b0_0 xn6 xr7 (⟨(⟨y6_1, y6_2, y6_3, y6_4⟩ : OLogLog), m7, y1_3, y1_4, y1_5⟩ : ORecStore)) ++ (ODevDev.items b0_0 xd3 xc3 xr4 xd5 xc5 (⟨l3, m4, y2_2, l5, y2_4⟩ : ODevDev))) (I2 := []) (js := [6, 6, 6, 6, 6, 6, 6]) hk rfl rfl rfl rfl rfl Go.Proofs.Tryz.func33 rfl (by kernel_rfl) (rec_Store_do.ok K (⟨(⟨y6_1, y6_2, y6_3, y6_4⟩ : OLogLog), m7, y1_3, y1_4, y1_5⟩ : ORecStore) (⟨l3, m4, y2_2, l5, y2_4⟩ : ODevDev) v1 _ hr_t4 b0 b0_0 xn6 xr7 xd3 xc3 xr4 xd5 xc5) ?_; clear hk
        rintro _ _ ⟨zb1, zr2, zd3, zc3, zr3, zd4, zc4, rfl, rfl⟩ a w hk
        refine wpList_nil ?_
        (repeat first | refine FW.then_normal ?_ | refine FW.block_normal ?_); exact hK24 _ _ ⟨t4.1.half, t4.1.round, t4.1.dead, t4.1.m, t4.1.l.from_, t4.1.l.to_, t4.1.l.at_, t4.1.l.next, t4.2.steps, t4.2.off, t4.2.sure, t4.2.cache, t4.2.falls, v8, zr2, zb1, zd3, zc3, zr3, zd4, zc4, hk.sub ⟨rfl, rfl, trivial⟩, h⟩
      refine wp_skip ?_
      (repeat first | refine FW.then_normal ?_ | refine FW.block_normal ?_); exact hK24 _ _ ⟨y1_3, y1_4, y1_5, m7, y6_1, y6_2, y6_3, y6_4, y2_2, y2_4, l3, m4, l5, v8, xr7, xn6, xd3, xc3, xr4, xd5, xc5, hk.sub ⟨rfl, rfl, trivial⟩, h⟩
  · intro K' hK23
    refine FW.wreg ?_; intro K' hK31
    refine FW.lfun (y := .lit (.int .i64 t3.1)) hk rfl rfl rfl rfl (FW.f_move hk (FW.holds_nil _) rfl) ?_; clear hk; intro a w hk
    refine FW.lfun (y := .lit (.bool (decide (t3.1 = 40)))) hk rfl rfl rfl rfl ((FW.f_pure (FW.p_eql hk.kn (FW.holds_nil _) rfl rfl))) ?_; clear hk; intro a w hk
    refine FW.lend (hK31 _ _ ?_); clear hK31 K'
    refine FW.wcondF (b := (decide (t3.1 = 40))) hk h rfl (fun h hb => ?_) (fun h hb => ?_)
    · skip
      refine FW.wreg ?_; intro K' hK32
      refine FW.lfun (y := .lit (.pointer (some ⟨b0, 0, none⟩))) hk rfl rfl rfl rfl (FW.f_move hk (FW.holds_nil _) rfl) ?_; clear hk; intro a w hk
      refine FW.lfun (y := .row (r_ApiChange_cells v1)) hk rfl rfl rfl rfl (FW.f_move hk (FW.holds_nil _) rfl) ?_; clear hk; intro a w hk
      obtain ⟨t5, hr_t5, h⟩ := FW.bnd h
      refine FW.l_callH (I1 := (ORecStore.items b0 b0_0 xb0_1 xr0_2 (⟨t3.2.1, v0.m, v0.half, v0.round, v0.dead⟩ : ORecStore)) ++ (ODevDev.items b0_0 zd1 zc1 zr1 zd2 zc2 t3.2.2)) (I2 := []) (js := [4, 4, 4, 4, 4, 6, 6]) hk rfl rfl rfl rfl rfl Go.Proofs.Tryz.func32 rfl (by kernel_rfl) (rec_Store_fold.ok K (⟨t3.2.1, v0.m, v0.half, v0.round, v0.dead⟩ : ORecStore) t3.2.2 v1 _ hr_t5 b0 b0_0 xb0_1 xr0_2 zd1 zc1 zr1 zd2 zc2) ?_; clear hk
      rintro _ _ ⟨zb2, zr4, zd5, zc5, zr5, zd6, zc6, rfl, rfl⟩ a w hk
      refine FW.lfun (y := .lit (.int .i64 t5.1)) hk rfl rfl rfl rfl (FW.f_assign hk (FW.holds_nil _) rfl) ?_; clear hk; intro a w hk
      refine FW.lend (hK32 _ _ ?_); clear hK32 K'
      refine FW.wreg ?_; intro K' hK33
      refine FW.lfun (y := .lit (.int .i64 t5.1)) hk rfl rfl rfl rfl (FW.f_move hk (FW.holds_nil _) rfl) ?_; clear hk; intro a w hk
      refine FW.lfun (y := .lit (.bool (decide (t5.1 = 0)))) hk rfl rfl rfl rfl ((FW.f_pure (FW.p_eql hk.kn (FW.holds_nil _) rfl rfl))) ?_; clear hk; intro a w hk
      refine FW.lend (hK33 _ _ ?_); clear hK33 K'
      refine FW.wcondF (b := (decide (t5.1 = 0))) hk h rfl (fun h hb => ?_) (fun h hb => ?_)
      · skip
        refine FW.wreg ?_; intro K' hK34
        refine FW.lfun (y := .lit (.int .i64 0)) hk rfl rfl rfl rfl (FW.f_assign hk (FW.holds_nil _) rfl) ?_; clear hk; intro a w hk
        refine FW.lend (hK34 _ _ ?_); clear hK34 K'
        refine wp_ret ?_
        (repeat first | refine FW.then_ret ?_ | refine FW.block_ret ?_)
        obtain rfl := Option.some.inj h
        replace hk := FW.S.keep (I1 := [FW.blk b0 69 ([.lit (.pointer (some ⟨b0_0, 0, none⟩)), .lit (.pointer (some ⟨zb2, 0, none⟩)), .lit (.map (some zr4)), .lit (.int .i64 t5.2.1.half), .lit (.int .u64 t5.2.1.round), .lit (.bool t5.2.1.dead)]), FW.mapI (.int .u64) (Value.int .u64) FW.evS zr4 t5.2.1.m, FW.blk zb2 99 ([.lit (.pointer (some ⟨b0_0, 0, none⟩)), .lit (.int .i64 t5.2.1.l.from_), .lit (.int .i64 t5.2.1.l.to_), .lit (.int .i64 t5.2.1.l.at_), .lit (.int .u64 t5.2.1.l.next)]), FW.blk b0_0 75 ([.lit (.slice zd5 (List.length t5.2.2.sure) zc5), .lit (.map (some zr5)), .lit (.int .i64 t5.2.2.steps), .lit (.slice zd6 (List.length t5.2.2.falls) zc6), .lit (.bool t5.2.2.off)]), FW.orow zd5 zc5 9 1 c_str t5.2.2.sure, FW.mapI (.int .i64) (Value.int .i64) FW.evS zr5 t5.2.2.cache, FW.orow zd6 zc6 52 3 ApiFall.cells t5.2.2.falls]) (I2 := []) (js := [6, 6, 6, 6, 6, 6, 6]) hk rfl
        exact FW.fretH1 hk rfl (FW.rtmp hk rfl) ⟨zb2, zr4, zd5, zc5, zr5, zd6, zc6, rfl, rfl⟩
      refine wp_skip ?_
      (repeat first | refine FW.then_normal ?_ | refine FW.block_normal ?_); exact hK23 _ _ ⟨t5.2.1.half, t5.2.1.round, t5.2.1.dead, t5.2.1.m, t5.2.1.l.from_, t5.2.1.l.to_, t5.2.1.l.at_, t5.2.1.l.next, t5.2.2.steps, t5.2.2.off, t5.2.2.sure, t5.2.2.cache, t5.2.2.falls, v1, t5.1, zr4, zb2, zd5, zc5, zr5, zd6, zc6, hk.sub ⟨rfl, rfl, rfl, trivial⟩, h⟩
    refine wp_skip ?_
    (repeat first | refine FW.then_normal ?_ | refine FW.block_normal ?_); exact hK23 _ _ ⟨v0.half, v0.round, v0.dead, v0.m, t3.2.1.from_, t3.2.1.to_, t3.2.1.at_, t3.2.1.next, t3.2.2.steps, t3.2.2.off, t3.2.2.sure, t3.2.2.cache, t3.2.2.falls, v1, t3.1, xr0_2, xb0_1, zd1, zc1, zr1, zd2, zc2, (FW.S.pick hk (js := [4, 4, 4, 4, 4, 6, 6]) rfl).sub ⟨rfl, rfl, rfl, trivial⟩, h⟩
end Go.Proofs.YtfbkgaandmebaaaGreat
namespace Go.Proofs.YtfbkgaandmebaaaGreat
set_option linter.unusedVariables false
set_option maxRecDepth 20000
set_option maxHeartbeats 10000000
theorem rec_Store_Get.ok  (v0 : ORecStore) (v0_0 : ODevDev) (v1 : Int) (r : List UInt8 × Bool) (h : rec_Store_Get.f v0 v0_0 v1 = some r) :
    ∀ (b0 : Nat) (b0_0 : Nat) (xb0_1 : Nat) (xr0_2 : Nat) (xd0_0_0 : Option Addr) (xc0_0_0 : Nat) (xr0_0_1 : Nat) (xd0_0_3 : Option Addr) (xc0_0_3 : Nat), FW.OkH Go.Proofs.Tryz.prog 11 [.lit (.pointer (some ⟨b0, 0, none⟩)), .lit (.int .u64 v1)] ((ORecStore.items b0 b0_0 xb0_1 xr0_2 v0) ++ (ODevDev.items b0_0 xd0_0_0 xc0_0_0 xr0_0_1 xd0_0_3 xc0_0_3 v0_0)) (fun y I => y = .tup [.lit (.string (FW.B r.1)), .lit (.bool r.2)] ∧ I = (ORecStore.items b0 b0_0 xb0_1 xr0_2 v0) ++ (ODevDev.items b0_0 xd0_0_0 xc0_0_0 xr0_0_1 xd0_0_3 xc0_0_3 v0_0)) := by
  intro b0 b0_0 xb0_1 xr0_2 xd0_0_0 xc0_0_0 xr0_0_1 xd0_0_3 xc0_0_3
  refine FW.enterH (xs := [.lit (.pointer (some ⟨b0, 0, none⟩)), .lit (.int .u64 v1)]) Go.Proofs.Tryz.func11 rfl Go.Proofs.Tryz.ntmps11 rfl ?_
  intro M w0 a hk
  replace hk : FW.S M w0 a w0.toWorld 21 [FW.blk b0 69 ([.lit (.pointer (some ⟨b0_0, 0, none⟩)), .lit (.pointer (some ⟨xb0_1, 0, none⟩)), .lit (.map (some xr0_2)), .lit (.int .i64 v0.half), .lit (.int .u64 v0.round), .lit (.bool v0.dead)]), FW.mapI (.int .u64) (Value.int .u64) FW.evS xr0_2 v0.m, FW.blk xb0_1 99 ([.lit (.pointer (some ⟨b0_0, 0, none⟩)), .lit (.int .i64 v0.l.from_), .lit (.int .i64 v0.l.to_), .lit (.int .i64 v0.l.at_), .lit (.int .u64 v0.l.next)]), FW.blk b0_0 75 ([.lit (.slice xd0_0_0 (List.length v0_0.sure) xc0_0_0), .lit (.map (some xr0_0_1)), .lit (.int .i64 v0_0.steps), .lit (.slice xd0_0_3 (List.length v0_0.falls) xc0_0_3), .lit (.bool v0_0.off)]), FW.orow xd0_0_0 xc0_0_0 9 1 c_str v0_0.sure, FW.mapI (.int .i64) (Value.int .i64) FW.evS xr0_0_1 v0_0.cache, FW.orow xd0_0_3 xc0_0_3 52 3 ApiFall.cells v0_0.falls] [(0, [], .lit (.pointer (some ⟨b0, 0, none⟩))), (1, [], .lit (.int .u64 v1))] := hk
  unfold rec_Store_Get.f at h
  refine FW.wreg ?_; intro K' hK1
  refine FW.lfun (y := .lit (.string (FW.B ([] : List UInt8)))) hk rfl rfl rfl rfl (FW.f_assign hk (FW.holds_nil _) rfl) ?_; clear hk; intro a w hk
  refine FW.lfun (y := .lit (.bool false)) hk rfl rfl rfl rfl (FW.f_assign hk (FW.holds_nil _) rfl) ?_; clear hk; intro a w hk
  refine FW.lend (hK1 _ _ ?_); clear hK1 K'
  refine FW.wseq ?_; intro K' hK2
  refine FW.wreg ?_; intro K' hK3
  refine FW.lfun (y := .lit (.pointer (some ⟨b0, 0, none⟩))) hk rfl rfl rfl rfl (FW.f_move hk (FW.holds_nil _) rfl) ?_; clear hk; intro a w hk
  refine FW.lfun (y := .lit (.bool false)) hk rfl rfl rfl rfl ((FW.f_pure (FW.p_ptrEq Go.Proofs.Tryz.underlying23 hk.kn (FW.holds_nil _) rfl rfl rfl))) ?_; clear hk; intro a w hk
  refine FW.lend (hK3 _ _ ?_); clear hK3 K'
  refine FW.wcondX hk rfl ?_
  refine wp_skip ?_
  (repeat first | refine FW.then_normal ?_ | refine FW.block_normal ?_); refine hK2 _ _ ?_
  refine FW.wreg ?_; intro K' hK4
  refine FW.lfun (y := .lit (.pointer (some ⟨b0, 0, none⟩))) hk rfl rfl rfl rfl (FW.f_move hk (FW.holds_nil _) rfl) ?_; clear hk; intro a w hk
  refine FW.lfun (y := .lit (.pointer (some ⟨b0, 0, none⟩))) hk rfl rfl rfl rfl ((FW.f_pure (FW.p_nilCheck hk.kn (FW.holds_nil _) rfl))) ?_; clear hk; intro a w hk
  refine FW.lfun (y := .lit (.pointer (some ⟨b0, 2, none⟩))) hk rfl rfl rfl rfl (FW.f_fieldPtr hk (FW.holds_nil _) rfl Go.Proofs.Tryz.underlying69 rfl (by kernel_rfl) rfl) ?_; clear hk; intro a w hk
  refine FW.lfun (y := .lit (.map (some xr0_2))) hk rfl rfl rfl rfl (FW.f_loadBlk1 hk (FW.holds_nil _) (j := 0) rfl rfl Go.Proofs.Tryz.underlying67 rfl rfl) ?_; clear hk; intro a w hk
  refine FW.lfun (y := .lit (.int .u64 v1)) hk rfl rfl rfl rfl (FW.f_move hk (FW.holds_nil _) rfl) ?_; clear hk; intro a w hk
  refine FW.lfun (y := .tup [.lit (.string (FW.B ((FW.mget v0.m v1).getD ([] : List UInt8)))), .lit (.bool ((FW.mget v0.m v1).isSome))]) hk rfl rfl rfl rfl (FW.f_lookup2 (z := ([] : List UInt8)) (ev := FW.evS) hk (FW.holds_nil _) (j := 1) rfl rfl rfl Go.Proofs.Tryz.underlying67 Go.Proofs.Tryz.underlying27 (by kernel_rfl)) ?_; clear hk; intro a w hk
  refine FW.lfun (y := .tup [.lit (.string (FW.B ((FW.mget v0.m v1).getD ([] : List UInt8)))), .lit (.bool ((FW.mget v0.m v1).isSome))]) hk rfl rfl rfl rfl (FW.f_move hk (FW.holds_nil _) rfl) ?_; clear hk; intro a w hk
  refine FW.lfun (y := .lit (.string (FW.B ((FW.mget v0.m v1).getD ([] : List UInt8))))) hk rfl rfl rfl rfl (FW.f_extract hk (FW.holds_nil _) rfl rfl) ?_; clear hk; intro a w hk
  refine FW.lfun (y := .lit (.bool ((FW.mget v0.m v1).isSome))) hk rfl rfl rfl rfl (FW.f_extract hk (FW.holds_nil _) rfl rfl) ?_; clear hk; intro a w hk
  refine FW.lfun (y := .lit (.string (FW.B ((FW.mget v0.m v1).getD ([] : List UInt8))))) hk rfl rfl rfl rfl (FW.f_assign hk (FW.holds_nil _) rfl) ?_; clear hk; intro a w hk
  refine FW.lfun (y := .lit (.bool ((FW.mget v0.m v1).isSome))) hk rfl rfl rfl rfl (FW.f_assign hk (FW.holds_nil _) rfl) ?_; clear hk; intro a w hk
  refine FW.lend (hK4 _ _ ?_); clear hK4 K'
  refine FW.wreg ?_; intro K' hK5
  refine FW.lfun (y := .lit (.string (FW.B ((FW.mget v0.m v1).getD ([] : List UInt8))))) hk rfl rfl rfl rfl (FW.f_move hk (FW.holds_nil _) rfl) ?_; clear hk; intro a w hk
  refine FW.lfun (y := .lit (.bool ((FW.mget v0.m v1).isSome))) hk rfl rfl rfl rfl (FW.f_move hk (FW.holds_nil _) rfl) ?_; clear hk; intro a w hk
  refine FW.lfun (y := .lit (.string (FW.B ((FW.mget v0.m v1).getD ([] : List UInt8))))) hk rfl rfl rfl rfl (FW.f_assign hk (FW.holds_nil _) rfl) ?_; clear hk; intro a w hk
  refine FW.lfun (y := .lit (.bool ((FW.mget v0.m v1).isSome))) hk rfl rfl rfl rfl (FW.f_assign hk (FW.holds_nil _) rfl) ?_; clear hk; intro a w hk
  refine FW.lend (hK5 _ _ ?_); clear hK5 K'
  refine wp_ret ?_
  (repeat first | refine FW.then_ret ?_ | refine FW.block_ret ?_)
  obtain rfl := Option.some.inj h
  replace hk := FW.S.keep (I1 := [FW.blk b0 69 ([.lit (.pointer (some ⟨b0_0, 0, none⟩)), .lit (.pointer (some ⟨xb0_1, 0, none⟩)), .lit (.map (some xr0_2)), .lit (.int .i64 v0.half), .lit (.int .u64 v0.round), .lit (.bool v0.dead)]), FW.mapI (.int .u64) (Value.int .u64) FW.evS xr0_2 v0.m, FW.blk xb0_1 99 ([.lit (.pointer (some ⟨b0_0, 0, none⟩)), .lit (.int .i64 v0.l.from_), .lit (.int .i64 v0.l.to_), .lit (.int .i64 v0.l.at_), .lit (.int .u64 v0.l.next)]), FW.blk b0_0 75 ([.lit (.slice xd0_0_0 (List.length v0_0.sure) xc0_0_0), .lit (.map (some xr0_0_1)), .lit (.int .i64 v0_0.steps), .lit (.slice xd0_0_3 (List.length v0_0.falls) xc0_0_3), .lit (.bool v0_0.off)]), FW.orow xd0_0_0 xc0_0_0 9 1 c_str v0_0.sure, FW.mapI (.int .i64) (Value.int .i64) FW.evS xr0_0_1 v0_0.cache, FW.orow xd0_0_3 xc0_0_3 52 3 ApiFall.cells v0_0.falls]) (I2 := []) (js := [6, 6, 6, 6, 6, 6, 6]) hk rfl
  exact FW.fretH2 hk rfl (FW.rtmp hk rfl) (FW.rtmp hk rfl) ⟨rfl, rfl⟩
theorem offshootlaw06_awake.ok (K : Nat)  (r : Bool) (h : offshootlaw06_awake.f K = some r) :
    FW.Ok Go.Proofs.Tryz.prog 12 [] (.lit (.bool r)) := by
  refine FW.enter (xs := []) Go.Proofs.Tryz.func12 rfl Go.Proofs.Tryz.ntmps12 rfl ?_
  intro M w0 a hk
  unfold offshootlaw06_awake.f at h
  refine FW.wreg ?_; intro K' hK1
  refine FW.lfun (y := .lit (.bool false)) hk rfl rfl rfl rfl (FW.f_assign hk (FW.holds_nil _) rfl) ?_; clear hk; intro a w hk
  refine FW.lend (hK1 _ _ ?_); clear hK1 K'
  refine FW.wreg ?_; intro K' hK2
  obtain ⟨t1, hr_t1, h⟩ := FW.bnd h
  refine FW.l_callH (I1 := ([] : List FW.It)) (I2 := []) (js := []) hk rfl rfl rfl rfl rfl Go.Proofs.Tryz.func9 rfl (by kernel_rfl) (offshootlaw06_open.ok K 20 _ hr_t1 ) ?_; clear hk
  rintro _ _ ⟨bx2, xbNt1_0_1, xrNt1_0_2, bx1, xdNt1_1_0, xcNt1_1_0, xrNt1_1_1, xdNt1_1_3, xcNt1_1_3, rfl, rfl⟩ a w hk
  refine FW.lfun (y := .tup [.lit (.pointer (some ⟨bx2, 0, none⟩)), .lit (.pointer (some ⟨bx1, 0, none⟩)), .lit (.bool t1.2.2)]) hk rfl rfl rfl rfl (FW.f_move hk (FW.holds_nil _) rfl) ?_; clear hk; intro a w hk
  refine FW.lfun (y := .lit (.pointer (some ⟨bx2, 0, none⟩))) hk rfl rfl rfl rfl (FW.f_extract hk (FW.holds_nil _) rfl rfl) ?_; clear hk; intro a w hk
  refine FW.lfun (y := .lit (.pointer (some ⟨bx1, 0, none⟩))) hk rfl rfl rfl rfl (FW.f_extract hk (FW.holds_nil _) rfl rfl) ?_; clear hk; intro a w hk
  refine FW.lfun (y := .lit (.bool t1.2.2)) hk rfl rfl rfl rfl (FW.f_extract hk (FW.holds_nil _) rfl rfl) ?_; clear hk; intro a w hk
  refine FW.lfun (y := .lit (.pointer (some ⟨bx2, 0, none⟩))) hk rfl rfl rfl rfl (FW.f_assign hk (FW.holds_nil _) rfl) ?_; clear hk; intro a w hk
  refine FW.lfun (y := .lit (.pointer (some ⟨bx1, 0, none⟩))) hk rfl rfl rfl rfl (FW.f_assign hk (FW.holds_nil _) rfl) ?_; clear hk; intro a w hk
  refine FW.lfun (y := .lit (.bool t1.2.2)) hk rfl rfl rfl rfl (FW.f_assign hk (FW.holds_nil _) rfl) ?_; clear hk; intro a w hk
  refine FW.lend (hK2 _ _ ?_); clear hK2 K'
  refine FW.wreg ?_; intro K' hK3
  refine FW.lfun (y := .lit (.pointer (some ⟨bx2, 0, none⟩))) hk rfl rfl rfl rfl (FW.f_move hk (FW.holds_nil _) rfl) ?_; clear hk; intro a w hk
  refine FW.lfun (y := .agg ((ApiChange.cells (⟨5, ([102, 105, 118, 101] : List UInt8), false⟩ : ApiChange)))) hk rfl rfl rfl rfl (FW.f_build hk (FW.holds_nil _) rfl rfl) ?_; clear hk; intro a w hk
  refine FW.l_buildSlice (f := ApiChange.cells) (l := ([(⟨5, ([102, 105, 118, 101] : List UInt8), false⟩ : ApiChange)] : List ApiChange)) hk rfl rfl rfl Go.Proofs.Tryz.underlying22 rfl rfl rfl rfl (fun _ => rfl) rfl ?_; clear hk; intro bx3 a w hk
  replace hk := (FW.S.freezeR (I' := [FW.blk bx2 69 ([.lit (.pointer (some ⟨bx1, 0, none⟩)), .lit (.pointer (some ⟨xbNt1_0_1, 0, none⟩)), .lit (.map (some xrNt1_0_2)), .lit (.int .i64 t1.1.half), .lit (.int .u64 t1.1.round), .lit (.bool t1.1.dead)]), FW.mapI (.int .u64) (Value.int .u64) FW.evS xrNt1_0_2 t1.1.m, FW.blk xbNt1_0_1 99 ([.lit (.pointer (some ⟨bx1, 0, none⟩)), .lit (.int .i64 t1.1.l.from_), .lit (.int .i64 t1.1.l.to_), .lit (.int .i64 t1.1.l.at_), .lit (.int .u64 t1.1.l.next)]), FW.blk bx1 75 ([.lit (.slice xdNt1_1_0 (List.length t1.2.1.sure) xcNt1_1_0), .lit (.map (some xrNt1_1_1)), .lit (.int .i64 t1.2.1.steps), .lit (.slice xdNt1_1_3 (List.length t1.2.1.falls) xcNt1_1_3), .lit (.bool t1.2.1.off)]), FW.orow xdNt1_1_0 xcNt1_1_0 9 1 c_str t1.2.1.sure, FW.mapI (.int .i64) (Value.int .i64) FW.evS xrNt1_1_1 t1.2.1.cache, FW.orow xdNt1_1_3 xcNt1_1_3 52 3 ApiFall.cells t1.2.1.falls]) r_ApiChange_cells_eq hk (j := 0) rfl (t := 16) rfl rfl).squash
  obtain ⟨t2, hr_t2, h⟩ := FW.bnd h
  refine FW.l_callH (I1 := (ORecStore.items bx2 bx1 xbNt1_0_1 xrNt1_0_2 t1.1) ++ (ODevDev.items bx1 xdNt1_1_0 xcNt1_1_0 xrNt1_1_1 xdNt1_1_3 xcNt1_1_3 t1.2.1)) (I2 := []) (js := [6, 6, 6, 6, 6, 6, 6]) hk rfl rfl rfl rfl rfl Go.Proofs.Tryz.func10 rfl (by kernel_rfl) (rec_Store_Commit.ok K t1.1 t1.2.1 ([(⟨5, ([102, 105, 118, 101] : List UInt8), false⟩ : ApiChange)] : List ApiChange) _ hr_t2 bx2 bx1 xbNt1_0_1 xrNt1_0_2 xdNt1_1_0 xcNt1_1_0 xrNt1_1_1 xdNt1_1_3 xcNt1_1_3) ?_; clear hk
  rintro _ _ ⟨zb1, zr1, zd1, zc1, zr2, zd2, zc2, rfl, rfl⟩ a w hk
  refine FW.lfun (y := .lit (.int .i64 t2.1)) hk rfl rfl rfl rfl (FW.f_assign hk (FW.holds_nil _) rfl) ?_; clear hk; intro a w hk
  refine FW.lend (hK3 _ _ ?_); clear hK3 K'
  refine FW.wreg ?_; intro K' hK4
  refine FW.lfun (y := .lit (.pointer (some ⟨bx1, 0, none⟩))) hk rfl rfl rfl rfl (FW.f_move hk (FW.holds_nil _) rfl) ?_; clear hk; intro a w hk
  obtain ⟨t3, hr_t3, h⟩ := FW.bnd h
  refine FW.l_callH (I1 := (ODevDev.items bx1 zd1 zc1 zr2 zd2 zc2 t2.2.2)) (I2 := [FW.blk bx2 69 ([.lit (.pointer (some ⟨bx1, 0, none⟩)), .lit (.pointer (some ⟨zb1, 0, none⟩)), .lit (.map (some zr1)), .lit (.int .i64 t2.2.1.half), .lit (.int .u64 t2.2.1.round), .lit (.bool t2.2.1.dead)]), FW.mapI (.int .u64) (Value.int .u64) FW.evS zr1 t2.2.1.m, FW.blk zb1 99 ([.lit (.pointer (some ⟨bx1, 0, none⟩)), .lit (.int .i64 t2.2.1.l.from_), .lit (.int .i64 t2.2.1.l.to_), .lit (.int .i64 t2.2.1.l.at_), .lit (.int .u64 t2.2.1.l.next)])]) (js := [6, 6, 6, 6]) hk rfl rfl rfl rfl rfl Go.Proofs.Tryz.func26 rfl (by kernel_rfl) (dev_Dev_Crash.ok K t2.2.2 0 0 _ hr_t3 bx1 zd1 zc1 zr2 zd2 zc2) ?_; clear hk
  rintro _ _ ⟨zd3, zc3, zr3, zd4, zc4, rfl, rfl⟩ a w hk
  refine FW.lend (hK4 _ _ ?_); clear hK4 K'
  refine FW.wreg ?_; intro K' hK5
  refine FW.lfun (y := .lit (.pointer (some ⟨bx1, 0, none⟩))) hk rfl rfl rfl rfl (FW.f_move hk (FW.holds_nil _) rfl) ?_; clear hk; intro a w hk
  obtain ⟨t4, hr_t4, h⟩ := FW.bnd h
  refine FW.l_callH (I1 := (ODevDev.items bx1 zd3 zc3 zr3 zd4 zc4 t3)) (I2 := [FW.blk bx2 69 ([.lit (.pointer (some ⟨bx1, 0, none⟩)), .lit (.pointer (some ⟨zb1, 0, none⟩)), .lit (.map (some zr1)), .lit (.int .i64 t2.2.1.half), .lit (.int .u64 t2.2.1.round), .lit (.bool t2.2.1.dead)]), FW.mapI (.int .u64) (Value.int .u64) FW.evS zr1 t2.2.1.m, FW.blk zb1 99 ([.lit (.pointer (some ⟨bx1, 0, none⟩)), .lit (.int .i64 t2.2.1.l.from_), .lit (.int .i64 t2.2.1.l.to_), .lit (.int .i64 t2.2.1.l.at_), .lit (.int .u64 t2.2.1.l.next)])]) (js := [3, 3, 3, 3]) hk rfl rfl rfl rfl rfl Go.Proofs.Tryz.func25 rfl (by kernel_rfl) (dev_Dev_Up.ok t3 _ hr_t4 bx1 zd3 zc3 zr3 zd4 zc4) ?_; clear hk
  rintro _ _ ⟨zd5, zc5, zr4, zd6, zc6, rfl, rfl⟩ a w hk
  refine FW.lend (hK5 _ _ ?_); clear hK5 K'
  refine FW.wreg ?_; intro K' hK6
  refine FW.lfun (y := .lit (.pointer (some ⟨bx1, 0, none⟩))) hk rfl rfl rfl rfl (FW.f_move hk (FW.holds_nil _) rfl) ?_; clear hk; intro a w hk
  obtain ⟨t5, hr_t5, h⟩ := FW.bnd h
  refine FW.l_callH (I1 := (ODevDev.items bx1 zd5 zc5 zr4 zd6 zc6 t4.2)) (I2 := [FW.blk bx2 69 ([.lit (.pointer (some ⟨bx1, 0, none⟩)), .lit (.pointer (some ⟨zb1, 0, none⟩)), .lit (.map (some zr1)), .lit (.int .i64 t2.2.1.half), .lit (.int .u64 t2.2.1.round), .lit (.bool t2.2.1.dead)]), FW.mapI (.int .u64) (Value.int .u64) FW.evS zr1 t2.2.1.m, FW.blk zb1 99 ([.lit (.pointer (some ⟨bx1, 0, none⟩)), .lit (.int .i64 t2.2.1.l.from_), .lit (.int .i64 t2.2.1.l.to_), .lit (.int .i64 t2.2.1.l.at_), .lit (.int .u64 t2.2.1.l.next)])]) (js := [3, 3, 3, 3]) hk rfl rfl rfl rfl rfl Go.Proofs.Tryz.func19 rfl (by kernel_rfl) (rec_Open.ok K t4.2 _ hr_t5 bx1 zd5 zc5 zr4 zd6 zc6) ?_; clear hk
  rintro _ _ ⟨bx4, xbNt5_0_1, xrNt5_0_2, zd7, zc7, zr5, zd8, zc8, rfl, rfl⟩ a w hk
  refine FW.lfun (y := .tup [.lit (.pointer (some ⟨bx4, 0, none⟩)), .lit (.int .i64 t5.2.1)]) hk rfl rfl rfl rfl (FW.f_move hk (FW.holds_nil _) rfl) ?_; clear hk; intro a w hk
  refine FW.lfun (y := .lit (.pointer (some ⟨bx4, 0, none⟩))) hk rfl rfl rfl rfl (FW.f_extract hk (FW.holds_nil _) rfl rfl) ?_; clear hk; intro a w hk
  refine FW.lfun (y := .lit (.int .i64 t5.2.1)) hk rfl rfl rfl rfl (FW.f_extract hk (FW.holds_nil _) rfl rfl) ?_; clear hk; intro a w hk
  refine FW.lfun (y := .lit (.pointer (some ⟨bx4, 0, none⟩))) hk rfl rfl rfl rfl (FW.f_assign hk (FW.holds_nil _) rfl) ?_; clear hk; intro a w hk
  refine FW.lfun (y := .lit (.int .i64 t5.2.1)) hk rfl rfl rfl rfl (FW.f_assign hk (FW.holds_nil _) rfl) ?_; clear hk; intro a w hk
  refine FW.lend (hK6 _ _ ?_); clear hK6 K'
  refine FW.wreg ?_; intro K' hK7
  refine FW.lfun (y := .lit (.pointer (some ⟨bx4, 0, none⟩))) hk rfl rfl rfl rfl (FW.f_move hk (FW.holds_nil _) rfl) ?_; clear hk; intro a w hk
  obtain ⟨t6, hr_t6, h⟩ := FW.bnd h
  refine FW.l_callH (I1 := (ORecStore.items bx4 bx1 xbNt5_0_1 xrNt5_0_2 t5.1) ++ (ODevDev.items bx1 zd7 zc7 zr5 zd8 zc8 t5.2.2)) (I2 := [FW.blk bx2 69 ([.lit (.pointer (some ⟨bx1, 0, none⟩)), .lit (.pointer (some ⟨zb1, 0, none⟩)), .lit (.map (some zr1)), .lit (.int .i64 t2.2.1.half), .lit (.int .u64 t2.2.1.round), .lit (.bool t2.2.1.dead)]), FW.mapI (.int .u64) (Value.int .u64) FW.evS zr1 t2.2.1.m, FW.blk zb1 99 ([.lit (.pointer (some ⟨bx1, 0, none⟩)), .lit (.int .i64 t2.2.1.l.from_), .lit (.int .i64 t2.2.1.l.to_), .lit (.int .i64 t2.2.1.l.at_), .lit (.int .u64 t2.2.1.l.next)])]) (js := [6, 6, 6, 6, 6, 6, 6]) hk rfl rfl rfl rfl rfl Go.Proofs.Tryz.func11 rfl (by kernel_rfl) (rec_Store_Get.ok t5.1 t5.2.2 5 _ hr_t6 bx4 bx1 xbNt5_0_1 xrNt5_0_2 zd7 zc7 zr5 zd8 zc8) ?_; clear hk
  rintro _ _ ⟨rfl, rfl⟩ a w hk
  refine FW.lfun (y := .tup [.lit (.string (FW.B t6.1)), .lit (.bool t6.2)]) hk rfl rfl rfl rfl (FW.f_move hk (FW.holds_nil _) rfl) ?_; clear hk; intro a w hk
  refine FW.lfun (y := .lit (.string (FW.B t6.1))) hk rfl rfl rfl rfl (FW.f_extract hk (FW.holds_nil _) rfl rfl) ?_; clear hk; intro a w hk
  refine FW.lfun (y := .lit (.bool t6.2)) hk rfl rfl rfl rfl (FW.f_extract hk (FW.holds_nil _) rfl rfl) ?_; clear hk; intro a w hk
  refine FW.lfun (y := .lit (.string (FW.B t6.1))) hk rfl rfl rfl rfl (FW.f_assign hk (FW.holds_nil _) rfl) ?_; clear hk; intro a w hk
  refine FW.lfun (y := .lit (.bool t6.2)) hk rfl rfl rfl rfl (FW.f_assign hk (FW.holds_nil _) rfl) ?_; clear hk; intro a w hk
  refine FW.lend (hK7 _ _ ?_); clear hK7 K'
  refine FW.wreg ?_; intro K' hK8
  refine FW.lfun (y := .lit (.bool t1.2.2)) hk rfl rfl rfl rfl (FW.f_move hk (FW.holds_nil _) rfl) ?_; clear hk; intro a w hk
  refine FW.lfun (y := .lit (.bool t1.2.2)) hk rfl rfl rfl rfl (FW.f_move hk (FW.holds_nil _) rfl) ?_; clear hk; intro a w hk
  refine FW.lfunG (y := .lit (.int .i64 t2.1)) hk rfl rfl rfl rfl rfl rfl rfl rfl (fun hc => FW.f_move hk hc rfl) ?_; clear hk; intro a w hk
  refine FW.lfunG (y := .lit (.bool (decide (t2.1 = 0)))) hk rfl rfl rfl rfl rfl rfl rfl rfl (fun hc => (FW.f_pure (FW.p_eql hk.kn hc rfl rfl))) ?_; clear hk; intro a w hk
  refine FW.lfun (y := .lit (.bool (t1.2.2 && (decide (t2.1 = 0))))) hk rfl rfl rfl rfl ((FW.f_pure (FW.p_pick_and hk.kn (FW.holds_nil _) rfl rfl))) ?_; clear hk; intro a w hk
  refine FW.lfun (y := .lit (.bool (t1.2.2 && (decide (t2.1 = 0))))) hk rfl rfl rfl rfl (FW.f_move hk (FW.holds_nil _) rfl) ?_; clear hk; intro a w hk
  refine FW.lfunG (y := .lit (.int .i64 t5.2.1)) hk rfl rfl rfl rfl rfl rfl rfl rfl (fun hc => FW.f_move hk hc rfl) ?_; clear hk; intro a w hk
  refine FW.lfunG (y := .lit (.bool (decide (t5.2.1 = 0)))) hk rfl rfl rfl rfl rfl rfl rfl rfl (fun hc => (FW.f_pure (FW.p_eql hk.kn hc rfl rfl))) ?_; clear hk; intro a w hk
  refine FW.lfun (y := .lit (.bool ((t1.2.2 && (decide (t2.1 = 0))) && (decide (t5.2.1 = 0))))) hk rfl rfl rfl rfl ((FW.f_pure (FW.p_pick_and hk.kn (FW.holds_nil _) rfl rfl))) ?_; clear hk; intro a w hk
  refine FW.lfun (y := .lit (.bool ((t1.2.2 && (decide (t2.1 = 0))) && (decide (t5.2.1 = 0))))) hk rfl rfl rfl rfl (FW.f_move hk (FW.holds_nil _) rfl) ?_; clear hk; intro a w hk
  refine FW.lfunG (y := .lit (.bool t6.2)) hk rfl rfl rfl rfl rfl rfl rfl rfl (fun hc => FW.f_move hk hc rfl) ?_; clear hk; intro a w hk
  refine FW.lfun (y := .lit (.bool (((t1.2.2 && (decide (t2.1 = 0))) && (decide (t5.2.1 = 0))) && t6.2))) hk rfl rfl rfl rfl ((FW.f_pure (FW.p_pick_and hk.kn (FW.holds_nil _) rfl rfl))) ?_; clear hk; intro a w hk
  refine FW.lfun (y := .lit (.bool (((t1.2.2 && (decide (t2.1 = 0))) && (decide (t5.2.1 = 0))) && t6.2))) hk rfl rfl rfl rfl (FW.f_move hk (FW.holds_nil _) rfl) ?_; clear hk; intro a w hk
  refine FW.lfunG (y := .lit (.string (FW.B t6.1))) hk rfl rfl rfl rfl rfl rfl rfl rfl (fun hc => FW.f_move hk hc rfl) ?_; clear hk; intro a w hk
  refine FW.lfunG (y := .lit (.bool (decide (t6.1 = ([102, 105, 118, 101] : List UInt8))))) hk rfl rfl rfl rfl rfl rfl rfl rfl (fun hc => (FW.f_pure (FW.p_seql hk.kn hc rfl rfl))) ?_; clear hk; intro a w hk
  refine FW.lfun (y := .lit (.bool ((((t1.2.2 && (decide (t2.1 = 0))) && (decide (t5.2.1 = 0))) && t6.2) && (decide (t6.1 = ([102, 105, 118, 101] : List UInt8)))))) hk rfl rfl rfl rfl ((FW.f_pure (FW.p_pick_and hk.kn (FW.holds_nil _) rfl rfl))) ?_; clear hk; intro a w hk
  refine FW.lfun (y := .lit (.bool ((((t1.2.2 && (decide (t2.1 = 0))) && (decide (t5.2.1 = 0))) && t6.2) && (decide (t6.1 = ([102, 105, 118, 101] : List UInt8)))))) hk rfl rfl rfl rfl (FW.f_assign hk (FW.holds_nil _) rfl) ?_; clear hk; intro a w hk
  refine FW.lend (hK8 _ _ ?_); clear hK8 K'
  refine wp_ret ?_
  (repeat first | refine FW.then_ret ?_ | refine FW.block_ret ?_)
  obtain rfl := Option.some.inj h
  exact FW.fret1 hk rfl rfl
end Go.Proofs.YtfbkgaandmebaaaGreat

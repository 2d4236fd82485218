/- Written by a program of this session (gen.py): the contracts of functions of the program. -/
import Derived.Test.YtaoffkhflmndhaaTxP2
namespace Go.Proofs.Ytaoffkhflmndhaa
set_option linter.unusedVariables false
set_option maxRecDepth 20000
set_option maxHeartbeats 10000000
theorem tx_Tx_Apply.ok (K : Nat) (v0 : OTxTx) (v1 : List ApiChange) (r : OTxTx) (h : tx_Tx_Apply.f K v0 v1 = some r) :
    ∀ (b0 : Nat) (xr0_1 : Nat), FW.OkH Go.Proofs.Try.prog 8 [.lit (.pointer (some ⟨b0, 0, none⟩)), .row (r_ApiChange_cells v1)] (OTxTx.items b0 xr0_1 v0) (fun y I => ∃ (zxr0_1 : Nat), y = .tup [] ∧ I = OTxTx.items b0 zxr0_1 r) := by
  intro b0 xr0_1
  refine FW.enterH (xs := [.lit (.pointer (some ⟨b0, 0, none⟩)), .row (r_ApiChange_cells v1)]) Go.Proofs.Try.func8 rfl Go.Proofs.Try.ntmps8 rfl ?_
  intro M w0 a hk
  replace hk : FW.S M w0 a w0.toWorld 25 [FW.blk b0 45 ([fnav v0.base, .lit (.map (some xr0_1))]), FW.mapI (.int .u64) (Value.int .u64) ApiChange.val xr0_1 v0.own] [(0, [], .lit (.pointer (some ⟨b0, 0, none⟩))), (1, [], .row (r_ApiChange_cells v1))] := hk
  unfold tx_Tx_Apply.f at h
  refine FW.wreg ?_; intro K' hK1
  refine FW.lfun (y := .row (r_ApiChange_cells v1)) hk rfl rfl rfl rfl (FW.f_move hk (FW.holds_nil _) rfl) ?_; clear hk; intro a w hk
  refine FW.lfun (y := .lit (.int .i64 (List.length v1 : Int))) hk rfl rfl rfl rfl (FW.f_len (R := r_ApiChange_cells) (f := ApiChange.cells) (l := v1) r_ApiChange_cells_eq Go.Proofs.Try.underlying22 hk (FW.holds_nil _) rfl) ?_; clear hk; intro a w hk
  refine FW.lfun (y := .lit (.int .i64 0)) hk rfl rfl rfl rfl (FW.f_move hk (FW.holds_nil _) rfl) ?_; clear hk; intro a w hk
  refine FW.lend (hK1 _ _ ?_); clear hK1 K'
  refine wp_block ?_
  refine FW.wloop (T := Nat × Option (List ApiBody) × (List (Int × ApiChange)) × List ApiChange × Int × Int × Nat) (fun x a w => match x with | (kl1, y1_0, m2, v6, v7, v8, xr2) => FW.S M w0 a w 25 [FW.blk b0 45 ([fnav y1_0, .lit (.map (some xr2))]), FW.mapI (.int .u64) (Value.int .u64) ApiChange.val xr2 m2] [(0, [], .lit (.pointer (some ⟨b0, 0, none⟩))), (6, [], .row (r_ApiChange_cells v6)), (7, [], .lit (.int .i64 v7)), (8, [], .lit (.int .i64 v8))] ∧ tx_Tx_Apply.l1 K kl1 y1_0 m2 v6 v7 v8 = some r) (fun x => x.1) (K, v0.base, v0.own, v1, (List.length v1 : Int), 0, xr0_1) ⟨hk.sub ⟨rfl, rfl, rfl, rfl, trivial⟩, h⟩ ?_
  clear hk h
  rintro ⟨kl1, y1_0, m2, v6, v7, v8, xr2⟩ a w ⟨hk, h⟩ K' hK2
  cases kl1 with
  | zero => simp [tx_Tx_Apply.l1] at h
  | succ kl1 =>
  rw [tx_Tx_Apply.l1.eq_2] at h
  refine FW.wreg ?_; intro K' hK3
  refine FW.lfun (y := .lit (.bool (decide (v8 < v7)))) hk rfl rfl rfl rfl ((FW.f_pure (FW.p_lss hk.kn (FW.holds_nil _) rfl rfl))) ?_; clear hk; intro a w hk
  refine FW.lend (hK3 _ _ ?_); clear hK3 K'
  refine FW.wseq ?_; intro K' hK4
  refine FW.wcondF (b := (decide (v8 < v7))) hk h rfl (fun h hb => ?_) (fun h hb => ?_)
  · skip
    refine wp_skip ?_
    (repeat first | refine FW.then_normal ?_ | refine FW.block_normal ?_); refine hK4 _ _ ?_
    refine FW.wseqJ (fun a w => ∃ (y1_0 : Option (List ApiBody)) (m2 : List (Int × ApiChange)) (v6 : List ApiChange) (v7 : Int) (v8 : Int) (xr2 : Nat), FW.S M w0 a w 25 [FW.blk b0 45 ([fnav y1_0, .lit (.map (some xr2))]), FW.mapI (.int .u64) (Value.int .u64) ApiChange.val xr2 m2] [(0, [], .lit (.pointer (some ⟨b0, 0, none⟩))), (6, [], .row (r_ApiChange_cells v6)), (7, [], .lit (.int .i64 v7)), (8, [], .lit (.int .i64 v8))] ∧ tx_Tx_Apply.j1 (tx_Tx_Apply.l1 K kl1) K y1_0 m2 v6 v7 v8 = some r) ?_ ?_
    · clear hk h
      rintro a w ⟨y1_0, m2, v6, v7, v8, xr2, hk, h⟩
      unfold tx_Tx_Apply.j1 at h
      refine FW.wreg1 ?_
      refine FW.lfun (y := .lit (.int .i64 (IntKind.wrap .i64 (v8 + 1)))) hk rfl rfl rfl rfl ((FW.f_pure (FW.p_add hk.kn (FW.holds_nil _) rfl rfl))) ?_; clear hk; intro a w hk
      refine FW.lfun (y := .lit (.int .i64 (IntKind.wrap .i64 (v8 + 1)))) hk rfl rfl rfl rfl (FW.f_move hk (FW.holds_nil _) rfl) ?_; clear hk; intro a w hk
      refine wpList_nil ?_
      (repeat first | refine FW.then_normal ?_ | refine FW.block_normal ?_); exact hK2 (kl1, y1_0, m2, v6, v7, (IntKind.wrap .i64 (v8 + 1)), xr2) _ _ (Nat.lt_succ_self _) ⟨hk.sub ⟨rfl, rfl, rfl, rfl, trivial⟩, h⟩
    · intro K' hK5
      refine wp_block ?_
      refine FW.wreg ?_; intro K' hK7
      obtain ⟨hc1, h⟩ := FW.chk h
      refine FW.lfun (y := .ref (ApiChange.cells (List.getD v6 (Int.toNat v8) default))) hk rfl rfl rfl rfl (FW.f_indexAddr (R := r_ApiChange_cells) (f := ApiChange.cells) (l := v6) (sz := 3) r_ApiChange_cells_eq (fun _ => rfl) hk (FW.holds_nil _) rfl rfl Go.Proofs.Try.underlying22 (by kernel_rfl) hc1) ?_; clear hk; intro a w hk
      refine FW.lfun (y := .agg ((ApiChange.cells (List.getD v6 (Int.toNat v8) default)))) hk rfl rfl rfl rfl (FW.f_load hk (FW.holds_nil _) rfl Go.Proofs.Try.underlying31 rfl rfl rfl rfl) ?_; clear hk; intro a w hk
      refine FW.l_alloc (zs := (ApiChange.cells (⟨0, [], false⟩ : ApiChange))) [] hk rfl rfl rfl rfl ?_; clear hk; intro bx1 a w hk
      refine FW.l_store (I' := [FW.blk bx1 31 ((ApiChange.cells (List.getD v6 (Int.toNat v8) default))), FW.blk b0 45 ([fnav y1_0, .lit (.map (some xr2))]), FW.mapI (.int .u64) (Value.int .u64) ApiChange.val xr2 m2]) (cs' := (ApiChange.cells (List.getD v6 (Int.toNat v8) default))) (j := 0) hk rfl rfl rfl rfl rfl (by kernel_rfl) rfl rfl ?_; clear hk; intro w hk
      refine FW.lend (hK7 _ _ ?_); clear hK7 K'
      refine FW.wreg ?_; intro K' hK8
      refine FW.lfun (y := .lit (.pointer (some ⟨bx1, 2, none⟩))) hk rfl rfl rfl rfl (FW.f_fieldPtr hk (FW.holds_nil _) rfl Go.Proofs.Try.underlying31 rfl (by kernel_rfl) rfl) ?_; clear hk; intro a w hk
      refine FW.lfun (y := .lit (.bool ((List.getD v6 (Int.toNat v8) default).Gone))) hk rfl rfl rfl rfl (FW.f_loadBlk1 hk (FW.holds_nil _) (j := 0) rfl rfl Go.Proofs.Try.underlying4 rfl rfl) ?_; clear hk; intro a w hk
      refine FW.lend (hK8 _ _ ?_); clear hK8 K'
      refine FW.wcondF (b := (List.getD v6 (Int.toNat v8) default).Gone) hk h rfl (fun h hb => ?_) (fun h hb => ?_)
      · skip
        refine FW.wreg1 ?_
        refine FW.lfun (y := .lit (.pointer (some ⟨b0, 0, none⟩))) hk rfl rfl rfl rfl (FW.f_move hk (FW.holds_nil _) rfl) ?_; clear hk; intro a w hk
        refine FW.lfun (y := .lit (.pointer (some ⟨bx1, 0, none⟩))) hk rfl rfl rfl rfl (FW.f_fieldPtr hk (FW.holds_nil _) rfl Go.Proofs.Try.underlying31 rfl (by kernel_rfl) rfl) ?_; clear hk; intro a w hk
        refine FW.lfun (y := .lit (.int .u64 ((List.getD v6 (Int.toNat v8) default).ID))) hk rfl rfl rfl rfl (FW.f_loadBlk1 hk (FW.holds_nil _) (j := 0) rfl rfl Go.Proofs.Try.underlying29 rfl rfl) ?_; clear hk; intro a w hk
        obtain ⟨t1, hr_t1, h⟩ := FW.bnd h
        refine FW.l_callH (I1 := (OTxTx.items b0 xr2 (⟨y1_0, m2⟩ : OTxTx))) (I2 := [FW.blk bx1 31 ((ApiChange.cells (List.getD v6 (Int.toNat v8) default)))]) (js := [2, 2]) hk rfl rfl rfl rfl rfl Go.Proofs.Try.func15 rfl (by kernel_rfl) (tx_Tx_Drop.ok K (⟨y1_0, m2⟩ : OTxTx) ((List.getD v6 (Int.toNat v8) default).ID) _ hr_t1 b0 xr2) ?_; clear hk
        rintro _ _ ⟨zr1, rfl, rfl⟩ a w hk
        refine wpList_nil ?_
        (repeat first | refine FW.then_normal ?_ | refine FW.block_normal ?_); exact hK5 _ _ ⟨t1.2.base, t1.2.own, v6, v7, v8, zr1, (hk.drop 2).sub ⟨rfl, rfl, rfl, rfl, trivial⟩, h⟩
      refine FW.wreg1 ?_
      refine FW.lfun (y := .lit (.pointer (some ⟨b0, 0, none⟩))) hk rfl rfl rfl rfl (FW.f_move hk (FW.holds_nil _) rfl) ?_; clear hk; intro a w hk
      refine FW.lfun (y := .lit (.pointer (some ⟨bx1, 0, none⟩))) hk rfl rfl rfl rfl (FW.f_fieldPtr hk (FW.holds_nil _) rfl Go.Proofs.Try.underlying31 rfl (by kernel_rfl) rfl) ?_; clear hk; intro a w hk
      refine FW.lfun (y := .lit (.int .u64 ((List.getD v6 (Int.toNat v8) default).ID))) hk rfl rfl rfl rfl (FW.f_loadBlk1 hk (FW.holds_nil _) (j := 0) rfl rfl Go.Proofs.Try.underlying29 rfl rfl) ?_; clear hk; intro a w hk
      refine FW.lfun (y := .lit (.pointer (some ⟨bx1, 1, none⟩))) hk rfl rfl rfl rfl (FW.f_fieldPtr hk (FW.holds_nil _) rfl Go.Proofs.Try.underlying31 rfl (by kernel_rfl) rfl) ?_; clear hk; intro a w hk
      refine FW.lfun (y := .lit (.string (FW.B ((List.getD v6 (Int.toNat v8) default).S)))) hk rfl rfl rfl rfl (FW.f_loadBlk1 hk (FW.holds_nil _) (j := 0) rfl rfl Go.Proofs.Try.underlying9 rfl rfl) ?_; clear hk; intro a w hk
      obtain ⟨t2, hr_t2, h⟩ := FW.bnd h
      refine FW.l_callH (I1 := (OTxTx.items b0 xr2 (⟨y1_0, m2⟩ : OTxTx))) (I2 := [FW.blk bx1 31 ((ApiChange.cells (List.getD v6 (Int.toNat v8) default)))]) (js := [2, 2]) hk rfl rfl rfl rfl rfl Go.Proofs.Try.func13 rfl (by kernel_rfl) (tx_Tx_Put.ok (⟨y1_0, m2⟩ : OTxTx) ((List.getD v6 (Int.toNat v8) default).ID) ((List.getD v6 (Int.toNat v8) default).S) _ hr_t2 b0 xr2) ?_; clear hk
      rintro _ _ ⟨zr2, rfl, rfl⟩ a w hk
      refine wpList_nil ?_
      (repeat first | refine FW.then_normal ?_ | refine FW.block_normal ?_); exact hK5 _ _ ⟨t2.base, t2.own, v6, v7, v8, zr2, (hk.drop 2).sub ⟨rfl, rfl, rfl, rfl, trivial⟩, h⟩
  refine wp_exit ?_; (repeat first | refine FW.then_exit ?_ | refine FW.block_exit_ne rfl ?_); refine FW.block_exit ?_
  (repeat first | refine FW.then_normal ?_ | refine FW.block_normal ?_)
  refine FW.fnorm ?_
  obtain rfl := Option.some.inj h
  replace hk := FW.S.keep (I1 := [FW.blk b0 45 ([fnav y1_0, .lit (.map (some xr2))]), FW.mapI (.int .u64) (Value.int .u64) ApiChange.val xr2 m2]) (I2 := []) (js := [1, 1]) hk rfl
  exact FW.fretH0 hk rfl ⟨xr2, rfl, rfl⟩

theorem offshootlaw09_same.ok (K : Nat) (v0 : OTxTx) (v1 : List ApiBody) (r : Bool) (h : offshootlaw09_same.f K v0 v1 = some r) :
    ∀ (b0 : Nat) (xr0_1 : Nat), FW.OkH Go.Proofs.Try.prog 12 [.lit (.pointer (some ⟨b0, 0, none⟩)), .row (r_ApiBody_cells v1)] (OTxTx.items b0 xr0_1 v0) (fun y I => y = .lit (.bool r) ∧ I = OTxTx.items b0 xr0_1 v0) := by
  intro b0 xr0_1
  refine FW.enterH (xs := [.lit (.pointer (some ⟨b0, 0, none⟩)), .row (r_ApiBody_cells v1)]) Go.Proofs.Try.func12 rfl Go.Proofs.Try.ntmps12 rfl ?_
  intro M w0 a hk
  replace hk : FW.S M w0 a w0.toWorld 34 [FW.blk b0 45 ([fnav v0.base, .lit (.map (some xr0_1))]), FW.mapI (.int .u64) (Value.int .u64) ApiChange.val xr0_1 v0.own] [(0, [], .lit (.pointer (some ⟨b0, 0, none⟩))), (1, [], .row (r_ApiBody_cells v1))] := hk
  unfold offshootlaw09_same.f at h
  refine FW.wreg ?_; intro K' hK1
  refine FW.lfun (y := .lit (.bool false)) hk rfl rfl rfl rfl (FW.f_assign hk (FW.holds_nil _) rfl) ?_; clear hk; intro a w hk
  refine FW.lend (hK1 _ _ ?_); clear hK1 K'
  refine FW.wseq ?_; intro K' hK2
  refine FW.wreg ?_; intro K' hK3
  refine FW.lfun (y := .lit (.int .u64 0)) hk rfl rfl rfl rfl (FW.f_assign hk (FW.holds_nil _) rfl) ?_; clear hk; intro a w hk
  refine FW.lend (hK3 _ _ ?_); clear hK3 K'
  refine wp_block ?_
  refine FW.wloop (T := Nat × List ApiBody × Int) (fun x a w => match x with | (kl1, v1, v5) => FW.S M w0 a w 34 [FW.blk b0 45 ([fnav v0.base, .lit (.map (some xr0_1))]), FW.mapI (.int .u64) (Value.int .u64) ApiChange.val xr0_1 v0.own] [(0, [], .lit (.pointer (some ⟨b0, 0, none⟩))), (1, [], .row (r_ApiBody_cells v1)), (5, [], .lit (.int .u64 v5))] ∧ offshootlaw09_same.l1 K v0 kl1 v1 v5 = some r) (fun x => x.1) (K, v1, 0) ⟨hk.sub ⟨rfl, rfl, rfl, trivial⟩, h⟩ ?_
  clear hk h
  rintro ⟨kl1, v1, v5⟩ a w ⟨hk, h⟩ K' hK4
  cases kl1 with
  | zero => simp [offshootlaw09_same.l1] at h
  | succ kl1 =>
  rw [offshootlaw09_same.l1.eq_2] at h
  refine FW.wseq ?_; intro K' hK5
  refine FW.wreg ?_; intro K' hK6
  refine FW.lfun (y := .lit (.int .u64 v5)) hk rfl rfl rfl rfl (FW.f_move hk (FW.holds_nil _) rfl) ?_; clear hk; intro a w hk
  refine FW.lfun (y := .lit (.bool (decide (v5 < 9)))) hk rfl rfl rfl rfl ((FW.f_pure (FW.p_lss hk.kn (FW.holds_nil _) rfl rfl))) ?_; clear hk; intro a w hk
  refine FW.lend (hK6 _ _ ?_); clear hK6 K'
  refine FW.wcondF (b := (decide (v5 < 9))) hk h rfl (fun h hb => ?_) (fun h hb => ?_)
  · skip
    refine wp_skip ?_
    (repeat first | refine FW.then_normal ?_ | refine FW.block_normal ?_); refine hK5 _ _ ?_
    refine FW.wseq ?_; intro K' hK7
    refine wp_block ?_
    refine FW.wreg ?_; intro K' hK8
    refine FW.lfun (y := .lit (.pointer (some ⟨b0, 0, none⟩))) hk rfl rfl rfl rfl (FW.f_move hk (FW.holds_nil _) rfl) ?_; clear hk; intro a w hk
    refine FW.lfun (y := .lit (.int .u64 v5)) hk rfl rfl rfl rfl (FW.f_move hk (FW.holds_nil _) rfl) ?_; clear hk; intro a w hk
    obtain ⟨t1, hr_t1, h⟩ := FW.bnd h
    refine FW.l_callH (I1 := (OTxTx.items b0 xr0_1 v0)) (I2 := []) (js := [1, 1]) hk rfl rfl rfl rfl rfl Go.Proofs.Try.func14 rfl (by kernel_rfl) (tx_Tx_Get.ok K v0 v5 _ hr_t1 b0 xr0_1) ?_; clear hk
    rintro _ _ ⟨rfl, rfl⟩ a w hk
    refine FW.lfun (y := .tup [.lit (.string (FW.B t1.1)), .lit (.bool t1.2)]) hk rfl rfl rfl rfl (FW.f_move hk (FW.holds_nil _) rfl) ?_; clear hk; intro a w hk
    refine FW.lfun (y := .lit (.string (FW.B t1.1))) hk rfl rfl rfl rfl (FW.f_extract hk (FW.holds_nil _) rfl rfl) ?_; clear hk; intro a w hk
    refine FW.lfun (y := .lit (.bool t1.2)) hk rfl rfl rfl rfl (FW.f_extract hk (FW.holds_nil _) rfl rfl) ?_; clear hk; intro a w hk
    refine FW.lfun (y := .lit (.string (FW.B t1.1))) hk rfl rfl rfl rfl (FW.f_assign hk (FW.holds_nil _) rfl) ?_; clear hk; intro a w hk
    refine FW.lfun (y := .lit (.bool t1.2)) hk rfl rfl rfl rfl (FW.f_assign hk (FW.holds_nil _) rfl) ?_; clear hk; intro a w hk
    refine FW.lend (hK8 _ _ ?_); clear hK8 K'
    refine FW.wreg ?_; intro K' hK9
    refine FW.lfun (y := .row (r_ApiBody_cells v1)) hk rfl rfl rfl rfl (FW.f_move hk (FW.holds_nil _) rfl) ?_; clear hk; intro a w hk
    refine FW.lfun (y := .lit (.int .u64 v5)) hk rfl rfl rfl rfl (FW.f_move hk (FW.holds_nil _) rfl) ?_; clear hk; intro a w hk
    obtain ⟨t2, hr_t2, h⟩ := FW.bnd h
    refine FW.lfun (y := .tup [.lit (.string (FW.B t2.1)), .lit (.bool t2.2)]) hk rfl rfl rfl rfl (FW.f_call hk (FW.holds_nil _) rfl rfl Go.Proofs.Try.func18 rfl (by kernel_rfl) (offshootref06_Find.ok K v1 v5 _ hr_t2)) ?_; clear hk; intro a w hk
    refine FW.lfun (y := .tup [.lit (.string (FW.B t2.1)), .lit (.bool t2.2)]) hk rfl rfl rfl rfl (FW.f_move hk (FW.holds_nil _) rfl) ?_; clear hk; intro a w hk
    refine FW.lfun (y := .lit (.string (FW.B t2.1))) hk rfl rfl rfl rfl (FW.f_extract hk (FW.holds_nil _) rfl rfl) ?_; clear hk; intro a w hk
    refine FW.lfun (y := .lit (.bool t2.2)) hk rfl rfl rfl rfl (FW.f_extract hk (FW.holds_nil _) rfl rfl) ?_; clear hk; intro a w hk
    refine FW.lfun (y := .lit (.string (FW.B t2.1))) hk rfl rfl rfl rfl (FW.f_assign hk (FW.holds_nil _) rfl) ?_; clear hk; intro a w hk
    refine FW.lfun (y := .lit (.bool t2.2)) hk rfl rfl rfl rfl (FW.f_assign hk (FW.holds_nil _) rfl) ?_; clear hk; intro a w hk
    refine FW.lend (hK9 _ _ ?_); clear hK9 K'
    refine FW.wreg ?_; intro K' hK10
    refine FW.lfun (y := .lit (.bool t1.2)) hk rfl rfl rfl rfl (FW.f_move hk (FW.holds_nil _) rfl) ?_; clear hk; intro a w hk
    refine FW.lfun (y := .lit (.bool t2.2)) hk rfl rfl rfl rfl (FW.f_move hk (FW.holds_nil _) rfl) ?_; clear hk; intro a w hk
    refine FW.lfun (y := .lit (.bool (!(t1.2 == t2.2)))) hk rfl rfl rfl rfl ((FW.f_pure (FW.p_bneq Go.Proofs.Try.underlying4 hk.kn (FW.holds_nil _) rfl rfl))) ?_; clear hk; intro a w hk
    refine FW.lfun (y := .lit (.bool (!(t1.2 == t2.2)))) hk rfl rfl rfl rfl (FW.f_move hk (FW.holds_nil _) rfl) ?_; clear hk; intro a w hk
    refine FW.lfunG (y := .lit (.string (FW.B t1.1))) hk rfl rfl rfl rfl rfl rfl rfl rfl (fun hc => FW.f_move hk hc rfl) ?_; clear hk; intro a w hk
    refine FW.lfunG (y := .lit (.string (FW.B t2.1))) hk rfl rfl rfl rfl rfl rfl rfl rfl (fun hc => FW.f_move hk hc rfl) ?_; clear hk; intro a w hk
    refine FW.lfunG (y := .lit (.bool (!decide (t1.1 = t2.1)))) hk rfl rfl rfl rfl rfl rfl rfl rfl (fun hc => (FW.f_pure (FW.p_sneq hk.kn hc rfl rfl))) ?_; clear hk; intro a w hk
    refine FW.lfun (y := .lit (.bool ((!(t1.2 == t2.2)) || (!decide (t1.1 = t2.1))))) hk rfl rfl rfl rfl ((FW.f_pure (FW.p_pick_or hk.kn (FW.holds_nil _) rfl rfl))) ?_; clear hk; intro a w hk
    refine FW.lend (hK10 _ _ ?_); clear hK10 K'
    refine FW.wcondF (b := ((!(t1.2 == t2.2)) || (!decide (t1.1 = t2.1)))) hk h rfl (fun h hb => ?_) (fun h hb => ?_)
    · skip
      refine FW.wreg ?_; intro K' hK11
      refine FW.lfun (y := .lit (.bool false)) hk rfl rfl rfl rfl (FW.f_assign hk (FW.holds_nil _) rfl) ?_; clear hk; intro a w hk
      refine FW.lend (hK11 _ _ ?_); clear hK11 K'
      refine wp_ret ?_
      (repeat first | refine FW.then_ret ?_ | refine FW.block_ret ?_)
      obtain rfl := Option.some.inj h
      replace hk := FW.S.keep (I1 := [FW.blk b0 45 ([fnav v0.base, .lit (.map (some xr0_1))]), FW.mapI (.int .u64) (Value.int .u64) ApiChange.val xr0_1 v0.own]) (I2 := []) (js := [1, 1]) hk rfl
      exact FW.fretH1 hk rfl (FW.rtmp hk rfl) ⟨rfl, rfl⟩
    refine wp_skip ?_
    (repeat first | refine FW.then_normal ?_ | refine FW.block_normal ?_); refine hK7 _ _ ?_
    refine FW.wreg1 ?_
    refine FW.lfun (y := .lit (.int .u64 v5)) hk rfl rfl rfl rfl (FW.f_move hk (FW.holds_nil _) rfl) ?_; clear hk; intro a w hk
    refine FW.lfun (y := .lit (.int .u64 (IntKind.wrap .u64 (v5 + 1)))) hk rfl rfl rfl rfl ((FW.f_pure (FW.p_add hk.kn (FW.holds_nil _) rfl rfl))) ?_; clear hk; intro a w hk
    refine FW.lfun (y := .lit (.int .u64 (IntKind.wrap .u64 (v5 + 1)))) hk rfl rfl rfl rfl (FW.f_assign hk (FW.holds_nil _) rfl) ?_; clear hk; intro a w hk
    refine wpList_nil ?_
    (repeat first | refine FW.then_normal ?_ | refine FW.block_normal ?_); exact hK4 (kl1, v1, (IntKind.wrap .u64 (v5 + 1))) _ _ (Nat.lt_succ_self _) ⟨hk.sub ⟨rfl, rfl, rfl, trivial⟩, h⟩
  refine wp_exit ?_; (repeat first | refine FW.then_exit ?_ | refine FW.block_exit_ne rfl ?_); refine FW.block_exit ?_
  (repeat first | refine FW.then_normal ?_ | refine FW.block_normal ?_); refine hK2 _ _ ?_
  refine FW.wreg ?_; intro K' hK13
  refine FW.lfun (y := .lit (.bool true)) hk rfl rfl rfl rfl (FW.f_assign hk (FW.holds_nil _) rfl) ?_; clear hk; intro a w hk
  refine FW.lend (hK13 _ _ ?_); clear hK13 K'
  refine wp_ret ?_
  (repeat first | refine FW.then_ret ?_ | refine FW.block_ret ?_)
  obtain rfl := Option.some.inj h
  replace hk := FW.S.keep (I1 := [FW.blk b0 45 ([fnav v0.base, .lit (.map (some xr0_1))]), FW.mapI (.int .u64) (Value.int .u64) ApiChange.val xr0_1 v0.own]) (I2 := []) (js := [1, 1]) hk rfl
  exact FW.fretH1 hk rfl (FW.rtmp hk rfl) ⟨rfl, rfl⟩

theorem offshootlaw09_TxLater.ok (K : Nat) (v0 : List ApiChange) (v1 : List ApiChange) (r : Bool) (h : offshootlaw09_TxLater.f K v0 v1 = some r) :
    FW.Ok Go.Proofs.Try.prog 3 [.row (r_ApiChange_cells v0), .row (r_ApiChange_cells v1)] (.lit (.bool r)) := by
  refine FW.enter (xs := [.row (r_ApiChange_cells v0), .row (r_ApiChange_cells v1)]) Go.Proofs.Try.func3 rfl Go.Proofs.Try.ntmps3 rfl ?_
  intro M w0 a hk
  unfold offshootlaw09_TxLater.f at h
  refine FW.wreg ?_; intro K' hK1
  refine FW.lfun (y := .lit (.bool false)) hk rfl rfl rfl rfl (FW.f_assign hk (FW.holds_nil _) rfl) ?_; clear hk; intro a w hk
  refine FW.lend (hK1 _ _ ?_); clear hK1 K'
  refine FW.wreg ?_; intro K' hK2
  refine FW.lfun (y := .row (r_ApiChange_cells v0)) hk rfl rfl rfl rfl (FW.f_move hk (FW.holds_nil _) rfl) ?_; clear hk; intro a w hk
  obtain ⟨t1, hr_t1, h⟩ := FW.bnd h
  refine FW.lfun (y := .row (r_ApiBody_cells t1)) hk rfl rfl rfl rfl (FW.f_call hk (FW.holds_nil _) rfl rfl Go.Proofs.Try.func5 rfl (by kernel_rfl) (offshootlaw09_base.ok K v0 _ hr_t1)) ?_; clear hk; intro a w hk
  refine FW.lfun (y := .row (r_ApiBody_cells t1)) hk rfl rfl rfl rfl (FW.f_assign hk (FW.holds_nil _) rfl) ?_; clear hk; intro a w hk
  refine FW.lend (hK2 _ _ ?_); clear hK2 K'
  refine FW.wreg ?_; intro K' hK3
  refine FW.lfun (y := .row (r_ApiBody_cells t1)) hk rfl rfl rfl rfl (FW.f_move hk (FW.holds_nil _) rfl) ?_; clear hk; intro a w hk
  obtain ⟨t2, hr_t2, h⟩ := FW.bnd h
  refine FW.lfun (y := fnav t2) hk rfl rfl rfl rfl (FW.f_call hk (FW.holds_nil _) rfl rfl Go.Proofs.Try.func7 rfl (by kernel_rfl) (offshootlaw09_getter.ok t1 _ hr_t2)) ?_; clear hk; intro a w hk
  obtain ⟨t3, hr_t3, h⟩ := FW.bnd h
  refine FW.l_callH (I1 := ([] : List FW.It)) (I2 := []) (js := []) hk rfl rfl rfl rfl rfl Go.Proofs.Try.func6 rfl (by kernel_rfl) (tx_New.ok t2 _ hr_t3 ) ?_; clear hk
  rintro _ _ ⟨bx1, xrNt3_0_1, rfl, rfl⟩ a w hk
  refine FW.lfun (y := .lit (.pointer (some ⟨bx1, 0, none⟩))) hk rfl rfl rfl rfl (FW.f_assign hk (FW.holds_nil _) rfl) ?_; clear hk; intro a w hk
  refine FW.lend (hK3 _ _ ?_); clear hK3 K'
  refine FW.wseq ?_; intro K' hK4
  refine FW.wreg ?_; intro K' hK5
  refine FW.lfun (y := .lit (.int .i64 0)) hk rfl rfl rfl rfl (FW.f_assign hk (FW.holds_nil _) rfl) ?_; clear hk; intro a w hk
  refine FW.lend (hK5 _ _ ?_); clear hK5 K'
  refine wp_block ?_
  refine FW.wloop (T := Nat × Option (List ApiBody) × (List (Int × ApiChange)) × List ApiChange × List ApiBody × Int × Nat) (fun x a w => match x with | (kl1, y1_0, m2, v1, v5, v7, xr2) => FW.S M w0 a w 67 [FW.blk bx1 45 ([fnav y1_0, .lit (.map (some xr2))]), FW.mapI (.int .u64) (Value.int .u64) ApiChange.val xr2 m2] [(1, [], .row (r_ApiChange_cells v1)), (5, [], .row (r_ApiBody_cells v5)), (6, [], .lit (.pointer (some ⟨bx1, 0, none⟩))), (7, [], .lit (.int .i64 v7))] ∧ offshootlaw09_TxLater.l1 K kl1 y1_0 m2 v1 v5 v7 = some r) (fun x => x.1) (K, t3.base, t3.own, v1, t1, 0, xrNt3_0_1) ⟨hk.sub ⟨rfl, rfl, rfl, rfl, trivial⟩, h⟩ ?_
  clear hk h
  rintro ⟨kl1, y1_0, m2, v1, v5, v7, xr2⟩ a w ⟨hk, h⟩ K' hK6
  cases kl1 with
  | zero => simp [offshootlaw09_TxLater.l1] at h
  | succ kl1 =>
  rw [offshootlaw09_TxLater.l1.eq_2] at h
  refine FW.wseq ?_; intro K' hK7
  refine FW.wreg ?_; intro K' hK8
  refine FW.lfun (y := .lit (.int .i64 v7)) hk rfl rfl rfl rfl (FW.f_move hk (FW.holds_nil _) rfl) ?_; clear hk; intro a w hk
  refine FW.lfun (y := .row (r_ApiChange_cells v1)) hk rfl rfl rfl rfl (FW.f_move hk (FW.holds_nil _) rfl) ?_; clear hk; intro a w hk
  refine FW.lfun (y := .lit (.int .i64 (List.length v1 : Int))) hk rfl rfl rfl rfl (FW.f_len (R := r_ApiChange_cells) (f := ApiChange.cells) (l := v1) r_ApiChange_cells_eq Go.Proofs.Try.underlying22 hk (FW.holds_nil _) rfl) ?_; clear hk; intro a w hk
  refine FW.lfun (y := .lit (.bool (decide (v7 < (List.length v1 : Int))))) hk rfl rfl rfl rfl ((FW.f_pure (FW.p_lss hk.kn (FW.holds_nil _) rfl rfl))) ?_; clear hk; intro a w hk
  refine FW.lfun (y := .lit (.bool (decide (v7 < (List.length v1 : Int))))) hk rfl rfl rfl rfl (FW.f_move hk (FW.holds_nil _) rfl) ?_; clear hk; intro a w hk
  refine FW.lfunG (y := .lit (.int .i64 v7)) hk rfl rfl rfl rfl rfl rfl rfl rfl (fun hc => FW.f_move hk hc rfl) ?_; clear hk; intro a w hk
  refine FW.lfunG (y := .lit (.bool (decide (v7 < 20)))) hk rfl rfl rfl rfl rfl rfl rfl rfl (fun hc => (FW.f_pure (FW.p_lss hk.kn hc rfl rfl))) ?_; clear hk; intro a w hk
  refine FW.lfun (y := .lit (.bool ((decide (v7 < (List.length v1 : Int))) && (decide (v7 < 20))))) hk rfl rfl rfl rfl ((FW.f_pure (FW.p_pick_and hk.kn (FW.holds_nil _) rfl rfl))) ?_; clear hk; intro a w hk
  refine FW.lend (hK8 _ _ ?_); clear hK8 K'
  refine FW.wcondF (b := ((decide (v7 < (List.length v1 : Int))) && (decide (v7 < 20)))) hk h rfl (fun h hb => ?_) (fun h hb => ?_)
  · skip
    refine wp_skip ?_
    (repeat first | refine FW.then_normal ?_ | refine FW.block_normal ?_); refine hK7 _ _ ?_
    refine FW.wseq ?_; intro K' hK9
    refine wp_block ?_
    refine FW.wreg ?_; intro K' hK10
    refine FW.lfun (y := .row (r_ApiChange_cells v1)) hk rfl rfl rfl rfl (FW.f_move hk (FW.holds_nil _) rfl) ?_; clear hk; intro a w hk
    refine FW.lfun (y := .lit (.int .i64 v7)) hk rfl rfl rfl rfl (FW.f_move hk (FW.holds_nil _) rfl) ?_; clear hk; intro a w hk
    obtain ⟨hc1, h⟩ := FW.chk h
    refine FW.lfun (y := .ref (ApiChange.cells (List.getD v1 (Int.toNat v7) default))) hk rfl rfl rfl rfl (FW.f_indexAddr (R := r_ApiChange_cells) (f := ApiChange.cells) (l := v1) (sz := 3) r_ApiChange_cells_eq (fun _ => rfl) hk (FW.holds_nil _) rfl rfl Go.Proofs.Try.underlying22 (by kernel_rfl) hc1) ?_; clear hk; intro a w hk
    refine FW.lfun (y := .agg ((ApiChange.cells (List.getD v1 (Int.toNat v7) default)))) hk rfl rfl rfl rfl (FW.f_load hk (FW.holds_nil _) rfl Go.Proofs.Try.underlying31 rfl rfl rfl rfl) ?_; clear hk; intro a w hk
    refine FW.l_alloc (zs := (ApiChange.cells (⟨0, [], false⟩ : ApiChange))) [] hk rfl rfl rfl rfl ?_; clear hk; intro bx2 a w hk
    refine FW.l_store (I' := [FW.blk bx2 31 ((ApiChange.cells (List.getD v1 (Int.toNat v7) default))), FW.blk bx1 45 ([fnav y1_0, .lit (.map (some xr2))]), FW.mapI (.int .u64) (Value.int .u64) ApiChange.val xr2 m2]) (cs' := (ApiChange.cells (List.getD v1 (Int.toNat v7) default))) (j := 0) hk rfl rfl rfl rfl rfl (by kernel_rfl) rfl rfl ?_; clear hk; intro w hk
    refine FW.lend (hK10 _ _ ?_); clear hK10 K'
    refine FW.wreg ?_; intro K' hK11
    refine FW.lfun (y := .lit (.pointer (some ⟨bx2, 0, none⟩))) hk rfl rfl rfl rfl (FW.f_fieldPtr hk (FW.holds_nil _) rfl Go.Proofs.Try.underlying31 rfl (by kernel_rfl) rfl) ?_; clear hk; intro a w hk
    refine FW.lfun (y := .lit (.int .u64 ((List.getD v1 (Int.toNat v7) default).ID))) hk rfl rfl rfl rfl (FW.f_loadBlk1 hk (FW.holds_nil _) (j := 0) rfl rfl Go.Proofs.Try.underlying29 rfl rfl) ?_; clear hk; intro a w hk
    refine FW.lfun (y := .lit (.int .u64 (FW.andI .u64 ((List.getD v1 (Int.toNat v7) default).ID) 7))) hk rfl rfl rfl rfl ((FW.f_pure (FW.p_and hk.kn (FW.holds_nil _) rfl rfl))) ?_; clear hk; intro a w hk
    refine FW.lfun (y := .lit (.pointer (some ⟨bx2, 0, none⟩))) hk rfl rfl rfl rfl (FW.f_fieldPtr hk (FW.holds_nil _) rfl Go.Proofs.Try.underlying31 rfl (by kernel_rfl) rfl) ?_; clear hk; intro a w hk
    refine FW.l_store (I' := [FW.blk bx2 31 ((ApiChange.cells (⟨(FW.andI .u64 ((List.getD v1 (Int.toNat v7) default).ID) 7), (List.getD v1 (Int.toNat v7) default).S, (List.getD v1 (Int.toNat v7) default).Gone⟩ : ApiChange))), FW.blk bx1 45 ([fnav y1_0, .lit (.map (some xr2))]), FW.mapI (.int .u64) (Value.int .u64) ApiChange.val xr2 m2]) (cs' := (ApiChange.cells (⟨(FW.andI .u64 ((List.getD v1 (Int.toNat v7) default).ID) 7), (List.getD v1 (Int.toNat v7) default).S, (List.getD v1 (Int.toNat v7) default).Gone⟩ : ApiChange))) (j := 0) hk rfl rfl rfl rfl rfl (by kernel_rfl) rfl rfl ?_; clear hk; intro w hk
    refine FW.lend (hK11 _ _ ?_); clear hK11 K'
    refine FW.wseqJ (fun a w => ∃ (y3 : ApiChange) (v1 : List ApiChange) (v5 : List ApiBody) (v7 : Int), FW.S M w0 a w 67 [FW.blk bx2 31 ((ApiChange.cells y3)), FW.blk bx1 45 ([fnav y1_0, .lit (.map (some xr2))]), FW.mapI (.int .u64) (Value.int .u64) ApiChange.val xr2 m2] [(1, [], .row (r_ApiChange_cells v1)), (5, [], .row (r_ApiBody_cells v5)), (6, [], .lit (.pointer (some ⟨bx1, 0, none⟩))), (7, [], .lit (.int .i64 v7)), (8, [], .lit (.pointer (some ⟨bx2, 0, none⟩)))] ∧ offshootlaw09_TxLater.j1 (offshootlaw09_TxLater.l1 K kl1) K m2 y1_0 y3 v1 v5 v7 = some r) ?_ ?_
    · clear hk h
      rintro a w ⟨y3, v1, v5, v7, hk, h⟩
      unfold offshootlaw09_TxLater.j1 at h
      refine FW.wreg1 ?_
      refine FW.lfun (y := .lit (.pointer (some ⟨bx1, 0, none⟩))) hk rfl rfl rfl rfl (FW.f_move hk (FW.holds_nil _) rfl) ?_; clear hk; intro a w hk
      refine FW.lfun (y := .agg ((ApiChange.cells y3))) hk rfl rfl rfl rfl (FW.f_loadBlk hk (FW.holds_nil _) (j := 0) rfl rfl Go.Proofs.Try.underlying31 rfl rfl rfl rfl) ?_; clear hk; intro a w hk
      refine FW.l_buildSlice (f := ApiChange.cells) (l := ([y3] : List ApiChange)) hk rfl rfl rfl Go.Proofs.Try.underlying22 rfl rfl rfl rfl (fun _ => rfl) rfl ?_; clear hk; intro bx3 a w hk
      replace hk := (FW.S.freezeR (I' := [FW.blk bx2 31 ((ApiChange.cells y3)), FW.blk bx1 45 ([fnav y1_0, .lit (.map (some xr2))]), FW.mapI (.int .u64) (Value.int .u64) ApiChange.val xr2 m2]) r_ApiChange_cells_eq hk (j := 0) rfl (t := 39) rfl rfl).squash
      obtain ⟨t4, hr_t4, h⟩ := FW.bnd h
      refine FW.l_callH (I1 := (OTxTx.items bx1 xr2 (⟨y1_0, m2⟩ : OTxTx))) (I2 := [FW.blk bx2 31 ((ApiChange.cells y3))]) (js := [2, 2]) hk rfl rfl rfl rfl rfl Go.Proofs.Try.func8 rfl (by kernel_rfl) (tx_Tx_Apply.ok K (⟨y1_0, m2⟩ : OTxTx) ([y3] : List ApiChange) _ hr_t4 bx1 xr2) ?_; clear hk
      rintro _ _ ⟨zr1, rfl, rfl⟩ a w hk
      refine wpList_nil ?_
      (repeat first | refine FW.then_normal ?_ | refine FW.block_normal ?_); refine hK9 _ _ ?_
      refine FW.wreg1 ?_
      refine FW.lfun (y := .lit (.int .i64 v7)) hk rfl rfl rfl rfl (FW.f_move hk (FW.holds_nil _) rfl) ?_; clear hk; intro a w hk
      refine FW.lfun (y := .lit (.int .i64 (IntKind.wrap .i64 (v7 + 1)))) hk rfl rfl rfl rfl ((FW.f_pure (FW.p_add hk.kn (FW.holds_nil _) rfl rfl))) ?_; clear hk; intro a w hk
      refine FW.lfun (y := .lit (.int .i64 (IntKind.wrap .i64 (v7 + 1)))) hk rfl rfl rfl rfl (FW.f_assign hk (FW.holds_nil _) rfl) ?_; clear hk; intro a w hk
      refine wpList_nil ?_
      (repeat first | refine FW.then_normal ?_ | refine FW.block_normal ?_); exact hK6 (kl1, t4.base, t4.own, v1, v5, (IntKind.wrap .i64 (v7 + 1)), zr1) _ _ (Nat.lt_succ_self _) ⟨(hk.drop 2).sub ⟨rfl, rfl, rfl, rfl, trivial⟩, h⟩
    · intro K' hK12
      refine FW.wreg ?_; intro K' hK15
      refine FW.lfun (y := .lit (.pointer (some ⟨bx2, 2, none⟩))) hk rfl rfl rfl rfl (FW.f_fieldPtr hk (FW.holds_nil _) rfl Go.Proofs.Try.underlying31 rfl (by kernel_rfl) rfl) ?_; clear hk; intro a w hk
      refine FW.lfun (y := .lit (.bool ((List.getD v1 (Int.toNat v7) default).Gone))) hk rfl rfl rfl rfl (FW.f_loadBlk1 hk (FW.holds_nil _) (j := 0) rfl rfl Go.Proofs.Try.underlying4 rfl rfl) ?_; clear hk; intro a w hk
      refine FW.lend (hK15 _ _ ?_); clear hK15 K'
      refine FW.wcondF (b := (List.getD v1 (Int.toNat v7) default).Gone) hk h rfl (fun h hb => ?_) (fun h hb => ?_)
      · skip
        refine FW.wreg1 ?_
        refine FW.lfun (y := .lit (.pointer (some ⟨bx2, 1, none⟩))) hk rfl rfl rfl rfl (FW.f_fieldPtr hk (FW.holds_nil _) rfl Go.Proofs.Try.underlying31 rfl (by kernel_rfl) rfl) ?_; clear hk; intro a w hk
        refine FW.l_store (I' := [FW.blk bx2 31 ((ApiChange.cells (⟨(FW.andI .u64 ((List.getD v1 (Int.toNat v7) default).ID) 7), ([] : List UInt8), (List.getD v1 (Int.toNat v7) default).Gone⟩ : ApiChange))), FW.blk bx1 45 ([fnav y1_0, .lit (.map (some xr2))]), FW.mapI (.int .u64) (Value.int .u64) ApiChange.val xr2 m2]) (cs' := (ApiChange.cells (⟨(FW.andI .u64 ((List.getD v1 (Int.toNat v7) default).ID) 7), ([] : List UInt8), (List.getD v1 (Int.toNat v7) default).Gone⟩ : ApiChange))) (j := 0) hk rfl rfl rfl rfl rfl (by kernel_rfl) rfl rfl ?_; clear hk; intro w hk
        refine wpList_nil ?_
        (repeat first | refine FW.then_normal ?_ | refine FW.block_normal ?_); exact hK12 _ _ ⟨(⟨(FW.andI .u64 ((List.getD v1 (Int.toNat v7) default).ID) 7), ([] : List UInt8), (List.getD v1 (Int.toNat v7) default).Gone⟩ : ApiChange), v1, v5, v7, hk.sub ⟨rfl, rfl, rfl, rfl, rfl, trivial⟩, h⟩
      refine wp_skip ?_
      (repeat first | refine FW.then_normal ?_ | refine FW.block_normal ?_); exact hK12 _ _ ⟨(⟨(FW.andI .u64 ((List.getD v1 (Int.toNat v7) default).ID) 7), (List.getD v1 (Int.toNat v7) default).S, (List.getD v1 (Int.toNat v7) default).Gone⟩ : ApiChange), v1, v5, v7, hk.sub ⟨rfl, rfl, rfl, rfl, rfl, trivial⟩, h⟩
  refine wp_exit ?_; (repeat first | refine FW.then_exit ?_ | refine FW.block_exit_ne rfl ?_); refine FW.block_exit ?_
  (repeat first | refine FW.then_normal ?_ | refine FW.block_normal ?_); refine hK4 _ _ ?_
  refine FW.wreg ?_; intro K' hK17
  refine FW.lfun (y := .row (r_ApiBody_cells v5)) hk rfl rfl rfl rfl (FW.f_move hk (FW.holds_nil _) rfl) ?_; clear hk; intro a w hk
  refine FW.lfun (y := .lit (.pointer (some ⟨bx1, 0, none⟩))) hk rfl rfl rfl rfl (FW.f_move hk (FW.holds_nil _) rfl) ?_; clear hk; intro a w hk
  obtain ⟨t5, hr_t5, h⟩ := FW.bnd h
  refine FW.l_callH (I1 := (OTxTx.items bx1 xr2 (⟨y1_0, m2⟩ : OTxTx))) (I2 := []) (js := [1, 1]) hk rfl rfl rfl rfl rfl Go.Proofs.Try.func10 rfl (by kernel_rfl) (tx_Tx_Changes.ok K (⟨y1_0, m2⟩ : OTxTx) _ hr_t5 bx1 xr2) ?_; clear hk
  rintro _ _ ⟨rfl, rfl⟩ a w hk
  obtain ⟨t6, hr_t6, h⟩ := FW.bnd h
  refine FW.lfun (y := .row (r_ApiBody_cells t6)) hk rfl rfl rfl rfl (FW.f_call hk (FW.holds_nil _) rfl rfl Go.Proofs.Try.func9 rfl (by kernel_rfl) (offshootref06_Do.ok K v5 t5 _ hr_t6)) ?_; clear hk; intro a w hk
  refine FW.lfun (y := .row (r_ApiBody_cells t6)) hk rfl rfl rfl rfl (FW.f_assign hk (FW.holds_nil _) rfl) ?_; clear hk; intro a w hk
  refine FW.lend (hK17 _ _ ?_); clear hK17 K'
  refine FW.wreg ?_; intro K' hK18
  refine FW.lfun (y := .row (r_ApiBody_cells t6)) hk rfl rfl rfl rfl (FW.f_move hk (FW.holds_nil _) rfl) ?_; clear hk; intro a w hk
  obtain ⟨t7, hr_t7, h⟩ := FW.bnd h
  refine FW.lfun (y := fnav t7) hk rfl rfl rfl rfl (FW.f_call hk (FW.holds_nil _) rfl rfl Go.Proofs.Try.func7 rfl (by kernel_rfl) (offshootlaw09_getter.ok t6 _ hr_t7)) ?_; clear hk; intro a w hk
  obtain ⟨t8, hr_t8, h⟩ := FW.bnd h
  refine FW.l_callH (I1 := ([] : List FW.It)) (I2 := [FW.blk bx1 45 ([fnav y1_0, .lit (.map (some xr2))]), FW.mapI (.int .u64) (Value.int .u64) ApiChange.val xr2 m2]) (js := []) hk rfl rfl rfl rfl rfl Go.Proofs.Try.func6 rfl (by kernel_rfl) (tx_New.ok t7 _ hr_t8 ) ?_; clear hk
  rintro _ _ ⟨bx4, xrNt8_0_1, rfl, rfl⟩ a w hk
  refine FW.lfun (y := .lit (.pointer (some ⟨bx4, 0, none⟩))) hk rfl rfl rfl rfl (FW.f_assign hk (FW.holds_nil _) rfl) ?_; clear hk; intro a w hk
  refine FW.lend (hK18 _ _ ?_); clear hK18 K'
  refine FW.wreg ?_; intro K' hK19
  refine FW.lfun (y := .lit (.pointer (some ⟨bx4, 0, none⟩))) hk rfl rfl rfl rfl (FW.f_move hk (FW.holds_nil _) rfl) ?_; clear hk; intro a w hk
  obtain ⟨t9, hr_t9, h⟩ := FW.bnd h
  refine FW.l_callH (I1 := (OTxTx.items bx4 xrNt8_0_1 t8)) (I2 := [FW.blk bx1 45 ([fnav y1_0, .lit (.map (some xr2))]), FW.mapI (.int .u64) (Value.int .u64) ApiChange.val xr2 m2]) (js := [1, 1]) hk rfl rfl rfl rfl rfl Go.Proofs.Try.func8 rfl (by kernel_rfl) (FW.OkH.nil1 (tx_Tx_Apply.ok K t8 [] _ hr_t9 bx4 xrNt8_0_1)) ?_; clear hk
  rintro _ _ ⟨zr2, rfl, rfl⟩ a w hk
  refine FW.lend (hK19 _ _ ?_); clear hK19 K'
  refine FW.wreg ?_; intro K' hK20
  obtain ⟨t10, hr_t10, h⟩ := FW.bnd h
  refine FW.lfun (y := .lit (.bool t10)) hk rfl rfl rfl rfl (FW.f_call hk (FW.holds_nil _) rfl rfl Go.Proofs.Try.func11 rfl (by kernel_rfl) (offshootlaw09_awake.ok K  _ hr_t10)) ?_; clear hk; intro a w hk
  refine FW.lfun (y := .lit (.bool t10)) hk rfl rfl rfl rfl (FW.f_move hk (FW.holds_nil _) rfl) ?_; clear hk; intro a w hk
  refine FW.lfunG (y := .lit (.pointer (some ⟨bx1, 0, none⟩))) hk rfl rfl rfl rfl rfl rfl rfl rfl (fun hc => FW.f_move hk hc rfl) ?_; clear hk; intro a w hk
  refine FW.lfunG (y := .row (r_ApiBody_cells t6)) hk rfl rfl rfl rfl rfl rfl rfl rfl (fun hc => FW.f_move hk hc rfl) ?_; clear hk; intro a w hk
  obtain ⟨t11, hr_t11, hn_t11, h⟩ := FW.bndG2 h
  refine FW.l_callHG (I1 := (OTxTx.items bx1 xr2 (⟨y1_0, m2⟩ : OTxTx))) (I2 := [FW.blk bx4 45 ([fnav t9.base, .lit (.map (some zr2))]), FW.mapI (.int .u64) (Value.int .u64) ApiChange.val zr2 t9.own]) (js := [3, 3]) hk rfl rfl rfl rfl rfl rfl rfl rfl rfl Go.Proofs.Try.func12 rfl (by kernel_rfl) (fun hc => offshootlaw09_same.ok K (⟨y1_0, m2⟩ : OTxTx) t6 _ (hr_t11 (FW.asm_out (p := t10 = true) hk.kn hc (fun e0 => e0))) bx1 xr2) (fun hn => by obtain rfl := hn_t11 (fun hp => hn (FW.asm_in hk.kn (by have e0 := hp; exact ⟨e0, rfl, trivial⟩))); exact ⟨_, rfl, rfl⟩) ?_; clear hk
  rintro _ _ ⟨rfl, rfl⟩ a w hk
  refine FW.lfun (y := .lit (.bool (t10 && t11))) hk rfl rfl rfl rfl ((FW.f_pure (FW.p_pick_and hk.kn (FW.holds_nil _) rfl rfl))) ?_; clear hk; intro a w hk
  refine FW.lfun (y := .lit (.bool (t10 && t11))) hk rfl rfl rfl rfl (FW.f_move hk (FW.holds_nil _) rfl) ?_; clear hk; intro a w hk
  refine FW.lfunG (y := .lit (.pointer (some ⟨bx4, 0, none⟩))) hk rfl rfl rfl rfl rfl rfl rfl rfl (fun hc => FW.f_move hk hc rfl) ?_; clear hk; intro a w hk
  refine FW.lfunG (y := .row (r_ApiBody_cells t6)) hk rfl rfl rfl rfl rfl rfl rfl rfl (fun hc => FW.f_move hk hc rfl) ?_; clear hk; intro a w hk
  obtain ⟨t12, hr_t12, hn_t12, h⟩ := FW.bndG2 h
  refine FW.l_callHG (I1 := (OTxTx.items bx4 zr2 t9)) (I2 := [FW.blk bx1 45 ([fnav y1_0, .lit (.map (some xr2))]), FW.mapI (.int .u64) (Value.int .u64) ApiChange.val xr2 m2]) (js := [3, 3]) hk rfl rfl rfl rfl rfl rfl rfl rfl rfl Go.Proofs.Try.func12 rfl (by kernel_rfl) (fun hc => offshootlaw09_same.ok K t9 t6 _ (hr_t12 (FW.asm_out (p := (t10 && t11) = true) hk.kn hc (fun e0 => e0))) bx4 zr2) (fun hn => by obtain rfl := hn_t12 (fun hp => hn (FW.asm_in hk.kn (by have e0 := hp; exact ⟨e0, rfl, trivial⟩))); exact ⟨_, rfl, rfl⟩) ?_; clear hk
  rintro _ _ ⟨rfl, rfl⟩ a w hk
  refine FW.lfun (y := .lit (.bool ((t10 && t11) && t12))) hk rfl rfl rfl rfl ((FW.f_pure (FW.p_pick_and hk.kn (FW.holds_nil _) rfl rfl))) ?_; clear hk; intro a w hk
  refine FW.lfun (y := .lit (.bool ((t10 && t11) && t12))) hk rfl rfl rfl rfl (FW.f_move hk (FW.holds_nil _) rfl) ?_; clear hk; intro a w hk
  refine FW.lfunG (y := .lit (.pointer (some ⟨bx4, 0, none⟩))) hk rfl rfl rfl rfl rfl rfl rfl rfl (fun hc => FW.f_move hk hc rfl) ?_; clear hk; intro a w hk
  obtain ⟨t13, hr_t13, hn_t13, h⟩ := FW.bndG2 h
  refine FW.l_callHG (I1 := (OTxTx.items bx4 zr2 t9)) (I2 := [FW.blk bx1 45 ([fnav y1_0, .lit (.map (some xr2))]), FW.mapI (.int .u64) (Value.int .u64) ApiChange.val xr2 m2]) (js := [1, 1]) hk rfl rfl rfl rfl rfl rfl rfl rfl rfl Go.Proofs.Try.func10 rfl (by kernel_rfl) (fun hc => tx_Tx_Changes.ok K t9 _ (hr_t13 (FW.asm_out (p := ((t10 && t11) && t12) = true) hk.kn hc (fun e0 => e0))) bx4 zr2) (fun hn => by obtain rfl := hn_t13 (fun hp => hn (FW.asm_in hk.kn (by have e0 := hp; exact ⟨e0, rfl, trivial⟩))); exact ⟨_, rfl, rfl⟩) ?_; clear hk
  rintro _ _ ⟨rfl, rfl⟩ a w hk
  refine FW.lfunG (y := .lit (.int .i64 (List.length t13 : Int))) hk rfl rfl rfl rfl rfl rfl rfl rfl (fun hc => FW.f_len (R := r_ApiChange_cells) (f := ApiChange.cells) (l := t13) r_ApiChange_cells_eq Go.Proofs.Try.underlying22 hk hc rfl) ?_; clear hk; intro a w hk
  refine FW.lfunG (y := .lit (.bool (decide ((List.length t13 : Int) = 0)))) hk rfl rfl rfl rfl rfl rfl rfl rfl (fun hc => (FW.f_pure (FW.p_eql hk.kn hc rfl rfl))) ?_; clear hk; intro a w hk
  refine FW.lfun (y := .lit (.bool (((t10 && t11) && t12) && (decide ((List.length t13 : Int) = 0))))) hk rfl rfl rfl rfl ((FW.f_pure (FW.p_pick_and hk.kn (FW.holds_nil _) rfl rfl))) ?_; clear hk; intro a w hk
  refine FW.lfun (y := .lit (.bool (((t10 && t11) && t12) && (decide ((List.length t13 : Int) = 0))))) hk rfl rfl rfl rfl (FW.f_assign hk (FW.holds_nil _) rfl) ?_; clear hk; intro a w hk
  refine FW.lend (hK20 _ _ ?_); clear hK20 K'
  refine wp_ret ?_
  (repeat first | refine FW.then_ret ?_ | refine FW.block_ret ?_)
  obtain rfl := Option.some.inj h
  exact FW.fret1 hk rfl rfl
end Go.Proofs.Ytaoffkhflmndhaa

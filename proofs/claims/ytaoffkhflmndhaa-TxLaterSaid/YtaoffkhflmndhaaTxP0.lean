/- Written by a program of this session (gen.py): the contracts of functions of the program. -/
import Derived.KernelRfl
import Derived.Test.YtaoffkhflmndhaaProg
import Derived.Test.YtaoffkhflmndhaaAvDraw2
import Derived.Test.YtaoffkhflmndhaaHu
import Derived.Test.YtaoffkhflmndhaaHt
import Derived.Test.YtaoffkhflmndhaaTxD
namespace Go.Proofs.Ytaoffkhflmndhaa
set_option linter.unusedVariables false
set_option maxRecDepth 20000
set_option maxHeartbeats 10000000
theorem tx_Tx_Put_nil.ok  (v1 : Int) (v2 : List UInt8) (r : Unit) (h : tx_Tx_Put_nil.f v1 v2 = some r) :
    FW.Ok Go.Proofs.Try.prog 13 [.lit (.pointer none), .lit (.int .u64 v1), .lit (.string (FW.B v2))] (.tup []) := by
  refine FW.enter (xs := [.lit (.pointer none), .lit (.int .u64 v1), .lit (.string (FW.B v2))]) Go.Proofs.Try.func13 rfl Go.Proofs.Try.ntmps13 rfl ?_
  intro M w0 a hk
  unfold tx_Tx_Put_nil.f at h
  refine FW.wreg ?_; intro K' hK1
  refine FW.lfun (y := .lit (.pointer none)) hk rfl rfl rfl rfl (FW.f_move hk (FW.holds_nil _) rfl) ?_; clear hk; intro a w hk
  refine FW.lfun (y := .lit (.bool false)) hk rfl rfl rfl rfl ((FW.f_pure (FW.p_ptrNe Go.Proofs.Try.underlying25 hk.kn (FW.holds_nil _) rfl rfl rfl))) ?_; clear hk; intro a w hk
  refine FW.lend (hK1 _ _ ?_); clear hK1 K'
  refine FW.wcondX hk rfl ?_
  refine wp_skip ?_
  (repeat first | refine FW.then_normal ?_ | refine FW.block_normal ?_)
  refine FW.fnorm ?_
  obtain rfl := Option.some.inj h
  exact FW.fret0 hk rfl

theorem offshootref06_Find.ok (K : Nat) (v0 : List ApiBody) (v1 : Int) (r : List UInt8 × Bool) (h : offshootref06_Find.f K v0 v1 = some r) :
    FW.Ok Go.Proofs.Try.prog 18 [.row (r_ApiBody_cells v0), .lit (.int .u64 v1)] (.tup [.lit (.string (FW.B r.1)), .lit (.bool r.2)]) := by
  refine FW.enter (xs := [.row (r_ApiBody_cells v0), .lit (.int .u64 v1)]) Go.Proofs.Try.func18 rfl Go.Proofs.Try.ntmps18 rfl ?_
  intro M w0 a hk
  unfold offshootref06_Find.f at h
  refine FW.wreg ?_; intro K' hK1
  refine FW.lfun (y := .lit (.string (FW.B ([] : List UInt8)))) hk rfl rfl rfl rfl (FW.f_assign hk (FW.holds_nil _) rfl) ?_; clear hk; intro a w hk
  refine FW.lfun (y := .lit (.bool false)) hk rfl rfl rfl rfl (FW.f_assign hk (FW.holds_nil _) rfl) ?_; clear hk; intro a w hk
  refine FW.lend (hK1 _ _ ?_); clear hK1 K'
  refine FW.wseq ?_; intro K' hK2
  refine FW.wreg ?_; intro K' hK3
  refine FW.lfun (y := .lit (.int .i64 0)) hk rfl rfl rfl rfl (FW.f_assign hk (FW.holds_nil _) rfl) ?_; clear hk; intro a w hk
  refine FW.lend (hK3 _ _ ?_); clear hK3 K'
  refine wp_block ?_
  refine FW.wloop (T := Nat × List ApiBody × Int × Int) (fun x a w => match x with | (kl1, v0, v1, v6) => FW.S M w0 a w 25 [] [(0, [], .row (r_ApiBody_cells v0)), (1, [], .lit (.int .u64 v1)), (6, [], .lit (.int .i64 v6))] ∧ offshootref06_Find.l1 K kl1 v0 v1 v6 = some r) (fun x => x.1) (K, v0, v1, 0) ⟨hk.sub ⟨rfl, rfl, rfl, trivial⟩, h⟩ ?_
  clear hk h
  rintro ⟨kl1, v0, v1, v6⟩ a w ⟨hk, h⟩ K' hK4
  cases kl1 with
  | zero => simp [offshootref06_Find.l1] at h
  | succ kl1 =>
  rw [offshootref06_Find.l1.eq_2] at h
  refine FW.wseq ?_; intro K' hK5
  refine FW.wreg ?_; intro K' hK6
  refine FW.lfun (y := .lit (.int .i64 v6)) hk rfl rfl rfl rfl (FW.f_move hk (FW.holds_nil _) rfl) ?_; clear hk; intro a w hk
  refine FW.lfun (y := .row (r_ApiBody_cells v0)) hk rfl rfl rfl rfl (FW.f_move hk (FW.holds_nil _) rfl) ?_; clear hk; intro a w hk
  refine FW.lfun (y := .lit (.int .i64 (List.length v0 : Int))) hk rfl rfl rfl rfl (FW.f_len (R := r_ApiBody_cells) (f := ApiBody.cells) (l := v0) r_ApiBody_cells_eq Go.Proofs.Try.underlying23 hk (FW.holds_nil _) rfl) ?_; clear hk; intro a w hk
  refine FW.lfun (y := .lit (.bool (decide (v6 < (List.length v0 : Int))))) hk rfl rfl rfl rfl ((FW.f_pure (FW.p_lss hk.kn (FW.holds_nil _) rfl rfl))) ?_; clear hk; intro a w hk
  refine FW.lend (hK6 _ _ ?_); clear hK6 K'
  refine FW.wcondF (b := (decide (v6 < (List.length v0 : Int)))) hk h rfl (fun h hb => ?_) (fun h hb => ?_)
  · skip
    refine wp_skip ?_
    (repeat first | refine FW.then_normal ?_ | refine FW.block_normal ?_); refine hK5 _ _ ?_
    refine FW.wseq ?_; intro K' hK7
    refine wp_block ?_
    refine FW.wreg ?_; intro K' hK8
    refine FW.lfun (y := .row (r_ApiBody_cells v0)) hk rfl rfl rfl rfl (FW.f_move hk (FW.holds_nil _) rfl) ?_; clear hk; intro a w hk
    refine FW.lfun (y := .lit (.int .i64 v6)) hk rfl rfl rfl rfl (FW.f_move hk (FW.holds_nil _) rfl) ?_; clear hk; intro a w hk
    obtain ⟨hc1, h⟩ := FW.chk h
    refine FW.lfun (y := .ref (ApiBody.cells (List.getD v0 (Int.toNat v6) default))) hk rfl rfl rfl rfl (FW.f_indexAddr (R := r_ApiBody_cells) (f := ApiBody.cells) (l := v0) (sz := 2) r_ApiBody_cells_eq (fun _ => rfl) hk (FW.holds_nil _) rfl rfl Go.Proofs.Try.underlying23 (by kernel_rfl) hc1) ?_; clear hk; intro a w hk
    refine FW.lfun (y := .ref (List.drop 0 (ApiBody.cells (List.getD v0 (Int.toNat v6) default)))) hk rfl rfl rfl rfl (FW.f_fieldAddr hk (FW.holds_nil _) rfl Go.Proofs.Try.underlying48 rfl (by kernel_rfl) rfl) ?_; clear hk; intro a w hk
    refine FW.lfun (y := .lit (.int .u64 ((List.getD v0 (Int.toNat v6) default).ID))) hk rfl rfl rfl rfl (FW.f_load1 hk (FW.holds_nil _) rfl rfl Go.Proofs.Try.underlying29 rfl) ?_; clear hk; intro a w hk
    refine FW.lfun (y := .lit (.int .u64 v1)) hk rfl rfl rfl rfl (FW.f_move hk (FW.holds_nil _) rfl) ?_; clear hk; intro a w hk
    refine FW.lfun (y := .lit (.bool (decide (((List.getD v0 (Int.toNat v6) default).ID) = v1)))) hk rfl rfl rfl rfl ((FW.f_pure (FW.p_eql hk.kn (FW.holds_nil _) rfl rfl))) ?_; clear hk; intro a w hk
    refine FW.lend (hK8 _ _ ?_); clear hK8 K'
    refine FW.wcondF (b := (decide (((List.getD v0 (Int.toNat v6) default).ID) = v1))) hk h rfl (fun h hb => ?_) (fun h hb => ?_)
    · skip
      refine FW.wreg ?_; intro K' hK9
      refine FW.lfun (y := .row (r_ApiBody_cells v0)) hk rfl rfl rfl rfl (FW.f_move hk (FW.holds_nil _) rfl) ?_; clear hk; intro a w hk
      refine FW.lfun (y := .lit (.int .i64 v6)) hk rfl rfl rfl rfl (FW.f_move hk (FW.holds_nil _) rfl) ?_; clear hk; intro a w hk
      obtain ⟨hc2, h⟩ := FW.chk h
      refine FW.lfun (y := .ref (ApiBody.cells (List.getD v0 (Int.toNat v6) default))) hk rfl rfl rfl rfl (FW.f_indexAddr (R := r_ApiBody_cells) (f := ApiBody.cells) (l := v0) (sz := 2) r_ApiBody_cells_eq (fun _ => rfl) hk (FW.holds_nil _) rfl rfl Go.Proofs.Try.underlying23 (by kernel_rfl) hc2) ?_; clear hk; intro a w hk
      refine FW.lfun (y := .ref (List.drop 1 (ApiBody.cells (List.getD v0 (Int.toNat v6) default)))) hk rfl rfl rfl rfl (FW.f_fieldAddr hk (FW.holds_nil _) rfl Go.Proofs.Try.underlying48 rfl (by kernel_rfl) rfl) ?_; clear hk; intro a w hk
      refine FW.lfun (y := .lit (.string (FW.B ((List.getD v0 (Int.toNat v6) default).S)))) hk rfl rfl rfl rfl (FW.f_load1 hk (FW.holds_nil _) rfl rfl Go.Proofs.Try.underlying9 rfl) ?_; clear hk; intro a w hk
      refine FW.lfun (y := .lit (.string (FW.B ((List.getD v0 (Int.toNat v6) default).S)))) hk rfl rfl rfl rfl (FW.f_assign hk (FW.holds_nil _) rfl) ?_; clear hk; intro a w hk
      refine FW.lfun (y := .lit (.bool true)) hk rfl rfl rfl rfl (FW.f_assign hk (FW.holds_nil _) rfl) ?_; clear hk; intro a w hk
      refine FW.lend (hK9 _ _ ?_); clear hK9 K'
      refine wp_ret ?_
      (repeat first | refine FW.then_ret ?_ | refine FW.block_ret ?_)
      obtain rfl := Option.some.inj h
      exact FW.fret2 hk rfl rfl rfl
    refine wp_skip ?_
    (repeat first | refine FW.then_normal ?_ | refine FW.block_normal ?_); refine hK7 _ _ ?_
    refine FW.wreg1 ?_
    refine FW.lfun (y := .lit (.int .i64 v6)) hk rfl rfl rfl rfl (FW.f_move hk (FW.holds_nil _) rfl) ?_; clear hk; intro a w hk
    refine FW.lfun (y := .lit (.int .i64 (IntKind.wrap .i64 (v6 + 1)))) hk rfl rfl rfl rfl ((FW.f_pure (FW.p_add hk.kn (FW.holds_nil _) rfl rfl))) ?_; clear hk; intro a w hk
    refine FW.lfun (y := .lit (.int .i64 (IntKind.wrap .i64 (v6 + 1)))) hk rfl rfl rfl rfl (FW.f_assign hk (FW.holds_nil _) rfl) ?_; clear hk; intro a w hk
    refine wpList_nil ?_
    (repeat first | refine FW.then_normal ?_ | refine FW.block_normal ?_); exact hK4 (kl1, v0, v1, (IntKind.wrap .i64 (v6 + 1))) _ _ (Nat.lt_succ_self _) ⟨hk.sub ⟨rfl, rfl, rfl, trivial⟩, h⟩
  refine wp_exit ?_; (repeat first | refine FW.then_exit ?_ | refine FW.block_exit_ne rfl ?_); refine FW.block_exit ?_
  (repeat first | refine FW.then_normal ?_ | refine FW.block_normal ?_); refine hK2 _ _ ?_
  refine FW.wreg ?_; intro K' hK11
  refine FW.lfun (y := .lit (.string (FW.B ([] : List UInt8)))) hk rfl rfl rfl rfl (FW.f_assign hk (FW.holds_nil _) rfl) ?_; clear hk; intro a w hk
  refine FW.lfun (y := .lit (.bool false)) hk rfl rfl rfl rfl (FW.f_assign hk (FW.holds_nil _) rfl) ?_; clear hk; intro a w hk
  refine FW.lend (hK11 _ _ ?_); clear hK11 K'
  refine wp_ret ?_
  (repeat first | refine FW.then_ret ?_ | refine FW.block_ret ?_)
  obtain rfl := Option.some.inj h
  exact FW.fret2 hk rfl rfl rfl

theorem offshootlaw09_getter_1.ok (K : Nat) (v0 : Int) (v1 : List ApiBody) (r : List UInt8 × Bool) (h : offshootlaw09_getter_1.f K v0 v1 = some r) :
    FW.Ok Go.Proofs.Try.prog 17 [.lit (.int .u64 v0), .ref [.row (r_ApiBody_cells v1)]] (.tup [.lit (.string (FW.B r.1)), .lit (.bool r.2)]) := by
  refine FW.enter (xs := [.lit (.int .u64 v0), .ref [.row (r_ApiBody_cells v1)]]) Go.Proofs.Try.func17 rfl Go.Proofs.Try.ntmps17 rfl ?_
  intro M w0 a hk
  unfold offshootlaw09_getter_1.f at h
  refine FW.wreg ?_; intro K' hK1
  refine FW.lfun (y := .lit (.string (FW.B ([] : List UInt8)))) hk rfl rfl rfl rfl (FW.f_assign hk (FW.holds_nil _) rfl) ?_; clear hk; intro a w hk
  refine FW.lfun (y := .lit (.bool false)) hk rfl rfl rfl rfl (FW.f_assign hk (FW.holds_nil _) rfl) ?_; clear hk; intro a w hk
  refine FW.lend (hK1 _ _ ?_); clear hK1 K'
  refine FW.wreg ?_; intro K' hK2
  refine FW.lfun (y := .row (r_ApiBody_cells v1)) hk rfl rfl rfl rfl (FW.f_load1 hk (FW.holds_nil _) rfl rfl Go.Proofs.Try.underlying23 rfl) ?_; clear hk; intro a w hk
  refine FW.lfun (y := .lit (.int .u64 v0)) hk rfl rfl rfl rfl (FW.f_move hk (FW.holds_nil _) rfl) ?_; clear hk; intro a w hk
  obtain ⟨t1, hr_t1, h⟩ := FW.bnd h
  refine FW.lfun (y := .tup [.lit (.string (FW.B t1.1)), .lit (.bool t1.2)]) hk rfl rfl rfl rfl (FW.f_call hk (FW.holds_nil _) rfl rfl Go.Proofs.Try.func18 rfl (by kernel_rfl) (offshootref06_Find.ok K v1 v0 _ hr_t1)) ?_; clear hk; intro a w hk
  refine FW.lfun (y := .lit (.string (FW.B t1.1))) hk rfl rfl rfl rfl (FW.f_extract hk (FW.holds_nil _) rfl rfl) ?_; clear hk; intro a w hk
  refine FW.lfun (y := .lit (.bool t1.2)) hk rfl rfl rfl rfl (FW.f_extract hk (FW.holds_nil _) rfl rfl) ?_; clear hk; intro a w hk
  refine FW.lfun (y := .lit (.string (FW.B t1.1))) hk rfl rfl rfl rfl (FW.f_assign hk (FW.holds_nil _) rfl) ?_; clear hk; intro a w hk
  refine FW.lfun (y := .lit (.bool t1.2)) hk rfl rfl rfl rfl (FW.f_assign hk (FW.holds_nil _) rfl) ?_; clear hk; intro a w hk
  refine FW.lend (hK2 _ _ ?_); clear hK2 K'
  refine wp_ret ?_
  (repeat first | refine FW.then_ret ?_ | refine FW.block_ret ?_)
  obtain rfl := Option.some.inj h
  exact FW.fret2 hk rfl rfl rfl

theorem tx_Tx_Get_nil.ok (K : Nat) (v1 : Int) (r : List UInt8 × Bool) (h : tx_Tx_Get_nil.f K v1 = some r) :
    FW.Ok Go.Proofs.Try.prog 14 [.lit (.pointer none), .lit (.int .u64 v1)] (.tup [.lit (.string (FW.B r.1)), .lit (.bool r.2)]) := by
  refine FW.enter (xs := [.lit (.pointer none), .lit (.int .u64 v1)]) Go.Proofs.Try.func14 rfl Go.Proofs.Try.ntmps14 rfl ?_
  intro M w0 a hk
  unfold tx_Tx_Get_nil.f at h
  refine FW.wreg ?_; intro K' hK1
  refine FW.lfun (y := .lit (.string (FW.B ([] : List UInt8)))) hk rfl rfl rfl rfl (FW.f_assign hk (FW.holds_nil _) rfl) ?_; clear hk; intro a w hk
  refine FW.lfun (y := .lit (.bool false)) hk rfl rfl rfl rfl (FW.f_assign hk (FW.holds_nil _) rfl) ?_; clear hk; intro a w hk
  refine FW.lend (hK1 _ _ ?_); clear hK1 K'
  refine FW.wseq ?_; intro K' hK2
  refine FW.wreg ?_; intro K' hK3
  refine FW.lfun (y := .lit (.pointer none)) hk rfl rfl rfl rfl (FW.f_move hk (FW.holds_nil _) rfl) ?_; clear hk; intro a w hk
  refine FW.lfun (y := .lit (.bool true)) hk rfl rfl rfl rfl ((FW.f_pure (FW.p_ptrEq Go.Proofs.Try.underlying25 hk.kn (FW.holds_nil _) rfl rfl rfl))) ?_; clear hk; intro a w hk
  refine FW.lend (hK3 _ _ ?_); clear hK3 K'
  refine FW.wcondT hk rfl ?_
  refine FW.wreg ?_; intro K' hK4
  refine FW.lfun (y := .lit (.string (FW.B ([] : List UInt8)))) hk rfl rfl rfl rfl (FW.f_assign hk (FW.holds_nil _) rfl) ?_; clear hk; intro a w hk
  refine FW.lfun (y := .lit (.bool false)) hk rfl rfl rfl rfl (FW.f_assign hk (FW.holds_nil _) rfl) ?_; clear hk; intro a w hk
  refine FW.lend (hK4 _ _ ?_); clear hK4 K'
  refine wp_ret ?_
  (repeat first | refine FW.then_ret ?_ | refine FW.block_ret ?_)
  obtain rfl := Option.some.inj h
  exact FW.fret2 hk rfl rfl rfl

theorem tx_New.ok  (v0 : Option (List ApiBody)) (r : OTxTx) (h : tx_New.f v0 = some r) :
    FW.OkH Go.Proofs.Try.prog 6 [fnav v0] [] (fun y I => ∃ (bn0 : Nat) (zxrn0_1 : Nat), y = .lit (.pointer (some ⟨bn0, 0, none⟩)) ∧ I = (OTxTx.items bn0 zxrn0_1 r)) := by
  refine FW.enterH (xs := [fnav v0]) Go.Proofs.Try.func6 rfl Go.Proofs.Try.ntmps6 rfl ?_
  intro M w0 a hk
  unfold tx_New.f at h
  refine FW.wreg ?_; intro K' hK1
  refine FW.lfun (y := .lit (.pointer none)) hk rfl rfl rfl rfl (FW.f_assign hk (FW.holds_nil _) rfl) ?_; clear hk; intro a w hk
  refine FW.lend (hK1 _ _ ?_); clear hK1 K'
  refine FW.wreg ?_; intro K' hK2
  refine FW.lfun (y := fnav v0) hk rfl rfl rfl rfl (FW.f_move hk (FW.holds_nil _) rfl) ?_; clear hk; intro a w hk
  refine FW.l_makeMap (κ := Int) (ν := ApiChange) (D := .int .u64) (ek := Value.int .u64) (ev := ApiChange.val) hk rfl rfl FW.keyU64 ?_; clear hk; intro r1 a w hk
  refine FW.lfun (y := .agg ([fnav v0, .lit (.map (some r1))])) hk rfl rfl rfl rfl (FW.f_build hk (FW.holds_nil _) rfl (by cases v0 <;> rfl)) ?_; clear hk; intro a w hk
  refine FW.l_box (cs := [fnav v0, .lit (.map (some r1))]) hk rfl rfl rfl (by cases v0 <;> rfl) rfl ?_; clear hk; intro bx1 a w hk
  refine FW.lfun (y := .lit (.pointer (some ⟨bx1, 0, none⟩))) hk rfl rfl rfl rfl (FW.f_assign hk (FW.holds_nil _) rfl) ?_; clear hk; intro a w hk
  refine FW.lend (hK2 _ _ ?_); clear hK2 K'
  refine wp_ret ?_
  (repeat first | refine FW.then_ret ?_ | refine FW.block_ret ?_)
  obtain rfl := Option.some.inj h
  replace hk := FW.S.keep (I1 := [FW.blk bx1 45 ([fnav v0, .lit (.map (some r1))]), FW.mapI (.int .u64) (Value.int .u64) ApiChange.val r1 ([] : List (Int × ApiChange))]) (I2 := []) (js := [1, 1]) hk rfl
  exact FW.fretH1 hk rfl (FW.rtmp hk rfl) ⟨bx1, r1, rfl, rfl⟩

theorem tx_Tx_was.ok (K : Nat) (v0 : OTxTx) (v1 : Int) (r : List UInt8 × Bool) (h : tx_Tx_was.f K v0 v1 = some r) :
    ∀ (b0 : Nat) (xr0_1 : Nat), FW.OkH Go.Proofs.Try.prog 21 [.lit (.pointer (some ⟨b0, 0, none⟩)), .lit (.int .u64 v1)] (OTxTx.items b0 xr0_1 v0) (fun y I => y = .tup [.lit (.string (FW.B r.1)), .lit (.bool r.2)] ∧ I = OTxTx.items b0 xr0_1 v0) := by
  intro b0 xr0_1
  refine FW.enterH (xs := [.lit (.pointer (some ⟨b0, 0, none⟩)), .lit (.int .u64 v1)]) Go.Proofs.Try.func21 rfl Go.Proofs.Try.ntmps21 rfl ?_
  intro M w0 a hk
  replace hk : FW.S M w0 a w0.toWorld 19 [FW.blk b0 45 ([fnav v0.base, .lit (.map (some xr0_1))]), FW.mapI (.int .u64) (Value.int .u64) ApiChange.val xr0_1 v0.own] [(0, [], .lit (.pointer (some ⟨b0, 0, none⟩))), (1, [], .lit (.int .u64 v1))] := hk
  unfold tx_Tx_was.f at h
  refine FW.wreg ?_; intro K' hK1
  refine FW.lfun (y := .lit (.string (FW.B ([] : List UInt8)))) hk rfl rfl rfl rfl (FW.f_assign hk (FW.holds_nil _) rfl) ?_; clear hk; intro a w hk
  refine FW.lfun (y := .lit (.bool false)) hk rfl rfl rfl rfl (FW.f_assign hk (FW.holds_nil _) rfl) ?_; clear hk; intro a w hk
  refine FW.lend (hK1 _ _ ?_); clear hK1 K'
  refine FW.wseq ?_; intro K' hK2
  refine FW.wreg ?_; intro K' hK3
  refine FW.lfun (y := .lit (.pointer (some ⟨b0, 0, none⟩))) hk rfl rfl rfl rfl (FW.f_move hk (FW.holds_nil _) rfl) ?_; clear hk; intro a w hk
  refine FW.lfun (y := .lit (.pointer (some ⟨b0, 0, none⟩))) hk rfl rfl rfl rfl ((FW.f_pure (FW.p_nilCheck hk.kn (FW.holds_nil _) rfl))) ?_; clear hk; intro a w hk
  refine FW.lfun (y := .lit (.pointer (some ⟨b0, 0, none⟩))) hk rfl rfl rfl rfl (FW.f_fieldPtr hk (FW.holds_nil _) rfl Go.Proofs.Try.underlying45 rfl (by kernel_rfl) rfl) ?_; clear hk; intro a w hk
  refine FW.lfun (y := fnav v0.base) hk rfl rfl rfl rfl (FW.f_loadBlk1 hk (FW.holds_nil _) (j := 0) rfl rfl Go.Proofs.Try.underlying27 rfl rfl) ?_; clear hk; intro a w hk
  refine FW.lfun (y := .lit (.bool (Option.isNone v0.base))) hk rfl rfl rfl rfl ((FW.f_pure (FW.p_fnEq Go.Proofs.Try.underlying27 hk.kn (FW.holds_nil _) rfl rfl (fnav_nil _)))) ?_; clear hk; intro a w hk
  refine FW.lend (hK3 _ _ ?_); clear hK3 K'
  refine FW.wcondF (b := (Option.isNone v0.base)) hk h rfl (fun h hb => ?_) (fun h hb => ?_)
  · skip
    refine FW.wreg ?_; intro K' hK4
    refine FW.lfun (y := .lit (.string (FW.B ([] : List UInt8)))) hk rfl rfl rfl rfl (FW.f_assign hk (FW.holds_nil _) rfl) ?_; clear hk; intro a w hk
    refine FW.lfun (y := .lit (.bool false)) hk rfl rfl rfl rfl (FW.f_assign hk (FW.holds_nil _) rfl) ?_; clear hk; intro a w hk
    refine FW.lend (hK4 _ _ ?_); clear hK4 K'
    refine wp_ret ?_
    (repeat first | refine FW.then_ret ?_ | refine FW.block_ret ?_)
    obtain rfl := Option.some.inj h
    replace hk := FW.S.keep (I1 := [FW.blk b0 45 ([fnav v0.base, .lit (.map (some xr0_1))]), FW.mapI (.int .u64) (Value.int .u64) ApiChange.val xr0_1 v0.own]) (I2 := []) (js := [1, 1]) hk rfl
    exact FW.fretH2 hk rfl (FW.rtmp hk rfl) (FW.rtmp hk rfl) ⟨rfl, rfl⟩
  refine wp_skip ?_
  (repeat first | refine FW.then_normal ?_ | refine FW.block_normal ?_); refine hK2 _ _ ?_
  refine FW.wreg ?_; intro K' hK5
  refine FW.lfun (y := .lit (.pointer (some ⟨b0, 0, none⟩))) hk rfl rfl rfl rfl (FW.f_move hk (FW.holds_nil _) rfl) ?_; clear hk; intro a w hk
  refine FW.lfun (y := .lit (.pointer (some ⟨b0, 0, none⟩))) hk rfl rfl rfl rfl ((FW.f_pure (FW.p_nilCheck hk.kn (FW.holds_nil _) rfl))) ?_; clear hk; intro a w hk
  refine FW.lfun (y := .lit (.pointer (some ⟨b0, 0, none⟩))) hk rfl rfl rfl rfl (FW.f_fieldPtr hk (FW.holds_nil _) rfl Go.Proofs.Try.underlying45 rfl (by kernel_rfl) rfl) ?_; clear hk; intro a w hk
  refine FW.lfun (y := fnav v0.base) hk rfl rfl rfl rfl (FW.f_loadBlk1 hk (FW.holds_nil _) (j := 0) rfl rfl Go.Proofs.Try.underlying27 rfl rfl) ?_; clear hk; intro a w hk
  refine FW.lfun (y := .lit (.int .u64 v1)) hk rfl rfl rfl rfl (FW.f_move hk (FW.holds_nil _) rfl) ?_; clear hk; intro a w hk
  obtain ⟨q1, hl_q1, h⟩ := FW.bnd h
  obtain ⟨t1, hr_t1, h⟩ := FW.bnd h
  refine FW.lfun (y := .tup [.lit (.string (FW.B t1.1)), .lit (.bool t1.2)]) hk rfl rfl rfl rfl (FW.f_callClo hk (FW.holds_nil _) rfl (by rw [hl_q1]; rfl) rfl Go.Proofs.Try.func17 rfl (by kernel_rfl) (offshootlaw09_getter_1.ok K v1 q1 _ hr_t1)) ?_; clear hk; intro a w hk
  refine FW.lfun (y := .lit (.string (FW.B t1.1))) hk rfl rfl rfl rfl (FW.f_extract hk (FW.holds_nil _) rfl rfl) ?_; clear hk; intro a w hk
  refine FW.lfun (y := .lit (.bool t1.2)) hk rfl rfl rfl rfl (FW.f_extract hk (FW.holds_nil _) rfl rfl) ?_; clear hk; intro a w hk
  refine FW.lfun (y := .lit (.string (FW.B t1.1))) hk rfl rfl rfl rfl (FW.f_assign hk (FW.holds_nil _) rfl) ?_; clear hk; intro a w hk
  refine FW.lfun (y := .lit (.bool t1.2)) hk rfl rfl rfl rfl (FW.f_assign hk (FW.holds_nil _) rfl) ?_; clear hk; intro a w hk
  refine FW.lend (hK5 _ _ ?_); clear hK5 K'
  refine wp_ret ?_
  (repeat first | refine FW.then_ret ?_ | refine FW.block_ret ?_)
  obtain rfl := Option.some.inj h
  replace hk := FW.S.keep (I1 := [FW.blk b0 45 ([fnav v0.base, .lit (.map (some xr0_1))]), FW.mapI (.int .u64) (Value.int .u64) ApiChange.val xr0_1 v0.own]) (I2 := []) (js := [1, 1]) hk rfl
  exact FW.fretH2 hk rfl (FW.rtmp hk rfl) (FW.rtmp hk rfl) ⟨rfl, rfl⟩

theorem tx_Tx_Get.ok (K : Nat) (v0 : OTxTx) (v1 : Int) (r : List UInt8 × Bool) (h : tx_Tx_Get.f K v0 v1 = some r) :
    ∀ (b0 : Nat) (xr0_1 : Nat), FW.OkH Go.Proofs.Try.prog 14 [.lit (.pointer (some ⟨b0, 0, none⟩)), .lit (.int .u64 v1)] (OTxTx.items b0 xr0_1 v0) (fun y I => y = .tup [.lit (.string (FW.B r.1)), .lit (.bool r.2)] ∧ I = OTxTx.items b0 xr0_1 v0) := by
  intro b0 xr0_1
  refine FW.enterH (xs := [.lit (.pointer (some ⟨b0, 0, none⟩)), .lit (.int .u64 v1)]) Go.Proofs.Try.func14 rfl Go.Proofs.Try.ntmps14 rfl ?_
  intro M w0 a hk
  replace hk : FW.S M w0 a w0.toWorld 30 [FW.blk b0 45 ([fnav v0.base, .lit (.map (some xr0_1))]), FW.mapI (.int .u64) (Value.int .u64) ApiChange.val xr0_1 v0.own] [(0, [], .lit (.pointer (some ⟨b0, 0, none⟩))), (1, [], .lit (.int .u64 v1))] := hk
  unfold tx_Tx_Get.f at h
  refine FW.wreg ?_; intro K' hK1
  refine FW.lfun (y := .lit (.string (FW.B ([] : List UInt8)))) hk rfl rfl rfl rfl (FW.f_assign hk (FW.holds_nil _) rfl) ?_; clear hk; intro a w hk
  refine FW.lfun (y := .lit (.bool false)) hk rfl rfl rfl rfl (FW.f_assign hk (FW.holds_nil _) rfl) ?_; clear hk; intro a w hk
  refine FW.lend (hK1 _ _ ?_); clear hK1 K'
  refine FW.wseq ?_; intro K' hK2
  refine FW.wreg ?_; intro K' hK3
  refine FW.lfun (y := .lit (.pointer (some ⟨b0, 0, none⟩))) hk rfl rfl rfl rfl (FW.f_move hk (FW.holds_nil _) rfl) ?_; clear hk; intro a w hk
  refine FW.lfun (y := .lit (.bool false)) hk rfl rfl rfl rfl ((FW.f_pure (FW.p_ptrEq Go.Proofs.Try.underlying25 hk.kn (FW.holds_nil _) rfl rfl rfl))) ?_; clear hk; intro a w hk
  refine FW.lend (hK3 _ _ ?_); clear hK3 K'
  refine FW.wcondX hk rfl ?_
  refine wp_skip ?_
  (repeat first | refine FW.then_normal ?_ | refine FW.block_normal ?_); refine hK2 _ _ ?_
  refine FW.wseq ?_; intro K' hK4
  refine FW.wreg ?_; intro K' hK5
  refine FW.lfun (y := .lit (.pointer (some ⟨b0, 0, none⟩))) hk rfl rfl rfl rfl (FW.f_move hk (FW.holds_nil _) rfl) ?_; clear hk; intro a w hk
  refine FW.lfun (y := .lit (.pointer (some ⟨b0, 0, none⟩))) hk rfl rfl rfl rfl ((FW.f_pure (FW.p_nilCheck hk.kn (FW.holds_nil _) rfl))) ?_; clear hk; intro a w hk
  refine FW.lfun (y := .lit (.pointer (some ⟨b0, 1, none⟩))) hk rfl rfl rfl rfl (FW.f_fieldPtr hk (FW.holds_nil _) rfl Go.Proofs.Try.underlying45 rfl (by kernel_rfl) rfl) ?_; clear hk; intro a w hk
  refine FW.lfun (y := .lit (.map (some xr0_1))) hk rfl rfl rfl rfl (FW.f_loadBlk1 hk (FW.holds_nil _) (j := 0) rfl rfl Go.Proofs.Try.underlying43 rfl rfl) ?_; clear hk; intro a w hk
  refine FW.lfun (y := .lit (.int .u64 v1)) hk rfl rfl rfl rfl (FW.f_move hk (FW.holds_nil _) rfl) ?_; clear hk; intro a w hk
  refine FW.lfun (y := .tup [.agg ((ApiChange.cells ((FW.mget v0.own v1).getD (default : ApiChange)))), .lit (.bool ((FW.mget v0.own v1).isSome))]) hk rfl rfl rfl rfl (FW.f_lookup2A (z := (default : ApiChange)) (ev := ApiChange.val) (av := fun x => .agg (ApiChange.cells x)) ApiChange.rep hk (FW.holds_nil _) (j := 1) rfl rfl rfl Go.Proofs.Try.underlying43 Go.Proofs.Try.underlying29 (by kernel_rfl)) ?_; clear hk; intro a w hk
  refine FW.lfun (y := .tup [.agg ((ApiChange.cells ((FW.mget v0.own v1).getD (default : ApiChange)))), .lit (.bool ((FW.mget v0.own v1).isSome))]) hk rfl rfl rfl rfl (FW.f_move hk (FW.holds_nil _) rfl) ?_; clear hk; intro a w hk
  refine FW.lfun (y := .agg ((ApiChange.cells ((FW.mget v0.own v1).getD (default : ApiChange))))) hk rfl rfl rfl rfl (FW.f_extract hk (FW.holds_nil _) rfl rfl) ?_; clear hk; intro a w hk
  refine FW.lfun (y := .lit (.bool ((FW.mget v0.own v1).isSome))) hk rfl rfl rfl rfl (FW.f_extract hk (FW.holds_nil _) rfl rfl) ?_; clear hk; intro a w hk
  refine FW.l_alloc (zs := (ApiChange.cells (⟨0, [], false⟩ : ApiChange))) [] hk rfl rfl rfl rfl ?_; clear hk; intro bx1 a w hk
  refine FW.l_store (I' := [FW.blk bx1 31 ((ApiChange.cells ((FW.mget v0.own v1).getD (default : ApiChange)))), FW.blk b0 45 ([fnav v0.base, .lit (.map (some xr0_1))]), FW.mapI (.int .u64) (Value.int .u64) ApiChange.val xr0_1 v0.own]) (cs' := (ApiChange.cells ((FW.mget v0.own v1).getD (default : ApiChange)))) (j := 0) hk rfl rfl rfl rfl rfl (by kernel_rfl) rfl rfl ?_; clear hk; intro w hk
  refine FW.lfun (y := .lit (.bool ((FW.mget v0.own v1).isSome))) hk rfl rfl rfl rfl (FW.f_assign hk (FW.holds_nil _) rfl) ?_; clear hk; intro a w hk
  refine FW.lend (hK5 _ _ ?_); clear hK5 K'
  refine FW.wreg ?_; intro K' hK6
  refine FW.lfun (y := .lit (.bool ((FW.mget v0.own v1).isSome))) hk rfl rfl rfl rfl (FW.f_move hk (FW.holds_nil _) rfl) ?_; clear hk; intro a w hk
  refine FW.lend (hK6 _ _ ?_); clear hK6 K'
  refine FW.wcondF (b := (FW.mget v0.own v1).isSome) hk h rfl (fun h hb => ?_) (fun h hb => ?_)
  · skip
    refine FW.wdraw (by kernel_rfl) (by kernel_rfl) hk ?_; clear hk
    refine FW.dfun (y := .lit (.pointer (some ⟨bx1, 1, none⟩))) rfl rfl rfl rfl (fun a w hk => FW.f_fieldPtr hk (FW.holds_nil _) rfl Go.Proofs.Try.underlying31 rfl (by kernel_rfl) rfl) ?_
    refine FW.dfun (y := .lit (.string (FW.B (((FW.mget v0.own v1).getD (default : ApiChange)).S)))) rfl rfl rfl rfl (fun a w hk => FW.f_loadBlk1 hk (FW.holds_nil _) (j := 0) rfl rfl Go.Proofs.Try.underlying9 rfl rfl) ?_
    refine FW.dfun (y := .lit (.pointer (some ⟨bx1, 2, none⟩))) rfl rfl rfl rfl (fun a w hk => FW.f_fieldPtr hk (FW.holds_nil _) rfl Go.Proofs.Try.underlying31 rfl (by kernel_rfl) rfl) ?_
    refine FW.dfun (y := .lit (.bool (((FW.mget v0.own v1).getD (default : ApiChange)).Gone))) rfl rfl rfl rfl (fun a w hk => FW.f_loadBlk1 hk (FW.holds_nil _) (j := 0) rfl rfl Go.Proofs.Try.underlying4 rfl rfl) ?_
    refine FW.dfun (y := .lit (.bool (!(((FW.mget v0.own v1).getD (default : ApiChange)).Gone)))) rfl rfl rfl rfl (fun a w hk => (FW.f_pure (FW.p_not hk.kn (FW.holds_nil _) rfl))) ?_
    refine FW.dfun (y := .lit (.string (FW.B (((FW.mget v0.own v1).getD (default : ApiChange)).S)))) rfl rfl rfl rfl (fun a w hk => FW.f_assign hk (FW.holds_nil _) rfl) ?_
    refine FW.dfun (y := .lit (.bool (!(((FW.mget v0.own v1).getD (default : ApiChange)).Gone)))) rfl rfl rfl rfl (fun a w hk => FW.f_assign hk (FW.holds_nil _) rfl) ?_
    refine FW.dend ?_; intro a w hk
    refine wp_ret ?_
    (repeat first | refine FW.then_ret ?_ | refine FW.block_ret ?_)
    obtain rfl := Option.some.inj h
    replace hk := FW.S.keep (I1 := [FW.blk b0 45 ([fnav v0.base, .lit (.map (some xr0_1))]), FW.mapI (.int .u64) (Value.int .u64) ApiChange.val xr0_1 v0.own]) (I2 := [FW.blk bx1 31 ((ApiChange.cells ((FW.mget v0.own v1).getD (default : ApiChange))))]) (js := [2, 2]) hk rfl
    exact FW.fretH2 hk rfl (FW.rtmp hk rfl) (FW.rtmp hk rfl) ⟨rfl, rfl⟩
  refine wp_skip ?_
  (repeat first | refine FW.then_normal ?_ | refine FW.block_normal ?_); refine hK4 _ _ ?_
  refine FW.wreg ?_; intro K' hK8
  refine FW.lfun (y := .lit (.pointer (some ⟨b0, 0, none⟩))) hk rfl rfl rfl rfl (FW.f_move hk (FW.holds_nil _) rfl) ?_; clear hk; intro a w hk
  refine FW.lfun (y := .lit (.int .u64 v1)) hk rfl rfl rfl rfl (FW.f_move hk (FW.holds_nil _) rfl) ?_; clear hk; intro a w hk
  obtain ⟨t1, hr_t1, h⟩ := FW.bnd h
  refine FW.l_callH (I1 := (OTxTx.items b0 xr0_1 v0)) (I2 := [FW.blk bx1 31 ((ApiChange.cells ((FW.mget v0.own v1).getD (default : ApiChange))))]) (js := [2, 2]) hk rfl rfl rfl rfl rfl Go.Proofs.Try.func21 rfl (by kernel_rfl) (tx_Tx_was.ok K v0 v1 _ hr_t1 b0 xr0_1) ?_; clear hk
  rintro _ _ ⟨rfl, rfl⟩ a w hk
  refine FW.lfun (y := .lit (.string (FW.B t1.1))) hk rfl rfl rfl rfl (FW.f_extract hk (FW.holds_nil _) rfl rfl) ?_; clear hk; intro a w hk
  refine FW.lfun (y := .lit (.bool t1.2)) hk rfl rfl rfl rfl (FW.f_extract hk (FW.holds_nil _) rfl rfl) ?_; clear hk; intro a w hk
  refine FW.lfun (y := .lit (.string (FW.B t1.1))) hk rfl rfl rfl rfl (FW.f_assign hk (FW.holds_nil _) rfl) ?_; clear hk; intro a w hk
  refine FW.lfun (y := .lit (.bool t1.2)) hk rfl rfl rfl rfl (FW.f_assign hk (FW.holds_nil _) rfl) ?_; clear hk; intro a w hk
  refine FW.lend (hK8 _ _ ?_); clear hK8 K'
  refine wp_ret ?_
  (repeat first | refine FW.then_ret ?_ | refine FW.block_ret ?_)
  obtain rfl := Option.some.inj h
  replace hk := FW.S.keep (I1 := [FW.blk b0 45 ([fnav v0.base, .lit (.map (some xr0_1))]), FW.mapI (.int .u64) (Value.int .u64) ApiChange.val xr0_1 v0.own]) (I2 := [FW.blk bx1 31 ((ApiChange.cells ((FW.mget v0.own v1).getD (default : ApiChange))))]) (js := [1, 1]) hk rfl
  exact FW.fretH2 hk rfl (FW.rtmp hk rfl) (FW.rtmp hk rfl) ⟨rfl, rfl⟩

theorem tx_Tx_Put.ok  (v0 : OTxTx) (v1 : Int) (v2 : List UInt8) (r : OTxTx) (h : tx_Tx_Put.f v0 v1 v2 = some r) :
    ∀ (b0 : Nat) (xr0_1 : Nat), FW.OkH Go.Proofs.Try.prog 13 [.lit (.pointer (some ⟨b0, 0, none⟩)), .lit (.int .u64 v1), .lit (.string (FW.B v2))] (OTxTx.items b0 xr0_1 v0) (fun y I => ∃ (zxr0_1 : Nat), y = .tup [] ∧ I = OTxTx.items b0 zxr0_1 r) := by
  intro b0 xr0_1
  refine FW.enterH (xs := [.lit (.pointer (some ⟨b0, 0, none⟩)), .lit (.int .u64 v1), .lit (.string (FW.B v2))]) Go.Proofs.Try.func13 rfl Go.Proofs.Try.ntmps13 rfl ?_
  intro M w0 a hk
  replace hk : FW.S M w0 a w0.toWorld 16 [FW.blk b0 45 ([fnav v0.base, .lit (.map (some xr0_1))]), FW.mapI (.int .u64) (Value.int .u64) ApiChange.val xr0_1 v0.own] [(0, [], .lit (.pointer (some ⟨b0, 0, none⟩))), (1, [], .lit (.int .u64 v1)), (2, [], .lit (.string (FW.B v2)))] := hk
  unfold tx_Tx_Put.f at h
  refine FW.wreg ?_; intro K' hK1
  refine FW.lfun (y := .lit (.pointer (some ⟨b0, 0, none⟩))) hk rfl rfl rfl rfl (FW.f_move hk (FW.holds_nil _) rfl) ?_; clear hk; intro a w hk
  refine FW.lfun (y := .lit (.bool true)) hk rfl rfl rfl rfl ((FW.f_pure (FW.p_ptrNe Go.Proofs.Try.underlying25 hk.kn (FW.holds_nil _) rfl rfl rfl))) ?_; clear hk; intro a w hk
  refine FW.lend (hK1 _ _ ?_); clear hK1 K'
  refine FW.wcondT hk rfl ?_
  refine FW.wreg1 ?_
  refine FW.lfun (y := .lit (.pointer (some ⟨b0, 0, none⟩))) hk rfl rfl rfl rfl (FW.f_move hk (FW.holds_nil _) rfl) ?_; clear hk; intro a w hk
  refine FW.lfun (y := .lit (.pointer (some ⟨b0, 0, none⟩))) hk rfl rfl rfl rfl ((FW.f_pure (FW.p_nilCheck hk.kn (FW.holds_nil _) rfl))) ?_; clear hk; intro a w hk
  refine FW.lfun (y := .lit (.pointer (some ⟨b0, 1, none⟩))) hk rfl rfl rfl rfl (FW.f_fieldPtr hk (FW.holds_nil _) rfl Go.Proofs.Try.underlying45 rfl (by kernel_rfl) rfl) ?_; clear hk; intro a w hk
  refine FW.lfun (y := .lit (.map (some xr0_1))) hk rfl rfl rfl rfl (FW.f_loadBlk1 hk (FW.holds_nil _) (j := 0) rfl rfl Go.Proofs.Try.underlying43 rfl rfl) ?_; clear hk; intro a w hk
  refine FW.lfun (y := .lit (.int .u64 v1)) hk rfl rfl rfl rfl (FW.f_move hk (FW.holds_nil _) rfl) ?_; clear hk; intro a w hk
  refine FW.lfun (y := .lit (.int .u64 v1)) hk rfl rfl rfl rfl (FW.f_move hk (FW.holds_nil _) rfl) ?_; clear hk; intro a w hk
  refine FW.lfun (y := .lit (.string (FW.B v2))) hk rfl rfl rfl rfl (FW.f_move hk (FW.holds_nil _) rfl) ?_; clear hk; intro a w hk
  refine FW.lfun (y := .agg ((ApiChange.cells (⟨v1, v2, false⟩ : ApiChange)))) hk rfl rfl rfl rfl (FW.f_build hk (FW.holds_nil _) rfl rfl) ?_; clear hk; intro a w hk
  refine FW.l_mapUpdateA (ev := ApiChange.val) (I' := [FW.blk b0 45 ([fnav v0.base, .lit (.map (some xr0_1))]), FW.mapI (.int .u64) (Value.int .u64) ApiChange.val xr0_1 (FW.mput v0.own v1 (⟨v1, v2, false⟩ : ApiChange))]) (j := 1) hk rfl rfl rfl rfl ApiChange.uni Go.Proofs.Try.underlying43 Go.Proofs.Try.underlying29 rfl ?_; clear hk; intro w hk
  refine wpList_nil ?_
  (repeat first | refine FW.then_normal ?_ | refine FW.block_normal ?_)
  refine FW.fnorm ?_
  obtain rfl := Option.some.inj h
  replace hk := FW.S.keep (I1 := [FW.blk b0 45 ([fnav v0.base, .lit (.map (some xr0_1))]), FW.mapI (.int .u64) (Value.int .u64) ApiChange.val xr0_1 (FW.mput v0.own v1 (⟨v1, v2, false⟩ : ApiChange))]) (I2 := []) (js := [1, 1]) hk rfl
  exact FW.fretH0 hk rfl ⟨xr0_1, rfl, rfl⟩

theorem offshootlaw09_getter.ok  (v0 : List ApiBody) (r : Option (List ApiBody)) (h : offshootlaw09_getter.f v0 = some r) :
    FW.Ok Go.Proofs.Try.prog 7 [.row (r_ApiBody_cells v0)] (fnav r) := by
  refine FW.enter (xs := [.row (r_ApiBody_cells v0)]) Go.Proofs.Try.func7 rfl Go.Proofs.Try.ntmps7 rfl ?_
  intro M w0 a hk
  unfold offshootlaw09_getter.f at h
  refine FW.wreg ?_; intro K' hK1
  refine FW.l_box (cs := [.row (r_ApiBody_cells v0)]) hk rfl rfl rfl rfl rfl ?_; clear hk; intro bx1 a w hk
  refine FW.lfun (y := fnav none) hk rfl rfl rfl rfl (FW.f_assign hk (FW.holds_nil _) rfl) ?_; clear hk; intro a w hk
  refine FW.lend (hK1 _ _ ?_); clear hK1 K'
  refine FW.wreg ?_; intro K' hK2
  refine FW.l_makeClo (y := fnav (some v0)) (I' := []) hk rfl rfl (j := 0) rfl rfl rfl rfl ?_; clear hk; intro a hk
  refine FW.lfun (y := fnav (some v0)) hk rfl rfl rfl rfl (FW.f_assign hk (FW.holds_nil _) rfl) ?_; clear hk; intro a w hk
  refine FW.lend (hK2 _ _ ?_); clear hK2 K'
  refine wp_ret ?_
  (repeat first | refine FW.then_ret ?_ | refine FW.block_ret ?_)
  obtain rfl := Option.some.inj h
  exact FW.fret1 hk rfl rfl

theorem tx_Tx_Changes.ok (K : Nat) (v0 : OTxTx) (r : List ApiChange) (h : tx_Tx_Changes.f K v0 = some r) :
    ∀ (b0 : Nat) (xr0_1 : Nat), FW.OkH Go.Proofs.Try.prog 10 [.lit (.pointer (some ⟨b0, 0, none⟩))] (OTxTx.items b0 xr0_1 v0) (fun y I => y = .row (r_ApiChange_cells r) ∧ I = OTxTx.items b0 xr0_1 v0) := by
  intro b0 xr0_1
  refine FW.enterH (xs := [.lit (.pointer (some ⟨b0, 0, none⟩))]) Go.Proofs.Try.func10 rfl Go.Proofs.Try.ntmps10 rfl ?_
  intro M w0 a hk
  replace hk : FW.S M w0 a w0.toWorld 60 [FW.blk b0 45 ([fnav v0.base, .lit (.map (some xr0_1))]), FW.mapI (.int .u64) (Value.int .u64) ApiChange.val xr0_1 v0.own] [(0, [], .lit (.pointer (some ⟨b0, 0, none⟩)))] := hk
  unfold tx_Tx_Changes.f at h
  refine FW.wreg ?_; intro K' hK1
  refine FW.lfun (y := .row (r_ApiChange_cells [])) hk rfl rfl rfl rfl (FW.f_assignNil) ?_; clear hk; intro a w hk
  refine FW.lend (hK1 _ _ ?_); clear hK1 K'
  refine FW.wseq ?_; intro K' hK2
  refine FW.wreg ?_; intro K' hK3
  refine FW.lfun (y := .lit (.pointer (some ⟨b0, 0, none⟩))) hk rfl rfl rfl rfl (FW.f_move hk (FW.holds_nil _) rfl) ?_; clear hk; intro a w hk
  refine FW.lfun (y := .lit (.bool false)) hk rfl rfl rfl rfl ((FW.f_pure (FW.p_ptrEq Go.Proofs.Try.underlying25 hk.kn (FW.holds_nil _) rfl rfl rfl))) ?_; clear hk; intro a w hk
  refine FW.lend (hK3 _ _ ?_); clear hK3 K'
  refine FW.wcondX hk rfl ?_
  refine wp_skip ?_
  (repeat first | refine FW.then_normal ?_ | refine FW.block_normal ?_); refine hK2 _ _ ?_
  refine FW.wreg ?_; intro K' hK4
  refine FW.lfun (y := .lit (.slice none 0 0)) hk rfl rfl rfl rfl (FW.f_assign hk (FW.holds_nil _) rfl) ?_; clear hk; intro a w hk
  replace hk := hk.nilRow 31 3 ApiChange.cells (fun _ => rfl)
  refine FW.lend (hK4 _ _ ?_); clear hK4 K'
  refine FW.wseq ?_; intro K' hK5
  refine FW.wreg ?_; intro K' hK6
  refine FW.lfun (y := .lit (.pointer (some ⟨b0, 0, none⟩))) hk rfl rfl rfl rfl (FW.f_move hk (FW.holds_nil _) rfl) ?_; clear hk; intro a w hk
  refine FW.lfun (y := .lit (.pointer (some ⟨b0, 0, none⟩))) hk rfl rfl rfl rfl ((FW.f_pure (FW.p_nilCheck hk.kn (FW.holds_nil _) rfl))) ?_; clear hk; intro a w hk
  refine FW.lfun (y := .lit (.pointer (some ⟨b0, 1, none⟩))) hk rfl rfl rfl rfl (FW.f_fieldPtr hk (FW.holds_nil _) rfl Go.Proofs.Try.underlying45 rfl (by kernel_rfl) rfl) ?_; clear hk; intro a w hk
  refine FW.lfun (y := .lit (.map (some xr0_1))) hk rfl rfl rfl rfl (FW.f_loadBlk1 hk (FW.holds_nil _) (j := 1) rfl rfl Go.Proofs.Try.underlying43 rfl rfl) ?_; clear hk; intro a w hk
  refine FW.l_keysU hk rfl rfl rfl ?_; clear hk; intro bx1 a w hk
  obtain ⟨hc1, h⟩ := FW.chk h
  refine FW.l_sortedU (ev := ApiChange.val) (m := v0.own) (R := r_c_u64) (fun _ => rfl) hk rfl rfl (j := 3) (i := 0) rfl rfl rfl hc1 ?_; clear hk; intro a w hk
  refine FW.lfun (y := .lit (.int .i64 (List.length (FW.sortK v0.own) : Int))) hk rfl rfl rfl rfl (FW.f_len (R := r_c_u64) (f := c_u64) (l := (FW.sortK v0.own)) r_c_u64_eq Go.Proofs.Try.underlying49 hk (FW.holds_nil _) rfl) ?_; clear hk; intro a w hk
  refine FW.lfun (y := .lit (.int .i64 0)) hk rfl rfl rfl rfl (FW.f_move hk (FW.holds_nil _) rfl) ?_; clear hk; intro a w hk
  refine FW.lend (hK6 _ _ ?_); clear hK6 K'
  refine wp_block ?_
  refine FW.wloop (T := Nat × List ApiChange × List Int × Int × Int × Option Addr × Nat) (fun x a w => match x with | (kl1, l3, v16, v17, v18, xd3, xc3) => FW.S M w0 a w 60 [FW.orow xd3 xc3 31 3 ApiChange.cells l3, FW.blk b0 45 ([fnav v0.base, .lit (.map (some xr0_1))]), FW.mapI (.int .u64) (Value.int .u64) ApiChange.val xr0_1 v0.own] [(0, [], .lit (.pointer (some ⟨b0, 0, none⟩))), (3, [], .lit (.slice xd3 (List.length l3) xc3)), (16, [], .row (r_c_u64 v16)), (17, [], .lit (.int .i64 v17)), (18, [], .lit (.int .i64 v18))] ∧ tx_Tx_Changes.l1 K v0 kl1 l3 v16 v17 v18 = some r) (fun x => x.1) (K, ([] : List ApiChange), (FW.sortK v0.own), (List.length (FW.sortK v0.own) : Int), 0, none, 0) ⟨(hk.drop 0).sub ⟨rfl, rfl, rfl, rfl, rfl, trivial⟩, h⟩ ?_
  clear hk h
  rintro ⟨kl1, l3, v16, v17, v18, xd3, xc3⟩ a w ⟨hk, h⟩ K' hK7
  cases kl1 with
  | zero => simp [tx_Tx_Changes.l1] at h
  | succ kl1 =>
  rw [tx_Tx_Changes.l1.eq_2] at h
  refine FW.wreg ?_; intro K' hK8
  refine FW.lfun (y := .lit (.bool (decide (v18 < v17)))) hk rfl rfl rfl rfl ((FW.f_pure (FW.p_lss hk.kn (FW.holds_nil _) rfl rfl))) ?_; clear hk; intro a w hk
  refine FW.lend (hK8 _ _ ?_); clear hK8 K'
  refine FW.wseq ?_; intro K' hK9
  refine FW.wcondF (b := (decide (v18 < v17))) hk h rfl (fun h hb => ?_) (fun h hb => ?_)
  · skip
    refine wp_skip ?_
    (repeat first | refine FW.then_normal ?_ | refine FW.block_normal ?_); refine hK9 _ _ ?_
    refine FW.wseqJ (fun a w => ∃ (l3 : List ApiChange) (v16 : List Int) (v17 : Int) (v18 : Int) (xd3 : Option Addr) (xc3 : Nat), FW.S M w0 a w 60 [FW.blk b0 45 ([fnav v0.base, .lit (.map (some xr0_1))]), FW.mapI (.int .u64) (Value.int .u64) ApiChange.val xr0_1 v0.own, FW.orow xd3 xc3 31 3 ApiChange.cells l3] [(0, [], .lit (.pointer (some ⟨b0, 0, none⟩))), (3, [], .lit (.slice xd3 (List.length l3) xc3)), (16, [], .row (r_c_u64 v16)), (17, [], .lit (.int .i64 v17)), (18, [], .lit (.int .i64 v18))] ∧ tx_Tx_Changes.j1 (tx_Tx_Changes.l1 K v0 kl1) K v0 l3 v16 v17 v18 = some r) ?_ ?_
    · clear hk h
      rintro a w ⟨l3, v16, v17, v18, xd3, xc3, hk, h⟩
      unfold tx_Tx_Changes.j1 at h
      refine FW.wreg1 ?_
      refine FW.lfun (y := .lit (.int .i64 (IntKind.wrap .i64 (v18 + 1)))) hk rfl rfl rfl rfl ((FW.f_pure (FW.p_add hk.kn (FW.holds_nil _) rfl rfl))) ?_; clear hk; intro a w hk
      refine FW.lfun (y := .lit (.int .i64 (IntKind.wrap .i64 (v18 + 1)))) hk rfl rfl rfl rfl (FW.f_move hk (FW.holds_nil _) rfl) ?_; clear hk; intro a w hk
      refine wpList_nil ?_
      (repeat first | refine FW.then_normal ?_ | refine FW.block_normal ?_); exact hK7 (kl1, l3, v16, v17, (IntKind.wrap .i64 (v18 + 1)), xd3, xc3) _ _ (Nat.lt_succ_self _) ⟨(FW.S.pick hk (js := [1, 1, 2]) rfl).sub ⟨rfl, rfl, rfl, rfl, rfl, trivial⟩, h⟩
    · intro K' hK10
      refine wp_block ?_
      refine FW.wreg ?_; intro K' hK12
      obtain ⟨hc2, h⟩ := FW.chk h
      refine FW.lfun (y := .ref (c_u64 (List.getD v16 (Int.toNat v18) default))) hk rfl rfl rfl rfl (FW.f_indexAddr (R := r_c_u64) (f := c_u64) (l := v16) (sz := 1) r_c_u64_eq (fun _ => rfl) hk (FW.holds_nil _) rfl rfl Go.Proofs.Try.underlying49 (by kernel_rfl) hc2) ?_; clear hk; intro a w hk
      refine FW.lfun (y := .lit (.int .u64 (List.getD v16 (Int.toNat v18) default))) hk rfl rfl rfl rfl (FW.f_load1 hk (FW.holds_nil _) rfl rfl Go.Proofs.Try.underlying29 rfl) ?_; clear hk; intro a w hk
      refine FW.lfun (y := .lit (.int .u64 (List.getD v16 (Int.toNat v18) default))) hk rfl rfl rfl rfl (FW.f_assign hk (FW.holds_nil _) rfl) ?_; clear hk; intro a w hk
      refine FW.lend (hK12 _ _ ?_); clear hK12 K'
      refine FW.wreg ?_; intro K' hK13
      refine FW.lfun (y := .lit (.pointer (some ⟨b0, 0, none⟩))) hk rfl rfl rfl rfl (FW.f_move hk (FW.holds_nil _) rfl) ?_; clear hk; intro a w hk
      refine FW.lfun (y := .lit (.pointer (some ⟨b0, 0, none⟩))) hk rfl rfl rfl rfl ((FW.f_pure (FW.p_nilCheck hk.kn (FW.holds_nil _) rfl))) ?_; clear hk; intro a w hk
      refine FW.lfun (y := .lit (.pointer (some ⟨b0, 1, none⟩))) hk rfl rfl rfl rfl (FW.f_fieldPtr hk (FW.holds_nil _) rfl Go.Proofs.Try.underlying45 rfl (by kernel_rfl) rfl) ?_; clear hk; intro a w hk
      refine FW.lfun (y := .lit (.map (some xr0_1))) hk rfl rfl rfl rfl (FW.f_loadBlk1 hk (FW.holds_nil _) (j := 1) rfl rfl Go.Proofs.Try.underlying43 rfl rfl) ?_; clear hk; intro a w hk
      refine FW.lfun (y := .lit (.int .u64 (List.getD v16 (Int.toNat v18) default))) hk rfl rfl rfl rfl (FW.f_move hk (FW.holds_nil _) rfl) ?_; clear hk; intro a w hk
      refine FW.lfun (y := .agg ((ApiChange.cells ((FW.mget v0.own (List.getD v16 (Int.toNat v18) default)).getD (default : ApiChange))))) hk rfl rfl rfl rfl (FW.f_lookup1A (z := (default : ApiChange)) (ev := ApiChange.val) (av := fun x => .agg (ApiChange.cells x)) ApiChange.rep hk (FW.holds_nil _) (j := 2) rfl rfl rfl Go.Proofs.Try.underlying43 Go.Proofs.Try.underlying29 (by kernel_rfl)) ?_; clear hk; intro a w hk
      refine FW.l_alloc (zs := (ApiChange.cells (⟨0, [], false⟩ : ApiChange))) [] hk rfl rfl rfl rfl ?_; clear hk; intro bx2 a w hk
      refine FW.l_store (I' := [FW.blk bx2 31 ((ApiChange.cells ((FW.mget v0.own (List.getD v16 (Int.toNat v18) default)).getD (default : ApiChange)))), FW.orow xd3 xc3 31 3 ApiChange.cells l3, FW.blk b0 45 ([fnav v0.base, .lit (.map (some xr0_1))]), FW.mapI (.int .u64) (Value.int .u64) ApiChange.val xr0_1 v0.own]) (cs' := (ApiChange.cells ((FW.mget v0.own (List.getD v16 (Int.toNat v18) default)).getD (default : ApiChange)))) (j := 0) hk rfl rfl rfl rfl rfl (by kernel_rfl) rfl rfl ?_; clear hk; intro w hk
      refine FW.lend (hK13 _ _ ?_); clear hK13 K'
      refine FW.wreg ?_; intro K' hK14
      refine FW.lfun (y := .lit (.pointer (some ⟨b0, 0, none⟩))) hk rfl rfl rfl rfl (FW.f_move hk (FW.holds_nil _) rfl) ?_; clear hk; intro a w hk
      refine FW.lfun (y := .lit (.int .u64 (List.getD v16 (Int.toNat v18) default))) hk rfl rfl rfl rfl (FW.f_move hk (FW.holds_nil _) rfl) ?_; clear hk; intro a w hk
      obtain ⟨t1, hr_t1, h⟩ := FW.bnd h
      refine FW.l_callH (I1 := (OTxTx.items b0 xr0_1 v0)) (I2 := [FW.blk bx2 31 ((ApiChange.cells ((FW.mget v0.own (List.getD v16 (Int.toNat v18) default)).getD (default : ApiChange)))), FW.orow xd3 xc3 31 3 ApiChange.cells l3]) (js := [3, 3]) hk rfl rfl rfl rfl rfl Go.Proofs.Try.func21 rfl (by kernel_rfl) (tx_Tx_was.ok K v0 (List.getD v16 (Int.toNat v18) default) _ hr_t1 b0 xr0_1) ?_; clear hk
      rintro _ _ ⟨rfl, rfl⟩ a w hk
      refine FW.lfun (y := .tup [.lit (.string (FW.B t1.1)), .lit (.bool t1.2)]) hk rfl rfl rfl rfl (FW.f_move hk (FW.holds_nil _) rfl) ?_; clear hk; intro a w hk
      refine FW.lfun (y := .lit (.string (FW.B t1.1))) hk rfl rfl rfl rfl (FW.f_extract hk (FW.holds_nil _) rfl rfl) ?_; clear hk; intro a w hk
      refine FW.lfun (y := .lit (.bool t1.2)) hk rfl rfl rfl rfl (FW.f_extract hk (FW.holds_nil _) rfl rfl) ?_; clear hk; intro a w hk
      refine FW.lfun (y := .lit (.string (FW.B t1.1))) hk rfl rfl rfl rfl (FW.f_assign hk (FW.holds_nil _) rfl) ?_; clear hk; intro a w hk
      refine FW.lfun (y := .lit (.bool t1.2)) hk rfl rfl rfl rfl (FW.f_assign hk (FW.holds_nil _) rfl) ?_; clear hk; intro a w hk
      refine FW.lend (hK14 _ _ ?_); clear hK14 K'
      refine FW.wreg ?_; intro K' hK15
      refine FW.lfun (y := .lit (.pointer (some ⟨bx2, 2, none⟩))) hk rfl rfl rfl rfl (FW.f_fieldPtr hk (FW.holds_nil _) rfl Go.Proofs.Try.underlying31 rfl (by kernel_rfl) rfl) ?_; clear hk; intro a w hk
      refine FW.lfun (y := .lit (.bool (((FW.mget v0.own (List.getD v16 (Int.toNat v18) default)).getD (default : ApiChange)).Gone))) hk rfl rfl rfl rfl (FW.f_loadBlk1 hk (FW.holds_nil _) (j := 2) rfl rfl Go.Proofs.Try.underlying4 rfl rfl) ?_; clear hk; intro a w hk
      refine FW.lfun (y := .lit (.bool (((FW.mget v0.own (List.getD v16 (Int.toNat v18) default)).getD (default : ApiChange)).Gone))) hk rfl rfl rfl rfl (FW.f_move hk (FW.holds_nil _) rfl) ?_; clear hk; intro a w hk
      refine FW.lfunG (y := .lit (.bool t1.2)) hk rfl rfl rfl rfl rfl rfl rfl rfl (fun hc => FW.f_move hk hc rfl) ?_; clear hk; intro a w hk
      refine FW.lfun (y := .lit (.bool ((((FW.mget v0.own (List.getD v16 (Int.toNat v18) default)).getD (default : ApiChange)).Gone) && t1.2))) hk rfl rfl rfl rfl ((FW.f_pure (FW.p_pick_and hk.kn (FW.holds_nil _) rfl rfl))) ?_; clear hk; intro a w hk
      refine FW.lfun (y := .lit (.bool ((((FW.mget v0.own (List.getD v16 (Int.toNat v18) default)).getD (default : ApiChange)).Gone) && t1.2))) hk rfl rfl rfl rfl (FW.f_move hk (FW.holds_nil _) rfl) ?_; clear hk; intro a w hk
      refine FW.lfunG (y := .lit (.pointer (some ⟨bx2, 2, none⟩))) hk rfl rfl rfl rfl rfl rfl rfl rfl (fun hc => FW.f_fieldPtr hk hc rfl Go.Proofs.Try.underlying31 rfl (by kernel_rfl) rfl) ?_; clear hk; intro a w hk
      refine FW.lfunG (y := .lit (.bool (((FW.mget v0.own (List.getD v16 (Int.toNat v18) default)).getD (default : ApiChange)).Gone))) hk rfl rfl rfl rfl rfl rfl rfl rfl (fun hc => FW.f_loadBlk1 hk hc (j := 2) rfl rfl Go.Proofs.Try.underlying4 rfl rfl) ?_; clear hk; intro a w hk
      refine FW.lfunG (y := .lit (.bool (!(((FW.mget v0.own (List.getD v16 (Int.toNat v18) default)).getD (default : ApiChange)).Gone)))) hk rfl rfl rfl rfl rfl rfl rfl rfl (fun hc => (FW.f_pure (FW.p_not hk.kn hc rfl))) ?_; clear hk; intro a w hk
      refine FW.lfunG (y := .lit (.bool (!(((FW.mget v0.own (List.getD v16 (Int.toNat v18) default)).getD (default : ApiChange)).Gone)))) hk rfl rfl rfl rfl rfl rfl rfl rfl (fun hc => FW.f_move hk hc rfl) ?_; clear hk; intro a w hk
      refine FW.lfunG (y := .lit (.bool t1.2)) hk rfl rfl rfl rfl rfl rfl rfl rfl (fun hc => FW.f_move hk hc rfl) ?_; clear hk; intro a w hk
      refine FW.lfunG (y := .lit (.bool (!t1.2))) hk rfl rfl rfl rfl rfl rfl rfl rfl (fun hc => (FW.f_pure (FW.p_not hk.kn hc rfl))) ?_; clear hk; intro a w hk
      refine FW.lfunG (y := .lit (.bool (!t1.2))) hk rfl rfl rfl rfl rfl rfl rfl rfl (fun hc => FW.f_move hk hc rfl) ?_; clear hk; intro a w hk
      refine FW.lfunG (y := .lit (.string (FW.B t1.1))) hk rfl rfl rfl rfl rfl rfl rfl rfl (fun hc => FW.f_move hk hc rfl) ?_; clear hk; intro a w hk
      refine FW.lfunG (y := .lit (.pointer (some ⟨bx2, 1, none⟩))) hk rfl rfl rfl rfl rfl rfl rfl rfl (fun hc => FW.f_fieldPtr hk hc rfl Go.Proofs.Try.underlying31 rfl (by kernel_rfl) rfl) ?_; clear hk; intro a w hk
      refine FW.lfunG (y := .lit (.string (FW.B (((FW.mget v0.own (List.getD v16 (Int.toNat v18) default)).getD (default : ApiChange)).S)))) hk rfl rfl rfl rfl rfl rfl rfl rfl (fun hc => FW.f_loadBlk1 hk hc (j := 2) rfl rfl Go.Proofs.Try.underlying9 rfl rfl) ?_; clear hk; intro a w hk
      refine FW.lfunG (y := .lit (.bool (!decide (t1.1 = (((FW.mget v0.own (List.getD v16 (Int.toNat v18) default)).getD (default : ApiChange)).S))))) hk rfl rfl rfl rfl rfl rfl rfl rfl (fun hc => (FW.f_pure (FW.p_sneq hk.kn hc rfl rfl))) ?_; clear hk; intro a w hk
      refine FW.lfunG (y := .lit (.bool ((!t1.2) || (!decide (t1.1 = (((FW.mget v0.own (List.getD v16 (Int.toNat v18) default)).getD (default : ApiChange)).S)))))) hk rfl rfl rfl rfl rfl rfl rfl rfl (fun hc => (FW.f_pure (FW.p_pick_or hk.kn hc rfl rfl))) ?_; clear hk; intro a w hk
      refine FW.lfunG (y := .lit (.bool ((!(((FW.mget v0.own (List.getD v16 (Int.toNat v18) default)).getD (default : ApiChange)).Gone)) && ((!t1.2) || (!decide (t1.1 = (((FW.mget v0.own (List.getD v16 (Int.toNat v18) default)).getD (default : ApiChange)).S))))))) hk rfl rfl rfl rfl rfl rfl rfl rfl (fun hc => (FW.f_pure (FW.p_pick_and hk.kn hc rfl rfl))) ?_; clear hk; intro a w hk
      refine FW.lfun (y := .lit (.bool (((((FW.mget v0.own (List.getD v16 (Int.toNat v18) default)).getD (default : ApiChange)).Gone) && t1.2) || ((!(((FW.mget v0.own (List.getD v16 (Int.toNat v18) default)).getD (default : ApiChange)).Gone)) && ((!t1.2) || (!decide (t1.1 = (((FW.mget v0.own (List.getD v16 (Int.toNat v18) default)).getD (default : ApiChange)).S)))))))) hk rfl rfl rfl rfl ((FW.f_pure (FW.p_pick_or hk.kn (FW.holds_nil _) rfl rfl))) ?_; clear hk; intro a w hk
      refine FW.lend (hK15 _ _ ?_); clear hK15 K'
      refine FW.wcondF (b := (((((FW.mget v0.own (List.getD v16 (Int.toNat v18) default)).getD (default : ApiChange)).Gone) && t1.2) || ((!(((FW.mget v0.own (List.getD v16 (Int.toNat v18) default)).getD (default : ApiChange)).Gone)) && ((!t1.2) || (!decide (t1.1 = (((FW.mget v0.own (List.getD v16 (Int.toNat v18) default)).getD (default : ApiChange)).S))))))) hk h rfl (fun h hb => ?_) (fun h hb => ?_)
      · skip
        refine FW.wreg1 ?_
        refine FW.lfun (y := .lit (.slice xd3 (List.length l3) xc3)) hk rfl rfl rfl rfl (FW.f_move hk (FW.holds_nil _) rfl) ?_; clear hk; intro a w hk
        refine FW.lfun (y := .agg ((ApiChange.cells ((FW.mget v0.own (List.getD v16 (Int.toNat v18) default)).getD (default : ApiChange))))) hk rfl rfl rfl rfl (FW.f_loadBlk hk (FW.holds_nil _) (j := 2) rfl rfl Go.Proofs.Try.underlying31 rfl rfl rfl rfl) ?_; clear hk; intro a w hk
        refine FW.l_buildSlice (f := ApiChange.cells) (l := ([((FW.mget v0.own (List.getD v16 (Int.toNat v18) default)).getD (default : ApiChange))] : List ApiChange)) hk rfl rfl rfl Go.Proofs.Try.underlying22 rfl rfl rfl rfl (fun _ => rfl) rfl ?_; clear hk; intro bx3 a w hk
        obtain ⟨hc3, h⟩ := FW.chk h
        refine FW.l_append (l2 := ([((FW.mget v0.own (List.getD v16 (Int.toNat v18) default)).getD (default : ApiChange))] : List ApiChange)) (l3 := (l3 ++ ([((FW.mget v0.own (List.getD v16 (Int.toNat v18) default)).getD (default : ApiChange))] : List ApiChange))) (I' := fun ad1 cap1 => [FW.orow (some ⟨bx3, 0, none⟩) 1 31 3 ApiChange.cells ([((FW.mget v0.own (List.getD v16 (Int.toNat v18) default)).getD (default : ApiChange))] : List ApiChange), FW.blk b0 45 ([fnav v0.base, .lit (.map (some xr0_1))]), FW.mapI (.int .u64) (Value.int .u64) ApiChange.val xr0_1 v0.own, FW.blk bx2 31 ((ApiChange.cells ((FW.mget v0.own (List.getD v16 (Int.toNat v18) default)).getD (default : ApiChange)))), FW.orow ad1 cap1 31 3 ApiChange.cells (l3 ++ ([((FW.mget v0.own (List.getD v16 (Int.toNat v18) default)).getD (default : ApiChange))] : List ApiChange))]) (j := 4) hk rfl rfl rfl rfl (FW.own_src hk (j := 0) rfl rfl (fun _ => rfl) Go.Proofs.Try.underlying22) Go.Proofs.Try.underlying22 (by kernel_rfl) hc3 rfl (fun _ _ => rfl) ?_; clear hk; intro ad1 cap1 a w hk
        replace hk := FW.S.dropI (I' := [FW.blk b0 45 ([fnav v0.base, .lit (.map (some xr0_1))]), FW.mapI (.int .u64) (Value.int .u64) ApiChange.val xr0_1 v0.own, FW.blk bx2 31 ((ApiChange.cells ((FW.mget v0.own (List.getD v16 (Int.toNat v18) default)).getD (default : ApiChange)))), FW.orow ad1 cap1 31 3 ApiChange.cells (l3 ++ ([((FW.mget v0.own (List.getD v16 (Int.toNat v18) default)).getD (default : ApiChange))] : List ApiChange))]) hk 0 rfl
        refine FW.lfun (y := .lit (.slice ad1 (List.length (l3 ++ ([((FW.mget v0.own (List.getD v16 (Int.toNat v18) default)).getD (default : ApiChange))] : List ApiChange))) cap1)) hk rfl rfl rfl rfl (FW.f_assign hk (FW.holds_nil _) rfl) ?_; clear hk; intro a w hk
        refine wpList_nil ?_
        (repeat first | refine FW.then_normal ?_ | refine FW.block_normal ?_); exact hK10 _ _ ⟨(l3 ++ ([((FW.mget v0.own (List.getD v16 (Int.toNat v18) default)).getD (default : ApiChange))] : List ApiChange)), v16, v17, v18, ad1, cap1, (hk.drop 2).sub ⟨rfl, rfl, rfl, rfl, rfl, trivial⟩, h⟩
      refine wp_skip ?_
      (repeat first | refine FW.then_normal ?_ | refine FW.block_normal ?_); exact hK10 _ _ ⟨l3, v16, v17, v18, xd3, xc3, (hk.drop 2).sub ⟨rfl, rfl, rfl, rfl, rfl, trivial⟩, h⟩
  refine wp_exit ?_; (repeat first | refine FW.then_exit ?_ | refine FW.block_exit_ne rfl ?_); refine FW.block_exit ?_
  (repeat first | refine FW.then_normal ?_ | refine FW.block_normal ?_); refine hK5 _ _ ?_
  refine FW.wreg ?_; intro K' hK17
  refine FW.lfun (y := .lit (.slice xd3 (List.length l3) xc3)) hk rfl rfl rfl rfl (FW.f_move hk (FW.holds_nil _) rfl) ?_; clear hk; intro a w hk
  refine FW.lfun (y := .lit (.slice xd3 (List.length l3) xc3)) hk rfl rfl rfl rfl (FW.f_assign hk (FW.holds_nil _) rfl) ?_; clear hk; intro a w hk
  refine FW.lend (hK17 _ _ ?_); clear hK17 K'
  refine wp_ret ?_
  (repeat first | refine FW.then_ret ?_ | refine FW.block_ret ?_)
  replace hk := FW.S.freezeR (I' := [FW.blk b0 45 ([fnav v0.base, .lit (.map (some xr0_1))]), FW.mapI (.int .u64) (Value.int .u64) ApiChange.val xr0_1 v0.own]) r_ApiChange_cells_eq hk (j := 0) rfl (t := 2) rfl rfl
  obtain rfl := Option.some.inj h
  replace hk := FW.S.keep (I1 := [FW.blk b0 45 ([fnav v0.base, .lit (.map (some xr0_1))]), FW.mapI (.int .u64) (Value.int .u64) ApiChange.val xr0_1 v0.own]) (I2 := []) (js := [1, 1]) hk rfl
  exact FW.fretH1 hk rfl (FW.rtmp hk rfl) ⟨rfl, rfl⟩
end Go.Proofs.Ytaoffkhflmndhaa

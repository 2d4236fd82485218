/- Written by a program of this session (gen.py): the contracts of functions of the program. -/
import Derived.Test.YtaoffkhflmndhaaTxP0
namespace Go.Proofs.Ytaoffkhflmndhaa
set_option linter.unusedVariables false
set_option maxRecDepth 20000
set_option maxHeartbeats 10000000
theorem offshootlaw09_awake.ok (K : Nat)  (r : Bool) (h : offshootlaw09_awake.f K = some r) :
    FW.Ok Go.Proofs.Try.prog 11 [] (.lit (.bool r)) := by
  refine FW.enter (xs := []) Go.Proofs.Try.func11 rfl Go.Proofs.Try.ntmps11 rfl ?_
  intro M w0 a hk
  unfold offshootlaw09_awake.f at h
  refine FW.wreg ?_; intro K' hK1
  refine FW.lfun (y := .lit (.bool false)) hk rfl rfl rfl rfl (FW.f_assign hk (FW.holds_nil _) rfl) ?_; clear hk; intro a w hk
  refine FW.lend (hK1 _ _ ?_); clear hK1 K'
  refine FW.wreg ?_; intro K' hK2
  refine FW.lfun (y := .agg ((ApiBody.cells (⟨1, ([111, 110, 101] : List UInt8)⟩ : ApiBody)))) hk rfl rfl rfl rfl (FW.f_build hk (FW.holds_nil _) rfl rfl) ?_; clear hk; intro a w hk
  refine FW.l_buildSlice (f := ApiBody.cells) (l := ([(⟨1, ([111, 110, 101] : List UInt8)⟩ : ApiBody)] : List ApiBody)) hk rfl rfl rfl Go.Proofs.Try.underlying23 rfl rfl rfl rfl (fun _ => rfl) rfl ?_; clear hk; intro bx1 a w hk
  replace hk := (FW.S.freezeR (I' := []) r_ApiBody_cells_eq hk (j := 0) rfl (t := 7) rfl rfl).squash
  obtain ⟨t1, hr_t1, h⟩ := FW.bnd h
  refine FW.lfun (y := fnav t1) hk rfl rfl rfl rfl (FW.f_call hk (FW.holds_nil _) rfl rfl Go.Proofs.Try.func7 rfl (by kernel_rfl) (offshootlaw09_getter.ok ([(⟨1, ([111, 110, 101] : List UInt8)⟩ : ApiBody)] : List ApiBody) _ hr_t1)) ?_; clear hk; intro a w hk
  obtain ⟨t2, hr_t2, h⟩ := FW.bnd h
  refine FW.l_callH (I1 := ([] : List FW.It)) (I2 := []) (js := []) hk rfl rfl rfl rfl rfl Go.Proofs.Try.func6 rfl (by kernel_rfl) (tx_New.ok t1 _ hr_t2 ) ?_; clear hk
  rintro _ _ ⟨bx2, xrNt2_0_1, rfl, rfl⟩ a w hk
  refine FW.lfun (y := .lit (.pointer (some ⟨bx2, 0, none⟩))) hk rfl rfl rfl rfl (FW.f_assign hk (FW.holds_nil _) rfl) ?_; clear hk; intro a w hk
  refine FW.lend (hK2 _ _ ?_); clear hK2 K'
  refine FW.wreg ?_; intro K' hK3
  refine FW.lfun (y := .lit (.pointer (some ⟨bx2, 0, none⟩))) hk rfl rfl rfl rfl (FW.f_move hk (FW.holds_nil _) rfl) ?_; clear hk; intro a w hk
  obtain ⟨t3, hr_t3, h⟩ := FW.bnd h
  refine FW.l_callH (I1 := (OTxTx.items bx2 xrNt2_0_1 t2)) (I2 := []) (js := [1, 1]) hk rfl rfl rfl rfl rfl Go.Proofs.Try.func13 rfl (by kernel_rfl) (tx_Tx_Put.ok t2 2 ([116, 119, 111] : List UInt8) _ hr_t3 bx2 xrNt2_0_1) ?_; clear hk
  rintro _ _ ⟨zr1, rfl, rfl⟩ a w hk
  refine FW.lend (hK3 _ _ ?_); clear hK3 K'
  refine FW.wreg ?_; intro K' hK4
  refine FW.lfun (y := .lit (.pointer (some ⟨bx2, 0, none⟩))) hk rfl rfl rfl rfl (FW.f_move hk (FW.holds_nil _) rfl) ?_; clear hk; intro a w hk
  obtain ⟨t4, hr_t4, h⟩ := FW.bnd h
  refine FW.l_callH (I1 := (OTxTx.items bx2 zr1 t3)) (I2 := []) (js := [1, 1]) hk rfl rfl rfl rfl rfl Go.Proofs.Try.func14 rfl (by kernel_rfl) (tx_Tx_Get.ok K t3 1 _ hr_t4 bx2 zr1) ?_; clear hk
  rintro _ _ ⟨rfl, rfl⟩ a w hk
  refine FW.lfun (y := .tup [.lit (.string (FW.B t4.1)), .lit (.bool t4.2)]) hk rfl rfl rfl rfl (FW.f_move hk (FW.holds_nil _) rfl) ?_; clear hk; intro a w hk
  refine FW.lfun (y := .lit (.string (FW.B t4.1))) hk rfl rfl rfl rfl (FW.f_extract hk (FW.holds_nil _) rfl rfl) ?_; clear hk; intro a w hk
  refine FW.lfun (y := .lit (.bool t4.2)) hk rfl rfl rfl rfl (FW.f_extract hk (FW.holds_nil _) rfl rfl) ?_; clear hk; intro a w hk
  refine FW.lfun (y := .lit (.string (FW.B t4.1))) hk rfl rfl rfl rfl (FW.f_assign hk (FW.holds_nil _) rfl) ?_; clear hk; intro a w hk
  refine FW.lfun (y := .lit (.bool t4.2)) hk rfl rfl rfl rfl (FW.f_assign hk (FW.holds_nil _) rfl) ?_; clear hk; intro a w hk
  refine FW.lend (hK4 _ _ ?_); clear hK4 K'
  refine FW.wreg ?_; intro K' hK5
  refine FW.lfun (y := .lit (.pointer (some ⟨bx2, 0, none⟩))) hk rfl rfl rfl rfl (FW.f_move hk (FW.holds_nil _) rfl) ?_; clear hk; intro a w hk
  obtain ⟨t5, hr_t5, h⟩ := FW.bnd h
  refine FW.l_callH (I1 := (OTxTx.items bx2 zr1 t3)) (I2 := []) (js := [1, 1]) hk rfl rfl rfl rfl rfl Go.Proofs.Try.func14 rfl (by kernel_rfl) (tx_Tx_Get.ok K t3 2 _ hr_t5 bx2 zr1) ?_; clear hk
  rintro _ _ ⟨rfl, rfl⟩ a w hk
  refine FW.lfun (y := .tup [.lit (.string (FW.B t5.1)), .lit (.bool t5.2)]) hk rfl rfl rfl rfl (FW.f_move hk (FW.holds_nil _) rfl) ?_; clear hk; intro a w hk
  refine FW.lfun (y := .lit (.string (FW.B t5.1))) hk rfl rfl rfl rfl (FW.f_extract hk (FW.holds_nil _) rfl rfl) ?_; clear hk; intro a w hk
  refine FW.lfun (y := .lit (.bool t5.2)) hk rfl rfl rfl rfl (FW.f_extract hk (FW.holds_nil _) rfl rfl) ?_; clear hk; intro a w hk
  refine FW.lfun (y := .lit (.string (FW.B t5.1))) hk rfl rfl rfl rfl (FW.f_assign hk (FW.holds_nil _) rfl) ?_; clear hk; intro a w hk
  refine FW.lfun (y := .lit (.bool t5.2)) hk rfl rfl rfl rfl (FW.f_assign hk (FW.holds_nil _) rfl) ?_; clear hk; intro a w hk
  refine FW.lend (hK5 _ _ ?_); clear hK5 K'
  refine FW.wreg ?_; intro K' hK6
  refine FW.lfun (y := .lit (.bool t4.2)) hk rfl rfl rfl rfl (FW.f_move hk (FW.holds_nil _) rfl) ?_; clear hk; intro a w hk
  refine FW.lfun (y := .lit (.bool t4.2)) hk rfl rfl rfl rfl (FW.f_move hk (FW.holds_nil _) rfl) ?_; clear hk; intro a w hk
  refine FW.lfunG (y := .lit (.string (FW.B t4.1))) hk rfl rfl rfl rfl rfl rfl rfl rfl (fun hc => FW.f_move hk hc rfl) ?_; clear hk; intro a w hk
  refine FW.lfunG (y := .lit (.bool (decide (t4.1 = ([111, 110, 101] : List UInt8))))) hk rfl rfl rfl rfl rfl rfl rfl rfl (fun hc => (FW.f_pure (FW.p_seql hk.kn hc rfl rfl))) ?_; clear hk; intro a w hk
  refine FW.lfun (y := .lit (.bool (t4.2 && (decide (t4.1 = ([111, 110, 101] : List UInt8)))))) hk rfl rfl rfl rfl ((FW.f_pure (FW.p_pick_and hk.kn (FW.holds_nil _) rfl rfl))) ?_; clear hk; intro a w hk
  refine FW.lfun (y := .lit (.bool (t4.2 && (decide (t4.1 = ([111, 110, 101] : List UInt8)))))) hk rfl rfl rfl rfl (FW.f_move hk (FW.holds_nil _) rfl) ?_; clear hk; intro a w hk
  refine FW.lfunG (y := .lit (.bool t5.2)) hk rfl rfl rfl rfl rfl rfl rfl rfl (fun hc => FW.f_move hk hc rfl) ?_; clear hk; intro a w hk
  refine FW.lfun (y := .lit (.bool ((t4.2 && (decide (t4.1 = ([111, 110, 101] : List UInt8)))) && t5.2))) hk rfl rfl rfl rfl ((FW.f_pure (FW.p_pick_and hk.kn (FW.holds_nil _) rfl rfl))) ?_; clear hk; intro a w hk
  refine FW.lfun (y := .lit (.bool ((t4.2 && (decide (t4.1 = ([111, 110, 101] : List UInt8)))) && t5.2))) hk rfl rfl rfl rfl (FW.f_move hk (FW.holds_nil _) rfl) ?_; clear hk; intro a w hk
  refine FW.lfunG (y := .lit (.string (FW.B t5.1))) hk rfl rfl rfl rfl rfl rfl rfl rfl (fun hc => FW.f_move hk hc rfl) ?_; clear hk; intro a w hk
  refine FW.lfunG (y := .lit (.bool (decide (t5.1 = ([116, 119, 111] : List UInt8))))) hk rfl rfl rfl rfl rfl rfl rfl rfl (fun hc => (FW.f_pure (FW.p_seql hk.kn hc rfl rfl))) ?_; clear hk; intro a w hk
  refine FW.lfun (y := .lit (.bool (((t4.2 && (decide (t4.1 = ([111, 110, 101] : List UInt8)))) && t5.2) && (decide (t5.1 = ([116, 119, 111] : List UInt8)))))) hk rfl rfl rfl rfl ((FW.f_pure (FW.p_pick_and hk.kn (FW.holds_nil _) rfl rfl))) ?_; clear hk; intro a w hk
  refine FW.lfun (y := .lit (.bool (((t4.2 && (decide (t4.1 = ([111, 110, 101] : List UInt8)))) && t5.2) && (decide (t5.1 = ([116, 119, 111] : List UInt8)))))) hk rfl rfl rfl rfl (FW.f_move hk (FW.holds_nil _) rfl) ?_; clear hk; intro a w hk
  refine FW.lfunG (y := .lit (.pointer (some ⟨bx2, 0, none⟩))) hk rfl rfl rfl rfl rfl rfl rfl rfl (fun hc => FW.f_move hk hc rfl) ?_; clear hk; intro a w hk
  obtain ⟨t6, hr_t6, hn_t6, h⟩ := FW.bndG2 h
  refine FW.l_callHG (I1 := (OTxTx.items bx2 zr1 t3)) (I2 := []) (js := [1, 1]) hk rfl rfl rfl rfl rfl rfl rfl rfl rfl Go.Proofs.Try.func10 rfl (by kernel_rfl) (fun hc => tx_Tx_Changes.ok K t3 _ (hr_t6 (FW.asm_out (p := (((t4.2 && (decide (t4.1 = ([111, 110, 101] : List UInt8)))) && t5.2) && (decide (t5.1 = ([116, 119, 111] : List UInt8)))) = true) hk.kn hc (fun e0 => e0))) bx2 zr1) (fun hn => by obtain rfl := hn_t6 (fun hp => hn (FW.asm_in hk.kn (by have e0 := hp; exact ⟨e0, rfl, trivial⟩))); exact ⟨_, rfl, rfl⟩) ?_; clear hk
  rintro _ _ ⟨rfl, rfl⟩ a w hk
  refine FW.lfunG (y := .lit (.int .i64 (List.length t6 : Int))) hk rfl rfl rfl rfl rfl rfl rfl rfl (fun hc => FW.f_len (R := r_ApiChange_cells) (f := ApiChange.cells) (l := t6) r_ApiChange_cells_eq Go.Proofs.Try.underlying22 hk hc rfl) ?_; clear hk; intro a w hk
  refine FW.lfunG (y := .lit (.bool (decide ((List.length t6 : Int) = 1)))) hk rfl rfl rfl rfl rfl rfl rfl rfl (fun hc => (FW.f_pure (FW.p_eql hk.kn hc rfl rfl))) ?_; clear hk; intro a w hk
  refine FW.lfun (y := .lit (.bool ((((t4.2 && (decide (t4.1 = ([111, 110, 101] : List UInt8)))) && t5.2) && (decide (t5.1 = ([116, 119, 111] : List UInt8)))) && (decide ((List.length t6 : Int) = 1))))) hk rfl rfl rfl rfl ((FW.f_pure (FW.p_pick_and hk.kn (FW.holds_nil _) rfl rfl))) ?_; clear hk; intro a w hk
  refine FW.lfun (y := .lit (.bool ((((t4.2 && (decide (t4.1 = ([111, 110, 101] : List UInt8)))) && t5.2) && (decide (t5.1 = ([116, 119, 111] : List UInt8)))) && (decide ((List.length t6 : Int) = 1))))) hk rfl rfl rfl rfl (FW.f_assign hk (FW.holds_nil _) rfl) ?_; clear hk; intro a w hk
  refine FW.lend (hK6 _ _ ?_); clear hK6 K'
  refine wp_ret ?_
  (repeat first | refine FW.then_ret ?_ | refine FW.block_ret ?_)
  obtain rfl := Option.some.inj h
  exact FW.fret1 hk rfl rfl

theorem tx_Tx_Drop_nil.ok (K : Nat) (v1 : Int) (r : Bool) (h : tx_Tx_Drop_nil.f K v1 = some r) :
    FW.Ok Go.Proofs.Try.prog 15 [.lit (.pointer none), .lit (.int .u64 v1)] (.lit (.bool r)) := by
  refine FW.enter (xs := [.lit (.pointer none), .lit (.int .u64 v1)]) Go.Proofs.Try.func15 rfl Go.Proofs.Try.ntmps15 rfl ?_
  intro M w0 a hk
  unfold tx_Tx_Drop_nil.f at h
  refine FW.wreg ?_; intro K' hK1
  refine FW.lfun (y := .lit (.bool false)) hk rfl rfl rfl rfl (FW.f_assign hk (FW.holds_nil _) rfl) ?_; clear hk; intro a w hk
  refine FW.lend (hK1 _ _ ?_); clear hK1 K'
  refine FW.wseq ?_; intro K' hK2
  refine FW.wreg ?_; intro K' hK3
  refine FW.lfun (y := .lit (.pointer none)) hk rfl rfl rfl rfl (FW.f_move hk (FW.holds_nil _) rfl) ?_; clear hk; intro a w hk
  refine FW.lfun (y := .lit (.int .u64 v1)) hk rfl rfl rfl rfl (FW.f_move hk (FW.holds_nil _) rfl) ?_; clear hk; intro a w hk
  obtain ⟨t1, hr_t1, h⟩ := FW.bnd h
  refine FW.lfun (y := .tup [.lit (.string (FW.B t1.1)), .lit (.bool t1.2)]) hk rfl rfl rfl rfl (FW.f_call hk (FW.holds_nil _) rfl rfl Go.Proofs.Try.func14 rfl (by kernel_rfl) (tx_Tx_Get_nil.ok K v1 _ hr_t1)) ?_; clear hk; intro a w hk
  refine FW.lfun (y := .tup [.lit (.string (FW.B t1.1)), .lit (.bool t1.2)]) hk rfl rfl rfl rfl (FW.f_move hk (FW.holds_nil _) rfl) ?_; clear hk; intro a w hk
  refine FW.lfun (y := .lit (.string (FW.B t1.1))) hk rfl rfl rfl rfl (FW.f_extract hk (FW.holds_nil _) rfl rfl) ?_; clear hk; intro a w hk
  refine FW.lfun (y := .lit (.bool t1.2)) hk rfl rfl rfl rfl (FW.f_extract hk (FW.holds_nil _) rfl rfl) ?_; clear hk; intro a w hk
  refine FW.lfun (y := .lit (.string (FW.B t1.1))) hk rfl rfl rfl rfl (FW.f_assign hk (FW.holds_nil _) rfl) ?_; clear hk; intro a w hk
  refine FW.lfun (y := .lit (.bool t1.2)) hk rfl rfl rfl rfl (FW.f_assign hk (FW.holds_nil _) rfl) ?_; clear hk; intro a w hk
  refine FW.lend (hK3 _ _ ?_); clear hK3 K'
  refine FW.wreg ?_; intro K' hK4
  refine FW.lfun (y := .lit (.bool t1.2)) hk rfl rfl rfl rfl (FW.f_move hk (FW.holds_nil _) rfl) ?_; clear hk; intro a w hk
  refine FW.lfun (y := .lit (.bool (!t1.2))) hk rfl rfl rfl rfl ((FW.f_pure (FW.p_not hk.kn (FW.holds_nil _) rfl))) ?_; clear hk; intro a w hk
  refine FW.lend (hK4 _ _ ?_); clear hK4 K'
  refine FW.wcondF (b := (!t1.2)) hk h rfl (fun h hb => ?_) (fun h hb => ?_)
  · skip
    refine FW.wreg ?_; intro K' hK5
    refine FW.lfun (y := .lit (.bool false)) hk rfl rfl rfl rfl (FW.f_assign hk (FW.holds_nil _) rfl) ?_; clear hk; intro a w hk
    refine FW.lend (hK5 _ _ ?_); clear hK5 K'
    refine wp_ret ?_
    (repeat first | refine FW.then_ret ?_ | refine FW.block_ret ?_)
    obtain rfl := Option.some.inj h
    exact FW.fret1 hk rfl rfl
  cases h

theorem tx_Tx_Changes_nil.ok (K : Nat)  (r : List ApiChange) (h : tx_Tx_Changes_nil.f K = some r) :
    FW.Ok Go.Proofs.Try.prog 10 [.lit (.pointer none)] (.row (r_ApiChange_cells r)) := by
  refine FW.enter (xs := [.lit (.pointer none)]) Go.Proofs.Try.func10 rfl Go.Proofs.Try.ntmps10 rfl ?_
  intro M w0 a hk
  unfold tx_Tx_Changes_nil.f at h
  refine FW.wreg ?_; intro K' hK1
  refine FW.lfun (y := .row (r_ApiChange_cells [])) hk rfl rfl rfl rfl (FW.f_assignNil) ?_; clear hk; intro a w hk
  refine FW.lend (hK1 _ _ ?_); clear hK1 K'
  refine FW.wseq ?_; intro K' hK2
  refine FW.wreg ?_; intro K' hK3
  refine FW.lfun (y := .lit (.pointer none)) hk rfl rfl rfl rfl (FW.f_move hk (FW.holds_nil _) rfl) ?_; clear hk; intro a w hk
  refine FW.lfun (y := .lit (.bool true)) hk rfl rfl rfl rfl ((FW.f_pure (FW.p_ptrEq Go.Proofs.Try.underlying25 hk.kn (FW.holds_nil _) rfl rfl rfl))) ?_; clear hk; intro a w hk
  refine FW.lend (hK3 _ _ ?_); clear hK3 K'
  refine FW.wcondT hk rfl ?_
  refine FW.wreg ?_; intro K' hK4
  refine FW.lfun (y := .row (r_ApiChange_cells [])) hk rfl rfl rfl rfl (FW.f_assignNil) ?_; clear hk; intro a w hk
  refine FW.lend (hK4 _ _ ?_); clear hK4 K'
  refine wp_ret ?_
  (repeat first | refine FW.then_ret ?_ | refine FW.block_ret ?_)
  obtain rfl := Option.some.inj h
  exact FW.fret1 hk rfl rfl

theorem tx_Tx_Drop.ok (K : Nat) (v0 : OTxTx) (v1 : Int) (r : Bool × OTxTx) (h : tx_Tx_Drop.f K v0 v1 = some r) :
    ∀ (b0 : Nat) (xr0_1 : Nat), FW.OkH Go.Proofs.Try.prog 15 [.lit (.pointer (some ⟨b0, 0, none⟩)), .lit (.int .u64 v1)] (OTxTx.items b0 xr0_1 v0) (fun y I => ∃ (zxr0_1 : Nat), y = .lit (.bool r.1) ∧ I = OTxTx.items b0 zxr0_1 r.2) := by
  intro b0 xr0_1
  refine FW.enterH (xs := [.lit (.pointer (some ⟨b0, 0, none⟩)), .lit (.int .u64 v1)]) Go.Proofs.Try.func15 rfl Go.Proofs.Try.ntmps15 rfl ?_
  intro M w0 a hk
  replace hk : FW.S M w0 a w0.toWorld 22 [FW.blk b0 45 ([fnav v0.base, .lit (.map (some xr0_1))]), FW.mapI (.int .u64) (Value.int .u64) ApiChange.val xr0_1 v0.own] [(0, [], .lit (.pointer (some ⟨b0, 0, none⟩))), (1, [], .lit (.int .u64 v1))] := hk
  unfold tx_Tx_Drop.f at h
  refine FW.wreg ?_; intro K' hK1
  refine FW.lfun (y := .lit (.bool false)) hk rfl rfl rfl rfl (FW.f_assign hk (FW.holds_nil _) rfl) ?_; clear hk; intro a w hk
  refine FW.lend (hK1 _ _ ?_); clear hK1 K'
  refine FW.wseq ?_; intro K' hK2
  refine FW.wreg ?_; intro K' hK3
  refine FW.lfun (y := .lit (.pointer (some ⟨b0, 0, none⟩))) hk rfl rfl rfl rfl (FW.f_move hk (FW.holds_nil _) rfl) ?_; clear hk; intro a w hk
  refine FW.lfun (y := .lit (.int .u64 v1)) hk rfl rfl rfl rfl (FW.f_move hk (FW.holds_nil _) rfl) ?_; clear hk; intro a w hk
  obtain ⟨t1, hr_t1, h⟩ := FW.bnd h
  refine FW.l_callH (I1 := (OTxTx.items b0 xr0_1 v0)) (I2 := []) (js := [1, 1]) hk rfl rfl rfl rfl rfl Go.Proofs.Try.func14 rfl (by kernel_rfl) (tx_Tx_Get.ok K v0 v1 _ hr_t1 b0 xr0_1) ?_; clear hk
  rintro _ _ ⟨rfl, rfl⟩ a w hk
  refine FW.lfun (y := .tup [.lit (.string (FW.B t1.1)), .lit (.bool t1.2)]) hk rfl rfl rfl rfl (FW.f_move hk (FW.holds_nil _) rfl) ?_; clear hk; intro a w hk
  refine FW.lfun (y := .lit (.string (FW.B t1.1))) hk rfl rfl rfl rfl (FW.f_extract hk (FW.holds_nil _) rfl rfl) ?_; clear hk; intro a w hk
  refine FW.lfun (y := .lit (.bool t1.2)) hk rfl rfl rfl rfl (FW.f_extract hk (FW.holds_nil _) rfl rfl) ?_; clear hk; intro a w hk
  refine FW.lfun (y := .lit (.string (FW.B t1.1))) hk rfl rfl rfl rfl (FW.f_assign hk (FW.holds_nil _) rfl) ?_; clear hk; intro a w hk
  refine FW.lfun (y := .lit (.bool t1.2)) hk rfl rfl rfl rfl (FW.f_assign hk (FW.holds_nil _) rfl) ?_; clear hk; intro a w hk
  refine FW.lend (hK3 _ _ ?_); clear hK3 K'
  refine FW.wreg ?_; intro K' hK4
  refine FW.lfun (y := .lit (.bool t1.2)) hk rfl rfl rfl rfl (FW.f_move hk (FW.holds_nil _) rfl) ?_; clear hk; intro a w hk
  refine FW.lfun (y := .lit (.bool (!t1.2))) hk rfl rfl rfl rfl ((FW.f_pure (FW.p_not hk.kn (FW.holds_nil _) rfl))) ?_; clear hk; intro a w hk
  refine FW.lend (hK4 _ _ ?_); clear hK4 K'
  refine FW.wcondF (b := (!t1.2)) hk h rfl (fun h hb => ?_) (fun h hb => ?_)
  · skip
    refine FW.wreg ?_; intro K' hK5
    refine FW.lfun (y := .lit (.bool false)) hk rfl rfl rfl rfl (FW.f_assign hk (FW.holds_nil _) rfl) ?_; clear hk; intro a w hk
    refine FW.lend (hK5 _ _ ?_); clear hK5 K'
    refine wp_ret ?_
    (repeat first | refine FW.then_ret ?_ | refine FW.block_ret ?_)
    obtain rfl := Option.some.inj h
    replace hk := FW.S.keep (I1 := [FW.blk b0 45 ([fnav v0.base, .lit (.map (some xr0_1))]), FW.mapI (.int .u64) (Value.int .u64) ApiChange.val xr0_1 v0.own]) (I2 := []) (js := [1, 1]) hk rfl
    exact FW.fretH1 hk rfl (FW.rtmp hk rfl) ⟨xr0_1, rfl, rfl⟩
  refine wp_skip ?_
  (repeat first | refine FW.then_normal ?_ | refine FW.block_normal ?_); refine hK2 _ _ ?_
  refine FW.wreg ?_; intro K' hK6
  refine FW.lfun (y := .lit (.pointer (some ⟨b0, 0, none⟩))) hk rfl rfl rfl rfl (FW.f_move hk (FW.holds_nil _) rfl) ?_; clear hk; intro a w hk
  refine FW.lfun (y := .lit (.pointer (some ⟨b0, 0, none⟩))) hk rfl rfl rfl rfl ((FW.f_pure (FW.p_nilCheck hk.kn (FW.holds_nil _) rfl))) ?_; clear hk; intro a w hk
  refine FW.lfun (y := .lit (.pointer (some ⟨b0, 1, none⟩))) hk rfl rfl rfl rfl (FW.f_fieldPtr hk (FW.holds_nil _) rfl Go.Proofs.Try.underlying45 rfl (by kernel_rfl) rfl) ?_; clear hk; intro a w hk
  refine FW.lfun (y := .lit (.map (some xr0_1))) hk rfl rfl rfl rfl (FW.f_loadBlk1 hk (FW.holds_nil _) (j := 0) rfl rfl Go.Proofs.Try.underlying43 rfl rfl) ?_; clear hk; intro a w hk
  refine FW.lfun (y := .lit (.int .u64 v1)) hk rfl rfl rfl rfl (FW.f_move hk (FW.holds_nil _) rfl) ?_; clear hk; intro a w hk
  refine FW.lfun (y := .lit (.int .u64 v1)) hk rfl rfl rfl rfl (FW.f_move hk (FW.holds_nil _) rfl) ?_; clear hk; intro a w hk
  refine FW.lfun (y := .agg ((ApiChange.cells (⟨v1, [], true⟩ : ApiChange)))) hk rfl rfl rfl rfl (FW.f_build hk (FW.holds_nil _) rfl rfl) ?_; clear hk; intro a w hk
  refine FW.l_mapUpdateA (ev := ApiChange.val) (I' := [FW.blk b0 45 ([fnav v0.base, .lit (.map (some xr0_1))]), FW.mapI (.int .u64) (Value.int .u64) ApiChange.val xr0_1 (FW.mput v0.own v1 (⟨v1, [], true⟩ : ApiChange))]) (j := 1) hk rfl rfl rfl rfl ApiChange.uni Go.Proofs.Try.underlying43 Go.Proofs.Try.underlying29 rfl ?_; clear hk; intro w hk
  refine FW.lend (hK6 _ _ ?_); clear hK6 K'
  refine FW.wreg ?_; intro K' hK7
  refine FW.lfun (y := .lit (.bool true)) hk rfl rfl rfl rfl (FW.f_assign hk (FW.holds_nil _) rfl) ?_; clear hk; intro a w hk
  refine FW.lend (hK7 _ _ ?_); clear hK7 K'
  refine wp_ret ?_
  (repeat first | refine FW.then_ret ?_ | refine FW.block_ret ?_)
  obtain rfl := Option.some.inj h
  replace hk := FW.S.keep (I1 := [FW.blk b0 45 ([fnav v0.base, .lit (.map (some xr0_1))]), FW.mapI (.int .u64) (Value.int .u64) ApiChange.val xr0_1 (FW.mput v0.own v1 (⟨v1, [], true⟩ : ApiChange))]) (I2 := []) (js := [1, 1]) hk rfl
  exact FW.fretH1 hk rfl (FW.rtmp hk rfl) ⟨xr0_1, rfl, rfl⟩

theorem offshootlaw09_TxNone.ok (K : Nat) (v0 : Int) (v1 : List UInt8) (r : Bool) (h : offshootlaw09_TxNone.f K v0 v1 = some r) :
    FW.Ok Go.Proofs.Try.prog 4 [.lit (.int .u64 v0), .lit (.string (FW.B v1))] (.lit (.bool r)) := by
  refine FW.enter (xs := [.lit (.int .u64 v0), .lit (.string (FW.B v1))]) Go.Proofs.Try.func4 rfl Go.Proofs.Try.ntmps4 rfl ?_
  intro M w0 a hk
  unfold offshootlaw09_TxNone.f at h
  refine FW.wreg ?_; intro K' hK1
  refine FW.lfun (y := .lit (.bool false)) hk rfl rfl rfl rfl (FW.f_assign hk (FW.holds_nil _) rfl) ?_; clear hk; intro a w hk
  refine FW.lend (hK1 _ _ ?_); clear hK1 K'
  refine FW.wreg ?_; intro K' hK2
  refine FW.lfun (y := .lit (.pointer none)) hk rfl rfl rfl rfl (FW.f_assign hk (FW.holds_nil _) rfl) ?_; clear hk; intro a w hk
  refine FW.lend (hK2 _ _ ?_); clear hK2 K'
  refine FW.wreg ?_; intro K' hK3
  refine FW.lfun (y := .lit (.pointer none)) hk rfl rfl rfl rfl (FW.f_move hk (FW.holds_nil _) rfl) ?_; clear hk; intro a w hk
  refine FW.lfun (y := .lit (.int .u64 v0)) hk rfl rfl rfl rfl (FW.f_move hk (FW.holds_nil _) rfl) ?_; clear hk; intro a w hk
  refine FW.lfun (y := .lit (.string (FW.B v1))) hk rfl rfl rfl rfl (FW.f_move hk (FW.holds_nil _) rfl) ?_; clear hk; intro a w hk
  obtain ⟨t1, hr_t1, h⟩ := FW.bnd h
  refine FW.lfun (y := .tup []) hk rfl rfl rfl rfl (FW.f_call hk (FW.holds_nil _) rfl rfl Go.Proofs.Try.func13 rfl (by kernel_rfl) (tx_Tx_Put_nil.ok v0 v1 _ hr_t1)) ?_; clear hk; intro a w hk
  refine FW.lend (hK3 _ _ ?_); clear hK3 K'
  refine FW.wreg ?_; intro K' hK4
  refine FW.lfun (y := .lit (.pointer none)) hk rfl rfl rfl rfl (FW.f_move hk (FW.holds_nil _) rfl) ?_; clear hk; intro a w hk
  refine FW.lfun (y := .lit (.int .u64 v0)) hk rfl rfl rfl rfl (FW.f_move hk (FW.holds_nil _) rfl) ?_; clear hk; intro a w hk
  obtain ⟨t2, hr_t2, h⟩ := FW.bnd h
  refine FW.lfun (y := .tup [.lit (.string (FW.B t2.1)), .lit (.bool t2.2)]) hk rfl rfl rfl rfl (FW.f_call hk (FW.holds_nil _) rfl rfl Go.Proofs.Try.func14 rfl (by kernel_rfl) (tx_Tx_Get_nil.ok K v0 _ hr_t2)) ?_; clear hk; intro a w hk
  refine FW.lfun (y := .tup [.lit (.string (FW.B t2.1)), .lit (.bool t2.2)]) hk rfl rfl rfl rfl (FW.f_move hk (FW.holds_nil _) rfl) ?_; clear hk; intro a w hk
  refine FW.lfun (y := .lit (.string (FW.B t2.1))) hk rfl rfl rfl rfl (FW.f_extract hk (FW.holds_nil _) rfl rfl) ?_; clear hk; intro a w hk
  refine FW.lfun (y := .lit (.bool t2.2)) hk rfl rfl rfl rfl (FW.f_extract hk (FW.holds_nil _) rfl rfl) ?_; clear hk; intro a w hk
  refine FW.lfun (y := .lit (.string (FW.B t2.1))) hk rfl rfl rfl rfl (FW.f_assign hk (FW.holds_nil _) rfl) ?_; clear hk; intro a w hk
  refine FW.lfun (y := .lit (.bool t2.2)) hk rfl rfl rfl rfl (FW.f_assign hk (FW.holds_nil _) rfl) ?_; clear hk; intro a w hk
  refine FW.lend (hK4 _ _ ?_); clear hK4 K'
  refine FW.wreg ?_; intro K' hK5
  obtain ⟨t3, hr_t3, h⟩ := FW.bnd h
  refine FW.l_callH (I1 := ([] : List FW.It)) (I2 := []) (js := []) hk rfl rfl rfl rfl rfl Go.Proofs.Try.func6 rfl (by kernel_rfl) (tx_New.ok none _ hr_t3 ) ?_; clear hk
  rintro _ _ ⟨bx1, xrNt3_0_1, rfl, rfl⟩ a w hk
  refine FW.lfun (y := .lit (.pointer (some ⟨bx1, 0, none⟩))) hk rfl rfl rfl rfl (FW.f_assign hk (FW.holds_nil _) rfl) ?_; clear hk; intro a w hk
  refine FW.lend (hK5 _ _ ?_); clear hK5 K'
  refine FW.wreg ?_; intro K' hK6
  refine FW.lfun (y := .lit (.pointer (some ⟨bx1, 0, none⟩))) hk rfl rfl rfl rfl (FW.f_move hk (FW.holds_nil _) rfl) ?_; clear hk; intro a w hk
  refine FW.lfun (y := .lit (.int .u64 v0)) hk rfl rfl rfl rfl (FW.f_move hk (FW.holds_nil _) rfl) ?_; clear hk; intro a w hk
  obtain ⟨t4, hr_t4, h⟩ := FW.bnd h
  refine FW.l_callH (I1 := (OTxTx.items bx1 xrNt3_0_1 t3)) (I2 := []) (js := [1, 1]) hk rfl rfl rfl rfl rfl Go.Proofs.Try.func14 rfl (by kernel_rfl) (tx_Tx_Get.ok K t3 v0 _ hr_t4 bx1 xrNt3_0_1) ?_; clear hk
  rintro _ _ ⟨rfl, rfl⟩ a w hk
  refine FW.lfun (y := .tup [.lit (.string (FW.B t4.1)), .lit (.bool t4.2)]) hk rfl rfl rfl rfl (FW.f_move hk (FW.holds_nil _) rfl) ?_; clear hk; intro a w hk
  refine FW.lfun (y := .lit (.string (FW.B t4.1))) hk rfl rfl rfl rfl (FW.f_extract hk (FW.holds_nil _) rfl rfl) ?_; clear hk; intro a w hk
  refine FW.lfun (y := .lit (.bool t4.2)) hk rfl rfl rfl rfl (FW.f_extract hk (FW.holds_nil _) rfl rfl) ?_; clear hk; intro a w hk
  refine FW.lfun (y := .lit (.string (FW.B t4.1))) hk rfl rfl rfl rfl (FW.f_assign hk (FW.holds_nil _) rfl) ?_; clear hk; intro a w hk
  refine FW.lfun (y := .lit (.bool t4.2)) hk rfl rfl rfl rfl (FW.f_assign hk (FW.holds_nil _) rfl) ?_; clear hk; intro a w hk
  refine FW.lend (hK6 _ _ ?_); clear hK6 K'
  refine FW.wreg ?_; intro K' hK7
  refine FW.lfun (y := .lit (.pointer (some ⟨bx1, 0, none⟩))) hk rfl rfl rfl rfl (FW.f_move hk (FW.holds_nil _) rfl) ?_; clear hk; intro a w hk
  refine FW.lfun (y := .lit (.int .u64 v0)) hk rfl rfl rfl rfl (FW.f_move hk (FW.holds_nil _) rfl) ?_; clear hk; intro a w hk
  refine FW.lfun (y := .lit (.string (FW.B v1))) hk rfl rfl rfl rfl (FW.f_move hk (FW.holds_nil _) rfl) ?_; clear hk; intro a w hk
  obtain ⟨t5, hr_t5, h⟩ := FW.bnd h
  refine FW.l_callH (I1 := (OTxTx.items bx1 xrNt3_0_1 t3)) (I2 := []) (js := [1, 1]) hk rfl rfl rfl rfl rfl Go.Proofs.Try.func13 rfl (by kernel_rfl) (tx_Tx_Put.ok t3 v0 v1 _ hr_t5 bx1 xrNt3_0_1) ?_; clear hk
  rintro _ _ ⟨zr1, rfl, rfl⟩ a w hk
  refine FW.lend (hK7 _ _ ?_); clear hK7 K'
  refine FW.wreg ?_; intro K' hK8
  refine FW.lfun (y := .lit (.pointer (some ⟨bx1, 0, none⟩))) hk rfl rfl rfl rfl (FW.f_move hk (FW.holds_nil _) rfl) ?_; clear hk; intro a w hk
  refine FW.lfun (y := .lit (.int .u64 v0)) hk rfl rfl rfl rfl (FW.f_move hk (FW.holds_nil _) rfl) ?_; clear hk; intro a w hk
  obtain ⟨t6, hr_t6, h⟩ := FW.bnd h
  refine FW.l_callH (I1 := (OTxTx.items bx1 zr1 t5)) (I2 := []) (js := [1, 1]) hk rfl rfl rfl rfl rfl Go.Proofs.Try.func14 rfl (by kernel_rfl) (tx_Tx_Get.ok K t5 v0 _ hr_t6 bx1 zr1) ?_; clear hk
  rintro _ _ ⟨rfl, rfl⟩ a w hk
  refine FW.lfun (y := .tup [.lit (.string (FW.B t6.1)), .lit (.bool t6.2)]) hk rfl rfl rfl rfl (FW.f_move hk (FW.holds_nil _) rfl) ?_; clear hk; intro a w hk
  refine FW.lfun (y := .lit (.string (FW.B t6.1))) hk rfl rfl rfl rfl (FW.f_extract hk (FW.holds_nil _) rfl rfl) ?_; clear hk; intro a w hk
  refine FW.lfun (y := .lit (.bool t6.2)) hk rfl rfl rfl rfl (FW.f_extract hk (FW.holds_nil _) rfl rfl) ?_; clear hk; intro a w hk
  refine FW.lfun (y := .lit (.string (FW.B t6.1))) hk rfl rfl rfl rfl (FW.f_assign hk (FW.holds_nil _) rfl) ?_; clear hk; intro a w hk
  refine FW.lfun (y := .lit (.bool t6.2)) hk rfl rfl rfl rfl (FW.f_assign hk (FW.holds_nil _) rfl) ?_; clear hk; intro a w hk
  refine FW.lend (hK8 _ _ ?_); clear hK8 K'
  refine FW.wreg ?_; intro K' hK9
  obtain ⟨t7, hr_t7, h⟩ := FW.bnd h
  refine FW.lfun (y := .lit (.bool t7)) hk rfl rfl rfl rfl (FW.f_call hk (FW.holds_nil _) rfl rfl Go.Proofs.Try.func11 rfl (by kernel_rfl) (offshootlaw09_awake.ok K  _ hr_t7)) ?_; clear hk; intro a w hk
  refine FW.lfun (y := .lit (.bool t7)) hk rfl rfl rfl rfl (FW.f_move hk (FW.holds_nil _) rfl) ?_; clear hk; intro a w hk
  refine FW.lfunG (y := .lit (.bool t2.2)) hk rfl rfl rfl rfl rfl rfl rfl rfl (fun hc => FW.f_move hk hc rfl) ?_; clear hk; intro a w hk
  refine FW.lfunG (y := .lit (.bool (!t2.2))) hk rfl rfl rfl rfl rfl rfl rfl rfl (fun hc => (FW.f_pure (FW.p_not hk.kn hc rfl))) ?_; clear hk; intro a w hk
  refine FW.lfun (y := .lit (.bool (t7 && (!t2.2)))) hk rfl rfl rfl rfl ((FW.f_pure (FW.p_pick_and hk.kn (FW.holds_nil _) rfl rfl))) ?_; clear hk; intro a w hk
  refine FW.lfun (y := .lit (.bool (t7 && (!t2.2)))) hk rfl rfl rfl rfl (FW.f_move hk (FW.holds_nil _) rfl) ?_; clear hk; intro a w hk
  refine FW.lfunG (y := .lit (.pointer none)) hk rfl rfl rfl rfl rfl rfl rfl rfl (fun hc => FW.f_move hk hc rfl) ?_; clear hk; intro a w hk
  refine FW.lfunG (y := .lit (.int .u64 v0)) hk rfl rfl rfl rfl rfl rfl rfl rfl (fun hc => FW.f_move hk hc rfl) ?_; clear hk; intro a w hk
  obtain ⟨t8, hr_t8, h⟩ := FW.bndG h
  refine FW.lfunG (y := .lit (.bool t8)) hk rfl rfl rfl rfl rfl rfl rfl rfl (fun hc => FW.f_call hk hc rfl rfl Go.Proofs.Try.func15 rfl (by kernel_rfl) (tx_Tx_Drop_nil.ok K v0 _ (hr_t8 (FW.asm_out (p := (t7 && (!t2.2)) = true) hk.kn hc (fun e0 => e0))))) ?_; clear hk; intro a w hk
  refine FW.lfunG (y := .lit (.bool (!t8))) hk rfl rfl rfl rfl rfl rfl rfl rfl (fun hc => (FW.f_pure (FW.p_not hk.kn hc rfl))) ?_; clear hk; intro a w hk
  refine FW.lfun (y := .lit (.bool ((t7 && (!t2.2)) && (!t8)))) hk rfl rfl rfl rfl ((FW.f_pure (FW.p_pick_and hk.kn (FW.holds_nil _) rfl rfl))) ?_; clear hk; intro a w hk
  refine FW.lfun (y := .lit (.bool ((t7 && (!t2.2)) && (!t8)))) hk rfl rfl rfl rfl (FW.f_move hk (FW.holds_nil _) rfl) ?_; clear hk; intro a w hk
  refine FW.lfunG (y := .lit (.pointer none)) hk rfl rfl rfl rfl rfl rfl rfl rfl (fun hc => FW.f_move hk hc rfl) ?_; clear hk; intro a w hk
  obtain ⟨t9, hr_t9, h⟩ := FW.bndG h
  refine FW.lfunG (y := .row (r_ApiChange_cells t9)) hk rfl rfl rfl rfl rfl rfl rfl rfl (fun hc => FW.f_call hk hc rfl rfl Go.Proofs.Try.func10 rfl (by kernel_rfl) (tx_Tx_Changes_nil.ok K  _ (hr_t9 (FW.asm_out (p := ((t7 && (!t2.2)) && (!t8)) = true) hk.kn hc (fun e0 => e0))))) ?_; clear hk; intro a w hk
  refine FW.lfunG (y := .lit (.int .i64 (List.length t9 : Int))) hk rfl rfl rfl rfl rfl rfl rfl rfl (fun hc => FW.f_len (R := r_ApiChange_cells) (f := ApiChange.cells) (l := t9) r_ApiChange_cells_eq Go.Proofs.Try.underlying22 hk hc rfl) ?_; clear hk; intro a w hk
  refine FW.lfunG (y := .lit (.bool (decide ((List.length t9 : Int) = 0)))) hk rfl rfl rfl rfl rfl rfl rfl rfl (fun hc => (FW.f_pure (FW.p_eql hk.kn hc rfl rfl))) ?_; clear hk; intro a w hk
  refine FW.lfun (y := .lit (.bool (((t7 && (!t2.2)) && (!t8)) && (decide ((List.length t9 : Int) = 0))))) hk rfl rfl rfl rfl ((FW.f_pure (FW.p_pick_and hk.kn (FW.holds_nil _) rfl rfl))) ?_; clear hk; intro a w hk
  refine FW.lfun (y := .lit (.bool (((t7 && (!t2.2)) && (!t8)) && (decide ((List.length t9 : Int) = 0))))) hk rfl rfl rfl rfl (FW.f_move hk (FW.holds_nil _) rfl) ?_; clear hk; intro a w hk
  refine FW.lfunG (y := .lit (.pointer none)) hk rfl rfl rfl rfl rfl rfl rfl rfl (fun hc => FW.f_move hk hc rfl) ?_; clear hk; intro a w hk
  refine FW.lfunG (y := .lit (.pointer none)) hk rfl rfl rfl rfl rfl rfl rfl rfl (fun hc => FW.f_call hk hc rfl rfl Go.Proofs.Try.func16 rfl (by kernel_rfl) copyNil.ok) ?_; clear hk; intro a w hk
  refine FW.lfunG (y := .lit (.bool true)) hk rfl rfl rfl rfl rfl rfl rfl rfl (fun hc => (FW.f_pure (FW.p_ptrEq Go.Proofs.Try.underlying25 hk.kn hc rfl rfl rfl))) ?_; clear hk; intro a w hk
  refine FW.lfun (y := .lit (.bool ((((t7 && (!t2.2)) && (!t8)) && (decide ((List.length t9 : Int) = 0))) && true))) hk rfl rfl rfl rfl ((FW.f_pure (FW.p_pick_and hk.kn (FW.holds_nil _) rfl rfl))) ?_; clear hk; intro a w hk
  refine FW.lfun (y := .lit (.bool ((((t7 && (!t2.2)) && (!t8)) && (decide ((List.length t9 : Int) = 0))) && true))) hk rfl rfl rfl rfl (FW.f_move hk (FW.holds_nil _) rfl) ?_; clear hk; intro a w hk
  refine FW.lfunG (y := .lit (.bool t4.2)) hk rfl rfl rfl rfl rfl rfl rfl rfl (fun hc => FW.f_move hk hc rfl) ?_; clear hk; intro a w hk
  refine FW.lfunG (y := .lit (.bool (!t4.2))) hk rfl rfl rfl rfl rfl rfl rfl rfl (fun hc => (FW.f_pure (FW.p_not hk.kn hc rfl))) ?_; clear hk; intro a w hk
  refine FW.lfun (y := .lit (.bool (((((t7 && (!t2.2)) && (!t8)) && (decide ((List.length t9 : Int) = 0))) && true) && (!t4.2)))) hk rfl rfl rfl rfl ((FW.f_pure (FW.p_pick_and hk.kn (FW.holds_nil _) rfl rfl))) ?_; clear hk; intro a w hk
  refine FW.lfun (y := .lit (.bool (((((t7 && (!t2.2)) && (!t8)) && (decide ((List.length t9 : Int) = 0))) && true) && (!t4.2)))) hk rfl rfl rfl rfl (FW.f_move hk (FW.holds_nil _) rfl) ?_; clear hk; intro a w hk
  refine FW.lfunG (y := .lit (.bool t6.2)) hk rfl rfl rfl rfl rfl rfl rfl rfl (fun hc => FW.f_move hk hc rfl) ?_; clear hk; intro a w hk
  refine FW.lfun (y := .lit (.bool ((((((t7 && (!t2.2)) && (!t8)) && (decide ((List.length t9 : Int) = 0))) && true) && (!t4.2)) && t6.2))) hk rfl rfl rfl rfl ((FW.f_pure (FW.p_pick_and hk.kn (FW.holds_nil _) rfl rfl))) ?_; clear hk; intro a w hk
  refine FW.lfun (y := .lit (.bool ((((((t7 && (!t2.2)) && (!t8)) && (decide ((List.length t9 : Int) = 0))) && true) && (!t4.2)) && t6.2))) hk rfl rfl rfl rfl (FW.f_move hk (FW.holds_nil _) rfl) ?_; clear hk; intro a w hk
  refine FW.lfunG (y := .lit (.string (FW.B t6.1))) hk rfl rfl rfl rfl rfl rfl rfl rfl (fun hc => FW.f_move hk hc rfl) ?_; clear hk; intro a w hk
  refine FW.lfunG (y := .lit (.string (FW.B v1))) hk rfl rfl rfl rfl rfl rfl rfl rfl (fun hc => FW.f_move hk hc rfl) ?_; clear hk; intro a w hk
  refine FW.lfunG (y := .lit (.bool (decide (t6.1 = v1)))) hk rfl rfl rfl rfl rfl rfl rfl rfl (fun hc => (FW.f_pure (FW.p_seql hk.kn hc rfl rfl))) ?_; clear hk; intro a w hk
  refine FW.lfun (y := .lit (.bool (((((((t7 && (!t2.2)) && (!t8)) && (decide ((List.length t9 : Int) = 0))) && true) && (!t4.2)) && t6.2) && (decide (t6.1 = v1))))) hk rfl rfl rfl rfl ((FW.f_pure (FW.p_pick_and hk.kn (FW.holds_nil _) rfl rfl))) ?_; clear hk; intro a w hk
  refine FW.lfun (y := .lit (.bool (((((((t7 && (!t2.2)) && (!t8)) && (decide ((List.length t9 : Int) = 0))) && true) && (!t4.2)) && t6.2) && (decide (t6.1 = v1))))) hk rfl rfl rfl rfl (FW.f_move hk (FW.holds_nil _) rfl) ?_; clear hk; intro a w hk
  refine FW.lfunG (y := .lit (.pointer (some ⟨bx1, 0, none⟩))) hk rfl rfl rfl rfl rfl rfl rfl rfl (fun hc => FW.f_move hk hc rfl) ?_; clear hk; intro a w hk
  obtain ⟨t10, hr_t10, hn_t10, h⟩ := FW.bndG2 h
  refine FW.l_callHG (I1 := (OTxTx.items bx1 zr1 t5)) (I2 := []) (js := [1, 1]) hk rfl rfl rfl rfl rfl rfl rfl rfl rfl Go.Proofs.Try.func10 rfl (by kernel_rfl) (fun hc => tx_Tx_Changes.ok K t5 _ (hr_t10 (FW.asm_out (p := (((((((t7 && (!t2.2)) && (!t8)) && (decide ((List.length t9 : Int) = 0))) && true) && (!t4.2)) && t6.2) && (decide (t6.1 = v1))) = true) hk.kn hc (fun e0 => e0))) bx1 zr1) (fun hn => by obtain rfl := hn_t10 (fun hp => hn (FW.asm_in hk.kn (by have e0 := hp; exact ⟨e0, rfl, trivial⟩))); exact ⟨_, rfl, rfl⟩) ?_; clear hk
  rintro _ _ ⟨rfl, rfl⟩ a w hk
  refine FW.lfunG (y := .lit (.int .i64 (List.length t10 : Int))) hk rfl rfl rfl rfl rfl rfl rfl rfl (fun hc => FW.f_len (R := r_ApiChange_cells) (f := ApiChange.cells) (l := t10) r_ApiChange_cells_eq Go.Proofs.Try.underlying22 hk hc rfl) ?_; clear hk; intro a w hk
  refine FW.lfunG (y := .lit (.bool (decide ((List.length t10 : Int) = 1)))) hk rfl rfl rfl rfl rfl rfl rfl rfl (fun hc => (FW.f_pure (FW.p_eql hk.kn hc rfl rfl))) ?_; clear hk; intro a w hk
  refine FW.lfun (y := .lit (.bool ((((((((t7 && (!t2.2)) && (!t8)) && (decide ((List.length t9 : Int) = 0))) && true) && (!t4.2)) && t6.2) && (decide (t6.1 = v1))) && (decide ((List.length t10 : Int) = 1))))) hk rfl rfl rfl rfl ((FW.f_pure (FW.p_pick_and hk.kn (FW.holds_nil _) rfl rfl))) ?_; clear hk; intro a w hk
  refine FW.lfun (y := .lit (.bool ((((((((t7 && (!t2.2)) && (!t8)) && (decide ((List.length t9 : Int) = 0))) && true) && (!t4.2)) && t6.2) && (decide (t6.1 = v1))) && (decide ((List.length t10 : Int) = 1))))) hk rfl rfl rfl rfl (FW.f_move hk (FW.holds_nil _) rfl) ?_; clear hk; intro a w hk
  refine FW.lfunG (y := .lit (.pointer (some ⟨bx1, 0, none⟩))) hk rfl rfl rfl rfl rfl rfl rfl rfl (fun hc => FW.f_move hk hc rfl) ?_; clear hk; intro a w hk
  refine FW.lfunG (y := .lit (.int .u64 v0)) hk rfl rfl rfl rfl rfl rfl rfl rfl (fun hc => FW.f_move hk hc rfl) ?_; clear hk; intro a w hk
  obtain ⟨t11, hr_t11, hn_t11, h⟩ := FW.bndG2 h
  refine FW.l_callHG (I1 := (OTxTx.items bx1 zr1 t5)) (I2 := []) (js := [1, 1]) hk rfl rfl rfl rfl rfl rfl rfl rfl rfl Go.Proofs.Try.func15 rfl (by kernel_rfl) (fun hc => tx_Tx_Drop.ok K t5 v0 _ (hr_t11 (FW.asm_out (p := ((((((((t7 && (!t2.2)) && (!t8)) && (decide ((List.length t9 : Int) = 0))) && true) && (!t4.2)) && t6.2) && (decide (t6.1 = v1))) && (decide ((List.length t10 : Int) = 1))) = true) hk.kn hc (fun e0 => e0))) bx1 zr1) (fun hn => by obtain rfl := hn_t11 (fun hp => hn (FW.asm_in hk.kn (by have e0 := hp; exact ⟨e0, rfl, trivial⟩))); exact ⟨_, zr1, rfl, rfl⟩) ?_; clear hk
  rintro _ _ ⟨zr2, rfl, rfl⟩ a w hk
  refine FW.lfun (y := .lit (.bool (((((((((t7 && (!t2.2)) && (!t8)) && (decide ((List.length t9 : Int) = 0))) && true) && (!t4.2)) && t6.2) && (decide (t6.1 = v1))) && (decide ((List.length t10 : Int) = 1))) && t11.1))) hk rfl rfl rfl rfl ((FW.f_pure (FW.p_pick_and hk.kn (FW.holds_nil _) rfl rfl))) ?_; clear hk; intro a w hk
  refine FW.lfun (y := .lit (.bool (((((((((t7 && (!t2.2)) && (!t8)) && (decide ((List.length t9 : Int) = 0))) && true) && (!t4.2)) && t6.2) && (decide (t6.1 = v1))) && (decide ((List.length t10 : Int) = 1))) && t11.1))) hk rfl rfl rfl rfl (FW.f_move hk (FW.holds_nil _) rfl) ?_; clear hk; intro a w hk
  refine FW.lfunG (y := .lit (.pointer (some ⟨bx1, 0, none⟩))) hk rfl rfl rfl rfl rfl rfl rfl rfl (fun hc => FW.f_move hk hc rfl) ?_; clear hk; intro a w hk
  obtain ⟨t12, hr_t12, hn_t12, h⟩ := FW.bndG2 h
  refine FW.l_callHG (I1 := (OTxTx.items bx1 zr2 t11.2)) (I2 := []) (js := [1, 1]) hk rfl rfl rfl rfl rfl rfl rfl rfl rfl Go.Proofs.Try.func10 rfl (by kernel_rfl) (fun hc => tx_Tx_Changes.ok K t11.2 _ (hr_t12 (FW.asm_out (p := (((((((((t7 && (!t2.2)) && (!t8)) && (decide ((List.length t9 : Int) = 0))) && true) && (!t4.2)) && t6.2) && (decide (t6.1 = v1))) && (decide ((List.length t10 : Int) = 1))) && t11.1) = true) hk.kn hc (fun e0 => e0))) bx1 zr2) (fun hn => by obtain rfl := hn_t12 (fun hp => hn (FW.asm_in hk.kn (by have e0 := hp; exact ⟨e0, rfl, trivial⟩))); exact ⟨_, rfl, rfl⟩) ?_; clear hk
  rintro _ _ ⟨rfl, rfl⟩ a w hk
  refine FW.lfunG (y := .lit (.int .i64 (List.length t12 : Int))) hk rfl rfl rfl rfl rfl rfl rfl rfl (fun hc => FW.f_len (R := r_ApiChange_cells) (f := ApiChange.cells) (l := t12) r_ApiChange_cells_eq Go.Proofs.Try.underlying22 hk hc rfl) ?_; clear hk; intro a w hk
  refine FW.lfunG (y := .lit (.bool (decide ((List.length t12 : Int) = 0)))) hk rfl rfl rfl rfl rfl rfl rfl rfl (fun hc => (FW.f_pure (FW.p_eql hk.kn hc rfl rfl))) ?_; clear hk; intro a w hk
  refine FW.lfun (y := .lit (.bool ((((((((((t7 && (!t2.2)) && (!t8)) && (decide ((List.length t9 : Int) = 0))) && true) && (!t4.2)) && t6.2) && (decide (t6.1 = v1))) && (decide ((List.length t10 : Int) = 1))) && t11.1) && (decide ((List.length t12 : Int) = 0))))) hk rfl rfl rfl rfl ((FW.f_pure (FW.p_pick_and hk.kn (FW.holds_nil _) rfl rfl))) ?_; clear hk; intro a w hk
  refine FW.lfun (y := .lit (.bool ((((((((((t7 && (!t2.2)) && (!t8)) && (decide ((List.length t9 : Int) = 0))) && true) && (!t4.2)) && t6.2) && (decide (t6.1 = v1))) && (decide ((List.length t10 : Int) = 1))) && t11.1) && (decide ((List.length t12 : Int) = 0))))) hk rfl rfl rfl rfl (FW.f_assign hk (FW.holds_nil _) rfl) ?_; clear hk; intro a w hk
  refine FW.lend (hK9 _ _ ?_); clear hK9 K'
  refine wp_ret ?_
  (repeat first | refine FW.then_ret ?_ | refine FW.block_ret ?_)
  obtain rfl := Option.some.inj h
  exact FW.fret1 hk rfl rfl
end Go.Proofs.Ytaoffkhflmndhaa

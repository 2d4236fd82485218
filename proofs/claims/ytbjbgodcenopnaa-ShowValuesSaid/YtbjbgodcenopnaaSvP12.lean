/- Written by a program of this session (gen.py): the contracts of functions of the program. -/
import Derived.KernelRfl
import Derived.Test.YtbjbgodcenopnaaProg
import Derived.Test.YtbjbgodcenopnaaAvFun
import Derived.Test.YtbjbgodcenopnaaAvMan
import Derived.Test.YtbjbgodcenopnaaAvMore
import Derived.Test.YtbjbgodcenopnaaAvDraw2
import Derived.Test.YtbjbgodcenopnaaAvRow
import Derived.Test.YtbjbgodcenopnaaAvBld
import Derived.Test.YtbjbgodcenopnaaHcl
import Derived.Test.YtbjbgodcenopnaaAvFl
import Derived.Test.YtbjbgodcenopnaaSvD
import Derived.Test.YtbjbgodcenopnaaSvP11
namespace Go.Proofs.Ytbjbgodcenopnaa
set_option linter.unusedVariables false
set_option maxRecDepth 20000
set_option maxHeartbeats 10000000
theorem offshootref12_Parse.ok (K : Nat) (v0 : List UInt8) (r : List ApiStep × Int × Int) (h : offshootref12_Parse.f K v0 = some r) :
  FW.Ok Try.prog 9 [.lit (.string (FW.B v0))] (.tup [.row (r_ApiStep_cells r.1), .lit (.int .i64 r.2.1), .lit (.int .i64 r.2.2)]) := by
 refine FW.enter (xs := [.lit (.string (FW.B v0))]) Try.func9 rfl Try.ntmps9 rfl ?_
 intro M w0 a hk
 unfold offshootref12_Parse.f at h
 refine FW.wreg ?_; intro K' hK1
 refine FW.lfun (y := .row (r_ApiStep_cells [])) hk rfl rfl rfl rfl (FW.f_assignNil) ?_; clear hk; intro a w hk
 refine FW.lfun (y := .lit (.int .i64 0)) hk rfl rfl rfl rfl (FW.f_assign hk FW.h0 rfl) ?_; clear hk; intro a w hk
 refine FW.lfun (y := .lit (.int .i64 0)) hk rfl rfl rfl rfl (FW.f_assign hk FW.h0 rfl) ?_; clear hk; intro a w hk
 refine FW.lend (hK1 _ _ ?_); clear hK1 K'
 refine FW.wreg ?_; intro K' hK2
 refine FW.lfun (y := .lit (.string (FW.B v0))) hk rfl rfl rfl rfl (FW.f_move hk FW.h0 rfl) ?_; clear hk; intro a w hk
 obtain ⟨t1, hr_t1, h⟩ := FW.bnd h
 refine FW.lfun (y := .tup [.row (r_ApiWord_cells t1.1), .lit (.int .i64 t1.2.1), .lit (.int .i64 t1.2.2)]) hk rfl rfl rfl rfl (FW.f_call hk FW.h0 rfl rfl Try.func25 rfl (by kernel_rfl) (offshootref11_Words.ok K v0 _ hr_t1)) ?_; clear hk; intro a w hk
 refine FW.lfun (y := .tup [.row (r_ApiWord_cells t1.1), .lit (.int .i64 t1.2.1), .lit (.int .i64 t1.2.2)]) hk rfl rfl rfl rfl (FW.f_move hk FW.h0 rfl) ?_; clear hk; intro a w hk
 refine FW.lfun (y := .row (r_ApiWord_cells t1.1)) hk rfl rfl rfl rfl (FW.f_extract hk FW.h0 rfl rfl) ?_; clear hk; intro a w hk
 refine FW.lfun (y := .lit (.int .i64 t1.2.1)) hk rfl rfl rfl rfl (FW.f_extract hk FW.h0 rfl rfl) ?_; clear hk; intro a w hk
 refine FW.lfun (y := .lit (.int .i64 t1.2.2)) hk rfl rfl rfl rfl (FW.f_extract hk FW.h0 rfl rfl) ?_; clear hk; intro a w hk
 refine FW.lfun (y := .row (r_ApiWord_cells t1.1)) hk rfl rfl rfl rfl (FW.f_assign hk FW.h0 rfl) ?_; clear hk; intro a w hk
 refine FW.lfun (y := .lit (.int .i64 t1.2.1)) hk rfl rfl rfl rfl (FW.f_assign hk FW.h0 rfl) ?_; clear hk; intro a w hk
 refine FW.lfun (y := .lit (.int .i64 t1.2.2)) hk rfl rfl rfl rfl (FW.f_assign hk FW.h0 rfl) ?_; clear hk; intro a w hk
 refine FW.lend (hK2 _ _ ?_); clear hK2 K'
 refine FW.wseq ?_; intro K' hK3
 refine FW.wreg ?_; intro K' hK4
 refine FW.lfun (y := .lit (.int .i64 t1.2.2)) hk rfl rfl rfl rfl (FW.f_move hk FW.h0 rfl) ?_; clear hk; intro a w hk
 refine FW.lfun (y := .lit (.bool (!decide (t1.2.2 = 0)))) hk rfl rfl rfl rfl ((FW.f_pure (FW.p_neq hk.kn FW.h0 rfl rfl))) ?_; clear hk; intro a w hk
 refine FW.lend (hK4 _ _ ?_); clear hK4 K'
 refine FW.wcondF (b := (!decide (t1.2.2 = 0))) hk h rfl (fun h hb => ?_) (fun h hb => ?_)
 ·skip
  refine FW.wreg ?_; intro K' hK5
  refine FW.lfun (y := .lit (.int .i64 t1.2.1)) hk rfl rfl rfl rfl (FW.f_move hk FW.h0 rfl) ?_; clear hk; intro a w hk
  refine FW.lfun (y := .lit (.int .i64 t1.2.2)) hk rfl rfl rfl rfl (FW.f_move hk FW.h0 rfl) ?_; clear hk; intro a w hk
  refine FW.lfun (y := .row (r_ApiStep_cells [])) hk rfl rfl rfl rfl (FW.f_assignNil) ?_; clear hk; intro a w hk
  refine FW.lfun (y := .lit (.int .i64 t1.2.1)) hk rfl rfl rfl rfl (FW.f_assign hk FW.h0 rfl) ?_; clear hk; intro a w hk
  refine FW.lfun (y := .lit (.int .i64 t1.2.2)) hk rfl rfl rfl rfl (FW.f_assign hk FW.h0 rfl) ?_; clear hk; intro a w hk
  refine FW.lend (hK5 _ _ ?_); clear hK5 K'
  refine wp_ret ?_
  (repeat first | refine FW.then_ret ?_ | refine FW.block_ret ?_)
  obtain rfl := Option.some.inj h
  exact FW.fret3 hk rfl rfl rfl rfl
 ·skip
  refine wp_skip ?_
  (repeat first | refine FW.then_normal ?_ | refine FW.block_normal ?_); refine hK3 _ _ ?_
  refine FW.wreg ?_; intro K' hK6
  refine FW.lfun (y := .row (r_ApiWord_cells t1.1)) hk rfl rfl rfl rfl (FW.f_move hk FW.h0 rfl) ?_; clear hk; intro a w hk
  refine FW.lfun (y := .agg ((Offshootref12State.cells (⟨t1.1, 0, 0, 0, 0, 0⟩ : Offshootref12State)))) hk rfl rfl rfl rfl (FW.f_buildN [] hk FW.h0 rfl rfl rfl) ?_; clear hk; intro a w hk
  refine FW.l_alloc (zs := (Offshootref12State.cells (⟨[], 0, 0, 0, 0, 0⟩ : Offshootref12State))) [] hk rfl rfl rfl rfl ?_; clear hk; intro bx1 a w hk
  refine FW.l_store (I' := [FW.blk bx1 64 ((Offshootref12State.cells (⟨t1.1, 0, 0, 0, 0, 0⟩ : Offshootref12State)))]) (cs' := (Offshootref12State.cells (⟨t1.1, 0, 0, 0, 0, 0⟩ : Offshootref12State))) (j := 0) hk rfl rfl rfl rfl rfl (by kernel_rfl) rfl rfl ?_; clear hk; intro w hk
  refine FW.lend (hK6 _ _ ?_); clear hK6 K'
  refine FW.wseq ?_; intro K' hK7
  refine FW.wreg ?_; intro K' hK8
  refine FW.lfun (y := .row (r_ApiWord_cells t1.1)) hk rfl rfl rfl rfl (FW.f_move hk FW.h0 rfl) ?_; clear hk; intro a w hk
  obtain ⟨hc1, h⟩ := FW.chk h
  refine FW.lfun (y := .ref (ApiWord.cells (List.getD t1.1 (Int.toNat 0) default))) hk rfl rfl rfl rfl (FW.f_indexAddr (R := r_ApiWord_cells) (f := ApiWord.cells) (l := t1.1) (sz := 5) r_ApiWord_cells_eq (fun _ => rfl) hk FW.h0 rfl rfl Try.underlying60 (by kernel_rfl) hc1) ?_; clear hk; intro a w hk
  refine FW.lfun (y := .ref (List.drop 0 (ApiWord.cells (List.getD t1.1 (Int.toNat 0) default)))) hk rfl rfl rfl rfl (FW.f_fieldAddr hk FW.h0 rfl Try.underlying66 rfl (by kernel_rfl) rfl) ?_; clear hk; intro a w hk
  refine FW.lfun (y := .lit (.int .i64 ((List.getD t1.1 (Int.toNat 0) default).Kind))) hk rfl rfl rfl rfl (FW.f_load1 hk FW.h0 rfl rfl Try.underlying3 rfl) ?_; clear hk; intro a w hk
  refine FW.lfun (y := .lit (.bool (!decide (((List.getD t1.1 (Int.toNat 0) default).Kind) = 1)))) hk rfl rfl rfl rfl ((FW.f_pure (FW.p_neq hk.kn FW.h0 rfl rfl))) ?_; clear hk; intro a w hk
  refine FW.lfun (y := .lit (.bool (!decide (((List.getD t1.1 (Int.toNat 0) default).Kind) = 1)))) hk rfl rfl rfl rfl (FW.f_move hk FW.h0 rfl) ?_; clear hk; intro a w hk
  refine FW.lfunG (y := .row (r_ApiWord_cells t1.1)) hk rfl rfl rfl rfl rfl rfl rfl rfl (fun hc => FW.f_move hk hc rfl) ?_; clear hk; intro a w hk
  obtain ⟨hc2, h⟩ := FW.chk h
  refine FW.lfunG (y := .ref (ApiWord.cells (List.getD t1.1 (Int.toNat 0) default))) hk rfl rfl rfl rfl rfl rfl rfl rfl (fun hc => FW.f_indexAddr (R := r_ApiWord_cells) (f := ApiWord.cells) (l := t1.1) (sz := 5) r_ApiWord_cells_eq (fun _ => rfl) hk hc rfl rfl Try.underlying60 (by kernel_rfl) hc2) ?_; clear hk; intro a w hk
  refine FW.lfunG (y := .ref (List.drop 1 (ApiWord.cells (List.getD t1.1 (Int.toNat 0) default)))) hk rfl rfl rfl rfl rfl rfl rfl rfl (fun hc => FW.f_fieldAddr hk hc rfl Try.underlying66 rfl (by kernel_rfl) rfl) ?_; clear hk; intro a w hk
  refine FW.lfunG (y := .lit (.string (FW.B ((List.getD t1.1 (Int.toNat 0) default).S)))) hk rfl rfl rfl rfl rfl rfl rfl rfl (fun hc => FW.f_load1 hk hc rfl rfl Try.underlying9 rfl) ?_; clear hk; intro a w hk
  refine FW.lfunG (y := .lit (.bool (!decide (((List.getD t1.1 (Int.toNat 0) default).S) = ([103] : List UInt8))))) hk rfl rfl rfl rfl rfl rfl rfl rfl (fun hc => (FW.f_pure (FW.p_sneq hk.kn hc rfl rfl))) ?_; clear hk; intro a w hk
  refine FW.lfun (y := .lit (.bool ((!decide (((List.getD t1.1 (Int.toNat 0) default).Kind) = 1)) || (!decide (((List.getD t1.1 (Int.toNat 0) default).S) = ([103] : List UInt8)))))) hk rfl rfl rfl rfl ((FW.f_pure (FW.p_pick_or hk.kn FW.h0 rfl rfl))) ?_; clear hk; intro a w hk
  refine FW.lend (hK8 _ _ ?_); clear hK8 K'
  refine FW.wcondF (b := ((!decide (((List.getD t1.1 (Int.toNat 0) default).Kind) = 1)) || (!decide (((List.getD t1.1 (Int.toNat 0) default).S) = ([103] : List UInt8))))) hk h rfl (fun h hb => ?_) (fun h hb => ?_)
  ·skip
   obtain ⟨hc3, h⟩ := FW.chk h
   refine FW.wdraw (by kernel_rfl) (by kernel_rfl) hk ?_; clear hk
   refine FW.dfun (y := .row (r_ApiWord_cells t1.1)) rfl rfl rfl rfl (fun a w hk => FW.f_move hk FW.h0 rfl) ?_
   refine FW.dfun (y := .ref (ApiWord.cells (List.getD t1.1 (Int.toNat 0) default))) rfl rfl rfl rfl (fun a w hk => FW.f_indexAddr (R := r_ApiWord_cells) (f := ApiWord.cells) (l := t1.1) (sz := 5) r_ApiWord_cells_eq (fun _ => rfl) hk FW.h0 rfl rfl Try.underlying60 (by kernel_rfl) hc3) ?_
   refine FW.dfun (y := .ref (List.drop 4 (ApiWord.cells (List.getD t1.1 (Int.toNat 0) default)))) rfl rfl rfl rfl (fun a w hk => FW.f_fieldAddr hk FW.h0 rfl Try.underlying66 rfl (by kernel_rfl) rfl) ?_
   refine FW.dfun (y := .lit (.int .i64 ((List.getD t1.1 (Int.toNat 0) default).At))) rfl rfl rfl rfl (fun a w hk => FW.f_load1 hk FW.h0 rfl rfl Try.underlying3 rfl) ?_
   refine FW.dfun (y := .row (r_ApiStep_cells [])) rfl rfl rfl rfl (fun a w hk => FW.f_assignNil) ?_
   refine FW.dfun (y := .lit (.int .i64 ((List.getD t1.1 (Int.toNat 0) default).At))) rfl rfl rfl rfl (fun a w hk => FW.f_assign hk FW.h0 rfl) ?_
   refine FW.dfun (y := .lit (.int .i64 120)) rfl rfl rfl rfl (fun a w hk => FW.f_assign hk FW.h0 rfl) ?_
   refine FW.dend ?_; intro a w hk
   refine wp_ret ?_
   (repeat first | refine FW.then_ret ?_ | refine FW.block_ret ?_)
   obtain rfl := Option.some.inj h
   exact FW.fret3 hk rfl rfl rfl rfl
  ·skip
   refine wp_skip ?_
   (repeat first | refine FW.then_normal ?_ | refine FW.block_normal ?_); refine hK7 _ _ ?_
   refine FW.wreg ?_; intro K' hK10
   refine FW.lfun (y := .lit (.pointer (some ⟨bx1, 1, none⟩))) hk rfl rfl rfl rfl (FW.f_fieldPtr hk FW.h0 rfl Try.underlying64 rfl (by kernel_rfl) rfl) ?_; clear hk; intro a w hk
   refine FW.l_store (I' := [FW.blk bx1 64 ((Offshootref12State.cells (⟨t1.1, 1, 0, 0, 0, 0⟩ : Offshootref12State)))]) (cs' := (Offshootref12State.cells (⟨t1.1, 1, 0, 0, 0, 0⟩ : Offshootref12State))) (j := 0) hk rfl rfl rfl rfl rfl (by kernel_rfl) rfl rfl ?_; clear hk; intro w hk
   refine FW.lend (hK10 _ _ ?_); clear hK10 K'
   refine FW.wreg ?_; intro K' hK11
   refine FW.lfun (y := .agg ((Offshootref12State.cells (⟨t1.1, 1, 0, 0, 0, 0⟩ : Offshootref12State)))) hk rfl rfl rfl rfl (FW.f_loadBlk hk FW.h0 (j := 0) rfl rfl Try.underlying64 rfl rfl rfl rfl) ?_; clear hk; intro a w hk
   obtain ⟨t2, hr_t2, h⟩ := FW.bnd h
   refine FW.lfun (y := .agg ((Offshootref12State.cells t2))) hk rfl rfl rfl rfl (FW.f_call hk FW.h0 rfl rfl Try.func26 rfl (by kernel_rfl) (offshootref12_State_sign.ok (⟨t1.1, 1, 0, 0, 0, 0⟩ : Offshootref12State) ([46] : List UInt8) _ hr_t2)) ?_; clear hk; intro a w hk
   obtain ⟨t3, hr_t3, h⟩ := FW.bnd h
   refine FW.lfun (y := .tup [.agg ((Offshootref12State.cells t3.1)), .row (r_ApiStep_cells t3.2)]) hk rfl rfl rfl rfl (FW.f_call hk FW.h0 rfl rfl Try.func27 rfl (by kernel_rfl) (offshootref12_State_steps.ok K t2 _ hr_t3)) ?_; clear hk; intro a w hk
   refine FW.lfun (y := .tup [.agg ((Offshootref12State.cells t3.1)), .row (r_ApiStep_cells t3.2)]) hk rfl rfl rfl rfl (FW.f_move hk FW.h0 rfl) ?_; clear hk; intro a w hk
   refine FW.lfun (y := .agg ((Offshootref12State.cells t3.1))) hk rfl rfl rfl rfl (FW.f_extract hk FW.h0 rfl rfl) ?_; clear hk; intro a w hk
   refine FW.lfun (y := .row (r_ApiStep_cells t3.2)) hk rfl rfl rfl rfl (FW.f_extract hk FW.h0 rfl rfl) ?_; clear hk; intro a w hk
   refine FW.l_store (I' := [FW.blk bx1 64 ((Offshootref12State.cells t3.1))]) (cs' := (Offshootref12State.cells t3.1)) (j := 0) hk rfl rfl rfl rfl rfl (by kernel_rfl) rfl rfl ?_; clear hk; intro w hk
   refine FW.lfun (y := .row (r_ApiStep_cells t3.2)) hk rfl rfl rfl rfl (FW.f_assign hk FW.h0 rfl) ?_; clear hk; intro a w hk
   refine FW.lend (hK11 _ _ ?_); clear hK11 K'
   refine FW.wseqJ (fun a w => ∃ (y1 : Offshootref12State) (v9 : List ApiStep), FW.S M w0 a w 68 [FW.blk bx1 64 ((Offshootref12State.cells y1))] [(8, [], .lit (.pointer (some ⟨bx1, 0, none⟩))), (9, [], .row (r_ApiStep_cells v9))] ∧ offshootref12_Parse.j1 K y1 v9 = some r) ?_ ?_
   ·clear hk h
    rintro a w ⟨y1, v9, hk, h⟩
    unfold offshootref12_Parse.j1 at h
    refine FW.wseq ?_; intro K' hK13
    refine FW.wreg ?_; intro K' hK14
    refine FW.lfun (y := .lit (.pointer (some ⟨bx1, 5, none⟩))) hk rfl rfl rfl rfl (FW.f_fieldPtr hk FW.h0 rfl Try.underlying64 rfl (by kernel_rfl) rfl) ?_; clear hk; intro a w hk
    refine FW.lfun (y := .lit (.int .i64 y1.E)) hk rfl rfl rfl rfl (FW.f_loadBlk1 hk FW.h0 (j := 0) rfl rfl Try.underlying23 rfl rfl) ?_; clear hk; intro a w hk
    refine FW.lfun (y := .lit (.bool (!decide (y1.E = 0)))) hk rfl rfl rfl rfl ((FW.f_pure (FW.p_neq hk.kn FW.h0 rfl rfl))) ?_; clear hk; intro a w hk
    refine FW.lend (hK14 _ _ ?_); clear hK14 K'
    refine FW.wcondF (b := (!decide (y1.E = 0))) hk h rfl (fun h hb => ?_) (fun h hb => ?_)
    ·skip
     refine FW.wdraw (by kernel_rfl) (by kernel_rfl) hk ?_; clear hk
     refine FW.dfun (y := .lit (.pointer (some ⟨bx1, 4, none⟩))) rfl rfl rfl rfl (fun a w hk => FW.f_fieldPtr hk FW.h0 rfl Try.underlying64 rfl (by kernel_rfl) rfl) ?_
     refine FW.dfun (y := .lit (.int .i64 y1.At)) rfl rfl rfl rfl (fun a w hk => FW.f_loadBlk1 hk FW.h0 (j := 0) rfl rfl Try.underlying3 rfl rfl) ?_
     refine FW.dfun (y := .lit (.pointer (some ⟨bx1, 5, none⟩))) rfl rfl rfl rfl (fun a w hk => FW.f_fieldPtr hk FW.h0 rfl Try.underlying64 rfl (by kernel_rfl) rfl) ?_
     refine FW.dfun (y := .lit (.int .i64 y1.E)) rfl rfl rfl rfl (fun a w hk => FW.f_loadBlk1 hk FW.h0 (j := 0) rfl rfl Try.underlying23 rfl rfl) ?_
     refine FW.dfun (y := .row (r_ApiStep_cells [])) rfl rfl rfl rfl (fun a w hk => FW.f_assignNil) ?_
     refine FW.dfun (y := .lit (.int .i64 y1.At)) rfl rfl rfl rfl (fun a w hk => FW.f_assign hk FW.h0 rfl) ?_
     refine FW.dfun (y := .lit (.int .i64 y1.E)) rfl rfl rfl rfl (fun a w hk => FW.f_assign hk FW.h0 rfl) ?_
     refine FW.dend ?_; intro a w hk
     refine wp_ret ?_
     (repeat first | refine FW.then_ret ?_ | refine FW.block_ret ?_)
     obtain rfl := Option.some.inj h
     exact FW.fret3 hk rfl rfl rfl rfl
    ·skip
     refine wp_skip ?_
     (repeat first | refine FW.then_normal ?_ | refine FW.block_normal ?_); refine hK13 _ _ ?_
     refine FW.wreg ?_; intro K' hK16
     refine FW.lfun (y := .row (r_ApiStep_cells v9)) hk rfl rfl rfl rfl (FW.f_move hk FW.h0 rfl) ?_; clear hk; intro a w hk
     refine FW.lfun (y := .row (r_ApiStep_cells v9)) hk rfl rfl rfl rfl (FW.f_assign hk FW.h0 rfl) ?_; clear hk; intro a w hk
     refine FW.lfun (y := .lit (.int .i64 0)) hk rfl rfl rfl rfl (FW.f_assign hk FW.h0 rfl) ?_; clear hk; intro a w hk
     refine FW.lfun (y := .lit (.int .i64 0)) hk rfl rfl rfl rfl (FW.f_assign hk FW.h0 rfl) ?_; clear hk; intro a w hk
     refine FW.lend (hK16 _ _ ?_); clear hK16 K'
     refine wp_ret ?_
     (repeat first | refine FW.then_ret ?_ | refine FW.block_ret ?_)
     obtain rfl := Option.some.inj h
     exact FW.fret3 hk rfl rfl rfl rfl
   ·intro K' hK12
    refine FW.wreg ?_; intro K' hK17
    refine FW.lfun (y := .lit (.pointer (some ⟨bx1, 5, none⟩))) hk rfl rfl rfl rfl (FW.f_fieldPtr hk FW.h0 rfl Try.underlying64 rfl (by kernel_rfl) rfl) ?_; clear hk; intro a w hk
    refine FW.lfun (y := .lit (.int .i64 t3.1.E)) hk rfl rfl rfl rfl (FW.f_loadBlk1 hk FW.h0 (j := 0) rfl rfl Try.underlying23 rfl rfl) ?_; clear hk; intro a w hk
    refine FW.lfun (y := .lit (.bool (decide (t3.1.E = 0)))) hk rfl rfl rfl rfl ((FW.f_pure (FW.p_eql hk.kn FW.h0 rfl rfl))) ?_; clear hk; intro a w hk
    refine FW.lfun (y := .lit (.bool (decide (t3.1.E = 0)))) hk rfl rfl rfl rfl (FW.f_move hk FW.h0 rfl) ?_; clear hk; intro a w hk
    refine FW.lfunG (y := .lit (.pointer (some ⟨bx1, 0, none⟩))) hk rfl rfl rfl rfl rfl rfl rfl rfl (fun hc => FW.f_fieldPtr hk hc rfl Try.underlying64 rfl (by kernel_rfl) rfl) ?_; clear hk; intro a w hk
    refine FW.lfunG (y := .row (r_ApiWord_cells t3.1.L)) hk rfl rfl rfl rfl rfl rfl rfl rfl (fun hc => FW.f_loadBlk1 hk hc (j := 0) rfl rfl Try.underlying60 rfl rfl) ?_; clear hk; intro a w hk
    refine FW.lfunG (y := .lit (.pointer (some ⟨bx1, 1, none⟩))) hk rfl rfl rfl rfl rfl rfl rfl rfl (fun hc => FW.f_fieldPtr hk hc rfl Try.underlying64 rfl (by kernel_rfl) rfl) ?_; clear hk; intro a w hk
    refine FW.lfunG (y := .lit (.int .i64 t3.1.I)) hk rfl rfl rfl rfl rfl rfl rfl rfl (fun hc => FW.f_loadBlk1 hk hc (j := 0) rfl rfl Try.underlying3 rfl rfl) ?_; clear hk; intro a w hk
    obtain ⟨hc4, h⟩ := FW.chk h
    refine FW.lfunG (y := .ref (ApiWord.cells (List.getD t3.1.L (Int.toNat t3.1.I) default))) hk rfl rfl rfl rfl rfl rfl rfl rfl (fun hc => FW.f_indexAddr (R := r_ApiWord_cells) (f := ApiWord.cells) (l := t3.1.L) (sz := 5) r_ApiWord_cells_eq (fun _ => rfl) hk hc rfl rfl Try.underlying60 (by kernel_rfl) hc4) ?_; clear hk; intro a w hk
    refine FW.lfunG (y := .ref (List.drop 0 (ApiWord.cells (List.getD t3.1.L (Int.toNat t3.1.I) default)))) hk rfl rfl rfl rfl rfl rfl rfl rfl (fun hc => FW.f_fieldAddr hk hc rfl Try.underlying66 rfl (by kernel_rfl) rfl) ?_; clear hk; intro a w hk
    refine FW.lfunG (y := .lit (.int .i64 ((List.getD t3.1.L (Int.toNat t3.1.I) default).Kind))) hk rfl rfl rfl rfl rfl rfl rfl rfl (fun hc => FW.f_load1 hk hc rfl rfl Try.underlying3 rfl) ?_; clear hk; intro a w hk
    refine FW.lfunG (y := .lit (.bool (!decide (((List.getD t3.1.L (Int.toNat t3.1.I) default).Kind) = 0)))) hk rfl rfl rfl rfl rfl rfl rfl rfl (fun hc => (FW.f_pure (FW.p_neq hk.kn hc rfl rfl))) ?_; clear hk; intro a w hk
    refine FW.lfun (y := .lit (.bool ((decide (t3.1.E = 0)) && (!decide (((List.getD t3.1.L (Int.toNat t3.1.I) default).Kind) = 0))))) hk rfl rfl rfl rfl ((FW.f_pure (FW.p_pick_and hk.kn FW.h0 rfl rfl))) ?_; clear hk; intro a w hk
    refine FW.lend (hK17 _ _ ?_); clear hK17 K'
    refine FW.wcondF (b := ((decide (t3.1.E = 0)) && (!decide (((List.getD t3.1.L (Int.toNat t3.1.I) default).Kind) = 0)))) hk h rfl (fun h hb => ?_) (fun h hb => ?_)
    ·skip
     refine FW.wreg1 ?_
     refine FW.lfun (y := .agg ((Offshootref12State.cells t3.1))) hk rfl rfl rfl rfl (FW.f_loadBlk hk FW.h0 (j := 0) rfl rfl Try.underlying64 rfl rfl rfl rfl) ?_; clear hk; intro a w hk
     obtain ⟨t4, hr_t4, h⟩ := FW.bnd h
     refine FW.lfun (y := .agg ((Offshootref12State.cells t4))) hk rfl rfl rfl rfl (FW.f_call hk FW.h0 rfl rfl Try.func28 rfl (by kernel_rfl) (offshootref12_State_fail.ok t3.1 120 _ hr_t4)) ?_; clear hk; intro a w hk
     refine FW.l_store (I' := [FW.blk bx1 64 ((Offshootref12State.cells t4))]) (cs' := (Offshootref12State.cells t4)) (j := 0) hk rfl rfl rfl rfl rfl (by kernel_rfl) rfl rfl ?_; clear hk; intro w hk
     refine wpList_nil ?_
     (repeat first | refine FW.then_normal ?_ | refine FW.block_normal ?_); exact hK12 _ _ ⟨t4, t3.2, hk.sub ⟨rfl, rfl, trivial⟩, h⟩
    ·skip
     refine wp_skip ?_
     (repeat first | refine FW.then_normal ?_ | refine FW.block_normal ?_); exact hK12 _ _ ⟨t3.1, t3.2, hk.sub ⟨rfl, rfl, trivial⟩, h⟩

theorem lex_Number.ok (K : Nat) (v0 : Int) (r : List UInt8) (h : lex_Number.f K v0 = some r) :
  FW.Ok Try.prog 37 [.lit (.int .i64 v0)] (.lit (.string (FW.B r))) := by
 refine FW.enter (xs := [.lit (.int .i64 v0)]) Try.func37 rfl Try.ntmps37 rfl ?_
 intro M w0 a hk
 unfold lex_Number.f at h
 refine FW.wreg ?_; intro K' hK1
 refine FW.lfun (y := .lit (.string (FW.B ([] : List UInt8)))) hk rfl rfl rfl rfl (FW.f_assign hk FW.h0 rfl) ?_; clear hk; intro a w hk
 refine FW.lend (hK1 _ _ ?_); clear hK1 K'
 refine FW.wseq ?_; intro K' hK2
 refine FW.wreg ?_; intro K' hK3
 refine FW.lfun (y := .lit (.int .i64 v0)) hk rfl rfl rfl rfl (FW.f_move hk FW.h0 rfl) ?_; clear hk; intro a w hk
 refine FW.lfun (y := .lit (.bool (decide (v0 = 0)))) hk rfl rfl rfl rfl ((FW.f_pure (FW.p_eql hk.kn FW.h0 rfl rfl))) ?_; clear hk; intro a w hk
 refine FW.lend (hK3 _ _ ?_); clear hK3 K'
 refine FW.wcondF (b := (decide (v0 = 0))) hk h rfl (fun h hb => ?_) (fun h hb => ?_)
 ·skip
  refine FW.wreg ?_; intro K' hK4
  refine FW.lfun (y := .lit (.string (FW.B ([48] : List UInt8)))) hk rfl rfl rfl rfl (FW.f_assign hk FW.h0 rfl) ?_; clear hk; intro a w hk
  refine FW.lend (hK4 _ _ ?_); clear hK4 K'
  refine wp_ret ?_
  (repeat first | refine FW.then_ret ?_ | refine FW.block_ret ?_)
  obtain rfl := Option.some.inj h
  exact FW.fret1 hk rfl rfl
 ·skip
  refine wp_skip ?_
  (repeat first | refine FW.then_normal ?_ | refine FW.block_normal ?_); refine hK2 _ _ ?_
  refine FW.wreg ?_; intro K' hK5
  refine FW.lfun (y := .lit (.int .i64 v0)) hk rfl rfl rfl rfl (FW.f_move hk FW.h0 rfl) ?_; clear hk; intro a w hk
  refine FW.lfun (y := .lit (.bool (decide (v0 < 0)))) hk rfl rfl rfl rfl ((FW.f_pure (FW.p_lss hk.kn FW.h0 rfl rfl))) ?_; clear hk; intro a w hk
  refine FW.lfun (y := .lit (.string (FW.B ([] : List UInt8)))) hk rfl rfl rfl rfl (FW.f_assign hk FW.h0 rfl) ?_; clear hk; intro a w hk
  refine FW.lfun (y := .lit (.bool (decide (v0 < 0)))) hk rfl rfl rfl rfl (FW.f_assign hk FW.h0 rfl) ?_; clear hk; intro a w hk
  refine FW.lend (hK5 _ _ ?_); clear hK5 K'
  refine FW.wseq ?_; intro K' hK6
  refine wp_block ?_
  refine FW.wloop (T := Nat × Int × List UInt8 × Bool) (fun x a w => match x with | (kl1, v0, v3, v4) => FW.S M w0 a w 29 [] [(0, [], .lit (.int .i64 v0)), (3, [], .lit (.string (FW.B v3))), (4, [], .lit (.bool v4))] ∧ lex_Number.l1 K kl1 v0 v3 v4 = some r) (fun x => x.1) (K, v0, ([] : List UInt8), (decide (v0 < 0))) ⟨hk.sub ⟨rfl, rfl, rfl, trivial⟩, h⟩ ?_
  clear hk h
  rintro ⟨kl1, v0, v3, v4⟩ a w ⟨hk, h⟩ K' hK7
  cases kl1 with
  | zero => simp [lex_Number.l1] at h
  | succ kl1 =>
  rw [lex_Number.l1.eq_2] at h
  refine FW.wseq ?_; intro K' hK8
  refine FW.wreg ?_; intro K' hK9
  refine FW.lfun (y := .lit (.int .i64 v0)) hk rfl rfl rfl rfl (FW.f_move hk FW.h0 rfl) ?_; clear hk; intro a w hk
  refine FW.lfun (y := .lit (.bool (!decide (v0 = 0)))) hk rfl rfl rfl rfl ((FW.f_pure (FW.p_neq hk.kn FW.h0 rfl rfl))) ?_; clear hk; intro a w hk
  refine FW.lend (hK9 _ _ ?_); clear hK9 K'
  refine FW.wcondF (b := (!decide (v0 = 0))) hk h rfl (fun h hb => ?_) (fun h hb => ?_)
  ·skip
   refine wp_skip ?_
   (repeat first | refine FW.then_normal ?_ | refine FW.block_normal ?_); refine hK8 _ _ ?_
   refine FW.wseq ?_; intro K' hK10
   refine wp_block ?_
   refine FW.wreg ?_; intro K' hK11
   refine FW.lfun (y := .lit (.int .i64 v0)) hk rfl rfl rfl rfl (FW.f_move hk FW.h0 rfl) ?_; clear hk; intro a w hk
   refine FW.lfun (y := .lit (.int .i64 (Int.tmod v0 10))) hk rfl rfl rfl rfl ((FW.f_pure (FW.p_rem hk.kn FW.h0 rfl rfl (show ¬ (10 : Int) = 0 from by decide)))) ?_; clear hk; intro a w hk
   refine FW.lfun (y := .lit (.int .i64 (Int.tmod v0 10))) hk rfl rfl rfl rfl (FW.f_assign hk FW.h0 rfl) ?_; clear hk; intro a w hk
   refine FW.lend (hK11 _ _ ?_); clear hK11 K'
   refine FW.wseqJ (fun a w => ∃ (v0 : Int) (v3 : List UInt8) (v4 : Bool) (v5 : Int), FW.S M w0 a w 29 [] [(0, [], .lit (.int .i64 v0)), (3, [], .lit (.string (FW.B v3))), (4, [], .lit (.bool v4)), (5, [], .lit (.int .i64 v5))] ∧ lex_Number.j1 (lex_Number.l1 K kl1) K v0 v3 v4 v5 = some r) ?_ ?_
   ·clear hk h
    rintro a w ⟨v0, v3, v4, v5, hk, h⟩
    unfold lex_Number.j1 at h
    refine FW.wreg1 ?_
    refine FW.lfun (y := .lit (.int .i64 v5)) hk rfl rfl rfl rfl (FW.f_move hk FW.h0 rfl) ?_; clear hk; intro a w hk
    refine FW.lfun (y := .lit (.int .i64 v5)) hk rfl rfl rfl rfl (FW.f_move hk FW.h0 rfl) ?_; clear hk; intro a w hk
    refine FW.lfun (y := .lit (.int .i64 (IntKind.wrap .i64 (v5 + 1)))) hk rfl rfl rfl rfl ((FW.f_pure (FW.p_add hk.kn FW.h0 rfl rfl))) ?_; clear hk; intro a w hk
    obtain ⟨hc1, h⟩ := FW.chk h
    refine FW.lfun (y := .lit (.string (FW.B (List.take (Int.toNat (IntKind.wrap .i64 (v5 + 1)) - Int.toNat v5) (List.drop (Int.toNat v5) ([48, 49, 50, 51, 52, 53, 54, 55, 56, 57, 97, 98, 99, 100, 101, 102] : List UInt8)))))) hk rfl rfl rfl rfl ((FW.f_pure (FW.p_slice Try.underlying9 hk.kn FW.h0 rfl rfl rfl hc1))) ?_; clear hk; intro a w hk
    refine FW.lfun (y := .lit (.string (FW.B v3))) hk rfl rfl rfl rfl (FW.f_move hk FW.h0 rfl) ?_; clear hk; intro a w hk
    obtain ⟨hc2, h⟩ := FW.chk h
    refine FW.lfun (y := .lit (.string (FW.B ((List.take (Int.toNat (IntKind.wrap .i64 (v5 + 1)) - Int.toNat v5) (List.drop (Int.toNat v5) ([48, 49, 50, 51, 52, 53, 54, 55, 56, 57, 97, 98, 99, 100, 101, 102] : List UInt8))) ++ v3)))) hk rfl rfl rfl rfl ((FW.f_pure (FW.p_sadd hk.kn FW.h0 rfl rfl hc2))) ?_; clear hk; intro a w hk
    refine FW.lfun (y := .lit (.string (FW.B ((List.take (Int.toNat (IntKind.wrap .i64 (v5 + 1)) - Int.toNat v5) (List.drop (Int.toNat v5) ([48, 49, 50, 51, 52, 53, 54, 55, 56, 57, 97, 98, 99, 100, 101, 102] : List UInt8))) ++ v3)))) hk rfl rfl rfl rfl (FW.f_assign hk FW.h0 rfl) ?_; clear hk; intro a w hk
    refine wpList_nil ?_
    (repeat first | refine FW.then_normal ?_ | refine FW.block_normal ?_); refine hK10 _ _ ?_
    refine FW.wreg1 ?_
    refine FW.lfun (y := .lit (.int .i64 v0)) hk rfl rfl rfl rfl (FW.f_move hk FW.h0 rfl) ?_; clear hk; intro a w hk
    refine FW.lfun (y := .lit (.int .i64 (IntKind.wrap .i64 (Int.tdiv v0 10)))) hk rfl rfl rfl rfl ((FW.f_pure (FW.p_quo hk.kn FW.h0 rfl rfl (show ¬ (10 : Int) = 0 from by decide)))) ?_; clear hk; intro a w hk
    refine FW.lfun (y := .lit (.int .i64 (IntKind.wrap .i64 (Int.tdiv v0 10)))) hk rfl rfl rfl rfl (FW.f_assign hk FW.h0 rfl) ?_; clear hk; intro a w hk
    refine wpList_nil ?_
    (repeat first | refine FW.then_normal ?_ | refine FW.block_normal ?_); exact hK7 (kl1, (IntKind.wrap .i64 (Int.tdiv v0 10)), ((List.take (Int.toNat (IntKind.wrap .i64 (v5 + 1)) - Int.toNat v5) (List.drop (Int.toNat v5) ([48, 49, 50, 51, 52, 53, 54, 55, 56, 57, 97, 98, 99, 100, 101, 102] : List UInt8))) ++ v3), v4) _ _ (Nat.lt_succ_self _) ⟨hk.sub ⟨rfl, rfl, rfl, trivial⟩, h⟩
   ·intro K' hK12
    refine FW.wreg ?_; intro K' hK15
    refine FW.lfun (y := .lit (.bool v4)) hk rfl rfl rfl rfl (FW.f_move hk FW.h0 rfl) ?_; clear hk; intro a w hk
    refine FW.lend (hK15 _ _ ?_); clear hK15 K'
    refine FW.wcondF (b := v4) hk h rfl (fun h hb => ?_) (fun h hb => ?_)
    ·skip
     refine FW.wreg1 ?_
     refine FW.lfun (y := .lit (.int .i64 (Int.tmod v0 10))) hk rfl rfl rfl rfl (FW.f_move hk FW.h0 rfl) ?_; clear hk; intro a w hk
     refine FW.lfun (y := .lit (.int .i64 (IntKind.wrap .i64 (0 - (Int.tmod v0 10))))) hk rfl rfl rfl rfl ((FW.f_pure (FW.p_neg hk.kn FW.h0 rfl))) ?_; clear hk; intro a w hk
     refine FW.lfun (y := .lit (.int .i64 (IntKind.wrap .i64 (0 - (Int.tmod v0 10))))) hk rfl rfl rfl rfl (FW.f_assign hk FW.h0 rfl) ?_; clear hk; intro a w hk
     refine wpList_nil ?_
     (repeat first | refine FW.then_normal ?_ | refine FW.block_normal ?_); exact hK12 _ _ ⟨v0, v3, v4, (IntKind.wrap .i64 (0 - (Int.tmod v0 10))), hk.sub ⟨rfl, rfl, rfl, rfl, trivial⟩, h⟩
    ·skip
     refine wp_skip ?_
     (repeat first | refine FW.then_normal ?_ | refine FW.block_normal ?_); exact hK12 _ _ ⟨v0, v3, v4, (Int.tmod v0 10), hk.sub ⟨rfl, rfl, rfl, rfl, trivial⟩, h⟩
  ·skip
   refine wp_exit ?_; (repeat first | refine FW.then_exit ?_ | refine FW.block_exit_ne rfl ?_); refine FW.block_exit ?_
   (repeat first | refine FW.then_normal ?_ | refine FW.block_normal ?_); refine hK6 _ _ ?_
   refine FW.wseq ?_; intro K' hK17
   refine FW.wreg ?_; intro K' hK18
   refine FW.lfun (y := .lit (.bool v4)) hk rfl rfl rfl rfl (FW.f_move hk FW.h0 rfl) ?_; clear hk; intro a w hk
   refine FW.lend (hK18 _ _ ?_); clear hK18 K'
   refine FW.wcondF (b := v4) hk h rfl (fun h hb => ?_) (fun h hb => ?_)
   ·skip
    refine FW.wreg ?_; intro K' hK19
    refine FW.lfun (y := .lit (.string (FW.B v3))) hk rfl rfl rfl rfl (FW.f_move hk FW.h0 rfl) ?_; clear hk; intro a w hk
    obtain ⟨hc3, h⟩ := FW.chk h
    refine FW.lfun (y := .lit (.string (FW.B (([45] : List UInt8) ++ v3)))) hk rfl rfl rfl rfl ((FW.f_pure (FW.p_sadd hk.kn FW.h0 rfl rfl hc3))) ?_; clear hk; intro a w hk
    refine FW.lfun (y := .lit (.string (FW.B (([45] : List UInt8) ++ v3)))) hk rfl rfl rfl rfl (FW.f_assign hk FW.h0 rfl) ?_; clear hk; intro a w hk
    refine FW.lend (hK19 _ _ ?_); clear hK19 K'
    refine wp_ret ?_
    (repeat first | refine FW.then_ret ?_ | refine FW.block_ret ?_)
    obtain rfl := Option.some.inj h
    exact FW.fret1 hk rfl rfl
   ·skip
    refine wp_skip ?_
    (repeat first | refine FW.then_normal ?_ | refine FW.block_normal ?_); refine hK17 _ _ ?_
    refine FW.wreg ?_; intro K' hK20
    refine FW.lfun (y := .lit (.string (FW.B v3))) hk rfl rfl rfl rfl (FW.f_move hk FW.h0 rfl) ?_; clear hk; intro a w hk
    refine FW.lfun (y := .lit (.string (FW.B v3))) hk rfl rfl rfl rfl (FW.f_assign hk FW.h0 rfl) ?_; clear hk; intro a w hk
    refine FW.lend (hK20 _ _ ?_); clear hK20 K'
    refine wp_ret ?_
    (repeat first | refine FW.then_ret ?_ | refine FW.block_ret ?_)
    obtain rfl := Option.some.inj h
    exact FW.fret1 hk rfl rfl

theorem num_Canon.ok  (v0 : Nat) (r : Nat) (h : num_Canon.f v0 = some r) :
  FW.Ok Try.prog 58 [.lit (.float .f64 v0)] (.lit (.float .f64 r)) := by
 refine FW.enter (xs := [.lit (.float .f64 v0)]) Try.func58 rfl Try.ntmps58 rfl ?_
 intro M w0 a hk
 unfold num_Canon.f at h
 refine FW.wreg ?_; intro K' hK1
 refine FW.lfun (y := .lit (.float .f64 0)) hk rfl rfl rfl rfl (FW.f_assign hk FW.h0 rfl) ?_; clear hk; intro a w hk
 refine FW.lend (hK1 _ _ ?_); clear hK1 K'
 refine FW.wseq ?_; intro K' hK2
 refine FW.wreg ?_; intro K' hK3
 refine FW.lfun (y := .lit (.float .f64 v0)) hk rfl rfl rfl rfl (FW.f_move hk FW.h0 rfl) ?_; clear hk; intro a w hk
 refine FW.lfun (y := .lit (.float .f64 v0)) hk rfl rfl rfl rfl (FW.f_move hk FW.h0 rfl) ?_; clear hk; intro a w hk
 refine FW.lfun (y := .lit (.bool (FW.fneq v0 v0))) hk rfl rfl rfl rfl ((FW.f_pure (FW.p_fneq hk.kn FW.h0 rfl rfl))) ?_; clear hk; intro a w hk
 refine FW.lend (hK3 _ _ ?_); clear hK3 K'
 refine FW.wcondF (b := (FW.fneq v0 v0)) hk h rfl (fun h hb => ?_) (fun h hb => ?_)
 ·skip
  refine FW.wreg ?_; intro K' hK4
  refine FW.lfun (y := .lit (.float .f64 (Int.toNat 9221120237041090561))) hk rfl rfl rfl rfl (FW.f_frombits hk FW.h0 rfl rfl Try.func73 (by kernel_rfl) (by kernel_rfl) (by kernel_rfl) (by kernel_rfl)) ?_; clear hk; intro a w hk
  refine FW.lfun (y := .lit (.float .f64 (Int.toNat 9221120237041090561))) hk rfl rfl rfl rfl (FW.f_assign hk FW.h0 rfl) ?_; clear hk; intro a w hk
  refine FW.lend (hK4 _ _ ?_); clear hK4 K'
  refine wp_ret ?_
  (repeat first | refine FW.then_ret ?_ | refine FW.block_ret ?_)
  obtain rfl := Option.some.inj h
  exact FW.fret1 hk rfl rfl
 ·skip
  refine wp_skip ?_
  (repeat first | refine FW.then_normal ?_ | refine FW.block_normal ?_); refine hK2 _ _ ?_
  refine FW.wreg ?_; intro K' hK5
  refine FW.lfun (y := .lit (.float .f64 v0)) hk rfl rfl rfl rfl (FW.f_move hk FW.h0 rfl) ?_; clear hk; intro a w hk
  refine FW.lfun (y := .lit (.float .f64 v0)) hk rfl rfl rfl rfl (FW.f_assign hk FW.h0 rfl) ?_; clear hk; intro a w hk
  refine FW.lend (hK5 _ _ ?_); clear hK5 K'
  refine wp_ret ?_
  (repeat first | refine FW.then_ret ?_ | refine FW.block_ret ?_)
  obtain rfl := Option.some.inj h
  exact FW.fret1 hk rfl rfl

theorem lex_Float.ok (K : Nat) (v0 : Nat) (r : List UInt8) (h : lex_Float.f K v0 = some r) :
  FW.Ok Try.prog 38 [.lit (.float .f64 v0)] (.lit (.string (FW.B r))) := by
 refine FW.enter (xs := [.lit (.float .f64 v0)]) Try.func38 rfl Try.ntmps38 rfl ?_
 intro M w0 a hk
 unfold lex_Float.f at h
 refine FW.wreg ?_; intro K' hK1
 refine FW.lfun (y := .lit (.string (FW.B ([] : List UInt8)))) hk rfl rfl rfl rfl (FW.f_assign hk FW.h0 rfl) ?_; clear hk; intro a w hk
 refine FW.lend (hK1 _ _ ?_); clear hK1 K'
 refine FW.wreg ?_; intro K' hK2
 refine FW.lfun (y := .lit (.float .f64 v0)) hk rfl rfl rfl rfl (FW.f_move hk FW.h0 rfl) ?_; clear hk; intro a w hk
 obtain ⟨t1, hr_t1, h⟩ := FW.bnd h
 refine FW.lfun (y := .lit (.float .f64 t1)) hk rfl rfl rfl rfl (FW.f_call hk FW.h0 rfl rfl Try.func58 rfl (by kernel_rfl) (num_Canon.ok v0 _ hr_t1)) ?_; clear hk; intro a w hk
 refine FW.lfun (y := .lit (.int .u64 ((t1 : Nat) : Int))) hk rfl rfl rfl rfl (FW.f_bits hk FW.h0 rfl rfl Try.func57 (by kernel_rfl) (by kernel_rfl) (by kernel_rfl) (by kernel_rfl)) ?_; clear hk; intro a w hk
 refine FW.lfun (y := .lit (.int .u64 ((t1 : Nat) : Int))) hk rfl rfl rfl rfl (FW.f_assign hk FW.h0 rfl) ?_; clear hk; intro a w hk
 refine FW.lfun (y := .lit (.string (FW.B ([] : List UInt8)))) hk rfl rfl rfl rfl (FW.f_assign hk FW.h0 rfl) ?_; clear hk; intro a w hk
 refine FW.lend (hK2 _ _ ?_); clear hK2 K'
 refine FW.wseq ?_; intro K' hK3
 refine FW.wreg ?_; intro K' hK4
 refine FW.lfun (y := .lit (.int .i64 0)) hk rfl rfl rfl rfl (FW.f_move hk FW.h0 rfl) ?_; clear hk; intro a w hk
 refine FW.lend (hK4 _ _ ?_); clear hK4 K'
 refine wp_block ?_
 refine FW.wloop (T := Nat × Int × List UInt8 × Int) (fun x a w => match x with | (kl1, v3, v4, v8) => FW.S M w0 a w 24 [] [(3, [], .lit (.int .u64 v3)), (4, [], .lit (.string (FW.B v4))), (8, [], .lit (.int .i64 v8))] ∧ lex_Float.l1 K kl1 v3 v4 v8 = some r) (fun x => x.1) (K, ((t1 : Nat) : Int), ([] : List UInt8), 0) ⟨hk.sub ⟨rfl, rfl, rfl, trivial⟩, h⟩ ?_
 clear hk h
 rintro ⟨kl1, v3, v4, v8⟩ a w ⟨hk, h⟩ K' hK5
 cases kl1 with
 | zero => simp [lex_Float.l1] at h
 | succ kl1 =>
 rw [lex_Float.l1.eq_2] at h
 refine FW.wreg ?_; intro K' hK6
 refine FW.lfun (y := .lit (.bool (decide (v8 < 16)))) hk rfl rfl rfl rfl ((FW.f_pure (FW.p_lss hk.kn FW.h0 rfl rfl))) ?_; clear hk; intro a w hk
 refine FW.lend (hK6 _ _ ?_); clear hK6 K'
 refine FW.wseq ?_; intro K' hK7
 refine FW.wcondF (b := (decide (v8 < 16))) hk h rfl (fun h hb => ?_) (fun h hb => ?_)
 ·skip
  refine wp_skip ?_
  (repeat first | refine FW.then_normal ?_ | refine FW.block_normal ?_); refine hK7 _ _ ?_
  refine FW.wseq ?_; intro K' hK8
  refine wp_block ?_
  refine FW.wreg ?_; intro K' hK9
  refine FW.lfun (y := .lit (.int .u64 v3)) hk rfl rfl rfl rfl (FW.f_move hk FW.h0 rfl) ?_; clear hk; intro a w hk
  refine FW.lfun (y := .lit (.int .u64 (Int.tmod v3 16))) hk rfl rfl rfl rfl ((FW.f_pure (FW.p_rem hk.kn FW.h0 rfl rfl (show ¬ (16 : Int) = 0 from by decide)))) ?_; clear hk; intro a w hk
  refine FW.lfun (y := .lit (.int .u64 v3)) hk rfl rfl rfl rfl (FW.f_move hk FW.h0 rfl) ?_; clear hk; intro a w hk
  refine FW.lfun (y := .lit (.int .u64 (Int.tmod v3 16))) hk rfl rfl rfl rfl ((FW.f_pure (FW.p_rem hk.kn FW.h0 rfl rfl (show ¬ (16 : Int) = 0 from by decide)))) ?_; clear hk; intro a w hk
  refine FW.lfun (y := .lit (.int .u64 (IntKind.wrap .u64 ((Int.tmod v3 16) + 1)))) hk rfl rfl rfl rfl ((FW.f_pure (FW.p_add hk.kn FW.h0 rfl rfl))) ?_; clear hk; intro a w hk
  obtain ⟨hc1, h⟩ := FW.chk h
  refine FW.lfun (y := .lit (.string (FW.B (List.take (Int.toNat (IntKind.wrap .u64 ((Int.tmod v3 16) + 1)) - Int.toNat (Int.tmod v3 16)) (List.drop (Int.toNat (Int.tmod v3 16)) ([48, 49, 50, 51, 52, 53, 54, 55, 56, 57, 97, 98, 99, 100, 101, 102] : List UInt8)))))) hk rfl rfl rfl rfl ((FW.f_pure (FW.p_slice Try.underlying9 hk.kn FW.h0 rfl rfl rfl hc1))) ?_; clear hk; intro a w hk
  refine FW.lfun (y := .lit (.string (FW.B v4))) hk rfl rfl rfl rfl (FW.f_move hk FW.h0 rfl) ?_; clear hk; intro a w hk
  obtain ⟨hc2, h⟩ := FW.chk h
  refine FW.lfun (y := .lit (.string (FW.B ((List.take (Int.toNat (IntKind.wrap .u64 ((Int.tmod v3 16) + 1)) - Int.toNat (Int.tmod v3 16)) (List.drop (Int.toNat (Int.tmod v3 16)) ([48, 49, 50, 51, 52, 53, 54, 55, 56, 57, 97, 98, 99, 100, 101, 102] : List UInt8))) ++ v4)))) hk rfl rfl rfl rfl ((FW.f_pure (FW.p_sadd hk.kn FW.h0 rfl rfl hc2))) ?_; clear hk; intro a w hk
  refine FW.lfun (y := .lit (.string (FW.B ((List.take (Int.toNat (IntKind.wrap .u64 ((Int.tmod v3 16) + 1)) - Int.toNat (Int.tmod v3 16)) (List.drop (Int.toNat (Int.tmod v3 16)) ([48, 49, 50, 51, 52, 53, 54, 55, 56, 57, 97, 98, 99, 100, 101, 102] : List UInt8))) ++ v4)))) hk rfl rfl rfl rfl (FW.f_assign hk FW.h0 rfl) ?_; clear hk; intro a w hk
  refine FW.lend (hK9 _ _ ?_); clear hK9 K'
  refine FW.wreg1 ?_
  refine FW.lfun (y := .lit (.int .u64 v3)) hk rfl rfl rfl rfl (FW.f_move hk FW.h0 rfl) ?_; clear hk; intro a w hk
  refine FW.lfun (y := .lit (.int .u64 (IntKind.wrap .u64 (Int.tdiv v3 16)))) hk rfl rfl rfl rfl ((FW.f_pure (FW.p_quo hk.kn FW.h0 rfl rfl (show ¬ (16 : Int) = 0 from by decide)))) ?_; clear hk; intro a w hk
  refine FW.lfun (y := .lit (.int .u64 (IntKind.wrap .u64 (Int.tdiv v3 16)))) hk rfl rfl rfl rfl (FW.f_assign hk FW.h0 rfl) ?_; clear hk; intro a w hk
  refine wpList_nil ?_
  (repeat first | refine FW.then_normal ?_ | refine FW.block_normal ?_); refine hK8 _ _ ?_
  refine FW.wreg1 ?_
  refine FW.lfun (y := .lit (.int .i64 (IntKind.wrap .i64 (v8 + 1)))) hk rfl rfl rfl rfl ((FW.f_pure (FW.p_add hk.kn FW.h0 rfl rfl))) ?_; clear hk; intro a w hk
  refine FW.lfun (y := .lit (.int .i64 (IntKind.wrap .i64 (v8 + 1)))) hk rfl rfl rfl rfl (FW.f_move hk FW.h0 rfl) ?_; clear hk; intro a w hk
  refine wpList_nil ?_
  (repeat first | refine FW.then_normal ?_ | refine FW.block_normal ?_); exact hK5 (kl1, (IntKind.wrap .u64 (Int.tdiv v3 16)), ((List.take (Int.toNat (IntKind.wrap .u64 ((Int.tmod v3 16) + 1)) - Int.toNat (Int.tmod v3 16)) (List.drop (Int.toNat (Int.tmod v3 16)) ([48, 49, 50, 51, 52, 53, 54, 55, 56, 57, 97, 98, 99, 100, 101, 102] : List UInt8))) ++ v4), (IntKind.wrap .i64 (v8 + 1))) _ _ (Nat.lt_succ_self _) ⟨hk.sub ⟨rfl, rfl, rfl, trivial⟩, h⟩
 ·skip
  refine wp_exit ?_; (repeat first | refine FW.then_exit ?_ | refine FW.block_exit_ne rfl ?_); refine FW.block_exit ?_
  (repeat first | refine FW.then_normal ?_ | refine FW.block_normal ?_); refine hK3 _ _ ?_
  refine FW.wreg ?_; intro K' hK12
  refine FW.lfun (y := .lit (.string (FW.B v4))) hk rfl rfl rfl rfl (FW.f_move hk FW.h0 rfl) ?_; clear hk; intro a w hk
  obtain ⟨hc3, h⟩ := FW.chk h
  refine FW.lfun (y := .lit (.string (FW.B (([102, 39] : List UInt8) ++ v4)))) hk rfl rfl rfl rfl ((FW.f_pure (FW.p_sadd hk.kn FW.h0 rfl rfl hc3))) ?_; clear hk; intro a w hk
  obtain ⟨hc4, h⟩ := FW.chk h
  refine FW.lfun (y := .lit (.string (FW.B ((([102, 39] : List UInt8) ++ v4) ++ ([39] : List UInt8))))) hk rfl rfl rfl rfl ((FW.f_pure (FW.p_sadd hk.kn FW.h0 rfl rfl hc4))) ?_; clear hk; intro a w hk
  refine FW.lfun (y := .lit (.string (FW.B ((([102, 39] : List UInt8) ++ v4) ++ ([39] : List UInt8))))) hk rfl rfl rfl rfl (FW.f_assign hk FW.h0 rfl) ?_; clear hk; intro a w hk
  refine FW.lend (hK12 _ _ ?_); clear hK12 K'
  refine wp_ret ?_
  (repeat first | refine FW.then_ret ?_ | refine FW.block_ret ?_)
  obtain rfl := Option.some.inj h
  exact FW.fret1 hk rfl rfl

theorem lex_Text.ok (K : Nat) (v0 : List UInt8) (r : List UInt8) (h : lex_Text.f K v0 = some r) :
  FW.Ok Try.prog 39 [.lit (.string (FW.B v0))] (.lit (.string (FW.B r))) := by
 refine FW.enter (xs := [.lit (.string (FW.B v0))]) Try.func39 rfl Try.ntmps39 rfl ?_
 intro M w0 a hk
 unfold lex_Text.f at h
 refine FW.wreg ?_; intro K' hK1
 refine FW.lfun (y := .lit (.string (FW.B ([] : List UInt8)))) hk rfl rfl rfl rfl (FW.f_assign hk FW.h0 rfl) ?_; clear hk; intro a w hk
 refine FW.lend (hK1 _ _ ?_); clear hK1 K'
 refine FW.wreg ?_; intro K' hK2
 refine l_bldNew hk rfl rfl ?_; clear hk; intro bx1 a w hk
 refine FW.lend (hK2 _ _ ?_); clear hK2 K'
 refine FW.wreg ?_; intro K' hK3
 obtain ⟨hc1, h⟩ := FW.chk h
 refine l_bldByte (I' := fun bv1 => [bldI w0.heap.size bx1 bv1 (([] : List UInt8) ++ [UInt8.ofNat (Int.toNat 39)])]) (j := 0) hk rfl rfl rfl rfl rfl hc1 (fun _ => rfl) ?_; clear hk; intro bv1 a w hk
 refine FW.lend (hK3 _ _ ?_); clear hK3 K'
 refine FW.wseq ?_; intro K' hK4
 refine FW.wreg ?_; intro K' hK5
 refine FW.lfun (y := .lit (.string (FW.B v0))) hk rfl rfl rfl rfl (FW.f_move hk FW.h0 rfl) ?_; clear hk; intro a w hk
 refine FW.lfun (y := .row (r_c_u8 (FW.bytesI v0))) hk rfl rfl rfl rfl (FW.f_bytes hk FW.h0 Try.underlying9 Try.underlying75 Try.underlying5 rfl) ?_; clear hk; intro a w hk
 refine FW.lfun (y := .lit (.int .i64 (List.length (FW.bytesI v0) : Int))) hk rfl rfl rfl rfl (FW.f_len (R := r_c_u8) (f := c_u8) (l := (FW.bytesI v0)) r_c_u8_eq Try.underlying75 hk FW.h0 rfl) ?_; clear hk; intro a w hk
 refine FW.lfun (y := .lit (.int .i64 0)) hk rfl rfl rfl rfl (FW.f_move hk FW.h0 rfl) ?_; clear hk; intro a w hk
 refine FW.lend (hK5 _ _ ?_); clear hK5 K'
 refine wp_block ?_
 refine FW.wloop (T := Nat × List UInt8 × List Int × Int × Int × Value) (fun x a w => match x with | (kl1, l1, v8, v9, v10, xv1) => FW.S M w0 a w 45 [bldI w0.heap.size bx1 xv1 l1] [(3, [], .lit (.pointer (some ⟨bx1, 0, none⟩))), (8, [], .row (r_c_u8 v8)), (9, [], .lit (.int .i64 v9)), (10, [], .lit (.int .i64 v10))] ∧ lex_Text.l1 K kl1 l1 v8 v9 v10 = some r) (fun x => x.1) (K, (([] : List UInt8) ++ [UInt8.ofNat (Int.toNat 39)]), (FW.bytesI v0), (List.length (FW.bytesI v0) : Int), 0, bv1) ⟨hk.sub ⟨rfl, rfl, rfl, rfl, trivial⟩, h⟩ ?_
 clear hk h
 rintro ⟨kl1, l1, v8, v9, v10, xv1⟩ a w ⟨hk, h⟩ K' hK6
 cases kl1 with
 | zero => simp [lex_Text.l1] at h
 | succ kl1 =>
 rw [lex_Text.l1.eq_2] at h
 refine FW.wreg ?_; intro K' hK7
 refine FW.lfun (y := .lit (.bool (decide (v10 < v9)))) hk rfl rfl rfl rfl ((FW.f_pure (FW.p_lss hk.kn FW.h0 rfl rfl))) ?_; clear hk; intro a w hk
 refine FW.lend (hK7 _ _ ?_); clear hK7 K'
 refine FW.wseq ?_; intro K' hK8
 refine FW.wcondF (b := (decide (v10 < v9))) hk h rfl (fun h hb => ?_) (fun h hb => ?_)
 ·skip
  refine wp_skip ?_
  (repeat first | refine FW.then_normal ?_ | refine FW.block_normal ?_); refine hK8 _ _ ?_
  refine FW.wseqJ (fun a w => ∃ (l1 : List UInt8) (v8 : List Int) (v9 : Int) (v10 : Int) (xv1 : Value), FW.S M w0 a w 45 [bldI w0.heap.size bx1 xv1 l1] [(3, [], .lit (.pointer (some ⟨bx1, 0, none⟩))), (8, [], .row (r_c_u8 v8)), (9, [], .lit (.int .i64 v9)), (10, [], .lit (.int .i64 v10))] ∧ lex_Text.j1 (lex_Text.l1 K kl1) K l1 v8 v9 v10 = some r) ?_ ?_
  ·clear hk h
   rintro a w ⟨l1, v8, v9, v10, xv1, hk, h⟩
   unfold lex_Text.j1 at h
   refine FW.wreg1 ?_
   refine FW.lfun (y := .lit (.int .i64 (IntKind.wrap .i64 (v10 + 1)))) hk rfl rfl rfl rfl ((FW.f_pure (FW.p_add hk.kn FW.h0 rfl rfl))) ?_; clear hk; intro a w hk
   refine FW.lfun (y := .lit (.int .i64 (IntKind.wrap .i64 (v10 + 1)))) hk rfl rfl rfl rfl (FW.f_move hk FW.h0 rfl) ?_; clear hk; intro a w hk
   refine wpList_nil ?_
   (repeat first | refine FW.then_normal ?_ | refine FW.block_normal ?_); exact hK6 (kl1, l1, v8, v9, (IntKind.wrap .i64 (v10 + 1)), xv1) _ _ (Nat.lt_succ_self _) ⟨hk.sub ⟨rfl, rfl, rfl, rfl, trivial⟩, h⟩
  ·intro K' hK9
   refine wp_block ?_
   refine FW.wreg ?_; intro K' hK11
   obtain ⟨hc2, h⟩ := FW.chk h
   refine FW.lfun (y := .ref (c_u8 (List.getD v8 (Int.toNat v10) default))) hk rfl rfl rfl rfl (FW.f_indexAddr (R := r_c_u8) (f := c_u8) (l := v8) (sz := 1) r_c_u8_eq (fun _ => rfl) hk FW.h0 rfl rfl Try.underlying75 (by kernel_rfl) hc2) ?_; clear hk; intro a w hk
   refine FW.lfun (y := .lit (.int .u8 (List.getD v8 (Int.toNat v10) default))) hk rfl rfl rfl rfl (FW.f_load1 hk FW.h0 rfl rfl Try.underlying5 rfl) ?_; clear hk; intro a w hk
   refine FW.lfun (y := .lit (.int .u8 (List.getD v8 (Int.toNat v10) default))) hk rfl rfl rfl rfl (FW.f_assign hk FW.h0 rfl) ?_; clear hk; intro a w hk
   refine FW.lend (hK11 _ _ ?_); clear hK11 K'
   refine wp_block ?_
   refine FW.wreg ?_; intro K' hK12
   refine FW.lfun (y := .lit (.int .u8 (List.getD v8 (Int.toNat v10) default))) hk rfl rfl rfl rfl (FW.f_move hk FW.h0 rfl) ?_; clear hk; intro a w hk
   refine FW.lfun (y := .lit (.bool (decide ((List.getD v8 (Int.toNat v10) default) = 39)))) hk rfl rfl rfl rfl ((FW.f_pure (FW.p_eql hk.kn FW.h0 rfl rfl))) ?_; clear hk; intro a w hk
   refine FW.lfun (y := .lit (.bool (decide ((List.getD v8 (Int.toNat v10) default) = 39)))) hk rfl rfl rfl rfl (FW.f_move hk FW.h0 rfl) ?_; clear hk; intro a w hk
   refine FW.lfunG (y := .lit (.int .u8 (List.getD v8 (Int.toNat v10) default))) hk rfl rfl rfl rfl rfl rfl rfl rfl (fun hc => FW.f_move hk hc rfl) ?_; clear hk; intro a w hk
   refine FW.lfunG (y := .lit (.bool (decide ((List.getD v8 (Int.toNat v10) default) = 92)))) hk rfl rfl rfl rfl rfl rfl rfl rfl (fun hc => (FW.f_pure (FW.p_eql hk.kn hc rfl rfl))) ?_; clear hk; intro a w hk
   refine FW.lfun (y := .lit (.bool ((decide ((List.getD v8 (Int.toNat v10) default) = 39)) || (decide ((List.getD v8 (Int.toNat v10) default) = 92))))) hk rfl rfl rfl rfl ((FW.f_pure (FW.p_pick_or hk.kn FW.h0 rfl rfl))) ?_; clear hk; intro a w hk
   refine FW.lfun (y := .lit (.bool ((decide ((List.getD v8 (Int.toNat v10) default) = 39)) || (decide ((List.getD v8 (Int.toNat v10) default) = 92))))) hk rfl rfl rfl rfl (FW.f_assign hk FW.h0 rfl) ?_; clear hk; intro a w hk
   refine FW.lend (hK12 _ _ ?_); clear hK12 K'
   refine FW.wcondF (b := ((decide ((List.getD v8 (Int.toNat v10) default) = 39)) || (decide ((List.getD v8 (Int.toNat v10) default) = 92)))) hk h rfl (fun h hb => ?_) (fun h hb => ?_)
   ·skip
    refine FW.wreg ?_; intro K' hK13
    obtain ⟨hc3, h⟩ := FW.chk h
    refine l_bldByte (I' := fun bv2 => [bldI w0.heap.size bx1 bv2 (l1 ++ [UInt8.ofNat (Int.toNat 92)])]) (j := 0) hk rfl rfl rfl rfl rfl hc3 (fun _ => rfl) ?_; clear hk; intro bv2 a w hk
    refine FW.lend (hK13 _ _ ?_); clear hK13 K'
    refine FW.wreg1 ?_
    refine FW.lfun (y := .lit (.int .u8 (List.getD v8 (Int.toNat v10) default))) hk rfl rfl rfl rfl (FW.f_move hk FW.h0 rfl) ?_; clear hk; intro a w hk
    obtain ⟨hc4, h⟩ := FW.chk h
    refine l_bldByte (I' := fun bv3 => [bldI w0.heap.size bx1 bv3 ((l1 ++ [UInt8.ofNat (Int.toNat 92)]) ++ [UInt8.ofNat (Int.toNat (List.getD v8 (Int.toNat v10) default))])]) (j := 0) hk rfl rfl rfl rfl rfl hc4 (fun _ => rfl) ?_; clear hk; intro bv3 a w hk
    refine wpList_nil ?_
    (repeat first | refine FW.then_normal ?_ | refine FW.block_normal ?_); exact hK9 _ _ ⟨((l1 ++ [UInt8.ofNat (Int.toNat 92)]) ++ [UInt8.ofNat (Int.toNat (List.getD v8 (Int.toNat v10) default))]), v8, v9, v10, bv3, hk.sub ⟨rfl, rfl, rfl, rfl, trivial⟩, h⟩
   ·skip
    refine FW.wreg ?_; intro K' hK15
    refine FW.lfun (y := .lit (.int .u8 (List.getD v8 (Int.toNat v10) default))) hk rfl rfl rfl rfl (FW.f_move hk FW.h0 rfl) ?_; clear hk; intro a w hk
    refine FW.lfun (y := .lit (.bool (decide ((List.getD v8 (Int.toNat v10) default) < 32)))) hk rfl rfl rfl rfl ((FW.f_pure (FW.p_lss hk.kn FW.h0 rfl rfl))) ?_; clear hk; intro a w hk
    refine FW.lfun (y := .lit (.bool (decide ((List.getD v8 (Int.toNat v10) default) < 32)))) hk rfl rfl rfl rfl (FW.f_move hk FW.h0 rfl) ?_; clear hk; intro a w hk
    refine FW.lfunG (y := .lit (.int .u8 (List.getD v8 (Int.toNat v10) default))) hk rfl rfl rfl rfl rfl rfl rfl rfl (fun hc => FW.f_move hk hc rfl) ?_; clear hk; intro a w hk
    refine FW.lfunG (y := .lit (.bool (decide (126 < (List.getD v8 (Int.toNat v10) default))))) hk rfl rfl rfl rfl rfl rfl rfl rfl (fun hc => (FW.f_pure (FW.p_gtr hk.kn hc rfl rfl))) ?_; clear hk; intro a w hk
    refine FW.lfun (y := .lit (.bool ((decide ((List.getD v8 (Int.toNat v10) default) < 32)) || (decide (126 < (List.getD v8 (Int.toNat v10) default)))))) hk rfl rfl rfl rfl ((FW.f_pure (FW.p_pick_or hk.kn FW.h0 rfl rfl))) ?_; clear hk; intro a w hk
    refine FW.lfun (y := .lit (.bool ((decide ((List.getD v8 (Int.toNat v10) default) < 32)) || (decide (126 < (List.getD v8 (Int.toNat v10) default)))))) hk rfl rfl rfl rfl (FW.f_assign hk FW.h0 rfl) ?_; clear hk; intro a w hk
    refine FW.lend (hK15 _ _ ?_); clear hK15 K'
    refine FW.wcondF (b := ((decide ((List.getD v8 (Int.toNat v10) default) < 32)) || (decide (126 < (List.getD v8 (Int.toNat v10) default))))) hk h rfl (fun h hb => ?_) (fun h hb => ?_)
    ·skip
     refine FW.wreg ?_; intro K' hK16
     obtain ⟨hc5, h⟩ := FW.chk h
     refine l_bldStr (I' := fun bv4 => [bldI w0.heap.size bx1 bv4 (l1 ++ ([92, 120] : List UInt8))]) (j := 0) hk rfl rfl rfl rfl rfl hc5 (fun _ => rfl) ?_; clear hk; intro bv4 a w hk
     refine FW.lend (hK16 _ _ ?_); clear hK16 K'
     refine FW.wreg ?_; intro K' hK17
     refine FW.lfun (y := .lit (.int .u8 (List.getD v8 (Int.toNat v10) default))) hk rfl rfl rfl rfl (FW.f_move hk FW.h0 rfl) ?_; clear hk; intro a w hk
     refine FW.lfun (y := .lit (.int .u8 (IntKind.wrap .u8 (Int.tdiv (List.getD v8 (Int.toNat v10) default) 16)))) hk rfl rfl rfl rfl ((FW.f_pure (FW.p_quo hk.kn FW.h0 rfl rfl (show ¬ (16 : Int) = 0 from by decide)))) ?_; clear hk; intro a w hk
     obtain ⟨hc6, h⟩ := FW.chk h
     refine FW.lfun (y := .lit (.int .u8 (FW.bt ([48, 49, 50, 51, 52, 53, 54, 55, 56, 57, 97, 98, 99, 100, 101, 102] : List UInt8) (IntKind.wrap .u8 (Int.tdiv (List.getD v8 (Int.toNat v10) default) 16))))) hk rfl rfl rfl rfl ((FW.f_pure (FW.p_index Try.underlying9 hk.kn FW.h0 rfl rfl hc6))) ?_; clear hk; intro a w hk
     obtain ⟨hc7, h⟩ := FW.chk h
     refine l_bldByte (I' := fun bv5 => [bldI w0.heap.size bx1 bv5 ((l1 ++ ([92, 120] : List UInt8)) ++ [UInt8.ofNat (Int.toNat (FW.bt ([48, 49, 50, 51, 52, 53, 54, 55, 56, 57, 97, 98, 99, 100, 101, 102] : List UInt8) (IntKind.wrap .u8 (Int.tdiv (List.getD v8 (Int.toNat v10) default) 16))))])]) (j := 0) hk rfl rfl rfl rfl rfl hc7 (fun _ => rfl) ?_; clear hk; intro bv5 a w hk
     refine FW.lend (hK17 _ _ ?_); clear hK17 K'
     refine FW.wreg1 ?_
     refine FW.lfun (y := .lit (.int .u8 (List.getD v8 (Int.toNat v10) default))) hk rfl rfl rfl rfl (FW.f_move hk FW.h0 rfl) ?_; clear hk; intro a w hk
     refine FW.lfun (y := .lit (.int .u8 (Int.tmod (List.getD v8 (Int.toNat v10) default) 16))) hk rfl rfl rfl rfl ((FW.f_pure (FW.p_rem hk.kn FW.h0 rfl rfl (show ¬ (16 : Int) = 0 from by decide)))) ?_; clear hk; intro a w hk
     obtain ⟨hc8, h⟩ := FW.chk h
     refine FW.lfun (y := .lit (.int .u8 (FW.bt ([48, 49, 50, 51, 52, 53, 54, 55, 56, 57, 97, 98, 99, 100, 101, 102] : List UInt8) (Int.tmod (List.getD v8 (Int.toNat v10) default) 16)))) hk rfl rfl rfl rfl ((FW.f_pure (FW.p_index Try.underlying9 hk.kn FW.h0 rfl rfl hc8))) ?_; clear hk; intro a w hk
     obtain ⟨hc9, h⟩ := FW.chk h
     refine l_bldByte (I' := fun bv6 => [bldI w0.heap.size bx1 bv6 (((l1 ++ ([92, 120] : List UInt8)) ++ [UInt8.ofNat (Int.toNat (FW.bt ([48, 49, 50, 51, 52, 53, 54, 55, 56, 57, 97, 98, 99, 100, 101, 102] : List UInt8) (IntKind.wrap .u8 (Int.tdiv (List.getD v8 (Int.toNat v10) default) 16))))]) ++ [UInt8.ofNat (Int.toNat (FW.bt ([48, 49, 50, 51, 52, 53, 54, 55, 56, 57, 97, 98, 99, 100, 101, 102] : List UInt8) (Int.tmod (List.getD v8 (Int.toNat v10) default) 16)))])]) (j := 0) hk rfl rfl rfl rfl rfl hc9 (fun _ => rfl) ?_; clear hk; intro bv6 a w hk
     refine wpList_nil ?_
     (repeat first | refine FW.then_normal ?_ | refine FW.block_normal ?_); exact hK9 _ _ ⟨(((l1 ++ ([92, 120] : List UInt8)) ++ [UInt8.ofNat (Int.toNat (FW.bt ([48, 49, 50, 51, 52, 53, 54, 55, 56, 57, 97, 98, 99, 100, 101, 102] : List UInt8) (IntKind.wrap .u8 (Int.tdiv (List.getD v8 (Int.toNat v10) default) 16))))]) ++ [UInt8.ofNat (Int.toNat (FW.bt ([48, 49, 50, 51, 52, 53, 54, 55, 56, 57, 97, 98, 99, 100, 101, 102] : List UInt8) (Int.tmod (List.getD v8 (Int.toNat v10) default) 16)))]), v8, v9, v10, bv6, hk.sub ⟨rfl, rfl, rfl, rfl, trivial⟩, h⟩
    ·skip
     refine FW.wreg1 ?_
     refine FW.lfun (y := .lit (.int .u8 (List.getD v8 (Int.toNat v10) default))) hk rfl rfl rfl rfl (FW.f_move hk FW.h0 rfl) ?_; clear hk; intro a w hk
     obtain ⟨hc10, h⟩ := FW.chk h
     refine l_bldByte (I' := fun bv7 => [bldI w0.heap.size bx1 bv7 (l1 ++ [UInt8.ofNat (Int.toNat (List.getD v8 (Int.toNat v10) default))])]) (j := 0) hk rfl rfl rfl rfl rfl hc10 (fun _ => rfl) ?_; clear hk; intro bv7 a w hk
     refine wpList_nil ?_
     (repeat first | refine FW.then_normal ?_ | refine FW.block_normal ?_); exact hK9 _ _ ⟨(l1 ++ [UInt8.ofNat (Int.toNat (List.getD v8 (Int.toNat v10) default))]), v8, v9, v10, bv7, hk.sub ⟨rfl, rfl, rfl, rfl, trivial⟩, h⟩
 ·skip
  refine wp_exit ?_; (repeat first | refine FW.then_exit ?_ | refine FW.block_exit_ne rfl ?_); refine FW.block_exit ?_
  (repeat first | refine FW.then_normal ?_ | refine FW.block_normal ?_); refine hK4 _ _ ?_
  refine FW.wreg ?_; intro K' hK20
  obtain ⟨hc11, h⟩ := FW.chk h
  refine l_bldByte (I' := fun bv8 => [bldI w0.heap.size bx1 bv8 (l1 ++ [UInt8.ofNat (Int.toNat 39)])]) (j := 0) hk rfl rfl rfl rfl rfl hc11 (fun _ => rfl) ?_; clear hk; intro bv8 a w hk
  refine FW.lend (hK20 _ _ ?_); clear hK20 K'
  refine FW.wreg ?_; intro K' hK21
  refine l_bldString (σ' := [(9, [], .lit (.int .i64 v9)), (10, [], .lit (.int .i64 v10)), (11, [], .lit (.bool (decide (v10 < v9)))), (43, [], .lit .nilIface)]) (j := 0) hk rfl rfl rfl rfl ⟨rfl, rfl, rfl, rfl, trivial⟩ rfl ?_; clear hk; intro a w hk
  refine FW.lfun (y := .lit (.string (FW.B (l1 ++ [UInt8.ofNat (Int.toNat 39)])))) hk rfl rfl rfl rfl (FW.f_assign hk FW.h0 rfl) ?_; clear hk; intro a w hk
  refine FW.lend (hK21 _ _ ?_); clear hK21 K'
  refine wp_ret ?_
  (repeat first | refine FW.then_ret ?_ | refine FW.block_ret ?_)
  obtain rfl := Option.some.inj h
  exact FW.fret1 hk rfl rfl
end Go.Proofs.Ytbjbgodcenopnaa

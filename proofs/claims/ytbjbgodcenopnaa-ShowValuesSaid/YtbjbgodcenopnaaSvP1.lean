/- Written by a program of this session (gen.py): the contracts of functions of the program. -/
import Derived.KernelRfl
import Derived.Test.YtbjbgodcenopnaaProg
import Derived.Test.YtbjbgodcenopnaaAvFun
import Derived.Test.YtbjbgodcenopnaaAvMan
import Derived.Test.YtbjbgodcenopnaaAvMore
import Derived.Test.YtbjbgodcenopnaaAvDraw2
import Derived.Test.YtbjbgodcenopnaaAvRow
import Derived.Test.YtbjbgodcenopnaaAvBld
import Derived.Test.YtbjbgodcenopnaaHcl
import Derived.Test.YtbjbgodcenopnaaAvFl
import Derived.Test.YtbjbgodcenopnaaSvD
import Derived.Test.YtbjbgodcenopnaaSvP0
namespace Go.Proofs.Ytbjbgodcenopnaa
set_option linter.unusedVariables false
set_option maxRecDepth 20000
set_option maxHeartbeats 10000000
theorem offshootref02_Cmp.bok (s_offshootref02_Cmp : ApiValue → ApiValue → Option Int) (hs_offshootref02_Cmp : ∀ (v0 : ApiValue) (v1 : ApiValue) (r : Int), s_offshootref02_Cmp v0 v1 = some r → FW.Ok Try.prog 83 [.agg (ApiValue.cells v0), .agg (ApiValue.cells v1)] (.lit (.int .i64 r))) (K : Nat) (v0 : ApiValue) (v1 : ApiValue) (r : Int) (h : offshootref02_Cmp.b s_offshootref02_Cmp K v0 v1 = some r) :
  FW.Ok Try.prog 83 [.agg (ApiValue.cells v0), .agg (ApiValue.cells v1)] (.lit (.int .i64 r)) := by
 refine FW.enter (xs := [.agg (ApiValue.cells v0), .agg (ApiValue.cells v1)]) Try.func83 rfl Try.ntmps83 rfl ?_
 intro M w0 a hk
 unfold offshootref02_Cmp.b at h
 refine FW.wreg ?_; intro K' hK1
 refine FW.l_box (cs := (ApiValue.cells v0)) hk rfl rfl rfl rfl rfl ?_; clear hk; intro bx1 a w hk
 refine FW.l_box (cs := (ApiValue.cells v1)) hk rfl rfl rfl rfl rfl ?_; clear hk; intro bx2 a w hk
 refine FW.lfun (y := .lit (.int .i64 0)) hk rfl rfl rfl rfl (FW.f_assign hk FW.h0 rfl) ?_; clear hk; intro a w hk
 refine FW.lend (hK1 _ _ ?_); clear hK1 K'
 refine FW.wseq ?_; intro K' hK2
 refine wp_block ?_
 obtain ⟨t1, hr_t1, h⟩ := FW.bnd h
 obtain ⟨t2, hr_t2, h⟩ := FW.bnd h
 refine FW.wdraw (by kernel_rfl) (by kernel_rfl) hk ?_; clear hk
 refine FW.dfun (y := .lit (.pointer (some ⟨bx1, 0, none⟩))) rfl rfl rfl rfl (fun a w hk => FW.f_fieldPtr hk FW.h0 rfl Try.underlying33 rfl (by kernel_rfl) rfl) ?_
 refine FW.dfun (y := .lit (.int .i64 v0.Kind)) rfl rfl rfl rfl (fun a w hk => FW.f_loadBlk1 hk FW.h0 (j := 1) rfl rfl Try.underlying3 rfl rfl) ?_
 refine FW.dfun (y := .lit (.int .i64 t1)) rfl rfl rfl rfl (fun a w hk => FW.f_call hk FW.h0 rfl rfl Try.func110 rfl (by kernel_rfl) (offshootref02_class.ok v0.Kind _ hr_t1)) ?_
 refine FW.dfun (y := .lit (.pointer (some ⟨bx2, 0, none⟩))) rfl rfl rfl rfl (fun a w hk => FW.f_fieldPtr hk FW.h0 rfl Try.underlying33 rfl (by kernel_rfl) rfl) ?_
 refine FW.dfun (y := .lit (.int .i64 v1.Kind)) rfl rfl rfl rfl (fun a w hk => FW.f_loadBlk1 hk FW.h0 (j := 0) rfl rfl Try.underlying3 rfl rfl) ?_
 refine FW.dfun (y := .lit (.int .i64 t2)) rfl rfl rfl rfl (fun a w hk => FW.f_call hk FW.h0 rfl rfl Try.func110 rfl (by kernel_rfl) (offshootref02_class.ok v1.Kind _ hr_t2)) ?_
 refine FW.dfun (y := .lit (.bool (!decide (t1 = t2)))) rfl rfl rfl rfl (fun a w hk => (FW.f_pure (FW.p_neq hk.kn FW.h0 rfl rfl))) ?_
 refine FW.dfun (y := .lit (.bool (!decide (t1 = t2)))) rfl rfl rfl rfl (fun a w hk => FW.f_assign hk FW.h0 rfl) ?_
 refine FW.dend ?_; intro a w hk
 refine FW.wcondF (b := (!decide (t1 = t2))) hk h rfl (fun h hb => ?_) (fun h hb => ?_)
 ·skip
  obtain ⟨t3, hr_t3, h⟩ := FW.bnd h
  obtain ⟨t4, hr_t4, h⟩ := FW.bnd h
  obtain ⟨t5, hr_t5, h⟩ := FW.bnd h
  refine FW.wdraw (by kernel_rfl) (by kernel_rfl) hk ?_; clear hk
  refine FW.dfun (y := .lit (.pointer (some ⟨bx1, 0, none⟩))) rfl rfl rfl rfl (fun a w hk => FW.f_fieldPtr hk FW.h0 rfl Try.underlying33 rfl (by kernel_rfl) rfl) ?_
  refine FW.dfun (y := .lit (.int .i64 v0.Kind)) rfl rfl rfl rfl (fun a w hk => FW.f_loadBlk1 hk FW.h0 (j := 1) rfl rfl Try.underlying3 rfl rfl) ?_
  refine FW.dfun (y := .lit (.int .i64 t3)) rfl rfl rfl rfl (fun a w hk => FW.f_call hk FW.h0 rfl rfl Try.func110 rfl (by kernel_rfl) (offshootref02_class.ok v0.Kind _ hr_t3)) ?_
  refine FW.dfun (y := .lit (.pointer (some ⟨bx2, 0, none⟩))) rfl rfl rfl rfl (fun a w hk => FW.f_fieldPtr hk FW.h0 rfl Try.underlying33 rfl (by kernel_rfl) rfl) ?_
  refine FW.dfun (y := .lit (.int .i64 v1.Kind)) rfl rfl rfl rfl (fun a w hk => FW.f_loadBlk1 hk FW.h0 (j := 0) rfl rfl Try.underlying3 rfl rfl) ?_
  refine FW.dfun (y := .lit (.int .i64 t4)) rfl rfl rfl rfl (fun a w hk => FW.f_call hk FW.h0 rfl rfl Try.func110 rfl (by kernel_rfl) (offshootref02_class.ok v1.Kind _ hr_t4)) ?_
  refine FW.dfun (y := .lit (.bool (decide (t3 < t4)))) rfl rfl rfl rfl (fun a w hk => (FW.f_pure (FW.p_lss hk.kn FW.h0 rfl rfl))) ?_
  refine FW.dfun (y := .lit (.int .i64 t5)) rfl rfl rfl rfl (fun a w hk => FW.f_call hk FW.h0 rfl rfl Try.func111 rfl (by kernel_rfl) (offshootref02_sign.ok (decide (t3 < t4)) true _ hr_t5)) ?_
  refine FW.dfun (y := .lit (.int .i64 t5)) rfl rfl rfl rfl (fun a w hk => FW.f_assign hk FW.h0 rfl) ?_
  refine FW.dend ?_; intro a w hk
  refine wp_ret ?_
  (repeat first | refine FW.then_ret ?_ | refine FW.block_ret ?_)
  obtain rfl := Option.some.inj h
  exact FW.fret1 hk rfl rfl
 ·skip
  refine FW.wreg ?_; intro K' hK5
  refine FW.lfun (y := .lit (.pointer (some ⟨bx1, 0, none⟩))) hk rfl rfl rfl rfl (FW.f_fieldPtr hk FW.h0 rfl Try.underlying33 rfl (by kernel_rfl) rfl) ?_; clear hk; intro a w hk
  refine FW.lfun (y := .lit (.int .i64 v0.Kind)) hk rfl rfl rfl rfl (FW.f_loadBlk1 hk FW.h0 (j := 1) rfl rfl Try.underlying3 rfl rfl) ?_; clear hk; intro a w hk
  refine FW.lfun (y := .lit (.bool (decide (v0.Kind = 1)))) hk rfl rfl rfl rfl ((FW.f_pure (FW.p_eql hk.kn FW.h0 rfl rfl))) ?_; clear hk; intro a w hk
  refine FW.lfun (y := .lit (.bool (decide (v0.Kind = 1)))) hk rfl rfl rfl rfl (FW.f_assign hk FW.h0 rfl) ?_; clear hk; intro a w hk
  refine FW.lend (hK5 _ _ ?_); clear hK5 K'
  refine FW.wcondF (b := (decide (v0.Kind = 1))) hk h rfl (fun h hb => ?_) (fun h hb => ?_)
  ·skip
   refine FW.wreg ?_; intro K' hK6
   refine FW.lfun (y := .lit (.pointer (some ⟨bx1, 1, none⟩))) hk rfl rfl rfl rfl (FW.f_fieldPtr hk FW.h0 rfl Try.underlying33 rfl (by kernel_rfl) rfl) ?_; clear hk; intro a w hk
   refine FW.lfun (y := .lit (.bool v0.B)) hk rfl rfl rfl rfl (FW.f_loadBlk1 hk FW.h0 (j := 1) rfl rfl Try.underlying4 rfl rfl) ?_; clear hk; intro a w hk
   refine FW.lfun (y := .lit (.bool (!v0.B))) hk rfl rfl rfl rfl ((FW.f_pure (FW.p_not hk.kn FW.h0 rfl))) ?_; clear hk; intro a w hk
   refine FW.lfun (y := .lit (.bool (!v0.B))) hk rfl rfl rfl rfl (FW.f_move hk FW.h0 rfl) ?_; clear hk; intro a w hk
   refine FW.lfunG (y := .lit (.pointer (some ⟨bx2, 1, none⟩))) hk rfl rfl rfl rfl rfl rfl rfl rfl (fun hc => FW.f_fieldPtr hk hc rfl Try.underlying33 rfl (by kernel_rfl) rfl) ?_; clear hk; intro a w hk
   refine FW.lfunG (y := .lit (.bool v1.B)) hk rfl rfl rfl rfl rfl rfl rfl rfl (fun hc => FW.f_loadBlk1 hk hc (j := 0) rfl rfl Try.underlying4 rfl rfl) ?_; clear hk; intro a w hk
   refine FW.lfun (y := .lit (.bool ((!v0.B) && v1.B))) hk rfl rfl rfl rfl ((FW.f_pure (FW.p_pick_and hk.kn FW.h0 rfl rfl))) ?_; clear hk; intro a w hk
   refine FW.lfun (y := .lit (.pointer (some ⟨bx1, 1, none⟩))) hk rfl rfl rfl rfl (FW.f_fieldPtr hk FW.h0 rfl Try.underlying33 rfl (by kernel_rfl) rfl) ?_; clear hk; intro a w hk
   refine FW.lfun (y := .lit (.bool v0.B)) hk rfl rfl rfl rfl (FW.f_loadBlk1 hk FW.h0 (j := 1) rfl rfl Try.underlying4 rfl rfl) ?_; clear hk; intro a w hk
   refine FW.lfun (y := .lit (.bool v0.B)) hk rfl rfl rfl rfl (FW.f_move hk FW.h0 rfl) ?_; clear hk; intro a w hk
   refine FW.lfunG (y := .lit (.pointer (some ⟨bx2, 1, none⟩))) hk rfl rfl rfl rfl rfl rfl rfl rfl (fun hc => FW.f_fieldPtr hk hc rfl Try.underlying33 rfl (by kernel_rfl) rfl) ?_; clear hk; intro a w hk
   refine FW.lfunG (y := .lit (.bool v1.B)) hk rfl rfl rfl rfl rfl rfl rfl rfl (fun hc => FW.f_loadBlk1 hk hc (j := 0) rfl rfl Try.underlying4 rfl rfl) ?_; clear hk; intro a w hk
   refine FW.lfunG (y := .lit (.bool (!v1.B))) hk rfl rfl rfl rfl rfl rfl rfl rfl (fun hc => (FW.f_pure (FW.p_not hk.kn hc rfl))) ?_; clear hk; intro a w hk
   refine FW.lfun (y := .lit (.bool (v0.B && (!v1.B)))) hk rfl rfl rfl rfl ((FW.f_pure (FW.p_pick_and hk.kn FW.h0 rfl rfl))) ?_; clear hk; intro a w hk
   obtain ⟨t6, hr_t6, h⟩ := FW.bnd h
   refine FW.lfun (y := .lit (.int .i64 t6)) hk rfl rfl rfl rfl (FW.f_call hk FW.h0 rfl rfl Try.func111 rfl (by kernel_rfl) (offshootref02_sign.ok ((!v0.B) && v1.B) (v0.B && (!v1.B)) _ hr_t6)) ?_; clear hk; intro a w hk
   refine FW.lfun (y := .lit (.int .i64 t6)) hk rfl rfl rfl rfl (FW.f_assign hk FW.h0 rfl) ?_; clear hk; intro a w hk
   refine FW.lend (hK6 _ _ ?_); clear hK6 K'
   refine wp_ret ?_
   (repeat first | refine FW.then_ret ?_ | refine FW.block_ret ?_)
   obtain rfl := Option.some.inj h
   exact FW.fret1 hk rfl rfl
  ·skip
   refine FW.wreg ?_; intro K' hK7
   refine FW.lfun (y := .lit (.pointer (some ⟨bx1, 0, none⟩))) hk rfl rfl rfl rfl (FW.f_fieldPtr hk FW.h0 rfl Try.underlying33 rfl (by kernel_rfl) rfl) ?_; clear hk; intro a w hk
   refine FW.lfun (y := .lit (.int .i64 v0.Kind)) hk rfl rfl rfl rfl (FW.f_loadBlk1 hk FW.h0 (j := 1) rfl rfl Try.underlying3 rfl rfl) ?_; clear hk; intro a w hk
   refine FW.lfun (y := .lit (.bool (decide (v0.Kind = 2)))) hk rfl rfl rfl rfl ((FW.f_pure (FW.p_eql hk.kn FW.h0 rfl rfl))) ?_; clear hk; intro a w hk
   refine FW.lfun (y := .lit (.bool (decide (v0.Kind = 2)))) hk rfl rfl rfl rfl (FW.f_move hk FW.h0 rfl) ?_; clear hk; intro a w hk
   refine FW.lfunG (y := .lit (.pointer (some ⟨bx2, 0, none⟩))) hk rfl rfl rfl rfl rfl rfl rfl rfl (fun hc => FW.f_fieldPtr hk hc rfl Try.underlying33 rfl (by kernel_rfl) rfl) ?_; clear hk; intro a w hk
   refine FW.lfunG (y := .lit (.int .i64 v1.Kind)) hk rfl rfl rfl rfl rfl rfl rfl rfl (fun hc => FW.f_loadBlk1 hk hc (j := 0) rfl rfl Try.underlying3 rfl rfl) ?_; clear hk; intro a w hk
   refine FW.lfunG (y := .lit (.bool (decide (v1.Kind = 3)))) hk rfl rfl rfl rfl rfl rfl rfl rfl (fun hc => (FW.f_pure (FW.p_eql hk.kn hc rfl rfl))) ?_; clear hk; intro a w hk
   refine FW.lfun (y := .lit (.bool ((decide (v0.Kind = 2)) && (decide (v1.Kind = 3))))) hk rfl rfl rfl rfl ((FW.f_pure (FW.p_pick_and hk.kn FW.h0 rfl rfl))) ?_; clear hk; intro a w hk
   refine FW.lfun (y := .lit (.bool ((decide (v0.Kind = 2)) && (decide (v1.Kind = 3))))) hk rfl rfl rfl rfl (FW.f_assign hk FW.h0 rfl) ?_; clear hk; intro a w hk
   refine FW.lend (hK7 _ _ ?_); clear hK7 K'
   refine FW.wcondF (b := ((decide (v0.Kind = 2)) && (decide (v1.Kind = 3)))) hk h rfl (fun h hb => ?_) (fun h hb => ?_)
   ·skip
    refine FW.wreg ?_; intro K' hK8
    refine FW.lfun (y := .lit (.pointer (some ⟨bx1, 2, none⟩))) hk rfl rfl rfl rfl (FW.f_fieldPtr hk FW.h0 rfl Try.underlying33 rfl (by kernel_rfl) rfl) ?_; clear hk; intro a w hk
    refine FW.lfun (y := .lit (.int .i64 v0.N)) hk rfl rfl rfl rfl (FW.f_loadBlk1 hk FW.h0 (j := 1) rfl rfl Try.underlying2 rfl rfl) ?_; clear hk; intro a w hk
    refine FW.lfun (y := .lit (.pointer (some ⟨bx2, 3, none⟩))) hk rfl rfl rfl rfl (FW.f_fieldPtr hk FW.h0 rfl Try.underlying33 rfl (by kernel_rfl) rfl) ?_; clear hk; intro a w hk
    refine FW.lfun (y := .lit (.float .f64 v1.F)) hk rfl rfl rfl rfl (FW.f_loadBlk1 hk FW.h0 (j := 0) rfl rfl Try.underlying30 rfl rfl) ?_; clear hk; intro a w hk
    obtain ⟨t7, hr_t7, h⟩ := FW.bnd h
    refine FW.lfun (y := .lit (.int .i64 t7)) hk rfl rfl rfl rfl (FW.f_call hk FW.h0 rfl rfl Try.func112 rfl (by kernel_rfl) (offshootref01_Mix.ok K v0.N v1.F _ hr_t7)) ?_; clear hk; intro a w hk
    refine FW.lfun (y := .lit (.int .i64 t7)) hk rfl rfl rfl rfl (FW.f_assign hk FW.h0 rfl) ?_; clear hk; intro a w hk
    refine FW.lend (hK8 _ _ ?_); clear hK8 K'
    refine wp_ret ?_
    (repeat first | refine FW.then_ret ?_ | refine FW.block_ret ?_)
    obtain rfl := Option.some.inj h
    exact FW.fret1 hk rfl rfl
   ·skip
    refine FW.wreg ?_; intro K' hK9
    refine FW.lfun (y := .lit (.pointer (some ⟨bx1, 0, none⟩))) hk rfl rfl rfl rfl (FW.f_fieldPtr hk FW.h0 rfl Try.underlying33 rfl (by kernel_rfl) rfl) ?_; clear hk; intro a w hk
    refine FW.lfun (y := .lit (.int .i64 v0.Kind)) hk rfl rfl rfl rfl (FW.f_loadBlk1 hk FW.h0 (j := 1) rfl rfl Try.underlying3 rfl rfl) ?_; clear hk; intro a w hk
    refine FW.lfun (y := .lit (.bool (decide (v0.Kind = 3)))) hk rfl rfl rfl rfl ((FW.f_pure (FW.p_eql hk.kn FW.h0 rfl rfl))) ?_; clear hk; intro a w hk
    refine FW.lfun (y := .lit (.bool (decide (v0.Kind = 3)))) hk rfl rfl rfl rfl (FW.f_move hk FW.h0 rfl) ?_; clear hk; intro a w hk
    refine FW.lfunG (y := .lit (.pointer (some ⟨bx2, 0, none⟩))) hk rfl rfl rfl rfl rfl rfl rfl rfl (fun hc => FW.f_fieldPtr hk hc rfl Try.underlying33 rfl (by kernel_rfl) rfl) ?_; clear hk; intro a w hk
    refine FW.lfunG (y := .lit (.int .i64 v1.Kind)) hk rfl rfl rfl rfl rfl rfl rfl rfl (fun hc => FW.f_loadBlk1 hk hc (j := 0) rfl rfl Try.underlying3 rfl rfl) ?_; clear hk; intro a w hk
    refine FW.lfunG (y := .lit (.bool (decide (v1.Kind = 2)))) hk rfl rfl rfl rfl rfl rfl rfl rfl (fun hc => (FW.f_pure (FW.p_eql hk.kn hc rfl rfl))) ?_; clear hk; intro a w hk
    refine FW.lfun (y := .lit (.bool ((decide (v0.Kind = 3)) && (decide (v1.Kind = 2))))) hk rfl rfl rfl rfl ((FW.f_pure (FW.p_pick_and hk.kn FW.h0 rfl rfl))) ?_; clear hk; intro a w hk
    refine FW.lfun (y := .lit (.bool ((decide (v0.Kind = 3)) && (decide (v1.Kind = 2))))) hk rfl rfl rfl rfl (FW.f_assign hk FW.h0 rfl) ?_; clear hk; intro a w hk
    refine FW.lend (hK9 _ _ ?_); clear hK9 K'
    refine FW.wcondF (b := ((decide (v0.Kind = 3)) && (decide (v1.Kind = 2)))) hk h rfl (fun h hb => ?_) (fun h hb => ?_)
    ·skip
     refine FW.wreg ?_; intro K' hK10
     refine FW.lfun (y := .lit (.pointer (some ⟨bx2, 2, none⟩))) hk rfl rfl rfl rfl (FW.f_fieldPtr hk FW.h0 rfl Try.underlying33 rfl (by kernel_rfl) rfl) ?_; clear hk; intro a w hk
     refine FW.lfun (y := .lit (.int .i64 v1.N)) hk rfl rfl rfl rfl (FW.f_loadBlk1 hk FW.h0 (j := 0) rfl rfl Try.underlying2 rfl rfl) ?_; clear hk; intro a w hk
     refine FW.lfun (y := .lit (.pointer (some ⟨bx1, 3, none⟩))) hk rfl rfl rfl rfl (FW.f_fieldPtr hk FW.h0 rfl Try.underlying33 rfl (by kernel_rfl) rfl) ?_; clear hk; intro a w hk
     refine FW.lfun (y := .lit (.float .f64 v0.F)) hk rfl rfl rfl rfl (FW.f_loadBlk1 hk FW.h0 (j := 1) rfl rfl Try.underlying30 rfl rfl) ?_; clear hk; intro a w hk
     obtain ⟨t8, hr_t8, h⟩ := FW.bnd h
     refine FW.lfun (y := .lit (.int .i64 t8)) hk rfl rfl rfl rfl (FW.f_call hk FW.h0 rfl rfl Try.func112 rfl (by kernel_rfl) (offshootref01_Mix.ok K v1.N v0.F _ hr_t8)) ?_; clear hk; intro a w hk
     refine FW.lfun (y := .lit (.int .i64 (IntKind.wrap .i64 (0 - t8)))) hk rfl rfl rfl rfl ((FW.f_pure (FW.p_neg hk.kn FW.h0 rfl))) ?_; clear hk; intro a w hk
     refine FW.lfun (y := .lit (.int .i64 (IntKind.wrap .i64 (0 - t8)))) hk rfl rfl rfl rfl (FW.f_assign hk FW.h0 rfl) ?_; clear hk; intro a w hk
     refine FW.lend (hK10 _ _ ?_); clear hK10 K'
     refine wp_ret ?_
     (repeat first | refine FW.then_ret ?_ | refine FW.block_ret ?_)
     obtain rfl := Option.some.inj h
     exact FW.fret1 hk rfl rfl
    ·skip
     refine FW.wreg ?_; intro K' hK11
     refine FW.lfun (y := .lit (.pointer (some ⟨bx1, 0, none⟩))) hk rfl rfl rfl rfl (FW.f_fieldPtr hk FW.h0 rfl Try.underlying33 rfl (by kernel_rfl) rfl) ?_; clear hk; intro a w hk
     refine FW.lfun (y := .lit (.int .i64 v0.Kind)) hk rfl rfl rfl rfl (FW.f_loadBlk1 hk FW.h0 (j := 1) rfl rfl Try.underlying3 rfl rfl) ?_; clear hk; intro a w hk
     refine FW.lfun (y := .lit (.bool (decide (v0.Kind = 3)))) hk rfl rfl rfl rfl ((FW.f_pure (FW.p_eql hk.kn FW.h0 rfl rfl))) ?_; clear hk; intro a w hk
     refine FW.lfun (y := .lit (.bool (decide (v0.Kind = 3)))) hk rfl rfl rfl rfl (FW.f_assign hk FW.h0 rfl) ?_; clear hk; intro a w hk
     refine FW.lend (hK11 _ _ ?_); clear hK11 K'
     refine FW.wcondF (b := (decide (v0.Kind = 3))) hk h rfl (fun h hb => ?_) (fun h hb => ?_)
     ·skip
      refine FW.wreg ?_; intro K' hK12
      refine FW.lfun (y := .lit (.pointer (some ⟨bx1, 3, none⟩))) hk rfl rfl rfl rfl (FW.f_fieldPtr hk FW.h0 rfl Try.underlying33 rfl (by kernel_rfl) rfl) ?_; clear hk; intro a w hk
      refine FW.lfun (y := .lit (.float .f64 v0.F)) hk rfl rfl rfl rfl (FW.f_loadBlk1 hk FW.h0 (j := 1) rfl rfl Try.underlying30 rfl rfl) ?_; clear hk; intro a w hk
      refine FW.lfun (y := .lit (.pointer (some ⟨bx2, 3, none⟩))) hk rfl rfl rfl rfl (FW.f_fieldPtr hk FW.h0 rfl Try.underlying33 rfl (by kernel_rfl) rfl) ?_; clear hk; intro a w hk
      refine FW.lfun (y := .lit (.float .f64 v1.F)) hk rfl rfl rfl rfl (FW.f_loadBlk1 hk FW.h0 (j := 0) rfl rfl Try.underlying30 rfl rfl) ?_; clear hk; intro a w hk
      obtain ⟨t9, hr_t9, h⟩ := FW.bnd h
      refine FW.lfun (y := .lit (.int .i64 t9)) hk rfl rfl rfl rfl (FW.f_call hk FW.h0 rfl rfl Try.func113 rfl (by kernel_rfl) (offshootref01_Cmp.ok v0.F v1.F _ hr_t9)) ?_; clear hk; intro a w hk
      refine FW.lfun (y := .lit (.int .i64 t9)) hk rfl rfl rfl rfl (FW.f_assign hk FW.h0 rfl) ?_; clear hk; intro a w hk
      refine FW.lend (hK12 _ _ ?_); clear hK12 K'
      refine wp_ret ?_
      (repeat first | refine FW.then_ret ?_ | refine FW.block_ret ?_)
      obtain rfl := Option.some.inj h
      exact FW.fret1 hk rfl rfl
     ·skip
      refine FW.wreg ?_; intro K' hK13
      refine FW.lfun (y := .lit (.pointer (some ⟨bx1, 0, none⟩))) hk rfl rfl rfl rfl (FW.f_fieldPtr hk FW.h0 rfl Try.underlying33 rfl (by kernel_rfl) rfl) ?_; clear hk; intro a w hk
      refine FW.lfun (y := .lit (.int .i64 v0.Kind)) hk rfl rfl rfl rfl (FW.f_loadBlk1 hk FW.h0 (j := 1) rfl rfl Try.underlying3 rfl rfl) ?_; clear hk; intro a w hk
      refine FW.lfun (y := .lit (.bool (decide (v0.Kind = 4)))) hk rfl rfl rfl rfl ((FW.f_pure (FW.p_eql hk.kn FW.h0 rfl rfl))) ?_; clear hk; intro a w hk
      refine FW.lfun (y := .lit (.bool (decide (v0.Kind = 4)))) hk rfl rfl rfl rfl (FW.f_assign hk FW.h0 rfl) ?_; clear hk; intro a w hk
      refine FW.lend (hK13 _ _ ?_); clear hK13 K'
      refine FW.wcondF (b := (decide (v0.Kind = 4))) hk h rfl (fun h hb => ?_) (fun h hb => ?_)
      ·skip
       refine FW.wreg ?_; intro K' hK14
       refine FW.lfun (y := .lit (.pointer (some ⟨bx1, 4, none⟩))) hk rfl rfl rfl rfl (FW.f_fieldPtr hk FW.h0 rfl Try.underlying33 rfl (by kernel_rfl) rfl) ?_; clear hk; intro a w hk
       refine FW.lfun (y := .lit (.string (FW.B v0.S))) hk rfl rfl rfl rfl (FW.f_loadBlk1 hk FW.h0 (j := 1) rfl rfl Try.underlying9 rfl rfl) ?_; clear hk; intro a w hk
       refine FW.lfun (y := .lit (.pointer (some ⟨bx2, 4, none⟩))) hk rfl rfl rfl rfl (FW.f_fieldPtr hk FW.h0 rfl Try.underlying33 rfl (by kernel_rfl) rfl) ?_; clear hk; intro a w hk
       refine FW.lfun (y := .lit (.string (FW.B v1.S))) hk rfl rfl rfl rfl (FW.f_loadBlk1 hk FW.h0 (j := 0) rfl rfl Try.underlying9 rfl rfl) ?_; clear hk; intro a w hk
       refine FW.lfun (y := .lit (.bool (Op.bytesLess v0.S v1.S))) hk rfl rfl rfl rfl ((FW.f_pure (FW.p_slss hk.kn FW.h0 rfl rfl))) ?_; clear hk; intro a w hk
       refine FW.lfun (y := .lit (.pointer (some ⟨bx1, 4, none⟩))) hk rfl rfl rfl rfl (FW.f_fieldPtr hk FW.h0 rfl Try.underlying33 rfl (by kernel_rfl) rfl) ?_; clear hk; intro a w hk
       refine FW.lfun (y := .lit (.string (FW.B v0.S))) hk rfl rfl rfl rfl (FW.f_loadBlk1 hk FW.h0 (j := 1) rfl rfl Try.underlying9 rfl rfl) ?_; clear hk; intro a w hk
       refine FW.lfun (y := .lit (.pointer (some ⟨bx2, 4, none⟩))) hk rfl rfl rfl rfl (FW.f_fieldPtr hk FW.h0 rfl Try.underlying33 rfl (by kernel_rfl) rfl) ?_; clear hk; intro a w hk
       refine FW.lfun (y := .lit (.string (FW.B v1.S))) hk rfl rfl rfl rfl (FW.f_loadBlk1 hk FW.h0 (j := 0) rfl rfl Try.underlying9 rfl rfl) ?_; clear hk; intro a w hk
       refine FW.lfun (y := .lit (.bool (FW.sgtr v0.S v1.S))) hk rfl rfl rfl rfl ((FW.f_pure (FW.p_sgtr hk.kn FW.h0 rfl rfl))) ?_; clear hk; intro a w hk
       obtain ⟨t10, hr_t10, h⟩ := FW.bnd h
       refine FW.lfun (y := .lit (.int .i64 t10)) hk rfl rfl rfl rfl (FW.f_call hk FW.h0 rfl rfl Try.func111 rfl (by kernel_rfl) (offshootref02_sign.ok (Op.bytesLess v0.S v1.S) (FW.sgtr v0.S v1.S) _ hr_t10)) ?_; clear hk; intro a w hk
       refine FW.lfun (y := .lit (.int .i64 t10)) hk rfl rfl rfl rfl (FW.f_assign hk FW.h0 rfl) ?_; clear hk; intro a w hk
       refine FW.lend (hK14 _ _ ?_); clear hK14 K'
       refine wp_ret ?_
       (repeat first | refine FW.then_ret ?_ | refine FW.block_ret ?_)
       obtain rfl := Option.some.inj h
       exact FW.fret1 hk rfl rfl
      ·skip
       refine FW.wreg ?_; intro K' hK15
       refine FW.lfun (y := .lit (.pointer (some ⟨bx1, 0, none⟩))) hk rfl rfl rfl rfl (FW.f_fieldPtr hk FW.h0 rfl Try.underlying33 rfl (by kernel_rfl) rfl) ?_; clear hk; intro a w hk
       refine FW.lfun (y := .lit (.int .i64 v0.Kind)) hk rfl rfl rfl rfl (FW.f_loadBlk1 hk FW.h0 (j := 1) rfl rfl Try.underlying3 rfl rfl) ?_; clear hk; intro a w hk
       refine FW.lfun (y := .lit (.bool (decide (v0.Kind = 5)))) hk rfl rfl rfl rfl ((FW.f_pure (FW.p_eql hk.kn FW.h0 rfl rfl))) ?_; clear hk; intro a w hk
       refine FW.lfun (y := .lit (.bool (decide (v0.Kind = 5)))) hk rfl rfl rfl rfl (FW.f_move hk FW.h0 rfl) ?_; clear hk; intro a w hk
       refine FW.lfunG (y := .lit (.pointer (some ⟨bx1, 0, none⟩))) hk rfl rfl rfl rfl rfl rfl rfl rfl (fun hc => FW.f_fieldPtr hk hc rfl Try.underlying33 rfl (by kernel_rfl) rfl) ?_; clear hk; intro a w hk
       refine FW.lfunG (y := .lit (.int .i64 v0.Kind)) hk rfl rfl rfl rfl rfl rfl rfl rfl (fun hc => FW.f_loadBlk1 hk hc (j := 1) rfl rfl Try.underlying3 rfl rfl) ?_; clear hk; intro a w hk
       refine FW.lfunG (y := .lit (.bool (decide (v0.Kind = 6)))) hk rfl rfl rfl rfl rfl rfl rfl rfl (fun hc => (FW.f_pure (FW.p_eql hk.kn hc rfl rfl))) ?_; clear hk; intro a w hk
       refine FW.lfun (y := .lit (.bool ((decide (v0.Kind = 5)) || (decide (v0.Kind = 6))))) hk rfl rfl rfl rfl ((FW.f_pure (FW.p_pick_or hk.kn FW.h0 rfl rfl))) ?_; clear hk; intro a w hk
       refine FW.lfun (y := .lit (.bool ((decide (v0.Kind = 5)) || (decide (v0.Kind = 6))))) hk rfl rfl rfl rfl (FW.f_assign hk FW.h0 rfl) ?_; clear hk; intro a w hk
       refine FW.lend (hK15 _ _ ?_); clear hK15 K'
       refine FW.wcondF (b := ((decide (v0.Kind = 5)) || (decide (v0.Kind = 6)))) hk h rfl (fun h hb => ?_) (fun h hb => ?_)
       ·skip
        refine FW.wseq ?_; intro K' hK16
        refine FW.wreg ?_; intro K' hK17
        refine FW.lfun (y := .lit (.int .i64 0)) hk rfl rfl rfl rfl (FW.f_assign hk FW.h0 rfl) ?_; clear hk; intro a w hk
        refine FW.lend (hK17 _ _ ?_); clear hK17 K'
        refine wp_block ?_
        refine FW.wloop (T := Nat × ApiValue × ApiValue × Int) (fun x a w => match x with | (kl1, y2, y1, v5) => FW.S M w0 a w 158 [FW.blk bx2 33 ((ApiValue.cells y2)), FW.blk bx1 33 ((ApiValue.cells y1))] [(2, [], .lit (.pointer (some ⟨bx1, 0, none⟩))), (3, [], .lit (.pointer (some ⟨bx2, 0, none⟩))), (5, [], .lit (.int .i64 v5))] ∧ offshootref02_Cmp.l1 s_offshootref02_Cmp K kl1 y2 y1 v5 = some r) (fun x => x.1) (K, v1, v0, 0) ⟨hk.sub ⟨rfl, rfl, rfl, trivial⟩, h⟩ ?_
        clear hk h
        rintro ⟨kl1, y2, y1, v5⟩ a w ⟨hk, h⟩ K' hK18
        cases kl1 with
        | zero => simp [offshootref02_Cmp.l1] at h
        | succ kl1 =>
        rw [offshootref02_Cmp.l1.eq_2] at h
        refine FW.wseq ?_; intro K' hK19
        refine FW.wreg ?_; intro K' hK20
        refine FW.lfun (y := .lit (.int .i64 v5)) hk rfl rfl rfl rfl (FW.f_move hk FW.h0 rfl) ?_; clear hk; intro a w hk
        refine FW.lfun (y := .lit (.pointer (some ⟨bx1, 5, none⟩))) hk rfl rfl rfl rfl (FW.f_fieldPtr hk FW.h0 rfl Try.underlying33 rfl (by kernel_rfl) rfl) ?_; clear hk; intro a w hk
        refine FW.lfun (y := .row (r_ApiValue_cells y1.L)) hk rfl rfl rfl rfl (FW.f_loadBlk1 hk FW.h0 (j := 1) rfl rfl Try.underlying31 rfl rfl) ?_; clear hk; intro a w hk
        refine FW.lfun (y := .lit (.int .i64 (List.length y1.L : Int))) hk rfl rfl rfl rfl (FW.f_len (R := r_ApiValue_cells) (f := ApiValue.cells) (l := y1.L) r_ApiValue_cells_eq Try.underlying31 hk FW.h0 rfl) ?_; clear hk; intro a w hk
        refine FW.lfun (y := .lit (.bool (decide (v5 < (List.length y1.L : Int))))) hk rfl rfl rfl rfl ((FW.f_pure (FW.p_lss hk.kn FW.h0 rfl rfl))) ?_; clear hk; intro a w hk
        refine FW.lfun (y := .lit (.bool (decide (v5 < (List.length y1.L : Int))))) hk rfl rfl rfl rfl (FW.f_move hk FW.h0 rfl) ?_; clear hk; intro a w hk
        refine FW.lfunG (y := .lit (.int .i64 v5)) hk rfl rfl rfl rfl rfl rfl rfl rfl (fun hc => FW.f_move hk hc rfl) ?_; clear hk; intro a w hk
        refine FW.lfunG (y := .lit (.pointer (some ⟨bx2, 5, none⟩))) hk rfl rfl rfl rfl rfl rfl rfl rfl (fun hc => FW.f_fieldPtr hk hc rfl Try.underlying33 rfl (by kernel_rfl) rfl) ?_; clear hk; intro a w hk
        refine FW.lfunG (y := .row (r_ApiValue_cells y2.L)) hk rfl rfl rfl rfl rfl rfl rfl rfl (fun hc => FW.f_loadBlk1 hk hc (j := 0) rfl rfl Try.underlying31 rfl rfl) ?_; clear hk; intro a w hk
        refine FW.lfunG (y := .lit (.int .i64 (List.length y2.L : Int))) hk rfl rfl rfl rfl rfl rfl rfl rfl (fun hc => FW.f_len (R := r_ApiValue_cells) (f := ApiValue.cells) (l := y2.L) r_ApiValue_cells_eq Try.underlying31 hk hc rfl) ?_; clear hk; intro a w hk
        refine FW.lfunG (y := .lit (.bool (decide (v5 < (List.length y2.L : Int))))) hk rfl rfl rfl rfl rfl rfl rfl rfl (fun hc => (FW.f_pure (FW.p_lss hk.kn hc rfl rfl))) ?_; clear hk; intro a w hk
        refine FW.lfun (y := .lit (.bool ((decide (v5 < (List.length y1.L : Int))) && (decide (v5 < (List.length y2.L : Int)))))) hk rfl rfl rfl rfl ((FW.f_pure (FW.p_pick_and hk.kn FW.h0 rfl rfl))) ?_; clear hk; intro a w hk
        refine FW.lend (hK20 _ _ ?_); clear hK20 K'
        refine FW.wcondF (b := ((decide (v5 < (List.length y1.L : Int))) && (decide (v5 < (List.length y2.L : Int))))) hk h rfl (fun h hb => ?_) (fun h hb => ?_)
        ·skip
         refine wp_skip ?_
         (repeat first | refine FW.then_normal ?_ | refine FW.block_normal ?_); refine hK19 _ _ ?_
         refine FW.wseq ?_; intro K' hK21
         refine wp_block ?_
         obtain ⟨hc1, h⟩ := FW.chk h
         obtain ⟨hc2, h⟩ := FW.chk h
         obtain ⟨t11, hr_t11, h⟩ := FW.bnd h
         refine FW.wdraw (by kernel_rfl) (by kernel_rfl) hk ?_; clear hk
         refine FW.dfun (y := .lit (.pointer (some ⟨bx1, 5, none⟩))) rfl rfl rfl rfl (fun a w hk => FW.f_fieldPtr hk FW.h0 rfl Try.underlying33 rfl (by kernel_rfl) rfl) ?_
         refine FW.dfun (y := .row (r_ApiValue_cells y1.L)) rfl rfl rfl rfl (fun a w hk => FW.f_loadBlk1 hk FW.h0 (j := 1) rfl rfl Try.underlying31 rfl rfl) ?_
         refine FW.dfun (y := .lit (.int .i64 v5)) rfl rfl rfl rfl (fun a w hk => FW.f_move hk FW.h0 rfl) ?_
         refine FW.dfun (y := .ref (ApiValue.cells (List.getD y1.L (Int.toNat v5) default))) rfl rfl rfl rfl (fun a w hk => FW.f_indexAddr (R := r_ApiValue_cells) (f := ApiValue.cells) (l := y1.L) (sz := 6) r_ApiValue_cells_eq (fun _ => rfl) hk FW.h0 rfl rfl Try.underlying31 (by kernel_rfl) hc1) ?_
         refine FW.dfun (y := .agg ((ApiValue.cells (List.getD y1.L (Int.toNat v5) default)))) rfl rfl rfl rfl (fun a w hk => FW.f_load hk FW.h0 rfl Try.underlying33 rfl rfl rfl rfl) ?_
         refine FW.dfun (y := .lit (.pointer (some ⟨bx2, 5, none⟩))) rfl rfl rfl rfl (fun a w hk => FW.f_fieldPtr hk FW.h0 rfl Try.underlying33 rfl (by kernel_rfl) rfl) ?_
         refine FW.dfun (y := .row (r_ApiValue_cells y2.L)) rfl rfl rfl rfl (fun a w hk => FW.f_loadBlk1 hk FW.h0 (j := 0) rfl rfl Try.underlying31 rfl rfl) ?_
         refine FW.dfun (y := .lit (.int .i64 v5)) rfl rfl rfl rfl (fun a w hk => FW.f_move hk FW.h0 rfl) ?_
         refine FW.dfun (y := .ref (ApiValue.cells (List.getD y2.L (Int.toNat v5) default))) rfl rfl rfl rfl (fun a w hk => FW.f_indexAddr (R := r_ApiValue_cells) (f := ApiValue.cells) (l := y2.L) (sz := 6) r_ApiValue_cells_eq (fun _ => rfl) hk FW.h0 rfl rfl Try.underlying31 (by kernel_rfl) hc2) ?_
         refine FW.dfun (y := .agg ((ApiValue.cells (List.getD y2.L (Int.toNat v5) default)))) rfl rfl rfl rfl (fun a w hk => FW.f_load hk FW.h0 rfl Try.underlying33 rfl rfl rfl rfl) ?_
         refine FW.dfun (y := .lit (.int .i64 t11)) rfl rfl rfl rfl (fun a w hk => FW.f_call hk FW.h0 rfl rfl Try.func83 rfl (by kernel_rfl) (hs_offshootref02_Cmp (List.getD y1.L (Int.toNat v5) default) (List.getD y2.L (Int.toNat v5) default) _ hr_t11)) ?_
         refine FW.dfun (y := .lit (.int .i64 t11)) rfl rfl rfl rfl (fun a w hk => FW.f_assign hk FW.h0 rfl) ?_
         refine FW.dend ?_; intro a w hk
         refine FW.wreg ?_; intro K' hK23
         refine FW.lfun (y := .lit (.int .i64 t11)) hk rfl rfl rfl rfl (FW.f_move hk FW.h0 rfl) ?_; clear hk; intro a w hk
         refine FW.lfun (y := .lit (.bool (!decide (t11 = 0)))) hk rfl rfl rfl rfl ((FW.f_pure (FW.p_neq hk.kn FW.h0 rfl rfl))) ?_; clear hk; intro a w hk
         refine FW.lend (hK23 _ _ ?_); clear hK23 K'
         refine FW.wcondF (b := (!decide (t11 = 0))) hk h rfl (fun h hb => ?_) (fun h hb => ?_)
         ·skip
          refine FW.wreg ?_; intro K' hK24
          refine FW.lfun (y := .lit (.int .i64 t11)) hk rfl rfl rfl rfl (FW.f_move hk FW.h0 rfl) ?_; clear hk; intro a w hk
          refine FW.lfun (y := .lit (.int .i64 t11)) hk rfl rfl rfl rfl (FW.f_assign hk FW.h0 rfl) ?_; clear hk; intro a w hk
          refine FW.lend (hK24 _ _ ?_); clear hK24 K'
          refine wp_ret ?_
          (repeat first | refine FW.then_ret ?_ | refine FW.block_ret ?_)
          obtain rfl := Option.some.inj h
          exact FW.fret1 hk rfl rfl
         ·skip
          refine wp_skip ?_
          (repeat first | refine FW.then_normal ?_ | refine FW.block_normal ?_); refine hK21 _ _ ?_
          refine FW.wreg1 ?_
          refine FW.lfun (y := .lit (.int .i64 v5)) hk rfl rfl rfl rfl (FW.f_move hk FW.h0 rfl) ?_; clear hk; intro a w hk
          refine FW.lfun (y := .lit (.int .i64 (IntKind.wrap .i64 (v5 + 1)))) hk rfl rfl rfl rfl ((FW.f_pure (FW.p_add hk.kn FW.h0 rfl rfl))) ?_; clear hk; intro a w hk
          refine FW.lfun (y := .lit (.int .i64 (IntKind.wrap .i64 (v5 + 1)))) hk rfl rfl rfl rfl (FW.f_assign hk FW.h0 rfl) ?_; clear hk; intro a w hk
          refine wpList_nil ?_
          (repeat first | refine FW.then_normal ?_ | refine FW.block_normal ?_); exact hK18 (kl1, y2, y1, (IntKind.wrap .i64 (v5 + 1))) _ _ (Nat.lt_succ_self _) ⟨hk.sub ⟨rfl, rfl, rfl, trivial⟩, h⟩
        ·skip
         refine wp_exit ?_; (repeat first | refine FW.then_exit ?_ | refine FW.block_exit_ne rfl ?_); refine FW.block_exit ?_
         (repeat first | refine FW.then_normal ?_ | refine FW.block_normal ?_); refine hK16 _ _ ?_
         refine FW.wreg ?_; intro K' hK26
         refine FW.lfun (y := .lit (.pointer (some ⟨bx1, 5, none⟩))) hk rfl rfl rfl rfl (FW.f_fieldPtr hk FW.h0 rfl Try.underlying33 rfl (by kernel_rfl) rfl) ?_; clear hk; intro a w hk
         refine FW.lfun (y := .row (r_ApiValue_cells y1.L)) hk rfl rfl rfl rfl (FW.f_loadBlk1 hk FW.h0 (j := 1) rfl rfl Try.underlying31 rfl rfl) ?_; clear hk; intro a w hk
         refine FW.lfun (y := .lit (.int .i64 (List.length y1.L : Int))) hk rfl rfl rfl rfl (FW.f_len (R := r_ApiValue_cells) (f := ApiValue.cells) (l := y1.L) r_ApiValue_cells_eq Try.underlying31 hk FW.h0 rfl) ?_; clear hk; intro a w hk
         refine FW.lfun (y := .lit (.pointer (some ⟨bx2, 5, none⟩))) hk rfl rfl rfl rfl (FW.f_fieldPtr hk FW.h0 rfl Try.underlying33 rfl (by kernel_rfl) rfl) ?_; clear hk; intro a w hk
         refine FW.lfun (y := .row (r_ApiValue_cells y2.L)) hk rfl rfl rfl rfl (FW.f_loadBlk1 hk FW.h0 (j := 0) rfl rfl Try.underlying31 rfl rfl) ?_; clear hk; intro a w hk
         refine FW.lfun (y := .lit (.int .i64 (List.length y2.L : Int))) hk rfl rfl rfl rfl (FW.f_len (R := r_ApiValue_cells) (f := ApiValue.cells) (l := y2.L) r_ApiValue_cells_eq Try.underlying31 hk FW.h0 rfl) ?_; clear hk; intro a w hk
         refine FW.lfun (y := .lit (.bool (decide ((List.length y1.L : Int) < (List.length y2.L : Int))))) hk rfl rfl rfl rfl ((FW.f_pure (FW.p_lss hk.kn FW.h0 rfl rfl))) ?_; clear hk; intro a w hk
         refine FW.lfun (y := .lit (.pointer (some ⟨bx1, 5, none⟩))) hk rfl rfl rfl rfl (FW.f_fieldPtr hk FW.h0 rfl Try.underlying33 rfl (by kernel_rfl) rfl) ?_; clear hk; intro a w hk
         refine FW.lfun (y := .row (r_ApiValue_cells y1.L)) hk rfl rfl rfl rfl (FW.f_loadBlk1 hk FW.h0 (j := 1) rfl rfl Try.underlying31 rfl rfl) ?_; clear hk; intro a w hk
         refine FW.lfun (y := .lit (.int .i64 (List.length y1.L : Int))) hk rfl rfl rfl rfl (FW.f_len (R := r_ApiValue_cells) (f := ApiValue.cells) (l := y1.L) r_ApiValue_cells_eq Try.underlying31 hk FW.h0 rfl) ?_; clear hk; intro a w hk
         refine FW.lfun (y := .lit (.pointer (some ⟨bx2, 5, none⟩))) hk rfl rfl rfl rfl (FW.f_fieldPtr hk FW.h0 rfl Try.underlying33 rfl (by kernel_rfl) rfl) ?_; clear hk; intro a w hk
         refine FW.lfun (y := .row (r_ApiValue_cells y2.L)) hk rfl rfl rfl rfl (FW.f_loadBlk1 hk FW.h0 (j := 0) rfl rfl Try.underlying31 rfl rfl) ?_; clear hk; intro a w hk
         refine FW.lfun (y := .lit (.int .i64 (List.length y2.L : Int))) hk rfl rfl rfl rfl (FW.f_len (R := r_ApiValue_cells) (f := ApiValue.cells) (l := y2.L) r_ApiValue_cells_eq Try.underlying31 hk FW.h0 rfl) ?_; clear hk; intro a w hk
         refine FW.lfun (y := .lit (.bool (decide ((List.length y2.L : Int) < (List.length y1.L : Int))))) hk rfl rfl rfl rfl ((FW.f_pure (FW.p_gtr hk.kn FW.h0 rfl rfl))) ?_; clear hk; intro a w hk
         obtain ⟨t12, hr_t12, h⟩ := FW.bnd h
         refine FW.lfun (y := .lit (.int .i64 t12)) hk rfl rfl rfl rfl (FW.f_call hk FW.h0 rfl rfl Try.func111 rfl (by kernel_rfl) (offshootref02_sign.ok (decide ((List.length y1.L : Int) < (List.length y2.L : Int))) (decide ((List.length y2.L : Int) < (List.length y1.L : Int))) _ hr_t12)) ?_; clear hk; intro a w hk
         refine FW.lfun (y := .lit (.int .i64 t12)) hk rfl rfl rfl rfl (FW.f_assign hk FW.h0 rfl) ?_; clear hk; intro a w hk
         refine FW.lend (hK26 _ _ ?_); clear hK26 K'
         refine wp_ret ?_
         (repeat first | refine FW.then_ret ?_ | refine FW.block_ret ?_)
         obtain rfl := Option.some.inj h
         exact FW.fret1 hk rfl rfl
       ·skip
        refine wp_skip ?_
        (repeat first | refine FW.then_normal ?_ | refine FW.block_normal ?_); refine hK2 _ _ ?_
        refine FW.wreg ?_; intro K' hK27
        refine FW.lfun (y := .lit (.pointer (some ⟨bx1, 2, none⟩))) hk rfl rfl rfl rfl (FW.f_fieldPtr hk FW.h0 rfl Try.underlying33 rfl (by kernel_rfl) rfl) ?_; clear hk; intro a w hk
        refine FW.lfun (y := .lit (.int .i64 v0.N)) hk rfl rfl rfl rfl (FW.f_loadBlk1 hk FW.h0 (j := 1) rfl rfl Try.underlying2 rfl rfl) ?_; clear hk; intro a w hk
        refine FW.lfun (y := .lit (.pointer (some ⟨bx2, 2, none⟩))) hk rfl rfl rfl rfl (FW.f_fieldPtr hk FW.h0 rfl Try.underlying33 rfl (by kernel_rfl) rfl) ?_; clear hk; intro a w hk
        refine FW.lfun (y := .lit (.int .i64 v1.N)) hk rfl rfl rfl rfl (FW.f_loadBlk1 hk FW.h0 (j := 0) rfl rfl Try.underlying2 rfl rfl) ?_; clear hk; intro a w hk
        refine FW.lfun (y := .lit (.bool (decide (v0.N < v1.N)))) hk rfl rfl rfl rfl ((FW.f_pure (FW.p_lss hk.kn FW.h0 rfl rfl))) ?_; clear hk; intro a w hk
        refine FW.lfun (y := .lit (.pointer (some ⟨bx1, 2, none⟩))) hk rfl rfl rfl rfl (FW.f_fieldPtr hk FW.h0 rfl Try.underlying33 rfl (by kernel_rfl) rfl) ?_; clear hk; intro a w hk
        refine FW.lfun (y := .lit (.int .i64 v0.N)) hk rfl rfl rfl rfl (FW.f_loadBlk1 hk FW.h0 (j := 1) rfl rfl Try.underlying2 rfl rfl) ?_; clear hk; intro a w hk
        refine FW.lfun (y := .lit (.pointer (some ⟨bx2, 2, none⟩))) hk rfl rfl rfl rfl (FW.f_fieldPtr hk FW.h0 rfl Try.underlying33 rfl (by kernel_rfl) rfl) ?_; clear hk; intro a w hk
        refine FW.lfun (y := .lit (.int .i64 v1.N)) hk rfl rfl rfl rfl (FW.f_loadBlk1 hk FW.h0 (j := 0) rfl rfl Try.underlying2 rfl rfl) ?_; clear hk; intro a w hk
        refine FW.lfun (y := .lit (.bool (decide (v1.N < v0.N)))) hk rfl rfl rfl rfl ((FW.f_pure (FW.p_gtr hk.kn FW.h0 rfl rfl))) ?_; clear hk; intro a w hk
        obtain ⟨t13, hr_t13, h⟩ := FW.bnd h
        refine FW.lfun (y := .lit (.int .i64 t13)) hk rfl rfl rfl rfl (FW.f_call hk FW.h0 rfl rfl Try.func111 rfl (by kernel_rfl) (offshootref02_sign.ok (decide (v0.N < v1.N)) (decide (v1.N < v0.N)) _ hr_t13)) ?_; clear hk; intro a w hk
        refine FW.lfun (y := .lit (.int .i64 t13)) hk rfl rfl rfl rfl (FW.f_assign hk FW.h0 rfl) ?_; clear hk; intro a w hk
        refine FW.lend (hK27 _ _ ?_); clear hK27 K'
        refine wp_ret ?_
        (repeat first | refine FW.then_ret ?_ | refine FW.block_ret ?_)
        obtain rfl := Option.some.inj h
        exact FW.fret1 hk rfl rfl
theorem offshootref02_Cmp_knot : ∀ K : Nat, (∀ (v0 : ApiValue) (v1 : ApiValue) (r : Int), offshootref02_Cmp.f K v0 v1 = some r → FW.Ok Try.prog 83 [.agg (ApiValue.cells v0), .agg (ApiValue.cells v1)] (.lit (.int .i64 r)))
 | 0 => fun v0 v1 r h => by simp [offshootref02_Cmp.f] at h
 | K + 1 => fun v0 v1 r h => by rw [offshootref02_Cmp.f] at h; exact offshootref02_Cmp.bok _ (offshootref02_Cmp_knot K) K v0 v1 r h
theorem offshootref02_Cmp.ok (K : Nat) (v0 : ApiValue) (v1 : ApiValue) (r : Int) (h : offshootref02_Cmp.f K v0 v1 = some r) : FW.Ok Try.prog 83 [.agg (ApiValue.cells v0), .agg (ApiValue.cells v1)] (.lit (.int .i64 r)) := (offshootref02_Cmp_knot K) v0 v1 r h

theorem offshootref02_rises.ok (K : Nat) (v0 : List ApiValue) (r : Bool) (h : offshootref02_rises.f K v0 = some r) :
  FW.Ok Try.prog 56 [.row (r_ApiValue_cells v0)] (.lit (.bool r)) := by
 refine FW.enter (xs := [.row (r_ApiValue_cells v0)]) Try.func56 rfl Try.ntmps56 rfl ?_
 intro M w0 a hk
 unfold offshootref02_rises.f at h
 refine FW.wreg ?_; intro K' hK1
 refine FW.lfun (y := .lit (.bool false)) hk rfl rfl rfl rfl (FW.f_assign hk FW.h0 rfl) ?_; clear hk; intro a w hk
 refine FW.lend (hK1 _ _ ?_); clear hK1 K'
 refine FW.wseq ?_; intro K' hK2
 refine FW.wreg ?_; intro K' hK3
 refine FW.lfun (y := .lit (.int .i64 2)) hk rfl rfl rfl rfl (FW.f_assign hk FW.h0 rfl) ?_; clear hk; intro a w hk
 refine FW.lend (hK3 _ _ ?_); clear hK3 K'
 refine wp_block ?_
 refine FW.wloop (T := Nat × List ApiValue × Int) (fun x a w => match x with | (kl1, v0, v3) => FW.S M w0 a w 25 [] [(0, [], .row (r_ApiValue_cells v0)), (3, [], .lit (.int .i64 v3))] ∧ offshootref02_rises.l1 K kl1 v0 v3 = some r) (fun x => x.1) (K, v0, 2) ⟨hk.sub ⟨rfl, rfl, trivial⟩, h⟩ ?_
 clear hk h
 rintro ⟨kl1, v0, v3⟩ a w ⟨hk, h⟩ K' hK4
 cases kl1 with
 | zero => simp [offshootref02_rises.l1] at h
 | succ kl1 =>
 rw [offshootref02_rises.l1.eq_2] at h
 refine FW.wseq ?_; intro K' hK5
 refine FW.wreg ?_; intro K' hK6
 refine FW.lfun (y := .lit (.int .i64 v3)) hk rfl rfl rfl rfl (FW.f_move hk FW.h0 rfl) ?_; clear hk; intro a w hk
 refine FW.lfun (y := .row (r_ApiValue_cells v0)) hk rfl rfl rfl rfl (FW.f_move hk FW.h0 rfl) ?_; clear hk; intro a w hk
 refine FW.lfun (y := .lit (.int .i64 (List.length v0 : Int))) hk rfl rfl rfl rfl (FW.f_len (R := r_ApiValue_cells) (f := ApiValue.cells) (l := v0) r_ApiValue_cells_eq Try.underlying31 hk FW.h0 rfl) ?_; clear hk; intro a w hk
 refine FW.lfun (y := .lit (.bool (decide (v3 < (List.length v0 : Int))))) hk rfl rfl rfl rfl ((FW.f_pure (FW.p_lss hk.kn FW.h0 rfl rfl))) ?_; clear hk; intro a w hk
 refine FW.lend (hK6 _ _ ?_); clear hK6 K'
 refine FW.wcondF (b := (decide (v3 < (List.length v0 : Int)))) hk h rfl (fun h hb => ?_) (fun h hb => ?_)
 ·skip
  refine wp_skip ?_
  (repeat first | refine FW.then_normal ?_ | refine FW.block_normal ?_); refine hK5 _ _ ?_
  refine FW.wseq ?_; intro K' hK7
  refine wp_block ?_
  obtain ⟨hc1, h⟩ := FW.chk h
  obtain ⟨hc2, h⟩ := FW.chk h
  obtain ⟨t1, hr_t1, h⟩ := FW.bnd h
  refine FW.wdraw (by kernel_rfl) (by kernel_rfl) hk ?_; clear hk
  refine FW.dfun (y := .row (r_ApiValue_cells v0)) rfl rfl rfl rfl (fun a w hk => FW.f_move hk FW.h0 rfl) ?_
  refine FW.dfun (y := .lit (.int .i64 v3)) rfl rfl rfl rfl (fun a w hk => FW.f_move hk FW.h0 rfl) ?_
  refine FW.dfun (y := .lit (.int .i64 (IntKind.wrap .i64 (v3 - 2)))) rfl rfl rfl rfl (fun a w hk => (FW.f_pure (FW.p_sub hk.kn FW.h0 rfl rfl))) ?_
  refine FW.dfun (y := .ref (ApiValue.cells (List.getD v0 (Int.toNat (IntKind.wrap .i64 (v3 - 2))) default))) rfl rfl rfl rfl (fun a w hk => FW.f_indexAddr (R := r_ApiValue_cells) (f := ApiValue.cells) (l := v0) (sz := 6) r_ApiValue_cells_eq (fun _ => rfl) hk FW.h0 rfl rfl Try.underlying31 (by kernel_rfl) hc1) ?_
  refine FW.dfun (y := .agg ((ApiValue.cells (List.getD v0 (Int.toNat (IntKind.wrap .i64 (v3 - 2))) default)))) rfl rfl rfl rfl (fun a w hk => FW.f_load hk FW.h0 rfl Try.underlying33 rfl rfl rfl rfl) ?_
  refine FW.dfun (y := .row (r_ApiValue_cells v0)) rfl rfl rfl rfl (fun a w hk => FW.f_move hk FW.h0 rfl) ?_
  refine FW.dfun (y := .lit (.int .i64 v3)) rfl rfl rfl rfl (fun a w hk => FW.f_move hk FW.h0 rfl) ?_
  refine FW.dfun (y := .ref (ApiValue.cells (List.getD v0 (Int.toNat v3) default))) rfl rfl rfl rfl (fun a w hk => FW.f_indexAddr (R := r_ApiValue_cells) (f := ApiValue.cells) (l := v0) (sz := 6) r_ApiValue_cells_eq (fun _ => rfl) hk FW.h0 rfl rfl Try.underlying31 (by kernel_rfl) hc2) ?_
  refine FW.dfun (y := .agg ((ApiValue.cells (List.getD v0 (Int.toNat v3) default)))) rfl rfl rfl rfl (fun a w hk => FW.f_load hk FW.h0 rfl Try.underlying33 rfl rfl rfl rfl) ?_
  refine FW.dfun (y := .lit (.int .i64 t1)) rfl rfl rfl rfl (fun a w hk => FW.f_call hk FW.h0 rfl rfl Try.func83 rfl (by kernel_rfl) (offshootref02_Cmp.ok K (List.getD v0 (Int.toNat (IntKind.wrap .i64 (v3 - 2))) default) (List.getD v0 (Int.toNat v3) default) _ hr_t1)) ?_
  refine FW.dfun (y := .lit (.bool (decide (0 ≤ t1)))) rfl rfl rfl rfl (fun a w hk => (FW.f_pure (FW.p_geq hk.kn FW.h0 rfl rfl))) ?_
  refine FW.dend ?_; intro a w hk
  refine FW.wcondF (b := (decide (0 ≤ t1))) hk h rfl (fun h hb => ?_) (fun h hb => ?_)
  ·skip
   refine FW.wreg ?_; intro K' hK9
   refine FW.lfun (y := .lit (.bool false)) hk rfl rfl rfl rfl (FW.f_assign hk FW.h0 rfl) ?_; clear hk; intro a w hk
   refine FW.lend (hK9 _ _ ?_); clear hK9 K'
   refine wp_ret ?_
   (repeat first | refine FW.then_ret ?_ | refine FW.block_ret ?_)
   obtain rfl := Option.some.inj h
   exact FW.fret1 hk rfl rfl
  ·skip
   refine wp_skip ?_
   (repeat first | refine FW.then_normal ?_ | refine FW.block_normal ?_); refine hK7 _ _ ?_
   refine FW.wreg1 ?_
   refine FW.lfun (y := .lit (.int .i64 v3)) hk rfl rfl rfl rfl (FW.f_move hk FW.h0 rfl) ?_; clear hk; intro a w hk
   refine FW.lfun (y := .lit (.int .i64 (IntKind.wrap .i64 (v3 + 2)))) hk rfl rfl rfl rfl ((FW.f_pure (FW.p_add hk.kn FW.h0 rfl rfl))) ?_; clear hk; intro a w hk
   refine FW.lfun (y := .lit (.int .i64 (IntKind.wrap .i64 (v3 + 2)))) hk rfl rfl rfl rfl (FW.f_assign hk FW.h0 rfl) ?_; clear hk; intro a w hk
   refine wpList_nil ?_
   (repeat first | refine FW.then_normal ?_ | refine FW.block_normal ?_); exact hK4 (kl1, v0, (IntKind.wrap .i64 (v3 + 2))) _ _ (Nat.lt_succ_self _) ⟨hk.sub ⟨rfl, rfl, trivial⟩, h⟩
 ·skip
  refine wp_exit ?_; (repeat first | refine FW.then_exit ?_ | refine FW.block_exit_ne rfl ?_); refine FW.block_exit ?_
  (repeat first | refine FW.then_normal ?_ | refine FW.block_normal ?_); refine hK2 _ _ ?_
  refine FW.wreg ?_; intro K' hK11
  refine FW.lfun (y := .row (r_ApiValue_cells v0)) hk rfl rfl rfl rfl (FW.f_move hk FW.h0 rfl) ?_; clear hk; intro a w hk
  refine FW.lfun (y := .lit (.int .i64 (List.length v0 : Int))) hk rfl rfl rfl rfl (FW.f_len (R := r_ApiValue_cells) (f := ApiValue.cells) (l := v0) r_ApiValue_cells_eq Try.underlying31 hk FW.h0 rfl) ?_; clear hk; intro a w hk
  refine FW.lfun (y := .lit (.int .i64 (Int.tmod (List.length v0 : Int) 2))) hk rfl rfl rfl rfl ((FW.f_pure (FW.p_rem hk.kn FW.h0 rfl rfl (show ¬ (2 : Int) = 0 from by decide)))) ?_; clear hk; intro a w hk
  refine FW.lfun (y := .lit (.bool (decide ((Int.tmod (List.length v0 : Int) 2) = 0)))) hk rfl rfl rfl rfl ((FW.f_pure (FW.p_eql hk.kn FW.h0 rfl rfl))) ?_; clear hk; intro a w hk
  refine FW.lfun (y := .lit (.bool (decide ((Int.tmod (List.length v0 : Int) 2) = 0)))) hk rfl rfl rfl rfl (FW.f_assign hk FW.h0 rfl) ?_; clear hk; intro a w hk
  refine FW.lend (hK11 _ _ ?_); clear hK11 K'
  refine wp_ret ?_
  (repeat first | refine FW.then_ret ?_ | refine FW.block_ret ?_)
  obtain rfl := Option.some.inj h
  exact FW.fret1 hk rfl rfl
end Go.Proofs.Ytbjbgodcenopnaa

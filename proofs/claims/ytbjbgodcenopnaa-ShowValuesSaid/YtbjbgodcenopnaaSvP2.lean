/- Written by a program of this session (gen.py): the contracts of functions of the program. -/
import Derived.KernelRfl
import Derived.Test.YtbjbgodcenopnaaProg
import Derived.Test.YtbjbgodcenopnaaAvFun
import Derived.Test.YtbjbgodcenopnaaAvMan
import Derived.Test.YtbjbgodcenopnaaAvMore
import Derived.Test.YtbjbgodcenopnaaAvDraw2
import Derived.Test.YtbjbgodcenopnaaAvRow
import Derived.Test.YtbjbgodcenopnaaAvBld
import Derived.Test.YtbjbgodcenopnaaHcl
import Derived.Test.YtbjbgodcenopnaaAvFl
import Derived.Test.YtbjbgodcenopnaaSvD
import Derived.Test.YtbjbgodcenopnaaSvP1
namespace Go.Proofs.Ytbjbgodcenopnaa
set_option linter.unusedVariables false
set_option maxRecDepth 20000
set_option maxHeartbeats 10000000
theorem offshootref02_check.bok (s_offshootref02_check : ApiValue → Int → Option Int) (hs_offshootref02_check : ∀ (v0 : ApiValue) (v1 : Int) (r : Int), s_offshootref02_check v0 v1 = some r → FW.Ok Try.prog 33 [.agg (ApiValue.cells v0), .lit (.int .i64 v1)] (.lit (.int .i64 r))) (K : Nat) (v0 : ApiValue) (v1 : Int) (r : Int) (h : offshootref02_check.b s_offshootref02_check K v0 v1 = some r) :
  FW.Ok Try.prog 33 [.agg (ApiValue.cells v0), .lit (.int .i64 v1)] (.lit (.int .i64 r)) := by
 refine FW.enter (xs := [.agg (ApiValue.cells v0), .lit (.int .i64 v1)]) Try.func33 rfl Try.ntmps33 rfl ?_
 intro M w0 a hk
 unfold offshootref02_check.b at h
 refine FW.wreg ?_; intro K' hK1
 refine FW.l_box (cs := (ApiValue.cells v0)) hk rfl rfl rfl rfl rfl ?_; clear hk; intro bx1 a w hk
 refine FW.lfun (y := .lit (.int .i64 0)) hk rfl rfl rfl rfl (FW.f_assign hk FW.h0 rfl) ?_; clear hk; intro a w hk
 refine FW.lend (hK1 _ _ ?_); clear hK1 K'
 refine FW.wseq ?_; intro K' hK2
 refine FW.wreg ?_; intro K' hK3
 refine FW.lfun (y := .lit (.int .i64 v1)) hk rfl rfl rfl rfl (FW.f_move hk FW.h0 rfl) ?_; clear hk; intro a w hk
 refine FW.lfun (y := .lit (.bool (decide (13 < v1)))) hk rfl rfl rfl rfl ((FW.f_pure (FW.p_gtr hk.kn FW.h0 rfl rfl))) ?_; clear hk; intro a w hk
 refine FW.lend (hK3 _ _ ?_); clear hK3 K'
 refine FW.wcondF (b := (decide (13 < v1))) hk h rfl (fun h hb => ?_) (fun h hb => ?_)
 ·skip
  refine FW.wreg ?_; intro K' hK4
  refine FW.lfun (y := .lit (.int .i64 3)) hk rfl rfl rfl rfl (FW.f_assign hk FW.h0 rfl) ?_; clear hk; intro a w hk
  refine FW.lend (hK4 _ _ ?_); clear hK4 K'
  refine wp_ret ?_
  (repeat first | refine FW.then_ret ?_ | refine FW.block_ret ?_)
  obtain rfl := Option.some.inj h
  exact FW.fret1 hk rfl rfl
 ·skip
  refine wp_skip ?_
  (repeat first | refine FW.then_normal ?_ | refine FW.block_normal ?_); refine hK2 _ _ ?_
  refine FW.wreg ?_; intro K' hK5
  refine FW.lfun (y := .lit (.pointer (some ⟨bx1, 0, none⟩))) hk rfl rfl rfl rfl (FW.f_fieldPtr hk FW.h0 rfl Try.underlying33 rfl (by kernel_rfl) rfl) ?_; clear hk; intro a w hk
  refine FW.lfun (y := .lit (.int .i64 v0.Kind)) hk rfl rfl rfl rfl (FW.f_loadBlk1 hk FW.h0 (j := 0) rfl rfl Try.underlying3 rfl rfl) ?_; clear hk; intro a w hk
  refine FW.lfun (y := .lit (.int .i64 v0.Kind)) hk rfl rfl rfl rfl (FW.f_assign hk FW.h0 rfl) ?_; clear hk; intro a w hk
  refine FW.lend (hK5 _ _ ?_); clear hK5 K'
  refine FW.wreg ?_; intro K' hK6
  refine FW.lfun (y := .lit (.pointer (some ⟨bx1, 3, none⟩))) hk rfl rfl rfl rfl (FW.f_fieldPtr hk FW.h0 rfl Try.underlying33 rfl (by kernel_rfl) rfl) ?_; clear hk; intro a w hk
  refine FW.lfun (y := .lit (.float .f64 v0.F)) hk rfl rfl rfl rfl (FW.f_loadBlk1 hk FW.h0 (j := 0) rfl rfl Try.underlying30 rfl rfl) ?_; clear hk; intro a w hk
  refine FW.lfun (y := .lit (.bool (FW.feql v0.F 0))) hk rfl rfl rfl rfl ((FW.f_pure (FW.p_feql hk.kn FW.h0 rfl rfl))) ?_; clear hk; intro a w hk
  refine FW.lfun (y := .lit (.bool (FW.feql v0.F 0))) hk rfl rfl rfl rfl (FW.f_move hk FW.h0 rfl) ?_; clear hk; intro a w hk
  refine FW.lfunG (y := .lit (.pointer (some ⟨bx1, 3, none⟩))) hk rfl rfl rfl rfl rfl rfl rfl rfl (fun hc => FW.f_fieldPtr hk hc rfl Try.underlying33 rfl (by kernel_rfl) rfl) ?_; clear hk; intro a w hk
  refine FW.lfunG (y := .lit (.float .f64 v0.F)) hk rfl rfl rfl rfl rfl rfl rfl rfl (fun hc => FW.f_loadBlk1 hk hc (j := 0) rfl rfl Try.underlying30 rfl rfl) ?_; clear hk; intro a w hk
  obtain ⟨t1, hr_t1, h⟩ := FW.bndG h
  refine FW.lfunG (y := .lit (.bool t1)) hk rfl rfl rfl rfl rfl rfl rfl rfl (fun hc => FW.f_call hk hc rfl rfl Try.func55 rfl (by kernel_rfl) (math_Signbit.ok v0.F _ (hr_t1 (FW.asm_out (p := (FW.feql v0.F 0) = true) hk.kn hc (fun e0 => e0))))) ?_; clear hk; intro a w hk
  refine FW.lfunG (y := .lit (.bool (!t1))) hk rfl rfl rfl rfl rfl rfl rfl rfl (fun hc => (FW.f_pure (FW.p_not hk.kn hc rfl))) ?_; clear hk; intro a w hk
  refine FW.lfun (y := .lit (.bool ((FW.feql v0.F 0) && (!t1)))) hk rfl rfl rfl rfl ((FW.f_pure (FW.p_pick_and hk.kn FW.h0 rfl rfl))) ?_; clear hk; intro a w hk
  refine FW.lfun (y := .lit (.bool ((FW.feql v0.F 0) && (!t1)))) hk rfl rfl rfl rfl (FW.f_assign hk FW.h0 rfl) ?_; clear hk; intro a w hk
  refine FW.lend (hK6 _ _ ?_); clear hK6 K'
  refine FW.wreg ?_; intro K' hK7
  refine FW.lfun (y := .lit (.int .i64 v0.Kind)) hk rfl rfl rfl rfl (FW.f_move hk FW.h0 rfl) ?_; clear hk; intro a w hk
  refine FW.lfun (y := .lit (.bool (decide (v0.Kind = 7)))) hk rfl rfl rfl rfl ((FW.f_pure (FW.p_eql hk.kn FW.h0 rfl rfl))) ?_; clear hk; intro a w hk
  refine FW.lfun (y := .lit (.bool (decide (v0.Kind = 7)))) hk rfl rfl rfl rfl (FW.f_move hk FW.h0 rfl) ?_; clear hk; intro a w hk
  refine FW.lfunG (y := .lit (.int .i64 v0.Kind)) hk rfl rfl rfl rfl rfl rfl rfl rfl (fun hc => FW.f_move hk hc rfl) ?_; clear hk; intro a w hk
  refine FW.lfunG (y := .lit (.bool (decide (v0.Kind = 8)))) hk rfl rfl rfl rfl rfl rfl rfl rfl (fun hc => (FW.f_pure (FW.p_eql hk.kn hc rfl rfl))) ?_; clear hk; intro a w hk
  refine FW.lfun (y := .lit (.bool ((decide (v0.Kind = 7)) || (decide (v0.Kind = 8))))) hk rfl rfl rfl rfl ((FW.f_pure (FW.p_pick_or hk.kn FW.h0 rfl rfl))) ?_; clear hk; intro a w hk
  refine FW.lfun (y := .lit (.bool ((decide (v0.Kind = 7)) || (decide (v0.Kind = 8))))) hk rfl rfl rfl rfl (FW.f_assign hk FW.h0 rfl) ?_; clear hk; intro a w hk
  refine FW.lend (hK7 _ _ ?_); clear hK7 K'
  refine FW.wseq ?_; intro K' hK8
  refine FW.wreg ?_; intro K' hK9
  refine FW.lfun (y := .lit (.int .i64 v0.Kind)) hk rfl rfl rfl rfl (FW.f_move hk FW.h0 rfl) ?_; clear hk; intro a w hk
  refine FW.lfun (y := .lit (.bool (decide (v0.Kind < 0)))) hk rfl rfl rfl rfl ((FW.f_pure (FW.p_lss hk.kn FW.h0 rfl rfl))) ?_; clear hk; intro a w hk
  refine FW.lfun (y := .lit (.bool (decide (v0.Kind < 0)))) hk rfl rfl rfl rfl (FW.f_move hk FW.h0 rfl) ?_; clear hk; intro a w hk
  refine FW.lfunG (y := .lit (.int .i64 v0.Kind)) hk rfl rfl rfl rfl rfl rfl rfl rfl (fun hc => FW.f_move hk hc rfl) ?_; clear hk; intro a w hk
  refine FW.lfunG (y := .lit (.bool (decide (8 < v0.Kind)))) hk rfl rfl rfl rfl rfl rfl rfl rfl (fun hc => (FW.f_pure (FW.p_gtr hk.kn hc rfl rfl))) ?_; clear hk; intro a w hk
  refine FW.lfun (y := .lit (.bool ((decide (v0.Kind < 0)) || (decide (8 < v0.Kind))))) hk rfl rfl rfl rfl ((FW.f_pure (FW.p_pick_or hk.kn FW.h0 rfl rfl))) ?_; clear hk; intro a w hk
  refine FW.lfun (y := .lit (.bool ((decide (v0.Kind < 0)) || (decide (8 < v0.Kind))))) hk rfl rfl rfl rfl (FW.f_move hk FW.h0 rfl) ?_; clear hk; intro a w hk
  refine FW.lfunG (y := .lit (.pointer (some ⟨bx1, 1, none⟩))) hk rfl rfl rfl rfl rfl rfl rfl rfl (fun hc => FW.f_fieldPtr hk hc rfl Try.underlying33 rfl (by kernel_rfl) rfl) ?_; clear hk; intro a w hk
  refine FW.lfunG (y := .lit (.bool v0.B)) hk rfl rfl rfl rfl rfl rfl rfl rfl (fun hc => FW.f_loadBlk1 hk hc (j := 0) rfl rfl Try.underlying4 rfl rfl) ?_; clear hk; intro a w hk
  refine FW.lfunG (y := .lit (.bool v0.B)) hk rfl rfl rfl rfl rfl rfl rfl rfl (fun hc => FW.f_move hk hc rfl) ?_; clear hk; intro a w hk
  refine FW.lfunG (y := .lit (.int .i64 v0.Kind)) hk rfl rfl rfl rfl rfl rfl rfl rfl (fun hc => FW.f_move hk hc rfl) ?_; clear hk; intro a w hk
  refine FW.lfunG (y := .lit (.bool (!decide (v0.Kind = 1)))) hk rfl rfl rfl rfl rfl rfl rfl rfl (fun hc => (FW.f_pure (FW.p_neq hk.kn hc rfl rfl))) ?_; clear hk; intro a w hk
  refine FW.lfunG (y := .lit (.bool (v0.B && (!decide (v0.Kind = 1))))) hk rfl rfl rfl rfl rfl rfl rfl rfl (fun hc => (FW.f_pure (FW.p_pick_and hk.kn hc rfl rfl))) ?_; clear hk; intro a w hk
  refine FW.lfun (y := .lit (.bool (((decide (v0.Kind < 0)) || (decide (8 < v0.Kind))) || (v0.B && (!decide (v0.Kind = 1)))))) hk rfl rfl rfl rfl ((FW.f_pure (FW.p_pick_or hk.kn FW.h0 rfl rfl))) ?_; clear hk; intro a w hk
  refine FW.lfun (y := .lit (.bool (((decide (v0.Kind < 0)) || (decide (8 < v0.Kind))) || (v0.B && (!decide (v0.Kind = 1)))))) hk rfl rfl rfl rfl (FW.f_move hk FW.h0 rfl) ?_; clear hk; intro a w hk
  refine FW.lfunG (y := .lit (.pointer (some ⟨bx1, 2, none⟩))) hk rfl rfl rfl rfl rfl rfl rfl rfl (fun hc => FW.f_fieldPtr hk hc rfl Try.underlying33 rfl (by kernel_rfl) rfl) ?_; clear hk; intro a w hk
  refine FW.lfunG (y := .lit (.int .i64 v0.N)) hk rfl rfl rfl rfl rfl rfl rfl rfl (fun hc => FW.f_loadBlk1 hk hc (j := 0) rfl rfl Try.underlying2 rfl rfl) ?_; clear hk; intro a w hk
  refine FW.lfunG (y := .lit (.bool (!decide (v0.N = 0)))) hk rfl rfl rfl rfl rfl rfl rfl rfl (fun hc => (FW.f_pure (FW.p_neq hk.kn hc rfl rfl))) ?_; clear hk; intro a w hk
  refine FW.lfunG (y := .lit (.bool (!decide (v0.N = 0)))) hk rfl rfl rfl rfl rfl rfl rfl rfl (fun hc => FW.f_move hk hc rfl) ?_; clear hk; intro a w hk
  refine FW.lfunG (y := .lit (.int .i64 v0.Kind)) hk rfl rfl rfl rfl rfl rfl rfl rfl (fun hc => FW.f_move hk hc rfl) ?_; clear hk; intro a w hk
  refine FW.lfunG (y := .lit (.bool (!decide (v0.Kind = 2)))) hk rfl rfl rfl rfl rfl rfl rfl rfl (fun hc => (FW.f_pure (FW.p_neq hk.kn hc rfl rfl))) ?_; clear hk; intro a w hk
  refine FW.lfunG (y := .lit (.bool ((!decide (v0.N = 0)) && (!decide (v0.Kind = 2))))) hk rfl rfl rfl rfl rfl rfl rfl rfl (fun hc => (FW.f_pure (FW.p_pick_and hk.kn hc rfl rfl))) ?_; clear hk; intro a w hk
  refine FW.lfunG (y := .lit (.bool ((!decide (v0.N = 0)) && (!decide (v0.Kind = 2))))) hk rfl rfl rfl rfl rfl rfl rfl rfl (fun hc => FW.f_move hk hc rfl) ?_; clear hk; intro a w hk
  refine FW.lfunG (y := .lit (.bool ((decide (v0.Kind = 7)) || (decide (v0.Kind = 8))))) hk rfl rfl rfl rfl rfl rfl rfl rfl (fun hc => FW.f_move hk hc rfl) ?_; clear hk; intro a w hk
  refine FW.lfunG (y := .lit (.bool (!((decide (v0.Kind = 7)) || (decide (v0.Kind = 8)))))) hk rfl rfl rfl rfl rfl rfl rfl rfl (fun hc => (FW.f_pure (FW.p_not hk.kn hc rfl))) ?_; clear hk; intro a w hk
  refine FW.lfunG (y := .lit (.bool (((!decide (v0.N = 0)) && (!decide (v0.Kind = 2))) && (!((decide (v0.Kind = 7)) || (decide (v0.Kind = 8))))))) hk rfl rfl rfl rfl rfl rfl rfl rfl (fun hc => (FW.f_pure (FW.p_pick_and hk.kn hc rfl rfl))) ?_; clear hk; intro a w hk
  refine FW.lfun (y := .lit (.bool ((((decide (v0.Kind < 0)) || (decide (8 < v0.Kind))) || (v0.B && (!decide (v0.Kind = 1)))) || (((!decide (v0.N = 0)) && (!decide (v0.Kind = 2))) && (!((decide (v0.Kind = 7)) || (decide (v0.Kind = 8)))))))) hk rfl rfl rfl rfl ((FW.f_pure (FW.p_pick_or hk.kn FW.h0 rfl rfl))) ?_; clear hk; intro a w hk
  refine FW.lfun (y := .lit (.bool ((((decide (v0.Kind < 0)) || (decide (8 < v0.Kind))) || (v0.B && (!decide (v0.Kind = 1)))) || (((!decide (v0.N = 0)) && (!decide (v0.Kind = 2))) && (!((decide (v0.Kind = 7)) || (decide (v0.Kind = 8)))))))) hk rfl rfl rfl rfl (FW.f_move hk FW.h0 rfl) ?_; clear hk; intro a w hk
  refine FW.lfunG (y := .lit (.bool ((decide (v0.Kind = 7)) || (decide (v0.Kind = 8))))) hk rfl rfl rfl rfl rfl rfl rfl rfl (fun hc => FW.f_move hk hc rfl) ?_; clear hk; intro a w hk
  refine FW.lfunG (y := .lit (.bool ((decide (v0.Kind = 7)) || (decide (v0.Kind = 8))))) hk rfl rfl rfl rfl rfl rfl rfl rfl (fun hc => FW.f_move hk hc rfl) ?_; clear hk; intro a w hk
  refine FW.lfunG (y := .lit (.pointer (some ⟨bx1, 2, none⟩))) hk rfl rfl rfl rfl rfl rfl rfl rfl (fun hc => FW.f_fieldPtr hk hc rfl Try.underlying33 rfl (by kernel_rfl) rfl) ?_; clear hk; intro a w hk
  refine FW.lfunG (y := .lit (.int .i64 v0.N)) hk rfl rfl rfl rfl rfl rfl rfl rfl (fun hc => FW.f_loadBlk1 hk hc (j := 0) rfl rfl Try.underlying2 rfl rfl) ?_; clear hk; intro a w hk
  refine FW.lfunG (y := .lit (.bool (decide (v0.N < 1)))) hk rfl rfl rfl rfl rfl rfl rfl rfl (fun hc => (FW.f_pure (FW.p_lss hk.kn hc rfl rfl))) ?_; clear hk; intro a w hk
  refine FW.lfunG (y := .lit (.bool (((decide (v0.Kind = 7)) || (decide (v0.Kind = 8))) && (decide (v0.N < 1))))) hk rfl rfl rfl rfl rfl rfl rfl rfl (fun hc => (FW.f_pure (FW.p_pick_and hk.kn hc rfl rfl))) ?_; clear hk; intro a w hk
  refine FW.lfun (y := .lit (.bool (((((decide (v0.Kind < 0)) || (decide (8 < v0.Kind))) || (v0.B && (!decide (v0.Kind = 1)))) || (((!decide (v0.N = 0)) && (!decide (v0.Kind = 2))) && (!((decide (v0.Kind = 7)) || (decide (v0.Kind = 8)))))) || (((decide (v0.Kind = 7)) || (decide (v0.Kind = 8))) && (decide (v0.N < 1)))))) hk rfl rfl rfl rfl ((FW.f_pure (FW.p_pick_or hk.kn FW.h0 rfl rfl))) ?_; clear hk; intro a w hk
  refine FW.lfun (y := .lit (.bool (((((decide (v0.Kind < 0)) || (decide (8 < v0.Kind))) || (v0.B && (!decide (v0.Kind = 1)))) || (((!decide (v0.N = 0)) && (!decide (v0.Kind = 2))) && (!((decide (v0.Kind = 7)) || (decide (v0.Kind = 8)))))) || (((decide (v0.Kind = 7)) || (decide (v0.Kind = 8))) && (decide (v0.N < 1)))))) hk rfl rfl rfl rfl (FW.f_move hk FW.h0 rfl) ?_; clear hk; intro a w hk
  refine FW.lfunG (y := .lit (.bool ((FW.feql v0.F 0) && (!t1)))) hk rfl rfl rfl rfl rfl rfl rfl rfl (fun hc => FW.f_move hk hc rfl) ?_; clear hk; intro a w hk
  refine FW.lfunG (y := .lit (.bool (!((FW.feql v0.F 0) && (!t1))))) hk rfl rfl rfl rfl rfl rfl rfl rfl (fun hc => (FW.f_pure (FW.p_not hk.kn hc rfl))) ?_; clear hk; intro a w hk
  refine FW.lfunG (y := .lit (.bool (!((FW.feql v0.F 0) && (!t1))))) hk rfl rfl rfl rfl rfl rfl rfl rfl (fun hc => FW.f_move hk hc rfl) ?_; clear hk; intro a w hk
  refine FW.lfunG (y := .lit (.int .i64 v0.Kind)) hk rfl rfl rfl rfl rfl rfl rfl rfl (fun hc => FW.f_move hk hc rfl) ?_; clear hk; intro a w hk
  refine FW.lfunG (y := .lit (.bool (!decide (v0.Kind = 3)))) hk rfl rfl rfl rfl rfl rfl rfl rfl (fun hc => (FW.f_pure (FW.p_neq hk.kn hc rfl rfl))) ?_; clear hk; intro a w hk
  refine FW.lfunG (y := .lit (.bool ((!((FW.feql v0.F 0) && (!t1))) && (!decide (v0.Kind = 3))))) hk rfl rfl rfl rfl rfl rfl rfl rfl (fun hc => (FW.f_pure (FW.p_pick_and hk.kn hc rfl rfl))) ?_; clear hk; intro a w hk
  refine FW.lfun (y := .lit (.bool ((((((decide (v0.Kind < 0)) || (decide (8 < v0.Kind))) || (v0.B && (!decide (v0.Kind = 1)))) || (((!decide (v0.N = 0)) && (!decide (v0.Kind = 2))) && (!((decide (v0.Kind = 7)) || (decide (v0.Kind = 8)))))) || (((decide (v0.Kind = 7)) || (decide (v0.Kind = 8))) && (decide (v0.N < 1)))) || ((!((FW.feql v0.F 0) && (!t1))) && (!decide (v0.Kind = 3)))))) hk rfl rfl rfl rfl ((FW.f_pure (FW.p_pick_or hk.kn FW.h0 rfl rfl))) ?_; clear hk; intro a w hk
  refine FW.lfun (y := .lit (.bool ((((((decide (v0.Kind < 0)) || (decide (8 < v0.Kind))) || (v0.B && (!decide (v0.Kind = 1)))) || (((!decide (v0.N = 0)) && (!decide (v0.Kind = 2))) && (!((decide (v0.Kind = 7)) || (decide (v0.Kind = 8)))))) || (((decide (v0.Kind = 7)) || (decide (v0.Kind = 8))) && (decide (v0.N < 1)))) || ((!((FW.feql v0.F 0) && (!t1))) && (!decide (v0.Kind = 3)))))) hk rfl rfl rfl rfl (FW.f_move hk FW.h0 rfl) ?_; clear hk; intro a w hk
  refine FW.lfunG (y := .lit (.pointer (some ⟨bx1, 4, none⟩))) hk rfl rfl rfl rfl rfl rfl rfl rfl (fun hc => FW.f_fieldPtr hk hc rfl Try.underlying33 rfl (by kernel_rfl) rfl) ?_; clear hk; intro a w hk
  refine FW.lfunG (y := .lit (.string (FW.B v0.S))) hk rfl rfl rfl rfl rfl rfl rfl rfl (fun hc => FW.f_loadBlk1 hk hc (j := 0) rfl rfl Try.underlying9 rfl rfl) ?_; clear hk; intro a w hk
  refine FW.lfunG (y := .lit (.bool (!decide (v0.S = ([] : List UInt8))))) hk rfl rfl rfl rfl rfl rfl rfl rfl (fun hc => (FW.f_pure (FW.p_sneq hk.kn hc rfl rfl))) ?_; clear hk; intro a w hk
  refine FW.lfunG (y := .lit (.bool (!decide (v0.S = ([] : List UInt8))))) hk rfl rfl rfl rfl rfl rfl rfl rfl (fun hc => FW.f_move hk hc rfl) ?_; clear hk; intro a w hk
  refine FW.lfunG (y := .lit (.int .i64 v0.Kind)) hk rfl rfl rfl rfl rfl rfl rfl rfl (fun hc => FW.f_move hk hc rfl) ?_; clear hk; intro a w hk
  refine FW.lfunG (y := .lit (.bool (!decide (v0.Kind = 4)))) hk rfl rfl rfl rfl rfl rfl rfl rfl (fun hc => (FW.f_pure (FW.p_neq hk.kn hc rfl rfl))) ?_; clear hk; intro a w hk
  refine FW.lfunG (y := .lit (.bool ((!decide (v0.S = ([] : List UInt8))) && (!decide (v0.Kind = 4))))) hk rfl rfl rfl rfl rfl rfl rfl rfl (fun hc => (FW.f_pure (FW.p_pick_and hk.kn hc rfl rfl))) ?_; clear hk; intro a w hk
  refine FW.lfun (y := .lit (.bool (((((((decide (v0.Kind < 0)) || (decide (8 < v0.Kind))) || (v0.B && (!decide (v0.Kind = 1)))) || (((!decide (v0.N = 0)) && (!decide (v0.Kind = 2))) && (!((decide (v0.Kind = 7)) || (decide (v0.Kind = 8)))))) || (((decide (v0.Kind = 7)) || (decide (v0.Kind = 8))) && (decide (v0.N < 1)))) || ((!((FW.feql v0.F 0) && (!t1))) && (!decide (v0.Kind = 3)))) || ((!decide (v0.S = ([] : List UInt8))) && (!decide (v0.Kind = 4)))))) hk rfl rfl rfl rfl ((FW.f_pure (FW.p_pick_or hk.kn FW.h0 rfl rfl))) ?_; clear hk; intro a w hk
  refine FW.lfun (y := .lit (.bool (((((((decide (v0.Kind < 0)) || (decide (8 < v0.Kind))) || (v0.B && (!decide (v0.Kind = 1)))) || (((!decide (v0.N = 0)) && (!decide (v0.Kind = 2))) && (!((decide (v0.Kind = 7)) || (decide (v0.Kind = 8)))))) || (((decide (v0.Kind = 7)) || (decide (v0.Kind = 8))) && (decide (v0.N < 1)))) || ((!((FW.feql v0.F 0) && (!t1))) && (!decide (v0.Kind = 3)))) || ((!decide (v0.S = ([] : List UInt8))) && (!decide (v0.Kind = 4)))))) hk rfl rfl rfl rfl (FW.f_move hk FW.h0 rfl) ?_; clear hk; intro a w hk
  refine FW.lfunG (y := .lit (.pointer (some ⟨bx1, 5, none⟩))) hk rfl rfl rfl rfl rfl rfl rfl rfl (fun hc => FW.f_fieldPtr hk hc rfl Try.underlying33 rfl (by kernel_rfl) rfl) ?_; clear hk; intro a w hk
  refine FW.lfunG (y := .row (r_ApiValue_cells v0.L)) hk rfl rfl rfl rfl rfl rfl rfl rfl (fun hc => FW.f_loadBlk1 hk hc (j := 0) rfl rfl Try.underlying31 rfl rfl) ?_; clear hk; intro a w hk
  refine FW.lfunG (y := .lit (.int .i64 (List.length v0.L : Int))) hk rfl rfl rfl rfl rfl rfl rfl rfl (fun hc => FW.f_len (R := r_ApiValue_cells) (f := ApiValue.cells) (l := v0.L) r_ApiValue_cells_eq Try.underlying31 hk hc rfl) ?_; clear hk; intro a w hk
  refine FW.lfunG (y := .lit (.bool (decide (0 < (List.length v0.L : Int))))) hk rfl rfl rfl rfl rfl rfl rfl rfl (fun hc => (FW.f_pure (FW.p_gtr hk.kn hc rfl rfl))) ?_; clear hk; intro a w hk
  refine FW.lfunG (y := .lit (.bool (decide (0 < (List.length v0.L : Int))))) hk rfl rfl rfl rfl rfl rfl rfl rfl (fun hc => FW.f_move hk hc rfl) ?_; clear hk; intro a w hk
  refine FW.lfunG (y := .lit (.int .i64 v0.Kind)) hk rfl rfl rfl rfl rfl rfl rfl rfl (fun hc => FW.f_move hk hc rfl) ?_; clear hk; intro a w hk
  refine FW.lfunG (y := .lit (.bool (!decide (v0.Kind = 5)))) hk rfl rfl rfl rfl rfl rfl rfl rfl (fun hc => (FW.f_pure (FW.p_neq hk.kn hc rfl rfl))) ?_; clear hk; intro a w hk
  refine FW.lfunG (y := .lit (.bool ((decide (0 < (List.length v0.L : Int))) && (!decide (v0.Kind = 5))))) hk rfl rfl rfl rfl rfl rfl rfl rfl (fun hc => (FW.f_pure (FW.p_pick_and hk.kn hc rfl rfl))) ?_; clear hk; intro a w hk
  refine FW.lfunG (y := .lit (.bool ((decide (0 < (List.length v0.L : Int))) && (!decide (v0.Kind = 5))))) hk rfl rfl rfl rfl rfl rfl rfl rfl (fun hc => FW.f_move hk hc rfl) ?_; clear hk; intro a w hk
  refine FW.lfunG (y := .lit (.int .i64 v0.Kind)) hk rfl rfl rfl rfl rfl rfl rfl rfl (fun hc => FW.f_move hk hc rfl) ?_; clear hk; intro a w hk
  refine FW.lfunG (y := .lit (.bool (!decide (v0.Kind = 6)))) hk rfl rfl rfl rfl rfl rfl rfl rfl (fun hc => (FW.f_pure (FW.p_neq hk.kn hc rfl rfl))) ?_; clear hk; intro a w hk
  refine FW.lfunG (y := .lit (.bool (((decide (0 < (List.length v0.L : Int))) && (!decide (v0.Kind = 5))) && (!decide (v0.Kind = 6))))) hk rfl rfl rfl rfl rfl rfl rfl rfl (fun hc => (FW.f_pure (FW.p_pick_and hk.kn hc rfl rfl))) ?_; clear hk; intro a w hk
  refine FW.lfun (y := .lit (.bool ((((((((decide (v0.Kind < 0)) || (decide (8 < v0.Kind))) || (v0.B && (!decide (v0.Kind = 1)))) || (((!decide (v0.N = 0)) && (!decide (v0.Kind = 2))) && (!((decide (v0.Kind = 7)) || (decide (v0.Kind = 8)))))) || (((decide (v0.Kind = 7)) || (decide (v0.Kind = 8))) && (decide (v0.N < 1)))) || ((!((FW.feql v0.F 0) && (!t1))) && (!decide (v0.Kind = 3)))) || ((!decide (v0.S = ([] : List UInt8))) && (!decide (v0.Kind = 4)))) || (((decide (0 < (List.length v0.L : Int))) && (!decide (v0.Kind = 5))) && (!decide (v0.Kind = 6)))))) hk rfl rfl rfl rfl ((FW.f_pure (FW.p_pick_or hk.kn FW.h0 rfl rfl))) ?_; clear hk; intro a w hk
  refine FW.lend (hK9 _ _ ?_); clear hK9 K'
  refine FW.wcondF (b := ((((((((decide (v0.Kind < 0)) || (decide (8 < v0.Kind))) || (v0.B && (!decide (v0.Kind = 1)))) || (((!decide (v0.N = 0)) && (!decide (v0.Kind = 2))) && (!((decide (v0.Kind = 7)) || (decide (v0.Kind = 8)))))) || (((decide (v0.Kind = 7)) || (decide (v0.Kind = 8))) && (decide (v0.N < 1)))) || ((!((FW.feql v0.F 0) && (!t1))) && (!decide (v0.Kind = 3)))) || ((!decide (v0.S = ([] : List UInt8))) && (!decide (v0.Kind = 4)))) || (((decide (0 < (List.length v0.L : Int))) && (!decide (v0.Kind = 5))) && (!decide (v0.Kind = 6))))) hk h rfl (fun h hb => ?_) (fun h hb => ?_)
  ·skip
   refine FW.wreg ?_; intro K' hK10
   refine FW.lfun (y := .lit (.int .i64 6)) hk rfl rfl rfl rfl (FW.f_assign hk FW.h0 rfl) ?_; clear hk; intro a w hk
   refine FW.lend (hK10 _ _ ?_); clear hK10 K'
   refine wp_ret ?_
   (repeat first | refine FW.then_ret ?_ | refine FW.block_ret ?_)
   obtain rfl := Option.some.inj h
   exact FW.fret1 hk rfl rfl
  ·skip
   refine wp_skip ?_
   (repeat first | refine FW.then_normal ?_ | refine FW.block_normal ?_); refine hK8 _ _ ?_
   refine FW.wseq ?_; intro K' hK11
   refine FW.wreg ?_; intro K' hK12
   refine FW.lfun (y := .lit (.pointer (some ⟨bx1, 4, none⟩))) hk rfl rfl rfl rfl (FW.f_fieldPtr hk FW.h0 rfl Try.underlying33 rfl (by kernel_rfl) rfl) ?_; clear hk; intro a w hk
   refine FW.lfun (y := .lit (.string (FW.B v0.S))) hk rfl rfl rfl rfl (FW.f_loadBlk1 hk FW.h0 (j := 0) rfl rfl Try.underlying9 rfl rfl) ?_; clear hk; intro a w hk
   refine FW.lfun (y := .lit (.int .i64 (List.length v0.S : Int))) hk rfl rfl rfl rfl ((FW.f_pure (FW.p_slen Try.underlying9 hk.kn FW.h0 rfl))) ?_; clear hk; intro a w hk
   refine FW.lfun (y := .lit (.bool (decide (500 < (List.length v0.S : Int))))) hk rfl rfl rfl rfl ((FW.f_pure (FW.p_gtr hk.kn FW.h0 rfl rfl))) ?_; clear hk; intro a w hk
   refine FW.lfun (y := .lit (.bool (decide (500 < (List.length v0.S : Int))))) hk rfl rfl rfl rfl (FW.f_move hk FW.h0 rfl) ?_; clear hk; intro a w hk
   refine FW.lfunG (y := .lit (.pointer (some ⟨bx1, 5, none⟩))) hk rfl rfl rfl rfl rfl rfl rfl rfl (fun hc => FW.f_fieldPtr hk hc rfl Try.underlying33 rfl (by kernel_rfl) rfl) ?_; clear hk; intro a w hk
   refine FW.lfunG (y := .row (r_ApiValue_cells v0.L)) hk rfl rfl rfl rfl rfl rfl rfl rfl (fun hc => FW.f_loadBlk1 hk hc (j := 0) rfl rfl Try.underlying31 rfl rfl) ?_; clear hk; intro a w hk
   refine FW.lfunG (y := .lit (.int .i64 (List.length v0.L : Int))) hk rfl rfl rfl rfl rfl rfl rfl rfl (fun hc => FW.f_len (R := r_ApiValue_cells) (f := ApiValue.cells) (l := v0.L) r_ApiValue_cells_eq Try.underlying31 hk hc rfl) ?_; clear hk; intro a w hk
   refine FW.lfunG (y := .lit (.bool (decide (1000 < (List.length v0.L : Int))))) hk rfl rfl rfl rfl rfl rfl rfl rfl (fun hc => (FW.f_pure (FW.p_gtr hk.kn hc rfl rfl))) ?_; clear hk; intro a w hk
   refine FW.lfun (y := .lit (.bool ((decide (500 < (List.length v0.S : Int))) || (decide (1000 < (List.length v0.L : Int)))))) hk rfl rfl rfl rfl ((FW.f_pure (FW.p_pick_or hk.kn FW.h0 rfl rfl))) ?_; clear hk; intro a w hk
   refine FW.lend (hK12 _ _ ?_); clear hK12 K'
   refine FW.wcondF (b := ((decide (500 < (List.length v0.S : Int))) || (decide (1000 < (List.length v0.L : Int))))) hk h rfl (fun h hb => ?_) (fun h hb => ?_)
   ·skip
    refine FW.wreg ?_; intro K' hK13
    refine FW.lfun (y := .lit (.int .i64 3)) hk rfl rfl rfl rfl (FW.f_assign hk FW.h0 rfl) ?_; clear hk; intro a w hk
    refine FW.lend (hK13 _ _ ?_); clear hK13 K'
    refine wp_ret ?_
    (repeat first | refine FW.then_ret ?_ | refine FW.block_ret ?_)
    obtain rfl := Option.some.inj h
    exact FW.fret1 hk rfl rfl
   ·skip
    refine wp_skip ?_
    (repeat first | refine FW.then_normal ?_ | refine FW.block_normal ?_); refine hK11 _ _ ?_
    refine FW.wseq ?_; intro K' hK14
    refine FW.wreg ?_; intro K' hK15
    refine FW.lfun (y := .lit (.int .i64 0)) hk rfl rfl rfl rfl (FW.f_assign hk FW.h0 rfl) ?_; clear hk; intro a w hk
    refine FW.lend (hK15 _ _ ?_); clear hK15 K'
    refine wp_block ?_
    refine FW.wloop (T := Nat × ApiValue × Int × Int × Int) (fun x a w => match x with | (kl1, y1, v1, v5, v8) => FW.S M w0 a w 131 [FW.blk bx1 33 ((ApiValue.cells y1))] [(1, [], .lit (.int .i64 v1)), (2, [], .lit (.pointer (some ⟨bx1, 0, none⟩))), (5, [], .lit (.int .i64 v5)), (8, [], .lit (.int .i64 v8))] ∧ offshootref02_check.l1 s_offshootref02_check K kl1 y1 v1 v5 v8 = some r) (fun x => x.1) (K, v0, v1, v0.Kind, 0) ⟨hk.sub ⟨rfl, rfl, rfl, rfl, trivial⟩, h⟩ ?_
    clear hk h
    rintro ⟨kl1, y1, v1, v5, v8⟩ a w ⟨hk, h⟩ K' hK16
    cases kl1 with
    | zero => simp [offshootref02_check.l1] at h
    | succ kl1 =>
    rw [offshootref02_check.l1.eq_2] at h
    refine FW.wseq ?_; intro K' hK17
    refine FW.wreg ?_; intro K' hK18
    refine FW.lfun (y := .lit (.int .i64 v8)) hk rfl rfl rfl rfl (FW.f_move hk FW.h0 rfl) ?_; clear hk; intro a w hk
    refine FW.lfun (y := .lit (.pointer (some ⟨bx1, 5, none⟩))) hk rfl rfl rfl rfl (FW.f_fieldPtr hk FW.h0 rfl Try.underlying33 rfl (by kernel_rfl) rfl) ?_; clear hk; intro a w hk
    refine FW.lfun (y := .row (r_ApiValue_cells y1.L)) hk rfl rfl rfl rfl (FW.f_loadBlk1 hk FW.h0 (j := 0) rfl rfl Try.underlying31 rfl rfl) ?_; clear hk; intro a w hk
    refine FW.lfun (y := .lit (.int .i64 (List.length y1.L : Int))) hk rfl rfl rfl rfl (FW.f_len (R := r_ApiValue_cells) (f := ApiValue.cells) (l := y1.L) r_ApiValue_cells_eq Try.underlying31 hk FW.h0 rfl) ?_; clear hk; intro a w hk
    refine FW.lfun (y := .lit (.bool (decide (v8 < (List.length y1.L : Int))))) hk rfl rfl rfl rfl ((FW.f_pure (FW.p_lss hk.kn FW.h0 rfl rfl))) ?_; clear hk; intro a w hk
    refine FW.lend (hK18 _ _ ?_); clear hK18 K'
    refine FW.wcondF (b := (decide (v8 < (List.length y1.L : Int)))) hk h rfl (fun h hb => ?_) (fun h hb => ?_)
    ·skip
     refine wp_skip ?_
     (repeat first | refine FW.then_normal ?_ | refine FW.block_normal ?_); refine hK17 _ _ ?_
     refine FW.wseq ?_; intro K' hK19
     refine wp_block ?_
     refine FW.wreg ?_; intro K' hK20
     refine FW.lfun (y := .lit (.pointer (some ⟨bx1, 5, none⟩))) hk rfl rfl rfl rfl (FW.f_fieldPtr hk FW.h0 rfl Try.underlying33 rfl (by kernel_rfl) rfl) ?_; clear hk; intro a w hk
     refine FW.lfun (y := .row (r_ApiValue_cells y1.L)) hk rfl rfl rfl rfl (FW.f_loadBlk1 hk FW.h0 (j := 0) rfl rfl Try.underlying31 rfl rfl) ?_; clear hk; intro a w hk
     refine FW.lfun (y := .lit (.int .i64 v8)) hk rfl rfl rfl rfl (FW.f_move hk FW.h0 rfl) ?_; clear hk; intro a w hk
     obtain ⟨hc1, h⟩ := FW.chk h
     refine FW.lfun (y := .ref (ApiValue.cells (List.getD y1.L (Int.toNat v8) default))) hk rfl rfl rfl rfl (FW.f_indexAddr (R := r_ApiValue_cells) (f := ApiValue.cells) (l := y1.L) (sz := 6) r_ApiValue_cells_eq (fun _ => rfl) hk FW.h0 rfl rfl Try.underlying31 (by kernel_rfl) hc1) ?_; clear hk; intro a w hk
     refine FW.lfun (y := .agg ((ApiValue.cells (List.getD y1.L (Int.toNat v8) default)))) hk rfl rfl rfl rfl (FW.f_load hk FW.h0 rfl Try.underlying33 rfl rfl rfl rfl) ?_; clear hk; intro a w hk
     refine FW.lfun (y := .lit (.int .i64 v1)) hk rfl rfl rfl rfl (FW.f_move hk FW.h0 rfl) ?_; clear hk; intro a w hk
     refine FW.lfun (y := .lit (.int .i64 (IntKind.wrap .i64 (v1 + 1)))) hk rfl rfl rfl rfl ((FW.f_pure (FW.p_add hk.kn FW.h0 rfl rfl))) ?_; clear hk; intro a w hk
     obtain ⟨t2, hr_t2, h⟩ := FW.bnd h
     refine FW.lfun (y := .lit (.int .i64 t2)) hk rfl rfl rfl rfl (FW.f_call hk FW.h0 rfl rfl Try.func33 rfl (by kernel_rfl) (hs_offshootref02_check (List.getD y1.L (Int.toNat v8) default) (IntKind.wrap .i64 (v1 + 1)) _ hr_t2)) ?_; clear hk; intro a w hk
     refine FW.lfun (y := .lit (.int .i64 t2)) hk rfl rfl rfl rfl (FW.f_assign hk FW.h0 rfl) ?_; clear hk; intro a w hk
     refine FW.lend (hK20 _ _ ?_); clear hK20 K'
     refine FW.wreg ?_; intro K' hK21
     refine FW.lfun (y := .lit (.int .i64 t2)) hk rfl rfl rfl rfl (FW.f_move hk FW.h0 rfl) ?_; clear hk; intro a w hk
     refine FW.lfun (y := .lit (.bool (!decide (t2 = 0)))) hk rfl rfl rfl rfl ((FW.f_pure (FW.p_neq hk.kn FW.h0 rfl rfl))) ?_; clear hk; intro a w hk
     refine FW.lend (hK21 _ _ ?_); clear hK21 K'
     refine FW.wcondF (b := (!decide (t2 = 0))) hk h rfl (fun h hb => ?_) (fun h hb => ?_)
     ·skip
      refine FW.wreg ?_; intro K' hK22
      refine FW.lfun (y := .lit (.int .i64 t2)) hk rfl rfl rfl rfl (FW.f_move hk FW.h0 rfl) ?_; clear hk; intro a w hk
      refine FW.lfun (y := .lit (.int .i64 t2)) hk rfl rfl rfl rfl (FW.f_assign hk FW.h0 rfl) ?_; clear hk; intro a w hk
      refine FW.lend (hK22 _ _ ?_); clear hK22 K'
      refine wp_ret ?_
      (repeat first | refine FW.then_ret ?_ | refine FW.block_ret ?_)
      obtain rfl := Option.some.inj h
      exact FW.fret1 hk rfl rfl
     ·skip
      refine wp_skip ?_
      (repeat first | refine FW.then_normal ?_ | refine FW.block_normal ?_); refine hK19 _ _ ?_
      refine FW.wreg1 ?_
      refine FW.lfun (y := .lit (.int .i64 v8)) hk rfl rfl rfl rfl (FW.f_move hk FW.h0 rfl) ?_; clear hk; intro a w hk
      refine FW.lfun (y := .lit (.int .i64 (IntKind.wrap .i64 (v8 + 1)))) hk rfl rfl rfl rfl ((FW.f_pure (FW.p_add hk.kn FW.h0 rfl rfl))) ?_; clear hk; intro a w hk
      refine FW.lfun (y := .lit (.int .i64 (IntKind.wrap .i64 (v8 + 1)))) hk rfl rfl rfl rfl (FW.f_assign hk FW.h0 rfl) ?_; clear hk; intro a w hk
      refine wpList_nil ?_
      (repeat first | refine FW.then_normal ?_ | refine FW.block_normal ?_); exact hK16 (kl1, y1, v1, v5, (IntKind.wrap .i64 (v8 + 1))) _ _ (Nat.lt_succ_self _) ⟨hk.sub ⟨rfl, rfl, rfl, rfl, trivial⟩, h⟩
    ·skip
     refine wp_exit ?_; (repeat first | refine FW.then_exit ?_ | refine FW.block_exit_ne rfl ?_); refine FW.block_exit ?_
     (repeat first | refine FW.then_normal ?_ | refine FW.block_normal ?_); refine hK14 _ _ ?_
     refine FW.wseq ?_; intro K' hK24
     refine FW.wreg ?_; intro K' hK25
     refine FW.lfun (y := .lit (.int .i64 v5)) hk rfl rfl rfl rfl (FW.f_move hk FW.h0 rfl) ?_; clear hk; intro a w hk
     refine FW.lfun (y := .lit (.bool (decide (v5 = 6)))) hk rfl rfl rfl rfl ((FW.f_pure (FW.p_eql hk.kn FW.h0 rfl rfl))) ?_; clear hk; intro a w hk
     refine FW.lfun (y := .lit (.bool (decide (v5 = 6)))) hk rfl rfl rfl rfl (FW.f_move hk FW.h0 rfl) ?_; clear hk; intro a w hk
     refine FW.lfunG (y := .lit (.pointer (some ⟨bx1, 5, none⟩))) hk rfl rfl rfl rfl rfl rfl rfl rfl (fun hc => FW.f_fieldPtr hk hc rfl Try.underlying33 rfl (by kernel_rfl) rfl) ?_; clear hk; intro a w hk
     refine FW.lfunG (y := .row (r_ApiValue_cells y1.L)) hk rfl rfl rfl rfl rfl rfl rfl rfl (fun hc => FW.f_loadBlk1 hk hc (j := 0) rfl rfl Try.underlying31 rfl rfl) ?_; clear hk; intro a w hk
     obtain ⟨t3, hr_t3, h⟩ := FW.bndG h
     refine FW.lfunG (y := .lit (.bool t3)) hk rfl rfl rfl rfl rfl rfl rfl rfl (fun hc => FW.f_call hk hc rfl rfl Try.func56 rfl (by kernel_rfl) (offshootref02_rises.ok K y1.L _ (hr_t3 (FW.asm_out (p := (decide (v5 = 6)) = true) hk.kn hc (fun e0 => e0))))) ?_; clear hk; intro a w hk
     refine FW.lfunG (y := .lit (.bool (!t3))) hk rfl rfl rfl rfl rfl rfl rfl rfl (fun hc => (FW.f_pure (FW.p_not hk.kn hc rfl))) ?_; clear hk; intro a w hk
     refine FW.lfun (y := .lit (.bool ((decide (v5 = 6)) && (!t3)))) hk rfl rfl rfl rfl ((FW.f_pure (FW.p_pick_and hk.kn FW.h0 rfl rfl))) ?_; clear hk; intro a w hk
     refine FW.lend (hK25 _ _ ?_); clear hK25 K'
     refine FW.wcondF (b := ((decide (v5 = 6)) && (!t3))) hk h rfl (fun h hb => ?_) (fun h hb => ?_)
     ·skip
      refine FW.wreg ?_; intro K' hK26
      refine FW.lfun (y := .lit (.int .i64 6)) hk rfl rfl rfl rfl (FW.f_assign hk FW.h0 rfl) ?_; clear hk; intro a w hk
      refine FW.lend (hK26 _ _ ?_); clear hK26 K'
      refine wp_ret ?_
      (repeat first | refine FW.then_ret ?_ | refine FW.block_ret ?_)
      obtain rfl := Option.some.inj h
      exact FW.fret1 hk rfl rfl
     ·skip
      refine wp_skip ?_
      (repeat first | refine FW.then_normal ?_ | refine FW.block_normal ?_); refine hK24 _ _ ?_
      refine FW.wreg ?_; intro K' hK27
      refine FW.lfun (y := .lit (.int .i64 0)) hk rfl rfl rfl rfl (FW.f_assign hk FW.h0 rfl) ?_; clear hk; intro a w hk
      refine FW.lend (hK27 _ _ ?_); clear hK27 K'
      refine wp_ret ?_
      (repeat first | refine FW.then_ret ?_ | refine FW.block_ret ?_)
      obtain rfl := Option.some.inj h
      exact FW.fret1 hk rfl rfl
theorem offshootref02_check_knot : ∀ K : Nat, (∀ (v0 : ApiValue) (v1 : Int) (r : Int), offshootref02_check.f K v0 v1 = some r → FW.Ok Try.prog 33 [.agg (ApiValue.cells v0), .lit (.int .i64 v1)] (.lit (.int .i64 r)))
 | 0 => fun v0 v1 r h => by simp [offshootref02_check.f] at h
 | K + 1 => fun v0 v1 r h => by rw [offshootref02_check.f] at h; exact offshootref02_check.bok _ (offshootref02_check_knot K) K v0 v1 r h
theorem offshootref02_check.ok (K : Nat) (v0 : ApiValue) (v1 : Int) (r : Int) (h : offshootref02_check.f K v0 v1 = some r) : FW.Ok Try.prog 33 [.agg (ApiValue.cells v0), .lit (.int .i64 v1)] (.lit (.int .i64 r)) := (offshootref02_check_knot K) v0 v1 r h

theorem offshootref02_Check.ok (K : Nat) (v0 : ApiValue) (r : Int) (h : offshootref02_Check.f K v0 = some r) :
  FW.Ok Try.prog 13 [.agg (ApiValue.cells v0)] (.lit (.int .i64 r)) := by
 refine FW.enter (xs := [.agg (ApiValue.cells v0)]) Try.func13 rfl Try.ntmps13 rfl ?_
 intro M w0 a hk
 unfold offshootref02_Check.f at h
 refine FW.wreg ?_; intro K' hK1
 refine FW.l_box (cs := (ApiValue.cells v0)) hk rfl rfl rfl rfl rfl ?_; clear hk; intro bx1 a w hk
 refine FW.lfun (y := .lit (.int .i64 0)) hk rfl rfl rfl rfl (FW.f_assign hk FW.h0 rfl) ?_; clear hk; intro a w hk
 refine FW.lend (hK1 _ _ ?_); clear hK1 K'
 refine FW.wseq ?_; intro K' hK2
 refine FW.wreg ?_; intro K' hK3
 refine FW.lfun (y := .agg ((ApiValue.cells v0))) hk rfl rfl rfl rfl (FW.f_loadBlk hk FW.h0 (j := 0) rfl rfl Try.underlying33 rfl rfl rfl rfl) ?_; clear hk; intro a w hk
 obtain ⟨t1, hr_t1, h⟩ := FW.bnd h
 refine FW.lfun (y := .lit (.int .i64 t1)) hk rfl rfl rfl rfl (FW.f_call hk FW.h0 rfl rfl Try.func32 rfl (by kernel_rfl) (offshootref02_size.ok K v0 60000 _ hr_t1)) ?_; clear hk; intro a w hk
 refine FW.lfun (y := .lit (.bool (decide (60000 < t1)))) hk rfl rfl rfl rfl ((FW.f_pure (FW.p_gtr hk.kn FW.h0 rfl rfl))) ?_; clear hk; intro a w hk
 refine FW.lend (hK3 _ _ ?_); clear hK3 K'
 refine FW.wcondF (b := (decide (60000 < t1))) hk h rfl (fun h hb => ?_) (fun h hb => ?_)
 ·skip
  refine FW.wreg ?_; intro K' hK4
  refine FW.lfun (y := .lit (.int .i64 3)) hk rfl rfl rfl rfl (FW.f_assign hk FW.h0 rfl) ?_; clear hk; intro a w hk
  refine FW.lend (hK4 _ _ ?_); clear hK4 K'
  refine wp_ret ?_
  (repeat first | refine FW.then_ret ?_ | refine FW.block_ret ?_)
  obtain rfl := Option.some.inj h
  exact FW.fret1 hk rfl rfl
 ·skip
  refine wp_skip ?_
  (repeat first | refine FW.then_normal ?_ | refine FW.block_normal ?_); refine hK2 _ _ ?_
  refine FW.wreg ?_; intro K' hK5
  refine FW.lfun (y := .agg ((ApiValue.cells v0))) hk rfl rfl rfl rfl (FW.f_loadBlk hk FW.h0 (j := 0) rfl rfl Try.underlying33 rfl rfl rfl rfl) ?_; clear hk; intro a w hk
  obtain ⟨t2, hr_t2, h⟩ := FW.bnd h
  refine FW.lfun (y := .lit (.int .i64 t2)) hk rfl rfl rfl rfl (FW.f_call hk FW.h0 rfl rfl Try.func33 rfl (by kernel_rfl) (offshootref02_check.ok K v0 1 _ hr_t2)) ?_; clear hk; intro a w hk
  refine FW.lfun (y := .lit (.int .i64 t2)) hk rfl rfl rfl rfl (FW.f_assign hk FW.h0 rfl) ?_; clear hk; intro a w hk
  refine FW.lend (hK5 _ _ ?_); clear hK5 K'
  refine wp_ret ?_
  (repeat first | refine FW.then_ret ?_ | refine FW.block_ret ?_)
  obtain rfl := Option.some.inj h
  exact FW.fret1 hk rfl rfl

theorem offshootref02_Eight.ok (K : Nat) (v0 : Int) (r : List UInt8) (h : offshootref02_Eight.f K v0 = some r) :
  FW.Ok Try.prog 34 [.lit (.int .u64 v0)] (.lit (.string (FW.B r))) := by
 refine FW.enter (xs := [.lit (.int .u64 v0)]) Try.func34 rfl Try.ntmps34 rfl ?_
 intro M w0 a hk
 unfold offshootref02_Eight.f at h
 refine FW.wreg ?_; intro K' hK1
 refine FW.lfun (y := .lit (.string (FW.B ([] : List UInt8)))) hk rfl rfl rfl rfl (FW.f_assign hk FW.h0 rfl) ?_; clear hk; intro a w hk
 refine FW.lend (hK1 _ _ ?_); clear hK1 K'
 refine FW.wreg ?_; intro K' hK2
 refine FW.lfun (y := .lit (.string (FW.B ([] : List UInt8)))) hk rfl rfl rfl rfl (FW.f_assign hk FW.h0 rfl) ?_; clear hk; intro a w hk
 refine FW.lend (hK2 _ _ ?_); clear hK2 K'
 refine FW.wseq ?_; intro K' hK3
 refine FW.wreg ?_; intro K' hK4
 refine FW.lfun (y := .lit (.int .i64 0)) hk rfl rfl rfl rfl (FW.f_assign hk FW.h0 rfl) ?_; clear hk; intro a w hk
 refine FW.lend (hK4 _ _ ?_); clear hK4 K'
 refine wp_block ?_
 refine FW.wloop (T := Nat × Int × List UInt8 × Int) (fun x a w => match x with | (kl1, v0, v3, v4) => FW.S M w0 a w 19 [] [(0, [], .lit (.int .u64 v0)), (3, [], .lit (.string (FW.B v3))), (4, [], .lit (.int .i64 v4))] ∧ offshootref02_Eight.l1 K kl1 v0 v3 v4 = some r) (fun x => x.1) (K, v0, ([] : List UInt8), 0) ⟨hk.sub ⟨rfl, rfl, rfl, trivial⟩, h⟩ ?_
 clear hk h
 rintro ⟨kl1, v0, v3, v4⟩ a w ⟨hk, h⟩ K' hK5
 cases kl1 with
 | zero => simp [offshootref02_Eight.l1] at h
 | succ kl1 =>
 rw [offshootref02_Eight.l1.eq_2] at h
 refine FW.wseq ?_; intro K' hK6
 refine FW.wreg ?_; intro K' hK7
 refine FW.lfun (y := .lit (.int .i64 v4)) hk rfl rfl rfl rfl (FW.f_move hk FW.h0 rfl) ?_; clear hk; intro a w hk
 refine FW.lfun (y := .lit (.bool (decide (v4 < 8)))) hk rfl rfl rfl rfl ((FW.f_pure (FW.p_lss hk.kn FW.h0 rfl rfl))) ?_; clear hk; intro a w hk
 refine FW.lend (hK7 _ _ ?_); clear hK7 K'
 refine FW.wcondF (b := (decide (v4 < 8))) hk h rfl (fun h hb => ?_) (fun h hb => ?_)
 ·skip
  refine wp_skip ?_
  (repeat first | refine FW.then_normal ?_ | refine FW.block_normal ?_); refine hK6 _ _ ?_
  refine FW.wseq ?_; intro K' hK8
  refine wp_block ?_
  refine FW.wreg ?_; intro K' hK9
  refine FW.lfun (y := .lit (.int .u64 v0)) hk rfl rfl rfl rfl (FW.f_move hk FW.h0 rfl) ?_; clear hk; intro a w hk
  refine FW.lfun (y := .lit (.int .u64 (Int.tmod v0 256))) hk rfl rfl rfl rfl ((FW.f_pure (FW.p_rem hk.kn FW.h0 rfl rfl (show ¬ (256 : Int) = 0 from by decide)))) ?_; clear hk; intro a w hk
  refine FW.lfun (y := .lit (.int .u8 (IntKind.wrap .u8 (Int.tmod v0 256)))) hk rfl rfl rfl rfl ((FW.f_pure (FW.p_conv Try.underlying77 Try.underlying5 hk.kn FW.h0 rfl))) ?_; clear hk; intro a w hk
  refine FW.l_buildSlice (f := c_u8) (l := ([(IntKind.wrap .u8 (Int.tmod v0 256))] : List Int)) hk rfl rfl rfl Try.underlying75 rfl rfl rfl rfl (fun _ => rfl) rfl ?_; clear hk; intro bx1 a w hk
  refine FW.lfun (y := .lit (.string (FW.B (FW.toB ([(IntKind.wrap .u8 (Int.tmod v0 256))] : List Int))))) hk rfl rfl rfl rfl (FW.f_toBown (f := c_u8) rfl hk FW.h0 (j := 0) rfl rfl Try.underlying75 Try.underlying5 Try.underlying9) ?_; clear hk; intro a w hk
  refine FW.lfun (y := .lit (.string (FW.B v3))) hk rfl rfl rfl rfl (FW.f_move hk FW.h0 rfl) ?_; clear hk; intro a w hk
  obtain ⟨hc1, h⟩ := FW.chk h
  refine FW.lfun (y := .lit (.string (FW.B ((FW.toB ([(IntKind.wrap .u8 (Int.tmod v0 256))] : List Int)) ++ v3)))) hk rfl rfl rfl rfl ((FW.f_pure (FW.p_sadd hk.kn FW.h0 rfl rfl hc1))) ?_; clear hk; intro a w hk
  refine FW.lfun (y := .lit (.string (FW.B ((FW.toB ([(IntKind.wrap .u8 (Int.tmod v0 256))] : List Int)) ++ v3)))) hk rfl rfl rfl rfl (FW.f_assign hk FW.h0 rfl) ?_; clear hk; intro a w hk
  refine FW.lend (hK9 _ _ ?_); clear hK9 K'
  refine FW.wreg1 ?_
  refine FW.lfun (y := .lit (.int .u64 v0)) hk rfl rfl rfl rfl (FW.f_move hk FW.h0 rfl) ?_; clear hk; intro a w hk
  refine FW.lfun (y := .lit (.int .u64 (IntKind.wrap .u64 (Int.tdiv v0 256)))) hk rfl rfl rfl rfl ((FW.f_pure (FW.p_quo hk.kn FW.h0 rfl rfl (show ¬ (256 : Int) = 0 from by decide)))) ?_; clear hk; intro a w hk
  refine FW.lfun (y := .lit (.int .u64 (IntKind.wrap .u64 (Int.tdiv v0 256)))) hk rfl rfl rfl rfl (FW.f_assign hk FW.h0 rfl) ?_; clear hk; intro a w hk
  refine wpList_nil ?_
  (repeat first | refine FW.then_normal ?_ | refine FW.block_normal ?_); refine hK8 _ _ ?_
  refine FW.wreg1 ?_
  refine FW.lfun (y := .lit (.int .i64 v4)) hk rfl rfl rfl rfl (FW.f_move hk FW.h0 rfl) ?_; clear hk; intro a w hk
  refine FW.lfun (y := .lit (.int .i64 (IntKind.wrap .i64 (v4 + 1)))) hk rfl rfl rfl rfl ((FW.f_pure (FW.p_add hk.kn FW.h0 rfl rfl))) ?_; clear hk; intro a w hk
  refine FW.lfun (y := .lit (.int .i64 (IntKind.wrap .i64 (v4 + 1)))) hk rfl rfl rfl rfl (FW.f_assign hk FW.h0 rfl) ?_; clear hk; intro a w hk
  refine wpList_nil ?_
  (repeat first | refine FW.then_normal ?_ | refine FW.block_normal ?_); exact hK5 (kl1, (IntKind.wrap .u64 (Int.tdiv v0 256)), ((FW.toB ([(IntKind.wrap .u8 (Int.tmod v0 256))] : List Int)) ++ v3), (IntKind.wrap .i64 (v4 + 1))) _ _ (Nat.lt_succ_self _) ⟨(hk.drop 0).sub ⟨rfl, rfl, rfl, trivial⟩, h⟩
 ·skip
  refine wp_exit ?_; (repeat first | refine FW.then_exit ?_ | refine FW.block_exit_ne rfl ?_); refine FW.block_exit ?_
  (repeat first | refine FW.then_normal ?_ | refine FW.block_normal ?_); refine hK3 _ _ ?_
  refine FW.wreg ?_; intro K' hK12
  refine FW.lfun (y := .lit (.string (FW.B v3))) hk rfl rfl rfl rfl (FW.f_move hk FW.h0 rfl) ?_; clear hk; intro a w hk
  refine FW.lfun (y := .lit (.string (FW.B v3))) hk rfl rfl rfl rfl (FW.f_assign hk FW.h0 rfl) ?_; clear hk; intro a w hk
  refine FW.lend (hK12 _ _ ?_); clear hK12 K'
  refine wp_ret ?_
  (repeat first | refine FW.then_ret ?_ | refine FW.block_ret ?_)
  obtain rfl := Option.some.inj h
  exact FW.fret1 hk rfl rfl

theorem offshootref01_Canon.ok  (v0 : Nat) (r : Int) (h : offshootref01_Canon.f v0 = some r) :
  FW.Ok Try.prog 35 [.lit (.float .f64 v0)] (.lit (.int .u64 r)) := by
 refine FW.enter (xs := [.lit (.float .f64 v0)]) Try.func35 rfl Try.ntmps35 rfl ?_
 intro M w0 a hk
 unfold offshootref01_Canon.f at h
 refine FW.wreg ?_; intro K' hK1
 refine FW.lfun (y := .lit (.int .u64 0)) hk rfl rfl rfl rfl (FW.f_assign hk FW.h0 rfl) ?_; clear hk; intro a w hk
 refine FW.lend (hK1 _ _ ?_); clear hK1 K'
 refine FW.wseq ?_; intro K' hK2
 refine FW.wreg ?_; intro K' hK3
 refine FW.lfun (y := .lit (.float .f64 v0)) hk rfl rfl rfl rfl (FW.f_move hk FW.h0 rfl) ?_; clear hk; intro a w hk
 refine FW.lfun (y := .lit (.float .f64 v0)) hk rfl rfl rfl rfl (FW.f_move hk FW.h0 rfl) ?_; clear hk; intro a w hk
 refine FW.lfun (y := .lit (.bool (FW.fneq v0 v0))) hk rfl rfl rfl rfl ((FW.f_pure (FW.p_fneq hk.kn FW.h0 rfl rfl))) ?_; clear hk; intro a w hk
 refine FW.lend (hK3 _ _ ?_); clear hK3 K'
 refine FW.wcondF (b := (FW.fneq v0 v0)) hk h rfl (fun h hb => ?_) (fun h hb => ?_)
 ·skip
  refine FW.wreg ?_; intro K' hK4
  refine FW.lfun (y := .lit (.int .u64 9221120237041090561)) hk rfl rfl rfl rfl (FW.f_assign hk FW.h0 rfl) ?_; clear hk; intro a w hk
  refine FW.lend (hK4 _ _ ?_); clear hK4 K'
  refine wp_ret ?_
  (repeat first | refine FW.then_ret ?_ | refine FW.block_ret ?_)
  obtain rfl := Option.some.inj h
  exact FW.fret1 hk rfl rfl
 ·skip
  refine wp_skip ?_
  (repeat first | refine FW.then_normal ?_ | refine FW.block_normal ?_); refine hK2 _ _ ?_
  refine FW.wreg ?_; intro K' hK5
  refine FW.lfun (y := .lit (.float .f64 v0)) hk rfl rfl rfl rfl (FW.f_move hk FW.h0 rfl) ?_; clear hk; intro a w hk
  refine FW.lfun (y := .lit (.int .u64 ((v0 : Nat) : Int))) hk rfl rfl rfl rfl (FW.f_bits hk FW.h0 rfl rfl Try.func57 (by kernel_rfl) (by kernel_rfl) (by kernel_rfl) (by kernel_rfl)) ?_; clear hk; intro a w hk
  refine FW.lfun (y := .lit (.int .u64 ((v0 : Nat) : Int))) hk rfl rfl rfl rfl (FW.f_assign hk FW.h0 rfl) ?_; clear hk; intro a w hk
  refine FW.lend (hK5 _ _ ?_); clear hK5 K'
  refine wp_ret ?_
  (repeat first | refine FW.then_ret ?_ | refine FW.block_ret ?_)
  obtain rfl := Option.some.inj h
  exact FW.fret1 hk rfl rfl

theorem offshootref02_Two.ok  (v0 : Int) (r : List UInt8) (h : offshootref02_Two.f v0 = some r) :
  FW.Ok Try.prog 36 [.lit (.int .i64 v0)] (.lit (.string (FW.B r))) := by
 refine FW.enter (xs := [.lit (.int .i64 v0)]) Try.func36 rfl Try.ntmps36 rfl ?_
 intro M w0 a hk
 unfold offshootref02_Two.f at h
 refine FW.wreg ?_; intro K' hK1
 refine FW.lfun (y := .lit (.string (FW.B ([] : List UInt8)))) hk rfl rfl rfl rfl (FW.f_assign hk FW.h0 rfl) ?_; clear hk; intro a w hk
 refine FW.lend (hK1 _ _ ?_); clear hK1 K'
 refine FW.wreg ?_; intro K' hK2
 refine FW.lfun (y := .lit (.int .i64 v0)) hk rfl rfl rfl rfl (FW.f_move hk FW.h0 rfl) ?_; clear hk; intro a w hk
 refine FW.lfun (y := .lit (.int .i64 (IntKind.wrap .i64 (Int.tdiv v0 256)))) hk rfl rfl rfl rfl ((FW.f_pure (FW.p_quo hk.kn FW.h0 rfl rfl (show ¬ (256 : Int) = 0 from by decide)))) ?_; clear hk; intro a w hk
 refine FW.lfun (y := .lit (.int .i64 (Int.tmod (IntKind.wrap .i64 (Int.tdiv v0 256)) 256))) hk rfl rfl rfl rfl ((FW.f_pure (FW.p_rem hk.kn FW.h0 rfl rfl (show ¬ (256 : Int) = 0 from by decide)))) ?_; clear hk; intro a w hk
 refine FW.lfun (y := .lit (.int .u8 (IntKind.wrap .u8 (Int.tmod (IntKind.wrap .i64 (Int.tdiv v0 256)) 256)))) hk rfl rfl rfl rfl ((FW.f_pure (FW.p_conv Try.underlying3 Try.underlying5 hk.kn FW.h0 rfl))) ?_; clear hk; intro a w hk
 refine FW.lfun (y := .lit (.int .i64 v0)) hk rfl rfl rfl rfl (FW.f_move hk FW.h0 rfl) ?_; clear hk; intro a w hk
 refine FW.lfun (y := .lit (.int .i64 (Int.tmod v0 256))) hk rfl rfl rfl rfl ((FW.f_pure (FW.p_rem hk.kn FW.h0 rfl rfl (show ¬ (256 : Int) = 0 from by decide)))) ?_; clear hk; intro a w hk
 refine FW.lfun (y := .lit (.int .u8 (IntKind.wrap .u8 (Int.tmod v0 256)))) hk rfl rfl rfl rfl ((FW.f_pure (FW.p_conv Try.underlying3 Try.underlying5 hk.kn FW.h0 rfl))) ?_; clear hk; intro a w hk
 refine FW.l_buildSlice (f := c_u8) (l := ([(IntKind.wrap .u8 (Int.tmod (IntKind.wrap .i64 (Int.tdiv v0 256)) 256)), (IntKind.wrap .u8 (Int.tmod v0 256))] : List Int)) hk rfl rfl rfl Try.underlying75 rfl rfl rfl rfl (fun _ => rfl) rfl ?_; clear hk; intro bx1 a w hk
 refine FW.lfun (y := .lit (.string (FW.B (FW.toB ([(IntKind.wrap .u8 (Int.tmod (IntKind.wrap .i64 (Int.tdiv v0 256)) 256)), (IntKind.wrap .u8 (Int.tmod v0 256))] : List Int))))) hk rfl rfl rfl rfl (FW.f_toBown (f := c_u8) rfl hk FW.h0 (j := 0) rfl rfl Try.underlying75 Try.underlying5 Try.underlying9) ?_; clear hk; intro a w hk
 refine FW.lfun (y := .lit (.string (FW.B (FW.toB ([(IntKind.wrap .u8 (Int.tmod (IntKind.wrap .i64 (Int.tdiv v0 256)) 256)), (IntKind.wrap .u8 (Int.tmod v0 256))] : List Int))))) hk rfl rfl rfl rfl (FW.f_assign hk FW.h0 rfl) ?_; clear hk; intro a w hk
 refine FW.lend (hK2 _ _ ?_); clear hK2 K'
 refine wp_ret ?_
 (repeat first | refine FW.then_ret ?_ | refine FW.block_ret ?_)
 obtain rfl := Option.some.inj h
 exact FW.fret1 hk rfl rfl
end Go.Proofs.Ytbjbgodcenopnaa

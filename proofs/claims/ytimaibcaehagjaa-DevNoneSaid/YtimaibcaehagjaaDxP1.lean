/- Written by a program of this session (gen.py): the contracts of functions of the program. -/
import Derived.KernelRfl
import Derived.Test.YtimaibcaehagjaaProg
import Derived.Test.YtimaibcaehagjaaAvFun
import Derived.Test.YtimaibcaehagjaaAvMan
import Derived.Test.YtimaibcaehagjaaAvMore
import Derived.Test.YtimaibcaehagjaaAvDraw2
import Derived.Test.YtimaibcaehagjaaAvRow
import Derived.Test.YtimaibcaehagjaaHn
import Derived.Test.YtimaibcaehagjaaHg
import Derived.Test.YtimaibcaehagjaaHar
import Derived.Test.YtimaibcaehagjaaHc
import Derived.Test.YtimaibcaehagjaaFx
import Derived.Test.YtimaibcaehagjaaDxD
import Derived.Test.YtimaibcaehagjaaDxP0
namespace Go.Proofs.Ytimaibcaehagjaa
set_option linter.unusedVariables false
set_option maxRecDepth 20000
set_option maxHeartbeats 10000000
theorem dev_Dev_Write.ok (K : Nat) (v0 : ODevDev) (v1 : Int) (v2 : List UInt8) (r : Int × ODevDev) (h : dev_Dev_Write.f K v0 v1 v2 = some r) :
    ∀ (b0 : Nat) (xd0_0 : Option Addr) (xc0_0 : Nat) (xr0_1 : Nat) (xd0_3 : Option Addr) (xc0_3 : Nat), FW.OkH Go.Proofs.Try.prog 29 [.lit (.pointer (some ⟨b0, 0, none⟩)), .lit (.int .i64 v1), .lit (.string (FW.B v2))] (ODevDev.items b0 xd0_0 xc0_0 xr0_1 xd0_3 xc0_3 v0) (fun y I => ∃ (zxd0_0 : Option Addr) (zxc0_0 : Nat) (zxr0_1 : Nat) (zxd0_3 : Option Addr) (zxc0_3 : Nat), y = .lit (.int .i64 r.1) ∧ I = ODevDev.items b0 zxd0_0 zxc0_0 zxr0_1 zxd0_3 zxc0_3 r.2) := by
  intro b0 xd0_0 xc0_0 xr0_1 xd0_3 xc0_3
  refine FW.enterH (xs := [.lit (.pointer (some ⟨b0, 0, none⟩)), .lit (.int .i64 v1), .lit (.string (FW.B v2))]) Go.Proofs.Try.func29 rfl Go.Proofs.Try.ntmps29 rfl ?_
  intro M w0 a hk
  replace hk : FW.S M w0 a w0.toWorld 39 [FW.blk b0 109 ([.lit (.slice xd0_0 (List.length v0.sure) xc0_0)] ++ [.lit (.map (some xr0_1))] ++ [.lit (.int .i64 v0.steps)] ++ [.lit (.slice xd0_3 (List.length v0.falls) xc0_3)] ++ [.lit (.bool v0.off)]), FW.orow xd0_0 xc0_0 9 1 c_str v0.sure, FW.mapI (.int .i64) (Value.int .i64) FW.evS xr0_1 v0.cache, FW.orow xd0_3 xc0_3 45 3 ApiFall.cells v0.falls] [(0, [], .lit (.pointer (some ⟨b0, 0, none⟩))), (1, [], .lit (.int .i64 v1)), (2, [], .lit (.string (FW.B v2)))] := hk
  unfold dev_Dev_Write.f at h
  refine FW.wreg ?_; intro K' hK1
  refine FW.lfun (y := .lit (.int .i64 0)) hk rfl rfl rfl rfl (FW.f_assign hk (FW.holds_nil _) rfl) ?_; clear hk; intro a w hk
  refine FW.lend (hK1 _ _ ?_); clear hK1 K'
  refine FW.wseq ?_; intro K' hK2
  refine wp_block ?_
  refine FW.wreg ?_; intro K' hK3
  refine FW.lfun (y := .lit (.pointer (some ⟨b0, 0, none⟩))) hk rfl rfl rfl rfl (FW.f_move hk (FW.holds_nil _) rfl) ?_; clear hk; intro a w hk
  obtain ⟨t1, hr_t1, h⟩ := FW.bnd h
  refine FW.l_callH (I1 := (ODevDev.items b0 xd0_0 xc0_0 xr0_1 xd0_3 xc0_3 v0)) (I2 := []) (js := [3, 3, 3, 3]) hk rfl rfl rfl rfl rfl Go.Proofs.Try.func41 rfl (by kernel_rfl) (dev_Dev_Off.ok v0 _ hr_t1 b0 xd0_0 xc0_0 xr0_1 xd0_3 xc0_3) ?_; clear hk
  rintro _ _ ⟨rfl, rfl⟩ a w hk
  refine FW.lfun (y := .lit (.bool t1)) hk rfl rfl rfl rfl (FW.f_assign hk (FW.holds_nil _) rfl) ?_; clear hk; intro a w hk
  refine FW.lend (hK3 _ _ ?_); clear hK3 K'
  refine FW.wcondF (b := t1) hk h rfl (fun h hb => ?_) (fun h hb => ?_)
  · skip
    refine FW.wreg ?_; intro K' hK4
    refine FW.lfun (y := .lit (.int .i64 7)) hk rfl rfl rfl rfl (FW.f_assign hk (FW.holds_nil _) rfl) ?_; clear hk; intro a w hk
    refine FW.lend (hK4 _ _ ?_); clear hK4 K'
    refine wp_ret ?_
    (repeat first | refine FW.then_ret ?_ | refine FW.block_ret ?_)
    obtain rfl := Option.some.inj h
    replace hk := FW.S.keep (I1 := [FW.blk b0 109 ([.lit (.slice xd0_0 (List.length v0.sure) xc0_0)] ++ [.lit (.map (some xr0_1))] ++ [.lit (.int .i64 v0.steps)] ++ [.lit (.slice xd0_3 (List.length v0.falls) xc0_3)] ++ [.lit (.bool v0.off)]), FW.orow xd0_0 xc0_0 9 1 c_str v0.sure, FW.mapI (.int .i64) (Value.int .i64) FW.evS xr0_1 v0.cache, FW.orow xd0_3 xc0_3 45 3 ApiFall.cells v0.falls]) (I2 := []) (js := [3, 3, 3, 3]) hk rfl
    exact FW.fretH1 hk rfl (FW.rtmp hk rfl) ⟨xd0_0, xc0_0, xr0_1, xd0_3, xc0_3, rfl, rfl⟩
  · skip
    refine FW.wreg ?_; intro K' hK5
    refine FW.lfun (y := .lit (.int .i64 v1)) hk rfl rfl rfl rfl (FW.f_move hk (FW.holds_nil _) rfl) ?_; clear hk; intro a w hk
    refine FW.lfun (y := .lit (.bool (decide (v1 < 0)))) hk rfl rfl rfl rfl ((FW.f_pure (FW.p_lss hk.kn (FW.holds_nil _) rfl rfl))) ?_; clear hk; intro a w hk
    refine FW.lfun (y := .lit (.bool (decide (v1 < 0)))) hk rfl rfl rfl rfl (FW.f_move hk (FW.holds_nil _) rfl) ?_; clear hk; intro a w hk
    refine FW.lfunG (y := .lit (.int .i64 v1)) hk rfl rfl rfl rfl rfl rfl rfl rfl (fun hc => FW.f_move hk hc rfl) ?_; clear hk; intro a w hk
    refine FW.lfunG (y := .lit (.pointer (some ⟨b0, 0, none⟩))) hk rfl rfl rfl rfl rfl rfl rfl rfl (fun hc => FW.f_move hk hc rfl) ?_; clear hk; intro a w hk
    refine FW.lfunG (y := .lit (.pointer (some ⟨b0, 0, none⟩))) hk rfl rfl rfl rfl rfl rfl rfl rfl (fun hc => (FW.f_pure (FW.p_nilCheck hk.kn hc rfl))) ?_; clear hk; intro a w hk
    refine FW.lfunG (y := .lit (.pointer (some ⟨b0, 0, none⟩))) hk rfl rfl rfl rfl rfl rfl rfl rfl (fun hc => FW.f_fieldPtr hk hc rfl Go.Proofs.Try.underlying109 rfl (by kernel_rfl) rfl) ?_; clear hk; intro a w hk
    refine FW.lfunG (y := .lit (.slice xd0_0 (List.length v0.sure) xc0_0)) hk rfl rfl rfl rfl rfl rfl rfl rfl (fun hc => FW.f_loadBlk1 hk hc (j := 0) rfl rfl Go.Proofs.Try.underlying61 rfl rfl) ?_; clear hk; intro a w hk
    refine FW.lfunG (y := .lit (.int .i64 (List.length v0.sure : Int))) hk rfl rfl rfl rfl rfl rfl rfl rfl (fun hc => (FW.f_pure (FW.p_len Go.Proofs.Try.underlying61 hk.kn hc rfl))) ?_; clear hk; intro a w hk
    refine FW.lfunG (y := .lit (.bool (decide ((List.length v0.sure : Int) ≤ v1)))) hk rfl rfl rfl rfl rfl rfl rfl rfl (fun hc => (FW.f_pure (FW.p_geq hk.kn hc rfl rfl))) ?_; clear hk; intro a w hk
    refine FW.lfun (y := .lit (.bool ((decide (v1 < 0)) || (decide ((List.length v0.sure : Int) ≤ v1))))) hk rfl rfl rfl rfl ((FW.f_pure (FW.p_pick_or hk.kn (FW.holds_nil _) rfl rfl))) ?_; clear hk; intro a w hk
    refine FW.lfun (y := .lit (.bool ((decide (v1 < 0)) || (decide ((List.length v0.sure : Int) ≤ v1))))) hk rfl rfl rfl rfl (FW.f_move hk (FW.holds_nil _) rfl) ?_; clear hk; intro a w hk
    refine FW.lfunG (y := .lit (.string (FW.B v2))) hk rfl rfl rfl rfl rfl rfl rfl rfl (fun hc => FW.f_move hk hc rfl) ?_; clear hk; intro a w hk
    refine FW.lfunG (y := .lit (.int .i64 (List.length v2 : Int))) hk rfl rfl rfl rfl rfl rfl rfl rfl (fun hc => (FW.f_pure (FW.p_slen Go.Proofs.Try.underlying9 hk.kn hc rfl))) ?_; clear hk; intro a w hk
    refine FW.lfunG (y := .lit (.bool (!decide ((List.length v2 : Int) = 128)))) hk rfl rfl rfl rfl rfl rfl rfl rfl (fun hc => (FW.f_pure (FW.p_neq hk.kn hc rfl rfl))) ?_; clear hk; intro a w hk
    refine FW.lfun (y := .lit (.bool (((decide (v1 < 0)) || (decide ((List.length v0.sure : Int) ≤ v1))) || (!decide ((List.length v2 : Int) = 128))))) hk rfl rfl rfl rfl ((FW.f_pure (FW.p_pick_or hk.kn (FW.holds_nil _) rfl rfl))) ?_; clear hk; intro a w hk
    refine FW.lfun (y := .lit (.bool (((decide (v1 < 0)) || (decide ((List.length v0.sure : Int) ≤ v1))) || (!decide ((List.length v2 : Int) = 128))))) hk rfl rfl rfl rfl (FW.f_assign hk (FW.holds_nil _) rfl) ?_; clear hk; intro a w hk
    refine FW.lend (hK5 _ _ ?_); clear hK5 K'
    refine FW.wcondF (b := (((decide (v1 < 0)) || (decide ((List.length v0.sure : Int) ≤ v1))) || (!decide ((List.length v2 : Int) = 128)))) hk h rfl (fun h hb => ?_) (fun h hb => ?_)
    · skip
      refine FW.wreg ?_; intro K' hK6
      refine FW.lfun (y := .lit (.int .i64 1)) hk rfl rfl rfl rfl (FW.f_assign hk (FW.holds_nil _) rfl) ?_; clear hk; intro a w hk
      refine FW.lend (hK6 _ _ ?_); clear hK6 K'
      refine wp_ret ?_
      (repeat first | refine FW.then_ret ?_ | refine FW.block_ret ?_)
      obtain rfl := Option.some.inj h
      replace hk := FW.S.keep (I1 := [FW.blk b0 109 ([.lit (.slice xd0_0 (List.length v0.sure) xc0_0)] ++ [.lit (.map (some xr0_1))] ++ [.lit (.int .i64 v0.steps)] ++ [.lit (.slice xd0_3 (List.length v0.falls) xc0_3)] ++ [.lit (.bool v0.off)]), FW.orow xd0_0 xc0_0 9 1 c_str v0.sure, FW.mapI (.int .i64) (Value.int .i64) FW.evS xr0_1 v0.cache, FW.orow xd0_3 xc0_3 45 3 ApiFall.cells v0.falls]) (I2 := []) (js := [3, 3, 3, 3]) hk rfl
      exact FW.fretH1 hk rfl (FW.rtmp hk rfl) ⟨xd0_0, xc0_0, xr0_1, xd0_3, xc0_3, rfl, rfl⟩
    · skip
      refine wp_skip ?_
      (repeat first | refine FW.then_normal ?_ | refine FW.block_normal ?_); refine hK2 _ _ ?_
      refine FW.wseq ?_; intro K' hK7
      refine FW.wreg ?_; intro K' hK8
      refine FW.lfun (y := .lit (.pointer (some ⟨b0, 0, none⟩))) hk rfl rfl rfl rfl (FW.f_move hk (FW.holds_nil _) rfl) ?_; clear hk; intro a w hk
      obtain ⟨t2, hr_t2, h⟩ := FW.bnd h
      refine FW.l_callH (I1 := (ODevDev.items b0 xd0_0 xc0_0 xr0_1 xd0_3 xc0_3 v0)) (I2 := []) (js := [3, 3, 3, 3]) hk rfl rfl rfl rfl rfl Go.Proofs.Try.func63 rfl (by kernel_rfl) (dev_Dev_step.ok K v0 _ hr_t2 b0 xd0_0 xc0_0 xr0_1 xd0_3 xc0_3) ?_; clear hk
      rintro _ _ ⟨zd1, zc1, zr1, zd2, zc2, rfl, rfl⟩ a w hk
      refine FW.lfun (y := .lit (.int .i64 t2.1)) hk rfl rfl rfl rfl (FW.f_assign hk (FW.holds_nil _) rfl) ?_; clear hk; intro a w hk
      refine FW.lend (hK8 _ _ ?_); clear hK8 K'
      refine FW.wreg ?_; intro K' hK9
      refine FW.lfun (y := .lit (.int .i64 t2.1)) hk rfl rfl rfl rfl (FW.f_move hk (FW.holds_nil _) rfl) ?_; clear hk; intro a w hk
      refine FW.lfun (y := .lit (.bool (!decide (t2.1 = 0)))) hk rfl rfl rfl rfl ((FW.f_pure (FW.p_neq hk.kn (FW.holds_nil _) rfl rfl))) ?_; clear hk; intro a w hk
      refine FW.lend (hK9 _ _ ?_); clear hK9 K'
      refine FW.wcondF (b := (!decide (t2.1 = 0))) hk h rfl (fun h hb => ?_) (fun h hb => ?_)
      · skip
        refine FW.wreg ?_; intro K' hK10
        refine FW.lfun (y := .lit (.int .i64 t2.1)) hk rfl rfl rfl rfl (FW.f_move hk (FW.holds_nil _) rfl) ?_; clear hk; intro a w hk
        refine FW.lfun (y := .lit (.int .i64 t2.1)) hk rfl rfl rfl rfl (FW.f_assign hk (FW.holds_nil _) rfl) ?_; clear hk; intro a w hk
        refine FW.lend (hK10 _ _ ?_); clear hK10 K'
        refine wp_ret ?_
        (repeat first | refine FW.then_ret ?_ | refine FW.block_ret ?_)
        obtain rfl := Option.some.inj h
        replace hk := FW.S.keep (I1 := [FW.blk b0 109 ([.lit (.slice zd1 (List.length t2.2.sure) zc1)] ++ [.lit (.map (some zr1))] ++ [.lit (.int .i64 t2.2.steps)] ++ [.lit (.slice zd2 (List.length t2.2.falls) zc2)] ++ [.lit (.bool t2.2.off)]), FW.orow zd1 zc1 9 1 c_str t2.2.sure, FW.mapI (.int .i64) (Value.int .i64) FW.evS zr1 t2.2.cache, FW.orow zd2 zc2 45 3 ApiFall.cells t2.2.falls]) (I2 := []) (js := [3, 3, 3, 3]) hk rfl
        exact FW.fretH1 hk rfl (FW.rtmp hk rfl) ⟨zd1, zc1, zr1, zd2, zc2, rfl, rfl⟩
      · skip
        refine wp_skip ?_
        (repeat first | refine FW.then_normal ?_ | refine FW.block_normal ?_); refine hK7 _ _ ?_
        refine FW.wreg ?_; intro K' hK11
        refine FW.lfun (y := .lit (.pointer (some ⟨b0, 0, none⟩))) hk rfl rfl rfl rfl (FW.f_move hk (FW.holds_nil _) rfl) ?_; clear hk; intro a w hk
        refine FW.lfun (y := .lit (.pointer (some ⟨b0, 0, none⟩))) hk rfl rfl rfl rfl ((FW.f_pure (FW.p_nilCheck hk.kn (FW.holds_nil _) rfl))) ?_; clear hk; intro a w hk
        refine FW.lfun (y := .lit (.pointer (some ⟨b0, 1, none⟩))) hk rfl rfl rfl rfl (FW.f_fieldPtr hk (FW.holds_nil _) rfl Go.Proofs.Try.underlying109 rfl (by kernel_rfl) rfl) ?_; clear hk; intro a w hk
        refine FW.lfun (y := .lit (.map (some zr1))) hk rfl rfl rfl rfl (FW.f_loadBlk1 hk (FW.holds_nil _) (j := 0) rfl rfl Go.Proofs.Try.underlying107 rfl rfl) ?_; clear hk; intro a w hk
        refine FW.lfun (y := .lit (.int .i64 v1)) hk rfl rfl rfl rfl (FW.f_move hk (FW.holds_nil _) rfl) ?_; clear hk; intro a w hk
        refine FW.lfun (y := .lit (.string (FW.B v2))) hk rfl rfl rfl rfl (FW.f_move hk (FW.holds_nil _) rfl) ?_; clear hk; intro a w hk
        refine FW.l_mapUpdate (ev := FW.evS) (I' := [FW.blk b0 109 ([.lit (.slice zd1 (List.length t2.2.sure) zc1)] ++ [.lit (.map (some zr1))] ++ [.lit (.int .i64 t2.2.steps)] ++ [.lit (.slice zd2 (List.length t2.2.falls) zc2)] ++ [.lit (.bool t2.2.off)]), FW.orow zd1 zc1 9 1 c_str t2.2.sure, FW.mapI (.int .i64) (Value.int .i64) FW.evS zr1 (FW.mput t2.2.cache v1 v2), FW.orow zd2 zc2 45 3 ApiFall.cells t2.2.falls]) (j := 2) hk rfl rfl rfl rfl Go.Proofs.Try.underlying107 Go.Proofs.Try.underlying3 rfl ?_; clear hk; intro w hk
        refine FW.lend (hK11 _ _ ?_); clear hK11 K'
        refine FW.wreg ?_; intro K' hK12
        refine FW.lfun (y := .lit (.int .i64 0)) hk rfl rfl rfl rfl (FW.f_assign hk (FW.holds_nil _) rfl) ?_; clear hk; intro a w hk
        refine FW.lend (hK12 _ _ ?_); clear hK12 K'
        refine wp_ret ?_
        (repeat first | refine FW.then_ret ?_ | refine FW.block_ret ?_)
        obtain rfl := Option.some.inj h
        replace hk := FW.S.keep (I1 := [FW.blk b0 109 ([.lit (.slice zd1 (List.length t2.2.sure) zc1)] ++ [.lit (.map (some zr1))] ++ [.lit (.int .i64 t2.2.steps)] ++ [.lit (.slice zd2 (List.length t2.2.falls) zc2)] ++ [.lit (.bool t2.2.off)]), FW.orow zd1 zc1 9 1 c_str t2.2.sure, FW.mapI (.int .i64) (Value.int .i64) FW.evS zr1 (FW.mput t2.2.cache v1 v2), FW.orow zd2 zc2 45 3 ApiFall.cells t2.2.falls]) (I2 := []) (js := [3, 3, 3, 3]) hk rfl
        exact FW.fretH1 hk rfl (FW.rtmp hk rfl) ⟨zd1, zc1, zr1, zd2, zc2, rfl, rfl⟩

theorem dev_Dev_Plan.ok  (v0 : ODevDev) (v1 : List ApiFall) (r : ODevDev) (h : dev_Dev_Plan.f v0 v1 = some r) :
    ∀ (b0 : Nat) (xd0_0 : Option Addr) (xc0_0 : Nat) (xr0_1 : Nat) (xd0_3 : Option Addr) (xc0_3 : Nat), FW.OkH Go.Proofs.Try.prog 39 [.lit (.pointer (some ⟨b0, 0, none⟩)), .row (r_ApiFall_cells v1)] (ODevDev.items b0 xd0_0 xc0_0 xr0_1 xd0_3 xc0_3 v0) (fun y I => ∃ (zxd0_0 : Option Addr) (zxc0_0 : Nat) (zxr0_1 : Nat) (zxd0_3 : Option Addr) (zxc0_3 : Nat), y = .tup [] ∧ I = ODevDev.items b0 zxd0_0 zxc0_0 zxr0_1 zxd0_3 zxc0_3 r) := by
  intro b0 xd0_0 xc0_0 xr0_1 xd0_3 xc0_3
  refine FW.enterH (xs := [.lit (.pointer (some ⟨b0, 0, none⟩)), .row (r_ApiFall_cells v1)]) Go.Proofs.Try.func39 rfl Go.Proofs.Try.ntmps39 rfl ?_
  intro M w0 a hk
  replace hk : FW.S M w0 a w0.toWorld 11 [FW.blk b0 109 ([.lit (.slice xd0_0 (List.length v0.sure) xc0_0)] ++ [.lit (.map (some xr0_1))] ++ [.lit (.int .i64 v0.steps)] ++ [.lit (.slice xd0_3 (List.length v0.falls) xc0_3)] ++ [.lit (.bool v0.off)]), FW.orow xd0_0 xc0_0 9 1 c_str v0.sure, FW.mapI (.int .i64) (Value.int .i64) FW.evS xr0_1 v0.cache, FW.orow xd0_3 xc0_3 45 3 ApiFall.cells v0.falls] [(0, [], .lit (.pointer (some ⟨b0, 0, none⟩))), (1, [], .row (r_ApiFall_cells v1))] := hk
  unfold dev_Dev_Plan.f at h
  refine FW.wreg ?_; intro K' hK1
  refine FW.lfun (y := .lit (.pointer (some ⟨b0, 0, none⟩))) hk rfl rfl rfl rfl (FW.f_move hk (FW.holds_nil _) rfl) ?_; clear hk; intro a w hk
  refine FW.lfun (y := .lit (.bool true)) hk rfl rfl rfl rfl ((FW.f_pure (FW.p_ptrNe Go.Proofs.Try.underlying46 hk.kn (FW.holds_nil _) rfl rfl rfl))) ?_; clear hk; intro a w hk
  refine FW.lend (hK1 _ _ ?_); clear hK1 K'
  refine FW.wcondT hk rfl ?_
  refine FW.wreg1 ?_
  refine FW.lfun (y := .lit (.pointer (some ⟨b0, 0, none⟩))) hk rfl rfl rfl rfl (FW.f_move hk (FW.holds_nil _) rfl) ?_; clear hk; intro a w hk
  refine FW.lfun (y := .row (r_ApiFall_cells v1)) hk rfl rfl rfl rfl (FW.f_move hk (FW.holds_nil _) rfl) ?_; clear hk; intro a w hk
  obtain ⟨hc1, h⟩ := FW.chk h
  refine FW.l_callH (I1 := ([] : List FW.It)) (I2 := [FW.blk b0 109 ([.lit (.slice xd0_0 (List.length v0.sure) xc0_0)] ++ [.lit (.map (some xr0_1))] ++ [.lit (.int .i64 v0.steps)] ++ [.lit (.slice xd0_3 (List.length v0.falls) xc0_3)] ++ [.lit (.bool v0.off)]), FW.orow xd0_0 xc0_0 9 1 c_str v0.sure, FW.mapI (.int .i64) (Value.int .i64) FW.evS xr0_1 v0.cache, FW.orow xd0_3 xc0_3 45 3 ApiFall.cells v0.falls]) (js := []) hk rfl rfl rfl rfl rfl Go.Proofs.Try.func70 rfl (by kernel_rfl) (fallsClone.ok v1 hc1) ?_; clear hk
  rintro _ _ ⟨zd1, zc1, rfl, rfl⟩ a w hk
  refine FW.lfun (y := .lit (.pointer (some ⟨b0, 0, none⟩))) hk rfl rfl rfl rfl ((FW.f_pure (FW.p_nilCheck hk.kn (FW.holds_nil _) rfl))) ?_; clear hk; intro a w hk
  refine FW.lfun (y := .lit (.pointer (some ⟨b0, 3, none⟩))) hk rfl rfl rfl rfl (FW.f_fieldPtr hk (FW.holds_nil _) rfl Go.Proofs.Try.underlying109 rfl (by kernel_rfl) rfl) ?_; clear hk; intro a w hk
  refine FW.l_store (I' := [FW.orow zd1 zc1 45 3 ApiFall.cells v1, FW.blk b0 109 ([.lit (.slice xd0_0 (List.length v0.sure) xc0_0)] ++ [.lit (.map (some xr0_1))] ++ [.lit (.int .i64 v0.steps)] ++ [.lit (.slice zd1 (List.length v1) zc1)] ++ [.lit (.bool v0.off)]), FW.orow xd0_0 xc0_0 9 1 c_str v0.sure, FW.mapI (.int .i64) (Value.int .i64) FW.evS xr0_1 v0.cache, FW.orow xd0_3 xc0_3 45 3 ApiFall.cells v0.falls]) (cs' := [.lit (.slice xd0_0 (List.length v0.sure) xc0_0)] ++ [.lit (.map (some xr0_1))] ++ [.lit (.int .i64 v0.steps)] ++ [.lit (.slice zd1 (List.length v1) zc1)] ++ [.lit (.bool v0.off)]) (j := 1) hk rfl rfl rfl rfl rfl (by kernel_rfl) rfl rfl ?_; clear hk; intro w hk
  refine wpList_nil ?_
  (repeat first | refine FW.then_normal ?_ | refine FW.block_normal ?_)
  refine FW.fnorm ?_
  obtain rfl := Option.some.inj h
  replace hk := FW.S.keep (I1 := [FW.blk b0 109 ([.lit (.slice xd0_0 (List.length v0.sure) xc0_0)] ++ [.lit (.map (some xr0_1))] ++ [.lit (.int .i64 v0.steps)] ++ [.lit (.slice zd1 (List.length v1) zc1)] ++ [.lit (.bool v0.off)]), FW.orow xd0_0 xc0_0 9 1 c_str v0.sure, FW.mapI (.int .i64) (Value.int .i64) FW.evS xr0_1 v0.cache, FW.orow zd1 zc1 45 3 ApiFall.cells v1]) (I2 := [FW.orow xd0_3 xc0_3 45 3 ApiFall.cells v0.falls]) (js := [0, 3, 3, 3]) hk rfl
  exact FW.fretH0 hk rfl ⟨xd0_0, xc0_0, xr0_1, zd1, zc1, rfl, rfl⟩

theorem dev_New.ok (K : Nat) (v0 : Int) (r : ODevDev × Int) (h : dev_New.f K v0 = some r) :
    FW.OkH Go.Proofs.Try.prog 27 [.lit (.int .i64 v0)] [] (fun y I => ∃ (bn0 : Nat) (zxdn0_0 : Option Addr) (zxcn0_0 : Nat) (zxrn0_1 : Nat) (zxdn0_3 : Option Addr) (zxcn0_3 : Nat), y = .tup [.lit (.pointer (some ⟨bn0, 0, none⟩)), .lit (.int .i64 r.2)] ∧ I = (ODevDev.items bn0 zxdn0_0 zxcn0_0 zxrn0_1 zxdn0_3 zxcn0_3 r.1)) := by
  refine FW.enterH (xs := [.lit (.int .i64 v0)]) Go.Proofs.Try.func27 rfl Go.Proofs.Try.ntmps27 rfl ?_
  intro M w0 a hk
  unfold dev_New.f at h
  refine FW.wreg ?_; intro K' hK1
  refine FW.lfun (y := .lit (.pointer none)) hk rfl rfl rfl rfl (FW.f_assign hk (FW.holds_nil _) rfl) ?_; clear hk; intro a w hk
  refine FW.lfun (y := .lit (.int .i64 0)) hk rfl rfl rfl rfl (FW.f_assign hk (FW.holds_nil _) rfl) ?_; clear hk; intro a w hk
  refine FW.lend (hK1 _ _ ?_); clear hK1 K'
  refine FW.wseq ?_; intro K' hK2
  refine FW.wreg ?_; intro K' hK3
  refine FW.lfun (y := .lit (.int .i64 v0)) hk rfl rfl rfl rfl (FW.f_move hk (FW.holds_nil _) rfl) ?_; clear hk; intro a w hk
  refine FW.lfun (y := .lit (.bool (decide (v0 < 0)))) hk rfl rfl rfl rfl ((FW.f_pure (FW.p_lss hk.kn (FW.holds_nil _) rfl rfl))) ?_; clear hk; intro a w hk
  refine FW.lfun (y := .lit (.bool (decide (v0 < 0)))) hk rfl rfl rfl rfl (FW.f_move hk (FW.holds_nil _) rfl) ?_; clear hk; intro a w hk
  refine FW.lfunG (y := .lit (.int .i64 v0)) hk rfl rfl rfl rfl rfl rfl rfl rfl (fun hc => FW.f_move hk hc rfl) ?_; clear hk; intro a w hk
  refine FW.lfunG (y := .lit (.bool (decide (65536 < v0)))) hk rfl rfl rfl rfl rfl rfl rfl rfl (fun hc => (FW.f_pure (FW.p_gtr hk.kn hc rfl rfl))) ?_; clear hk; intro a w hk
  refine FW.lfun (y := .lit (.bool ((decide (v0 < 0)) || (decide (65536 < v0))))) hk rfl rfl rfl rfl ((FW.f_pure (FW.p_pick_or hk.kn (FW.holds_nil _) rfl rfl))) ?_; clear hk; intro a w hk
  refine FW.lend (hK3 _ _ ?_); clear hK3 K'
  refine FW.wcondF (b := ((decide (v0 < 0)) || (decide (65536 < v0)))) hk h rfl (fun h hb => ?_) (fun h hb => ?_)
  · skip
    cases h
  · skip
    refine wp_skip ?_
    (repeat first | refine FW.then_normal ?_ | refine FW.block_normal ?_); refine hK2 _ _ ?_
    refine FW.wreg ?_; intro K' hK4
    refine FW.lfun (y := .lit (.int .i64 v0)) hk rfl rfl rfl rfl (FW.f_move hk (FW.holds_nil _) rfl) ?_; clear hk; intro a w hk
    obtain ⟨hc1, h⟩ := FW.chk h
    refine FW.l_makeSlice (f := c_str) (z := ([] : List UInt8)) (fun _ => rfl) hk rfl rfl rfl rfl Go.Proofs.Try.underlying61 (by kernel_rfl) rfl rfl (by kernel_rfl) hc1 ?_; clear hk; intro bx1 a w hk
    refine FW.l_makeMap (κ := Int) (ν := List UInt8) (D := .int .i64) (ek := Value.int .i64) (ev := FW.evS) hk rfl rfl FW.keyI64 ?_; clear hk; intro r1 a w hk
    replace hk := hk.nilRow 45 3 ApiFall.cells (fun _ => rfl)
    refine FW.lfun (y := .agg ([.lit (.slice (some ⟨bx1, 0, none⟩) (List.length (List.replicate (Int.toNat v0) ([] : List UInt8))) (Int.toNat v0))] ++ [.lit (.map (some r1))] ++ [.lit (.int .i64 0)] ++ [.lit (.slice none (List.length ([] : List ApiFall)) 0)] ++ [.lit (.bool false)])) hk rfl rfl rfl rfl (FW.f_buildN [3] hk (FW.holds_nil _) rfl rfl rfl) ?_; clear hk; intro a w hk
    refine FW.l_box (cs := [.lit (.slice (some ⟨bx1, 0, none⟩) (List.length (List.replicate (Int.toNat v0) ([] : List UInt8))) (Int.toNat v0))] ++ [.lit (.map (some r1))] ++ [.lit (.int .i64 0)] ++ [.lit (.slice none (List.length ([] : List ApiFall)) 0)] ++ [.lit (.bool false)]) hk rfl rfl rfl rfl rfl ?_; clear hk; intro bx2 a w hk
    refine FW.lfun (y := .lit (.pointer (some ⟨bx2, 0, none⟩))) hk rfl rfl rfl rfl (FW.f_assign hk (FW.holds_nil _) rfl) ?_; clear hk; intro a w hk
    refine FW.lend (hK4 _ _ ?_); clear hK4 K'
    refine FW.wseq ?_; intro K' hK5
    refine FW.wreg ?_; intro K' hK6
    refine FW.lfun (y := .lit (.pointer (some ⟨bx2, 0, none⟩))) hk rfl rfl rfl rfl (FW.f_move hk (FW.holds_nil _) rfl) ?_; clear hk; intro a w hk
    refine FW.lfun (y := .lit (.pointer (some ⟨bx2, 0, none⟩))) hk rfl rfl rfl rfl ((FW.f_pure (FW.p_nilCheck hk.kn (FW.holds_nil _) rfl))) ?_; clear hk; intro a w hk
    refine FW.lfun (y := .lit (.pointer (some ⟨bx2, 0, none⟩))) hk rfl rfl rfl rfl (FW.f_fieldPtr hk (FW.holds_nil _) rfl Go.Proofs.Try.underlying109 rfl (by kernel_rfl) rfl) ?_; clear hk; intro a w hk
    refine FW.lfun (y := .lit (.slice (some ⟨bx1, 0, none⟩) (List.length (List.replicate (Int.toNat v0) ([] : List UInt8))) (Int.toNat v0))) hk rfl rfl rfl rfl (FW.f_loadBlk1 hk (FW.holds_nil _) (j := 0) rfl rfl Go.Proofs.Try.underlying61 rfl rfl) ?_; clear hk; intro a w hk
    refine FW.lfun (y := .lit (.int .i64 (List.length (List.replicate (Int.toNat v0) ([] : List UInt8)) : Int))) hk rfl rfl rfl rfl ((FW.f_pure (FW.p_len Go.Proofs.Try.underlying61 hk.kn (FW.holds_nil _) rfl))) ?_; clear hk; intro a w hk
    refine FW.lfun (y := .lit (.int .i64 0)) hk rfl rfl rfl rfl (FW.f_move hk (FW.holds_nil _) rfl) ?_; clear hk; intro a w hk
    refine FW.lend (hK6 _ _ ?_); clear hK6 K'
    refine wp_block ?_
    refine FW.wloop (T := Nat × Int × Bool × List (List UInt8) × Int × Int × Option Addr × Nat) (fun x a w => match x with | (kl1, y4_2, y4_4, l1, v21, v22, xd1, xc1) => FW.S M w0 a w 34 [FW.blk bx2 109 ([.lit (.slice xd1 (List.length l1) xc1)] ++ [.lit (.map (some r1))] ++ [.lit (.int .i64 y4_2)] ++ [.lit (.slice none (List.length ([] : List ApiFall)) 0)] ++ [.lit (.bool y4_4)]), FW.orow none 0 45 3 ApiFall.cells ([] : List ApiFall), FW.mapI (.int .i64) (Value.int .i64) FW.evS r1 ([] : List (Int × (List UInt8))), FW.orow xd1 xc1 9 1 c_str l1] [(4, [], .lit (.pointer (some ⟨bx2, 0, none⟩))), (21, [], .lit (.int .i64 v21)), (22, [], .lit (.int .i64 v22))] ∧ dev_New.l1 K kl1 y4_2 y4_4 l1 v21 v22 = some r) (fun x => x.1) (K, 0, false, (List.replicate (Int.toNat v0) ([] : List UInt8)), (List.length (List.replicate (Int.toNat v0) ([] : List UInt8)) : Int), 0, (some ⟨bx1, 0, none⟩), (Int.toNat v0)) ⟨hk.sub ⟨rfl, rfl, rfl, trivial⟩, h⟩ ?_
    clear hk h
    rintro ⟨kl1, y4_2, y4_4, l1, v21, v22, xd1, xc1⟩ a w ⟨hk, h⟩ K' hK7
    cases kl1 with
    | zero => simp [dev_New.l1] at h
    | succ kl1 =>
    rw [dev_New.l1.eq_2] at h
    refine FW.wreg ?_; intro K' hK8
    refine FW.lfun (y := .lit (.bool (decide (v22 < v21)))) hk rfl rfl rfl rfl ((FW.f_pure (FW.p_lss hk.kn (FW.holds_nil _) rfl rfl))) ?_; clear hk; intro a w hk
    refine FW.lend (hK8 _ _ ?_); clear hK8 K'
    refine FW.wseq ?_; intro K' hK9
    refine FW.wcondF (b := (decide (v22 < v21))) hk h rfl (fun h hb => ?_) (fun h hb => ?_)
    · skip
      refine wp_skip ?_
      (repeat first | refine FW.then_normal ?_ | refine FW.block_normal ?_); refine hK9 _ _ ?_
      refine FW.wseq ?_; intro K' hK10
      refine wp_block ?_
      refine FW.wreg ?_; intro K' hK11
      refine FW.lfun (y := .lit (.int .i64 v22)) hk rfl rfl rfl rfl (FW.f_move hk (FW.holds_nil _) rfl) ?_; clear hk; intro a w hk
      refine FW.lfun (y := .lit (.int .i64 v22)) hk rfl rfl rfl rfl (FW.f_assign hk (FW.holds_nil _) rfl) ?_; clear hk; intro a w hk
      refine FW.lend (hK11 _ _ ?_); clear hK11 K'
      obtain ⟨t1, hr_t1, h⟩ := FW.bnd h
      obtain ⟨hc2, h⟩ := FW.chk h
      refine FW.wdrawE1 (.next [true, true, true, true, true, true, true, false] 7 [true, true, true, true, true, true, true, false] (.leaf [false, false, false, false, false, false, false, false])) [(25, [], .lit (.pointer (some ⟨bx2, 0, none⟩))), (26, [], .lit (.pointer (some ⟨bx2, 0, none⟩))), (27, [], .lit (.pointer (some ⟨bx2, 0, none⟩))), (28, [], .lit (.slice xd1 (List.length l1) xc1)), (29, [], .lit (.int .i64 v22)), (30, [], .lit (.string (FW.B t1))), (31, [], FW.elA xd1 1 v22), (34, [], .lit undef)] (by kernel_rfl) (by kernel_rfl) (by kernel_rfl) (by kernel_rfl) hk ?_; clear hk
      refine FW.gnext0 ?_ rfl rfl rfl ?_
      · skip
        refine FW.gfun (y := .lit (.pointer (some ⟨bx2, 0, none⟩))) rfl rfl rfl rfl (fun a w hk => FW.f_move hk (FW.holds_nil _) rfl) ?_
        refine FW.gfun (y := .lit (.pointer (some ⟨bx2, 0, none⟩))) rfl rfl rfl rfl (fun a w hk => (FW.f_pure (FW.p_nilCheck hk.kn (FW.holds_nil _) rfl))) ?_
        refine FW.gfun (y := .lit (.pointer (some ⟨bx2, 0, none⟩))) rfl rfl rfl rfl (fun a w hk => FW.f_fieldPtr hk (FW.holds_nil _) rfl Go.Proofs.Try.underlying109 rfl (by kernel_rfl) rfl) ?_
        refine FW.gfun (y := .lit (.slice xd1 (List.length l1) xc1)) rfl rfl rfl rfl (fun a w hk => FW.f_loadBlk1 hk (FW.holds_nil _) (j := 0) rfl rfl Go.Proofs.Try.underlying61 rfl rfl) ?_
        refine FW.gfun (y := .lit (.int .i64 v22)) rfl rfl rfl rfl (fun a w hk => FW.f_move hk (FW.holds_nil _) rfl) ?_
        refine FW.gfun (y := .lit (.string (FW.B t1))) rfl rfl rfl rfl (fun a w hk => FW.f_call hk (FW.holds_nil _) rfl rfl Go.Proofs.Try.func62 rfl (by kernel_rfl) (strings_Repeat.ok ([0] : List UInt8) 128 _ hr_t1)) ?_
        refine FW.gfun (y := FW.elA xd1 1 v22) rfl rfl rfl rfl (fun a w hk => FW.f_idxOwn (f := c_str) (l := l1) hk (FW.holds_nil _) (j := 3) rfl rfl (by first | rfl | simp only [List.length_set]) rfl Go.Proofs.Try.underlying61 (by kernel_rfl) hc2) ?_
        refine FW.gskip0 rfl ?_
        exact FW.gend
      · skip
        intro σD a w opsD QD hk hQ hX
        refine FW.l_storeOwn1 (f := c_str) (l := l1) (v := t1) (I' := [FW.blk bx2 109 ([.lit (.slice xd1 (List.length l1) xc1)] ++ [.lit (.map (some r1))] ++ [.lit (.int .i64 y4_2)] ++ [.lit (.slice none (List.length ([] : List ApiFall)) 0)] ++ [.lit (.bool y4_4)]), FW.orow none 0 45 3 ApiFall.cells ([] : List ApiFall), FW.mapI (.int .i64) (Value.int .i64) FW.evS r1 ([] : List (Int × (List UInt8))), FW.orow xd1 xc1 9 1 c_str (List.set l1 (Int.toNat v22) t1)]) (j := 3) hk rfl rfl hc2 rfl rfl rfl rfl (by kernel_rfl) rfl ?_; clear hk; intro w hk
        refine hQ _ a w ?_ hk; clear hk hQ hX
        refine ⟨[(25, [], .lit (.pointer (some ⟨bx2, 0, none⟩))), (26, [], .lit (.pointer (some ⟨bx2, 0, none⟩))), (27, [], .lit (.pointer (some ⟨bx2, 0, none⟩))), (28, [], .lit (.slice xd1 (List.length l1) xc1)), (29, [], .lit (.int .i64 v22)), (30, [], .lit (.string (FW.B t1))), (31, [], FW.elA xd1 1 v22), (34, [], .lit undef)], And.intro rfl (And.intro rfl (And.intro rfl (And.intro rfl (And.intro rfl (And.intro rfl (And.intro rfl (trivial))))))), rfl, ?_⟩
        refine FW.glast ?_ ?_
        · skip
          refine FW.gskip rfl rfl ?_
          refine FW.gskip rfl rfl ?_
          refine FW.gskip rfl rfl ?_
          refine FW.gskip rfl rfl ?_
          refine FW.gskip rfl rfl ?_
          refine FW.gskip rfl rfl ?_
          refine FW.gskip rfl rfl ?_
          refine FW.gskip0 rfl ?_
          exact FW.gend
        · skip
          intro a w hk; simp only [FW.stD, cond_true] at hk
          (repeat first | refine FW.then_normal ?_ | refine FW.block_normal ?_); refine hK10 _ _ ?_
          refine FW.wreg1 ?_
          refine FW.lfun (y := .lit (.int .i64 (IntKind.wrap .i64 (v22 + 1)))) hk rfl rfl rfl rfl ((FW.f_pure (FW.p_add hk.kn (FW.holds_nil _) rfl rfl))) ?_; clear hk; intro a w hk
          refine FW.lfun (y := .lit (.int .i64 (IntKind.wrap .i64 (v22 + 1)))) hk rfl rfl rfl rfl (FW.f_move hk (FW.holds_nil _) rfl) ?_; clear hk; intro a w hk
          refine wpList_nil ?_
          replace hk := FW.S.cast (I' := [FW.blk bx2 109 ([.lit (.slice xd1 (List.length (List.set l1 (Int.toNat v22) t1)) xc1)] ++ [.lit (.map (some r1))] ++ [.lit (.int .i64 y4_2)] ++ [.lit (.slice none (List.length ([] : List ApiFall)) 0)] ++ [.lit (.bool y4_4)]), FW.orow none 0 45 3 ApiFall.cells ([] : List ApiFall), FW.mapI (.int .i64) (Value.int .i64) FW.evS r1 ([] : List (Int × (List UInt8))), FW.orow xd1 xc1 9 1 c_str (List.set l1 (Int.toNat v22) t1)]) hk (by first | rfl | simp only [List.length_set]) rfl
          (repeat first | refine FW.then_normal ?_ | refine FW.block_normal ?_); exact hK7 (kl1, y4_2, y4_4, (List.set l1 (Int.toNat v22) t1), v21, (IntKind.wrap .i64 (v22 + 1)), xd1, xc1) _ _ (Nat.lt_succ_self _) ⟨hk.sub ⟨rfl, rfl, rfl, trivial⟩, h⟩
    · skip
      refine wp_exit ?_; (repeat first | refine FW.then_exit ?_ | refine FW.block_exit_ne rfl ?_); refine FW.block_exit ?_
      (repeat first | refine FW.then_normal ?_ | refine FW.block_normal ?_); refine hK5 _ _ ?_
      refine FW.wreg ?_; intro K' hK14
      refine FW.lfun (y := .lit (.pointer (some ⟨bx2, 0, none⟩))) hk rfl rfl rfl rfl (FW.f_move hk (FW.holds_nil _) rfl) ?_; clear hk; intro a w hk
      refine FW.lfun (y := .lit (.pointer (some ⟨bx2, 0, none⟩))) hk rfl rfl rfl rfl (FW.f_assign hk (FW.holds_nil _) rfl) ?_; clear hk; intro a w hk
      refine FW.lfun (y := .lit (.int .i64 0)) hk rfl rfl rfl rfl (FW.f_assign hk (FW.holds_nil _) rfl) ?_; clear hk; intro a w hk
      refine FW.lend (hK14 _ _ ?_); clear hK14 K'
      refine wp_ret ?_
      (repeat first | refine FW.then_ret ?_ | refine FW.block_ret ?_)
      obtain rfl := Option.some.inj h
      replace hk := FW.S.keep (I1 := [FW.blk bx2 109 ([.lit (.slice xd1 (List.length l1) xc1)] ++ [.lit (.map (some r1))] ++ [.lit (.int .i64 y4_2)] ++ [.lit (.slice none (List.length ([] : List ApiFall)) 0)] ++ [.lit (.bool y4_4)]), FW.orow xd1 xc1 9 1 c_str l1, FW.mapI (.int .i64) (Value.int .i64) FW.evS r1 ([] : List (Int × (List UInt8))), FW.orow none 0 45 3 ApiFall.cells ([] : List ApiFall)]) (I2 := []) (js := [1, 2, 3, 3]) hk rfl
      exact FW.fretH2 hk rfl (FW.rtmp hk rfl) (FW.rtmp hk rfl) ⟨bx2, xd1, xc1, r1, none, 0, rfl, rfl⟩
end Go.Proofs.Ytimaibcaehagjaa

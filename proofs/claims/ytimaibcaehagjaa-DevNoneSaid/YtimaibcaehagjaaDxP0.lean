/- Written by a program of this session (gen.py): the contracts of functions of the program. -/
import Derived.KernelRfl
import Derived.Test.YtimaibcaehagjaaProg
import Derived.Test.YtimaibcaehagjaaAvFun
import Derived.Test.YtimaibcaehagjaaAvMan
import Derived.Test.YtimaibcaehagjaaAvMore
import Derived.Test.YtimaibcaehagjaaAvDraw2
import Derived.Test.YtimaibcaehagjaaAvRow
import Derived.Test.YtimaibcaehagjaaHn
import Derived.Test.YtimaibcaehagjaaHg
import Derived.Test.YtimaibcaehagjaaHar
import Derived.Test.YtimaibcaehagjaaHc
import Derived.Test.YtimaibcaehagjaaFx
import Derived.Test.YtimaibcaehagjaaDxD
namespace Go.Proofs.Ytimaibcaehagjaa
set_option linter.unusedVariables false
set_option maxRecDepth 20000
set_option maxHeartbeats 10000000
theorem dev_Dev_Off.ok  (v0 : ODevDev) (r : Bool) (h : dev_Dev_Off.f v0 = some r) :
    ∀ (b0 : Nat) (xd0_0 : Option Addr) (xc0_0 : Nat) (xr0_1 : Nat) (xd0_3 : Option Addr) (xc0_3 : Nat), FW.OkH Go.Proofs.Try.prog 41 [.lit (.pointer (some ⟨b0, 0, none⟩))] (ODevDev.items b0 xd0_0 xc0_0 xr0_1 xd0_3 xc0_3 v0) (fun y I => y = .lit (.bool r) ∧ I = ODevDev.items b0 xd0_0 xc0_0 xr0_1 xd0_3 xc0_3 v0) := by
  intro b0 xd0_0 xc0_0 xr0_1 xd0_3 xc0_3
  refine FW.enterH (xs := [.lit (.pointer (some ⟨b0, 0, none⟩))]) Go.Proofs.Try.func41 rfl Go.Proofs.Try.ntmps41 rfl ?_
  intro M w0 a hk
  replace hk : FW.S M w0 a w0.toWorld 11 [FW.blk b0 109 ([.lit (.slice xd0_0 (List.length v0.sure) xc0_0)] ++ [.lit (.map (some xr0_1))] ++ [.lit (.int .i64 v0.steps)] ++ [.lit (.slice xd0_3 (List.length v0.falls) xc0_3)] ++ [.lit (.bool v0.off)]), FW.orow xd0_0 xc0_0 9 1 c_str v0.sure, FW.mapI (.int .i64) (Value.int .i64) FW.evS xr0_1 v0.cache, FW.orow xd0_3 xc0_3 45 3 ApiFall.cells v0.falls] [(0, [], .lit (.pointer (some ⟨b0, 0, none⟩)))] := hk
  unfold dev_Dev_Off.f at h
  refine FW.wreg ?_; intro K' hK1
  refine FW.lfun (y := .lit (.bool false)) hk rfl rfl rfl rfl (FW.f_assign hk (FW.holds_nil _) rfl) ?_; clear hk; intro a w hk
  refine FW.lend (hK1 _ _ ?_); clear hK1 K'
  refine FW.wreg ?_; intro K' hK2
  refine FW.lfun (y := .lit (.pointer (some ⟨b0, 0, none⟩))) hk rfl rfl rfl rfl (FW.f_move hk (FW.holds_nil _) rfl) ?_; clear hk; intro a w hk
  refine FW.lfun (y := .lit (.bool false)) hk rfl rfl rfl rfl ((FW.f_pure (FW.p_ptrEq Go.Proofs.Try.underlying46 hk.kn (FW.holds_nil _) rfl rfl rfl))) ?_; clear hk; intro a w hk
  refine FW.lfun (y := .lit (.bool false)) hk rfl rfl rfl rfl (FW.f_move hk (FW.holds_nil _) rfl) ?_; clear hk; intro a w hk
  refine FW.lfunG (y := .lit (.pointer (some ⟨b0, 0, none⟩))) hk rfl rfl rfl rfl rfl rfl rfl rfl (fun hc => FW.f_move hk hc rfl) ?_; clear hk; intro a w hk
  refine FW.lfunG (y := .lit (.pointer (some ⟨b0, 0, none⟩))) hk rfl rfl rfl rfl rfl rfl rfl rfl (fun hc => (FW.f_pure (FW.p_nilCheck hk.kn hc rfl))) ?_; clear hk; intro a w hk
  refine FW.lfunG (y := .lit (.pointer (some ⟨b0, 4, none⟩))) hk rfl rfl rfl rfl rfl rfl rfl rfl (fun hc => FW.f_fieldPtr hk hc rfl Go.Proofs.Try.underlying109 rfl (by kernel_rfl) rfl) ?_; clear hk; intro a w hk
  refine FW.lfunG (y := .lit (.bool v0.off)) hk rfl rfl rfl rfl rfl rfl rfl rfl (fun hc => FW.f_loadBlk1 hk hc (j := 0) rfl rfl Go.Proofs.Try.underlying4 rfl rfl) ?_; clear hk; intro a w hk
  refine FW.lfun (y := .lit (.bool v0.off)) hk rfl rfl rfl rfl ((FW.f_pure (FW.p_pickX hk.kn (FW.holds_nil _) rfl rfl))) ?_; clear hk; intro a w hk
  refine FW.lfun (y := .lit (.bool v0.off)) hk rfl rfl rfl rfl (FW.f_assign hk (FW.holds_nil _) rfl) ?_; clear hk; intro a w hk
  refine FW.lend (hK2 _ _ ?_); clear hK2 K'
  refine wp_ret ?_
  (repeat first | refine FW.then_ret ?_ | refine FW.block_ret ?_)
  obtain rfl := Option.some.inj h
  replace hk := FW.S.keep (I1 := [FW.blk b0 109 ([.lit (.slice xd0_0 (List.length v0.sure) xc0_0)] ++ [.lit (.map (some xr0_1))] ++ [.lit (.int .i64 v0.steps)] ++ [.lit (.slice xd0_3 (List.length v0.falls) xc0_3)] ++ [.lit (.bool v0.off)]), FW.orow xd0_0 xc0_0 9 1 c_str v0.sure, FW.mapI (.int .i64) (Value.int .i64) FW.evS xr0_1 v0.cache, FW.orow xd0_3 xc0_3 45 3 ApiFall.cells v0.falls]) (I2 := []) (js := [3, 3, 3, 3]) hk rfl
  exact FW.fretH1 hk rfl (FW.rtmp hk rfl) ⟨rfl, rfl⟩

theorem dev_Dev_Len.ok  (v0 : ODevDev) (r : Int) (h : dev_Dev_Len.f v0 = some r) :
    ∀ (b0 : Nat) (xd0_0 : Option Addr) (xc0_0 : Nat) (xr0_1 : Nat) (xd0_3 : Option Addr) (xc0_3 : Nat), FW.OkH Go.Proofs.Try.prog 42 [.lit (.pointer (some ⟨b0, 0, none⟩))] (ODevDev.items b0 xd0_0 xc0_0 xr0_1 xd0_3 xc0_3 v0) (fun y I => y = .lit (.int .i64 r) ∧ I = ODevDev.items b0 xd0_0 xc0_0 xr0_1 xd0_3 xc0_3 v0) := by
  intro b0 xd0_0 xc0_0 xr0_1 xd0_3 xc0_3
  refine FW.enterH (xs := [.lit (.pointer (some ⟨b0, 0, none⟩))]) Go.Proofs.Try.func42 rfl Go.Proofs.Try.ntmps42 rfl ?_
  intro M w0 a hk
  replace hk : FW.S M w0 a w0.toWorld 10 [FW.blk b0 109 ([.lit (.slice xd0_0 (List.length v0.sure) xc0_0)] ++ [.lit (.map (some xr0_1))] ++ [.lit (.int .i64 v0.steps)] ++ [.lit (.slice xd0_3 (List.length v0.falls) xc0_3)] ++ [.lit (.bool v0.off)]), FW.orow xd0_0 xc0_0 9 1 c_str v0.sure, FW.mapI (.int .i64) (Value.int .i64) FW.evS xr0_1 v0.cache, FW.orow xd0_3 xc0_3 45 3 ApiFall.cells v0.falls] [(0, [], .lit (.pointer (some ⟨b0, 0, none⟩)))] := hk
  unfold dev_Dev_Len.f at h
  refine FW.wreg ?_; intro K' hK1
  refine FW.lfun (y := .lit (.int .i64 0)) hk rfl rfl rfl rfl (FW.f_assign hk (FW.holds_nil _) rfl) ?_; clear hk; intro a w hk
  refine FW.lend (hK1 _ _ ?_); clear hK1 K'
  refine FW.wseq ?_; intro K' hK2
  refine FW.wreg ?_; intro K' hK3
  refine FW.lfun (y := .lit (.pointer (some ⟨b0, 0, none⟩))) hk rfl rfl rfl rfl (FW.f_move hk (FW.holds_nil _) rfl) ?_; clear hk; intro a w hk
  refine FW.lfun (y := .lit (.bool false)) hk rfl rfl rfl rfl ((FW.f_pure (FW.p_ptrEq Go.Proofs.Try.underlying46 hk.kn (FW.holds_nil _) rfl rfl rfl))) ?_; clear hk; intro a w hk
  refine FW.lend (hK3 _ _ ?_); clear hK3 K'
  refine FW.wcondX hk rfl ?_
  refine wp_skip ?_
  (repeat first | refine FW.then_normal ?_ | refine FW.block_normal ?_); refine hK2 _ _ ?_
  refine FW.wreg ?_; intro K' hK4
  refine FW.lfun (y := .lit (.pointer (some ⟨b0, 0, none⟩))) hk rfl rfl rfl rfl (FW.f_move hk (FW.holds_nil _) rfl) ?_; clear hk; intro a w hk
  refine FW.lfun (y := .lit (.pointer (some ⟨b0, 0, none⟩))) hk rfl rfl rfl rfl ((FW.f_pure (FW.p_nilCheck hk.kn (FW.holds_nil _) rfl))) ?_; clear hk; intro a w hk
  refine FW.lfun (y := .lit (.pointer (some ⟨b0, 0, none⟩))) hk rfl rfl rfl rfl (FW.f_fieldPtr hk (FW.holds_nil _) rfl Go.Proofs.Try.underlying109 rfl (by kernel_rfl) rfl) ?_; clear hk; intro a w hk
  refine FW.lfun (y := .lit (.slice xd0_0 (List.length v0.sure) xc0_0)) hk rfl rfl rfl rfl (FW.f_loadBlk1 hk (FW.holds_nil _) (j := 0) rfl rfl Go.Proofs.Try.underlying61 rfl rfl) ?_; clear hk; intro a w hk
  refine FW.lfun (y := .lit (.int .i64 (List.length v0.sure : Int))) hk rfl rfl rfl rfl ((FW.f_pure (FW.p_len Go.Proofs.Try.underlying61 hk.kn (FW.holds_nil _) rfl))) ?_; clear hk; intro a w hk
  refine FW.lfun (y := .lit (.int .i64 (List.length v0.sure : Int))) hk rfl rfl rfl rfl (FW.f_assign hk (FW.holds_nil _) rfl) ?_; clear hk; intro a w hk
  refine FW.lend (hK4 _ _ ?_); clear hK4 K'
  refine wp_ret ?_
  (repeat first | refine FW.then_ret ?_ | refine FW.block_ret ?_)
  obtain rfl := Option.some.inj h
  replace hk := FW.S.keep (I1 := [FW.blk b0 109 ([.lit (.slice xd0_0 (List.length v0.sure) xc0_0)] ++ [.lit (.map (some xr0_1))] ++ [.lit (.int .i64 v0.steps)] ++ [.lit (.slice xd0_3 (List.length v0.falls) xc0_3)] ++ [.lit (.bool v0.off)]), FW.orow xd0_0 xc0_0 9 1 c_str v0.sure, FW.mapI (.int .i64) (Value.int .i64) FW.evS xr0_1 v0.cache, FW.orow xd0_3 xc0_3 45 3 ApiFall.cells v0.falls]) (I2 := []) (js := [3, 3, 3, 3]) hk rfl
  exact FW.fretH1 hk rfl (FW.rtmp hk rfl) ⟨rfl, rfl⟩

theorem dev_Dev_Steps.ok  (v0 : ODevDev) (r : Int) (h : dev_Dev_Steps.f v0 = some r) :
    ∀ (b0 : Nat) (xd0_0 : Option Addr) (xc0_0 : Nat) (xr0_1 : Nat) (xd0_3 : Option Addr) (xc0_3 : Nat), FW.OkH Go.Proofs.Try.prog 43 [.lit (.pointer (some ⟨b0, 0, none⟩))] (ODevDev.items b0 xd0_0 xc0_0 xr0_1 xd0_3 xc0_3 v0) (fun y I => y = .lit (.int .i64 r) ∧ I = ODevDev.items b0 xd0_0 xc0_0 xr0_1 xd0_3 xc0_3 v0) := by
  intro b0 xd0_0 xc0_0 xr0_1 xd0_3 xc0_3
  refine FW.enterH (xs := [.lit (.pointer (some ⟨b0, 0, none⟩))]) Go.Proofs.Try.func43 rfl Go.Proofs.Try.ntmps43 rfl ?_
  intro M w0 a hk
  replace hk : FW.S M w0 a w0.toWorld 9 [FW.blk b0 109 ([.lit (.slice xd0_0 (List.length v0.sure) xc0_0)] ++ [.lit (.map (some xr0_1))] ++ [.lit (.int .i64 v0.steps)] ++ [.lit (.slice xd0_3 (List.length v0.falls) xc0_3)] ++ [.lit (.bool v0.off)]), FW.orow xd0_0 xc0_0 9 1 c_str v0.sure, FW.mapI (.int .i64) (Value.int .i64) FW.evS xr0_1 v0.cache, FW.orow xd0_3 xc0_3 45 3 ApiFall.cells v0.falls] [(0, [], .lit (.pointer (some ⟨b0, 0, none⟩)))] := hk
  unfold dev_Dev_Steps.f at h
  refine FW.wreg ?_; intro K' hK1
  refine FW.lfun (y := .lit (.int .i64 0)) hk rfl rfl rfl rfl (FW.f_assign hk (FW.holds_nil _) rfl) ?_; clear hk; intro a w hk
  refine FW.lend (hK1 _ _ ?_); clear hK1 K'
  refine FW.wseq ?_; intro K' hK2
  refine FW.wreg ?_; intro K' hK3
  refine FW.lfun (y := .lit (.pointer (some ⟨b0, 0, none⟩))) hk rfl rfl rfl rfl (FW.f_move hk (FW.holds_nil _) rfl) ?_; clear hk; intro a w hk
  refine FW.lfun (y := .lit (.bool false)) hk rfl rfl rfl rfl ((FW.f_pure (FW.p_ptrEq Go.Proofs.Try.underlying46 hk.kn (FW.holds_nil _) rfl rfl rfl))) ?_; clear hk; intro a w hk
  refine FW.lend (hK3 _ _ ?_); clear hK3 K'
  refine FW.wcondX hk rfl ?_
  refine wp_skip ?_
  (repeat first | refine FW.then_normal ?_ | refine FW.block_normal ?_); refine hK2 _ _ ?_
  refine FW.wreg ?_; intro K' hK4
  refine FW.lfun (y := .lit (.pointer (some ⟨b0, 0, none⟩))) hk rfl rfl rfl rfl (FW.f_move hk (FW.holds_nil _) rfl) ?_; clear hk; intro a w hk
  refine FW.lfun (y := .lit (.pointer (some ⟨b0, 0, none⟩))) hk rfl rfl rfl rfl ((FW.f_pure (FW.p_nilCheck hk.kn (FW.holds_nil _) rfl))) ?_; clear hk; intro a w hk
  refine FW.lfun (y := .lit (.pointer (some ⟨b0, 2, none⟩))) hk rfl rfl rfl rfl (FW.f_fieldPtr hk (FW.holds_nil _) rfl Go.Proofs.Try.underlying109 rfl (by kernel_rfl) rfl) ?_; clear hk; intro a w hk
  refine FW.lfun (y := .lit (.int .i64 v0.steps)) hk rfl rfl rfl rfl (FW.f_loadBlk1 hk (FW.holds_nil _) (j := 0) rfl rfl Go.Proofs.Try.underlying3 rfl rfl) ?_; clear hk; intro a w hk
  refine FW.lfun (y := .lit (.int .i64 v0.steps)) hk rfl rfl rfl rfl (FW.f_assign hk (FW.holds_nil _) rfl) ?_; clear hk; intro a w hk
  refine FW.lend (hK4 _ _ ?_); clear hK4 K'
  refine wp_ret ?_
  (repeat first | refine FW.then_ret ?_ | refine FW.block_ret ?_)
  obtain rfl := Option.some.inj h
  replace hk := FW.S.keep (I1 := [FW.blk b0 109 ([.lit (.slice xd0_0 (List.length v0.sure) xc0_0)] ++ [.lit (.map (some xr0_1))] ++ [.lit (.int .i64 v0.steps)] ++ [.lit (.slice xd0_3 (List.length v0.falls) xc0_3)] ++ [.lit (.bool v0.off)]), FW.orow xd0_0 xc0_0 9 1 c_str v0.sure, FW.mapI (.int .i64) (Value.int .i64) FW.evS xr0_1 v0.cache, FW.orow xd0_3 xc0_3 45 3 ApiFall.cells v0.falls]) (I2 := []) (js := [3, 3, 3, 3]) hk rfl
  exact FW.fretH1 hk rfl (FW.rtmp hk rfl) ⟨rfl, rfl⟩

theorem dev_Dev_Up.ok  (v0 : ODevDev) (r : Bool × ODevDev) (h : dev_Dev_Up.f v0 = some r) :
    ∀ (b0 : Nat) (xd0_0 : Option Addr) (xc0_0 : Nat) (xr0_1 : Nat) (xd0_3 : Option Addr) (xc0_3 : Nat), FW.OkH Go.Proofs.Try.prog 33 [.lit (.pointer (some ⟨b0, 0, none⟩))] (ODevDev.items b0 xd0_0 xc0_0 xr0_1 xd0_3 xc0_3 v0) (fun y I => ∃ (zxd0_0 : Option Addr) (zxc0_0 : Nat) (zxr0_1 : Nat) (zxd0_3 : Option Addr) (zxc0_3 : Nat), y = .lit (.bool r.1) ∧ I = ODevDev.items b0 zxd0_0 zxc0_0 zxr0_1 zxd0_3 zxc0_3 r.2) := by
  intro b0 xd0_0 xc0_0 xr0_1 xd0_3 xc0_3
  refine FW.enterH (xs := [.lit (.pointer (some ⟨b0, 0, none⟩))]) Go.Proofs.Try.func33 rfl Go.Proofs.Try.ntmps33 rfl ?_
  intro M w0 a hk
  replace hk : FW.S M w0 a w0.toWorld 15 [FW.blk b0 109 ([.lit (.slice xd0_0 (List.length v0.sure) xc0_0)] ++ [.lit (.map (some xr0_1))] ++ [.lit (.int .i64 v0.steps)] ++ [.lit (.slice xd0_3 (List.length v0.falls) xc0_3)] ++ [.lit (.bool v0.off)]), FW.orow xd0_0 xc0_0 9 1 c_str v0.sure, FW.mapI (.int .i64) (Value.int .i64) FW.evS xr0_1 v0.cache, FW.orow xd0_3 xc0_3 45 3 ApiFall.cells v0.falls] [(0, [], .lit (.pointer (some ⟨b0, 0, none⟩)))] := hk
  unfold dev_Dev_Up.f at h
  refine FW.wreg ?_; intro K' hK1
  refine FW.lfun (y := .lit (.bool false)) hk rfl rfl rfl rfl (FW.f_assign hk (FW.holds_nil _) rfl) ?_; clear hk; intro a w hk
  refine FW.lend (hK1 _ _ ?_); clear hK1 K'
  refine FW.wseq ?_; intro K' hK2
  refine FW.wreg ?_; intro K' hK3
  refine FW.lfun (y := .lit (.pointer (some ⟨b0, 0, none⟩))) hk rfl rfl rfl rfl (FW.f_move hk (FW.holds_nil _) rfl) ?_; clear hk; intro a w hk
  refine FW.lfun (y := .lit (.bool false)) hk rfl rfl rfl rfl ((FW.f_pure (FW.p_ptrEq Go.Proofs.Try.underlying46 hk.kn (FW.holds_nil _) rfl rfl rfl))) ?_; clear hk; intro a w hk
  refine FW.lfun (y := .lit (.bool false)) hk rfl rfl rfl rfl (FW.f_move hk (FW.holds_nil _) rfl) ?_; clear hk; intro a w hk
  refine FW.lfunG (y := .lit (.pointer (some ⟨b0, 0, none⟩))) hk rfl rfl rfl rfl rfl rfl rfl rfl (fun hc => FW.f_move hk hc rfl) ?_; clear hk; intro a w hk
  refine FW.lfunG (y := .lit (.pointer (some ⟨b0, 0, none⟩))) hk rfl rfl rfl rfl rfl rfl rfl rfl (fun hc => (FW.f_pure (FW.p_nilCheck hk.kn hc rfl))) ?_; clear hk; intro a w hk
  refine FW.lfunG (y := .lit (.pointer (some ⟨b0, 4, none⟩))) hk rfl rfl rfl rfl rfl rfl rfl rfl (fun hc => FW.f_fieldPtr hk hc rfl Go.Proofs.Try.underlying109 rfl (by kernel_rfl) rfl) ?_; clear hk; intro a w hk
  refine FW.lfunG (y := .lit (.bool v0.off)) hk rfl rfl rfl rfl rfl rfl rfl rfl (fun hc => FW.f_loadBlk1 hk hc (j := 0) rfl rfl Go.Proofs.Try.underlying4 rfl rfl) ?_; clear hk; intro a w hk
  refine FW.lfunG (y := .lit (.bool (!v0.off))) hk rfl rfl rfl rfl rfl rfl rfl rfl (fun hc => (FW.f_pure (FW.p_not hk.kn hc rfl))) ?_; clear hk; intro a w hk
  refine FW.lfun (y := .lit (.bool (!v0.off))) hk rfl rfl rfl rfl ((FW.f_pure (FW.p_pickX hk.kn (FW.holds_nil _) rfl rfl))) ?_; clear hk; intro a w hk
  refine FW.lend (hK3 _ _ ?_); clear hK3 K'
  refine FW.wcondF (b := (!v0.off)) hk h rfl (fun h hb => ?_) (fun h hb => ?_)
  · skip
    refine FW.wreg ?_; intro K' hK4
    refine FW.lfun (y := .lit (.bool false)) hk rfl rfl rfl rfl (FW.f_assign hk (FW.holds_nil _) rfl) ?_; clear hk; intro a w hk
    refine FW.lend (hK4 _ _ ?_); clear hK4 K'
    refine wp_ret ?_
    (repeat first | refine FW.then_ret ?_ | refine FW.block_ret ?_)
    obtain rfl := Option.some.inj h
    replace hk := FW.S.keep (I1 := [FW.blk b0 109 ([.lit (.slice xd0_0 (List.length v0.sure) xc0_0)] ++ [.lit (.map (some xr0_1))] ++ [.lit (.int .i64 v0.steps)] ++ [.lit (.slice xd0_3 (List.length v0.falls) xc0_3)] ++ [.lit (.bool v0.off)]), FW.orow xd0_0 xc0_0 9 1 c_str v0.sure, FW.mapI (.int .i64) (Value.int .i64) FW.evS xr0_1 v0.cache, FW.orow xd0_3 xc0_3 45 3 ApiFall.cells v0.falls]) (I2 := []) (js := [3, 3, 3, 3]) hk rfl
    exact FW.fretH1 hk rfl (FW.rtmp hk rfl) ⟨xd0_0, xc0_0, xr0_1, xd0_3, xc0_3, rfl, rfl⟩
  · skip
    refine wp_skip ?_
    (repeat first | refine FW.then_normal ?_ | refine FW.block_normal ?_); refine hK2 _ _ ?_
    refine FW.wreg ?_; intro K' hK5
    refine FW.lfun (y := .lit (.pointer (some ⟨b0, 0, none⟩))) hk rfl rfl rfl rfl (FW.f_move hk (FW.holds_nil _) rfl) ?_; clear hk; intro a w hk
    refine FW.lfun (y := .lit (.pointer (some ⟨b0, 0, none⟩))) hk rfl rfl rfl rfl ((FW.f_pure (FW.p_nilCheck hk.kn (FW.holds_nil _) rfl))) ?_; clear hk; intro a w hk
    refine FW.lfun (y := .lit (.pointer (some ⟨b0, 4, none⟩))) hk rfl rfl rfl rfl (FW.f_fieldPtr hk (FW.holds_nil _) rfl Go.Proofs.Try.underlying109 rfl (by kernel_rfl) rfl) ?_; clear hk; intro a w hk
    refine FW.l_store (I' := [FW.blk b0 109 ([.lit (.slice xd0_0 (List.length v0.sure) xc0_0)] ++ [.lit (.map (some xr0_1))] ++ [.lit (.int .i64 v0.steps)] ++ [.lit (.slice xd0_3 (List.length v0.falls) xc0_3)] ++ [.lit (.bool false)]), FW.orow xd0_0 xc0_0 9 1 c_str v0.sure, FW.mapI (.int .i64) (Value.int .i64) FW.evS xr0_1 v0.cache, FW.orow xd0_3 xc0_3 45 3 ApiFall.cells v0.falls]) (cs' := [.lit (.slice xd0_0 (List.length v0.sure) xc0_0)] ++ [.lit (.map (some xr0_1))] ++ [.lit (.int .i64 v0.steps)] ++ [.lit (.slice xd0_3 (List.length v0.falls) xc0_3)] ++ [.lit (.bool false)]) (j := 0) hk rfl rfl rfl rfl rfl (by kernel_rfl) rfl rfl ?_; clear hk; intro w hk
    refine FW.lend (hK5 _ _ ?_); clear hK5 K'
    refine FW.wreg ?_; intro K' hK6
    refine FW.lfun (y := .lit (.bool true)) hk rfl rfl rfl rfl (FW.f_assign hk (FW.holds_nil _) rfl) ?_; clear hk; intro a w hk
    refine FW.lend (hK6 _ _ ?_); clear hK6 K'
    refine wp_ret ?_
    (repeat first | refine FW.then_ret ?_ | refine FW.block_ret ?_)
    obtain rfl := Option.some.inj h
    replace hk := FW.S.keep (I1 := [FW.blk b0 109 ([.lit (.slice xd0_0 (List.length v0.sure) xc0_0)] ++ [.lit (.map (some xr0_1))] ++ [.lit (.int .i64 v0.steps)] ++ [.lit (.slice xd0_3 (List.length v0.falls) xc0_3)] ++ [.lit (.bool false)]), FW.orow xd0_0 xc0_0 9 1 c_str v0.sure, FW.mapI (.int .i64) (Value.int .i64) FW.evS xr0_1 v0.cache, FW.orow xd0_3 xc0_3 45 3 ApiFall.cells v0.falls]) (I2 := []) (js := [3, 3, 3, 3]) hk rfl
    exact FW.fretH1 hk rfl (FW.rtmp hk rfl) ⟨xd0_0, xc0_0, xr0_1, xd0_3, xc0_3, rfl, rfl⟩

theorem dev_Dev_Loose.ok  (v0 : ODevDev) (r : Int) (h : dev_Dev_Loose.f v0 = some r) :
    ∀ (b0 : Nat) (xd0_0 : Option Addr) (xc0_0 : Nat) (xr0_1 : Nat) (xd0_3 : Option Addr) (xc0_3 : Nat), FW.OkH Go.Proofs.Try.prog 35 [.lit (.pointer (some ⟨b0, 0, none⟩))] (ODevDev.items b0 xd0_0 xc0_0 xr0_1 xd0_3 xc0_3 v0) (fun y I => y = .lit (.int .i64 r) ∧ I = ODevDev.items b0 xd0_0 xc0_0 xr0_1 xd0_3 xc0_3 v0) := by
  intro b0 xd0_0 xc0_0 xr0_1 xd0_3 xc0_3
  refine FW.enterH (xs := [.lit (.pointer (some ⟨b0, 0, none⟩))]) Go.Proofs.Try.func35 rfl Go.Proofs.Try.ntmps35 rfl ?_
  intro M w0 a hk
  replace hk : FW.S M w0 a w0.toWorld 10 [FW.blk b0 109 ([.lit (.slice xd0_0 (List.length v0.sure) xc0_0)] ++ [.lit (.map (some xr0_1))] ++ [.lit (.int .i64 v0.steps)] ++ [.lit (.slice xd0_3 (List.length v0.falls) xc0_3)] ++ [.lit (.bool v0.off)]), FW.orow xd0_0 xc0_0 9 1 c_str v0.sure, FW.mapI (.int .i64) (Value.int .i64) FW.evS xr0_1 v0.cache, FW.orow xd0_3 xc0_3 45 3 ApiFall.cells v0.falls] [(0, [], .lit (.pointer (some ⟨b0, 0, none⟩)))] := hk
  unfold dev_Dev_Loose.f at h
  refine FW.wreg ?_; intro K' hK1
  refine FW.lfun (y := .lit (.int .i64 0)) hk rfl rfl rfl rfl (FW.f_assign hk (FW.holds_nil _) rfl) ?_; clear hk; intro a w hk
  refine FW.lend (hK1 _ _ ?_); clear hK1 K'
  refine FW.wseq ?_; intro K' hK2
  refine FW.wreg ?_; intro K' hK3
  refine FW.lfun (y := .lit (.pointer (some ⟨b0, 0, none⟩))) hk rfl rfl rfl rfl (FW.f_move hk (FW.holds_nil _) rfl) ?_; clear hk; intro a w hk
  refine FW.lfun (y := .lit (.bool false)) hk rfl rfl rfl rfl ((FW.f_pure (FW.p_ptrEq Go.Proofs.Try.underlying46 hk.kn (FW.holds_nil _) rfl rfl rfl))) ?_; clear hk; intro a w hk
  refine FW.lend (hK3 _ _ ?_); clear hK3 K'
  refine FW.wcondX hk rfl ?_
  refine wp_skip ?_
  (repeat first | refine FW.then_normal ?_ | refine FW.block_normal ?_); refine hK2 _ _ ?_
  refine FW.wreg ?_; intro K' hK4
  refine FW.lfun (y := .lit (.pointer (some ⟨b0, 0, none⟩))) hk rfl rfl rfl rfl (FW.f_move hk (FW.holds_nil _) rfl) ?_; clear hk; intro a w hk
  refine FW.lfun (y := .lit (.pointer (some ⟨b0, 0, none⟩))) hk rfl rfl rfl rfl ((FW.f_pure (FW.p_nilCheck hk.kn (FW.holds_nil _) rfl))) ?_; clear hk; intro a w hk
  refine FW.lfun (y := .lit (.pointer (some ⟨b0, 1, none⟩))) hk rfl rfl rfl rfl (FW.f_fieldPtr hk (FW.holds_nil _) rfl Go.Proofs.Try.underlying109 rfl (by kernel_rfl) rfl) ?_; clear hk; intro a w hk
  refine FW.lfun (y := .lit (.map (some xr0_1))) hk rfl rfl rfl rfl (FW.f_loadBlk1 hk (FW.holds_nil _) (j := 0) rfl rfl Go.Proofs.Try.underlying107 rfl rfl) ?_; clear hk; intro a w hk
  refine FW.lfun (y := .lit (.int .i64 (List.length v0.cache : Int))) hk rfl rfl rfl rfl (FW.f_lenMap (ev := FW.evS) hk (FW.holds_nil _) (j := 2) rfl rfl Go.Proofs.Try.underlying107) ?_; clear hk; intro a w hk
  refine FW.lfun (y := .lit (.int .i64 (List.length v0.cache : Int))) hk rfl rfl rfl rfl (FW.f_assign hk (FW.holds_nil _) rfl) ?_; clear hk; intro a w hk
  refine FW.lend (hK4 _ _ ?_); clear hK4 K'
  refine wp_ret ?_
  (repeat first | refine FW.then_ret ?_ | refine FW.block_ret ?_)
  obtain rfl := Option.some.inj h
  replace hk := FW.S.keep (I1 := [FW.blk b0 109 ([.lit (.slice xd0_0 (List.length v0.sure) xc0_0)] ++ [.lit (.map (some xr0_1))] ++ [.lit (.int .i64 v0.steps)] ++ [.lit (.slice xd0_3 (List.length v0.falls) xc0_3)] ++ [.lit (.bool v0.off)]), FW.orow xd0_0 xc0_0 9 1 c_str v0.sure, FW.mapI (.int .i64) (Value.int .i64) FW.evS xr0_1 v0.cache, FW.orow xd0_3 xc0_3 45 3 ApiFall.cells v0.falls]) (I2 := []) (js := [3, 3, 3, 3]) hk rfl
  exact FW.fretH1 hk rfl (FW.rtmp hk rfl) ⟨rfl, rfl⟩

theorem dev_Dev_Read.ok  (v0 : ODevDev) (v1 : Int) (r : List UInt8 × Int) (h : dev_Dev_Read.f v0 v1 = some r) :
    ∀ (b0 : Nat) (xd0_0 : Option Addr) (xc0_0 : Nat) (xr0_1 : Nat) (xd0_3 : Option Addr) (xc0_3 : Nat), FW.OkH Go.Proofs.Try.prog 34 [.lit (.pointer (some ⟨b0, 0, none⟩)), .lit (.int .i64 v1)] (ODevDev.items b0 xd0_0 xc0_0 xr0_1 xd0_3 xc0_3 v0) (fun y I => y = .tup [.lit (.string (FW.B r.1)), .lit (.int .i64 r.2)] ∧ I = ODevDev.items b0 xd0_0 xc0_0 xr0_1 xd0_3 xc0_3 v0) := by
  intro b0 xd0_0 xc0_0 xr0_1 xd0_3 xc0_3
  refine FW.enterH (xs := [.lit (.pointer (some ⟨b0, 0, none⟩)), .lit (.int .i64 v1)]) Go.Proofs.Try.func34 rfl Go.Proofs.Try.ntmps34 rfl ?_
  intro M w0 a hk
  replace hk : FW.S M w0 a w0.toWorld 41 [FW.blk b0 109 ([.lit (.slice xd0_0 (List.length v0.sure) xc0_0)] ++ [.lit (.map (some xr0_1))] ++ [.lit (.int .i64 v0.steps)] ++ [.lit (.slice xd0_3 (List.length v0.falls) xc0_3)] ++ [.lit (.bool v0.off)]), FW.orow xd0_0 xc0_0 9 1 c_str v0.sure, FW.mapI (.int .i64) (Value.int .i64) FW.evS xr0_1 v0.cache, FW.orow xd0_3 xc0_3 45 3 ApiFall.cells v0.falls] [(0, [], .lit (.pointer (some ⟨b0, 0, none⟩))), (1, [], .lit (.int .i64 v1))] := hk
  unfold dev_Dev_Read.f at h
  refine FW.wreg ?_; intro K' hK1
  refine FW.lfun (y := .lit (.string (FW.B ([] : List UInt8)))) hk rfl rfl rfl rfl (FW.f_assign hk (FW.holds_nil _) rfl) ?_; clear hk; intro a w hk
  refine FW.lfun (y := .lit (.int .i64 0)) hk rfl rfl rfl rfl (FW.f_assign hk (FW.holds_nil _) rfl) ?_; clear hk; intro a w hk
  refine FW.lend (hK1 _ _ ?_); clear hK1 K'
  refine FW.wseq ?_; intro K' hK2
  refine wp_block ?_
  refine FW.wreg ?_; intro K' hK3
  refine FW.lfun (y := .lit (.pointer (some ⟨b0, 0, none⟩))) hk rfl rfl rfl rfl (FW.f_move hk (FW.holds_nil _) rfl) ?_; clear hk; intro a w hk
  obtain ⟨t1, hr_t1, h⟩ := FW.bnd h
  refine FW.l_callH (I1 := (ODevDev.items b0 xd0_0 xc0_0 xr0_1 xd0_3 xc0_3 v0)) (I2 := []) (js := [3, 3, 3, 3]) hk rfl rfl rfl rfl rfl Go.Proofs.Try.func41 rfl (by kernel_rfl) (dev_Dev_Off.ok v0 _ hr_t1 b0 xd0_0 xc0_0 xr0_1 xd0_3 xc0_3) ?_; clear hk
  rintro _ _ ⟨rfl, rfl⟩ a w hk
  refine FW.lfun (y := .lit (.bool t1)) hk rfl rfl rfl rfl (FW.f_assign hk (FW.holds_nil _) rfl) ?_; clear hk; intro a w hk
  refine FW.lend (hK3 _ _ ?_); clear hK3 K'
  refine FW.wcondF (b := t1) hk h rfl (fun h hb => ?_) (fun h hb => ?_)
  · skip
    refine FW.wreg ?_; intro K' hK4
    refine FW.lfun (y := .lit (.string (FW.B ([] : List UInt8)))) hk rfl rfl rfl rfl (FW.f_assign hk (FW.holds_nil _) rfl) ?_; clear hk; intro a w hk
    refine FW.lfun (y := .lit (.int .i64 7)) hk rfl rfl rfl rfl (FW.f_assign hk (FW.holds_nil _) rfl) ?_; clear hk; intro a w hk
    refine FW.lend (hK4 _ _ ?_); clear hK4 K'
    refine wp_ret ?_
    (repeat first | refine FW.then_ret ?_ | refine FW.block_ret ?_)
    obtain rfl := Option.some.inj h
    replace hk := FW.S.keep (I1 := [FW.blk b0 109 ([.lit (.slice xd0_0 (List.length v0.sure) xc0_0)] ++ [.lit (.map (some xr0_1))] ++ [.lit (.int .i64 v0.steps)] ++ [.lit (.slice xd0_3 (List.length v0.falls) xc0_3)] ++ [.lit (.bool v0.off)]), FW.orow xd0_0 xc0_0 9 1 c_str v0.sure, FW.mapI (.int .i64) (Value.int .i64) FW.evS xr0_1 v0.cache, FW.orow xd0_3 xc0_3 45 3 ApiFall.cells v0.falls]) (I2 := []) (js := [3, 3, 3, 3]) hk rfl
    exact FW.fretH2 hk rfl (FW.rtmp hk rfl) (FW.rtmp hk rfl) ⟨rfl, rfl⟩
  · skip
    refine FW.wreg ?_; intro K' hK5
    refine FW.lfun (y := .lit (.int .i64 v1)) hk rfl rfl rfl rfl (FW.f_move hk (FW.holds_nil _) rfl) ?_; clear hk; intro a w hk
    refine FW.lfun (y := .lit (.bool (decide (v1 < 0)))) hk rfl rfl rfl rfl ((FW.f_pure (FW.p_lss hk.kn (FW.holds_nil _) rfl rfl))) ?_; clear hk; intro a w hk
    refine FW.lfun (y := .lit (.bool (decide (v1 < 0)))) hk rfl rfl rfl rfl (FW.f_move hk (FW.holds_nil _) rfl) ?_; clear hk; intro a w hk
    refine FW.lfunG (y := .lit (.int .i64 v1)) hk rfl rfl rfl rfl rfl rfl rfl rfl (fun hc => FW.f_move hk hc rfl) ?_; clear hk; intro a w hk
    refine FW.lfunG (y := .lit (.pointer (some ⟨b0, 0, none⟩))) hk rfl rfl rfl rfl rfl rfl rfl rfl (fun hc => FW.f_move hk hc rfl) ?_; clear hk; intro a w hk
    refine FW.lfunG (y := .lit (.pointer (some ⟨b0, 0, none⟩))) hk rfl rfl rfl rfl rfl rfl rfl rfl (fun hc => (FW.f_pure (FW.p_nilCheck hk.kn hc rfl))) ?_; clear hk; intro a w hk
    refine FW.lfunG (y := .lit (.pointer (some ⟨b0, 0, none⟩))) hk rfl rfl rfl rfl rfl rfl rfl rfl (fun hc => FW.f_fieldPtr hk hc rfl Go.Proofs.Try.underlying109 rfl (by kernel_rfl) rfl) ?_; clear hk; intro a w hk
    refine FW.lfunG (y := .lit (.slice xd0_0 (List.length v0.sure) xc0_0)) hk rfl rfl rfl rfl rfl rfl rfl rfl (fun hc => FW.f_loadBlk1 hk hc (j := 0) rfl rfl Go.Proofs.Try.underlying61 rfl rfl) ?_; clear hk; intro a w hk
    refine FW.lfunG (y := .lit (.int .i64 (List.length v0.sure : Int))) hk rfl rfl rfl rfl rfl rfl rfl rfl (fun hc => (FW.f_pure (FW.p_len Go.Proofs.Try.underlying61 hk.kn hc rfl))) ?_; clear hk; intro a w hk
    refine FW.lfunG (y := .lit (.bool (decide ((List.length v0.sure : Int) ≤ v1)))) hk rfl rfl rfl rfl rfl rfl rfl rfl (fun hc => (FW.f_pure (FW.p_geq hk.kn hc rfl rfl))) ?_; clear hk; intro a w hk
    refine FW.lfun (y := .lit (.bool ((decide (v1 < 0)) || (decide ((List.length v0.sure : Int) ≤ v1))))) hk rfl rfl rfl rfl ((FW.f_pure (FW.p_pick_or hk.kn (FW.holds_nil _) rfl rfl))) ?_; clear hk; intro a w hk
    refine FW.lfun (y := .lit (.bool ((decide (v1 < 0)) || (decide ((List.length v0.sure : Int) ≤ v1))))) hk rfl rfl rfl rfl (FW.f_assign hk (FW.holds_nil _) rfl) ?_; clear hk; intro a w hk
    refine FW.lend (hK5 _ _ ?_); clear hK5 K'
    refine FW.wcondF (b := ((decide (v1 < 0)) || (decide ((List.length v0.sure : Int) ≤ v1)))) hk h rfl (fun h hb => ?_) (fun h hb => ?_)
    · skip
      refine FW.wreg ?_; intro K' hK6
      refine FW.lfun (y := .lit (.string (FW.B ([] : List UInt8)))) hk rfl rfl rfl rfl (FW.f_assign hk (FW.holds_nil _) rfl) ?_; clear hk; intro a w hk
      refine FW.lfun (y := .lit (.int .i64 1)) hk rfl rfl rfl rfl (FW.f_assign hk (FW.holds_nil _) rfl) ?_; clear hk; intro a w hk
      refine FW.lend (hK6 _ _ ?_); clear hK6 K'
      refine wp_ret ?_
      (repeat first | refine FW.then_ret ?_ | refine FW.block_ret ?_)
      obtain rfl := Option.some.inj h
      replace hk := FW.S.keep (I1 := [FW.blk b0 109 ([.lit (.slice xd0_0 (List.length v0.sure) xc0_0)] ++ [.lit (.map (some xr0_1))] ++ [.lit (.int .i64 v0.steps)] ++ [.lit (.slice xd0_3 (List.length v0.falls) xc0_3)] ++ [.lit (.bool v0.off)]), FW.orow xd0_0 xc0_0 9 1 c_str v0.sure, FW.mapI (.int .i64) (Value.int .i64) FW.evS xr0_1 v0.cache, FW.orow xd0_3 xc0_3 45 3 ApiFall.cells v0.falls]) (I2 := []) (js := [3, 3, 3, 3]) hk rfl
      exact FW.fretH2 hk rfl (FW.rtmp hk rfl) (FW.rtmp hk rfl) ⟨rfl, rfl⟩
    · skip
      refine wp_skip ?_
      (repeat first | refine FW.then_normal ?_ | refine FW.block_normal ?_); refine hK2 _ _ ?_
      refine FW.wseq ?_; intro K' hK7
      refine FW.wreg ?_; intro K' hK8
      refine FW.lfun (y := .lit (.pointer (some ⟨b0, 0, none⟩))) hk rfl rfl rfl rfl (FW.f_move hk (FW.holds_nil _) rfl) ?_; clear hk; intro a w hk
      refine FW.lfun (y := .lit (.pointer (some ⟨b0, 0, none⟩))) hk rfl rfl rfl rfl ((FW.f_pure (FW.p_nilCheck hk.kn (FW.holds_nil _) rfl))) ?_; clear hk; intro a w hk
      refine FW.lfun (y := .lit (.pointer (some ⟨b0, 1, none⟩))) hk rfl rfl rfl rfl (FW.f_fieldPtr hk (FW.holds_nil _) rfl Go.Proofs.Try.underlying109 rfl (by kernel_rfl) rfl) ?_; clear hk; intro a w hk
      refine FW.lfun (y := .lit (.map (some xr0_1))) hk rfl rfl rfl rfl (FW.f_loadBlk1 hk (FW.holds_nil _) (j := 0) rfl rfl Go.Proofs.Try.underlying107 rfl rfl) ?_; clear hk; intro a w hk
      refine FW.lfun (y := .lit (.int .i64 v1)) hk rfl rfl rfl rfl (FW.f_move hk (FW.holds_nil _) rfl) ?_; clear hk; intro a w hk
      refine FW.lfun (y := .tup [.lit (.string (FW.B ((FW.mget v0.cache v1).getD ([] : List UInt8)))), .lit (.bool ((FW.mget v0.cache v1).isSome))]) hk rfl rfl rfl rfl (FW.f_lookup2 (z := ([] : List UInt8)) (ev := FW.evS) hk (FW.holds_nil _) (j := 2) rfl rfl rfl Go.Proofs.Try.underlying107 Go.Proofs.Try.underlying3 (by kernel_rfl)) ?_; clear hk; intro a w hk
      refine FW.lfun (y := .tup [.lit (.string (FW.B ((FW.mget v0.cache v1).getD ([] : List UInt8)))), .lit (.bool ((FW.mget v0.cache v1).isSome))]) hk rfl rfl rfl rfl (FW.f_move hk (FW.holds_nil _) rfl) ?_; clear hk; intro a w hk
      refine FW.lfun (y := .lit (.string (FW.B ((FW.mget v0.cache v1).getD ([] : List UInt8))))) hk rfl rfl rfl rfl (FW.f_extract hk (FW.holds_nil _) rfl rfl) ?_; clear hk; intro a w hk
      refine FW.lfun (y := .lit (.bool ((FW.mget v0.cache v1).isSome))) hk rfl rfl rfl rfl (FW.f_extract hk (FW.holds_nil _) rfl rfl) ?_; clear hk; intro a w hk
      refine FW.lfun (y := .lit (.string (FW.B ((FW.mget v0.cache v1).getD ([] : List UInt8))))) hk rfl rfl rfl rfl (FW.f_assign hk (FW.holds_nil _) rfl) ?_; clear hk; intro a w hk
      refine FW.lfun (y := .lit (.bool ((FW.mget v0.cache v1).isSome))) hk rfl rfl rfl rfl (FW.f_assign hk (FW.holds_nil _) rfl) ?_; clear hk; intro a w hk
      refine FW.lend (hK8 _ _ ?_); clear hK8 K'
      refine FW.wreg ?_; intro K' hK9
      refine FW.lfun (y := .lit (.bool ((FW.mget v0.cache v1).isSome))) hk rfl rfl rfl rfl (FW.f_move hk (FW.holds_nil _) rfl) ?_; clear hk; intro a w hk
      refine FW.lend (hK9 _ _ ?_); clear hK9 K'
      refine FW.wcondF (b := (FW.mget v0.cache v1).isSome) hk h rfl (fun h hb => ?_) (fun h hb => ?_)
      · skip
        refine FW.wreg ?_; intro K' hK10
        refine FW.lfun (y := .lit (.string (FW.B ((FW.mget v0.cache v1).getD ([] : List UInt8))))) hk rfl rfl rfl rfl (FW.f_move hk (FW.holds_nil _) rfl) ?_; clear hk; intro a w hk
        refine FW.lfun (y := .lit (.string (FW.B ((FW.mget v0.cache v1).getD ([] : List UInt8))))) hk rfl rfl rfl rfl (FW.f_assign hk (FW.holds_nil _) rfl) ?_; clear hk; intro a w hk
        refine FW.lfun (y := .lit (.int .i64 0)) hk rfl rfl rfl rfl (FW.f_assign hk (FW.holds_nil _) rfl) ?_; clear hk; intro a w hk
        refine FW.lend (hK10 _ _ ?_); clear hK10 K'
        refine wp_ret ?_
        (repeat first | refine FW.then_ret ?_ | refine FW.block_ret ?_)
        obtain rfl := Option.some.inj h
        replace hk := FW.S.keep (I1 := [FW.blk b0 109 ([.lit (.slice xd0_0 (List.length v0.sure) xc0_0)] ++ [.lit (.map (some xr0_1))] ++ [.lit (.int .i64 v0.steps)] ++ [.lit (.slice xd0_3 (List.length v0.falls) xc0_3)] ++ [.lit (.bool v0.off)]), FW.orow xd0_0 xc0_0 9 1 c_str v0.sure, FW.mapI (.int .i64) (Value.int .i64) FW.evS xr0_1 v0.cache, FW.orow xd0_3 xc0_3 45 3 ApiFall.cells v0.falls]) (I2 := []) (js := [3, 3, 3, 3]) hk rfl
        exact FW.fretH2 hk rfl (FW.rtmp hk rfl) (FW.rtmp hk rfl) ⟨rfl, rfl⟩
      · skip
        refine wp_skip ?_
        (repeat first | refine FW.then_normal ?_ | refine FW.block_normal ?_); refine hK7 _ _ ?_
        refine FW.wreg ?_; intro K' hK11
        refine FW.lfun (y := .lit (.pointer (some ⟨b0, 0, none⟩))) hk rfl rfl rfl rfl (FW.f_move hk (FW.holds_nil _) rfl) ?_; clear hk; intro a w hk
        refine FW.lfun (y := .lit (.pointer (some ⟨b0, 0, none⟩))) hk rfl rfl rfl rfl ((FW.f_pure (FW.p_nilCheck hk.kn (FW.holds_nil _) rfl))) ?_; clear hk; intro a w hk
        refine FW.lfun (y := .lit (.pointer (some ⟨b0, 0, none⟩))) hk rfl rfl rfl rfl (FW.f_fieldPtr hk (FW.holds_nil _) rfl Go.Proofs.Try.underlying109 rfl (by kernel_rfl) rfl) ?_; clear hk; intro a w hk
        refine FW.lfun (y := .lit (.slice xd0_0 (List.length v0.sure) xc0_0)) hk rfl rfl rfl rfl (FW.f_loadBlk1 hk (FW.holds_nil _) (j := 0) rfl rfl Go.Proofs.Try.underlying61 rfl rfl) ?_; clear hk; intro a w hk
        refine FW.lfun (y := .lit (.int .i64 v1)) hk rfl rfl rfl rfl (FW.f_move hk (FW.holds_nil _) rfl) ?_; clear hk; intro a w hk
        obtain ⟨hc1, h⟩ := FW.chk h
        refine FW.lfun (y := FW.elA xd0_0 1 v1) hk rfl rfl rfl rfl (FW.f_idxOwn (f := c_str) (l := v0.sure) hk (FW.holds_nil _) (j := 1) rfl rfl (by first | rfl | simp only [List.length_set]) rfl Go.Proofs.Try.underlying61 (by kernel_rfl) hc1) ?_; clear hk; intro a w hk
        refine FW.lfun (y := .lit (.string (FW.B (List.getD v0.sure (Int.toNat v1) default)))) hk rfl rfl rfl rfl (FW.f_loadOwn1 (f := c_str) (l := v0.sure) hk (FW.holds_nil _) (j := 1) rfl rfl hc1 rfl Go.Proofs.Try.underlying9 rfl) ?_; clear hk; intro a w hk
        refine FW.lfun (y := .lit (.string (FW.B (List.getD v0.sure (Int.toNat v1) default)))) hk rfl rfl rfl rfl (FW.f_assign hk (FW.holds_nil _) rfl) ?_; clear hk; intro a w hk
        refine FW.lfun (y := .lit (.int .i64 0)) hk rfl rfl rfl rfl (FW.f_assign hk (FW.holds_nil _) rfl) ?_; clear hk; intro a w hk
        refine FW.lend (hK11 _ _ ?_); clear hK11 K'
        refine wp_ret ?_
        (repeat first | refine FW.then_ret ?_ | refine FW.block_ret ?_)
        obtain rfl := Option.some.inj h
        replace hk := FW.S.keep (I1 := [FW.blk b0 109 ([.lit (.slice xd0_0 (List.length v0.sure) xc0_0)] ++ [.lit (.map (some xr0_1))] ++ [.lit (.int .i64 v0.steps)] ++ [.lit (.slice xd0_3 (List.length v0.falls) xc0_3)] ++ [.lit (.bool v0.off)]), FW.orow xd0_0 xc0_0 9 1 c_str v0.sure, FW.mapI (.int .i64) (Value.int .i64) FW.evS xr0_1 v0.cache, FW.orow xd0_3 xc0_3 45 3 ApiFall.cells v0.falls]) (I2 := []) (js := [3, 3, 3, 3]) hk rfl
        exact FW.fretH2 hk rfl (FW.rtmp hk rfl) (FW.rtmp hk rfl) ⟨rfl, rfl⟩

theorem dev_Dev_step_1.ok  (v0 : ApiFall) (v1 : OVarPDevDev) (v1_0 : ODevDev) (r : Bool) (h : dev_Dev_step_1.f v0 v1 v1_0 = some r) :
    ∀ (b1 : Nat) (b1_0 : Nat) (xd1_0_0 : Option Addr) (xc1_0_0 : Nat) (xr1_0_1 : Nat) (xd1_0_3 : Option Addr) (xc1_0_3 : Nat), FW.OkH Go.Proofs.Try.prog 88 [.agg (ApiFall.cells v0), .lit (.pointer (some ⟨b1, 0, none⟩))] ((OVarPDevDev.items b1 b1_0 v1) ++ (ODevDev.items b1_0 xd1_0_0 xc1_0_0 xr1_0_1 xd1_0_3 xc1_0_3 v1_0)) (fun y I => y = .lit (.bool r) ∧ I = (OVarPDevDev.items b1 b1_0 v1) ++ (ODevDev.items b1_0 xd1_0_0 xc1_0_0 xr1_0_1 xd1_0_3 xc1_0_3 v1_0)) := by
  intro b1 b1_0 xd1_0_0 xc1_0_0 xr1_0_1 xd1_0_3 xc1_0_3
  refine FW.enterH (xs := [.agg (ApiFall.cells v0), .lit (.pointer (some ⟨b1, 0, none⟩))]) Go.Proofs.Try.func88 rfl Go.Proofs.Try.ntmps88 rfl ?_
  intro M w0 a hk
  replace hk : FW.S M w0 a w0.toWorld 11 [FW.blk b1 46 ([.lit (.pointer (some ⟨b1_0, 0, none⟩))]), FW.blk b1_0 109 ([.lit (.slice xd1_0_0 (List.length v1_0.sure) xc1_0_0)] ++ [.lit (.map (some xr1_0_1))] ++ [.lit (.int .i64 v1_0.steps)] ++ [.lit (.slice xd1_0_3 (List.length v1_0.falls) xc1_0_3)] ++ [.lit (.bool v1_0.off)]), FW.orow xd1_0_0 xc1_0_0 9 1 c_str v1_0.sure, FW.mapI (.int .i64) (Value.int .i64) FW.evS xr1_0_1 v1_0.cache, FW.orow xd1_0_3 xc1_0_3 45 3 ApiFall.cells v1_0.falls] [(0, [], .agg ((ApiFall.cells v0))), (1, [], .lit (.pointer (some ⟨b1, 0, none⟩)))] := hk
  unfold dev_Dev_step_1.f at h
  refine FW.wreg ?_; intro K' hK1
  refine FW.l_box (cs := (ApiFall.cells v0)) hk rfl rfl rfl rfl rfl ?_; clear hk; intro bx1 a w hk
  refine FW.lfun (y := .lit (.bool false)) hk rfl rfl rfl rfl (FW.f_assign hk (FW.holds_nil _) rfl) ?_; clear hk; intro a w hk
  refine FW.lend (hK1 _ _ ?_); clear hK1 K'
  refine FW.wdraw (by kernel_rfl) (by kernel_rfl) hk ?_; clear hk
  refine FW.dfun (y := .lit (.pointer (some ⟨bx1, 0, none⟩))) rfl rfl rfl rfl (fun a w hk => FW.f_fieldPtr hk (FW.holds_nil _) rfl Go.Proofs.Try.underlying45 rfl (by kernel_rfl) rfl) ?_
  refine FW.dfun (y := .lit (.int .i64 v0.At)) rfl rfl rfl rfl (fun a w hk => FW.f_loadBlk1 hk (FW.holds_nil _) (j := 0) rfl rfl Go.Proofs.Try.underlying3 rfl rfl) ?_
  refine FW.dfun (y := .lit (.pointer (some ⟨b1_0, 0, none⟩))) rfl rfl rfl rfl (fun a w hk => FW.f_loadBlk1 hk (FW.holds_nil _) (j := 1) rfl rfl Go.Proofs.Try.underlying46 rfl rfl) ?_
  refine FW.dfun (y := .lit (.pointer (some ⟨b1_0, 0, none⟩))) rfl rfl rfl rfl (fun a w hk => (FW.f_pure (FW.p_nilCheck hk.kn (FW.holds_nil _) rfl))) ?_
  refine FW.dfun (y := .lit (.pointer (some ⟨b1_0, 2, none⟩))) rfl rfl rfl rfl (fun a w hk => FW.f_fieldPtr hk (FW.holds_nil _) rfl Go.Proofs.Try.underlying109 rfl (by kernel_rfl) rfl) ?_
  refine FW.dfun (y := .lit (.int .i64 v1_0.steps)) rfl rfl rfl rfl (fun a w hk => FW.f_loadBlk1 hk (FW.holds_nil _) (j := 2) rfl rfl Go.Proofs.Try.underlying3 rfl rfl) ?_
  refine FW.dfun (y := .lit (.bool (decide (v0.At = v1_0.steps)))) rfl rfl rfl rfl (fun a w hk => (FW.f_pure (FW.p_eql hk.kn (FW.holds_nil _) rfl rfl))) ?_
  refine FW.dfun (y := .lit (.bool (decide (v0.At = v1_0.steps)))) rfl rfl rfl rfl (fun a w hk => FW.f_assign hk (FW.holds_nil _) rfl) ?_
  refine FW.dend ?_; intro a w hk
  refine wp_ret ?_
  (repeat first | refine FW.then_ret ?_ | refine FW.block_ret ?_)
  obtain rfl := Option.some.inj h
  replace hk := FW.S.keep (I1 := [FW.blk b1 46 ([.lit (.pointer (some ⟨b1_0, 0, none⟩))]), FW.blk b1_0 109 ([.lit (.slice xd1_0_0 (List.length v1_0.sure) xc1_0_0)] ++ [.lit (.map (some xr1_0_1))] ++ [.lit (.int .i64 v1_0.steps)] ++ [.lit (.slice xd1_0_3 (List.length v1_0.falls) xc1_0_3)] ++ [.lit (.bool v1_0.off)]), FW.orow xd1_0_0 xc1_0_0 9 1 c_str v1_0.sure, FW.mapI (.int .i64) (Value.int .i64) FW.evS xr1_0_1 v1_0.cache, FW.orow xd1_0_3 xc1_0_3 45 3 ApiFall.cells v1_0.falls]) (I2 := [FW.blk bx1 45 ((ApiFall.cells v0))]) (js := [5, 5, 5, 5, 5]) hk rfl
  exact FW.fretH1 hk rfl (FW.rtmp hk rfl) ⟨rfl, rfl⟩

theorem slices_IndexFunc_api_Fall_api_Fall_of_dev_Dev_step_1.ok (K : Nat) (v1c0 : OVarPDevDev) (v1c0_0 : ODevDev) (r : Int) (h : slices_IndexFunc_api_Fall_api_Fall_of_dev_Dev_step_1.f K v1c0 v1c0_0 = some r) :
    ∀ (b1c0 : Nat) (b1c0_0 : Nat) (xd1c0_0_0 : Option Addr) (xc1c0_0_0 : Nat) (xr1c0_0_1 : Nat) (xd1c0_0_3 : Option Addr) (xc1c0_0_3 : Nat), FW.OkH Go.Proofs.Try.prog 87 [.lit (.slice xd1c0_0_3 (List.length v1c0_0.falls) xc1c0_0_3), .lit (.func (.func 88) #[] #[.pointer (some ⟨b1c0, 0, none⟩)])] ((OVarPDevDev.items b1c0 b1c0_0 v1c0) ++ (ODevDev.items b1c0_0 xd1c0_0_0 xc1c0_0_0 xr1c0_0_1 xd1c0_0_3 xc1c0_0_3 v1c0_0)) (fun y I => y = .lit (.int .i64 r) ∧ I = (OVarPDevDev.items b1c0 b1c0_0 v1c0) ++ (ODevDev.items b1c0_0 xd1c0_0_0 xc1c0_0_0 xr1c0_0_1 xd1c0_0_3 xc1c0_0_3 v1c0_0)) := by
  intro b1c0 b1c0_0 xd1c0_0_0 xc1c0_0_0 xr1c0_0_1 xd1c0_0_3 xc1c0_0_3
  refine FW.enterH (xs := [.lit (.slice xd1c0_0_3 (List.length v1c0_0.falls) xc1c0_0_3), .lit (.func (.func 88) #[] #[.pointer (some ⟨b1c0, 0, none⟩)])]) Go.Proofs.Try.func87 rfl Go.Proofs.Try.ntmps87 rfl ?_
  intro M w0 a hk
  replace hk : FW.S M w0 a w0.toWorld 19 [FW.blk b1c0 46 ([.lit (.pointer (some ⟨b1c0_0, 0, none⟩))]), FW.blk b1c0_0 109 ([.lit (.slice xd1c0_0_0 (List.length v1c0_0.sure) xc1c0_0_0)] ++ [.lit (.map (some xr1c0_0_1))] ++ [.lit (.int .i64 v1c0_0.steps)] ++ [.lit (.slice xd1c0_0_3 (List.length v1c0_0.falls) xc1c0_0_3)] ++ [.lit (.bool v1c0_0.off)]), FW.orow xd1c0_0_0 xc1c0_0_0 9 1 c_str v1c0_0.sure, FW.mapI (.int .i64) (Value.int .i64) FW.evS xr1c0_0_1 v1c0_0.cache, FW.orow xd1c0_0_3 xc1c0_0_3 45 3 ApiFall.cells v1c0_0.falls] [(0, [], .lit (.slice xd1c0_0_3 (List.length v1c0_0.falls) xc1c0_0_3)), (1, [], .lit (.func (.func 88) #[] #[.pointer (some ⟨b1c0, 0, none⟩)]))] := hk
  unfold slices_IndexFunc_api_Fall_api_Fall_of_dev_Dev_step_1.f at h
  refine FW.wreg ?_; intro K' hK1
  refine FW.lfun (y := .lit (.int .i64 0)) hk rfl rfl rfl rfl (FW.f_assign hk (FW.holds_nil _) rfl) ?_; clear hk; intro a w hk
  refine FW.lend (hK1 _ _ ?_); clear hK1 K'
  refine FW.wseq ?_; intro K' hK2
  refine FW.wreg ?_; intro K' hK3
  refine FW.lfun (y := .lit (.slice xd1c0_0_3 (List.length v1c0_0.falls) xc1c0_0_3)) hk rfl rfl rfl rfl (FW.f_move hk (FW.holds_nil _) rfl) ?_; clear hk; intro a w hk
  refine FW.lfun (y := .lit (.int .i64 (List.length v1c0_0.falls : Int))) hk rfl rfl rfl rfl ((FW.f_pure (FW.p_len Go.Proofs.Try.underlying74 hk.kn (FW.holds_nil _) rfl))) ?_; clear hk; intro a w hk
  refine FW.lfun (y := .lit (.int .i64 0)) hk rfl rfl rfl rfl (FW.f_move hk (FW.holds_nil _) rfl) ?_; clear hk; intro a w hk
  refine FW.lend (hK3 _ _ ?_); clear hK3 K'
  refine wp_block ?_
  refine FW.wloop (T := Nat × Int × Int) (fun x a w => match x with | (kl1, v7, v8) => FW.S M w0 a w 19 [FW.blk b1c0 46 ([.lit (.pointer (some ⟨b1c0_0, 0, none⟩))]), FW.blk b1c0_0 109 ([.lit (.slice xd1c0_0_0 (List.length v1c0_0.sure) xc1c0_0_0)] ++ [.lit (.map (some xr1c0_0_1))] ++ [.lit (.int .i64 v1c0_0.steps)] ++ [.lit (.slice xd1c0_0_3 (List.length v1c0_0.falls) xc1c0_0_3)] ++ [.lit (.bool v1c0_0.off)]), FW.orow xd1c0_0_0 xc1c0_0_0 9 1 c_str v1c0_0.sure, FW.mapI (.int .i64) (Value.int .i64) FW.evS xr1c0_0_1 v1c0_0.cache, FW.orow xd1c0_0_3 xc1c0_0_3 45 3 ApiFall.cells v1c0_0.falls] [(0, [], .lit (.slice xd1c0_0_3 (List.length v1c0_0.falls) xc1c0_0_3)), (1, [], .lit (.func (.func 88) #[] #[.pointer (some ⟨b1c0, 0, none⟩)])), (7, [], .lit (.int .i64 v7)), (8, [], .lit (.int .i64 v8))] ∧ slices_IndexFunc_api_Fall_api_Fall_of_dev_Dev_step_1.l1 K v1c0_0 kl1 v7 v8 = some r) (fun x => x.1) (K, (List.length v1c0_0.falls : Int), 0) ⟨hk.sub ⟨rfl, rfl, rfl, rfl, trivial⟩, h⟩ ?_
  clear hk h
  rintro ⟨kl1, v7, v8⟩ a w ⟨hk, h⟩ K' hK4
  cases kl1 with
  | zero => simp [slices_IndexFunc_api_Fall_api_Fall_of_dev_Dev_step_1.l1] at h
  | succ kl1 =>
  rw [slices_IndexFunc_api_Fall_api_Fall_of_dev_Dev_step_1.l1.eq_2] at h
  refine FW.wreg ?_; intro K' hK5
  refine FW.lfun (y := .lit (.bool (decide (v8 < v7)))) hk rfl rfl rfl rfl ((FW.f_pure (FW.p_lss hk.kn (FW.holds_nil _) rfl rfl))) ?_; clear hk; intro a w hk
  refine FW.lend (hK5 _ _ ?_); clear hK5 K'
  refine FW.wseq ?_; intro K' hK6
  refine FW.wcondF (b := (decide (v8 < v7))) hk h rfl (fun h hb => ?_) (fun h hb => ?_)
  · skip
    refine wp_skip ?_
    (repeat first | refine FW.then_normal ?_ | refine FW.block_normal ?_); refine hK6 _ _ ?_
    refine FW.wseq ?_; intro K' hK7
    refine wp_block ?_
    refine FW.wreg ?_; intro K' hK8
    refine FW.lfun (y := .lit (.int .i64 v8)) hk rfl rfl rfl rfl (FW.f_move hk (FW.holds_nil _) rfl) ?_; clear hk; intro a w hk
    refine FW.lfun (y := .lit (.int .i64 v8)) hk rfl rfl rfl rfl (FW.f_assign hk (FW.holds_nil _) rfl) ?_; clear hk; intro a w hk
    refine FW.lend (hK8 _ _ ?_); clear hK8 K'
    refine FW.wreg ?_; intro K' hK9
    refine FW.lfun (y := .lit (.func (.func 88) #[] #[.pointer (some ⟨b1c0, 0, none⟩)])) hk rfl rfl rfl rfl (FW.f_move hk (FW.holds_nil _) rfl) ?_; clear hk; intro a w hk
    refine FW.lfun (y := .lit (.slice xd1c0_0_3 (List.length v1c0_0.falls) xc1c0_0_3)) hk rfl rfl rfl rfl (FW.f_move hk (FW.holds_nil _) rfl) ?_; clear hk; intro a w hk
    refine FW.lfun (y := .lit (.int .i64 v8)) hk rfl rfl rfl rfl (FW.f_move hk (FW.holds_nil _) rfl) ?_; clear hk; intro a w hk
    obtain ⟨hc1, h⟩ := FW.chk h
    refine FW.lfun (y := FW.elA xd1c0_0_3 3 v8) hk rfl rfl rfl rfl (FW.f_idxOwn (f := ApiFall.cells) (l := v1c0_0.falls) hk (FW.holds_nil _) (j := 4) rfl rfl (by first | rfl | simp only [List.length_set]) rfl Go.Proofs.Try.underlying74 (by kernel_rfl) hc1) ?_; clear hk; intro a w hk
    refine FW.lfun (y := .agg ((ApiFall.cells (List.getD v1c0_0.falls (Int.toNat v8) default)))) hk rfl rfl rfl rfl (FW.f_loadOwn (f := ApiFall.cells) (l := v1c0_0.falls) hk (FW.holds_nil _) (j := 4) rfl rfl hc1 Go.Proofs.Try.underlying45 rfl (by kernel_rfl)) ?_; clear hk; intro a w hk
    obtain ⟨t1, hr_t1, h⟩ := FW.bnd h
    refine FW.l_callHC (I1 := (OVarPDevDev.items b1c0 b1c0_0 (⟨⟩ : OVarPDevDev)) ++ (ODevDev.items b1c0_0 xd1c0_0_0 xc1c0_0_0 xr1c0_0_1 xd1c0_0_3 xc1c0_0_3 v1c0_0)) (I2 := []) (js := [4, 4, 4, 4, 4]) hk rfl rfl rfl rfl rfl Go.Proofs.Try.func88 rfl (by kernel_rfl) (dev_Dev_step_1.ok (List.getD v1c0_0.falls (Int.toNat v8) default) (⟨⟩ : OVarPDevDev) v1c0_0 _ hr_t1 b1c0 b1c0_0 xd1c0_0_0 xc1c0_0_0 xr1c0_0_1 xd1c0_0_3 xc1c0_0_3) ?_; clear hk
    rintro _ _ ⟨rfl, rfl⟩ a w hk
    refine FW.lend (hK9 _ _ ?_); clear hK9 K'
    refine FW.wcondF (b := t1) hk h rfl (fun h hb => ?_) (fun h hb => ?_)
    · skip
      refine FW.wreg ?_; intro K' hK10
      refine FW.lfun (y := .lit (.int .i64 v8)) hk rfl rfl rfl rfl (FW.f_move hk (FW.holds_nil _) rfl) ?_; clear hk; intro a w hk
      refine FW.lfun (y := .lit (.int .i64 v8)) hk rfl rfl rfl rfl (FW.f_assign hk (FW.holds_nil _) rfl) ?_; clear hk; intro a w hk
      refine FW.lend (hK10 _ _ ?_); clear hK10 K'
      refine wp_ret ?_
      (repeat first | refine FW.then_ret ?_ | refine FW.block_ret ?_)
      obtain rfl := Option.some.inj h
      replace hk := FW.S.keep (I1 := [FW.blk b1c0 46 ([.lit (.pointer (some ⟨b1c0_0, 0, none⟩))]), FW.blk b1c0_0 109 ([.lit (.slice xd1c0_0_0 (List.length v1c0_0.sure) xc1c0_0_0)] ++ [.lit (.map (some xr1c0_0_1))] ++ [.lit (.int .i64 v1c0_0.steps)] ++ [.lit (.slice xd1c0_0_3 (List.length v1c0_0.falls) xc1c0_0_3)] ++ [.lit (.bool v1c0_0.off)]), FW.orow xd1c0_0_0 xc1c0_0_0 9 1 c_str v1c0_0.sure, FW.mapI (.int .i64) (Value.int .i64) FW.evS xr1c0_0_1 v1c0_0.cache, FW.orow xd1c0_0_3 xc1c0_0_3 45 3 ApiFall.cells v1c0_0.falls]) (I2 := []) (js := [4, 4, 4, 4, 4]) hk rfl
      exact FW.fretH1 hk rfl (FW.rtmp hk rfl) ⟨rfl, rfl⟩
    · skip
      refine wp_skip ?_
      (repeat first | refine FW.then_normal ?_ | refine FW.block_normal ?_); refine hK7 _ _ ?_
      refine FW.wreg1 ?_
      refine FW.lfun (y := .lit (.int .i64 (IntKind.wrap .i64 (v8 + 1)))) hk rfl rfl rfl rfl ((FW.f_pure (FW.p_add hk.kn (FW.holds_nil _) rfl rfl))) ?_; clear hk; intro a w hk
      refine FW.lfun (y := .lit (.int .i64 (IntKind.wrap .i64 (v8 + 1)))) hk rfl rfl rfl rfl (FW.f_move hk (FW.holds_nil _) rfl) ?_; clear hk; intro a w hk
      refine wpList_nil ?_
      (repeat first | refine FW.then_normal ?_ | refine FW.block_normal ?_); exact hK4 (kl1, v7, (IntKind.wrap .i64 (v8 + 1))) _ _ (Nat.lt_succ_self _) ⟨hk.sub ⟨rfl, rfl, rfl, rfl, trivial⟩, h⟩
  · skip
    refine wp_exit ?_; (repeat first | refine FW.then_exit ?_ | refine FW.block_exit_ne rfl ?_); refine FW.block_exit ?_
    (repeat first | refine FW.then_normal ?_ | refine FW.block_normal ?_); refine hK2 _ _ ?_
    refine FW.wreg ?_; intro K' hK12
    refine FW.lfun (y := .lit (.int .i64 (-1))) hk rfl rfl rfl rfl (FW.f_assign hk (FW.holds_nil _) rfl) ?_; clear hk; intro a w hk
    refine FW.lend (hK12 _ _ ?_); clear hK12 K'
    refine wp_ret ?_
    (repeat first | refine FW.then_ret ?_ | refine FW.block_ret ?_)
    obtain rfl := Option.some.inj h
    replace hk := FW.S.keep (I1 := [FW.blk b1c0 46 ([.lit (.pointer (some ⟨b1c0_0, 0, none⟩))]), FW.blk b1c0_0 109 ([.lit (.slice xd1c0_0_0 (List.length v1c0_0.sure) xc1c0_0_0)] ++ [.lit (.map (some xr1c0_0_1))] ++ [.lit (.int .i64 v1c0_0.steps)] ++ [.lit (.slice xd1c0_0_3 (List.length v1c0_0.falls) xc1c0_0_3)] ++ [.lit (.bool v1c0_0.off)]), FW.orow xd1c0_0_0 xc1c0_0_0 9 1 c_str v1c0_0.sure, FW.mapI (.int .i64) (Value.int .i64) FW.evS xr1c0_0_1 v1c0_0.cache, FW.orow xd1c0_0_3 xc1c0_0_3 45 3 ApiFall.cells v1c0_0.falls]) (I2 := []) (js := [4, 4, 4, 4, 4]) hk rfl
    exact FW.fretH1 hk rfl (FW.rtmp hk rfl) ⟨rfl, rfl⟩

theorem dev_Dev_Crash.ok (K : Nat) (v0 : ODevDev) (v1 : Int) (v2 : Int) (r : ODevDev) (h : dev_Dev_Crash.f K v0 v1 v2 = some r) :
    ∀ (b0 : Nat) (xd0_0 : Option Addr) (xc0_0 : Nat) (xr0_1 : Nat) (xd0_3 : Option Addr) (xc0_3 : Nat), FW.OkH Go.Proofs.Try.prog 32 [.lit (.pointer (some ⟨b0, 0, none⟩)), .lit (.int .u64 v1), .lit (.int .i64 v2)] (ODevDev.items b0 xd0_0 xc0_0 xr0_1 xd0_3 xc0_3 v0) (fun y I => ∃ (zxd0_0 : Option Addr) (zxc0_0 : Nat) (zxr0_1 : Nat) (zxd0_3 : Option Addr) (zxc0_3 : Nat), y = .tup [] ∧ I = ODevDev.items b0 zxd0_0 zxc0_0 zxr0_1 zxd0_3 zxc0_3 r) := by
  intro b0 xd0_0 xc0_0 xr0_1 xd0_3 xc0_3
  refine FW.enterH (xs := [.lit (.pointer (some ⟨b0, 0, none⟩)), .lit (.int .u64 v1), .lit (.int .i64 v2)]) Go.Proofs.Try.func32 rfl Go.Proofs.Try.ntmps32 rfl ?_
  intro M w0 a hk
  replace hk : FW.S M w0 a w0.toWorld 69 [FW.blk b0 109 ([.lit (.slice xd0_0 (List.length v0.sure) xc0_0)] ++ [.lit (.map (some xr0_1))] ++ [.lit (.int .i64 v0.steps)] ++ [.lit (.slice xd0_3 (List.length v0.falls) xc0_3)] ++ [.lit (.bool v0.off)]), FW.orow xd0_0 xc0_0 9 1 c_str v0.sure, FW.mapI (.int .i64) (Value.int .i64) FW.evS xr0_1 v0.cache, FW.orow xd0_3 xc0_3 45 3 ApiFall.cells v0.falls] [(0, [], .lit (.pointer (some ⟨b0, 0, none⟩))), (1, [], .lit (.int .u64 v1)), (2, [], .lit (.int .i64 v2))] := hk
  unfold dev_Dev_Crash.f at h
  refine FW.wseq ?_; intro K' hK1
  refine FW.wreg ?_; intro K' hK2
  refine FW.lfun (y := .lit (.pointer (some ⟨b0, 0, none⟩))) hk rfl rfl rfl rfl (FW.f_move hk (FW.holds_nil _) rfl) ?_; clear hk; intro a w hk
  obtain ⟨t1, hr_t1, h⟩ := FW.bnd h
  refine FW.l_callH (I1 := (ODevDev.items b0 xd0_0 xc0_0 xr0_1 xd0_3 xc0_3 v0)) (I2 := []) (js := [3, 3, 3, 3]) hk rfl rfl rfl rfl rfl Go.Proofs.Try.func41 rfl (by kernel_rfl) (dev_Dev_Off.ok v0 _ hr_t1 b0 xd0_0 xc0_0 xr0_1 xd0_3 xc0_3) ?_; clear hk
  rintro _ _ ⟨rfl, rfl⟩ a w hk
  refine FW.lend (hK2 _ _ ?_); clear hK2 K'
  refine FW.wcondF (b := t1) hk h rfl (fun h hb => ?_) (fun h hb => ?_)
  · skip
    refine wp_ret ?_
    (repeat first | refine FW.then_ret ?_ | refine FW.block_ret ?_)
    obtain rfl := Option.some.inj h
    replace hk := FW.S.keep (I1 := [FW.blk b0 109 ([.lit (.slice xd0_0 (List.length v0.sure) xc0_0)] ++ [.lit (.map (some xr0_1))] ++ [.lit (.int .i64 v0.steps)] ++ [.lit (.slice xd0_3 (List.length v0.falls) xc0_3)] ++ [.lit (.bool v0.off)]), FW.orow xd0_0 xc0_0 9 1 c_str v0.sure, FW.mapI (.int .i64) (Value.int .i64) FW.evS xr0_1 v0.cache, FW.orow xd0_3 xc0_3 45 3 ApiFall.cells v0.falls]) (I2 := []) (js := [3, 3, 3, 3]) hk rfl
    exact FW.fretH0 hk rfl ⟨xd0_0, xc0_0, xr0_1, xd0_3, xc0_3, rfl, rfl⟩
  · skip
    refine wp_skip ?_
    (repeat first | refine FW.then_normal ?_ | refine FW.block_normal ?_); refine hK1 _ _ ?_
    refine FW.wseq ?_; intro K' hK3
    refine FW.wreg ?_; intro K' hK4
    refine FW.lfun (y := .lit (.pointer (some ⟨b0, 0, none⟩))) hk rfl rfl rfl rfl (FW.f_move hk (FW.holds_nil _) rfl) ?_; clear hk; intro a w hk
    refine FW.lfun (y := .lit (.pointer (some ⟨b0, 0, none⟩))) hk rfl rfl rfl rfl ((FW.f_pure (FW.p_nilCheck hk.kn (FW.holds_nil _) rfl))) ?_; clear hk; intro a w hk
    refine FW.lfun (y := .lit (.pointer (some ⟨b0, 1, none⟩))) hk rfl rfl rfl rfl (FW.f_fieldPtr hk (FW.holds_nil _) rfl Go.Proofs.Try.underlying109 rfl (by kernel_rfl) rfl) ?_; clear hk; intro a w hk
    refine FW.lfun (y := .lit (.map (some xr0_1))) hk rfl rfl rfl rfl (FW.f_loadBlk1 hk (FW.holds_nil _) (j := 0) rfl rfl Go.Proofs.Try.underlying107 rfl rfl) ?_; clear hk; intro a w hk
    refine FW.l_keysI hk rfl rfl rfl ?_; clear hk; intro bx1 a w hk
    obtain ⟨hc1, h⟩ := FW.chk h
    refine FW.l_sortedI (ev := FW.evS) (m := v0.cache) (R := r_c_i64) (fun _ => rfl) hk rfl rfl (j := 3) (i := 0) rfl rfl rfl hc1 ?_; clear hk; intro a w hk
    refine FW.lfun (y := .lit (.int .i64 (List.length (FW.sortK v0.cache) : Int))) hk rfl rfl rfl rfl (FW.f_len (R := r_c_i64) (f := c_i64) (l := (FW.sortK v0.cache)) r_c_i64_eq Go.Proofs.Try.underlying111 hk (FW.holds_nil _) rfl) ?_; clear hk; intro a w hk
    refine FW.lfun (y := .lit (.int .i64 0)) hk rfl rfl rfl rfl (FW.f_move hk (FW.holds_nil _) rfl) ?_; clear hk; intro a w hk
    refine FW.lend (hK4 _ _ ?_); clear hK4 K'
    refine wp_block ?_
    refine FW.wloop (T := Nat × Int × Bool × List (List UInt8) × Int × Int × List Int × Int × Int × Option Addr × Nat) (fun x a w => match x with | (kl1, y1_2, y1_4, l2, v1, v2, v17, v18, v19, xd2, xc2) => FW.S M w0 a w 69 [FW.blk b0 109 ([.lit (.slice xd2 (List.length l2) xc2)] ++ [.lit (.map (some xr0_1))] ++ [.lit (.int .i64 y1_2)] ++ [.lit (.slice xd0_3 (List.length v0.falls) xc0_3)] ++ [.lit (.bool y1_4)]), FW.orow xd2 xc2 9 1 c_str l2, FW.mapI (.int .i64) (Value.int .i64) FW.evS xr0_1 v0.cache, FW.orow xd0_3 xc0_3 45 3 ApiFall.cells v0.falls] [(0, [], .lit (.pointer (some ⟨b0, 0, none⟩))), (1, [], .lit (.int .u64 v1)), (2, [], .lit (.int .i64 v2)), (17, [], .row (r_c_i64 v17)), (18, [], .lit (.int .i64 v18)), (19, [], .lit (.int .i64 v19))] ∧ dev_Dev_Crash.l1 K v0 kl1 y1_2 y1_4 l2 v1 v2 v17 v18 v19 = some r) (fun x => x.1) (K, v0.steps, v0.off, v0.sure, v1, v2, (FW.sortK v0.cache), (List.length (FW.sortK v0.cache) : Int), 0, xd0_0, xc0_0) ⟨(hk.drop 0).sub ⟨rfl, rfl, rfl, rfl, rfl, rfl, trivial⟩, h⟩ ?_
    clear hk h
    rintro ⟨kl1, y1_2, y1_4, l2, v1, v2, v17, v18, v19, xd2, xc2⟩ a w ⟨hk, h⟩ K' hK5
    cases kl1 with
    | zero => simp [dev_Dev_Crash.l1] at h
    | succ kl1 =>
    rw [dev_Dev_Crash.l1.eq_2] at h
    refine FW.wreg ?_; intro K' hK6
    refine FW.lfun (y := .lit (.bool (decide (v19 < v18)))) hk rfl rfl rfl rfl ((FW.f_pure (FW.p_lss hk.kn (FW.holds_nil _) rfl rfl))) ?_; clear hk; intro a w hk
    refine FW.lend (hK6 _ _ ?_); clear hK6 K'
    refine FW.wseq ?_; intro K' hK7
    refine FW.wcondF (b := (decide (v19 < v18))) hk h rfl (fun h hb => ?_) (fun h hb => ?_)
    · skip
      refine wp_skip ?_
      (repeat first | refine FW.then_normal ?_ | refine FW.block_normal ?_); refine hK7 _ _ ?_
      refine FW.wseq ?_; intro K' hK8
      refine wp_block ?_
      refine FW.wreg ?_; intro K' hK9
      refine FW.lfun (y := .lit (.int .i64 v19)) hk rfl rfl rfl rfl (FW.f_move hk (FW.holds_nil _) rfl) ?_; clear hk; intro a w hk
      obtain ⟨hc2, h⟩ := FW.chk h
      refine FW.lfun (y := .ref (c_i64 (List.getD v17 (Int.toNat v19) default))) hk rfl rfl rfl rfl (FW.f_indexAddr (R := r_c_i64) (f := c_i64) (l := v17) (sz := 1) r_c_i64_eq (fun _ => rfl) hk (FW.holds_nil _) rfl rfl Go.Proofs.Try.underlying111 (by kernel_rfl) hc2) ?_; clear hk; intro a w hk
      refine FW.lfun (y := .lit (.int .i64 (List.getD v17 (Int.toNat v19) default))) hk rfl rfl rfl rfl (FW.f_load1 hk (FW.holds_nil _) rfl rfl Go.Proofs.Try.underlying3 rfl) ?_; clear hk; intro a w hk
      refine FW.lfun (y := .lit (.int .i64 v19)) hk rfl rfl rfl rfl (FW.f_assign hk (FW.holds_nil _) rfl) ?_; clear hk; intro a w hk
      refine FW.lfun (y := .lit (.int .i64 (List.getD v17 (Int.toNat v19) default))) hk rfl rfl rfl rfl (FW.f_assign hk (FW.holds_nil _) rfl) ?_; clear hk; intro a w hk
      refine FW.lend (hK9 _ _ ?_); clear hK9 K'
      refine FW.wreg ?_; intro K' hK10
      refine FW.lfun (y := .lit (.pointer (some ⟨b0, 0, none⟩))) hk rfl rfl rfl rfl (FW.f_move hk (FW.holds_nil _) rfl) ?_; clear hk; intro a w hk
      refine FW.lfun (y := .lit (.pointer (some ⟨b0, 0, none⟩))) hk rfl rfl rfl rfl ((FW.f_pure (FW.p_nilCheck hk.kn (FW.holds_nil _) rfl))) ?_; clear hk; intro a w hk
      refine FW.lfun (y := .lit (.pointer (some ⟨b0, 1, none⟩))) hk rfl rfl rfl rfl (FW.f_fieldPtr hk (FW.holds_nil _) rfl Go.Proofs.Try.underlying109 rfl (by kernel_rfl) rfl) ?_; clear hk; intro a w hk
      refine FW.lfun (y := .lit (.map (some xr0_1))) hk rfl rfl rfl rfl (FW.f_loadBlk1 hk (FW.holds_nil _) (j := 0) rfl rfl Go.Proofs.Try.underlying107 rfl rfl) ?_; clear hk; intro a w hk
      refine FW.lfun (y := .lit (.int .i64 (List.getD v17 (Int.toNat v19) default))) hk rfl rfl rfl rfl (FW.f_move hk (FW.holds_nil _) rfl) ?_; clear hk; intro a w hk
      refine FW.lfun (y := .lit (.string (FW.B ((FW.mget v0.cache (List.getD v17 (Int.toNat v19) default)).getD ([] : List UInt8))))) hk rfl rfl rfl rfl (FW.f_lookup1 (z := ([] : List UInt8)) (ev := FW.evS) hk (FW.holds_nil _) (j := 2) rfl rfl rfl Go.Proofs.Try.underlying107 Go.Proofs.Try.underlying3 (by kernel_rfl)) ?_; clear hk; intro a w hk
      refine FW.lfun (y := .lit (.string (FW.B ((FW.mget v0.cache (List.getD v17 (Int.toNat v19) default)).getD ([] : List UInt8))))) hk rfl rfl rfl rfl (FW.f_assign hk (FW.holds_nil _) rfl) ?_; clear hk; intro a w hk
      refine FW.lend (hK10 _ _ ?_); clear hK10 K'
      refine FW.wseqJ (fun a w => ∃ (v1 : Int) (v2 : Int) (v7 : Int) (v8 : List UInt8) (v17 : List Int) (v18 : Int) (v19 : Int), FW.S M w0 a w 69 [FW.blk b0 109 ([.lit (.slice xd2 (List.length l2) xc2)] ++ [.lit (.map (some xr0_1))] ++ [.lit (.int .i64 y1_2)] ++ [.lit (.slice xd0_3 (List.length v0.falls) xc0_3)] ++ [.lit (.bool y1_4)]), FW.orow xd2 xc2 9 1 c_str l2, FW.mapI (.int .i64) (Value.int .i64) FW.evS xr0_1 v0.cache, FW.orow xd0_3 xc0_3 45 3 ApiFall.cells v0.falls] [(0, [], .lit (.pointer (some ⟨b0, 0, none⟩))), (1, [], .lit (.int .u64 v1)), (2, [], .lit (.int .i64 v2)), (7, [], .lit (.int .i64 v7)), (8, [], .lit (.string (FW.B v8))), (17, [], .row (r_c_i64 v17)), (18, [], .lit (.int .i64 v18)), (19, [], .lit (.int .i64 v19))] ∧ dev_Dev_Crash.j1 (dev_Dev_Crash.l1 K v0 kl1) K l2 v0 y1_2 y1_4 v1 v2 v7 v8 v17 v18 v19 = some r) ?_ ?_
      · clear hk h
        rintro a w ⟨v1, v2, v7, v8, v17, v18, v19, hk, h⟩
        unfold dev_Dev_Crash.j1 at h
        refine FW.wreg1 ?_
        refine FW.lfun (y := .lit (.pointer (some ⟨b0, 0, none⟩))) hk rfl rfl rfl rfl (FW.f_move hk (FW.holds_nil _) rfl) ?_; clear hk; intro a w hk
        refine FW.lfun (y := .lit (.pointer (some ⟨b0, 0, none⟩))) hk rfl rfl rfl rfl ((FW.f_pure (FW.p_nilCheck hk.kn (FW.holds_nil _) rfl))) ?_; clear hk; intro a w hk
        refine FW.lfun (y := .lit (.pointer (some ⟨b0, 0, none⟩))) hk rfl rfl rfl rfl (FW.f_fieldPtr hk (FW.holds_nil _) rfl Go.Proofs.Try.underlying109 rfl (by kernel_rfl) rfl) ?_; clear hk; intro a w hk
        refine FW.lfun (y := .lit (.slice xd2 (List.length l2) xc2)) hk rfl rfl rfl rfl (FW.f_loadBlk1 hk (FW.holds_nil _) (j := 0) rfl rfl Go.Proofs.Try.underlying61 rfl rfl) ?_; clear hk; intro a w hk
        refine FW.lfun (y := .lit (.int .i64 v7)) hk rfl rfl rfl rfl (FW.f_move hk (FW.holds_nil _) rfl) ?_; clear hk; intro a w hk
        refine FW.lfun (y := .lit (.string (FW.B v8))) hk rfl rfl rfl rfl (FW.f_move hk (FW.holds_nil _) rfl) ?_; clear hk; intro a w hk
        obtain ⟨hc3, h⟩ := FW.chk h
        refine FW.lfun (y := FW.elA xd2 1 v7) hk rfl rfl rfl rfl (FW.f_idxOwn (f := c_str) (l := l2) hk (FW.holds_nil _) (j := 1) rfl rfl (by first | rfl | simp only [List.length_set]) rfl Go.Proofs.Try.underlying61 (by kernel_rfl) hc3) ?_; clear hk; intro a w hk
        refine FW.l_storeOwn1 (f := c_str) (l := l2) (v := v8) (I' := [FW.blk b0 109 ([.lit (.slice xd2 (List.length l2) xc2)] ++ [.lit (.map (some xr0_1))] ++ [.lit (.int .i64 y1_2)] ++ [.lit (.slice xd0_3 (List.length v0.falls) xc0_3)] ++ [.lit (.bool y1_4)]), FW.orow xd2 xc2 9 1 c_str (List.set l2 (Int.toNat v7) v8), FW.mapI (.int .i64) (Value.int .i64) FW.evS xr0_1 v0.cache, FW.orow xd0_3 xc0_3 45 3 ApiFall.cells v0.falls]) (j := 1) hk rfl rfl hc3 rfl rfl rfl rfl (by kernel_rfl) rfl ?_; clear hk; intro w hk
        refine wpList_nil ?_
        (repeat first | refine FW.then_normal ?_ | refine FW.block_normal ?_); refine hK8 _ _ ?_
        refine FW.wreg1 ?_
        refine FW.lfun (y := .lit (.int .i64 (IntKind.wrap .i64 (v19 + 1)))) hk rfl rfl rfl rfl ((FW.f_pure (FW.p_add hk.kn (FW.holds_nil _) rfl rfl))) ?_; clear hk; intro a w hk
        refine FW.lfun (y := .lit (.int .i64 (IntKind.wrap .i64 (v19 + 1)))) hk rfl rfl rfl rfl (FW.f_move hk (FW.holds_nil _) rfl) ?_; clear hk; intro a w hk
        refine wpList_nil ?_
        replace hk := FW.S.cast (I' := [FW.blk b0 109 ([.lit (.slice xd2 (List.length (List.set l2 (Int.toNat v7) v8)) xc2)] ++ [.lit (.map (some xr0_1))] ++ [.lit (.int .i64 y1_2)] ++ [.lit (.slice xd0_3 (List.length v0.falls) xc0_3)] ++ [.lit (.bool y1_4)]), FW.orow xd2 xc2 9 1 c_str (List.set l2 (Int.toNat v7) v8), FW.mapI (.int .i64) (Value.int .i64) FW.evS xr0_1 v0.cache, FW.orow xd0_3 xc0_3 45 3 ApiFall.cells v0.falls]) hk (by first | rfl | simp only [List.length_set]) rfl
        (repeat first | refine FW.then_normal ?_ | refine FW.block_normal ?_); exact hK5 (kl1, y1_2, y1_4, (List.set l2 (Int.toNat v7) v8), v1, v2, v17, v18, (IntKind.wrap .i64 (v19 + 1)), xd2, xc2) _ _ (Nat.lt_succ_self _) ⟨hk.sub ⟨rfl, rfl, rfl, rfl, rfl, rfl, trivial⟩, h⟩
      · intro K' hK11
        refine FW.wreg ?_; intro K' hK14
        refine FW.lfun (y := .lit (.int .u64 v1)) hk rfl rfl rfl rfl (FW.f_move hk (FW.holds_nil _) rfl) ?_; clear hk; intro a w hk
        refine FW.lfun (y := .lit (.int .i64 v19)) hk rfl rfl rfl rfl (FW.f_move hk (FW.holds_nil _) rfl) ?_; clear hk; intro a w hk
        refine FW.lfun (y := .lit (.int .i64 (if 63 < v19 then 63 else v19))) hk rfl rfl rfl rfl ((FW.f_pure (FW.p_min hk.kn (FW.holds_nil _) rfl rfl))) ?_; clear hk; intro a w hk
        obtain ⟨hc4, h⟩ := FW.chk h
        refine FW.lfun (y := .lit (.int .u64 (FW.shrI .u64 v1 (if 63 < v19 then 63 else v19)))) hk rfl rfl rfl rfl ((FW.f_pure (FW.p_shr hk.kn (FW.holds_nil _) rfl rfl hc4))) ?_; clear hk; intro a w hk
        refine FW.lfun (y := .lit (.int .u64 (FW.andI .u64 (FW.shrI .u64 v1 (if 63 < v19 then 63 else v19)) 1))) hk rfl rfl rfl rfl ((FW.f_pure (FW.p_and hk.kn (FW.holds_nil _) rfl rfl))) ?_; clear hk; intro a w hk
        refine FW.lfun (y := .lit (.bool (decide ((FW.andI .u64 (FW.shrI .u64 v1 (if 63 < v19 then 63 else v19)) 1) = 0)))) hk rfl rfl rfl rfl ((FW.f_pure (FW.p_eql hk.kn (FW.holds_nil _) rfl rfl))) ?_; clear hk; intro a w hk
        refine FW.lend (hK14 _ _ ?_); clear hK14 K'
        refine FW.wcondF (b := (decide ((FW.andI .u64 (FW.shrI .u64 v1 (if 63 < v19 then 63 else v19)) 1) = 0))) hk h rfl (fun h hb => ?_) (fun h hb => ?_)
        · skip
          refine FW.wreg ?_; intro K' hK15
          refine FW.lfun (y := .lit (.int .i64 v2)) hk rfl rfl rfl rfl (FW.f_move hk (FW.holds_nil _) rfl) ?_; clear hk; intro a w hk
          refine FW.lfun (y := .lit (.int .i64 (if v2 < 0 then 0 else v2))) hk rfl rfl rfl rfl ((FW.f_pure (FW.p_max hk.kn (FW.holds_nil _) rfl rfl))) ?_; clear hk; intro a w hk
          refine FW.lfun (y := .lit (.string (FW.B ((FW.mget v0.cache (List.getD v17 (Int.toNat v19) default)).getD ([] : List UInt8))))) hk rfl rfl rfl rfl (FW.f_move hk (FW.holds_nil _) rfl) ?_; clear hk; intro a w hk
          refine FW.lfun (y := .lit (.int .i64 (List.length ((FW.mget v0.cache (List.getD v17 (Int.toNat v19) default)).getD ([] : List UInt8)) : Int))) hk rfl rfl rfl rfl ((FW.f_pure (FW.p_slen Go.Proofs.Try.underlying9 hk.kn (FW.holds_nil _) rfl))) ?_; clear hk; intro a w hk
          refine FW.lfun (y := .lit (.int .i64 (if (List.length ((FW.mget v0.cache (List.getD v17 (Int.toNat v19) default)).getD ([] : List UInt8)) : Int) < (if v2 < 0 then 0 else v2) then (List.length ((FW.mget v0.cache (List.getD v17 (Int.toNat v19) default)).getD ([] : List UInt8)) : Int) else (if v2 < 0 then 0 else v2)))) hk rfl rfl rfl rfl ((FW.f_pure (FW.p_min hk.kn (FW.holds_nil _) rfl rfl))) ?_; clear hk; intro a w hk
          refine FW.lfun (y := .lit (.int .i64 (if (List.length ((FW.mget v0.cache (List.getD v17 (Int.toNat v19) default)).getD ([] : List UInt8)) : Int) < (if v2 < 0 then 0 else v2) then (List.length ((FW.mget v0.cache (List.getD v17 (Int.toNat v19) default)).getD ([] : List UInt8)) : Int) else (if v2 < 0 then 0 else v2)))) hk rfl rfl rfl rfl (FW.f_assign hk (FW.holds_nil _) rfl) ?_; clear hk; intro a w hk
          refine FW.lend (hK15 _ _ ?_); clear hK15 K'
          obtain ⟨hc5, h⟩ := FW.chk h
          obtain ⟨hc6, h⟩ := FW.chk h
          obtain ⟨hc7, h⟩ := FW.chk h
          obtain ⟨hc8, h⟩ := FW.chk h
          refine FW.wdraw (by kernel_rfl) (by kernel_rfl) hk ?_; clear hk
          refine FW.dfun (y := .lit (.string (FW.B ((FW.mget v0.cache (List.getD v17 (Int.toNat v19) default)).getD ([] : List UInt8))))) rfl rfl rfl rfl (fun a w hk => FW.f_move hk (FW.holds_nil _) rfl) ?_
          refine FW.dfun (y := .lit (.int .i64 (if (List.length ((FW.mget v0.cache (List.getD v17 (Int.toNat v19) default)).getD ([] : List UInt8)) : Int) < (if v2 < 0 then 0 else v2) then (List.length ((FW.mget v0.cache (List.getD v17 (Int.toNat v19) default)).getD ([] : List UInt8)) : Int) else (if v2 < 0 then 0 else v2)))) rfl rfl rfl rfl (fun a w hk => FW.f_move hk (FW.holds_nil _) rfl) ?_
          refine FW.dfun (y := .lit (.string (FW.B (List.take (Int.toNat (if (List.length ((FW.mget v0.cache (List.getD v17 (Int.toNat v19) default)).getD ([] : List UInt8)) : Int) < (if v2 < 0 then 0 else v2) then (List.length ((FW.mget v0.cache (List.getD v17 (Int.toNat v19) default)).getD ([] : List UInt8)) : Int) else (if v2 < 0 then 0 else v2))) ((FW.mget v0.cache (List.getD v17 (Int.toNat v19) default)).getD ([] : List UInt8)))))) rfl rfl rfl rfl (fun a w hk => (FW.f_pure (FW.p_slice_hi Go.Proofs.Try.underlying9 hk.kn (FW.holds_nil _) rfl rfl hc5))) ?_
          refine FW.dfun (y := .lit (.pointer (some ⟨b0, 0, none⟩))) rfl rfl rfl rfl (fun a w hk => FW.f_move hk (FW.holds_nil _) rfl) ?_
          refine FW.dfun (y := .lit (.pointer (some ⟨b0, 0, none⟩))) rfl rfl rfl rfl (fun a w hk => (FW.f_pure (FW.p_nilCheck hk.kn (FW.holds_nil _) rfl))) ?_
          refine FW.dfun (y := .lit (.pointer (some ⟨b0, 0, none⟩))) rfl rfl rfl rfl (fun a w hk => FW.f_fieldPtr hk (FW.holds_nil _) rfl Go.Proofs.Try.underlying109 rfl (by kernel_rfl) rfl) ?_
          refine FW.dfun (y := .lit (.slice xd2 (List.length l2) xc2)) rfl rfl rfl rfl (fun a w hk => FW.f_loadBlk1 hk (FW.holds_nil _) (j := 0) rfl rfl Go.Proofs.Try.underlying61 rfl rfl) ?_
          refine FW.dfun (y := .lit (.int .i64 (List.getD v17 (Int.toNat v19) default))) rfl rfl rfl rfl (fun a w hk => FW.f_move hk (FW.holds_nil _) rfl) ?_
          refine FW.dfun (y := FW.elA xd2 1 (List.getD v17 (Int.toNat v19) default)) rfl rfl rfl rfl (fun a w hk => FW.f_idxOwn (f := c_str) (l := l2) hk (FW.holds_nil _) (j := 1) rfl rfl (by first | rfl | simp only [List.length_set]) rfl Go.Proofs.Try.underlying61 (by kernel_rfl) hc6) ?_
          refine FW.dfun (y := .lit (.string (FW.B (List.getD l2 (Int.toNat (List.getD v17 (Int.toNat v19) default)) default)))) rfl rfl rfl rfl (fun a w hk => FW.f_loadOwn1 (f := c_str) (l := l2) hk (FW.holds_nil _) (j := 1) rfl rfl hc6 rfl Go.Proofs.Try.underlying9 rfl) ?_
          refine FW.dfun (y := .lit (.int .i64 (if (List.length ((FW.mget v0.cache (List.getD v17 (Int.toNat v19) default)).getD ([] : List UInt8)) : Int) < (if v2 < 0 then 0 else v2) then (List.length ((FW.mget v0.cache (List.getD v17 (Int.toNat v19) default)).getD ([] : List UInt8)) : Int) else (if v2 < 0 then 0 else v2)))) rfl rfl rfl rfl (fun a w hk => FW.f_move hk (FW.holds_nil _) rfl) ?_
          refine FW.dfun (y := .lit (.string (FW.B (List.drop (Int.toNat (if (List.length ((FW.mget v0.cache (List.getD v17 (Int.toNat v19) default)).getD ([] : List UInt8)) : Int) < (if v2 < 0 then 0 else v2) then (List.length ((FW.mget v0.cache (List.getD v17 (Int.toNat v19) default)).getD ([] : List UInt8)) : Int) else (if v2 < 0 then 0 else v2))) (List.getD l2 (Int.toNat (List.getD v17 (Int.toNat v19) default)) default))))) rfl rfl rfl rfl (fun a w hk => (FW.f_pure (FW.p_slice_lo Go.Proofs.Try.underlying9 hk.kn (FW.holds_nil _) rfl rfl hc7))) ?_
          refine FW.dfun (y := .lit (.string (FW.B ((List.take (Int.toNat (if (List.length ((FW.mget v0.cache (List.getD v17 (Int.toNat v19) default)).getD ([] : List UInt8)) : Int) < (if v2 < 0 then 0 else v2) then (List.length ((FW.mget v0.cache (List.getD v17 (Int.toNat v19) default)).getD ([] : List UInt8)) : Int) else (if v2 < 0 then 0 else v2))) ((FW.mget v0.cache (List.getD v17 (Int.toNat v19) default)).getD ([] : List UInt8))) ++ (List.drop (Int.toNat (if (List.length ((FW.mget v0.cache (List.getD v17 (Int.toNat v19) default)).getD ([] : List UInt8)) : Int) < (if v2 < 0 then 0 else v2) then (List.length ((FW.mget v0.cache (List.getD v17 (Int.toNat v19) default)).getD ([] : List UInt8)) : Int) else (if v2 < 0 then 0 else v2))) (List.getD l2 (Int.toNat (List.getD v17 (Int.toNat v19) default)) default)))))) rfl rfl rfl rfl (fun a w hk => (FW.f_pure (FW.p_sadd hk.kn (FW.holds_nil _) rfl rfl hc8))) ?_
          refine FW.dfun (y := .lit (.string (FW.B ((List.take (Int.toNat (if (List.length ((FW.mget v0.cache (List.getD v17 (Int.toNat v19) default)).getD ([] : List UInt8)) : Int) < (if v2 < 0 then 0 else v2) then (List.length ((FW.mget v0.cache (List.getD v17 (Int.toNat v19) default)).getD ([] : List UInt8)) : Int) else (if v2 < 0 then 0 else v2))) ((FW.mget v0.cache (List.getD v17 (Int.toNat v19) default)).getD ([] : List UInt8))) ++ (List.drop (Int.toNat (if (List.length ((FW.mget v0.cache (List.getD v17 (Int.toNat v19) default)).getD ([] : List UInt8)) : Int) < (if v2 < 0 then 0 else v2) then (List.length ((FW.mget v0.cache (List.getD v17 (Int.toNat v19) default)).getD ([] : List UInt8)) : Int) else (if v2 < 0 then 0 else v2))) (List.getD l2 (Int.toNat (List.getD v17 (Int.toNat v19) default)) default)))))) rfl rfl rfl rfl (fun a w hk => FW.f_assign hk (FW.holds_nil _) rfl) ?_
          refine FW.dend ?_; intro a w hk
          refine FW.wreg1 ?_
          refine FW.lfun (y := .lit (.int .i64 0)) hk rfl rfl rfl rfl (FW.f_assign hk (FW.holds_nil _) rfl) ?_; clear hk; intro a w hk
          refine wpList_nil ?_
          (repeat first | refine FW.then_normal ?_ | refine FW.block_normal ?_); exact hK11 _ _ ⟨v1, 0, (List.getD v17 (Int.toNat v19) default), ((List.take (Int.toNat (if (List.length ((FW.mget v0.cache (List.getD v17 (Int.toNat v19) default)).getD ([] : List UInt8)) : Int) < (if v2 < 0 then 0 else v2) then (List.length ((FW.mget v0.cache (List.getD v17 (Int.toNat v19) default)).getD ([] : List UInt8)) : Int) else (if v2 < 0 then 0 else v2))) ((FW.mget v0.cache (List.getD v17 (Int.toNat v19) default)).getD ([] : List UInt8))) ++ (List.drop (Int.toNat (if (List.length ((FW.mget v0.cache (List.getD v17 (Int.toNat v19) default)).getD ([] : List UInt8)) : Int) < (if v2 < 0 then 0 else v2) then (List.length ((FW.mget v0.cache (List.getD v17 (Int.toNat v19) default)).getD ([] : List UInt8)) : Int) else (if v2 < 0 then 0 else v2))) (List.getD l2 (Int.toNat (List.getD v17 (Int.toNat v19) default)) default))), v17, v18, v19, hk.sub ⟨rfl, rfl, rfl, rfl, rfl, rfl, rfl, rfl, trivial⟩, h⟩
        · skip
          refine wp_skip ?_
          (repeat first | refine FW.then_normal ?_ | refine FW.block_normal ?_); exact hK11 _ _ ⟨v1, v2, (List.getD v17 (Int.toNat v19) default), ((FW.mget v0.cache (List.getD v17 (Int.toNat v19) default)).getD ([] : List UInt8)), v17, v18, v19, hk.sub ⟨rfl, rfl, rfl, rfl, rfl, rfl, rfl, rfl, trivial⟩, h⟩
    · skip
      refine wp_exit ?_; (repeat first | refine FW.then_exit ?_ | refine FW.block_exit_ne rfl ?_); refine FW.block_exit ?_
      (repeat first | refine FW.then_normal ?_ | refine FW.block_normal ?_); refine hK3 _ _ ?_
      refine FW.wreg ?_; intro K' hK18
      refine FW.lfun (y := .lit (.pointer (some ⟨b0, 0, none⟩))) hk rfl rfl rfl rfl (FW.f_move hk (FW.holds_nil _) rfl) ?_; clear hk; intro a w hk
      refine FW.lfun (y := .lit (.pointer (some ⟨b0, 0, none⟩))) hk rfl rfl rfl rfl ((FW.f_pure (FW.p_nilCheck hk.kn (FW.holds_nil _) rfl))) ?_; clear hk; intro a w hk
      refine FW.lfun (y := .lit (.pointer (some ⟨b0, 1, none⟩))) hk rfl rfl rfl rfl (FW.f_fieldPtr hk (FW.holds_nil _) rfl Go.Proofs.Try.underlying109 rfl (by kernel_rfl) rfl) ?_; clear hk; intro a w hk
      refine FW.lfun (y := .lit (.map (some xr0_1))) hk rfl rfl rfl rfl (FW.f_loadBlk1 hk (FW.holds_nil _) (j := 0) rfl rfl Go.Proofs.Try.underlying107 rfl rfl) ?_; clear hk; intro a w hk
      refine FW.l_clearMap (ev := FW.evS) (I' := [FW.blk b0 109 ([.lit (.slice xd2 (List.length l2) xc2)] ++ [.lit (.map (some xr0_1))] ++ [.lit (.int .i64 y1_2)] ++ [.lit (.slice xd0_3 (List.length v0.falls) xc0_3)] ++ [.lit (.bool y1_4)]), FW.orow xd2 xc2 9 1 c_str l2, FW.mapI (.int .i64) (Value.int .i64) FW.evS xr0_1 ([] : List (Int × (List UInt8))), FW.orow xd0_3 xc0_3 45 3 ApiFall.cells v0.falls]) (j := 2) hk rfl rfl Go.Proofs.Try.underlying107 rfl ?_; clear hk; intro w hk
      refine FW.lend (hK18 _ _ ?_); clear hK18 K'
      refine FW.wreg1 ?_
      refine FW.lfun (y := .lit (.pointer (some ⟨b0, 0, none⟩))) hk rfl rfl rfl rfl (FW.f_move hk (FW.holds_nil _) rfl) ?_; clear hk; intro a w hk
      refine FW.lfun (y := .lit (.pointer (some ⟨b0, 0, none⟩))) hk rfl rfl rfl rfl ((FW.f_pure (FW.p_nilCheck hk.kn (FW.holds_nil _) rfl))) ?_; clear hk; intro a w hk
      refine FW.lfun (y := .lit (.pointer (some ⟨b0, 4, none⟩))) hk rfl rfl rfl rfl (FW.f_fieldPtr hk (FW.holds_nil _) rfl Go.Proofs.Try.underlying109 rfl (by kernel_rfl) rfl) ?_; clear hk; intro a w hk
      refine FW.l_store (I' := [FW.blk b0 109 ([.lit (.slice xd2 (List.length l2) xc2)] ++ [.lit (.map (some xr0_1))] ++ [.lit (.int .i64 y1_2)] ++ [.lit (.slice xd0_3 (List.length v0.falls) xc0_3)] ++ [.lit (.bool true)]), FW.orow xd2 xc2 9 1 c_str l2, FW.mapI (.int .i64) (Value.int .i64) FW.evS xr0_1 ([] : List (Int × (List UInt8))), FW.orow xd0_3 xc0_3 45 3 ApiFall.cells v0.falls]) (cs' := [.lit (.slice xd2 (List.length l2) xc2)] ++ [.lit (.map (some xr0_1))] ++ [.lit (.int .i64 y1_2)] ++ [.lit (.slice xd0_3 (List.length v0.falls) xc0_3)] ++ [.lit (.bool true)]) (j := 0) hk rfl rfl rfl rfl rfl (by kernel_rfl) rfl rfl ?_; clear hk; intro w hk
      refine wpList_nil ?_
      (repeat first | refine FW.then_normal ?_ | refine FW.block_normal ?_)
      refine FW.fnorm ?_
      obtain rfl := Option.some.inj h
      replace hk := FW.S.keep (I1 := [FW.blk b0 109 ([.lit (.slice xd2 (List.length l2) xc2)] ++ [.lit (.map (some xr0_1))] ++ [.lit (.int .i64 y1_2)] ++ [.lit (.slice xd0_3 (List.length v0.falls) xc0_3)] ++ [.lit (.bool true)]), FW.orow xd2 xc2 9 1 c_str l2, FW.mapI (.int .i64) (Value.int .i64) FW.evS xr0_1 ([] : List (Int × (List UInt8))), FW.orow xd0_3 xc0_3 45 3 ApiFall.cells v0.falls]) (I2 := []) (js := [3, 3, 3, 3]) hk rfl
      exact FW.fretH0 hk rfl ⟨xd2, xc2, xr0_1, xd0_3, xc0_3, rfl, rfl⟩

theorem dev_Dev_step.ok (K : Nat) (v0 : ODevDev) (r : Int × ODevDev) (h : dev_Dev_step.f K v0 = some r) :
    ∀ (b0 : Nat) (xd0_0 : Option Addr) (xc0_0 : Nat) (xr0_1 : Nat) (xd0_3 : Option Addr) (xc0_3 : Nat), FW.OkH Go.Proofs.Try.prog 63 [.lit (.pointer (some ⟨b0, 0, none⟩))] (ODevDev.items b0 xd0_0 xc0_0 xr0_1 xd0_3 xc0_3 v0) (fun y I => ∃ (zxd0_0 : Option Addr) (zxc0_0 : Nat) (zxr0_1 : Nat) (zxd0_3 : Option Addr) (zxc0_3 : Nat), y = .lit (.int .i64 r.1) ∧ I = ODevDev.items b0 zxd0_0 zxc0_0 zxr0_1 zxd0_3 zxc0_3 r.2) := by
  intro b0 xd0_0 xc0_0 xr0_1 xd0_3 xc0_3
  refine FW.enterH (xs := [.lit (.pointer (some ⟨b0, 0, none⟩))]) Go.Proofs.Try.func63 rfl Go.Proofs.Try.ntmps63 rfl ?_
  intro M w0 a hk
  replace hk : FW.S M w0 a w0.toWorld 44 [FW.blk b0 109 ([.lit (.slice xd0_0 (List.length v0.sure) xc0_0)] ++ [.lit (.map (some xr0_1))] ++ [.lit (.int .i64 v0.steps)] ++ [.lit (.slice xd0_3 (List.length v0.falls) xc0_3)] ++ [.lit (.bool v0.off)]), FW.orow xd0_0 xc0_0 9 1 c_str v0.sure, FW.mapI (.int .i64) (Value.int .i64) FW.evS xr0_1 v0.cache, FW.orow xd0_3 xc0_3 45 3 ApiFall.cells v0.falls] [(0, [], .lit (.pointer (some ⟨b0, 0, none⟩)))] := hk
  unfold dev_Dev_step.f at h
  refine FW.wreg ?_; intro K' hK1
  refine FW.l_box (cs := [.lit (.pointer (some ⟨b0, 0, none⟩))]) hk rfl rfl rfl rfl rfl ?_; clear hk; intro bx1 a w hk
  refine FW.lfun (y := .lit (.int .i64 0)) hk rfl rfl rfl rfl (FW.f_assign hk (FW.holds_nil _) rfl) ?_; clear hk; intro a w hk
  refine FW.lend (hK1 _ _ ?_); clear hK1 K'
  refine FW.wreg ?_; intro K' hK2
  refine FW.lfun (y := .lit (.pointer (some ⟨b0, 0, none⟩))) hk rfl rfl rfl rfl (FW.f_loadBlk1 hk (FW.holds_nil _) (j := 0) rfl rfl Go.Proofs.Try.underlying46 rfl rfl) ?_; clear hk; intro a w hk
  refine FW.lfun (y := .lit (.pointer (some ⟨b0, 0, none⟩))) hk rfl rfl rfl rfl ((FW.f_pure (FW.p_nilCheck hk.kn (FW.holds_nil _) rfl))) ?_; clear hk; intro a w hk
  refine FW.lfun (y := .lit (.pointer (some ⟨b0, 3, none⟩))) hk rfl rfl rfl rfl (FW.f_fieldPtr hk (FW.holds_nil _) rfl Go.Proofs.Try.underlying109 rfl (by kernel_rfl) rfl) ?_; clear hk; intro a w hk
  refine FW.lfun (y := .lit (.slice xd0_3 (List.length v0.falls) xc0_3)) hk rfl rfl rfl rfl (FW.f_loadBlk1 hk (FW.holds_nil _) (j := 1) rfl rfl Go.Proofs.Try.underlying74 rfl rfl) ?_; clear hk; intro a w hk
  refine FW.lfun (y := .lit (.func (.func 88) #[] #[.pointer (some ⟨bx1, 0, none⟩)])) hk rfl rfl rfl rfl (FW.f_makeFunc hk (FW.holds_nil _) rfl) ?_; clear hk; intro a w hk
  obtain ⟨t1, hr_t1, h⟩ := FW.bnd h
  refine FW.l_callH (I1 := (OVarPDevDev.items bx1 b0 (⟨⟩ : OVarPDevDev)) ++ (ODevDev.items b0 xd0_0 xc0_0 xr0_1 xd0_3 xc0_3 v0)) (I2 := []) (js := [4, 4, 4, 4, 4]) hk rfl rfl rfl rfl rfl Go.Proofs.Try.func87 rfl (by kernel_rfl) (slices_IndexFunc_api_Fall_api_Fall_of_dev_Dev_step_1.ok K (⟨⟩ : OVarPDevDev) v0 _ hr_t1 bx1 b0 xd0_0 xc0_0 xr0_1 xd0_3 xc0_3) ?_; clear hk
  rintro _ _ ⟨rfl, rfl⟩ a w hk
  refine FW.lfun (y := .lit (.int .i64 t1)) hk rfl rfl rfl rfl (FW.f_assign hk (FW.holds_nil _) rfl) ?_; clear hk; intro a w hk
  refine FW.lend (hK2 _ _ ?_); clear hK2 K'
  refine FW.wseq ?_; intro K' hK3
  refine FW.wreg ?_; intro K' hK4
  refine FW.lfun (y := .lit (.int .i64 t1)) hk rfl rfl rfl rfl (FW.f_move hk (FW.holds_nil _) rfl) ?_; clear hk; intro a w hk
  refine FW.lfun (y := .lit (.bool (decide (t1 < 0)))) hk rfl rfl rfl rfl ((FW.f_pure (FW.p_lss hk.kn (FW.holds_nil _) rfl rfl))) ?_; clear hk; intro a w hk
  refine FW.lend (hK4 _ _ ?_); clear hK4 K'
  refine FW.wcondF (b := (decide (t1 < 0))) hk h rfl (fun h hb => ?_) (fun h hb => ?_)
  · skip
    refine FW.wreg ?_; intro K' hK5
    refine FW.lfun (y := .lit (.pointer (some ⟨b0, 0, none⟩))) hk rfl rfl rfl rfl (FW.f_loadBlk1 hk (FW.holds_nil _) (j := 0) rfl rfl Go.Proofs.Try.underlying46 rfl rfl) ?_; clear hk; intro a w hk
    refine FW.lfun (y := .lit (.pointer (some ⟨b0, 0, none⟩))) hk rfl rfl rfl rfl ((FW.f_pure (FW.p_nilCheck hk.kn (FW.holds_nil _) rfl))) ?_; clear hk; intro a w hk
    refine FW.lfun (y := .lit (.pointer (some ⟨b0, 2, none⟩))) hk rfl rfl rfl rfl (FW.f_fieldPtr hk (FW.holds_nil _) rfl Go.Proofs.Try.underlying109 rfl (by kernel_rfl) rfl) ?_; clear hk; intro a w hk
    refine FW.lfun (y := .lit (.int .i64 v0.steps)) hk rfl rfl rfl rfl (FW.f_loadBlk1 hk (FW.holds_nil _) (j := 1) rfl rfl Go.Proofs.Try.underlying3 rfl rfl) ?_; clear hk; intro a w hk
    refine FW.lfun (y := .lit (.int .i64 (IntKind.wrap .i64 (v0.steps + 1)))) hk rfl rfl rfl rfl ((FW.f_pure (FW.p_add hk.kn (FW.holds_nil _) rfl rfl))) ?_; clear hk; intro a w hk
    refine FW.lfun (y := .lit (.pointer (some ⟨b0, 0, none⟩))) hk rfl rfl rfl rfl ((FW.f_pure (FW.p_nilCheck hk.kn (FW.holds_nil _) rfl))) ?_; clear hk; intro a w hk
    refine FW.lfun (y := .lit (.pointer (some ⟨b0, 2, none⟩))) hk rfl rfl rfl rfl (FW.f_fieldPtr hk (FW.holds_nil _) rfl Go.Proofs.Try.underlying109 rfl (by kernel_rfl) rfl) ?_; clear hk; intro a w hk
    refine FW.l_store (I' := [FW.blk bx1 46 ([.lit (.pointer (some ⟨b0, 0, none⟩))]), FW.blk b0 109 ([.lit (.slice xd0_0 (List.length v0.sure) xc0_0)] ++ [.lit (.map (some xr0_1))] ++ [.lit (.int .i64 (IntKind.wrap .i64 (v0.steps + 1)))] ++ [.lit (.slice xd0_3 (List.length v0.falls) xc0_3)] ++ [.lit (.bool v0.off)]), FW.orow xd0_0 xc0_0 9 1 c_str v0.sure, FW.mapI (.int .i64) (Value.int .i64) FW.evS xr0_1 v0.cache, FW.orow xd0_3 xc0_3 45 3 ApiFall.cells v0.falls]) (cs' := [.lit (.slice xd0_0 (List.length v0.sure) xc0_0)] ++ [.lit (.map (some xr0_1))] ++ [.lit (.int .i64 (IntKind.wrap .i64 (v0.steps + 1)))] ++ [.lit (.slice xd0_3 (List.length v0.falls) xc0_3)] ++ [.lit (.bool v0.off)]) (j := 1) hk rfl rfl rfl rfl rfl (by kernel_rfl) rfl rfl ?_; clear hk; intro w hk
    refine FW.lend (hK5 _ _ ?_); clear hK5 K'
    refine FW.wreg ?_; intro K' hK6
    refine FW.lfun (y := .lit (.int .i64 0)) hk rfl rfl rfl rfl (FW.f_assign hk (FW.holds_nil _) rfl) ?_; clear hk; intro a w hk
    refine FW.lend (hK6 _ _ ?_); clear hK6 K'
    refine wp_ret ?_
    (repeat first | refine FW.then_ret ?_ | refine FW.block_ret ?_)
    obtain rfl := Option.some.inj h
    replace hk := FW.S.keep (I1 := [FW.blk b0 109 ([.lit (.slice xd0_0 (List.length v0.sure) xc0_0)] ++ [.lit (.map (some xr0_1))] ++ [.lit (.int .i64 (IntKind.wrap .i64 (v0.steps + 1)))] ++ [.lit (.slice xd0_3 (List.length v0.falls) xc0_3)] ++ [.lit (.bool v0.off)]), FW.orow xd0_0 xc0_0 9 1 c_str v0.sure, FW.mapI (.int .i64) (Value.int .i64) FW.evS xr0_1 v0.cache, FW.orow xd0_3 xc0_3 45 3 ApiFall.cells v0.falls]) (I2 := [FW.blk bx1 46 ([.lit (.pointer (some ⟨b0, 0, none⟩))])]) (js := [4, 4, 4, 4]) hk rfl
    exact FW.fretH1 hk rfl (FW.rtmp hk rfl) ⟨xd0_0, xc0_0, xr0_1, xd0_3, xc0_3, rfl, rfl⟩
  · skip
    refine wp_skip ?_
    (repeat first | refine FW.then_normal ?_ | refine FW.block_normal ?_); refine hK3 _ _ ?_
    refine FW.wreg ?_; intro K' hK7
    refine FW.lfun (y := .lit (.pointer (some ⟨b0, 0, none⟩))) hk rfl rfl rfl rfl (FW.f_loadBlk1 hk (FW.holds_nil _) (j := 0) rfl rfl Go.Proofs.Try.underlying46 rfl rfl) ?_; clear hk; intro a w hk
    refine FW.lfun (y := .lit (.pointer (some ⟨b0, 0, none⟩))) hk rfl rfl rfl rfl ((FW.f_pure (FW.p_nilCheck hk.kn (FW.holds_nil _) rfl))) ?_; clear hk; intro a w hk
    refine FW.lfun (y := .lit (.pointer (some ⟨b0, 3, none⟩))) hk rfl rfl rfl rfl (FW.f_fieldPtr hk (FW.holds_nil _) rfl Go.Proofs.Try.underlying109 rfl (by kernel_rfl) rfl) ?_; clear hk; intro a w hk
    refine FW.lfun (y := .lit (.slice xd0_3 (List.length v0.falls) xc0_3)) hk rfl rfl rfl rfl (FW.f_loadBlk1 hk (FW.holds_nil _) (j := 1) rfl rfl Go.Proofs.Try.underlying74 rfl rfl) ?_; clear hk; intro a w hk
    refine FW.lfun (y := .lit (.int .i64 t1)) hk rfl rfl rfl rfl (FW.f_move hk (FW.holds_nil _) rfl) ?_; clear hk; intro a w hk
    obtain ⟨hc1, h⟩ := FW.chk h
    refine FW.lfun (y := FW.elA xd0_3 3 t1) hk rfl rfl rfl rfl (FW.f_idxOwn (f := ApiFall.cells) (l := v0.falls) hk (FW.holds_nil _) (j := 4) rfl rfl (by first | rfl | simp only [List.length_set]) rfl Go.Proofs.Try.underlying74 (by kernel_rfl) hc1) ?_; clear hk; intro a w hk
    refine FW.lfun (y := .agg ((ApiFall.cells (List.getD v0.falls (Int.toNat t1) default)))) hk rfl rfl rfl rfl (FW.f_loadOwn (f := ApiFall.cells) (l := v0.falls) hk (FW.holds_nil _) (j := 4) rfl rfl hc1 Go.Proofs.Try.underlying45 rfl (by kernel_rfl)) ?_; clear hk; intro a w hk
    refine FW.l_alloc (zs := (ApiFall.cells (⟨0, 0, 0⟩ : ApiFall))) [] hk rfl rfl rfl rfl ?_; clear hk; intro bx2 a w hk
    refine FW.l_store (I' := [FW.blk bx2 45 ((ApiFall.cells (List.getD v0.falls (Int.toNat t1) default))), FW.blk bx1 46 ([.lit (.pointer (some ⟨b0, 0, none⟩))]), FW.blk b0 109 ([.lit (.slice xd0_0 (List.length v0.sure) xc0_0)] ++ [.lit (.map (some xr0_1))] ++ [.lit (.int .i64 v0.steps)] ++ [.lit (.slice xd0_3 (List.length v0.falls) xc0_3)] ++ [.lit (.bool v0.off)]), FW.orow xd0_0 xc0_0 9 1 c_str v0.sure, FW.mapI (.int .i64) (Value.int .i64) FW.evS xr0_1 v0.cache, FW.orow xd0_3 xc0_3 45 3 ApiFall.cells v0.falls]) (cs' := (ApiFall.cells (List.getD v0.falls (Int.toNat t1) default))) (j := 0) hk rfl rfl rfl rfl rfl (by kernel_rfl) rfl rfl ?_; clear hk; intro w hk
    refine FW.lend (hK7 _ _ ?_); clear hK7 K'
    obtain ⟨hc2, h⟩ := FW.chk h
    refine FW.wdrawE (.next [true, true, true, true, true, true, true, true, false, false, false, false] 8 [true, true, true, true, true, true, true, true, false, false, false, false] (.next [true, false, false, false, false, false, false, false, false, true, true, false] 11 [true, true, true, true, true, true, true, true, true, true, true, false] (.leaf [false, false, false, false, false, false, false, false, false, false, false, false]))) [(27, [], .lit (.pointer (some ⟨b0, 0, none⟩))), (28, [], .lit (.pointer (some ⟨b0, 0, none⟩))), (29, [], .lit (.pointer (some ⟨b0, 0, none⟩))), (30, [], .lit (.pointer (some ⟨b0, 3, none⟩))), (31, [], .lit (.slice xd0_3 (List.length v0.falls) xc0_3)), (32, [], .lit (.int .i64 t1)), (33, [], .lit (.int .i64 t1)), (34, [], .lit (.int .i64 (IntKind.wrap .i64 (t1 + 1)))), (35, [], .agg []), (36, [], .agg []), (37, [], .agg []), (44, [], .lit undef)] (by kernel_rfl) (by kernel_rfl) (by kernel_rfl) (by kernel_rfl) hk ?_; clear hk
    refine FW.gnext ?_ rfl rfl rfl rfl rfl ?_
    · skip
      refine FW.gfun (y := .lit (.pointer (some ⟨b0, 0, none⟩))) rfl rfl rfl rfl (fun a w hk => FW.f_loadBlk1 hk (FW.holds_nil _) (j := 1) rfl rfl Go.Proofs.Try.underlying46 rfl rfl) ?_
      refine FW.gfun (y := .lit (.pointer (some ⟨b0, 0, none⟩))) rfl rfl rfl rfl (fun a w hk => FW.f_loadBlk1 hk (FW.holds_nil _) (j := 1) rfl rfl Go.Proofs.Try.underlying46 rfl rfl) ?_
      refine FW.gfun (y := .lit (.pointer (some ⟨b0, 0, none⟩))) rfl rfl rfl rfl (fun a w hk => (FW.f_pure (FW.p_nilCheck hk.kn (FW.holds_nil _) rfl))) ?_
      refine FW.gfun (y := .lit (.pointer (some ⟨b0, 3, none⟩))) rfl rfl rfl rfl (fun a w hk => FW.f_fieldPtr hk (FW.holds_nil _) rfl Go.Proofs.Try.underlying109 rfl (by kernel_rfl) rfl) ?_
      refine FW.gfun (y := .lit (.slice xd0_3 (List.length v0.falls) xc0_3)) rfl rfl rfl rfl (fun a w hk => FW.f_loadBlk1 hk (FW.holds_nil _) (j := 2) rfl rfl Go.Proofs.Try.underlying74 rfl rfl) ?_
      refine FW.gfun (y := .lit (.int .i64 t1)) rfl rfl rfl rfl (fun a w hk => FW.f_move hk (FW.holds_nil _) rfl) ?_
      refine FW.gfun (y := .lit (.int .i64 t1)) rfl rfl rfl rfl (fun a w hk => FW.f_move hk (FW.holds_nil _) rfl) ?_
      refine FW.gfun (y := .lit (.int .i64 (IntKind.wrap .i64 (t1 + 1)))) rfl rfl rfl rfl (fun a w hk => (FW.f_pure (FW.p_add hk.kn (FW.holds_nil _) rfl rfl))) ?_
      refine FW.gskip rfl rfl ?_
      refine FW.gskip rfl rfl ?_
      refine FW.gskip rfl rfl ?_
      refine FW.gskip0 rfl ?_
      exact FW.gend
    · skip
      intro σD a w opsD QD hk hf hQ hX
      refine FW.l_callH (I1 := [FW.orow xd0_3 xc0_3 45 3 ApiFall.cells v0.falls]) (I2 := [FW.blk bx2 45 ((ApiFall.cells (List.getD v0.falls (Int.toNat t1) default))), FW.blk bx1 46 ([.lit (.pointer (some ⟨b0, 0, none⟩))]), FW.blk b0 109 ([.lit (.slice xd0_0 (List.length v0.sure) xc0_0)] ++ [.lit (.map (some xr0_1))] ++ [.lit (.int .i64 v0.steps)] ++ [.lit (.slice xd0_3 (List.length v0.falls) xc0_3)] ++ [.lit (.bool v0.off)]), FW.orow xd0_0 xc0_0 9 1 c_str v0.sure, FW.mapI (.int .i64) (Value.int .i64) FW.evS xr0_1 v0.cache]) (js := [5]) hk rfl rfl hf rfl rfl Go.Proofs.Try.func89 rfl (by kernel_rfl) (fallsDelete.ok' v0.falls t1 (IntKind.wrap .i64 (t1 + 1)) hc2 _ _) ?_; clear hk
      rintro _ _ ⟨rfl, rfl⟩ a w hk
      refine hQ _ _ a w ?_ hk; clear hk hQ hf hX
      refine ⟨[(27, [], .lit (.pointer (some ⟨b0, 0, none⟩))), (28, [], .lit (.pointer (some ⟨b0, 0, none⟩))), (29, [], .lit (.pointer (some ⟨b0, 0, none⟩))), (30, [], .lit (.pointer (some ⟨b0, 3, none⟩))), (31, [], .lit (.slice xd0_3 (List.length v0.falls) xc0_3)), (32, [], .lit (.int .i64 t1)), (33, [], .lit (.int .i64 t1)), (34, [], .lit (.int .i64 (IntKind.wrap .i64 (t1 + 1)))), (35, [], .lit (.slice xd0_3 (List.length ([] : List ApiFall)) xc0_3)), (36, [], .lit (.pointer (some ⟨b0, 0, none⟩))), (37, [], .lit (.pointer (some ⟨b0, 3, none⟩))), (44, [], .lit undef)], And.intro rfl (And.intro rfl (And.intro rfl (And.intro rfl (And.intro rfl (And.intro rfl (And.intro rfl (And.intro rfl (trivial)))))))), rfl, ?_⟩
      refine FW.gnext0 ?_ rfl rfl rfl ?_
      · skip
        refine FW.gfun (y := .lit (.pointer (some ⟨b0, 0, none⟩))) rfl rfl rfl rfl (fun a w hk => FW.f_loadBlk1 hk (FW.holds_nil _) (j := 2) rfl rfl Go.Proofs.Try.underlying46 rfl rfl) ?_
        refine FW.gskip rfl rfl ?_
        refine FW.gskip rfl rfl ?_
        refine FW.gskip rfl rfl ?_
        refine FW.gskip rfl rfl ?_
        refine FW.gskip rfl rfl ?_
        refine FW.gskip rfl rfl ?_
        refine FW.gskip rfl rfl ?_
        refine FW.gskip rfl rfl ?_
        refine FW.gfun (y := .lit (.pointer (some ⟨b0, 0, none⟩))) rfl rfl rfl rfl (fun a w hk => (FW.f_pure (FW.p_nilCheck hk.kn (FW.holds_nil _) rfl))) ?_
        refine FW.gfun (y := .lit (.pointer (some ⟨b0, 3, none⟩))) rfl rfl rfl rfl (fun a w hk => FW.f_fieldPtr hk (FW.holds_nil _) rfl Go.Proofs.Try.underlying109 rfl (by kernel_rfl) rfl) ?_
        refine FW.gskip0 rfl ?_
        exact FW.gend
      · skip
        intro σD a w opsD QD hk hQ hX
        refine FW.l_store (I' := [FW.orow xd0_3 xc0_3 45 3 ApiFall.cells ([] : List ApiFall), FW.blk bx2 45 ((ApiFall.cells (List.getD v0.falls (Int.toNat t1) default))), FW.blk bx1 46 ([.lit (.pointer (some ⟨b0, 0, none⟩))]), FW.blk b0 109 ([.lit (.slice xd0_0 (List.length v0.sure) xc0_0)] ++ [.lit (.map (some xr0_1))] ++ [.lit (.int .i64 v0.steps)] ++ [.lit (.slice xd0_3 (List.length ([] : List ApiFall)) xc0_3)] ++ [.lit (.bool v0.off)]), FW.orow xd0_0 xc0_0 9 1 c_str v0.sure, FW.mapI (.int .i64) (Value.int .i64) FW.evS xr0_1 v0.cache]) (cs' := [.lit (.slice xd0_0 (List.length v0.sure) xc0_0)] ++ [.lit (.map (some xr0_1))] ++ [.lit (.int .i64 v0.steps)] ++ [.lit (.slice xd0_3 (List.length ([] : List ApiFall)) xc0_3)] ++ [.lit (.bool v0.off)]) (j := 3) hk rfl rfl rfl rfl rfl (by kernel_rfl) rfl rfl ?_; clear hk; intro w hk
        refine hQ _ a w ?_ hk; clear hk hQ hX
        refine ⟨[(27, [], .lit (.pointer (some ⟨b0, 0, none⟩))), (28, [], .lit (.pointer (some ⟨b0, 0, none⟩))), (29, [], .lit (.pointer (some ⟨b0, 0, none⟩))), (30, [], .lit (.pointer (some ⟨b0, 3, none⟩))), (31, [], .lit (.slice xd0_3 (List.length v0.falls) xc0_3)), (32, [], .lit (.int .i64 t1)), (33, [], .lit (.int .i64 t1)), (34, [], .lit (.int .i64 (IntKind.wrap .i64 (t1 + 1)))), (35, [], .lit (.slice xd0_3 (List.length ([] : List ApiFall)) xc0_3)), (36, [], .lit (.pointer (some ⟨b0, 0, none⟩))), (37, [], .lit (.pointer (some ⟨b0, 3, none⟩))), (44, [], .lit undef)], And.intro rfl (And.intro rfl (And.intro rfl (And.intro rfl (And.intro rfl (And.intro rfl (And.intro rfl (And.intro rfl (And.intro rfl (And.intro rfl (And.intro rfl (trivial))))))))))), rfl, ?_⟩
        refine FW.glast ?_ ?_
        · skip
          refine FW.gskip rfl rfl ?_
          refine FW.gskip rfl rfl ?_
          refine FW.gskip rfl rfl ?_
          refine FW.gskip rfl rfl ?_
          refine FW.gskip rfl rfl ?_
          refine FW.gskip rfl rfl ?_
          refine FW.gskip rfl rfl ?_
          refine FW.gskip rfl rfl ?_
          refine FW.gskip rfl rfl ?_
          refine FW.gskip rfl rfl ?_
          refine FW.gskip rfl rfl ?_
          refine FW.gskip0 rfl ?_
          exact FW.gend
        · skip
          intro a w hk; simp only [FW.stD, cond_true] at hk
          refine FW.wreg ?_; intro K' hK9
          refine FW.lfun (y := .lit (.pointer (some ⟨b0, 0, none⟩))) hk rfl rfl rfl rfl (FW.f_loadBlk1 hk (FW.holds_nil _) (j := 2) rfl rfl Go.Proofs.Try.underlying46 rfl rfl) ?_; clear hk; intro a w hk
          refine FW.lfun (y := .lit (.pointer (some ⟨bx2, 1, none⟩))) hk rfl rfl rfl rfl (FW.f_fieldPtr hk (FW.holds_nil _) rfl Go.Proofs.Try.underlying45 rfl (by kernel_rfl) rfl) ?_; clear hk; intro a w hk
          refine FW.lfun (y := .lit (.int .u64 ((List.getD v0.falls (Int.toNat t1) default).Keep))) hk rfl rfl rfl rfl (FW.f_loadBlk1 hk (FW.holds_nil _) (j := 1) rfl rfl Go.Proofs.Try.underlying29 rfl rfl) ?_; clear hk; intro a w hk
          refine FW.lfun (y := .lit (.pointer (some ⟨bx2, 2, none⟩))) hk rfl rfl rfl rfl (FW.f_fieldPtr hk (FW.holds_nil _) rfl Go.Proofs.Try.underlying45 rfl (by kernel_rfl) rfl) ?_; clear hk; intro a w hk
          refine FW.lfun (y := .lit (.int .i64 ((List.getD v0.falls (Int.toNat t1) default).Torn))) hk rfl rfl rfl rfl (FW.f_loadBlk1 hk (FW.holds_nil _) (j := 1) rfl rfl Go.Proofs.Try.underlying3 rfl rfl) ?_; clear hk; intro a w hk
          obtain ⟨t2, hr_t2, h⟩ := FW.bnd h
          refine FW.l_callH (I1 := (ODevDev.items b0 xd0_0 xc0_0 xr0_1 xd0_3 xc0_3 (⟨v0.sure, v0.cache, v0.steps, ([] : List ApiFall), v0.off⟩ : ODevDev))) (I2 := [FW.blk bx2 45 ((ApiFall.cells (List.getD v0.falls (Int.toNat t1) default))), FW.blk bx1 46 ([.lit (.pointer (some ⟨b0, 0, none⟩))])]) (js := [0, 5, 5, 5]) hk rfl rfl rfl rfl rfl Go.Proofs.Try.func32 rfl (by kernel_rfl) (dev_Dev_Crash.ok K (⟨v0.sure, v0.cache, v0.steps, ([] : List ApiFall), v0.off⟩ : ODevDev) ((List.getD v0.falls (Int.toNat t1) default).Keep) ((List.getD v0.falls (Int.toNat t1) default).Torn) _ hr_t2 b0 xd0_0 xc0_0 xr0_1 xd0_3 xc0_3) ?_; clear hk
          rintro _ _ ⟨zd1, zc1, zr1, zd2, zc2, rfl, rfl⟩ a w hk
          refine FW.lend (hK9 _ _ ?_); clear hK9 K'
          refine FW.wreg ?_; intro K' hK10
          refine FW.lfun (y := .lit (.int .i64 7)) hk rfl rfl rfl rfl (FW.f_assign hk (FW.holds_nil _) rfl) ?_; clear hk; intro a w hk
          refine FW.lend (hK10 _ _ ?_); clear hK10 K'
          refine wp_ret ?_
          (repeat first | refine FW.then_ret ?_ | refine FW.block_ret ?_)
          obtain rfl := Option.some.inj h
          replace hk := FW.S.keep (I1 := [FW.blk b0 109 ([.lit (.slice zd1 (List.length t2.sure) zc1)] ++ [.lit (.map (some zr1))] ++ [.lit (.int .i64 t2.steps)] ++ [.lit (.slice zd2 (List.length t2.falls) zc2)] ++ [.lit (.bool t2.off)]), FW.orow zd1 zc1 9 1 c_str t2.sure, FW.mapI (.int .i64) (Value.int .i64) FW.evS zr1 t2.cache, FW.orow zd2 zc2 45 3 ApiFall.cells t2.falls]) (I2 := [FW.blk bx2 45 ((ApiFall.cells (List.getD v0.falls (Int.toNat t1) default))), FW.blk bx1 46 ([.lit (.pointer (some ⟨b0, 0, none⟩))])]) (js := [3, 3, 3, 3]) hk rfl
          exact FW.fretH1 hk rfl (FW.rtmp hk rfl) ⟨zd1, zc1, zr1, zd2, zc2, rfl, rfl⟩
end Go.Proofs.Ytimaibcaehagjaa

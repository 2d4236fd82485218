/- Written by a program of this session (gen.py): the contracts of functions of the program. -/
import Derived.KernelRfl
import Derived.Test.YtimaibcaehagjaaProg
import Derived.Test.YtimaibcaehagjaaAvFun
import Derived.Test.YtimaibcaehagjaaAvMan
import Derived.Test.YtimaibcaehagjaaAvMore
import Derived.Test.YtimaibcaehagjaaAvDraw2
import Derived.Test.YtimaibcaehagjaaAvRow
import Derived.Test.YtimaibcaehagjaaHn
import Derived.Test.YtimaibcaehagjaaDvD
namespace Go.Proofs.Ytimaibcaehagjaa
set_option linter.unusedVariables false
set_option maxRecDepth 20000
set_option maxHeartbeats 10000000
theorem dev_Dev_Off.ok  (v0 : ODevDev) (r : Bool × ODevDev) (h : dev_Dev_Off.f v0 = some r) :
    ∀ (b0 : Nat) (xd0_0 : Option Addr) (xc0_0 : Nat) (xr0_1 : Nat), FW.OkH Go.Proofs.Try.prog 41 [.lit (.pointer (some ⟨b0, 0, none⟩))] (ODevDev.items b0 xd0_0 xc0_0 xr0_1 v0) (fun y I => ∃ (zxd0_0 : Option Addr) (zxc0_0 : Nat) (zxr0_1 : Nat), y = .lit (.bool r.1) ∧ I = ODevDev.items b0 zxd0_0 zxc0_0 zxr0_1 r.2) := by
  intro b0 xd0_0 xc0_0 xr0_1
  refine FW.enterH (xs := [.lit (.pointer (some ⟨b0, 0, none⟩))]) Go.Proofs.Try.func41 rfl Go.Proofs.Try.ntmps41 rfl ?_
  intro M w0 a hk
  replace hk : FW.S M w0 a w0.toWorld 11 [FW.blk b0 109 ([.lit (.slice xd0_0 (List.length v0.sure) xc0_0)] ++ [.lit (.map (some xr0_1))] ++ [.lit (.int .i64 v0.steps)] ++ [.lit (.slice none 0 0)] ++ [.lit (.bool v0.off)]), FW.orow xd0_0 xc0_0 9 1 c_str v0.sure, FW.mapI (.int .i64) (Value.int .i64) FW.evS xr0_1 v0.cache] [(0, [], .lit (.pointer (some ⟨b0, 0, none⟩)))] := hk
  unfold dev_Dev_Off.f at h
  refine FW.wreg ?_; intro K' hK1
  refine FW.lfun (y := .lit (.bool false)) hk rfl rfl rfl rfl (FW.f_assign hk (FW.holds_nil _) rfl) ?_; clear hk; intro a w hk
  refine FW.lend (hK1 _ _ ?_); clear hK1 K'
  refine FW.wreg ?_; intro K' hK2
  refine FW.lfun (y := .lit (.pointer (some ⟨b0, 0, none⟩))) hk rfl rfl rfl rfl (FW.f_move hk (FW.holds_nil _) rfl) ?_; clear hk; intro a w hk
  refine FW.lfun (y := .lit (.bool false)) hk rfl rfl rfl rfl ((FW.f_pure (FW.p_ptrEq Go.Proofs.Try.underlying46 hk.kn (FW.holds_nil _) rfl rfl rfl))) ?_; clear hk; intro a w hk
  refine FW.lfun (y := .lit (.bool false)) hk rfl rfl rfl rfl (FW.f_move hk (FW.holds_nil _) rfl) ?_; clear hk; intro a w hk
  refine FW.lfunG (y := .lit (.pointer (some ⟨b0, 0, none⟩))) hk rfl rfl rfl rfl rfl rfl rfl rfl (fun hc => FW.f_move hk hc rfl) ?_; clear hk; intro a w hk
  refine FW.lfunG (y := .lit (.pointer (some ⟨b0, 0, none⟩))) hk rfl rfl rfl rfl rfl rfl rfl rfl (fun hc => (FW.f_pure (FW.p_nilCheck hk.kn hc rfl))) ?_; clear hk; intro a w hk
  refine FW.lfunG (y := .lit (.pointer (some ⟨b0, 4, none⟩))) hk rfl rfl rfl rfl rfl rfl rfl rfl (fun hc => FW.f_fieldPtr hk hc rfl Go.Proofs.Try.underlying109 rfl (by kernel_rfl) rfl) ?_; clear hk; intro a w hk
  refine FW.lfunG (y := .lit (.bool v0.off)) hk rfl rfl rfl rfl rfl rfl rfl rfl (fun hc => FW.f_loadBlk1 hk hc (j := 0) rfl rfl Go.Proofs.Try.underlying4 rfl rfl) ?_; clear hk; intro a w hk
  refine FW.lfun (y := .lit (.bool v0.off)) hk rfl rfl rfl rfl ((FW.f_pure (FW.p_pickX hk.kn (FW.holds_nil _) rfl rfl))) ?_; clear hk; intro a w hk
  refine FW.lfun (y := .lit (.bool v0.off)) hk rfl rfl rfl rfl (FW.f_assign hk (FW.holds_nil _) rfl) ?_; clear hk; intro a w hk
  refine FW.lend (hK2 _ _ ?_); clear hK2 K'
  refine wp_ret ?_
  (repeat first | refine FW.then_ret ?_ | refine FW.block_ret ?_)
  obtain rfl := Option.some.inj h
  replace hk := FW.S.keep (I1 := [FW.blk b0 109 ([.lit (.slice xd0_0 (List.length v0.sure) xc0_0)] ++ [.lit (.map (some xr0_1))] ++ [.lit (.int .i64 v0.steps)] ++ [.lit (.slice none 0 0)] ++ [.lit (.bool v0.off)]), FW.orow xd0_0 xc0_0 9 1 c_str v0.sure, FW.mapI (.int .i64) (Value.int .i64) FW.evS xr0_1 v0.cache]) (I2 := []) (js := [2, 2, 2]) hk rfl
  exact FW.fretH1 hk rfl (FW.rtmp hk rfl) ⟨xd0_0, xc0_0, xr0_1, rfl, rfl⟩

theorem dev_Dev_Len.ok  (v0 : ODevDev) (r : Int × ODevDev) (h : dev_Dev_Len.f v0 = some r) :
    ∀ (b0 : Nat) (xd0_0 : Option Addr) (xc0_0 : Nat) (xr0_1 : Nat), FW.OkH Go.Proofs.Try.prog 42 [.lit (.pointer (some ⟨b0, 0, none⟩))] (ODevDev.items b0 xd0_0 xc0_0 xr0_1 v0) (fun y I => ∃ (zxd0_0 : Option Addr) (zxc0_0 : Nat) (zxr0_1 : Nat), y = .lit (.int .i64 r.1) ∧ I = ODevDev.items b0 zxd0_0 zxc0_0 zxr0_1 r.2) := by
  intro b0 xd0_0 xc0_0 xr0_1
  refine FW.enterH (xs := [.lit (.pointer (some ⟨b0, 0, none⟩))]) Go.Proofs.Try.func42 rfl Go.Proofs.Try.ntmps42 rfl ?_
  intro M w0 a hk
  replace hk : FW.S M w0 a w0.toWorld 10 [FW.blk b0 109 ([.lit (.slice xd0_0 (List.length v0.sure) xc0_0)] ++ [.lit (.map (some xr0_1))] ++ [.lit (.int .i64 v0.steps)] ++ [.lit (.slice none 0 0)] ++ [.lit (.bool v0.off)]), FW.orow xd0_0 xc0_0 9 1 c_str v0.sure, FW.mapI (.int .i64) (Value.int .i64) FW.evS xr0_1 v0.cache] [(0, [], .lit (.pointer (some ⟨b0, 0, none⟩)))] := hk
  unfold dev_Dev_Len.f at h
  refine FW.wreg ?_; intro K' hK1
  refine FW.lfun (y := .lit (.int .i64 0)) hk rfl rfl rfl rfl (FW.f_assign hk (FW.holds_nil _) rfl) ?_; clear hk; intro a w hk
  refine FW.lend (hK1 _ _ ?_); clear hK1 K'
  refine FW.wseq ?_; intro K' hK2
  refine FW.wreg ?_; intro K' hK3
  refine FW.lfun (y := .lit (.pointer (some ⟨b0, 0, none⟩))) hk rfl rfl rfl rfl (FW.f_move hk (FW.holds_nil _) rfl) ?_; clear hk; intro a w hk
  refine FW.lfun (y := .lit (.bool false)) hk rfl rfl rfl rfl ((FW.f_pure (FW.p_ptrEq Go.Proofs.Try.underlying46 hk.kn (FW.holds_nil _) rfl rfl rfl))) ?_; clear hk; intro a w hk
  refine FW.lend (hK3 _ _ ?_); clear hK3 K'
  refine FW.wcondX hk rfl ?_
  refine wp_skip ?_
  (repeat first | refine FW.then_normal ?_ | refine FW.block_normal ?_); refine hK2 _ _ ?_
  refine FW.wreg ?_; intro K' hK4
  refine FW.lfun (y := .lit (.pointer (some ⟨b0, 0, none⟩))) hk rfl rfl rfl rfl (FW.f_move hk (FW.holds_nil _) rfl) ?_; clear hk; intro a w hk
  refine FW.lfun (y := .lit (.pointer (some ⟨b0, 0, none⟩))) hk rfl rfl rfl rfl ((FW.f_pure (FW.p_nilCheck hk.kn (FW.holds_nil _) rfl))) ?_; clear hk; intro a w hk
  refine FW.lfun (y := .lit (.pointer (some ⟨b0, 0, none⟩))) hk rfl rfl rfl rfl (FW.f_fieldPtr hk (FW.holds_nil _) rfl Go.Proofs.Try.underlying109 rfl (by kernel_rfl) rfl) ?_; clear hk; intro a w hk
  refine FW.lfun (y := .lit (.slice xd0_0 (List.length v0.sure) xc0_0)) hk rfl rfl rfl rfl (FW.f_loadBlk1 hk (FW.holds_nil _) (j := 0) rfl rfl Go.Proofs.Try.underlying61 rfl rfl) ?_; clear hk; intro a w hk
  refine FW.lfun (y := .lit (.int .i64 (List.length v0.sure : Int))) hk rfl rfl rfl rfl ((FW.f_pure (FW.p_len Go.Proofs.Try.underlying61 hk.kn (FW.holds_nil _) rfl))) ?_; clear hk; intro a w hk
  refine FW.lfun (y := .lit (.int .i64 (List.length v0.sure : Int))) hk rfl rfl rfl rfl (FW.f_assign hk (FW.holds_nil _) rfl) ?_; clear hk; intro a w hk
  refine FW.lend (hK4 _ _ ?_); clear hK4 K'
  refine wp_ret ?_
  (repeat first | refine FW.then_ret ?_ | refine FW.block_ret ?_)
  obtain rfl := Option.some.inj h
  replace hk := FW.S.keep (I1 := [FW.blk b0 109 ([.lit (.slice xd0_0 (List.length v0.sure) xc0_0)] ++ [.lit (.map (some xr0_1))] ++ [.lit (.int .i64 v0.steps)] ++ [.lit (.slice none 0 0)] ++ [.lit (.bool v0.off)]), FW.orow xd0_0 xc0_0 9 1 c_str v0.sure, FW.mapI (.int .i64) (Value.int .i64) FW.evS xr0_1 v0.cache]) (I2 := []) (js := [2, 2, 2]) hk rfl
  exact FW.fretH1 hk rfl (FW.rtmp hk rfl) ⟨xd0_0, xc0_0, xr0_1, rfl, rfl⟩

theorem dev_Dev_Steps.ok  (v0 : ODevDev) (r : Int × ODevDev) (h : dev_Dev_Steps.f v0 = some r) :
    ∀ (b0 : Nat) (xd0_0 : Option Addr) (xc0_0 : Nat) (xr0_1 : Nat), FW.OkH Go.Proofs.Try.prog 43 [.lit (.pointer (some ⟨b0, 0, none⟩))] (ODevDev.items b0 xd0_0 xc0_0 xr0_1 v0) (fun y I => ∃ (zxd0_0 : Option Addr) (zxc0_0 : Nat) (zxr0_1 : Nat), y = .lit (.int .i64 r.1) ∧ I = ODevDev.items b0 zxd0_0 zxc0_0 zxr0_1 r.2) := by
  intro b0 xd0_0 xc0_0 xr0_1
  refine FW.enterH (xs := [.lit (.pointer (some ⟨b0, 0, none⟩))]) Go.Proofs.Try.func43 rfl Go.Proofs.Try.ntmps43 rfl ?_
  intro M w0 a hk
  replace hk : FW.S M w0 a w0.toWorld 9 [FW.blk b0 109 ([.lit (.slice xd0_0 (List.length v0.sure) xc0_0)] ++ [.lit (.map (some xr0_1))] ++ [.lit (.int .i64 v0.steps)] ++ [.lit (.slice none 0 0)] ++ [.lit (.bool v0.off)]), FW.orow xd0_0 xc0_0 9 1 c_str v0.sure, FW.mapI (.int .i64) (Value.int .i64) FW.evS xr0_1 v0.cache] [(0, [], .lit (.pointer (some ⟨b0, 0, none⟩)))] := hk
  unfold dev_Dev_Steps.f at h
  refine FW.wreg ?_; intro K' hK1
  refine FW.lfun (y := .lit (.int .i64 0)) hk rfl rfl rfl rfl (FW.f_assign hk (FW.holds_nil _) rfl) ?_; clear hk; intro a w hk
  refine FW.lend (hK1 _ _ ?_); clear hK1 K'
  refine FW.wseq ?_; intro K' hK2
  refine FW.wreg ?_; intro K' hK3
  refine FW.lfun (y := .lit (.pointer (some ⟨b0, 0, none⟩))) hk rfl rfl rfl rfl (FW.f_move hk (FW.holds_nil _) rfl) ?_; clear hk; intro a w hk
  refine FW.lfun (y := .lit (.bool false)) hk rfl rfl rfl rfl ((FW.f_pure (FW.p_ptrEq Go.Proofs.Try.underlying46 hk.kn (FW.holds_nil _) rfl rfl rfl))) ?_; clear hk; intro a w hk
  refine FW.lend (hK3 _ _ ?_); clear hK3 K'
  refine FW.wcondX hk rfl ?_
  refine wp_skip ?_
  (repeat first | refine FW.then_normal ?_ | refine FW.block_normal ?_); refine hK2 _ _ ?_
  refine FW.wreg ?_; intro K' hK4
  refine FW.lfun (y := .lit (.pointer (some ⟨b0, 0, none⟩))) hk rfl rfl rfl rfl (FW.f_move hk (FW.holds_nil _) rfl) ?_; clear hk; intro a w hk
  refine FW.lfun (y := .lit (.pointer (some ⟨b0, 0, none⟩))) hk rfl rfl rfl rfl ((FW.f_pure (FW.p_nilCheck hk.kn (FW.holds_nil _) rfl))) ?_; clear hk; intro a w hk
  refine FW.lfun (y := .lit (.pointer (some ⟨b0, 2, none⟩))) hk rfl rfl rfl rfl (FW.f_fieldPtr hk (FW.holds_nil _) rfl Go.Proofs.Try.underlying109 rfl (by kernel_rfl) rfl) ?_; clear hk; intro a w hk
  refine FW.lfun (y := .lit (.int .i64 v0.steps)) hk rfl rfl rfl rfl (FW.f_loadBlk1 hk (FW.holds_nil _) (j := 0) rfl rfl Go.Proofs.Try.underlying3 rfl rfl) ?_; clear hk; intro a w hk
  refine FW.lfun (y := .lit (.int .i64 v0.steps)) hk rfl rfl rfl rfl (FW.f_assign hk (FW.holds_nil _) rfl) ?_; clear hk; intro a w hk
  refine FW.lend (hK4 _ _ ?_); clear hK4 K'
  refine wp_ret ?_
  (repeat first | refine FW.then_ret ?_ | refine FW.block_ret ?_)
  obtain rfl := Option.some.inj h
  replace hk := FW.S.keep (I1 := [FW.blk b0 109 ([.lit (.slice xd0_0 (List.length v0.sure) xc0_0)] ++ [.lit (.map (some xr0_1))] ++ [.lit (.int .i64 v0.steps)] ++ [.lit (.slice none 0 0)] ++ [.lit (.bool v0.off)]), FW.orow xd0_0 xc0_0 9 1 c_str v0.sure, FW.mapI (.int .i64) (Value.int .i64) FW.evS xr0_1 v0.cache]) (I2 := []) (js := [2, 2, 2]) hk rfl
  exact FW.fretH1 hk rfl (FW.rtmp hk rfl) ⟨xd0_0, xc0_0, xr0_1, rfl, rfl⟩

theorem dev_Dev_Up.ok  (v0 : ODevDev) (r : Bool × ODevDev) (h : dev_Dev_Up.f v0 = some r) :
    ∀ (b0 : Nat) (xd0_0 : Option Addr) (xc0_0 : Nat) (xr0_1 : Nat), FW.OkH Go.Proofs.Try.prog 33 [.lit (.pointer (some ⟨b0, 0, none⟩))] (ODevDev.items b0 xd0_0 xc0_0 xr0_1 v0) (fun y I => ∃ (zxd0_0 : Option Addr) (zxc0_0 : Nat) (zxr0_1 : Nat), y = .lit (.bool r.1) ∧ I = ODevDev.items b0 zxd0_0 zxc0_0 zxr0_1 r.2) := by
  intro b0 xd0_0 xc0_0 xr0_1
  refine FW.enterH (xs := [.lit (.pointer (some ⟨b0, 0, none⟩))]) Go.Proofs.Try.func33 rfl Go.Proofs.Try.ntmps33 rfl ?_
  intro M w0 a hk
  replace hk : FW.S M w0 a w0.toWorld 15 [FW.blk b0 109 ([.lit (.slice xd0_0 (List.length v0.sure) xc0_0)] ++ [.lit (.map (some xr0_1))] ++ [.lit (.int .i64 v0.steps)] ++ [.lit (.slice none 0 0)] ++ [.lit (.bool v0.off)]), FW.orow xd0_0 xc0_0 9 1 c_str v0.sure, FW.mapI (.int .i64) (Value.int .i64) FW.evS xr0_1 v0.cache] [(0, [], .lit (.pointer (some ⟨b0, 0, none⟩)))] := hk
  unfold dev_Dev_Up.f at h
  refine FW.wreg ?_; intro K' hK1
  refine FW.lfun (y := .lit (.bool false)) hk rfl rfl rfl rfl (FW.f_assign hk (FW.holds_nil _) rfl) ?_; clear hk; intro a w hk
  refine FW.lend (hK1 _ _ ?_); clear hK1 K'
  refine FW.wseq ?_; intro K' hK2
  refine FW.wreg ?_; intro K' hK3
  refine FW.lfun (y := .lit (.pointer (some ⟨b0, 0, none⟩))) hk rfl rfl rfl rfl (FW.f_move hk (FW.holds_nil _) rfl) ?_; clear hk; intro a w hk
  refine FW.lfun (y := .lit (.bool false)) hk rfl rfl rfl rfl ((FW.f_pure (FW.p_ptrEq Go.Proofs.Try.underlying46 hk.kn (FW.holds_nil _) rfl rfl rfl))) ?_; clear hk; intro a w hk
  refine FW.lfun (y := .lit (.bool false)) hk rfl rfl rfl rfl (FW.f_move hk (FW.holds_nil _) rfl) ?_; clear hk; intro a w hk
  refine FW.lfunG (y := .lit (.pointer (some ⟨b0, 0, none⟩))) hk rfl rfl rfl rfl rfl rfl rfl rfl (fun hc => FW.f_move hk hc rfl) ?_; clear hk; intro a w hk
  refine FW.lfunG (y := .lit (.pointer (some ⟨b0, 0, none⟩))) hk rfl rfl rfl rfl rfl rfl rfl rfl (fun hc => (FW.f_pure (FW.p_nilCheck hk.kn hc rfl))) ?_; clear hk; intro a w hk
  refine FW.lfunG (y := .lit (.pointer (some ⟨b0, 4, none⟩))) hk rfl rfl rfl rfl rfl rfl rfl rfl (fun hc => FW.f_fieldPtr hk hc rfl Go.Proofs.Try.underlying109 rfl (by kernel_rfl) rfl) ?_; clear hk; intro a w hk
  refine FW.lfunG (y := .lit (.bool v0.off)) hk rfl rfl rfl rfl rfl rfl rfl rfl (fun hc => FW.f_loadBlk1 hk hc (j := 0) rfl rfl Go.Proofs.Try.underlying4 rfl rfl) ?_; clear hk; intro a w hk
  refine FW.lfunG (y := .lit (.bool (!v0.off))) hk rfl rfl rfl rfl rfl rfl rfl rfl (fun hc => (FW.f_pure (FW.p_not hk.kn hc rfl))) ?_; clear hk; intro a w hk
  refine FW.lfun (y := .lit (.bool (!v0.off))) hk rfl rfl rfl rfl ((FW.f_pure (FW.p_pickX hk.kn (FW.holds_nil _) rfl rfl))) ?_; clear hk; intro a w hk
  refine FW.lend (hK3 _ _ ?_); clear hK3 K'
  refine FW.wcondF (b := (!v0.off)) hk h rfl (fun h hb => ?_) (fun h hb => ?_)
  · skip
    refine FW.wreg ?_; intro K' hK4
    refine FW.lfun (y := .lit (.bool false)) hk rfl rfl rfl rfl (FW.f_assign hk (FW.holds_nil _) rfl) ?_; clear hk; intro a w hk
    refine FW.lend (hK4 _ _ ?_); clear hK4 K'
    refine wp_ret ?_
    (repeat first | refine FW.then_ret ?_ | refine FW.block_ret ?_)
    obtain rfl := Option.some.inj h
    replace hk := FW.S.keep (I1 := [FW.blk b0 109 ([.lit (.slice xd0_0 (List.length v0.sure) xc0_0)] ++ [.lit (.map (some xr0_1))] ++ [.lit (.int .i64 v0.steps)] ++ [.lit (.slice none 0 0)] ++ [.lit (.bool v0.off)]), FW.orow xd0_0 xc0_0 9 1 c_str v0.sure, FW.mapI (.int .i64) (Value.int .i64) FW.evS xr0_1 v0.cache]) (I2 := []) (js := [2, 2, 2]) hk rfl
    exact FW.fretH1 hk rfl (FW.rtmp hk rfl) ⟨xd0_0, xc0_0, xr0_1, rfl, rfl⟩
  · skip
    refine wp_skip ?_
    (repeat first | refine FW.then_normal ?_ | refine FW.block_normal ?_); refine hK2 _ _ ?_
    refine FW.wreg ?_; intro K' hK5
    refine FW.lfun (y := .lit (.pointer (some ⟨b0, 0, none⟩))) hk rfl rfl rfl rfl (FW.f_move hk (FW.holds_nil _) rfl) ?_; clear hk; intro a w hk
    refine FW.lfun (y := .lit (.pointer (some ⟨b0, 0, none⟩))) hk rfl rfl rfl rfl ((FW.f_pure (FW.p_nilCheck hk.kn (FW.holds_nil _) rfl))) ?_; clear hk; intro a w hk
    refine FW.lfun (y := .lit (.pointer (some ⟨b0, 4, none⟩))) hk rfl rfl rfl rfl (FW.f_fieldPtr hk (FW.holds_nil _) rfl Go.Proofs.Try.underlying109 rfl (by kernel_rfl) rfl) ?_; clear hk; intro a w hk
    refine FW.l_store (I' := [FW.blk b0 109 ([.lit (.slice xd0_0 (List.length v0.sure) xc0_0)] ++ [.lit (.map (some xr0_1))] ++ [.lit (.int .i64 v0.steps)] ++ [.lit (.slice none 0 0)] ++ [.lit (.bool false)]), FW.orow xd0_0 xc0_0 9 1 c_str v0.sure, FW.mapI (.int .i64) (Value.int .i64) FW.evS xr0_1 v0.cache]) (cs' := [.lit (.slice xd0_0 (List.length v0.sure) xc0_0)] ++ [.lit (.map (some xr0_1))] ++ [.lit (.int .i64 v0.steps)] ++ [.lit (.slice none 0 0)] ++ [.lit (.bool false)]) (j := 0) hk rfl rfl rfl rfl rfl (by kernel_rfl) rfl rfl ?_; clear hk; intro w hk
    refine FW.lend (hK5 _ _ ?_); clear hK5 K'
    refine FW.wreg ?_; intro K' hK6
    refine FW.lfun (y := .lit (.bool true)) hk rfl rfl rfl rfl (FW.f_assign hk (FW.holds_nil _) rfl) ?_; clear hk; intro a w hk
    refine FW.lend (hK6 _ _ ?_); clear hK6 K'
    refine wp_ret ?_
    (repeat first | refine FW.then_ret ?_ | refine FW.block_ret ?_)
    obtain rfl := Option.some.inj h
    replace hk := FW.S.keep (I1 := [FW.blk b0 109 ([.lit (.slice xd0_0 (List.length v0.sure) xc0_0)] ++ [.lit (.map (some xr0_1))] ++ [.lit (.int .i64 v0.steps)] ++ [.lit (.slice none 0 0)] ++ [.lit (.bool false)]), FW.orow xd0_0 xc0_0 9 1 c_str v0.sure, FW.mapI (.int .i64) (Value.int .i64) FW.evS xr0_1 v0.cache]) (I2 := []) (js := [2, 2, 2]) hk rfl
    exact FW.fretH1 hk rfl (FW.rtmp hk rfl) ⟨xd0_0, xc0_0, xr0_1, rfl, rfl⟩

theorem dev_Dev_Loose.ok  (v0 : ODevDev) (r : Int × ODevDev) (h : dev_Dev_Loose.f v0 = some r) :
    ∀ (b0 : Nat) (xd0_0 : Option Addr) (xc0_0 : Nat) (xr0_1 : Nat), FW.OkH Go.Proofs.Try.prog 35 [.lit (.pointer (some ⟨b0, 0, none⟩))] (ODevDev.items b0 xd0_0 xc0_0 xr0_1 v0) (fun y I => ∃ (zxd0_0 : Option Addr) (zxc0_0 : Nat) (zxr0_1 : Nat), y = .lit (.int .i64 r.1) ∧ I = ODevDev.items b0 zxd0_0 zxc0_0 zxr0_1 r.2) := by
  intro b0 xd0_0 xc0_0 xr0_1
  refine FW.enterH (xs := [.lit (.pointer (some ⟨b0, 0, none⟩))]) Go.Proofs.Try.func35 rfl Go.Proofs.Try.ntmps35 rfl ?_
  intro M w0 a hk
  replace hk : FW.S M w0 a w0.toWorld 10 [FW.blk b0 109 ([.lit (.slice xd0_0 (List.length v0.sure) xc0_0)] ++ [.lit (.map (some xr0_1))] ++ [.lit (.int .i64 v0.steps)] ++ [.lit (.slice none 0 0)] ++ [.lit (.bool v0.off)]), FW.orow xd0_0 xc0_0 9 1 c_str v0.sure, FW.mapI (.int .i64) (Value.int .i64) FW.evS xr0_1 v0.cache] [(0, [], .lit (.pointer (some ⟨b0, 0, none⟩)))] := hk
  unfold dev_Dev_Loose.f at h
  refine FW.wreg ?_; intro K' hK1
  refine FW.lfun (y := .lit (.int .i64 0)) hk rfl rfl rfl rfl (FW.f_assign hk (FW.holds_nil _) rfl) ?_; clear hk; intro a w hk
  refine FW.lend (hK1 _ _ ?_); clear hK1 K'
  refine FW.wseq ?_; intro K' hK2
  refine FW.wreg ?_; intro K' hK3
  refine FW.lfun (y := .lit (.pointer (some ⟨b0, 0, none⟩))) hk rfl rfl rfl rfl (FW.f_move hk (FW.holds_nil _) rfl) ?_; clear hk; intro a w hk
  refine FW.lfun (y := .lit (.bool false)) hk rfl rfl rfl rfl ((FW.f_pure (FW.p_ptrEq Go.Proofs.Try.underlying46 hk.kn (FW.holds_nil _) rfl rfl rfl))) ?_; clear hk; intro a w hk
  refine FW.lend (hK3 _ _ ?_); clear hK3 K'
  refine FW.wcondX hk rfl ?_
  refine wp_skip ?_
  (repeat first | refine FW.then_normal ?_ | refine FW.block_normal ?_); refine hK2 _ _ ?_
  refine FW.wreg ?_; intro K' hK4
  refine FW.lfun (y := .lit (.pointer (some ⟨b0, 0, none⟩))) hk rfl rfl rfl rfl (FW.f_move hk (FW.holds_nil _) rfl) ?_; clear hk; intro a w hk
  refine FW.lfun (y := .lit (.pointer (some ⟨b0, 0, none⟩))) hk rfl rfl rfl rfl ((FW.f_pure (FW.p_nilCheck hk.kn (FW.holds_nil _) rfl))) ?_; clear hk; intro a w hk
  refine FW.lfun (y := .lit (.pointer (some ⟨b0, 1, none⟩))) hk rfl rfl rfl rfl (FW.f_fieldPtr hk (FW.holds_nil _) rfl Go.Proofs.Try.underlying109 rfl (by kernel_rfl) rfl) ?_; clear hk; intro a w hk
  refine FW.lfun (y := .lit (.map (some xr0_1))) hk rfl rfl rfl rfl (FW.f_loadBlk1 hk (FW.holds_nil _) (j := 0) rfl rfl Go.Proofs.Try.underlying107 rfl rfl) ?_; clear hk; intro a w hk
  refine FW.lfun (y := .lit (.int .i64 (List.length v0.cache : Int))) hk rfl rfl rfl rfl (FW.f_lenMap (ev := FW.evS) hk (FW.holds_nil _) (j := 2) rfl rfl Go.Proofs.Try.underlying107) ?_; clear hk; intro a w hk
  refine FW.lfun (y := .lit (.int .i64 (List.length v0.cache : Int))) hk rfl rfl rfl rfl (FW.f_assign hk (FW.holds_nil _) rfl) ?_; clear hk; intro a w hk
  refine FW.lend (hK4 _ _ ?_); clear hK4 K'
  refine wp_ret ?_
  (repeat first | refine FW.then_ret ?_ | refine FW.block_ret ?_)
  obtain rfl := Option.some.inj h
  replace hk := FW.S.keep (I1 := [FW.blk b0 109 ([.lit (.slice xd0_0 (List.length v0.sure) xc0_0)] ++ [.lit (.map (some xr0_1))] ++ [.lit (.int .i64 v0.steps)] ++ [.lit (.slice none 0 0)] ++ [.lit (.bool v0.off)]), FW.orow xd0_0 xc0_0 9 1 c_str v0.sure, FW.mapI (.int .i64) (Value.int .i64) FW.evS xr0_1 v0.cache]) (I2 := []) (js := [2, 2, 2]) hk rfl
  exact FW.fretH1 hk rfl (FW.rtmp hk rfl) ⟨xd0_0, xc0_0, xr0_1, rfl, rfl⟩

theorem dev_Dev_Read.ok  (v0 : ODevDev) (v1 : Int) (r : List UInt8 × Int × ODevDev) (h : dev_Dev_Read.f v0 v1 = some r) :
    ∀ (b0 : Nat) (xd0_0 : Option Addr) (xc0_0 : Nat) (xr0_1 : Nat), FW.OkH Go.Proofs.Try.prog 34 [.lit (.pointer (some ⟨b0, 0, none⟩)), .lit (.int .i64 v1)] (ODevDev.items b0 xd0_0 xc0_0 xr0_1 v0) (fun y I => ∃ (zxd0_0 : Option Addr) (zxc0_0 : Nat) (zxr0_1 : Nat), y = .tup [.lit (.string (FW.B r.1)), .lit (.int .i64 r.2.1)] ∧ I = ODevDev.items b0 zxd0_0 zxc0_0 zxr0_1 r.2.2) := by
  intro b0 xd0_0 xc0_0 xr0_1
  refine FW.enterH (xs := [.lit (.pointer (some ⟨b0, 0, none⟩)), .lit (.int .i64 v1)]) Go.Proofs.Try.func34 rfl Go.Proofs.Try.ntmps34 rfl ?_
  intro M w0 a hk
  replace hk : FW.S M w0 a w0.toWorld 41 [FW.blk b0 109 ([.lit (.slice xd0_0 (List.length v0.sure) xc0_0)] ++ [.lit (.map (some xr0_1))] ++ [.lit (.int .i64 v0.steps)] ++ [.lit (.slice none 0 0)] ++ [.lit (.bool v0.off)]), FW.orow xd0_0 xc0_0 9 1 c_str v0.sure, FW.mapI (.int .i64) (Value.int .i64) FW.evS xr0_1 v0.cache] [(0, [], .lit (.pointer (some ⟨b0, 0, none⟩))), (1, [], .lit (.int .i64 v1))] := hk
  unfold dev_Dev_Read.f at h
  refine FW.wreg ?_; intro K' hK1
  refine FW.lfun (y := .lit (.string (FW.B ([] : List UInt8)))) hk rfl rfl rfl rfl (FW.f_assign hk (FW.holds_nil _) rfl) ?_; clear hk; intro a w hk
  refine FW.lfun (y := .lit (.int .i64 0)) hk rfl rfl rfl rfl (FW.f_assign hk (FW.holds_nil _) rfl) ?_; clear hk; intro a w hk
  refine FW.lend (hK1 _ _ ?_); clear hK1 K'
  refine FW.wseq ?_; intro K' hK2
  refine wp_block ?_
  refine FW.wreg ?_; intro K' hK3
  refine FW.lfun (y := .lit (.pointer (some ⟨b0, 0, none⟩))) hk rfl rfl rfl rfl (FW.f_move hk (FW.holds_nil _) rfl) ?_; clear hk; intro a w hk
  obtain ⟨t1, hr_t1, h⟩ := FW.bnd h
  refine FW.l_callH (I1 := (ODevDev.items b0 xd0_0 xc0_0 xr0_1 v0)) (I2 := []) (js := [2, 2, 2]) hk rfl rfl rfl rfl rfl Go.Proofs.Try.func41 rfl (by kernel_rfl) (dev_Dev_Off.ok v0 _ hr_t1 b0 xd0_0 xc0_0 xr0_1) ?_; clear hk
  rintro _ _ ⟨zd1, zc1, zr1, rfl, rfl⟩ a w hk
  refine FW.lfun (y := .lit (.bool t1.1)) hk rfl rfl rfl rfl (FW.f_assign hk (FW.holds_nil _) rfl) ?_; clear hk; intro a w hk
  refine FW.lend (hK3 _ _ ?_); clear hK3 K'
  refine FW.wcondF (b := t1.1) hk h rfl (fun h hb => ?_) (fun h hb => ?_)
  · skip
    refine FW.wreg ?_; intro K' hK4
    refine FW.lfun (y := .lit (.string (FW.B ([] : List UInt8)))) hk rfl rfl rfl rfl (FW.f_assign hk (FW.holds_nil _) rfl) ?_; clear hk; intro a w hk
    refine FW.lfun (y := .lit (.int .i64 7)) hk rfl rfl rfl rfl (FW.f_assign hk (FW.holds_nil _) rfl) ?_; clear hk; intro a w hk
    refine FW.lend (hK4 _ _ ?_); clear hK4 K'
    refine wp_ret ?_
    (repeat first | refine FW.then_ret ?_ | refine FW.block_ret ?_)
    obtain rfl := Option.some.inj h
    replace hk := FW.S.keep (I1 := [FW.blk b0 109 ([.lit (.slice zd1 (List.length t1.2.sure) zc1)] ++ [.lit (.map (some zr1))] ++ [.lit (.int .i64 t1.2.steps)] ++ [.lit (.slice none 0 0)] ++ [.lit (.bool t1.2.off)]), FW.orow zd1 zc1 9 1 c_str t1.2.sure, FW.mapI (.int .i64) (Value.int .i64) FW.evS zr1 t1.2.cache]) (I2 := []) (js := [2, 2, 2]) hk rfl
    exact FW.fretH2 hk rfl (FW.rtmp hk rfl) (FW.rtmp hk rfl) ⟨zd1, zc1, zr1, rfl, rfl⟩
  · skip
    refine FW.wreg ?_; intro K' hK5
    refine FW.lfun (y := .lit (.int .i64 v1)) hk rfl rfl rfl rfl (FW.f_move hk (FW.holds_nil _) rfl) ?_; clear hk; intro a w hk
    refine FW.lfun (y := .lit (.bool (decide (v1 < 0)))) hk rfl rfl rfl rfl ((FW.f_pure (FW.p_lss hk.kn (FW.holds_nil _) rfl rfl))) ?_; clear hk; intro a w hk
    refine FW.lfun (y := .lit (.bool (decide (v1 < 0)))) hk rfl rfl rfl rfl (FW.f_move hk (FW.holds_nil _) rfl) ?_; clear hk; intro a w hk
    refine FW.lfunG (y := .lit (.int .i64 v1)) hk rfl rfl rfl rfl rfl rfl rfl rfl (fun hc => FW.f_move hk hc rfl) ?_; clear hk; intro a w hk
    refine FW.lfunG (y := .lit (.pointer (some ⟨b0, 0, none⟩))) hk rfl rfl rfl rfl rfl rfl rfl rfl (fun hc => FW.f_move hk hc rfl) ?_; clear hk; intro a w hk
    refine FW.lfunG (y := .lit (.pointer (some ⟨b0, 0, none⟩))) hk rfl rfl rfl rfl rfl rfl rfl rfl (fun hc => (FW.f_pure (FW.p_nilCheck hk.kn hc rfl))) ?_; clear hk; intro a w hk
    refine FW.lfunG (y := .lit (.pointer (some ⟨b0, 0, none⟩))) hk rfl rfl rfl rfl rfl rfl rfl rfl (fun hc => FW.f_fieldPtr hk hc rfl Go.Proofs.Try.underlying109 rfl (by kernel_rfl) rfl) ?_; clear hk; intro a w hk
    refine FW.lfunG (y := .lit (.slice zd1 (List.length t1.2.sure) zc1)) hk rfl rfl rfl rfl rfl rfl rfl rfl (fun hc => FW.f_loadBlk1 hk hc (j := 0) rfl rfl Go.Proofs.Try.underlying61 rfl rfl) ?_; clear hk; intro a w hk
    refine FW.lfunG (y := .lit (.int .i64 (List.length t1.2.sure : Int))) hk rfl rfl rfl rfl rfl rfl rfl rfl (fun hc => (FW.f_pure (FW.p_len Go.Proofs.Try.underlying61 hk.kn hc rfl))) ?_; clear hk; intro a w hk
    refine FW.lfunG (y := .lit (.bool (decide ((List.length t1.2.sure : Int) ≤ v1)))) hk rfl rfl rfl rfl rfl rfl rfl rfl (fun hc => (FW.f_pure (FW.p_geq hk.kn hc rfl rfl))) ?_; clear hk; intro a w hk
    refine FW.lfun (y := .lit (.bool ((decide (v1 < 0)) || (decide ((List.length t1.2.sure : Int) ≤ v1))))) hk rfl rfl rfl rfl ((FW.f_pure (FW.p_pick_or hk.kn (FW.holds_nil _) rfl rfl))) ?_; clear hk; intro a w hk
    refine FW.lfun (y := .lit (.bool ((decide (v1 < 0)) || (decide ((List.length t1.2.sure : Int) ≤ v1))))) hk rfl rfl rfl rfl (FW.f_assign hk (FW.holds_nil _) rfl) ?_; clear hk; intro a w hk
    refine FW.lend (hK5 _ _ ?_); clear hK5 K'
    refine FW.wcondF (b := ((decide (v1 < 0)) || (decide ((List.length t1.2.sure : Int) ≤ v1)))) hk h rfl (fun h hb => ?_) (fun h hb => ?_)
    · skip
      refine FW.wreg ?_; intro K' hK6
      refine FW.lfun (y := .lit (.string (FW.B ([] : List UInt8)))) hk rfl rfl rfl rfl (FW.f_assign hk (FW.holds_nil _) rfl) ?_; clear hk; intro a w hk
      refine FW.lfun (y := .lit (.int .i64 1)) hk rfl rfl rfl rfl (FW.f_assign hk (FW.holds_nil _) rfl) ?_; clear hk; intro a w hk
      refine FW.lend (hK6 _ _ ?_); clear hK6 K'
      refine wp_ret ?_
      (repeat first | refine FW.then_ret ?_ | refine FW.block_ret ?_)
      obtain rfl := Option.some.inj h
      replace hk := FW.S.keep (I1 := [FW.blk b0 109 ([.lit (.slice zd1 (List.length t1.2.sure) zc1)] ++ [.lit (.map (some zr1))] ++ [.lit (.int .i64 t1.2.steps)] ++ [.lit (.slice none 0 0)] ++ [.lit (.bool t1.2.off)]), FW.orow zd1 zc1 9 1 c_str t1.2.sure, FW.mapI (.int .i64) (Value.int .i64) FW.evS zr1 t1.2.cache]) (I2 := []) (js := [2, 2, 2]) hk rfl
      exact FW.fretH2 hk rfl (FW.rtmp hk rfl) (FW.rtmp hk rfl) ⟨zd1, zc1, zr1, rfl, rfl⟩
    · skip
      refine wp_skip ?_
      (repeat first | refine FW.then_normal ?_ | refine FW.block_normal ?_); refine hK2 _ _ ?_
      refine FW.wseq ?_; intro K' hK7
      refine FW.wreg ?_; intro K' hK8
      refine FW.lfun (y := .lit (.pointer (some ⟨b0, 0, none⟩))) hk rfl rfl rfl rfl (FW.f_move hk (FW.holds_nil _) rfl) ?_; clear hk; intro a w hk
      refine FW.lfun (y := .lit (.pointer (some ⟨b0, 0, none⟩))) hk rfl rfl rfl rfl ((FW.f_pure (FW.p_nilCheck hk.kn (FW.holds_nil _) rfl))) ?_; clear hk; intro a w hk
      refine FW.lfun (y := .lit (.pointer (some ⟨b0, 1, none⟩))) hk rfl rfl rfl rfl (FW.f_fieldPtr hk (FW.holds_nil _) rfl Go.Proofs.Try.underlying109 rfl (by kernel_rfl) rfl) ?_; clear hk; intro a w hk
      refine FW.lfun (y := .lit (.map (some zr1))) hk rfl rfl rfl rfl (FW.f_loadBlk1 hk (FW.holds_nil _) (j := 0) rfl rfl Go.Proofs.Try.underlying107 rfl rfl) ?_; clear hk; intro a w hk
      refine FW.lfun (y := .lit (.int .i64 v1)) hk rfl rfl rfl rfl (FW.f_move hk (FW.holds_nil _) rfl) ?_; clear hk; intro a w hk
      refine FW.lfun (y := .tup [.lit (.string (FW.B ((FW.mget t1.2.cache v1).getD ([] : List UInt8)))), .lit (.bool ((FW.mget t1.2.cache v1).isSome))]) hk rfl rfl rfl rfl (FW.f_lookup2 (z := ([] : List UInt8)) (ev := FW.evS) hk (FW.holds_nil _) (j := 2) rfl rfl rfl Go.Proofs.Try.underlying107 Go.Proofs.Try.underlying3 (by kernel_rfl)) ?_; clear hk; intro a w hk
      refine FW.lfun (y := .tup [.lit (.string (FW.B ((FW.mget t1.2.cache v1).getD ([] : List UInt8)))), .lit (.bool ((FW.mget t1.2.cache v1).isSome))]) hk rfl rfl rfl rfl (FW.f_move hk (FW.holds_nil _) rfl) ?_; clear hk; intro a w hk
      refine FW.lfun (y := .lit (.string (FW.B ((FW.mget t1.2.cache v1).getD ([] : List UInt8))))) hk rfl rfl rfl rfl (FW.f_extract hk (FW.holds_nil _) rfl rfl) ?_; clear hk; intro a w hk
      refine FW.lfun (y := .lit (.bool ((FW.mget t1.2.cache v1).isSome))) hk rfl rfl rfl rfl (FW.f_extract hk (FW.holds_nil _) rfl rfl) ?_; clear hk; intro a w hk
      refine FW.lfun (y := .lit (.string (FW.B ((FW.mget t1.2.cache v1).getD ([] : List UInt8))))) hk rfl rfl rfl rfl (FW.f_assign hk (FW.holds_nil _) rfl) ?_; clear hk; intro a w hk
      refine FW.lfun (y := .lit (.bool ((FW.mget t1.2.cache v1).isSome))) hk rfl rfl rfl rfl (FW.f_assign hk (FW.holds_nil _) rfl) ?_; clear hk; intro a w hk
      refine FW.lend (hK8 _ _ ?_); clear hK8 K'
      refine FW.wreg ?_; intro K' hK9
      refine FW.lfun (y := .lit (.bool ((FW.mget t1.2.cache v1).isSome))) hk rfl rfl rfl rfl (FW.f_move hk (FW.holds_nil _) rfl) ?_; clear hk; intro a w hk
      refine FW.lend (hK9 _ _ ?_); clear hK9 K'
      refine FW.wcondF (b := (FW.mget t1.2.cache v1).isSome) hk h rfl (fun h hb => ?_) (fun h hb => ?_)
      · skip
        refine FW.wreg ?_; intro K' hK10
        refine FW.lfun (y := .lit (.string (FW.B ((FW.mget t1.2.cache v1).getD ([] : List UInt8))))) hk rfl rfl rfl rfl (FW.f_move hk (FW.holds_nil _) rfl) ?_; clear hk; intro a w hk
        refine FW.lfun (y := .lit (.string (FW.B ((FW.mget t1.2.cache v1).getD ([] : List UInt8))))) hk rfl rfl rfl rfl (FW.f_assign hk (FW.holds_nil _) rfl) ?_; clear hk; intro a w hk
        refine FW.lfun (y := .lit (.int .i64 0)) hk rfl rfl rfl rfl (FW.f_assign hk (FW.holds_nil _) rfl) ?_; clear hk; intro a w hk
        refine FW.lend (hK10 _ _ ?_); clear hK10 K'
        refine wp_ret ?_
        (repeat first | refine FW.then_ret ?_ | refine FW.block_ret ?_)
        obtain rfl := Option.some.inj h
        replace hk := FW.S.keep (I1 := [FW.blk b0 109 ([.lit (.slice zd1 (List.length t1.2.sure) zc1)] ++ [.lit (.map (some zr1))] ++ [.lit (.int .i64 t1.2.steps)] ++ [.lit (.slice none 0 0)] ++ [.lit (.bool t1.2.off)]), FW.orow zd1 zc1 9 1 c_str t1.2.sure, FW.mapI (.int .i64) (Value.int .i64) FW.evS zr1 t1.2.cache]) (I2 := []) (js := [2, 2, 2]) hk rfl
        exact FW.fretH2 hk rfl (FW.rtmp hk rfl) (FW.rtmp hk rfl) ⟨zd1, zc1, zr1, rfl, rfl⟩
      · skip
        refine wp_skip ?_
        (repeat first | refine FW.then_normal ?_ | refine FW.block_normal ?_); refine hK7 _ _ ?_
        refine FW.wreg ?_; intro K' hK11
        refine FW.lfun (y := .lit (.pointer (some ⟨b0, 0, none⟩))) hk rfl rfl rfl rfl (FW.f_move hk (FW.holds_nil _) rfl) ?_; clear hk; intro a w hk
        refine FW.lfun (y := .lit (.pointer (some ⟨b0, 0, none⟩))) hk rfl rfl rfl rfl ((FW.f_pure (FW.p_nilCheck hk.kn (FW.holds_nil _) rfl))) ?_; clear hk; intro a w hk
        refine FW.lfun (y := .lit (.pointer (some ⟨b0, 0, none⟩))) hk rfl rfl rfl rfl (FW.f_fieldPtr hk (FW.holds_nil _) rfl Go.Proofs.Try.underlying109 rfl (by kernel_rfl) rfl) ?_; clear hk; intro a w hk
        refine FW.lfun (y := .lit (.slice zd1 (List.length t1.2.sure) zc1)) hk rfl rfl rfl rfl (FW.f_loadBlk1 hk (FW.holds_nil _) (j := 0) rfl rfl Go.Proofs.Try.underlying61 rfl rfl) ?_; clear hk; intro a w hk
        refine FW.lfun (y := .lit (.int .i64 v1)) hk rfl rfl rfl rfl (FW.f_move hk (FW.holds_nil _) rfl) ?_; clear hk; intro a w hk
        obtain ⟨hc1, h⟩ := FW.chk h
        refine FW.lfun (y := FW.elA zd1 1 v1) hk rfl rfl rfl rfl (FW.f_idxOwn (f := c_str) (l := t1.2.sure) hk (FW.holds_nil _) (j := 1) rfl rfl (by first | rfl | simp only [List.length_set]) rfl Go.Proofs.Try.underlying61 (by kernel_rfl) hc1) ?_; clear hk; intro a w hk
        refine FW.lfun (y := .lit (.string (FW.B (List.getD t1.2.sure (Int.toNat v1) default)))) hk rfl rfl rfl rfl (FW.f_loadOwn1 (f := c_str) (l := t1.2.sure) hk (FW.holds_nil _) (j := 1) rfl rfl hc1 rfl Go.Proofs.Try.underlying9 rfl) ?_; clear hk; intro a w hk
        refine FW.lfun (y := .lit (.string (FW.B (List.getD t1.2.sure (Int.toNat v1) default)))) hk rfl rfl rfl rfl (FW.f_assign hk (FW.holds_nil _) rfl) ?_; clear hk; intro a w hk
        refine FW.lfun (y := .lit (.int .i64 0)) hk rfl rfl rfl rfl (FW.f_assign hk (FW.holds_nil _) rfl) ?_; clear hk; intro a w hk
        refine FW.lend (hK11 _ _ ?_); clear hK11 K'
        refine wp_ret ?_
        (repeat first | refine FW.then_ret ?_ | refine FW.block_ret ?_)
        obtain rfl := Option.some.inj h
        replace hk := FW.S.keep (I1 := [FW.blk b0 109 ([.lit (.slice zd1 (List.length t1.2.sure) zc1)] ++ [.lit (.map (some zr1))] ++ [.lit (.int .i64 t1.2.steps)] ++ [.lit (.slice none 0 0)] ++ [.lit (.bool t1.2.off)]), FW.orow zd1 zc1 9 1 c_str t1.2.sure, FW.mapI (.int .i64) (Value.int .i64) FW.evS zr1 t1.2.cache]) (I2 := []) (js := [2, 2, 2]) hk rfl
        exact FW.fretH2 hk rfl (FW.rtmp hk rfl) (FW.rtmp hk rfl) ⟨zd1, zc1, zr1, rfl, rfl⟩

theorem dev_Dev_Crash.ok (K : Nat) (v0 : ODevDev) (v1 : Int) (v2 : Int) (r : ODevDev) (h : dev_Dev_Crash.f K v0 v1 v2 = some r) :
    ∀ (b0 : Nat) (xd0_0 : Option Addr) (xc0_0 : Nat) (xr0_1 : Nat), FW.OkH Go.Proofs.Try.prog 32 [.lit (.pointer (some ⟨b0, 0, none⟩)), .lit (.int .u64 v1), .lit (.int .i64 v2)] (ODevDev.items b0 xd0_0 xc0_0 xr0_1 v0) (fun y I => ∃ (zxd0_0 : Option Addr) (zxc0_0 : Nat) (zxr0_1 : Nat), y = .tup [] ∧ I = ODevDev.items b0 zxd0_0 zxc0_0 zxr0_1 r) := by
  intro b0 xd0_0 xc0_0 xr0_1
  refine FW.enterH (xs := [.lit (.pointer (some ⟨b0, 0, none⟩)), .lit (.int .u64 v1), .lit (.int .i64 v2)]) Go.Proofs.Try.func32 rfl Go.Proofs.Try.ntmps32 rfl ?_
  intro M w0 a hk
  replace hk : FW.S M w0 a w0.toWorld 69 [FW.blk b0 109 ([.lit (.slice xd0_0 (List.length v0.sure) xc0_0)] ++ [.lit (.map (some xr0_1))] ++ [.lit (.int .i64 v0.steps)] ++ [.lit (.slice none 0 0)] ++ [.lit (.bool v0.off)]), FW.orow xd0_0 xc0_0 9 1 c_str v0.sure, FW.mapI (.int .i64) (Value.int .i64) FW.evS xr0_1 v0.cache] [(0, [], .lit (.pointer (some ⟨b0, 0, none⟩))), (1, [], .lit (.int .u64 v1)), (2, [], .lit (.int .i64 v2))] := hk
  unfold dev_Dev_Crash.f at h
  refine FW.wseq ?_; intro K' hK1
  refine FW.wreg ?_; intro K' hK2
  refine FW.lfun (y := .lit (.pointer (some ⟨b0, 0, none⟩))) hk rfl rfl rfl rfl (FW.f_move hk (FW.holds_nil _) rfl) ?_; clear hk; intro a w hk
  obtain ⟨t1, hr_t1, h⟩ := FW.bnd h
  refine FW.l_callH (I1 := (ODevDev.items b0 xd0_0 xc0_0 xr0_1 v0)) (I2 := []) (js := [2, 2, 2]) hk rfl rfl rfl rfl rfl Go.Proofs.Try.func41 rfl (by kernel_rfl) (dev_Dev_Off.ok v0 _ hr_t1 b0 xd0_0 xc0_0 xr0_1) ?_; clear hk
  rintro _ _ ⟨zd1, zc1, zr1, rfl, rfl⟩ a w hk
  refine FW.lend (hK2 _ _ ?_); clear hK2 K'
  refine FW.wcondF (b := t1.1) hk h rfl (fun h hb => ?_) (fun h hb => ?_)
  · skip
    refine wp_ret ?_
    (repeat first | refine FW.then_ret ?_ | refine FW.block_ret ?_)
    obtain rfl := Option.some.inj h
    replace hk := FW.S.keep (I1 := [FW.blk b0 109 ([.lit (.slice zd1 (List.length t1.2.sure) zc1)] ++ [.lit (.map (some zr1))] ++ [.lit (.int .i64 t1.2.steps)] ++ [.lit (.slice none 0 0)] ++ [.lit (.bool t1.2.off)]), FW.orow zd1 zc1 9 1 c_str t1.2.sure, FW.mapI (.int .i64) (Value.int .i64) FW.evS zr1 t1.2.cache]) (I2 := []) (js := [2, 2, 2]) hk rfl
    exact FW.fretH0 hk rfl ⟨zd1, zc1, zr1, rfl, rfl⟩
  · skip
    refine wp_skip ?_
    (repeat first | refine FW.then_normal ?_ | refine FW.block_normal ?_); refine hK1 _ _ ?_
    refine FW.wseq ?_; intro K' hK3
    refine FW.wreg ?_; intro K' hK4
    refine FW.lfun (y := .lit (.pointer (some ⟨b0, 0, none⟩))) hk rfl rfl rfl rfl (FW.f_move hk (FW.holds_nil _) rfl) ?_; clear hk; intro a w hk
    refine FW.lfun (y := .lit (.pointer (some ⟨b0, 0, none⟩))) hk rfl rfl rfl rfl ((FW.f_pure (FW.p_nilCheck hk.kn (FW.holds_nil _) rfl))) ?_; clear hk; intro a w hk
    refine FW.lfun (y := .lit (.pointer (some ⟨b0, 1, none⟩))) hk rfl rfl rfl rfl (FW.f_fieldPtr hk (FW.holds_nil _) rfl Go.Proofs.Try.underlying109 rfl (by kernel_rfl) rfl) ?_; clear hk; intro a w hk
    refine FW.lfun (y := .lit (.map (some zr1))) hk rfl rfl rfl rfl (FW.f_loadBlk1 hk (FW.holds_nil _) (j := 0) rfl rfl Go.Proofs.Try.underlying107 rfl rfl) ?_; clear hk; intro a w hk
    refine FW.l_keysI hk rfl rfl rfl ?_; clear hk; intro b1 a w hk
    obtain ⟨hc1, h⟩ := FW.chk h
    refine FW.l_sortedI (ev := FW.evS) (m := t1.2.cache) (R := r_c_i64) (fun _ => rfl) hk rfl rfl (j := 3) (i := 0) rfl rfl rfl hc1 ?_; clear hk; intro a w hk
    refine FW.lfun (y := .lit (.int .i64 (List.length (FW.sortK t1.2.cache) : Int))) hk rfl rfl rfl rfl (FW.f_len (R := r_c_i64) (f := c_i64) (l := (FW.sortK t1.2.cache)) r_c_i64_eq Go.Proofs.Try.underlying111 hk (FW.holds_nil _) rfl) ?_; clear hk; intro a w hk
    refine FW.lfun (y := .lit (.int .i64 0)) hk rfl rfl rfl rfl (FW.f_move hk (FW.holds_nil _) rfl) ?_; clear hk; intro a w hk
    refine FW.lend (hK4 _ _ ?_); clear hK4 K'
    refine wp_block ?_
    refine FW.wloop (T := Nat × Int × Bool × List (List UInt8) × (List (Int × (List UInt8))) × Int × Int × List Int × Int × Int × Option Addr × Nat × Nat) (fun x a w => match x with | (kl1, y1_2, y1_4, l2, m3, v1, v2, v17, v18, v19, xd2, xc2, xr3) => FW.S M w0 a w 69 [FW.blk b0 109 ([.lit (.slice xd2 (List.length l2) xc2)] ++ [.lit (.map (some xr3))] ++ [.lit (.int .i64 y1_2)] ++ [.lit (.slice none 0 0)] ++ [.lit (.bool y1_4)]), FW.orow xd2 xc2 9 1 c_str l2, FW.mapI (.int .i64) (Value.int .i64) FW.evS xr3 m3] [(0, [], .lit (.pointer (some ⟨b0, 0, none⟩))), (1, [], .lit (.int .u64 v1)), (2, [], .lit (.int .i64 v2)), (17, [], .row (r_c_i64 v17)), (18, [], .lit (.int .i64 v18)), (19, [], .lit (.int .i64 v19))] ∧ dev_Dev_Crash.l1 K kl1 y1_2 y1_4 l2 m3 v1 v2 v17 v18 v19 = some r) (fun x => x.1) (K, t1.2.steps, t1.2.off, t1.2.sure, t1.2.cache, v1, v2, (FW.sortK t1.2.cache), (List.length (FW.sortK t1.2.cache) : Int), 0, zd1, zc1, zr1) ⟨(hk.drop 0).sub ⟨rfl, rfl, rfl, rfl, rfl, rfl, trivial⟩, h⟩ ?_
    clear hk h
    rintro ⟨kl1, y1_2, y1_4, l2, m3, v1, v2, v17, v18, v19, xd2, xc2, xr3⟩ a w ⟨hk, h⟩ K' hK5
    cases kl1 with
    | zero => simp [dev_Dev_Crash.l1] at h
    | succ kl1 =>
    rw [dev_Dev_Crash.l1.eq_2] at h
    refine FW.wreg ?_; intro K' hK6
    refine FW.lfun (y := .lit (.bool (decide (v19 < v18)))) hk rfl rfl rfl rfl ((FW.f_pure (FW.p_lss hk.kn (FW.holds_nil _) rfl rfl))) ?_; clear hk; intro a w hk
    refine FW.lend (hK6 _ _ ?_); clear hK6 K'
    refine FW.wseq ?_; intro K' hK7
    refine FW.wcondF (b := (decide (v19 < v18))) hk h rfl (fun h hb => ?_) (fun h hb => ?_)
    · skip
      refine wp_skip ?_
      (repeat first | refine FW.then_normal ?_ | refine FW.block_normal ?_); refine hK7 _ _ ?_
      refine FW.wseq ?_; intro K' hK8
      refine wp_block ?_
      refine FW.wreg ?_; intro K' hK9
      refine FW.lfun (y := .lit (.int .i64 v19)) hk rfl rfl rfl rfl (FW.f_move hk (FW.holds_nil _) rfl) ?_; clear hk; intro a w hk
      obtain ⟨hc2, h⟩ := FW.chk h
      refine FW.lfun (y := .ref (c_i64 (List.getD v17 (Int.toNat v19) default))) hk rfl rfl rfl rfl (FW.f_indexAddr (R := r_c_i64) (f := c_i64) (l := v17) (sz := 1) r_c_i64_eq (fun _ => rfl) hk (FW.holds_nil _) rfl rfl Go.Proofs.Try.underlying111 (by kernel_rfl) hc2) ?_; clear hk; intro a w hk
      refine FW.lfun (y := .lit (.int .i64 (List.getD v17 (Int.toNat v19) default))) hk rfl rfl rfl rfl (FW.f_load1 hk (FW.holds_nil _) rfl rfl Go.Proofs.Try.underlying3 rfl) ?_; clear hk; intro a w hk
      refine FW.lfun (y := .lit (.int .i64 v19)) hk rfl rfl rfl rfl (FW.f_assign hk (FW.holds_nil _) rfl) ?_; clear hk; intro a w hk
      refine FW.lfun (y := .lit (.int .i64 (List.getD v17 (Int.toNat v19) default))) hk rfl rfl rfl rfl (FW.f_assign hk (FW.holds_nil _) rfl) ?_; clear hk; intro a w hk
      refine FW.lend (hK9 _ _ ?_); clear hK9 K'
      refine FW.wreg ?_; intro K' hK10
      refine FW.lfun (y := .lit (.pointer (some ⟨b0, 0, none⟩))) hk rfl rfl rfl rfl (FW.f_move hk (FW.holds_nil _) rfl) ?_; clear hk; intro a w hk
      refine FW.lfun (y := .lit (.pointer (some ⟨b0, 0, none⟩))) hk rfl rfl rfl rfl ((FW.f_pure (FW.p_nilCheck hk.kn (FW.holds_nil _) rfl))) ?_; clear hk; intro a w hk
      refine FW.lfun (y := .lit (.pointer (some ⟨b0, 1, none⟩))) hk rfl rfl rfl rfl (FW.f_fieldPtr hk (FW.holds_nil _) rfl Go.Proofs.Try.underlying109 rfl (by kernel_rfl) rfl) ?_; clear hk; intro a w hk
      refine FW.lfun (y := .lit (.map (some xr3))) hk rfl rfl rfl rfl (FW.f_loadBlk1 hk (FW.holds_nil _) (j := 0) rfl rfl Go.Proofs.Try.underlying107 rfl rfl) ?_; clear hk; intro a w hk
      refine FW.lfun (y := .lit (.int .i64 (List.getD v17 (Int.toNat v19) default))) hk rfl rfl rfl rfl (FW.f_move hk (FW.holds_nil _) rfl) ?_; clear hk; intro a w hk
      refine FW.lfun (y := .lit (.string (FW.B ((FW.mget m3 (List.getD v17 (Int.toNat v19) default)).getD ([] : List UInt8))))) hk rfl rfl rfl rfl (FW.f_lookup1 (z := ([] : List UInt8)) (ev := FW.evS) hk (FW.holds_nil _) (j := 2) rfl rfl rfl Go.Proofs.Try.underlying107 Go.Proofs.Try.underlying3 (by kernel_rfl)) ?_; clear hk; intro a w hk
      refine FW.lfun (y := .lit (.string (FW.B ((FW.mget m3 (List.getD v17 (Int.toNat v19) default)).getD ([] : List UInt8))))) hk rfl rfl rfl rfl (FW.f_assign hk (FW.holds_nil _) rfl) ?_; clear hk; intro a w hk
      refine FW.lend (hK10 _ _ ?_); clear hK10 K'
      refine FW.wseqJ (fun a w => ∃ (y1_2 : Int) (y1_4 : Bool) (l2 : List (List UInt8)) (m3 : List (Int × (List UInt8))) (v1 : Int) (v2 : Int) (v7 : Int) (v8 : List UInt8) (v17 : List Int) (v18 : Int) (v19 : Int) (xd2 : Option Addr) (xc2 : Nat) (xr3 : Nat), FW.S M w0 a w 69 [FW.blk b0 109 ([.lit (.slice xd2 (List.length l2) xc2)] ++ [.lit (.map (some xr3))] ++ [.lit (.int .i64 y1_2)] ++ [.lit (.slice none 0 0)] ++ [.lit (.bool y1_4)]), FW.orow xd2 xc2 9 1 c_str l2, FW.mapI (.int .i64) (Value.int .i64) FW.evS xr3 m3] [(0, [], .lit (.pointer (some ⟨b0, 0, none⟩))), (1, [], .lit (.int .u64 v1)), (2, [], .lit (.int .i64 v2)), (7, [], .lit (.int .i64 v7)), (8, [], .lit (.string (FW.B v8))), (17, [], .row (r_c_i64 v17)), (18, [], .lit (.int .i64 v18)), (19, [], .lit (.int .i64 v19))] ∧ dev_Dev_Crash.j1 (dev_Dev_Crash.l1 K kl1) K y1_2 y1_4 l2 m3 v1 v2 v7 v8 v17 v18 v19 = some r) ?_ ?_
      · clear hk h
        rintro a w ⟨y1_2, y1_4, l2, m3, v1, v2, v7, v8, v17, v18, v19, xd2, xc2, xr3, hk, h⟩
        unfold dev_Dev_Crash.j1 at h
        refine FW.wreg1 ?_
        refine FW.lfun (y := .lit (.pointer (some ⟨b0, 0, none⟩))) hk rfl rfl rfl rfl (FW.f_move hk (FW.holds_nil _) rfl) ?_; clear hk; intro a w hk
        refine FW.lfun (y := .lit (.pointer (some ⟨b0, 0, none⟩))) hk rfl rfl rfl rfl ((FW.f_pure (FW.p_nilCheck hk.kn (FW.holds_nil _) rfl))) ?_; clear hk; intro a w hk
        refine FW.lfun (y := .lit (.pointer (some ⟨b0, 0, none⟩))) hk rfl rfl rfl rfl (FW.f_fieldPtr hk (FW.holds_nil _) rfl Go.Proofs.Try.underlying109 rfl (by kernel_rfl) rfl) ?_; clear hk; intro a w hk
        refine FW.lfun (y := .lit (.slice xd2 (List.length l2) xc2)) hk rfl rfl rfl rfl (FW.f_loadBlk1 hk (FW.holds_nil _) (j := 0) rfl rfl Go.Proofs.Try.underlying61 rfl rfl) ?_; clear hk; intro a w hk
        refine FW.lfun (y := .lit (.int .i64 v7)) hk rfl rfl rfl rfl (FW.f_move hk (FW.holds_nil _) rfl) ?_; clear hk; intro a w hk
        refine FW.lfun (y := .lit (.string (FW.B v8))) hk rfl rfl rfl rfl (FW.f_move hk (FW.holds_nil _) rfl) ?_; clear hk; intro a w hk
        obtain ⟨hc3, h⟩ := FW.chk h
        refine FW.lfun (y := FW.elA xd2 1 v7) hk rfl rfl rfl rfl (FW.f_idxOwn (f := c_str) (l := l2) hk (FW.holds_nil _) (j := 1) rfl rfl (by first | rfl | simp only [List.length_set]) rfl Go.Proofs.Try.underlying61 (by kernel_rfl) hc3) ?_; clear hk; intro a w hk
        refine FW.l_storeOwn1 (f := c_str) (l := l2) (v := v8) (I' := [FW.blk b0 109 ([.lit (.slice xd2 (List.length l2) xc2)] ++ [.lit (.map (some xr3))] ++ [.lit (.int .i64 y1_2)] ++ [.lit (.slice none 0 0)] ++ [.lit (.bool y1_4)]), FW.orow xd2 xc2 9 1 c_str (List.set l2 (Int.toNat v7) v8), FW.mapI (.int .i64) (Value.int .i64) FW.evS xr3 m3]) (j := 1) hk rfl rfl hc3 rfl rfl rfl rfl (by kernel_rfl) rfl ?_; clear hk; intro w hk
        refine wpList_nil ?_
        (repeat first | refine FW.then_normal ?_ | refine FW.block_normal ?_); refine hK8 _ _ ?_
        refine FW.wreg1 ?_
        refine FW.lfun (y := .lit (.int .i64 (IntKind.wrap .i64 (v19 + 1)))) hk rfl rfl rfl rfl ((FW.f_pure (FW.p_add hk.kn (FW.holds_nil _) rfl rfl))) ?_; clear hk; intro a w hk
        refine FW.lfun (y := .lit (.int .i64 (IntKind.wrap .i64 (v19 + 1)))) hk rfl rfl rfl rfl (FW.f_move hk (FW.holds_nil _) rfl) ?_; clear hk; intro a w hk
        refine wpList_nil ?_
        replace hk := FW.S.cast (I' := [FW.blk b0 109 ([.lit (.slice xd2 (List.length (List.set l2 (Int.toNat v7) v8)) xc2)] ++ [.lit (.map (some xr3))] ++ [.lit (.int .i64 y1_2)] ++ [.lit (.slice none 0 0)] ++ [.lit (.bool y1_4)]), FW.orow xd2 xc2 9 1 c_str (List.set l2 (Int.toNat v7) v8), FW.mapI (.int .i64) (Value.int .i64) FW.evS xr3 m3]) hk (by first | rfl | simp only [List.length_set]) rfl
        (repeat first | refine FW.then_normal ?_ | refine FW.block_normal ?_); exact hK5 (kl1, y1_2, y1_4, (List.set l2 (Int.toNat v7) v8), m3, v1, v2, v17, v18, (IntKind.wrap .i64 (v19 + 1)), xd2, xc2, xr3) _ _ (Nat.lt_succ_self _) ⟨hk.sub ⟨rfl, rfl, rfl, rfl, rfl, rfl, trivial⟩, h⟩
      · intro K' hK11
        refine FW.wreg ?_; intro K' hK14
        refine FW.lfun (y := .lit (.int .u64 v1)) hk rfl rfl rfl rfl (FW.f_move hk (FW.holds_nil _) rfl) ?_; clear hk; intro a w hk
        refine FW.lfun (y := .lit (.int .i64 v19)) hk rfl rfl rfl rfl (FW.f_move hk (FW.holds_nil _) rfl) ?_; clear hk; intro a w hk
        refine FW.lfun (y := .lit (.int .i64 (if 63 < v19 then 63 else v19))) hk rfl rfl rfl rfl ((FW.f_pure (FW.p_min hk.kn (FW.holds_nil _) rfl rfl))) ?_; clear hk; intro a w hk
        obtain ⟨hc4, h⟩ := FW.chk h
        refine FW.lfun (y := .lit (.int .u64 (FW.shrI .u64 v1 (if 63 < v19 then 63 else v19)))) hk rfl rfl rfl rfl ((FW.f_pure (FW.p_shr hk.kn (FW.holds_nil _) rfl rfl hc4))) ?_; clear hk; intro a w hk
        refine FW.lfun (y := .lit (.int .u64 (FW.andI .u64 (FW.shrI .u64 v1 (if 63 < v19 then 63 else v19)) 1))) hk rfl rfl rfl rfl ((FW.f_pure (FW.p_and hk.kn (FW.holds_nil _) rfl rfl))) ?_; clear hk; intro a w hk
        refine FW.lfun (y := .lit (.bool (decide ((FW.andI .u64 (FW.shrI .u64 v1 (if 63 < v19 then 63 else v19)) 1) = 0)))) hk rfl rfl rfl rfl ((FW.f_pure (FW.p_eql hk.kn (FW.holds_nil _) rfl rfl))) ?_; clear hk; intro a w hk
        refine FW.lend (hK14 _ _ ?_); clear hK14 K'
        refine FW.wcondF (b := (decide ((FW.andI .u64 (FW.shrI .u64 v1 (if 63 < v19 then 63 else v19)) 1) = 0))) hk h rfl (fun h hb => ?_) (fun h hb => ?_)
        · skip
          refine FW.wreg ?_; intro K' hK15
          refine FW.lfun (y := .lit (.int .i64 v2)) hk rfl rfl rfl rfl (FW.f_move hk (FW.holds_nil _) rfl) ?_; clear hk; intro a w hk
          refine FW.lfun (y := .lit (.int .i64 (if v2 < 0 then 0 else v2))) hk rfl rfl rfl rfl ((FW.f_pure (FW.p_max hk.kn (FW.holds_nil _) rfl rfl))) ?_; clear hk; intro a w hk
          refine FW.lfun (y := .lit (.string (FW.B ((FW.mget m3 (List.getD v17 (Int.toNat v19) default)).getD ([] : List UInt8))))) hk rfl rfl rfl rfl (FW.f_move hk (FW.holds_nil _) rfl) ?_; clear hk; intro a w hk
          refine FW.lfun (y := .lit (.int .i64 (List.length ((FW.mget m3 (List.getD v17 (Int.toNat v19) default)).getD ([] : List UInt8)) : Int))) hk rfl rfl rfl rfl ((FW.f_pure (FW.p_slen Go.Proofs.Try.underlying9 hk.kn (FW.holds_nil _) rfl))) ?_; clear hk; intro a w hk
          refine FW.lfun (y := .lit (.int .i64 (if (List.length ((FW.mget m3 (List.getD v17 (Int.toNat v19) default)).getD ([] : List UInt8)) : Int) < (if v2 < 0 then 0 else v2) then (List.length ((FW.mget m3 (List.getD v17 (Int.toNat v19) default)).getD ([] : List UInt8)) : Int) else (if v2 < 0 then 0 else v2)))) hk rfl rfl rfl rfl ((FW.f_pure (FW.p_min hk.kn (FW.holds_nil _) rfl rfl))) ?_; clear hk; intro a w hk
          refine FW.lfun (y := .lit (.int .i64 (if (List.length ((FW.mget m3 (List.getD v17 (Int.toNat v19) default)).getD ([] : List UInt8)) : Int) < (if v2 < 0 then 0 else v2) then (List.length ((FW.mget m3 (List.getD v17 (Int.toNat v19) default)).getD ([] : List UInt8)) : Int) else (if v2 < 0 then 0 else v2)))) hk rfl rfl rfl rfl (FW.f_assign hk (FW.holds_nil _) rfl) ?_; clear hk; intro a w hk
          refine FW.lend (hK15 _ _ ?_); clear hK15 K'
          obtain ⟨hc5, h⟩ := FW.chk h
          obtain ⟨hc6, h⟩ := FW.chk h
          obtain ⟨hc7, h⟩ := FW.chk h
          obtain ⟨hc8, h⟩ := FW.chk h
          refine FW.wdraw (by kernel_rfl) (by kernel_rfl) hk ?_; clear hk
          refine FW.dfun (y := .lit (.string (FW.B ((FW.mget m3 (List.getD v17 (Int.toNat v19) default)).getD ([] : List UInt8))))) rfl rfl rfl rfl (fun a w hk => FW.f_move hk (FW.holds_nil _) rfl) ?_
          refine FW.dfun (y := .lit (.int .i64 (if (List.length ((FW.mget m3 (List.getD v17 (Int.toNat v19) default)).getD ([] : List UInt8)) : Int) < (if v2 < 0 then 0 else v2) then (List.length ((FW.mget m3 (List.getD v17 (Int.toNat v19) default)).getD ([] : List UInt8)) : Int) else (if v2 < 0 then 0 else v2)))) rfl rfl rfl rfl (fun a w hk => FW.f_move hk (FW.holds_nil _) rfl) ?_
          refine FW.dfun (y := .lit (.string (FW.B (List.take (Int.toNat (if (List.length ((FW.mget m3 (List.getD v17 (Int.toNat v19) default)).getD ([] : List UInt8)) : Int) < (if v2 < 0 then 0 else v2) then (List.length ((FW.mget m3 (List.getD v17 (Int.toNat v19) default)).getD ([] : List UInt8)) : Int) else (if v2 < 0 then 0 else v2))) ((FW.mget m3 (List.getD v17 (Int.toNat v19) default)).getD ([] : List UInt8)))))) rfl rfl rfl rfl (fun a w hk => (FW.f_pure (FW.p_slice_hi Go.Proofs.Try.underlying9 hk.kn (FW.holds_nil _) rfl rfl hc5))) ?_
          refine FW.dfun (y := .lit (.pointer (some ⟨b0, 0, none⟩))) rfl rfl rfl rfl (fun a w hk => FW.f_move hk (FW.holds_nil _) rfl) ?_
          refine FW.dfun (y := .lit (.pointer (some ⟨b0, 0, none⟩))) rfl rfl rfl rfl (fun a w hk => (FW.f_pure (FW.p_nilCheck hk.kn (FW.holds_nil _) rfl))) ?_
          refine FW.dfun (y := .lit (.pointer (some ⟨b0, 0, none⟩))) rfl rfl rfl rfl (fun a w hk => FW.f_fieldPtr hk (FW.holds_nil _) rfl Go.Proofs.Try.underlying109 rfl (by kernel_rfl) rfl) ?_
          refine FW.dfun (y := .lit (.slice xd2 (List.length l2) xc2)) rfl rfl rfl rfl (fun a w hk => FW.f_loadBlk1 hk (FW.holds_nil _) (j := 0) rfl rfl Go.Proofs.Try.underlying61 rfl rfl) ?_
          refine FW.dfun (y := .lit (.int .i64 (List.getD v17 (Int.toNat v19) default))) rfl rfl rfl rfl (fun a w hk => FW.f_move hk (FW.holds_nil _) rfl) ?_
          refine FW.dfun (y := FW.elA xd2 1 (List.getD v17 (Int.toNat v19) default)) rfl rfl rfl rfl (fun a w hk => FW.f_idxOwn (f := c_str) (l := l2) hk (FW.holds_nil _) (j := 1) rfl rfl (by first | rfl | simp only [List.length_set]) rfl Go.Proofs.Try.underlying61 (by kernel_rfl) hc6) ?_
          refine FW.dfun (y := .lit (.string (FW.B (List.getD l2 (Int.toNat (List.getD v17 (Int.toNat v19) default)) default)))) rfl rfl rfl rfl (fun a w hk => FW.f_loadOwn1 (f := c_str) (l := l2) hk (FW.holds_nil _) (j := 1) rfl rfl hc6 rfl Go.Proofs.Try.underlying9 rfl) ?_
          refine FW.dfun (y := .lit (.int .i64 (if (List.length ((FW.mget m3 (List.getD v17 (Int.toNat v19) default)).getD ([] : List UInt8)) : Int) < (if v2 < 0 then 0 else v2) then (List.length ((FW.mget m3 (List.getD v17 (Int.toNat v19) default)).getD ([] : List UInt8)) : Int) else (if v2 < 0 then 0 else v2)))) rfl rfl rfl rfl (fun a w hk => FW.f_move hk (FW.holds_nil _) rfl) ?_
          refine FW.dfun (y := .lit (.string (FW.B (List.drop (Int.toNat (if (List.length ((FW.mget m3 (List.getD v17 (Int.toNat v19) default)).getD ([] : List UInt8)) : Int) < (if v2 < 0 then 0 else v2) then (List.length ((FW.mget m3 (List.getD v17 (Int.toNat v19) default)).getD ([] : List UInt8)) : Int) else (if v2 < 0 then 0 else v2))) (List.getD l2 (Int.toNat (List.getD v17 (Int.toNat v19) default)) default))))) rfl rfl rfl rfl (fun a w hk => (FW.f_pure (FW.p_slice_lo Go.Proofs.Try.underlying9 hk.kn (FW.holds_nil _) rfl rfl hc7))) ?_
          refine FW.dfun (y := .lit (.string (FW.B ((List.take (Int.toNat (if (List.length ((FW.mget m3 (List.getD v17 (Int.toNat v19) default)).getD ([] : List UInt8)) : Int) < (if v2 < 0 then 0 else v2) then (List.length ((FW.mget m3 (List.getD v17 (Int.toNat v19) default)).getD ([] : List UInt8)) : Int) else (if v2 < 0 then 0 else v2))) ((FW.mget m3 (List.getD v17 (Int.toNat v19) default)).getD ([] : List UInt8))) ++ (List.drop (Int.toNat (if (List.length ((FW.mget m3 (List.getD v17 (Int.toNat v19) default)).getD ([] : List UInt8)) : Int) < (if v2 < 0 then 0 else v2) then (List.length ((FW.mget m3 (List.getD v17 (Int.toNat v19) default)).getD ([] : List UInt8)) : Int) else (if v2 < 0 then 0 else v2))) (List.getD l2 (Int.toNat (List.getD v17 (Int.toNat v19) default)) default)))))) rfl rfl rfl rfl (fun a w hk => (FW.f_pure (FW.p_sadd hk.kn (FW.holds_nil _) rfl rfl hc8))) ?_
          refine FW.dfun (y := .lit (.string (FW.B ((List.take (Int.toNat (if (List.length ((FW.mget m3 (List.getD v17 (Int.toNat v19) default)).getD ([] : List UInt8)) : Int) < (if v2 < 0 then 0 else v2) then (List.length ((FW.mget m3 (List.getD v17 (Int.toNat v19) default)).getD ([] : List UInt8)) : Int) else (if v2 < 0 then 0 else v2))) ((FW.mget m3 (List.getD v17 (Int.toNat v19) default)).getD ([] : List UInt8))) ++ (List.drop (Int.toNat (if (List.length ((FW.mget m3 (List.getD v17 (Int.toNat v19) default)).getD ([] : List UInt8)) : Int) < (if v2 < 0 then 0 else v2) then (List.length ((FW.mget m3 (List.getD v17 (Int.toNat v19) default)).getD ([] : List UInt8)) : Int) else (if v2 < 0 then 0 else v2))) (List.getD l2 (Int.toNat (List.getD v17 (Int.toNat v19) default)) default)))))) rfl rfl rfl rfl (fun a w hk => FW.f_assign hk (FW.holds_nil _) rfl) ?_
          refine FW.dend ?_; intro a w hk
          refine FW.wreg1 ?_
          refine FW.lfun (y := .lit (.int .i64 0)) hk rfl rfl rfl rfl (FW.f_assign hk (FW.holds_nil _) rfl) ?_; clear hk; intro a w hk
          refine wpList_nil ?_
          (repeat first | refine FW.then_normal ?_ | refine FW.block_normal ?_); exact hK11 _ _ ⟨y1_2, y1_4, l2, m3, v1, 0, (List.getD v17 (Int.toNat v19) default), ((List.take (Int.toNat (if (List.length ((FW.mget m3 (List.getD v17 (Int.toNat v19) default)).getD ([] : List UInt8)) : Int) < (if v2 < 0 then 0 else v2) then (List.length ((FW.mget m3 (List.getD v17 (Int.toNat v19) default)).getD ([] : List UInt8)) : Int) else (if v2 < 0 then 0 else v2))) ((FW.mget m3 (List.getD v17 (Int.toNat v19) default)).getD ([] : List UInt8))) ++ (List.drop (Int.toNat (if (List.length ((FW.mget m3 (List.getD v17 (Int.toNat v19) default)).getD ([] : List UInt8)) : Int) < (if v2 < 0 then 0 else v2) then (List.length ((FW.mget m3 (List.getD v17 (Int.toNat v19) default)).getD ([] : List UInt8)) : Int) else (if v2 < 0 then 0 else v2))) (List.getD l2 (Int.toNat (List.getD v17 (Int.toNat v19) default)) default))), v17, v18, v19, xd2, xc2, xr3, hk.sub ⟨rfl, rfl, rfl, rfl, rfl, rfl, rfl, rfl, trivial⟩, h⟩
        · skip
          refine wp_skip ?_
          (repeat first | refine FW.then_normal ?_ | refine FW.block_normal ?_); exact hK11 _ _ ⟨y1_2, y1_4, l2, m3, v1, v2, (List.getD v17 (Int.toNat v19) default), ((FW.mget m3 (List.getD v17 (Int.toNat v19) default)).getD ([] : List UInt8)), v17, v18, v19, xd2, xc2, xr3, hk.sub ⟨rfl, rfl, rfl, rfl, rfl, rfl, rfl, rfl, trivial⟩, h⟩
    · skip
      refine wp_exit ?_; (repeat first | refine FW.then_exit ?_ | refine FW.block_exit_ne rfl ?_); refine FW.block_exit ?_
      (repeat first | refine FW.then_normal ?_ | refine FW.block_normal ?_); refine hK3 _ _ ?_
      refine FW.wreg ?_; intro K' hK18
      refine FW.lfun (y := .lit (.pointer (some ⟨b0, 0, none⟩))) hk rfl rfl rfl rfl (FW.f_move hk (FW.holds_nil _) rfl) ?_; clear hk; intro a w hk
      refine FW.lfun (y := .lit (.pointer (some ⟨b0, 0, none⟩))) hk rfl rfl rfl rfl ((FW.f_pure (FW.p_nilCheck hk.kn (FW.holds_nil _) rfl))) ?_; clear hk; intro a w hk
      refine FW.lfun (y := .lit (.pointer (some ⟨b0, 1, none⟩))) hk rfl rfl rfl rfl (FW.f_fieldPtr hk (FW.holds_nil _) rfl Go.Proofs.Try.underlying109 rfl (by kernel_rfl) rfl) ?_; clear hk; intro a w hk
      refine FW.lfun (y := .lit (.map (some xr3))) hk rfl rfl rfl rfl (FW.f_loadBlk1 hk (FW.holds_nil _) (j := 0) rfl rfl Go.Proofs.Try.underlying107 rfl rfl) ?_; clear hk; intro a w hk
      refine FW.l_clearMap (ev := FW.evS) (I' := [FW.blk b0 109 ([.lit (.slice xd2 (List.length l2) xc2)] ++ [.lit (.map (some xr3))] ++ [.lit (.int .i64 y1_2)] ++ [.lit (.slice none 0 0)] ++ [.lit (.bool y1_4)]), FW.orow xd2 xc2 9 1 c_str l2, FW.mapI (.int .i64) (Value.int .i64) FW.evS xr3 ([] : List (Int × (List UInt8)))]) (j := 2) hk rfl rfl Go.Proofs.Try.underlying107 rfl ?_; clear hk; intro w hk
      refine FW.lend (hK18 _ _ ?_); clear hK18 K'
      refine FW.wreg1 ?_
      refine FW.lfun (y := .lit (.pointer (some ⟨b0, 0, none⟩))) hk rfl rfl rfl rfl (FW.f_move hk (FW.holds_nil _) rfl) ?_; clear hk; intro a w hk
      refine FW.lfun (y := .lit (.pointer (some ⟨b0, 0, none⟩))) hk rfl rfl rfl rfl ((FW.f_pure (FW.p_nilCheck hk.kn (FW.holds_nil _) rfl))) ?_; clear hk; intro a w hk
      refine FW.lfun (y := .lit (.pointer (some ⟨b0, 4, none⟩))) hk rfl rfl rfl rfl (FW.f_fieldPtr hk (FW.holds_nil _) rfl Go.Proofs.Try.underlying109 rfl (by kernel_rfl) rfl) ?_; clear hk; intro a w hk
      refine FW.l_store (I' := [FW.blk b0 109 ([.lit (.slice xd2 (List.length l2) xc2)] ++ [.lit (.map (some xr3))] ++ [.lit (.int .i64 y1_2)] ++ [.lit (.slice none 0 0)] ++ [.lit (.bool true)]), FW.orow xd2 xc2 9 1 c_str l2, FW.mapI (.int .i64) (Value.int .i64) FW.evS xr3 ([] : List (Int × (List UInt8)))]) (cs' := [.lit (.slice xd2 (List.length l2) xc2)] ++ [.lit (.map (some xr3))] ++ [.lit (.int .i64 y1_2)] ++ [.lit (.slice none 0 0)] ++ [.lit (.bool true)]) (j := 0) hk rfl rfl rfl rfl rfl (by kernel_rfl) rfl rfl ?_; clear hk; intro w hk
      refine wpList_nil ?_
      (repeat first | refine FW.then_normal ?_ | refine FW.block_normal ?_)
      refine FW.fnorm ?_
      obtain rfl := Option.some.inj h
      replace hk := FW.S.keep (I1 := [FW.blk b0 109 ([.lit (.slice xd2 (List.length l2) xc2)] ++ [.lit (.map (some xr3))] ++ [.lit (.int .i64 y1_2)] ++ [.lit (.slice none 0 0)] ++ [.lit (.bool true)]), FW.orow xd2 xc2 9 1 c_str l2, FW.mapI (.int .i64) (Value.int .i64) FW.evS xr3 ([] : List (Int × (List UInt8)))]) (I2 := []) (js := [2, 2, 2]) hk rfl
      exact FW.fretH0 hk rfl ⟨xd2, xc2, xr3, rfl, rfl⟩

theorem dev_Dev_step.ok (K : Nat) (v0 : ODevDev) (r : Int × ODevDev) (h : dev_Dev_step.f K v0 = some r) :
    ∀ (b0 : Nat) (xd0_0 : Option Addr) (xc0_0 : Nat) (xr0_1 : Nat), FW.OkH Go.Proofs.Try.prog 63 [.lit (.pointer (some ⟨b0, 0, none⟩))] (ODevDev.items b0 xd0_0 xc0_0 xr0_1 v0) (fun y I => ∃ (zxd0_0 : Option Addr) (zxc0_0 : Nat) (zxr0_1 : Nat), y = .lit (.int .i64 r.1) ∧ I = ODevDev.items b0 zxd0_0 zxc0_0 zxr0_1 r.2) := by
  intro b0 xd0_0 xc0_0 xr0_1
  refine FW.enterH (xs := [.lit (.pointer (some ⟨b0, 0, none⟩))]) Go.Proofs.Try.func63 rfl Go.Proofs.Try.ntmps63 rfl ?_
  intro M w0 a hk
  replace hk : FW.S M w0 a w0.toWorld 44 [FW.blk b0 109 ([.lit (.slice xd0_0 (List.length v0.sure) xc0_0)] ++ [.lit (.map (some xr0_1))] ++ [.lit (.int .i64 v0.steps)] ++ [.lit (.slice none 0 0)] ++ [.lit (.bool v0.off)]), FW.orow xd0_0 xc0_0 9 1 c_str v0.sure, FW.mapI (.int .i64) (Value.int .i64) FW.evS xr0_1 v0.cache] [(0, [], .lit (.pointer (some ⟨b0, 0, none⟩)))] := hk
  unfold dev_Dev_step.f at h
  refine FW.wreg ?_; intro K' hK1
  refine FW.l_box (cs := [.lit (.pointer (some ⟨b0, 0, none⟩))]) hk rfl rfl rfl rfl rfl ?_; clear hk; intro b1 a w hk
  refine FW.lfun (y := .lit (.int .i64 0)) hk rfl rfl rfl rfl (FW.f_assign hk (FW.holds_nil _) rfl) ?_; clear hk; intro a w hk
  refine FW.lend (hK1 _ _ ?_); clear hK1 K'
  refine FW.wreg ?_; intro K' hK2
  refine FW.lfun (y := .lit (.pointer (some ⟨b0, 0, none⟩))) hk rfl rfl rfl rfl (FW.f_loadBlk1 hk (FW.holds_nil _) (j := 0) rfl rfl Go.Proofs.Try.underlying46 rfl rfl) ?_; clear hk; intro a w hk
  refine FW.lfun (y := .lit (.pointer (some ⟨b0, 0, none⟩))) hk rfl rfl rfl rfl ((FW.f_pure (FW.p_nilCheck hk.kn (FW.holds_nil _) rfl))) ?_; clear hk; intro a w hk
  refine FW.lfun (y := .lit (.pointer (some ⟨b0, 3, none⟩))) hk rfl rfl rfl rfl (FW.f_fieldPtr hk (FW.holds_nil _) rfl Go.Proofs.Try.underlying109 rfl (by kernel_rfl) rfl) ?_; clear hk; intro a w hk
  refine FW.lfun (y := .lit (.slice none 0 0)) hk rfl rfl rfl rfl (FW.f_loadBlk1 hk (FW.holds_nil _) (j := 1) rfl rfl Go.Proofs.Try.underlying74 rfl rfl) ?_; clear hk; intro a w hk
  refine FW.lfun (y := .lit (.func (.func 88) #[] #[.pointer (some ⟨b1, 0, none⟩)])) hk rfl rfl rfl rfl (FW.f_makeFunc hk (FW.holds_nil _) rfl) ?_; clear hk; intro a w hk
  refine FW.lfun (y := .lit (.int .i64 (-1))) hk rfl rfl rfl rfl (FW.f_call hk (FW.holds_nil _) rfl rfl Go.Proofs.Try.func87 rfl (by kernel_rfl) (indexFunc_nil _)) ?_; clear hk; intro a w hk
  refine FW.lfun (y := .lit (.int .i64 (-1))) hk rfl rfl rfl rfl (FW.f_assign hk (FW.holds_nil _) rfl) ?_; clear hk; intro a w hk
  refine FW.lend (hK2 _ _ ?_); clear hK2 K'
  refine FW.wseq ?_; intro K' hK3
  refine FW.wreg ?_; intro K' hK4
  refine FW.lfun (y := .lit (.int .i64 (-1))) hk rfl rfl rfl rfl (FW.f_move hk (FW.holds_nil _) rfl) ?_; clear hk; intro a w hk
  refine FW.lfun (y := .lit (.bool true)) hk rfl rfl rfl rfl ((FW.f_pure (FW.p_lss (p := (-1)) (q := 0) hk.kn (FW.holds_nil _) rfl rfl))) ?_; clear hk; intro a w hk
  refine FW.lend (hK4 _ _ ?_); clear hK4 K'
  refine FW.wcondT hk rfl ?_
  refine FW.wreg ?_; intro K' hK5
  refine FW.lfun (y := .lit (.pointer (some ⟨b0, 0, none⟩))) hk rfl rfl rfl rfl (FW.f_loadBlk1 hk (FW.holds_nil _) (j := 0) rfl rfl Go.Proofs.Try.underlying46 rfl rfl) ?_; clear hk; intro a w hk
  refine FW.lfun (y := .lit (.pointer (some ⟨b0, 0, none⟩))) hk rfl rfl rfl rfl ((FW.f_pure (FW.p_nilCheck hk.kn (FW.holds_nil _) rfl))) ?_; clear hk; intro a w hk
  refine FW.lfun (y := .lit (.pointer (some ⟨b0, 2, none⟩))) hk rfl rfl rfl rfl (FW.f_fieldPtr hk (FW.holds_nil _) rfl Go.Proofs.Try.underlying109 rfl (by kernel_rfl) rfl) ?_; clear hk; intro a w hk
  refine FW.lfun (y := .lit (.int .i64 v0.steps)) hk rfl rfl rfl rfl (FW.f_loadBlk1 hk (FW.holds_nil _) (j := 1) rfl rfl Go.Proofs.Try.underlying3 rfl rfl) ?_; clear hk; intro a w hk
  refine FW.lfun (y := .lit (.int .i64 (IntKind.wrap .i64 (v0.steps + 1)))) hk rfl rfl rfl rfl ((FW.f_pure (FW.p_add hk.kn (FW.holds_nil _) rfl rfl))) ?_; clear hk; intro a w hk
  refine FW.lfun (y := .lit (.pointer (some ⟨b0, 0, none⟩))) hk rfl rfl rfl rfl ((FW.f_pure (FW.p_nilCheck hk.kn (FW.holds_nil _) rfl))) ?_; clear hk; intro a w hk
  refine FW.lfun (y := .lit (.pointer (some ⟨b0, 2, none⟩))) hk rfl rfl rfl rfl (FW.f_fieldPtr hk (FW.holds_nil _) rfl Go.Proofs.Try.underlying109 rfl (by kernel_rfl) rfl) ?_; clear hk; intro a w hk
  refine FW.l_store (I' := [FW.blk b1 46 ([.lit (.pointer (some ⟨b0, 0, none⟩))]), FW.blk b0 109 ([.lit (.slice xd0_0 (List.length v0.sure) xc0_0)] ++ [.lit (.map (some xr0_1))] ++ [.lit (.int .i64 (IntKind.wrap .i64 (v0.steps + 1)))] ++ [.lit (.slice none 0 0)] ++ [.lit (.bool v0.off)]), FW.orow xd0_0 xc0_0 9 1 c_str v0.sure, FW.mapI (.int .i64) (Value.int .i64) FW.evS xr0_1 v0.cache]) (cs' := [.lit (.slice xd0_0 (List.length v0.sure) xc0_0)] ++ [.lit (.map (some xr0_1))] ++ [.lit (.int .i64 (IntKind.wrap .i64 (v0.steps + 1)))] ++ [.lit (.slice none 0 0)] ++ [.lit (.bool v0.off)]) (j := 1) hk rfl rfl rfl rfl rfl (by kernel_rfl) rfl rfl ?_; clear hk; intro w hk
  refine FW.lend (hK5 _ _ ?_); clear hK5 K'
  refine FW.wreg ?_; intro K' hK6
  refine FW.lfun (y := .lit (.int .i64 0)) hk rfl rfl rfl rfl (FW.f_assign hk (FW.holds_nil _) rfl) ?_; clear hk; intro a w hk
  refine FW.lend (hK6 _ _ ?_); clear hK6 K'
  refine wp_ret ?_
  (repeat first | refine FW.then_ret ?_ | refine FW.block_ret ?_)
  obtain rfl := Option.some.inj h
  replace hk := FW.S.keep (I1 := [FW.blk b0 109 ([.lit (.slice xd0_0 (List.length v0.sure) xc0_0)] ++ [.lit (.map (some xr0_1))] ++ [.lit (.int .i64 (IntKind.wrap .i64 (v0.steps + 1)))] ++ [.lit (.slice none 0 0)] ++ [.lit (.bool v0.off)]), FW.orow xd0_0 xc0_0 9 1 c_str v0.sure, FW.mapI (.int .i64) (Value.int .i64) FW.evS xr0_1 v0.cache]) (I2 := [FW.blk b1 46 ([.lit (.pointer (some ⟨b0, 0, none⟩))])]) (js := [3, 3, 3]) hk rfl
  exact FW.fretH1 hk rfl (FW.rtmp hk rfl) ⟨xd0_0, xc0_0, xr0_1, rfl, rfl⟩

theorem dev_Dev_Write.ok (K : Nat) (v0 : ODevDev) (v1 : Int) (v2 : List UInt8) (r : Int × ODevDev) (h : dev_Dev_Write.f K v0 v1 v2 = some r) :
    ∀ (b0 : Nat) (xd0_0 : Option Addr) (xc0_0 : Nat) (xr0_1 : Nat), FW.OkH Go.Proofs.Try.prog 29 [.lit (.pointer (some ⟨b0, 0, none⟩)), .lit (.int .i64 v1), .lit (.string (FW.B v2))] (ODevDev.items b0 xd0_0 xc0_0 xr0_1 v0) (fun y I => ∃ (zxd0_0 : Option Addr) (zxc0_0 : Nat) (zxr0_1 : Nat), y = .lit (.int .i64 r.1) ∧ I = ODevDev.items b0 zxd0_0 zxc0_0 zxr0_1 r.2) := by
  intro b0 xd0_0 xc0_0 xr0_1
  refine FW.enterH (xs := [.lit (.pointer (some ⟨b0, 0, none⟩)), .lit (.int .i64 v1), .lit (.string (FW.B v2))]) Go.Proofs.Try.func29 rfl Go.Proofs.Try.ntmps29 rfl ?_
  intro M w0 a hk
  replace hk : FW.S M w0 a w0.toWorld 39 [FW.blk b0 109 ([.lit (.slice xd0_0 (List.length v0.sure) xc0_0)] ++ [.lit (.map (some xr0_1))] ++ [.lit (.int .i64 v0.steps)] ++ [.lit (.slice none 0 0)] ++ [.lit (.bool v0.off)]), FW.orow xd0_0 xc0_0 9 1 c_str v0.sure, FW.mapI (.int .i64) (Value.int .i64) FW.evS xr0_1 v0.cache] [(0, [], .lit (.pointer (some ⟨b0, 0, none⟩))), (1, [], .lit (.int .i64 v1)), (2, [], .lit (.string (FW.B v2)))] := hk
  unfold dev_Dev_Write.f at h
  refine FW.wreg ?_; intro K' hK1
  refine FW.lfun (y := .lit (.int .i64 0)) hk rfl rfl rfl rfl (FW.f_assign hk (FW.holds_nil _) rfl) ?_; clear hk; intro a w hk
  refine FW.lend (hK1 _ _ ?_); clear hK1 K'
  refine FW.wseq ?_; intro K' hK2
  refine wp_block ?_
  refine FW.wreg ?_; intro K' hK3
  refine FW.lfun (y := .lit (.pointer (some ⟨b0, 0, none⟩))) hk rfl rfl rfl rfl (FW.f_move hk (FW.holds_nil _) rfl) ?_; clear hk; intro a w hk
  obtain ⟨t1, hr_t1, h⟩ := FW.bnd h
  refine FW.l_callH (I1 := (ODevDev.items b0 xd0_0 xc0_0 xr0_1 v0)) (I2 := []) (js := [2, 2, 2]) hk rfl rfl rfl rfl rfl Go.Proofs.Try.func41 rfl (by kernel_rfl) (dev_Dev_Off.ok v0 _ hr_t1 b0 xd0_0 xc0_0 xr0_1) ?_; clear hk
  rintro _ _ ⟨zd1, zc1, zr1, rfl, rfl⟩ a w hk
  refine FW.lfun (y := .lit (.bool t1.1)) hk rfl rfl rfl rfl (FW.f_assign hk (FW.holds_nil _) rfl) ?_; clear hk; intro a w hk
  refine FW.lend (hK3 _ _ ?_); clear hK3 K'
  refine FW.wcondF (b := t1.1) hk h rfl (fun h hb => ?_) (fun h hb => ?_)
  · skip
    refine FW.wreg ?_; intro K' hK4
    refine FW.lfun (y := .lit (.int .i64 7)) hk rfl rfl rfl rfl (FW.f_assign hk (FW.holds_nil _) rfl) ?_; clear hk; intro a w hk
    refine FW.lend (hK4 _ _ ?_); clear hK4 K'
    refine wp_ret ?_
    (repeat first | refine FW.then_ret ?_ | refine FW.block_ret ?_)
    obtain rfl := Option.some.inj h
    replace hk := FW.S.keep (I1 := [FW.blk b0 109 ([.lit (.slice zd1 (List.length t1.2.sure) zc1)] ++ [.lit (.map (some zr1))] ++ [.lit (.int .i64 t1.2.steps)] ++ [.lit (.slice none 0 0)] ++ [.lit (.bool t1.2.off)]), FW.orow zd1 zc1 9 1 c_str t1.2.sure, FW.mapI (.int .i64) (Value.int .i64) FW.evS zr1 t1.2.cache]) (I2 := []) (js := [2, 2, 2]) hk rfl
    exact FW.fretH1 hk rfl (FW.rtmp hk rfl) ⟨zd1, zc1, zr1, rfl, rfl⟩
  · skip
    refine FW.wreg ?_; intro K' hK5
    refine FW.lfun (y := .lit (.int .i64 v1)) hk rfl rfl rfl rfl (FW.f_move hk (FW.holds_nil _) rfl) ?_; clear hk; intro a w hk
    refine FW.lfun (y := .lit (.bool (decide (v1 < 0)))) hk rfl rfl rfl rfl ((FW.f_pure (FW.p_lss hk.kn (FW.holds_nil _) rfl rfl))) ?_; clear hk; intro a w hk
    refine FW.lfun (y := .lit (.bool (decide (v1 < 0)))) hk rfl rfl rfl rfl (FW.f_move hk (FW.holds_nil _) rfl) ?_; clear hk; intro a w hk
    refine FW.lfunG (y := .lit (.int .i64 v1)) hk rfl rfl rfl rfl rfl rfl rfl rfl (fun hc => FW.f_move hk hc rfl) ?_; clear hk; intro a w hk
    refine FW.lfunG (y := .lit (.pointer (some ⟨b0, 0, none⟩))) hk rfl rfl rfl rfl rfl rfl rfl rfl (fun hc => FW.f_move hk hc rfl) ?_; clear hk; intro a w hk
    refine FW.lfunG (y := .lit (.pointer (some ⟨b0, 0, none⟩))) hk rfl rfl rfl rfl rfl rfl rfl rfl (fun hc => (FW.f_pure (FW.p_nilCheck hk.kn hc rfl))) ?_; clear hk; intro a w hk
    refine FW.lfunG (y := .lit (.pointer (some ⟨b0, 0, none⟩))) hk rfl rfl rfl rfl rfl rfl rfl rfl (fun hc => FW.f_fieldPtr hk hc rfl Go.Proofs.Try.underlying109 rfl (by kernel_rfl) rfl) ?_; clear hk; intro a w hk
    refine FW.lfunG (y := .lit (.slice zd1 (List.length t1.2.sure) zc1)) hk rfl rfl rfl rfl rfl rfl rfl rfl (fun hc => FW.f_loadBlk1 hk hc (j := 0) rfl rfl Go.Proofs.Try.underlying61 rfl rfl) ?_; clear hk; intro a w hk
    refine FW.lfunG (y := .lit (.int .i64 (List.length t1.2.sure : Int))) hk rfl rfl rfl rfl rfl rfl rfl rfl (fun hc => (FW.f_pure (FW.p_len Go.Proofs.Try.underlying61 hk.kn hc rfl))) ?_; clear hk; intro a w hk
    refine FW.lfunG (y := .lit (.bool (decide ((List.length t1.2.sure : Int) ≤ v1)))) hk rfl rfl rfl rfl rfl rfl rfl rfl (fun hc => (FW.f_pure (FW.p_geq hk.kn hc rfl rfl))) ?_; clear hk; intro a w hk
    refine FW.lfun (y := .lit (.bool ((decide (v1 < 0)) || (decide ((List.length t1.2.sure : Int) ≤ v1))))) hk rfl rfl rfl rfl ((FW.f_pure (FW.p_pick_or hk.kn (FW.holds_nil _) rfl rfl))) ?_; clear hk; intro a w hk
    refine FW.lfun (y := .lit (.bool ((decide (v1 < 0)) || (decide ((List.length t1.2.sure : Int) ≤ v1))))) hk rfl rfl rfl rfl (FW.f_move hk (FW.holds_nil _) rfl) ?_; clear hk; intro a w hk
    refine FW.lfunG (y := .lit (.string (FW.B v2))) hk rfl rfl rfl rfl rfl rfl rfl rfl (fun hc => FW.f_move hk hc rfl) ?_; clear hk; intro a w hk
    refine FW.lfunG (y := .lit (.int .i64 (List.length v2 : Int))) hk rfl rfl rfl rfl rfl rfl rfl rfl (fun hc => (FW.f_pure (FW.p_slen Go.Proofs.Try.underlying9 hk.kn hc rfl))) ?_; clear hk; intro a w hk
    refine FW.lfunG (y := .lit (.bool (!decide ((List.length v2 : Int) = 128)))) hk rfl rfl rfl rfl rfl rfl rfl rfl (fun hc => (FW.f_pure (FW.p_neq hk.kn hc rfl rfl))) ?_; clear hk; intro a w hk
    refine FW.lfun (y := .lit (.bool (((decide (v1 < 0)) || (decide ((List.length t1.2.sure : Int) ≤ v1))) || (!decide ((List.length v2 : Int) = 128))))) hk rfl rfl rfl rfl ((FW.f_pure (FW.p_pick_or hk.kn (FW.holds_nil _) rfl rfl))) ?_; clear hk; intro a w hk
    refine FW.lfun (y := .lit (.bool (((decide (v1 < 0)) || (decide ((List.length t1.2.sure : Int) ≤ v1))) || (!decide ((List.length v2 : Int) = 128))))) hk rfl rfl rfl rfl (FW.f_assign hk (FW.holds_nil _) rfl) ?_; clear hk; intro a w hk
    refine FW.lend (hK5 _ _ ?_); clear hK5 K'
    refine FW.wcondF (b := (((decide (v1 < 0)) || (decide ((List.length t1.2.sure : Int) ≤ v1))) || (!decide ((List.length v2 : Int) = 128)))) hk h rfl (fun h hb => ?_) (fun h hb => ?_)
    · skip
      refine FW.wreg ?_; intro K' hK6
      refine FW.lfun (y := .lit (.int .i64 1)) hk rfl rfl rfl rfl (FW.f_assign hk (FW.holds_nil _) rfl) ?_; clear hk; intro a w hk
      refine FW.lend (hK6 _ _ ?_); clear hK6 K'
      refine wp_ret ?_
      (repeat first | refine FW.then_ret ?_ | refine FW.block_ret ?_)
      obtain rfl := Option.some.inj h
      replace hk := FW.S.keep (I1 := [FW.blk b0 109 ([.lit (.slice zd1 (List.length t1.2.sure) zc1)] ++ [.lit (.map (some zr1))] ++ [.lit (.int .i64 t1.2.steps)] ++ [.lit (.slice none 0 0)] ++ [.lit (.bool t1.2.off)]), FW.orow zd1 zc1 9 1 c_str t1.2.sure, FW.mapI (.int .i64) (Value.int .i64) FW.evS zr1 t1.2.cache]) (I2 := []) (js := [2, 2, 2]) hk rfl
      exact FW.fretH1 hk rfl (FW.rtmp hk rfl) ⟨zd1, zc1, zr1, rfl, rfl⟩
    · skip
      refine wp_skip ?_
      (repeat first | refine FW.then_normal ?_ | refine FW.block_normal ?_); refine hK2 _ _ ?_
      refine FW.wseq ?_; intro K' hK7
      refine FW.wreg ?_; intro K' hK8
      refine FW.lfun (y := .lit (.pointer (some ⟨b0, 0, none⟩))) hk rfl rfl rfl rfl (FW.f_move hk (FW.holds_nil _) rfl) ?_; clear hk; intro a w hk
      obtain ⟨t2, hr_t2, h⟩ := FW.bnd h
      refine FW.l_callH (I1 := (ODevDev.items b0 zd1 zc1 zr1 t1.2)) (I2 := []) (js := [2, 2, 2]) hk rfl rfl rfl rfl rfl Go.Proofs.Try.func63 rfl (by kernel_rfl) (dev_Dev_step.ok K t1.2 _ hr_t2 b0 zd1 zc1 zr1) ?_; clear hk
      rintro _ _ ⟨zd2, zc2, zr2, rfl, rfl⟩ a w hk
      refine FW.lfun (y := .lit (.int .i64 t2.1)) hk rfl rfl rfl rfl (FW.f_assign hk (FW.holds_nil _) rfl) ?_; clear hk; intro a w hk
      refine FW.lend (hK8 _ _ ?_); clear hK8 K'
      refine FW.wreg ?_; intro K' hK9
      refine FW.lfun (y := .lit (.int .i64 t2.1)) hk rfl rfl rfl rfl (FW.f_move hk (FW.holds_nil _) rfl) ?_; clear hk; intro a w hk
      refine FW.lfun (y := .lit (.bool (!decide (t2.1 = 0)))) hk rfl rfl rfl rfl ((FW.f_pure (FW.p_neq hk.kn (FW.holds_nil _) rfl rfl))) ?_; clear hk; intro a w hk
      refine FW.lend (hK9 _ _ ?_); clear hK9 K'
      refine FW.wcondF (b := (!decide (t2.1 = 0))) hk h rfl (fun h hb => ?_) (fun h hb => ?_)
      · skip
        refine FW.wreg ?_; intro K' hK10
        refine FW.lfun (y := .lit (.int .i64 t2.1)) hk rfl rfl rfl rfl (FW.f_move hk (FW.holds_nil _) rfl) ?_; clear hk; intro a w hk
        refine FW.lfun (y := .lit (.int .i64 t2.1)) hk rfl rfl rfl rfl (FW.f_assign hk (FW.holds_nil _) rfl) ?_; clear hk; intro a w hk
        refine FW.lend (hK10 _ _ ?_); clear hK10 K'
        refine wp_ret ?_
        (repeat first | refine FW.then_ret ?_ | refine FW.block_ret ?_)
        obtain rfl := Option.some.inj h
        replace hk := FW.S.keep (I1 := [FW.blk b0 109 ([.lit (.slice zd2 (List.length t2.2.sure) zc2)] ++ [.lit (.map (some zr2))] ++ [.lit (.int .i64 t2.2.steps)] ++ [.lit (.slice none 0 0)] ++ [.lit (.bool t2.2.off)]), FW.orow zd2 zc2 9 1 c_str t2.2.sure, FW.mapI (.int .i64) (Value.int .i64) FW.evS zr2 t2.2.cache]) (I2 := []) (js := [2, 2, 2]) hk rfl
        exact FW.fretH1 hk rfl (FW.rtmp hk rfl) ⟨zd2, zc2, zr2, rfl, rfl⟩
      · skip
        refine wp_skip ?_
        (repeat first | refine FW.then_normal ?_ | refine FW.block_normal ?_); refine hK7 _ _ ?_
        refine FW.wreg ?_; intro K' hK11
        refine FW.lfun (y := .lit (.pointer (some ⟨b0, 0, none⟩))) hk rfl rfl rfl rfl (FW.f_move hk (FW.holds_nil _) rfl) ?_; clear hk; intro a w hk
        refine FW.lfun (y := .lit (.pointer (some ⟨b0, 0, none⟩))) hk rfl rfl rfl rfl ((FW.f_pure (FW.p_nilCheck hk.kn (FW.holds_nil _) rfl))) ?_; clear hk; intro a w hk
        refine FW.lfun (y := .lit (.pointer (some ⟨b0, 1, none⟩))) hk rfl rfl rfl rfl (FW.f_fieldPtr hk (FW.holds_nil _) rfl Go.Proofs.Try.underlying109 rfl (by kernel_rfl) rfl) ?_; clear hk; intro a w hk
        refine FW.lfun (y := .lit (.map (some zr2))) hk rfl rfl rfl rfl (FW.f_loadBlk1 hk (FW.holds_nil _) (j := 0) rfl rfl Go.Proofs.Try.underlying107 rfl rfl) ?_; clear hk; intro a w hk
        refine FW.lfun (y := .lit (.int .i64 v1)) hk rfl rfl rfl rfl (FW.f_move hk (FW.holds_nil _) rfl) ?_; clear hk; intro a w hk
        refine FW.lfun (y := .lit (.string (FW.B v2))) hk rfl rfl rfl rfl (FW.f_move hk (FW.holds_nil _) rfl) ?_; clear hk; intro a w hk
        refine FW.l_mapUpdate (ev := FW.evS) (I' := [FW.blk b0 109 ([.lit (.slice zd2 (List.length t2.2.sure) zc2)] ++ [.lit (.map (some zr2))] ++ [.lit (.int .i64 t2.2.steps)] ++ [.lit (.slice none 0 0)] ++ [.lit (.bool t2.2.off)]), FW.orow zd2 zc2 9 1 c_str t2.2.sure, FW.mapI (.int .i64) (Value.int .i64) FW.evS zr2 (FW.mput t2.2.cache v1 v2)]) (j := 2) hk rfl rfl rfl rfl Go.Proofs.Try.underlying107 Go.Proofs.Try.underlying3 rfl ?_; clear hk; intro w hk
        refine FW.lend (hK11 _ _ ?_); clear hK11 K'
        refine FW.wreg ?_; intro K' hK12
        refine FW.lfun (y := .lit (.int .i64 0)) hk rfl rfl rfl rfl (FW.f_assign hk (FW.holds_nil _) rfl) ?_; clear hk; intro a w hk
        refine FW.lend (hK12 _ _ ?_); clear hK12 K'
        refine wp_ret ?_
        (repeat first | refine FW.then_ret ?_ | refine FW.block_ret ?_)
        obtain rfl := Option.some.inj h
        replace hk := FW.S.keep (I1 := [FW.blk b0 109 ([.lit (.slice zd2 (List.length t2.2.sure) zc2)] ++ [.lit (.map (some zr2))] ++ [.lit (.int .i64 t2.2.steps)] ++ [.lit (.slice none 0 0)] ++ [.lit (.bool t2.2.off)]), FW.orow zd2 zc2 9 1 c_str t2.2.sure, FW.mapI (.int .i64) (Value.int .i64) FW.evS zr2 (FW.mput t2.2.cache v1 v2)]) (I2 := []) (js := [2, 2, 2]) hk rfl
        exact FW.fretH1 hk rfl (FW.rtmp hk rfl) ⟨zd2, zc2, zr2, rfl, rfl⟩

theorem dev_New.ok (K : Nat) (v0 : Int) (r : ODevDev × Int) (h : dev_New.f K v0 = some r) :
    FW.OkH Go.Proofs.Try.prog 27 [.lit (.int .i64 v0)] [] (fun y I => ∃ (bn0 : Nat) (zxdn0_0 : Option Addr) (zxcn0_0 : Nat) (zxrn0_1 : Nat), y = .tup [.lit (.pointer (some ⟨bn0, 0, none⟩)), .lit (.int .i64 r.2)] ∧ I = (ODevDev.items bn0 zxdn0_0 zxcn0_0 zxrn0_1 r.1)) := by
  refine FW.enterH (xs := [.lit (.int .i64 v0)]) Go.Proofs.Try.func27 rfl Go.Proofs.Try.ntmps27 rfl ?_
  intro M w0 a hk
  unfold dev_New.f at h
  refine FW.wreg ?_; intro K' hK1
  refine FW.lfun (y := .lit (.pointer none)) hk rfl rfl rfl rfl (FW.f_assign hk (FW.holds_nil _) rfl) ?_; clear hk; intro a w hk
  refine FW.lfun (y := .lit (.int .i64 0)) hk rfl rfl rfl rfl (FW.f_assign hk (FW.holds_nil _) rfl) ?_; clear hk; intro a w hk
  refine FW.lend (hK1 _ _ ?_); clear hK1 K'
  refine FW.wseq ?_; intro K' hK2
  refine FW.wreg ?_; intro K' hK3
  refine FW.lfun (y := .lit (.int .i64 v0)) hk rfl rfl rfl rfl (FW.f_move hk (FW.holds_nil _) rfl) ?_; clear hk; intro a w hk
  refine FW.lfun (y := .lit (.bool (decide (v0 < 0)))) hk rfl rfl rfl rfl ((FW.f_pure (FW.p_lss hk.kn (FW.holds_nil _) rfl rfl))) ?_; clear hk; intro a w hk
  refine FW.lfun (y := .lit (.bool (decide (v0 < 0)))) hk rfl rfl rfl rfl (FW.f_move hk (FW.holds_nil _) rfl) ?_; clear hk; intro a w hk
  refine FW.lfunG (y := .lit (.int .i64 v0)) hk rfl rfl rfl rfl rfl rfl rfl rfl (fun hc => FW.f_move hk hc rfl) ?_; clear hk; intro a w hk
  refine FW.lfunG (y := .lit (.bool (decide (65536 < v0)))) hk rfl rfl rfl rfl rfl rfl rfl rfl (fun hc => (FW.f_pure (FW.p_gtr hk.kn hc rfl rfl))) ?_; clear hk; intro a w hk
  refine FW.lfun (y := .lit (.bool ((decide (v0 < 0)) || (decide (65536 < v0))))) hk rfl rfl rfl rfl ((FW.f_pure (FW.p_pick_or hk.kn (FW.holds_nil _) rfl rfl))) ?_; clear hk; intro a w hk
  refine FW.lend (hK3 _ _ ?_); clear hK3 K'
  refine FW.wcondF (b := ((decide (v0 < 0)) || (decide (65536 < v0)))) hk h rfl (fun h hb => ?_) (fun h hb => ?_)
  · skip
    cases h
  · skip
    refine wp_skip ?_
    (repeat first | refine FW.then_normal ?_ | refine FW.block_normal ?_); refine hK2 _ _ ?_
    refine FW.wreg ?_; intro K' hK4
    refine FW.lfun (y := .lit (.int .i64 v0)) hk rfl rfl rfl rfl (FW.f_move hk (FW.holds_nil _) rfl) ?_; clear hk; intro a w hk
    obtain ⟨hc1, h⟩ := FW.chk h
    refine FW.l_makeSlice (f := c_str) (z := ([] : List UInt8)) (fun _ => rfl) hk rfl rfl rfl rfl Go.Proofs.Try.underlying61 (by kernel_rfl) rfl rfl (by kernel_rfl) hc1 ?_; clear hk; intro b1 a w hk
    refine FW.l_makeMap (κ := Int) (ν := List UInt8) (D := .int .i64) (ek := Value.int .i64) (ev := FW.evS) hk rfl rfl FW.keyI64 ?_; clear hk; intro r1 a w hk
    refine FW.lfun (y := .agg ([.lit (.slice (some ⟨b1, 0, none⟩) (List.length (List.replicate (Int.toNat v0) ([] : List UInt8))) (Int.toNat v0))] ++ [.lit (.map (some r1))] ++ [.lit (.int .i64 0)] ++ [.lit (.slice none 0 0)] ++ [.lit (.bool false)])) hk rfl rfl rfl rfl (FW.f_buildN [3] hk (FW.holds_nil _) rfl rfl rfl) ?_; clear hk; intro a w hk
    refine FW.l_box (cs := [.lit (.slice (some ⟨b1, 0, none⟩) (List.length (List.replicate (Int.toNat v0) ([] : List UInt8))) (Int.toNat v0))] ++ [.lit (.map (some r1))] ++ [.lit (.int .i64 0)] ++ [.lit (.slice none 0 0)] ++ [.lit (.bool false)]) hk rfl rfl rfl rfl rfl ?_; clear hk; intro b2 a w hk
    refine FW.lfun (y := .lit (.pointer (some ⟨b2, 0, none⟩))) hk rfl rfl rfl rfl (FW.f_assign hk (FW.holds_nil _) rfl) ?_; clear hk; intro a w hk
    refine FW.lend (hK4 _ _ ?_); clear hK4 K'
    refine FW.wseq ?_; intro K' hK5
    refine FW.wreg ?_; intro K' hK6
    refine FW.lfun (y := .lit (.pointer (some ⟨b2, 0, none⟩))) hk rfl rfl rfl rfl (FW.f_move hk (FW.holds_nil _) rfl) ?_; clear hk; intro a w hk
    refine FW.lfun (y := .lit (.pointer (some ⟨b2, 0, none⟩))) hk rfl rfl rfl rfl ((FW.f_pure (FW.p_nilCheck hk.kn (FW.holds_nil _) rfl))) ?_; clear hk; intro a w hk
    refine FW.lfun (y := .lit (.pointer (some ⟨b2, 0, none⟩))) hk rfl rfl rfl rfl (FW.f_fieldPtr hk (FW.holds_nil _) rfl Go.Proofs.Try.underlying109 rfl (by kernel_rfl) rfl) ?_; clear hk; intro a w hk
    refine FW.lfun (y := .lit (.slice (some ⟨b1, 0, none⟩) (List.length (List.replicate (Int.toNat v0) ([] : List UInt8))) (Int.toNat v0))) hk rfl rfl rfl rfl (FW.f_loadBlk1 hk (FW.holds_nil _) (j := 0) rfl rfl Go.Proofs.Try.underlying61 rfl rfl) ?_; clear hk; intro a w hk
    refine FW.lfun (y := .lit (.int .i64 (List.length (List.replicate (Int.toNat v0) ([] : List UInt8)) : Int))) hk rfl rfl rfl rfl ((FW.f_pure (FW.p_len Go.Proofs.Try.underlying61 hk.kn (FW.holds_nil _) rfl))) ?_; clear hk; intro a w hk
    refine FW.lfun (y := .lit (.int .i64 0)) hk rfl rfl rfl rfl (FW.f_move hk (FW.holds_nil _) rfl) ?_; clear hk; intro a w hk
    refine FW.lend (hK6 _ _ ?_); clear hK6 K'
    refine wp_block ?_
    refine FW.wloop (T := Nat × Int × Bool × (List (Int × (List UInt8))) × List (List UInt8) × Int × Int × Nat × Option Addr × Nat) (fun x a w => match x with | (kl1, y3_2, y3_4, m2, l1, v21, v22, xr2, xd1, xc1) => FW.S M w0 a w 34 [FW.blk b2 109 ([.lit (.slice xd1 (List.length l1) xc1)] ++ [.lit (.map (some xr2))] ++ [.lit (.int .i64 y3_2)] ++ [.lit (.slice none 0 0)] ++ [.lit (.bool y3_4)]), FW.mapI (.int .i64) (Value.int .i64) FW.evS xr2 m2, FW.orow xd1 xc1 9 1 c_str l1] [(4, [], .lit (.pointer (some ⟨b2, 0, none⟩))), (21, [], .lit (.int .i64 v21)), (22, [], .lit (.int .i64 v22))] ∧ dev_New.l1 K kl1 y3_2 y3_4 m2 l1 v21 v22 = some r) (fun x => x.1) (K, 0, false, ([] : List (Int × (List UInt8))), (List.replicate (Int.toNat v0) ([] : List UInt8)), (List.length (List.replicate (Int.toNat v0) ([] : List UInt8)) : Int), 0, r1, (some ⟨b1, 0, none⟩), (Int.toNat v0)) ⟨hk.sub ⟨rfl, rfl, rfl, trivial⟩, h⟩ ?_
    clear hk h
    rintro ⟨kl1, y3_2, y3_4, m2, l1, v21, v22, xr2, xd1, xc1⟩ a w ⟨hk, h⟩ K' hK7
    cases kl1 with
    | zero => simp [dev_New.l1] at h
    | succ kl1 =>
    rw [dev_New.l1.eq_2] at h
    refine FW.wreg ?_; intro K' hK8
    refine FW.lfun (y := .lit (.bool (decide (v22 < v21)))) hk rfl rfl rfl rfl ((FW.f_pure (FW.p_lss hk.kn (FW.holds_nil _) rfl rfl))) ?_; clear hk; intro a w hk
    refine FW.lend (hK8 _ _ ?_); clear hK8 K'
    refine FW.wseq ?_; intro K' hK9
    refine FW.wcondF (b := (decide (v22 < v21))) hk h rfl (fun h hb => ?_) (fun h hb => ?_)
    · skip
      refine wp_skip ?_
      (repeat first | refine FW.then_normal ?_ | refine FW.block_normal ?_); refine hK9 _ _ ?_
      refine FW.wseq ?_; intro K' hK10
      refine wp_block ?_
      refine FW.wreg ?_; intro K' hK11
      refine FW.lfun (y := .lit (.int .i64 v22)) hk rfl rfl rfl rfl (FW.f_move hk (FW.holds_nil _) rfl) ?_; clear hk; intro a w hk
      refine FW.lfun (y := .lit (.int .i64 v22)) hk rfl rfl rfl rfl (FW.f_assign hk (FW.holds_nil _) rfl) ?_; clear hk; intro a w hk
      refine FW.lend (hK11 _ _ ?_); clear hK11 K'
      obtain ⟨t1, hr_t1, h⟩ := FW.bnd h
      obtain ⟨hc2, h⟩ := FW.chk h
      refine FW.wdrawE1 (need := [false, false, false, false, false, false, false, false]) [(7, [true, true, true, true, true, true, true, false], [true, true, true, true, true, true, true, false])] [(25, [], .lit (.pointer (some ⟨b2, 0, none⟩))), (26, [], .lit (.pointer (some ⟨b2, 0, none⟩))), (27, [], .lit (.pointer (some ⟨b2, 0, none⟩))), (28, [], .lit (.slice xd1 (List.length l1) xc1)), (29, [], .lit (.int .i64 v22)), (30, [], .lit (.string (FW.B t1))), (31, [], FW.elA xd1 1 v22), (34, [], .lit undef)] (by kernel_rfl) (by kernel_rfl) (by kernel_rfl) (by kernel_rfl) hk ?_; clear hk
      refine FW.gnext0 ?_ rfl rfl rfl ?_
      · skip
        refine FW.gfun (y := .lit (.pointer (some ⟨b2, 0, none⟩))) rfl rfl rfl rfl (fun a w hk => FW.f_move hk (FW.holds_nil _) rfl) ?_
        refine FW.gfun (y := .lit (.pointer (some ⟨b2, 0, none⟩))) rfl rfl rfl rfl (fun a w hk => (FW.f_pure (FW.p_nilCheck hk.kn (FW.holds_nil _) rfl))) ?_
        refine FW.gfun (y := .lit (.pointer (some ⟨b2, 0, none⟩))) rfl rfl rfl rfl (fun a w hk => FW.f_fieldPtr hk (FW.holds_nil _) rfl Go.Proofs.Try.underlying109 rfl (by kernel_rfl) rfl) ?_
        refine FW.gfun (y := .lit (.slice xd1 (List.length l1) xc1)) rfl rfl rfl rfl (fun a w hk => FW.f_loadBlk1 hk (FW.holds_nil _) (j := 0) rfl rfl Go.Proofs.Try.underlying61 rfl rfl) ?_
        refine FW.gfun (y := .lit (.int .i64 v22)) rfl rfl rfl rfl (fun a w hk => FW.f_move hk (FW.holds_nil _) rfl) ?_
        refine FW.gfun (y := .lit (.string (FW.B t1))) rfl rfl rfl rfl (fun a w hk => FW.f_call hk (FW.holds_nil _) rfl rfl Go.Proofs.Try.func62 rfl (by kernel_rfl) (strings_Repeat.ok ([0] : List UInt8) 128 _ hr_t1)) ?_
        refine FW.gfun (y := FW.elA xd1 1 v22) rfl rfl rfl rfl (fun a w hk => FW.f_idxOwn (f := c_str) (l := l1) hk (FW.holds_nil _) (j := 2) rfl rfl (by first | rfl | simp only [List.length_set]) rfl Go.Proofs.Try.underlying61 (by kernel_rfl) hc2) ?_
        refine FW.gskip0 rfl ?_
        exact FW.gend
      · skip
        intro σD a w opsD QD hk hQ
        refine FW.l_storeOwn1 (f := c_str) (l := l1) (v := t1) (I' := [FW.blk b2 109 ([.lit (.slice xd1 (List.length l1) xc1)] ++ [.lit (.map (some xr2))] ++ [.lit (.int .i64 y3_2)] ++ [.lit (.slice none 0 0)] ++ [.lit (.bool y3_4)]), FW.mapI (.int .i64) (Value.int .i64) FW.evS xr2 m2, FW.orow xd1 xc1 9 1 c_str (List.set l1 (Int.toNat v22) t1)]) (j := 2) hk rfl rfl hc2 rfl rfl rfl rfl (by kernel_rfl) rfl ?_; clear hk; intro w hk
        refine hQ _ a w ?_ hk; clear hk hQ
        refine ⟨[(25, [], .lit (.pointer (some ⟨b2, 0, none⟩))), (26, [], .lit (.pointer (some ⟨b2, 0, none⟩))), (27, [], .lit (.pointer (some ⟨b2, 0, none⟩))), (28, [], .lit (.slice xd1 (List.length l1) xc1)), (29, [], .lit (.int .i64 v22)), (30, [], .lit (.string (FW.B t1))), (31, [], FW.elA xd1 1 v22), (34, [], .lit undef)], And.intro rfl (And.intro rfl (And.intro rfl (And.intro rfl (And.intro rfl (And.intro rfl (And.intro rfl (trivial))))))), rfl, ?_⟩
        refine FW.glast ?_ ?_
        · skip
          refine FW.gskip rfl rfl ?_
          refine FW.gskip rfl rfl ?_
          refine FW.gskip rfl rfl ?_
          refine FW.gskip rfl rfl ?_
          refine FW.gskip rfl rfl ?_
          refine FW.gskip rfl rfl ?_
          refine FW.gskip rfl rfl ?_
          refine FW.gskip0 rfl ?_
          exact FW.gend
        · skip
          intro a w hk; simp only [FW.stD, cond_true] at hk
          (repeat first | refine FW.then_normal ?_ | refine FW.block_normal ?_); refine hK10 _ _ ?_
          refine FW.wreg1 ?_
          refine FW.lfun (y := .lit (.int .i64 (IntKind.wrap .i64 (v22 + 1)))) hk rfl rfl rfl rfl ((FW.f_pure (FW.p_add hk.kn (FW.holds_nil _) rfl rfl))) ?_; clear hk; intro a w hk
          refine FW.lfun (y := .lit (.int .i64 (IntKind.wrap .i64 (v22 + 1)))) hk rfl rfl rfl rfl (FW.f_move hk (FW.holds_nil _) rfl) ?_; clear hk; intro a w hk
          refine wpList_nil ?_
          replace hk := FW.S.cast (I' := [FW.blk b2 109 ([.lit (.slice xd1 (List.length (List.set l1 (Int.toNat v22) t1)) xc1)] ++ [.lit (.map (some xr2))] ++ [.lit (.int .i64 y3_2)] ++ [.lit (.slice none 0 0)] ++ [.lit (.bool y3_4)]), FW.mapI (.int .i64) (Value.int .i64) FW.evS xr2 m2, FW.orow xd1 xc1 9 1 c_str (List.set l1 (Int.toNat v22) t1)]) hk (by first | rfl | simp only [List.length_set]) rfl
          (repeat first | refine FW.then_normal ?_ | refine FW.block_normal ?_); exact hK7 (kl1, y3_2, y3_4, m2, (List.set l1 (Int.toNat v22) t1), v21, (IntKind.wrap .i64 (v22 + 1)), xr2, xd1, xc1) _ _ (Nat.lt_succ_self _) ⟨hk.sub ⟨rfl, rfl, rfl, trivial⟩, h⟩
    · skip
      refine wp_exit ?_; (repeat first | refine FW.then_exit ?_ | refine FW.block_exit_ne rfl ?_); refine FW.block_exit ?_
      (repeat first | refine FW.then_normal ?_ | refine FW.block_normal ?_); refine hK5 _ _ ?_
      refine FW.wreg ?_; intro K' hK14
      refine FW.lfun (y := .lit (.pointer (some ⟨b2, 0, none⟩))) hk rfl rfl rfl rfl (FW.f_move hk (FW.holds_nil _) rfl) ?_; clear hk; intro a w hk
      refine FW.lfun (y := .lit (.pointer (some ⟨b2, 0, none⟩))) hk rfl rfl rfl rfl (FW.f_assign hk (FW.holds_nil _) rfl) ?_; clear hk; intro a w hk
      refine FW.lfun (y := .lit (.int .i64 0)) hk rfl rfl rfl rfl (FW.f_assign hk (FW.holds_nil _) rfl) ?_; clear hk; intro a w hk
      refine FW.lend (hK14 _ _ ?_); clear hK14 K'
      refine wp_ret ?_
      (repeat first | refine FW.then_ret ?_ | refine FW.block_ret ?_)
      obtain rfl := Option.some.inj h
      replace hk := FW.S.keep (I1 := [FW.blk b2 109 ([.lit (.slice xd1 (List.length l1) xc1)] ++ [.lit (.map (some xr2))] ++ [.lit (.int .i64 y3_2)] ++ [.lit (.slice none 0 0)] ++ [.lit (.bool y3_4)]), FW.orow xd1 xc1 9 1 c_str l1, FW.mapI (.int .i64) (Value.int .i64) FW.evS xr2 m2]) (I2 := []) (js := [1, 2, 2]) hk rfl
      exact FW.fretH2 hk rfl (FW.rtmp hk rfl) (FW.rtmp hk rfl) ⟨b2, xd1, xc1, xr2, rfl, rfl⟩
end Go.Proofs.Ytimaibcaehagjaa

/- Written by a program of this session (gen.py): the contracts of functions of the program. -/
import Derived.KernelRfl
import Derived.Test.YtimaibcaehagjaaProg
import Derived.Test.YtimaibcaehagjaaAvFun
import Derived.Test.YtimaibcaehagjaaAvMan
import Derived.Test.YtimaibcaehagjaaAvMore
import Derived.Test.YtimaibcaehagjaaAvDraw2
import Derived.Test.YtimaibcaehagjaaAvRow
import Derived.Test.YtimaibcaehagjaaHn
import Derived.Test.YtimaibcaehagjaaHg
import Derived.Test.YtimaibcaehagjaaHar
import Derived.Test.YtimaibcaehagjaaHc
import Derived.Test.YtimaibcaehagjaaFx
import Derived.Test.YtimaibcaehagjaaDxP1
import Derived.Test.YtimaibcaehagjaaFy2
import Derived.Test.YtimaibcaehagjaaDaD
import Derived.Test.YtimaibcaehagjaaDaP5
namespace Go.Proofs.Ytimaibcaehagjaa
set_option linter.unusedVariables false
set_option maxRecDepth 20000
set_option maxHeartbeats 10000000
theorem offshootlaw03_DevMany.ok (K : Nat) (v0 : Int) (v1 : Int) (r : Bool) (h : offshootlaw03_DevMany.f K v0 v1 = some r) :
    FW.Ok Go.Proofs.Try.prog 8 [.lit (.int .u64 v0), .lit (.int .i64 v1)] (.lit (.bool r)) := by
  refine FW.enter (xs := [.lit (.int .u64 v0), .lit (.int .i64 v1)]) Go.Proofs.Try.func8 rfl Go.Proofs.Try.ntmps8 rfl ?_
  intro M w0 a hk
  unfold offshootlaw03_DevMany.f at h
  refine FW.wreg ?_; intro K' hK1
  refine FW.lfun (y := .lit (.bool false)) hk rfl rfl rfl rfl (FW.f_assign hk (FW.holds_nil _) rfl) ?_; clear hk; intro a w hk
  refine FW.lend (hK1 _ _ ?_); clear hK1 K'
  refine FW.wreg ?_; intro K' hK2
  obtain ⟨t1, hr_t1, h⟩ := FW.bnd h
  refine FW.l_callH (I1 := ([] : List FW.It)) (I2 := []) (js := []) hk rfl rfl rfl rfl rfl Go.Proofs.Try.func27 rfl (by kernel_rfl) (dev_New.ok K 70 _ hr_t1 ) ?_; clear hk
  rintro _ _ ⟨bx1, xdNt1_0_0, xcNt1_0_0, xrNt1_0_1, xdNt1_0_3, xcNt1_0_3, rfl, rfl⟩ a w hk
  refine FW.lfun (y := .tup [.lit (.pointer (some ⟨bx1, 0, none⟩)), .lit (.int .i64 t1.2)]) hk rfl rfl rfl rfl (FW.f_move hk (FW.holds_nil _) rfl) ?_; clear hk; intro a w hk
  refine FW.lfun (y := .lit (.pointer (some ⟨bx1, 0, none⟩))) hk rfl rfl rfl rfl (FW.f_extract hk (FW.holds_nil _) rfl rfl) ?_; clear hk; intro a w hk
  refine FW.lfun (y := .lit (.int .i64 t1.2)) hk rfl rfl rfl rfl (FW.f_extract hk (FW.holds_nil _) rfl rfl) ?_; clear hk; intro a w hk
  refine FW.lfun (y := .lit (.pointer (some ⟨bx1, 0, none⟩))) hk rfl rfl rfl rfl (FW.f_assign hk (FW.holds_nil _) rfl) ?_; clear hk; intro a w hk
  refine FW.lfun (y := .lit (.int .i64 t1.2)) hk rfl rfl rfl rfl (FW.f_assign hk (FW.holds_nil _) rfl) ?_; clear hk; intro a w hk
  refine FW.lend (hK2 _ _ ?_); clear hK2 K'
  refine FW.wreg ?_; intro K' hK3
  refine FW.lfun (y := .lit (.pointer (some ⟨bx1, 0, none⟩))) hk rfl rfl rfl rfl (FW.f_move hk (FW.holds_nil _) rfl) ?_; clear hk; intro a w hk
  obtain ⟨t2, hr_t2, h⟩ := FW.bnd h
  refine FW.lfun (y := .agg ((Offshootref03Dev.cells t2))) hk rfl rfl rfl rfl (FW.f_call hk (FW.holds_nil _) rfl rfl Go.Proofs.Try.func36 rfl (by kernel_rfl) (offshootref03_New.ok K 70 _ hr_t2)) ?_; clear hk; intro a w hk
  refine FW.lfun (y := .agg (([.lit (.pointer (some ⟨bx1, 0, none⟩))] : List FW.AV) ++ (Offshootref03Dev.cells t2))) hk rfl rfl rfl rfl (FW.f_buildN [] hk (FW.holds_nil _) rfl rfl rfl) ?_; clear hk; intro a w hk
  refine FW.l_alloc (zs := ([.lit (.pointer none)] : List FW.AV) ++ (Offshootref03Dev.cells (⟨[], [], 0, [], false⟩ : Offshootref03Dev))) [] hk rfl rfl rfl rfl ?_; clear hk; intro bx2 a w hk
  refine FW.l_store (I' := [FW.blk bx2 68 (([.lit (.pointer (some ⟨bx1, 0, none⟩))] : List FW.AV) ++ (Offshootref03Dev.cells t2)), FW.blk bx1 109 ([.lit (.slice xdNt1_0_0 (List.length t1.1.sure) xcNt1_0_0), .lit (.map (some xrNt1_0_1)), .lit (.int .i64 t1.1.steps), .lit (.slice xdNt1_0_3 (List.length t1.1.falls) xcNt1_0_3), .lit (.bool t1.1.off)]), FW.orow xdNt1_0_0 xcNt1_0_0 9 1 c_str t1.1.sure, FW.mapI (.int .i64) (Value.int .i64) FW.evS xrNt1_0_1 t1.1.cache, FW.orow xdNt1_0_3 xcNt1_0_3 45 3 ApiFall.cells t1.1.falls]) (cs' := ([.lit (.pointer (some ⟨bx1, 0, none⟩))] : List FW.AV) ++ (Offshootref03Dev.cells t2)) (j := 0) hk rfl rfl rfl rfl rfl (by kernel_rfl) rfl rfl ?_; clear hk; intro w hk
  refine FW.lend (hK3 _ _ ?_); clear hK3 K'
  refine FW.wseq ?_; intro K' hK4
  refine FW.wreg ?_; intro K' hK5
  obtain ⟨t3, hr_t3, h⟩ := FW.bnd h
  refine FW.lfun (y := .lit (.bool t3)) hk rfl rfl rfl rfl (FW.f_call hk (FW.holds_nil _) rfl rfl Go.Proofs.Try.func28 rfl (by kernel_rfl) (offshootlaw03_awake.ok K  _ hr_t3)) ?_; clear hk; intro a w hk
  refine FW.lfun (y := .lit (.bool (!t3))) hk rfl rfl rfl rfl ((FW.f_pure (FW.p_not hk.kn (FW.holds_nil _) rfl))) ?_; clear hk; intro a w hk
  refine FW.lfun (y := .lit (.bool (!t3))) hk rfl rfl rfl rfl (FW.f_move hk (FW.holds_nil _) rfl) ?_; clear hk; intro a w hk
  refine FW.lfunG (y := .lit (.int .i64 t1.2)) hk rfl rfl rfl rfl rfl rfl rfl rfl (fun hc => FW.f_move hk hc rfl) ?_; clear hk; intro a w hk
  refine FW.lfunG (y := .lit (.bool (!decide (t1.2 = 0)))) hk rfl rfl rfl rfl rfl rfl rfl rfl (fun hc => (FW.f_pure (FW.p_neq hk.kn hc rfl rfl))) ?_; clear hk; intro a w hk
  refine FW.lfun (y := .lit (.bool ((!t3) || (!decide (t1.2 = 0))))) hk rfl rfl rfl rfl ((FW.f_pure (FW.p_pick_or hk.kn (FW.holds_nil _) rfl rfl))) ?_; clear hk; intro a w hk
  refine FW.lend (hK5 _ _ ?_); clear hK5 K'
  refine FW.wcondF (b := ((!t3) || (!decide (t1.2 = 0)))) hk h rfl (fun h hb => ?_) (fun h hb => ?_)
  · skip
    refine FW.wreg ?_; intro K' hK6
    refine FW.lfun (y := .lit (.bool false)) hk rfl rfl rfl rfl (FW.f_assign hk (FW.holds_nil _) rfl) ?_; clear hk; intro a w hk
    refine FW.lend (hK6 _ _ ?_); clear hK6 K'
    refine wp_ret ?_
    (repeat first | refine FW.then_ret ?_ | refine FW.block_ret ?_)
    obtain rfl := Option.some.inj h
    exact FW.fret1 hk rfl rfl
  · skip
    refine wp_skip ?_
    (repeat first | refine FW.then_normal ?_ | refine FW.block_normal ?_); refine hK4 _ _ ?_
    refine FW.wseq ?_; intro K' hK7
    refine FW.wreg ?_; intro K' hK8
    refine FW.lfun (y := .lit (.int .i64 69)) hk rfl rfl rfl rfl (FW.f_assign hk (FW.holds_nil _) rfl) ?_; clear hk; intro a w hk
    refine FW.lend (hK8 _ _ ?_); clear hK8 K'
    refine wp_block ?_
    refine FW.wloop (T := Nat × Offshootref03Dev × Int × Bool × List (List UInt8) × (List (Int × (List UInt8))) × List ApiFall × Int × Int × Int × Option Addr × Nat × Nat × Option Addr × Nat) (fun x a w => match x with | (kl1, y5_1, y1_2, y1_4, l2, m3, l4, v0, v1, v8, xd2, xc2, xr3, xd4, xc4) => FW.S M w0 a w 67 [FW.blk bx2 68 (([.lit (.pointer (some ⟨bx1, 0, none⟩))] : List FW.AV) ++ (Offshootref03Dev.cells y5_1)), FW.blk bx1 109 ([.lit (.slice xd2 (List.length l2) xc2), .lit (.map (some xr3)), .lit (.int .i64 y1_2), .lit (.slice xd4 (List.length l4) xc4), .lit (.bool y1_4)]), FW.orow xd2 xc2 9 1 c_str l2, FW.mapI (.int .i64) (Value.int .i64) FW.evS xr3 m3, FW.orow xd4 xc4 45 3 ApiFall.cells l4] [(0, [], .lit (.int .u64 v0)), (1, [], .lit (.int .i64 v1)), (7, [], .lit (.pointer (some ⟨bx2, 0, none⟩))), (8, [], .lit (.int .i64 v8))] ∧ offshootlaw03_DevMany.l1 K kl1 y5_1 y1_2 y1_4 l2 m3 l4 v0 v1 v8 = some r) (fun x => x.1) (K, t2, t1.1.steps, t1.1.off, t1.1.sure, t1.1.cache, t1.1.falls, v0, v1, 69, xdNt1_0_0, xcNt1_0_0, xrNt1_0_1, xdNt1_0_3, xcNt1_0_3) ⟨hk.sub ⟨rfl, rfl, rfl, rfl, trivial⟩, h⟩ ?_
    clear hk h
    rintro ⟨kl1, y5_1, y1_2, y1_4, l2, m3, l4, v0, v1, v8, xd2, xc2, xr3, xd4, xc4⟩ a w ⟨hk, h⟩ K' hK9
    cases kl1 with
    | zero => simp [offshootlaw03_DevMany.l1] at h
    | succ kl1 =>
    rw [offshootlaw03_DevMany.l1.eq_2] at h
    refine FW.wseq ?_; intro K' hK10
    refine FW.wreg ?_; intro K' hK11
    refine FW.lfun (y := .lit (.int .i64 v8)) hk rfl rfl rfl rfl (FW.f_move hk (FW.holds_nil _) rfl) ?_; clear hk; intro a w hk
    refine FW.lfun (y := .lit (.bool (decide (0 ≤ v8)))) hk rfl rfl rfl rfl ((FW.f_pure (FW.p_geq hk.kn (FW.holds_nil _) rfl rfl))) ?_; clear hk; intro a w hk
    refine FW.lend (hK11 _ _ ?_); clear hK11 K'
    refine FW.wcondF (b := (decide (0 ≤ v8))) hk h rfl (fun h hb => ?_) (fun h hb => ?_)
    · skip
      refine wp_skip ?_
      (repeat first | refine FW.then_normal ?_ | refine FW.block_normal ?_); refine hK10 _ _ ?_
      refine FW.wseq ?_; intro K' hK12
      refine wp_block ?_
      refine FW.wreg ?_; intro K' hK13
      refine FW.lfun (y := .agg (([.lit (.pointer (some ⟨bx1, 0, none⟩))] : List FW.AV) ++ (Offshootref03Dev.cells y5_1))) hk rfl rfl rfl rfl (FW.f_loadBlk hk (FW.holds_nil _) (j := 0) rfl rfl Go.Proofs.Try.underlying68 rfl rfl rfl rfl) ?_; clear hk; intro a w hk
      refine FW.lfun (y := .lit (.int .i64 v8)) hk rfl rfl rfl rfl (FW.f_move hk (FW.holds_nil _) rfl) ?_; clear hk; intro a w hk
      refine FW.lfun (y := .lit (.int .i64 v8)) hk rfl rfl rfl rfl (FW.f_move hk (FW.holds_nil _) rfl) ?_; clear hk; intro a w hk
      refine FW.lfun (y := .lit (.int .i64 (IntKind.wrap .i64 (v8 + 1)))) hk rfl rfl rfl rfl ((FW.f_pure (FW.p_add hk.kn (FW.holds_nil _) rfl rfl))) ?_; clear hk; intro a w hk
      refine FW.lfun (y := .lit (.int .u8 (IntKind.wrap .u8 (IntKind.wrap .i64 (v8 + 1))))) hk rfl rfl rfl rfl ((FW.f_pure (FW.p_conv Go.Proofs.Try.underlying3 Go.Proofs.Try.underlying5 hk.kn (FW.holds_nil _) rfl))) ?_; clear hk; intro a w hk
      refine FW.lfun (y := .agg ((Offshootlaw03Act.cells (⟨0, v8, (IntKind.wrap .u8 (IntKind.wrap .i64 (v8 + 1))), false, (⟨0, 0, 0⟩ : ApiFall)⟩ : Offshootlaw03Act)))) hk rfl rfl rfl rfl (FW.f_build hk (FW.holds_nil _) rfl rfl) ?_; clear hk; intro a w hk
      obtain ⟨t4, hr_t4, h⟩ := FW.bnd h
      refine FW.l_callH (I1 := (ODevDev.items bx1 xd2 xc2 xr3 xd4 xc4 (⟨l2, m3, y1_2, l4, y1_4⟩ : ODevDev))) (I2 := [FW.blk bx2 68 (([.lit (.pointer (some ⟨bx1, 0, none⟩))] : List FW.AV) ++ (Offshootref03Dev.cells y5_1))]) (js := [4, 4, 4, 4]) hk rfl rfl rfl rfl rfl Go.Proofs.Try.func37 rfl (by kernel_rfl) (offshootlaw03_both_do.ok K (⟨y5_1⟩ : Offshootlaw03Both) (⟨l2, m3, y1_2, l4, y1_4⟩ : ODevDev) (⟨0, v8, (IntKind.wrap .u8 (IntKind.wrap .i64 (v8 + 1))), false, (⟨0, 0, 0⟩ : ApiFall)⟩ : Offshootlaw03Act) _ hr_t4 bx1 xd2 xc2 xr3 xd4 xc4) ?_; clear hk
      rintro _ _ ⟨zd1, zc1, zr1, zd2, zc2, rfl, rfl⟩ a w hk
      refine FW.lfun (y := .tup [.agg (([.lit (.pointer (some ⟨bx1, 0, none⟩))] : List FW.AV) ++ (Offshootref03Dev.cells t4.1.m)), .lit (.bool t4.2.1)]) hk rfl rfl rfl rfl (FW.f_move hk (FW.holds_nil _) rfl) ?_; clear hk; intro a w hk
      refine FW.lfun (y := .agg (([.lit (.pointer (some ⟨bx1, 0, none⟩))] : List FW.AV) ++ (Offshootref03Dev.cells t4.1.m))) hk rfl rfl rfl rfl (FW.f_extract hk (FW.holds_nil _) rfl rfl) ?_; clear hk; intro a w hk
      refine FW.lfun (y := .lit (.bool t4.2.1)) hk rfl rfl rfl rfl (FW.f_extract hk (FW.holds_nil _) rfl rfl) ?_; clear hk; intro a w hk
      refine FW.l_alloc (zs := ([.lit (.pointer none)] : List FW.AV) ++ (Offshootref03Dev.cells (⟨[], [], 0, [], false⟩ : Offshootref03Dev))) [] hk rfl rfl rfl rfl ?_; clear hk; intro bx3 a w hk
      refine FW.l_store (I' := [FW.blk bx3 68 (([.lit (.pointer (some ⟨bx1, 0, none⟩))] : List FW.AV) ++ (Offshootref03Dev.cells t4.1.m)), FW.blk bx1 109 ([.lit (.slice zd1 (List.length t4.2.2.sure) zc1), .lit (.map (some zr1)), .lit (.int .i64 t4.2.2.steps), .lit (.slice zd2 (List.length t4.2.2.falls) zc2), .lit (.bool t4.2.2.off)]), FW.orow zd1 zc1 9 1 c_str t4.2.2.sure, FW.mapI (.int .i64) (Value.int .i64) FW.evS zr1 t4.2.2.cache, FW.orow zd2 zc2 45 3 ApiFall.cells t4.2.2.falls, FW.blk bx2 68 (([.lit (.pointer (some ⟨bx1, 0, none⟩))] : List FW.AV) ++ (Offshootref03Dev.cells y5_1))]) (cs' := ([.lit (.pointer (some ⟨bx1, 0, none⟩))] : List FW.AV) ++ (Offshootref03Dev.cells t4.1.m)) (j := 0) hk rfl rfl rfl rfl rfl (by kernel_rfl) rfl rfl ?_; clear hk; intro w hk
      refine FW.lfun (y := .lit (.bool t4.2.1)) hk rfl rfl rfl rfl (FW.f_assign hk (FW.holds_nil _) rfl) ?_; clear hk; intro a w hk
      refine FW.lend (hK13 _ _ ?_); clear hK13 K'
      refine FW.wreg ?_; intro K' hK14
      refine FW.lfun (y := .agg (([.lit (.pointer (some ⟨bx1, 0, none⟩))] : List FW.AV) ++ (Offshootref03Dev.cells t4.1.m))) hk rfl rfl rfl rfl (FW.f_loadBlk hk (FW.holds_nil _) (j := 0) rfl rfl Go.Proofs.Try.underlying68 rfl rfl rfl rfl) ?_; clear hk; intro a w hk
      refine FW.l_store (I' := [FW.blk bx3 68 (([.lit (.pointer (some ⟨bx1, 0, none⟩))] : List FW.AV) ++ (Offshootref03Dev.cells t4.1.m)), FW.blk bx1 109 ([.lit (.slice zd1 (List.length t4.2.2.sure) zc1), .lit (.map (some zr1)), .lit (.int .i64 t4.2.2.steps), .lit (.slice zd2 (List.length t4.2.2.falls) zc2), .lit (.bool t4.2.2.off)]), FW.orow zd1 zc1 9 1 c_str t4.2.2.sure, FW.mapI (.int .i64) (Value.int .i64) FW.evS zr1 t4.2.2.cache, FW.orow zd2 zc2 45 3 ApiFall.cells t4.2.2.falls, FW.blk bx2 68 (([.lit (.pointer (some ⟨bx1, 0, none⟩))] : List FW.AV) ++ (Offshootref03Dev.cells t4.1.m))]) (cs' := ([.lit (.pointer (some ⟨bx1, 0, none⟩))] : List FW.AV) ++ (Offshootref03Dev.cells t4.1.m)) (j := 5) hk rfl rfl rfl rfl rfl (by kernel_rfl) rfl rfl ?_; clear hk; intro w hk
      refine FW.lend (hK14 _ _ ?_); clear hK14 K'
      refine FW.wreg ?_; intro K' hK15
      refine FW.lfun (y := .lit (.bool t4.2.1)) hk rfl rfl rfl rfl (FW.f_move hk (FW.holds_nil _) rfl) ?_; clear hk; intro a w hk
      refine FW.lfun (y := .lit (.bool (!t4.2.1))) hk rfl rfl rfl rfl ((FW.f_pure (FW.p_not hk.kn (FW.holds_nil _) rfl))) ?_; clear hk; intro a w hk
      refine FW.lend (hK15 _ _ ?_); clear hK15 K'
      refine FW.wcondF (b := (!t4.2.1)) hk h rfl (fun h hb => ?_) (fun h hb => ?_)
      · skip
        refine FW.wreg ?_; intro K' hK16
        refine FW.lfun (y := .lit (.bool false)) hk rfl rfl rfl rfl (FW.f_assign hk (FW.holds_nil _) rfl) ?_; clear hk; intro a w hk
        refine FW.lend (hK16 _ _ ?_); clear hK16 K'
        refine wp_ret ?_
        (repeat first | refine FW.then_ret ?_ | refine FW.block_ret ?_)
        obtain rfl := Option.some.inj h
        exact FW.fret1 hk rfl rfl
      · skip
        refine wp_skip ?_
        (repeat first | refine FW.then_normal ?_ | refine FW.block_normal ?_); refine hK12 _ _ ?_
        refine FW.wreg1 ?_
        refine FW.lfun (y := .lit (.int .i64 v8)) hk rfl rfl rfl rfl (FW.f_move hk (FW.holds_nil _) rfl) ?_; clear hk; intro a w hk
        refine FW.lfun (y := .lit (.int .i64 (IntKind.wrap .i64 (v8 - 1)))) hk rfl rfl rfl rfl ((FW.f_pure (FW.p_sub hk.kn (FW.holds_nil _) rfl rfl))) ?_; clear hk; intro a w hk
        refine FW.lfun (y := .lit (.int .i64 (IntKind.wrap .i64 (v8 - 1)))) hk rfl rfl rfl rfl (FW.f_assign hk (FW.holds_nil _) rfl) ?_; clear hk; intro a w hk
        refine wpList_nil ?_
        (repeat first | refine FW.then_normal ?_ | refine FW.block_normal ?_); exact hK9 (kl1, t4.1.m, t4.2.2.steps, t4.2.2.off, t4.2.2.sure, t4.2.2.cache, t4.2.2.falls, v0, v1, (IntKind.wrap .i64 (v8 - 1)), zd1, zc1, zr1, zd2, zc2) _ _ (Nat.lt_succ_self _) ⟨(FW.S.pick (hk.drop 0) (js := [3, 3, 3, 3, 4]) rfl).sub ⟨rfl, rfl, rfl, rfl, trivial⟩, h⟩
    · skip
      refine wp_exit ?_; (repeat first | refine FW.then_exit ?_ | refine FW.block_exit_ne rfl ?_); refine FW.block_exit ?_
      (repeat first | refine FW.then_normal ?_ | refine FW.block_normal ?_); refine hK7 _ _ ?_
      refine FW.wreg ?_; intro K' hK18
      refine FW.lfun (y := .agg (([.lit (.pointer (some ⟨bx1, 0, none⟩))] : List FW.AV) ++ (Offshootref03Dev.cells y5_1))) hk rfl rfl rfl rfl (FW.f_loadBlk hk (FW.holds_nil _) (j := 0) rfl rfl Go.Proofs.Try.underlying68 rfl rfl rfl rfl) ?_; clear hk; intro a w hk
      refine FW.lfun (y := .lit (.int .u64 v0)) hk rfl rfl rfl rfl (FW.f_move hk (FW.holds_nil _) rfl) ?_; clear hk; intro a w hk
      refine FW.lfun (y := .lit (.int .i64 v1)) hk rfl rfl rfl rfl (FW.f_move hk (FW.holds_nil _) rfl) ?_; clear hk; intro a w hk
      refine FW.lfun (y := .agg ((ApiFall.cells (⟨0, v0, v1⟩ : ApiFall)))) hk rfl rfl rfl rfl (FW.f_build hk (FW.holds_nil _) rfl rfl) ?_; clear hk; intro a w hk
      refine FW.lfun (y := .agg ((Offshootlaw03Act.cells (⟨4, 0, 0, false, (⟨0, v0, v1⟩ : ApiFall)⟩ : Offshootlaw03Act)))) hk rfl rfl rfl rfl (FW.f_build hk (FW.holds_nil _) rfl rfl) ?_; clear hk; intro a w hk
      obtain ⟨t5, hr_t5, h⟩ := FW.bnd h
      refine FW.l_callH (I1 := (ODevDev.items bx1 xd2 xc2 xr3 xd4 xc4 (⟨l2, m3, y1_2, l4, y1_4⟩ : ODevDev))) (I2 := [FW.blk bx2 68 (([.lit (.pointer (some ⟨bx1, 0, none⟩))] : List FW.AV) ++ (Offshootref03Dev.cells y5_1))]) (js := [4, 4, 4, 4]) hk rfl rfl rfl rfl rfl Go.Proofs.Try.func37 rfl (by kernel_rfl) (offshootlaw03_both_do.ok K (⟨y5_1⟩ : Offshootlaw03Both) (⟨l2, m3, y1_2, l4, y1_4⟩ : ODevDev) (⟨4, 0, 0, false, (⟨0, v0, v1⟩ : ApiFall)⟩ : Offshootlaw03Act) _ hr_t5 bx1 xd2 xc2 xr3 xd4 xc4) ?_; clear hk
      rintro _ _ ⟨zd3, zc3, zr2, zd4, zc4, rfl, rfl⟩ a w hk
      refine FW.lfun (y := .tup [.agg (([.lit (.pointer (some ⟨bx1, 0, none⟩))] : List FW.AV) ++ (Offshootref03Dev.cells t5.1.m)), .lit (.bool t5.2.1)]) hk rfl rfl rfl rfl (FW.f_move hk (FW.holds_nil _) rfl) ?_; clear hk; intro a w hk
      refine FW.lfun (y := .agg (([.lit (.pointer (some ⟨bx1, 0, none⟩))] : List FW.AV) ++ (Offshootref03Dev.cells t5.1.m))) hk rfl rfl rfl rfl (FW.f_extract hk (FW.holds_nil _) rfl rfl) ?_; clear hk; intro a w hk
      refine FW.lfun (y := .lit (.bool t5.2.1)) hk rfl rfl rfl rfl (FW.f_extract hk (FW.holds_nil _) rfl rfl) ?_; clear hk; intro a w hk
      refine FW.l_alloc (zs := ([.lit (.pointer none)] : List FW.AV) ++ (Offshootref03Dev.cells (⟨[], [], 0, [], false⟩ : Offshootref03Dev))) [] hk rfl rfl rfl rfl ?_; clear hk; intro bx4 a w hk
      refine FW.l_store (I' := [FW.blk bx4 68 (([.lit (.pointer (some ⟨bx1, 0, none⟩))] : List FW.AV) ++ (Offshootref03Dev.cells t5.1.m)), FW.blk bx1 109 ([.lit (.slice zd3 (List.length t5.2.2.sure) zc3), .lit (.map (some zr2)), .lit (.int .i64 t5.2.2.steps), .lit (.slice zd4 (List.length t5.2.2.falls) zc4), .lit (.bool t5.2.2.off)]), FW.orow zd3 zc3 9 1 c_str t5.2.2.sure, FW.mapI (.int .i64) (Value.int .i64) FW.evS zr2 t5.2.2.cache, FW.orow zd4 zc4 45 3 ApiFall.cells t5.2.2.falls, FW.blk bx2 68 (([.lit (.pointer (some ⟨bx1, 0, none⟩))] : List FW.AV) ++ (Offshootref03Dev.cells y5_1))]) (cs' := ([.lit (.pointer (some ⟨bx1, 0, none⟩))] : List FW.AV) ++ (Offshootref03Dev.cells t5.1.m)) (j := 0) hk rfl rfl rfl rfl rfl (by kernel_rfl) rfl rfl ?_; clear hk; intro w hk
      refine FW.lfun (y := .lit (.bool t5.2.1)) hk rfl rfl rfl rfl (FW.f_assign hk (FW.holds_nil _) rfl) ?_; clear hk; intro a w hk
      refine FW.lend (hK18 _ _ ?_); clear hK18 K'
      refine FW.wreg ?_; intro K' hK19
      refine FW.lfun (y := .agg (([.lit (.pointer (some ⟨bx1, 0, none⟩))] : List FW.AV) ++ (Offshootref03Dev.cells t5.1.m))) hk rfl rfl rfl rfl (FW.f_loadBlk hk (FW.holds_nil _) (j := 0) rfl rfl Go.Proofs.Try.underlying68 rfl rfl rfl rfl) ?_; clear hk; intro a w hk
      refine FW.lfun (y := .agg ((Offshootlaw03Act.cells (⟨5, 0, 0, false, (⟨0, 0, 0⟩ : ApiFall)⟩ : Offshootlaw03Act)))) hk rfl rfl rfl rfl (FW.f_build hk (FW.holds_nil _) rfl rfl) ?_; clear hk; intro a w hk
      obtain ⟨t6, hr_t6, h⟩ := FW.bnd h
      refine FW.l_callH (I1 := (ODevDev.items bx1 zd3 zc3 zr2 zd4 zc4 t5.2.2)) (I2 := [FW.blk bx4 68 (([.lit (.pointer (some ⟨bx1, 0, none⟩))] : List FW.AV) ++ (Offshootref03Dev.cells t5.1.m)), FW.blk bx2 68 (([.lit (.pointer (some ⟨bx1, 0, none⟩))] : List FW.AV) ++ (Offshootref03Dev.cells y5_1))]) (js := [4, 4, 4, 4]) hk rfl rfl rfl rfl rfl Go.Proofs.Try.func37 rfl (by kernel_rfl) (offshootlaw03_both_do.ok K t5.1 t5.2.2 (⟨5, 0, 0, false, (⟨0, 0, 0⟩ : ApiFall)⟩ : Offshootlaw03Act) _ hr_t6 bx1 zd3 zc3 zr2 zd4 zc4) ?_; clear hk
      rintro _ _ ⟨zd5, zc5, zr3, zd6, zc6, rfl, rfl⟩ a w hk
      refine FW.lfun (y := .tup [.agg (([.lit (.pointer (some ⟨bx1, 0, none⟩))] : List FW.AV) ++ (Offshootref03Dev.cells t6.1.m)), .lit (.bool t6.2.1)]) hk rfl rfl rfl rfl (FW.f_move hk (FW.holds_nil _) rfl) ?_; clear hk; intro a w hk
      refine FW.lfun (y := .agg (([.lit (.pointer (some ⟨bx1, 0, none⟩))] : List FW.AV) ++ (Offshootref03Dev.cells t6.1.m))) hk rfl rfl rfl rfl (FW.f_extract hk (FW.holds_nil _) rfl rfl) ?_; clear hk; intro a w hk
      refine FW.lfun (y := .lit (.bool t6.2.1)) hk rfl rfl rfl rfl (FW.f_extract hk (FW.holds_nil _) rfl rfl) ?_; clear hk; intro a w hk
      refine FW.l_store (I' := [FW.blk bx1 109 ([.lit (.slice zd5 (List.length t6.2.2.sure) zc5), .lit (.map (some zr3)), .lit (.int .i64 t6.2.2.steps), .lit (.slice zd6 (List.length t6.2.2.falls) zc6), .lit (.bool t6.2.2.off)]), FW.orow zd5 zc5 9 1 c_str t6.2.2.sure, FW.mapI (.int .i64) (Value.int .i64) FW.evS zr3 t6.2.2.cache, FW.orow zd6 zc6 45 3 ApiFall.cells t6.2.2.falls, FW.blk bx4 68 (([.lit (.pointer (some ⟨bx1, 0, none⟩))] : List FW.AV) ++ (Offshootref03Dev.cells t6.1.m)), FW.blk bx2 68 (([.lit (.pointer (some ⟨bx1, 0, none⟩))] : List FW.AV) ++ (Offshootref03Dev.cells y5_1))]) (cs' := ([.lit (.pointer (some ⟨bx1, 0, none⟩))] : List FW.AV) ++ (Offshootref03Dev.cells t6.1.m)) (j := 4) hk rfl rfl rfl rfl rfl (by kernel_rfl) rfl rfl ?_; clear hk; intro w hk
      refine FW.lfun (y := .lit (.bool t6.2.1)) hk rfl rfl rfl rfl (FW.f_assign hk (FW.holds_nil _) rfl) ?_; clear hk; intro a w hk
      refine FW.lend (hK19 _ _ ?_); clear hK19 K'
      refine FW.wreg ?_; intro K' hK20
      refine FW.lfun (y := .lit (.bool t5.2.1)) hk rfl rfl rfl rfl (FW.f_move hk (FW.holds_nil _) rfl) ?_; clear hk; intro a w hk
      refine FW.lfun (y := .lit (.bool t5.2.1)) hk rfl rfl rfl rfl (FW.f_move hk (FW.holds_nil _) rfl) ?_; clear hk; intro a w hk
      refine FW.lfunG (y := .lit (.bool t6.2.1)) hk rfl rfl rfl rfl rfl rfl rfl rfl (fun hc => FW.f_move hk hc rfl) ?_; clear hk; intro a w hk
      refine FW.lfun (y := .lit (.bool (t5.2.1 && t6.2.1))) hk rfl rfl rfl rfl ((FW.f_pure (FW.p_pick_and hk.kn (FW.holds_nil _) rfl rfl))) ?_; clear hk; intro a w hk
      refine FW.lfun (y := .lit (.bool (t5.2.1 && t6.2.1))) hk rfl rfl rfl rfl (FW.f_move hk (FW.holds_nil _) rfl) ?_; clear hk; intro a w hk
      refine FW.lfunG (y := .agg (([.lit (.pointer (some ⟨bx1, 0, none⟩))] : List FW.AV) ++ (Offshootref03Dev.cells t6.1.m))) hk rfl rfl rfl rfl rfl rfl rfl rfl (fun hc => FW.f_loadBlk hk hc (j := 4) rfl rfl Go.Proofs.Try.underlying68 rfl rfl rfl rfl) ?_; clear hk; intro a w hk
      obtain ⟨t7, hr_t7, hn_t7, h⟩ := FW.bndG2 h
      refine FW.l_callHG (I1 := (ODevDev.items bx1 zd5 zc5 zr3 zd6 zc6 t6.2.2)) (I2 := [FW.blk bx4 68 (([.lit (.pointer (some ⟨bx1, 0, none⟩))] : List FW.AV) ++ (Offshootref03Dev.cells t6.1.m)), FW.blk bx2 68 (([.lit (.pointer (some ⟨bx1, 0, none⟩))] : List FW.AV) ++ (Offshootref03Dev.cells y5_1))]) (js := [3, 3, 3, 3]) hk rfl rfl rfl rfl rfl rfl rfl rfl rfl Go.Proofs.Try.func38 rfl (by kernel_rfl) (fun hc => offshootlaw03_both_same.ok K t6.1 t6.2.2 _ (hr_t7 (FW.asm_out (p := (t5.2.1 && t6.2.1) = true) hk.kn hc (fun e0 => e0))) bx1 zd5 zc5 zr3 zd6 zc6) (fun hn => by obtain rfl := hn_t7 (fun hp => hn (FW.asm_in hk.kn (by have e0 := hp; exact ⟨e0, rfl, trivial⟩))); exact ⟨_, rfl, rfl⟩) ?_; clear hk
      rintro _ _ ⟨rfl, rfl⟩ a w hk
      refine FW.lfun (y := .lit (.bool ((t5.2.1 && t6.2.1) && t7))) hk rfl rfl rfl rfl ((FW.f_pure (FW.p_pick_and hk.kn (FW.holds_nil _) rfl rfl))) ?_; clear hk; intro a w hk
      refine FW.lfun (y := .lit (.bool ((t5.2.1 && t6.2.1) && t7))) hk rfl rfl rfl rfl (FW.f_assign hk (FW.holds_nil _) rfl) ?_; clear hk; intro a w hk
      refine FW.lend (hK20 _ _ ?_); clear hK20 K'
      refine wp_ret ?_
      (repeat first | refine FW.then_ret ?_ | refine FW.block_ret ?_)
      obtain rfl := Option.some.inj h
      exact FW.fret1 hk rfl rfl
end Go.Proofs.Ytimaibcaehagjaa

/- Written by a program of this session (gen.py): the contracts of functions of the program. -/
import Derived.KernelRfl
import Derived.Test.YtimaibcaehagjaaProg
import Derived.Test.YtimaibcaehagjaaAvFun
import Derived.Test.YtimaibcaehagjaaAvMan
import Derived.Test.YtimaibcaehagjaaAvMore
import Derived.Test.YtimaibcaehagjaaAvDraw2
import Derived.Test.YtimaibcaehagjaaAvRow
import Derived.Test.YtimaibcaehagjaaHn
import Derived.Test.YtimaibcaehagjaaHg
import Derived.Test.YtimaibcaehagjaaHar
import Derived.Test.YtimaibcaehagjaaHc
import Derived.Test.YtimaibcaehagjaaFx
import Derived.Test.YtimaibcaehagjaaDxP1
import Derived.Test.YtimaibcaehagjaaFy2
import Derived.Test.YtimaibcaehagjaaDaD
import Derived.Test.YtimaibcaehagjaaDaP2
namespace Go.Proofs.Ytimaibcaehagjaa
set_option linter.unusedVariables false
set_option maxRecDepth 20000
set_option maxHeartbeats 10000000
theorem offshootlaw03_both_do.ok (K : Nat) (v0 : Offshootlaw03Both) (v0_0 : ODevDev) (v1 : Offshootlaw03Act) (r : Offshootlaw03Both × Bool × ODevDev) (h : offshootlaw03_both_do.f K v0 v0_0 v1 = some r) :
    ∀ (b0_0 : Nat) (xd0_0_0 : Option Addr) (xc0_0_0 : Nat) (xr0_0_1 : Nat) (xd0_0_3 : Option Addr) (xc0_0_3 : Nat), FW.OkH Go.Proofs.Try.prog 37 [.agg (([.lit (.pointer (some ⟨b0_0, 0, none⟩))] : List FW.AV) ++ (Offshootref03Dev.cells v0.m)), .agg (Offshootlaw03Act.cells v1)] (ODevDev.items b0_0 xd0_0_0 xc0_0_0 xr0_0_1 xd0_0_3 xc0_0_3 v0_0) (fun y I => ∃ (zxd0_0_0 : Option Addr) (zxc0_0_0 : Nat) (zxr0_0_1 : Nat) (zxd0_0_3 : Option Addr) (zxc0_0_3 : Nat), y = .tup [.agg (([.lit (.pointer (some ⟨b0_0, 0, none⟩))] : List FW.AV) ++ (Offshootref03Dev.cells r.1.m)), .lit (.bool r.2.1)] ∧ I = ODevDev.items b0_0 zxd0_0_0 zxc0_0_0 zxr0_0_1 zxd0_0_3 zxc0_0_3 r.2.2) := by
  intro b0_0 xd0_0_0 xc0_0_0 xr0_0_1 xd0_0_3 xc0_0_3
  refine FW.enterH (xs := [.agg (([.lit (.pointer (some ⟨b0_0, 0, none⟩))] : List FW.AV) ++ (Offshootref03Dev.cells v0.m)), .agg (Offshootlaw03Act.cells v1)]) Go.Proofs.Try.func37 rfl Go.Proofs.Try.ntmps37 rfl ?_
  intro M w0 a hk
  replace hk : FW.S M w0 a w0.toWorld 120 [FW.blk b0_0 109 ([.lit (.slice xd0_0_0 (List.length v0_0.sure) xc0_0_0), .lit (.map (some xr0_0_1)), .lit (.int .i64 v0_0.steps), .lit (.slice xd0_0_3 (List.length v0_0.falls) xc0_0_3), .lit (.bool v0_0.off)]), FW.orow xd0_0_0 xc0_0_0 9 1 c_str v0_0.sure, FW.mapI (.int .i64) (Value.int .i64) FW.evS xr0_0_1 v0_0.cache, FW.orow xd0_0_3 xc0_0_3 45 3 ApiFall.cells v0_0.falls] [(0, [], .agg (([.lit (.pointer (some ⟨b0_0, 0, none⟩))] : List FW.AV) ++ (Offshootref03Dev.cells v0.m))), (1, [], .agg ((Offshootlaw03Act.cells v1)))] := hk
  unfold offshootlaw03_both_do.f at h
  refine FW.wreg ?_; intro K' hK1
  refine FW.l_box (cs := ([.lit (.pointer (some ⟨b0_0, 0, none⟩))] : List FW.AV) ++ (Offshootref03Dev.cells v0.m)) hk rfl rfl rfl rfl rfl ?_; clear hk; intro bx1 a w hk
  refine FW.l_box (cs := (Offshootlaw03Act.cells v1)) hk rfl rfl rfl rfl rfl ?_; clear hk; intro bx2 a w hk
  refine FW.l_alloc (zs := ([.lit (.pointer none)] : List FW.AV) ++ (Offshootref03Dev.cells (⟨[], [], 0, [], false⟩ : Offshootref03Dev))) [] hk rfl rfl rfl rfl ?_; clear hk; intro bx3 a w hk
  refine FW.lfun (y := .lit (.bool false)) hk rfl rfl rfl rfl (FW.f_assign hk (FW.holds_nil _) rfl) ?_; clear hk; intro a w hk
  refine FW.lend (hK1 _ _ ?_); clear hK1 K'
  refine FW.wreg ?_; intro K' hK2
  refine FW.lfun (y := .lit (.int .i64 0)) hk rfl rfl rfl rfl (FW.f_assign hk (FW.holds_nil _) rfl) ?_; clear hk; intro a w hk
  refine FW.lfun (y := .lit (.int .i64 0)) hk rfl rfl rfl rfl (FW.f_assign hk (FW.holds_nil _) rfl) ?_; clear hk; intro a w hk
  refine FW.lend (hK2 _ _ ?_); clear hK2 K'
  refine FW.wseqJ (fun a w => ∃ (y1_2 : Int) (y1_4 : Bool) (l2 : List (List UInt8)) (m3 : List (Int × (List UInt8))) (l4 : List ApiFall) (y5_1 : Offshootref03Dev) (v6 : Int) (v7 : Int) (xd2 : Option Addr) (xc2 : Nat) (xr3 : Nat) (xd4 : Option Addr) (xc4 : Nat), FW.S M w0 a w 120 [FW.blk b0_0 109 ([.lit (.slice xd2 (List.length l2) xc2), .lit (.map (some xr3)), .lit (.int .i64 y1_2), .lit (.slice xd4 (List.length l4) xc4), .lit (.bool y1_4)]), FW.orow xd2 xc2 9 1 c_str l2, FW.mapI (.int .i64) (Value.int .i64) FW.evS xr3 m3, FW.orow xd4 xc4 45 3 ApiFall.cells l4, FW.blk bx3 68 (([.lit (.pointer none)] : List FW.AV) ++ (Offshootref03Dev.cells (⟨[], [], 0, [], false⟩ : Offshootref03Dev))), FW.blk bx1 68 (([.lit (.pointer (some ⟨b0_0, 0, none⟩))] : List FW.AV) ++ (Offshootref03Dev.cells y5_1))] [(2, [], .lit (.pointer (some ⟨bx1, 0, none⟩))), (4, [], .lit (.pointer (some ⟨bx3, 0, none⟩))), (6, [], .lit (.int .i64 v6)), (7, [], .lit (.int .i64 v7))] ∧ offshootlaw03_both_do.j1 K y1_2 y1_4 l2 m3 l4 y5_1 v6 v7 = some r) ?_ ?_
  · clear hk h
    rintro a w ⟨y1_2, y1_4, l2, m3, l4, y5_1, v6, v7, xd2, xc2, xr3, xd4, xc4, hk, h⟩
    unfold offshootlaw03_both_do.j1 at h
    refine FW.wreg ?_; intro K' hK4
    refine FW.lfun (y := .agg (([.lit (.pointer (some ⟨b0_0, 0, none⟩))] : List FW.AV) ++ (Offshootref03Dev.cells y5_1))) hk rfl rfl rfl rfl (FW.f_loadBlk hk (FW.holds_nil _) (j := 5) rfl rfl Go.Proofs.Try.underlying68 rfl rfl rfl rfl) ?_; clear hk; intro a w hk
    refine FW.lfun (y := .lit (.int .i64 v6)) hk rfl rfl rfl rfl (FW.f_move hk (FW.holds_nil _) rfl) ?_; clear hk; intro a w hk
    refine FW.lfun (y := .lit (.int .i64 v7)) hk rfl rfl rfl rfl (FW.f_move hk (FW.holds_nil _) rfl) ?_; clear hk; intro a w hk
    refine FW.lfun (y := .lit (.bool (decide (v6 = v7)))) hk rfl rfl rfl rfl ((FW.f_pure (FW.p_eql hk.kn (FW.holds_nil _) rfl rfl))) ?_; clear hk; intro a w hk
    refine FW.l_store (I' := [FW.blk b0_0 109 ([.lit (.slice xd2 (List.length l2) xc2), .lit (.map (some xr3)), .lit (.int .i64 y1_2), .lit (.slice xd4 (List.length l4) xc4), .lit (.bool y1_4)]), FW.orow xd2 xc2 9 1 c_str l2, FW.mapI (.int .i64) (Value.int .i64) FW.evS xr3 m3, FW.orow xd4 xc4 45 3 ApiFall.cells l4, FW.blk bx3 68 (([.lit (.pointer (some ⟨b0_0, 0, none⟩))] : List FW.AV) ++ (Offshootref03Dev.cells y5_1)), FW.blk bx1 68 (([.lit (.pointer (some ⟨b0_0, 0, none⟩))] : List FW.AV) ++ (Offshootref03Dev.cells y5_1))]) (cs' := ([.lit (.pointer (some ⟨b0_0, 0, none⟩))] : List FW.AV) ++ (Offshootref03Dev.cells y5_1)) (j := 4) hk rfl rfl rfl rfl rfl (by kernel_rfl) rfl rfl ?_; clear hk; intro w hk
    refine FW.lfun (y := .lit (.bool (decide (v6 = v7)))) hk rfl rfl rfl rfl (FW.f_assign hk (FW.holds_nil _) rfl) ?_; clear hk; intro a w hk
    refine FW.lend (hK4 _ _ ?_); clear hK4 K'
    refine wp_ret ?_
    (repeat first | refine FW.then_ret ?_ | refine FW.block_ret ?_)
    obtain rfl := Option.some.inj h
    have hr_0 := FW.rres_keep (I1 := [FW.blk b0_0 109 ([.lit (.slice xd2 (List.length l2) xc2), .lit (.map (some xr3)), .lit (.int .i64 y1_2), .lit (.slice xd4 (List.length l4) xc4), .lit (.bool y1_4)]), FW.orow xd2 xc2 9 1 c_str l2, FW.mapI (.int .i64) (Value.int .i64) FW.evS xr3 m3, FW.orow xd4 xc4 45 3 ApiFall.cells l4]) (I2 := [FW.blk bx3 68 (([.lit (.pointer (some ⟨b0_0, 0, none⟩))] : List FW.AV) ++ (Offshootref03Dev.cells y5_1)), FW.blk bx1 68 (([.lit (.pointer (some ⟨b0_0, 0, none⟩))] : List FW.AV) ++ (Offshootref03Dev.cells y5_1))]) (js := [3, 3, 3, 3]) rfl (FW.rcell (tt := 4) hk rfl (j := 4) rfl Go.Proofs.Try.underlying68 rfl (by kernel_rfl))
    replace hk := FW.S.keep (I1 := [FW.blk b0_0 109 ([.lit (.slice xd2 (List.length l2) xc2), .lit (.map (some xr3)), .lit (.int .i64 y1_2), .lit (.slice xd4 (List.length l4) xc4), .lit (.bool y1_4)]), FW.orow xd2 xc2 9 1 c_str l2, FW.mapI (.int .i64) (Value.int .i64) FW.evS xr3 m3, FW.orow xd4 xc4 45 3 ApiFall.cells l4]) (I2 := [FW.blk bx3 68 (([.lit (.pointer (some ⟨b0_0, 0, none⟩))] : List FW.AV) ++ (Offshootref03Dev.cells y5_1)), FW.blk bx1 68 (([.lit (.pointer (some ⟨b0_0, 0, none⟩))] : List FW.AV) ++ (Offshootref03Dev.cells y5_1))]) (js := [3, 3, 3, 3]) hk rfl
    exact FW.fretH2 hk rfl hr_0 (FW.rtmp hk rfl) ⟨xd2, xc2, xr3, xd4, xc4, rfl, rfl⟩
  · intro K' hK3
    refine FW.wreg ?_; intro K' hK5
    refine FW.lfun (y := .lit (.pointer (some ⟨bx2, 0, none⟩))) hk rfl rfl rfl rfl (FW.f_fieldPtr hk (FW.holds_nil _) rfl Go.Proofs.Try.underlying51 rfl (by kernel_rfl) rfl) ?_; clear hk; intro a w hk
    refine FW.lfun (y := .lit (.int .i64 v1.Kind)) hk rfl rfl rfl rfl (FW.f_loadBlk1 hk (FW.holds_nil _) (j := 1) rfl rfl Go.Proofs.Try.underlying3 rfl rfl) ?_; clear hk; intro a w hk
    refine FW.lend (hK5 _ _ ?_); clear hK5 K'
    refine wp_block ?_
    refine FW.wreg ?_; intro K' hK6
    refine FW.lfun (y := .lit (.bool (decide (v1.Kind = 3)))) hk rfl rfl rfl rfl ((FW.f_pure (FW.p_eql hk.kn (FW.holds_nil _) rfl rfl))) ?_; clear hk; intro a w hk
    refine FW.lfun (y := .lit (.bool (decide (v1.Kind = 3)))) hk rfl rfl rfl rfl (FW.f_assign hk (FW.holds_nil _) rfl) ?_; clear hk; intro a w hk
    refine FW.lend (hK6 _ _ ?_); clear hK6 K'
    refine FW.wcondF (b := (decide (v1.Kind = 3))) hk h rfl (fun h hb => ?_) (fun h hb => ?_)
    · skip
      refine FW.wreg ?_; intro K' hK7
      refine FW.lfun (y := .lit (.pointer (some ⟨bx1, 0, none⟩))) hk rfl rfl rfl rfl (FW.f_fieldPtr hk (FW.holds_nil _) rfl Go.Proofs.Try.underlying68 rfl (by kernel_rfl) rfl) ?_; clear hk; intro a w hk
      refine FW.lfun (y := .lit (.pointer (some ⟨b0_0, 0, none⟩))) hk rfl rfl rfl rfl (FW.f_loadBlk1 hk (FW.holds_nil _) (j := 2) rfl rfl Go.Proofs.Try.underlying46 rfl rfl) ?_; clear hk; intro a w hk
      obtain ⟨t1, hr_t1, h⟩ := FW.bnd h
      refine FW.l_callH (I1 := (ODevDev.items b0_0 xd0_0_0 xc0_0_0 xr0_0_1 xd0_0_3 xc0_0_3 v0_0)) (I2 := [FW.blk bx3 68 (([.lit (.pointer none)] : List FW.AV) ++ (Offshootref03Dev.cells (⟨[], [], 0, [], false⟩ : Offshootref03Dev))), FW.blk bx2 51 ((Offshootlaw03Act.cells v1)), FW.blk bx1 68 (([.lit (.pointer (some ⟨b0_0, 0, none⟩))] : List FW.AV) ++ (Offshootref03Dev.cells v0.m))]) (js := [6, 6, 6, 6]) hk rfl rfl rfl rfl rfl Go.Proofs.Try.func31 rfl (by kernel_rfl) (dev_Dev_Flush.ok K v0_0 _ hr_t1 b0_0 xd0_0_0 xc0_0_0 xr0_0_1 xd0_0_3 xc0_0_3) ?_; clear hk
      rintro _ _ ⟨zd1, zc1, zr1, zd2, zc2, rfl, rfl⟩ a w hk
      refine FW.lfun (y := .lit (.int .i64 t1.1)) hk rfl rfl rfl rfl (FW.f_assign hk (FW.holds_nil _) rfl) ?_; clear hk; intro a w hk
      refine FW.lend (hK7 _ _ ?_); clear hK7 K'
      refine FW.wreg1 ?_
      refine FW.lfun (y := .lit (.pointer (some ⟨bx1, 1, none⟩))) hk rfl rfl rfl rfl (FW.f_fieldPtr hk (FW.holds_nil _) rfl Go.Proofs.Try.underlying68 rfl (by kernel_rfl) rfl) ?_; clear hk; intro a w hk
      refine FW.lfun (y := .agg ((Offshootref03Dev.cells v0.m))) hk rfl rfl rfl rfl (FW.f_loadBlk hk (FW.holds_nil _) (j := 6) rfl rfl Go.Proofs.Try.underlying65 rfl rfl rfl rfl) ?_; clear hk; intro a w hk
      obtain ⟨t2, hr_t2, h⟩ := FW.bnd h
      refine FW.lfun (y := .tup [.agg ((Offshootref03Dev.cells t2.1)), .lit (.int .i64 t2.2)]) hk rfl rfl rfl rfl (FW.f_call hk (FW.holds_nil _) rfl rfl Go.Proofs.Try.func66 rfl (by kernel_rfl) (offshootref03_Dev_Flush.ok K v0.m _ hr_t2)) ?_; clear hk; intro a w hk
      refine FW.lfun (y := .tup [.agg ((Offshootref03Dev.cells t2.1)), .lit (.int .i64 t2.2)]) hk rfl rfl rfl rfl (FW.f_move hk (FW.holds_nil _) rfl) ?_; clear hk; intro a w hk
      refine FW.lfun (y := .agg ((Offshootref03Dev.cells t2.1))) hk rfl rfl rfl rfl (FW.f_extract hk (FW.holds_nil _) rfl rfl) ?_; clear hk; intro a w hk
      refine FW.lfun (y := .lit (.int .i64 t2.2)) hk rfl rfl rfl rfl (FW.f_extract hk (FW.holds_nil _) rfl rfl) ?_; clear hk; intro a w hk
      refine FW.lfun (y := .lit (.pointer (some ⟨bx1, 1, none⟩))) hk rfl rfl rfl rfl (FW.f_fieldPtr hk (FW.holds_nil _) rfl Go.Proofs.Try.underlying68 rfl (by kernel_rfl) rfl) ?_; clear hk; intro a w hk
      refine FW.l_store (I' := [FW.blk b0_0 109 ([.lit (.slice zd1 (List.length t1.2.sure) zc1), .lit (.map (some zr1)), .lit (.int .i64 t1.2.steps), .lit (.slice zd2 (List.length t1.2.falls) zc2), .lit (.bool t1.2.off)]), FW.orow zd1 zc1 9 1 c_str t1.2.sure, FW.mapI (.int .i64) (Value.int .i64) FW.evS zr1 t1.2.cache, FW.orow zd2 zc2 45 3 ApiFall.cells t1.2.falls, FW.blk bx3 68 (([.lit (.pointer none)] : List FW.AV) ++ (Offshootref03Dev.cells (⟨[], [], 0, [], false⟩ : Offshootref03Dev))), FW.blk bx2 51 ((Offshootlaw03Act.cells v1)), FW.blk bx1 68 (([.lit (.pointer (some ⟨b0_0, 0, none⟩))] : List FW.AV) ++ (Offshootref03Dev.cells t2.1))]) (cs' := ([.lit (.pointer (some ⟨b0_0, 0, none⟩))] : List FW.AV) ++ (Offshootref03Dev.cells t2.1)) (j := 6) hk rfl rfl rfl rfl rfl (by kernel_rfl) rfl rfl ?_; clear hk; intro w hk
      refine FW.lfun (y := .lit (.int .i64 t2.2)) hk rfl rfl rfl rfl (FW.f_assign hk (FW.holds_nil _) rfl) ?_; clear hk; intro a w hk
      refine wpList_nil ?_
      (repeat first | refine FW.then_normal ?_ | refine FW.block_normal ?_); exact hK3 _ _ ⟨t1.2.steps, t1.2.off, t1.2.sure, t1.2.cache, t1.2.falls, t2.1, t1.1, t2.2, zd1, zc1, zr1, zd2, zc2, (hk.drop 5).sub ⟨rfl, rfl, rfl, rfl, trivial⟩, h⟩
    · skip
      refine FW.wreg ?_; intro K' hK9
      refine FW.lfun (y := .lit (.bool (decide (v1.Kind = 4)))) hk rfl rfl rfl rfl ((FW.f_pure (FW.p_eql hk.kn (FW.holds_nil _) rfl rfl))) ?_; clear hk; intro a w hk
      refine FW.lfun (y := .lit (.bool (decide (v1.Kind = 4)))) hk rfl rfl rfl rfl (FW.f_assign hk (FW.holds_nil _) rfl) ?_; clear hk; intro a w hk
      refine FW.lend (hK9 _ _ ?_); clear hK9 K'
      refine FW.wcondF (b := (decide (v1.Kind = 4))) hk h rfl (fun h hb => ?_) (fun h hb => ?_)
      · skip
        refine FW.wreg ?_; intro K' hK10
        refine FW.lfun (y := .lit (.pointer (some ⟨bx1, 0, none⟩))) hk rfl rfl rfl rfl (FW.f_fieldPtr hk (FW.holds_nil _) rfl Go.Proofs.Try.underlying68 rfl (by kernel_rfl) rfl) ?_; clear hk; intro a w hk
        refine FW.lfun (y := .lit (.pointer (some ⟨b0_0, 0, none⟩))) hk rfl rfl rfl rfl (FW.f_loadBlk1 hk (FW.holds_nil _) (j := 2) rfl rfl Go.Proofs.Try.underlying46 rfl rfl) ?_; clear hk; intro a w hk
        refine FW.lfun (y := .lit (.pointer (some ⟨bx2, 4, none⟩))) hk rfl rfl rfl rfl (FW.f_fieldPtr hk (FW.holds_nil _) rfl Go.Proofs.Try.underlying51 rfl (by kernel_rfl) rfl) ?_; clear hk; intro a w hk
        refine FW.lfun (y := .lit (.pointer (some ⟨bx2, 5, none⟩))) hk rfl rfl rfl rfl (FW.f_fieldPtr hk (FW.holds_nil _) rfl Go.Proofs.Try.underlying45 rfl (by kernel_rfl) rfl) ?_; clear hk; intro a w hk
        refine FW.lfun (y := .lit (.int .u64 v1.Fall.Keep)) hk rfl rfl rfl rfl (FW.f_loadBlk1 hk (FW.holds_nil _) (j := 1) rfl rfl Go.Proofs.Try.underlying29 rfl rfl) ?_; clear hk; intro a w hk
        refine FW.lfun (y := .lit (.pointer (some ⟨bx2, 4, none⟩))) hk rfl rfl rfl rfl (FW.f_fieldPtr hk (FW.holds_nil _) rfl Go.Proofs.Try.underlying51 rfl (by kernel_rfl) rfl) ?_; clear hk; intro a w hk
        refine FW.lfun (y := .lit (.pointer (some ⟨bx2, 6, none⟩))) hk rfl rfl rfl rfl (FW.f_fieldPtr hk (FW.holds_nil _) rfl Go.Proofs.Try.underlying45 rfl (by kernel_rfl) rfl) ?_; clear hk; intro a w hk
        refine FW.lfun (y := .lit (.int .i64 v1.Fall.Torn)) hk rfl rfl rfl rfl (FW.f_loadBlk1 hk (FW.holds_nil _) (j := 1) rfl rfl Go.Proofs.Try.underlying3 rfl rfl) ?_; clear hk; intro a w hk
        obtain ⟨t3, hr_t3, h⟩ := FW.bnd h
        refine FW.l_callH (I1 := (ODevDev.items b0_0 xd0_0_0 xc0_0_0 xr0_0_1 xd0_0_3 xc0_0_3 v0_0)) (I2 := [FW.blk bx3 68 (([.lit (.pointer none)] : List FW.AV) ++ (Offshootref03Dev.cells (⟨[], [], 0, [], false⟩ : Offshootref03Dev))), FW.blk bx2 51 ((Offshootlaw03Act.cells v1)), FW.blk bx1 68 (([.lit (.pointer (some ⟨b0_0, 0, none⟩))] : List FW.AV) ++ (Offshootref03Dev.cells v0.m))]) (js := [6, 6, 6, 6]) hk rfl rfl rfl rfl rfl Go.Proofs.Try.func32 rfl (by kernel_rfl) (dev_Dev_Crash.ok K v0_0 v1.Fall.Keep v1.Fall.Torn _ hr_t3 b0_0 xd0_0_0 xc0_0_0 xr0_0_1 xd0_0_3 xc0_0_3) ?_; clear hk
        rintro _ _ ⟨zd3, zc3, zr2, zd4, zc4, rfl, rfl⟩ a w hk
        refine FW.lend (hK10 _ _ ?_); clear hK10 K'
        refine FW.wreg1 ?_
        refine FW.lfun (y := .lit (.pointer (some ⟨bx1, 1, none⟩))) hk rfl rfl rfl rfl (FW.f_fieldPtr hk (FW.holds_nil _) rfl Go.Proofs.Try.underlying68 rfl (by kernel_rfl) rfl) ?_; clear hk; intro a w hk
        refine FW.lfun (y := .agg ((Offshootref03Dev.cells v0.m))) hk rfl rfl rfl rfl (FW.f_loadBlk hk (FW.holds_nil _) (j := 6) rfl rfl Go.Proofs.Try.underlying65 rfl rfl rfl rfl) ?_; clear hk; intro a w hk
        refine FW.lfun (y := .lit (.pointer (some ⟨bx2, 4, none⟩))) hk rfl rfl rfl rfl (FW.f_fieldPtr hk (FW.holds_nil _) rfl Go.Proofs.Try.underlying51 rfl (by kernel_rfl) rfl) ?_; clear hk; intro a w hk
        refine FW.lfun (y := .lit (.pointer (some ⟨bx2, 5, none⟩))) hk rfl rfl rfl rfl (FW.f_fieldPtr hk (FW.holds_nil _) rfl Go.Proofs.Try.underlying45 rfl (by kernel_rfl) rfl) ?_; clear hk; intro a w hk
        refine FW.lfun (y := .lit (.int .u64 v1.Fall.Keep)) hk rfl rfl rfl rfl (FW.f_loadBlk1 hk (FW.holds_nil _) (j := 5) rfl rfl Go.Proofs.Try.underlying29 rfl rfl) ?_; clear hk; intro a w hk
        refine FW.lfun (y := .lit (.pointer (some ⟨bx2, 4, none⟩))) hk rfl rfl rfl rfl (FW.f_fieldPtr hk (FW.holds_nil _) rfl Go.Proofs.Try.underlying51 rfl (by kernel_rfl) rfl) ?_; clear hk; intro a w hk
        refine FW.lfun (y := .lit (.pointer (some ⟨bx2, 6, none⟩))) hk rfl rfl rfl rfl (FW.f_fieldPtr hk (FW.holds_nil _) rfl Go.Proofs.Try.underlying45 rfl (by kernel_rfl) rfl) ?_; clear hk; intro a w hk
        refine FW.lfun (y := .lit (.int .i64 v1.Fall.Torn)) hk rfl rfl rfl rfl (FW.f_loadBlk1 hk (FW.holds_nil _) (j := 5) rfl rfl Go.Proofs.Try.underlying3 rfl rfl) ?_; clear hk; intro a w hk
        obtain ⟨t4, hr_t4, h⟩ := FW.bnd h
        refine FW.lfun (y := .agg ((Offshootref03Dev.cells t4))) hk rfl rfl rfl rfl (FW.f_call hk (FW.holds_nil _) rfl rfl Go.Proofs.Try.func67 rfl (by kernel_rfl) (offshootref03_Dev_Crash.ok K v0.m v1.Fall.Keep v1.Fall.Torn _ hr_t4)) ?_; clear hk; intro a w hk
        refine FW.lfun (y := .lit (.pointer (some ⟨bx1, 1, none⟩))) hk rfl rfl rfl rfl (FW.f_fieldPtr hk (FW.holds_nil _) rfl Go.Proofs.Try.underlying68 rfl (by kernel_rfl) rfl) ?_; clear hk; intro a w hk
        refine FW.l_store (I' := [FW.blk b0_0 109 ([.lit (.slice zd3 (List.length t3.sure) zc3), .lit (.map (some zr2)), .lit (.int .i64 t3.steps), .lit (.slice zd4 (List.length t3.falls) zc4), .lit (.bool t3.off)]), FW.orow zd3 zc3 9 1 c_str t3.sure, FW.mapI (.int .i64) (Value.int .i64) FW.evS zr2 t3.cache, FW.orow zd4 zc4 45 3 ApiFall.cells t3.falls, FW.blk bx3 68 (([.lit (.pointer none)] : List FW.AV) ++ (Offshootref03Dev.cells (⟨[], [], 0, [], false⟩ : Offshootref03Dev))), FW.blk bx2 51 ((Offshootlaw03Act.cells v1)), FW.blk bx1 68 (([.lit (.pointer (some ⟨b0_0, 0, none⟩))] : List FW.AV) ++ (Offshootref03Dev.cells t4))]) (cs' := ([.lit (.pointer (some ⟨b0_0, 0, none⟩))] : List FW.AV) ++ (Offshootref03Dev.cells t4)) (j := 6) hk rfl rfl rfl rfl rfl (by kernel_rfl) rfl rfl ?_; clear hk; intro w hk
        refine wpList_nil ?_
        (repeat first | refine FW.then_normal ?_ | refine FW.block_normal ?_); exact hK3 _ _ ⟨t3.steps, t3.off, t3.sure, t3.cache, t3.falls, t4, 0, 0, zd3, zc3, zr2, zd4, zc4, (hk.drop 5).sub ⟨rfl, rfl, rfl, rfl, trivial⟩, h⟩
      · skip
        refine FW.wreg ?_; intro K' hK12
        refine FW.lfun (y := .lit (.bool (decide (v1.Kind = 5)))) hk rfl rfl rfl rfl ((FW.f_pure (FW.p_eql hk.kn (FW.holds_nil _) rfl rfl))) ?_; clear hk; intro a w hk
        refine FW.lfun (y := .lit (.bool (decide (v1.Kind = 5)))) hk rfl rfl rfl rfl (FW.f_assign hk (FW.holds_nil _) rfl) ?_; clear hk; intro a w hk
        refine FW.lend (hK12 _ _ ?_); clear hK12 K'
        refine FW.wcondF (b := (decide (v1.Kind = 5))) hk h rfl (fun h hb => ?_) (fun h hb => ?_)
        · skip
          refine FW.wreg ?_; intro K' hK13
          refine FW.lfun (y := .lit (.pointer (some ⟨bx1, 1, none⟩))) hk rfl rfl rfl rfl (FW.f_fieldPtr hk (FW.holds_nil _) rfl Go.Proofs.Try.underlying68 rfl (by kernel_rfl) rfl) ?_; clear hk; intro a w hk
          refine FW.lfun (y := .lit (.pointer (some ⟨bx1, 5, none⟩))) hk rfl rfl rfl rfl (FW.f_fieldPtr hk (FW.holds_nil _) rfl Go.Proofs.Try.underlying65 rfl (by kernel_rfl) rfl) ?_; clear hk; intro a w hk
          refine FW.lfun (y := .lit (.bool v0.m.Off)) hk rfl rfl rfl rfl (FW.f_loadBlk1 hk (FW.holds_nil _) (j := 2) rfl rfl Go.Proofs.Try.underlying4 rfl rfl) ?_; clear hk; intro a w hk
          refine FW.lfun (y := .lit (.bool v0.m.Off)) hk rfl rfl rfl rfl (FW.f_assign hk (FW.holds_nil _) rfl) ?_; clear hk; intro a w hk
          refine FW.lend (hK13 _ _ ?_); clear hK13 K'
          refine FW.wreg ?_; intro K' hK14
          refine FW.lfun (y := .lit (.pointer (some ⟨bx1, 1, none⟩))) hk rfl rfl rfl rfl (FW.f_fieldPtr hk (FW.holds_nil _) rfl Go.Proofs.Try.underlying68 rfl (by kernel_rfl) rfl) ?_; clear hk; intro a w hk
          refine FW.lfun (y := .lit (.pointer (some ⟨bx1, 5, none⟩))) hk rfl rfl rfl rfl (FW.f_fieldPtr hk (FW.holds_nil _) rfl Go.Proofs.Try.underlying65 rfl (by kernel_rfl) rfl) ?_; clear hk; intro a w hk
          refine FW.l_store (I' := [FW.blk bx3 68 (([.lit (.pointer none)] : List FW.AV) ++ (Offshootref03Dev.cells (⟨[], [], 0, [], false⟩ : Offshootref03Dev))), FW.blk bx2 51 ((Offshootlaw03Act.cells v1)), FW.blk bx1 68 (([.lit (.pointer (some ⟨b0_0, 0, none⟩))] : List FW.AV) ++ (Offshootref03Dev.cells (⟨v0.m.Sure, v0.m.Loose, v0.m.Steps, v0.m.Falls, false⟩ : Offshootref03Dev))), FW.blk b0_0 109 ([.lit (.slice xd0_0_0 (List.length v0_0.sure) xc0_0_0), .lit (.map (some xr0_0_1)), .lit (.int .i64 v0_0.steps), .lit (.slice xd0_0_3 (List.length v0_0.falls) xc0_0_3), .lit (.bool v0_0.off)]), FW.orow xd0_0_0 xc0_0_0 9 1 c_str v0_0.sure, FW.mapI (.int .i64) (Value.int .i64) FW.evS xr0_0_1 v0_0.cache, FW.orow xd0_0_3 xc0_0_3 45 3 ApiFall.cells v0_0.falls]) (cs' := ([.lit (.pointer (some ⟨b0_0, 0, none⟩))] : List FW.AV) ++ (Offshootref03Dev.cells (⟨v0.m.Sure, v0.m.Loose, v0.m.Steps, v0.m.Falls, false⟩ : Offshootref03Dev))) (j := 2) hk rfl rfl rfl rfl rfl (by kernel_rfl) rfl rfl ?_; clear hk; intro w hk
          refine FW.lend (hK14 _ _ ?_); clear hK14 K'
          obtain ⟨t5, hr_t5, h⟩ := FW.bnd h
          refine FW.wdrawE (.next [true, true, true, false, true, false, false, false] 3 [true, true, true, false, true, false, false, false] (.next [true, false, false, false, true, true, false, false] 6 [true, true, true, true, true, true, false, false] (.leaf [false, false, false, false, true, true, false, true]))) [(76, [], .agg (([.lit (.pointer (some ⟨b0_0, 0, none⟩))] : List FW.AV) ++ (Offshootref03Dev.cells (⟨v0.m.Sure, v0.m.Loose, v0.m.Steps, v0.m.Falls, false⟩ : Offshootref03Dev)))), (77, [], .lit (.pointer (some ⟨bx1, 0, none⟩))), (78, [], .lit (.pointer (some ⟨b0_0, 0, none⟩))), (79, [], .agg []), (80, [], .lit (.bool v0.m.Off)), (81, [], .agg []), (120, [], .lit undef), (5, [], .agg [])] (by kernel_rfl) (by kernel_rfl) (by kernel_rfl) (by kernel_rfl) hk ?_; clear hk
          refine FW.gnext ?_ rfl rfl rfl rfl rfl ?_
          · skip
            refine FW.gfun (y := .agg (([.lit (.pointer (some ⟨b0_0, 0, none⟩))] : List FW.AV) ++ (Offshootref03Dev.cells (⟨v0.m.Sure, v0.m.Loose, v0.m.Steps, v0.m.Falls, false⟩ : Offshootref03Dev)))) rfl rfl rfl rfl (fun a w hk => FW.f_loadBlk hk (FW.holds_nil _) (j := 2) rfl rfl Go.Proofs.Try.underlying68 rfl rfl rfl rfl) ?_
            refine FW.gfun (y := .lit (.pointer (some ⟨bx1, 0, none⟩))) rfl rfl rfl rfl (fun a w hk => FW.f_fieldPtr hk (FW.holds_nil _) rfl Go.Proofs.Try.underlying68 rfl (by kernel_rfl) rfl) ?_
            refine FW.gfun (y := .lit (.pointer (some ⟨b0_0, 0, none⟩))) rfl rfl rfl rfl (fun a w hk => FW.f_loadBlk1 hk (FW.holds_nil _) (j := 2) rfl rfl Go.Proofs.Try.underlying46 rfl rfl) ?_
            refine FW.gskip rfl rfl ?_
            refine FW.gfun (y := .lit (.bool v0.m.Off)) rfl rfl rfl rfl (fun a w hk => FW.f_move hk (FW.holds_nil _) rfl) ?_
            refine FW.gskip rfl rfl ?_
            refine FW.gskip0 rfl ?_
            refine FW.gskip rfl rfl ?_
            exact FW.gend
          · skip
            intro σD a w opsD QD hk hf hQ hX
            refine FW.l_callH (I1 := (ODevDev.items b0_0 xd0_0_0 xc0_0_0 xr0_0_1 xd0_0_3 xc0_0_3 v0_0)) (I2 := [FW.blk bx3 68 (([.lit (.pointer none)] : List FW.AV) ++ (Offshootref03Dev.cells (⟨[], [], 0, [], false⟩ : Offshootref03Dev))), FW.blk bx2 51 ((Offshootlaw03Act.cells v1)), FW.blk bx1 68 (([.lit (.pointer (some ⟨b0_0, 0, none⟩))] : List FW.AV) ++ (Offshootref03Dev.cells (⟨v0.m.Sure, v0.m.Loose, v0.m.Steps, v0.m.Falls, false⟩ : Offshootref03Dev)))]) (js := [6, 6, 6, 6]) hk rfl rfl hf rfl rfl Go.Proofs.Try.func33 rfl (by kernel_rfl) (dev_Dev_Up.ok v0_0 _ hr_t5 b0_0 xd0_0_0 xc0_0_0 xr0_0_1 xd0_0_3 xc0_0_3) ?_; clear hk
            rintro _ _ ⟨zd5, zc5, zr3, zd6, zc6, rfl, rfl⟩ a w hk
            refine hQ _ _ a w ?_ hk; clear hk hQ hf hX
            refine ⟨[(76, [], .agg (([.lit (.pointer (some ⟨b0_0, 0, none⟩))] : List FW.AV) ++ (Offshootref03Dev.cells (⟨v0.m.Sure, v0.m.Loose, v0.m.Steps, v0.m.Falls, false⟩ : Offshootref03Dev)))), (77, [], .lit (.pointer (some ⟨bx1, 0, none⟩))), (78, [], .lit (.pointer (some ⟨b0_0, 0, none⟩))), (79, [], .lit (.bool t5.1)), (80, [], .lit (.bool v0.m.Off)), (81, [], .lit (.bool (t5.1 == v0.m.Off))), (120, [], .lit undef), (5, [], .agg [])], And.intro rfl (And.intro rfl (And.intro rfl (And.intro rfl (trivial)))), rfl, ?_⟩
            refine FW.gnext0 ?_ rfl rfl rfl ?_
            · skip
              refine FW.gfun (y := .agg (([.lit (.pointer (some ⟨b0_0, 0, none⟩))] : List FW.AV) ++ (Offshootref03Dev.cells (⟨v0.m.Sure, v0.m.Loose, v0.m.Steps, v0.m.Falls, false⟩ : Offshootref03Dev)))) rfl rfl rfl rfl (fun a w hk => FW.f_loadBlk hk (FW.holds_nil _) (j := 6) rfl rfl Go.Proofs.Try.underlying68 rfl rfl rfl rfl) ?_
              refine FW.gskip rfl rfl ?_
              refine FW.gskip rfl rfl ?_
              refine FW.gskip rfl rfl ?_
              refine FW.gfun (y := .lit (.bool v0.m.Off)) rfl rfl rfl rfl (fun a w hk => FW.f_move hk (FW.holds_nil _) rfl) ?_
              refine FW.gfun (y := .lit (.bool (t5.1 == v0.m.Off))) rfl rfl rfl rfl (fun a w hk => (FW.f_pure (FW.p_beql Go.Proofs.Try.underlying4 hk.kn (FW.holds_nil _) rfl rfl))) ?_
              refine FW.gskip0 rfl ?_
              refine FW.gskip rfl rfl ?_
              exact FW.gend
            · skip
              intro σD a w opsD QD hk hQ hX
              refine FW.l_store (I' := [FW.blk b0_0 109 ([.lit (.slice zd5 (List.length t5.2.sure) zc5), .lit (.map (some zr3)), .lit (.int .i64 t5.2.steps), .lit (.slice zd6 (List.length t5.2.falls) zc6), .lit (.bool t5.2.off)]), FW.orow zd5 zc5 9 1 c_str t5.2.sure, FW.mapI (.int .i64) (Value.int .i64) FW.evS zr3 t5.2.cache, FW.orow zd6 zc6 45 3 ApiFall.cells t5.2.falls, FW.blk bx3 68 (([.lit (.pointer (some ⟨b0_0, 0, none⟩))] : List FW.AV) ++ (Offshootref03Dev.cells (⟨v0.m.Sure, v0.m.Loose, v0.m.Steps, v0.m.Falls, false⟩ : Offshootref03Dev))), FW.blk bx2 51 ((Offshootlaw03Act.cells v1)), FW.blk bx1 68 (([.lit (.pointer (some ⟨b0_0, 0, none⟩))] : List FW.AV) ++ (Offshootref03Dev.cells (⟨v0.m.Sure, v0.m.Loose, v0.m.Steps, v0.m.Falls, false⟩ : Offshootref03Dev)))]) (cs' := ([.lit (.pointer (some ⟨b0_0, 0, none⟩))] : List FW.AV) ++ (Offshootref03Dev.cells (⟨v0.m.Sure, v0.m.Loose, v0.m.Steps, v0.m.Falls, false⟩ : Offshootref03Dev))) (j := 4) hk rfl rfl rfl rfl rfl (by kernel_rfl) rfl rfl ?_; clear hk; intro w hk
              refine hQ _ a w ?_ hk; clear hk hQ hX
              refine ⟨[(76, [], .agg (([.lit (.pointer (some ⟨b0_0, 0, none⟩))] : List FW.AV) ++ (Offshootref03Dev.cells (⟨v0.m.Sure, v0.m.Loose, v0.m.Steps, v0.m.Falls, false⟩ : Offshootref03Dev)))), (77, [], .lit (.pointer (some ⟨bx1, 0, none⟩))), (78, [], .lit (.pointer (some ⟨b0_0, 0, none⟩))), (79, [], .lit (.bool t5.1)), (80, [], .lit (.bool v0.m.Off)), (81, [], .lit (.bool (t5.1 == v0.m.Off))), (120, [], .lit undef), (5, [], .lit (.bool (t5.1 == v0.m.Off)))], And.intro rfl (And.intro rfl (And.intro rfl (And.intro rfl (And.intro rfl (And.intro rfl (trivial)))))), rfl, ?_⟩
              refine FW.glast ?_ ?_
              · skip
                refine FW.gskip rfl rfl ?_
                refine FW.gskip rfl rfl ?_
                refine FW.gskip rfl rfl ?_
                refine FW.gskip rfl rfl ?_
                refine FW.gfun (y := .lit (.bool v0.m.Off)) rfl rfl rfl rfl (fun a w hk => FW.f_move hk (FW.holds_nil _) rfl) ?_
                refine FW.gfun (y := .lit (.bool (t5.1 == v0.m.Off))) rfl rfl rfl rfl (fun a w hk => (FW.f_pure (FW.p_beql Go.Proofs.Try.underlying4 hk.kn (FW.holds_nil _) rfl rfl))) ?_
                refine FW.gskip0 rfl ?_
                refine FW.gfun (y := .lit (.bool (t5.1 == v0.m.Off))) rfl rfl rfl rfl (fun a w hk => FW.f_assign hk (FW.holds_nil _) rfl) ?_
                exact FW.gend
              · skip
                intro a w hk; simp only [FW.stD, cond_true] at hk
                refine wp_ret ?_
                (repeat first | refine FW.then_ret ?_ | refine FW.block_ret ?_)
                obtain rfl := Option.some.inj h
                have hr_0 := FW.rres_keep (I1 := [FW.blk b0_0 109 ([.lit (.slice zd5 (List.length t5.2.sure) zc5), .lit (.map (some zr3)), .lit (.int .i64 t5.2.steps), .lit (.slice zd6 (List.length t5.2.falls) zc6), .lit (.bool t5.2.off)]), FW.orow zd5 zc5 9 1 c_str t5.2.sure, FW.mapI (.int .i64) (Value.int .i64) FW.evS zr3 t5.2.cache, FW.orow zd6 zc6 45 3 ApiFall.cells t5.2.falls]) (I2 := [FW.blk bx3 68 (([.lit (.pointer (some ⟨b0_0, 0, none⟩))] : List FW.AV) ++ (Offshootref03Dev.cells (⟨v0.m.Sure, v0.m.Loose, v0.m.Steps, v0.m.Falls, false⟩ : Offshootref03Dev))), FW.blk bx2 51 ((Offshootlaw03Act.cells v1)), FW.blk bx1 68 (([.lit (.pointer (some ⟨b0_0, 0, none⟩))] : List FW.AV) ++ (Offshootref03Dev.cells (⟨v0.m.Sure, v0.m.Loose, v0.m.Steps, v0.m.Falls, false⟩ : Offshootref03Dev)))]) (js := [3, 3, 3, 3]) rfl (FW.rcell (tt := 4) hk rfl (j := 4) rfl Go.Proofs.Try.underlying68 rfl (by kernel_rfl))
                replace hk := FW.S.keep (I1 := [FW.blk b0_0 109 ([.lit (.slice zd5 (List.length t5.2.sure) zc5), .lit (.map (some zr3)), .lit (.int .i64 t5.2.steps), .lit (.slice zd6 (List.length t5.2.falls) zc6), .lit (.bool t5.2.off)]), FW.orow zd5 zc5 9 1 c_str t5.2.sure, FW.mapI (.int .i64) (Value.int .i64) FW.evS zr3 t5.2.cache, FW.orow zd6 zc6 45 3 ApiFall.cells t5.2.falls]) (I2 := [FW.blk bx3 68 (([.lit (.pointer (some ⟨b0_0, 0, none⟩))] : List FW.AV) ++ (Offshootref03Dev.cells (⟨v0.m.Sure, v0.m.Loose, v0.m.Steps, v0.m.Falls, false⟩ : Offshootref03Dev))), FW.blk bx2 51 ((Offshootlaw03Act.cells v1)), FW.blk bx1 68 (([.lit (.pointer (some ⟨b0_0, 0, none⟩))] : List FW.AV) ++ (Offshootref03Dev.cells (⟨v0.m.Sure, v0.m.Loose, v0.m.Steps, v0.m.Falls, false⟩ : Offshootref03Dev)))]) (js := [3, 3, 3, 3]) hk rfl
                exact FW.fretH2 hk rfl hr_0 (FW.rtmp hk rfl) ⟨zd5, zc5, zr3, zd6, zc6, rfl, rfl⟩
        · skip
          refine FW.wreg ?_; intro K' hK16
          refine FW.lfun (y := .lit (.bool (decide (v1.Kind = 6)))) hk rfl rfl rfl rfl ((FW.f_pure (FW.p_eql hk.kn (FW.holds_nil _) rfl rfl))) ?_; clear hk; intro a w hk
          refine FW.lfun (y := .lit (.bool (decide (v1.Kind = 6)))) hk rfl rfl rfl rfl (FW.f_assign hk (FW.holds_nil _) rfl) ?_; clear hk; intro a w hk
          refine FW.lend (hK16 _ _ ?_); clear hK16 K'
          refine FW.wcondF (b := (decide (v1.Kind = 6))) hk h rfl (fun h hb => ?_) (fun h hb => ?_)
          · skip
            refine FW.wreg ?_; intro K' hK17
            refine FW.lfun (y := .lit (.pointer (some ⟨bx2, 4, none⟩))) hk rfl rfl rfl rfl (FW.f_fieldPtr hk (FW.holds_nil _) rfl Go.Proofs.Try.underlying51 rfl (by kernel_rfl) rfl) ?_; clear hk; intro a w hk
            refine FW.lfun (y := .agg ((ApiFall.cells v1.Fall))) hk rfl rfl rfl rfl (FW.f_loadBlk hk (FW.holds_nil _) (j := 1) rfl rfl Go.Proofs.Try.underlying45 rfl rfl rfl rfl) ?_; clear hk; intro a w hk
            refine FW.l_alloc (zs := (ApiFall.cells (⟨0, 0, 0⟩ : ApiFall))) [] hk rfl rfl rfl rfl ?_; clear hk; intro bx4 a w hk
            refine FW.l_store (I' := [FW.blk bx4 45 ((ApiFall.cells v1.Fall)), FW.blk bx3 68 (([.lit (.pointer none)] : List FW.AV) ++ (Offshootref03Dev.cells (⟨[], [], 0, [], false⟩ : Offshootref03Dev))), FW.blk bx2 51 ((Offshootlaw03Act.cells v1)), FW.blk bx1 68 (([.lit (.pointer (some ⟨b0_0, 0, none⟩))] : List FW.AV) ++ (Offshootref03Dev.cells v0.m)), FW.blk b0_0 109 ([.lit (.slice xd0_0_0 (List.length v0_0.sure) xc0_0_0), .lit (.map (some xr0_0_1)), .lit (.int .i64 v0_0.steps), .lit (.slice xd0_0_3 (List.length v0_0.falls) xc0_0_3), .lit (.bool v0_0.off)]), FW.orow xd0_0_0 xc0_0_0 9 1 c_str v0_0.sure, FW.mapI (.int .i64) (Value.int .i64) FW.evS xr0_0_1 v0_0.cache, FW.orow xd0_0_3 xc0_0_3 45 3 ApiFall.cells v0_0.falls]) (cs' := (ApiFall.cells v1.Fall)) (j := 0) hk rfl rfl rfl rfl rfl (by kernel_rfl) rfl rfl ?_; clear hk; intro w hk
            refine FW.lend (hK17 _ _ ?_); clear hK17 K'
            refine FW.wseqJ (fun a w => ∃ (y8 : ApiFall) (y5_1 : Offshootref03Dev) (v6 : Int) (v7 : Int), FW.S M w0 a w 120 [FW.blk bx4 45 ((ApiFall.cells y8)), FW.blk bx3 68 (([.lit (.pointer none)] : List FW.AV) ++ (Offshootref03Dev.cells (⟨[], [], 0, [], false⟩ : Offshootref03Dev))), FW.blk bx1 68 (([.lit (.pointer (some ⟨b0_0, 0, none⟩))] : List FW.AV) ++ (Offshootref03Dev.cells y5_1)), FW.blk b0_0 109 ([.lit (.slice xd0_0_0 (List.length v0_0.sure) xc0_0_0), .lit (.map (some xr0_0_1)), .lit (.int .i64 v0_0.steps), .lit (.slice xd0_0_3 (List.length v0_0.falls) xc0_0_3), .lit (.bool v0_0.off)]), FW.orow xd0_0_0 xc0_0_0 9 1 c_str v0_0.sure, FW.mapI (.int .i64) (Value.int .i64) FW.evS xr0_0_1 v0_0.cache, FW.orow xd0_0_3 xc0_0_3 45 3 ApiFall.cells v0_0.falls] [(2, [], .lit (.pointer (some ⟨bx1, 0, none⟩))), (4, [], .lit (.pointer (some ⟨bx3, 0, none⟩))), (6, [], .lit (.int .i64 v6)), (7, [], .lit (.int .i64 v7)), (9, [], .lit (.pointer (some ⟨bx4, 0, none⟩)))] ∧ offshootlaw03_both_do.j2 K v0_0 y8 y5_1 v6 v7 = some r) ?_ ?_
            · clear hk h
              rintro a w ⟨y8, y5_1, v6, v7, hk, h⟩
              unfold offshootlaw03_both_do.j2 at h
              refine FW.wreg ?_; intro K' hK19
              refine FW.lfun (y := .lit (.pointer (some ⟨bx1, 0, none⟩))) hk rfl rfl rfl rfl (FW.f_fieldPtr hk (FW.holds_nil _) rfl Go.Proofs.Try.underlying68 rfl (by kernel_rfl) rfl) ?_; clear hk; intro a w hk
              refine FW.lfun (y := .lit (.pointer (some ⟨b0_0, 0, none⟩))) hk rfl rfl rfl rfl (FW.f_loadBlk1 hk (FW.holds_nil _) (j := 2) rfl rfl Go.Proofs.Try.underlying46 rfl rfl) ?_; clear hk; intro a w hk
              refine FW.lfun (y := .agg ((ApiFall.cells y8))) hk rfl rfl rfl rfl (FW.f_loadBlk hk (FW.holds_nil _) (j := 0) rfl rfl Go.Proofs.Try.underlying45 rfl rfl rfl rfl) ?_; clear hk; intro a w hk
              refine FW.l_buildSlice (f := ApiFall.cells) (l := ([y8] : List ApiFall)) hk rfl rfl rfl Go.Proofs.Try.underlying74 rfl rfl rfl rfl (fun _ => rfl) rfl ?_; clear hk; intro bx5 a w hk
              replace hk := (FW.S.freezeR (I' := [FW.blk bx4 45 ((ApiFall.cells y8)), FW.blk bx3 68 (([.lit (.pointer none)] : List FW.AV) ++ (Offshootref03Dev.cells (⟨[], [], 0, [], false⟩ : Offshootref03Dev))), FW.blk bx1 68 (([.lit (.pointer (some ⟨b0_0, 0, none⟩))] : List FW.AV) ++ (Offshootref03Dev.cells y5_1)), FW.blk b0_0 109 ([.lit (.slice xd0_0_0 (List.length v0_0.sure) xc0_0_0), .lit (.map (some xr0_0_1)), .lit (.int .i64 v0_0.steps), .lit (.slice xd0_0_3 (List.length v0_0.falls) xc0_0_3), .lit (.bool v0_0.off)]), FW.orow xd0_0_0 xc0_0_0 9 1 c_str v0_0.sure, FW.mapI (.int .i64) (Value.int .i64) FW.evS xr0_0_1 v0_0.cache, FW.orow xd0_0_3 xc0_0_3 45 3 ApiFall.cells v0_0.falls]) r_ApiFall_cells_eq hk (j := 0) rfl (t := 104) rfl rfl).squash
              obtain ⟨t6, hr_t6, h⟩ := FW.bnd h
              refine FW.l_callH (I1 := (ODevDev.items b0_0 xd0_0_0 xc0_0_0 xr0_0_1 xd0_0_3 xc0_0_3 v0_0)) (I2 := [FW.blk bx4 45 ((ApiFall.cells y8)), FW.blk bx3 68 (([.lit (.pointer none)] : List FW.AV) ++ (Offshootref03Dev.cells (⟨[], [], 0, [], false⟩ : Offshootref03Dev))), FW.blk bx1 68 (([.lit (.pointer (some ⟨b0_0, 0, none⟩))] : List FW.AV) ++ (Offshootref03Dev.cells y5_1))]) (js := [6, 6, 6, 6]) hk rfl rfl rfl rfl rfl Go.Proofs.Try.func39 rfl (by kernel_rfl) (dev_Dev_Plan.ok v0_0 ([y8] : List ApiFall) _ hr_t6 b0_0 xd0_0_0 xc0_0_0 xr0_0_1 xd0_0_3 xc0_0_3) ?_; clear hk
              rintro _ _ ⟨zd7, zc7, zr4, zd8, zc8, rfl, rfl⟩ a w hk
              refine FW.lend (hK19 _ _ ?_); clear hK19 K'
              refine FW.wreg1 ?_
              refine FW.lfun (y := .lit (.pointer (some ⟨bx4, 0, none⟩))) hk rfl rfl rfl rfl (FW.f_fieldPtr hk (FW.holds_nil _) rfl Go.Proofs.Try.underlying45 rfl (by kernel_rfl) rfl) ?_; clear hk; intro a w hk
              refine FW.lfun (y := .lit (.int .i64 y8.At)) hk rfl rfl rfl rfl (FW.f_loadBlk1 hk (FW.holds_nil _) (j := 4) rfl rfl Go.Proofs.Try.underlying3 rfl rfl) ?_; clear hk; intro a w hk
              refine FW.lfun (y := .lit (.pointer (some ⟨bx4, 1, none⟩))) hk rfl rfl rfl rfl (FW.f_fieldPtr hk (FW.holds_nil _) rfl Go.Proofs.Try.underlying45 rfl (by kernel_rfl) rfl) ?_; clear hk; intro a w hk
              refine FW.lfun (y := .lit (.int .u64 y8.Keep)) hk rfl rfl rfl rfl (FW.f_loadBlk1 hk (FW.holds_nil _) (j := 4) rfl rfl Go.Proofs.Try.underlying29 rfl rfl) ?_; clear hk; intro a w hk
              refine FW.lfun (y := .lit (.pointer (some ⟨bx4, 2, none⟩))) hk rfl rfl rfl rfl (FW.f_fieldPtr hk (FW.holds_nil _) rfl Go.Proofs.Try.underlying45 rfl (by kernel_rfl) rfl) ?_; clear hk; intro a w hk
              refine FW.lfun (y := .lit (.int .i64 y8.Torn)) hk rfl rfl rfl rfl (FW.f_loadBlk1 hk (FW.holds_nil _) (j := 4) rfl rfl Go.Proofs.Try.underlying3 rfl rfl) ?_; clear hk; intro a w hk
              refine FW.lfun (y := .agg ((ApiFall.cells y8))) hk rfl rfl rfl rfl (FW.f_build hk (FW.holds_nil _) rfl rfl) ?_; clear hk; intro a w hk
              refine FW.l_buildSlice (f := ApiFall.cells) (l := ([y8] : List ApiFall)) hk rfl rfl rfl Go.Proofs.Try.underlying63 rfl rfl rfl rfl (fun _ => rfl) rfl ?_; clear hk; intro bx6 a w hk
              replace hk := (FW.S.freezeR (I' := [FW.blk b0_0 109 ([.lit (.slice zd7 (List.length t6.sure) zc7), .lit (.map (some zr4)), .lit (.int .i64 t6.steps), .lit (.slice zd8 (List.length t6.falls) zc8), .lit (.bool t6.off)]), FW.orow zd7 zc7 9 1 c_str t6.sure, FW.mapI (.int .i64) (Value.int .i64) FW.evS zr4 t6.cache, FW.orow zd8 zc8 45 3 ApiFall.cells t6.falls, FW.blk bx4 45 ((ApiFall.cells y8)), FW.blk bx3 68 (([.lit (.pointer none)] : List FW.AV) ++ (Offshootref03Dev.cells (⟨[], [], 0, [], false⟩ : Offshootref03Dev))), FW.blk bx1 68 (([.lit (.pointer (some ⟨b0_0, 0, none⟩))] : List FW.AV) ++ (Offshootref03Dev.cells y5_1))]) r_ApiFall_cells_eq hk (j := 0) rfl (t := 113) rfl rfl).squash
              refine FW.lfun (y := .lit (.pointer (some ⟨bx1, 1, none⟩))) hk rfl rfl rfl rfl (FW.f_fieldPtr hk (FW.holds_nil _) rfl Go.Proofs.Try.underlying68 rfl (by kernel_rfl) rfl) ?_; clear hk; intro a w hk
              refine FW.lfun (y := .lit (.pointer (some ⟨bx1, 4, none⟩))) hk rfl rfl rfl rfl (FW.f_fieldPtr hk (FW.holds_nil _) rfl Go.Proofs.Try.underlying65 rfl (by kernel_rfl) rfl) ?_; clear hk; intro a w hk
              refine FW.l_store (I' := [FW.blk b0_0 109 ([.lit (.slice zd7 (List.length t6.sure) zc7), .lit (.map (some zr4)), .lit (.int .i64 t6.steps), .lit (.slice zd8 (List.length t6.falls) zc8), .lit (.bool t6.off)]), FW.orow zd7 zc7 9 1 c_str t6.sure, FW.mapI (.int .i64) (Value.int .i64) FW.evS zr4 t6.cache, FW.orow zd8 zc8 45 3 ApiFall.cells t6.falls, FW.blk bx4 45 ((ApiFall.cells y8)), FW.blk bx3 68 (([.lit (.pointer none)] : List FW.AV) ++ (Offshootref03Dev.cells (⟨[], [], 0, [], false⟩ : Offshootref03Dev))), FW.blk bx1 68 (([.lit (.pointer (some ⟨b0_0, 0, none⟩))] : List FW.AV) ++ (Offshootref03Dev.cells (⟨y5_1.Sure, y5_1.Loose, y5_1.Steps, ([y8] : List ApiFall), y5_1.Off⟩ : Offshootref03Dev)))]) (cs' := ([.lit (.pointer (some ⟨b0_0, 0, none⟩))] : List FW.AV) ++ (Offshootref03Dev.cells (⟨y5_1.Sure, y5_1.Loose, y5_1.Steps, ([y8] : List ApiFall), y5_1.Off⟩ : Offshootref03Dev))) (j := 6) hk rfl rfl rfl rfl rfl (by kernel_rfl) rfl rfl ?_; clear hk; intro w hk
              refine wpList_nil ?_
              (repeat first | refine FW.then_normal ?_ | refine FW.block_normal ?_); exact hK3 _ _ ⟨t6.steps, t6.off, t6.sure, t6.cache, t6.falls, (⟨y5_1.Sure, y5_1.Loose, y5_1.Steps, ([y8] : List ApiFall), y5_1.Off⟩ : Offshootref03Dev), v6, v7, zd7, zc7, zr4, zd8, zc8, (hk.drop 4).sub ⟨rfl, rfl, rfl, rfl, trivial⟩, h⟩
            · intro K' hK18
              refine FW.wreg ?_; intro K' hK21
              refine FW.lfun (y := .lit (.pointer (some ⟨bx4, 0, none⟩))) hk rfl rfl rfl rfl (FW.f_fieldPtr hk (FW.holds_nil _) rfl Go.Proofs.Try.underlying45 rfl (by kernel_rfl) rfl) ?_; clear hk; intro a w hk
              refine FW.lfun (y := .lit (.int .i64 v1.Fall.At)) hk rfl rfl rfl rfl (FW.f_loadBlk1 hk (FW.holds_nil _) (j := 0) rfl rfl Go.Proofs.Try.underlying3 rfl rfl) ?_; clear hk; intro a w hk
              refine FW.lfun (y := .lit (.bool (decide (0 ≤ v1.Fall.At)))) hk rfl rfl rfl rfl ((FW.f_pure (FW.p_geq hk.kn (FW.holds_nil _) rfl rfl))) ?_; clear hk; intro a w hk
              refine FW.lfun (y := .lit (.bool (decide (0 ≤ v1.Fall.At)))) hk rfl rfl rfl rfl (FW.f_move hk (FW.holds_nil _) rfl) ?_; clear hk; intro a w hk
              refine FW.lfunG (y := .lit (.pointer (some ⟨bx4, 0, none⟩))) hk rfl rfl rfl rfl rfl rfl rfl rfl (fun hc => FW.f_fieldPtr hk hc rfl Go.Proofs.Try.underlying45 rfl (by kernel_rfl) rfl) ?_; clear hk; intro a w hk
              refine FW.lfunG (y := .lit (.int .i64 v1.Fall.At)) hk rfl rfl rfl rfl rfl rfl rfl rfl (fun hc => FW.f_loadBlk1 hk hc (j := 0) rfl rfl Go.Proofs.Try.underlying3 rfl rfl) ?_; clear hk; intro a w hk
              refine FW.lfunG (y := .lit (.bool (decide (v1.Fall.At < 1000)))) hk rfl rfl rfl rfl rfl rfl rfl rfl (fun hc => (FW.f_pure (FW.p_lss hk.kn hc rfl rfl))) ?_; clear hk; intro a w hk
              refine FW.lfun (y := .lit (.bool ((decide (0 ≤ v1.Fall.At)) && (decide (v1.Fall.At < 1000))))) hk rfl rfl rfl rfl ((FW.f_pure (FW.p_pick_and hk.kn (FW.holds_nil _) rfl rfl))) ?_; clear hk; intro a w hk
              refine FW.lend (hK21 _ _ ?_); clear hK21 K'
              refine FW.wcondF (b := ((decide (0 ≤ v1.Fall.At)) && (decide (v1.Fall.At < 1000)))) hk h rfl (fun h hb => ?_) (fun h hb => ?_)
              · skip
                refine FW.wreg1 ?_
                refine FW.lfun (y := .lit (.pointer (some ⟨bx1, 1, none⟩))) hk rfl rfl rfl rfl (FW.f_fieldPtr hk (FW.holds_nil _) rfl Go.Proofs.Try.underlying68 rfl (by kernel_rfl) rfl) ?_; clear hk; intro a w hk
                refine FW.lfun (y := .lit (.pointer (some ⟨bx1, 3, none⟩))) hk rfl rfl rfl rfl (FW.f_fieldPtr hk (FW.holds_nil _) rfl Go.Proofs.Try.underlying65 rfl (by kernel_rfl) rfl) ?_; clear hk; intro a w hk
                refine FW.lfun (y := .lit (.int .i64 v0.m.Steps)) hk rfl rfl rfl rfl (FW.f_loadBlk1 hk (FW.holds_nil _) (j := 3) rfl rfl Go.Proofs.Try.underlying3 rfl rfl) ?_; clear hk; intro a w hk
                refine FW.lfun (y := .lit (.pointer (some ⟨bx4, 0, none⟩))) hk rfl rfl rfl rfl (FW.f_fieldPtr hk (FW.holds_nil _) rfl Go.Proofs.Try.underlying45 rfl (by kernel_rfl) rfl) ?_; clear hk; intro a w hk
                refine FW.lfun (y := .lit (.int .i64 v1.Fall.At)) hk rfl rfl rfl rfl (FW.f_loadBlk1 hk (FW.holds_nil _) (j := 0) rfl rfl Go.Proofs.Try.underlying3 rfl rfl) ?_; clear hk; intro a w hk
                refine FW.lfun (y := .lit (.int .i64 (IntKind.wrap .i64 (v0.m.Steps + v1.Fall.At)))) hk rfl rfl rfl rfl ((FW.f_pure (FW.p_add hk.kn (FW.holds_nil _) rfl rfl))) ?_; clear hk; intro a w hk
                refine FW.lfun (y := .lit (.pointer (some ⟨bx4, 0, none⟩))) hk rfl rfl rfl rfl (FW.f_fieldPtr hk (FW.holds_nil _) rfl Go.Proofs.Try.underlying45 rfl (by kernel_rfl) rfl) ?_; clear hk; intro a w hk
                refine FW.l_store (I' := [FW.blk bx4 45 ((ApiFall.cells (⟨(IntKind.wrap .i64 (v0.m.Steps + v1.Fall.At)), v1.Fall.Keep, v1.Fall.Torn⟩ : ApiFall))), FW.blk bx3 68 (([.lit (.pointer none)] : List FW.AV) ++ (Offshootref03Dev.cells (⟨[], [], 0, [], false⟩ : Offshootref03Dev))), FW.blk bx2 51 ((Offshootlaw03Act.cells v1)), FW.blk bx1 68 (([.lit (.pointer (some ⟨b0_0, 0, none⟩))] : List FW.AV) ++ (Offshootref03Dev.cells v0.m)), FW.blk b0_0 109 ([.lit (.slice xd0_0_0 (List.length v0_0.sure) xc0_0_0), .lit (.map (some xr0_0_1)), .lit (.int .i64 v0_0.steps), .lit (.slice xd0_0_3 (List.length v0_0.falls) xc0_0_3), .lit (.bool v0_0.off)]), FW.orow xd0_0_0 xc0_0_0 9 1 c_str v0_0.sure, FW.mapI (.int .i64) (Value.int .i64) FW.evS xr0_0_1 v0_0.cache, FW.orow xd0_0_3 xc0_0_3 45 3 ApiFall.cells v0_0.falls]) (cs' := (ApiFall.cells (⟨(IntKind.wrap .i64 (v0.m.Steps + v1.Fall.At)), v1.Fall.Keep, v1.Fall.Torn⟩ : ApiFall))) (j := 0) hk rfl rfl rfl rfl rfl (by kernel_rfl) rfl rfl ?_; clear hk; intro w hk
                refine wpList_nil ?_
                (repeat first | refine FW.then_normal ?_ | refine FW.block_normal ?_); exact hK18 _ _ ⟨(⟨(IntKind.wrap .i64 (v0.m.Steps + v1.Fall.At)), v1.Fall.Keep, v1.Fall.Torn⟩ : ApiFall), v0.m, 0, 0, (hk.drop 2).sub ⟨rfl, rfl, rfl, rfl, rfl, trivial⟩, h⟩
              · skip
                refine wp_skip ?_
                (repeat first | refine FW.then_normal ?_ | refine FW.block_normal ?_); exact hK18 _ _ ⟨v1.Fall, v0.m, 0, 0, (hk.drop 2).sub ⟨rfl, rfl, rfl, rfl, rfl, trivial⟩, h⟩
          · skip
            refine FW.wreg ?_; intro K' hK23
            refine FW.lfun (y := .lit (.pointer (some ⟨bx2, 2, none⟩))) hk rfl rfl rfl rfl (FW.f_fieldPtr hk (FW.holds_nil _) rfl Go.Proofs.Try.underlying51 rfl (by kernel_rfl) rfl) ?_; clear hk; intro a w hk
            refine FW.lfun (y := .lit (.int .u8 v1.C)) hk rfl rfl rfl rfl (FW.f_loadBlk1 hk (FW.holds_nil _) (j := 1) rfl rfl Go.Proofs.Try.underlying5 rfl rfl) ?_; clear hk; intro a w hk
            obtain ⟨t7, hr_t7, h⟩ := FW.bnd h
            refine FW.lfun (y := .lit (.string (FW.B t7))) hk rfl rfl rfl rfl (FW.f_call hk (FW.holds_nil _) rfl rfl Go.Proofs.Try.func30 rfl (by kernel_rfl) (offshootlaw03_sector.ok K v1.C _ hr_t7)) ?_; clear hk; intro a w hk
            refine FW.lfun (y := .lit (.string (FW.B t7))) hk rfl rfl rfl rfl (FW.f_assign hk (FW.holds_nil _) rfl) ?_; clear hk; intro a w hk
            refine FW.lend (hK23 _ _ ?_); clear hK23 K'
            refine FW.wseqJ (fun a w => ∃ (y6 : Offshootlaw03Act) (y5_1 : Offshootref03Dev) (v10 : List UInt8), FW.S M w0 a w 120 [FW.blk bx3 68 (([.lit (.pointer none)] : List FW.AV) ++ (Offshootref03Dev.cells (⟨[], [], 0, [], false⟩ : Offshootref03Dev))), FW.blk bx2 51 ((Offshootlaw03Act.cells y6)), FW.blk bx1 68 (([.lit (.pointer (some ⟨b0_0, 0, none⟩))] : List FW.AV) ++ (Offshootref03Dev.cells y5_1)), FW.blk b0_0 109 ([.lit (.slice xd0_0_0 (List.length v0_0.sure) xc0_0_0), .lit (.map (some xr0_0_1)), .lit (.int .i64 v0_0.steps), .lit (.slice xd0_0_3 (List.length v0_0.falls) xc0_0_3), .lit (.bool v0_0.off)]), FW.orow xd0_0_0 xc0_0_0 9 1 c_str v0_0.sure, FW.mapI (.int .i64) (Value.int .i64) FW.evS xr0_0_1 v0_0.cache, FW.orow xd0_0_3 xc0_0_3 45 3 ApiFall.cells v0_0.falls] [(2, [], .lit (.pointer (some ⟨bx1, 0, none⟩))), (3, [], .lit (.pointer (some ⟨bx2, 0, none⟩))), (4, [], .lit (.pointer (some ⟨bx3, 0, none⟩))), (10, [], .lit (.string (FW.B v10)))] ∧ offshootlaw03_both_do.j3 K v0_0 y6 y5_1 v10 = some r) ?_ ?_
            · clear hk h
              rintro a w ⟨y6, y5_1, v10, hk, h⟩
              unfold offshootlaw03_both_do.j3 at h
              refine FW.wreg ?_; intro K' hK25
              refine FW.lfun (y := .lit (.pointer (some ⟨bx1, 0, none⟩))) hk rfl rfl rfl rfl (FW.f_fieldPtr hk (FW.holds_nil _) rfl Go.Proofs.Try.underlying68 rfl (by kernel_rfl) rfl) ?_; clear hk; intro a w hk
              refine FW.lfun (y := .lit (.pointer (some ⟨b0_0, 0, none⟩))) hk rfl rfl rfl rfl (FW.f_loadBlk1 hk (FW.holds_nil _) (j := 2) rfl rfl Go.Proofs.Try.underlying46 rfl rfl) ?_; clear hk; intro a w hk
              refine FW.lfun (y := .lit (.pointer (some ⟨bx2, 1, none⟩))) hk rfl rfl rfl rfl (FW.f_fieldPtr hk (FW.holds_nil _) rfl Go.Proofs.Try.underlying51 rfl (by kernel_rfl) rfl) ?_; clear hk; intro a w hk
              refine FW.lfun (y := .lit (.int .i64 y6.At)) hk rfl rfl rfl rfl (FW.f_loadBlk1 hk (FW.holds_nil _) (j := 1) rfl rfl Go.Proofs.Try.underlying3 rfl rfl) ?_; clear hk; intro a w hk
              refine FW.lfun (y := .lit (.string (FW.B v10))) hk rfl rfl rfl rfl (FW.f_move hk (FW.holds_nil _) rfl) ?_; clear hk; intro a w hk
              obtain ⟨t8, hr_t8, h⟩ := FW.bnd h
              refine FW.l_callH (I1 := (ODevDev.items b0_0 xd0_0_0 xc0_0_0 xr0_0_1 xd0_0_3 xc0_0_3 v0_0)) (I2 := [FW.blk bx3 68 (([.lit (.pointer none)] : List FW.AV) ++ (Offshootref03Dev.cells (⟨[], [], 0, [], false⟩ : Offshootref03Dev))), FW.blk bx2 51 ((Offshootlaw03Act.cells y6)), FW.blk bx1 68 (([.lit (.pointer (some ⟨b0_0, 0, none⟩))] : List FW.AV) ++ (Offshootref03Dev.cells y5_1))]) (js := [6, 6, 6, 6]) hk rfl rfl rfl rfl rfl Go.Proofs.Try.func29 rfl (by kernel_rfl) (dev_Dev_Write.ok K v0_0 y6.At v10 _ hr_t8 b0_0 xd0_0_0 xc0_0_0 xr0_0_1 xd0_0_3 xc0_0_3) ?_; clear hk
              rintro _ _ ⟨zd9, zc9, zr5, zd10, zc10, rfl, rfl⟩ a w hk
              refine FW.lfun (y := .lit (.int .i64 t8.1)) hk rfl rfl rfl rfl (FW.f_assign hk (FW.holds_nil _) rfl) ?_; clear hk; intro a w hk
              refine FW.lend (hK25 _ _ ?_); clear hK25 K'
              refine FW.wreg1 ?_
              refine FW.lfun (y := .lit (.pointer (some ⟨bx1, 1, none⟩))) hk rfl rfl rfl rfl (FW.f_fieldPtr hk (FW.holds_nil _) rfl Go.Proofs.Try.underlying68 rfl (by kernel_rfl) rfl) ?_; clear hk; intro a w hk
              refine FW.lfun (y := .agg ((Offshootref03Dev.cells y5_1))) hk rfl rfl rfl rfl (FW.f_loadBlk hk (FW.holds_nil _) (j := 6) rfl rfl Go.Proofs.Try.underlying65 rfl rfl rfl rfl) ?_; clear hk; intro a w hk
              refine FW.lfun (y := .lit (.pointer (some ⟨bx2, 1, none⟩))) hk rfl rfl rfl rfl (FW.f_fieldPtr hk (FW.holds_nil _) rfl Go.Proofs.Try.underlying51 rfl (by kernel_rfl) rfl) ?_; clear hk; intro a w hk
              refine FW.lfun (y := .lit (.int .i64 y6.At)) hk rfl rfl rfl rfl (FW.f_loadBlk1 hk (FW.holds_nil _) (j := 5) rfl rfl Go.Proofs.Try.underlying3 rfl rfl) ?_; clear hk; intro a w hk
              refine FW.lfun (y := .lit (.string (FW.B v10))) hk rfl rfl rfl rfl (FW.f_move hk (FW.holds_nil _) rfl) ?_; clear hk; intro a w hk
              obtain ⟨t9, hr_t9, h⟩ := FW.bnd h
              refine FW.lfun (y := .tup [.agg ((Offshootref03Dev.cells t9.1)), .lit (.int .i64 t9.2)]) hk rfl rfl rfl rfl (FW.f_call hk (FW.holds_nil _) rfl rfl Go.Proofs.Try.func68 rfl (by kernel_rfl) (offshootref03_Dev_Write.ok K y5_1 y6.At v10 _ hr_t9)) ?_; clear hk; intro a w hk
              refine FW.lfun (y := .tup [.agg ((Offshootref03Dev.cells t9.1)), .lit (.int .i64 t9.2)]) hk rfl rfl rfl rfl (FW.f_move hk (FW.holds_nil _) rfl) ?_; clear hk; intro a w hk
              refine FW.lfun (y := .agg ((Offshootref03Dev.cells t9.1))) hk rfl rfl rfl rfl (FW.f_extract hk (FW.holds_nil _) rfl rfl) ?_; clear hk; intro a w hk
              refine FW.lfun (y := .lit (.int .i64 t9.2)) hk rfl rfl rfl rfl (FW.f_extract hk (FW.holds_nil _) rfl rfl) ?_; clear hk; intro a w hk
              refine FW.lfun (y := .lit (.pointer (some ⟨bx1, 1, none⟩))) hk rfl rfl rfl rfl (FW.f_fieldPtr hk (FW.holds_nil _) rfl Go.Proofs.Try.underlying68 rfl (by kernel_rfl) rfl) ?_; clear hk; intro a w hk
              refine FW.l_store (I' := [FW.blk b0_0 109 ([.lit (.slice zd9 (List.length t8.2.sure) zc9), .lit (.map (some zr5)), .lit (.int .i64 t8.2.steps), .lit (.slice zd10 (List.length t8.2.falls) zc10), .lit (.bool t8.2.off)]), FW.orow zd9 zc9 9 1 c_str t8.2.sure, FW.mapI (.int .i64) (Value.int .i64) FW.evS zr5 t8.2.cache, FW.orow zd10 zc10 45 3 ApiFall.cells t8.2.falls, FW.blk bx3 68 (([.lit (.pointer none)] : List FW.AV) ++ (Offshootref03Dev.cells (⟨[], [], 0, [], false⟩ : Offshootref03Dev))), FW.blk bx2 51 ((Offshootlaw03Act.cells y6)), FW.blk bx1 68 (([.lit (.pointer (some ⟨b0_0, 0, none⟩))] : List FW.AV) ++ (Offshootref03Dev.cells t9.1))]) (cs' := ([.lit (.pointer (some ⟨b0_0, 0, none⟩))] : List FW.AV) ++ (Offshootref03Dev.cells t9.1)) (j := 6) hk rfl rfl rfl rfl rfl (by kernel_rfl) rfl rfl ?_; clear hk; intro w hk
              refine FW.lfun (y := .lit (.int .i64 t9.2)) hk rfl rfl rfl rfl (FW.f_assign hk (FW.holds_nil _) rfl) ?_; clear hk; intro a w hk
              refine wpList_nil ?_
              (repeat first | refine FW.then_normal ?_ | refine FW.block_normal ?_); exact hK3 _ _ ⟨t8.2.steps, t8.2.off, t8.2.sure, t8.2.cache, t8.2.falls, t9.1, t8.1, t9.2, zd9, zc9, zr5, zd10, zc10, (hk.drop 5).sub ⟨rfl, rfl, rfl, rfl, trivial⟩, h⟩
            · intro K' hK24
              refine FW.wreg ?_; intro K' hK27
              refine FW.lfun (y := .lit (.pointer (some ⟨bx2, 3, none⟩))) hk rfl rfl rfl rfl (FW.f_fieldPtr hk (FW.holds_nil _) rfl Go.Proofs.Try.underlying51 rfl (by kernel_rfl) rfl) ?_; clear hk; intro a w hk
              refine FW.lfun (y := .lit (.bool v1.Odd)) hk rfl rfl rfl rfl (FW.f_loadBlk1 hk (FW.holds_nil _) (j := 1) rfl rfl Go.Proofs.Try.underlying4 rfl rfl) ?_; clear hk; intro a w hk
              refine FW.lend (hK27 _ _ ?_); clear hK27 K'
              refine FW.wcondF (b := v1.Odd) hk h rfl (fun h hb => ?_) (fun h hb => ?_)
              · skip
                refine FW.wreg1 ?_
                refine FW.lfun (y := .lit (.string (FW.B t7))) hk rfl rfl rfl rfl (FW.f_move hk (FW.holds_nil _) rfl) ?_; clear hk; intro a w hk
                obtain ⟨hc1, h⟩ := FW.chk h
                refine FW.lfun (y := .lit (.string (FW.B (List.drop (Int.toNat 1) t7)))) hk rfl rfl rfl rfl ((FW.f_pure (FW.p_slice_lo Go.Proofs.Try.underlying9 hk.kn (FW.holds_nil _) rfl rfl hc1))) ?_; clear hk; intro a w hk
                refine FW.lfun (y := .lit (.string (FW.B (List.drop (Int.toNat 1) t7)))) hk rfl rfl rfl rfl (FW.f_assign hk (FW.holds_nil _) rfl) ?_; clear hk; intro a w hk
                refine wpList_nil ?_
                (repeat first | refine FW.then_normal ?_ | refine FW.block_normal ?_); exact hK24 _ _ ⟨v1, v0.m, (List.drop (Int.toNat 1) t7), hk.sub ⟨rfl, rfl, rfl, rfl, trivial⟩, h⟩
              · skip
                refine wp_skip ?_
                (repeat first | refine FW.then_normal ?_ | refine FW.block_normal ?_); exact hK24 _ _ ⟨v1, v0.m, t7, hk.sub ⟨rfl, rfl, rfl, rfl, trivial⟩, h⟩
end Go.Proofs.Ytimaibcaehagjaa

/- Written by a program of this session (gen.py): the contracts of functions of the program. -/
import Derived.KernelRfl
import Derived.Test.YtimaibcaehagjaaProg
import Derived.Test.YtimaibcaehagjaaAvFun
import Derived.Test.YtimaibcaehagjaaAvMan
import Derived.Test.YtimaibcaehagjaaAvMore
import Derived.Test.YtimaibcaehagjaaAvDraw2
import Derived.Test.YtimaibcaehagjaaAvRow
import Derived.Test.YtimaibcaehagjaaHn
import Derived.Test.YtimaibcaehagjaaHg
import Derived.Test.YtimaibcaehagjaaHar
import Derived.Test.YtimaibcaehagjaaHc
import Derived.Test.YtimaibcaehagjaaFx
import Derived.Test.YtimaibcaehagjaaDxP1
import Derived.Test.YtimaibcaehagjaaFy2
import Derived.Test.YtimaibcaehagjaaDaP0
import Derived.Test.YtimaibcaehagjaaHl
import Derived.Test.YtimaibcaehagjaaHnl
import Derived.Test.YtimaibcaehagjaaFz
import Derived.Test.YtimaibcaehagjaaDnD
import Derived.Test.YtimaibcaehagjaaDnP0
namespace Go.Proofs.Ytimaibcaehagjaa
set_option linter.unusedVariables false
set_option maxRecDepth 20000
set_option maxHeartbeats 10000000
theorem dev_Dev_Copy_nil_opt.ok   (r : Option ODevDev) (h : dev_Dev_Copy_nil_opt.f = some r) :
    FW.OkH Go.Proofs.Try.prog 40 [.lit (.pointer none)] [] (fun y I => ∃ (bn0 : Nat) (zxdn0_0 : Option Addr) (zxcn0_0 : Nat) (zxrn0_1 : Nat) (zxdn0_3 : Option Addr) (zxcn0_3 : Nat), y = FW.ptrO r bn0 ∧ I = (FW.optI r fun x => ODevDev.items bn0 zxdn0_0 zxcn0_0 zxrn0_1 zxdn0_3 zxcn0_3 x)) := by
  refine FW.enterH (xs := [.lit (.pointer none)]) Go.Proofs.Try.func40 rfl Go.Proofs.Try.ntmps40 rfl ?_
  intro M w0 a hk
  unfold dev_Dev_Copy_nil_opt.f at h
  refine FW.wreg ?_; intro K' hK1
  refine FW.lfun (y := .lit (.pointer none)) hk rfl rfl rfl rfl (FW.f_assign hk (FW.holds_nil _) rfl) ?_; clear hk; intro a w hk
  refine FW.lend (hK1 _ _ ?_); clear hK1 K'
  refine FW.wseq ?_; intro K' hK2
  refine FW.wreg ?_; intro K' hK3
  refine FW.lfun (y := .lit (.pointer none)) hk rfl rfl rfl rfl (FW.f_move hk (FW.holds_nil _) rfl) ?_; clear hk; intro a w hk
  refine FW.lfun (y := .lit (.bool true)) hk rfl rfl rfl rfl ((FW.f_pure (FW.p_ptrEq Go.Proofs.Try.underlying46 hk.kn (FW.holds_nil _) rfl rfl rfl))) ?_; clear hk; intro a w hk
  refine FW.lend (hK3 _ _ ?_); clear hK3 K'
  refine FW.wcondT hk rfl ?_
  refine FW.wreg ?_; intro K' hK4
  refine FW.lfun (y := .lit (.pointer none)) hk rfl rfl rfl rfl (FW.f_assign hk (FW.holds_nil _) rfl) ?_; clear hk; intro a w hk
  refine FW.lend (hK4 _ _ ?_); clear hK4 K'
  refine wp_ret ?_
  (repeat first | refine FW.then_ret ?_ | refine FW.block_ret ?_)
  obtain rfl := Option.some.inj h
  replace hk := FW.S.keep (I1 := []) (I2 := []) (js := []) hk rfl
  exact FW.fretH1 hk rfl (FW.rtmp hk rfl) ⟨0, none, 0, 0, none, 0, rfl, rfl⟩

theorem offshootlaw03_DevNone.ok (K : Nat) (v0 : Int) (v1 : Offshootlaw03Act) (r : Bool) (h : offshootlaw03_DevNone.f K v0 v1 = some r) :
    FW.Ok Go.Proofs.Try.prog 9 [.lit (.int .i64 v0), .agg (Offshootlaw03Act.cells v1)] (.lit (.bool r)) := by
  refine FW.enter (xs := [.lit (.int .i64 v0), .agg (Offshootlaw03Act.cells v1)]) Go.Proofs.Try.func9 rfl Go.Proofs.Try.ntmps9 rfl ?_
  intro M w0 a hk
  unfold offshootlaw03_DevNone.f at h
  refine FW.wreg ?_; intro K' hK1
  refine FW.l_box (cs := (Offshootlaw03Act.cells v1)) hk rfl rfl rfl rfl rfl ?_; clear hk; intro bx1 a w hk
  refine FW.lfun (y := .lit (.bool false)) hk rfl rfl rfl rfl (FW.f_assign hk (FW.holds_nil _) rfl) ?_; clear hk; intro a w hk
  refine FW.lend (hK1 _ _ ?_); clear hK1 K'
  refine FW.wreg ?_; intro K' hK2
  refine FW.lfun (y := .lit (.pointer none)) hk rfl rfl rfl rfl (FW.f_assign hk (FW.holds_nil _) rfl) ?_; clear hk; intro a w hk
  refine FW.lend (hK2 _ _ ?_); clear hK2 K'
  refine FW.wreg ?_; intro K' hK3
  refine FW.lfun (y := .lit (.pointer none)) hk rfl rfl rfl rfl (FW.f_move hk (FW.holds_nil _) rfl) ?_; clear hk; intro a w hk
  refine FW.lfun (y := .lit (.pointer (some ⟨bx1, 4, none⟩))) hk rfl rfl rfl rfl (FW.f_fieldPtr hk (FW.holds_nil _) rfl Go.Proofs.Try.underlying51 rfl (by kernel_rfl) rfl) ?_; clear hk; intro a w hk
  refine FW.lfun (y := .lit (.pointer (some ⟨bx1, 5, none⟩))) hk rfl rfl rfl rfl (FW.f_fieldPtr hk (FW.holds_nil _) rfl Go.Proofs.Try.underlying45 rfl (by kernel_rfl) rfl) ?_; clear hk; intro a w hk
  refine FW.lfun (y := .lit (.int .u64 v1.Fall.Keep)) hk rfl rfl rfl rfl (FW.f_loadBlk1 hk (FW.holds_nil _) (j := 0) rfl rfl Go.Proofs.Try.underlying29 rfl rfl) ?_; clear hk; intro a w hk
  refine FW.lfun (y := .lit (.pointer (some ⟨bx1, 4, none⟩))) hk rfl rfl rfl rfl (FW.f_fieldPtr hk (FW.holds_nil _) rfl Go.Proofs.Try.underlying51 rfl (by kernel_rfl) rfl) ?_; clear hk; intro a w hk
  refine FW.lfun (y := .lit (.pointer (some ⟨bx1, 6, none⟩))) hk rfl rfl rfl rfl (FW.f_fieldPtr hk (FW.holds_nil _) rfl Go.Proofs.Try.underlying45 rfl (by kernel_rfl) rfl) ?_; clear hk; intro a w hk
  refine FW.lfun (y := .lit (.int .i64 v1.Fall.Torn)) hk rfl rfl rfl rfl (FW.f_loadBlk1 hk (FW.holds_nil _) (j := 0) rfl rfl Go.Proofs.Try.underlying3 rfl rfl) ?_; clear hk; intro a w hk
  obtain ⟨t1, hr_t1, h⟩ := FW.bnd h
  refine FW.lfun (y := .tup []) hk rfl rfl rfl rfl (FW.f_call hk (FW.holds_nil _) rfl rfl Go.Proofs.Try.func32 rfl (by kernel_rfl) (dev_Dev_Crash_nil.ok K v1.Fall.Keep v1.Fall.Torn _ hr_t1)) ?_; clear hk; intro a w hk
  refine FW.lend (hK3 _ _ ?_); clear hK3 K'
  refine FW.wreg ?_; intro K' hK4
  refine FW.lfun (y := .lit (.pointer none)) hk rfl rfl rfl rfl (FW.f_move hk (FW.holds_nil _) rfl) ?_; clear hk; intro a w hk
  refine FW.lfun (y := .lit (.pointer (some ⟨bx1, 4, none⟩))) hk rfl rfl rfl rfl (FW.f_fieldPtr hk (FW.holds_nil _) rfl Go.Proofs.Try.underlying51 rfl (by kernel_rfl) rfl) ?_; clear hk; intro a w hk
  refine FW.lfun (y := .agg ((ApiFall.cells v1.Fall))) hk rfl rfl rfl rfl (FW.f_loadBlk hk (FW.holds_nil _) (j := 0) rfl rfl Go.Proofs.Try.underlying45 rfl rfl rfl rfl) ?_; clear hk; intro a w hk
  refine FW.l_buildSlice (f := ApiFall.cells) (l := ([v1.Fall] : List ApiFall)) hk rfl rfl rfl Go.Proofs.Try.underlying74 rfl rfl rfl rfl (fun _ => rfl) rfl ?_; clear hk; intro bx2 a w hk
  replace hk := (FW.S.freezeR (I' := [FW.blk bx1 51 ((Offshootlaw03Act.cells v1))]) r_ApiFall_cells_eq hk (j := 0) rfl (t := 30) rfl rfl).squash
  obtain ⟨t2, hr_t2, h⟩ := FW.bnd h
  refine FW.lfun (y := .tup []) hk rfl rfl rfl rfl (FW.f_call hk (FW.holds_nil _) rfl rfl Go.Proofs.Try.func39 rfl (by kernel_rfl) (dev_Dev_Plan_nil.ok ([v1.Fall] : List ApiFall) _ hr_t2)) ?_; clear hk; intro a w hk
  refine FW.lend (hK4 _ _ ?_); clear hK4 K'
  refine FW.wreg ?_; intro K' hK5
  refine FW.lfun (y := .lit (.pointer none)) hk rfl rfl rfl rfl (FW.f_move hk (FW.holds_nil _) rfl) ?_; clear hk; intro a w hk
  refine FW.lfun (y := .lit (.pointer (some ⟨bx1, 1, none⟩))) hk rfl rfl rfl rfl (FW.f_fieldPtr hk (FW.holds_nil _) rfl Go.Proofs.Try.underlying51 rfl (by kernel_rfl) rfl) ?_; clear hk; intro a w hk
  refine FW.lfun (y := .lit (.int .i64 v1.At)) hk rfl rfl rfl rfl (FW.f_loadBlk1 hk (FW.holds_nil _) (j := 0) rfl rfl Go.Proofs.Try.underlying3 rfl rfl) ?_; clear hk; intro a w hk
  obtain ⟨t3, hr_t3, h⟩ := FW.bnd h
  refine FW.lfun (y := .tup [.lit (.string (FW.B t3.1)), .lit (.int .i64 t3.2)]) hk rfl rfl rfl rfl (FW.f_call hk (FW.holds_nil _) rfl rfl Go.Proofs.Try.func34 rfl (by kernel_rfl) (dev_Dev_Read_nil.ok v1.At _ hr_t3)) ?_; clear hk; intro a w hk
  refine FW.lfun (y := .tup [.lit (.string (FW.B t3.1)), .lit (.int .i64 t3.2)]) hk rfl rfl rfl rfl (FW.f_move hk (FW.holds_nil _) rfl) ?_; clear hk; intro a w hk
  refine FW.lfun (y := .lit (.string (FW.B t3.1))) hk rfl rfl rfl rfl (FW.f_extract hk (FW.holds_nil _) rfl rfl) ?_; clear hk; intro a w hk
  refine FW.lfun (y := .lit (.int .i64 t3.2)) hk rfl rfl rfl rfl (FW.f_extract hk (FW.holds_nil _) rfl rfl) ?_; clear hk; intro a w hk
  refine FW.lfun (y := .lit (.string (FW.B t3.1))) hk rfl rfl rfl rfl (FW.f_assign hk (FW.holds_nil _) rfl) ?_; clear hk; intro a w hk
  refine FW.lfun (y := .lit (.int .i64 t3.2)) hk rfl rfl rfl rfl (FW.f_assign hk (FW.holds_nil _) rfl) ?_; clear hk; intro a w hk
  refine FW.lend (hK5 _ _ ?_); clear hK5 K'
  refine FW.wreg ?_; intro K' hK6
  refine FW.lfun (y := .lit (.int .i64 v0)) hk rfl rfl rfl rfl (FW.f_move hk (FW.holds_nil _) rfl) ?_; clear hk; intro a w hk
  refine FW.lfun (y := .lit (.int .i64 (FW.andI .i64 v0 3))) hk rfl rfl rfl rfl ((FW.f_pure (FW.p_and hk.kn (FW.holds_nil _) rfl rfl))) ?_; clear hk; intro a w hk
  refine FW.lfun (y := .lit (.int .i64 (IntKind.wrap .i64 (65535 + (FW.andI .i64 v0 3))))) hk rfl rfl rfl rfl ((FW.f_pure (FW.p_add hk.kn (FW.holds_nil _) rfl rfl))) ?_; clear hk; intro a w hk
  refine FW.lfun (y := .lit (.int .i64 (IntKind.wrap .i64 (65535 + (FW.andI .i64 v0 3))))) hk rfl rfl rfl rfl (FW.f_assign hk (FW.holds_nil _) rfl) ?_; clear hk; intro a w hk
  refine FW.lend (hK6 _ _ ?_); clear hK6 K'
  refine FW.wreg ?_; intro K' hK7
  refine FW.lfun (y := .lit (.int .i64 (IntKind.wrap .i64 (65535 + (FW.andI .i64 v0 3))))) hk rfl rfl rfl rfl (FW.f_move hk (FW.holds_nil _) rfl) ?_; clear hk; intro a w hk
  obtain ⟨t4, hr_t4, h⟩ := FW.bnd h
  refine FW.l_callH (I1 := ([] : List FW.It)) (I2 := [FW.blk bx1 51 ((Offshootlaw03Act.cells v1))]) (js := []) hk rfl rfl rfl rfl rfl Go.Proofs.Try.func27 rfl (by kernel_rfl) (dev_New_opt.ok K (IntKind.wrap .i64 (65535 + (FW.andI .i64 v0 3))) _ hr_t4 ) ?_; clear hk
  rintro _ _ ⟨bx3, xdNt4_0_0, xcNt4_0_0, xrNt4_0_1, xdNt4_0_3, xcNt4_0_3, rfl, rfl⟩ a w hk
  replace hk := FW.S.dropL hk
  refine FW.lfun (y := .tup [FW.ptrO t4.1 bx3, .lit (.int .i64 t4.2)]) hk rfl rfl rfl rfl (FW.f_move hk (FW.holds_nil _) rfl) ?_; clear hk; intro a w hk
  refine FW.lfun (y := FW.ptrO t4.1 bx3) hk rfl rfl rfl rfl (FW.f_extract hk (FW.holds_nil _) rfl rfl) ?_; clear hk; intro a w hk
  refine FW.lfun (y := .lit (.int .i64 t4.2)) hk rfl rfl rfl rfl (FW.f_extract hk (FW.holds_nil _) rfl rfl) ?_; clear hk; intro a w hk
  refine FW.lfun (y := FW.ptrO t4.1 bx3) hk rfl rfl rfl rfl (FW.f_assign hk (FW.holds_nil _) rfl) ?_; clear hk; intro a w hk
  refine FW.lfun (y := .lit (.int .i64 t4.2)) hk rfl rfl rfl rfl (FW.f_assign hk (FW.holds_nil _) rfl) ?_; clear hk; intro a w hk
  refine FW.lend (hK7 _ _ ?_); clear hK7 K'
  refine FW.wreg ?_; intro K' hK8
  refine FW.lfun (y := .lit (.int .i64 v0)) hk rfl rfl rfl rfl (FW.f_move hk (FW.holds_nil _) rfl) ?_; clear hk; intro a w hk
  refine FW.lfun (y := .lit (.int .i64 (FW.andI .i64 v0 7))) hk rfl rfl rfl rfl ((FW.f_pure (FW.p_and hk.kn (FW.holds_nil _) rfl rfl))) ?_; clear hk; intro a w hk
  refine FW.lfun (y := .lit (.int .i64 (IntKind.wrap .i64 ((-1) - (FW.andI .i64 v0 7))))) hk rfl rfl rfl rfl ((FW.f_pure (FW.p_sub hk.kn (FW.holds_nil _) rfl rfl))) ?_; clear hk; intro a w hk
  obtain ⟨t5, hr_t5, h⟩ := FW.bnd h
  refine FW.l_callH (I1 := ([] : List FW.It)) (I2 := [FW.blk bx1 51 ((Offshootlaw03Act.cells v1))]) (js := []) hk rfl rfl rfl rfl rfl Go.Proofs.Try.func27 rfl (by kernel_rfl) (dev_New_opt.ok K (IntKind.wrap .i64 ((-1) - (FW.andI .i64 v0 7))) _ hr_t5 ) ?_; clear hk
  rintro _ _ ⟨bx4, xdNt5_0_0, xcNt5_0_0, xrNt5_0_1, xdNt5_0_3, xcNt5_0_3, rfl, rfl⟩ a w hk
  replace hk := FW.S.dropL hk
  refine FW.lfun (y := .tup [FW.ptrO t5.1 bx4, .lit (.int .i64 t5.2)]) hk rfl rfl rfl rfl (FW.f_move hk (FW.holds_nil _) rfl) ?_; clear hk; intro a w hk
  refine FW.lfun (y := FW.ptrO t5.1 bx4) hk rfl rfl rfl rfl (FW.f_extract hk (FW.holds_nil _) rfl rfl) ?_; clear hk; intro a w hk
  refine FW.lfun (y := .lit (.int .i64 t5.2)) hk rfl rfl rfl rfl (FW.f_extract hk (FW.holds_nil _) rfl rfl) ?_; clear hk; intro a w hk
  refine FW.lfun (y := FW.ptrO t5.1 bx4) hk rfl rfl rfl rfl (FW.f_assign hk (FW.holds_nil _) rfl) ?_; clear hk; intro a w hk
  refine FW.lfun (y := .lit (.int .i64 t5.2)) hk rfl rfl rfl rfl (FW.f_assign hk (FW.holds_nil _) rfl) ?_; clear hk; intro a w hk
  refine FW.lend (hK8 _ _ ?_); clear hK8 K'
  refine FW.wreg ?_; intro K' hK9
  obtain ⟨t6, hr_t6, h⟩ := FW.bnd h
  refine FW.l_callH (I1 := ([] : List FW.It)) (I2 := [FW.blk bx1 51 ((Offshootlaw03Act.cells v1))]) (js := []) hk rfl rfl rfl rfl rfl Go.Proofs.Try.func27 rfl (by kernel_rfl) (dev_New.ok K 1 _ hr_t6 ) ?_; clear hk
  rintro _ _ ⟨bx5, xdNt6_0_0, xcNt6_0_0, xrNt6_0_1, xdNt6_0_3, xcNt6_0_3, rfl, rfl⟩ a w hk
  refine FW.lfun (y := .tup [.lit (.pointer (some ⟨bx5, 0, none⟩)), .lit (.int .i64 t6.2)]) hk rfl rfl rfl rfl (FW.f_move hk (FW.holds_nil _) rfl) ?_; clear hk; intro a w hk
  refine FW.lfun (y := .lit (.pointer (some ⟨bx5, 0, none⟩))) hk rfl rfl rfl rfl (FW.f_extract hk (FW.holds_nil _) rfl rfl) ?_; clear hk; intro a w hk
  refine FW.lfun (y := .lit (.int .i64 t6.2)) hk rfl rfl rfl rfl (FW.f_extract hk (FW.holds_nil _) rfl rfl) ?_; clear hk; intro a w hk
  refine FW.lfun (y := .lit (.pointer (some ⟨bx5, 0, none⟩))) hk rfl rfl rfl rfl (FW.f_assign hk (FW.holds_nil _) rfl) ?_; clear hk; intro a w hk
  refine FW.lfun (y := .lit (.int .i64 t6.2)) hk rfl rfl rfl rfl (FW.f_assign hk (FW.holds_nil _) rfl) ?_; clear hk; intro a w hk
  refine FW.lend (hK9 _ _ ?_); clear hK9 K'
  refine FW.wreg ?_; intro K' hK10
  refine FW.lfun (y := .lit (.pointer (some ⟨bx5, 0, none⟩))) hk rfl rfl rfl rfl (FW.f_move hk (FW.holds_nil _) rfl) ?_; clear hk; intro a w hk
  obtain ⟨t7, hr_t7, h⟩ := FW.bnd h
  refine FW.l_callH (I1 := (ODevDev.items bx5 xdNt6_0_0 xcNt6_0_0 xrNt6_0_1 xdNt6_0_3 xcNt6_0_3 t6.1)) (I2 := [FW.blk bx1 51 ((Offshootlaw03Act.cells v1))]) (js := [3, 3, 3, 3]) hk rfl rfl rfl rfl rfl Go.Proofs.Try.func40 rfl (by kernel_rfl) (dev_Dev_Copy.ok t6.1 _ hr_t7 bx5 xdNt6_0_0 xcNt6_0_0 xrNt6_0_1 xdNt6_0_3 xcNt6_0_3) ?_; clear hk
  rintro _ _ ⟨bx6, xdNt7_0_0, xcNt7_0_0, xrNt7_0_1, xdNt7_0_3, xcNt7_0_3, zd1, zc1, zr1, zd2, zc2, rfl, rfl⟩ a w hk
  refine FW.lfun (y := .lit (.pointer (some ⟨bx6, 0, none⟩))) hk rfl rfl rfl rfl (FW.f_assign hk (FW.holds_nil _) rfl) ?_; clear hk; intro a w hk
  refine FW.lend (hK10 _ _ ?_); clear hK10 K'
  refine FW.wreg ?_; intro K' hK11
  refine FW.lfun (y := .lit (.pointer (some ⟨bx6, 0, none⟩))) hk rfl rfl rfl rfl (FW.f_move hk (FW.holds_nil _) rfl) ?_; clear hk; intro a w hk
  obtain ⟨t8, hr_t8, h⟩ := FW.bnd h
  refine FW.lfun (y := .lit (.string (FW.B t8))) hk rfl rfl rfl rfl (FW.f_call hk (FW.holds_nil _) rfl rfl Go.Proofs.Try.func30 rfl (by kernel_rfl) (offshootlaw03_sector.ok K 122 _ hr_t8)) ?_; clear hk; intro a w hk
  obtain ⟨t9, hr_t9, h⟩ := FW.bnd h
  refine FW.l_callH (I1 := (ODevDev.items bx6 xdNt7_0_0 xcNt7_0_0 xrNt7_0_1 xdNt7_0_3 xcNt7_0_3 t7.1)) (I2 := [FW.blk bx5 109 ([.lit (.slice zd1 (List.length t7.2.sure) zc1), .lit (.map (some zr1)), .lit (.int .i64 t7.2.steps), .lit (.slice zd2 (List.length t7.2.falls) zc2), .lit (.bool t7.2.off)]), FW.orow zd1 zc1 9 1 c_str t7.2.sure, FW.mapI (.int .i64) (Value.int .i64) FW.evS zr1 t7.2.cache, FW.orow zd2 zc2 45 3 ApiFall.cells t7.2.falls, FW.blk bx1 51 ((Offshootlaw03Act.cells v1))]) (js := [3, 3, 3, 3]) hk rfl rfl rfl rfl rfl Go.Proofs.Try.func29 rfl (by kernel_rfl) (dev_Dev_Write.ok K t7.1 0 t8 _ hr_t9 bx6 xdNt7_0_0 xcNt7_0_0 xrNt7_0_1 xdNt7_0_3 xcNt7_0_3) ?_; clear hk
  rintro _ _ ⟨zd3, zc3, zr2, zd4, zc4, rfl, rfl⟩ a w hk
  refine FW.lfun (y := .lit (.int .i64 t9.1)) hk rfl rfl rfl rfl (FW.f_assign hk (FW.holds_nil _) rfl) ?_; clear hk; intro a w hk
  refine FW.lend (hK11 _ _ ?_); clear hK11 K'
  refine FW.wreg ?_; intro K' hK12
  refine FW.lfun (y := .lit (.pointer (some ⟨bx5, 0, none⟩))) hk rfl rfl rfl rfl (FW.f_move hk (FW.holds_nil _) rfl) ?_; clear hk; intro a w hk
  obtain ⟨t10, hr_t10, h⟩ := FW.bnd h
  refine FW.l_callH (I1 := (ODevDev.items bx5 zd1 zc1 zr1 zd2 zc2 t7.2)) (I2 := [FW.blk bx6 109 ([.lit (.slice zd3 (List.length t9.2.sure) zc3), .lit (.map (some zr2)), .lit (.int .i64 t9.2.steps), .lit (.slice zd4 (List.length t9.2.falls) zc4), .lit (.bool t9.2.off)]), FW.orow zd3 zc3 9 1 c_str t9.2.sure, FW.mapI (.int .i64) (Value.int .i64) FW.evS zr2 t9.2.cache, FW.orow zd4 zc4 45 3 ApiFall.cells t9.2.falls, FW.blk bx1 51 ((Offshootlaw03Act.cells v1))]) (js := [7, 7, 7, 7]) hk rfl rfl rfl rfl rfl Go.Proofs.Try.func34 rfl (by kernel_rfl) (dev_Dev_Read.ok t7.2 0 _ hr_t10 bx5 zd1 zc1 zr1 zd2 zc2) ?_; clear hk
  rintro _ _ ⟨rfl, rfl⟩ a w hk
  refine FW.lfun (y := .tup [.lit (.string (FW.B t10.1)), .lit (.int .i64 t10.2)]) hk rfl rfl rfl rfl (FW.f_move hk (FW.holds_nil _) rfl) ?_; clear hk; intro a w hk
  refine FW.lfun (y := .lit (.string (FW.B t10.1))) hk rfl rfl rfl rfl (FW.f_extract hk (FW.holds_nil _) rfl rfl) ?_; clear hk; intro a w hk
  refine FW.lfun (y := .lit (.int .i64 t10.2)) hk rfl rfl rfl rfl (FW.f_extract hk (FW.holds_nil _) rfl rfl) ?_; clear hk; intro a w hk
  refine FW.lfun (y := .lit (.string (FW.B t10.1))) hk rfl rfl rfl rfl (FW.f_assign hk (FW.holds_nil _) rfl) ?_; clear hk; intro a w hk
  refine FW.lfun (y := .lit (.int .i64 t10.2)) hk rfl rfl rfl rfl (FW.f_assign hk (FW.holds_nil _) rfl) ?_; clear hk; intro a w hk
  refine FW.lend (hK12 _ _ ?_); clear hK12 K'
  obtain ⟨t11, hr_t11, h⟩ := FW.bnd h
  obtain ⟨t12, hr_t12, h⟩ := FW.bndG h
  obtain ⟨t13, hr_t13, h⟩ := FW.bndG h
  obtain ⟨t14, hr_t14, h⟩ := FW.bndG h
  obtain ⟨t15, hr_t15, h⟩ := FW.bndG h
  obtain ⟨t16, hr_t16, h⟩ := FW.bndG h
  obtain ⟨t17, hr_t17, h⟩ := FW.bndG h
  obtain ⟨t18, hr_t18, h⟩ := FW.bndG h
  obtain ⟨t19, hr_t19, h⟩ := FW.bndG h
  obtain ⟨t20, hr_t20, h⟩ := FW.bndG h
  refine FW.wdraw (by kernel_rfl) (by kernel_rfl) hk ?_; clear hk
  refine FW.dfun (y := .lit (.bool t11)) rfl rfl rfl rfl (fun a w hk => FW.f_call hk (FW.holds_nil _) rfl rfl Go.Proofs.Try.func28 rfl (by kernel_rfl) (offshootlaw03_awake.ok K  _ hr_t11)) ?_
  refine FW.dfun (y := .lit (.bool t11)) rfl rfl rfl rfl (fun a w hk => FW.f_move hk (FW.holds_nil _) rfl) ?_
  refine FW.dfunG (y := .lit (.pointer none)) rfl rfl rfl rfl rfl rfl rfl rfl rfl (fun a w hk hc => FW.f_move hk hc rfl) ?_
  refine FW.dfunG (y := .lit (.pointer (some ⟨bx1, 1, none⟩))) rfl rfl rfl rfl rfl rfl rfl rfl rfl (fun a w hk hc => FW.f_fieldPtr hk hc rfl Go.Proofs.Try.underlying51 rfl (by kernel_rfl) rfl) ?_
  refine FW.dfunG (y := .lit (.int .i64 v1.At)) rfl rfl rfl rfl rfl rfl rfl rfl rfl (fun a w hk hc => FW.f_loadBlk1 hk hc (j := 8) rfl rfl Go.Proofs.Try.underlying3 rfl rfl) ?_
  refine FW.dfunG (y := .lit (.string (FW.B t12))) rfl rfl rfl rfl rfl rfl rfl rfl rfl (fun a w hk hc => FW.f_call hk hc rfl rfl Go.Proofs.Try.func30 rfl (by kernel_rfl) (offshootlaw03_sector.ok K 97 _ (hr_t12 (FW.asm_out (p := t11 = true) hk.kn hc (fun e0 => e0))))) ?_
  refine FW.dfunG (y := .lit (.int .i64 t13)) rfl rfl rfl rfl rfl rfl rfl rfl rfl (fun a w hk hc => FW.f_call hk hc rfl rfl Go.Proofs.Try.func29 rfl (by kernel_rfl) (dev_Dev_Write_nil.ok K v1.At t12 _ (hr_t13 (FW.asm_out (p := t11 = true) hk.kn hc (fun e0 => e0))))) ?_
  refine FW.dfunG (y := .lit (.bool (decide (t13 = 7)))) rfl rfl rfl rfl rfl rfl rfl rfl rfl (fun a w hk hc => (FW.f_pure (FW.p_eql hk.kn hc rfl rfl))) ?_
  refine FW.dfun (y := .lit (.bool (t11 && (decide (t13 = 7))))) rfl rfl rfl rfl (fun a w hk => (FW.f_pure (FW.p_pick_and hk.kn (FW.holds_nil _) rfl rfl))) ?_
  refine FW.dfun (y := .lit (.bool (t11 && (decide (t13 = 7))))) rfl rfl rfl rfl (fun a w hk => FW.f_move hk (FW.holds_nil _) rfl) ?_
  refine FW.dfunG (y := .lit (.int .i64 t3.2)) rfl rfl rfl rfl rfl rfl rfl rfl rfl (fun a w hk hc => FW.f_move hk hc rfl) ?_
  refine FW.dfunG (y := .lit (.bool (decide (t3.2 = 7)))) rfl rfl rfl rfl rfl rfl rfl rfl rfl (fun a w hk hc => (FW.f_pure (FW.p_eql hk.kn hc rfl rfl))) ?_
  refine FW.dfun (y := .lit (.bool ((t11 && (decide (t13 = 7))) && (decide (t3.2 = 7))))) rfl rfl rfl rfl (fun a w hk => (FW.f_pure (FW.p_pick_and hk.kn (FW.holds_nil _) rfl rfl))) ?_
  refine FW.dfun (y := .lit (.bool ((t11 && (decide (t13 = 7))) && (decide (t3.2 = 7))))) rfl rfl rfl rfl (fun a w hk => FW.f_move hk (FW.holds_nil _) rfl) ?_
  refine FW.dfunG (y := .lit (.pointer none)) rfl rfl rfl rfl rfl rfl rfl rfl rfl (fun a w hk hc => FW.f_move hk hc rfl) ?_
  refine FW.dfunG (y := .lit (.int .i64 t14)) rfl rfl rfl rfl rfl rfl rfl rfl rfl (fun a w hk hc => FW.f_call hk hc rfl rfl Go.Proofs.Try.func31 rfl (by kernel_rfl) (dev_Dev_Flush_nil.ok K  _ (hr_t14 (FW.asm_out (p := ((t11 && (decide (t13 = 7))) && (decide (t3.2 = 7))) = true) hk.kn hc (fun e0 => e0))))) ?_
  refine FW.dfunG (y := .lit (.bool (decide (t14 = 7)))) rfl rfl rfl rfl rfl rfl rfl rfl rfl (fun a w hk hc => (FW.f_pure (FW.p_eql hk.kn hc rfl rfl))) ?_
  refine FW.dfun (y := .lit (.bool (((t11 && (decide (t13 = 7))) && (decide (t3.2 = 7))) && (decide (t14 = 7))))) rfl rfl rfl rfl (fun a w hk => (FW.f_pure (FW.p_pick_and hk.kn (FW.holds_nil _) rfl rfl))) ?_
  refine FW.dfun (y := .lit (.bool (((t11 && (decide (t13 = 7))) && (decide (t3.2 = 7))) && (decide (t14 = 7))))) rfl rfl rfl rfl (fun a w hk => FW.f_move hk (FW.holds_nil _) rfl) ?_
  refine FW.dfunG (y := .lit (.pointer none)) rfl rfl rfl rfl rfl rfl rfl rfl rfl (fun a w hk hc => FW.f_move hk hc rfl) ?_
  refine FW.dfunG (y := .lit (.bool t15)) rfl rfl rfl rfl rfl rfl rfl rfl rfl (fun a w hk hc => FW.f_call hk hc rfl rfl Go.Proofs.Try.func41 rfl (by kernel_rfl) (dev_Dev_Off_nil.ok  _ (hr_t15 (FW.asm_out (p := (((t11 && (decide (t13 = 7))) && (decide (t3.2 = 7))) && (decide (t14 = 7))) = true) hk.kn hc (fun e0 => e0))))) ?_
  refine FW.dfun (y := .lit (.bool ((((t11 && (decide (t13 = 7))) && (decide (t3.2 = 7))) && (decide (t14 = 7))) && t15))) rfl rfl rfl rfl (fun a w hk => (FW.f_pure (FW.p_pick_and hk.kn (FW.holds_nil _) rfl rfl))) ?_
  refine FW.dfun (y := .lit (.bool ((((t11 && (decide (t13 = 7))) && (decide (t3.2 = 7))) && (decide (t14 = 7))) && t15))) rfl rfl rfl rfl (fun a w hk => FW.f_move hk (FW.holds_nil _) rfl) ?_
  refine FW.dfunG (y := .lit (.pointer none)) rfl rfl rfl rfl rfl rfl rfl rfl rfl (fun a w hk hc => FW.f_move hk hc rfl) ?_
  refine FW.dfunG (y := .lit (.bool t16)) rfl rfl rfl rfl rfl rfl rfl rfl rfl (fun a w hk hc => FW.f_call hk hc rfl rfl Go.Proofs.Try.func33 rfl (by kernel_rfl) (dev_Dev_Up_nil.ok  _ (hr_t16 (FW.asm_out (p := ((((t11 && (decide (t13 = 7))) && (decide (t3.2 = 7))) && (decide (t14 = 7))) && t15) = true) hk.kn hc (fun e0 => e0))))) ?_
  refine FW.dfunG (y := .lit (.bool (!t16))) rfl rfl rfl rfl rfl rfl rfl rfl rfl (fun a w hk hc => (FW.f_pure (FW.p_not hk.kn hc rfl))) ?_
  refine FW.dfun (y := .lit (.bool (((((t11 && (decide (t13 = 7))) && (decide (t3.2 = 7))) && (decide (t14 = 7))) && t15) && (!t16)))) rfl rfl rfl rfl (fun a w hk => (FW.f_pure (FW.p_pick_and hk.kn (FW.holds_nil _) rfl rfl))) ?_
  refine FW.dfun (y := .lit (.bool (((((t11 && (decide (t13 = 7))) && (decide (t3.2 = 7))) && (decide (t14 = 7))) && t15) && (!t16)))) rfl rfl rfl rfl (fun a w hk => FW.f_move hk (FW.holds_nil _) rfl) ?_
  refine FW.dfunG (y := .lit (.pointer none)) rfl rfl rfl rfl rfl rfl rfl rfl rfl (fun a w hk hc => FW.f_move hk hc rfl) ?_
  refine FW.dfunG (y := .lit (.int .i64 t17)) rfl rfl rfl rfl rfl rfl rfl rfl rfl (fun a w hk hc => FW.f_call hk hc rfl rfl Go.Proofs.Try.func42 rfl (by kernel_rfl) (dev_Dev_Len_nil.ok  _ (hr_t17 (FW.asm_out (p := (((((t11 && (decide (t13 = 7))) && (decide (t3.2 = 7))) && (decide (t14 = 7))) && t15) && (!t16)) = true) hk.kn hc (fun e0 => e0))))) ?_
  refine FW.dfunG (y := .lit (.bool (decide (t17 = 0)))) rfl rfl rfl rfl rfl rfl rfl rfl rfl (fun a w hk hc => (FW.f_pure (FW.p_eql hk.kn hc rfl rfl))) ?_
  refine FW.dfun (y := .lit (.bool ((((((t11 && (decide (t13 = 7))) && (decide (t3.2 = 7))) && (decide (t14 = 7))) && t15) && (!t16)) && (decide (t17 = 0))))) rfl rfl rfl rfl (fun a w hk => (FW.f_pure (FW.p_pick_and hk.kn (FW.holds_nil _) rfl rfl))) ?_
  refine FW.dfun (y := .lit (.bool ((((((t11 && (decide (t13 = 7))) && (decide (t3.2 = 7))) && (decide (t14 = 7))) && t15) && (!t16)) && (decide (t17 = 0))))) rfl rfl rfl rfl (fun a w hk => FW.f_move hk (FW.holds_nil _) rfl) ?_
  refine FW.dfunG (y := .lit (.pointer none)) rfl rfl rfl rfl rfl rfl rfl rfl rfl (fun a w hk hc => FW.f_move hk hc rfl) ?_
  refine FW.dfunG (y := .lit (.int .i64 t18)) rfl rfl rfl rfl rfl rfl rfl rfl rfl (fun a w hk hc => FW.f_call hk hc rfl rfl Go.Proofs.Try.func43 rfl (by kernel_rfl) (dev_Dev_Steps_nil.ok  _ (hr_t18 (FW.asm_out (p := ((((((t11 && (decide (t13 = 7))) && (decide (t3.2 = 7))) && (decide (t14 = 7))) && t15) && (!t16)) && (decide (t17 = 0))) = true) hk.kn hc (fun e0 => e0))))) ?_
  refine FW.dfunG (y := .lit (.bool (decide (t18 = 0)))) rfl rfl rfl rfl rfl rfl rfl rfl rfl (fun a w hk hc => (FW.f_pure (FW.p_eql hk.kn hc rfl rfl))) ?_
  refine FW.dfun (y := .lit (.bool (((((((t11 && (decide (t13 = 7))) && (decide (t3.2 = 7))) && (decide (t14 = 7))) && t15) && (!t16)) && (decide (t17 = 0))) && (decide (t18 = 0))))) rfl rfl rfl rfl (fun a w hk => (FW.f_pure (FW.p_pick_and hk.kn (FW.holds_nil _) rfl rfl))) ?_
  refine FW.dfun (y := .lit (.bool (((((((t11 && (decide (t13 = 7))) && (decide (t3.2 = 7))) && (decide (t14 = 7))) && t15) && (!t16)) && (decide (t17 = 0))) && (decide (t18 = 0))))) rfl rfl rfl rfl (fun a w hk => FW.f_move hk (FW.holds_nil _) rfl) ?_
  refine FW.dfunG (y := .lit (.pointer none)) rfl rfl rfl rfl rfl rfl rfl rfl rfl (fun a w hk hc => FW.f_move hk hc rfl) ?_
  refine FW.dfunG (y := .lit (.int .i64 t19)) rfl rfl rfl rfl rfl rfl rfl rfl rfl (fun a w hk hc => FW.f_call hk hc rfl rfl Go.Proofs.Try.func35 rfl (by kernel_rfl) (dev_Dev_Loose_nil.ok  _ (hr_t19 (FW.asm_out (p := (((((((t11 && (decide (t13 = 7))) && (decide (t3.2 = 7))) && (decide (t14 = 7))) && t15) && (!t16)) && (decide (t17 = 0))) && (decide (t18 = 0))) = true) hk.kn hc (fun e0 => e0))))) ?_
  refine FW.dfunG (y := .lit (.bool (decide (t19 = 0)))) rfl rfl rfl rfl rfl rfl rfl rfl rfl (fun a w hk hc => (FW.f_pure (FW.p_eql hk.kn hc rfl rfl))) ?_
  refine FW.dfun (y := .lit (.bool ((((((((t11 && (decide (t13 = 7))) && (decide (t3.2 = 7))) && (decide (t14 = 7))) && t15) && (!t16)) && (decide (t17 = 0))) && (decide (t18 = 0))) && (decide (t19 = 0))))) rfl rfl rfl rfl (fun a w hk => (FW.f_pure (FW.p_pick_and hk.kn (FW.holds_nil _) rfl rfl))) ?_
  refine FW.dfun (y := .lit (.bool ((((((((t11 && (decide (t13 = 7))) && (decide (t3.2 = 7))) && (decide (t14 = 7))) && t15) && (!t16)) && (decide (t17 = 0))) && (decide (t18 = 0))) && (decide (t19 = 0))))) rfl rfl rfl rfl (fun a w hk => FW.f_move hk (FW.holds_nil _) rfl) ?_
  refine FW.dfunG (y := .lit (.pointer none)) rfl rfl rfl rfl rfl rfl rfl rfl rfl (fun a w hk hc => FW.f_move hk hc rfl) ?_
  refine FW.dfunG (y := .lit (.pointer none)) rfl rfl rfl rfl rfl rfl rfl rfl rfl (fun a w hk hc => FW.f_call hk hc rfl rfl Go.Proofs.Try.func40 rfl (by kernel_rfl) copyNil.ok) ?_
  refine FW.dfunG (y := .lit (.bool true)) rfl rfl rfl rfl rfl rfl rfl rfl rfl (fun a w hk hc => (FW.f_pure (FW.p_ptrEq Go.Proofs.Try.underlying46 hk.kn hc rfl rfl rfl))) ?_
  refine FW.dfun (y := .lit (.bool (((((((((t11 && (decide (t13 = 7))) && (decide (t3.2 = 7))) && (decide (t14 = 7))) && t15) && (!t16)) && (decide (t17 = 0))) && (decide (t18 = 0))) && (decide (t19 = 0))) && true))) rfl rfl rfl rfl (fun a w hk => (FW.f_pure (FW.p_pick_and hk.kn (FW.holds_nil _) rfl rfl))) ?_
  refine FW.dfun (y := .lit (.bool (((((((((t11 && (decide (t13 = 7))) && (decide (t3.2 = 7))) && (decide (t14 = 7))) && t15) && (!t16)) && (decide (t17 = 0))) && (decide (t18 = 0))) && (decide (t19 = 0))) && true))) rfl rfl rfl rfl (fun a w hk => FW.f_move hk (FW.holds_nil _) rfl) ?_
  refine FW.dfunG (y := .lit (.int .i64 t4.2)) rfl rfl rfl rfl rfl rfl rfl rfl rfl (fun a w hk hc => FW.f_move hk hc rfl) ?_
  refine FW.dfunG (y := .lit (.bool (decide (t4.2 = 0)))) rfl rfl rfl rfl rfl rfl rfl rfl rfl (fun a w hk hc => (FW.f_pure (FW.p_eql hk.kn hc rfl rfl))) ?_
  refine FW.dfunG (y := .lit (.int .i64 (IntKind.wrap .i64 (65535 + (FW.andI .i64 v0 3))))) rfl rfl rfl rfl rfl rfl rfl rfl rfl (fun a w hk hc => FW.f_move hk hc rfl) ?_
  refine FW.dfunG (y := .lit (.bool (decide ((IntKind.wrap .i64 (65535 + (FW.andI .i64 v0 3))) ≤ 65536)))) rfl rfl rfl rfl rfl rfl rfl rfl rfl (fun a w hk hc => (FW.f_pure (FW.p_leq hk.kn hc rfl rfl))) ?_
  refine FW.dfunG (y := .lit (.bool ((decide (t4.2 = 0)) == (decide ((IntKind.wrap .i64 (65535 + (FW.andI .i64 v0 3))) ≤ 65536))))) rfl rfl rfl rfl rfl rfl rfl rfl rfl (fun a w hk hc => (FW.f_pure (FW.p_beql Go.Proofs.Try.underlying4 hk.kn hc rfl rfl))) ?_
  refine FW.dfun (y := .lit (.bool ((((((((((t11 && (decide (t13 = 7))) && (decide (t3.2 = 7))) && (decide (t14 = 7))) && t15) && (!t16)) && (decide (t17 = 0))) && (decide (t18 = 0))) && (decide (t19 = 0))) && true) && ((decide (t4.2 = 0)) == (decide ((IntKind.wrap .i64 (65535 + (FW.andI .i64 v0 3))) ≤ 65536)))))) rfl rfl rfl rfl (fun a w hk => (FW.f_pure (FW.p_pick_and hk.kn (FW.holds_nil _) rfl rfl))) ?_
  refine FW.dfun (y := .lit (.bool ((((((((((t11 && (decide (t13 = 7))) && (decide (t3.2 = 7))) && (decide (t14 = 7))) && t15) && (!t16)) && (decide (t17 = 0))) && (decide (t18 = 0))) && (decide (t19 = 0))) && true) && ((decide (t4.2 = 0)) == (decide ((IntKind.wrap .i64 (65535 + (FW.andI .i64 v0 3))) ≤ 65536)))))) rfl rfl rfl rfl (fun a w hk => FW.f_move hk (FW.holds_nil _) rfl) ?_
  refine FW.dfunG (y := FW.ptrO t4.1 bx3) rfl rfl rfl rfl rfl rfl rfl rfl rfl (fun a w hk hc => FW.f_move hk hc rfl) ?_
  refine FW.dfunG (y := .lit (.bool (!(Option.isNone t4.1)))) rfl rfl rfl rfl rfl rfl rfl rfl rfl (fun a w hk hc => (FW.f_pure (FW.p_ptrNe (b := (!(Option.isNone t4.1))) Go.Proofs.Try.underlying46 hk.kn hc rfl rfl (by rw [FW.isNone_ptrO])))) ?_
  refine FW.dfunG (y := .lit (.int .i64 t4.2)) rfl rfl rfl rfl rfl rfl rfl rfl rfl (fun a w hk hc => FW.f_move hk hc rfl) ?_
  refine FW.dfunG (y := .lit (.bool (decide (t4.2 = 0)))) rfl rfl rfl rfl rfl rfl rfl rfl rfl (fun a w hk hc => (FW.f_pure (FW.p_eql hk.kn hc rfl rfl))) ?_
  refine FW.dfunG (y := .lit (.bool ((!(Option.isNone t4.1)) == (decide (t4.2 = 0))))) rfl rfl rfl rfl rfl rfl rfl rfl rfl (fun a w hk hc => (FW.f_pure (FW.p_beql Go.Proofs.Try.underlying4 hk.kn hc rfl rfl))) ?_
  refine FW.dfun (y := .lit (.bool (((((((((((t11 && (decide (t13 = 7))) && (decide (t3.2 = 7))) && (decide (t14 = 7))) && t15) && (!t16)) && (decide (t17 = 0))) && (decide (t18 = 0))) && (decide (t19 = 0))) && true) && ((decide (t4.2 = 0)) == (decide ((IntKind.wrap .i64 (65535 + (FW.andI .i64 v0 3))) ≤ 65536)))) && ((!(Option.isNone t4.1)) == (decide (t4.2 = 0)))))) rfl rfl rfl rfl (fun a w hk => (FW.f_pure (FW.p_pick_and hk.kn (FW.holds_nil _) rfl rfl))) ?_
  refine FW.dfun (y := .lit (.bool (((((((((((t11 && (decide (t13 = 7))) && (decide (t3.2 = 7))) && (decide (t14 = 7))) && t15) && (!t16)) && (decide (t17 = 0))) && (decide (t18 = 0))) && (decide (t19 = 0))) && true) && ((decide (t4.2 = 0)) == (decide ((IntKind.wrap .i64 (65535 + (FW.andI .i64 v0 3))) ≤ 65536)))) && ((!(Option.isNone t4.1)) == (decide (t4.2 = 0)))))) rfl rfl rfl rfl (fun a w hk => FW.f_move hk (FW.holds_nil _) rfl) ?_
  refine FW.dfunG (y := .lit (.int .i64 t5.2)) rfl rfl rfl rfl rfl rfl rfl rfl rfl (fun a w hk hc => FW.f_move hk hc rfl) ?_
  refine FW.dfunG (y := .lit (.bool (decide (t5.2 = 1)))) rfl rfl rfl rfl rfl rfl rfl rfl rfl (fun a w hk hc => (FW.f_pure (FW.p_eql hk.kn hc rfl rfl))) ?_
  refine FW.dfun (y := .lit (.bool ((((((((((((t11 && (decide (t13 = 7))) && (decide (t3.2 = 7))) && (decide (t14 = 7))) && t15) && (!t16)) && (decide (t17 = 0))) && (decide (t18 = 0))) && (decide (t19 = 0))) && true) && ((decide (t4.2 = 0)) == (decide ((IntKind.wrap .i64 (65535 + (FW.andI .i64 v0 3))) ≤ 65536)))) && ((!(Option.isNone t4.1)) == (decide (t4.2 = 0)))) && (decide (t5.2 = 1))))) rfl rfl rfl rfl (fun a w hk => (FW.f_pure (FW.p_pick_and hk.kn (FW.holds_nil _) rfl rfl))) ?_
  refine FW.dfun (y := .lit (.bool ((((((((((((t11 && (decide (t13 = 7))) && (decide (t3.2 = 7))) && (decide (t14 = 7))) && t15) && (!t16)) && (decide (t17 = 0))) && (decide (t18 = 0))) && (decide (t19 = 0))) && true) && ((decide (t4.2 = 0)) == (decide ((IntKind.wrap .i64 (65535 + (FW.andI .i64 v0 3))) ≤ 65536)))) && ((!(Option.isNone t4.1)) == (decide (t4.2 = 0)))) && (decide (t5.2 = 1))))) rfl rfl rfl rfl (fun a w hk => FW.f_move hk (FW.holds_nil _) rfl) ?_
  refine FW.dfunG (y := .lit (.int .i64 t6.2)) rfl rfl rfl rfl rfl rfl rfl rfl rfl (fun a w hk hc => FW.f_move hk hc rfl) ?_
  refine FW.dfunG (y := .lit (.bool (decide (t6.2 = 0)))) rfl rfl rfl rfl rfl rfl rfl rfl rfl (fun a w hk hc => (FW.f_pure (FW.p_eql hk.kn hc rfl rfl))) ?_
  refine FW.dfun (y := .lit (.bool (((((((((((((t11 && (decide (t13 = 7))) && (decide (t3.2 = 7))) && (decide (t14 = 7))) && t15) && (!t16)) && (decide (t17 = 0))) && (decide (t18 = 0))) && (decide (t19 = 0))) && true) && ((decide (t4.2 = 0)) == (decide ((IntKind.wrap .i64 (65535 + (FW.andI .i64 v0 3))) ≤ 65536)))) && ((!(Option.isNone t4.1)) == (decide (t4.2 = 0)))) && (decide (t5.2 = 1))) && (decide (t6.2 = 0))))) rfl rfl rfl rfl (fun a w hk => (FW.f_pure (FW.p_pick_and hk.kn (FW.holds_nil _) rfl rfl))) ?_
  refine FW.dfun (y := .lit (.bool (((((((((((((t11 && (decide (t13 = 7))) && (decide (t3.2 = 7))) && (decide (t14 = 7))) && t15) && (!t16)) && (decide (t17 = 0))) && (decide (t18 = 0))) && (decide (t19 = 0))) && true) && ((decide (t4.2 = 0)) == (decide ((IntKind.wrap .i64 (65535 + (FW.andI .i64 v0 3))) ≤ 65536)))) && ((!(Option.isNone t4.1)) == (decide (t4.2 = 0)))) && (decide (t5.2 = 1))) && (decide (t6.2 = 0))))) rfl rfl rfl rfl (fun a w hk => FW.f_move hk (FW.holds_nil _) rfl) ?_
  refine FW.dfunG (y := .lit (.int .i64 t9.1)) rfl rfl rfl rfl rfl rfl rfl rfl rfl (fun a w hk hc => FW.f_move hk hc rfl) ?_
  refine FW.dfunG (y := .lit (.bool (decide (t9.1 = 0)))) rfl rfl rfl rfl rfl rfl rfl rfl rfl (fun a w hk hc => (FW.f_pure (FW.p_eql hk.kn hc rfl rfl))) ?_
  refine FW.dfun (y := .lit (.bool ((((((((((((((t11 && (decide (t13 = 7))) && (decide (t3.2 = 7))) && (decide (t14 = 7))) && t15) && (!t16)) && (decide (t17 = 0))) && (decide (t18 = 0))) && (decide (t19 = 0))) && true) && ((decide (t4.2 = 0)) == (decide ((IntKind.wrap .i64 (65535 + (FW.andI .i64 v0 3))) ≤ 65536)))) && ((!(Option.isNone t4.1)) == (decide (t4.2 = 0)))) && (decide (t5.2 = 1))) && (decide (t6.2 = 0))) && (decide (t9.1 = 0))))) rfl rfl rfl rfl (fun a w hk => (FW.f_pure (FW.p_pick_and hk.kn (FW.holds_nil _) rfl rfl))) ?_
  refine FW.dfun (y := .lit (.bool ((((((((((((((t11 && (decide (t13 = 7))) && (decide (t3.2 = 7))) && (decide (t14 = 7))) && t15) && (!t16)) && (decide (t17 = 0))) && (decide (t18 = 0))) && (decide (t19 = 0))) && true) && ((decide (t4.2 = 0)) == (decide ((IntKind.wrap .i64 (65535 + (FW.andI .i64 v0 3))) ≤ 65536)))) && ((!(Option.isNone t4.1)) == (decide (t4.2 = 0)))) && (decide (t5.2 = 1))) && (decide (t6.2 = 0))) && (decide (t9.1 = 0))))) rfl rfl rfl rfl (fun a w hk => FW.f_move hk (FW.holds_nil _) rfl) ?_
  refine FW.dfunG (y := .lit (.int .i64 t10.2)) rfl rfl rfl rfl rfl rfl rfl rfl rfl (fun a w hk hc => FW.f_move hk hc rfl) ?_
  refine FW.dfunG (y := .lit (.bool (decide (t10.2 = 0)))) rfl rfl rfl rfl rfl rfl rfl rfl rfl (fun a w hk hc => (FW.f_pure (FW.p_eql hk.kn hc rfl rfl))) ?_
  refine FW.dfun (y := .lit (.bool (((((((((((((((t11 && (decide (t13 = 7))) && (decide (t3.2 = 7))) && (decide (t14 = 7))) && t15) && (!t16)) && (decide (t17 = 0))) && (decide (t18 = 0))) && (decide (t19 = 0))) && true) && ((decide (t4.2 = 0)) == (decide ((IntKind.wrap .i64 (65535 + (FW.andI .i64 v0 3))) ≤ 65536)))) && ((!(Option.isNone t4.1)) == (decide (t4.2 = 0)))) && (decide (t5.2 = 1))) && (decide (t6.2 = 0))) && (decide (t9.1 = 0))) && (decide (t10.2 = 0))))) rfl rfl rfl rfl (fun a w hk => (FW.f_pure (FW.p_pick_and hk.kn (FW.holds_nil _) rfl rfl))) ?_
  refine FW.dfun (y := .lit (.bool (((((((((((((((t11 && (decide (t13 = 7))) && (decide (t3.2 = 7))) && (decide (t14 = 7))) && t15) && (!t16)) && (decide (t17 = 0))) && (decide (t18 = 0))) && (decide (t19 = 0))) && true) && ((decide (t4.2 = 0)) == (decide ((IntKind.wrap .i64 (65535 + (FW.andI .i64 v0 3))) ≤ 65536)))) && ((!(Option.isNone t4.1)) == (decide (t4.2 = 0)))) && (decide (t5.2 = 1))) && (decide (t6.2 = 0))) && (decide (t9.1 = 0))) && (decide (t10.2 = 0))))) rfl rfl rfl rfl (fun a w hk => FW.f_move hk (FW.holds_nil _) rfl) ?_
  refine FW.dfunG (y := .lit (.string (FW.B t10.1))) rfl rfl rfl rfl rfl rfl rfl rfl rfl (fun a w hk hc => FW.f_move hk hc rfl) ?_
  refine FW.dfunG (y := .lit (.string (FW.B t20))) rfl rfl rfl rfl rfl rfl rfl rfl rfl (fun a w hk hc => FW.f_call hk hc rfl rfl Go.Proofs.Try.func30 rfl (by kernel_rfl) (offshootlaw03_sector.ok K 0 _ (hr_t20 (FW.asm_out (p := (((((((((((((((t11 && (decide (t13 = 7))) && (decide (t3.2 = 7))) && (decide (t14 = 7))) && t15) && (!t16)) && (decide (t17 = 0))) && (decide (t18 = 0))) && (decide (t19 = 0))) && true) && ((decide (t4.2 = 0)) == (decide ((IntKind.wrap .i64 (65535 + (FW.andI .i64 v0 3))) ≤ 65536)))) && ((!(Option.isNone t4.1)) == (decide (t4.2 = 0)))) && (decide (t5.2 = 1))) && (decide (t6.2 = 0))) && (decide (t9.1 = 0))) && (decide (t10.2 = 0))) = true) hk.kn hc (fun e0 => e0))))) ?_
  refine FW.dfunG (y := .lit (.bool (decide (t10.1 = t20)))) rfl rfl rfl rfl rfl rfl rfl rfl rfl (fun a w hk hc => (FW.f_pure (FW.p_seql hk.kn hc rfl rfl))) ?_
  refine FW.dfun (y := .lit (.bool ((((((((((((((((t11 && (decide (t13 = 7))) && (decide (t3.2 = 7))) && (decide (t14 = 7))) && t15) && (!t16)) && (decide (t17 = 0))) && (decide (t18 = 0))) && (decide (t19 = 0))) && true) && ((decide (t4.2 = 0)) == (decide ((IntKind.wrap .i64 (65535 + (FW.andI .i64 v0 3))) ≤ 65536)))) && ((!(Option.isNone t4.1)) == (decide (t4.2 = 0)))) && (decide (t5.2 = 1))) && (decide (t6.2 = 0))) && (decide (t9.1 = 0))) && (decide (t10.2 = 0))) && (decide (t10.1 = t20))))) rfl rfl rfl rfl (fun a w hk => (FW.f_pure (FW.p_pick_and hk.kn (FW.holds_nil _) rfl rfl))) ?_
  refine FW.dfun (y := .lit (.bool ((((((((((((((((t11 && (decide (t13 = 7))) && (decide (t3.2 = 7))) && (decide (t14 = 7))) && t15) && (!t16)) && (decide (t17 = 0))) && (decide (t18 = 0))) && (decide (t19 = 0))) && true) && ((decide (t4.2 = 0)) == (decide ((IntKind.wrap .i64 (65535 + (FW.andI .i64 v0 3))) ≤ 65536)))) && ((!(Option.isNone t4.1)) == (decide (t4.2 = 0)))) && (decide (t5.2 = 1))) && (decide (t6.2 = 0))) && (decide (t9.1 = 0))) && (decide (t10.2 = 0))) && (decide (t10.1 = t20))))) rfl rfl rfl rfl (fun a w hk => FW.f_assign hk (FW.holds_nil _) rfl) ?_
  refine FW.dend ?_; intro a w hk
  refine wp_ret ?_
  (repeat first | refine FW.then_ret ?_ | refine FW.block_ret ?_)
  obtain rfl := Option.some.inj h
  exact FW.fret1 hk rfl rfl
end Go.Proofs.Ytimaibcaehagjaa

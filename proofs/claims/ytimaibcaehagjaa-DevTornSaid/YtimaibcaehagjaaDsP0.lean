/- Written by a program of this session (gen.py): the contracts of functions of the program. -/
import Derived.KernelRfl
import Derived.Test.YtimaibcaehagjaaProg
import Derived.Test.YtimaibcaehagjaaAvFun
import Derived.Test.YtimaibcaehagjaaAvMan
import Derived.Test.YtimaibcaehagjaaAvMore
import Derived.Test.YtimaibcaehagjaaAvDraw2
import Derived.Test.YtimaibcaehagjaaAvRow
import Derived.Test.YtimaibcaehagjaaHn
import Derived.Test.YtimaibcaehagjaaDvP0
import Derived.Test.YtimaibcaehagjaaFl2
import Derived.Test.YtimaibcaehagjaaDsD
namespace Go.Proofs.Ytimaibcaehagjaa
set_option linter.unusedVariables false
set_option maxRecDepth 20000
set_option maxHeartbeats 10000000
theorem offshootlaw03_sector.ok (K : Nat) (v0 : Int) (r : List UInt8) (h : offshootlaw03_sector.f K v0 = some r) :
    FW.Ok Go.Proofs.Try.prog 30 [.lit (.int .u8 v0)] (.lit (.string (FW.B r))) := by
  refine FW.enter (xs := [.lit (.int .u8 v0)]) Go.Proofs.Try.func30 rfl Go.Proofs.Try.ntmps30 rfl ?_
  intro M w0 a hk
  unfold offshootlaw03_sector.f at h
  refine FW.wreg ?_; intro K' hK1
  refine FW.lfun (y := .lit (.string (FW.B ([] : List UInt8)))) hk rfl rfl rfl rfl (FW.f_assign hk (FW.holds_nil _) rfl) ?_; clear hk; intro a w hk
  refine FW.lend (hK1 _ _ ?_); clear hK1 K'
  refine FW.wreg ?_; intro K' hK2
  obtain ⟨hc1, h⟩ := FW.chk h
  refine FW.l_makeSlice (f := c_u8) (z := (0 : Int)) (fun _ => rfl) hk rfl rfl rfl rfl Go.Proofs.Try.underlying92 (by kernel_rfl) rfl rfl (by kernel_rfl) hc1 ?_; clear hk; intro b1 a w hk
  refine FW.lfun (y := .lit (.slice (some ⟨b1, 0, none⟩) (List.length (List.replicate (Int.toNat 128) (0 : Int))) (Int.toNat 128))) hk rfl rfl rfl rfl (FW.f_assign hk (FW.holds_nil _) rfl) ?_; clear hk; intro a w hk
  refine FW.lend (hK2 _ _ ?_); clear hK2 K'
  refine FW.wseq ?_; intro K' hK3
  refine FW.wreg ?_; intro K' hK4
  refine FW.lfun (y := .lit (.int .i64 0)) hk rfl rfl rfl rfl (FW.f_assign hk (FW.holds_nil _) rfl) ?_; clear hk; intro a w hk
  refine FW.lend (hK4 _ _ ?_); clear hK4 K'
  refine wp_block ?_
  refine FW.wloop (T := Nat × List Int × Int × Int × Option Addr × Nat) (fun x a w => match x with | (kl1, l1, v0, v4, xd1, xc1) => FW.S M w0 a w 18 [FW.orow xd1 xc1 5 1 c_u8 l1] [(0, [], .lit (.int .u8 v0)), (3, [], .lit (.slice xd1 (List.length l1) xc1)), (4, [], .lit (.int .i64 v4))] ∧ offshootlaw03_sector.l1 K kl1 l1 v0 v4 = some r) (fun x => x.1) (K, (List.replicate (Int.toNat 128) (0 : Int)), v0, 0, (some ⟨b1, 0, none⟩), (Int.toNat 128)) ⟨hk.sub ⟨rfl, rfl, rfl, trivial⟩, h⟩ ?_
  clear hk h
  rintro ⟨kl1, l1, v0, v4, xd1, xc1⟩ a w ⟨hk, h⟩ K' hK5
  cases kl1 with
  | zero => simp [offshootlaw03_sector.l1] at h
  | succ kl1 =>
  rw [offshootlaw03_sector.l1.eq_2] at h
  refine FW.wseq ?_; intro K' hK6
  refine FW.wreg ?_; intro K' hK7
  refine FW.lfun (y := .lit (.int .i64 v4)) hk rfl rfl rfl rfl (FW.f_move hk (FW.holds_nil _) rfl) ?_; clear hk; intro a w hk
  refine FW.lfun (y := .lit (.slice xd1 (List.length l1) xc1)) hk rfl rfl rfl rfl (FW.f_move hk (FW.holds_nil _) rfl) ?_; clear hk; intro a w hk
  refine FW.lfun (y := .lit (.int .i64 (List.length l1 : Int))) hk rfl rfl rfl rfl ((FW.f_pure (FW.p_len Go.Proofs.Try.underlying92 hk.kn (FW.holds_nil _) rfl))) ?_; clear hk; intro a w hk
  refine FW.lfun (y := .lit (.bool (decide (v4 < (List.length l1 : Int))))) hk rfl rfl rfl rfl ((FW.f_pure (FW.p_lss hk.kn (FW.holds_nil _) rfl rfl))) ?_; clear hk; intro a w hk
  refine FW.lend (hK7 _ _ ?_); clear hK7 K'
  refine FW.wcondF (b := (decide (v4 < (List.length l1 : Int)))) hk h rfl (fun h hb => ?_) (fun h hb => ?_)
  · skip
    refine wp_skip ?_
    (repeat first | refine FW.then_normal ?_ | refine FW.block_normal ?_); refine hK6 _ _ ?_
    refine FW.wseq ?_; intro K' hK8
    refine wp_block ?_
    refine FW.wreg1 ?_
    refine FW.lfun (y := .lit (.slice xd1 (List.length l1) xc1)) hk rfl rfl rfl rfl (FW.f_move hk (FW.holds_nil _) rfl) ?_; clear hk; intro a w hk
    refine FW.lfun (y := .lit (.int .i64 v4)) hk rfl rfl rfl rfl (FW.f_move hk (FW.holds_nil _) rfl) ?_; clear hk; intro a w hk
    refine FW.lfun (y := .lit (.int .u8 v0)) hk rfl rfl rfl rfl (FW.f_move hk (FW.holds_nil _) rfl) ?_; clear hk; intro a w hk
    obtain ⟨hc2, h⟩ := FW.chk h
    refine FW.lfun (y := FW.elA xd1 1 v4) hk rfl rfl rfl rfl (FW.f_idxOwn (f := c_u8) (l := l1) hk (FW.holds_nil _) (j := 0) rfl rfl (by first | rfl | simp only [List.length_set]) rfl Go.Proofs.Try.underlying92 (by kernel_rfl) hc2) ?_; clear hk; intro a w hk
    refine FW.l_storeOwn1 (f := c_u8) (l := l1) (v := v0) (I' := [FW.orow xd1 xc1 5 1 c_u8 (List.set l1 (Int.toNat v4) v0)]) (j := 0) hk rfl rfl hc2 rfl rfl rfl rfl (by kernel_rfl) rfl ?_; clear hk; intro w hk
    refine wpList_nil ?_
    (repeat first | refine FW.then_normal ?_ | refine FW.block_normal ?_); refine hK8 _ _ ?_
    refine FW.wreg1 ?_
    refine FW.lfun (y := .lit (.int .i64 v4)) hk rfl rfl rfl rfl (FW.f_move hk (FW.holds_nil _) rfl) ?_; clear hk; intro a w hk
    refine FW.lfun (y := .lit (.int .i64 (IntKind.wrap .i64 (v4 + 1)))) hk rfl rfl rfl rfl ((FW.f_pure (FW.p_add hk.kn (FW.holds_nil _) rfl rfl))) ?_; clear hk; intro a w hk
    refine FW.lfun (y := .lit (.int .i64 (IntKind.wrap .i64 (v4 + 1)))) hk rfl rfl rfl rfl (FW.f_assign hk (FW.holds_nil _) rfl) ?_; clear hk; intro a w hk
    refine wpList_nil ?_
    replace hk := hk.as (i := 3) (y := .lit (.slice xd1 (List.length (List.set l1 (Int.toNat v4) v0)) xc1)) rfl (fun v hv => by simpa only [List.length_set] using hv)
    (repeat first | refine FW.then_normal ?_ | refine FW.block_normal ?_); exact hK5 (kl1, (List.set l1 (Int.toNat v4) v0), v0, (IntKind.wrap .i64 (v4 + 1)), xd1, xc1) _ _ (Nat.lt_succ_self _) ⟨hk.sub ⟨rfl, rfl, rfl, trivial⟩, h⟩
  · skip
    refine wp_exit ?_; (repeat first | refine FW.then_exit ?_ | refine FW.block_exit_ne rfl ?_); refine FW.block_exit ?_
    (repeat first | refine FW.then_normal ?_ | refine FW.block_normal ?_); refine hK3 _ _ ?_
    refine FW.wreg ?_; intro K' hK11
    refine FW.lfun (y := .lit (.slice xd1 (List.length l1) xc1)) hk rfl rfl rfl rfl (FW.f_move hk (FW.holds_nil _) rfl) ?_; clear hk; intro a w hk
    refine FW.lfun (y := .lit (.string (FW.B (FW.toB l1)))) hk rfl rfl rfl rfl (FW.f_toBown (f := c_u8) rfl hk (FW.holds_nil _) (j := 0) rfl rfl Go.Proofs.Try.underlying92 Go.Proofs.Try.underlying5 Go.Proofs.Try.underlying9) ?_; clear hk; intro a w hk
    refine FW.lfun (y := .lit (.string (FW.B (FW.toB l1)))) hk rfl rfl rfl rfl (FW.f_assign hk (FW.holds_nil _) rfl) ?_; clear hk; intro a w hk
    refine FW.lend (hK11 _ _ ?_); clear hK11 K'
    refine wp_ret ?_
    (repeat first | refine FW.then_ret ?_ | refine FW.block_ret ?_)
    obtain rfl := Option.some.inj h
    exact FW.fret1 hk rfl rfl

theorem offshootlaw03_awake.ok (K : Nat)  (r : Bool) (h : offshootlaw03_awake.f K = some r) :
    FW.Ok Go.Proofs.Try.prog 28 [] (.lit (.bool r)) := by
  refine FW.enter (xs := []) Go.Proofs.Try.func28 rfl Go.Proofs.Try.ntmps28 rfl ?_
  intro M w0 a hk
  unfold offshootlaw03_awake.f at h
  refine FW.wreg ?_; intro K' hK1
  refine FW.lfun (y := .lit (.bool false)) hk rfl rfl rfl rfl (FW.f_assign hk (FW.holds_nil _) rfl) ?_; clear hk; intro a w hk
  refine FW.lend (hK1 _ _ ?_); clear hK1 K'
  refine FW.wreg ?_; intro K' hK2
  obtain ⟨t1, hr_t1, h⟩ := FW.bnd h
  refine FW.l_callH (I1 := ([] : List FW.It)) (I2 := []) (js := []) hk rfl rfl rfl rfl rfl Go.Proofs.Try.func27 rfl (by kernel_rfl) (dev_New.ok K 2 _ hr_t1 ) ?_; clear hk
  rintro _ _ ⟨b1, xdNt1_0_0, xcNt1_0_0, xrNt1_0_1, rfl, rfl⟩ a w hk
  refine FW.lfun (y := .tup [.lit (.pointer (some ⟨b1, 0, none⟩)), .lit (.int .i64 t1.2)]) hk rfl rfl rfl rfl (FW.f_move hk (FW.holds_nil _) rfl) ?_; clear hk; intro a w hk
  refine FW.lfun (y := .lit (.pointer (some ⟨b1, 0, none⟩))) hk rfl rfl rfl rfl (FW.f_extract hk (FW.holds_nil _) rfl rfl) ?_; clear hk; intro a w hk
  refine FW.lfun (y := .lit (.int .i64 t1.2)) hk rfl rfl rfl rfl (FW.f_extract hk (FW.holds_nil _) rfl rfl) ?_; clear hk; intro a w hk
  refine FW.lfun (y := .lit (.pointer (some ⟨b1, 0, none⟩))) hk rfl rfl rfl rfl (FW.f_assign hk (FW.holds_nil _) rfl) ?_; clear hk; intro a w hk
  refine FW.lfun (y := .lit (.int .i64 t1.2)) hk rfl rfl rfl rfl (FW.f_assign hk (FW.holds_nil _) rfl) ?_; clear hk; intro a w hk
  refine FW.lend (hK2 _ _ ?_); clear hK2 K'
  refine FW.wreg ?_; intro K' hK3
  refine FW.lfun (y := .lit (.pointer (some ⟨b1, 0, none⟩))) hk rfl rfl rfl rfl (FW.f_move hk (FW.holds_nil _) rfl) ?_; clear hk; intro a w hk
  obtain ⟨t2, hr_t2, h⟩ := FW.bnd h
  refine FW.lfun (y := .lit (.string (FW.B t2))) hk rfl rfl rfl rfl (FW.f_call hk (FW.holds_nil _) rfl rfl Go.Proofs.Try.func30 rfl (by kernel_rfl) (offshootlaw03_sector.ok K 97 _ hr_t2)) ?_; clear hk; intro a w hk
  obtain ⟨t3, hr_t3, h⟩ := FW.bnd h
  refine FW.l_callH (I1 := (ODevDev.items b1 xdNt1_0_0 xcNt1_0_0 xrNt1_0_1 t1.1)) (I2 := []) (js := [2, 2, 2]) hk rfl rfl rfl rfl rfl Go.Proofs.Try.func29 rfl (by kernel_rfl) (dev_Dev_Write.ok K t1.1 0 t2 _ hr_t3 b1 xdNt1_0_0 xcNt1_0_0 xrNt1_0_1) ?_; clear hk
  rintro _ _ ⟨zd1, zc1, zr1, rfl, rfl⟩ a w hk
  refine FW.lfun (y := .lit (.pointer (some ⟨b1, 0, none⟩))) hk rfl rfl rfl rfl (FW.f_move hk (FW.holds_nil _) rfl) ?_; clear hk; intro a w hk
  obtain ⟨t4, hr_t4, h⟩ := FW.bnd h
  refine FW.l_callH (I1 := (ODevDev.items b1 zd1 zc1 zr1 t3.2)) (I2 := []) (js := [2, 2, 2]) hk rfl rfl rfl rfl rfl Go.Proofs.Try.func31 rfl (by kernel_rfl) (dev_Dev_Flush.ok K t3.2 _ hr_t4 b1 zd1 zc1 zr1) ?_; clear hk
  rintro _ _ ⟨zd2, zc2, zr2, rfl, rfl⟩ a w hk
  refine FW.lfun (y := .lit (.pointer (some ⟨b1, 0, none⟩))) hk rfl rfl rfl rfl (FW.f_move hk (FW.holds_nil _) rfl) ?_; clear hk; intro a w hk
  obtain ⟨t5, hr_t5, h⟩ := FW.bnd h
  refine FW.lfun (y := .lit (.string (FW.B t5))) hk rfl rfl rfl rfl (FW.f_call hk (FW.holds_nil _) rfl rfl Go.Proofs.Try.func30 rfl (by kernel_rfl) (offshootlaw03_sector.ok K 98 _ hr_t5)) ?_; clear hk; intro a w hk
  obtain ⟨t6, hr_t6, h⟩ := FW.bnd h
  refine FW.l_callH (I1 := (ODevDev.items b1 zd2 zc2 zr2 t4.2)) (I2 := []) (js := [2, 2, 2]) hk rfl rfl rfl rfl rfl Go.Proofs.Try.func29 rfl (by kernel_rfl) (dev_Dev_Write.ok K t4.2 1 t5 _ hr_t6 b1 zd2 zc2 zr2) ?_; clear hk
  rintro _ _ ⟨zd3, zc3, zr3, rfl, rfl⟩ a w hk
  refine FW.lfun (y := .lit (.int .i64 t3.1)) hk rfl rfl rfl rfl (FW.f_assign hk (FW.holds_nil _) rfl) ?_; clear hk; intro a w hk
  refine FW.lfun (y := .lit (.int .i64 t4.1)) hk rfl rfl rfl rfl (FW.f_assign hk (FW.holds_nil _) rfl) ?_; clear hk; intro a w hk
  refine FW.lfun (y := .lit (.int .i64 t6.1)) hk rfl rfl rfl rfl (FW.f_assign hk (FW.holds_nil _) rfl) ?_; clear hk; intro a w hk
  refine FW.lend (hK3 _ _ ?_); clear hK3 K'
  refine FW.wreg ?_; intro K' hK4
  refine FW.lfun (y := .lit (.pointer (some ⟨b1, 0, none⟩))) hk rfl rfl rfl rfl (FW.f_move hk (FW.holds_nil _) rfl) ?_; clear hk; intro a w hk
  obtain ⟨t7, hr_t7, h⟩ := FW.bnd h
  refine FW.l_callH (I1 := (ODevDev.items b1 zd3 zc3 zr3 t6.2)) (I2 := []) (js := [2, 2, 2]) hk rfl rfl rfl rfl rfl Go.Proofs.Try.func32 rfl (by kernel_rfl) (dev_Dev_Crash.ok K t6.2 0 0 _ hr_t7 b1 zd3 zc3 zr3) ?_; clear hk
  rintro _ _ ⟨zd4, zc4, zr4, rfl, rfl⟩ a w hk
  refine FW.lend (hK4 _ _ ?_); clear hK4 K'
  refine FW.wreg ?_; intro K' hK5
  refine FW.lfun (y := .lit (.pointer (some ⟨b1, 0, none⟩))) hk rfl rfl rfl rfl (FW.f_move hk (FW.holds_nil _) rfl) ?_; clear hk; intro a w hk
  obtain ⟨t8, hr_t8, h⟩ := FW.bnd h
  refine FW.l_callH (I1 := (ODevDev.items b1 zd4 zc4 zr4 t7)) (I2 := []) (js := [2, 2, 2]) hk rfl rfl rfl rfl rfl Go.Proofs.Try.func33 rfl (by kernel_rfl) (dev_Dev_Up.ok t7 _ hr_t8 b1 zd4 zc4 zr4) ?_; clear hk
  rintro _ _ ⟨zd5, zc5, zr5, rfl, rfl⟩ a w hk
  refine FW.lfun (y := .lit (.bool t8.1)) hk rfl rfl rfl rfl (FW.f_assign hk (FW.holds_nil _) rfl) ?_; clear hk; intro a w hk
  refine FW.lend (hK5 _ _ ?_); clear hK5 K'
  refine FW.wreg ?_; intro K' hK6
  refine FW.lfun (y := .lit (.pointer (some ⟨b1, 0, none⟩))) hk rfl rfl rfl rfl (FW.f_move hk (FW.holds_nil _) rfl) ?_; clear hk; intro a w hk
  obtain ⟨t9, hr_t9, h⟩ := FW.bnd h
  refine FW.l_callH (I1 := (ODevDev.items b1 zd5 zc5 zr5 t8.2)) (I2 := []) (js := [2, 2, 2]) hk rfl rfl rfl rfl rfl Go.Proofs.Try.func34 rfl (by kernel_rfl) (dev_Dev_Read.ok t8.2 0 _ hr_t9 b1 zd5 zc5 zr5) ?_; clear hk
  rintro _ _ ⟨zd6, zc6, zr6, rfl, rfl⟩ a w hk
  refine FW.lfun (y := .tup [.lit (.string (FW.B t9.1)), .lit (.int .i64 t9.2.1)]) hk rfl rfl rfl rfl (FW.f_move hk (FW.holds_nil _) rfl) ?_; clear hk; intro a w hk
  refine FW.lfun (y := .lit (.string (FW.B t9.1))) hk rfl rfl rfl rfl (FW.f_extract hk (FW.holds_nil _) rfl rfl) ?_; clear hk; intro a w hk
  refine FW.lfun (y := .lit (.int .i64 t9.2.1)) hk rfl rfl rfl rfl (FW.f_extract hk (FW.holds_nil _) rfl rfl) ?_; clear hk; intro a w hk
  refine FW.lfun (y := .lit (.string (FW.B t9.1))) hk rfl rfl rfl rfl (FW.f_assign hk (FW.holds_nil _) rfl) ?_; clear hk; intro a w hk
  refine FW.lfun (y := .lit (.int .i64 t9.2.1)) hk rfl rfl rfl rfl (FW.f_assign hk (FW.holds_nil _) rfl) ?_; clear hk; intro a w hk
  refine FW.lend (hK6 _ _ ?_); clear hK6 K'
  refine FW.wreg ?_; intro K' hK7
  refine FW.lfun (y := .lit (.pointer (some ⟨b1, 0, none⟩))) hk rfl rfl rfl rfl (FW.f_move hk (FW.holds_nil _) rfl) ?_; clear hk; intro a w hk
  obtain ⟨t10, hr_t10, h⟩ := FW.bnd h
  refine FW.l_callH (I1 := (ODevDev.items b1 zd6 zc6 zr6 t9.2.2)) (I2 := []) (js := [2, 2, 2]) hk rfl rfl rfl rfl rfl Go.Proofs.Try.func34 rfl (by kernel_rfl) (dev_Dev_Read.ok t9.2.2 1 _ hr_t10 b1 zd6 zc6 zr6) ?_; clear hk
  rintro _ _ ⟨zd7, zc7, zr7, rfl, rfl⟩ a w hk
  refine FW.lfun (y := .tup [.lit (.string (FW.B t10.1)), .lit (.int .i64 t10.2.1)]) hk rfl rfl rfl rfl (FW.f_move hk (FW.holds_nil _) rfl) ?_; clear hk; intro a w hk
  refine FW.lfun (y := .lit (.string (FW.B t10.1))) hk rfl rfl rfl rfl (FW.f_extract hk (FW.holds_nil _) rfl rfl) ?_; clear hk; intro a w hk
  refine FW.lfun (y := .lit (.int .i64 t10.2.1)) hk rfl rfl rfl rfl (FW.f_extract hk (FW.holds_nil _) rfl rfl) ?_; clear hk; intro a w hk
  refine FW.lfun (y := .lit (.string (FW.B t10.1))) hk rfl rfl rfl rfl (FW.f_assign hk (FW.holds_nil _) rfl) ?_; clear hk; intro a w hk
  refine FW.lfun (y := .lit (.int .i64 t10.2.1)) hk rfl rfl rfl rfl (FW.f_assign hk (FW.holds_nil _) rfl) ?_; clear hk; intro a w hk
  refine FW.lend (hK7 _ _ ?_); clear hK7 K'
  refine FW.wreg ?_; intro K' hK8
  refine FW.lfun (y := .lit (.int .i64 t1.2)) hk rfl rfl rfl rfl (FW.f_move hk (FW.holds_nil _) rfl) ?_; clear hk; intro a w hk
  refine FW.lfun (y := .lit (.bool (decide (t1.2 = 0)))) hk rfl rfl rfl rfl ((FW.f_pure (FW.p_eql hk.kn (FW.holds_nil _) rfl rfl))) ?_; clear hk; intro a w hk
  refine FW.lfun (y := .lit (.bool (decide (t1.2 = 0)))) hk rfl rfl rfl rfl (FW.f_move hk (FW.holds_nil _) rfl) ?_; clear hk; intro a w hk
  refine FW.lfunG (y := .lit (.int .i64 t3.1)) hk rfl rfl rfl rfl rfl rfl rfl rfl (fun hc => FW.f_move hk hc rfl) ?_; clear hk; intro a w hk
  refine FW.lfunG (y := .lit (.bool (decide (t3.1 = 0)))) hk rfl rfl rfl rfl rfl rfl rfl rfl (fun hc => (FW.f_pure (FW.p_eql hk.kn hc rfl rfl))) ?_; clear hk; intro a w hk
  refine FW.lfun (y := .lit (.bool ((decide (t1.2 = 0)) && (decide (t3.1 = 0))))) hk rfl rfl rfl rfl ((FW.f_pure (FW.p_pick_and hk.kn (FW.holds_nil _) rfl rfl))) ?_; clear hk; intro a w hk
  refine FW.lfun (y := .lit (.bool ((decide (t1.2 = 0)) && (decide (t3.1 = 0))))) hk rfl rfl rfl rfl (FW.f_move hk (FW.holds_nil _) rfl) ?_; clear hk; intro a w hk
  refine FW.lfunG (y := .lit (.int .i64 t4.1)) hk rfl rfl rfl rfl rfl rfl rfl rfl (fun hc => FW.f_move hk hc rfl) ?_; clear hk; intro a w hk
  refine FW.lfunG (y := .lit (.bool (decide (t4.1 = 0)))) hk rfl rfl rfl rfl rfl rfl rfl rfl (fun hc => (FW.f_pure (FW.p_eql hk.kn hc rfl rfl))) ?_; clear hk; intro a w hk
  refine FW.lfun (y := .lit (.bool (((decide (t1.2 = 0)) && (decide (t3.1 = 0))) && (decide (t4.1 = 0))))) hk rfl rfl rfl rfl ((FW.f_pure (FW.p_pick_and hk.kn (FW.holds_nil _) rfl rfl))) ?_; clear hk; intro a w hk
  refine FW.lfun (y := .lit (.bool (((decide (t1.2 = 0)) && (decide (t3.1 = 0))) && (decide (t4.1 = 0))))) hk rfl rfl rfl rfl (FW.f_move hk (FW.holds_nil _) rfl) ?_; clear hk; intro a w hk
  refine FW.lfunG (y := .lit (.int .i64 t6.1)) hk rfl rfl rfl rfl rfl rfl rfl rfl (fun hc => FW.f_move hk hc rfl) ?_; clear hk; intro a w hk
  refine FW.lfunG (y := .lit (.bool (decide (t6.1 = 0)))) hk rfl rfl rfl rfl rfl rfl rfl rfl (fun hc => (FW.f_pure (FW.p_eql hk.kn hc rfl rfl))) ?_; clear hk; intro a w hk
  refine FW.lfun (y := .lit (.bool ((((decide (t1.2 = 0)) && (decide (t3.1 = 0))) && (decide (t4.1 = 0))) && (decide (t6.1 = 0))))) hk rfl rfl rfl rfl ((FW.f_pure (FW.p_pick_and hk.kn (FW.holds_nil _) rfl rfl))) ?_; clear hk; intro a w hk
  refine FW.lfun (y := .lit (.bool ((((decide (t1.2 = 0)) && (decide (t3.1 = 0))) && (decide (t4.1 = 0))) && (decide (t6.1 = 0))))) hk rfl rfl rfl rfl (FW.f_move hk (FW.holds_nil _) rfl) ?_; clear hk; intro a w hk
  refine FW.lfunG (y := .lit (.bool t8.1)) hk rfl rfl rfl rfl rfl rfl rfl rfl (fun hc => FW.f_move hk hc rfl) ?_; clear hk; intro a w hk
  refine FW.lfun (y := .lit (.bool (((((decide (t1.2 = 0)) && (decide (t3.1 = 0))) && (decide (t4.1 = 0))) && (decide (t6.1 = 0))) && t8.1))) hk rfl rfl rfl rfl ((FW.f_pure (FW.p_pick_and hk.kn (FW.holds_nil _) rfl rfl))) ?_; clear hk; intro a w hk
  refine FW.lfun (y := .lit (.bool (((((decide (t1.2 = 0)) && (decide (t3.1 = 0))) && (decide (t4.1 = 0))) && (decide (t6.1 = 0))) && t8.1))) hk rfl rfl rfl rfl (FW.f_move hk (FW.holds_nil _) rfl) ?_; clear hk; intro a w hk
  refine FW.lfunG (y := .lit (.int .i64 t9.2.1)) hk rfl rfl rfl rfl rfl rfl rfl rfl (fun hc => FW.f_move hk hc rfl) ?_; clear hk; intro a w hk
  refine FW.lfunG (y := .lit (.bool (decide (t9.2.1 = 0)))) hk rfl rfl rfl rfl rfl rfl rfl rfl (fun hc => (FW.f_pure (FW.p_eql hk.kn hc rfl rfl))) ?_; clear hk; intro a w hk
  refine FW.lfun (y := .lit (.bool ((((((decide (t1.2 = 0)) && (decide (t3.1 = 0))) && (decide (t4.1 = 0))) && (decide (t6.1 = 0))) && t8.1) && (decide (t9.2.1 = 0))))) hk rfl rfl rfl rfl ((FW.f_pure (FW.p_pick_and hk.kn (FW.holds_nil _) rfl rfl))) ?_; clear hk; intro a w hk
  refine FW.lfun (y := .lit (.bool ((((((decide (t1.2 = 0)) && (decide (t3.1 = 0))) && (decide (t4.1 = 0))) && (decide (t6.1 = 0))) && t8.1) && (decide (t9.2.1 = 0))))) hk rfl rfl rfl rfl (FW.f_move hk (FW.holds_nil _) rfl) ?_; clear hk; intro a w hk
  refine FW.lfunG (y := .lit (.string (FW.B t9.1))) hk rfl rfl rfl rfl rfl rfl rfl rfl (fun hc => FW.f_move hk hc rfl) ?_; clear hk; intro a w hk
  obtain ⟨t11, hr_t11, h⟩ := FW.bndG h
  refine FW.lfunG (y := .lit (.string (FW.B t11))) hk rfl rfl rfl rfl rfl rfl rfl rfl (fun hc => FW.f_call hk hc rfl rfl Go.Proofs.Try.func30 rfl (by kernel_rfl) (offshootlaw03_sector.ok K 97 _ (hr_t11 (FW.asm_out (p := ((((((decide (t1.2 = 0)) && (decide (t3.1 = 0))) && (decide (t4.1 = 0))) && (decide (t6.1 = 0))) && t8.1) && (decide (t9.2.1 = 0))) = true) hk.kn hc (fun e0 => e0))))) ?_; clear hk; intro a w hk
  refine FW.lfunG (y := .lit (.bool (decide (t9.1 = t11)))) hk rfl rfl rfl rfl rfl rfl rfl rfl (fun hc => (FW.f_pure (FW.p_seql hk.kn hc rfl rfl))) ?_; clear hk; intro a w hk
  refine FW.lfun (y := .lit (.bool (((((((decide (t1.2 = 0)) && (decide (t3.1 = 0))) && (decide (t4.1 = 0))) && (decide (t6.1 = 0))) && t8.1) && (decide (t9.2.1 = 0))) && (decide (t9.1 = t11))))) hk rfl rfl rfl rfl ((FW.f_pure (FW.p_pick_and hk.kn (FW.holds_nil _) rfl rfl))) ?_; clear hk; intro a w hk
  refine FW.lfun (y := .lit (.bool (((((((decide (t1.2 = 0)) && (decide (t3.1 = 0))) && (decide (t4.1 = 0))) && (decide (t6.1 = 0))) && t8.1) && (decide (t9.2.1 = 0))) && (decide (t9.1 = t11))))) hk rfl rfl rfl rfl (FW.f_move hk (FW.holds_nil _) rfl) ?_; clear hk; intro a w hk
  refine FW.lfunG (y := .lit (.int .i64 t10.2.1)) hk rfl rfl rfl rfl rfl rfl rfl rfl (fun hc => FW.f_move hk hc rfl) ?_; clear hk; intro a w hk
  refine FW.lfunG (y := .lit (.bool (decide (t10.2.1 = 0)))) hk rfl rfl rfl rfl rfl rfl rfl rfl (fun hc => (FW.f_pure (FW.p_eql hk.kn hc rfl rfl))) ?_; clear hk; intro a w hk
  refine FW.lfun (y := .lit (.bool ((((((((decide (t1.2 = 0)) && (decide (t3.1 = 0))) && (decide (t4.1 = 0))) && (decide (t6.1 = 0))) && t8.1) && (decide (t9.2.1 = 0))) && (decide (t9.1 = t11))) && (decide (t10.2.1 = 0))))) hk rfl rfl rfl rfl ((FW.f_pure (FW.p_pick_and hk.kn (FW.holds_nil _) rfl rfl))) ?_; clear hk; intro a w hk
  refine FW.lfun (y := .lit (.bool ((((((((decide (t1.2 = 0)) && (decide (t3.1 = 0))) && (decide (t4.1 = 0))) && (decide (t6.1 = 0))) && t8.1) && (decide (t9.2.1 = 0))) && (decide (t9.1 = t11))) && (decide (t10.2.1 = 0))))) hk rfl rfl rfl rfl (FW.f_move hk (FW.holds_nil _) rfl) ?_; clear hk; intro a w hk
  refine FW.lfunG (y := .lit (.string (FW.B t10.1))) hk rfl rfl rfl rfl rfl rfl rfl rfl (fun hc => FW.f_move hk hc rfl) ?_; clear hk; intro a w hk
  obtain ⟨t12, hr_t12, h⟩ := FW.bndG h
  refine FW.lfunG (y := .lit (.string (FW.B t12))) hk rfl rfl rfl rfl rfl rfl rfl rfl (fun hc => FW.f_call hk hc rfl rfl Go.Proofs.Try.func30 rfl (by kernel_rfl) (offshootlaw03_sector.ok K 0 _ (hr_t12 (FW.asm_out (p := ((((((((decide (t1.2 = 0)) && (decide (t3.1 = 0))) && (decide (t4.1 = 0))) && (decide (t6.1 = 0))) && t8.1) && (decide (t9.2.1 = 0))) && (decide (t9.1 = t11))) && (decide (t10.2.1 = 0))) = true) hk.kn hc (fun e0 => e0))))) ?_; clear hk; intro a w hk
  refine FW.lfunG (y := .lit (.bool (decide (t10.1 = t12)))) hk rfl rfl rfl rfl rfl rfl rfl rfl (fun hc => (FW.f_pure (FW.p_seql hk.kn hc rfl rfl))) ?_; clear hk; intro a w hk
  refine FW.lfun (y := .lit (.bool (((((((((decide (t1.2 = 0)) && (decide (t3.1 = 0))) && (decide (t4.1 = 0))) && (decide (t6.1 = 0))) && t8.1) && (decide (t9.2.1 = 0))) && (decide (t9.1 = t11))) && (decide (t10.2.1 = 0))) && (decide (t10.1 = t12))))) hk rfl rfl rfl rfl ((FW.f_pure (FW.p_pick_and hk.kn (FW.holds_nil _) rfl rfl))) ?_; clear hk; intro a w hk
  refine FW.lfun (y := .lit (.bool (((((((((decide (t1.2 = 0)) && (decide (t3.1 = 0))) && (decide (t4.1 = 0))) && (decide (t6.1 = 0))) && t8.1) && (decide (t9.2.1 = 0))) && (decide (t9.1 = t11))) && (decide (t10.2.1 = 0))) && (decide (t10.1 = t12))))) hk rfl rfl rfl rfl (FW.f_assign hk (FW.holds_nil _) rfl) ?_; clear hk; intro a w hk
  refine FW.lend (hK8 _ _ ?_); clear hK8 K'
  refine wp_ret ?_
  (repeat first | refine FW.then_ret ?_ | refine FW.block_ret ?_)
  obtain rfl := Option.some.inj h
  exact FW.fret1 hk rfl rfl

theorem offshootlaw03_DevSure.ok (K : Nat) (v0 : List Offshootlaw03Act) (v1 : List Offshootlaw03Act) (v2 : ApiFall) (r : Bool) (h : offshootlaw03_DevSure.f K v0 v1 v2 = some r) :
    FW.Ok Go.Proofs.Try.prog 5 [.row (r_Offshootlaw03Act_cells v0), .row (r_Offshootlaw03Act_cells v1), .agg (ApiFall.cells v2)] (.lit (.bool r)) := by
  refine FW.enter (xs := [.row (r_Offshootlaw03Act_cells v0), .row (r_Offshootlaw03Act_cells v1), .agg (ApiFall.cells v2)]) Go.Proofs.Try.func5 rfl Go.Proofs.Try.ntmps5 rfl ?_
  intro M w0 a hk
  unfold offshootlaw03_DevSure.f at h
  refine FW.wreg ?_; intro K' hK1
  refine FW.l_box (cs := (ApiFall.cells v2)) hk rfl rfl rfl rfl rfl ?_; clear hk; intro b1 a w hk
  refine FW.lfun (y := .lit (.bool false)) hk rfl rfl rfl rfl (FW.f_assign hk (FW.holds_nil _) rfl) ?_; clear hk; intro a w hk
  refine FW.lend (hK1 _ _ ?_); clear hK1 K'
  refine FW.wreg ?_; intro K' hK2
  obtain ⟨t1, hr_t1, h⟩ := FW.bnd h
  refine FW.l_callH (I1 := ([] : List FW.It)) (I2 := [FW.blk b1 45 ((ApiFall.cells v2))]) (js := []) hk rfl rfl rfl rfl rfl Go.Proofs.Try.func27 rfl (by kernel_rfl) (dev_New.ok K 9 _ hr_t1 ) ?_; clear hk
  rintro _ _ ⟨b2, xdNt1_0_0, xcNt1_0_0, xrNt1_0_1, rfl, rfl⟩ a w hk
  refine FW.lfun (y := .tup [.lit (.pointer (some ⟨b2, 0, none⟩)), .lit (.int .i64 t1.2)]) hk rfl rfl rfl rfl (FW.f_move hk (FW.holds_nil _) rfl) ?_; clear hk; intro a w hk
  refine FW.lfun (y := .lit (.pointer (some ⟨b2, 0, none⟩))) hk rfl rfl rfl rfl (FW.f_extract hk (FW.holds_nil _) rfl rfl) ?_; clear hk; intro a w hk
  refine FW.lfun (y := .lit (.int .i64 t1.2)) hk rfl rfl rfl rfl (FW.f_extract hk (FW.holds_nil _) rfl rfl) ?_; clear hk; intro a w hk
  refine FW.lfun (y := .lit (.pointer (some ⟨b2, 0, none⟩))) hk rfl rfl rfl rfl (FW.f_assign hk (FW.holds_nil _) rfl) ?_; clear hk; intro a w hk
  refine FW.lfun (y := .lit (.int .i64 t1.2)) hk rfl rfl rfl rfl (FW.f_assign hk (FW.holds_nil _) rfl) ?_; clear hk; intro a w hk
  refine FW.lend (hK2 _ _ ?_); clear hK2 K'
  refine FW.wseq ?_; intro K' hK3
  refine FW.wreg ?_; intro K' hK4
  obtain ⟨t2, hr_t2, h⟩ := FW.bnd h
  refine FW.lfun (y := .lit (.bool t2)) hk rfl rfl rfl rfl (FW.f_call hk (FW.holds_nil _) rfl rfl Go.Proofs.Try.func28 rfl (by kernel_rfl) (offshootlaw03_awake.ok K  _ hr_t2)) ?_; clear hk; intro a w hk
  refine FW.lfun (y := .lit (.bool (!t2))) hk rfl rfl rfl rfl ((FW.f_pure (FW.p_not hk.kn (FW.holds_nil _) rfl))) ?_; clear hk; intro a w hk
  refine FW.lfun (y := .lit (.bool (!t2))) hk rfl rfl rfl rfl (FW.f_move hk (FW.holds_nil _) rfl) ?_; clear hk; intro a w hk
  refine FW.lfunG (y := .lit (.int .i64 t1.2)) hk rfl rfl rfl rfl rfl rfl rfl rfl (fun hc => FW.f_move hk hc rfl) ?_; clear hk; intro a w hk
  refine FW.lfunG (y := .lit (.bool (!decide (t1.2 = 0)))) hk rfl rfl rfl rfl rfl rfl rfl rfl (fun hc => (FW.f_pure (FW.p_neq hk.kn hc rfl rfl))) ?_; clear hk; intro a w hk
  refine FW.lfun (y := .lit (.bool ((!t2) || (!decide (t1.2 = 0))))) hk rfl rfl rfl rfl ((FW.f_pure (FW.p_pick_or hk.kn (FW.holds_nil _) rfl rfl))) ?_; clear hk; intro a w hk
  refine FW.lend (hK4 _ _ ?_); clear hK4 K'
  refine FW.wcondF (b := ((!t2) || (!decide (t1.2 = 0)))) hk h rfl (fun h hb => ?_) (fun h hb => ?_)
  · skip
    refine FW.wreg ?_; intro K' hK5
    refine FW.lfun (y := .lit (.bool false)) hk rfl rfl rfl rfl (FW.f_assign hk (FW.holds_nil _) rfl) ?_; clear hk; intro a w hk
    refine FW.lend (hK5 _ _ ?_); clear hK5 K'
    refine wp_ret ?_
    (repeat first | refine FW.then_ret ?_ | refine FW.block_ret ?_)
    obtain rfl := Option.some.inj h
    exact FW.fret1 hk rfl rfl
  · skip
    refine wp_skip ?_
    (repeat first | refine FW.then_normal ?_ | refine FW.block_normal ?_); refine hK3 _ _ ?_
    refine FW.wseq ?_; intro K' hK6
    refine FW.wreg ?_; intro K' hK7
    refine FW.lfun (y := .lit (.int .i64 0)) hk rfl rfl rfl rfl (FW.f_assign hk (FW.holds_nil _) rfl) ?_; clear hk; intro a w hk
    refine FW.lend (hK7 _ _ ?_); clear hK7 K'
    refine wp_block ?_
    refine FW.wloop (T := Nat × Int × Bool × List (List UInt8) × (List (Int × (List UInt8))) × ApiFall × List Offshootlaw03Act × List Offshootlaw03Act × Int × Option Addr × Nat × Nat) (fun x a w => match x with | (kl1, y2_2, y2_4, l3, m4, y1, v0, v1, v9, xd3, xc3, xr4) => FW.S M w0 a w 136 [FW.blk b2 109 ([.lit (.slice xd3 (List.length l3) xc3)] ++ [.lit (.map (some xr4))] ++ [.lit (.int .i64 y2_2)] ++ [.lit (.slice none 0 0)] ++ [.lit (.bool y2_4)]), FW.orow xd3 xc3 9 1 c_str l3, FW.mapI (.int .i64) (Value.int .i64) FW.evS xr4 m4, FW.blk b1 45 ((ApiFall.cells y1))] [(0, [], .row (r_Offshootlaw03Act_cells v0)), (1, [], .row (r_Offshootlaw03Act_cells v1)), (5, [], .lit (.pointer (some ⟨b1, 0, none⟩))), (7, [], .lit (.pointer (some ⟨b2, 0, none⟩))), (9, [], .lit (.int .i64 v9))] ∧ offshootlaw03_DevSure.l1 K kl1 y2_2 y2_4 l3 m4 y1 v0 v1 v9 = some r) (fun x => x.1) (K, t1.1.steps, t1.1.off, t1.1.sure, t1.1.cache, v2, v0, v1, 0, xdNt1_0_0, xcNt1_0_0, xrNt1_0_1) ⟨hk.sub ⟨rfl, rfl, rfl, rfl, rfl, trivial⟩, h⟩ ?_
    clear hk h
    rintro ⟨kl1, y2_2, y2_4, l3, m4, y1, v0, v1, v9, xd3, xc3, xr4⟩ a w ⟨hk, h⟩ K' hK8
    cases kl1 with
    | zero => simp [offshootlaw03_DevSure.l1] at h
    | succ kl1 =>
    rw [offshootlaw03_DevSure.l1.eq_2] at h
    refine FW.wseq ?_; intro K' hK9
    refine FW.wreg ?_; intro K' hK10
    refine FW.lfun (y := .lit (.int .i64 v9)) hk rfl rfl rfl rfl (FW.f_move hk (FW.holds_nil _) rfl) ?_; clear hk; intro a w hk
    refine FW.lfun (y := .row (r_Offshootlaw03Act_cells v0)) hk rfl rfl rfl rfl (FW.f_move hk (FW.holds_nil _) rfl) ?_; clear hk; intro a w hk
    refine FW.lfun (y := .lit (.int .i64 (List.length v0 : Int))) hk rfl rfl rfl rfl (FW.f_len (R := r_Offshootlaw03Act_cells) (f := Offshootlaw03Act.cells) (l := v0) r_Offshootlaw03Act_cells_eq Go.Proofs.Try.underlying43 hk (FW.holds_nil _) rfl) ?_; clear hk; intro a w hk
    refine FW.lfun (y := .lit (.bool (decide (v9 < (List.length v0 : Int))))) hk rfl rfl rfl rfl ((FW.f_pure (FW.p_lss hk.kn (FW.holds_nil _) rfl rfl))) ?_; clear hk; intro a w hk
    refine FW.lfun (y := .lit (.bool (decide (v9 < (List.length v0 : Int))))) hk rfl rfl rfl rfl (FW.f_move hk (FW.holds_nil _) rfl) ?_; clear hk; intro a w hk
    refine FW.lfunG (y := .lit (.int .i64 v9)) hk rfl rfl rfl rfl rfl rfl rfl rfl (fun hc => FW.f_move hk hc rfl) ?_; clear hk; intro a w hk
    refine FW.lfunG (y := .lit (.bool (decide (v9 < 20)))) hk rfl rfl rfl rfl rfl rfl rfl rfl (fun hc => (FW.f_pure (FW.p_lss hk.kn hc rfl rfl))) ?_; clear hk; intro a w hk
    refine FW.lfun (y := .lit (.bool ((decide (v9 < (List.length v0 : Int))) && (decide (v9 < 20))))) hk rfl rfl rfl rfl ((FW.f_pure (FW.p_pick_and hk.kn (FW.holds_nil _) rfl rfl))) ?_; clear hk; intro a w hk
    refine FW.lend (hK10 _ _ ?_); clear hK10 K'
    refine FW.wcondF (b := ((decide (v9 < (List.length v0 : Int))) && (decide (v9 < 20)))) hk h rfl (fun h hb => ?_) (fun h hb => ?_)
    · skip
      refine wp_skip ?_
      (repeat first | refine FW.then_normal ?_ | refine FW.block_normal ?_); refine hK9 _ _ ?_
      refine FW.wseqJ (fun a w => ∃ (y2_2 : Int) (y2_4 : Bool) (l3 : List (List UInt8)) (m4 : List (Int × (List UInt8))) (y1 : ApiFall) (v0 : List Offshootlaw03Act) (v1 : List Offshootlaw03Act) (v9 : Int) (xd3 : Option Addr) (xc3 : Nat) (xr4 : Nat), FW.S M w0 a w 136 [FW.blk b2 109 ([.lit (.slice xd3 (List.length l3) xc3)] ++ [.lit (.map (some xr4))] ++ [.lit (.int .i64 y2_2)] ++ [.lit (.slice none 0 0)] ++ [.lit (.bool y2_4)]), FW.orow xd3 xc3 9 1 c_str l3, FW.mapI (.int .i64) (Value.int .i64) FW.evS xr4 m4, FW.blk b1 45 ((ApiFall.cells y1))] [(0, [], .row (r_Offshootlaw03Act_cells v0)), (1, [], .row (r_Offshootlaw03Act_cells v1)), (5, [], .lit (.pointer (some ⟨b1, 0, none⟩))), (7, [], .lit (.pointer (some ⟨b2, 0, none⟩))), (9, [], .lit (.int .i64 v9))] ∧ offshootlaw03_DevSure.j1 (offshootlaw03_DevSure.l1 K kl1) K y2_2 y2_4 l3 m4 y1 v0 v1 v9 = some r) ?_ ?_
      · clear hk h
        rintro a w ⟨y2_2, y2_4, l3, m4, y1, v0, v1, v9, xd3, xc3, xr4, hk, h⟩
        unfold offshootlaw03_DevSure.j1 at h
        refine FW.wreg1 ?_
        refine FW.lfun (y := .lit (.int .i64 v9)) hk rfl rfl rfl rfl (FW.f_move hk (FW.holds_nil _) rfl) ?_; clear hk; intro a w hk
        refine FW.lfun (y := .lit (.int .i64 (IntKind.wrap .i64 (v9 + 1)))) hk rfl rfl rfl rfl ((FW.f_pure (FW.p_add hk.kn (FW.holds_nil _) rfl rfl))) ?_; clear hk; intro a w hk
        refine FW.lfun (y := .lit (.int .i64 (IntKind.wrap .i64 (v9 + 1)))) hk rfl rfl rfl rfl (FW.f_assign hk (FW.holds_nil _) rfl) ?_; clear hk; intro a w hk
        refine wpList_nil ?_
        (repeat first | refine FW.then_normal ?_ | refine FW.block_normal ?_); exact hK8 (kl1, y2_2, y2_4, l3, m4, y1, v0, v1, (IntKind.wrap .i64 (v9 + 1)), xd3, xc3, xr4) _ _ (Nat.lt_succ_self _) ⟨hk.sub ⟨rfl, rfl, rfl, rfl, rfl, trivial⟩, h⟩
      · intro K' hK11
        refine wp_block ?_
        refine FW.wreg ?_; intro K' hK13
        refine FW.lfun (y := .row (r_Offshootlaw03Act_cells v0)) hk rfl rfl rfl rfl (FW.f_move hk (FW.holds_nil _) rfl) ?_; clear hk; intro a w hk
        refine FW.lfun (y := .lit (.int .i64 v9)) hk rfl rfl rfl rfl (FW.f_move hk (FW.holds_nil _) rfl) ?_; clear hk; intro a w hk
        obtain ⟨hc1, h⟩ := FW.chk h
        refine FW.lfun (y := .ref (Offshootlaw03Act.cells (List.getD v0 (Int.toNat v9) default))) hk rfl rfl rfl rfl (FW.f_indexAddr (R := r_Offshootlaw03Act_cells) (f := Offshootlaw03Act.cells) (l := v0) (sz := 7) r_Offshootlaw03Act_cells_eq (fun _ => rfl) hk (FW.holds_nil _) rfl rfl Go.Proofs.Try.underlying43 (by kernel_rfl) hc1) ?_; clear hk; intro a w hk
        refine FW.lfun (y := .ref (List.drop 0 (Offshootlaw03Act.cells (List.getD v0 (Int.toNat v9) default)))) hk rfl rfl rfl rfl (FW.f_fieldAddr hk (FW.holds_nil _) rfl Go.Proofs.Try.underlying51 rfl (by kernel_rfl) rfl) ?_; clear hk; intro a w hk
        refine FW.lfun (y := .lit (.int .i64 ((List.getD v0 (Int.toNat v9) default).Kind))) hk rfl rfl rfl rfl (FW.f_load1 hk (FW.holds_nil _) rfl rfl Go.Proofs.Try.underlying3 rfl) ?_; clear hk; intro a w hk
        refine FW.lfun (y := .lit (.bool (decide (((List.getD v0 (Int.toNat v9) default).Kind) < 3)))) hk rfl rfl rfl rfl ((FW.f_pure (FW.p_lss hk.kn (FW.holds_nil _) rfl rfl))) ?_; clear hk; intro a w hk
        refine FW.lfun (y := .lit (.bool (decide (((List.getD v0 (Int.toNat v9) default).Kind) < 3)))) hk rfl rfl rfl rfl (FW.f_move hk (FW.holds_nil _) rfl) ?_; clear hk; intro a w hk
        refine FW.lfunG (y := .row (r_Offshootlaw03Act_cells v0)) hk rfl rfl rfl rfl rfl rfl rfl rfl (fun hc => FW.f_move hk hc rfl) ?_; clear hk; intro a w hk
        refine FW.lfunG (y := .lit (.int .i64 v9)) hk rfl rfl rfl rfl rfl rfl rfl rfl (fun hc => FW.f_move hk hc rfl) ?_; clear hk; intro a w hk
        obtain ⟨hc2, h⟩ := FW.chk h
        refine FW.lfunG (y := .ref (Offshootlaw03Act.cells (List.getD v0 (Int.toNat v9) default))) hk rfl rfl rfl rfl rfl rfl rfl rfl (fun hc => FW.f_indexAddr (R := r_Offshootlaw03Act_cells) (f := Offshootlaw03Act.cells) (l := v0) (sz := 7) r_Offshootlaw03Act_cells_eq (fun _ => rfl) hk hc rfl rfl Go.Proofs.Try.underlying43 (by kernel_rfl) hc2) ?_; clear hk; intro a w hk
        refine FW.lfunG (y := .ref (List.drop 3 (Offshootlaw03Act.cells (List.getD v0 (Int.toNat v9) default)))) hk rfl rfl rfl rfl rfl rfl rfl rfl (fun hc => FW.f_fieldAddr hk hc rfl Go.Proofs.Try.underlying51 rfl (by kernel_rfl) rfl) ?_; clear hk; intro a w hk
        refine FW.lfunG (y := .lit (.bool ((List.getD v0 (Int.toNat v9) default).Odd))) hk rfl rfl rfl rfl rfl rfl rfl rfl (fun hc => FW.f_load1 hk hc rfl rfl Go.Proofs.Try.underlying4 rfl) ?_; clear hk; intro a w hk
        refine FW.lfunG (y := .lit (.bool (!((List.getD v0 (Int.toNat v9) default).Odd)))) hk rfl rfl rfl rfl rfl rfl rfl rfl (fun hc => (FW.f_pure (FW.p_not hk.kn hc rfl))) ?_; clear hk; intro a w hk
        refine FW.lfun (y := .lit (.bool ((decide (((List.getD v0 (Int.toNat v9) default).Kind) < 3)) && (!((List.getD v0 (Int.toNat v9) default).Odd))))) hk rfl rfl rfl rfl ((FW.f_pure (FW.p_pick_and hk.kn (FW.holds_nil _) rfl rfl))) ?_; clear hk; intro a w hk
        refine FW.lend (hK13 _ _ ?_); clear hK13 K'
        refine FW.wcondF (b := ((decide (((List.getD v0 (Int.toNat v9) default).Kind) < 3)) && (!((List.getD v0 (Int.toNat v9) default).Odd)))) hk h rfl (fun h hb => ?_) (fun h hb => ?_)
        · skip
          obtain ⟨hc3, h⟩ := FW.chk h
          obtain ⟨hc4, h⟩ := FW.chk h
          obtain ⟨t3, hr_t3, h⟩ := FW.bnd h
          obtain ⟨t4, hr_t4, h⟩ := FW.bnd h
          refine FW.wdrawE1 (need := [false, false, false, false, false, false, false, false, false, false, false, false, false]) [(12, [true, true, true, true, true, true, true, true, true, true, true, true, false], [true, true, true, true, true, true, true, true, true, true, true, true, false])] [(50, [], .lit (.pointer (some ⟨b2, 0, none⟩))), (51, [], .row (r_Offshootlaw03Act_cells v0)), (52, [], .lit (.int .i64 v9)), (53, [], .ref (Offshootlaw03Act.cells (List.getD v0 (Int.toNat v9) default))), (54, [], .ref (List.drop 1 (Offshootlaw03Act.cells (List.getD v0 (Int.toNat v9) default)))), (55, [], .lit (.int .i64 ((List.getD v0 (Int.toNat v9) default).At))), (56, [], .row (r_Offshootlaw03Act_cells v0)), (57, [], .lit (.int .i64 v9)), (58, [], .ref (Offshootlaw03Act.cells (List.getD v0 (Int.toNat v9) default))), (59, [], .ref (List.drop 2 (Offshootlaw03Act.cells (List.getD v0 (Int.toNat v9) default)))), (60, [], .lit (.int .u8 ((List.getD v0 (Int.toNat v9) default).C))), (61, [], .lit (.string (FW.B t3))), (62, [], .agg [])] (by kernel_rfl) (by kernel_rfl) (by kernel_rfl) (by kernel_rfl) hk ?_; clear hk
          refine FW.gnext ?_ rfl rfl rfl rfl rfl ?_
          · skip
            refine FW.gfun (y := .lit (.pointer (some ⟨b2, 0, none⟩))) rfl rfl rfl rfl (fun a w hk => FW.f_move hk (FW.holds_nil _) rfl) ?_
            refine FW.gfun (y := .row (r_Offshootlaw03Act_cells v0)) rfl rfl rfl rfl (fun a w hk => FW.f_move hk (FW.holds_nil _) rfl) ?_
            refine FW.gfun (y := .lit (.int .i64 v9)) rfl rfl rfl rfl (fun a w hk => FW.f_move hk (FW.holds_nil _) rfl) ?_
            refine FW.gfun (y := .ref (Offshootlaw03Act.cells (List.getD v0 (Int.toNat v9) default))) rfl rfl rfl rfl (fun a w hk => FW.f_indexAddr (R := r_Offshootlaw03Act_cells) (f := Offshootlaw03Act.cells) (l := v0) (sz := 7) r_Offshootlaw03Act_cells_eq (fun _ => rfl) hk (FW.holds_nil _) rfl rfl Go.Proofs.Try.underlying43 (by kernel_rfl) hc3) ?_
            refine FW.gfun (y := .ref (List.drop 1 (Offshootlaw03Act.cells (List.getD v0 (Int.toNat v9) default)))) rfl rfl rfl rfl (fun a w hk => FW.f_fieldAddr hk (FW.holds_nil _) rfl Go.Proofs.Try.underlying51 rfl (by kernel_rfl) rfl) ?_
            refine FW.gfun (y := .lit (.int .i64 ((List.getD v0 (Int.toNat v9) default).At))) rfl rfl rfl rfl (fun a w hk => FW.f_load1 hk (FW.holds_nil _) rfl rfl Go.Proofs.Try.underlying3 rfl) ?_
            refine FW.gfun (y := .row (r_Offshootlaw03Act_cells v0)) rfl rfl rfl rfl (fun a w hk => FW.f_move hk (FW.holds_nil _) rfl) ?_
            refine FW.gfun (y := .lit (.int .i64 v9)) rfl rfl rfl rfl (fun a w hk => FW.f_move hk (FW.holds_nil _) rfl) ?_
            refine FW.gfun (y := .ref (Offshootlaw03Act.cells (List.getD v0 (Int.toNat v9) default))) rfl rfl rfl rfl (fun a w hk => FW.f_indexAddr (R := r_Offshootlaw03Act_cells) (f := Offshootlaw03Act.cells) (l := v0) (sz := 7) r_Offshootlaw03Act_cells_eq (fun _ => rfl) hk (FW.holds_nil _) rfl rfl Go.Proofs.Try.underlying43 (by kernel_rfl) hc4) ?_
            refine FW.gfun (y := .ref (List.drop 2 (Offshootlaw03Act.cells (List.getD v0 (Int.toNat v9) default)))) rfl rfl rfl rfl (fun a w hk => FW.f_fieldAddr hk (FW.holds_nil _) rfl Go.Proofs.Try.underlying51 rfl (by kernel_rfl) rfl) ?_
            refine FW.gfun (y := .lit (.int .u8 ((List.getD v0 (Int.toNat v9) default).C))) rfl rfl rfl rfl (fun a w hk => FW.f_load1 hk (FW.holds_nil _) rfl rfl Go.Proofs.Try.underlying5 rfl) ?_
            refine FW.gfun (y := .lit (.string (FW.B t3))) rfl rfl rfl rfl (fun a w hk => FW.f_call hk (FW.holds_nil _) rfl rfl Go.Proofs.Try.func30 rfl (by kernel_rfl) (offshootlaw03_sector.ok K ((List.getD v0 (Int.toNat v9) default).C) _ hr_t3)) ?_
            refine FW.gskip rfl rfl ?_
            exact FW.gend
          · skip
            intro σD a w opsD QD hk hf hQ
            refine FW.l_callH (I1 := (ODevDev.items b2 xd3 xc3 xr4 (⟨l3, m4, y2_2, y2_4⟩ : ODevDev))) (I2 := [FW.blk b1 45 ((ApiFall.cells y1))]) (js := [2, 2, 2]) hk rfl rfl hf rfl rfl Go.Proofs.Try.func29 rfl (by kernel_rfl) (dev_Dev_Write.ok K (⟨l3, m4, y2_2, y2_4⟩ : ODevDev) ((List.getD v0 (Int.toNat v9) default).At) t3 _ hr_t4 b2 xd3 xc3 xr4) ?_; clear hk
            rintro _ _ ⟨zd1, zc1, zr1, rfl, rfl⟩ a w hk
            refine hQ _ _ a w ?_ hk; clear hk hQ hf
            refine ⟨[(50, [], .lit (.pointer (some ⟨b2, 0, none⟩))), (51, [], .row (r_Offshootlaw03Act_cells v0)), (52, [], .lit (.int .i64 v9)), (53, [], .ref (Offshootlaw03Act.cells (List.getD v0 (Int.toNat v9) default))), (54, [], .ref (List.drop 1 (Offshootlaw03Act.cells (List.getD v0 (Int.toNat v9) default)))), (55, [], .lit (.int .i64 ((List.getD v0 (Int.toNat v9) default).At))), (56, [], .row (r_Offshootlaw03Act_cells v0)), (57, [], .lit (.int .i64 v9)), (58, [], .ref (Offshootlaw03Act.cells (List.getD v0 (Int.toNat v9) default))), (59, [], .ref (List.drop 2 (Offshootlaw03Act.cells (List.getD v0 (Int.toNat v9) default)))), (60, [], .lit (.int .u8 ((List.getD v0 (Int.toNat v9) default).C))), (61, [], .lit (.string (FW.B t3))), (62, [], .lit (.int .i64 t4.1))], And.intro rfl (And.intro rfl (And.intro rfl (And.intro rfl (And.intro rfl (And.intro rfl (And.intro rfl (And.intro rfl (And.intro rfl (And.intro rfl (And.intro rfl (And.intro rfl (trivial)))))))))))), rfl, ?_⟩
            refine FW.glast ?_ ?_
            · skip
              refine FW.gskip rfl rfl ?_
              refine FW.gskip rfl rfl ?_
              refine FW.gskip rfl rfl ?_
              refine FW.gskip rfl rfl ?_
              refine FW.gskip rfl rfl ?_
              refine FW.gskip rfl rfl ?_
              refine FW.gskip rfl rfl ?_
              refine FW.gskip rfl rfl ?_
              refine FW.gskip rfl rfl ?_
              refine FW.gskip rfl rfl ?_
              refine FW.gskip rfl rfl ?_
              refine FW.gskip rfl rfl ?_
              refine FW.gskip rfl rfl ?_
              exact FW.gend
            · skip
              intro a w hk; simp only [FW.stD, cond_true] at hk
              (repeat first | refine FW.then_normal ?_ | refine FW.block_normal ?_); exact hK11 _ _ ⟨t4.2.steps, t4.2.off, t4.2.sure, t4.2.cache, y1, v0, v1, v9, zd1, zc1, zr1, hk.sub ⟨rfl, rfl, rfl, rfl, rfl, trivial⟩, h⟩
        · skip
          refine wp_skip ?_
          (repeat first | refine FW.then_normal ?_ | refine FW.block_normal ?_); exact hK11 _ _ ⟨y2_2, y2_4, l3, m4, y1, v0, v1, v9, xd3, xc3, xr4, hk.sub ⟨rfl, rfl, rfl, rfl, rfl, trivial⟩, h⟩
    · skip
      refine wp_exit ?_; (repeat first | refine FW.then_exit ?_ | refine FW.block_exit_ne rfl ?_); refine FW.block_exit ?_
      (repeat first | refine FW.then_normal ?_ | refine FW.block_normal ?_); refine hK6 _ _ ?_
      refine FW.wreg ?_; intro K' hK15
      refine FW.lfun (y := .lit (.pointer (some ⟨b2, 0, none⟩))) hk rfl rfl rfl rfl (FW.f_move hk (FW.holds_nil _) rfl) ?_; clear hk; intro a w hk
      obtain ⟨t5, hr_t5, h⟩ := FW.bnd h
      refine FW.lfun (y := .lit (.string (FW.B t5))) hk rfl rfl rfl rfl (FW.f_call hk (FW.holds_nil _) rfl rfl Go.Proofs.Try.func30 rfl (by kernel_rfl) (offshootlaw03_sector.ok K 115 _ hr_t5)) ?_; clear hk; intro a w hk
      obtain ⟨t6, hr_t6, h⟩ := FW.bnd h
      refine FW.l_callH (I1 := (ODevDev.items b2 xd3 xc3 xr4 (⟨l3, m4, y2_2, y2_4⟩ : ODevDev))) (I2 := [FW.blk b1 45 ((ApiFall.cells y1))]) (js := [2, 2, 2]) hk rfl rfl rfl rfl rfl Go.Proofs.Try.func29 rfl (by kernel_rfl) (dev_Dev_Write.ok K (⟨l3, m4, y2_2, y2_4⟩ : ODevDev) 4 t5 _ hr_t6 b2 xd3 xc3 xr4) ?_; clear hk
      rintro _ _ ⟨zd2, zc2, zr2, rfl, rfl⟩ a w hk
      refine FW.lfun (y := .lit (.int .i64 t6.1)) hk rfl rfl rfl rfl (FW.f_assign hk (FW.holds_nil _) rfl) ?_; clear hk; intro a w hk
      refine FW.lend (hK15 _ _ ?_); clear hK15 K'
      refine FW.wreg ?_; intro K' hK16
      refine FW.lfun (y := .lit (.pointer (some ⟨b2, 0, none⟩))) hk rfl rfl rfl rfl (FW.f_move hk (FW.holds_nil _) rfl) ?_; clear hk; intro a w hk
      obtain ⟨t7, hr_t7, h⟩ := FW.bnd h
      refine FW.l_callH (I1 := (ODevDev.items b2 zd2 zc2 zr2 t6.2)) (I2 := [FW.blk b1 45 ((ApiFall.cells y1))]) (js := [2, 2, 2]) hk rfl rfl rfl rfl rfl Go.Proofs.Try.func31 rfl (by kernel_rfl) (dev_Dev_Flush.ok K t6.2 _ hr_t7 b2 zd2 zc2 zr2) ?_; clear hk
      rintro _ _ ⟨zd3, zc3, zr3, rfl, rfl⟩ a w hk
      refine FW.lfun (y := .lit (.int .i64 t7.1)) hk rfl rfl rfl rfl (FW.f_assign hk (FW.holds_nil _) rfl) ?_; clear hk; intro a w hk
      refine FW.lend (hK16 _ _ ?_); clear hK16 K'
      refine FW.wseq ?_; intro K' hK17
      refine FW.wreg ?_; intro K' hK18
      refine FW.lfun (y := .lit (.int .i64 0)) hk rfl rfl rfl rfl (FW.f_assign hk (FW.holds_nil _) rfl) ?_; clear hk; intro a w hk
      refine FW.lend (hK18 _ _ ?_); clear hK18 K'
      refine wp_block ?_
      refine FW.wloop (T := Nat × Int × Bool × List (List UInt8) × (List (Int × (List UInt8))) × ApiFall × List Offshootlaw03Act × Int × Int × Int × Option Addr × Nat × Nat) (fun x a w => match x with | (kl2, y2_2, y2_4, l3, m4, y1, v1, v10, v11, v12, xd3, xc3, xr4) => FW.S M w0 a w 136 [FW.blk b2 109 ([.lit (.slice xd3 (List.length l3) xc3)] ++ [.lit (.map (some xr4))] ++ [.lit (.int .i64 y2_2)] ++ [.lit (.slice none 0 0)] ++ [.lit (.bool y2_4)]), FW.orow xd3 xc3 9 1 c_str l3, FW.mapI (.int .i64) (Value.int .i64) FW.evS xr4 m4, FW.blk b1 45 ((ApiFall.cells y1))] [(1, [], .row (r_Offshootlaw03Act_cells v1)), (5, [], .lit (.pointer (some ⟨b1, 0, none⟩))), (7, [], .lit (.pointer (some ⟨b2, 0, none⟩))), (10, [], .lit (.int .i64 v10)), (11, [], .lit (.int .i64 v11)), (12, [], .lit (.int .i64 v12))] ∧ offshootlaw03_DevSure.l2 (offshootlaw03_DevSure.l1 K kl1) K kl2 y2_2 y2_4 l3 m4 y1 v1 v10 v11 v12 = some r) (fun x => x.1) (K, t7.2.steps, t7.2.off, t7.2.sure, t7.2.cache, y1, v1, t6.1, t7.1, 0, zd3, zc3, zr3) ⟨hk.sub ⟨rfl, rfl, rfl, rfl, rfl, rfl, trivial⟩, h⟩ ?_
      clear hk h
      rintro ⟨kl2, y2_2, y2_4, l3, m4, y1, v1, v10, v11, v12, xd3, xc3, xr4⟩ a w ⟨hk, h⟩ K' hK19
      cases kl2 with
      | zero => simp [offshootlaw03_DevSure.l2] at h
      | succ kl2 =>
      rw [offshootlaw03_DevSure.l2.eq_2] at h
      refine FW.wseq ?_; intro K' hK20
      refine FW.wreg ?_; intro K' hK21
      refine FW.lfun (y := .lit (.int .i64 v12)) hk rfl rfl rfl rfl (FW.f_move hk (FW.holds_nil _) rfl) ?_; clear hk; intro a w hk
      refine FW.lfun (y := .row (r_Offshootlaw03Act_cells v1)) hk rfl rfl rfl rfl (FW.f_move hk (FW.holds_nil _) rfl) ?_; clear hk; intro a w hk
      refine FW.lfun (y := .lit (.int .i64 (List.length v1 : Int))) hk rfl rfl rfl rfl (FW.f_len (R := r_Offshootlaw03Act_cells) (f := Offshootlaw03Act.cells) (l := v1) r_Offshootlaw03Act_cells_eq Go.Proofs.Try.underlying43 hk (FW.holds_nil _) rfl) ?_; clear hk; intro a w hk
      refine FW.lfun (y := .lit (.bool (decide (v12 < (List.length v1 : Int))))) hk rfl rfl rfl rfl ((FW.f_pure (FW.p_lss hk.kn (FW.holds_nil _) rfl rfl))) ?_; clear hk; intro a w hk
      refine FW.lfun (y := .lit (.bool (decide (v12 < (List.length v1 : Int))))) hk rfl rfl rfl rfl (FW.f_move hk (FW.holds_nil _) rfl) ?_; clear hk; intro a w hk
      refine FW.lfunG (y := .lit (.int .i64 v12)) hk rfl rfl rfl rfl rfl rfl rfl rfl (fun hc => FW.f_move hk hc rfl) ?_; clear hk; intro a w hk
      refine FW.lfunG (y := .lit (.bool (decide (v12 < 20)))) hk rfl rfl rfl rfl rfl rfl rfl rfl (fun hc => (FW.f_pure (FW.p_lss hk.kn hc rfl rfl))) ?_; clear hk; intro a w hk
      refine FW.lfun (y := .lit (.bool ((decide (v12 < (List.length v1 : Int))) && (decide (v12 < 20))))) hk rfl rfl rfl rfl ((FW.f_pure (FW.p_pick_and hk.kn (FW.holds_nil _) rfl rfl))) ?_; clear hk; intro a w hk
      refine FW.lend (hK21 _ _ ?_); clear hK21 K'
      refine FW.wcondF (b := ((decide (v12 < (List.length v1 : Int))) && (decide (v12 < 20)))) hk h rfl (fun h hb => ?_) (fun h hb => ?_)
      · skip
        refine wp_skip ?_
        (repeat first | refine FW.then_normal ?_ | refine FW.block_normal ?_); refine hK20 _ _ ?_
        refine FW.wseqJ (fun a w => ∃ (y2_2 : Int) (y2_4 : Bool) (l3 : List (List UInt8)) (m4 : List (Int × (List UInt8))) (y1 : ApiFall) (v1 : List Offshootlaw03Act) (v10 : Int) (v11 : Int) (v12 : Int) (xd3 : Option Addr) (xc3 : Nat) (xr4 : Nat), FW.S M w0 a w 136 [FW.blk b2 109 ([.lit (.slice xd3 (List.length l3) xc3)] ++ [.lit (.map (some xr4))] ++ [.lit (.int .i64 y2_2)] ++ [.lit (.slice none 0 0)] ++ [.lit (.bool y2_4)]), FW.orow xd3 xc3 9 1 c_str l3, FW.mapI (.int .i64) (Value.int .i64) FW.evS xr4 m4, FW.blk b1 45 ((ApiFall.cells y1))] [(1, [], .row (r_Offshootlaw03Act_cells v1)), (5, [], .lit (.pointer (some ⟨b1, 0, none⟩))), (7, [], .lit (.pointer (some ⟨b2, 0, none⟩))), (10, [], .lit (.int .i64 v10)), (11, [], .lit (.int .i64 v11)), (12, [], .lit (.int .i64 v12))] ∧ offshootlaw03_DevSure.j2 (offshootlaw03_DevSure.l1 K kl1) (offshootlaw03_DevSure.l2 (offshootlaw03_DevSure.l1 K kl1) K kl2) K y2_2 y2_4 l3 m4 y1 v1 v10 v11 v12 = some r) ?_ ?_
        · clear hk h
          rintro a w ⟨y2_2, y2_4, l3, m4, y1, v1, v10, v11, v12, xd3, xc3, xr4, hk, h⟩
          unfold offshootlaw03_DevSure.j2 at h
          refine FW.wreg1 ?_
          refine FW.lfun (y := .lit (.int .i64 v12)) hk rfl rfl rfl rfl (FW.f_move hk (FW.holds_nil _) rfl) ?_; clear hk; intro a w hk
          refine FW.lfun (y := .lit (.int .i64 (IntKind.wrap .i64 (v12 + 1)))) hk rfl rfl rfl rfl ((FW.f_pure (FW.p_add hk.kn (FW.holds_nil _) rfl rfl))) ?_; clear hk; intro a w hk
          refine FW.lfun (y := .lit (.int .i64 (IntKind.wrap .i64 (v12 + 1)))) hk rfl rfl rfl rfl (FW.f_assign hk (FW.holds_nil _) rfl) ?_; clear hk; intro a w hk
          refine wpList_nil ?_
          (repeat first | refine FW.then_normal ?_ | refine FW.block_normal ?_); exact hK19 (kl2, y2_2, y2_4, l3, m4, y1, v1, v10, v11, (IntKind.wrap .i64 (v12 + 1)), xd3, xc3, xr4) _ _ (Nat.lt_succ_self _) ⟨hk.sub ⟨rfl, rfl, rfl, rfl, rfl, rfl, trivial⟩, h⟩
        · intro K' hK22
          refine wp_block ?_
          refine FW.wreg ?_; intro K' hK24
          refine FW.lfun (y := .row (r_Offshootlaw03Act_cells v1)) hk rfl rfl rfl rfl (FW.f_move hk (FW.holds_nil _) rfl) ?_; clear hk; intro a w hk
          refine FW.lfun (y := .lit (.int .i64 v12)) hk rfl rfl rfl rfl (FW.f_move hk (FW.holds_nil _) rfl) ?_; clear hk; intro a w hk
          obtain ⟨hc5, h⟩ := FW.chk h
          refine FW.lfun (y := .ref (Offshootlaw03Act.cells (List.getD v1 (Int.toNat v12) default))) hk rfl rfl rfl rfl (FW.f_indexAddr (R := r_Offshootlaw03Act_cells) (f := Offshootlaw03Act.cells) (l := v1) (sz := 7) r_Offshootlaw03Act_cells_eq (fun _ => rfl) hk (FW.holds_nil _) rfl rfl Go.Proofs.Try.underlying43 (by kernel_rfl) hc5) ?_; clear hk; intro a w hk
          refine FW.lfun (y := .ref (List.drop 0 (Offshootlaw03Act.cells (List.getD v1 (Int.toNat v12) default)))) hk rfl rfl rfl rfl (FW.f_fieldAddr hk (FW.holds_nil _) rfl Go.Proofs.Try.underlying51 rfl (by kernel_rfl) rfl) ?_; clear hk; intro a w hk
          refine FW.lfun (y := .lit (.int .i64 ((List.getD v1 (Int.toNat v12) default).Kind))) hk rfl rfl rfl rfl (FW.f_load1 hk (FW.holds_nil _) rfl rfl Go.Proofs.Try.underlying3 rfl) ?_; clear hk; intro a w hk
          refine FW.lfun (y := .lit (.bool (decide (((List.getD v1 (Int.toNat v12) default).Kind) < 3)))) hk rfl rfl rfl rfl ((FW.f_pure (FW.p_lss hk.kn (FW.holds_nil _) rfl rfl))) ?_; clear hk; intro a w hk
          refine FW.lfun (y := .lit (.bool (decide (((List.getD v1 (Int.toNat v12) default).Kind) < 3)))) hk rfl rfl rfl rfl (FW.f_move hk (FW.holds_nil _) rfl) ?_; clear hk; intro a w hk
          refine FW.lfunG (y := .row (r_Offshootlaw03Act_cells v1)) hk rfl rfl rfl rfl rfl rfl rfl rfl (fun hc => FW.f_move hk hc rfl) ?_; clear hk; intro a w hk
          refine FW.lfunG (y := .lit (.int .i64 v12)) hk rfl rfl rfl rfl rfl rfl rfl rfl (fun hc => FW.f_move hk hc rfl) ?_; clear hk; intro a w hk
          obtain ⟨hc6, h⟩ := FW.chk h
          refine FW.lfunG (y := .ref (Offshootlaw03Act.cells (List.getD v1 (Int.toNat v12) default))) hk rfl rfl rfl rfl rfl rfl rfl rfl (fun hc => FW.f_indexAddr (R := r_Offshootlaw03Act_cells) (f := Offshootlaw03Act.cells) (l := v1) (sz := 7) r_Offshootlaw03Act_cells_eq (fun _ => rfl) hk hc rfl rfl Go.Proofs.Try.underlying43 (by kernel_rfl) hc6) ?_; clear hk; intro a w hk
          refine FW.lfunG (y := .ref (List.drop 1 (Offshootlaw03Act.cells (List.getD v1 (Int.toNat v12) default)))) hk rfl rfl rfl rfl rfl rfl rfl rfl (fun hc => FW.f_fieldAddr hk hc rfl Go.Proofs.Try.underlying51 rfl (by kernel_rfl) rfl) ?_; clear hk; intro a w hk
          refine FW.lfunG (y := .lit (.int .i64 ((List.getD v1 (Int.toNat v12) default).At))) hk rfl rfl rfl rfl rfl rfl rfl rfl (fun hc => FW.f_load1 hk hc rfl rfl Go.Proofs.Try.underlying3 rfl) ?_; clear hk; intro a w hk
          refine FW.lfunG (y := .lit (.bool (!decide (((List.getD v1 (Int.toNat v12) default).At) = 4)))) hk rfl rfl rfl rfl rfl rfl rfl rfl (fun hc => (FW.f_pure (FW.p_neq hk.kn hc rfl rfl))) ?_; clear hk; intro a w hk
          refine FW.lfun (y := .lit (.bool ((decide (((List.getD v1 (Int.toNat v12) default).Kind) < 3)) && (!decide (((List.getD v1 (Int.toNat v12) default).At) = 4))))) hk rfl rfl rfl rfl ((FW.f_pure (FW.p_pick_and hk.kn (FW.holds_nil _) rfl rfl))) ?_; clear hk; intro a w hk
          refine FW.lend (hK24 _ _ ?_); clear hK24 K'
          refine FW.wcondF (b := ((decide (((List.getD v1 (Int.toNat v12) default).Kind) < 3)) && (!decide (((List.getD v1 (Int.toNat v12) default).At) = 4)))) hk h rfl (fun h hb => ?_) (fun h hb => ?_)
          · skip
            obtain ⟨hc7, h⟩ := FW.chk h
            obtain ⟨hc8, h⟩ := FW.chk h
            obtain ⟨t8, hr_t8, h⟩ := FW.bnd h
            obtain ⟨t9, hr_t9, h⟩ := FW.bnd h
            refine FW.wdrawE1 (need := [false, false, false, false, false, false, false, false, false, false, false, false, false]) [(12, [true, true, true, true, true, true, true, true, true, true, true, true, false], [true, true, true, true, true, true, true, true, true, true, true, true, false])] [(92, [], .lit (.pointer (some ⟨b2, 0, none⟩))), (93, [], .row (r_Offshootlaw03Act_cells v1)), (94, [], .lit (.int .i64 v12)), (95, [], .ref (Offshootlaw03Act.cells (List.getD v1 (Int.toNat v12) default))), (96, [], .ref (List.drop 1 (Offshootlaw03Act.cells (List.getD v1 (Int.toNat v12) default)))), (97, [], .lit (.int .i64 ((List.getD v1 (Int.toNat v12) default).At))), (98, [], .row (r_Offshootlaw03Act_cells v1)), (99, [], .lit (.int .i64 v12)), (100, [], .ref (Offshootlaw03Act.cells (List.getD v1 (Int.toNat v12) default))), (101, [], .ref (List.drop 2 (Offshootlaw03Act.cells (List.getD v1 (Int.toNat v12) default)))), (102, [], .lit (.int .u8 ((List.getD v1 (Int.toNat v12) default).C))), (103, [], .lit (.string (FW.B t8))), (104, [], .agg [])] (by kernel_rfl) (by kernel_rfl) (by kernel_rfl) (by kernel_rfl) hk ?_; clear hk
            refine FW.gnext ?_ rfl rfl rfl rfl rfl ?_
            · skip
              refine FW.gfun (y := .lit (.pointer (some ⟨b2, 0, none⟩))) rfl rfl rfl rfl (fun a w hk => FW.f_move hk (FW.holds_nil _) rfl) ?_
              refine FW.gfun (y := .row (r_Offshootlaw03Act_cells v1)) rfl rfl rfl rfl (fun a w hk => FW.f_move hk (FW.holds_nil _) rfl) ?_
              refine FW.gfun (y := .lit (.int .i64 v12)) rfl rfl rfl rfl (fun a w hk => FW.f_move hk (FW.holds_nil _) rfl) ?_
              refine FW.gfun (y := .ref (Offshootlaw03Act.cells (List.getD v1 (Int.toNat v12) default))) rfl rfl rfl rfl (fun a w hk => FW.f_indexAddr (R := r_Offshootlaw03Act_cells) (f := Offshootlaw03Act.cells) (l := v1) (sz := 7) r_Offshootlaw03Act_cells_eq (fun _ => rfl) hk (FW.holds_nil _) rfl rfl Go.Proofs.Try.underlying43 (by kernel_rfl) hc7) ?_
              refine FW.gfun (y := .ref (List.drop 1 (Offshootlaw03Act.cells (List.getD v1 (Int.toNat v12) default)))) rfl rfl rfl rfl (fun a w hk => FW.f_fieldAddr hk (FW.holds_nil _) rfl Go.Proofs.Try.underlying51 rfl (by kernel_rfl) rfl) ?_
              refine FW.gfun (y := .lit (.int .i64 ((List.getD v1 (Int.toNat v12) default).At))) rfl rfl rfl rfl (fun a w hk => FW.f_load1 hk (FW.holds_nil _) rfl rfl Go.Proofs.Try.underlying3 rfl) ?_
              refine FW.gfun (y := .row (r_Offshootlaw03Act_cells v1)) rfl rfl rfl rfl (fun a w hk => FW.f_move hk (FW.holds_nil _) rfl) ?_
              refine FW.gfun (y := .lit (.int .i64 v12)) rfl rfl rfl rfl (fun a w hk => FW.f_move hk (FW.holds_nil _) rfl) ?_
              refine FW.gfun (y := .ref (Offshootlaw03Act.cells (List.getD v1 (Int.toNat v12) default))) rfl rfl rfl rfl (fun a w hk => FW.f_indexAddr (R := r_Offshootlaw03Act_cells) (f := Offshootlaw03Act.cells) (l := v1) (sz := 7) r_Offshootlaw03Act_cells_eq (fun _ => rfl) hk (FW.holds_nil _) rfl rfl Go.Proofs.Try.underlying43 (by kernel_rfl) hc8) ?_
              refine FW.gfun (y := .ref (List.drop 2 (Offshootlaw03Act.cells (List.getD v1 (Int.toNat v12) default)))) rfl rfl rfl rfl (fun a w hk => FW.f_fieldAddr hk (FW.holds_nil _) rfl Go.Proofs.Try.underlying51 rfl (by kernel_rfl) rfl) ?_
              refine FW.gfun (y := .lit (.int .u8 ((List.getD v1 (Int.toNat v12) default).C))) rfl rfl rfl rfl (fun a w hk => FW.f_load1 hk (FW.holds_nil _) rfl rfl Go.Proofs.Try.underlying5 rfl) ?_
              refine FW.gfun (y := .lit (.string (FW.B t8))) rfl rfl rfl rfl (fun a w hk => FW.f_call hk (FW.holds_nil _) rfl rfl Go.Proofs.Try.func30 rfl (by kernel_rfl) (offshootlaw03_sector.ok K ((List.getD v1 (Int.toNat v12) default).C) _ hr_t8)) ?_
              refine FW.gskip rfl rfl ?_
              exact FW.gend
            · skip
              intro σD a w opsD QD hk hf hQ
              refine FW.l_callH (I1 := (ODevDev.items b2 xd3 xc3 xr4 (⟨l3, m4, y2_2, y2_4⟩ : ODevDev))) (I2 := [FW.blk b1 45 ((ApiFall.cells y1))]) (js := [2, 2, 2]) hk rfl rfl hf rfl rfl Go.Proofs.Try.func29 rfl (by kernel_rfl) (dev_Dev_Write.ok K (⟨l3, m4, y2_2, y2_4⟩ : ODevDev) ((List.getD v1 (Int.toNat v12) default).At) t8 _ hr_t9 b2 xd3 xc3 xr4) ?_; clear hk
              rintro _ _ ⟨zd4, zc4, zr4, rfl, rfl⟩ a w hk
              refine hQ _ _ a w ?_ hk; clear hk hQ hf
              refine ⟨[(92, [], .lit (.pointer (some ⟨b2, 0, none⟩))), (93, [], .row (r_Offshootlaw03Act_cells v1)), (94, [], .lit (.int .i64 v12)), (95, [], .ref (Offshootlaw03Act.cells (List.getD v1 (Int.toNat v12) default))), (96, [], .ref (List.drop 1 (Offshootlaw03Act.cells (List.getD v1 (Int.toNat v12) default)))), (97, [], .lit (.int .i64 ((List.getD v1 (Int.toNat v12) default).At))), (98, [], .row (r_Offshootlaw03Act_cells v1)), (99, [], .lit (.int .i64 v12)), (100, [], .ref (Offshootlaw03Act.cells (List.getD v1 (Int.toNat v12) default))), (101, [], .ref (List.drop 2 (Offshootlaw03Act.cells (List.getD v1 (Int.toNat v12) default)))), (102, [], .lit (.int .u8 ((List.getD v1 (Int.toNat v12) default).C))), (103, [], .lit (.string (FW.B t8))), (104, [], .lit (.int .i64 t9.1))], And.intro rfl (And.intro rfl (And.intro rfl (And.intro rfl (And.intro rfl (And.intro rfl (And.intro rfl (And.intro rfl (And.intro rfl (And.intro rfl (And.intro rfl (And.intro rfl (trivial)))))))))))), rfl, ?_⟩
              refine FW.glast ?_ ?_
              · skip
                refine FW.gskip rfl rfl ?_
                refine FW.gskip rfl rfl ?_
                refine FW.gskip rfl rfl ?_
                refine FW.gskip rfl rfl ?_
                refine FW.gskip rfl rfl ?_
                refine FW.gskip rfl rfl ?_
                refine FW.gskip rfl rfl ?_
                refine FW.gskip rfl rfl ?_
                refine FW.gskip rfl rfl ?_
                refine FW.gskip rfl rfl ?_
                refine FW.gskip rfl rfl ?_
                refine FW.gskip rfl rfl ?_
                refine FW.gskip rfl rfl ?_
                exact FW.gend
              · skip
                intro a w hk; simp only [FW.stD, cond_true] at hk
                (repeat first | refine FW.then_normal ?_ | refine FW.block_normal ?_); exact hK22 _ _ ⟨t9.2.steps, t9.2.off, t9.2.sure, t9.2.cache, y1, v1, v10, v11, v12, zd4, zc4, zr4, hk.sub ⟨rfl, rfl, rfl, rfl, rfl, rfl, trivial⟩, h⟩
          · skip
            refine wp_skip ?_
            (repeat first | refine FW.then_normal ?_ | refine FW.block_normal ?_); exact hK22 _ _ ⟨y2_2, y2_4, l3, m4, y1, v1, v10, v11, v12, xd3, xc3, xr4, hk.sub ⟨rfl, rfl, rfl, rfl, rfl, rfl, trivial⟩, h⟩
      · skip
        refine wp_exit ?_; (repeat first | refine FW.then_exit ?_ | refine FW.block_exit_ne rfl ?_); refine FW.block_exit ?_
        (repeat first | refine FW.then_normal ?_ | refine FW.block_normal ?_); refine hK17 _ _ ?_
        refine FW.wreg ?_; intro K' hK26
        refine FW.lfun (y := .lit (.pointer (some ⟨b2, 0, none⟩))) hk rfl rfl rfl rfl (FW.f_move hk (FW.holds_nil _) rfl) ?_; clear hk; intro a w hk
        refine FW.lfun (y := .lit (.pointer (some ⟨b1, 1, none⟩))) hk rfl rfl rfl rfl (FW.f_fieldPtr hk (FW.holds_nil _) rfl Go.Proofs.Try.underlying45 rfl (by kernel_rfl) rfl) ?_; clear hk; intro a w hk
        refine FW.lfun (y := .lit (.int .u64 y1.Keep)) hk rfl rfl rfl rfl (FW.f_loadBlk1 hk (FW.holds_nil _) (j := 3) rfl rfl Go.Proofs.Try.underlying29 rfl rfl) ?_; clear hk; intro a w hk
        refine FW.lfun (y := .lit (.pointer (some ⟨b1, 2, none⟩))) hk rfl rfl rfl rfl (FW.f_fieldPtr hk (FW.holds_nil _) rfl Go.Proofs.Try.underlying45 rfl (by kernel_rfl) rfl) ?_; clear hk; intro a w hk
        refine FW.lfun (y := .lit (.int .i64 y1.Torn)) hk rfl rfl rfl rfl (FW.f_loadBlk1 hk (FW.holds_nil _) (j := 3) rfl rfl Go.Proofs.Try.underlying3 rfl rfl) ?_; clear hk; intro a w hk
        obtain ⟨t10, hr_t10, h⟩ := FW.bnd h
        refine FW.l_callH (I1 := (ODevDev.items b2 xd3 xc3 xr4 (⟨l3, m4, y2_2, y2_4⟩ : ODevDev))) (I2 := [FW.blk b1 45 ((ApiFall.cells y1))]) (js := [2, 2, 2]) hk rfl rfl rfl rfl rfl Go.Proofs.Try.func32 rfl (by kernel_rfl) (dev_Dev_Crash.ok K (⟨l3, m4, y2_2, y2_4⟩ : ODevDev) y1.Keep y1.Torn _ hr_t10 b2 xd3 xc3 xr4) ?_; clear hk
        rintro _ _ ⟨zd5, zc5, zr5, rfl, rfl⟩ a w hk
        refine FW.lend (hK26 _ _ ?_); clear hK26 K'
        refine FW.wreg ?_; intro K' hK27
        refine FW.lfun (y := .lit (.pointer (some ⟨b2, 0, none⟩))) hk rfl rfl rfl rfl (FW.f_move hk (FW.holds_nil _) rfl) ?_; clear hk; intro a w hk
        obtain ⟨t11, hr_t11, h⟩ := FW.bnd h
        refine FW.l_callH (I1 := (ODevDev.items b2 zd5 zc5 zr5 t10)) (I2 := [FW.blk b1 45 ((ApiFall.cells y1))]) (js := [2, 2, 2]) hk rfl rfl rfl rfl rfl Go.Proofs.Try.func33 rfl (by kernel_rfl) (dev_Dev_Up.ok t10 _ hr_t11 b2 zd5 zc5 zr5) ?_; clear hk
        rintro _ _ ⟨zd6, zc6, zr6, rfl, rfl⟩ a w hk
        refine FW.lfun (y := .lit (.bool t11.1)) hk rfl rfl rfl rfl (FW.f_assign hk (FW.holds_nil _) rfl) ?_; clear hk; intro a w hk
        refine FW.lend (hK27 _ _ ?_); clear hK27 K'
        refine FW.wreg ?_; intro K' hK28
        refine FW.lfun (y := .lit (.pointer (some ⟨b2, 0, none⟩))) hk rfl rfl rfl rfl (FW.f_move hk (FW.holds_nil _) rfl) ?_; clear hk; intro a w hk
        obtain ⟨t12, hr_t12, h⟩ := FW.bnd h
        refine FW.l_callH (I1 := (ODevDev.items b2 zd6 zc6 zr6 t11.2)) (I2 := [FW.blk b1 45 ((ApiFall.cells y1))]) (js := [2, 2, 2]) hk rfl rfl rfl rfl rfl Go.Proofs.Try.func34 rfl (by kernel_rfl) (dev_Dev_Read.ok t11.2 4 _ hr_t12 b2 zd6 zc6 zr6) ?_; clear hk
        rintro _ _ ⟨zd7, zc7, zr7, rfl, rfl⟩ a w hk
        refine FW.lfun (y := .tup [.lit (.string (FW.B t12.1)), .lit (.int .i64 t12.2.1)]) hk rfl rfl rfl rfl (FW.f_move hk (FW.holds_nil _) rfl) ?_; clear hk; intro a w hk
        refine FW.lfun (y := .lit (.string (FW.B t12.1))) hk rfl rfl rfl rfl (FW.f_extract hk (FW.holds_nil _) rfl rfl) ?_; clear hk; intro a w hk
        refine FW.lfun (y := .lit (.int .i64 t12.2.1)) hk rfl rfl rfl rfl (FW.f_extract hk (FW.holds_nil _) rfl rfl) ?_; clear hk; intro a w hk
        refine FW.lfun (y := .lit (.string (FW.B t12.1))) hk rfl rfl rfl rfl (FW.f_assign hk (FW.holds_nil _) rfl) ?_; clear hk; intro a w hk
        refine FW.lfun (y := .lit (.int .i64 t12.2.1)) hk rfl rfl rfl rfl (FW.f_assign hk (FW.holds_nil _) rfl) ?_; clear hk; intro a w hk
        refine FW.lend (hK28 _ _ ?_); clear hK28 K'
        refine FW.wreg ?_; intro K' hK29
        refine FW.lfun (y := .lit (.int .i64 v10)) hk rfl rfl rfl rfl (FW.f_move hk (FW.holds_nil _) rfl) ?_; clear hk; intro a w hk
        refine FW.lfun (y := .lit (.bool (decide (v10 = 0)))) hk rfl rfl rfl rfl ((FW.f_pure (FW.p_eql hk.kn (FW.holds_nil _) rfl rfl))) ?_; clear hk; intro a w hk
        refine FW.lfun (y := .lit (.bool (decide (v10 = 0)))) hk rfl rfl rfl rfl (FW.f_move hk (FW.holds_nil _) rfl) ?_; clear hk; intro a w hk
        refine FW.lfunG (y := .lit (.int .i64 v11)) hk rfl rfl rfl rfl rfl rfl rfl rfl (fun hc => FW.f_move hk hc rfl) ?_; clear hk; intro a w hk
        refine FW.lfunG (y := .lit (.bool (decide (v11 = 0)))) hk rfl rfl rfl rfl rfl rfl rfl rfl (fun hc => (FW.f_pure (FW.p_eql hk.kn hc rfl rfl))) ?_; clear hk; intro a w hk
        refine FW.lfun (y := .lit (.bool ((decide (v10 = 0)) && (decide (v11 = 0))))) hk rfl rfl rfl rfl ((FW.f_pure (FW.p_pick_and hk.kn (FW.holds_nil _) rfl rfl))) ?_; clear hk; intro a w hk
        refine FW.lfun (y := .lit (.bool ((decide (v10 = 0)) && (decide (v11 = 0))))) hk rfl rfl rfl rfl (FW.f_move hk (FW.holds_nil _) rfl) ?_; clear hk; intro a w hk
        refine FW.lfunG (y := .lit (.bool t11.1)) hk rfl rfl rfl rfl rfl rfl rfl rfl (fun hc => FW.f_move hk hc rfl) ?_; clear hk; intro a w hk
        refine FW.lfun (y := .lit (.bool (((decide (v10 = 0)) && (decide (v11 = 0))) && t11.1))) hk rfl rfl rfl rfl ((FW.f_pure (FW.p_pick_and hk.kn (FW.holds_nil _) rfl rfl))) ?_; clear hk; intro a w hk
        refine FW.lfun (y := .lit (.bool (((decide (v10 = 0)) && (decide (v11 = 0))) && t11.1))) hk rfl rfl rfl rfl (FW.f_move hk (FW.holds_nil _) rfl) ?_; clear hk; intro a w hk
        refine FW.lfunG (y := .lit (.int .i64 t12.2.1)) hk rfl rfl rfl rfl rfl rfl rfl rfl (fun hc => FW.f_move hk hc rfl) ?_; clear hk; intro a w hk
        refine FW.lfunG (y := .lit (.bool (decide (t12.2.1 = 0)))) hk rfl rfl rfl rfl rfl rfl rfl rfl (fun hc => (FW.f_pure (FW.p_eql hk.kn hc rfl rfl))) ?_; clear hk; intro a w hk
        refine FW.lfun (y := .lit (.bool ((((decide (v10 = 0)) && (decide (v11 = 0))) && t11.1) && (decide (t12.2.1 = 0))))) hk rfl rfl rfl rfl ((FW.f_pure (FW.p_pick_and hk.kn (FW.holds_nil _) rfl rfl))) ?_; clear hk; intro a w hk
        refine FW.lfun (y := .lit (.bool ((((decide (v10 = 0)) && (decide (v11 = 0))) && t11.1) && (decide (t12.2.1 = 0))))) hk rfl rfl rfl rfl (FW.f_move hk (FW.holds_nil _) rfl) ?_; clear hk; intro a w hk
        refine FW.lfunG (y := .lit (.string (FW.B t12.1))) hk rfl rfl rfl rfl rfl rfl rfl rfl (fun hc => FW.f_move hk hc rfl) ?_; clear hk; intro a w hk
        obtain ⟨t13, hr_t13, h⟩ := FW.bndG h
        refine FW.lfunG (y := .lit (.string (FW.B t13))) hk rfl rfl rfl rfl rfl rfl rfl rfl (fun hc => FW.f_call hk hc rfl rfl Go.Proofs.Try.func30 rfl (by kernel_rfl) (offshootlaw03_sector.ok K 115 _ (hr_t13 (FW.asm_out (p := ((((decide (v10 = 0)) && (decide (v11 = 0))) && t11.1) && (decide (t12.2.1 = 0))) = true) hk.kn hc (fun e0 => e0))))) ?_; clear hk; intro a w hk
        refine FW.lfunG (y := .lit (.bool (decide (t12.1 = t13)))) hk rfl rfl rfl rfl rfl rfl rfl rfl (fun hc => (FW.f_pure (FW.p_seql hk.kn hc rfl rfl))) ?_; clear hk; intro a w hk
        refine FW.lfun (y := .lit (.bool (((((decide (v10 = 0)) && (decide (v11 = 0))) && t11.1) && (decide (t12.2.1 = 0))) && (decide (t12.1 = t13))))) hk rfl rfl rfl rfl ((FW.f_pure (FW.p_pick_and hk.kn (FW.holds_nil _) rfl rfl))) ?_; clear hk; intro a w hk
        refine FW.lfun (y := .lit (.bool (((((decide (v10 = 0)) && (decide (v11 = 0))) && t11.1) && (decide (t12.2.1 = 0))) && (decide (t12.1 = t13))))) hk rfl rfl rfl rfl (FW.f_assign hk (FW.holds_nil _) rfl) ?_; clear hk; intro a w hk
        refine FW.lend (hK29 _ _ ?_); clear hK29 K'
        refine wp_ret ?_
        (repeat first | refine FW.then_ret ?_ | refine FW.block_ret ?_)
        obtain rfl := Option.some.inj h
        exact FW.fret1 hk rfl rfl
end Go.Proofs.Ytimaibcaehagjaa

/- Written by a program of this session (gen.py): the contracts of functions of the program. -/
import Derived.KernelRfl
import Derived.Test.YtimaibcaehagjaaProg
import Derived.Test.YtimaibcaehagjaaAvFun
import Derived.Test.YtimaibcaehagjaaAvMan
import Derived.Test.YtimaibcaehagjaaAvMore
import Derived.Test.YtimaibcaehagjaaAvDraw2
import Derived.Test.YtimaibcaehagjaaAvRow
import Derived.Test.YtimaibcaehagjaaHn
import Derived.Test.YtimaibcaehagjaaDvP0
import Derived.Test.YtimaibcaehagjaaFl2
import Derived.Test.YtimaibcaehagjaaHg
import Derived.Test.YtimaibcaehagjaaHar
import Derived.Test.YtimaibcaehagjaaLgP1
import Derived.Test.YtimaibcaehagjaaLsD
namespace Go.Proofs.Ytimaibcaehagjaa
set_option linter.unusedVariables false
set_option maxRecDepth 20000
set_option maxHeartbeats 10000000
theorem offshootlaw04_awake.ok (K : Nat)  (r : Bool) (h : offshootlaw04_awake.f K = some r) :
    FW.Ok Go.Proofs.Try.prog 44 [] (.lit (.bool r)) := by
  refine FW.enter (xs := []) Go.Proofs.Try.func44 rfl Go.Proofs.Try.ntmps44 rfl ?_
  intro M w0 a hk
  unfold offshootlaw04_awake.f at h
  refine FW.wreg ?_; intro K' hK1
  refine FW.lfun (y := .lit (.bool false)) hk rfl rfl rfl rfl (FW.f_assign hk (FW.holds_nil _) rfl) ?_; clear hk; intro a w hk
  refine FW.lend (hK1 _ _ ?_); clear hK1 K'
  refine FW.wreg ?_; intro K' hK2
  obtain ⟨t1, hr_t1, h⟩ := FW.bnd h
  refine FW.l_callH (I1 := ([] : List FW.It)) (I2 := []) (js := []) hk rfl rfl rfl rfl rfl Go.Proofs.Try.func27 rfl (by kernel_rfl) (dev_New.ok K 8 _ hr_t1 ) ?_; clear hk
  rintro _ _ ⟨b1, xdNt1_0_0, xcNt1_0_0, xrNt1_0_1, rfl, rfl⟩ a w hk
  refine FW.lfun (y := .tup [.lit (.pointer (some ⟨b1, 0, none⟩)), .lit (.int .i64 t1.2)]) hk rfl rfl rfl rfl (FW.f_move hk (FW.holds_nil _) rfl) ?_; clear hk; intro a w hk
  refine FW.lfun (y := .lit (.pointer (some ⟨b1, 0, none⟩))) hk rfl rfl rfl rfl (FW.f_extract hk (FW.holds_nil _) rfl rfl) ?_; clear hk; intro a w hk
  refine FW.lfun (y := .lit (.int .i64 t1.2)) hk rfl rfl rfl rfl (FW.f_extract hk (FW.holds_nil _) rfl rfl) ?_; clear hk; intro a w hk
  refine FW.lfun (y := .lit (.pointer (some ⟨b1, 0, none⟩))) hk rfl rfl rfl rfl (FW.f_assign hk (FW.holds_nil _) rfl) ?_; clear hk; intro a w hk
  refine FW.lfun (y := .lit (.int .i64 t1.2)) hk rfl rfl rfl rfl (FW.f_assign hk (FW.holds_nil _) rfl) ?_; clear hk; intro a w hk
  refine FW.lend (hK2 _ _ ?_); clear hK2 K'
  refine FW.wreg ?_; intro K' hK3
  refine FW.lfun (y := .lit (.pointer (some ⟨b1, 0, none⟩))) hk rfl rfl rfl rfl (FW.f_move hk (FW.holds_nil _) rfl) ?_; clear hk; intro a w hk
  obtain ⟨t2, hr_t2, h⟩ := FW.bnd h
  refine FW.l_callH (I1 := (ODevDev.items b1 xdNt1_0_0 xcNt1_0_0 xrNt1_0_1 t1.1)) (I2 := []) (js := [2, 2, 2]) hk rfl rfl rfl rfl rfl Go.Proofs.Try.func47 rfl (by kernel_rfl) (log_Open.ok K t1.1 1 8 5 _ hr_t2 b1 xdNt1_0_0 xcNt1_0_0 xrNt1_0_1) ?_; clear hk
  rintro _ _ ⟨b2, zd1, zc1, zr1, rfl, rfl⟩ a w hk
  refine FW.lfun (y := .tup [.lit (.pointer (some ⟨b2, 0, none⟩)), .row (r_c_str t2.2.1), .lit (.int .i64 t2.2.2.1)]) hk rfl rfl rfl rfl (FW.f_move hk (FW.holds_nil _) rfl) ?_; clear hk; intro a w hk
  refine FW.lfun (y := .lit (.pointer (some ⟨b2, 0, none⟩))) hk rfl rfl rfl rfl (FW.f_extract hk (FW.holds_nil _) rfl rfl) ?_; clear hk; intro a w hk
  refine FW.lfun (y := .row (r_c_str t2.2.1)) hk rfl rfl rfl rfl (FW.f_extract hk (FW.holds_nil _) rfl rfl) ?_; clear hk; intro a w hk
  refine FW.lfun (y := .lit (.int .i64 t2.2.2.1)) hk rfl rfl rfl rfl (FW.f_extract hk (FW.holds_nil _) rfl rfl) ?_; clear hk; intro a w hk
  refine FW.lfun (y := .lit (.pointer (some ⟨b2, 0, none⟩))) hk rfl rfl rfl rfl (FW.f_assign hk (FW.holds_nil _) rfl) ?_; clear hk; intro a w hk
  refine FW.lfun (y := .row (r_c_str t2.2.1)) hk rfl rfl rfl rfl (FW.f_assign hk (FW.holds_nil _) rfl) ?_; clear hk; intro a w hk
  refine FW.lfun (y := .lit (.int .i64 t2.2.2.1)) hk rfl rfl rfl rfl (FW.f_assign hk (FW.holds_nil _) rfl) ?_; clear hk; intro a w hk
  refine FW.lend (hK3 _ _ ?_); clear hK3 K'
  refine FW.wreg ?_; intro K' hK4
  refine FW.lfun (y := .lit (.pointer (some ⟨b2, 0, none⟩))) hk rfl rfl rfl rfl (FW.f_move hk (FW.holds_nil _) rfl) ?_; clear hk; intro a w hk
  obtain ⟨t3, hr_t3, h⟩ := FW.bnd h
  refine FW.l_callH (I1 := (OLogLog.items b2 b1 t2.1) ++ (ODevDev.items b1 zd1 zc1 zr1 t2.2.2.2)) (I2 := []) (js := [3, 3, 3, 3]) hk rfl rfl rfl rfl rfl Go.Proofs.Try.func50 rfl (by kernel_rfl) (log_Log_Add.ok K t2.1 t2.2.2.2 ([101, 110, 116, 114, 121] : List UInt8) _ hr_t3 b2 b1 zd1 zc1 zr1) ?_; clear hk
  rintro _ _ ⟨zd2, zc2, zr2, rfl, rfl⟩ a w hk
  refine FW.lfun (y := .lit (.int .i64 t3.1)) hk rfl rfl rfl rfl (FW.f_assign hk (FW.holds_nil _) rfl) ?_; clear hk; intro a w hk
  refine FW.lend (hK4 _ _ ?_); clear hK4 K'
  refine FW.wreg ?_; intro K' hK5
  refine FW.lfun (y := .lit (.pointer (some ⟨b1, 0, none⟩))) hk rfl rfl rfl rfl (FW.f_move hk (FW.holds_nil _) rfl) ?_; clear hk; intro a w hk
  obtain ⟨t4, hr_t4, h⟩ := FW.bnd h
  refine FW.l_callH (I1 := (ODevDev.items b1 zd2 zc2 zr2 t3.2.2)) (I2 := [FW.blk b2 127 ([.lit (.pointer (some ⟨b1, 0, none⟩))] ++ [.lit (.int .i64 t3.2.1.from_)] ++ [.lit (.int .i64 t3.2.1.to_)] ++ [.lit (.int .i64 t3.2.1.at_)] ++ [.lit (.int .u64 t3.2.1.next)])]) (js := [3, 3, 3]) hk rfl rfl rfl rfl rfl Go.Proofs.Try.func32 rfl (by kernel_rfl) (dev_Dev_Crash.ok K t3.2.2 0 0 _ hr_t4 b1 zd2 zc2 zr2) ?_; clear hk
  rintro _ _ ⟨zd3, zc3, zr3, rfl, rfl⟩ a w hk
  refine FW.lend (hK5 _ _ ?_); clear hK5 K'
  refine FW.wreg ?_; intro K' hK6
  refine FW.lfun (y := .lit (.pointer (some ⟨b1, 0, none⟩))) hk rfl rfl rfl rfl (FW.f_move hk (FW.holds_nil _) rfl) ?_; clear hk; intro a w hk
  obtain ⟨t5, hr_t5, h⟩ := FW.bnd h
  refine FW.l_callH (I1 := (ODevDev.items b1 zd3 zc3 zr3 t4)) (I2 := [FW.blk b2 127 ([.lit (.pointer (some ⟨b1, 0, none⟩))] ++ [.lit (.int .i64 t3.2.1.from_)] ++ [.lit (.int .i64 t3.2.1.to_)] ++ [.lit (.int .i64 t3.2.1.at_)] ++ [.lit (.int .u64 t3.2.1.next)])]) (js := [2, 2, 2]) hk rfl rfl rfl rfl rfl Go.Proofs.Try.func33 rfl (by kernel_rfl) (dev_Dev_Up.ok t4 _ hr_t5 b1 zd3 zc3 zr3) ?_; clear hk
  rintro _ _ ⟨zd4, zc4, zr4, rfl, rfl⟩ a w hk
  refine FW.lend (hK6 _ _ ?_); clear hK6 K'
  refine FW.wreg ?_; intro K' hK7
  refine FW.lfun (y := .lit (.pointer (some ⟨b1, 0, none⟩))) hk rfl rfl rfl rfl (FW.f_move hk (FW.holds_nil _) rfl) ?_; clear hk; intro a w hk
  obtain ⟨t6, hr_t6, h⟩ := FW.bnd h
  refine FW.l_callH (I1 := (ODevDev.items b1 zd4 zc4 zr4 t5.2)) (I2 := [FW.blk b2 127 ([.lit (.pointer (some ⟨b1, 0, none⟩))] ++ [.lit (.int .i64 t3.2.1.from_)] ++ [.lit (.int .i64 t3.2.1.to_)] ++ [.lit (.int .i64 t3.2.1.at_)] ++ [.lit (.int .u64 t3.2.1.next)])]) (js := [2, 2, 2]) hk rfl rfl rfl rfl rfl Go.Proofs.Try.func47 rfl (by kernel_rfl) (log_Open.ok K t5.2 1 8 5 _ hr_t6 b1 zd4 zc4 zr4) ?_; clear hk
  rintro _ _ ⟨b3, zd5, zc5, zr5, rfl, rfl⟩ a w hk
  refine FW.lfun (y := .tup [.lit (.pointer (some ⟨b3, 0, none⟩)), .row (r_c_str t6.2.1), .lit (.int .i64 t6.2.2.1)]) hk rfl rfl rfl rfl (FW.f_move hk (FW.holds_nil _) rfl) ?_; clear hk; intro a w hk
  refine FW.lfun (y := .lit (.pointer (some ⟨b3, 0, none⟩))) hk rfl rfl rfl rfl (FW.f_extract hk (FW.holds_nil _) rfl rfl) ?_; clear hk; intro a w hk
  refine FW.lfun (y := .row (r_c_str t6.2.1)) hk rfl rfl rfl rfl (FW.f_extract hk (FW.holds_nil _) rfl rfl) ?_; clear hk; intro a w hk
  refine FW.lfun (y := .lit (.int .i64 t6.2.2.1)) hk rfl rfl rfl rfl (FW.f_extract hk (FW.holds_nil _) rfl rfl) ?_; clear hk; intro a w hk
  refine FW.lfun (y := .lit (.pointer (some ⟨b3, 0, none⟩))) hk rfl rfl rfl rfl (FW.f_assign hk (FW.holds_nil _) rfl) ?_; clear hk; intro a w hk
  refine FW.lfun (y := .row (r_c_str t6.2.1)) hk rfl rfl rfl rfl (FW.f_assign hk (FW.holds_nil _) rfl) ?_; clear hk; intro a w hk
  refine FW.lfun (y := .lit (.int .i64 t6.2.2.1)) hk rfl rfl rfl rfl (FW.f_assign hk (FW.holds_nil _) rfl) ?_; clear hk; intro a w hk
  refine FW.lend (hK7 _ _ ?_); clear hK7 K'
  refine FW.wreg ?_; intro K' hK8
  refine FW.lfun (y := .lit (.int .i64 t1.2)) hk rfl rfl rfl rfl (FW.f_move hk (FW.holds_nil _) rfl) ?_; clear hk; intro a w hk
  refine FW.lfun (y := .lit (.bool (decide (t1.2 = 0)))) hk rfl rfl rfl rfl ((FW.f_pure (FW.p_eql hk.kn (FW.holds_nil _) rfl rfl))) ?_; clear hk; intro a w hk
  refine FW.lfun (y := .lit (.bool (decide (t1.2 = 0)))) hk rfl rfl rfl rfl (FW.f_move hk (FW.holds_nil _) rfl) ?_; clear hk; intro a w hk
  refine FW.lfunG (y := .lit (.int .i64 t2.2.2.1)) hk rfl rfl rfl rfl rfl rfl rfl rfl (fun hc => FW.f_move hk hc rfl) ?_; clear hk; intro a w hk
  refine FW.lfunG (y := .lit (.bool (decide (t2.2.2.1 = 0)))) hk rfl rfl rfl rfl rfl rfl rfl rfl (fun hc => (FW.f_pure (FW.p_eql hk.kn hc rfl rfl))) ?_; clear hk; intro a w hk
  refine FW.lfun (y := .lit (.bool ((decide (t1.2 = 0)) && (decide (t2.2.2.1 = 0))))) hk rfl rfl rfl rfl ((FW.f_pure (FW.p_pick_and hk.kn (FW.holds_nil _) rfl rfl))) ?_; clear hk; intro a w hk
  refine FW.lfun (y := .lit (.bool ((decide (t1.2 = 0)) && (decide (t2.2.2.1 = 0))))) hk rfl rfl rfl rfl (FW.f_move hk (FW.holds_nil _) rfl) ?_; clear hk; intro a w hk
  refine FW.lfunG (y := .row (r_c_str t2.2.1)) hk rfl rfl rfl rfl rfl rfl rfl rfl (fun hc => FW.f_move hk hc rfl) ?_; clear hk; intro a w hk
  refine FW.lfunG (y := .lit (.int .i64 (List.length t2.2.1 : Int))) hk rfl rfl rfl rfl rfl rfl rfl rfl (fun hc => FW.f_len (R := r_c_str) (f := c_str) (l := t2.2.1) r_c_str_eq Go.Proofs.Try.underlying61 hk hc rfl) ?_; clear hk; intro a w hk
  refine FW.lfunG (y := .lit (.bool (decide ((List.length t2.2.1 : Int) = 0)))) hk rfl rfl rfl rfl rfl rfl rfl rfl (fun hc => (FW.f_pure (FW.p_eql hk.kn hc rfl rfl))) ?_; clear hk; intro a w hk
  refine FW.lfun (y := .lit (.bool (((decide (t1.2 = 0)) && (decide (t2.2.2.1 = 0))) && (decide ((List.length t2.2.1 : Int) = 0))))) hk rfl rfl rfl rfl ((FW.f_pure (FW.p_pick_and hk.kn (FW.holds_nil _) rfl rfl))) ?_; clear hk; intro a w hk
  refine FW.lfun (y := .lit (.bool (((decide (t1.2 = 0)) && (decide (t2.2.2.1 = 0))) && (decide ((List.length t2.2.1 : Int) = 0))))) hk rfl rfl rfl rfl (FW.f_move hk (FW.holds_nil _) rfl) ?_; clear hk; intro a w hk
  refine FW.lfunG (y := .lit (.int .i64 t3.1)) hk rfl rfl rfl rfl rfl rfl rfl rfl (fun hc => FW.f_move hk hc rfl) ?_; clear hk; intro a w hk
  refine FW.lfunG (y := .lit (.bool (decide (t3.1 = 0)))) hk rfl rfl rfl rfl rfl rfl rfl rfl (fun hc => (FW.f_pure (FW.p_eql hk.kn hc rfl rfl))) ?_; clear hk; intro a w hk
  refine FW.lfun (y := .lit (.bool ((((decide (t1.2 = 0)) && (decide (t2.2.2.1 = 0))) && (decide ((List.length t2.2.1 : Int) = 0))) && (decide (t3.1 = 0))))) hk rfl rfl rfl rfl ((FW.f_pure (FW.p_pick_and hk.kn (FW.holds_nil _) rfl rfl))) ?_; clear hk; intro a w hk
  refine FW.lfun (y := .lit (.bool ((((decide (t1.2 = 0)) && (decide (t2.2.2.1 = 0))) && (decide ((List.length t2.2.1 : Int) = 0))) && (decide (t3.1 = 0))))) hk rfl rfl rfl rfl (FW.f_move hk (FW.holds_nil _) rfl) ?_; clear hk; intro a w hk
  refine FW.lfunG (y := .lit (.int .i64 t6.2.2.1)) hk rfl rfl rfl rfl rfl rfl rfl rfl (fun hc => FW.f_move hk hc rfl) ?_; clear hk; intro a w hk
  refine FW.lfunG (y := .lit (.bool (decide (t6.2.2.1 = 0)))) hk rfl rfl rfl rfl rfl rfl rfl rfl (fun hc => (FW.f_pure (FW.p_eql hk.kn hc rfl rfl))) ?_; clear hk; intro a w hk
  refine FW.lfun (y := .lit (.bool (((((decide (t1.2 = 0)) && (decide (t2.2.2.1 = 0))) && (decide ((List.length t2.2.1 : Int) = 0))) && (decide (t3.1 = 0))) && (decide (t6.2.2.1 = 0))))) hk rfl rfl rfl rfl ((FW.f_pure (FW.p_pick_and hk.kn (FW.holds_nil _) rfl rfl))) ?_; clear hk; intro a w hk
  refine FW.lfun (y := .lit (.bool (((((decide (t1.2 = 0)) && (decide (t2.2.2.1 = 0))) && (decide ((List.length t2.2.1 : Int) = 0))) && (decide (t3.1 = 0))) && (decide (t6.2.2.1 = 0))))) hk rfl rfl rfl rfl (FW.f_move hk (FW.holds_nil _) rfl) ?_; clear hk; intro a w hk
  refine FW.lfunG (y := .row (r_c_str t6.2.1)) hk rfl rfl rfl rfl rfl rfl rfl rfl (fun hc => FW.f_move hk hc rfl) ?_; clear hk; intro a w hk
  refine FW.lfunG (y := .lit (.int .i64 (List.length t6.2.1 : Int))) hk rfl rfl rfl rfl rfl rfl rfl rfl (fun hc => FW.f_len (R := r_c_str) (f := c_str) (l := t6.2.1) r_c_str_eq Go.Proofs.Try.underlying61 hk hc rfl) ?_; clear hk; intro a w hk
  refine FW.lfunG (y := .lit (.bool (decide ((List.length t6.2.1 : Int) = 1)))) hk rfl rfl rfl rfl rfl rfl rfl rfl (fun hc => (FW.f_pure (FW.p_eql hk.kn hc rfl rfl))) ?_; clear hk; intro a w hk
  refine FW.lfun (y := .lit (.bool ((((((decide (t1.2 = 0)) && (decide (t2.2.2.1 = 0))) && (decide ((List.length t2.2.1 : Int) = 0))) && (decide (t3.1 = 0))) && (decide (t6.2.2.1 = 0))) && (decide ((List.length t6.2.1 : Int) = 1))))) hk rfl rfl rfl rfl ((FW.f_pure (FW.p_pick_and hk.kn (FW.holds_nil _) rfl rfl))) ?_; clear hk; intro a w hk
  refine FW.lfun (y := .lit (.bool ((((((decide (t1.2 = 0)) && (decide (t2.2.2.1 = 0))) && (decide ((List.length t2.2.1 : Int) = 0))) && (decide (t3.1 = 0))) && (decide (t6.2.2.1 = 0))) && (decide ((List.length t6.2.1 : Int) = 1))))) hk rfl rfl rfl rfl (FW.f_move hk (FW.holds_nil _) rfl) ?_; clear hk; intro a w hk
  refine FW.lfunG (y := .row (r_c_str t6.2.1)) hk rfl rfl rfl rfl rfl rfl rfl rfl (fun hc => FW.f_move hk hc rfl) ?_; clear hk; intro a w hk
  obtain ⟨hc1, h⟩ := FW.chk h
  refine FW.lfunG (y := .ref (c_str (List.getD t6.2.1 (Int.toNat 0) default))) hk rfl rfl rfl rfl rfl rfl rfl rfl (fun hc => FW.f_indexAddr (R := r_c_str) (f := c_str) (l := t6.2.1) (sz := 1) r_c_str_eq (fun _ => rfl) hk hc rfl rfl Go.Proofs.Try.underlying61 (by kernel_rfl) hc1) ?_; clear hk; intro a w hk
  refine FW.lfunG (y := .lit (.string (FW.B (List.getD t6.2.1 (Int.toNat 0) default)))) hk rfl rfl rfl rfl rfl rfl rfl rfl (fun hc => FW.f_load1 hk hc rfl rfl Go.Proofs.Try.underlying9 rfl) ?_; clear hk; intro a w hk
  refine FW.lfunG (y := .lit (.bool (decide ((List.getD t6.2.1 (Int.toNat 0) default) = ([101, 110, 116, 114, 121] : List UInt8))))) hk rfl rfl rfl rfl rfl rfl rfl rfl (fun hc => (FW.f_pure (FW.p_seql hk.kn hc rfl rfl))) ?_; clear hk; intro a w hk
  refine FW.lfun (y := .lit (.bool (((((((decide (t1.2 = 0)) && (decide (t2.2.2.1 = 0))) && (decide ((List.length t2.2.1 : Int) = 0))) && (decide (t3.1 = 0))) && (decide (t6.2.2.1 = 0))) && (decide ((List.length t6.2.1 : Int) = 1))) && (decide ((List.getD t6.2.1 (Int.toNat 0) default) = ([101, 110, 116, 114, 121] : List UInt8)))))) hk rfl rfl rfl rfl ((FW.f_pure (FW.p_pick_and hk.kn (FW.holds_nil _) rfl rfl))) ?_; clear hk; intro a w hk
  refine FW.lfun (y := .lit (.bool (((((((decide (t1.2 = 0)) && (decide (t2.2.2.1 = 0))) && (decide ((List.length t2.2.1 : Int) = 0))) && (decide (t3.1 = 0))) && (decide (t6.2.2.1 = 0))) && (decide ((List.length t6.2.1 : Int) = 1))) && (decide ((List.getD t6.2.1 (Int.toNat 0) default) = ([101, 110, 116, 114, 121] : List UInt8)))))) hk rfl rfl rfl rfl (FW.f_assign hk (FW.holds_nil _) rfl) ?_; clear hk; intro a w hk
  refine FW.lend (hK8 _ _ ?_); clear hK8 K'
  refine wp_ret ?_
  (repeat first | refine FW.then_ret ?_ | refine FW.block_ret ?_)
  obtain rfl := Option.some.inj h
  exact FW.fret1 hk rfl rfl

theorem offshootref04_Sectors.ok (K : Nat) (v0 : Int) (r : Int) (h : offshootref04_Sectors.f K v0 = some r) :
    FW.Ok Go.Proofs.Try.prog 46 [.lit (.int .i64 v0)] (.lit (.int .i64 r)) := by
  refine FW.enter (xs := [.lit (.int .i64 v0)]) Go.Proofs.Try.func46 rfl Go.Proofs.Try.ntmps46 rfl ?_
  intro M w0 a hk
  unfold offshootref04_Sectors.f at h
  refine FW.wreg ?_; intro K' hK1
  refine FW.lfun (y := .lit (.int .i64 0)) hk rfl rfl rfl rfl (FW.f_assign hk (FW.holds_nil _) rfl) ?_; clear hk; intro a w hk
  refine FW.lend (hK1 _ _ ?_); clear hK1 K'
  refine FW.wreg ?_; intro K' hK2
  refine FW.lfun (y := .lit (.int .i64 1)) hk rfl rfl rfl rfl (FW.f_assign hk (FW.holds_nil _) rfl) ?_; clear hk; intro a w hk
  refine FW.lend (hK2 _ _ ?_); clear hK2 K'
  refine FW.wseq ?_; intro K' hK3
  refine wp_block ?_
  refine FW.wloop (T := Nat × Int × Int) (fun x a w => match x with | (kl1, v0, v3) => FW.S M w0 a w 11 [] [(0, [], .lit (.int .i64 v0)), (3, [], .lit (.int .i64 v3))] ∧ offshootref04_Sectors.l1 K kl1 v0 v3 = some r) (fun x => x.1) (K, v0, 1) ⟨hk.sub ⟨rfl, rfl, trivial⟩, h⟩ ?_
  clear hk h
  rintro ⟨kl1, v0, v3⟩ a w ⟨hk, h⟩ K' hK4
  cases kl1 with
  | zero => simp [offshootref04_Sectors.l1] at h
  | succ kl1 =>
  rw [offshootref04_Sectors.l1.eq_2] at h
  refine FW.wseq ?_; intro K' hK5
  refine FW.wreg ?_; intro K' hK6
  refine FW.lfun (y := .lit (.int .i64 v0)) hk rfl rfl rfl rfl (FW.f_move hk (FW.holds_nil _) rfl) ?_; clear hk; intro a w hk
  refine FW.lfun (y := .lit (.bool (decide (104 < v0)))) hk rfl rfl rfl rfl ((FW.f_pure (FW.p_gtr hk.kn (FW.holds_nil _) rfl rfl))) ?_; clear hk; intro a w hk
  refine FW.lend (hK6 _ _ ?_); clear hK6 K'
  refine FW.wcondF (b := (decide (104 < v0))) hk h rfl (fun h hb => ?_) (fun h hb => ?_)
  · skip
    refine wp_skip ?_
    (repeat first | refine FW.then_normal ?_ | refine FW.block_normal ?_); refine hK5 _ _ ?_
    refine wp_block ?_
    refine FW.wreg ?_; intro K' hK7
    refine FW.lfun (y := .lit (.int .i64 v3)) hk rfl rfl rfl rfl (FW.f_move hk (FW.holds_nil _) rfl) ?_; clear hk; intro a w hk
    refine FW.lfun (y := .lit (.int .i64 (IntKind.wrap .i64 (v3 + 1)))) hk rfl rfl rfl rfl ((FW.f_pure (FW.p_add hk.kn (FW.holds_nil _) rfl rfl))) ?_; clear hk; intro a w hk
    refine FW.lfun (y := .lit (.int .i64 (IntKind.wrap .i64 (v3 + 1)))) hk rfl rfl rfl rfl (FW.f_assign hk (FW.holds_nil _) rfl) ?_; clear hk; intro a w hk
    refine FW.lend (hK7 _ _ ?_); clear hK7 K'
    refine FW.wreg1 ?_
    refine FW.lfun (y := .lit (.int .i64 v0)) hk rfl rfl rfl rfl (FW.f_move hk (FW.holds_nil _) rfl) ?_; clear hk; intro a w hk
    refine FW.lfun (y := .lit (.int .i64 (IntKind.wrap .i64 (v0 - 128)))) hk rfl rfl rfl rfl ((FW.f_pure (FW.p_sub hk.kn (FW.holds_nil _) rfl rfl))) ?_; clear hk; intro a w hk
    refine FW.lfun (y := .lit (.int .i64 (IntKind.wrap .i64 (v0 - 128)))) hk rfl rfl rfl rfl (FW.f_assign hk (FW.holds_nil _) rfl) ?_; clear hk; intro a w hk
    refine wpList_nil ?_
    (repeat first | refine FW.then_normal ?_ | refine FW.block_normal ?_); exact hK4 (kl1, (IntKind.wrap .i64 (v0 - 128)), (IntKind.wrap .i64 (v3 + 1))) _ _ (Nat.lt_succ_self _) ⟨hk.sub ⟨rfl, rfl, trivial⟩, h⟩
  · skip
    refine wp_exit ?_; (repeat first | refine FW.then_exit ?_ | refine FW.block_exit_ne rfl ?_); refine FW.block_exit ?_
    (repeat first | refine FW.then_normal ?_ | refine FW.block_normal ?_); refine hK3 _ _ ?_
    refine FW.wreg ?_; intro K' hK9
    refine FW.lfun (y := .lit (.int .i64 v3)) hk rfl rfl rfl rfl (FW.f_move hk (FW.holds_nil _) rfl) ?_; clear hk; intro a w hk
    refine FW.lfun (y := .lit (.int .i64 v3)) hk rfl rfl rfl rfl (FW.f_assign hk (FW.holds_nil _) rfl) ?_; clear hk; intro a w hk
    refine FW.lend (hK9 _ _ ?_); clear hK9 K'
    refine wp_ret ?_
    (repeat first | refine FW.then_ret ?_ | refine FW.block_ret ?_)
    obtain rfl := Option.some.inj h
    exact FW.fret1 hk rfl rfl

theorem offshootlaw04_LogSectors.ok (K : Nat) (v0 : Int) (r : Bool) (h : offshootlaw04_LogSectors.f K v0 = some r) :
    FW.Ok Go.Proofs.Try.prog 10 [.lit (.int .i64 v0)] (.lit (.bool r)) := by
  refine FW.enter (xs := [.lit (.int .i64 v0)]) Go.Proofs.Try.func10 rfl Go.Proofs.Try.ntmps10 rfl ?_
  intro M w0 a hk
  unfold offshootlaw04_LogSectors.f at h
  refine FW.wreg ?_; intro K' hK1
  refine FW.lfun (y := .lit (.bool false)) hk rfl rfl rfl rfl (FW.f_assign hk (FW.holds_nil _) rfl) ?_; clear hk; intro a w hk
  refine FW.lend (hK1 _ _ ?_); clear hK1 K'
  refine FW.wreg ?_; intro K' hK2
  refine FW.lfun (y := .lit (.int .i64 v0)) hk rfl rfl rfl rfl (FW.f_move hk (FW.holds_nil _) rfl) ?_; clear hk; intro a w hk
  refine FW.lfun (y := .lit (.int .i64 (FW.andI .i64 v0 65535))) hk rfl rfl rfl rfl ((FW.f_pure (FW.p_and hk.kn (FW.holds_nil _) rfl rfl))) ?_; clear hk; intro a w hk
  refine FW.lfun (y := .lit (.int .i64 (FW.andI .i64 v0 65535))) hk rfl rfl rfl rfl (FW.f_assign hk (FW.holds_nil _) rfl) ?_; clear hk; intro a w hk
  refine FW.lend (hK2 _ _ ?_); clear hK2 K'
  refine FW.wreg ?_; intro K' hK3
  obtain ⟨t1, hr_t1, h⟩ := FW.bnd h
  refine FW.lfun (y := .lit (.bool t1)) hk rfl rfl rfl rfl (FW.f_call hk (FW.holds_nil _) rfl rfl Go.Proofs.Try.func44 rfl (by kernel_rfl) (offshootlaw04_awake.ok K  _ hr_t1)) ?_; clear hk; intro a w hk
  refine FW.lfun (y := .lit (.bool t1)) hk rfl rfl rfl rfl (FW.f_move hk (FW.holds_nil _) rfl) ?_; clear hk; intro a w hk
  refine FW.lfunG (y := .lit (.int .i64 (FW.andI .i64 v0 65535))) hk rfl rfl rfl rfl rfl rfl rfl rfl (fun hc => FW.f_move hk hc rfl) ?_; clear hk; intro a w hk
  obtain ⟨t2, hr_t2, h⟩ := FW.bndG h
  refine FW.lfunG (y := .lit (.int .i64 t2)) hk rfl rfl rfl rfl rfl rfl rfl rfl (fun hc => FW.f_call hk hc rfl rfl Go.Proofs.Try.func45 rfl (by kernel_rfl) (log_Sectors.ok (FW.andI .i64 v0 65535) _ (hr_t2 (FW.asm_out (p := t1 = true) hk.kn hc (fun e0 => e0))))) ?_; clear hk; intro a w hk
  refine FW.lfunG (y := .lit (.int .i64 (FW.andI .i64 v0 65535))) hk rfl rfl rfl rfl rfl rfl rfl rfl (fun hc => FW.f_move hk hc rfl) ?_; clear hk; intro a w hk
  obtain ⟨t3, hr_t3, h⟩ := FW.bndG h
  refine FW.lfunG (y := .lit (.int .i64 t3)) hk rfl rfl rfl rfl rfl rfl rfl rfl (fun hc => FW.f_call hk hc rfl rfl Go.Proofs.Try.func46 rfl (by kernel_rfl) (offshootref04_Sectors.ok K (FW.andI .i64 v0 65535) _ (hr_t3 (FW.asm_out (p := t1 = true) hk.kn hc (fun e0 => e0))))) ?_; clear hk; intro a w hk
  refine FW.lfunG (y := .lit (.bool (decide (t2 = t3)))) hk rfl rfl rfl rfl rfl rfl rfl rfl (fun hc => (FW.f_pure (FW.p_eql hk.kn hc rfl rfl))) ?_; clear hk; intro a w hk
  refine FW.lfun (y := .lit (.bool (t1 && (decide (t2 = t3))))) hk rfl rfl rfl rfl ((FW.f_pure (FW.p_pick_and hk.kn (FW.holds_nil _) rfl rfl))) ?_; clear hk; intro a w hk
  refine FW.lfun (y := .lit (.bool (t1 && (decide (t2 = t3))))) hk rfl rfl rfl rfl (FW.f_move hk (FW.holds_nil _) rfl) ?_; clear hk; intro a w hk
  obtain ⟨t4, hr_t4, h⟩ := FW.bndG h
  refine FW.lfunG (y := .lit (.int .i64 t4)) hk rfl rfl rfl rfl rfl rfl rfl rfl (fun hc => FW.f_call hk hc rfl rfl Go.Proofs.Try.func45 rfl (by kernel_rfl) (log_Sectors.ok 0 _ (hr_t4 (FW.asm_out (p := (t1 && (decide (t2 = t3))) = true) hk.kn hc (fun e0 => e0))))) ?_; clear hk; intro a w hk
  refine FW.lfunG (y := .lit (.bool (decide (t4 = 1)))) hk rfl rfl rfl rfl rfl rfl rfl rfl (fun hc => (FW.f_pure (FW.p_eql hk.kn hc rfl rfl))) ?_; clear hk; intro a w hk
  refine FW.lfun (y := .lit (.bool ((t1 && (decide (t2 = t3))) && (decide (t4 = 1))))) hk rfl rfl rfl rfl ((FW.f_pure (FW.p_pick_and hk.kn (FW.holds_nil _) rfl rfl))) ?_; clear hk; intro a w hk
  refine FW.lfun (y := .lit (.bool ((t1 && (decide (t2 = t3))) && (decide (t4 = 1))))) hk rfl rfl rfl rfl (FW.f_assign hk (FW.holds_nil _) rfl) ?_; clear hk; intro a w hk
  refine FW.lend (hK3 _ _ ?_); clear hK3 K'
  refine wp_ret ?_
  (repeat first | refine FW.then_ret ?_ | refine FW.block_ret ?_)
  obtain rfl := Option.some.inj h
  exact FW.fret1 hk rfl rfl
end Go.Proofs.Ytimaibcaehagjaa

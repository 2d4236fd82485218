/- Written by a program of this session (gen.py): the contracts of functions of the program. -/
import Derived.KernelRfl
import Derived.Test.YtimaibcaehagjaaProg
import Derived.Test.YtimaibcaehagjaaAvFun
import Derived.Test.YtimaibcaehagjaaAvMan
import Derived.Test.YtimaibcaehagjaaAvMore
import Derived.Test.YtimaibcaehagjaaAvDraw2
import Derived.Test.YtimaibcaehagjaaAvRow
import Derived.Test.YtimaibcaehagjaaHn
import Derived.Test.YtimaibcaehagjaaHg
import Derived.Test.YtimaibcaehagjaaHar
import Derived.Test.YtimaibcaehagjaaHc
import Derived.Test.YtimaibcaehagjaaFx
import Derived.Test.YtimaibcaehagjaaDxP1
import Derived.Test.YtimaibcaehagjaaFy2
import Derived.Test.YtimaibcaehagjaaHl
import Derived.Test.YtimaibcaehagjaaHnl
import Derived.Test.YtimaibcaehagjaaLhD
import Derived.Test.YtimaibcaehagjaaLhP2
namespace Go.Proofs.Ytimaibcaehagjaa
set_option linter.unusedVariables false
set_option maxRecDepth 20000
set_option maxHeartbeats 10000000
theorem log_Open_opt.ok (K : Nat) (v0 : ODevDev) (v1 : Int) (v2 : Int) (v3 : Int) (r : Option OLogLog × List (List UInt8) × Int × ODevDev) (h : log_Open_opt.f K v0 v1 v2 v3 = some r) :
    ∀ (b0 : Nat) (xd0_0 : Option Addr) (xc0_0 : Nat) (xr0_1 : Nat) (xd0_3 : Option Addr) (xc0_3 : Nat), FW.OkH Go.Proofs.Try.prog 47 [.lit (.pointer (some ⟨b0, 0, none⟩)), .lit (.int .i64 v1), .lit (.int .i64 v2), .lit (.int .u64 v3)] (ODevDev.items b0 xd0_0 xc0_0 xr0_1 xd0_3 xc0_3 v0) (fun y I => ∃ (bn0 : Nat) (zxd0_0 : Option Addr) (zxc0_0 : Nat) (zxr0_1 : Nat) (zxd0_3 : Option Addr) (zxc0_3 : Nat), y = .tup [FW.ptrO r.1 bn0, .row (r_c_str r.2.1), .lit (.int .i64 r.2.2.1)] ∧ I = (FW.optI r.1 fun x => OLogLog.items bn0 b0 x) ++ (ODevDev.items b0 zxd0_0 zxc0_0 zxr0_1 zxd0_3 zxc0_3 r.2.2.2)) := by
  intro b0 xd0_0 xc0_0 xr0_1 xd0_3 xc0_3
  refine FW.enterH (xs := [.lit (.pointer (some ⟨b0, 0, none⟩)), .lit (.int .i64 v1), .lit (.int .i64 v2), .lit (.int .u64 v3)]) Go.Proofs.Try.func47 rfl Go.Proofs.Try.ntmps47 rfl ?_
  intro M w0 a hk
  replace hk : FW.S M w0 a w0.toWorld 75 [FW.blk b0 109 ([.lit (.slice xd0_0 (List.length v0.sure) xc0_0), .lit (.map (some xr0_1)), .lit (.int .i64 v0.steps), .lit (.slice xd0_3 (List.length v0.falls) xc0_3), .lit (.bool v0.off)]), FW.orow xd0_0 xc0_0 9 1 c_str v0.sure, FW.mapI (.int .i64) (Value.int .i64) FW.evS xr0_1 v0.cache, FW.orow xd0_3 xc0_3 45 3 ApiFall.cells v0.falls] [(0, [], .lit (.pointer (some ⟨b0, 0, none⟩))), (1, [], .lit (.int .i64 v1)), (2, [], .lit (.int .i64 v2)), (3, [], .lit (.int .u64 v3))] := hk
  unfold log_Open_opt.f at h
  refine FW.wreg ?_; intro K' hK1
  refine FW.lfun (y := .lit (.pointer none)) hk rfl rfl rfl rfl (FW.f_assign hk (FW.holds_nil _) rfl) ?_; clear hk; intro a w hk
  refine FW.lfun (y := .row (r_c_str [])) hk rfl rfl rfl rfl (FW.f_assignNil) ?_; clear hk; intro a w hk
  refine FW.lfun (y := .lit (.int .i64 0)) hk rfl rfl rfl rfl (FW.f_assign hk (FW.holds_nil _) rfl) ?_; clear hk; intro a w hk
  refine FW.lend (hK1 _ _ ?_); clear hK1 K'
  refine FW.wseq ?_; intro K' hK2
  refine FW.wreg ?_; intro K' hK3
  refine FW.lfun (y := .lit (.pointer (some ⟨b0, 0, none⟩))) hk rfl rfl rfl rfl (FW.f_move hk (FW.holds_nil _) rfl) ?_; clear hk; intro a w hk
  refine FW.lfun (y := .lit (.bool false)) hk rfl rfl rfl rfl ((FW.f_pure (FW.p_ptrEq Go.Proofs.Try.underlying46 hk.kn (FW.holds_nil _) rfl rfl rfl))) ?_; clear hk; intro a w hk
  refine FW.lfun (y := .lit (.bool false)) hk rfl rfl rfl rfl (FW.f_move hk (FW.holds_nil _) rfl) ?_; clear hk; intro a w hk
  refine FW.lfunG (y := .lit (.int .i64 v1)) hk rfl rfl rfl rfl rfl rfl rfl rfl (fun hc => FW.f_move hk hc rfl) ?_; clear hk; intro a w hk
  refine FW.lfunG (y := .lit (.bool (decide (v1 < 0)))) hk rfl rfl rfl rfl rfl rfl rfl rfl (fun hc => (FW.f_pure (FW.p_lss hk.kn hc rfl rfl))) ?_; clear hk; intro a w hk
  refine FW.lfun (y := .lit (.bool (decide (v1 < 0)))) hk rfl rfl rfl rfl ((FW.f_pure (FW.p_pickX hk.kn (FW.holds_nil _) rfl rfl))) ?_; clear hk; intro a w hk
  refine FW.lfun (y := .lit (.bool (decide (v1 < 0)))) hk rfl rfl rfl rfl (FW.f_move hk (FW.holds_nil _) rfl) ?_; clear hk; intro a w hk
  refine FW.lfunG (y := .lit (.int .i64 v2)) hk rfl rfl rfl rfl rfl rfl rfl rfl (fun hc => FW.f_move hk hc rfl) ?_; clear hk; intro a w hk
  refine FW.lfunG (y := .lit (.int .i64 v1)) hk rfl rfl rfl rfl rfl rfl rfl rfl (fun hc => FW.f_move hk hc rfl) ?_; clear hk; intro a w hk
  refine FW.lfunG (y := .lit (.bool (decide (v2 < v1)))) hk rfl rfl rfl rfl rfl rfl rfl rfl (fun hc => (FW.f_pure (FW.p_lss hk.kn hc rfl rfl))) ?_; clear hk; intro a w hk
  refine FW.lfun (y := .lit (.bool ((decide (v1 < 0)) || (decide (v2 < v1))))) hk rfl rfl rfl rfl ((FW.f_pure (FW.p_pick_or hk.kn (FW.holds_nil _) rfl rfl))) ?_; clear hk; intro a w hk
  refine FW.lfun (y := .lit (.bool ((decide (v1 < 0)) || (decide (v2 < v1))))) hk rfl rfl rfl rfl (FW.f_move hk (FW.holds_nil _) rfl) ?_; clear hk; intro a w hk
  refine FW.lfunG (y := .lit (.int .i64 v2)) hk rfl rfl rfl rfl rfl rfl rfl rfl (fun hc => FW.f_move hk hc rfl) ?_; clear hk; intro a w hk
  refine FW.lfunG (y := .lit (.pointer (some ⟨b0, 0, none⟩))) hk rfl rfl rfl rfl rfl rfl rfl rfl (fun hc => FW.f_move hk hc rfl) ?_; clear hk; intro a w hk
  obtain ⟨t1, hr_t1, hn_t1, h⟩ := FW.bndG2 h
  refine FW.l_callHG (I1 := (ODevDev.items b0 xd0_0 xc0_0 xr0_1 xd0_3 xc0_3 v0)) (I2 := []) (js := [3, 3, 3, 3]) hk rfl rfl rfl rfl rfl rfl rfl rfl rfl Go.Proofs.Try.func42 rfl (by kernel_rfl) (fun hc => dev_Dev_Len.ok v0 _ (hr_t1 (FW.asm_out (p := ((decide (v1 < 0)) || (decide (v2 < v1))) = false) hk.kn hc (fun e0 => e0))) b0 xd0_0 xc0_0 xr0_1 xd0_3 xc0_3) (fun hn => by obtain rfl := hn_t1 (fun hp => hn (FW.asm_in hk.kn (by have e0 := hp; exact ⟨e0, rfl, trivial⟩))); exact ⟨_, rfl, rfl⟩) ?_; clear hk
  rintro _ _ ⟨rfl, rfl⟩ a w hk
  refine FW.lfunG (y := .lit (.bool (decide (t1 < v2)))) hk rfl rfl rfl rfl rfl rfl rfl rfl (fun hc => (FW.f_pure (FW.p_gtr hk.kn hc rfl rfl))) ?_; clear hk; intro a w hk
  refine FW.lfun (y := .lit (.bool (((decide (v1 < 0)) || (decide (v2 < v1))) || (decide (t1 < v2))))) hk rfl rfl rfl rfl ((FW.f_pure (FW.p_pick_or hk.kn (FW.holds_nil _) rfl rfl))) ?_; clear hk; intro a w hk
  refine FW.lfun (y := .lit (.bool (((decide (v1 < 0)) || (decide (v2 < v1))) || (decide (t1 < v2))))) hk rfl rfl rfl rfl (FW.f_move hk (FW.holds_nil _) rfl) ?_; clear hk; intro a w hk
  refine FW.lfunG (y := .lit (.int .u64 v3)) hk rfl rfl rfl rfl rfl rfl rfl rfl (fun hc => FW.f_move hk hc rfl) ?_; clear hk; intro a w hk
  refine FW.lfunG (y := .lit (.bool (decide (v3 = 0)))) hk rfl rfl rfl rfl rfl rfl rfl rfl (fun hc => (FW.f_pure (FW.p_eql hk.kn hc rfl rfl))) ?_; clear hk; intro a w hk
  refine FW.lfun (y := .lit (.bool ((((decide (v1 < 0)) || (decide (v2 < v1))) || (decide (t1 < v2))) || (decide (v3 = 0))))) hk rfl rfl rfl rfl ((FW.f_pure (FW.p_pick_or hk.kn (FW.holds_nil _) rfl rfl))) ?_; clear hk; intro a w hk
  refine FW.lend (hK3 _ _ ?_); clear hK3 K'
  refine FW.wcondF (b := ((((decide (v1 < 0)) || (decide (v2 < v1))) || (decide (t1 < v2))) || (decide (v3 = 0)))) hk h rfl (fun h hb => ?_) (fun h hb => ?_)
  · skip
    refine FW.wreg ?_; intro K' hK4
    refine FW.lfun (y := .lit (.pointer none)) hk rfl rfl rfl rfl (FW.f_assign hk (FW.holds_nil _) rfl) ?_; clear hk; intro a w hk
    refine FW.lfun (y := .row (r_c_str [])) hk rfl rfl rfl rfl (FW.f_assignNil) ?_; clear hk; intro a w hk
    refine FW.lfun (y := .lit (.int .i64 1)) hk rfl rfl rfl rfl (FW.f_assign hk (FW.holds_nil _) rfl) ?_; clear hk; intro a w hk
    refine FW.lend (hK4 _ _ ?_); clear hK4 K'
    refine wp_ret ?_
    (repeat first | refine FW.then_ret ?_ | refine FW.block_ret ?_)
    obtain rfl := Option.some.inj h
    replace hk := FW.S.keep (I1 := [FW.blk b0 109 ([.lit (.slice xd0_0 (List.length v0.sure) xc0_0), .lit (.map (some xr0_1)), .lit (.int .i64 v0.steps), .lit (.slice xd0_3 (List.length v0.falls) xc0_3), .lit (.bool v0.off)]), FW.orow xd0_0 xc0_0 9 1 c_str v0.sure, FW.mapI (.int .i64) (Value.int .i64) FW.evS xr0_1 v0.cache, FW.orow xd0_3 xc0_3 45 3 ApiFall.cells v0.falls]) (I2 := []) (js := [3, 3, 3, 3]) hk rfl
    exact FW.fretH3 hk rfl (FW.rtmp hk rfl) (FW.rtmp hk rfl) (FW.rtmp hk rfl) ⟨0, xd0_0, xc0_0, xr0_1, xd0_3, xc0_3, rfl, rfl⟩
  · skip
    refine wp_skip ?_
    (repeat first | refine FW.then_normal ?_ | refine FW.block_normal ?_); refine hK2 _ _ ?_
    refine FW.wseq ?_; intro K' hK5
    refine FW.wreg ?_; intro K' hK6
    refine FW.lfun (y := .lit (.pointer (some ⟨b0, 0, none⟩))) hk rfl rfl rfl rfl (FW.f_move hk (FW.holds_nil _) rfl) ?_; clear hk; intro a w hk
    obtain ⟨t2, hr_t2, h⟩ := FW.bnd h
    refine FW.l_callH (I1 := (ODevDev.items b0 xd0_0 xc0_0 xr0_1 xd0_3 xc0_3 v0)) (I2 := []) (js := [3, 3, 3, 3]) hk rfl rfl rfl rfl rfl Go.Proofs.Try.func41 rfl (by kernel_rfl) (dev_Dev_Off.ok v0 _ hr_t2 b0 xd0_0 xc0_0 xr0_1 xd0_3 xc0_3) ?_; clear hk
    rintro _ _ ⟨rfl, rfl⟩ a w hk
    refine FW.lend (hK6 _ _ ?_); clear hK6 K'
    refine FW.wcondF (b := t2) hk h rfl (fun h hb => ?_) (fun h hb => ?_)
    · skip
      refine FW.wreg ?_; intro K' hK7
      refine FW.lfun (y := .lit (.pointer none)) hk rfl rfl rfl rfl (FW.f_assign hk (FW.holds_nil _) rfl) ?_; clear hk; intro a w hk
      refine FW.lfun (y := .row (r_c_str [])) hk rfl rfl rfl rfl (FW.f_assignNil) ?_; clear hk; intro a w hk
      refine FW.lfun (y := .lit (.int .i64 7)) hk rfl rfl rfl rfl (FW.f_assign hk (FW.holds_nil _) rfl) ?_; clear hk; intro a w hk
      refine FW.lend (hK7 _ _ ?_); clear hK7 K'
      refine wp_ret ?_
      (repeat first | refine FW.then_ret ?_ | refine FW.block_ret ?_)
      obtain rfl := Option.some.inj h
      replace hk := FW.S.keep (I1 := [FW.blk b0 109 ([.lit (.slice xd0_0 (List.length v0.sure) xc0_0), .lit (.map (some xr0_1)), .lit (.int .i64 v0.steps), .lit (.slice xd0_3 (List.length v0.falls) xc0_3), .lit (.bool v0.off)]), FW.orow xd0_0 xc0_0 9 1 c_str v0.sure, FW.mapI (.int .i64) (Value.int .i64) FW.evS xr0_1 v0.cache, FW.orow xd0_3 xc0_3 45 3 ApiFall.cells v0.falls]) (I2 := []) (js := [3, 3, 3, 3]) hk rfl
      exact FW.fretH3 hk rfl (FW.rtmp hk rfl) (FW.rtmp hk rfl) (FW.rtmp hk rfl) ⟨0, xd0_0, xc0_0, xr0_1, xd0_3, xc0_3, rfl, rfl⟩
    · skip
      refine wp_skip ?_
      (repeat first | refine FW.then_normal ?_ | refine FW.block_normal ?_); refine hK5 _ _ ?_
      refine FW.wreg ?_; intro K' hK8
      refine FW.lfun (y := .lit (.pointer (some ⟨b0, 0, none⟩))) hk rfl rfl rfl rfl (FW.f_move hk (FW.holds_nil _) rfl) ?_; clear hk; intro a w hk
      refine FW.lfun (y := .lit (.int .i64 v1)) hk rfl rfl rfl rfl (FW.f_move hk (FW.holds_nil _) rfl) ?_; clear hk; intro a w hk
      refine FW.lfun (y := .lit (.int .i64 v2)) hk rfl rfl rfl rfl (FW.f_move hk (FW.holds_nil _) rfl) ?_; clear hk; intro a w hk
      refine FW.lfun (y := .lit (.int .i64 v1)) hk rfl rfl rfl rfl (FW.f_move hk (FW.holds_nil _) rfl) ?_; clear hk; intro a w hk
      refine FW.lfun (y := .lit (.int .u64 v3)) hk rfl rfl rfl rfl (FW.f_move hk (FW.holds_nil _) rfl) ?_; clear hk; intro a w hk
      refine FW.lfun (y := .agg ([.lit (.pointer (some ⟨b0, 0, none⟩)), .lit (.int .i64 v1), .lit (.int .i64 v2), .lit (.int .i64 v1), .lit (.int .u64 v3)])) hk rfl rfl rfl rfl (FW.f_buildN [] hk (FW.holds_nil _) rfl rfl rfl) ?_; clear hk; intro a w hk
      refine FW.l_box (cs := [.lit (.pointer (some ⟨b0, 0, none⟩)), .lit (.int .i64 v1), .lit (.int .i64 v2), .lit (.int .i64 v1), .lit (.int .u64 v3)]) hk rfl rfl rfl rfl rfl ?_; clear hk; intro bx1 a w hk
      refine FW.lfun (y := .lit (.pointer (some ⟨bx1, 0, none⟩))) hk rfl rfl rfl rfl (FW.f_assign hk (FW.holds_nil _) rfl) ?_; clear hk; intro a w hk
      refine FW.lend (hK8 _ _ ?_); clear hK8 K'
      refine FW.wreg ?_; intro K' hK9
      refine FW.lfun (y := .lit (.slice none 0 0)) hk rfl rfl rfl rfl (FW.f_assign hk (FW.holds_nil _) rfl) ?_; clear hk; intro a w hk
      replace hk := hk.nilRow 9 1 c_str (fun _ => rfl)
      refine FW.lend (hK9 _ _ ?_); clear hK9 K'
      refine wp_block ?_
      refine FW.wloop (T := Nat × List (List UInt8) × Int × Int × Int × Int × Option Addr × Nat) (fun x a w => match x with | (kl1, l6, y5_1, y5_2, y5_3, y5_4, xd6, xc6) => FW.S M w0 a w 75 [FW.orow xd6 xc6 9 1 c_str l6, FW.blk bx1 127 ([.lit (.pointer (some ⟨b0, 0, none⟩)), .lit (.int .i64 y5_1), .lit (.int .i64 y5_2), .lit (.int .i64 y5_3), .lit (.int .u64 y5_4)]), FW.blk b0 109 ([.lit (.slice xd0_0 (List.length v0.sure) xc0_0), .lit (.map (some xr0_1)), .lit (.int .i64 v0.steps), .lit (.slice xd0_3 (List.length v0.falls) xc0_3), .lit (.bool v0.off)]), FW.orow xd0_0 xc0_0 9 1 c_str v0.sure, FW.mapI (.int .i64) (Value.int .i64) FW.evS xr0_1 v0.cache, FW.orow xd0_3 xc0_3 45 3 ApiFall.cells v0.falls] [(11, [], .lit (.pointer (some ⟨bx1, 0, none⟩))), (12, [], .lit (.slice xd6 (List.length l6) xc6))] ∧ log_Open_opt.l1 K v0 kl1 l6 y5_1 y5_2 y5_3 y5_4 = some r) (fun x => x.1) (K, ([] : List (List UInt8)), v1, v2, v1, v3, none, 0) ⟨hk.sub ⟨rfl, rfl, trivial⟩, h⟩ ?_
      clear hk h
      rintro ⟨kl1, l6, y5_1, y5_2, y5_3, y5_4, xd6, xc6⟩ a w ⟨hk, h⟩ K' hK10
      cases kl1 with
      | zero => simp [log_Open_opt.l1] at h
      | succ kl1 =>
      rw [log_Open_opt.l1.eq_2] at h
      refine wp_block ?_
      refine FW.wreg ?_; intro K' hK11
      refine FW.lfun (y := .lit (.pointer (some ⟨bx1, 0, none⟩))) hk rfl rfl rfl rfl (FW.f_move hk (FW.holds_nil _) rfl) ?_; clear hk; intro a w hk
      obtain ⟨t3, hr_t3, h⟩ := FW.bnd h
      refine FW.l_callH (I1 := (OLogLog.items bx1 b0 (⟨y5_1, y5_2, y5_3, y5_4⟩ : OLogLog)) ++ (ODevDev.items b0 xd0_0 xc0_0 xr0_1 xd0_3 xc0_3 v0)) (I2 := [FW.orow xd6 xc6 9 1 c_str l6]) (js := [5, 5, 5, 5, 5]) hk rfl rfl rfl rfl rfl Go.Proofs.Try.func73 rfl (by kernel_rfl) (log_Log_read.ok K (⟨y5_1, y5_2, y5_3, y5_4⟩ : OLogLog) v0 _ hr_t3 bx1 b0 xd0_0 xc0_0 xr0_1 xd0_3 xc0_3) ?_; clear hk
      rintro _ _ ⟨rfl, rfl⟩ a w hk
      refine FW.lfun (y := .tup [.lit (.string (FW.B t3.1)), .lit (.bool t3.2)]) hk rfl rfl rfl rfl (FW.f_move hk (FW.holds_nil _) rfl) ?_; clear hk; intro a w hk
      refine FW.lfun (y := .lit (.string (FW.B t3.1))) hk rfl rfl rfl rfl (FW.f_extract hk (FW.holds_nil _) rfl rfl) ?_; clear hk; intro a w hk
      refine FW.lfun (y := .lit (.bool t3.2)) hk rfl rfl rfl rfl (FW.f_extract hk (FW.holds_nil _) rfl rfl) ?_; clear hk; intro a w hk
      refine FW.lfun (y := .lit (.string (FW.B t3.1))) hk rfl rfl rfl rfl (FW.f_assign hk (FW.holds_nil _) rfl) ?_; clear hk; intro a w hk
      refine FW.lfun (y := .lit (.bool t3.2)) hk rfl rfl rfl rfl (FW.f_assign hk (FW.holds_nil _) rfl) ?_; clear hk; intro a w hk
      refine FW.lend (hK11 _ _ ?_); clear hK11 K'
      refine FW.wseq ?_; intro K' hK12
      refine FW.wreg ?_; intro K' hK13
      refine FW.lfun (y := .lit (.bool t3.2)) hk rfl rfl rfl rfl (FW.f_move hk (FW.holds_nil _) rfl) ?_; clear hk; intro a w hk
      refine FW.lfun (y := .lit (.bool (!t3.2))) hk rfl rfl rfl rfl ((FW.f_pure (FW.p_not hk.kn (FW.holds_nil _) rfl))) ?_; clear hk; intro a w hk
      refine FW.lend (hK13 _ _ ?_); clear hK13 K'
      refine FW.wcondF (b := (!t3.2)) hk h rfl (fun h hb => ?_) (fun h hb => ?_)
      · skip
        refine FW.wreg ?_; intro K' hK14
        refine FW.lfun (y := .lit (.pointer (some ⟨bx1, 0, none⟩))) hk rfl rfl rfl rfl (FW.f_move hk (FW.holds_nil _) rfl) ?_; clear hk; intro a w hk
        refine FW.lfun (y := .lit (.slice xd6 (List.length l6) xc6)) hk rfl rfl rfl rfl (FW.f_move hk (FW.holds_nil _) rfl) ?_; clear hk; intro a w hk
        refine FW.lfun (y := .lit (.pointer (some ⟨bx1, 0, none⟩))) hk rfl rfl rfl rfl (FW.f_assign hk (FW.holds_nil _) rfl) ?_; clear hk; intro a w hk
        refine FW.lfun (y := .lit (.slice xd6 (List.length l6) xc6)) hk rfl rfl rfl rfl (FW.f_assign hk (FW.holds_nil _) rfl) ?_; clear hk; intro a w hk
        refine FW.lfun (y := .lit (.int .i64 0)) hk rfl rfl rfl rfl (FW.f_assign hk (FW.holds_nil _) rfl) ?_; clear hk; intro a w hk
        refine FW.lend (hK14 _ _ ?_); clear hK14 K'
        refine wp_ret ?_
        (repeat first | refine FW.then_ret ?_ | refine FW.block_ret ?_)
        replace hk := FW.S.freezeR (I' := [FW.blk bx1 127 ([.lit (.pointer (some ⟨b0, 0, none⟩)), .lit (.int .i64 y5_1), .lit (.int .i64 y5_2), .lit (.int .i64 y5_3), .lit (.int .u64 y5_4)]), FW.blk b0 109 ([.lit (.slice xd0_0 (List.length v0.sure) xc0_0), .lit (.map (some xr0_1)), .lit (.int .i64 v0.steps), .lit (.slice xd0_3 (List.length v0.falls) xc0_3), .lit (.bool v0.off)]), FW.orow xd0_0 xc0_0 9 1 c_str v0.sure, FW.mapI (.int .i64) (Value.int .i64) FW.evS xr0_1 v0.cache, FW.orow xd0_3 xc0_3 45 3 ApiFall.cells v0.falls]) r_c_str_eq hk (j := 5) rfl (t := 9) rfl rfl
        obtain rfl := Option.some.inj h
        replace hk := FW.S.keep (I1 := [FW.blk bx1 127 ([.lit (.pointer (some ⟨b0, 0, none⟩)), .lit (.int .i64 y5_1), .lit (.int .i64 y5_2), .lit (.int .i64 y5_3), .lit (.int .u64 y5_4)]), FW.blk b0 109 ([.lit (.slice xd0_0 (List.length v0.sure) xc0_0), .lit (.map (some xr0_1)), .lit (.int .i64 v0.steps), .lit (.slice xd0_3 (List.length v0.falls) xc0_3), .lit (.bool v0.off)]), FW.orow xd0_0 xc0_0 9 1 c_str v0.sure, FW.mapI (.int .i64) (Value.int .i64) FW.evS xr0_1 v0.cache, FW.orow xd0_3 xc0_3 45 3 ApiFall.cells v0.falls]) (I2 := []) (js := [4, 4, 4, 4, 4]) hk rfl
        exact FW.fretH3 hk rfl (FW.rtmp hk rfl) (FW.rtmp hk rfl) (FW.rtmp hk rfl) ⟨bx1, xd0_0, xc0_0, xr0_1, xd0_3, xc0_3, rfl, rfl⟩
      · skip
        refine wp_skip ?_
        (repeat first | refine FW.then_normal ?_ | refine FW.block_normal ?_); refine hK12 _ _ ?_
        refine FW.wreg ?_; intro K' hK15
        refine FW.lfun (y := .lit (.slice xd6 (List.length l6) xc6)) hk rfl rfl rfl rfl (FW.f_move hk (FW.holds_nil _) rfl) ?_; clear hk; intro a w hk
        refine FW.lfun (y := .lit (.string (FW.B t3.1))) hk rfl rfl rfl rfl (FW.f_move hk (FW.holds_nil _) rfl) ?_; clear hk; intro a w hk
        refine FW.l_buildSlice (f := c_str) (l := ([t3.1] : List (List UInt8))) hk rfl rfl rfl Go.Proofs.Try.underlying61 rfl rfl rfl rfl (fun _ => rfl) rfl ?_; clear hk; intro bx2 a w hk
        obtain ⟨hc1, h⟩ := FW.chk h
        refine FW.l_append (l2 := ([t3.1] : List (List UInt8))) (l3 := (l6 ++ ([t3.1] : List (List UInt8)))) (I' := fun ad1 cap1 => [FW.orow (some ⟨bx2, 0, none⟩) 1 9 1 c_str ([t3.1] : List (List UInt8)), FW.blk bx1 127 ([.lit (.pointer (some ⟨b0, 0, none⟩)), .lit (.int .i64 y5_1), .lit (.int .i64 y5_2), .lit (.int .i64 y5_3), .lit (.int .u64 y5_4)]), FW.blk b0 109 ([.lit (.slice xd0_0 (List.length v0.sure) xc0_0), .lit (.map (some xr0_1)), .lit (.int .i64 v0.steps), .lit (.slice xd0_3 (List.length v0.falls) xc0_3), .lit (.bool v0.off)]), FW.orow xd0_0 xc0_0 9 1 c_str v0.sure, FW.mapI (.int .i64) (Value.int .i64) FW.evS xr0_1 v0.cache, FW.orow xd0_3 xc0_3 45 3 ApiFall.cells v0.falls, FW.orow ad1 cap1 9 1 c_str (l6 ++ ([t3.1] : List (List UInt8)))]) (j := 6) hk rfl rfl rfl rfl (FW.own_src hk (j := 0) rfl rfl (fun _ => rfl) Go.Proofs.Try.underlying61) Go.Proofs.Try.underlying61 (by kernel_rfl) hc1 rfl (fun _ _ => rfl) ?_; clear hk; intro ad1 cap1 a w hk
        replace hk := FW.S.dropI (I' := [FW.blk bx1 127 ([.lit (.pointer (some ⟨b0, 0, none⟩)), .lit (.int .i64 y5_1), .lit (.int .i64 y5_2), .lit (.int .i64 y5_3), .lit (.int .u64 y5_4)]), FW.blk b0 109 ([.lit (.slice xd0_0 (List.length v0.sure) xc0_0), .lit (.map (some xr0_1)), .lit (.int .i64 v0.steps), .lit (.slice xd0_3 (List.length v0.falls) xc0_3), .lit (.bool v0.off)]), FW.orow xd0_0 xc0_0 9 1 c_str v0.sure, FW.mapI (.int .i64) (Value.int .i64) FW.evS xr0_1 v0.cache, FW.orow xd0_3 xc0_3 45 3 ApiFall.cells v0.falls, FW.orow ad1 cap1 9 1 c_str (l6 ++ ([t3.1] : List (List UInt8)))]) hk 0 rfl
        refine FW.lfun (y := .lit (.slice ad1 (List.length (l6 ++ ([t3.1] : List (List UInt8)))) cap1)) hk rfl rfl rfl rfl (FW.f_assign hk (FW.holds_nil _) rfl) ?_; clear hk; intro a w hk
        refine FW.lend (hK15 _ _ ?_); clear hK15 K'
        obtain ⟨t4, hr_t4, h⟩ := FW.bnd h
        refine FW.wdrawE (.next [true, true, true, true, true, true, true, true, true, true, false] 10 [true, true, true, true, true, true, true, true, true, true, false] (.leaf [false, false, false, false, false, false, false, false, false, false, false])) [(58, [], .lit (.pointer (some ⟨bx1, 0, none⟩))), (59, [], .lit (.pointer (some ⟨bx1, 0, none⟩))), (60, [], .lit (.pointer (some ⟨bx1, 3, none⟩))), (61, [], .lit (.int .i64 y5_3)), (62, [], .lit (.string (FW.B t3.1))), (63, [], .lit (.int .i64 (List.length t3.1 : Int))), (64, [], .lit (.int .i64 t4)), (65, [], .lit (.int .i64 (IntKind.wrap .i64 (y5_3 + t4)))), (66, [], .lit (.pointer (some ⟨bx1, 0, none⟩))), (67, [], .lit (.pointer (some ⟨bx1, 3, none⟩))), (75, [], .lit undef)] (by kernel_rfl) (by kernel_rfl) (by kernel_rfl) (by kernel_rfl) hk ?_; clear hk
        refine FW.gnext0 ?_ rfl rfl rfl ?_
        · skip
          refine FW.gfun (y := .lit (.pointer (some ⟨bx1, 0, none⟩))) rfl rfl rfl rfl (fun a w hk => FW.f_move hk (FW.holds_nil _) rfl) ?_
          refine FW.gfun (y := .lit (.pointer (some ⟨bx1, 0, none⟩))) rfl rfl rfl rfl (fun a w hk => (FW.f_pure (FW.p_nilCheck hk.kn (FW.holds_nil _) rfl))) ?_
          refine FW.gfun (y := .lit (.pointer (some ⟨bx1, 3, none⟩))) rfl rfl rfl rfl (fun a w hk => FW.f_fieldPtr hk (FW.holds_nil _) rfl Go.Proofs.Try.underlying127 rfl (by kernel_rfl) rfl) ?_
          refine FW.gfun (y := .lit (.int .i64 y5_3)) rfl rfl rfl rfl (fun a w hk => FW.f_loadBlk1 hk (FW.holds_nil _) (j := 0) rfl rfl Go.Proofs.Try.underlying3 rfl rfl) ?_
          refine FW.gfun (y := .lit (.string (FW.B t3.1))) rfl rfl rfl rfl (fun a w hk => FW.f_move hk (FW.holds_nil _) rfl) ?_
          refine FW.gfun (y := .lit (.int .i64 (List.length t3.1 : Int))) rfl rfl rfl rfl (fun a w hk => (FW.f_pure (FW.p_slen Go.Proofs.Try.underlying9 hk.kn (FW.holds_nil _) rfl))) ?_
          refine FW.gfun (y := .lit (.int .i64 t4)) rfl rfl rfl rfl (fun a w hk => FW.f_call hk (FW.holds_nil _) rfl rfl Go.Proofs.Try.func45 rfl (by kernel_rfl) (log_Sectors.ok (List.length t3.1 : Int) _ hr_t4)) ?_
          refine FW.gfun (y := .lit (.int .i64 (IntKind.wrap .i64 (y5_3 + t4)))) rfl rfl rfl rfl (fun a w hk => (FW.f_pure (FW.p_add hk.kn (FW.holds_nil _) rfl rfl))) ?_
          refine FW.gfun (y := .lit (.pointer (some ⟨bx1, 0, none⟩))) rfl rfl rfl rfl (fun a w hk => (FW.f_pure (FW.p_nilCheck hk.kn (FW.holds_nil _) rfl))) ?_
          refine FW.gfun (y := .lit (.pointer (some ⟨bx1, 3, none⟩))) rfl rfl rfl rfl (fun a w hk => FW.f_fieldPtr hk (FW.holds_nil _) rfl Go.Proofs.Try.underlying127 rfl (by kernel_rfl) rfl) ?_
          refine FW.gskip0 rfl ?_
          exact FW.gend
        · skip
          intro σD a w opsD QD hk hQ hX
          refine FW.l_store (I' := [FW.blk bx1 127 ([.lit (.pointer (some ⟨b0, 0, none⟩)), .lit (.int .i64 y5_1), .lit (.int .i64 y5_2), .lit (.int .i64 (IntKind.wrap .i64 (y5_3 + t4))), .lit (.int .u64 y5_4)]), FW.blk b0 109 ([.lit (.slice xd0_0 (List.length v0.sure) xc0_0), .lit (.map (some xr0_1)), .lit (.int .i64 v0.steps), .lit (.slice xd0_3 (List.length v0.falls) xc0_3), .lit (.bool v0.off)]), FW.orow xd0_0 xc0_0 9 1 c_str v0.sure, FW.mapI (.int .i64) (Value.int .i64) FW.evS xr0_1 v0.cache, FW.orow xd0_3 xc0_3 45 3 ApiFall.cells v0.falls, FW.orow ad1 cap1 9 1 c_str (l6 ++ ([t3.1] : List (List UInt8)))]) (cs' := [.lit (.pointer (some ⟨b0, 0, none⟩)), .lit (.int .i64 y5_1), .lit (.int .i64 y5_2), .lit (.int .i64 (IntKind.wrap .i64 (y5_3 + t4))), .lit (.int .u64 y5_4)]) (j := 0) hk rfl rfl rfl rfl rfl (by kernel_rfl) rfl rfl ?_; clear hk; intro w hk
          refine hQ _ a w ?_ hk; clear hk hQ hX
          refine ⟨[(58, [], .lit (.pointer (some ⟨bx1, 0, none⟩))), (59, [], .lit (.pointer (some ⟨bx1, 0, none⟩))), (60, [], .lit (.pointer (some ⟨bx1, 3, none⟩))), (61, [], .lit (.int .i64 y5_3)), (62, [], .lit (.string (FW.B t3.1))), (63, [], .lit (.int .i64 (List.length t3.1 : Int))), (64, [], .lit (.int .i64 t4)), (65, [], .lit (.int .i64 (IntKind.wrap .i64 (y5_3 + t4)))), (66, [], .lit (.pointer (some ⟨bx1, 0, none⟩))), (67, [], .lit (.pointer (some ⟨bx1, 3, none⟩))), (75, [], .lit undef)], And.intro rfl (And.intro rfl (And.intro rfl (And.intro rfl (And.intro rfl (And.intro rfl (And.intro rfl (And.intro rfl (And.intro rfl (And.intro rfl (trivial)))))))))), rfl, ?_⟩
          refine FW.glast ?_ ?_
          · skip
            refine FW.gskip rfl rfl ?_
            refine FW.gskip rfl rfl ?_
            refine FW.gskip rfl rfl ?_
            refine FW.gskip rfl rfl ?_
            refine FW.gskip rfl rfl ?_
            refine FW.gskip rfl rfl ?_
            refine FW.gskip rfl rfl ?_
            refine FW.gskip rfl rfl ?_
            refine FW.gskip rfl rfl ?_
            refine FW.gskip rfl rfl ?_
            refine FW.gskip0 rfl ?_
            exact FW.gend
          · skip
            intro a w hk; simp only [FW.stD, cond_true] at hk
            refine FW.wreg1 ?_
            refine FW.lfun (y := .lit (.pointer (some ⟨bx1, 0, none⟩))) hk rfl rfl rfl rfl (FW.f_move hk (FW.holds_nil _) rfl) ?_; clear hk; intro a w hk
            refine FW.lfun (y := .lit (.pointer (some ⟨bx1, 0, none⟩))) hk rfl rfl rfl rfl ((FW.f_pure (FW.p_nilCheck hk.kn (FW.holds_nil _) rfl))) ?_; clear hk; intro a w hk
            refine FW.lfun (y := .lit (.pointer (some ⟨bx1, 4, none⟩))) hk rfl rfl rfl rfl (FW.f_fieldPtr hk (FW.holds_nil _) rfl Go.Proofs.Try.underlying127 rfl (by kernel_rfl) rfl) ?_; clear hk; intro a w hk
            refine FW.lfun (y := .lit (.int .u64 y5_4)) hk rfl rfl rfl rfl (FW.f_loadBlk1 hk (FW.holds_nil _) (j := 0) rfl rfl Go.Proofs.Try.underlying29 rfl rfl) ?_; clear hk; intro a w hk
            refine FW.lfun (y := .lit (.int .u64 (IntKind.wrap .u64 (y5_4 + 1)))) hk rfl rfl rfl rfl ((FW.f_pure (FW.p_add hk.kn (FW.holds_nil _) rfl rfl))) ?_; clear hk; intro a w hk
            refine FW.lfun (y := .lit (.pointer (some ⟨bx1, 0, none⟩))) hk rfl rfl rfl rfl ((FW.f_pure (FW.p_nilCheck hk.kn (FW.holds_nil _) rfl))) ?_; clear hk; intro a w hk
            refine FW.lfun (y := .lit (.pointer (some ⟨bx1, 4, none⟩))) hk rfl rfl rfl rfl (FW.f_fieldPtr hk (FW.holds_nil _) rfl Go.Proofs.Try.underlying127 rfl (by kernel_rfl) rfl) ?_; clear hk; intro a w hk
            refine FW.l_store (I' := [FW.blk bx1 127 ([.lit (.pointer (some ⟨b0, 0, none⟩)), .lit (.int .i64 y5_1), .lit (.int .i64 y5_2), .lit (.int .i64 (IntKind.wrap .i64 (y5_3 + t4))), .lit (.int .u64 (IntKind.wrap .u64 (y5_4 + 1)))]), FW.blk b0 109 ([.lit (.slice xd0_0 (List.length v0.sure) xc0_0), .lit (.map (some xr0_1)), .lit (.int .i64 v0.steps), .lit (.slice xd0_3 (List.length v0.falls) xc0_3), .lit (.bool v0.off)]), FW.orow xd0_0 xc0_0 9 1 c_str v0.sure, FW.mapI (.int .i64) (Value.int .i64) FW.evS xr0_1 v0.cache, FW.orow xd0_3 xc0_3 45 3 ApiFall.cells v0.falls, FW.orow ad1 cap1 9 1 c_str (l6 ++ ([t3.1] : List (List UInt8)))]) (cs' := [.lit (.pointer (some ⟨b0, 0, none⟩)), .lit (.int .i64 y5_1), .lit (.int .i64 y5_2), .lit (.int .i64 (IntKind.wrap .i64 (y5_3 + t4))), .lit (.int .u64 (IntKind.wrap .u64 (y5_4 + 1)))]) (j := 0) hk rfl rfl rfl rfl rfl (by kernel_rfl) rfl rfl ?_; clear hk; intro w hk
            refine wpList_nil ?_
            (repeat first | refine FW.then_normal ?_ | refine FW.block_normal ?_); exact hK10 (kl1, (l6 ++ ([t3.1] : List (List UInt8))), y5_1, y5_2, (IntKind.wrap .i64 (y5_3 + t4)), (IntKind.wrap .u64 (y5_4 + 1)), ad1, cap1) _ _ (Nat.lt_succ_self _) ⟨(FW.S.pick hk (js := [4, 4, 4, 4, 4, 5]) rfl).sub ⟨rfl, rfl, trivial⟩, h⟩

theorem offshootlaw04_awake.ok (K : Nat)  (r : Bool) (h : offshootlaw04_awake.f K = some r) :
    FW.Ok Go.Proofs.Try.prog 44 [] (.lit (.bool r)) := by
  refine FW.enter (xs := []) Go.Proofs.Try.func44 rfl Go.Proofs.Try.ntmps44 rfl ?_
  intro M w0 a hk
  unfold offshootlaw04_awake.f at h
  refine FW.wreg ?_; intro K' hK1
  refine FW.lfun (y := .lit (.bool false)) hk rfl rfl rfl rfl (FW.f_assign hk (FW.holds_nil _) rfl) ?_; clear hk; intro a w hk
  refine FW.lend (hK1 _ _ ?_); clear hK1 K'
  refine FW.wreg ?_; intro K' hK2
  obtain ⟨t1, hr_t1, h⟩ := FW.bnd h
  refine FW.l_callH (I1 := ([] : List FW.It)) (I2 := []) (js := []) hk rfl rfl rfl rfl rfl Go.Proofs.Try.func27 rfl (by kernel_rfl) (dev_New.ok K 8 _ hr_t1 ) ?_; clear hk
  rintro _ _ ⟨bx1, xdNt1_0_0, xcNt1_0_0, xrNt1_0_1, xdNt1_0_3, xcNt1_0_3, rfl, rfl⟩ a w hk
  refine FW.lfun (y := .tup [.lit (.pointer (some ⟨bx1, 0, none⟩)), .lit (.int .i64 t1.2)]) hk rfl rfl rfl rfl (FW.f_move hk (FW.holds_nil _) rfl) ?_; clear hk; intro a w hk
  refine FW.lfun (y := .lit (.pointer (some ⟨bx1, 0, none⟩))) hk rfl rfl rfl rfl (FW.f_extract hk (FW.holds_nil _) rfl rfl) ?_; clear hk; intro a w hk
  refine FW.lfun (y := .lit (.int .i64 t1.2)) hk rfl rfl rfl rfl (FW.f_extract hk (FW.holds_nil _) rfl rfl) ?_; clear hk; intro a w hk
  refine FW.lfun (y := .lit (.pointer (some ⟨bx1, 0, none⟩))) hk rfl rfl rfl rfl (FW.f_assign hk (FW.holds_nil _) rfl) ?_; clear hk; intro a w hk
  refine FW.lfun (y := .lit (.int .i64 t1.2)) hk rfl rfl rfl rfl (FW.f_assign hk (FW.holds_nil _) rfl) ?_; clear hk; intro a w hk
  refine FW.lend (hK2 _ _ ?_); clear hK2 K'
  refine FW.wreg ?_; intro K' hK3
  refine FW.lfun (y := .lit (.pointer (some ⟨bx1, 0, none⟩))) hk rfl rfl rfl rfl (FW.f_move hk (FW.holds_nil _) rfl) ?_; clear hk; intro a w hk
  obtain ⟨t2, hr_t2, h⟩ := FW.bnd h
  refine FW.l_callH (I1 := (ODevDev.items bx1 xdNt1_0_0 xcNt1_0_0 xrNt1_0_1 xdNt1_0_3 xcNt1_0_3 t1.1)) (I2 := []) (js := [3, 3, 3, 3]) hk rfl rfl rfl rfl rfl Go.Proofs.Try.func47 rfl (by kernel_rfl) (log_Open.ok K t1.1 1 8 5 _ hr_t2 bx1 xdNt1_0_0 xcNt1_0_0 xrNt1_0_1 xdNt1_0_3 xcNt1_0_3) ?_; clear hk
  rintro _ _ ⟨bx2, zd1, zc1, zr1, zd2, zc2, rfl, rfl⟩ a w hk
  refine FW.lfun (y := .tup [.lit (.pointer (some ⟨bx2, 0, none⟩)), .row (r_c_str t2.2.1), .lit (.int .i64 t2.2.2.1)]) hk rfl rfl rfl rfl (FW.f_move hk (FW.holds_nil _) rfl) ?_; clear hk; intro a w hk
  refine FW.lfun (y := .lit (.pointer (some ⟨bx2, 0, none⟩))) hk rfl rfl rfl rfl (FW.f_extract hk (FW.holds_nil _) rfl rfl) ?_; clear hk; intro a w hk
  refine FW.lfun (y := .row (r_c_str t2.2.1)) hk rfl rfl rfl rfl (FW.f_extract hk (FW.holds_nil _) rfl rfl) ?_; clear hk; intro a w hk
  refine FW.lfun (y := .lit (.int .i64 t2.2.2.1)) hk rfl rfl rfl rfl (FW.f_extract hk (FW.holds_nil _) rfl rfl) ?_; clear hk; intro a w hk
  refine FW.lfun (y := .lit (.pointer (some ⟨bx2, 0, none⟩))) hk rfl rfl rfl rfl (FW.f_assign hk (FW.holds_nil _) rfl) ?_; clear hk; intro a w hk
  refine FW.lfun (y := .row (r_c_str t2.2.1)) hk rfl rfl rfl rfl (FW.f_assign hk (FW.holds_nil _) rfl) ?_; clear hk; intro a w hk
  refine FW.lfun (y := .lit (.int .i64 t2.2.2.1)) hk rfl rfl rfl rfl (FW.f_assign hk (FW.holds_nil _) rfl) ?_; clear hk; intro a w hk
  refine FW.lend (hK3 _ _ ?_); clear hK3 K'
  refine FW.wreg ?_; intro K' hK4
  refine FW.lfun (y := .lit (.pointer (some ⟨bx2, 0, none⟩))) hk rfl rfl rfl rfl (FW.f_move hk (FW.holds_nil _) rfl) ?_; clear hk; intro a w hk
  obtain ⟨t3, hr_t3, h⟩ := FW.bnd h
  refine FW.l_callH (I1 := (OLogLog.items bx2 bx1 t2.1) ++ (ODevDev.items bx1 zd1 zc1 zr1 zd2 zc2 t2.2.2.2)) (I2 := []) (js := [4, 4, 4, 4, 4]) hk rfl rfl rfl rfl rfl Go.Proofs.Try.func50 rfl (by kernel_rfl) (log_Log_Add.ok K t2.1 t2.2.2.2 ([101, 110, 116, 114, 121] : List UInt8) _ hr_t3 bx2 bx1 zd1 zc1 zr1 zd2 zc2) ?_; clear hk
  rintro _ _ ⟨zd3, zc3, zr2, zd4, zc4, rfl, rfl⟩ a w hk
  refine FW.lfun (y := .lit (.int .i64 t3.1)) hk rfl rfl rfl rfl (FW.f_assign hk (FW.holds_nil _) rfl) ?_; clear hk; intro a w hk
  refine FW.lend (hK4 _ _ ?_); clear hK4 K'
  refine FW.wreg ?_; intro K' hK5
  refine FW.lfun (y := .lit (.pointer (some ⟨bx1, 0, none⟩))) hk rfl rfl rfl rfl (FW.f_move hk (FW.holds_nil _) rfl) ?_; clear hk; intro a w hk
  obtain ⟨t4, hr_t4, h⟩ := FW.bnd h
  refine FW.l_callH (I1 := (ODevDev.items bx1 zd3 zc3 zr2 zd4 zc4 t3.2.2)) (I2 := [FW.blk bx2 127 ([.lit (.pointer (some ⟨bx1, 0, none⟩)), .lit (.int .i64 t3.2.1.from_), .lit (.int .i64 t3.2.1.to_), .lit (.int .i64 t3.2.1.at_), .lit (.int .u64 t3.2.1.next)])]) (js := [4, 4, 4, 4]) hk rfl rfl rfl rfl rfl Go.Proofs.Try.func32 rfl (by kernel_rfl) (dev_Dev_Crash.ok K t3.2.2 0 0 _ hr_t4 bx1 zd3 zc3 zr2 zd4 zc4) ?_; clear hk
  rintro _ _ ⟨zd5, zc5, zr3, zd6, zc6, rfl, rfl⟩ a w hk
  refine FW.lend (hK5 _ _ ?_); clear hK5 K'
  refine FW.wreg ?_; intro K' hK6
  refine FW.lfun (y := .lit (.pointer (some ⟨bx1, 0, none⟩))) hk rfl rfl rfl rfl (FW.f_move hk (FW.holds_nil _) rfl) ?_; clear hk; intro a w hk
  obtain ⟨t5, hr_t5, h⟩ := FW.bnd h
  refine FW.l_callH (I1 := (ODevDev.items bx1 zd5 zc5 zr3 zd6 zc6 t4)) (I2 := [FW.blk bx2 127 ([.lit (.pointer (some ⟨bx1, 0, none⟩)), .lit (.int .i64 t3.2.1.from_), .lit (.int .i64 t3.2.1.to_), .lit (.int .i64 t3.2.1.at_), .lit (.int .u64 t3.2.1.next)])]) (js := [3, 3, 3, 3]) hk rfl rfl rfl rfl rfl Go.Proofs.Try.func33 rfl (by kernel_rfl) (dev_Dev_Up.ok t4 _ hr_t5 bx1 zd5 zc5 zr3 zd6 zc6) ?_; clear hk
  rintro _ _ ⟨zd7, zc7, zr4, zd8, zc8, rfl, rfl⟩ a w hk
  refine FW.lend (hK6 _ _ ?_); clear hK6 K'
  refine FW.wreg ?_; intro K' hK7
  refine FW.lfun (y := .lit (.pointer (some ⟨bx1, 0, none⟩))) hk rfl rfl rfl rfl (FW.f_move hk (FW.holds_nil _) rfl) ?_; clear hk; intro a w hk
  obtain ⟨t6, hr_t6, h⟩ := FW.bnd h
  refine FW.l_callH (I1 := (ODevDev.items bx1 zd7 zc7 zr4 zd8 zc8 t5.2)) (I2 := [FW.blk bx2 127 ([.lit (.pointer (some ⟨bx1, 0, none⟩)), .lit (.int .i64 t3.2.1.from_), .lit (.int .i64 t3.2.1.to_), .lit (.int .i64 t3.2.1.at_), .lit (.int .u64 t3.2.1.next)])]) (js := [3, 3, 3, 3]) hk rfl rfl rfl rfl rfl Go.Proofs.Try.func47 rfl (by kernel_rfl) (log_Open_opt.ok K t5.2 1 8 5 _ hr_t6 bx1 zd7 zc7 zr4 zd8 zc8) ?_; clear hk
  rintro _ _ ⟨bx3, zd9, zc9, zr5, zd10, zc10, rfl, rfl⟩ a w hk
  replace hk := FW.S.dropL2 hk
  refine FW.lfun (y := .tup [FW.ptrO t6.1 bx3, .row (r_c_str t6.2.1), .lit (.int .i64 t6.2.2.1)]) hk rfl rfl rfl rfl (FW.f_move hk (FW.holds_nil _) rfl) ?_; clear hk; intro a w hk
  refine FW.lfun (y := FW.ptrO t6.1 bx3) hk rfl rfl rfl rfl (FW.f_extract hk (FW.holds_nil _) rfl rfl) ?_; clear hk; intro a w hk
  refine FW.lfun (y := .row (r_c_str t6.2.1)) hk rfl rfl rfl rfl (FW.f_extract hk (FW.holds_nil _) rfl rfl) ?_; clear hk; intro a w hk
  refine FW.lfun (y := .lit (.int .i64 t6.2.2.1)) hk rfl rfl rfl rfl (FW.f_extract hk (FW.holds_nil _) rfl rfl) ?_; clear hk; intro a w hk
  refine FW.lfun (y := FW.ptrO t6.1 bx3) hk rfl rfl rfl rfl (FW.f_assign hk (FW.holds_nil _) rfl) ?_; clear hk; intro a w hk
  refine FW.lfun (y := .row (r_c_str t6.2.1)) hk rfl rfl rfl rfl (FW.f_assign hk (FW.holds_nil _) rfl) ?_; clear hk; intro a w hk
  refine FW.lfun (y := .lit (.int .i64 t6.2.2.1)) hk rfl rfl rfl rfl (FW.f_assign hk (FW.holds_nil _) rfl) ?_; clear hk; intro a w hk
  refine FW.lend (hK7 _ _ ?_); clear hK7 K'
  refine FW.wreg ?_; intro K' hK8
  refine FW.lfun (y := .lit (.int .i64 t1.2)) hk rfl rfl rfl rfl (FW.f_move hk (FW.holds_nil _) rfl) ?_; clear hk; intro a w hk
  refine FW.lfun (y := .lit (.bool (decide (t1.2 = 0)))) hk rfl rfl rfl rfl ((FW.f_pure (FW.p_eql hk.kn (FW.holds_nil _) rfl rfl))) ?_; clear hk; intro a w hk
  refine FW.lfun (y := .lit (.bool (decide (t1.2 = 0)))) hk rfl rfl rfl rfl (FW.f_move hk (FW.holds_nil _) rfl) ?_; clear hk; intro a w hk
  refine FW.lfunG (y := .lit (.int .i64 t2.2.2.1)) hk rfl rfl rfl rfl rfl rfl rfl rfl (fun hc => FW.f_move hk hc rfl) ?_; clear hk; intro a w hk
  refine FW.lfunG (y := .lit (.bool (decide (t2.2.2.1 = 0)))) hk rfl rfl rfl rfl rfl rfl rfl rfl (fun hc => (FW.f_pure (FW.p_eql hk.kn hc rfl rfl))) ?_; clear hk; intro a w hk
  refine FW.lfun (y := .lit (.bool ((decide (t1.2 = 0)) && (decide (t2.2.2.1 = 0))))) hk rfl rfl rfl rfl ((FW.f_pure (FW.p_pick_and hk.kn (FW.holds_nil _) rfl rfl))) ?_; clear hk; intro a w hk
  refine FW.lfun (y := .lit (.bool ((decide (t1.2 = 0)) && (decide (t2.2.2.1 = 0))))) hk rfl rfl rfl rfl (FW.f_move hk (FW.holds_nil _) rfl) ?_; clear hk; intro a w hk
  refine FW.lfunG (y := .row (r_c_str t2.2.1)) hk rfl rfl rfl rfl rfl rfl rfl rfl (fun hc => FW.f_move hk hc rfl) ?_; clear hk; intro a w hk
  refine FW.lfunG (y := .lit (.int .i64 (List.length t2.2.1 : Int))) hk rfl rfl rfl rfl rfl rfl rfl rfl (fun hc => FW.f_len (R := r_c_str) (f := c_str) (l := t2.2.1) r_c_str_eq Go.Proofs.Try.underlying61 hk hc rfl) ?_; clear hk; intro a w hk
  refine FW.lfunG (y := .lit (.bool (decide ((List.length t2.2.1 : Int) = 0)))) hk rfl rfl rfl rfl rfl rfl rfl rfl (fun hc => (FW.f_pure (FW.p_eql hk.kn hc rfl rfl))) ?_; clear hk; intro a w hk
  refine FW.lfun (y := .lit (.bool (((decide (t1.2 = 0)) && (decide (t2.2.2.1 = 0))) && (decide ((List.length t2.2.1 : Int) = 0))))) hk rfl rfl rfl rfl ((FW.f_pure (FW.p_pick_and hk.kn (FW.holds_nil _) rfl rfl))) ?_; clear hk; intro a w hk
  refine FW.lfun (y := .lit (.bool (((decide (t1.2 = 0)) && (decide (t2.2.2.1 = 0))) && (decide ((List.length t2.2.1 : Int) = 0))))) hk rfl rfl rfl rfl (FW.f_move hk (FW.holds_nil _) rfl) ?_; clear hk; intro a w hk
  refine FW.lfunG (y := .lit (.int .i64 t3.1)) hk rfl rfl rfl rfl rfl rfl rfl rfl (fun hc => FW.f_move hk hc rfl) ?_; clear hk; intro a w hk
  refine FW.lfunG (y := .lit (.bool (decide (t3.1 = 0)))) hk rfl rfl rfl rfl rfl rfl rfl rfl (fun hc => (FW.f_pure (FW.p_eql hk.kn hc rfl rfl))) ?_; clear hk; intro a w hk
  refine FW.lfun (y := .lit (.bool ((((decide (t1.2 = 0)) && (decide (t2.2.2.1 = 0))) && (decide ((List.length t2.2.1 : Int) = 0))) && (decide (t3.1 = 0))))) hk rfl rfl rfl rfl ((FW.f_pure (FW.p_pick_and hk.kn (FW.holds_nil _) rfl rfl))) ?_; clear hk; intro a w hk
  refine FW.lfun (y := .lit (.bool ((((decide (t1.2 = 0)) && (decide (t2.2.2.1 = 0))) && (decide ((List.length t2.2.1 : Int) = 0))) && (decide (t3.1 = 0))))) hk rfl rfl rfl rfl (FW.f_move hk (FW.holds_nil _) rfl) ?_; clear hk; intro a w hk
  refine FW.lfunG (y := .lit (.int .i64 t6.2.2.1)) hk rfl rfl rfl rfl rfl rfl rfl rfl (fun hc => FW.f_move hk hc rfl) ?_; clear hk; intro a w hk
  refine FW.lfunG (y := .lit (.bool (decide (t6.2.2.1 = 0)))) hk rfl rfl rfl rfl rfl rfl rfl rfl (fun hc => (FW.f_pure (FW.p_eql hk.kn hc rfl rfl))) ?_; clear hk; intro a w hk
  refine FW.lfun (y := .lit (.bool (((((decide (t1.2 = 0)) && (decide (t2.2.2.1 = 0))) && (decide ((List.length t2.2.1 : Int) = 0))) && (decide (t3.1 = 0))) && (decide (t6.2.2.1 = 0))))) hk rfl rfl rfl rfl ((FW.f_pure (FW.p_pick_and hk.kn (FW.holds_nil _) rfl rfl))) ?_; clear hk; intro a w hk
  refine FW.lfun (y := .lit (.bool (((((decide (t1.2 = 0)) && (decide (t2.2.2.1 = 0))) && (decide ((List.length t2.2.1 : Int) = 0))) && (decide (t3.1 = 0))) && (decide (t6.2.2.1 = 0))))) hk rfl rfl rfl rfl (FW.f_move hk (FW.holds_nil _) rfl) ?_; clear hk; intro a w hk
  refine FW.lfunG (y := .row (r_c_str t6.2.1)) hk rfl rfl rfl rfl rfl rfl rfl rfl (fun hc => FW.f_move hk hc rfl) ?_; clear hk; intro a w hk
  refine FW.lfunG (y := .lit (.int .i64 (List.length t6.2.1 : Int))) hk rfl rfl rfl rfl rfl rfl rfl rfl (fun hc => FW.f_len (R := r_c_str) (f := c_str) (l := t6.2.1) r_c_str_eq Go.Proofs.Try.underlying61 hk hc rfl) ?_; clear hk; intro a w hk
  refine FW.lfunG (y := .lit (.bool (decide ((List.length t6.2.1 : Int) = 1)))) hk rfl rfl rfl rfl rfl rfl rfl rfl (fun hc => (FW.f_pure (FW.p_eql hk.kn hc rfl rfl))) ?_; clear hk; intro a w hk
  refine FW.lfun (y := .lit (.bool ((((((decide (t1.2 = 0)) && (decide (t2.2.2.1 = 0))) && (decide ((List.length t2.2.1 : Int) = 0))) && (decide (t3.1 = 0))) && (decide (t6.2.2.1 = 0))) && (decide ((List.length t6.2.1 : Int) = 1))))) hk rfl rfl rfl rfl ((FW.f_pure (FW.p_pick_and hk.kn (FW.holds_nil _) rfl rfl))) ?_; clear hk; intro a w hk
  refine FW.lfun (y := .lit (.bool ((((((decide (t1.2 = 0)) && (decide (t2.2.2.1 = 0))) && (decide ((List.length t2.2.1 : Int) = 0))) && (decide (t3.1 = 0))) && (decide (t6.2.2.1 = 0))) && (decide ((List.length t6.2.1 : Int) = 1))))) hk rfl rfl rfl rfl (FW.f_move hk (FW.holds_nil _) rfl) ?_; clear hk; intro a w hk
  refine FW.lfunG (y := .row (r_c_str t6.2.1)) hk rfl rfl rfl rfl rfl rfl rfl rfl (fun hc => FW.f_move hk hc rfl) ?_; clear hk; intro a w hk
  obtain ⟨hc1, h⟩ := FW.chk h
  refine FW.lfunG (y := .ref (c_str (List.getD t6.2.1 (Int.toNat 0) default))) hk rfl rfl rfl rfl rfl rfl rfl rfl (fun hc => FW.f_indexAddr (R := r_c_str) (f := c_str) (l := t6.2.1) (sz := 1) r_c_str_eq (fun _ => rfl) hk hc rfl rfl Go.Proofs.Try.underlying61 (by kernel_rfl) hc1) ?_; clear hk; intro a w hk
  refine FW.lfunG (y := .lit (.string (FW.B (List.getD t6.2.1 (Int.toNat 0) default)))) hk rfl rfl rfl rfl rfl rfl rfl rfl (fun hc => FW.f_load1 hk hc rfl rfl Go.Proofs.Try.underlying9 rfl) ?_; clear hk; intro a w hk
  refine FW.lfunG (y := .lit (.bool (decide ((List.getD t6.2.1 (Int.toNat 0) default) = ([101, 110, 116, 114, 121] : List UInt8))))) hk rfl rfl rfl rfl rfl rfl rfl rfl (fun hc => (FW.f_pure (FW.p_seql hk.kn hc rfl rfl))) ?_; clear hk; intro a w hk
  refine FW.lfun (y := .lit (.bool (((((((decide (t1.2 = 0)) && (decide (t2.2.2.1 = 0))) && (decide ((List.length t2.2.1 : Int) = 0))) && (decide (t3.1 = 0))) && (decide (t6.2.2.1 = 0))) && (decide ((List.length t6.2.1 : Int) = 1))) && (decide ((List.getD t6.2.1 (Int.toNat 0) default) = ([101, 110, 116, 114, 121] : List UInt8)))))) hk rfl rfl rfl rfl ((FW.f_pure (FW.p_pick_and hk.kn (FW.holds_nil _) rfl rfl))) ?_; clear hk; intro a w hk
  refine FW.lfun (y := .lit (.bool (((((((decide (t1.2 = 0)) && (decide (t2.2.2.1 = 0))) && (decide ((List.length t2.2.1 : Int) = 0))) && (decide (t3.1 = 0))) && (decide (t6.2.2.1 = 0))) && (decide ((List.length t6.2.1 : Int) = 1))) && (decide ((List.getD t6.2.1 (Int.toNat 0) default) = ([101, 110, 116, 114, 121] : List UInt8)))))) hk rfl rfl rfl rfl (FW.f_assign hk (FW.holds_nil _) rfl) ?_; clear hk; intro a w hk
  refine FW.lend (hK8 _ _ ?_); clear hK8 K'
  refine wp_ret ?_
  (repeat first | refine FW.then_ret ?_ | refine FW.block_ret ?_)
  obtain rfl := Option.some.inj h
  exact FW.fret1 hk rfl rfl

theorem offshootlaw04_few.ok  (v0 : List UInt8) (r : List UInt8) (h : offshootlaw04_few.f v0 = some r) :
    FW.Ok Go.Proofs.Try.prog 49 [.lit (.string (FW.B v0))] (.lit (.string (FW.B r))) := by
  refine FW.enter (xs := [.lit (.string (FW.B v0))]) Go.Proofs.Try.func49 rfl Go.Proofs.Try.ntmps49 rfl ?_
  intro M w0 a hk
  unfold offshootlaw04_few.f at h
  refine FW.wreg ?_; intro K' hK1
  refine FW.lfun (y := .lit (.string (FW.B ([] : List UInt8)))) hk rfl rfl rfl rfl (FW.f_assign hk (FW.holds_nil _) rfl) ?_; clear hk; intro a w hk
  refine FW.lend (hK1 _ _ ?_); clear hK1 K'
  refine FW.wseq ?_; intro K' hK2
  refine FW.wreg ?_; intro K' hK3
  refine FW.lfun (y := .lit (.string (FW.B v0))) hk rfl rfl rfl rfl (FW.f_move hk (FW.holds_nil _) rfl) ?_; clear hk; intro a w hk
  refine FW.lfun (y := .lit (.int .i64 (List.length v0 : Int))) hk rfl rfl rfl rfl ((FW.f_pure (FW.p_slen Go.Proofs.Try.underlying9 hk.kn (FW.holds_nil _) rfl))) ?_; clear hk; intro a w hk
  refine FW.lfun (y := .lit (.bool (decide (500 < (List.length v0 : Int))))) hk rfl rfl rfl rfl ((FW.f_pure (FW.p_gtr hk.kn (FW.holds_nil _) rfl rfl))) ?_; clear hk; intro a w hk
  refine FW.lend (hK3 _ _ ?_); clear hK3 K'
  refine FW.wcondF (b := (decide (500 < (List.length v0 : Int)))) hk h rfl (fun h hb => ?_) (fun h hb => ?_)
  · skip
    refine FW.wreg ?_; intro K' hK4
    refine FW.lfun (y := .lit (.string (FW.B v0))) hk rfl rfl rfl rfl (FW.f_move hk (FW.holds_nil _) rfl) ?_; clear hk; intro a w hk
    obtain ⟨hc1, h⟩ := FW.chk h
    refine FW.lfun (y := .lit (.string (FW.B (List.take (Int.toNat 500) v0)))) hk rfl rfl rfl rfl ((FW.f_pure (FW.p_slice_hi Go.Proofs.Try.underlying9 hk.kn (FW.holds_nil _) rfl rfl hc1))) ?_; clear hk; intro a w hk
    refine FW.lfun (y := .lit (.string (FW.B (List.take (Int.toNat 500) v0)))) hk rfl rfl rfl rfl (FW.f_assign hk (FW.holds_nil _) rfl) ?_; clear hk; intro a w hk
    refine FW.lend (hK4 _ _ ?_); clear hK4 K'
    refine wp_ret ?_
    (repeat first | refine FW.then_ret ?_ | refine FW.block_ret ?_)
    obtain rfl := Option.some.inj h
    exact FW.fret1 hk rfl rfl
  · skip
    refine wp_skip ?_
    (repeat first | refine FW.then_normal ?_ | refine FW.block_normal ?_); refine hK2 _ _ ?_
    refine FW.wreg ?_; intro K' hK5
    refine FW.lfun (y := .lit (.string (FW.B v0))) hk rfl rfl rfl rfl (FW.f_move hk (FW.holds_nil _) rfl) ?_; clear hk; intro a w hk
    refine FW.lfun (y := .lit (.string (FW.B v0))) hk rfl rfl rfl rfl (FW.f_assign hk (FW.holds_nil _) rfl) ?_; clear hk; intro a w hk
    refine FW.lend (hK5 _ _ ?_); clear hK5 K'
    refine wp_ret ?_
    (repeat first | refine FW.then_ret ?_ | refine FW.block_ret ?_)
    obtain rfl := Option.some.inj h
    exact FW.fret1 hk rfl rfl

theorem offshootref04_Sectors.ok (K : Nat) (v0 : Int) (r : Int) (h : offshootref04_Sectors.f K v0 = some r) :
    FW.Ok Go.Proofs.Try.prog 46 [.lit (.int .i64 v0)] (.lit (.int .i64 r)) := by
  refine FW.enter (xs := [.lit (.int .i64 v0)]) Go.Proofs.Try.func46 rfl Go.Proofs.Try.ntmps46 rfl ?_
  intro M w0 a hk
  unfold offshootref04_Sectors.f at h
  refine FW.wreg ?_; intro K' hK1
  refine FW.lfun (y := .lit (.int .i64 0)) hk rfl rfl rfl rfl (FW.f_assign hk (FW.holds_nil _) rfl) ?_; clear hk; intro a w hk
  refine FW.lend (hK1 _ _ ?_); clear hK1 K'
  refine FW.wreg ?_; intro K' hK2
  refine FW.lfun (y := .lit (.int .i64 1)) hk rfl rfl rfl rfl (FW.f_assign hk (FW.holds_nil _) rfl) ?_; clear hk; intro a w hk
  refine FW.lend (hK2 _ _ ?_); clear hK2 K'
  refine FW.wseq ?_; intro K' hK3
  refine wp_block ?_
  refine FW.wloop (T := Nat × Int × Int) (fun x a w => match x with | (kl1, v0, v3) => FW.S M w0 a w 11 [] [(0, [], .lit (.int .i64 v0)), (3, [], .lit (.int .i64 v3))] ∧ offshootref04_Sectors.l1 K kl1 v0 v3 = some r) (fun x => x.1) (K, v0, 1) ⟨hk.sub ⟨rfl, rfl, trivial⟩, h⟩ ?_
  clear hk h
  rintro ⟨kl1, v0, v3⟩ a w ⟨hk, h⟩ K' hK4
  cases kl1 with
  | zero => simp [offshootref04_Sectors.l1] at h
  | succ kl1 =>
  rw [offshootref04_Sectors.l1.eq_2] at h
  refine FW.wseq ?_; intro K' hK5
  refine FW.wreg ?_; intro K' hK6
  refine FW.lfun (y := .lit (.int .i64 v0)) hk rfl rfl rfl rfl (FW.f_move hk (FW.holds_nil _) rfl) ?_; clear hk; intro a w hk
  refine FW.lfun (y := .lit (.bool (decide (104 < v0)))) hk rfl rfl rfl rfl ((FW.f_pure (FW.p_gtr hk.kn (FW.holds_nil _) rfl rfl))) ?_; clear hk; intro a w hk
  refine FW.lend (hK6 _ _ ?_); clear hK6 K'
  refine FW.wcondF (b := (decide (104 < v0))) hk h rfl (fun h hb => ?_) (fun h hb => ?_)
  · skip
    refine wp_skip ?_
    (repeat first | refine FW.then_normal ?_ | refine FW.block_normal ?_); refine hK5 _ _ ?_
    refine wp_block ?_
    refine FW.wreg ?_; intro K' hK7
    refine FW.lfun (y := .lit (.int .i64 v3)) hk rfl rfl rfl rfl (FW.f_move hk (FW.holds_nil _) rfl) ?_; clear hk; intro a w hk
    refine FW.lfun (y := .lit (.int .i64 (IntKind.wrap .i64 (v3 + 1)))) hk rfl rfl rfl rfl ((FW.f_pure (FW.p_add hk.kn (FW.holds_nil _) rfl rfl))) ?_; clear hk; intro a w hk
    refine FW.lfun (y := .lit (.int .i64 (IntKind.wrap .i64 (v3 + 1)))) hk rfl rfl rfl rfl (FW.f_assign hk (FW.holds_nil _) rfl) ?_; clear hk; intro a w hk
    refine FW.lend (hK7 _ _ ?_); clear hK7 K'
    refine FW.wreg1 ?_
    refine FW.lfun (y := .lit (.int .i64 v0)) hk rfl rfl rfl rfl (FW.f_move hk (FW.holds_nil _) rfl) ?_; clear hk; intro a w hk
    refine FW.lfun (y := .lit (.int .i64 (IntKind.wrap .i64 (v0 - 128)))) hk rfl rfl rfl rfl ((FW.f_pure (FW.p_sub hk.kn (FW.holds_nil _) rfl rfl))) ?_; clear hk; intro a w hk
    refine FW.lfun (y := .lit (.int .i64 (IntKind.wrap .i64 (v0 - 128)))) hk rfl rfl rfl rfl (FW.f_assign hk (FW.holds_nil _) rfl) ?_; clear hk; intro a w hk
    refine wpList_nil ?_
    (repeat first | refine FW.then_normal ?_ | refine FW.block_normal ?_); exact hK4 (kl1, (IntKind.wrap .i64 (v0 - 128)), (IntKind.wrap .i64 (v3 + 1))) _ _ (Nat.lt_succ_self _) ⟨hk.sub ⟨rfl, rfl, trivial⟩, h⟩
  · skip
    refine wp_exit ?_; (repeat first | refine FW.then_exit ?_ | refine FW.block_exit_ne rfl ?_); refine FW.block_exit ?_
    (repeat first | refine FW.then_normal ?_ | refine FW.block_normal ?_); refine hK3 _ _ ?_
    refine FW.wreg ?_; intro K' hK9
    refine FW.lfun (y := .lit (.int .i64 v3)) hk rfl rfl rfl rfl (FW.f_move hk (FW.holds_nil _) rfl) ?_; clear hk; intro a w hk
    refine FW.lfun (y := .lit (.int .i64 v3)) hk rfl rfl rfl rfl (FW.f_assign hk (FW.holds_nil _) rfl) ?_; clear hk; intro a w hk
    refine FW.lend (hK9 _ _ ?_); clear hK9 K'
    refine wp_ret ?_
    (repeat first | refine FW.then_ret ?_ | refine FW.block_ret ?_)
    obtain rfl := Option.some.inj h
    exact FW.fret1 hk rfl rfl

theorem offshootref02_Eight.ok (K : Nat) (v0 : Int) (r : List UInt8) (h : offshootref02_Eight.f K v0 = some r) :
    FW.Ok Go.Proofs.Try.prog 76 [.lit (.int .u64 v0)] (.lit (.string (FW.B r))) := by
  refine FW.enter (xs := [.lit (.int .u64 v0)]) Go.Proofs.Try.func76 rfl Go.Proofs.Try.ntmps76 rfl ?_
  intro M w0 a hk
  unfold offshootref02_Eight.f at h
  refine FW.wreg ?_; intro K' hK1
  refine FW.lfun (y := .lit (.string (FW.B ([] : List UInt8)))) hk rfl rfl rfl rfl (FW.f_assign hk (FW.holds_nil _) rfl) ?_; clear hk; intro a w hk
  refine FW.lend (hK1 _ _ ?_); clear hK1 K'
  refine FW.wreg ?_; intro K' hK2
  refine FW.lfun (y := .lit (.string (FW.B ([] : List UInt8)))) hk rfl rfl rfl rfl (FW.f_assign hk (FW.holds_nil _) rfl) ?_; clear hk; intro a w hk
  refine FW.lend (hK2 _ _ ?_); clear hK2 K'
  refine FW.wseq ?_; intro K' hK3
  refine FW.wreg ?_; intro K' hK4
  refine FW.lfun (y := .lit (.int .i64 0)) hk rfl rfl rfl rfl (FW.f_assign hk (FW.holds_nil _) rfl) ?_; clear hk; intro a w hk
  refine FW.lend (hK4 _ _ ?_); clear hK4 K'
  refine wp_block ?_
  refine FW.wloop (T := Nat × Int × List UInt8 × Int) (fun x a w => match x with | (kl1, v0, v3, v4) => FW.S M w0 a w 19 [] [(0, [], .lit (.int .u64 v0)), (3, [], .lit (.string (FW.B v3))), (4, [], .lit (.int .i64 v4))] ∧ offshootref02_Eight.l1 K kl1 v0 v3 v4 = some r) (fun x => x.1) (K, v0, ([] : List UInt8), 0) ⟨hk.sub ⟨rfl, rfl, rfl, trivial⟩, h⟩ ?_
  clear hk h
  rintro ⟨kl1, v0, v3, v4⟩ a w ⟨hk, h⟩ K' hK5
  cases kl1 with
  | zero => simp [offshootref02_Eight.l1] at h
  | succ kl1 =>
  rw [offshootref02_Eight.l1.eq_2] at h
  refine FW.wseq ?_; intro K' hK6
  refine FW.wreg ?_; intro K' hK7
  refine FW.lfun (y := .lit (.int .i64 v4)) hk rfl rfl rfl rfl (FW.f_move hk (FW.holds_nil _) rfl) ?_; clear hk; intro a w hk
  refine FW.lfun (y := .lit (.bool (decide (v4 < 8)))) hk rfl rfl rfl rfl ((FW.f_pure (FW.p_lss hk.kn (FW.holds_nil _) rfl rfl))) ?_; clear hk; intro a w hk
  refine FW.lend (hK7 _ _ ?_); clear hK7 K'
  refine FW.wcondF (b := (decide (v4 < 8))) hk h rfl (fun h hb => ?_) (fun h hb => ?_)
  · skip
    refine wp_skip ?_
    (repeat first | refine FW.then_normal ?_ | refine FW.block_normal ?_); refine hK6 _ _ ?_
    refine FW.wseq ?_; intro K' hK8
    refine wp_block ?_
    refine FW.wreg ?_; intro K' hK9
    refine FW.lfun (y := .lit (.int .u64 v0)) hk rfl rfl rfl rfl (FW.f_move hk (FW.holds_nil _) rfl) ?_; clear hk; intro a w hk
    refine FW.lfun (y := .lit (.int .u64 (Int.tmod v0 256))) hk rfl rfl rfl rfl ((FW.f_pure (FW.p_rem hk.kn (FW.holds_nil _) rfl rfl (show ¬ (256 : Int) = 0 from by decide)))) ?_; clear hk; intro a w hk
    refine FW.lfun (y := .lit (.int .u8 (IntKind.wrap .u8 (Int.tmod v0 256)))) hk rfl rfl rfl rfl ((FW.f_pure (FW.p_conv Go.Proofs.Try.underlying29 Go.Proofs.Try.underlying5 hk.kn (FW.holds_nil _) rfl))) ?_; clear hk; intro a w hk
    refine FW.l_buildSlice (f := c_u8) (l := ([(IntKind.wrap .u8 (Int.tmod v0 256))] : List Int)) hk rfl rfl rfl Go.Proofs.Try.underlying92 rfl rfl rfl rfl (fun _ => rfl) rfl ?_; clear hk; intro bx1 a w hk
    refine FW.lfun (y := .lit (.string (FW.B (FW.toB ([(IntKind.wrap .u8 (Int.tmod v0 256))] : List Int))))) hk rfl rfl rfl rfl (FW.f_toBown (f := c_u8) rfl hk (FW.holds_nil _) (j := 0) rfl rfl Go.Proofs.Try.underlying92 Go.Proofs.Try.underlying5 Go.Proofs.Try.underlying9) ?_; clear hk; intro a w hk
    refine FW.lfun (y := .lit (.string (FW.B v3))) hk rfl rfl rfl rfl (FW.f_move hk (FW.holds_nil _) rfl) ?_; clear hk; intro a w hk
    obtain ⟨hc1, h⟩ := FW.chk h
    refine FW.lfun (y := .lit (.string (FW.B ((FW.toB ([(IntKind.wrap .u8 (Int.tmod v0 256))] : List Int)) ++ v3)))) hk rfl rfl rfl rfl ((FW.f_pure (FW.p_sadd hk.kn (FW.holds_nil _) rfl rfl hc1))) ?_; clear hk; intro a w hk
    refine FW.lfun (y := .lit (.string (FW.B ((FW.toB ([(IntKind.wrap .u8 (Int.tmod v0 256))] : List Int)) ++ v3)))) hk rfl rfl rfl rfl (FW.f_assign hk (FW.holds_nil _) rfl) ?_; clear hk; intro a w hk
    refine FW.lend (hK9 _ _ ?_); clear hK9 K'
    refine FW.wreg1 ?_
    refine FW.lfun (y := .lit (.int .u64 v0)) hk rfl rfl rfl rfl (FW.f_move hk (FW.holds_nil _) rfl) ?_; clear hk; intro a w hk
    refine FW.lfun (y := .lit (.int .u64 (IntKind.wrap .u64 (Int.tdiv v0 256)))) hk rfl rfl rfl rfl ((FW.f_pure (FW.p_quo hk.kn (FW.holds_nil _) rfl rfl (show ¬ (256 : Int) = 0 from by decide)))) ?_; clear hk; intro a w hk
    refine FW.lfun (y := .lit (.int .u64 (IntKind.wrap .u64 (Int.tdiv v0 256)))) hk rfl rfl rfl rfl (FW.f_assign hk (FW.holds_nil _) rfl) ?_; clear hk; intro a w hk
    refine wpList_nil ?_
    (repeat first | refine FW.then_normal ?_ | refine FW.block_normal ?_); refine hK8 _ _ ?_
    refine FW.wreg1 ?_
    refine FW.lfun (y := .lit (.int .i64 v4)) hk rfl rfl rfl rfl (FW.f_move hk (FW.holds_nil _) rfl) ?_; clear hk; intro a w hk
    refine FW.lfun (y := .lit (.int .i64 (IntKind.wrap .i64 (v4 + 1)))) hk rfl rfl rfl rfl ((FW.f_pure (FW.p_add hk.kn (FW.holds_nil _) rfl rfl))) ?_; clear hk; intro a w hk
    refine FW.lfun (y := .lit (.int .i64 (IntKind.wrap .i64 (v4 + 1)))) hk rfl rfl rfl rfl (FW.f_assign hk (FW.holds_nil _) rfl) ?_; clear hk; intro a w hk
    refine wpList_nil ?_
    (repeat first | refine FW.then_normal ?_ | refine FW.block_normal ?_); exact hK5 (kl1, (IntKind.wrap .u64 (Int.tdiv v0 256)), ((FW.toB ([(IntKind.wrap .u8 (Int.tmod v0 256))] : List Int)) ++ v3), (IntKind.wrap .i64 (v4 + 1))) _ _ (Nat.lt_succ_self _) ⟨(hk.drop 0).sub ⟨rfl, rfl, rfl, trivial⟩, h⟩
  · skip
    refine wp_exit ?_; (repeat first | refine FW.then_exit ?_ | refine FW.block_exit_ne rfl ?_); refine FW.block_exit ?_
    (repeat first | refine FW.then_normal ?_ | refine FW.block_normal ?_); refine hK3 _ _ ?_
    refine FW.wreg ?_; intro K' hK12
    refine FW.lfun (y := .lit (.string (FW.B v3))) hk rfl rfl rfl rfl (FW.f_move hk (FW.holds_nil _) rfl) ?_; clear hk; intro a w hk
    refine FW.lfun (y := .lit (.string (FW.B v3))) hk rfl rfl rfl rfl (FW.f_assign hk (FW.holds_nil _) rfl) ?_; clear hk; intro a w hk
    refine FW.lend (hK12 _ _ ?_); clear hK12 K'
    refine wp_ret ?_
    (repeat first | refine FW.then_ret ?_ | refine FW.block_ret ?_)
    obtain rfl := Option.some.inj h
    exact FW.fret1 hk rfl rfl
end Go.Proofs.Ytimaibcaehagjaa

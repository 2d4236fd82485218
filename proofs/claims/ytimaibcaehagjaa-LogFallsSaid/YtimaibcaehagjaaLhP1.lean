/- Written by a program of this session (gen.py): the contracts of functions of the program. -/
import Derived.KernelRfl
import Derived.Test.YtimaibcaehagjaaProg
import Derived.Test.YtimaibcaehagjaaAvFun
import Derived.Test.YtimaibcaehagjaaAvMan
import Derived.Test.YtimaibcaehagjaaAvMore
import Derived.Test.YtimaibcaehagjaaAvDraw2
import Derived.Test.YtimaibcaehagjaaAvRow
import Derived.Test.YtimaibcaehagjaaHn
import Derived.Test.YtimaibcaehagjaaHg
import Derived.Test.YtimaibcaehagjaaHar
import Derived.Test.YtimaibcaehagjaaHc
import Derived.Test.YtimaibcaehagjaaFx
import Derived.Test.YtimaibcaehagjaaDxP1
import Derived.Test.YtimaibcaehagjaaFy2
import Derived.Test.YtimaibcaehagjaaHl
import Derived.Test.YtimaibcaehagjaaHnl
import Derived.Test.YtimaibcaehagjaaLhD
import Derived.Test.YtimaibcaehagjaaLhP0
namespace Go.Proofs.Ytimaibcaehagjaa
set_option linter.unusedVariables false
set_option maxRecDepth 20000
set_option maxHeartbeats 10000000
theorem log_Open.ok (K : Nat) (v0 : ODevDev) (v1 : Int) (v2 : Int) (v3 : Int) (r : OLogLog × List (List UInt8) × Int × ODevDev) (h : log_Open.f K v0 v1 v2 v3 = some r) :
    ∀ (b0 : Nat) (xd0_0 : Option Addr) (xc0_0 : Nat) (xr0_1 : Nat) (xd0_3 : Option Addr) (xc0_3 : Nat), FW.OkH Go.Proofs.Try.prog 47 [.lit (.pointer (some ⟨b0, 0, none⟩)), .lit (.int .i64 v1), .lit (.int .i64 v2), .lit (.int .u64 v3)] (ODevDev.items b0 xd0_0 xc0_0 xr0_1 xd0_3 xc0_3 v0) (fun y I => ∃ (bn0 : Nat) (zxd0_0 : Option Addr) (zxc0_0 : Nat) (zxr0_1 : Nat) (zxd0_3 : Option Addr) (zxc0_3 : Nat), y = .tup [.lit (.pointer (some ⟨bn0, 0, none⟩)), .row (r_c_str r.2.1), .lit (.int .i64 r.2.2.1)] ∧ I = (OLogLog.items bn0 b0 r.1) ++ (ODevDev.items b0 zxd0_0 zxc0_0 zxr0_1 zxd0_3 zxc0_3 r.2.2.2)) := by
  intro b0 xd0_0 xc0_0 xr0_1 xd0_3 xc0_3
  refine FW.enterH (xs := [.lit (.pointer (some ⟨b0, 0, none⟩)), .lit (.int .i64 v1), .lit (.int .i64 v2), .lit (.int .u64 v3)]) Go.Proofs.Try.func47 rfl Go.Proofs.Try.ntmps47 rfl ?_
  intro M w0 a hk
  replace hk : FW.S M w0 a w0.toWorld 75 [FW.blk b0 109 ([.lit (.slice xd0_0 (List.length v0.sure) xc0_0), .lit (.map (some xr0_1)), .lit (.int .i64 v0.steps), .lit (.slice xd0_3 (List.length v0.falls) xc0_3), .lit (.bool v0.off)]), FW.orow xd0_0 xc0_0 9 1 c_str v0.sure, FW.mapI (.int .i64) (Value.int .i64) FW.evS xr0_1 v0.cache, FW.orow xd0_3 xc0_3 45 3 ApiFall.cells v0.falls] [(0, [], .lit (.pointer (some ⟨b0, 0, none⟩))), (1, [], .lit (.int .i64 v1)), (2, [], .lit (.int .i64 v2)), (3, [], .lit (.int .u64 v3))] := hk
  unfold log_Open.f at h
  refine FW.wreg ?_; intro K' hK1
  refine FW.lfun (y := .lit (.pointer none)) hk rfl rfl rfl rfl (FW.f_assign hk (FW.holds_nil _) rfl) ?_; clear hk; intro a w hk
  refine FW.lfun (y := .row (r_c_str [])) hk rfl rfl rfl rfl (FW.f_assignNil) ?_; clear hk; intro a w hk
  refine FW.lfun (y := .lit (.int .i64 0)) hk rfl rfl rfl rfl (FW.f_assign hk (FW.holds_nil _) rfl) ?_; clear hk; intro a w hk
  refine FW.lend (hK1 _ _ ?_); clear hK1 K'
  refine FW.wseq ?_; intro K' hK2
  refine FW.wreg ?_; intro K' hK3
  refine FW.lfun (y := .lit (.pointer (some ⟨b0, 0, none⟩))) hk rfl rfl rfl rfl (FW.f_move hk (FW.holds_nil _) rfl) ?_; clear hk; intro a w hk
  refine FW.lfun (y := .lit (.bool false)) hk rfl rfl rfl rfl ((FW.f_pure (FW.p_ptrEq Go.Proofs.Try.underlying46 hk.kn (FW.holds_nil _) rfl rfl rfl))) ?_; clear hk; intro a w hk
  refine FW.lfun (y := .lit (.bool false)) hk rfl rfl rfl rfl (FW.f_move hk (FW.holds_nil _) rfl) ?_; clear hk; intro a w hk
  refine FW.lfunG (y := .lit (.int .i64 v1)) hk rfl rfl rfl rfl rfl rfl rfl rfl (fun hc => FW.f_move hk hc rfl) ?_; clear hk; intro a w hk
  refine FW.lfunG (y := .lit (.bool (decide (v1 < 0)))) hk rfl rfl rfl rfl rfl rfl rfl rfl (fun hc => (FW.f_pure (FW.p_lss hk.kn hc rfl rfl))) ?_; clear hk; intro a w hk
  refine FW.lfun (y := .lit (.bool (decide (v1 < 0)))) hk rfl rfl rfl rfl ((FW.f_pure (FW.p_pickX hk.kn (FW.holds_nil _) rfl rfl))) ?_; clear hk; intro a w hk
  refine FW.lfun (y := .lit (.bool (decide (v1 < 0)))) hk rfl rfl rfl rfl (FW.f_move hk (FW.holds_nil _) rfl) ?_; clear hk; intro a w hk
  refine FW.lfunG (y := .lit (.int .i64 v2)) hk rfl rfl rfl rfl rfl rfl rfl rfl (fun hc => FW.f_move hk hc rfl) ?_; clear hk; intro a w hk
  refine FW.lfunG (y := .lit (.int .i64 v1)) hk rfl rfl rfl rfl rfl rfl rfl rfl (fun hc => FW.f_move hk hc rfl) ?_; clear hk; intro a w hk
  refine FW.lfunG (y := .lit (.bool (decide (v2 < v1)))) hk rfl rfl rfl rfl rfl rfl rfl rfl (fun hc => (FW.f_pure (FW.p_lss hk.kn hc rfl rfl))) ?_; clear hk; intro a w hk
  refine FW.lfun (y := .lit (.bool ((decide (v1 < 0)) || (decide (v2 < v1))))) hk rfl rfl rfl rfl ((FW.f_pure (FW.p_pick_or hk.kn (FW.holds_nil _) rfl rfl))) ?_; clear hk; intro a w hk
  refine FW.lfun (y := .lit (.bool ((decide (v1 < 0)) || (decide (v2 < v1))))) hk rfl rfl rfl rfl (FW.f_move hk (FW.holds_nil _) rfl) ?_; clear hk; intro a w hk
  refine FW.lfunG (y := .lit (.int .i64 v2)) hk rfl rfl rfl rfl rfl rfl rfl rfl (fun hc => FW.f_move hk hc rfl) ?_; clear hk; intro a w hk
  refine FW.lfunG (y := .lit (.pointer (some ⟨b0, 0, none⟩))) hk rfl rfl rfl rfl rfl rfl rfl rfl (fun hc => FW.f_move hk hc rfl) ?_; clear hk; intro a w hk
  obtain ⟨t1, hr_t1, hn_t1, h⟩ := FW.bndG2 h
  refine FW.l_callHG (I1 := (ODevDev.items b0 xd0_0 xc0_0 xr0_1 xd0_3 xc0_3 v0)) (I2 := []) (js := [3, 3, 3, 3]) hk rfl rfl rfl rfl rfl rfl rfl rfl rfl Go.Proofs.Try.func42 rfl (by kernel_rfl) (fun hc => dev_Dev_Len.ok v0 _ (hr_t1 (FW.asm_out (p := ((decide (v1 < 0)) || (decide (v2 < v1))) = false) hk.kn hc (fun e0 => e0))) b0 xd0_0 xc0_0 xr0_1 xd0_3 xc0_3) (fun hn => by obtain rfl := hn_t1 (fun hp => hn (FW.asm_in hk.kn (by have e0 := hp; exact ⟨e0, rfl, trivial⟩))); exact ⟨_, rfl, rfl⟩) ?_; clear hk
  rintro _ _ ⟨rfl, rfl⟩ a w hk
  refine FW.lfunG (y := .lit (.bool (decide (t1 < v2)))) hk rfl rfl rfl rfl rfl rfl rfl rfl (fun hc => (FW.f_pure (FW.p_gtr hk.kn hc rfl rfl))) ?_; clear hk; intro a w hk
  refine FW.lfun (y := .lit (.bool (((decide (v1 < 0)) || (decide (v2 < v1))) || (decide (t1 < v2))))) hk rfl rfl rfl rfl ((FW.f_pure (FW.p_pick_or hk.kn (FW.holds_nil _) rfl rfl))) ?_; clear hk; intro a w hk
  refine FW.lfun (y := .lit (.bool (((decide (v1 < 0)) || (decide (v2 < v1))) || (decide (t1 < v2))))) hk rfl rfl rfl rfl (FW.f_move hk (FW.holds_nil _) rfl) ?_; clear hk; intro a w hk
  refine FW.lfunG (y := .lit (.int .u64 v3)) hk rfl rfl rfl rfl rfl rfl rfl rfl (fun hc => FW.f_move hk hc rfl) ?_; clear hk; intro a w hk
  refine FW.lfunG (y := .lit (.bool (decide (v3 = 0)))) hk rfl rfl rfl rfl rfl rfl rfl rfl (fun hc => (FW.f_pure (FW.p_eql hk.kn hc rfl rfl))) ?_; clear hk; intro a w hk
  refine FW.lfun (y := .lit (.bool ((((decide (v1 < 0)) || (decide (v2 < v1))) || (decide (t1 < v2))) || (decide (v3 = 0))))) hk rfl rfl rfl rfl ((FW.f_pure (FW.p_pick_or hk.kn (FW.holds_nil _) rfl rfl))) ?_; clear hk; intro a w hk
  refine FW.lend (hK3 _ _ ?_); clear hK3 K'
  refine FW.wcondF (b := ((((decide (v1 < 0)) || (decide (v2 < v1))) || (decide (t1 < v2))) || (decide (v3 = 0)))) hk h rfl (fun h hb => ?_) (fun h hb => ?_)
  · skip
    cases h
  · skip
    refine wp_skip ?_
    (repeat first | refine FW.then_normal ?_ | refine FW.block_normal ?_); refine hK2 _ _ ?_
    refine FW.wseq ?_; intro K' hK4
    refine FW.wreg ?_; intro K' hK5
    refine FW.lfun (y := .lit (.pointer (some ⟨b0, 0, none⟩))) hk rfl rfl rfl rfl (FW.f_move hk (FW.holds_nil _) rfl) ?_; clear hk; intro a w hk
    obtain ⟨t2, hr_t2, h⟩ := FW.bnd h
    refine FW.l_callH (I1 := (ODevDev.items b0 xd0_0 xc0_0 xr0_1 xd0_3 xc0_3 v0)) (I2 := []) (js := [3, 3, 3, 3]) hk rfl rfl rfl rfl rfl Go.Proofs.Try.func41 rfl (by kernel_rfl) (dev_Dev_Off.ok v0 _ hr_t2 b0 xd0_0 xc0_0 xr0_1 xd0_3 xc0_3) ?_; clear hk
    rintro _ _ ⟨rfl, rfl⟩ a w hk
    refine FW.lend (hK5 _ _ ?_); clear hK5 K'
    refine FW.wcondF (b := t2) hk h rfl (fun h hb => ?_) (fun h hb => ?_)
    · skip
      cases h
    · skip
      refine wp_skip ?_
      (repeat first | refine FW.then_normal ?_ | refine FW.block_normal ?_); refine hK4 _ _ ?_
      refine FW.wreg ?_; intro K' hK6
      refine FW.lfun (y := .lit (.pointer (some ⟨b0, 0, none⟩))) hk rfl rfl rfl rfl (FW.f_move hk (FW.holds_nil _) rfl) ?_; clear hk; intro a w hk
      refine FW.lfun (y := .lit (.int .i64 v1)) hk rfl rfl rfl rfl (FW.f_move hk (FW.holds_nil _) rfl) ?_; clear hk; intro a w hk
      refine FW.lfun (y := .lit (.int .i64 v2)) hk rfl rfl rfl rfl (FW.f_move hk (FW.holds_nil _) rfl) ?_; clear hk; intro a w hk
      refine FW.lfun (y := .lit (.int .i64 v1)) hk rfl rfl rfl rfl (FW.f_move hk (FW.holds_nil _) rfl) ?_; clear hk; intro a w hk
      refine FW.lfun (y := .lit (.int .u64 v3)) hk rfl rfl rfl rfl (FW.f_move hk (FW.holds_nil _) rfl) ?_; clear hk; intro a w hk
      refine FW.lfun (y := .agg ([.lit (.pointer (some ⟨b0, 0, none⟩)), .lit (.int .i64 v1), .lit (.int .i64 v2), .lit (.int .i64 v1), .lit (.int .u64 v3)])) hk rfl rfl rfl rfl (FW.f_buildN [] hk (FW.holds_nil _) rfl rfl rfl) ?_; clear hk; intro a w hk
      refine FW.l_box (cs := [.lit (.pointer (some ⟨b0, 0, none⟩)), .lit (.int .i64 v1), .lit (.int .i64 v2), .lit (.int .i64 v1), .lit (.int .u64 v3)]) hk rfl rfl rfl rfl rfl ?_; clear hk; intro bx1 a w hk
      refine FW.lfun (y := .lit (.pointer (some ⟨bx1, 0, none⟩))) hk rfl rfl rfl rfl (FW.f_assign hk (FW.holds_nil _) rfl) ?_; clear hk; intro a w hk
      refine FW.lend (hK6 _ _ ?_); clear hK6 K'
      refine FW.wreg ?_; intro K' hK7
      refine FW.lfun (y := .lit (.slice none 0 0)) hk rfl rfl rfl rfl (FW.f_assign hk (FW.holds_nil _) rfl) ?_; clear hk; intro a w hk
      replace hk := hk.nilRow 9 1 c_str (fun _ => rfl)
      refine FW.lend (hK7 _ _ ?_); clear hK7 K'
      refine wp_block ?_
      refine FW.wloop (T := Nat × List (List UInt8) × Int × Int × Int × Int × Option Addr × Nat) (fun x a w => match x with | (kl1, l6, y5_1, y5_2, y5_3, y5_4, xd6, xc6) => FW.S M w0 a w 75 [FW.orow xd6 xc6 9 1 c_str l6, FW.blk bx1 127 ([.lit (.pointer (some ⟨b0, 0, none⟩)), .lit (.int .i64 y5_1), .lit (.int .i64 y5_2), .lit (.int .i64 y5_3), .lit (.int .u64 y5_4)]), FW.blk b0 109 ([.lit (.slice xd0_0 (List.length v0.sure) xc0_0), .lit (.map (some xr0_1)), .lit (.int .i64 v0.steps), .lit (.slice xd0_3 (List.length v0.falls) xc0_3), .lit (.bool v0.off)]), FW.orow xd0_0 xc0_0 9 1 c_str v0.sure, FW.mapI (.int .i64) (Value.int .i64) FW.evS xr0_1 v0.cache, FW.orow xd0_3 xc0_3 45 3 ApiFall.cells v0.falls] [(11, [], .lit (.pointer (some ⟨bx1, 0, none⟩))), (12, [], .lit (.slice xd6 (List.length l6) xc6))] ∧ log_Open.l1 K v0 kl1 l6 y5_1 y5_2 y5_3 y5_4 = some r) (fun x => x.1) (K, ([] : List (List UInt8)), v1, v2, v1, v3, none, 0) ⟨hk.sub ⟨rfl, rfl, trivial⟩, h⟩ ?_
      clear hk h
      rintro ⟨kl1, l6, y5_1, y5_2, y5_3, y5_4, xd6, xc6⟩ a w ⟨hk, h⟩ K' hK8
      cases kl1 with
      | zero => simp [log_Open.l1] at h
      | succ kl1 =>
      rw [log_Open.l1.eq_2] at h
      refine wp_block ?_
      refine FW.wreg ?_; intro K' hK9
      refine FW.lfun (y := .lit (.pointer (some ⟨bx1, 0, none⟩))) hk rfl rfl rfl rfl (FW.f_move hk (FW.holds_nil _) rfl) ?_; clear hk; intro a w hk
      obtain ⟨t3, hr_t3, h⟩ := FW.bnd h
      refine FW.l_callH (I1 := (OLogLog.items bx1 b0 (⟨y5_1, y5_2, y5_3, y5_4⟩ : OLogLog)) ++ (ODevDev.items b0 xd0_0 xc0_0 xr0_1 xd0_3 xc0_3 v0)) (I2 := [FW.orow xd6 xc6 9 1 c_str l6]) (js := [5, 5, 5, 5, 5]) hk rfl rfl rfl rfl rfl Go.Proofs.Try.func73 rfl (by kernel_rfl) (log_Log_read.ok K (⟨y5_1, y5_2, y5_3, y5_4⟩ : OLogLog) v0 _ hr_t3 bx1 b0 xd0_0 xc0_0 xr0_1 xd0_3 xc0_3) ?_; clear hk
      rintro _ _ ⟨rfl, rfl⟩ a w hk
      refine FW.lfun (y := .tup [.lit (.string (FW.B t3.1)), .lit (.bool t3.2)]) hk rfl rfl rfl rfl (FW.f_move hk (FW.holds_nil _) rfl) ?_; clear hk; intro a w hk
      refine FW.lfun (y := .lit (.string (FW.B t3.1))) hk rfl rfl rfl rfl (FW.f_extract hk (FW.holds_nil _) rfl rfl) ?_; clear hk; intro a w hk
      refine FW.lfun (y := .lit (.bool t3.2)) hk rfl rfl rfl rfl (FW.f_extract hk (FW.holds_nil _) rfl rfl) ?_; clear hk; intro a w hk
      refine FW.lfun (y := .lit (.string (FW.B t3.1))) hk rfl rfl rfl rfl (FW.f_assign hk (FW.holds_nil _) rfl) ?_; clear hk; intro a w hk
      refine FW.lfun (y := .lit (.bool t3.2)) hk rfl rfl rfl rfl (FW.f_assign hk (FW.holds_nil _) rfl) ?_; clear hk; intro a w hk
      refine FW.lend (hK9 _ _ ?_); clear hK9 K'
      refine FW.wseq ?_; intro K' hK10
      refine FW.wreg ?_; intro K' hK11
      refine FW.lfun (y := .lit (.bool t3.2)) hk rfl rfl rfl rfl (FW.f_move hk (FW.holds_nil _) rfl) ?_; clear hk; intro a w hk
      refine FW.lfun (y := .lit (.bool (!t3.2))) hk rfl rfl rfl rfl ((FW.f_pure (FW.p_not hk.kn (FW.holds_nil _) rfl))) ?_; clear hk; intro a w hk
      refine FW.lend (hK11 _ _ ?_); clear hK11 K'
      refine FW.wcondF (b := (!t3.2)) hk h rfl (fun h hb => ?_) (fun h hb => ?_)
      · skip
        refine FW.wreg ?_; intro K' hK12
        refine FW.lfun (y := .lit (.pointer (some ⟨bx1, 0, none⟩))) hk rfl rfl rfl rfl (FW.f_move hk (FW.holds_nil _) rfl) ?_; clear hk; intro a w hk
        refine FW.lfun (y := .lit (.slice xd6 (List.length l6) xc6)) hk rfl rfl rfl rfl (FW.f_move hk (FW.holds_nil _) rfl) ?_; clear hk; intro a w hk
        refine FW.lfun (y := .lit (.pointer (some ⟨bx1, 0, none⟩))) hk rfl rfl rfl rfl (FW.f_assign hk (FW.holds_nil _) rfl) ?_; clear hk; intro a w hk
        refine FW.lfun (y := .lit (.slice xd6 (List.length l6) xc6)) hk rfl rfl rfl rfl (FW.f_assign hk (FW.holds_nil _) rfl) ?_; clear hk; intro a w hk
        refine FW.lfun (y := .lit (.int .i64 0)) hk rfl rfl rfl rfl (FW.f_assign hk (FW.holds_nil _) rfl) ?_; clear hk; intro a w hk
        refine FW.lend (hK12 _ _ ?_); clear hK12 K'
        refine wp_ret ?_
        (repeat first | refine FW.then_ret ?_ | refine FW.block_ret ?_)
        replace hk := FW.S.freezeR (I' := [FW.blk bx1 127 ([.lit (.pointer (some ⟨b0, 0, none⟩)), .lit (.int .i64 y5_1), .lit (.int .i64 y5_2), .lit (.int .i64 y5_3), .lit (.int .u64 y5_4)]), FW.blk b0 109 ([.lit (.slice xd0_0 (List.length v0.sure) xc0_0), .lit (.map (some xr0_1)), .lit (.int .i64 v0.steps), .lit (.slice xd0_3 (List.length v0.falls) xc0_3), .lit (.bool v0.off)]), FW.orow xd0_0 xc0_0 9 1 c_str v0.sure, FW.mapI (.int .i64) (Value.int .i64) FW.evS xr0_1 v0.cache, FW.orow xd0_3 xc0_3 45 3 ApiFall.cells v0.falls]) r_c_str_eq hk (j := 5) rfl (t := 9) rfl rfl
        obtain rfl := Option.some.inj h
        replace hk := FW.S.keep (I1 := [FW.blk bx1 127 ([.lit (.pointer (some ⟨b0, 0, none⟩)), .lit (.int .i64 y5_1), .lit (.int .i64 y5_2), .lit (.int .i64 y5_3), .lit (.int .u64 y5_4)]), FW.blk b0 109 ([.lit (.slice xd0_0 (List.length v0.sure) xc0_0), .lit (.map (some xr0_1)), .lit (.int .i64 v0.steps), .lit (.slice xd0_3 (List.length v0.falls) xc0_3), .lit (.bool v0.off)]), FW.orow xd0_0 xc0_0 9 1 c_str v0.sure, FW.mapI (.int .i64) (Value.int .i64) FW.evS xr0_1 v0.cache, FW.orow xd0_3 xc0_3 45 3 ApiFall.cells v0.falls]) (I2 := []) (js := [4, 4, 4, 4, 4]) hk rfl
        exact FW.fretH3 hk rfl (FW.rtmp hk rfl) (FW.rtmp hk rfl) (FW.rtmp hk rfl) ⟨bx1, xd0_0, xc0_0, xr0_1, xd0_3, xc0_3, rfl, rfl⟩
      · skip
        refine wp_skip ?_
        (repeat first | refine FW.then_normal ?_ | refine FW.block_normal ?_); refine hK10 _ _ ?_
        refine FW.wreg ?_; intro K' hK13
        refine FW.lfun (y := .lit (.slice xd6 (List.length l6) xc6)) hk rfl rfl rfl rfl (FW.f_move hk (FW.holds_nil _) rfl) ?_; clear hk; intro a w hk
        refine FW.lfun (y := .lit (.string (FW.B t3.1))) hk rfl rfl rfl rfl (FW.f_move hk (FW.holds_nil _) rfl) ?_; clear hk; intro a w hk
        refine FW.l_buildSlice (f := c_str) (l := ([t3.1] : List (List UInt8))) hk rfl rfl rfl Go.Proofs.Try.underlying61 rfl rfl rfl rfl (fun _ => rfl) rfl ?_; clear hk; intro bx2 a w hk
        obtain ⟨hc1, h⟩ := FW.chk h
        refine FW.l_append (l2 := ([t3.1] : List (List UInt8))) (l3 := (l6 ++ ([t3.1] : List (List UInt8)))) (I' := fun ad1 cap1 => [FW.orow (some ⟨bx2, 0, none⟩) 1 9 1 c_str ([t3.1] : List (List UInt8)), FW.blk bx1 127 ([.lit (.pointer (some ⟨b0, 0, none⟩)), .lit (.int .i64 y5_1), .lit (.int .i64 y5_2), .lit (.int .i64 y5_3), .lit (.int .u64 y5_4)]), FW.blk b0 109 ([.lit (.slice xd0_0 (List.length v0.sure) xc0_0), .lit (.map (some xr0_1)), .lit (.int .i64 v0.steps), .lit (.slice xd0_3 (List.length v0.falls) xc0_3), .lit (.bool v0.off)]), FW.orow xd0_0 xc0_0 9 1 c_str v0.sure, FW.mapI (.int .i64) (Value.int .i64) FW.evS xr0_1 v0.cache, FW.orow xd0_3 xc0_3 45 3 ApiFall.cells v0.falls, FW.orow ad1 cap1 9 1 c_str (l6 ++ ([t3.1] : List (List UInt8)))]) (j := 6) hk rfl rfl rfl rfl (FW.own_src hk (j := 0) rfl rfl (fun _ => rfl) Go.Proofs.Try.underlying61) Go.Proofs.Try.underlying61 (by kernel_rfl) hc1 rfl (fun _ _ => rfl) ?_; clear hk; intro ad1 cap1 a w hk
        replace hk := FW.S.dropI (I' := [FW.blk bx1 127 ([.lit (.pointer (some ⟨b0, 0, none⟩)), .lit (.int .i64 y5_1), .lit (.int .i64 y5_2), .lit (.int .i64 y5_3), .lit (.int .u64 y5_4)]), FW.blk b0 109 ([.lit (.slice xd0_0 (List.length v0.sure) xc0_0), .lit (.map (some xr0_1)), .lit (.int .i64 v0.steps), .lit (.slice xd0_3 (List.length v0.falls) xc0_3), .lit (.bool v0.off)]), FW.orow xd0_0 xc0_0 9 1 c_str v0.sure, FW.mapI (.int .i64) (Value.int .i64) FW.evS xr0_1 v0.cache, FW.orow xd0_3 xc0_3 45 3 ApiFall.cells v0.falls, FW.orow ad1 cap1 9 1 c_str (l6 ++ ([t3.1] : List (List UInt8)))]) hk 0 rfl
        refine FW.lfun (y := .lit (.slice ad1 (List.length (l6 ++ ([t3.1] : List (List UInt8)))) cap1)) hk rfl rfl rfl rfl (FW.f_assign hk (FW.holds_nil _) rfl) ?_; clear hk; intro a w hk
        refine FW.lend (hK13 _ _ ?_); clear hK13 K'
        obtain ⟨t4, hr_t4, h⟩ := FW.bnd h
        refine FW.wdrawE (.next [true, true, true, true, true, true, true, true, true, true, false] 10 [true, true, true, true, true, true, true, true, true, true, false] (.leaf [false, false, false, false, false, false, false, false, false, false, false])) [(58, [], .lit (.pointer (some ⟨bx1, 0, none⟩))), (59, [], .lit (.pointer (some ⟨bx1, 0, none⟩))), (60, [], .lit (.pointer (some ⟨bx1, 3, none⟩))), (61, [], .lit (.int .i64 y5_3)), (62, [], .lit (.string (FW.B t3.1))), (63, [], .lit (.int .i64 (List.length t3.1 : Int))), (64, [], .lit (.int .i64 t4)), (65, [], .lit (.int .i64 (IntKind.wrap .i64 (y5_3 + t4)))), (66, [], .lit (.pointer (some ⟨bx1, 0, none⟩))), (67, [], .lit (.pointer (some ⟨bx1, 3, none⟩))), (75, [], .lit undef)] (by kernel_rfl) (by kernel_rfl) (by kernel_rfl) (by kernel_rfl) hk ?_; clear hk
        refine FW.gnext0 ?_ rfl rfl rfl ?_
        · skip
          refine FW.gfun (y := .lit (.pointer (some ⟨bx1, 0, none⟩))) rfl rfl rfl rfl (fun a w hk => FW.f_move hk (FW.holds_nil _) rfl) ?_
          refine FW.gfun (y := .lit (.pointer (some ⟨bx1, 0, none⟩))) rfl rfl rfl rfl (fun a w hk => (FW.f_pure (FW.p_nilCheck hk.kn (FW.holds_nil _) rfl))) ?_
          refine FW.gfun (y := .lit (.pointer (some ⟨bx1, 3, none⟩))) rfl rfl rfl rfl (fun a w hk => FW.f_fieldPtr hk (FW.holds_nil _) rfl Go.Proofs.Try.underlying127 rfl (by kernel_rfl) rfl) ?_
          refine FW.gfun (y := .lit (.int .i64 y5_3)) rfl rfl rfl rfl (fun a w hk => FW.f_loadBlk1 hk (FW.holds_nil _) (j := 0) rfl rfl Go.Proofs.Try.underlying3 rfl rfl) ?_
          refine FW.gfun (y := .lit (.string (FW.B t3.1))) rfl rfl rfl rfl (fun a w hk => FW.f_move hk (FW.holds_nil _) rfl) ?_
          refine FW.gfun (y := .lit (.int .i64 (List.length t3.1 : Int))) rfl rfl rfl rfl (fun a w hk => (FW.f_pure (FW.p_slen Go.Proofs.Try.underlying9 hk.kn (FW.holds_nil _) rfl))) ?_
          refine FW.gfun (y := .lit (.int .i64 t4)) rfl rfl rfl rfl (fun a w hk => FW.f_call hk (FW.holds_nil _) rfl rfl Go.Proofs.Try.func45 rfl (by kernel_rfl) (log_Sectors.ok (List.length t3.1 : Int) _ hr_t4)) ?_
          refine FW.gfun (y := .lit (.int .i64 (IntKind.wrap .i64 (y5_3 + t4)))) rfl rfl rfl rfl (fun a w hk => (FW.f_pure (FW.p_add hk.kn (FW.holds_nil _) rfl rfl))) ?_
          refine FW.gfun (y := .lit (.pointer (some ⟨bx1, 0, none⟩))) rfl rfl rfl rfl (fun a w hk => (FW.f_pure (FW.p_nilCheck hk.kn (FW.holds_nil _) rfl))) ?_
          refine FW.gfun (y := .lit (.pointer (some ⟨bx1, 3, none⟩))) rfl rfl rfl rfl (fun a w hk => FW.f_fieldPtr hk (FW.holds_nil _) rfl Go.Proofs.Try.underlying127 rfl (by kernel_rfl) rfl) ?_
          refine FW.gskip0 rfl ?_
          exact FW.gend
        · skip
          intro σD a w opsD QD hk hQ hX
          refine FW.l_store (I' := [FW.blk bx1 127 ([.lit (.pointer (some ⟨b0, 0, none⟩)), .lit (.int .i64 y5_1), .lit (.int .i64 y5_2), .lit (.int .i64 (IntKind.wrap .i64 (y5_3 + t4))), .lit (.int .u64 y5_4)]), FW.blk b0 109 ([.lit (.slice xd0_0 (List.length v0.sure) xc0_0), .lit (.map (some xr0_1)), .lit (.int .i64 v0.steps), .lit (.slice xd0_3 (List.length v0.falls) xc0_3), .lit (.bool v0.off)]), FW.orow xd0_0 xc0_0 9 1 c_str v0.sure, FW.mapI (.int .i64) (Value.int .i64) FW.evS xr0_1 v0.cache, FW.orow xd0_3 xc0_3 45 3 ApiFall.cells v0.falls, FW.orow ad1 cap1 9 1 c_str (l6 ++ ([t3.1] : List (List UInt8)))]) (cs' := [.lit (.pointer (some ⟨b0, 0, none⟩)), .lit (.int .i64 y5_1), .lit (.int .i64 y5_2), .lit (.int .i64 (IntKind.wrap .i64 (y5_3 + t4))), .lit (.int .u64 y5_4)]) (j := 0) hk rfl rfl rfl rfl rfl (by kernel_rfl) rfl rfl ?_; clear hk; intro w hk
          refine hQ _ a w ?_ hk; clear hk hQ hX
          refine ⟨[(58, [], .lit (.pointer (some ⟨bx1, 0, none⟩))), (59, [], .lit (.pointer (some ⟨bx1, 0, none⟩))), (60, [], .lit (.pointer (some ⟨bx1, 3, none⟩))), (61, [], .lit (.int .i64 y5_3)), (62, [], .lit (.string (FW.B t3.1))), (63, [], .lit (.int .i64 (List.length t3.1 : Int))), (64, [], .lit (.int .i64 t4)), (65, [], .lit (.int .i64 (IntKind.wrap .i64 (y5_3 + t4)))), (66, [], .lit (.pointer (some ⟨bx1, 0, none⟩))), (67, [], .lit (.pointer (some ⟨bx1, 3, none⟩))), (75, [], .lit undef)], And.intro rfl (And.intro rfl (And.intro rfl (And.intro rfl (And.intro rfl (And.intro rfl (And.intro rfl (And.intro rfl (And.intro rfl (And.intro rfl (trivial)))))))))), rfl, ?_⟩
          refine FW.glast ?_ ?_
          · skip
            refine FW.gskip rfl rfl ?_
            refine FW.gskip rfl rfl ?_
            refine FW.gskip rfl rfl ?_
            refine FW.gskip rfl rfl ?_
            refine FW.gskip rfl rfl ?_
            refine FW.gskip rfl rfl ?_
            refine FW.gskip rfl rfl ?_
            refine FW.gskip rfl rfl ?_
            refine FW.gskip rfl rfl ?_
            refine FW.gskip rfl rfl ?_
            refine FW.gskip0 rfl ?_
            exact FW.gend
          · skip
            intro a w hk; simp only [FW.stD, cond_true] at hk
            refine FW.wreg1 ?_
            refine FW.lfun (y := .lit (.pointer (some ⟨bx1, 0, none⟩))) hk rfl rfl rfl rfl (FW.f_move hk (FW.holds_nil _) rfl) ?_; clear hk; intro a w hk
            refine FW.lfun (y := .lit (.pointer (some ⟨bx1, 0, none⟩))) hk rfl rfl rfl rfl ((FW.f_pure (FW.p_nilCheck hk.kn (FW.holds_nil _) rfl))) ?_; clear hk; intro a w hk
            refine FW.lfun (y := .lit (.pointer (some ⟨bx1, 4, none⟩))) hk rfl rfl rfl rfl (FW.f_fieldPtr hk (FW.holds_nil _) rfl Go.Proofs.Try.underlying127 rfl (by kernel_rfl) rfl) ?_; clear hk; intro a w hk
            refine FW.lfun (y := .lit (.int .u64 y5_4)) hk rfl rfl rfl rfl (FW.f_loadBlk1 hk (FW.holds_nil _) (j := 0) rfl rfl Go.Proofs.Try.underlying29 rfl rfl) ?_; clear hk; intro a w hk
            refine FW.lfun (y := .lit (.int .u64 (IntKind.wrap .u64 (y5_4 + 1)))) hk rfl rfl rfl rfl ((FW.f_pure (FW.p_add hk.kn (FW.holds_nil _) rfl rfl))) ?_; clear hk; intro a w hk
            refine FW.lfun (y := .lit (.pointer (some ⟨bx1, 0, none⟩))) hk rfl rfl rfl rfl ((FW.f_pure (FW.p_nilCheck hk.kn (FW.holds_nil _) rfl))) ?_; clear hk; intro a w hk
            refine FW.lfun (y := .lit (.pointer (some ⟨bx1, 4, none⟩))) hk rfl rfl rfl rfl (FW.f_fieldPtr hk (FW.holds_nil _) rfl Go.Proofs.Try.underlying127 rfl (by kernel_rfl) rfl) ?_; clear hk; intro a w hk
            refine FW.l_store (I' := [FW.blk bx1 127 ([.lit (.pointer (some ⟨b0, 0, none⟩)), .lit (.int .i64 y5_1), .lit (.int .i64 y5_2), .lit (.int .i64 (IntKind.wrap .i64 (y5_3 + t4))), .lit (.int .u64 (IntKind.wrap .u64 (y5_4 + 1)))]), FW.blk b0 109 ([.lit (.slice xd0_0 (List.length v0.sure) xc0_0), .lit (.map (some xr0_1)), .lit (.int .i64 v0.steps), .lit (.slice xd0_3 (List.length v0.falls) xc0_3), .lit (.bool v0.off)]), FW.orow xd0_0 xc0_0 9 1 c_str v0.sure, FW.mapI (.int .i64) (Value.int .i64) FW.evS xr0_1 v0.cache, FW.orow xd0_3 xc0_3 45 3 ApiFall.cells v0.falls, FW.orow ad1 cap1 9 1 c_str (l6 ++ ([t3.1] : List (List UInt8)))]) (cs' := [.lit (.pointer (some ⟨b0, 0, none⟩)), .lit (.int .i64 y5_1), .lit (.int .i64 y5_2), .lit (.int .i64 (IntKind.wrap .i64 (y5_3 + t4))), .lit (.int .u64 (IntKind.wrap .u64 (y5_4 + 1)))]) (j := 0) hk rfl rfl rfl rfl rfl (by kernel_rfl) rfl rfl ?_; clear hk; intro w hk
            refine wpList_nil ?_
            (repeat first | refine FW.then_normal ?_ | refine FW.block_normal ?_); exact hK8 (kl1, (l6 ++ ([t3.1] : List (List UInt8))), y5_1, y5_2, (IntKind.wrap .i64 (y5_3 + t4)), (IntKind.wrap .u64 (y5_4 + 1)), ad1, cap1) _ _ (Nat.lt_succ_self _) ⟨(FW.S.pick hk (js := [4, 4, 4, 4, 4, 5]) rfl).sub ⟨rfl, rfl, trivial⟩, h⟩

theorem log_pad.ok  (v0 : List UInt8) (v1 : Int) (r : List UInt8) (h : log_pad.f v0 v1 = some r) :
    FW.Ok Go.Proofs.Try.prog 96 [.lit (.string (FW.B v0)), .lit (.int .i64 v1)] (.lit (.string (FW.B r))) := by
  refine FW.enter (xs := [.lit (.string (FW.B v0)), .lit (.int .i64 v1)]) Go.Proofs.Try.func96 rfl Go.Proofs.Try.ntmps96 rfl ?_
  intro M w0 a hk
  unfold log_pad.f at h
  refine FW.wreg ?_; intro K' hK1
  refine FW.lfun (y := .lit (.string (FW.B ([] : List UInt8)))) hk rfl rfl rfl rfl (FW.f_assign hk (FW.holds_nil _) rfl) ?_; clear hk; intro a w hk
  refine FW.lend (hK1 _ _ ?_); clear hK1 K'
  refine FW.wreg ?_; intro K' hK2
  refine FW.lfun (y := .lit (.string (FW.B v0))) hk rfl rfl rfl rfl (FW.f_move hk (FW.holds_nil _) rfl) ?_; clear hk; intro a w hk
  refine FW.lfun (y := .lit (.int .i64 v1)) hk rfl rfl rfl rfl (FW.f_move hk (FW.holds_nil _) rfl) ?_; clear hk; intro a w hk
  refine FW.lfun (y := .lit (.string (FW.B v0))) hk rfl rfl rfl rfl (FW.f_move hk (FW.holds_nil _) rfl) ?_; clear hk; intro a w hk
  refine FW.lfun (y := .lit (.int .i64 (List.length v0 : Int))) hk rfl rfl rfl rfl ((FW.f_pure (FW.p_slen Go.Proofs.Try.underlying9 hk.kn (FW.holds_nil _) rfl))) ?_; clear hk; intro a w hk
  refine FW.lfun (y := .lit (.int .i64 (IntKind.wrap .i64 (v1 - (List.length v0 : Int))))) hk rfl rfl rfl rfl ((FW.f_pure (FW.p_sub hk.kn (FW.holds_nil _) rfl rfl))) ?_; clear hk; intro a w hk
  obtain ⟨t1, hr_t1, h⟩ := FW.bnd h
  refine FW.lfun (y := .lit (.string (FW.B t1))) hk rfl rfl rfl rfl (FW.f_call hk (FW.holds_nil _) rfl rfl Go.Proofs.Try.func62 rfl (by kernel_rfl) (strings_Repeat.ok ([0] : List UInt8) (IntKind.wrap .i64 (v1 - (List.length v0 : Int))) _ hr_t1)) ?_; clear hk; intro a w hk
  obtain ⟨hc1, h⟩ := FW.chk h
  refine FW.lfun (y := .lit (.string (FW.B (v0 ++ t1)))) hk rfl rfl rfl rfl ((FW.f_pure (FW.p_sadd hk.kn (FW.holds_nil _) rfl rfl hc1))) ?_; clear hk; intro a w hk
  refine FW.lfun (y := .lit (.string (FW.B (v0 ++ t1)))) hk rfl rfl rfl rfl (FW.f_assign hk (FW.holds_nil _) rfl) ?_; clear hk; intro a w hk
  refine FW.lend (hK2 _ _ ?_); clear hK2 K'
  refine wp_ret ?_
  (repeat first | refine FW.then_ret ?_ | refine FW.block_ret ?_)
  obtain rfl := Option.some.inj h
  exact FW.fret1 hk rfl rfl

theorem log_Log_body.ok (K : Nat) (v0 : OLogLog) (v0_0 : ODevDev) (v1 : List UInt8) (r : Int × OLogLog × ODevDev) (h : log_Log_body.f K v0 v0_0 v1 = some r) :
    ∀ (b0 : Nat) (b0_0 : Nat) (xd0_0_0 : Option Addr) (xc0_0_0 : Nat) (xr0_0_1 : Nat) (xd0_0_3 : Option Addr) (xc0_0_3 : Nat), FW.OkH Go.Proofs.Try.prog 74 [.lit (.pointer (some ⟨b0, 0, none⟩)), .lit (.string (FW.B v1))] ((OLogLog.items b0 b0_0 v0) ++ (ODevDev.items b0_0 xd0_0_0 xc0_0_0 xr0_0_1 xd0_0_3 xc0_0_3 v0_0)) (fun y I => ∃ (zxd0_0_0 : Option Addr) (zxc0_0_0 : Nat) (zxr0_0_1 : Nat) (zxd0_0_3 : Option Addr) (zxc0_0_3 : Nat), y = .lit (.int .i64 r.1) ∧ I = (OLogLog.items b0 b0_0 r.2.1) ++ (ODevDev.items b0_0 zxd0_0_0 zxc0_0_0 zxr0_0_1 zxd0_0_3 zxc0_0_3 r.2.2)) := by
  intro b0 b0_0 xd0_0_0 xc0_0_0 xr0_0_1 xd0_0_3 xc0_0_3
  refine FW.enterH (xs := [.lit (.pointer (some ⟨b0, 0, none⟩)), .lit (.string (FW.B v1))]) Go.Proofs.Try.func74 rfl Go.Proofs.Try.ntmps74 rfl ?_
  intro M w0 a hk
  replace hk : FW.S M w0 a w0.toWorld 74 [FW.blk b0 127 ([.lit (.pointer (some ⟨b0_0, 0, none⟩)), .lit (.int .i64 v0.from_), .lit (.int .i64 v0.to_), .lit (.int .i64 v0.at_), .lit (.int .u64 v0.next)]), FW.blk b0_0 109 ([.lit (.slice xd0_0_0 (List.length v0_0.sure) xc0_0_0), .lit (.map (some xr0_0_1)), .lit (.int .i64 v0_0.steps), .lit (.slice xd0_0_3 (List.length v0_0.falls) xc0_0_3), .lit (.bool v0_0.off)]), FW.orow xd0_0_0 xc0_0_0 9 1 c_str v0_0.sure, FW.mapI (.int .i64) (Value.int .i64) FW.evS xr0_0_1 v0_0.cache, FW.orow xd0_0_3 xc0_0_3 45 3 ApiFall.cells v0_0.falls] [(0, [], .lit (.pointer (some ⟨b0, 0, none⟩))), (1, [], .lit (.string (FW.B v1)))] := hk
  unfold log_Log_body.f at h
  refine FW.wreg ?_; intro K' hK1
  refine FW.lfun (y := .lit (.int .i64 0)) hk rfl rfl rfl rfl (FW.f_assign hk (FW.holds_nil _) rfl) ?_; clear hk; intro a w hk
  refine FW.lend (hK1 _ _ ?_); clear hK1 K'
  obtain ⟨t1, hr_t1, h⟩ := FW.bnd h
  refine FW.wdraw (by kernel_rfl) (by kernel_rfl) hk ?_; clear hk
  refine FW.dfun (y := .lit (.pointer (some ⟨b0, 0, none⟩))) rfl rfl rfl rfl (fun a w hk => FW.f_move hk (FW.holds_nil _) rfl) ?_
  refine FW.dfun (y := .lit (.pointer (some ⟨b0, 0, none⟩))) rfl rfl rfl rfl (fun a w hk => (FW.f_pure (FW.p_nilCheck hk.kn (FW.holds_nil _) rfl))) ?_
  refine FW.dfun (y := .lit (.pointer (some ⟨b0, 3, none⟩))) rfl rfl rfl rfl (fun a w hk => FW.f_fieldPtr hk (FW.holds_nil _) rfl Go.Proofs.Try.underlying127 rfl (by kernel_rfl) rfl) ?_
  refine FW.dfun (y := .lit (.int .i64 v0.at_)) rfl rfl rfl rfl (fun a w hk => FW.f_loadBlk1 hk (FW.holds_nil _) (j := 0) rfl rfl Go.Proofs.Try.underlying3 rfl rfl) ?_
  refine FW.dfun (y := .lit (.string (FW.B v1))) rfl rfl rfl rfl (fun a w hk => FW.f_move hk (FW.holds_nil _) rfl) ?_
  refine FW.dfun (y := .lit (.int .i64 (List.length v1 : Int))) rfl rfl rfl rfl (fun a w hk => (FW.f_pure (FW.p_slen Go.Proofs.Try.underlying9 hk.kn (FW.holds_nil _) rfl))) ?_
  refine FW.dfun (y := .lit (.int .i64 t1)) rfl rfl rfl rfl (fun a w hk => FW.f_call hk (FW.holds_nil _) rfl rfl Go.Proofs.Try.func45 rfl (by kernel_rfl) (log_Sectors.ok (List.length v1 : Int) _ hr_t1)) ?_
  refine FW.dfun (y := .lit (.int .i64 (IntKind.wrap .i64 (v0.at_ + t1)))) rfl rfl rfl rfl (fun a w hk => (FW.f_pure (FW.p_add hk.kn (FW.holds_nil _) rfl rfl))) ?_
  refine FW.dfun (y := .lit (.int .i64 (IntKind.wrap .i64 (v0.at_ + t1)))) rfl rfl rfl rfl (fun a w hk => FW.f_assign hk (FW.holds_nil _) rfl) ?_
  refine FW.dend ?_; intro a w hk
  refine FW.wreg ?_; intro K' hK3
  refine FW.lfun (y := .lit (.string (FW.B v1))) hk rfl rfl rfl rfl (FW.f_move hk (FW.holds_nil _) rfl) ?_; clear hk; intro a w hk
  refine FW.lfun (y := .lit (.string (FW.B v1))) hk rfl rfl rfl rfl (FW.f_move hk (FW.holds_nil _) rfl) ?_; clear hk; intro a w hk
  refine FW.lfun (y := .lit (.int .i64 (List.length v1 : Int))) hk rfl rfl rfl rfl ((FW.f_pure (FW.p_slen Go.Proofs.Try.underlying9 hk.kn (FW.holds_nil _) rfl))) ?_; clear hk; intro a w hk
  refine FW.lfun (y := .lit (.int .i64 (if 104 < (List.length v1 : Int) then 104 else (List.length v1 : Int)))) hk rfl rfl rfl rfl ((FW.f_pure (FW.p_min hk.kn (FW.holds_nil _) rfl rfl))) ?_; clear hk; intro a w hk
  obtain ⟨hc1, h⟩ := FW.chk h
  refine FW.lfun (y := .lit (.string (FW.B (List.drop (Int.toNat (if 104 < (List.length v1 : Int) then 104 else (List.length v1 : Int))) v1)))) hk rfl rfl rfl rfl ((FW.f_pure (FW.p_slice_lo Go.Proofs.Try.underlying9 hk.kn (FW.holds_nil _) rfl rfl hc1))) ?_; clear hk; intro a w hk
  refine FW.lfun (y := .lit (.string (FW.B (List.drop (Int.toNat (if 104 < (List.length v1 : Int) then 104 else (List.length v1 : Int))) v1)))) hk rfl rfl rfl rfl (FW.f_assign hk (FW.holds_nil _) rfl) ?_; clear hk; intro a w hk
  refine FW.lend (hK3 _ _ ?_); clear hK3 K'
  refine FW.wseq ?_; intro K' hK4
  refine FW.wreg ?_; intro K' hK5
  refine FW.lfun (y := .lit (.pointer (some ⟨b0, 0, none⟩))) hk rfl rfl rfl rfl (FW.f_move hk (FW.holds_nil _) rfl) ?_; clear hk; intro a w hk
  refine FW.lfun (y := .lit (.pointer (some ⟨b0, 0, none⟩))) hk rfl rfl rfl rfl ((FW.f_pure (FW.p_nilCheck hk.kn (FW.holds_nil _) rfl))) ?_; clear hk; intro a w hk
  refine FW.lfun (y := .lit (.pointer (some ⟨b0, 3, none⟩))) hk rfl rfl rfl rfl (FW.f_fieldPtr hk (FW.holds_nil _) rfl Go.Proofs.Try.underlying127 rfl (by kernel_rfl) rfl) ?_; clear hk; intro a w hk
  refine FW.lfun (y := .lit (.int .i64 v0.at_)) hk rfl rfl rfl rfl (FW.f_loadBlk1 hk (FW.holds_nil _) (j := 0) rfl rfl Go.Proofs.Try.underlying3 rfl rfl) ?_; clear hk; intro a w hk
  refine FW.lfun (y := .lit (.int .i64 (IntKind.wrap .i64 (v0.at_ + 1)))) hk rfl rfl rfl rfl ((FW.f_pure (FW.p_add hk.kn (FW.holds_nil _) rfl rfl))) ?_; clear hk; intro a w hk
  refine FW.lfun (y := .lit (.int .i64 (IntKind.wrap .i64 (v0.at_ + 1)))) hk rfl rfl rfl rfl (FW.f_assign hk (FW.holds_nil _) rfl) ?_; clear hk; intro a w hk
  refine FW.lend (hK5 _ _ ?_); clear hK5 K'
  refine wp_block ?_
  refine FW.wloop (T := Nat × Int × Bool × List (List UInt8) × (List (Int × (List UInt8))) × List ApiFall × Int × List UInt8 × Int × Option Addr × Nat × Nat × Option Addr × Nat) (fun x a w => match x with | (kl1, y2_2, y2_4, l3, m4, l5, v5, v6, v7, xd3, xc3, xr4, xd5, xc5) => FW.S M w0 a w 74 [FW.blk b0 127 ([.lit (.pointer (some ⟨b0_0, 0, none⟩)), .lit (.int .i64 v0.from_), .lit (.int .i64 v0.to_), .lit (.int .i64 v0.at_), .lit (.int .u64 v0.next)]), FW.blk b0_0 109 ([.lit (.slice xd3 (List.length l3) xc3), .lit (.map (some xr4)), .lit (.int .i64 y2_2), .lit (.slice xd5 (List.length l5) xc5), .lit (.bool y2_4)]), FW.orow xd3 xc3 9 1 c_str l3, FW.mapI (.int .i64) (Value.int .i64) FW.evS xr4 m4, FW.orow xd5 xc5 45 3 ApiFall.cells l5] [(0, [], .lit (.pointer (some ⟨b0, 0, none⟩))), (5, [], .lit (.int .i64 v5)), (6, [], .lit (.string (FW.B v6))), (7, [], .lit (.int .i64 v7))] ∧ log_Log_body.l1 K v0 kl1 y2_2 y2_4 l3 m4 l5 v5 v6 v7 = some r) (fun x => x.1) (K, v0_0.steps, v0_0.off, v0_0.sure, v0_0.cache, v0_0.falls, (IntKind.wrap .i64 (v0.at_ + t1)), (List.drop (Int.toNat (if 104 < (List.length v1 : Int) then 104 else (List.length v1 : Int))) v1), (IntKind.wrap .i64 (v0.at_ + 1)), xd0_0_0, xc0_0_0, xr0_0_1, xd0_0_3, xc0_0_3) ⟨hk.sub ⟨rfl, rfl, rfl, rfl, trivial⟩, h⟩ ?_
  clear hk h
  rintro ⟨kl1, y2_2, y2_4, l3, m4, l5, v5, v6, v7, xd3, xc3, xr4, xd5, xc5⟩ a w ⟨hk, h⟩ K' hK6
  cases kl1 with
  | zero => simp [log_Log_body.l1] at h
  | succ kl1 =>
  rw [log_Log_body.l1.eq_2] at h
  refine FW.wseq ?_; intro K' hK7
  refine FW.wreg ?_; intro K' hK8
  refine FW.lfun (y := .lit (.int .i64 v7)) hk rfl rfl rfl rfl (FW.f_move hk (FW.holds_nil _) rfl) ?_; clear hk; intro a w hk
  refine FW.lfun (y := .lit (.int .i64 v5)) hk rfl rfl rfl rfl (FW.f_move hk (FW.holds_nil _) rfl) ?_; clear hk; intro a w hk
  refine FW.lfun (y := .lit (.bool (decide (v7 < v5)))) hk rfl rfl rfl rfl ((FW.f_pure (FW.p_lss hk.kn (FW.holds_nil _) rfl rfl))) ?_; clear hk; intro a w hk
  refine FW.lend (hK8 _ _ ?_); clear hK8 K'
  refine FW.wcondF (b := (decide (v7 < v5))) hk h rfl (fun h hb => ?_) (fun h hb => ?_)
  · skip
    refine wp_skip ?_
    (repeat first | refine FW.then_normal ?_ | refine FW.block_normal ?_); refine hK7 _ _ ?_
    refine FW.wseq ?_; intro K' hK9
    refine wp_block ?_
    refine FW.wreg ?_; intro K' hK10
    refine FW.lfun (y := .lit (.string (FW.B v6))) hk rfl rfl rfl rfl (FW.f_move hk (FW.holds_nil _) rfl) ?_; clear hk; intro a w hk
    refine FW.lfun (y := .lit (.int .i64 (List.length v6 : Int))) hk rfl rfl rfl rfl ((FW.f_pure (FW.p_slen Go.Proofs.Try.underlying9 hk.kn (FW.holds_nil _) rfl))) ?_; clear hk; intro a w hk
    refine FW.lfun (y := .lit (.int .i64 (if 128 < (List.length v6 : Int) then 128 else (List.length v6 : Int)))) hk rfl rfl rfl rfl ((FW.f_pure (FW.p_min hk.kn (FW.holds_nil _) rfl rfl))) ?_; clear hk; intro a w hk
    refine FW.lfun (y := .lit (.int .i64 (if 128 < (List.length v6 : Int) then 128 else (List.length v6 : Int)))) hk rfl rfl rfl rfl (FW.f_assign hk (FW.holds_nil _) rfl) ?_; clear hk; intro a w hk
    refine FW.lend (hK10 _ _ ?_); clear hK10 K'
    refine FW.wseq ?_; intro K' hK11
    obtain ⟨hc2, h⟩ := FW.chk h
    obtain ⟨t2, hr_t2, h⟩ := FW.bnd h
    obtain ⟨t3, hr_t3, h⟩ := FW.bnd h
    refine FW.wdrawE (.next [true, true, true, true, true, true, true, true, true, false, false] 9 [true, true, true, true, true, true, true, true, true, false, false] (.leaf [false, false, false, false, false, false, false, false, false, false, true])) [(37, [], .lit (.pointer (some ⟨b0, 0, none⟩))), (38, [], .lit (.pointer (some ⟨b0, 0, none⟩))), (39, [], .lit (.pointer (some ⟨b0, 0, none⟩))), (40, [], .lit (.pointer (some ⟨b0_0, 0, none⟩))), (41, [], .lit (.int .i64 v7)), (42, [], .lit (.string (FW.B v6))), (43, [], .lit (.int .i64 (if 128 < (List.length v6 : Int) then 128 else (List.length v6 : Int)))), (44, [], .lit (.string (FW.B (List.take (Int.toNat (if 128 < (List.length v6 : Int) then 128 else (List.length v6 : Int))) v6)))), (45, [], .lit (.string (FW.B t2))), (46, [], .agg []), (9, [], .agg [])] (by kernel_rfl) (by kernel_rfl) (by kernel_rfl) (by kernel_rfl) hk ?_; clear hk
    refine FW.gnext ?_ rfl rfl rfl rfl rfl ?_
    · skip
      refine FW.gfun (y := .lit (.pointer (some ⟨b0, 0, none⟩))) rfl rfl rfl rfl (fun a w hk => FW.f_move hk (FW.holds_nil _) rfl) ?_
      refine FW.gfun (y := .lit (.pointer (some ⟨b0, 0, none⟩))) rfl rfl rfl rfl (fun a w hk => (FW.f_pure (FW.p_nilCheck hk.kn (FW.holds_nil _) rfl))) ?_
      refine FW.gfun (y := .lit (.pointer (some ⟨b0, 0, none⟩))) rfl rfl rfl rfl (fun a w hk => FW.f_fieldPtr hk (FW.holds_nil _) rfl Go.Proofs.Try.underlying127 rfl (by kernel_rfl) rfl) ?_
      refine FW.gfun (y := .lit (.pointer (some ⟨b0_0, 0, none⟩))) rfl rfl rfl rfl (fun a w hk => FW.f_loadBlk1 hk (FW.holds_nil _) (j := 0) rfl rfl Go.Proofs.Try.underlying46 rfl rfl) ?_
      refine FW.gfun (y := .lit (.int .i64 v7)) rfl rfl rfl rfl (fun a w hk => FW.f_move hk (FW.holds_nil _) rfl) ?_
      refine FW.gfun (y := .lit (.string (FW.B v6))) rfl rfl rfl rfl (fun a w hk => FW.f_move hk (FW.holds_nil _) rfl) ?_
      refine FW.gfun (y := .lit (.int .i64 (if 128 < (List.length v6 : Int) then 128 else (List.length v6 : Int)))) rfl rfl rfl rfl (fun a w hk => FW.f_move hk (FW.holds_nil _) rfl) ?_
      refine FW.gfun (y := .lit (.string (FW.B (List.take (Int.toNat (if 128 < (List.length v6 : Int) then 128 else (List.length v6 : Int))) v6)))) rfl rfl rfl rfl (fun a w hk => (FW.f_pure (FW.p_slice_hi Go.Proofs.Try.underlying9 hk.kn (FW.holds_nil _) rfl rfl hc2))) ?_
      refine FW.gfun (y := .lit (.string (FW.B t2))) rfl rfl rfl rfl (fun a w hk => FW.f_call hk (FW.holds_nil _) rfl rfl Go.Proofs.Try.func96 rfl (by kernel_rfl) (log_pad.ok (List.take (Int.toNat (if 128 < (List.length v6 : Int) then 128 else (List.length v6 : Int))) v6) 128 _ hr_t2)) ?_
      refine FW.gskip rfl rfl ?_
      refine FW.gskip rfl rfl ?_
      exact FW.gend
    · skip
      intro σD a w opsD QD hk hf hQ hX
      refine FW.l_callH (I1 := (ODevDev.items b0_0 xd3 xc3 xr4 xd5 xc5 (⟨l3, m4, y2_2, l5, y2_4⟩ : ODevDev))) (I2 := [FW.blk b0 127 ([.lit (.pointer (some ⟨b0_0, 0, none⟩)), .lit (.int .i64 v0.from_), .lit (.int .i64 v0.to_), .lit (.int .i64 v0.at_), .lit (.int .u64 v0.next)])]) (js := [4, 4, 4, 4]) hk rfl rfl hf rfl rfl Go.Proofs.Try.func29 rfl (by kernel_rfl) (dev_Dev_Write.ok K (⟨l3, m4, y2_2, l5, y2_4⟩ : ODevDev) v7 t2 _ hr_t3 b0_0 xd3 xc3 xr4 xd5 xc5) ?_; clear hk
      rintro _ _ ⟨zd1, zc1, zr1, zd2, zc2, rfl, rfl⟩ a w hk
      refine hQ _ _ a w ?_ hk; clear hk hQ hf hX
      refine ⟨[(37, [], .lit (.pointer (some ⟨b0, 0, none⟩))), (38, [], .lit (.pointer (some ⟨b0, 0, none⟩))), (39, [], .lit (.pointer (some ⟨b0, 0, none⟩))), (40, [], .lit (.pointer (some ⟨b0_0, 0, none⟩))), (41, [], .lit (.int .i64 v7)), (42, [], .lit (.string (FW.B v6))), (43, [], .lit (.int .i64 (if 128 < (List.length v6 : Int) then 128 else (List.length v6 : Int)))), (44, [], .lit (.string (FW.B (List.take (Int.toNat (if 128 < (List.length v6 : Int) then 128 else (List.length v6 : Int))) v6)))), (45, [], .lit (.string (FW.B t2))), (46, [], .lit (.int .i64 t3.1)), (9, [], .lit (.int .i64 t3.1))], And.intro rfl (And.intro rfl (And.intro rfl (And.intro rfl (And.intro rfl (And.intro rfl (And.intro rfl (And.intro rfl (And.intro rfl (trivial))))))))), rfl, ?_⟩
      refine FW.glast ?_ ?_
      · skip
        refine FW.gskip rfl rfl ?_
        refine FW.gskip rfl rfl ?_
        refine FW.gskip rfl rfl ?_
        refine FW.gskip rfl rfl ?_
        refine FW.gskip rfl rfl ?_
        refine FW.gskip rfl rfl ?_
        refine FW.gskip rfl rfl ?_
        refine FW.gskip rfl rfl ?_
        refine FW.gskip rfl rfl ?_
        refine FW.gskip rfl rfl ?_
        refine FW.gfun (y := .lit (.int .i64 t3.1)) rfl rfl rfl rfl (fun a w hk => FW.f_assign hk (FW.holds_nil _) rfl) ?_
        exact FW.gend
      · skip
        intro a w hk; simp only [FW.stD, cond_true] at hk
        refine FW.wreg ?_; intro K' hK13
        refine FW.lfun (y := .lit (.int .i64 t3.1)) hk rfl rfl rfl rfl (FW.f_move hk (FW.holds_nil _) rfl) ?_; clear hk; intro a w hk
        refine FW.lfun (y := .lit (.bool (!decide (t3.1 = 0)))) hk rfl rfl rfl rfl ((FW.f_pure (FW.p_neq hk.kn (FW.holds_nil _) rfl rfl))) ?_; clear hk; intro a w hk
        refine FW.lend (hK13 _ _ ?_); clear hK13 K'
        refine FW.wcondF (b := (!decide (t3.1 = 0))) hk h rfl (fun h hb => ?_) (fun h hb => ?_)
        · skip
          refine FW.wreg ?_; intro K' hK14
          refine FW.lfun (y := .lit (.int .i64 t3.1)) hk rfl rfl rfl rfl (FW.f_move hk (FW.holds_nil _) rfl) ?_; clear hk; intro a w hk
          refine FW.lfun (y := .lit (.int .i64 t3.1)) hk rfl rfl rfl rfl (FW.f_assign hk (FW.holds_nil _) rfl) ?_; clear hk; intro a w hk
          refine FW.lend (hK14 _ _ ?_); clear hK14 K'
          refine wp_ret ?_
          (repeat first | refine FW.then_ret ?_ | refine FW.block_ret ?_)
          obtain rfl := Option.some.inj h
          replace hk := FW.S.keep (I1 := [FW.blk b0 127 ([.lit (.pointer (some ⟨b0_0, 0, none⟩)), .lit (.int .i64 v0.from_), .lit (.int .i64 v0.to_), .lit (.int .i64 v0.at_), .lit (.int .u64 v0.next)]), FW.blk b0_0 109 ([.lit (.slice zd1 (List.length t3.2.sure) zc1), .lit (.map (some zr1)), .lit (.int .i64 t3.2.steps), .lit (.slice zd2 (List.length t3.2.falls) zc2), .lit (.bool t3.2.off)]), FW.orow zd1 zc1 9 1 c_str t3.2.sure, FW.mapI (.int .i64) (Value.int .i64) FW.evS zr1 t3.2.cache, FW.orow zd2 zc2 45 3 ApiFall.cells t3.2.falls]) (I2 := []) (js := [3, 3, 3, 3, 4]) hk rfl
          exact FW.fretH1 hk rfl (FW.rtmp hk rfl) ⟨zd1, zc1, zr1, zd2, zc2, rfl, rfl⟩
        · skip
          refine wp_skip ?_
          (repeat first | refine FW.then_normal ?_ | refine FW.block_normal ?_); refine hK11 _ _ ?_
          refine FW.wreg1 ?_
          refine FW.lfun (y := .lit (.string (FW.B v6))) hk rfl rfl rfl rfl (FW.f_move hk (FW.holds_nil _) rfl) ?_; clear hk; intro a w hk
          refine FW.lfun (y := .lit (.int .i64 (if 128 < (List.length v6 : Int) then 128 else (List.length v6 : Int)))) hk rfl rfl rfl rfl (FW.f_move hk (FW.holds_nil _) rfl) ?_; clear hk; intro a w hk
          obtain ⟨hc3, h⟩ := FW.chk h
          refine FW.lfun (y := .lit (.string (FW.B (List.drop (Int.toNat (if 128 < (List.length v6 : Int) then 128 else (List.length v6 : Int))) v6)))) hk rfl rfl rfl rfl ((FW.f_pure (FW.p_slice_lo Go.Proofs.Try.underlying9 hk.kn (FW.holds_nil _) rfl rfl hc3))) ?_; clear hk; intro a w hk
          refine FW.lfun (y := .lit (.string (FW.B (List.drop (Int.toNat (if 128 < (List.length v6 : Int) then 128 else (List.length v6 : Int))) v6)))) hk rfl rfl rfl rfl (FW.f_assign hk (FW.holds_nil _) rfl) ?_; clear hk; intro a w hk
          refine wpList_nil ?_
          (repeat first | refine FW.then_normal ?_ | refine FW.block_normal ?_); refine hK9 _ _ ?_
          refine FW.wreg1 ?_
          refine FW.lfun (y := .lit (.int .i64 v7)) hk rfl rfl rfl rfl (FW.f_move hk (FW.holds_nil _) rfl) ?_; clear hk; intro a w hk
          refine FW.lfun (y := .lit (.int .i64 (IntKind.wrap .i64 (v7 + 1)))) hk rfl rfl rfl rfl ((FW.f_pure (FW.p_add hk.kn (FW.holds_nil _) rfl rfl))) ?_; clear hk; intro a w hk
          refine FW.lfun (y := .lit (.int .i64 (IntKind.wrap .i64 (v7 + 1)))) hk rfl rfl rfl rfl (FW.f_assign hk (FW.holds_nil _) rfl) ?_; clear hk; intro a w hk
          refine wpList_nil ?_
          (repeat first | refine FW.then_normal ?_ | refine FW.block_normal ?_); exact hK6 (kl1, t3.2.steps, t3.2.off, t3.2.sure, t3.2.cache, t3.2.falls, v5, (List.drop (Int.toNat (if 128 < (List.length v6 : Int) then 128 else (List.length v6 : Int))) v6), (IntKind.wrap .i64 (v7 + 1)), zd1, zc1, zr1, zd2, zc2) _ _ (Nat.lt_succ_self _) ⟨(FW.S.pick hk (js := [3, 3, 3, 3, 4]) rfl).sub ⟨rfl, rfl, rfl, rfl, trivial⟩, h⟩
  · skip
    refine wp_exit ?_; (repeat first | refine FW.then_exit ?_ | refine FW.block_exit_ne rfl ?_); refine FW.block_exit ?_
    (repeat first | refine FW.then_normal ?_ | refine FW.block_normal ?_); refine hK4 _ _ ?_
    refine FW.wseqJ (fun a w => ∃ (y2_2 : Int) (y2_4 : Bool) (l3 : List (List UInt8)) (m4 : List (Int × (List UInt8))) (l5 : List ApiFall) (xd3 : Option Addr) (xc3 : Nat) (xr4 : Nat) (xd5 : Option Addr) (xc5 : Nat), FW.S M w0 a w 74 [FW.blk b0_0 109 ([.lit (.slice xd3 (List.length l3) xc3), .lit (.map (some xr4)), .lit (.int .i64 y2_2), .lit (.slice xd5 (List.length l5) xc5), .lit (.bool y2_4)]), FW.orow xd3 xc3 9 1 c_str l3, FW.mapI (.int .i64) (Value.int .i64) FW.evS xr4 m4, FW.orow xd5 xc5 45 3 ApiFall.cells l5, FW.blk b0 127 ([.lit (.pointer (some ⟨b0_0, 0, none⟩)), .lit (.int .i64 v0.from_), .lit (.int .i64 v0.to_), .lit (.int .i64 v0.at_), .lit (.int .u64 v0.next)])] [(0, [], .lit (.pointer (some ⟨b0, 0, none⟩)))] ∧ log_Log_body.j1 (log_Log_body.l1 K v0 kl1) K v0 y2_2 y2_4 l3 m4 l5 = some r) ?_ ?_
    · clear hk h
      rintro a w ⟨y2_2, y2_4, l3, m4, l5, xd3, xc3, xr4, xd5, xc5, hk, h⟩
      unfold log_Log_body.j1 at h
      refine FW.wreg ?_; intro K' hK18
      refine FW.lfun (y := .lit (.pointer (some ⟨b0, 0, none⟩))) hk rfl rfl rfl rfl (FW.f_move hk (FW.holds_nil _) rfl) ?_; clear hk; intro a w hk
      refine FW.lfun (y := .lit (.pointer (some ⟨b0, 0, none⟩))) hk rfl rfl rfl rfl ((FW.f_pure (FW.p_nilCheck hk.kn (FW.holds_nil _) rfl))) ?_; clear hk; intro a w hk
      refine FW.lfun (y := .lit (.pointer (some ⟨b0, 0, none⟩))) hk rfl rfl rfl rfl (FW.f_fieldPtr hk (FW.holds_nil _) rfl Go.Proofs.Try.underlying127 rfl (by kernel_rfl) rfl) ?_; clear hk; intro a w hk
      refine FW.lfun (y := .lit (.pointer (some ⟨b0_0, 0, none⟩))) hk rfl rfl rfl rfl (FW.f_loadBlk1 hk (FW.holds_nil _) (j := 4) rfl rfl Go.Proofs.Try.underlying46 rfl rfl) ?_; clear hk; intro a w hk
      obtain ⟨t4, hr_t4, h⟩ := FW.bnd h
      refine FW.l_callH (I1 := (ODevDev.items b0_0 xd3 xc3 xr4 xd5 xc5 (⟨l3, m4, y2_2, l5, y2_4⟩ : ODevDev))) (I2 := [FW.blk b0 127 ([.lit (.pointer (some ⟨b0_0, 0, none⟩)), .lit (.int .i64 v0.from_), .lit (.int .i64 v0.to_), .lit (.int .i64 v0.at_), .lit (.int .u64 v0.next)])]) (js := [3, 3, 3, 3]) hk rfl rfl rfl rfl rfl Go.Proofs.Try.func31 rfl (by kernel_rfl) (dev_Dev_Flush.ok K (⟨l3, m4, y2_2, l5, y2_4⟩ : ODevDev) _ hr_t4 b0_0 xd3 xc3 xr4 xd5 xc5) ?_; clear hk
      rintro _ _ ⟨zd3, zc3, zr2, zd4, zc4, rfl, rfl⟩ a w hk
      refine FW.lfun (y := .lit (.int .i64 t4.1)) hk rfl rfl rfl rfl (FW.f_assign hk (FW.holds_nil _) rfl) ?_; clear hk; intro a w hk
      refine FW.lend (hK18 _ _ ?_); clear hK18 K'
      refine wp_ret ?_
      (repeat first | refine FW.then_ret ?_ | refine FW.block_ret ?_)
      obtain rfl := Option.some.inj h
      replace hk := FW.S.keep (I1 := [FW.blk b0 127 ([.lit (.pointer (some ⟨b0_0, 0, none⟩)), .lit (.int .i64 v0.from_), .lit (.int .i64 v0.to_), .lit (.int .i64 v0.at_), .lit (.int .u64 v0.next)]), FW.blk b0_0 109 ([.lit (.slice zd3 (List.length t4.2.sure) zc3), .lit (.map (some zr2)), .lit (.int .i64 t4.2.steps), .lit (.slice zd4 (List.length t4.2.falls) zc4), .lit (.bool t4.2.off)]), FW.orow zd3 zc3 9 1 c_str t4.2.sure, FW.mapI (.int .i64) (Value.int .i64) FW.evS zr2 t4.2.cache, FW.orow zd4 zc4 45 3 ApiFall.cells t4.2.falls]) (I2 := []) (js := [3, 3, 3, 3, 4]) hk rfl
      exact FW.fretH1 hk rfl (FW.rtmp hk rfl) ⟨zd3, zc3, zr2, zd4, zc4, rfl, rfl⟩
    · intro K' hK17
      refine FW.wreg ?_; intro K' hK19
      refine FW.lfun (y := .lit (.int .i64 v5)) hk rfl rfl rfl rfl (FW.f_move hk (FW.holds_nil _) rfl) ?_; clear hk; intro a w hk
      refine FW.lfun (y := .lit (.pointer (some ⟨b0, 0, none⟩))) hk rfl rfl rfl rfl (FW.f_move hk (FW.holds_nil _) rfl) ?_; clear hk; intro a w hk
      refine FW.lfun (y := .lit (.pointer (some ⟨b0, 0, none⟩))) hk rfl rfl rfl rfl ((FW.f_pure (FW.p_nilCheck hk.kn (FW.holds_nil _) rfl))) ?_; clear hk; intro a w hk
      refine FW.lfun (y := .lit (.pointer (some ⟨b0, 2, none⟩))) hk rfl rfl rfl rfl (FW.f_fieldPtr hk (FW.holds_nil _) rfl Go.Proofs.Try.underlying127 rfl (by kernel_rfl) rfl) ?_; clear hk; intro a w hk
      refine FW.lfun (y := .lit (.int .i64 v0.to_)) hk rfl rfl rfl rfl (FW.f_loadBlk1 hk (FW.holds_nil _) (j := 0) rfl rfl Go.Proofs.Try.underlying3 rfl rfl) ?_; clear hk; intro a w hk
      refine FW.lfun (y := .lit (.bool (decide (v5 < v0.to_)))) hk rfl rfl rfl rfl ((FW.f_pure (FW.p_lss hk.kn (FW.holds_nil _) rfl rfl))) ?_; clear hk; intro a w hk
      refine FW.lend (hK19 _ _ ?_); clear hK19 K'
      refine FW.wcondF (b := (decide (v5 < v0.to_))) hk h rfl (fun h hb => ?_) (fun h hb => ?_)
      · skip
        obtain ⟨t5, hr_t5, h⟩ := FW.bnd h
        obtain ⟨t6, hr_t6, h⟩ := FW.bnd h
        refine FW.wdrawE (.next [true, true, true, true, true, true, false, false] 6 [true, true, true, true, true, true, false, false] (.leaf [false, false, false, false, false, false, false, true])) [(59, [], .lit (.pointer (some ⟨b0, 0, none⟩))), (60, [], .lit (.pointer (some ⟨b0, 0, none⟩))), (61, [], .lit (.pointer (some ⟨b0, 0, none⟩))), (62, [], .lit (.pointer (some ⟨b0_0, 0, none⟩))), (63, [], .lit (.int .i64 v5)), (64, [], .lit (.string (FW.B t5))), (65, [], .agg []), (10, [], .agg [])] (by kernel_rfl) (by kernel_rfl) (by kernel_rfl) (by kernel_rfl) hk ?_; clear hk
        refine FW.gnext ?_ rfl rfl rfl rfl rfl ?_
        · skip
          refine FW.gfun (y := .lit (.pointer (some ⟨b0, 0, none⟩))) rfl rfl rfl rfl (fun a w hk => FW.f_move hk (FW.holds_nil _) rfl) ?_
          refine FW.gfun (y := .lit (.pointer (some ⟨b0, 0, none⟩))) rfl rfl rfl rfl (fun a w hk => (FW.f_pure (FW.p_nilCheck hk.kn (FW.holds_nil _) rfl))) ?_
          refine FW.gfun (y := .lit (.pointer (some ⟨b0, 0, none⟩))) rfl rfl rfl rfl (fun a w hk => FW.f_fieldPtr hk (FW.holds_nil _) rfl Go.Proofs.Try.underlying127 rfl (by kernel_rfl) rfl) ?_
          refine FW.gfun (y := .lit (.pointer (some ⟨b0_0, 0, none⟩))) rfl rfl rfl rfl (fun a w hk => FW.f_loadBlk1 hk (FW.holds_nil _) (j := 0) rfl rfl Go.Proofs.Try.underlying46 rfl rfl) ?_
          refine FW.gfun (y := .lit (.int .i64 v5)) rfl rfl rfl rfl (fun a w hk => FW.f_move hk (FW.holds_nil _) rfl) ?_
          refine FW.gfun (y := .lit (.string (FW.B t5))) rfl rfl rfl rfl (fun a w hk => FW.f_call hk (FW.holds_nil _) rfl rfl Go.Proofs.Try.func96 rfl (by kernel_rfl) (log_pad.ok ([] : List UInt8) 128 _ hr_t5)) ?_
          refine FW.gskip rfl rfl ?_
          refine FW.gskip rfl rfl ?_
          exact FW.gend
        · skip
          intro σD a w opsD QD hk hf hQ hX
          refine FW.l_callH (I1 := (ODevDev.items b0_0 xd3 xc3 xr4 xd5 xc5 (⟨l3, m4, y2_2, l5, y2_4⟩ : ODevDev))) (I2 := [FW.blk b0 127 ([.lit (.pointer (some ⟨b0_0, 0, none⟩)), .lit (.int .i64 v0.from_), .lit (.int .i64 v0.to_), .lit (.int .i64 v0.at_), .lit (.int .u64 v0.next)])]) (js := [4, 4, 4, 4]) hk rfl rfl hf rfl rfl Go.Proofs.Try.func29 rfl (by kernel_rfl) (dev_Dev_Write.ok K (⟨l3, m4, y2_2, l5, y2_4⟩ : ODevDev) v5 t5 _ hr_t6 b0_0 xd3 xc3 xr4 xd5 xc5) ?_; clear hk
          rintro _ _ ⟨zd5, zc5, zr3, zd6, zc6, rfl, rfl⟩ a w hk
          refine hQ _ _ a w ?_ hk; clear hk hQ hf hX
          refine ⟨[(59, [], .lit (.pointer (some ⟨b0, 0, none⟩))), (60, [], .lit (.pointer (some ⟨b0, 0, none⟩))), (61, [], .lit (.pointer (some ⟨b0, 0, none⟩))), (62, [], .lit (.pointer (some ⟨b0_0, 0, none⟩))), (63, [], .lit (.int .i64 v5)), (64, [], .lit (.string (FW.B t5))), (65, [], .lit (.int .i64 t6.1)), (10, [], .lit (.int .i64 t6.1))], And.intro rfl (And.intro rfl (And.intro rfl (And.intro rfl (And.intro rfl (And.intro rfl (trivial)))))), rfl, ?_⟩
          refine FW.glast ?_ ?_
          · skip
            refine FW.gskip rfl rfl ?_
            refine FW.gskip rfl rfl ?_
            refine FW.gskip rfl rfl ?_
            refine FW.gskip rfl rfl ?_
            refine FW.gskip rfl rfl ?_
            refine FW.gskip rfl rfl ?_
            refine FW.gskip rfl rfl ?_
            refine FW.gfun (y := .lit (.int .i64 t6.1)) rfl rfl rfl rfl (fun a w hk => FW.f_assign hk (FW.holds_nil _) rfl) ?_
            exact FW.gend
          · skip
            intro a w hk; simp only [FW.stD, cond_true] at hk
            refine FW.wreg ?_; intro K' hK21
            refine FW.lfun (y := .lit (.int .i64 t6.1)) hk rfl rfl rfl rfl (FW.f_move hk (FW.holds_nil _) rfl) ?_; clear hk; intro a w hk
            refine FW.lfun (y := .lit (.bool (!decide (t6.1 = 0)))) hk rfl rfl rfl rfl ((FW.f_pure (FW.p_neq hk.kn (FW.holds_nil _) rfl rfl))) ?_; clear hk; intro a w hk
            refine FW.lend (hK21 _ _ ?_); clear hK21 K'
            refine FW.wcondF (b := (!decide (t6.1 = 0))) hk h rfl (fun h hb => ?_) (fun h hb => ?_)
            · skip
              refine FW.wreg ?_; intro K' hK22
              refine FW.lfun (y := .lit (.int .i64 t6.1)) hk rfl rfl rfl rfl (FW.f_move hk (FW.holds_nil _) rfl) ?_; clear hk; intro a w hk
              refine FW.lfun (y := .lit (.int .i64 t6.1)) hk rfl rfl rfl rfl (FW.f_assign hk (FW.holds_nil _) rfl) ?_; clear hk; intro a w hk
              refine FW.lend (hK22 _ _ ?_); clear hK22 K'
              refine wp_ret ?_
              (repeat first | refine FW.then_ret ?_ | refine FW.block_ret ?_)
              obtain rfl := Option.some.inj h
              replace hk := FW.S.keep (I1 := [FW.blk b0 127 ([.lit (.pointer (some ⟨b0_0, 0, none⟩)), .lit (.int .i64 v0.from_), .lit (.int .i64 v0.to_), .lit (.int .i64 v0.at_), .lit (.int .u64 v0.next)]), FW.blk b0_0 109 ([.lit (.slice zd5 (List.length t6.2.sure) zc5), .lit (.map (some zr3)), .lit (.int .i64 t6.2.steps), .lit (.slice zd6 (List.length t6.2.falls) zc6), .lit (.bool t6.2.off)]), FW.orow zd5 zc5 9 1 c_str t6.2.sure, FW.mapI (.int .i64) (Value.int .i64) FW.evS zr3 t6.2.cache, FW.orow zd6 zc6 45 3 ApiFall.cells t6.2.falls]) (I2 := []) (js := [3, 3, 3, 3, 4]) hk rfl
              exact FW.fretH1 hk rfl (FW.rtmp hk rfl) ⟨zd5, zc5, zr3, zd6, zc6, rfl, rfl⟩
            · skip
              refine wp_skip ?_
              (repeat first | refine FW.then_normal ?_ | refine FW.block_normal ?_); exact hK17 _ _ ⟨t6.2.steps, t6.2.off, t6.2.sure, t6.2.cache, t6.2.falls, zd5, zc5, zr3, zd6, zc6, hk.sub ⟨rfl, trivial⟩, h⟩
      · skip
        refine wp_skip ?_
        (repeat first | refine FW.then_normal ?_ | refine FW.block_normal ?_); exact hK17 _ _ ⟨y2_2, y2_4, l3, m4, l5, xd3, xc3, xr4, xd5, xc5, (FW.S.pick hk (js := [0, 4, 4, 4, 4]) rfl).sub ⟨rfl, trivial⟩, h⟩
end Go.Proofs.Ytimaibcaehagjaa

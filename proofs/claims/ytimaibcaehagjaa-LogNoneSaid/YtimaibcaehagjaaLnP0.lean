/- Written by a program of this session (gen.py): the contracts of functions of the program. -/
import Derived.KernelRfl
import Derived.Test.YtimaibcaehagjaaProg
import Derived.Test.YtimaibcaehagjaaAvFun
import Derived.Test.YtimaibcaehagjaaAvMan
import Derived.Test.YtimaibcaehagjaaAvMore
import Derived.Test.YtimaibcaehagjaaAvDraw2
import Derived.Test.YtimaibcaehagjaaAvRow
import Derived.Test.YtimaibcaehagjaaHn
import Derived.Test.YtimaibcaehagjaaDvP0
import Derived.Test.YtimaibcaehagjaaFl2
import Derived.Test.YtimaibcaehagjaaHg
import Derived.Test.YtimaibcaehagjaaHar
import Derived.Test.YtimaibcaehagjaaLgP1
import Derived.Test.YtimaibcaehagjaaLsP0
import Derived.Test.YtimaibcaehagjaaLnD
namespace Go.Proofs.Ytimaibcaehagjaa
set_option linter.unusedVariables false
set_option maxRecDepth 20000
set_option maxHeartbeats 10000000
theorem log_Log_Reset_nil.ok   (r : Unit) (h : log_Log_Reset_nil.f = some r) :
    FW.Ok Go.Proofs.Try.prog 48 [.lit (.pointer none)] (.tup []) := by
  refine FW.enter (xs := [.lit (.pointer none)]) Go.Proofs.Try.func48 rfl Go.Proofs.Try.ntmps48 rfl ?_
  intro M w0 a hk
  unfold log_Log_Reset_nil.f at h
  refine FW.wreg ?_; intro K' hK1
  refine FW.lfun (y := .lit (.pointer none)) hk rfl rfl rfl rfl (FW.f_move hk (FW.holds_nil _) rfl) ?_; clear hk; intro a w hk
  refine FW.lfun (y := .lit (.bool false)) hk rfl rfl rfl rfl ((FW.f_pure (FW.p_ptrNe Go.Proofs.Try.underlying79 hk.kn (FW.holds_nil _) rfl rfl rfl))) ?_; clear hk; intro a w hk
  refine FW.lend (hK1 _ _ ?_); clear hK1 K'
  refine FW.wcondX hk rfl ?_
  refine wp_skip ?_
  (repeat first | refine FW.then_normal ?_ | refine FW.block_normal ?_)
  refine FW.fnorm ?_
  obtain rfl := Option.some.inj h
  exact FW.fret0 hk rfl

theorem log_Open_opt.ok (K : Nat) (v0 : ODevDev) (v1 : Int) (v2 : Int) (v3 : Int) (r : Option OLogLog × List (List UInt8) × Int × ODevDev) (h : log_Open_opt.f K v0 v1 v2 v3 = some r) :
    ∀ (b0 : Nat) (xd0_0 : Option Addr) (xc0_0 : Nat) (xr0_1 : Nat), FW.OkH Go.Proofs.Try.prog 47 [.lit (.pointer (some ⟨b0, 0, none⟩)), .lit (.int .i64 v1), .lit (.int .i64 v2), .lit (.int .u64 v3)] (ODevDev.items b0 xd0_0 xc0_0 xr0_1 v0) (fun y I => ∃ (bn0 : Nat) (zxd0_0 : Option Addr) (zxc0_0 : Nat) (zxr0_1 : Nat), y = .tup [FW.ptrO r.1 bn0, .row (r_c_str r.2.1), .lit (.int .i64 r.2.2.1)] ∧ I = (FW.optI r.1 fun x => OLogLog.items bn0 b0 x) ++ (ODevDev.items b0 zxd0_0 zxc0_0 zxr0_1 r.2.2.2)) := by
  intro b0 xd0_0 xc0_0 xr0_1
  refine FW.enterH (xs := [.lit (.pointer (some ⟨b0, 0, none⟩)), .lit (.int .i64 v1), .lit (.int .i64 v2), .lit (.int .u64 v3)]) Go.Proofs.Try.func47 rfl Go.Proofs.Try.ntmps47 rfl ?_
  intro M w0 a hk
  replace hk : FW.S M w0 a w0.toWorld 75 [FW.blk b0 109 ([.lit (.slice xd0_0 (List.length v0.sure) xc0_0)] ++ [.lit (.map (some xr0_1))] ++ [.lit (.int .i64 v0.steps)] ++ [.lit (.slice none 0 0)] ++ [.lit (.bool v0.off)]), FW.orow xd0_0 xc0_0 9 1 c_str v0.sure, FW.mapI (.int .i64) (Value.int .i64) FW.evS xr0_1 v0.cache] [(0, [], .lit (.pointer (some ⟨b0, 0, none⟩))), (1, [], .lit (.int .i64 v1)), (2, [], .lit (.int .i64 v2)), (3, [], .lit (.int .u64 v3))] := hk
  unfold log_Open_opt.f at h
  refine FW.wreg ?_; intro K' hK1
  refine FW.lfun (y := .lit (.pointer none)) hk rfl rfl rfl rfl (FW.f_assign hk (FW.holds_nil _) rfl) ?_; clear hk; intro a w hk
  refine FW.lfun (y := .row (r_c_str [])) hk rfl rfl rfl rfl (FW.f_assignNil) ?_; clear hk; intro a w hk
  refine FW.lfun (y := .lit (.int .i64 0)) hk rfl rfl rfl rfl (FW.f_assign hk (FW.holds_nil _) rfl) ?_; clear hk; intro a w hk
  refine FW.lend (hK1 _ _ ?_); clear hK1 K'
  refine FW.wseq ?_; intro K' hK2
  refine FW.wreg ?_; intro K' hK3
  refine FW.lfun (y := .lit (.pointer (some ⟨b0, 0, none⟩))) hk rfl rfl rfl rfl (FW.f_move hk (FW.holds_nil _) rfl) ?_; clear hk; intro a w hk
  refine FW.lfun (y := .lit (.bool false)) hk rfl rfl rfl rfl ((FW.f_pure (FW.p_ptrEq Go.Proofs.Try.underlying46 hk.kn (FW.holds_nil _) rfl rfl rfl))) ?_; clear hk; intro a w hk
  refine FW.lfun (y := .lit (.bool false)) hk rfl rfl rfl rfl (FW.f_move hk (FW.holds_nil _) rfl) ?_; clear hk; intro a w hk
  refine FW.lfunG (y := .lit (.int .i64 v1)) hk rfl rfl rfl rfl rfl rfl rfl rfl (fun hc => FW.f_move hk hc rfl) ?_; clear hk; intro a w hk
  refine FW.lfunG (y := .lit (.bool (decide (v1 < 0)))) hk rfl rfl rfl rfl rfl rfl rfl rfl (fun hc => (FW.f_pure (FW.p_lss hk.kn hc rfl rfl))) ?_; clear hk; intro a w hk
  refine FW.lfun (y := .lit (.bool (decide (v1 < 0)))) hk rfl rfl rfl rfl ((FW.f_pure (FW.p_pickX hk.kn (FW.holds_nil _) rfl rfl))) ?_; clear hk; intro a w hk
  refine FW.lfun (y := .lit (.bool (decide (v1 < 0)))) hk rfl rfl rfl rfl (FW.f_move hk (FW.holds_nil _) rfl) ?_; clear hk; intro a w hk
  refine FW.lfunG (y := .lit (.int .i64 v2)) hk rfl rfl rfl rfl rfl rfl rfl rfl (fun hc => FW.f_move hk hc rfl) ?_; clear hk; intro a w hk
  refine FW.lfunG (y := .lit (.int .i64 v1)) hk rfl rfl rfl rfl rfl rfl rfl rfl (fun hc => FW.f_move hk hc rfl) ?_; clear hk; intro a w hk
  refine FW.lfunG (y := .lit (.bool (decide (v2 < v1)))) hk rfl rfl rfl rfl rfl rfl rfl rfl (fun hc => (FW.f_pure (FW.p_lss hk.kn hc rfl rfl))) ?_; clear hk; intro a w hk
  refine FW.lfun (y := .lit (.bool ((decide (v1 < 0)) || (decide (v2 < v1))))) hk rfl rfl rfl rfl ((FW.f_pure (FW.p_pick_or hk.kn (FW.holds_nil _) rfl rfl))) ?_; clear hk; intro a w hk
  refine FW.lfun (y := .lit (.bool ((decide (v1 < 0)) || (decide (v2 < v1))))) hk rfl rfl rfl rfl (FW.f_move hk (FW.holds_nil _) rfl) ?_; clear hk; intro a w hk
  refine FW.lfunG (y := .lit (.int .i64 v2)) hk rfl rfl rfl rfl rfl rfl rfl rfl (fun hc => FW.f_move hk hc rfl) ?_; clear hk; intro a w hk
  refine FW.lfunG (y := .lit (.pointer (some ⟨b0, 0, none⟩))) hk rfl rfl rfl rfl rfl rfl rfl rfl (fun hc => FW.f_move hk hc rfl) ?_; clear hk; intro a w hk
  obtain ⟨t1, hr_t1, hn_t1, h⟩ := FW.bndG2 h
  refine FW.l_callHG (I1 := (ODevDev.items b0 xd0_0 xc0_0 xr0_1 v0)) (I2 := []) (js := [2, 2, 2]) hk rfl rfl rfl rfl rfl rfl rfl rfl rfl Go.Proofs.Try.func42 rfl (by kernel_rfl) (fun hc => dev_Dev_Len.ok v0 _ (hr_t1 (FW.asm_out (p := ((decide (v1 < 0)) || (decide (v2 < v1))) = false) hk.kn hc (fun e0 => e0))) b0 xd0_0 xc0_0 xr0_1) (fun hn => by obtain rfl := hn_t1 (fun hp => hn (FW.asm_in hk.kn (by have e0 := hp; exact ⟨e0, rfl, trivial⟩))); exact ⟨_, xd0_0, xc0_0, xr0_1, rfl, rfl⟩) ?_; clear hk
  rintro _ _ ⟨zd1, zc1, zr1, rfl, rfl⟩ a w hk
  refine FW.lfunG (y := .lit (.bool (decide (t1.1 < v2)))) hk rfl rfl rfl rfl rfl rfl rfl rfl (fun hc => (FW.f_pure (FW.p_gtr hk.kn hc rfl rfl))) ?_; clear hk; intro a w hk
  refine FW.lfun (y := .lit (.bool (((decide (v1 < 0)) || (decide (v2 < v1))) || (decide (t1.1 < v2))))) hk rfl rfl rfl rfl ((FW.f_pure (FW.p_pick_or hk.kn (FW.holds_nil _) rfl rfl))) ?_; clear hk; intro a w hk
  refine FW.lfun (y := .lit (.bool (((decide (v1 < 0)) || (decide (v2 < v1))) || (decide (t1.1 < v2))))) hk rfl rfl rfl rfl (FW.f_move hk (FW.holds_nil _) rfl) ?_; clear hk; intro a w hk
  refine FW.lfunG (y := .lit (.int .u64 v3)) hk rfl rfl rfl rfl rfl rfl rfl rfl (fun hc => FW.f_move hk hc rfl) ?_; clear hk; intro a w hk
  refine FW.lfunG (y := .lit (.bool (decide (v3 = 0)))) hk rfl rfl rfl rfl rfl rfl rfl rfl (fun hc => (FW.f_pure (FW.p_eql hk.kn hc rfl rfl))) ?_; clear hk; intro a w hk
  refine FW.lfun (y := .lit (.bool ((((decide (v1 < 0)) || (decide (v2 < v1))) || (decide (t1.1 < v2))) || (decide (v3 = 0))))) hk rfl rfl rfl rfl ((FW.f_pure (FW.p_pick_or hk.kn (FW.holds_nil _) rfl rfl))) ?_; clear hk; intro a w hk
  refine FW.lend (hK3 _ _ ?_); clear hK3 K'
  refine FW.wcondF (b := ((((decide (v1 < 0)) || (decide (v2 < v1))) || (decide (t1.1 < v2))) || (decide (v3 = 0)))) hk h rfl (fun h hb => ?_) (fun h hb => ?_)
  · skip
    refine FW.wreg ?_; intro K' hK4
    refine FW.lfun (y := .lit (.pointer none)) hk rfl rfl rfl rfl (FW.f_assign hk (FW.holds_nil _) rfl) ?_; clear hk; intro a w hk
    refine FW.lfun (y := .row (r_c_str [])) hk rfl rfl rfl rfl (FW.f_assignNil) ?_; clear hk; intro a w hk
    refine FW.lfun (y := .lit (.int .i64 1)) hk rfl rfl rfl rfl (FW.f_assign hk (FW.holds_nil _) rfl) ?_; clear hk; intro a w hk
    refine FW.lend (hK4 _ _ ?_); clear hK4 K'
    refine wp_ret ?_
    (repeat first | refine FW.then_ret ?_ | refine FW.block_ret ?_)
    obtain rfl := Option.some.inj h
    replace hk := FW.S.keep (I1 := [FW.blk b0 109 ([.lit (.slice zd1 (List.length t1.2.sure) zc1)] ++ [.lit (.map (some zr1))] ++ [.lit (.int .i64 t1.2.steps)] ++ [.lit (.slice none 0 0)] ++ [.lit (.bool t1.2.off)]), FW.orow zd1 zc1 9 1 c_str t1.2.sure, FW.mapI (.int .i64) (Value.int .i64) FW.evS zr1 t1.2.cache]) (I2 := []) (js := [2, 2, 2]) hk rfl
    exact FW.fretH3 hk rfl (FW.rtmp hk rfl) (FW.rtmp hk rfl) (FW.rtmp hk rfl) ⟨0, zd1, zc1, zr1, rfl, rfl⟩
  · skip
    refine wp_skip ?_
    (repeat first | refine FW.then_normal ?_ | refine FW.block_normal ?_); refine hK2 _ _ ?_
    refine FW.wseq ?_; intro K' hK5
    refine FW.wreg ?_; intro K' hK6
    refine FW.lfun (y := .lit (.pointer (some ⟨b0, 0, none⟩))) hk rfl rfl rfl rfl (FW.f_move hk (FW.holds_nil _) rfl) ?_; clear hk; intro a w hk
    obtain ⟨t2, hr_t2, h⟩ := FW.bnd h
    refine FW.l_callH (I1 := (ODevDev.items b0 zd1 zc1 zr1 t1.2)) (I2 := []) (js := [2, 2, 2]) hk rfl rfl rfl rfl rfl Go.Proofs.Try.func41 rfl (by kernel_rfl) (dev_Dev_Off.ok t1.2 _ hr_t2 b0 zd1 zc1 zr1) ?_; clear hk
    rintro _ _ ⟨zd2, zc2, zr2, rfl, rfl⟩ a w hk
    refine FW.lend (hK6 _ _ ?_); clear hK6 K'
    refine FW.wcondF (b := t2.1) hk h rfl (fun h hb => ?_) (fun h hb => ?_)
    · skip
      refine FW.wreg ?_; intro K' hK7
      refine FW.lfun (y := .lit (.pointer none)) hk rfl rfl rfl rfl (FW.f_assign hk (FW.holds_nil _) rfl) ?_; clear hk; intro a w hk
      refine FW.lfun (y := .row (r_c_str [])) hk rfl rfl rfl rfl (FW.f_assignNil) ?_; clear hk; intro a w hk
      refine FW.lfun (y := .lit (.int .i64 7)) hk rfl rfl rfl rfl (FW.f_assign hk (FW.holds_nil _) rfl) ?_; clear hk; intro a w hk
      refine FW.lend (hK7 _ _ ?_); clear hK7 K'
      refine wp_ret ?_
      (repeat first | refine FW.then_ret ?_ | refine FW.block_ret ?_)
      obtain rfl := Option.some.inj h
      replace hk := FW.S.keep (I1 := [FW.blk b0 109 ([.lit (.slice zd2 (List.length t2.2.sure) zc2)] ++ [.lit (.map (some zr2))] ++ [.lit (.int .i64 t2.2.steps)] ++ [.lit (.slice none 0 0)] ++ [.lit (.bool t2.2.off)]), FW.orow zd2 zc2 9 1 c_str t2.2.sure, FW.mapI (.int .i64) (Value.int .i64) FW.evS zr2 t2.2.cache]) (I2 := []) (js := [2, 2, 2]) hk rfl
      exact FW.fretH3 hk rfl (FW.rtmp hk rfl) (FW.rtmp hk rfl) (FW.rtmp hk rfl) ⟨0, zd2, zc2, zr2, rfl, rfl⟩
    · skip
      refine wp_skip ?_
      (repeat first | refine FW.then_normal ?_ | refine FW.block_normal ?_); refine hK5 _ _ ?_
      refine FW.wreg ?_; intro K' hK8
      refine FW.lfun (y := .lit (.pointer (some ⟨b0, 0, none⟩))) hk rfl rfl rfl rfl (FW.f_move hk (FW.holds_nil _) rfl) ?_; clear hk; intro a w hk
      refine FW.lfun (y := .lit (.int .i64 v1)) hk rfl rfl rfl rfl (FW.f_move hk (FW.holds_nil _) rfl) ?_; clear hk; intro a w hk
      refine FW.lfun (y := .lit (.int .i64 v2)) hk rfl rfl rfl rfl (FW.f_move hk (FW.holds_nil _) rfl) ?_; clear hk; intro a w hk
      refine FW.lfun (y := .lit (.int .i64 v1)) hk rfl rfl rfl rfl (FW.f_move hk (FW.holds_nil _) rfl) ?_; clear hk; intro a w hk
      refine FW.lfun (y := .lit (.int .u64 v3)) hk rfl rfl rfl rfl (FW.f_move hk (FW.holds_nil _) rfl) ?_; clear hk; intro a w hk
      refine FW.lfun (y := .agg ([.lit (.pointer (some ⟨b0, 0, none⟩))] ++ [.lit (.int .i64 v1)] ++ [.lit (.int .i64 v2)] ++ [.lit (.int .i64 v1)] ++ [.lit (.int .u64 v3)])) hk rfl rfl rfl rfl (FW.f_buildN [] hk (FW.holds_nil _) rfl rfl rfl) ?_; clear hk; intro a w hk
      refine FW.l_box (cs := [.lit (.pointer (some ⟨b0, 0, none⟩))] ++ [.lit (.int .i64 v1)] ++ [.lit (.int .i64 v2)] ++ [.lit (.int .i64 v1)] ++ [.lit (.int .u64 v3)]) hk rfl rfl rfl rfl rfl ?_; clear hk; intro b1 a w hk
      refine FW.lfun (y := .lit (.pointer (some ⟨b1, 0, none⟩))) hk rfl rfl rfl rfl (FW.f_assign hk (FW.holds_nil _) rfl) ?_; clear hk; intro a w hk
      refine FW.lend (hK8 _ _ ?_); clear hK8 K'
      refine FW.wreg ?_; intro K' hK9
      refine FW.lfun (y := .lit (.slice none 0 0)) hk rfl rfl rfl rfl (FW.f_assign hk (FW.holds_nil _) rfl) ?_; clear hk; intro a w hk
      replace hk := hk.nilRow 9 1 c_str (fun _ => rfl)
      refine FW.lend (hK9 _ _ ?_); clear hK9 K'
      refine wp_block ?_
      refine FW.wloop (T := Nat × List (List UInt8) × Int × Int × Int × Int × Int × Bool × List (List UInt8) × (List (Int × (List UInt8))) × Option Addr × Nat × Option Addr × Nat × Nat) (fun x a w => match x with | (kl1, l5, y4_1, y4_2, y4_3, y4_4, y1_2, y1_4, l2, m3, xd5, xc5, xd2, xc2, xr3) => FW.S M w0 a w 75 [FW.orow xd5 xc5 9 1 c_str l5, FW.blk b1 127 ([.lit (.pointer (some ⟨b0, 0, none⟩))] ++ [.lit (.int .i64 y4_1)] ++ [.lit (.int .i64 y4_2)] ++ [.lit (.int .i64 y4_3)] ++ [.lit (.int .u64 y4_4)]), FW.blk b0 109 ([.lit (.slice xd2 (List.length l2) xc2)] ++ [.lit (.map (some xr3))] ++ [.lit (.int .i64 y1_2)] ++ [.lit (.slice none 0 0)] ++ [.lit (.bool y1_4)]), FW.orow xd2 xc2 9 1 c_str l2, FW.mapI (.int .i64) (Value.int .i64) FW.evS xr3 m3] [(11, [], .lit (.pointer (some ⟨b1, 0, none⟩))), (12, [], .lit (.slice xd5 (List.length l5) xc5))] ∧ log_Open_opt.l1 K kl1 l5 y4_1 y4_2 y4_3 y4_4 y1_2 y1_4 l2 m3 = some r) (fun x => x.1) (K, ([] : List (List UInt8)), v1, v2, v1, v3, t2.2.steps, t2.2.off, t2.2.sure, t2.2.cache, none, 0, zd2, zc2, zr2) ⟨hk.sub ⟨rfl, rfl, trivial⟩, h⟩ ?_
      clear hk h
      rintro ⟨kl1, l5, y4_1, y4_2, y4_3, y4_4, y1_2, y1_4, l2, m3, xd5, xc5, xd2, xc2, xr3⟩ a w ⟨hk, h⟩ K' hK10
      cases kl1 with
      | zero => simp [log_Open_opt.l1] at h
      | succ kl1 =>
      rw [log_Open_opt.l1.eq_2] at h
      refine wp_block ?_
      refine FW.wreg ?_; intro K' hK11
      refine FW.lfun (y := .lit (.pointer (some ⟨b1, 0, none⟩))) hk rfl rfl rfl rfl (FW.f_move hk (FW.holds_nil _) rfl) ?_; clear hk; intro a w hk
      obtain ⟨t3, hr_t3, h⟩ := FW.bnd h
      refine FW.l_callH (I1 := (OLogLog.items b1 b0 (⟨y4_1, y4_2, y4_3, y4_4⟩ : OLogLog)) ++ (ODevDev.items b0 xd2 xc2 xr3 (⟨l2, m3, y1_2, y1_4⟩ : ODevDev))) (I2 := [FW.orow xd5 xc5 9 1 c_str l5]) (js := [4, 4, 4, 4]) hk rfl rfl rfl rfl rfl Go.Proofs.Try.func73 rfl (by kernel_rfl) (log_Log_read.ok K (⟨y4_1, y4_2, y4_3, y4_4⟩ : OLogLog) (⟨l2, m3, y1_2, y1_4⟩ : ODevDev) _ hr_t3 b1 b0 xd2 xc2 xr3) ?_; clear hk
      rintro _ _ ⟨zd3, zc3, zr3, rfl, rfl⟩ a w hk
      refine FW.lfun (y := .tup [.lit (.string (FW.B t3.1)), .lit (.bool t3.2.1)]) hk rfl rfl rfl rfl (FW.f_move hk (FW.holds_nil _) rfl) ?_; clear hk; intro a w hk
      refine FW.lfun (y := .lit (.string (FW.B t3.1))) hk rfl rfl rfl rfl (FW.f_extract hk (FW.holds_nil _) rfl rfl) ?_; clear hk; intro a w hk
      refine FW.lfun (y := .lit (.bool t3.2.1)) hk rfl rfl rfl rfl (FW.f_extract hk (FW.holds_nil _) rfl rfl) ?_; clear hk; intro a w hk
      refine FW.lfun (y := .lit (.string (FW.B t3.1))) hk rfl rfl rfl rfl (FW.f_assign hk (FW.holds_nil _) rfl) ?_; clear hk; intro a w hk
      refine FW.lfun (y := .lit (.bool t3.2.1)) hk rfl rfl rfl rfl (FW.f_assign hk (FW.holds_nil _) rfl) ?_; clear hk; intro a w hk
      refine FW.lend (hK11 _ _ ?_); clear hK11 K'
      refine FW.wseq ?_; intro K' hK12
      refine FW.wreg ?_; intro K' hK13
      refine FW.lfun (y := .lit (.bool t3.2.1)) hk rfl rfl rfl rfl (FW.f_move hk (FW.holds_nil _) rfl) ?_; clear hk; intro a w hk
      refine FW.lfun (y := .lit (.bool (!t3.2.1))) hk rfl rfl rfl rfl ((FW.f_pure (FW.p_not hk.kn (FW.holds_nil _) rfl))) ?_; clear hk; intro a w hk
      refine FW.lend (hK13 _ _ ?_); clear hK13 K'
      refine FW.wcondF (b := (!t3.2.1)) hk h rfl (fun h hb => ?_) (fun h hb => ?_)
      · skip
        refine FW.wreg ?_; intro K' hK14
        refine FW.lfun (y := .lit (.pointer (some ⟨b1, 0, none⟩))) hk rfl rfl rfl rfl (FW.f_move hk (FW.holds_nil _) rfl) ?_; clear hk; intro a w hk
        refine FW.lfun (y := .lit (.slice xd5 (List.length l5) xc5)) hk rfl rfl rfl rfl (FW.f_move hk (FW.holds_nil _) rfl) ?_; clear hk; intro a w hk
        refine FW.lfun (y := .lit (.pointer (some ⟨b1, 0, none⟩))) hk rfl rfl rfl rfl (FW.f_assign hk (FW.holds_nil _) rfl) ?_; clear hk; intro a w hk
        refine FW.lfun (y := .lit (.slice xd5 (List.length l5) xc5)) hk rfl rfl rfl rfl (FW.f_assign hk (FW.holds_nil _) rfl) ?_; clear hk; intro a w hk
        refine FW.lfun (y := .lit (.int .i64 0)) hk rfl rfl rfl rfl (FW.f_assign hk (FW.holds_nil _) rfl) ?_; clear hk; intro a w hk
        refine FW.lend (hK14 _ _ ?_); clear hK14 K'
        refine wp_ret ?_
        (repeat first | refine FW.then_ret ?_ | refine FW.block_ret ?_)
        replace hk := FW.S.freezeR (I' := [FW.blk b1 127 ([.lit (.pointer (some ⟨b0, 0, none⟩))] ++ [.lit (.int .i64 t3.2.2.1.from_)] ++ [.lit (.int .i64 t3.2.2.1.to_)] ++ [.lit (.int .i64 t3.2.2.1.at_)] ++ [.lit (.int .u64 t3.2.2.1.next)]), FW.blk b0 109 ([.lit (.slice zd3 (List.length t3.2.2.2.sure) zc3)] ++ [.lit (.map (some zr3))] ++ [.lit (.int .i64 t3.2.2.2.steps)] ++ [.lit (.slice none 0 0)] ++ [.lit (.bool t3.2.2.2.off)]), FW.orow zd3 zc3 9 1 c_str t3.2.2.2.sure, FW.mapI (.int .i64) (Value.int .i64) FW.evS zr3 t3.2.2.2.cache]) r_c_str_eq hk (j := 4) rfl (t := 9) rfl rfl
        obtain rfl := Option.some.inj h
        replace hk := FW.S.keep (I1 := [FW.blk b1 127 ([.lit (.pointer (some ⟨b0, 0, none⟩))] ++ [.lit (.int .i64 t3.2.2.1.from_)] ++ [.lit (.int .i64 t3.2.2.1.to_)] ++ [.lit (.int .i64 t3.2.2.1.at_)] ++ [.lit (.int .u64 t3.2.2.1.next)]), FW.blk b0 109 ([.lit (.slice zd3 (List.length t3.2.2.2.sure) zc3)] ++ [.lit (.map (some zr3))] ++ [.lit (.int .i64 t3.2.2.2.steps)] ++ [.lit (.slice none 0 0)] ++ [.lit (.bool t3.2.2.2.off)]), FW.orow zd3 zc3 9 1 c_str t3.2.2.2.sure, FW.mapI (.int .i64) (Value.int .i64) FW.evS zr3 t3.2.2.2.cache]) (I2 := []) (js := [3, 3, 3, 3]) hk rfl
        exact FW.fretH3 hk rfl (FW.rtmp hk rfl) (FW.rtmp hk rfl) (FW.rtmp hk rfl) ⟨b1, zd3, zc3, zr3, rfl, rfl⟩
      · skip
        refine wp_skip ?_
        (repeat first | refine FW.then_normal ?_ | refine FW.block_normal ?_); refine hK12 _ _ ?_
        refine FW.wreg ?_; intro K' hK15
        refine FW.lfun (y := .lit (.slice xd5 (List.length l5) xc5)) hk rfl rfl rfl rfl (FW.f_move hk (FW.holds_nil _) rfl) ?_; clear hk; intro a w hk
        refine FW.lfun (y := .lit (.string (FW.B t3.1))) hk rfl rfl rfl rfl (FW.f_move hk (FW.holds_nil _) rfl) ?_; clear hk; intro a w hk
        refine FW.l_buildSlice (f := c_str) (l := ([t3.1] : List (List UInt8))) hk rfl rfl rfl Go.Proofs.Try.underlying61 rfl rfl rfl rfl (fun _ => rfl) rfl ?_; clear hk; intro b2 a w hk
        obtain ⟨hc1, h⟩ := FW.chk h
        refine FW.l_append (l2 := ([t3.1] : List (List UInt8))) (l3 := (l5 ++ ([t3.1] : List (List UInt8)))) (I' := fun ad1 cap1 => [FW.orow (some ⟨b2, 0, none⟩) 1 9 1 c_str ([t3.1] : List (List UInt8)), FW.blk b1 127 ([.lit (.pointer (some ⟨b0, 0, none⟩))] ++ [.lit (.int .i64 t3.2.2.1.from_)] ++ [.lit (.int .i64 t3.2.2.1.to_)] ++ [.lit (.int .i64 t3.2.2.1.at_)] ++ [.lit (.int .u64 t3.2.2.1.next)]), FW.blk b0 109 ([.lit (.slice zd3 (List.length t3.2.2.2.sure) zc3)] ++ [.lit (.map (some zr3))] ++ [.lit (.int .i64 t3.2.2.2.steps)] ++ [.lit (.slice none 0 0)] ++ [.lit (.bool t3.2.2.2.off)]), FW.orow zd3 zc3 9 1 c_str t3.2.2.2.sure, FW.mapI (.int .i64) (Value.int .i64) FW.evS zr3 t3.2.2.2.cache, FW.orow ad1 cap1 9 1 c_str (l5 ++ ([t3.1] : List (List UInt8)))]) (j := 5) hk rfl rfl rfl rfl (FW.own_src hk (j := 0) rfl rfl (fun _ => rfl) Go.Proofs.Try.underlying61) Go.Proofs.Try.underlying61 (by kernel_rfl) hc1 rfl (fun _ _ => rfl) ?_; clear hk; intro ad1 cap1 a w hk
        replace hk := FW.S.dropI (I' := [FW.blk b1 127 ([.lit (.pointer (some ⟨b0, 0, none⟩))] ++ [.lit (.int .i64 t3.2.2.1.from_)] ++ [.lit (.int .i64 t3.2.2.1.to_)] ++ [.lit (.int .i64 t3.2.2.1.at_)] ++ [.lit (.int .u64 t3.2.2.1.next)]), FW.blk b0 109 ([.lit (.slice zd3 (List.length t3.2.2.2.sure) zc3)] ++ [.lit (.map (some zr3))] ++ [.lit (.int .i64 t3.2.2.2.steps)] ++ [.lit (.slice none 0 0)] ++ [.lit (.bool t3.2.2.2.off)]), FW.orow zd3 zc3 9 1 c_str t3.2.2.2.sure, FW.mapI (.int .i64) (Value.int .i64) FW.evS zr3 t3.2.2.2.cache, FW.orow ad1 cap1 9 1 c_str (l5 ++ ([t3.1] : List (List UInt8)))]) hk 0 rfl
        refine FW.lfun (y := .lit (.slice ad1 (List.length (l5 ++ ([t3.1] : List (List UInt8)))) cap1)) hk rfl rfl rfl rfl (FW.f_assign hk (FW.holds_nil _) rfl) ?_; clear hk; intro a w hk
        refine FW.lend (hK15 _ _ ?_); clear hK15 K'
        obtain ⟨t4, hr_t4, h⟩ := FW.bnd h
        refine FW.wdrawE (need := [false, false, false, false, false, false, false, false, false, false, false]) [(10, [true, true, true, true, true, true, true, true, true, true, false], [true, true, true, true, true, true, true, true, true, true, false])] [(58, [], .lit (.pointer (some ⟨b1, 0, none⟩))), (59, [], .lit (.pointer (some ⟨b1, 0, none⟩))), (60, [], .lit (.pointer (some ⟨b1, 3, none⟩))), (61, [], .lit (.int .i64 t3.2.2.1.at_)), (62, [], .lit (.string (FW.B t3.1))), (63, [], .lit (.int .i64 (List.length t3.1 : Int))), (64, [], .lit (.int .i64 t4)), (65, [], .lit (.int .i64 (IntKind.wrap .i64 (t3.2.2.1.at_ + t4)))), (66, [], .lit (.pointer (some ⟨b1, 0, none⟩))), (67, [], .lit (.pointer (some ⟨b1, 3, none⟩))), (75, [], .lit undef)] (by kernel_rfl) (by kernel_rfl) (by kernel_rfl) (by kernel_rfl) hk ?_; clear hk
        refine FW.gnext0 ?_ rfl rfl rfl ?_
        · skip
          refine FW.gfun (y := .lit (.pointer (some ⟨b1, 0, none⟩))) rfl rfl rfl rfl (fun a w hk => FW.f_move hk (FW.holds_nil _) rfl) ?_
          refine FW.gfun (y := .lit (.pointer (some ⟨b1, 0, none⟩))) rfl rfl rfl rfl (fun a w hk => (FW.f_pure (FW.p_nilCheck hk.kn (FW.holds_nil _) rfl))) ?_
          refine FW.gfun (y := .lit (.pointer (some ⟨b1, 3, none⟩))) rfl rfl rfl rfl (fun a w hk => FW.f_fieldPtr hk (FW.holds_nil _) rfl Go.Proofs.Try.underlying127 rfl (by kernel_rfl) rfl) ?_
          refine FW.gfun (y := .lit (.int .i64 t3.2.2.1.at_)) rfl rfl rfl rfl (fun a w hk => FW.f_loadBlk1 hk (FW.holds_nil _) (j := 0) rfl rfl Go.Proofs.Try.underlying3 rfl rfl) ?_
          refine FW.gfun (y := .lit (.string (FW.B t3.1))) rfl rfl rfl rfl (fun a w hk => FW.f_move hk (FW.holds_nil _) rfl) ?_
          refine FW.gfun (y := .lit (.int .i64 (List.length t3.1 : Int))) rfl rfl rfl rfl (fun a w hk => (FW.f_pure (FW.p_slen Go.Proofs.Try.underlying9 hk.kn (FW.holds_nil _) rfl))) ?_
          refine FW.gfun (y := .lit (.int .i64 t4)) rfl rfl rfl rfl (fun a w hk => FW.f_call hk (FW.holds_nil _) rfl rfl Go.Proofs.Try.func45 rfl (by kernel_rfl) (log_Sectors.ok (List.length t3.1 : Int) _ hr_t4)) ?_
          refine FW.gfun (y := .lit (.int .i64 (IntKind.wrap .i64 (t3.2.2.1.at_ + t4)))) rfl rfl rfl rfl (fun a w hk => (FW.f_pure (FW.p_add hk.kn (FW.holds_nil _) rfl rfl))) ?_
          refine FW.gfun (y := .lit (.pointer (some ⟨b1, 0, none⟩))) rfl rfl rfl rfl (fun a w hk => (FW.f_pure (FW.p_nilCheck hk.kn (FW.holds_nil _) rfl))) ?_
          refine FW.gfun (y := .lit (.pointer (some ⟨b1, 3, none⟩))) rfl rfl rfl rfl (fun a w hk => FW.f_fieldPtr hk (FW.holds_nil _) rfl Go.Proofs.Try.underlying127 rfl (by kernel_rfl) rfl) ?_
          refine FW.gskip0 rfl ?_
          exact FW.gend
        · skip
          intro σD a w opsD QD hk hQ
          refine FW.l_store (I' := [FW.blk b1 127 ([.lit (.pointer (some ⟨b0, 0, none⟩))] ++ [.lit (.int .i64 t3.2.2.1.from_)] ++ [.lit (.int .i64 t3.2.2.1.to_)] ++ [.lit (.int .i64 (IntKind.wrap .i64 (t3.2.2.1.at_ + t4)))] ++ [.lit (.int .u64 t3.2.2.1.next)]), FW.blk b0 109 ([.lit (.slice zd3 (List.length t3.2.2.2.sure) zc3)] ++ [.lit (.map (some zr3))] ++ [.lit (.int .i64 t3.2.2.2.steps)] ++ [.lit (.slice none 0 0)] ++ [.lit (.bool t3.2.2.2.off)]), FW.orow zd3 zc3 9 1 c_str t3.2.2.2.sure, FW.mapI (.int .i64) (Value.int .i64) FW.evS zr3 t3.2.2.2.cache, FW.orow ad1 cap1 9 1 c_str (l5 ++ ([t3.1] : List (List UInt8)))]) (cs' := [.lit (.pointer (some ⟨b0, 0, none⟩))] ++ [.lit (.int .i64 t3.2.2.1.from_)] ++ [.lit (.int .i64 t3.2.2.1.to_)] ++ [.lit (.int .i64 (IntKind.wrap .i64 (t3.2.2.1.at_ + t4)))] ++ [.lit (.int .u64 t3.2.2.1.next)]) (j := 0) hk rfl rfl rfl rfl rfl (by kernel_rfl) rfl rfl ?_; clear hk; intro w hk
          refine hQ _ a w ?_ hk; clear hk hQ
          refine ⟨[(58, [], .lit (.pointer (some ⟨b1, 0, none⟩))), (59, [], .lit (.pointer (some ⟨b1, 0, none⟩))), (60, [], .lit (.pointer (some ⟨b1, 3, none⟩))), (61, [], .lit (.int .i64 t3.2.2.1.at_)), (62, [], .lit (.string (FW.B t3.1))), (63, [], .lit (.int .i64 (List.length t3.1 : Int))), (64, [], .lit (.int .i64 t4)), (65, [], .lit (.int .i64 (IntKind.wrap .i64 (t3.2.2.1.at_ + t4)))), (66, [], .lit (.pointer (some ⟨b1, 0, none⟩))), (67, [], .lit (.pointer (some ⟨b1, 3, none⟩))), (75, [], .lit undef)], And.intro rfl (And.intro rfl (And.intro rfl (And.intro rfl (And.intro rfl (And.intro rfl (And.intro rfl (And.intro rfl (And.intro rfl (And.intro rfl (trivial)))))))))), rfl, ?_⟩
          refine FW.glast ?_ ?_
          · skip
            refine FW.gskip rfl rfl ?_
            refine FW.gskip rfl rfl ?_
            refine FW.gskip rfl rfl ?_
            refine FW.gskip rfl rfl ?_
            refine FW.gskip rfl rfl ?_
            refine FW.gskip rfl rfl ?_
            refine FW.gskip rfl rfl ?_
            refine FW.gskip rfl rfl ?_
            refine FW.gskip rfl rfl ?_
            refine FW.gskip rfl rfl ?_
            refine FW.gskip0 rfl ?_
            exact FW.gend
          · skip
            intro a w hk; simp only [FW.stD, cond_true] at hk
            refine FW.wreg1 ?_
            refine FW.lfun (y := .lit (.pointer (some ⟨b1, 0, none⟩))) hk rfl rfl rfl rfl (FW.f_move hk (FW.holds_nil _) rfl) ?_; clear hk; intro a w hk
            refine FW.lfun (y := .lit (.pointer (some ⟨b1, 0, none⟩))) hk rfl rfl rfl rfl ((FW.f_pure (FW.p_nilCheck hk.kn (FW.holds_nil _) rfl))) ?_; clear hk; intro a w hk
            refine FW.lfun (y := .lit (.pointer (some ⟨b1, 4, none⟩))) hk rfl rfl rfl rfl (FW.f_fieldPtr hk (FW.holds_nil _) rfl Go.Proofs.Try.underlying127 rfl (by kernel_rfl) rfl) ?_; clear hk; intro a w hk
            refine FW.lfun (y := .lit (.int .u64 t3.2.2.1.next)) hk rfl rfl rfl rfl (FW.f_loadBlk1 hk (FW.holds_nil _) (j := 0) rfl rfl Go.Proofs.Try.underlying29 rfl rfl) ?_; clear hk; intro a w hk
            refine FW.lfun (y := .lit (.int .u64 (IntKind.wrap .u64 (t3.2.2.1.next + 1)))) hk rfl rfl rfl rfl ((FW.f_pure (FW.p_add hk.kn (FW.holds_nil _) rfl rfl))) ?_; clear hk; intro a w hk
            refine FW.lfun (y := .lit (.pointer (some ⟨b1, 0, none⟩))) hk rfl rfl rfl rfl ((FW.f_pure (FW.p_nilCheck hk.kn (FW.holds_nil _) rfl))) ?_; clear hk; intro a w hk
            refine FW.lfun (y := .lit (.pointer (some ⟨b1, 4, none⟩))) hk rfl rfl rfl rfl (FW.f_fieldPtr hk (FW.holds_nil _) rfl Go.Proofs.Try.underlying127 rfl (by kernel_rfl) rfl) ?_; clear hk; intro a w hk
            refine FW.l_store (I' := [FW.blk b1 127 ([.lit (.pointer (some ⟨b0, 0, none⟩))] ++ [.lit (.int .i64 t3.2.2.1.from_)] ++ [.lit (.int .i64 t3.2.2.1.to_)] ++ [.lit (.int .i64 (IntKind.wrap .i64 (t3.2.2.1.at_ + t4)))] ++ [.lit (.int .u64 (IntKind.wrap .u64 (t3.2.2.1.next + 1)))]), FW.blk b0 109 ([.lit (.slice zd3 (List.length t3.2.2.2.sure) zc3)] ++ [.lit (.map (some zr3))] ++ [.lit (.int .i64 t3.2.2.2.steps)] ++ [.lit (.slice none 0 0)] ++ [.lit (.bool t3.2.2.2.off)]), FW.orow zd3 zc3 9 1 c_str t3.2.2.2.sure, FW.mapI (.int .i64) (Value.int .i64) FW.evS zr3 t3.2.2.2.cache, FW.orow ad1 cap1 9 1 c_str (l5 ++ ([t3.1] : List (List UInt8)))]) (cs' := [.lit (.pointer (some ⟨b0, 0, none⟩))] ++ [.lit (.int .i64 t3.2.2.1.from_)] ++ [.lit (.int .i64 t3.2.2.1.to_)] ++ [.lit (.int .i64 (IntKind.wrap .i64 (t3.2.2.1.at_ + t4)))] ++ [.lit (.int .u64 (IntKind.wrap .u64 (t3.2.2.1.next + 1)))]) (j := 0) hk rfl rfl rfl rfl rfl (by kernel_rfl) rfl rfl ?_; clear hk; intro w hk
            refine wpList_nil ?_
            (repeat first | refine FW.then_normal ?_ | refine FW.block_normal ?_); exact hK10 (kl1, (l5 ++ ([t3.1] : List (List UInt8))), t3.2.2.1.from_, t3.2.2.1.to_, (IntKind.wrap .i64 (t3.2.2.1.at_ + t4)), (IntKind.wrap .u64 (t3.2.2.1.next + 1)), t3.2.2.2.steps, t3.2.2.2.off, t3.2.2.2.sure, t3.2.2.2.cache, ad1, cap1, zd3, zc3, zr3) _ _ (Nat.lt_succ_self _) ⟨(FW.S.pick hk (js := [3, 3, 3, 3, 4]) rfl).sub ⟨rfl, rfl, trivial⟩, h⟩

theorem dev_Dev_Len_nil.ok   (r : Int) (h : dev_Dev_Len_nil.f = some r) :
    FW.Ok Go.Proofs.Try.prog 42 [.lit (.pointer none)] (.lit (.int .i64 r)) := by
  refine FW.enter (xs := [.lit (.pointer none)]) Go.Proofs.Try.func42 rfl Go.Proofs.Try.ntmps42 rfl ?_
  intro M w0 a hk
  unfold dev_Dev_Len_nil.f at h
  refine FW.wreg ?_; intro K' hK1
  refine FW.lfun (y := .lit (.int .i64 0)) hk rfl rfl rfl rfl (FW.f_assign hk (FW.holds_nil _) rfl) ?_; clear hk; intro a w hk
  refine FW.lend (hK1 _ _ ?_); clear hK1 K'
  refine FW.wseq ?_; intro K' hK2
  refine FW.wreg ?_; intro K' hK3
  refine FW.lfun (y := .lit (.pointer none)) hk rfl rfl rfl rfl (FW.f_move hk (FW.holds_nil _) rfl) ?_; clear hk; intro a w hk
  refine FW.lfun (y := .lit (.bool true)) hk rfl rfl rfl rfl ((FW.f_pure (FW.p_ptrEq Go.Proofs.Try.underlying46 hk.kn (FW.holds_nil _) rfl rfl rfl))) ?_; clear hk; intro a w hk
  refine FW.lend (hK3 _ _ ?_); clear hK3 K'
  refine FW.wcondT hk rfl ?_
  refine FW.wreg ?_; intro K' hK4
  refine FW.lfun (y := .lit (.int .i64 0)) hk rfl rfl rfl rfl (FW.f_assign hk (FW.holds_nil _) rfl) ?_; clear hk; intro a w hk
  refine FW.lend (hK4 _ _ ?_); clear hK4 K'
  refine wp_ret ?_
  (repeat first | refine FW.then_ret ?_ | refine FW.block_ret ?_)
  obtain rfl := Option.some.inj h
  exact FW.fret1 hk rfl rfl

theorem dev_Dev_Off_nil.ok   (r : Bool) (h : dev_Dev_Off_nil.f = some r) :
    FW.Ok Go.Proofs.Try.prog 41 [.lit (.pointer none)] (.lit (.bool r)) := by
  refine FW.enter (xs := [.lit (.pointer none)]) Go.Proofs.Try.func41 rfl Go.Proofs.Try.ntmps41 rfl ?_
  intro M w0 a hk
  unfold dev_Dev_Off_nil.f at h
  refine FW.wreg ?_; intro K' hK1
  refine FW.lfun (y := .lit (.bool false)) hk rfl rfl rfl rfl (FW.f_assign hk (FW.holds_nil _) rfl) ?_; clear hk; intro a w hk
  refine FW.lend (hK1 _ _ ?_); clear hK1 K'
  refine FW.wreg ?_; intro K' hK2
  refine FW.lfun (y := .lit (.pointer none)) hk rfl rfl rfl rfl (FW.f_move hk (FW.holds_nil _) rfl) ?_; clear hk; intro a w hk
  refine FW.lfun (y := .lit (.bool true)) hk rfl rfl rfl rfl ((FW.f_pure (FW.p_ptrEq Go.Proofs.Try.underlying46 hk.kn (FW.holds_nil _) rfl rfl rfl))) ?_; clear hk; intro a w hk
  refine FW.lfun (y := .lit (.bool true)) hk rfl rfl rfl rfl (FW.f_move hk (FW.holds_nil _) rfl) ?_; clear hk; intro a w hk
  refine FW.lfunG (y := .lit (.bool false)) hk rfl rfl rfl rfl rfl rfl rfl rfl (fun hc => (FW.noHold hk.kn rfl rfl hc).elim) ?_; clear hk; intro a w hk
  refine FW.lfunG (y := .lit (.bool false)) hk rfl rfl rfl rfl rfl rfl rfl rfl (fun hc => (FW.noHold hk.kn rfl rfl hc).elim) ?_; clear hk; intro a w hk
  refine FW.lfunG (y := .lit (.bool false)) hk rfl rfl rfl rfl rfl rfl rfl rfl (fun hc => (FW.noHold hk.kn rfl rfl hc).elim) ?_; clear hk; intro a w hk
  refine FW.lfunG (y := .lit (.bool false)) hk rfl rfl rfl rfl rfl rfl rfl rfl (fun hc => (FW.noHold hk.kn rfl rfl hc).elim) ?_; clear hk; intro a w hk
  refine FW.lfun (y := .lit (.bool true)) hk rfl rfl rfl rfl ((FW.f_pure (FW.p_pickT hk.kn (FW.holds_nil _) rfl rfl))) ?_; clear hk; intro a w hk
  refine FW.lfun (y := .lit (.bool true)) hk rfl rfl rfl rfl (FW.f_assign hk (FW.holds_nil _) rfl) ?_; clear hk; intro a w hk
  refine FW.lend (hK2 _ _ ?_); clear hK2 K'
  refine wp_ret ?_
  (repeat first | refine FW.then_ret ?_ | refine FW.block_ret ?_)
  obtain rfl := Option.some.inj h
  exact FW.fret1 hk rfl rfl

theorem log_Open_nil_opt.ok (K : Nat) (v1 : Int) (v2 : Int) (v3 : Int) (r : Option OLogLog × List (List UInt8) × Int) (h : log_Open_nil_opt.f K v1 v2 v3 = some r) :
    FW.OkH Go.Proofs.Try.prog 47 [.lit (.pointer none), .lit (.int .i64 v1), .lit (.int .i64 v2), .lit (.int .u64 v3)] [] (fun y I => ∃ (bn0 : Nat), y = .tup [FW.ptrO r.1 bn0, .row (r_c_str r.2.1), .lit (.int .i64 r.2.2)] ∧ I = (FW.optI r.1 fun x => ([] : List FW.It))) := by
  refine FW.enterH (xs := [.lit (.pointer none), .lit (.int .i64 v1), .lit (.int .i64 v2), .lit (.int .u64 v3)]) Go.Proofs.Try.func47 rfl Go.Proofs.Try.ntmps47 rfl ?_
  intro M w0 a hk
  unfold log_Open_nil_opt.f at h
  refine FW.wreg ?_; intro K' hK1
  refine FW.lfun (y := .lit (.pointer none)) hk rfl rfl rfl rfl (FW.f_assign hk (FW.holds_nil _) rfl) ?_; clear hk; intro a w hk
  refine FW.lfun (y := .row (r_c_str [])) hk rfl rfl rfl rfl (FW.f_assignNil) ?_; clear hk; intro a w hk
  refine FW.lfun (y := .lit (.int .i64 0)) hk rfl rfl rfl rfl (FW.f_assign hk (FW.holds_nil _) rfl) ?_; clear hk; intro a w hk
  refine FW.lend (hK1 _ _ ?_); clear hK1 K'
  refine FW.wseq ?_; intro K' hK2
  refine FW.wreg ?_; intro K' hK3
  refine FW.lfun (y := .lit (.pointer none)) hk rfl rfl rfl rfl (FW.f_move hk (FW.holds_nil _) rfl) ?_; clear hk; intro a w hk
  refine FW.lfun (y := .lit (.bool true)) hk rfl rfl rfl rfl ((FW.f_pure (FW.p_ptrEq Go.Proofs.Try.underlying46 hk.kn (FW.holds_nil _) rfl rfl rfl))) ?_; clear hk; intro a w hk
  refine FW.lfun (y := .lit (.bool true)) hk rfl rfl rfl rfl (FW.f_move hk (FW.holds_nil _) rfl) ?_; clear hk; intro a w hk
  refine FW.lfunG (y := .lit (.bool false)) hk rfl rfl rfl rfl rfl rfl rfl rfl (fun hc => (FW.noHold hk.kn rfl rfl hc).elim) ?_; clear hk; intro a w hk
  refine FW.lfunG (y := .lit (.bool false)) hk rfl rfl rfl rfl rfl rfl rfl rfl (fun hc => (FW.noHold hk.kn rfl rfl hc).elim) ?_; clear hk; intro a w hk
  refine FW.lfun (y := .lit (.bool true)) hk rfl rfl rfl rfl ((FW.f_pure (FW.p_pickT hk.kn (FW.holds_nil _) rfl rfl))) ?_; clear hk; intro a w hk
  refine FW.lfun (y := .lit (.bool true)) hk rfl rfl rfl rfl (FW.f_move hk (FW.holds_nil _) rfl) ?_; clear hk; intro a w hk
  refine FW.lfunG (y := .lit (.bool false)) hk rfl rfl rfl rfl rfl rfl rfl rfl (fun hc => (FW.noHold hk.kn rfl rfl hc).elim) ?_; clear hk; intro a w hk
  refine FW.lfunG (y := .lit (.bool false)) hk rfl rfl rfl rfl rfl rfl rfl rfl (fun hc => (FW.noHold hk.kn rfl rfl hc).elim) ?_; clear hk; intro a w hk
  refine FW.lfunG (y := .lit (.bool false)) hk rfl rfl rfl rfl rfl rfl rfl rfl (fun hc => (FW.noHold hk.kn rfl rfl hc).elim) ?_; clear hk; intro a w hk
  refine FW.lfun (y := .lit (.bool true)) hk rfl rfl rfl rfl ((FW.f_pure (FW.p_pickT hk.kn (FW.holds_nil _) rfl rfl))) ?_; clear hk; intro a w hk
  refine FW.lfun (y := .lit (.bool true)) hk rfl rfl rfl rfl (FW.f_move hk (FW.holds_nil _) rfl) ?_; clear hk; intro a w hk
  refine FW.lfunG (y := .lit (.bool false)) hk rfl rfl rfl rfl rfl rfl rfl rfl (fun hc => (FW.noHold hk.kn rfl rfl hc).elim) ?_; clear hk; intro a w hk
  refine FW.lfunG (y := .lit (.bool false)) hk rfl rfl rfl rfl rfl rfl rfl rfl (fun hc => (FW.noHold hk.kn rfl rfl hc).elim) ?_; clear hk; intro a w hk
  refine FW.lfunG (y := .lit (.bool false)) hk rfl rfl rfl rfl rfl rfl rfl rfl (fun hc => (FW.noHold hk.kn rfl rfl hc).elim) ?_; clear hk; intro a w hk
  refine FW.lfunG (y := .lit (.bool false)) hk rfl rfl rfl rfl rfl rfl rfl rfl (fun hc => (FW.noHold hk.kn rfl rfl hc).elim) ?_; clear hk; intro a w hk
  refine FW.lfun (y := .lit (.bool true)) hk rfl rfl rfl rfl ((FW.f_pure (FW.p_pickT hk.kn (FW.holds_nil _) rfl rfl))) ?_; clear hk; intro a w hk
  refine FW.lfun (y := .lit (.bool true)) hk rfl rfl rfl rfl (FW.f_move hk (FW.holds_nil _) rfl) ?_; clear hk; intro a w hk
  refine FW.lfunG (y := .lit (.bool false)) hk rfl rfl rfl rfl rfl rfl rfl rfl (fun hc => (FW.noHold hk.kn rfl rfl hc).elim) ?_; clear hk; intro a w hk
  refine FW.lfunG (y := .lit (.bool false)) hk rfl rfl rfl rfl rfl rfl rfl rfl (fun hc => (FW.noHold hk.kn rfl rfl hc).elim) ?_; clear hk; intro a w hk
  refine FW.lfun (y := .lit (.bool true)) hk rfl rfl rfl rfl ((FW.f_pure (FW.p_pickT hk.kn (FW.holds_nil _) rfl rfl))) ?_; clear hk; intro a w hk
  refine FW.lend (hK3 _ _ ?_); clear hK3 K'
  refine FW.wcondT hk rfl ?_
  refine FW.wreg ?_; intro K' hK4
  refine FW.lfun (y := .lit (.pointer none)) hk rfl rfl rfl rfl (FW.f_assign hk (FW.holds_nil _) rfl) ?_; clear hk; intro a w hk
  refine FW.lfun (y := .row (r_c_str [])) hk rfl rfl rfl rfl (FW.f_assignNil) ?_; clear hk; intro a w hk
  refine FW.lfun (y := .lit (.int .i64 1)) hk rfl rfl rfl rfl (FW.f_assign hk (FW.holds_nil _) rfl) ?_; clear hk; intro a w hk
  refine FW.lend (hK4 _ _ ?_); clear hK4 K'
  refine wp_ret ?_
  (repeat first | refine FW.then_ret ?_ | refine FW.block_ret ?_)
  obtain rfl := Option.some.inj h
  replace hk := FW.S.keep (I1 := []) (I2 := []) (js := []) hk rfl
  exact FW.fretH3 hk rfl (FW.rtmp hk rfl) (FW.rtmp hk rfl) (FW.rtmp hk rfl) ⟨0, rfl, rfl⟩

theorem offshootlaw04_few.ok  (v0 : List UInt8) (r : List UInt8) (h : offshootlaw04_few.f v0 = some r) :
    FW.Ok Go.Proofs.Try.prog 49 [.lit (.string (FW.B v0))] (.lit (.string (FW.B r))) := by
  refine FW.enter (xs := [.lit (.string (FW.B v0))]) Go.Proofs.Try.func49 rfl Go.Proofs.Try.ntmps49 rfl ?_
  intro M w0 a hk
  unfold offshootlaw04_few.f at h
  refine FW.wreg ?_; intro K' hK1
  refine FW.lfun (y := .lit (.string (FW.B ([] : List UInt8)))) hk rfl rfl rfl rfl (FW.f_assign hk (FW.holds_nil _) rfl) ?_; clear hk; intro a w hk
  refine FW.lend (hK1 _ _ ?_); clear hK1 K'
  refine FW.wseq ?_; intro K' hK2
  refine FW.wreg ?_; intro K' hK3
  refine FW.lfun (y := .lit (.string (FW.B v0))) hk rfl rfl rfl rfl (FW.f_move hk (FW.holds_nil _) rfl) ?_; clear hk; intro a w hk
  refine FW.lfun (y := .lit (.int .i64 (List.length v0 : Int))) hk rfl rfl rfl rfl ((FW.f_pure (FW.p_slen Go.Proofs.Try.underlying9 hk.kn (FW.holds_nil _) rfl))) ?_; clear hk; intro a w hk
  refine FW.lfun (y := .lit (.bool (decide (500 < (List.length v0 : Int))))) hk rfl rfl rfl rfl ((FW.f_pure (FW.p_gtr hk.kn (FW.holds_nil _) rfl rfl))) ?_; clear hk; intro a w hk
  refine FW.lend (hK3 _ _ ?_); clear hK3 K'
  refine FW.wcondF (b := (decide (500 < (List.length v0 : Int)))) hk h rfl (fun h hb => ?_) (fun h hb => ?_)
  · skip
    refine FW.wreg ?_; intro K' hK4
    refine FW.lfun (y := .lit (.string (FW.B v0))) hk rfl rfl rfl rfl (FW.f_move hk (FW.holds_nil _) rfl) ?_; clear hk; intro a w hk
    obtain ⟨hc1, h⟩ := FW.chk h
    refine FW.lfun (y := .lit (.string (FW.B (List.take (Int.toNat 500) v0)))) hk rfl rfl rfl rfl ((FW.f_pure (FW.p_slice_hi Go.Proofs.Try.underlying9 hk.kn (FW.holds_nil _) rfl rfl hc1))) ?_; clear hk; intro a w hk
    refine FW.lfun (y := .lit (.string (FW.B (List.take (Int.toNat 500) v0)))) hk rfl rfl rfl rfl (FW.f_assign hk (FW.holds_nil _) rfl) ?_; clear hk; intro a w hk
    refine FW.lend (hK4 _ _ ?_); clear hK4 K'
    refine wp_ret ?_
    (repeat first | refine FW.then_ret ?_ | refine FW.block_ret ?_)
    obtain rfl := Option.some.inj h
    exact FW.fret1 hk rfl rfl
  · skip
    refine wp_skip ?_
    (repeat first | refine FW.then_normal ?_ | refine FW.block_normal ?_); refine hK2 _ _ ?_
    refine FW.wreg ?_; intro K' hK5
    refine FW.lfun (y := .lit (.string (FW.B v0))) hk rfl rfl rfl rfl (FW.f_move hk (FW.holds_nil _) rfl) ?_; clear hk; intro a w hk
    refine FW.lfun (y := .lit (.string (FW.B v0))) hk rfl rfl rfl rfl (FW.f_assign hk (FW.holds_nil _) rfl) ?_; clear hk; intro a w hk
    refine FW.lend (hK5 _ _ ?_); clear hK5 K'
    refine wp_ret ?_
    (repeat first | refine FW.then_ret ?_ | refine FW.block_ret ?_)
    obtain rfl := Option.some.inj h
    exact FW.fret1 hk rfl rfl

theorem log_Log_Add_nil.ok (K : Nat) (v1 : List UInt8) (r : Int) (h : log_Log_Add_nil.f K v1 = some r) :
    FW.Ok Go.Proofs.Try.prog 50 [.lit (.pointer none), .lit (.string (FW.B v1))] (.lit (.int .i64 r)) := by
  refine FW.enter (xs := [.lit (.pointer none), .lit (.string (FW.B v1))]) Go.Proofs.Try.func50 rfl Go.Proofs.Try.ntmps50 rfl ?_
  intro M w0 a hk
  unfold log_Log_Add_nil.f at h
  refine FW.wreg ?_; intro K' hK1
  refine FW.lfun (y := .lit (.int .i64 0)) hk rfl rfl rfl rfl (FW.f_assign hk (FW.holds_nil _) rfl) ?_; clear hk; intro a w hk
  refine FW.lend (hK1 _ _ ?_); clear hK1 K'
  refine FW.wseq ?_; intro K' hK2
  refine wp_block ?_
  refine FW.wreg ?_; intro K' hK3
  refine FW.lfun (y := .lit (.pointer none)) hk rfl rfl rfl rfl (FW.f_move hk (FW.holds_nil _) rfl) ?_; clear hk; intro a w hk
  refine FW.lfun (y := .lit (.bool true)) hk rfl rfl rfl rfl ((FW.f_pure (FW.p_ptrEq Go.Proofs.Try.underlying79 hk.kn (FW.holds_nil _) rfl rfl rfl))) ?_; clear hk; intro a w hk
  refine FW.lfun (y := .lit (.bool true)) hk rfl rfl rfl rfl (FW.f_move hk (FW.holds_nil _) rfl) ?_; clear hk; intro a w hk
  refine FW.lfunG (y := .lit (.bool false)) hk rfl rfl rfl rfl rfl rfl rfl rfl (fun hc => (FW.noHold hk.kn rfl rfl hc).elim) ?_; clear hk; intro a w hk
  refine FW.lfunG (y := .lit (.bool false)) hk rfl rfl rfl rfl rfl rfl rfl rfl (fun hc => (FW.noHold hk.kn rfl rfl hc).elim) ?_; clear hk; intro a w hk
  refine FW.lfunG (y := .lit (.bool false)) hk rfl rfl rfl rfl rfl rfl rfl rfl (fun hc => (FW.noHold hk.kn rfl rfl hc).elim) ?_; clear hk; intro a w hk
  refine FW.lfunG (y := .lit (.bool false)) hk rfl rfl rfl rfl rfl rfl rfl rfl (fun hc => (FW.noHold hk.kn rfl rfl hc).elim) ?_; clear hk; intro a w hk
  refine FW.lfunG (y := .lit (.bool false)) hk rfl rfl rfl rfl rfl rfl rfl rfl (fun hc => (FW.noHold hk.kn rfl rfl hc).elim) ?_; clear hk; intro a w hk
  refine FW.lfun (y := .lit (.bool true)) hk rfl rfl rfl rfl ((FW.f_pure (FW.p_pickT hk.kn (FW.holds_nil _) rfl rfl))) ?_; clear hk; intro a w hk
  refine FW.lfun (y := .lit (.bool true)) hk rfl rfl rfl rfl (FW.f_assign hk (FW.holds_nil _) rfl) ?_; clear hk; intro a w hk
  refine FW.lend (hK3 _ _ ?_); clear hK3 K'
  refine FW.wcondT hk rfl ?_
  refine FW.wreg ?_; intro K' hK4
  refine FW.lfun (y := .lit (.int .i64 7)) hk rfl rfl rfl rfl (FW.f_assign hk (FW.holds_nil _) rfl) ?_; clear hk; intro a w hk
  refine FW.lend (hK4 _ _ ?_); clear hK4 K'
  refine wp_ret ?_
  (repeat first | refine FW.then_ret ?_ | refine FW.block_ret ?_)
  obtain rfl := Option.some.inj h
  exact FW.fret1 hk rfl rfl

theorem log_Log_Next_nil.ok   (r : Int) (h : log_Log_Next_nil.f = some r) :
    FW.Ok Go.Proofs.Try.prog 54 [.lit (.pointer none)] (.lit (.int .u64 r)) := by
  refine FW.enter (xs := [.lit (.pointer none)]) Go.Proofs.Try.func54 rfl Go.Proofs.Try.ntmps54 rfl ?_
  intro M w0 a hk
  unfold log_Log_Next_nil.f at h
  refine FW.wreg ?_; intro K' hK1
  refine FW.lfun (y := .lit (.int .u64 0)) hk rfl rfl rfl rfl (FW.f_assign hk (FW.holds_nil _) rfl) ?_; clear hk; intro a w hk
  refine FW.lend (hK1 _ _ ?_); clear hK1 K'
  refine FW.wseq ?_; intro K' hK2
  refine FW.wreg ?_; intro K' hK3
  refine FW.lfun (y := .lit (.pointer none)) hk rfl rfl rfl rfl (FW.f_move hk (FW.holds_nil _) rfl) ?_; clear hk; intro a w hk
  refine FW.lfun (y := .lit (.bool true)) hk rfl rfl rfl rfl ((FW.f_pure (FW.p_ptrEq Go.Proofs.Try.underlying79 hk.kn (FW.holds_nil _) rfl rfl rfl))) ?_; clear hk; intro a w hk
  refine FW.lend (hK3 _ _ ?_); clear hK3 K'
  refine FW.wcondT hk rfl ?_
  refine FW.wreg ?_; intro K' hK4
  refine FW.lfun (y := .lit (.int .u64 0)) hk rfl rfl rfl rfl (FW.f_assign hk (FW.holds_nil _) rfl) ?_; clear hk; intro a w hk
  refine FW.lend (hK4 _ _ ?_); clear hK4 K'
  refine wp_ret ?_
  (repeat first | refine FW.then_ret ?_ | refine FW.block_ret ?_)
  obtain rfl := Option.some.inj h
  exact FW.fret1 hk rfl rfl

theorem log_Log_Room_nil.ok   (r : Int) (h : log_Log_Room_nil.f = some r) :
    FW.Ok Go.Proofs.Try.prog 55 [.lit (.pointer none)] (.lit (.int .i64 r)) := by
  refine FW.enter (xs := [.lit (.pointer none)]) Go.Proofs.Try.func55 rfl Go.Proofs.Try.ntmps55 rfl ?_
  intro M w0 a hk
  unfold log_Log_Room_nil.f at h
  refine FW.wreg ?_; intro K' hK1
  refine FW.lfun (y := .lit (.int .i64 0)) hk rfl rfl rfl rfl (FW.f_assign hk (FW.holds_nil _) rfl) ?_; clear hk; intro a w hk
  refine FW.lend (hK1 _ _ ?_); clear hK1 K'
  refine FW.wseq ?_; intro K' hK2
  refine FW.wreg ?_; intro K' hK3
  refine FW.lfun (y := .lit (.pointer none)) hk rfl rfl rfl rfl (FW.f_move hk (FW.holds_nil _) rfl) ?_; clear hk; intro a w hk
  refine FW.lfun (y := .lit (.bool true)) hk rfl rfl rfl rfl ((FW.f_pure (FW.p_ptrEq Go.Proofs.Try.underlying79 hk.kn (FW.holds_nil _) rfl rfl rfl))) ?_; clear hk; intro a w hk
  refine FW.lend (hK3 _ _ ?_); clear hK3 K'
  refine FW.wcondT hk rfl ?_
  refine FW.wreg ?_; intro K' hK4
  refine FW.lfun (y := .lit (.int .i64 0)) hk rfl rfl rfl rfl (FW.f_assign hk (FW.holds_nil _) rfl) ?_; clear hk; intro a w hk
  refine FW.lend (hK4 _ _ ?_); clear hK4 K'
  refine wp_ret ?_
  (repeat first | refine FW.then_ret ?_ | refine FW.block_ret ?_)
  obtain rfl := Option.some.inj h
  exact FW.fret1 hk rfl rfl

theorem offshootlaw04_LogNone.ok (K : Nat) (v0 : List UInt8) (v1 : Int) (v2 : Int) (r : Bool) (h : offshootlaw04_LogNone.f K v0 v1 v2 = some r) :
    FW.Ok Go.Proofs.Try.prog 12 [.lit (.string (FW.B v0)), .lit (.int .i64 v1), .lit (.int .i64 v2)] (.lit (.bool r)) := by
  refine FW.enter (xs := [.lit (.string (FW.B v0)), .lit (.int .i64 v1), .lit (.int .i64 v2)]) Go.Proofs.Try.func12 rfl Go.Proofs.Try.ntmps12 rfl ?_
  intro M w0 a hk
  unfold offshootlaw04_LogNone.f at h
  refine FW.wreg ?_; intro K' hK1
  refine FW.lfun (y := .lit (.bool false)) hk rfl rfl rfl rfl (FW.f_assign hk (FW.holds_nil _) rfl) ?_; clear hk; intro a w hk
  refine FW.lend (hK1 _ _ ?_); clear hK1 K'
  refine FW.wreg ?_; intro K' hK2
  refine FW.lfun (y := .lit (.pointer none)) hk rfl rfl rfl rfl (FW.f_assign hk (FW.holds_nil _) rfl) ?_; clear hk; intro a w hk
  refine FW.lend (hK2 _ _ ?_); clear hK2 K'
  refine FW.wreg ?_; intro K' hK3
  refine FW.lfun (y := .lit (.pointer none)) hk rfl rfl rfl rfl (FW.f_move hk (FW.holds_nil _) rfl) ?_; clear hk; intro a w hk
  obtain ⟨t1, hr_t1, h⟩ := FW.bnd h
  refine FW.lfun (y := .tup []) hk rfl rfl rfl rfl (FW.f_call hk (FW.holds_nil _) rfl rfl Go.Proofs.Try.func48 rfl (by kernel_rfl) (log_Log_Reset_nil.ok  _ hr_t1)) ?_; clear hk; intro a w hk
  refine FW.lend (hK3 _ _ ?_); clear hK3 K'
  refine FW.wreg ?_; intro K' hK4
  obtain ⟨t2, hr_t2, h⟩ := FW.bnd h
  refine FW.l_callH (I1 := ([] : List FW.It)) (I2 := []) (js := []) hk rfl rfl rfl rfl rfl Go.Proofs.Try.func27 rfl (by kernel_rfl) (dev_New.ok K 10 _ hr_t2 ) ?_; clear hk
  rintro _ _ ⟨b1, xdNt2_0_0, xcNt2_0_0, xrNt2_0_1, rfl, rfl⟩ a w hk
  refine FW.lfun (y := .tup [.lit (.pointer (some ⟨b1, 0, none⟩)), .lit (.int .i64 t2.2)]) hk rfl rfl rfl rfl (FW.f_move hk (FW.holds_nil _) rfl) ?_; clear hk; intro a w hk
  refine FW.lfun (y := .lit (.pointer (some ⟨b1, 0, none⟩))) hk rfl rfl rfl rfl (FW.f_extract hk (FW.holds_nil _) rfl rfl) ?_; clear hk; intro a w hk
  refine FW.lfun (y := .lit (.int .i64 t2.2)) hk rfl rfl rfl rfl (FW.f_extract hk (FW.holds_nil _) rfl rfl) ?_; clear hk; intro a w hk
  refine FW.lfun (y := .lit (.pointer (some ⟨b1, 0, none⟩))) hk rfl rfl rfl rfl (FW.f_assign hk (FW.holds_nil _) rfl) ?_; clear hk; intro a w hk
  refine FW.lfun (y := .lit (.int .i64 t2.2)) hk rfl rfl rfl rfl (FW.f_assign hk (FW.holds_nil _) rfl) ?_; clear hk; intro a w hk
  refine FW.lend (hK4 _ _ ?_); clear hK4 K'
  refine FW.wreg ?_; intro K' hK5
  refine FW.lfun (y := .lit (.pointer (some ⟨b1, 0, none⟩))) hk rfl rfl rfl rfl (FW.f_move hk (FW.holds_nil _) rfl) ?_; clear hk; intro a w hk
  refine FW.lfun (y := .lit (.int .i64 v1)) hk rfl rfl rfl rfl (FW.f_move hk (FW.holds_nil _) rfl) ?_; clear hk; intro a w hk
  refine FW.lfun (y := .lit (.int .i64 v2)) hk rfl rfl rfl rfl (FW.f_move hk (FW.holds_nil _) rfl) ?_; clear hk; intro a w hk
  obtain ⟨t3, hr_t3, h⟩ := FW.bnd h
  refine FW.l_callH (I1 := (ODevDev.items b1 xdNt2_0_0 xcNt2_0_0 xrNt2_0_1 t2.1)) (I2 := []) (js := [2, 2, 2]) hk rfl rfl rfl rfl rfl Go.Proofs.Try.func47 rfl (by kernel_rfl) (log_Open_opt.ok K t2.1 v1 v2 1 _ hr_t3 b1 xdNt2_0_0 xcNt2_0_0 xrNt2_0_1) ?_; clear hk
  rintro _ _ ⟨b2, zd1, zc1, zr1, rfl, rfl⟩ a w hk
  replace hk := FW.S.dropL2 hk
  refine FW.lfun (y := .tup [FW.ptrO t3.1 b2, .row (r_c_str t3.2.1), .lit (.int .i64 t3.2.2.1)]) hk rfl rfl rfl rfl (FW.f_move hk (FW.holds_nil _) rfl) ?_; clear hk; intro a w hk
  refine FW.lfun (y := FW.ptrO t3.1 b2) hk rfl rfl rfl rfl (FW.f_extract hk (FW.holds_nil _) rfl rfl) ?_; clear hk; intro a w hk
  refine FW.lfun (y := .row (r_c_str t3.2.1)) hk rfl rfl rfl rfl (FW.f_extract hk (FW.holds_nil _) rfl rfl) ?_; clear hk; intro a w hk
  refine FW.lfun (y := .lit (.int .i64 t3.2.2.1)) hk rfl rfl rfl rfl (FW.f_extract hk (FW.holds_nil _) rfl rfl) ?_; clear hk; intro a w hk
  refine FW.lfun (y := FW.ptrO t3.1 b2) hk rfl rfl rfl rfl (FW.f_assign hk (FW.holds_nil _) rfl) ?_; clear hk; intro a w hk
  refine FW.lfun (y := .row (r_c_str t3.2.1)) hk rfl rfl rfl rfl (FW.f_assign hk (FW.holds_nil _) rfl) ?_; clear hk; intro a w hk
  refine FW.lfun (y := .lit (.int .i64 t3.2.2.1)) hk rfl rfl rfl rfl (FW.f_assign hk (FW.holds_nil _) rfl) ?_; clear hk; intro a w hk
  refine FW.lend (hK5 _ _ ?_); clear hK5 K'
  refine FW.wreg ?_; intro K' hK6
  refine FW.lfun (y := .lit (.int .i64 v1)) hk rfl rfl rfl rfl (FW.f_move hk (FW.holds_nil _) rfl) ?_; clear hk; intro a w hk
  refine FW.lfun (y := .lit (.bool (decide (0 ≤ v1)))) hk rfl rfl rfl rfl ((FW.f_pure (FW.p_geq hk.kn (FW.holds_nil _) rfl rfl))) ?_; clear hk; intro a w hk
  refine FW.lfun (y := .lit (.bool (decide (0 ≤ v1)))) hk rfl rfl rfl rfl (FW.f_move hk (FW.holds_nil _) rfl) ?_; clear hk; intro a w hk
  refine FW.lfunG (y := .lit (.int .i64 v2)) hk rfl rfl rfl rfl rfl rfl rfl rfl (fun hc => FW.f_move hk hc rfl) ?_; clear hk; intro a w hk
  refine FW.lfunG (y := .lit (.int .i64 v1)) hk rfl rfl rfl rfl rfl rfl rfl rfl (fun hc => FW.f_move hk hc rfl) ?_; clear hk; intro a w hk
  refine FW.lfunG (y := .lit (.bool (decide (v1 ≤ v2)))) hk rfl rfl rfl rfl rfl rfl rfl rfl (fun hc => (FW.f_pure (FW.p_geq hk.kn hc rfl rfl))) ?_; clear hk; intro a w hk
  refine FW.lfun (y := .lit (.bool ((decide (0 ≤ v1)) && (decide (v1 ≤ v2))))) hk rfl rfl rfl rfl ((FW.f_pure (FW.p_pick_and hk.kn (FW.holds_nil _) rfl rfl))) ?_; clear hk; intro a w hk
  refine FW.lfun (y := .lit (.bool ((decide (0 ≤ v1)) && (decide (v1 ≤ v2))))) hk rfl rfl rfl rfl (FW.f_move hk (FW.holds_nil _) rfl) ?_; clear hk; intro a w hk
  refine FW.lfunG (y := .lit (.int .i64 v2)) hk rfl rfl rfl rfl rfl rfl rfl rfl (fun hc => FW.f_move hk hc rfl) ?_; clear hk; intro a w hk
  refine FW.lfunG (y := .lit (.bool (decide (v2 ≤ 10)))) hk rfl rfl rfl rfl rfl rfl rfl rfl (fun hc => (FW.f_pure (FW.p_leq hk.kn hc rfl rfl))) ?_; clear hk; intro a w hk
  refine FW.lfun (y := .lit (.bool (((decide (0 ≤ v1)) && (decide (v1 ≤ v2))) && (decide (v2 ≤ 10))))) hk rfl rfl rfl rfl ((FW.f_pure (FW.p_pick_and hk.kn (FW.holds_nil _) rfl rfl))) ?_; clear hk; intro a w hk
  refine FW.lfun (y := .lit (.bool (((decide (0 ≤ v1)) && (decide (v1 ≤ v2))) && (decide (v2 ≤ 10))))) hk rfl rfl rfl rfl (FW.f_assign hk (FW.holds_nil _) rfl) ?_; clear hk; intro a w hk
  refine FW.lend (hK6 _ _ ?_); clear hK6 K'
  refine FW.wreg ?_; intro K' hK7
  obtain ⟨t4, hr_t4, h⟩ := FW.bnd h
  refine FW.l_callH (I1 := ([] : List FW.It)) (I2 := [FW.blk b1 109 ([.lit (.slice zd1 (List.length t3.2.2.2.sure) zc1)] ++ [.lit (.map (some zr1))] ++ [.lit (.int .i64 t3.2.2.2.steps)] ++ [.lit (.slice none 0 0)] ++ [.lit (.bool t3.2.2.2.off)]), FW.orow zd1 zc1 9 1 c_str t3.2.2.2.sure, FW.mapI (.int .i64) (Value.int .i64) FW.evS zr1 t3.2.2.2.cache]) (js := []) hk rfl rfl rfl rfl rfl Go.Proofs.Try.func47 rfl (by kernel_rfl) (log_Open_nil_opt.ok K 0 0 1 _ hr_t4 ) ?_; clear hk
  rintro _ _ ⟨b3, rfl, rfl⟩ a w hk
  replace hk := FW.S.dropL hk
  refine FW.lfun (y := .tup [FW.ptrO t4.1 b3, .row (r_c_str t4.2.1), .lit (.int .i64 t4.2.2)]) hk rfl rfl rfl rfl (FW.f_move hk (FW.holds_nil _) rfl) ?_; clear hk; intro a w hk
  refine FW.lfun (y := FW.ptrO t4.1 b3) hk rfl rfl rfl rfl (FW.f_extract hk (FW.holds_nil _) rfl rfl) ?_; clear hk; intro a w hk
  refine FW.lfun (y := .row (r_c_str t4.2.1)) hk rfl rfl rfl rfl (FW.f_extract hk (FW.holds_nil _) rfl rfl) ?_; clear hk; intro a w hk
  refine FW.lfun (y := .lit (.int .i64 t4.2.2)) hk rfl rfl rfl rfl (FW.f_extract hk (FW.holds_nil _) rfl rfl) ?_; clear hk; intro a w hk
  refine FW.lfun (y := FW.ptrO t4.1 b3) hk rfl rfl rfl rfl (FW.f_assign hk (FW.holds_nil _) rfl) ?_; clear hk; intro a w hk
  refine FW.lfun (y := .row (r_c_str t4.2.1)) hk rfl rfl rfl rfl (FW.f_assign hk (FW.holds_nil _) rfl) ?_; clear hk; intro a w hk
  refine FW.lfun (y := .lit (.int .i64 t4.2.2)) hk rfl rfl rfl rfl (FW.f_assign hk (FW.holds_nil _) rfl) ?_; clear hk; intro a w hk
  refine FW.lend (hK7 _ _ ?_); clear hK7 K'
  refine FW.wreg ?_; intro K' hK8
  refine FW.lfun (y := .lit (.pointer (some ⟨b1, 0, none⟩))) hk rfl rfl rfl rfl (FW.f_move hk (FW.holds_nil _) rfl) ?_; clear hk; intro a w hk
  obtain ⟨t5, hr_t5, h⟩ := FW.bnd h
  refine FW.l_callH (I1 := (ODevDev.items b1 zd1 zc1 zr1 t3.2.2.2)) (I2 := []) (js := [2, 2, 2]) hk rfl rfl rfl rfl rfl Go.Proofs.Try.func47 rfl (by kernel_rfl) (log_Open.ok K t3.2.2.2 0 10 1 _ hr_t5 b1 zd1 zc1 zr1) ?_; clear hk
  rintro _ _ ⟨b4, zd2, zc2, zr2, rfl, rfl⟩ a w hk
  refine FW.lfun (y := .tup [.lit (.pointer (some ⟨b4, 0, none⟩)), .row (r_c_str t5.2.1), .lit (.int .i64 t5.2.2.1)]) hk rfl rfl rfl rfl (FW.f_move hk (FW.holds_nil _) rfl) ?_; clear hk; intro a w hk
  refine FW.lfun (y := .lit (.pointer (some ⟨b4, 0, none⟩))) hk rfl rfl rfl rfl (FW.f_extract hk (FW.holds_nil _) rfl rfl) ?_; clear hk; intro a w hk
  refine FW.lfun (y := .row (r_c_str t5.2.1)) hk rfl rfl rfl rfl (FW.f_extract hk (FW.holds_nil _) rfl rfl) ?_; clear hk; intro a w hk
  refine FW.lfun (y := .lit (.int .i64 t5.2.2.1)) hk rfl rfl rfl rfl (FW.f_extract hk (FW.holds_nil _) rfl rfl) ?_; clear hk; intro a w hk
  refine FW.lfun (y := .lit (.pointer (some ⟨b4, 0, none⟩))) hk rfl rfl rfl rfl (FW.f_assign hk (FW.holds_nil _) rfl) ?_; clear hk; intro a w hk
  refine FW.lfun (y := .row (r_c_str t5.2.1)) hk rfl rfl rfl rfl (FW.f_assign hk (FW.holds_nil _) rfl) ?_; clear hk; intro a w hk
  refine FW.lfun (y := .lit (.int .i64 t5.2.2.1)) hk rfl rfl rfl rfl (FW.f_assign hk (FW.holds_nil _) rfl) ?_; clear hk; intro a w hk
  refine FW.lend (hK8 _ _ ?_); clear hK8 K'
  refine FW.wreg ?_; intro K' hK9
  refine FW.lfun (y := .lit (.pointer (some ⟨b1, 0, none⟩))) hk rfl rfl rfl rfl (FW.f_move hk (FW.holds_nil _) rfl) ?_; clear hk; intro a w hk
  obtain ⟨t6, hr_t6, h⟩ := FW.bnd h
  refine FW.l_callH (I1 := (ODevDev.items b1 zd2 zc2 zr2 t5.2.2.2)) (I2 := [FW.blk b4 127 ([.lit (.pointer (some ⟨b1, 0, none⟩))] ++ [.lit (.int .i64 t5.1.from_)] ++ [.lit (.int .i64 t5.1.to_)] ++ [.lit (.int .i64 t5.1.at_)] ++ [.lit (.int .u64 t5.1.next)])]) (js := [3, 3, 3]) hk rfl rfl rfl rfl rfl Go.Proofs.Try.func32 rfl (by kernel_rfl) (dev_Dev_Crash.ok K t5.2.2.2 0 0 _ hr_t6 b1 zd2 zc2 zr2) ?_; clear hk
  rintro _ _ ⟨zd3, zc3, zr3, rfl, rfl⟩ a w hk
  refine FW.lend (hK9 _ _ ?_); clear hK9 K'
  refine FW.wreg ?_; intro K' hK10
  refine FW.lfun (y := .lit (.pointer (some ⟨b1, 0, none⟩))) hk rfl rfl rfl rfl (FW.f_move hk (FW.holds_nil _) rfl) ?_; clear hk; intro a w hk
  obtain ⟨t7, hr_t7, h⟩ := FW.bnd h
  refine FW.l_callH (I1 := (ODevDev.items b1 zd3 zc3 zr3 t6)) (I2 := [FW.blk b4 127 ([.lit (.pointer (some ⟨b1, 0, none⟩))] ++ [.lit (.int .i64 t5.1.from_)] ++ [.lit (.int .i64 t5.1.to_)] ++ [.lit (.int .i64 t5.1.at_)] ++ [.lit (.int .u64 t5.1.next)])]) (js := [2, 2, 2]) hk rfl rfl rfl rfl rfl Go.Proofs.Try.func47 rfl (by kernel_rfl) (log_Open_opt.ok K t6 0 10 1 _ hr_t7 b1 zd3 zc3 zr3) ?_; clear hk
  rintro _ _ ⟨b5, zd4, zc4, zr4, rfl, rfl⟩ a w hk
  replace hk := FW.S.dropL2 hk
  refine FW.lfun (y := .tup [FW.ptrO t7.1 b5, .row (r_c_str t7.2.1), .lit (.int .i64 t7.2.2.1)]) hk rfl rfl rfl rfl (FW.f_move hk (FW.holds_nil _) rfl) ?_; clear hk; intro a w hk
  refine FW.lfun (y := FW.ptrO t7.1 b5) hk rfl rfl rfl rfl (FW.f_extract hk (FW.holds_nil _) rfl rfl) ?_; clear hk; intro a w hk
  refine FW.lfun (y := .row (r_c_str t7.2.1)) hk rfl rfl rfl rfl (FW.f_extract hk (FW.holds_nil _) rfl rfl) ?_; clear hk; intro a w hk
  refine FW.lfun (y := .lit (.int .i64 t7.2.2.1)) hk rfl rfl rfl rfl (FW.f_extract hk (FW.holds_nil _) rfl rfl) ?_; clear hk; intro a w hk
  refine FW.lfun (y := FW.ptrO t7.1 b5) hk rfl rfl rfl rfl (FW.f_assign hk (FW.holds_nil _) rfl) ?_; clear hk; intro a w hk
  refine FW.lfun (y := .row (r_c_str t7.2.1)) hk rfl rfl rfl rfl (FW.f_assign hk (FW.holds_nil _) rfl) ?_; clear hk; intro a w hk
  refine FW.lfun (y := .lit (.int .i64 t7.2.2.1)) hk rfl rfl rfl rfl (FW.f_assign hk (FW.holds_nil _) rfl) ?_; clear hk; intro a w hk
  refine FW.lend (hK10 _ _ ?_); clear hK10 K'
  refine FW.wreg ?_; intro K' hK11
  obtain ⟨t8, hr_t8, h⟩ := FW.bnd h
  refine FW.lfun (y := .lit (.bool t8)) hk rfl rfl rfl rfl (FW.f_call hk (FW.holds_nil _) rfl rfl Go.Proofs.Try.func44 rfl (by kernel_rfl) (offshootlaw04_awake.ok K  _ hr_t8)) ?_; clear hk; intro a w hk
  refine FW.lfun (y := .lit (.bool t8)) hk rfl rfl rfl rfl (FW.f_move hk (FW.holds_nil _) rfl) ?_; clear hk; intro a w hk
  refine FW.lfunG (y := .lit (.int .i64 t2.2)) hk rfl rfl rfl rfl rfl rfl rfl rfl (fun hc => FW.f_move hk hc rfl) ?_; clear hk; intro a w hk
  refine FW.lfunG (y := .lit (.bool (decide (t2.2 = 0)))) hk rfl rfl rfl rfl rfl rfl rfl rfl (fun hc => (FW.f_pure (FW.p_eql hk.kn hc rfl rfl))) ?_; clear hk; intro a w hk
  refine FW.lfun (y := .lit (.bool (t8 && (decide (t2.2 = 0))))) hk rfl rfl rfl rfl ((FW.f_pure (FW.p_pick_and hk.kn (FW.holds_nil _) rfl rfl))) ?_; clear hk; intro a w hk
  refine FW.lfun (y := .lit (.bool (t8 && (decide (t2.2 = 0))))) hk rfl rfl rfl rfl (FW.f_move hk (FW.holds_nil _) rfl) ?_; clear hk; intro a w hk
  refine FW.lfunG (y := .lit (.pointer none)) hk rfl rfl rfl rfl rfl rfl rfl rfl (fun hc => FW.f_move hk hc rfl) ?_; clear hk; intro a w hk
  refine FW.lfunG (y := .lit (.string (FW.B v0))) hk rfl rfl rfl rfl rfl rfl rfl rfl (fun hc => FW.f_move hk hc rfl) ?_; clear hk; intro a w hk
  obtain ⟨t9, hr_t9, h⟩ := FW.bndG h
  refine FW.lfunG (y := .lit (.string (FW.B t9))) hk rfl rfl rfl rfl rfl rfl rfl rfl (fun hc => FW.f_call hk hc rfl rfl Go.Proofs.Try.func49 rfl (by kernel_rfl) (offshootlaw04_few.ok v0 _ (hr_t9 (FW.asm_out (p := (t8 && (decide (t2.2 = 0))) = true) hk.kn hc (fun e0 => e0))))) ?_; clear hk; intro a w hk
  obtain ⟨t10, hr_t10, h⟩ := FW.bndG h
  refine FW.lfunG (y := .lit (.int .i64 t10)) hk rfl rfl rfl rfl rfl rfl rfl rfl (fun hc => FW.f_call hk hc rfl rfl Go.Proofs.Try.func50 rfl (by kernel_rfl) (log_Log_Add_nil.ok K t9 _ (hr_t10 (FW.asm_out (p := (t8 && (decide (t2.2 = 0))) = true) hk.kn hc (fun e0 => e0))))) ?_; clear hk; intro a w hk
  refine FW.lfunG (y := .lit (.bool (decide (t10 = 7)))) hk rfl rfl rfl rfl rfl rfl rfl rfl (fun hc => (FW.f_pure (FW.p_eql hk.kn hc rfl rfl))) ?_; clear hk; intro a w hk
  refine FW.lfun (y := .lit (.bool ((t8 && (decide (t2.2 = 0))) && (decide (t10 = 7))))) hk rfl rfl rfl rfl ((FW.f_pure (FW.p_pick_and hk.kn (FW.holds_nil _) rfl rfl))) ?_; clear hk; intro a w hk
  refine FW.lfun (y := .lit (.bool ((t8 && (decide (t2.2 = 0))) && (decide (t10 = 7))))) hk rfl rfl rfl rfl (FW.f_move hk (FW.holds_nil _) rfl) ?_; clear hk; intro a w hk
  refine FW.lfunG (y := .lit (.pointer none)) hk rfl rfl rfl rfl rfl rfl rfl rfl (fun hc => FW.f_move hk hc rfl) ?_; clear hk; intro a w hk
  obtain ⟨t11, hr_t11, h⟩ := FW.bndG h
  refine FW.lfunG (y := .lit (.int .u64 t11)) hk rfl rfl rfl rfl rfl rfl rfl rfl (fun hc => FW.f_call hk hc rfl rfl Go.Proofs.Try.func54 rfl (by kernel_rfl) (log_Log_Next_nil.ok  _ (hr_t11 (FW.asm_out (p := ((t8 && (decide (t2.2 = 0))) && (decide (t10 = 7))) = true) hk.kn hc (fun e0 => e0))))) ?_; clear hk; intro a w hk
  refine FW.lfunG (y := .lit (.bool (decide (t11 = 0)))) hk rfl rfl rfl rfl rfl rfl rfl rfl (fun hc => (FW.f_pure (FW.p_eql hk.kn hc rfl rfl))) ?_; clear hk; intro a w hk
  refine FW.lfun (y := .lit (.bool (((t8 && (decide (t2.2 = 0))) && (decide (t10 = 7))) && (decide (t11 = 0))))) hk rfl rfl rfl rfl ((FW.f_pure (FW.p_pick_and hk.kn (FW.holds_nil _) rfl rfl))) ?_; clear hk; intro a w hk
  refine FW.lfun (y := .lit (.bool (((t8 && (decide (t2.2 = 0))) && (decide (t10 = 7))) && (decide (t11 = 0))))) hk rfl rfl rfl rfl (FW.f_move hk (FW.holds_nil _) rfl) ?_; clear hk; intro a w hk
  refine FW.lfunG (y := .lit (.pointer none)) hk rfl rfl rfl rfl rfl rfl rfl rfl (fun hc => FW.f_move hk hc rfl) ?_; clear hk; intro a w hk
  obtain ⟨t12, hr_t12, h⟩ := FW.bndG h
  refine FW.lfunG (y := .lit (.int .i64 t12)) hk rfl rfl rfl rfl rfl rfl rfl rfl (fun hc => FW.f_call hk hc rfl rfl Go.Proofs.Try.func55 rfl (by kernel_rfl) (log_Log_Room_nil.ok  _ (hr_t12 (FW.asm_out (p := (((t8 && (decide (t2.2 = 0))) && (decide (t10 = 7))) && (decide (t11 = 0))) = true) hk.kn hc (fun e0 => e0))))) ?_; clear hk; intro a w hk
  refine FW.lfunG (y := .lit (.bool (decide (t12 = 0)))) hk rfl rfl rfl rfl rfl rfl rfl rfl (fun hc => (FW.f_pure (FW.p_eql hk.kn hc rfl rfl))) ?_; clear hk; intro a w hk
  refine FW.lfun (y := .lit (.bool ((((t8 && (decide (t2.2 = 0))) && (decide (t10 = 7))) && (decide (t11 = 0))) && (decide (t12 = 0))))) hk rfl rfl rfl rfl ((FW.f_pure (FW.p_pick_and hk.kn (FW.holds_nil _) rfl rfl))) ?_; clear hk; intro a w hk
  refine FW.lfun (y := .lit (.bool ((((t8 && (decide (t2.2 = 0))) && (decide (t10 = 7))) && (decide (t11 = 0))) && (decide (t12 = 0))))) hk rfl rfl rfl rfl (FW.f_move hk (FW.holds_nil _) rfl) ?_; clear hk; intro a w hk
  refine FW.lfunG (y := .lit (.int .i64 t3.2.2.1)) hk rfl rfl rfl rfl rfl rfl rfl rfl (fun hc => FW.f_move hk hc rfl) ?_; clear hk; intro a w hk
  refine FW.lfunG (y := .lit (.bool (decide (t3.2.2.1 = 0)))) hk rfl rfl rfl rfl rfl rfl rfl rfl (fun hc => (FW.f_pure (FW.p_eql hk.kn hc rfl rfl))) ?_; clear hk; intro a w hk
  refine FW.lfunG (y := .lit (.bool (((decide (0 ≤ v1)) && (decide (v1 ≤ v2))) && (decide (v2 ≤ 10))))) hk rfl rfl rfl rfl rfl rfl rfl rfl (fun hc => FW.f_move hk hc rfl) ?_; clear hk; intro a w hk
  refine FW.lfunG (y := .lit (.bool ((decide (t3.2.2.1 = 0)) == (((decide (0 ≤ v1)) && (decide (v1 ≤ v2))) && (decide (v2 ≤ 10)))))) hk rfl rfl rfl rfl rfl rfl rfl rfl (fun hc => (FW.f_pure (FW.p_beql Go.Proofs.Try.underlying4 hk.kn hc rfl rfl))) ?_; clear hk; intro a w hk
  refine FW.lfun (y := .lit (.bool (((((t8 && (decide (t2.2 = 0))) && (decide (t10 = 7))) && (decide (t11 = 0))) && (decide (t12 = 0))) && ((decide (t3.2.2.1 = 0)) == (((decide (0 ≤ v1)) && (decide (v1 ≤ v2))) && (decide (v2 ≤ 10))))))) hk rfl rfl rfl rfl ((FW.f_pure (FW.p_pick_and hk.kn (FW.holds_nil _) rfl rfl))) ?_; clear hk; intro a w hk
  refine FW.lfun (y := .lit (.bool (((((t8 && (decide (t2.2 = 0))) && (decide (t10 = 7))) && (decide (t11 = 0))) && (decide (t12 = 0))) && ((decide (t3.2.2.1 = 0)) == (((decide (0 ≤ v1)) && (decide (v1 ≤ v2))) && (decide (v2 ≤ 10))))))) hk rfl rfl rfl rfl (FW.f_move hk (FW.holds_nil _) rfl) ?_; clear hk; intro a w hk
  refine FW.lfunG (y := FW.ptrO t3.1 b2) hk rfl rfl rfl rfl rfl rfl rfl rfl (fun hc => FW.f_move hk hc rfl) ?_; clear hk; intro a w hk
  refine FW.lfunG (y := .lit (.bool (!(Option.isNone t3.1)))) hk rfl rfl rfl rfl rfl rfl rfl rfl (fun hc => (FW.f_pure (FW.p_ptrNe (b := (!(Option.isNone t3.1))) Go.Proofs.Try.underlying79 hk.kn hc rfl rfl (by rw [FW.isNone_ptrO])))) ?_; clear hk; intro a w hk
  refine FW.lfunG (y := .lit (.bool (((decide (0 ≤ v1)) && (decide (v1 ≤ v2))) && (decide (v2 ≤ 10))))) hk rfl rfl rfl rfl rfl rfl rfl rfl (fun hc => FW.f_move hk hc rfl) ?_; clear hk; intro a w hk
  refine FW.lfunG (y := .lit (.bool ((!(Option.isNone t3.1)) == (((decide (0 ≤ v1)) && (decide (v1 ≤ v2))) && (decide (v2 ≤ 10)))))) hk rfl rfl rfl rfl rfl rfl rfl rfl (fun hc => (FW.f_pure (FW.p_beql Go.Proofs.Try.underlying4 hk.kn hc rfl rfl))) ?_; clear hk; intro a w hk
  refine FW.lfun (y := .lit (.bool ((((((t8 && (decide (t2.2 = 0))) && (decide (t10 = 7))) && (decide (t11 = 0))) && (decide (t12 = 0))) && ((decide (t3.2.2.1 = 0)) == (((decide (0 ≤ v1)) && (decide (v1 ≤ v2))) && (decide (v2 ≤ 10))))) && ((!(Option.isNone t3.1)) == (((decide (0 ≤ v1)) && (decide (v1 ≤ v2))) && (decide (v2 ≤ 10))))))) hk rfl rfl rfl rfl ((FW.f_pure (FW.p_pick_and hk.kn (FW.holds_nil _) rfl rfl))) ?_; clear hk; intro a w hk
  refine FW.lfun (y := .lit (.bool ((((((t8 && (decide (t2.2 = 0))) && (decide (t10 = 7))) && (decide (t11 = 0))) && (decide (t12 = 0))) && ((decide (t3.2.2.1 = 0)) == (((decide (0 ≤ v1)) && (decide (v1 ≤ v2))) && (decide (v2 ≤ 10))))) && ((!(Option.isNone t3.1)) == (((decide (0 ≤ v1)) && (decide (v1 ≤ v2))) && (decide (v2 ≤ 10))))))) hk rfl rfl rfl rfl (FW.f_move hk (FW.holds_nil _) rfl) ?_; clear hk; intro a w hk
  refine FW.lfunG (y := .lit (.bool (((decide (0 ≤ v1)) && (decide (v1 ≤ v2))) && (decide (v2 ≤ 10))))) hk rfl rfl rfl rfl rfl rfl rfl rfl (fun hc => FW.f_move hk hc rfl) ?_; clear hk; intro a w hk
  refine FW.lfunG (y := .lit (.bool (((decide (0 ≤ v1)) && (decide (v1 ≤ v2))) && (decide (v2 ≤ 10))))) hk rfl rfl rfl rfl rfl rfl rfl rfl (fun hc => FW.f_move hk hc rfl) ?_; clear hk; intro a w hk
  refine FW.lfunG (y := .lit (.int .i64 t3.2.2.1)) hk rfl rfl rfl rfl rfl rfl rfl rfl (fun hc => FW.f_move hk hc rfl) ?_; clear hk; intro a w hk
  refine FW.lfunG (y := .lit (.bool (decide (t3.2.2.1 = 1)))) hk rfl rfl rfl rfl rfl rfl rfl rfl (fun hc => (FW.f_pure (FW.p_eql hk.kn hc rfl rfl))) ?_; clear hk; intro a w hk
  refine FW.lfunG (y := .lit (.bool ((((decide (0 ≤ v1)) && (decide (v1 ≤ v2))) && (decide (v2 ≤ 10))) || (decide (t3.2.2.1 = 1))))) hk rfl rfl rfl rfl rfl rfl rfl rfl (fun hc => (FW.f_pure (FW.p_pick_or hk.kn hc rfl rfl))) ?_; clear hk; intro a w hk
  refine FW.lfun (y := .lit (.bool (((((((t8 && (decide (t2.2 = 0))) && (decide (t10 = 7))) && (decide (t11 = 0))) && (decide (t12 = 0))) && ((decide (t3.2.2.1 = 0)) == (((decide (0 ≤ v1)) && (decide (v1 ≤ v2))) && (decide (v2 ≤ 10))))) && ((!(Option.isNone t3.1)) == (((decide (0 ≤ v1)) && (decide (v1 ≤ v2))) && (decide (v2 ≤ 10))))) && ((((decide (0 ≤ v1)) && (decide (v1 ≤ v2))) && (decide (v2 ≤ 10))) || (decide (t3.2.2.1 = 1)))))) hk rfl rfl rfl rfl ((FW.f_pure (FW.p_pick_and hk.kn (FW.holds_nil _) rfl rfl))) ?_; clear hk; intro a w hk
  refine FW.lfun (y := .lit (.bool (((((((t8 && (decide (t2.2 = 0))) && (decide (t10 = 7))) && (decide (t11 = 0))) && (decide (t12 = 0))) && ((decide (t3.2.2.1 = 0)) == (((decide (0 ≤ v1)) && (decide (v1 ≤ v2))) && (decide (v2 ≤ 10))))) && ((!(Option.isNone t3.1)) == (((decide (0 ≤ v1)) && (decide (v1 ≤ v2))) && (decide (v2 ≤ 10))))) && ((((decide (0 ≤ v1)) && (decide (v1 ≤ v2))) && (decide (v2 ≤ 10))) || (decide (t3.2.2.1 = 1)))))) hk rfl rfl rfl rfl (FW.f_move hk (FW.holds_nil _) rfl) ?_; clear hk; intro a w hk
  refine FW.lfunG (y := .lit (.int .i64 t4.2.2)) hk rfl rfl rfl rfl rfl rfl rfl rfl (fun hc => FW.f_move hk hc rfl) ?_; clear hk; intro a w hk
  refine FW.lfunG (y := .lit (.bool (decide (t4.2.2 = 1)))) hk rfl rfl rfl rfl rfl rfl rfl rfl (fun hc => (FW.f_pure (FW.p_eql hk.kn hc rfl rfl))) ?_; clear hk; intro a w hk
  refine FW.lfun (y := .lit (.bool ((((((((t8 && (decide (t2.2 = 0))) && (decide (t10 = 7))) && (decide (t11 = 0))) && (decide (t12 = 0))) && ((decide (t3.2.2.1 = 0)) == (((decide (0 ≤ v1)) && (decide (v1 ≤ v2))) && (decide (v2 ≤ 10))))) && ((!(Option.isNone t3.1)) == (((decide (0 ≤ v1)) && (decide (v1 ≤ v2))) && (decide (v2 ≤ 10))))) && ((((decide (0 ≤ v1)) && (decide (v1 ≤ v2))) && (decide (v2 ≤ 10))) || (decide (t3.2.2.1 = 1)))) && (decide (t4.2.2 = 1))))) hk rfl rfl rfl rfl ((FW.f_pure (FW.p_pick_and hk.kn (FW.holds_nil _) rfl rfl))) ?_; clear hk; intro a w hk
  refine FW.lfun (y := .lit (.bool ((((((((t8 && (decide (t2.2 = 0))) && (decide (t10 = 7))) && (decide (t11 = 0))) && (decide (t12 = 0))) && ((decide (t3.2.2.1 = 0)) == (((decide (0 ≤ v1)) && (decide (v1 ≤ v2))) && (decide (v2 ≤ 10))))) && ((!(Option.isNone t3.1)) == (((decide (0 ≤ v1)) && (decide (v1 ≤ v2))) && (decide (v2 ≤ 10))))) && ((((decide (0 ≤ v1)) && (decide (v1 ≤ v2))) && (decide (v2 ≤ 10))) || (decide (t3.2.2.1 = 1)))) && (decide (t4.2.2 = 1))))) hk rfl rfl rfl rfl (FW.f_move hk (FW.holds_nil _) rfl) ?_; clear hk; intro a w hk
  refine FW.lfunG (y := .lit (.int .i64 t5.2.2.1)) hk rfl rfl rfl rfl rfl rfl rfl rfl (fun hc => FW.f_move hk hc rfl) ?_; clear hk; intro a w hk
  refine FW.lfunG (y := .lit (.bool (decide (t5.2.2.1 = 0)))) hk rfl rfl rfl rfl rfl rfl rfl rfl (fun hc => (FW.f_pure (FW.p_eql hk.kn hc rfl rfl))) ?_; clear hk; intro a w hk
  refine FW.lfun (y := .lit (.bool (((((((((t8 && (decide (t2.2 = 0))) && (decide (t10 = 7))) && (decide (t11 = 0))) && (decide (t12 = 0))) && ((decide (t3.2.2.1 = 0)) == (((decide (0 ≤ v1)) && (decide (v1 ≤ v2))) && (decide (v2 ≤ 10))))) && ((!(Option.isNone t3.1)) == (((decide (0 ≤ v1)) && (decide (v1 ≤ v2))) && (decide (v2 ≤ 10))))) && ((((decide (0 ≤ v1)) && (decide (v1 ≤ v2))) && (decide (v2 ≤ 10))) || (decide (t3.2.2.1 = 1)))) && (decide (t4.2.2 = 1))) && (decide (t5.2.2.1 = 0))))) hk rfl rfl rfl rfl ((FW.f_pure (FW.p_pick_and hk.kn (FW.holds_nil _) rfl rfl))) ?_; clear hk; intro a w hk
  refine FW.lfun (y := .lit (.bool (((((((((t8 && (decide (t2.2 = 0))) && (decide (t10 = 7))) && (decide (t11 = 0))) && (decide (t12 = 0))) && ((decide (t3.2.2.1 = 0)) == (((decide (0 ≤ v1)) && (decide (v1 ≤ v2))) && (decide (v2 ≤ 10))))) && ((!(Option.isNone t3.1)) == (((decide (0 ≤ v1)) && (decide (v1 ≤ v2))) && (decide (v2 ≤ 10))))) && ((((decide (0 ≤ v1)) && (decide (v1 ≤ v2))) && (decide (v2 ≤ 10))) || (decide (t3.2.2.1 = 1)))) && (decide (t4.2.2 = 1))) && (decide (t5.2.2.1 = 0))))) hk rfl rfl rfl rfl (FW.f_move hk (FW.holds_nil _) rfl) ?_; clear hk; intro a w hk
  refine FW.lfunG (y := .lit (.pointer (some ⟨b4, 0, none⟩))) hk rfl rfl rfl rfl rfl rfl rfl rfl (fun hc => FW.f_move hk hc rfl) ?_; clear hk; intro a w hk
  refine FW.lfunG (y := .lit (.string (FW.B v0))) hk rfl rfl rfl rfl rfl rfl rfl rfl (fun hc => FW.f_move hk hc rfl) ?_; clear hk; intro a w hk
  obtain ⟨t13, hr_t13, h⟩ := FW.bndG h
  refine FW.lfunG (y := .lit (.string (FW.B t13))) hk rfl rfl rfl rfl rfl rfl rfl rfl (fun hc => FW.f_call hk hc rfl rfl Go.Proofs.Try.func49 rfl (by kernel_rfl) (offshootlaw04_few.ok v0 _ (hr_t13 (FW.asm_out (p := (((((((((t8 && (decide (t2.2 = 0))) && (decide (t10 = 7))) && (decide (t11 = 0))) && (decide (t12 = 0))) && ((decide (t3.2.2.1 = 0)) == (((decide (0 ≤ v1)) && (decide (v1 ≤ v2))) && (decide (v2 ≤ 10))))) && ((!(Option.isNone t3.1)) == (((decide (0 ≤ v1)) && (decide (v1 ≤ v2))) && (decide (v2 ≤ 10))))) && ((((decide (0 ≤ v1)) && (decide (v1 ≤ v2))) && (decide (v2 ≤ 10))) || (decide (t3.2.2.1 = 1)))) && (decide (t4.2.2 = 1))) && (decide (t5.2.2.1 = 0))) = true) hk.kn hc (fun e0 => e0))))) ?_; clear hk; intro a w hk
  obtain ⟨t14, hr_t14, hn_t14, h⟩ := FW.bndG2 h
  refine FW.l_callHG (I1 := (OLogLog.items b4 b1 t5.1) ++ (ODevDev.items b1 zd4 zc4 zr4 t7.2.2.2)) (I2 := []) (js := [2, 2, 2, 3]) hk rfl rfl rfl rfl rfl rfl rfl rfl rfl Go.Proofs.Try.func50 rfl (by kernel_rfl) (fun hc => log_Log_Add.ok K t5.1 t7.2.2.2 t13 _ (hr_t14 (FW.asm_out (p := (((((((((t8 && (decide (t2.2 = 0))) && (decide (t10 = 7))) && (decide (t11 = 0))) && (decide (t12 = 0))) && ((decide (t3.2.2.1 = 0)) == (((decide (0 ≤ v1)) && (decide (v1 ≤ v2))) && (decide (v2 ≤ 10))))) && ((!(Option.isNone t3.1)) == (((decide (0 ≤ v1)) && (decide (v1 ≤ v2))) && (decide (v2 ≤ 10))))) && ((((decide (0 ≤ v1)) && (decide (v1 ≤ v2))) && (decide (v2 ≤ 10))) || (decide (t3.2.2.1 = 1)))) && (decide (t4.2.2 = 1))) && (decide (t5.2.2.1 = 0))) = true) hk.kn hc (fun e0 => e0))) b4 b1 zd4 zc4 zr4) (fun hn => by obtain rfl := hn_t14 (fun hp => hn (FW.asm_in hk.kn (by have e0 := hp; exact ⟨e0, rfl, trivial⟩))); exact ⟨_, zd4, zc4, zr4, rfl, rfl⟩) ?_; clear hk
  rintro _ _ ⟨zd5, zc5, zr5, rfl, rfl⟩ a w hk
  refine FW.lfunG (y := .lit (.bool (decide (t14.1 = 7)))) hk rfl rfl rfl rfl rfl rfl rfl rfl (fun hc => (FW.f_pure (FW.p_eql hk.kn hc rfl rfl))) ?_; clear hk; intro a w hk
  refine FW.lfun (y := .lit (.bool ((((((((((t8 && (decide (t2.2 = 0))) && (decide (t10 = 7))) && (decide (t11 = 0))) && (decide (t12 = 0))) && ((decide (t3.2.2.1 = 0)) == (((decide (0 ≤ v1)) && (decide (v1 ≤ v2))) && (decide (v2 ≤ 10))))) && ((!(Option.isNone t3.1)) == (((decide (0 ≤ v1)) && (decide (v1 ≤ v2))) && (decide (v2 ≤ 10))))) && ((((decide (0 ≤ v1)) && (decide (v1 ≤ v2))) && (decide (v2 ≤ 10))) || (decide (t3.2.2.1 = 1)))) && (decide (t4.2.2 = 1))) && (decide (t5.2.2.1 = 0))) && (decide (t14.1 = 7))))) hk rfl rfl rfl rfl ((FW.f_pure (FW.p_pick_and hk.kn (FW.holds_nil _) rfl rfl))) ?_; clear hk; intro a w hk
  refine FW.lfun (y := .lit (.bool ((((((((((t8 && (decide (t2.2 = 0))) && (decide (t10 = 7))) && (decide (t11 = 0))) && (decide (t12 = 0))) && ((decide (t3.2.2.1 = 0)) == (((decide (0 ≤ v1)) && (decide (v1 ≤ v2))) && (decide (v2 ≤ 10))))) && ((!(Option.isNone t3.1)) == (((decide (0 ≤ v1)) && (decide (v1 ≤ v2))) && (decide (v2 ≤ 10))))) && ((((decide (0 ≤ v1)) && (decide (v1 ≤ v2))) && (decide (v2 ≤ 10))) || (decide (t3.2.2.1 = 1)))) && (decide (t4.2.2 = 1))) && (decide (t5.2.2.1 = 0))) && (decide (t14.1 = 7))))) hk rfl rfl rfl rfl (FW.f_move hk (FW.holds_nil _) rfl) ?_; clear hk; intro a w hk
  refine FW.lfunG (y := .lit (.int .i64 t7.2.2.1)) hk rfl rfl rfl rfl rfl rfl rfl rfl (fun hc => FW.f_move hk hc rfl) ?_; clear hk; intro a w hk
  refine FW.lfunG (y := .lit (.bool (decide (t7.2.2.1 = 7)))) hk rfl rfl rfl rfl rfl rfl rfl rfl (fun hc => (FW.f_pure (FW.p_eql hk.kn hc rfl rfl))) ?_; clear hk; intro a w hk
  refine FW.lfun (y := .lit (.bool (((((((((((t8 && (decide (t2.2 = 0))) && (decide (t10 = 7))) && (decide (t11 = 0))) && (decide (t12 = 0))) && ((decide (t3.2.2.1 = 0)) == (((decide (0 ≤ v1)) && (decide (v1 ≤ v2))) && (decide (v2 ≤ 10))))) && ((!(Option.isNone t3.1)) == (((decide (0 ≤ v1)) && (decide (v1 ≤ v2))) && (decide (v2 ≤ 10))))) && ((((decide (0 ≤ v1)) && (decide (v1 ≤ v2))) && (decide (v2 ≤ 10))) || (decide (t3.2.2.1 = 1)))) && (decide (t4.2.2 = 1))) && (decide (t5.2.2.1 = 0))) && (decide (t14.1 = 7))) && (decide (t7.2.2.1 = 7))))) hk rfl rfl rfl rfl ((FW.f_pure (FW.p_pick_and hk.kn (FW.holds_nil _) rfl rfl))) ?_; clear hk; intro a w hk
  refine FW.lfun (y := .lit (.bool (((((((((((t8 && (decide (t2.2 = 0))) && (decide (t10 = 7))) && (decide (t11 = 0))) && (decide (t12 = 0))) && ((decide (t3.2.2.1 = 0)) == (((decide (0 ≤ v1)) && (decide (v1 ≤ v2))) && (decide (v2 ≤ 10))))) && ((!(Option.isNone t3.1)) == (((decide (0 ≤ v1)) && (decide (v1 ≤ v2))) && (decide (v2 ≤ 10))))) && ((((decide (0 ≤ v1)) && (decide (v1 ≤ v2))) && (decide (v2 ≤ 10))) || (decide (t3.2.2.1 = 1)))) && (decide (t4.2.2 = 1))) && (decide (t5.2.2.1 = 0))) && (decide (t14.1 = 7))) && (decide (t7.2.2.1 = 7))))) hk rfl rfl rfl rfl (FW.f_assign hk (FW.holds_nil _) rfl) ?_; clear hk; intro a w hk
  refine FW.lend (hK11 _ _ ?_); clear hK11 K'
  refine wp_ret ?_
  (repeat first | refine FW.then_ret ?_ | refine FW.block_ret ?_)
  obtain rfl := Option.some.inj h
  exact FW.fret1 hk rfl rfl
end Go.Proofs.Ytimaibcaehagjaa

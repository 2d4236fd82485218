/- Written by a program of this session (gen.py): the contracts of functions of the program. -/
import Derived.KernelRfl
import Derived.Test.YtimaibcaehagjaaProg
import Derived.Test.YtimaibcaehagjaaAvFun
import Derived.Test.YtimaibcaehagjaaAvMan
import Derived.Test.YtimaibcaehagjaaAvMore
import Derived.Test.YtimaibcaehagjaaAvDraw2
import Derived.Test.YtimaibcaehagjaaAvRow
import Derived.Test.YtimaibcaehagjaaHn
import Derived.Test.YtimaibcaehagjaaHg
import Derived.Test.YtimaibcaehagjaaHar
import Derived.Test.YtimaibcaehagjaaHc
import Derived.Test.YtimaibcaehagjaaFx
import Derived.Test.YtimaibcaehagjaaDxP1
import Derived.Test.YtimaibcaehagjaaFy2
import Derived.Test.YtimaibcaehagjaaHl
import Derived.Test.YtimaibcaehagjaaHnl
import Derived.Test.YtimaibcaehagjaaLhD
namespace Go.Proofs.Ytimaibcaehagjaa
set_option linter.unusedVariables false
set_option maxRecDepth 20000
set_option maxHeartbeats 10000000
theorem val_Wide.ok (K : Nat) (v0 : List UInt8) (r : Int) (h : val_Wide.f K v0 = some r) :
    FW.Ok Go.Proofs.Try.prog 95 [.lit (.string (FW.B v0))] (.lit (.int .u64 r)) := by
  refine FW.enter (xs := [.lit (.string (FW.B v0))]) Go.Proofs.Try.func95 rfl Go.Proofs.Try.ntmps95 rfl ?_
  intro M w0 a hk
  unfold val_Wide.f at h
  refine FW.wreg ?_; intro K' hK1
  refine FW.lfun (y := .lit (.int .u64 0)) hk rfl rfl rfl rfl (FW.f_assign hk (FW.holds_nil _) rfl) ?_; clear hk; intro a w hk
  refine FW.lend (hK1 _ _ ?_); clear hK1 K'
  refine FW.wreg ?_; intro K' hK2
  refine FW.lfun (y := .lit (.int .u64 0)) hk rfl rfl rfl rfl (FW.f_assign hk (FW.holds_nil _) rfl) ?_; clear hk; intro a w hk
  refine FW.lend (hK2 _ _ ?_); clear hK2 K'
  refine FW.wseq ?_; intro K' hK3
  refine FW.wreg ?_; intro K' hK4
  refine FW.lfun (y := .lit (.string (FW.B v0))) hk rfl rfl rfl rfl (FW.f_move hk (FW.holds_nil _) rfl) ?_; clear hk; intro a w hk
  refine FW.lfun (y := .lit (.int .i64 (List.length v0 : Int))) hk rfl rfl rfl rfl ((FW.f_pure (FW.p_slen Go.Proofs.Try.underlying9 hk.kn (FW.holds_nil _) rfl))) ?_; clear hk; intro a w hk
  refine FW.lfun (y := .lit (.int .i64 (if 8 < (List.length v0 : Int) then 8 else (List.length v0 : Int)))) hk rfl rfl rfl rfl ((FW.f_pure (FW.p_min hk.kn (FW.holds_nil _) rfl rfl))) ?_; clear hk; intro a w hk
  refine FW.lfun (y := .lit (.int .i64 0)) hk rfl rfl rfl rfl (FW.f_move hk (FW.holds_nil _) rfl) ?_; clear hk; intro a w hk
  refine FW.lend (hK4 _ _ ?_); clear hK4 K'
  refine wp_block ?_
  refine FW.wloop (T := Nat × List UInt8 × Int × Int × Int) (fun x a w => match x with | (kl1, v0, v3, v7, v8) => FW.S M w0 a w 20 [] [(0, [], .lit (.string (FW.B v0))), (3, [], .lit (.int .u64 v3)), (7, [], .lit (.int .i64 v7)), (8, [], .lit (.int .i64 v8))] ∧ val_Wide.l1 K kl1 v0 v3 v7 v8 = some r) (fun x => x.1) (K, v0, 0, (if 8 < (List.length v0 : Int) then 8 else (List.length v0 : Int)), 0) ⟨hk.sub ⟨rfl, rfl, rfl, rfl, trivial⟩, h⟩ ?_
  clear hk h
  rintro ⟨kl1, v0, v3, v7, v8⟩ a w ⟨hk, h⟩ K' hK5
  cases kl1 with
  | zero => simp [val_Wide.l1] at h
  | succ kl1 =>
  rw [val_Wide.l1.eq_2] at h
  refine FW.wreg ?_; intro K' hK6
  refine FW.lfun (y := .lit (.bool (decide (v8 < v7)))) hk rfl rfl rfl rfl ((FW.f_pure (FW.p_lss hk.kn (FW.holds_nil _) rfl rfl))) ?_; clear hk; intro a w hk
  refine FW.lend (hK6 _ _ ?_); clear hK6 K'
  refine FW.wseq ?_; intro K' hK7
  refine FW.wcondF (b := (decide (v8 < v7))) hk h rfl (fun h hb => ?_) (fun h hb => ?_)
  · skip
    refine wp_skip ?_
    (repeat first | refine FW.then_normal ?_ | refine FW.block_normal ?_); refine hK7 _ _ ?_
    refine FW.wseq ?_; intro K' hK8
    refine wp_block ?_
    refine FW.wreg ?_; intro K' hK9
    refine FW.lfun (y := .lit (.int .i64 v8)) hk rfl rfl rfl rfl (FW.f_move hk (FW.holds_nil _) rfl) ?_; clear hk; intro a w hk
    refine FW.lfun (y := .lit (.int .i64 v8)) hk rfl rfl rfl rfl (FW.f_assign hk (FW.holds_nil _) rfl) ?_; clear hk; intro a w hk
    refine FW.lend (hK9 _ _ ?_); clear hK9 K'
    refine FW.wreg1 ?_
    refine FW.lfun (y := .lit (.int .u64 v3)) hk rfl rfl rfl rfl (FW.f_move hk (FW.holds_nil _) rfl) ?_; clear hk; intro a w hk
    refine FW.lfun (y := .lit (.int .u64 (FW.shlI .u64 v3 8))) hk rfl rfl rfl rfl ((FW.f_pure (FW.p_shl hk.kn (FW.holds_nil _) rfl rfl (show (0 : Int) ≤ 8 from by decide)))) ?_; clear hk; intro a w hk
    refine FW.lfun (y := .lit (.string (FW.B v0))) hk rfl rfl rfl rfl (FW.f_move hk (FW.holds_nil _) rfl) ?_; clear hk; intro a w hk
    refine FW.lfun (y := .lit (.int .i64 v8)) hk rfl rfl rfl rfl (FW.f_move hk (FW.holds_nil _) rfl) ?_; clear hk; intro a w hk
    obtain ⟨hc1, h⟩ := FW.chk h
    refine FW.lfun (y := .lit (.int .u8 (FW.bt v0 v8))) hk rfl rfl rfl rfl ((FW.f_pure (FW.p_index Go.Proofs.Try.underlying9 hk.kn (FW.holds_nil _) rfl rfl hc1))) ?_; clear hk; intro a w hk
    refine FW.lfun (y := .lit (.int .u64 (IntKind.wrap .u64 (FW.bt v0 v8)))) hk rfl rfl rfl rfl ((FW.f_pure (FW.p_conv Go.Proofs.Try.underlying5 Go.Proofs.Try.underlying29 hk.kn (FW.holds_nil _) rfl))) ?_; clear hk; intro a w hk
    refine FW.lfun (y := .lit (.int .u64 (FW.orI .u64 (FW.shlI .u64 v3 8) (IntKind.wrap .u64 (FW.bt v0 v8))))) hk rfl rfl rfl rfl ((FW.f_pure (FW.p_or hk.kn (FW.holds_nil _) rfl rfl))) ?_; clear hk; intro a w hk
    refine FW.lfun (y := .lit (.int .u64 (FW.orI .u64 (FW.shlI .u64 v3 8) (IntKind.wrap .u64 (FW.bt v0 v8))))) hk rfl rfl rfl rfl (FW.f_assign hk (FW.holds_nil _) rfl) ?_; clear hk; intro a w hk
    refine wpList_nil ?_
    (repeat first | refine FW.then_normal ?_ | refine FW.block_normal ?_); refine hK8 _ _ ?_
    refine FW.wreg1 ?_
    refine FW.lfun (y := .lit (.int .i64 (IntKind.wrap .i64 (v8 + 1)))) hk rfl rfl rfl rfl ((FW.f_pure (FW.p_add hk.kn (FW.holds_nil _) rfl rfl))) ?_; clear hk; intro a w hk
    refine FW.lfun (y := .lit (.int .i64 (IntKind.wrap .i64 (v8 + 1)))) hk rfl rfl rfl rfl (FW.f_move hk (FW.holds_nil _) rfl) ?_; clear hk; intro a w hk
    refine wpList_nil ?_
    (repeat first | refine FW.then_normal ?_ | refine FW.block_normal ?_); exact hK5 (kl1, v0, (FW.orI .u64 (FW.shlI .u64 v3 8) (IntKind.wrap .u64 (FW.bt v0 v8))), v7, (IntKind.wrap .i64 (v8 + 1))) _ _ (Nat.lt_succ_self _) ⟨hk.sub ⟨rfl, rfl, rfl, rfl, trivial⟩, h⟩
  · skip
    refine wp_exit ?_; (repeat first | refine FW.then_exit ?_ | refine FW.block_exit_ne rfl ?_); refine FW.block_exit ?_
    (repeat first | refine FW.then_normal ?_ | refine FW.block_normal ?_); refine hK3 _ _ ?_
    refine FW.wreg ?_; intro K' hK12
    refine FW.lfun (y := .lit (.int .u64 v3)) hk rfl rfl rfl rfl (FW.f_move hk (FW.holds_nil _) rfl) ?_; clear hk; intro a w hk
    refine FW.lfun (y := .lit (.int .u64 v3)) hk rfl rfl rfl rfl (FW.f_assign hk (FW.holds_nil _) rfl) ?_; clear hk; intro a w hk
    refine FW.lend (hK12 _ _ ?_); clear hK12 K'
    refine wp_ret ?_
    (repeat first | refine FW.then_ret ?_ | refine FW.block_ret ?_)
    obtain rfl := Option.some.inj h
    exact FW.fret1 hk rfl rfl

theorem log_Sectors.ok  (v0 : Int) (r : Int) (h : log_Sectors.f v0 = some r) :
    FW.Ok Go.Proofs.Try.prog 45 [.lit (.int .i64 v0)] (.lit (.int .i64 r)) := by
  refine FW.enter (xs := [.lit (.int .i64 v0)]) Go.Proofs.Try.func45 rfl Go.Proofs.Try.ntmps45 rfl ?_
  intro M w0 a hk
  unfold log_Sectors.f at h
  refine FW.wreg ?_; intro K' hK1
  refine FW.lfun (y := .lit (.int .i64 0)) hk rfl rfl rfl rfl (FW.f_assign hk (FW.holds_nil _) rfl) ?_; clear hk; intro a w hk
  refine FW.lend (hK1 _ _ ?_); clear hK1 K'
  refine FW.wreg ?_; intro K' hK2
  refine FW.lfun (y := .lit (.int .i64 v0)) hk rfl rfl rfl rfl (FW.f_move hk (FW.holds_nil _) rfl) ?_; clear hk; intro a w hk
  refine FW.lfun (y := .lit (.int .i64 (IntKind.wrap .i64 (v0 - 104)))) hk rfl rfl rfl rfl ((FW.f_pure (FW.p_sub hk.kn (FW.holds_nil _) rfl rfl))) ?_; clear hk; intro a w hk
  refine FW.lfun (y := .lit (.int .i64 (if (IntKind.wrap .i64 (v0 - 104)) < 0 then 0 else (IntKind.wrap .i64 (v0 - 104))))) hk rfl rfl rfl rfl ((FW.f_pure (FW.p_max hk.kn (FW.holds_nil _) rfl rfl))) ?_; clear hk; intro a w hk
  refine FW.lfun (y := .lit (.int .i64 (IntKind.wrap .i64 ((if (IntKind.wrap .i64 (v0 - 104)) < 0 then 0 else (IntKind.wrap .i64 (v0 - 104))) + 128)))) hk rfl rfl rfl rfl ((FW.f_pure (FW.p_add hk.kn (FW.holds_nil _) rfl rfl))) ?_; clear hk; intro a w hk
  refine FW.lfun (y := .lit (.int .i64 (IntKind.wrap .i64 ((IntKind.wrap .i64 ((if (IntKind.wrap .i64 (v0 - 104)) < 0 then 0 else (IntKind.wrap .i64 (v0 - 104))) + 128)) - 1)))) hk rfl rfl rfl rfl ((FW.f_pure (FW.p_sub hk.kn (FW.holds_nil _) rfl rfl))) ?_; clear hk; intro a w hk
  refine FW.lfun (y := .lit (.int .i64 (IntKind.wrap .i64 (Int.tdiv (IntKind.wrap .i64 ((IntKind.wrap .i64 ((if (IntKind.wrap .i64 (v0 - 104)) < 0 then 0 else (IntKind.wrap .i64 (v0 - 104))) + 128)) - 1)) 128)))) hk rfl rfl rfl rfl ((FW.f_pure (FW.p_quo hk.kn (FW.holds_nil _) rfl rfl (show ¬ (128 : Int) = 0 from by decide)))) ?_; clear hk; intro a w hk
  refine FW.lfun (y := .lit (.int .i64 (IntKind.wrap .i64 (1 + (IntKind.wrap .i64 (Int.tdiv (IntKind.wrap .i64 ((IntKind.wrap .i64 ((if (IntKind.wrap .i64 (v0 - 104)) < 0 then 0 else (IntKind.wrap .i64 (v0 - 104))) + 128)) - 1)) 128)))))) hk rfl rfl rfl rfl ((FW.f_pure (FW.p_add hk.kn (FW.holds_nil _) rfl rfl))) ?_; clear hk; intro a w hk
  refine FW.lfun (y := .lit (.int .i64 (IntKind.wrap .i64 (1 + (IntKind.wrap .i64 (Int.tdiv (IntKind.wrap .i64 ((IntKind.wrap .i64 ((if (IntKind.wrap .i64 (v0 - 104)) < 0 then 0 else (IntKind.wrap .i64 (v0 - 104))) + 128)) - 1)) 128)))))) hk rfl rfl rfl rfl (FW.f_assign hk (FW.holds_nil _) rfl) ?_; clear hk; intro a w hk
  refine FW.lend (hK2 _ _ ?_); clear hK2 K'
  refine wp_ret ?_
  (repeat first | refine FW.then_ret ?_ | refine FW.block_ret ?_)
  obtain rfl := Option.some.inj h
  exact FW.fret1 hk rfl rfl

theorem log_Log_read.ok (K : Nat) (v0 : OLogLog) (v0_0 : ODevDev) (r : List UInt8 × Bool) (h : log_Log_read.f K v0 v0_0 = some r) :
    ∀ (b0 : Nat) (b0_0 : Nat) (xd0_0_0 : Option Addr) (xc0_0_0 : Nat) (xr0_0_1 : Nat) (xd0_0_3 : Option Addr) (xc0_0_3 : Nat), FW.OkH Go.Proofs.Try.prog 73 [.lit (.pointer (some ⟨b0, 0, none⟩))] ((OLogLog.items b0 b0_0 v0) ++ (ODevDev.items b0_0 xd0_0_0 xc0_0_0 xr0_0_1 xd0_0_3 xc0_0_3 v0_0)) (fun y I => y = .tup [.lit (.string (FW.B r.1)), .lit (.bool r.2)] ∧ I = (OLogLog.items b0 b0_0 v0) ++ (ODevDev.items b0_0 xd0_0_0 xc0_0_0 xr0_0_1 xd0_0_3 xc0_0_3 v0_0)) := by
  intro b0 b0_0 xd0_0_0 xc0_0_0 xr0_0_1 xd0_0_3 xc0_0_3
  refine FW.enterH (xs := [.lit (.pointer (some ⟨b0, 0, none⟩))]) Go.Proofs.Try.func73 rfl Go.Proofs.Try.ntmps73 rfl ?_
  intro M w0 a hk
  replace hk : FW.S M w0 a w0.toWorld 113 [FW.blk b0 127 ([.lit (.pointer (some ⟨b0_0, 0, none⟩)), .lit (.int .i64 v0.from_), .lit (.int .i64 v0.to_), .lit (.int .i64 v0.at_), .lit (.int .u64 v0.next)]), FW.blk b0_0 109 ([.lit (.slice xd0_0_0 (List.length v0_0.sure) xc0_0_0), .lit (.map (some xr0_0_1)), .lit (.int .i64 v0_0.steps), .lit (.slice xd0_0_3 (List.length v0_0.falls) xc0_0_3), .lit (.bool v0_0.off)]), FW.orow xd0_0_0 xc0_0_0 9 1 c_str v0_0.sure, FW.mapI (.int .i64) (Value.int .i64) FW.evS xr0_0_1 v0_0.cache, FW.orow xd0_0_3 xc0_0_3 45 3 ApiFall.cells v0_0.falls] [(0, [], .lit (.pointer (some ⟨b0, 0, none⟩)))] := hk
  unfold log_Log_read.f at h
  refine FW.wreg ?_; intro K' hK1
  refine FW.lfun (y := .lit (.string (FW.B ([] : List UInt8)))) hk rfl rfl rfl rfl (FW.f_assign hk (FW.holds_nil _) rfl) ?_; clear hk; intro a w hk
  refine FW.lfun (y := .lit (.bool false)) hk rfl rfl rfl rfl (FW.f_assign hk (FW.holds_nil _) rfl) ?_; clear hk; intro a w hk
  refine FW.lend (hK1 _ _ ?_); clear hK1 K'
  refine FW.wseq ?_; intro K' hK2
  refine FW.wdraw (by kernel_rfl) (by kernel_rfl) hk ?_; clear hk
  refine FW.dfun (y := .lit (.pointer (some ⟨b0, 0, none⟩))) rfl rfl rfl rfl (fun a w hk => FW.f_move hk (FW.holds_nil _) rfl) ?_
  refine FW.dfun (y := .lit (.pointer (some ⟨b0, 0, none⟩))) rfl rfl rfl rfl (fun a w hk => (FW.f_pure (FW.p_nilCheck hk.kn (FW.holds_nil _) rfl))) ?_
  refine FW.dfun (y := .lit (.pointer (some ⟨b0, 3, none⟩))) rfl rfl rfl rfl (fun a w hk => FW.f_fieldPtr hk (FW.holds_nil _) rfl Go.Proofs.Try.underlying127 rfl (by kernel_rfl) rfl) ?_
  refine FW.dfun (y := .lit (.int .i64 v0.at_)) rfl rfl rfl rfl (fun a w hk => FW.f_loadBlk1 hk (FW.holds_nil _) (j := 0) rfl rfl Go.Proofs.Try.underlying3 rfl rfl) ?_
  refine FW.dfun (y := .lit (.pointer (some ⟨b0, 0, none⟩))) rfl rfl rfl rfl (fun a w hk => FW.f_move hk (FW.holds_nil _) rfl) ?_
  refine FW.dfun (y := .lit (.pointer (some ⟨b0, 0, none⟩))) rfl rfl rfl rfl (fun a w hk => (FW.f_pure (FW.p_nilCheck hk.kn (FW.holds_nil _) rfl))) ?_
  refine FW.dfun (y := .lit (.pointer (some ⟨b0, 2, none⟩))) rfl rfl rfl rfl (fun a w hk => FW.f_fieldPtr hk (FW.holds_nil _) rfl Go.Proofs.Try.underlying127 rfl (by kernel_rfl) rfl) ?_
  refine FW.dfun (y := .lit (.int .i64 v0.to_)) rfl rfl rfl rfl (fun a w hk => FW.f_loadBlk1 hk (FW.holds_nil _) (j := 0) rfl rfl Go.Proofs.Try.underlying3 rfl rfl) ?_
  refine FW.dfun (y := .lit (.bool (decide (v0.to_ ≤ v0.at_)))) rfl rfl rfl rfl (fun a w hk => (FW.f_pure (FW.p_geq hk.kn (FW.holds_nil _) rfl rfl))) ?_
  refine FW.dend ?_; intro a w hk
  refine FW.wcondF (b := (decide (v0.to_ ≤ v0.at_))) hk h rfl (fun h hb => ?_) (fun h hb => ?_)
  · skip
    refine FW.wreg ?_; intro K' hK4
    refine FW.lfun (y := .lit (.string (FW.B ([] : List UInt8)))) hk rfl rfl rfl rfl (FW.f_assign hk (FW.holds_nil _) rfl) ?_; clear hk; intro a w hk
    refine FW.lfun (y := .lit (.bool false)) hk rfl rfl rfl rfl (FW.f_assign hk (FW.holds_nil _) rfl) ?_; clear hk; intro a w hk
    refine FW.lend (hK4 _ _ ?_); clear hK4 K'
    refine wp_ret ?_
    (repeat first | refine FW.then_ret ?_ | refine FW.block_ret ?_)
    obtain rfl := Option.some.inj h
    replace hk := FW.S.keep (I1 := [FW.blk b0 127 ([.lit (.pointer (some ⟨b0_0, 0, none⟩)), .lit (.int .i64 v0.from_), .lit (.int .i64 v0.to_), .lit (.int .i64 v0.at_), .lit (.int .u64 v0.next)]), FW.blk b0_0 109 ([.lit (.slice xd0_0_0 (List.length v0_0.sure) xc0_0_0), .lit (.map (some xr0_0_1)), .lit (.int .i64 v0_0.steps), .lit (.slice xd0_0_3 (List.length v0_0.falls) xc0_0_3), .lit (.bool v0_0.off)]), FW.orow xd0_0_0 xc0_0_0 9 1 c_str v0_0.sure, FW.mapI (.int .i64) (Value.int .i64) FW.evS xr0_0_1 v0_0.cache, FW.orow xd0_0_3 xc0_0_3 45 3 ApiFall.cells v0_0.falls]) (I2 := []) (js := [4, 4, 4, 4, 4]) hk rfl
    exact FW.fretH2 hk rfl (FW.rtmp hk rfl) (FW.rtmp hk rfl) ⟨rfl, rfl⟩
  · skip
    refine wp_skip ?_
    (repeat first | refine FW.then_normal ?_ | refine FW.block_normal ?_); refine hK2 _ _ ?_
    obtain ⟨t1, hr_t1, h⟩ := FW.bnd h
    refine FW.wdrawE (.next [true, true, true, true, true, true, true, true, false, false, false, false, false, false] 8 [true, true, true, true, true, true, true, true, false, false, false, false, false, false] (.leaf [false, false, false, false, false, false, false, false, false, true, true, true, true, true])) [(22, [], .lit (.pointer (some ⟨b0, 0, none⟩))), (23, [], .lit (.pointer (some ⟨b0, 0, none⟩))), (24, [], .lit (.pointer (some ⟨b0, 0, none⟩))), (25, [], .lit (.pointer (some ⟨b0_0, 0, none⟩))), (26, [], .lit (.pointer (some ⟨b0, 0, none⟩))), (27, [], .lit (.pointer (some ⟨b0, 0, none⟩))), (28, [], .lit (.pointer (some ⟨b0, 3, none⟩))), (29, [], .lit (.int .i64 v0.at_)), (30, [], .agg []), (21, [], .agg []), (31, [], .agg []), (32, [], .agg []), (4, [], .agg []), (5, [], .agg [])] (by kernel_rfl) (by kernel_rfl) (by kernel_rfl) (by kernel_rfl) hk ?_; clear hk
    refine FW.gnext ?_ rfl rfl rfl rfl rfl ?_
    · skip
      refine FW.gfun (y := .lit (.pointer (some ⟨b0, 0, none⟩))) rfl rfl rfl rfl (fun a w hk => FW.f_move hk (FW.holds_nil _) rfl) ?_
      refine FW.gfun (y := .lit (.pointer (some ⟨b0, 0, none⟩))) rfl rfl rfl rfl (fun a w hk => (FW.f_pure (FW.p_nilCheck hk.kn (FW.holds_nil _) rfl))) ?_
      refine FW.gfun (y := .lit (.pointer (some ⟨b0, 0, none⟩))) rfl rfl rfl rfl (fun a w hk => FW.f_fieldPtr hk (FW.holds_nil _) rfl Go.Proofs.Try.underlying127 rfl (by kernel_rfl) rfl) ?_
      refine FW.gfun (y := .lit (.pointer (some ⟨b0_0, 0, none⟩))) rfl rfl rfl rfl (fun a w hk => FW.f_loadBlk1 hk (FW.holds_nil _) (j := 0) rfl rfl Go.Proofs.Try.underlying46 rfl rfl) ?_
      refine FW.gfun (y := .lit (.pointer (some ⟨b0, 0, none⟩))) rfl rfl rfl rfl (fun a w hk => FW.f_move hk (FW.holds_nil _) rfl) ?_
      refine FW.gfun (y := .lit (.pointer (some ⟨b0, 0, none⟩))) rfl rfl rfl rfl (fun a w hk => (FW.f_pure (FW.p_nilCheck hk.kn (FW.holds_nil _) rfl))) ?_
      refine FW.gfun (y := .lit (.pointer (some ⟨b0, 3, none⟩))) rfl rfl rfl rfl (fun a w hk => FW.f_fieldPtr hk (FW.holds_nil _) rfl Go.Proofs.Try.underlying127 rfl (by kernel_rfl) rfl) ?_
      refine FW.gfun (y := .lit (.int .i64 v0.at_)) rfl rfl rfl rfl (fun a w hk => FW.f_loadBlk1 hk (FW.holds_nil _) (j := 0) rfl rfl Go.Proofs.Try.underlying3 rfl rfl) ?_
      refine FW.gskip rfl rfl ?_
      refine FW.gskip rfl rfl ?_
      refine FW.gskip rfl rfl ?_
      refine FW.gskip rfl rfl ?_
      refine FW.gskip rfl rfl ?_
      refine FW.gskip rfl rfl ?_
      exact FW.gend
    · skip
      intro σD a w opsD QD hk hf hQ hX
      refine FW.l_callH (I1 := (ODevDev.items b0_0 xd0_0_0 xc0_0_0 xr0_0_1 xd0_0_3 xc0_0_3 v0_0)) (I2 := [FW.blk b0 127 ([.lit (.pointer (some ⟨b0_0, 0, none⟩)), .lit (.int .i64 v0.from_), .lit (.int .i64 v0.to_), .lit (.int .i64 v0.at_), .lit (.int .u64 v0.next)])]) (js := [4, 4, 4, 4]) hk rfl rfl hf rfl rfl Go.Proofs.Try.func34 rfl (by kernel_rfl) (dev_Dev_Read.ok v0_0 v0.at_ _ hr_t1 b0_0 xd0_0_0 xc0_0_0 xr0_0_1 xd0_0_3 xc0_0_3) ?_; clear hk
      rintro _ _ ⟨rfl, rfl⟩ a w hk
      refine hQ _ _ a w ?_ hk; clear hk hQ hf hX
      refine ⟨[(22, [], .lit (.pointer (some ⟨b0, 0, none⟩))), (23, [], .lit (.pointer (some ⟨b0, 0, none⟩))), (24, [], .lit (.pointer (some ⟨b0, 0, none⟩))), (25, [], .lit (.pointer (some ⟨b0_0, 0, none⟩))), (26, [], .lit (.pointer (some ⟨b0, 0, none⟩))), (27, [], .lit (.pointer (some ⟨b0, 0, none⟩))), (28, [], .lit (.pointer (some ⟨b0, 3, none⟩))), (29, [], .lit (.int .i64 v0.at_)), (30, [], .tup [.lit (.string (FW.B t1.1)), .lit (.int .i64 t1.2)]), (21, [], .tup [.lit (.string (FW.B t1.1)), .lit (.int .i64 t1.2)]), (31, [], .lit (.string (FW.B t1.1))), (32, [], .lit (.int .i64 t1.2)), (4, [], .lit (.string (FW.B t1.1))), (5, [], .lit (.int .i64 t1.2))], And.intro rfl (And.intro rfl (And.intro rfl (And.intro rfl (And.intro rfl (And.intro rfl (And.intro rfl (And.intro rfl (trivial)))))))), rfl, ?_⟩
      refine FW.glast ?_ ?_
      · skip
        refine FW.gskip rfl rfl ?_
        refine FW.gskip rfl rfl ?_
        refine FW.gskip rfl rfl ?_
        refine FW.gskip rfl rfl ?_
        refine FW.gskip rfl rfl ?_
        refine FW.gskip rfl rfl ?_
        refine FW.gskip rfl rfl ?_
        refine FW.gskip rfl rfl ?_
        refine FW.gskip rfl rfl ?_
        refine FW.gfun (y := .tup [.lit (.string (FW.B t1.1)), .lit (.int .i64 t1.2)]) rfl rfl rfl rfl (fun a w hk => FW.f_move hk (FW.holds_nil _) rfl) ?_
        refine FW.gfun (y := .lit (.string (FW.B t1.1))) rfl rfl rfl rfl (fun a w hk => FW.f_extract hk (FW.holds_nil _) rfl rfl) ?_
        refine FW.gfun (y := .lit (.int .i64 t1.2)) rfl rfl rfl rfl (fun a w hk => FW.f_extract hk (FW.holds_nil _) rfl rfl) ?_
        refine FW.gfun (y := .lit (.string (FW.B t1.1))) rfl rfl rfl rfl (fun a w hk => FW.f_assign hk (FW.holds_nil _) rfl) ?_
        refine FW.gfun (y := .lit (.int .i64 t1.2)) rfl rfl rfl rfl (fun a w hk => FW.f_assign hk (FW.holds_nil _) rfl) ?_
        exact FW.gend
      · skip
        intro a w hk; simp only [FW.stD, cond_true] at hk
        refine FW.wreg ?_; intro K' hK6
        refine FW.lfun (y := .lit (.string (FW.B t1.1))) hk rfl rfl rfl rfl (FW.f_move hk (FW.holds_nil _) rfl) ?_; clear hk; intro a w hk
        obtain ⟨hc1, h⟩ := FW.chk h
        refine FW.lfun (y := .lit (.string (FW.B (List.take (Int.toNat 16 - Int.toNat 8) (List.drop (Int.toNat 8) t1.1))))) hk rfl rfl rfl rfl ((FW.f_pure (FW.p_slice Go.Proofs.Try.underlying9 hk.kn (FW.holds_nil _) rfl rfl rfl hc1))) ?_; clear hk; intro a w hk
        obtain ⟨t2, hr_t2, h⟩ := FW.bnd h
        refine FW.lfun (y := .lit (.int .u64 t2)) hk rfl rfl rfl rfl (FW.f_call hk (FW.holds_nil _) rfl rfl Go.Proofs.Try.func95 rfl (by kernel_rfl) (val_Wide.ok K (List.take (Int.toNat 16 - Int.toNat 8) (List.drop (Int.toNat 8) t1.1)) _ hr_t2)) ?_; clear hk; intro a w hk
        refine FW.lfun (y := .lit (.int .u64 t2)) hk rfl rfl rfl rfl (FW.f_assign hk (FW.holds_nil _) rfl) ?_; clear hk; intro a w hk
        refine FW.lend (hK6 _ _ ?_); clear hK6 K'
        refine FW.wseq ?_; intro K' hK7
        obtain ⟨hc2, h⟩ := FW.chk h
        obtain ⟨t3, hr_t3, h⟩ := FW.bnd h
        obtain ⟨hc3, h⟩ := FW.chk h
        obtain ⟨t4, hr_t4, h⟩ := FW.bndG h
        refine FW.wdraw (by kernel_rfl) (by kernel_rfl) hk ?_; clear hk
        refine FW.dfun (y := .lit (.string (FW.B t1.1))) rfl rfl rfl rfl (fun a w hk => FW.f_move hk (FW.holds_nil _) rfl) ?_
        refine FW.dfun (y := .lit (.string (FW.B (List.take (Int.toNat 8) t1.1)))) rfl rfl rfl rfl (fun a w hk => (FW.f_pure (FW.p_slice_hi Go.Proofs.Try.underlying9 hk.kn (FW.holds_nil _) rfl rfl hc2))) ?_
        refine FW.dfun (y := .lit (.int .u64 t3)) rfl rfl rfl rfl (fun a w hk => FW.f_call hk (FW.holds_nil _) rfl rfl Go.Proofs.Try.func95 rfl (by kernel_rfl) (val_Wide.ok K (List.take (Int.toNat 8) t1.1) _ hr_t3)) ?_
        refine FW.dfun (y := .lit (.pointer (some ⟨b0, 0, none⟩))) rfl rfl rfl rfl (fun a w hk => FW.f_move hk (FW.holds_nil _) rfl) ?_
        refine FW.dfun (y := .lit (.pointer (some ⟨b0, 0, none⟩))) rfl rfl rfl rfl (fun a w hk => (FW.f_pure (FW.p_nilCheck hk.kn (FW.holds_nil _) rfl))) ?_
        refine FW.dfun (y := .lit (.pointer (some ⟨b0, 4, none⟩))) rfl rfl rfl rfl (fun a w hk => FW.f_fieldPtr hk (FW.holds_nil _) rfl Go.Proofs.Try.underlying127 rfl (by kernel_rfl) rfl) ?_
        refine FW.dfun (y := .lit (.int .u64 v0.next)) rfl rfl rfl rfl (fun a w hk => FW.f_loadBlk1 hk (FW.holds_nil _) (j := 4) rfl rfl Go.Proofs.Try.underlying29 rfl rfl) ?_
        refine FW.dfun (y := .lit (.bool (!decide (t3 = v0.next)))) rfl rfl rfl rfl (fun a w hk => (FW.f_pure (FW.p_neq hk.kn (FW.holds_nil _) rfl rfl))) ?_
        refine FW.dfun (y := .lit (.bool (!decide (t3 = v0.next)))) rfl rfl rfl rfl (fun a w hk => FW.f_move hk (FW.holds_nil _) rfl) ?_
        refine FW.dfunG (y := .lit (.string (FW.B t1.1))) rfl rfl rfl rfl rfl rfl rfl rfl rfl (fun a w hk hc => FW.f_move hk hc rfl) ?_
        refine FW.dfunG (y := .lit (.string (FW.B t1.1))) rfl rfl rfl rfl rfl rfl rfl rfl rfl (fun a w hk hc => FW.f_move hk hc rfl) ?_
        refine FW.dfunG (y := .lit (.int .i64 (List.length t1.1 : Int))) rfl rfl rfl rfl rfl rfl rfl rfl rfl (fun a w hk hc => (FW.f_pure (FW.p_slen Go.Proofs.Try.underlying9 hk.kn hc rfl))) ?_
        refine FW.dfunG (y := .lit (.int .i64 (IntKind.wrap .i64 ((List.length t1.1 : Int) - 8)))) rfl rfl rfl rfl rfl rfl rfl rfl rfl (fun a w hk hc => (FW.f_pure (FW.p_sub hk.kn hc rfl rfl))) ?_
        refine FW.dfunG (y := .lit (.string (FW.B (List.drop (Int.toNat (IntKind.wrap .i64 ((List.length t1.1 : Int) - 8))) t1.1)))) rfl rfl rfl rfl rfl rfl rfl rfl rfl (fun a w hk hc => (FW.f_pure (FW.p_slice_lo Go.Proofs.Try.underlying9 hk.kn hc rfl rfl hc3))) ?_
        refine FW.dfunG (y := .lit (.int .u64 t4)) rfl rfl rfl rfl rfl rfl rfl rfl rfl (fun a w hk hc => FW.f_call hk hc rfl rfl Go.Proofs.Try.func95 rfl (by kernel_rfl) (val_Wide.ok K (List.drop (Int.toNat (IntKind.wrap .i64 ((List.length t1.1 : Int) - 8))) t1.1) _ (hr_t4 (FW.asm_out (p := (!decide (t3 = v0.next)) = false) hk.kn hc (fun e0 => e0))))) ?_
        refine FW.dfunG (y := .lit (.pointer (some ⟨b0, 0, none⟩))) rfl rfl rfl rfl rfl rfl rfl rfl rfl (fun a w hk hc => FW.f_move hk hc rfl) ?_
        refine FW.dfunG (y := .lit (.pointer (some ⟨b0, 0, none⟩))) rfl rfl rfl rfl rfl rfl rfl rfl rfl (fun a w hk hc => (FW.f_pure (FW.p_nilCheck hk.kn hc rfl))) ?_
        refine FW.dfunG (y := .lit (.pointer (some ⟨b0, 4, none⟩))) rfl rfl rfl rfl rfl rfl rfl rfl rfl (fun a w hk hc => FW.f_fieldPtr hk hc rfl Go.Proofs.Try.underlying127 rfl (by kernel_rfl) rfl) ?_
        refine FW.dfunG (y := .lit (.int .u64 v0.next)) rfl rfl rfl rfl rfl rfl rfl rfl rfl (fun a w hk hc => FW.f_loadBlk1 hk hc (j := 4) rfl rfl Go.Proofs.Try.underlying29 rfl rfl) ?_
        refine FW.dfunG (y := .lit (.bool (!decide (t4 = v0.next)))) rfl rfl rfl rfl rfl rfl rfl rfl rfl (fun a w hk hc => (FW.f_pure (FW.p_neq hk.kn hc rfl rfl))) ?_
        refine FW.dfun (y := .lit (.bool ((!decide (t3 = v0.next)) || (!decide (t4 = v0.next))))) rfl rfl rfl rfl (fun a w hk => (FW.f_pure (FW.p_pick_or hk.kn (FW.holds_nil _) rfl rfl))) ?_
        refine FW.dfun (y := .lit (.bool ((!decide (t3 = v0.next)) || (!decide (t4 = v0.next))))) rfl rfl rfl rfl (fun a w hk => FW.f_move hk (FW.holds_nil _) rfl) ?_
        refine FW.dfunG (y := .lit (.int .u64 t2)) rfl rfl rfl rfl rfl rfl rfl rfl rfl (fun a w hk hc => FW.f_move hk hc rfl) ?_
        refine FW.dfunG (y := .lit (.pointer (some ⟨b0, 0, none⟩))) rfl rfl rfl rfl rfl rfl rfl rfl rfl (fun a w hk hc => FW.f_move hk hc rfl) ?_
        refine FW.dfunG (y := .lit (.pointer (some ⟨b0, 0, none⟩))) rfl rfl rfl rfl rfl rfl rfl rfl rfl (fun a w hk hc => (FW.f_pure (FW.p_nilCheck hk.kn hc rfl))) ?_
        refine FW.dfunG (y := .lit (.pointer (some ⟨b0, 2, none⟩))) rfl rfl rfl rfl rfl rfl rfl rfl rfl (fun a w hk hc => FW.f_fieldPtr hk hc rfl Go.Proofs.Try.underlying127 rfl (by kernel_rfl) rfl) ?_
        refine FW.dfunG (y := .lit (.int .i64 v0.to_)) rfl rfl rfl rfl rfl rfl rfl rfl rfl (fun a w hk hc => FW.f_loadBlk1 hk hc (j := 4) rfl rfl Go.Proofs.Try.underlying3 rfl rfl) ?_
        refine FW.dfunG (y := .lit (.pointer (some ⟨b0, 0, none⟩))) rfl rfl rfl rfl rfl rfl rfl rfl rfl (fun a w hk hc => FW.f_move hk hc rfl) ?_
        refine FW.dfunG (y := .lit (.pointer (some ⟨b0, 0, none⟩))) rfl rfl rfl rfl rfl rfl rfl rfl rfl (fun a w hk hc => (FW.f_pure (FW.p_nilCheck hk.kn hc rfl))) ?_
        refine FW.dfunG (y := .lit (.pointer (some ⟨b0, 3, none⟩))) rfl rfl rfl rfl rfl rfl rfl rfl rfl (fun a w hk hc => FW.f_fieldPtr hk hc rfl Go.Proofs.Try.underlying127 rfl (by kernel_rfl) rfl) ?_
        refine FW.dfunG (y := .lit (.int .i64 v0.at_)) rfl rfl rfl rfl rfl rfl rfl rfl rfl (fun a w hk hc => FW.f_loadBlk1 hk hc (j := 4) rfl rfl Go.Proofs.Try.underlying3 rfl rfl) ?_
        refine FW.dfunG (y := .lit (.int .i64 (IntKind.wrap .i64 (v0.to_ - v0.at_)))) rfl rfl rfl rfl rfl rfl rfl rfl rfl (fun a w hk hc => (FW.f_pure (FW.p_sub hk.kn hc rfl rfl))) ?_
        refine FW.dfunG (y := .lit (.int .u64 (IntKind.wrap .u64 (IntKind.wrap .i64 (v0.to_ - v0.at_))))) rfl rfl rfl rfl rfl rfl rfl rfl rfl (fun a w hk hc => (FW.f_pure (FW.p_conv Go.Proofs.Try.underlying3 Go.Proofs.Try.underlying29 hk.kn hc rfl))) ?_
        refine FW.dfunG (y := .lit (.int .u64 (IntKind.wrap .u64 ((IntKind.wrap .u64 (IntKind.wrap .i64 (v0.to_ - v0.at_))) * 128)))) rfl rfl rfl rfl rfl rfl rfl rfl rfl (fun a w hk hc => (FW.f_pure (FW.p_mul hk.kn hc rfl rfl))) ?_
        refine FW.dfunG (y := .lit (.bool (decide ((IntKind.wrap .u64 ((IntKind.wrap .u64 (IntKind.wrap .i64 (v0.to_ - v0.at_))) * 128)) < t2)))) rfl rfl rfl rfl rfl rfl rfl rfl rfl (fun a w hk hc => (FW.f_pure (FW.p_gtr hk.kn hc rfl rfl))) ?_
        refine FW.dfun (y := .lit (.bool (((!decide (t3 = v0.next)) || (!decide (t4 = v0.next))) || (decide ((IntKind.wrap .u64 ((IntKind.wrap .u64 (IntKind.wrap .i64 (v0.to_ - v0.at_))) * 128)) < t2))))) rfl rfl rfl rfl (fun a w hk => (FW.f_pure (FW.p_pick_or hk.kn (FW.holds_nil _) rfl rfl))) ?_
        refine FW.dend ?_; intro a w hk
        refine FW.wcondF (b := (((!decide (t3 = v0.next)) || (!decide (t4 = v0.next))) || (decide ((IntKind.wrap .u64 ((IntKind.wrap .u64 (IntKind.wrap .i64 (v0.to_ - v0.at_))) * 128)) < t2)))) hk h rfl (fun h hb => ?_) (fun h hb => ?_)
        · skip
          refine FW.wreg ?_; intro K' hK9
          refine FW.lfun (y := .lit (.string (FW.B ([] : List UInt8)))) hk rfl rfl rfl rfl (FW.f_assign hk (FW.holds_nil _) rfl) ?_; clear hk; intro a w hk
          refine FW.lfun (y := .lit (.bool false)) hk rfl rfl rfl rfl (FW.f_assign hk (FW.holds_nil _) rfl) ?_; clear hk; intro a w hk
          refine FW.lend (hK9 _ _ ?_); clear hK9 K'
          refine wp_ret ?_
          (repeat first | refine FW.then_ret ?_ | refine FW.block_ret ?_)
          obtain rfl := Option.some.inj h
          replace hk := FW.S.keep (I1 := [FW.blk b0 127 ([.lit (.pointer (some ⟨b0_0, 0, none⟩)), .lit (.int .i64 v0.from_), .lit (.int .i64 v0.to_), .lit (.int .i64 v0.at_), .lit (.int .u64 v0.next)]), FW.blk b0_0 109 ([.lit (.slice xd0_0_0 (List.length v0_0.sure) xc0_0_0), .lit (.map (some xr0_0_1)), .lit (.int .i64 v0_0.steps), .lit (.slice xd0_0_3 (List.length v0_0.falls) xc0_0_3), .lit (.bool v0_0.off)]), FW.orow xd0_0_0 xc0_0_0 9 1 c_str v0_0.sure, FW.mapI (.int .i64) (Value.int .i64) FW.evS xr0_0_1 v0_0.cache, FW.orow xd0_0_3 xc0_0_3 45 3 ApiFall.cells v0_0.falls]) (I2 := []) (js := [3, 3, 3, 3, 4]) hk rfl
          exact FW.fretH2 hk rfl (FW.rtmp hk rfl) (FW.rtmp hk rfl) ⟨rfl, rfl⟩
        · skip
          refine wp_skip ?_
          (repeat first | refine FW.then_normal ?_ | refine FW.block_normal ?_); refine hK7 _ _ ?_
          refine FW.wreg ?_; intro K' hK10
          refine FW.lfun (y := .lit (.int .u64 t2)) hk rfl rfl rfl rfl (FW.f_move hk (FW.holds_nil _) rfl) ?_; clear hk; intro a w hk
          refine FW.lfun (y := .lit (.int .i64 (IntKind.wrap .i64 t2))) hk rfl rfl rfl rfl ((FW.f_pure (FW.p_conv Go.Proofs.Try.underlying29 Go.Proofs.Try.underlying3 hk.kn (FW.holds_nil _) rfl))) ?_; clear hk; intro a w hk
          obtain ⟨t5, hr_t5, h⟩ := FW.bnd h
          refine FW.lfun (y := .lit (.int .i64 t5)) hk rfl rfl rfl rfl (FW.f_call hk (FW.holds_nil _) rfl rfl Go.Proofs.Try.func45 rfl (by kernel_rfl) (log_Sectors.ok (IntKind.wrap .i64 t2) _ hr_t5)) ?_; clear hk; intro a w hk
          refine FW.lfun (y := .lit (.int .i64 t5)) hk rfl rfl rfl rfl (FW.f_assign hk (FW.holds_nil _) rfl) ?_; clear hk; intro a w hk
          refine FW.lend (hK10 _ _ ?_); clear hK10 K'
          refine FW.wseq ?_; intro K' hK11
          refine FW.wdraw (by kernel_rfl) (by kernel_rfl) hk ?_; clear hk
          refine FW.dfun (y := .lit (.int .i64 t5)) rfl rfl rfl rfl (fun a w hk => FW.f_move hk (FW.holds_nil _) rfl) ?_
          refine FW.dfun (y := .lit (.pointer (some ⟨b0, 0, none⟩))) rfl rfl rfl rfl (fun a w hk => FW.f_move hk (FW.holds_nil _) rfl) ?_
          refine FW.dfun (y := .lit (.pointer (some ⟨b0, 0, none⟩))) rfl rfl rfl rfl (fun a w hk => (FW.f_pure (FW.p_nilCheck hk.kn (FW.holds_nil _) rfl))) ?_
          refine FW.dfun (y := .lit (.pointer (some ⟨b0, 2, none⟩))) rfl rfl rfl rfl (fun a w hk => FW.f_fieldPtr hk (FW.holds_nil _) rfl Go.Proofs.Try.underlying127 rfl (by kernel_rfl) rfl) ?_
          refine FW.dfun (y := .lit (.int .i64 v0.to_)) rfl rfl rfl rfl (fun a w hk => FW.f_loadBlk1 hk (FW.holds_nil _) (j := 4) rfl rfl Go.Proofs.Try.underlying3 rfl rfl) ?_
          refine FW.dfun (y := .lit (.pointer (some ⟨b0, 0, none⟩))) rfl rfl rfl rfl (fun a w hk => FW.f_move hk (FW.holds_nil _) rfl) ?_
          refine FW.dfun (y := .lit (.pointer (some ⟨b0, 0, none⟩))) rfl rfl rfl rfl (fun a w hk => (FW.f_pure (FW.p_nilCheck hk.kn (FW.holds_nil _) rfl))) ?_
          refine FW.dfun (y := .lit (.pointer (some ⟨b0, 3, none⟩))) rfl rfl rfl rfl (fun a w hk => FW.f_fieldPtr hk (FW.holds_nil _) rfl Go.Proofs.Try.underlying127 rfl (by kernel_rfl) rfl) ?_
          refine FW.dfun (y := .lit (.int .i64 v0.at_)) rfl rfl rfl rfl (fun a w hk => FW.f_loadBlk1 hk (FW.holds_nil _) (j := 4) rfl rfl Go.Proofs.Try.underlying3 rfl rfl) ?_
          refine FW.dfun (y := .lit (.int .i64 (IntKind.wrap .i64 (v0.to_ - v0.at_)))) rfl rfl rfl rfl (fun a w hk => (FW.f_pure (FW.p_sub hk.kn (FW.holds_nil _) rfl rfl))) ?_
          refine FW.dfun (y := .lit (.bool (decide ((IntKind.wrap .i64 (v0.to_ - v0.at_)) < t5)))) rfl rfl rfl rfl (fun a w hk => (FW.f_pure (FW.p_gtr hk.kn (FW.holds_nil _) rfl rfl))) ?_
          refine FW.dend ?_; intro a w hk
          refine FW.wcondF (b := (decide ((IntKind.wrap .i64 (v0.to_ - v0.at_)) < t5))) hk h rfl (fun h hb => ?_) (fun h hb => ?_)
          · skip
            refine FW.wreg ?_; intro K' hK13
            refine FW.lfun (y := .lit (.string (FW.B ([] : List UInt8)))) hk rfl rfl rfl rfl (FW.f_assign hk (FW.holds_nil _) rfl) ?_; clear hk; intro a w hk
            refine FW.lfun (y := .lit (.bool false)) hk rfl rfl rfl rfl (FW.f_assign hk (FW.holds_nil _) rfl) ?_; clear hk; intro a w hk
            refine FW.lend (hK13 _ _ ?_); clear hK13 K'
            refine wp_ret ?_
            (repeat first | refine FW.then_ret ?_ | refine FW.block_ret ?_)
            obtain rfl := Option.some.inj h
            replace hk := FW.S.keep (I1 := [FW.blk b0 127 ([.lit (.pointer (some ⟨b0_0, 0, none⟩)), .lit (.int .i64 v0.from_), .lit (.int .i64 v0.to_), .lit (.int .i64 v0.at_), .lit (.int .u64 v0.next)]), FW.blk b0_0 109 ([.lit (.slice xd0_0_0 (List.length v0_0.sure) xc0_0_0), .lit (.map (some xr0_0_1)), .lit (.int .i64 v0_0.steps), .lit (.slice xd0_0_3 (List.length v0_0.falls) xc0_0_3), .lit (.bool v0_0.off)]), FW.orow xd0_0_0 xc0_0_0 9 1 c_str v0_0.sure, FW.mapI (.int .i64) (Value.int .i64) FW.evS xr0_0_1 v0_0.cache, FW.orow xd0_0_3 xc0_0_3 45 3 ApiFall.cells v0_0.falls]) (I2 := []) (js := [3, 3, 3, 3, 4]) hk rfl
            exact FW.fretH2 hk rfl (FW.rtmp hk rfl) (FW.rtmp hk rfl) ⟨rfl, rfl⟩
          · skip
            refine wp_skip ?_
            (repeat first | refine FW.then_normal ?_ | refine FW.block_normal ?_); refine hK11 _ _ ?_
            refine FW.wreg ?_; intro K' hK14
            refine FW.lfun (y := .lit (.string (FW.B t1.1))) hk rfl rfl rfl rfl (FW.f_move hk (FW.holds_nil _) rfl) ?_; clear hk; intro a w hk
            obtain ⟨hc4, h⟩ := FW.chk h
            refine FW.lfun (y := .lit (.string (FW.B (List.take (Int.toNat 120 - Int.toNat 16) (List.drop (Int.toNat 16) t1.1))))) hk rfl rfl rfl rfl ((FW.f_pure (FW.p_slice Go.Proofs.Try.underlying9 hk.kn (FW.holds_nil _) rfl rfl rfl hc4))) ?_; clear hk; intro a w hk
            refine FW.lfun (y := .lit (.string (FW.B (List.take (Int.toNat 120 - Int.toNat 16) (List.drop (Int.toNat 16) t1.1))))) hk rfl rfl rfl rfl (FW.f_assign hk (FW.holds_nil _) rfl) ?_; clear hk; intro a w hk
            refine FW.lend (hK14 _ _ ?_); clear hK14 K'
            refine FW.wseq ?_; intro K' hK15
            refine FW.wreg ?_; intro K' hK16
            refine FW.lfun (y := .lit (.int .i64 1)) hk rfl rfl rfl rfl (FW.f_assign hk (FW.holds_nil _) rfl) ?_; clear hk; intro a w hk
            refine FW.lend (hK16 _ _ ?_); clear hK16 K'
            refine wp_block ?_
            refine FW.wloop (T := Nat × Int × Int × List UInt8 × Int) (fun x a w => match x with | (kl1, v6, v7, v8, v9) => FW.S M w0 a w 113 [FW.blk b0_0 109 ([.lit (.slice xd0_0_0 (List.length v0_0.sure) xc0_0_0), .lit (.map (some xr0_0_1)), .lit (.int .i64 v0_0.steps), .lit (.slice xd0_0_3 (List.length v0_0.falls) xc0_0_3), .lit (.bool v0_0.off)]), FW.orow xd0_0_0 xc0_0_0 9 1 c_str v0_0.sure, FW.mapI (.int .i64) (Value.int .i64) FW.evS xr0_0_1 v0_0.cache, FW.orow xd0_0_3 xc0_0_3 45 3 ApiFall.cells v0_0.falls, FW.blk b0 127 ([.lit (.pointer (some ⟨b0_0, 0, none⟩)), .lit (.int .i64 v0.from_), .lit (.int .i64 v0.to_), .lit (.int .i64 v0.at_), .lit (.int .u64 v0.next)])] [(0, [], .lit (.pointer (some ⟨b0, 0, none⟩))), (6, [], .lit (.int .u64 v6)), (7, [], .lit (.int .i64 v7)), (8, [], .lit (.string (FW.B v8))), (9, [], .lit (.int .i64 v9))] ∧ log_Log_read.l1 K v0 v0_0 kl1 v6 v7 v8 v9 = some r) (fun x => x.1) (K, t2, t5, (List.take (Int.toNat 120 - Int.toNat 16) (List.drop (Int.toNat 16) t1.1)), 1) ⟨hk.sub ⟨rfl, rfl, rfl, rfl, rfl, trivial⟩, h⟩ ?_
            clear hk h
            rintro ⟨kl1, v6, v7, v8, v9⟩ a w ⟨hk, h⟩ K' hK17
            cases kl1 with
            | zero => simp [log_Log_read.l1] at h
            | succ kl1 =>
            rw [log_Log_read.l1.eq_2] at h
            refine FW.wseq ?_; intro K' hK18
            refine FW.wreg ?_; intro K' hK19
            refine FW.lfun (y := .lit (.int .i64 v9)) hk rfl rfl rfl rfl (FW.f_move hk (FW.holds_nil _) rfl) ?_; clear hk; intro a w hk
            refine FW.lfun (y := .lit (.int .i64 v7)) hk rfl rfl rfl rfl (FW.f_move hk (FW.holds_nil _) rfl) ?_; clear hk; intro a w hk
            refine FW.lfun (y := .lit (.bool (decide (v9 < v7)))) hk rfl rfl rfl rfl ((FW.f_pure (FW.p_lss hk.kn (FW.holds_nil _) rfl rfl))) ?_; clear hk; intro a w hk
            refine FW.lend (hK19 _ _ ?_); clear hK19 K'
            refine FW.wcondF (b := (decide (v9 < v7))) hk h rfl (fun h hb => ?_) (fun h hb => ?_)
            · skip
              refine wp_skip ?_
              (repeat first | refine FW.then_normal ?_ | refine FW.block_normal ?_); refine hK18 _ _ ?_
              refine FW.wseq ?_; intro K' hK20
              refine wp_block ?_
              obtain ⟨t6, hr_t6, h⟩ := FW.bnd h
              refine FW.wdrawE (.next [true, true, true, true, true, true, true, true, true, true, false, false, false, false, false, false] 10 [true, true, true, true, true, true, true, true, true, true, false, false, false, false, false, false] (.leaf [false, false, false, false, false, false, false, false, false, false, false, true, true, true, true, true])) [(94, [], .lit (.pointer (some ⟨b0, 0, none⟩))), (95, [], .lit (.pointer (some ⟨b0, 0, none⟩))), (96, [], .lit (.pointer (some ⟨b0, 0, none⟩))), (97, [], .lit (.pointer (some ⟨b0_0, 0, none⟩))), (98, [], .lit (.pointer (some ⟨b0, 0, none⟩))), (99, [], .lit (.pointer (some ⟨b0, 0, none⟩))), (100, [], .lit (.pointer (some ⟨b0, 3, none⟩))), (101, [], .lit (.int .i64 v0.at_)), (102, [], .lit (.int .i64 v9)), (103, [], .lit (.int .i64 (IntKind.wrap .i64 (v0.at_ + v9)))), (104, [], .agg []), (93, [], .agg []), (105, [], .agg []), (106, [], .agg []), (10, [], .agg []), (11, [], .agg [])] (by kernel_rfl) (by kernel_rfl) (by kernel_rfl) (by kernel_rfl) hk ?_; clear hk
              refine FW.gnext ?_ rfl rfl rfl rfl rfl ?_
              · skip
                refine FW.gfun (y := .lit (.pointer (some ⟨b0, 0, none⟩))) rfl rfl rfl rfl (fun a w hk => FW.f_move hk (FW.holds_nil _) rfl) ?_
                refine FW.gfun (y := .lit (.pointer (some ⟨b0, 0, none⟩))) rfl rfl rfl rfl (fun a w hk => (FW.f_pure (FW.p_nilCheck hk.kn (FW.holds_nil _) rfl))) ?_
                refine FW.gfun (y := .lit (.pointer (some ⟨b0, 0, none⟩))) rfl rfl rfl rfl (fun a w hk => FW.f_fieldPtr hk (FW.holds_nil _) rfl Go.Proofs.Try.underlying127 rfl (by kernel_rfl) rfl) ?_
                refine FW.gfun (y := .lit (.pointer (some ⟨b0_0, 0, none⟩))) rfl rfl rfl rfl (fun a w hk => FW.f_loadBlk1 hk (FW.holds_nil _) (j := 4) rfl rfl Go.Proofs.Try.underlying46 rfl rfl) ?_
                refine FW.gfun (y := .lit (.pointer (some ⟨b0, 0, none⟩))) rfl rfl rfl rfl (fun a w hk => FW.f_move hk (FW.holds_nil _) rfl) ?_
                refine FW.gfun (y := .lit (.pointer (some ⟨b0, 0, none⟩))) rfl rfl rfl rfl (fun a w hk => (FW.f_pure (FW.p_nilCheck hk.kn (FW.holds_nil _) rfl))) ?_
                refine FW.gfun (y := .lit (.pointer (some ⟨b0, 3, none⟩))) rfl rfl rfl rfl (fun a w hk => FW.f_fieldPtr hk (FW.holds_nil _) rfl Go.Proofs.Try.underlying127 rfl (by kernel_rfl) rfl) ?_
                refine FW.gfun (y := .lit (.int .i64 v0.at_)) rfl rfl rfl rfl (fun a w hk => FW.f_loadBlk1 hk (FW.holds_nil _) (j := 4) rfl rfl Go.Proofs.Try.underlying3 rfl rfl) ?_
                refine FW.gfun (y := .lit (.int .i64 v9)) rfl rfl rfl rfl (fun a w hk => FW.f_move hk (FW.holds_nil _) rfl) ?_
                refine FW.gfun (y := .lit (.int .i64 (IntKind.wrap .i64 (v0.at_ + v9)))) rfl rfl rfl rfl (fun a w hk => (FW.f_pure (FW.p_add hk.kn (FW.holds_nil _) rfl rfl))) ?_
                refine FW.gskip rfl rfl ?_
                refine FW.gskip rfl rfl ?_
                refine FW.gskip rfl rfl ?_
                refine FW.gskip rfl rfl ?_
                refine FW.gskip rfl rfl ?_
                refine FW.gskip rfl rfl ?_
                exact FW.gend
              · skip
                intro σD a w opsD QD hk hf hQ hX
                refine FW.l_callH (I1 := (ODevDev.items b0_0 xd0_0_0 xc0_0_0 xr0_0_1 xd0_0_3 xc0_0_3 v0_0)) (I2 := [FW.blk b0 127 ([.lit (.pointer (some ⟨b0_0, 0, none⟩)), .lit (.int .i64 v0.from_), .lit (.int .i64 v0.to_), .lit (.int .i64 v0.at_), .lit (.int .u64 v0.next)])]) (js := [3, 3, 3, 3]) hk rfl rfl hf rfl rfl Go.Proofs.Try.func34 rfl (by kernel_rfl) (dev_Dev_Read.ok v0_0 (IntKind.wrap .i64 (v0.at_ + v9)) _ hr_t6 b0_0 xd0_0_0 xc0_0_0 xr0_0_1 xd0_0_3 xc0_0_3) ?_; clear hk
                rintro _ _ ⟨rfl, rfl⟩ a w hk
                refine hQ _ _ a w ?_ hk; clear hk hQ hf hX
                refine ⟨[(94, [], .lit (.pointer (some ⟨b0, 0, none⟩))), (95, [], .lit (.pointer (some ⟨b0, 0, none⟩))), (96, [], .lit (.pointer (some ⟨b0, 0, none⟩))), (97, [], .lit (.pointer (some ⟨b0_0, 0, none⟩))), (98, [], .lit (.pointer (some ⟨b0, 0, none⟩))), (99, [], .lit (.pointer (some ⟨b0, 0, none⟩))), (100, [], .lit (.pointer (some ⟨b0, 3, none⟩))), (101, [], .lit (.int .i64 v0.at_)), (102, [], .lit (.int .i64 v9)), (103, [], .lit (.int .i64 (IntKind.wrap .i64 (v0.at_ + v9)))), (104, [], .tup [.lit (.string (FW.B t6.1)), .lit (.int .i64 t6.2)]), (93, [], .tup [.lit (.string (FW.B t6.1)), .lit (.int .i64 t6.2)]), (105, [], .lit (.string (FW.B t6.1))), (106, [], .lit (.int .i64 t6.2)), (10, [], .lit (.string (FW.B t6.1))), (11, [], .lit (.int .i64 t6.2))], And.intro rfl (And.intro rfl (And.intro rfl (And.intro rfl (And.intro rfl (And.intro rfl (And.intro rfl (And.intro rfl (And.intro rfl (And.intro rfl (trivial)))))))))), rfl, ?_⟩
                refine FW.glast ?_ ?_
                · skip
                  refine FW.gskip rfl rfl ?_
                  refine FW.gskip rfl rfl ?_
                  refine FW.gskip rfl rfl ?_
                  refine FW.gskip rfl rfl ?_
                  refine FW.gskip rfl rfl ?_
                  refine FW.gskip rfl rfl ?_
                  refine FW.gskip rfl rfl ?_
                  refine FW.gskip rfl rfl ?_
                  refine FW.gskip rfl rfl ?_
                  refine FW.gskip rfl rfl ?_
                  refine FW.gskip rfl rfl ?_
                  refine FW.gfun (y := .tup [.lit (.string (FW.B t6.1)), .lit (.int .i64 t6.2)]) rfl rfl rfl rfl (fun a w hk => FW.f_move hk (FW.holds_nil _) rfl) ?_
                  refine FW.gfun (y := .lit (.string (FW.B t6.1))) rfl rfl rfl rfl (fun a w hk => FW.f_extract hk (FW.holds_nil _) rfl rfl) ?_
                  refine FW.gfun (y := .lit (.int .i64 t6.2)) rfl rfl rfl rfl (fun a w hk => FW.f_extract hk (FW.holds_nil _) rfl rfl) ?_
                  refine FW.gfun (y := .lit (.string (FW.B t6.1))) rfl rfl rfl rfl (fun a w hk => FW.f_assign hk (FW.holds_nil _) rfl) ?_
                  refine FW.gfun (y := .lit (.int .i64 t6.2)) rfl rfl rfl rfl (fun a w hk => FW.f_assign hk (FW.holds_nil _) rfl) ?_
                  exact FW.gend
                · skip
                  intro a w hk; simp only [FW.stD, cond_true] at hk
                  refine FW.wreg1 ?_
                  refine FW.lfun (y := .lit (.string (FW.B v8))) hk rfl rfl rfl rfl (FW.f_move hk (FW.holds_nil _) rfl) ?_; clear hk; intro a w hk
                  refine FW.lfun (y := .lit (.string (FW.B t6.1))) hk rfl rfl rfl rfl (FW.f_move hk (FW.holds_nil _) rfl) ?_; clear hk; intro a w hk
                  obtain ⟨hc5, h⟩ := FW.chk h
                  refine FW.lfun (y := .lit (.string (FW.B (v8 ++ t6.1)))) hk rfl rfl rfl rfl ((FW.f_pure (FW.p_sadd hk.kn (FW.holds_nil _) rfl rfl hc5))) ?_; clear hk; intro a w hk
                  refine FW.lfun (y := .lit (.string (FW.B (v8 ++ t6.1)))) hk rfl rfl rfl rfl (FW.f_assign hk (FW.holds_nil _) rfl) ?_; clear hk; intro a w hk
                  refine wpList_nil ?_
                  (repeat first | refine FW.then_normal ?_ | refine FW.block_normal ?_); refine hK20 _ _ ?_
                  refine FW.wreg1 ?_
                  refine FW.lfun (y := .lit (.int .i64 v9)) hk rfl rfl rfl rfl (FW.f_move hk (FW.holds_nil _) rfl) ?_; clear hk; intro a w hk
                  refine FW.lfun (y := .lit (.int .i64 (IntKind.wrap .i64 (v9 + 1)))) hk rfl rfl rfl rfl ((FW.f_pure (FW.p_add hk.kn (FW.holds_nil _) rfl rfl))) ?_; clear hk; intro a w hk
                  refine FW.lfun (y := .lit (.int .i64 (IntKind.wrap .i64 (v9 + 1)))) hk rfl rfl rfl rfl (FW.f_assign hk (FW.holds_nil _) rfl) ?_; clear hk; intro a w hk
                  refine wpList_nil ?_
                  (repeat first | refine FW.then_normal ?_ | refine FW.block_normal ?_); exact hK17 (kl1, v6, v7, (v8 ++ t6.1), (IntKind.wrap .i64 (v9 + 1))) _ _ (Nat.lt_succ_self _) ⟨hk.sub ⟨rfl, rfl, rfl, rfl, rfl, trivial⟩, h⟩
            · skip
              refine wp_exit ?_; (repeat first | refine FW.then_exit ?_ | refine FW.block_exit_ne rfl ?_); refine FW.block_exit ?_
              (repeat first | refine FW.then_normal ?_ | refine FW.block_normal ?_); refine hK15 _ _ ?_
              refine FW.wreg ?_; intro K' hK24
              refine FW.lfun (y := .lit (.string (FW.B v8))) hk rfl rfl rfl rfl (FW.f_move hk (FW.holds_nil _) rfl) ?_; clear hk; intro a w hk
              refine FW.lfun (y := .lit (.int .u64 v6)) hk rfl rfl rfl rfl (FW.f_move hk (FW.holds_nil _) rfl) ?_; clear hk; intro a w hk
              obtain ⟨hc6, h⟩ := FW.chk h
              refine FW.lfun (y := .lit (.string (FW.B (List.take (Int.toNat v6) v8)))) hk rfl rfl rfl rfl ((FW.f_pure (FW.p_slice_hi Go.Proofs.Try.underlying9 hk.kn (FW.holds_nil _) rfl rfl hc6))) ?_; clear hk; intro a w hk
              refine FW.lfun (y := .lit (.string (FW.B (List.take (Int.toNat v6) v8)))) hk rfl rfl rfl rfl (FW.f_assign hk (FW.holds_nil _) rfl) ?_; clear hk; intro a w hk
              refine FW.lfun (y := .lit (.bool true)) hk rfl rfl rfl rfl (FW.f_assign hk (FW.holds_nil _) rfl) ?_; clear hk; intro a w hk
              refine FW.lend (hK24 _ _ ?_); clear hK24 K'
              refine wp_ret ?_
              (repeat first | refine FW.then_ret ?_ | refine FW.block_ret ?_)
              obtain rfl := Option.some.inj h
              replace hk := FW.S.keep (I1 := [FW.blk b0 127 ([.lit (.pointer (some ⟨b0_0, 0, none⟩)), .lit (.int .i64 v0.from_), .lit (.int .i64 v0.to_), .lit (.int .i64 v0.at_), .lit (.int .u64 v0.next)]), FW.blk b0_0 109 ([.lit (.slice xd0_0_0 (List.length v0_0.sure) xc0_0_0), .lit (.map (some xr0_0_1)), .lit (.int .i64 v0_0.steps), .lit (.slice xd0_0_3 (List.length v0_0.falls) xc0_0_3), .lit (.bool v0_0.off)]), FW.orow xd0_0_0 xc0_0_0 9 1 c_str v0_0.sure, FW.mapI (.int .i64) (Value.int .i64) FW.evS xr0_0_1 v0_0.cache, FW.orow xd0_0_3 xc0_0_3 45 3 ApiFall.cells v0_0.falls]) (I2 := []) (js := [3, 3, 3, 3, 4]) hk rfl
              exact FW.fretH2 hk rfl (FW.rtmp hk rfl) (FW.rtmp hk rfl) ⟨rfl, rfl⟩
end Go.Proofs.Ytimaibcaehagjaa

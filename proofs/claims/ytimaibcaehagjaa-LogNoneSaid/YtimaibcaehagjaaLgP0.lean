/- Written by a program of this session (gen.py): the contracts of functions of the program. -/
import Derived.KernelRfl
import Derived.Test.YtimaibcaehagjaaProg
import Derived.Test.YtimaibcaehagjaaAvFun
import Derived.Test.YtimaibcaehagjaaAvMan
import Derived.Test.YtimaibcaehagjaaAvMore
import Derived.Test.YtimaibcaehagjaaAvDraw2
import Derived.Test.YtimaibcaehagjaaAvRow
import Derived.Test.YtimaibcaehagjaaHn
import Derived.Test.YtimaibcaehagjaaDvP0
import Derived.Test.YtimaibcaehagjaaFl2
import Derived.Test.YtimaibcaehagjaaHg
import Derived.Test.YtimaibcaehagjaaHar
import Derived.Test.YtimaibcaehagjaaLgD
namespace Go.Proofs.Ytimaibcaehagjaa
set_option linter.unusedVariables false
set_option maxRecDepth 20000
set_option maxHeartbeats 10000000
theorem val_Wide.ok (K : Nat) (v0 : List UInt8) (r : Int) (h : val_Wide.f K v0 = some r) :
    FW.Ok Go.Proofs.Try.prog 95 [.lit (.string (FW.B v0))] (.lit (.int .u64 r)) := by
  refine FW.enter (xs := [.lit (.string (FW.B v0))]) Go.Proofs.Try.func95 rfl Go.Proofs.Try.ntmps95 rfl ?_
  intro M w0 a hk
  unfold val_Wide.f at h
  refine FW.wreg ?_; intro K' hK1
  refine FW.lfun (y := .lit (.int .u64 0)) hk rfl rfl rfl rfl (FW.f_assign hk (FW.holds_nil _) rfl) ?_; clear hk; intro a w hk
  refine FW.lend (hK1 _ _ ?_); clear hK1 K'
  refine FW.wreg ?_; intro K' hK2
  refine FW.lfun (y := .lit (.int .u64 0)) hk rfl rfl rfl rfl (FW.f_assign hk (FW.holds_nil _) rfl) ?_; clear hk; intro a w hk
  refine FW.lend (hK2 _ _ ?_); clear hK2 K'
  refine FW.wseq ?_; intro K' hK3
  refine FW.wreg ?_; intro K' hK4
  refine FW.lfun (y := .lit (.string (FW.B v0))) hk rfl rfl rfl rfl (FW.f_move hk (FW.holds_nil _) rfl) ?_; clear hk; intro a w hk
  refine FW.lfun (y := .lit (.int .i64 (List.length v0 : Int))) hk rfl rfl rfl rfl ((FW.f_pure (FW.p_slen Go.Proofs.Try.underlying9 hk.kn (FW.holds_nil _) rfl))) ?_; clear hk; intro a w hk
  refine FW.lfun (y := .lit (.int .i64 (if 8 < (List.length v0 : Int) then 8 else (List.length v0 : Int)))) hk rfl rfl rfl rfl ((FW.f_pure (FW.p_min hk.kn (FW.holds_nil _) rfl rfl))) ?_; clear hk; intro a w hk
  refine FW.lfun (y := .lit (.int .i64 0)) hk rfl rfl rfl rfl (FW.f_move hk (FW.holds_nil _) rfl) ?_; clear hk; intro a w hk
  refine FW.lend (hK4 _ _ ?_); clear hK4 K'
  refine wp_block ?_
  refine FW.wloop (T := Nat × List UInt8 × Int × Int × Int) (fun x a w => match x with | (kl1, v0, v3, v7, v8) => FW.S M w0 a w 20 [] [(0, [], .lit (.string (FW.B v0))), (3, [], .lit (.int .u64 v3)), (7, [], .lit (.int .i64 v7)), (8, [], .lit (.int .i64 v8))] ∧ val_Wide.l1 K kl1 v0 v3 v7 v8 = some r) (fun x => x.1) (K, v0, 0, (if 8 < (List.length v0 : Int) then 8 else (List.length v0 : Int)), 0) ⟨hk.sub ⟨rfl, rfl, rfl, rfl, trivial⟩, h⟩ ?_
  clear hk h
  rintro ⟨kl1, v0, v3, v7, v8⟩ a w ⟨hk, h⟩ K' hK5
  cases kl1 with
  | zero => simp [val_Wide.l1] at h
  | succ kl1 =>
  rw [val_Wide.l1.eq_2] at h
  refine FW.wreg ?_; intro K' hK6
  refine FW.lfun (y := .lit (.bool (decide (v8 < v7)))) hk rfl rfl rfl rfl ((FW.f_pure (FW.p_lss hk.kn (FW.holds_nil _) rfl rfl))) ?_; clear hk; intro a w hk
  refine FW.lend (hK6 _ _ ?_); clear hK6 K'
  refine FW.wseq ?_; intro K' hK7
  refine FW.wcondF (b := (decide (v8 < v7))) hk h rfl (fun h hb => ?_) (fun h hb => ?_)
  · skip
    refine wp_skip ?_
    (repeat first | refine FW.then_normal ?_ | refine FW.block_normal ?_); refine hK7 _ _ ?_
    refine FW.wseq ?_; intro K' hK8
    refine wp_block ?_
    refine FW.wreg ?_; intro K' hK9
    refine FW.lfun (y := .lit (.int .i64 v8)) hk rfl rfl rfl rfl (FW.f_move hk (FW.holds_nil _) rfl) ?_; clear hk; intro a w hk
    refine FW.lfun (y := .lit (.int .i64 v8)) hk rfl rfl rfl rfl (FW.f_assign hk (FW.holds_nil _) rfl) ?_; clear hk; intro a w hk
    refine FW.lend (hK9 _ _ ?_); clear hK9 K'
    refine FW.wreg1 ?_
    refine FW.lfun (y := .lit (.int .u64 v3)) hk rfl rfl rfl rfl (FW.f_move hk (FW.holds_nil _) rfl) ?_; clear hk; intro a w hk
    refine FW.lfun (y := .lit (.int .u64 (FW.shlI .u64 v3 8))) hk rfl rfl rfl rfl ((FW.f_pure (FW.p_shl hk.kn (FW.holds_nil _) rfl rfl (show (0 : Int) ≤ 8 from by decide)))) ?_; clear hk; intro a w hk
    refine FW.lfun (y := .lit (.string (FW.B v0))) hk rfl rfl rfl rfl (FW.f_move hk (FW.holds_nil _) rfl) ?_; clear hk; intro a w hk
    refine FW.lfun (y := .lit (.int .i64 v8)) hk rfl rfl rfl rfl (FW.f_move hk (FW.holds_nil _) rfl) ?_; clear hk; intro a w hk
    obtain ⟨hc1, h⟩ := FW.chk h
    refine FW.lfun (y := .lit (.int .u8 (FW.bt v0 v8))) hk rfl rfl rfl rfl ((FW.f_pure (FW.p_index Go.Proofs.Try.underlying9 hk.kn (FW.holds_nil _) rfl rfl hc1))) ?_; clear hk; intro a w hk
    refine FW.lfun (y := .lit (.int .u64 (IntKind.wrap .u64 (FW.bt v0 v8)))) hk rfl rfl rfl rfl ((FW.f_pure (FW.p_conv Go.Proofs.Try.underlying5 Go.Proofs.Try.underlying29 hk.kn (FW.holds_nil _) rfl))) ?_; clear hk; intro a w hk
    refine FW.lfun (y := .lit (.int .u64 (FW.orI .u64 (FW.shlI .u64 v3 8) (IntKind.wrap .u64 (FW.bt v0 v8))))) hk rfl rfl rfl rfl ((FW.f_pure (FW.p_or hk.kn (FW.holds_nil _) rfl rfl))) ?_; clear hk; intro a w hk
    refine FW.lfun (y := .lit (.int .u64 (FW.orI .u64 (FW.shlI .u64 v3 8) (IntKind.wrap .u64 (FW.bt v0 v8))))) hk rfl rfl rfl rfl (FW.f_assign hk (FW.holds_nil _) rfl) ?_; clear hk; intro a w hk
    refine wpList_nil ?_
    (repeat first | refine FW.then_normal ?_ | refine FW.block_normal ?_); refine hK8 _ _ ?_
    refine FW.wreg1 ?_
    refine FW.lfun (y := .lit (.int .i64 (IntKind.wrap .i64 (v8 + 1)))) hk rfl rfl rfl rfl ((FW.f_pure (FW.p_add hk.kn (FW.holds_nil _) rfl rfl))) ?_; clear hk; intro a w hk
    refine FW.lfun (y := .lit (.int .i64 (IntKind.wrap .i64 (v8 + 1)))) hk rfl rfl rfl rfl (FW.f_move hk (FW.holds_nil _) rfl) ?_; clear hk; intro a w hk
    refine wpList_nil ?_
    (repeat first | refine FW.then_normal ?_ | refine FW.block_normal ?_); exact hK5 (kl1, v0, (FW.orI .u64 (FW.shlI .u64 v3 8) (IntKind.wrap .u64 (FW.bt v0 v8))), v7, (IntKind.wrap .i64 (v8 + 1))) _ _ (Nat.lt_succ_self _) ⟨hk.sub ⟨rfl, rfl, rfl, rfl, trivial⟩, h⟩
  · skip
    refine wp_exit ?_; (repeat first | refine FW.then_exit ?_ | refine FW.block_exit_ne rfl ?_); refine FW.block_exit ?_
    (repeat first | refine FW.then_normal ?_ | refine FW.block_normal ?_); refine hK3 _ _ ?_
    refine FW.wreg ?_; intro K' hK12
    refine FW.lfun (y := .lit (.int .u64 v3)) hk rfl rfl rfl rfl (FW.f_move hk (FW.holds_nil _) rfl) ?_; clear hk; intro a w hk
    refine FW.lfun (y := .lit (.int .u64 v3)) hk rfl rfl rfl rfl (FW.f_assign hk (FW.holds_nil _) rfl) ?_; clear hk; intro a w hk
    refine FW.lend (hK12 _ _ ?_); clear hK12 K'
    refine wp_ret ?_
    (repeat first | refine FW.then_ret ?_ | refine FW.block_ret ?_)
    obtain rfl := Option.some.inj h
    exact FW.fret1 hk rfl rfl

theorem log_Sectors.ok  (v0 : Int) (r : Int) (h : log_Sectors.f v0 = some r) :
    FW.Ok Go.Proofs.Try.prog 45 [.lit (.int .i64 v0)] (.lit (.int .i64 r)) := by
  refine FW.enter (xs := [.lit (.int .i64 v0)]) Go.Proofs.Try.func45 rfl Go.Proofs.Try.ntmps45 rfl ?_
  intro M w0 a hk
  unfold log_Sectors.f at h
  refine FW.wreg ?_; intro K' hK1
  refine FW.lfun (y := .lit (.int .i64 0)) hk rfl rfl rfl rfl (FW.f_assign hk (FW.holds_nil _) rfl) ?_; clear hk; intro a w hk
  refine FW.lend (hK1 _ _ ?_); clear hK1 K'
  refine FW.wreg ?_; intro K' hK2
  refine FW.lfun (y := .lit (.int .i64 v0)) hk rfl rfl rfl rfl (FW.f_move hk (FW.holds_nil _) rfl) ?_; clear hk; intro a w hk
  refine FW.lfun (y := .lit (.int .i64 (IntKind.wrap .i64 (v0 - 104)))) hk rfl rfl rfl rfl ((FW.f_pure (FW.p_sub hk.kn (FW.holds_nil _) rfl rfl))) ?_; clear hk; intro a w hk
  refine FW.lfun (y := .lit (.int .i64 (if (IntKind.wrap .i64 (v0 - 104)) < 0 then 0 else (IntKind.wrap .i64 (v0 - 104))))) hk rfl rfl rfl rfl ((FW.f_pure (FW.p_max hk.kn (FW.holds_nil _) rfl rfl))) ?_; clear hk; intro a w hk
  refine FW.lfun (y := .lit (.int .i64 (IntKind.wrap .i64 ((if (IntKind.wrap .i64 (v0 - 104)) < 0 then 0 else (IntKind.wrap .i64 (v0 - 104))) + 128)))) hk rfl rfl rfl rfl ((FW.f_pure (FW.p_add hk.kn (FW.holds_nil _) rfl rfl))) ?_; clear hk; intro a w hk
  refine FW.lfun (y := .lit (.int .i64 (IntKind.wrap .i64 ((IntKind.wrap .i64 ((if (IntKind.wrap .i64 (v0 - 104)) < 0 then 0 else (IntKind.wrap .i64 (v0 - 104))) + 128)) - 1)))) hk rfl rfl rfl rfl ((FW.f_pure (FW.p_sub hk.kn (FW.holds_nil _) rfl rfl))) ?_; clear hk; intro a w hk
  refine FW.lfun (y := .lit (.int .i64 (IntKind.wrap .i64 (Int.tdiv (IntKind.wrap .i64 ((IntKind.wrap .i64 ((if (IntKind.wrap .i64 (v0 - 104)) < 0 then 0 else (IntKind.wrap .i64 (v0 - 104))) + 128)) - 1)) 128)))) hk rfl rfl rfl rfl ((FW.f_pure (FW.p_quo hk.kn (FW.holds_nil _) rfl rfl (show ¬ (128 : Int) = 0 from by decide)))) ?_; clear hk; intro a w hk
  refine FW.lfun (y := .lit (.int .i64 (IntKind.wrap .i64 (1 + (IntKind.wrap .i64 (Int.tdiv (IntKind.wrap .i64 ((IntKind.wrap .i64 ((if (IntKind.wrap .i64 (v0 - 104)) < 0 then 0 else (IntKind.wrap .i64 (v0 - 104))) + 128)) - 1)) 128)))))) hk rfl rfl rfl rfl ((FW.f_pure (FW.p_add hk.kn (FW.holds_nil _) rfl rfl))) ?_; clear hk; intro a w hk
  refine FW.lfun (y := .lit (.int .i64 (IntKind.wrap .i64 (1 + (IntKind.wrap .i64 (Int.tdiv (IntKind.wrap .i64 ((IntKind.wrap .i64 ((if (IntKind.wrap .i64 (v0 - 104)) < 0 then 0 else (IntKind.wrap .i64 (v0 - 104))) + 128)) - 1)) 128)))))) hk rfl rfl rfl rfl (FW.f_assign hk (FW.holds_nil _) rfl) ?_; clear hk; intro a w hk
  refine FW.lend (hK2 _ _ ?_); clear hK2 K'
  refine wp_ret ?_
  (repeat first | refine FW.then_ret ?_ | refine FW.block_ret ?_)
  obtain rfl := Option.some.inj h
  exact FW.fret1 hk rfl rfl

theorem log_Log_read.ok (K : Nat) (v0 : OLogLog) (v0_0 : ODevDev) (r : List UInt8 × Bool × OLogLog × ODevDev) (h : log_Log_read.f K v0 v0_0 = some r) :
    ∀ (b0 : Nat) (b0_0 : Nat) (xd0_0_0 : Option Addr) (xc0_0_0 : Nat) (xr0_0_1 : Nat), FW.OkH Go.Proofs.Try.prog 73 [.lit (.pointer (some ⟨b0, 0, none⟩))] ((OLogLog.items b0 b0_0 v0) ++ (ODevDev.items b0_0 xd0_0_0 xc0_0_0 xr0_0_1 v0_0)) (fun y I => ∃ (zxd0_0_0 : Option Addr) (zxc0_0_0 : Nat) (zxr0_0_1 : Nat), y = .tup [.lit (.string (FW.B r.1)), .lit (.bool r.2.1)] ∧ I = (OLogLog.items b0 b0_0 r.2.2.1) ++ (ODevDev.items b0_0 zxd0_0_0 zxc0_0_0 zxr0_0_1 r.2.2.2)) := by
  intro b0 b0_0 xd0_0_0 xc0_0_0 xr0_0_1
  refine FW.enterH (xs := [.lit (.pointer (some ⟨b0, 0, none⟩))]) Go.Proofs.Try.func73 rfl Go.Proofs.Try.ntmps73 rfl ?_
  intro M w0 a hk
  replace hk : FW.S M w0 a w0.toWorld 113 [FW.blk b0 127 ([.lit (.pointer (some ⟨b0_0, 0, none⟩))] ++ [.lit (.int .i64 v0.from_)] ++ [.lit (.int .i64 v0.to_)] ++ [.lit (.int .i64 v0.at_)] ++ [.lit (.int .u64 v0.next)]), FW.blk b0_0 109 ([.lit (.slice xd0_0_0 (List.length v0_0.sure) xc0_0_0)] ++ [.lit (.map (some xr0_0_1))] ++ [.lit (.int .i64 v0_0.steps)] ++ [.lit (.slice none 0 0)] ++ [.lit (.bool v0_0.off)]), FW.orow xd0_0_0 xc0_0_0 9 1 c_str v0_0.sure, FW.mapI (.int .i64) (Value.int .i64) FW.evS xr0_0_1 v0_0.cache] [(0, [], .lit (.pointer (some ⟨b0, 0, none⟩)))] := hk
  unfold log_Log_read.f at h
  refine FW.wreg ?_; intro K' hK1
  refine FW.lfun (y := .lit (.string (FW.B ([] : List UInt8)))) hk rfl rfl rfl rfl (FW.f_assign hk (FW.holds_nil _) rfl) ?_; clear hk; intro a w hk
  refine FW.lfun (y := .lit (.bool false)) hk rfl rfl rfl rfl (FW.f_assign hk (FW.holds_nil _) rfl) ?_; clear hk; intro a w hk
  refine FW.lend (hK1 _ _ ?_); clear hK1 K'
  refine FW.wseq ?_; intro K' hK2
  refine FW.wdraw (by kernel_rfl) (by kernel_rfl) hk ?_; clear hk
  refine FW.dfun (y := .lit (.pointer (some ⟨b0, 0, none⟩))) rfl rfl rfl rfl (fun a w hk => FW.f_move hk (FW.holds_nil _) rfl) ?_
  refine FW.dfun (y := .lit (.pointer (some ⟨b0, 0, none⟩))) rfl rfl rfl rfl (fun a w hk => (FW.f_pure (FW.p_nilCheck hk.kn (FW.holds_nil _) rfl))) ?_
  refine FW.dfun (y := .lit (.pointer (some ⟨b0, 3, none⟩))) rfl rfl rfl rfl (fun a w hk => FW.f_fieldPtr hk (FW.holds_nil _) rfl Go.Proofs.Try.underlying127 rfl (by kernel_rfl) rfl) ?_
  refine FW.dfun (y := .lit (.int .i64 v0.at_)) rfl rfl rfl rfl (fun a w hk => FW.f_loadBlk1 hk (FW.holds_nil _) (j := 0) rfl rfl Go.Proofs.Try.underlying3 rfl rfl) ?_
  refine FW.dfun (y := .lit (.pointer (some ⟨b0, 0, none⟩))) rfl rfl rfl rfl (fun a w hk => FW.f_move hk (FW.holds_nil _) rfl) ?_
  refine FW.dfun (y := .lit (.pointer (some ⟨b0, 0, none⟩))) rfl rfl rfl rfl (fun a w hk => (FW.f_pure (FW.p_nilCheck hk.kn (FW.holds_nil _) rfl))) ?_
  refine FW.dfun (y := .lit (.pointer (some ⟨b0, 2, none⟩))) rfl rfl rfl rfl (fun a w hk => FW.f_fieldPtr hk (FW.holds_nil _) rfl Go.Proofs.Try.underlying127 rfl (by kernel_rfl) rfl) ?_
  refine FW.dfun (y := .lit (.int .i64 v0.to_)) rfl rfl rfl rfl (fun a w hk => FW.f_loadBlk1 hk (FW.holds_nil _) (j := 0) rfl rfl Go.Proofs.Try.underlying3 rfl rfl) ?_
  refine FW.dfun (y := .lit (.bool (decide (v0.to_ ≤ v0.at_)))) rfl rfl rfl rfl (fun a w hk => (FW.f_pure (FW.p_geq hk.kn (FW.holds_nil _) rfl rfl))) ?_
  refine FW.dend ?_; intro a w hk
  refine FW.wcondF (b := (decide (v0.to_ ≤ v0.at_))) hk h rfl (fun h hb => ?_) (fun h hb => ?_)
  · skip
    refine FW.wreg ?_; intro K' hK4
    refine FW.lfun (y := .lit (.string (FW.B ([] : List UInt8)))) hk rfl rfl rfl rfl (FW.f_assign hk (FW.holds_nil _) rfl) ?_; clear hk; intro a w hk
    refine FW.lfun (y := .lit (.bool false)) hk rfl rfl rfl rfl (FW.f_assign hk (FW.holds_nil _) rfl) ?_; clear hk; intro a w hk
    refine FW.lend (hK4 _ _ ?_); clear hK4 K'
    refine wp_ret ?_
    (repeat first | refine FW.then_ret ?_ | refine FW.block_ret ?_)
    obtain rfl := Option.some.inj h
    replace hk := FW.S.keep (I1 := [FW.blk b0 127 ([.lit (.pointer (some ⟨b0_0, 0, none⟩))] ++ [.lit (.int .i64 v0.from_)] ++ [.lit (.int .i64 v0.to_)] ++ [.lit (.int .i64 v0.at_)] ++ [.lit (.int .u64 v0.next)]), FW.blk b0_0 109 ([.lit (.slice xd0_0_0 (List.length v0_0.sure) xc0_0_0)] ++ [.lit (.map (some xr0_0_1))] ++ [.lit (.int .i64 v0_0.steps)] ++ [.lit (.slice none 0 0)] ++ [.lit (.bool v0_0.off)]), FW.orow xd0_0_0 xc0_0_0 9 1 c_str v0_0.sure, FW.mapI (.int .i64) (Value.int .i64) FW.evS xr0_0_1 v0_0.cache]) (I2 := []) (js := [3, 3, 3, 3]) hk rfl
    exact FW.fretH2 hk rfl (FW.rtmp hk rfl) (FW.rtmp hk rfl) ⟨xd0_0_0, xc0_0_0, xr0_0_1, rfl, rfl⟩
  · skip
    refine wp_skip ?_
    (repeat first | refine FW.then_normal ?_ | refine FW.block_normal ?_); refine hK2 _ _ ?_
    obtain ⟨t1, hr_t1, h⟩ := FW.bnd h
    refine FW.wdrawE (need := [false, false, false, false, false, false, false, false, false, true, true, true, true, true]) [(8, [true, true, true, true, true, true, true, true, false, false, false, false, false, false], [true, true, true, true, true, true, true, true, false, false, false, false, false, false])] [(22, [], .lit (.pointer (some ⟨b0, 0, none⟩))), (23, [], .lit (.pointer (some ⟨b0, 0, none⟩))), (24, [], .lit (.pointer (some ⟨b0, 0, none⟩))), (25, [], .lit (.pointer (some ⟨b0_0, 0, none⟩))), (26, [], .lit (.pointer (some ⟨b0, 0, none⟩))), (27, [], .lit (.pointer (some ⟨b0, 0, none⟩))), (28, [], .lit (.pointer (some ⟨b0, 3, none⟩))), (29, [], .lit (.int .i64 v0.at_)), (30, [], .agg []), (21, [], .agg []), (31, [], .agg []), (32, [], .agg []), (4, [], .agg []), (5, [], .agg [])] (by kernel_rfl) (by kernel_rfl) (by kernel_rfl) (by kernel_rfl) hk ?_; clear hk
    refine FW.gnext ?_ rfl rfl rfl rfl rfl ?_
    · skip
      refine FW.gfun (y := .lit (.pointer (some ⟨b0, 0, none⟩))) rfl rfl rfl rfl (fun a w hk => FW.f_move hk (FW.holds_nil _) rfl) ?_
      refine FW.gfun (y := .lit (.pointer (some ⟨b0, 0, none⟩))) rfl rfl rfl rfl (fun a w hk => (FW.f_pure (FW.p_nilCheck hk.kn (FW.holds_nil _) rfl))) ?_
      refine FW.gfun (y := .lit (.pointer (some ⟨b0, 0, none⟩))) rfl rfl rfl rfl (fun a w hk => FW.f_fieldPtr hk (FW.holds_nil _) rfl Go.Proofs.Try.underlying127 rfl (by kernel_rfl) rfl) ?_
      refine FW.gfun (y := .lit (.pointer (some ⟨b0_0, 0, none⟩))) rfl rfl rfl rfl (fun a w hk => FW.f_loadBlk1 hk (FW.holds_nil _) (j := 0) rfl rfl Go.Proofs.Try.underlying46 rfl rfl) ?_
      refine FW.gfun (y := .lit (.pointer (some ⟨b0, 0, none⟩))) rfl rfl rfl rfl (fun a w hk => FW.f_move hk (FW.holds_nil _) rfl) ?_
      refine FW.gfun (y := .lit (.pointer (some ⟨b0, 0, none⟩))) rfl rfl rfl rfl (fun a w hk => (FW.f_pure (FW.p_nilCheck hk.kn (FW.holds_nil _) rfl))) ?_
      refine FW.gfun (y := .lit (.pointer (some ⟨b0, 3, none⟩))) rfl rfl rfl rfl (fun a w hk => FW.f_fieldPtr hk (FW.holds_nil _) rfl Go.Proofs.Try.underlying127 rfl (by kernel_rfl) rfl) ?_
      refine FW.gfun (y := .lit (.int .i64 v0.at_)) rfl rfl rfl rfl (fun a w hk => FW.f_loadBlk1 hk (FW.holds_nil _) (j := 0) rfl rfl Go.Proofs.Try.underlying3 rfl rfl) ?_
      refine FW.gskip rfl rfl ?_
      refine FW.gskip rfl rfl ?_
      refine FW.gskip rfl rfl ?_
      refine FW.gskip rfl rfl ?_
      refine FW.gskip rfl rfl ?_
      refine FW.gskip rfl rfl ?_
      exact FW.gend
    · skip
      intro σD a w opsD QD hk hf hQ
      refine FW.l_callH (I1 := (ODevDev.items b0_0 xd0_0_0 xc0_0_0 xr0_0_1 v0_0)) (I2 := [FW.blk b0 127 ([.lit (.pointer (some ⟨b0_0, 0, none⟩))] ++ [.lit (.int .i64 v0.from_)] ++ [.lit (.int .i64 v0.to_)] ++ [.lit (.int .i64 v0.at_)] ++ [.lit (.int .u64 v0.next)])]) (js := [3, 3, 3]) hk rfl rfl hf rfl rfl Go.Proofs.Try.func34 rfl (by kernel_rfl) (dev_Dev_Read.ok v0_0 v0.at_ _ hr_t1 b0_0 xd0_0_0 xc0_0_0 xr0_0_1) ?_; clear hk
      rintro _ _ ⟨zd1, zc1, zr1, rfl, rfl⟩ a w hk
      refine hQ _ _ a w ?_ hk; clear hk hQ hf
      refine ⟨[(22, [], .lit (.pointer (some ⟨b0, 0, none⟩))), (23, [], .lit (.pointer (some ⟨b0, 0, none⟩))), (24, [], .lit (.pointer (some ⟨b0, 0, none⟩))), (25, [], .lit (.pointer (some ⟨b0_0, 0, none⟩))), (26, [], .lit (.pointer (some ⟨b0, 0, none⟩))), (27, [], .lit (.pointer (some ⟨b0, 0, none⟩))), (28, [], .lit (.pointer (some ⟨b0, 3, none⟩))), (29, [], .lit (.int .i64 v0.at_)), (30, [], .tup [.lit (.string (FW.B t1.1)), .lit (.int .i64 t1.2.1)]), (21, [], .tup [.lit (.string (FW.B t1.1)), .lit (.int .i64 t1.2.1)]), (31, [], .lit (.string (FW.B t1.1))), (32, [], .lit (.int .i64 t1.2.1)), (4, [], .lit (.string (FW.B t1.1))), (5, [], .lit (.int .i64 t1.2.1))], And.intro rfl (And.intro rfl (And.intro rfl (And.intro rfl (And.intro rfl (And.intro rfl (And.intro rfl (And.intro rfl (trivial)))))))), rfl, ?_⟩
      refine FW.glast ?_ ?_
      · skip
        refine FW.gskip rfl rfl ?_
        refine FW.gskip rfl rfl ?_
        refine FW.gskip rfl rfl ?_
        refine FW.gskip rfl rfl ?_
        refine FW.gskip rfl rfl ?_
        refine FW.gskip rfl rfl ?_
        refine FW.gskip rfl rfl ?_
        refine FW.gskip rfl rfl ?_
        refine FW.gskip rfl rfl ?_
        refine FW.gfun (y := .tup [.lit (.string (FW.B t1.1)), .lit (.int .i64 t1.2.1)]) rfl rfl rfl rfl (fun a w hk => FW.f_move hk (FW.holds_nil _) rfl) ?_
        refine FW.gfun (y := .lit (.string (FW.B t1.1))) rfl rfl rfl rfl (fun a w hk => FW.f_extract hk (FW.holds_nil _) rfl rfl) ?_
        refine FW.gfun (y := .lit (.int .i64 t1.2.1)) rfl rfl rfl rfl (fun a w hk => FW.f_extract hk (FW.holds_nil _) rfl rfl) ?_
        refine FW.gfun (y := .lit (.string (FW.B t1.1))) rfl rfl rfl rfl (fun a w hk => FW.f_assign hk (FW.holds_nil _) rfl) ?_
        refine FW.gfun (y := .lit (.int .i64 t1.2.1)) rfl rfl rfl rfl (fun a w hk => FW.f_assign hk (FW.holds_nil _) rfl) ?_
        exact FW.gend
      · skip
        intro a w hk; simp only [FW.stD, cond_true] at hk
        refine FW.wreg ?_; intro K' hK6
        refine FW.lfun (y := .lit (.string (FW.B t1.1))) hk rfl rfl rfl rfl (FW.f_move hk (FW.holds_nil _) rfl) ?_; clear hk; intro a w hk
        obtain ⟨hc1, h⟩ := FW.chk h
        refine FW.lfun (y := .lit (.string (FW.B (List.take (Int.toNat 16 - Int.toNat 8) (List.drop (Int.toNat 8) t1.1))))) hk rfl rfl rfl rfl ((FW.f_pure (FW.p_slice Go.Proofs.Try.underlying9 hk.kn (FW.holds_nil _) rfl rfl rfl hc1))) ?_; clear hk; intro a w hk
        obtain ⟨t2, hr_t2, h⟩ := FW.bnd h
        refine FW.lfun (y := .lit (.int .u64 t2)) hk rfl rfl rfl rfl (FW.f_call hk (FW.holds_nil _) rfl rfl Go.Proofs.Try.func95 rfl (by kernel_rfl) (val_Wide.ok K (List.take (Int.toNat 16 - Int.toNat 8) (List.drop (Int.toNat 8) t1.1)) _ hr_t2)) ?_; clear hk; intro a w hk
        refine FW.lfun (y := .lit (.int .u64 t2)) hk rfl rfl rfl rfl (FW.f_assign hk (FW.holds_nil _) rfl) ?_; clear hk; intro a w hk
        refine FW.lend (hK6 _ _ ?_); clear hK6 K'
        refine FW.wseq ?_; intro K' hK7
        obtain ⟨hc2, h⟩ := FW.chk h
        obtain ⟨t3, hr_t3, h⟩ := FW.bnd h
        obtain ⟨hc3, h⟩ := FW.chk h
        obtain ⟨t4, hr_t4, h⟩ := FW.bndG h
        refine FW.wdraw (by kernel_rfl) (by kernel_rfl) hk ?_; clear hk
        refine FW.dfun (y := .lit (.string (FW.B t1.1))) rfl rfl rfl rfl (fun a w hk => FW.f_move hk (FW.holds_nil _) rfl) ?_
        refine FW.dfun (y := .lit (.string (FW.B (List.take (Int.toNat 8) t1.1)))) rfl rfl rfl rfl (fun a w hk => (FW.f_pure (FW.p_slice_hi Go.Proofs.Try.underlying9 hk.kn (FW.holds_nil _) rfl rfl hc2))) ?_
        refine FW.dfun (y := .lit (.int .u64 t3)) rfl rfl rfl rfl (fun a w hk => FW.f_call hk (FW.holds_nil _) rfl rfl Go.Proofs.Try.func95 rfl (by kernel_rfl) (val_Wide.ok K (List.take (Int.toNat 8) t1.1) _ hr_t3)) ?_
        refine FW.dfun (y := .lit (.pointer (some ⟨b0, 0, none⟩))) rfl rfl rfl rfl (fun a w hk => FW.f_move hk (FW.holds_nil _) rfl) ?_
        refine FW.dfun (y := .lit (.pointer (some ⟨b0, 0, none⟩))) rfl rfl rfl rfl (fun a w hk => (FW.f_pure (FW.p_nilCheck hk.kn (FW.holds_nil _) rfl))) ?_
        refine FW.dfun (y := .lit (.pointer (some ⟨b0, 4, none⟩))) rfl rfl rfl rfl (fun a w hk => FW.f_fieldPtr hk (FW.holds_nil _) rfl Go.Proofs.Try.underlying127 rfl (by kernel_rfl) rfl) ?_
        refine FW.dfun (y := .lit (.int .u64 v0.next)) rfl rfl rfl rfl (fun a w hk => FW.f_loadBlk1 hk (FW.holds_nil _) (j := 3) rfl rfl Go.Proofs.Try.underlying29 rfl rfl) ?_
        refine FW.dfun (y := .lit (.bool (!decide (t3 = v0.next)))) rfl rfl rfl rfl (fun a w hk => (FW.f_pure (FW.p_neq hk.kn (FW.holds_nil _) rfl rfl))) ?_
        refine FW.dfun (y := .lit (.bool (!decide (t3 = v0.next)))) rfl rfl rfl rfl (fun a w hk => FW.f_move hk (FW.holds_nil _) rfl) ?_
        refine FW.dfunG (y := .lit (.string (FW.B t1.1))) rfl rfl rfl rfl rfl rfl rfl rfl rfl (fun a w hk hc => FW.f_move hk hc rfl) ?_
        refine FW.dfunG (y := .lit (.string (FW.B t1.1))) rfl rfl rfl rfl rfl rfl rfl rfl rfl (fun a w hk hc => FW.f_move hk hc rfl) ?_
        refine FW.dfunG (y := .lit (.int .i64 (List.length t1.1 : Int))) rfl rfl rfl rfl rfl rfl rfl rfl rfl (fun a w hk hc => (FW.f_pure (FW.p_slen Go.Proofs.Try.underlying9 hk.kn hc rfl))) ?_
        refine FW.dfunG (y := .lit (.int .i64 (IntKind.wrap .i64 ((List.length t1.1 : Int) - 8)))) rfl rfl rfl rfl rfl rfl rfl rfl rfl (fun a w hk hc => (FW.f_pure (FW.p_sub hk.kn hc rfl rfl))) ?_
        refine FW.dfunG (y := .lit (.string (FW.B (List.drop (Int.toNat (IntKind.wrap .i64 ((List.length t1.1 : Int) - 8))) t1.1)))) rfl rfl rfl rfl rfl rfl rfl rfl rfl (fun a w hk hc => (FW.f_pure (FW.p_slice_lo Go.Proofs.Try.underlying9 hk.kn hc rfl rfl hc3))) ?_
        refine FW.dfunG (y := .lit (.int .u64 t4)) rfl rfl rfl rfl rfl rfl rfl rfl rfl (fun a w hk hc => FW.f_call hk hc rfl rfl Go.Proofs.Try.func95 rfl (by kernel_rfl) (val_Wide.ok K (List.drop (Int.toNat (IntKind.wrap .i64 ((List.length t1.1 : Int) - 8))) t1.1) _ (hr_t4 (FW.asm_out (p := (!decide (t3 = v0.next)) = false) hk.kn hc (fun e0 => e0))))) ?_
        refine FW.dfunG (y := .lit (.pointer (some ⟨b0, 0, none⟩))) rfl rfl rfl rfl rfl rfl rfl rfl rfl (fun a w hk hc => FW.f_move hk hc rfl) ?_
        refine FW.dfunG (y := .lit (.pointer (some ⟨b0, 0, none⟩))) rfl rfl rfl rfl rfl rfl rfl rfl rfl (fun a w hk hc => (FW.f_pure (FW.p_nilCheck hk.kn hc rfl))) ?_
        refine FW.dfunG (y := .lit (.pointer (some ⟨b0, 4, none⟩))) rfl rfl rfl rfl rfl rfl rfl rfl rfl (fun a w hk hc => FW.f_fieldPtr hk hc rfl Go.Proofs.Try.underlying127 rfl (by kernel_rfl) rfl) ?_
        refine FW.dfunG (y := .lit (.int .u64 v0.next)) rfl rfl rfl rfl rfl rfl rfl rfl rfl (fun a w hk hc => FW.f_loadBlk1 hk hc (j := 3) rfl rfl Go.Proofs.Try.underlying29 rfl rfl) ?_
        refine FW.dfunG (y := .lit (.bool (!decide (t4 = v0.next)))) rfl rfl rfl rfl rfl rfl rfl rfl rfl (fun a w hk hc => (FW.f_pure (FW.p_neq hk.kn hc rfl rfl))) ?_
        refine FW.dfun (y := .lit (.bool ((!decide (t3 = v0.next)) || (!decide (t4 = v0.next))))) rfl rfl rfl rfl (fun a w hk => (FW.f_pure (FW.p_pick_or hk.kn (FW.holds_nil _) rfl rfl))) ?_
        refine FW.dfun (y := .lit (.bool ((!decide (t3 = v0.next)) || (!decide (t4 = v0.next))))) rfl rfl rfl rfl (fun a w hk => FW.f_move hk (FW.holds_nil _) rfl) ?_
        refine FW.dfunG (y := .lit (.int .u64 t2)) rfl rfl rfl rfl rfl rfl rfl rfl rfl (fun a w hk hc => FW.f_move hk hc rfl) ?_
        refine FW.dfunG (y := .lit (.pointer (some ⟨b0, 0, none⟩))) rfl rfl rfl rfl rfl rfl rfl rfl rfl (fun a w hk hc => FW.f_move hk hc rfl) ?_
        refine FW.dfunG (y := .lit (.pointer (some ⟨b0, 0, none⟩))) rfl rfl rfl rfl rfl rfl rfl rfl rfl (fun a w hk hc => (FW.f_pure (FW.p_nilCheck hk.kn hc rfl))) ?_
        refine FW.dfunG (y := .lit (.pointer (some ⟨b0, 2, none⟩))) rfl rfl rfl rfl rfl rfl rfl rfl rfl (fun a w hk hc => FW.f_fieldPtr hk hc rfl Go.Proofs.Try.underlying127 rfl (by kernel_rfl) rfl) ?_
        refine FW.dfunG (y := .lit (.int .i64 v0.to_)) rfl rfl rfl rfl rfl rfl rfl rfl rfl (fun a w hk hc => FW.f_loadBlk1 hk hc (j := 3) rfl rfl Go.Proofs.Try.underlying3 rfl rfl) ?_
        refine FW.dfunG (y := .lit (.pointer (some ⟨b0, 0, none⟩))) rfl rfl rfl rfl rfl rfl rfl rfl rfl (fun a w hk hc => FW.f_move hk hc rfl) ?_
        refine FW.dfunG (y := .lit (.pointer (some ⟨b0, 0, none⟩))) rfl rfl rfl rfl rfl rfl rfl rfl rfl (fun a w hk hc => (FW.f_pure (FW.p_nilCheck hk.kn hc rfl))) ?_
        refine FW.dfunG (y := .lit (.pointer (some ⟨b0, 3, none⟩))) rfl rfl rfl rfl rfl rfl rfl rfl rfl (fun a w hk hc => FW.f_fieldPtr hk hc rfl Go.Proofs.Try.underlying127 rfl (by kernel_rfl) rfl) ?_
        refine FW.dfunG (y := .lit (.int .i64 v0.at_)) rfl rfl rfl rfl rfl rfl rfl rfl rfl (fun a w hk hc => FW.f_loadBlk1 hk hc (j := 3) rfl rfl Go.Proofs.Try.underlying3 rfl rfl) ?_
        refine FW.dfunG (y := .lit (.int .i64 (IntKind.wrap .i64 (v0.to_ - v0.at_)))) rfl rfl rfl rfl rfl rfl rfl rfl rfl (fun a w hk hc => (FW.f_pure (FW.p_sub hk.kn hc rfl rfl))) ?_
        refine FW.dfunG (y := .lit (.int .u64 (IntKind.wrap .u64 (IntKind.wrap .i64 (v0.to_ - v0.at_))))) rfl rfl rfl rfl rfl rfl rfl rfl rfl (fun a w hk hc => (FW.f_pure (FW.p_conv Go.Proofs.Try.underlying3 Go.Proofs.Try.underlying29 hk.kn hc rfl))) ?_
        refine FW.dfunG (y := .lit (.int .u64 (IntKind.wrap .u64 ((IntKind.wrap .u64 (IntKind.wrap .i64 (v0.to_ - v0.at_))) * 128)))) rfl rfl rfl rfl rfl rfl rfl rfl rfl (fun a w hk hc => (FW.f_pure (FW.p_mul hk.kn hc rfl rfl))) ?_
        refine FW.dfunG (y := .lit (.bool (decide ((IntKind.wrap .u64 ((IntKind.wrap .u64 (IntKind.wrap .i64 (v0.to_ - v0.at_))) * 128)) < t2)))) rfl rfl rfl rfl rfl rfl rfl rfl rfl (fun a w hk hc => (FW.f_pure (FW.p_gtr hk.kn hc rfl rfl))) ?_
        refine FW.dfun (y := .lit (.bool (((!decide (t3 = v0.next)) || (!decide (t4 = v0.next))) || (decide ((IntKind.wrap .u64 ((IntKind.wrap .u64 (IntKind.wrap .i64 (v0.to_ - v0.at_))) * 128)) < t2))))) rfl rfl rfl rfl (fun a w hk => (FW.f_pure (FW.p_pick_or hk.kn (FW.holds_nil _) rfl rfl))) ?_
        refine FW.dend ?_; intro a w hk
        refine FW.wcondF (b := (((!decide (t3 = v0.next)) || (!decide (t4 = v0.next))) || (decide ((IntKind.wrap .u64 ((IntKind.wrap .u64 (IntKind.wrap .i64 (v0.to_ - v0.at_))) * 128)) < t2)))) hk h rfl (fun h hb => ?_) (fun h hb => ?_)
        · skip
          refine FW.wreg ?_; intro K' hK9
          refine FW.lfun (y := .lit (.string (FW.B ([] : List UInt8)))) hk rfl rfl rfl rfl (FW.f_assign hk (FW.holds_nil _) rfl) ?_; clear hk; intro a w hk
          refine FW.lfun (y := .lit (.bool false)) hk rfl rfl rfl rfl (FW.f_assign hk (FW.holds_nil _) rfl) ?_; clear hk; intro a w hk
          refine FW.lend (hK9 _ _ ?_); clear hK9 K'
          refine wp_ret ?_
          (repeat first | refine FW.then_ret ?_ | refine FW.block_ret ?_)
          obtain rfl := Option.some.inj h
          replace hk := FW.S.keep (I1 := [FW.blk b0 127 ([.lit (.pointer (some ⟨b0_0, 0, none⟩))] ++ [.lit (.int .i64 v0.from_)] ++ [.lit (.int .i64 v0.to_)] ++ [.lit (.int .i64 v0.at_)] ++ [.lit (.int .u64 v0.next)]), FW.blk b0_0 109 ([.lit (.slice zd1 (List.length t1.2.2.sure) zc1)] ++ [.lit (.map (some zr1))] ++ [.lit (.int .i64 t1.2.2.steps)] ++ [.lit (.slice none 0 0)] ++ [.lit (.bool t1.2.2.off)]), FW.orow zd1 zc1 9 1 c_str t1.2.2.sure, FW.mapI (.int .i64) (Value.int .i64) FW.evS zr1 t1.2.2.cache]) (I2 := []) (js := [2, 2, 2, 3]) hk rfl
          exact FW.fretH2 hk rfl (FW.rtmp hk rfl) (FW.rtmp hk rfl) ⟨zd1, zc1, zr1, rfl, rfl⟩
        · skip
          refine wp_skip ?_
          (repeat first | refine FW.then_normal ?_ | refine FW.block_normal ?_); refine hK7 _ _ ?_
          refine FW.wreg ?_; intro K' hK10
          refine FW.lfun (y := .lit (.int .u64 t2)) hk rfl rfl rfl rfl (FW.f_move hk (FW.holds_nil _) rfl) ?_; clear hk; intro a w hk
          refine FW.lfun (y := .lit (.int .i64 (IntKind.wrap .i64 t2))) hk rfl rfl rfl rfl ((FW.f_pure (FW.p_conv Go.Proofs.Try.underlying29 Go.Proofs.Try.underlying3 hk.kn (FW.holds_nil _) rfl))) ?_; clear hk; intro a w hk
          obtain ⟨t5, hr_t5, h⟩ := FW.bnd h
          refine FW.lfun (y := .lit (.int .i64 t5)) hk rfl rfl rfl rfl (FW.f_call hk (FW.holds_nil _) rfl rfl Go.Proofs.Try.func45 rfl (by kernel_rfl) (log_Sectors.ok (IntKind.wrap .i64 t2) _ hr_t5)) ?_; clear hk; intro a w hk
          refine FW.lfun (y := .lit (.int .i64 t5)) hk rfl rfl rfl rfl (FW.f_assign hk (FW.holds_nil _) rfl) ?_; clear hk; intro a w hk
          refine FW.lend (hK10 _ _ ?_); clear hK10 K'
          refine FW.wseq ?_; intro K' hK11
          refine FW.wdraw (by kernel_rfl) (by kernel_rfl) hk ?_; clear hk
          refine FW.dfun (y := .lit (.int .i64 t5)) rfl rfl rfl rfl (fun a w hk => FW.f_move hk (FW.holds_nil _) rfl) ?_
          refine FW.dfun (y := .lit (.pointer (some ⟨b0, 0, none⟩))) rfl rfl rfl rfl (fun a w hk => FW.f_move hk (FW.holds_nil _) rfl) ?_
          refine FW.dfun (y := .lit (.pointer (some ⟨b0, 0, none⟩))) rfl rfl rfl rfl (fun a w hk => (FW.f_pure (FW.p_nilCheck hk.kn (FW.holds_nil _) rfl))) ?_
          refine FW.dfun (y := .lit (.pointer (some ⟨b0, 2, none⟩))) rfl rfl rfl rfl (fun a w hk => FW.f_fieldPtr hk (FW.holds_nil _) rfl Go.Proofs.Try.underlying127 rfl (by kernel_rfl) rfl) ?_
          refine FW.dfun (y := .lit (.int .i64 v0.to_)) rfl rfl rfl rfl (fun a w hk => FW.f_loadBlk1 hk (FW.holds_nil _) (j := 3) rfl rfl Go.Proofs.Try.underlying3 rfl rfl) ?_
          refine FW.dfun (y := .lit (.pointer (some ⟨b0, 0, none⟩))) rfl rfl rfl rfl (fun a w hk => FW.f_move hk (FW.holds_nil _) rfl) ?_
          refine FW.dfun (y := .lit (.pointer (some ⟨b0, 0, none⟩))) rfl rfl rfl rfl (fun a w hk => (FW.f_pure (FW.p_nilCheck hk.kn (FW.holds_nil _) rfl))) ?_
          refine FW.dfun (y := .lit (.pointer (some ⟨b0, 3, none⟩))) rfl rfl rfl rfl (fun a w hk => FW.f_fieldPtr hk (FW.holds_nil _) rfl Go.Proofs.Try.underlying127 rfl (by kernel_rfl) rfl) ?_
          refine FW.dfun (y := .lit (.int .i64 v0.at_)) rfl rfl rfl rfl (fun a w hk => FW.f_loadBlk1 hk (FW.holds_nil _) (j := 3) rfl rfl Go.Proofs.Try.underlying3 rfl rfl) ?_
          refine FW.dfun (y := .lit (.int .i64 (IntKind.wrap .i64 (v0.to_ - v0.at_)))) rfl rfl rfl rfl (fun a w hk => (FW.f_pure (FW.p_sub hk.kn (FW.holds_nil _) rfl rfl))) ?_
          refine FW.dfun (y := .lit (.bool (decide ((IntKind.wrap .i64 (v0.to_ - v0.at_)) < t5)))) rfl rfl rfl rfl (fun a w hk => (FW.f_pure (FW.p_gtr hk.kn (FW.holds_nil _) rfl rfl))) ?_
          refine FW.dend ?_; intro a w hk
          refine FW.wcondF (b := (decide ((IntKind.wrap .i64 (v0.to_ - v0.at_)) < t5))) hk h rfl (fun h hb => ?_) (fun h hb => ?_)
          · skip
            refine FW.wreg ?_; intro K' hK13
            refine FW.lfun (y := .lit (.string (FW.B ([] : List UInt8)))) hk rfl rfl rfl rfl (FW.f_assign hk (FW.holds_nil _) rfl) ?_; clear hk; intro a w hk
            refine FW.lfun (y := .lit (.bool false)) hk rfl rfl rfl rfl (FW.f_assign hk (FW.holds_nil _) rfl) ?_; clear hk; intro a w hk
            refine FW.lend (hK13 _ _ ?_); clear hK13 K'
            refine wp_ret ?_
            (repeat first | refine FW.then_ret ?_ | refine FW.block_ret ?_)
            obtain rfl := Option.some.inj h
            replace hk := FW.S.keep (I1 := [FW.blk b0 127 ([.lit (.pointer (some ⟨b0_0, 0, none⟩))] ++ [.lit (.int .i64 v0.from_)] ++ [.lit (.int .i64 v0.to_)] ++ [.lit (.int .i64 v0.at_)] ++ [.lit (.int .u64 v0.next)]), FW.blk b0_0 109 ([.lit (.slice zd1 (List.length t1.2.2.sure) zc1)] ++ [.lit (.map (some zr1))] ++ [.lit (.int .i64 t1.2.2.steps)] ++ [.lit (.slice none 0 0)] ++ [.lit (.bool t1.2.2.off)]), FW.orow zd1 zc1 9 1 c_str t1.2.2.sure, FW.mapI (.int .i64) (Value.int .i64) FW.evS zr1 t1.2.2.cache]) (I2 := []) (js := [2, 2, 2, 3]) hk rfl
            exact FW.fretH2 hk rfl (FW.rtmp hk rfl) (FW.rtmp hk rfl) ⟨zd1, zc1, zr1, rfl, rfl⟩
          · skip
            refine wp_skip ?_
            (repeat first | refine FW.then_normal ?_ | refine FW.block_normal ?_); refine hK11 _ _ ?_
            refine FW.wreg ?_; intro K' hK14
            refine FW.lfun (y := .lit (.string (FW.B t1.1))) hk rfl rfl rfl rfl (FW.f_move hk (FW.holds_nil _) rfl) ?_; clear hk; intro a w hk
            obtain ⟨hc4, h⟩ := FW.chk h
            refine FW.lfun (y := .lit (.string (FW.B (List.take (Int.toNat 120 - Int.toNat 16) (List.drop (Int.toNat 16) t1.1))))) hk rfl rfl rfl rfl ((FW.f_pure (FW.p_slice Go.Proofs.Try.underlying9 hk.kn (FW.holds_nil _) rfl rfl rfl hc4))) ?_; clear hk; intro a w hk
            refine FW.lfun (y := .lit (.string (FW.B (List.take (Int.toNat 120 - Int.toNat 16) (List.drop (Int.toNat 16) t1.1))))) hk rfl rfl rfl rfl (FW.f_assign hk (FW.holds_nil _) rfl) ?_; clear hk; intro a w hk
            refine FW.lend (hK14 _ _ ?_); clear hK14 K'
            refine FW.wseq ?_; intro K' hK15
            refine FW.wreg ?_; intro K' hK16
            refine FW.lfun (y := .lit (.int .i64 1)) hk rfl rfl rfl rfl (FW.f_assign hk (FW.holds_nil _) rfl) ?_; clear hk; intro a w hk
            refine FW.lend (hK16 _ _ ?_); clear hK16 K'
            refine wp_block ?_
            refine FW.wloop (T := Nat × Int × Bool × List (List UInt8) × (List (Int × (List UInt8))) × Int × Int × Int × Int × Int × Int × List UInt8 × Int × Option Addr × Nat × Nat) (fun x a w => match x with | (kl1, y2_2, y2_4, l3, m4, y1_1, y1_2, y1_3, y1_4, v6, v7, v8, v9, xd3, xc3, xr4) => FW.S M w0 a w 113 [FW.blk b0_0 109 ([.lit (.slice xd3 (List.length l3) xc3)] ++ [.lit (.map (some xr4))] ++ [.lit (.int .i64 y2_2)] ++ [.lit (.slice none 0 0)] ++ [.lit (.bool y2_4)]), FW.orow xd3 xc3 9 1 c_str l3, FW.mapI (.int .i64) (Value.int .i64) FW.evS xr4 m4, FW.blk b0 127 ([.lit (.pointer (some ⟨b0_0, 0, none⟩))] ++ [.lit (.int .i64 y1_1)] ++ [.lit (.int .i64 y1_2)] ++ [.lit (.int .i64 y1_3)] ++ [.lit (.int .u64 y1_4)])] [(0, [], .lit (.pointer (some ⟨b0, 0, none⟩))), (6, [], .lit (.int .u64 v6)), (7, [], .lit (.int .i64 v7)), (8, [], .lit (.string (FW.B v8))), (9, [], .lit (.int .i64 v9))] ∧ log_Log_read.l1 K kl1 y2_2 y2_4 l3 m4 y1_1 y1_2 y1_3 y1_4 v6 v7 v8 v9 = some r) (fun x => x.1) (K, t1.2.2.steps, t1.2.2.off, t1.2.2.sure, t1.2.2.cache, v0.from_, v0.to_, v0.at_, v0.next, t2, t5, (List.take (Int.toNat 120 - Int.toNat 16) (List.drop (Int.toNat 16) t1.1)), 1, zd1, zc1, zr1) ⟨hk.sub ⟨rfl, rfl, rfl, rfl, rfl, trivial⟩, h⟩ ?_
            clear hk h
            rintro ⟨kl1, y2_2, y2_4, l3, m4, y1_1, y1_2, y1_3, y1_4, v6, v7, v8, v9, xd3, xc3, xr4⟩ a w ⟨hk, h⟩ K' hK17
            cases kl1 with
            | zero => simp [log_Log_read.l1] at h
            | succ kl1 =>
            rw [log_Log_read.l1.eq_2] at h
            refine FW.wseq ?_; intro K' hK18
            refine FW.wreg ?_; intro K' hK19
            refine FW.lfun (y := .lit (.int .i64 v9)) hk rfl rfl rfl rfl (FW.f_move hk (FW.holds_nil _) rfl) ?_; clear hk; intro a w hk
            refine FW.lfun (y := .lit (.int .i64 v7)) hk rfl rfl rfl rfl (FW.f_move hk (FW.holds_nil _) rfl) ?_; clear hk; intro a w hk
            refine FW.lfun (y := .lit (.bool (decide (v9 < v7)))) hk rfl rfl rfl rfl ((FW.f_pure (FW.p_lss hk.kn (FW.holds_nil _) rfl rfl))) ?_; clear hk; intro a w hk
            refine FW.lend (hK19 _ _ ?_); clear hK19 K'
            refine FW.wcondF (b := (decide (v9 < v7))) hk h rfl (fun h hb => ?_) (fun h hb => ?_)
            · skip
              refine wp_skip ?_
              (repeat first | refine FW.then_normal ?_ | refine FW.block_normal ?_); refine hK18 _ _ ?_
              refine FW.wseq ?_; intro K' hK20
              refine wp_block ?_
              obtain ⟨t6, hr_t6, h⟩ := FW.bnd h
              refine FW.wdrawE (need := [false, false, false, false, false, false, false, false, false, false, false, true, true, true, true, true]) [(10, [true, true, true, true, true, true, true, true, true, true, false, false, false, false, false, false], [true, true, true, true, true, true, true, true, true, true, false, false, false, false, false, false])] [(94, [], .lit (.pointer (some ⟨b0, 0, none⟩))), (95, [], .lit (.pointer (some ⟨b0, 0, none⟩))), (96, [], .lit (.pointer (some ⟨b0, 0, none⟩))), (97, [], .lit (.pointer (some ⟨b0_0, 0, none⟩))), (98, [], .lit (.pointer (some ⟨b0, 0, none⟩))), (99, [], .lit (.pointer (some ⟨b0, 0, none⟩))), (100, [], .lit (.pointer (some ⟨b0, 3, none⟩))), (101, [], .lit (.int .i64 y1_3)), (102, [], .lit (.int .i64 v9)), (103, [], .lit (.int .i64 (IntKind.wrap .i64 (y1_3 + v9)))), (104, [], .agg []), (93, [], .agg []), (105, [], .agg []), (106, [], .agg []), (10, [], .agg []), (11, [], .agg [])] (by kernel_rfl) (by kernel_rfl) (by kernel_rfl) (by kernel_rfl) hk ?_; clear hk
              refine FW.gnext ?_ rfl rfl rfl rfl rfl ?_
              · skip
                refine FW.gfun (y := .lit (.pointer (some ⟨b0, 0, none⟩))) rfl rfl rfl rfl (fun a w hk => FW.f_move hk (FW.holds_nil _) rfl) ?_
                refine FW.gfun (y := .lit (.pointer (some ⟨b0, 0, none⟩))) rfl rfl rfl rfl (fun a w hk => (FW.f_pure (FW.p_nilCheck hk.kn (FW.holds_nil _) rfl))) ?_
                refine FW.gfun (y := .lit (.pointer (some ⟨b0, 0, none⟩))) rfl rfl rfl rfl (fun a w hk => FW.f_fieldPtr hk (FW.holds_nil _) rfl Go.Proofs.Try.underlying127 rfl (by kernel_rfl) rfl) ?_
                refine FW.gfun (y := .lit (.pointer (some ⟨b0_0, 0, none⟩))) rfl rfl rfl rfl (fun a w hk => FW.f_loadBlk1 hk (FW.holds_nil _) (j := 3) rfl rfl Go.Proofs.Try.underlying46 rfl rfl) ?_
                refine FW.gfun (y := .lit (.pointer (some ⟨b0, 0, none⟩))) rfl rfl rfl rfl (fun a w hk => FW.f_move hk (FW.holds_nil _) rfl) ?_
                refine FW.gfun (y := .lit (.pointer (some ⟨b0, 0, none⟩))) rfl rfl rfl rfl (fun a w hk => (FW.f_pure (FW.p_nilCheck hk.kn (FW.holds_nil _) rfl))) ?_
                refine FW.gfun (y := .lit (.pointer (some ⟨b0, 3, none⟩))) rfl rfl rfl rfl (fun a w hk => FW.f_fieldPtr hk (FW.holds_nil _) rfl Go.Proofs.Try.underlying127 rfl (by kernel_rfl) rfl) ?_
                refine FW.gfun (y := .lit (.int .i64 y1_3)) rfl rfl rfl rfl (fun a w hk => FW.f_loadBlk1 hk (FW.holds_nil _) (j := 3) rfl rfl Go.Proofs.Try.underlying3 rfl rfl) ?_
                refine FW.gfun (y := .lit (.int .i64 v9)) rfl rfl rfl rfl (fun a w hk => FW.f_move hk (FW.holds_nil _) rfl) ?_
                refine FW.gfun (y := .lit (.int .i64 (IntKind.wrap .i64 (y1_3 + v9)))) rfl rfl rfl rfl (fun a w hk => (FW.f_pure (FW.p_add hk.kn (FW.holds_nil _) rfl rfl))) ?_
                refine FW.gskip rfl rfl ?_
                refine FW.gskip rfl rfl ?_
                refine FW.gskip rfl rfl ?_
                refine FW.gskip rfl rfl ?_
                refine FW.gskip rfl rfl ?_
                refine FW.gskip rfl rfl ?_
                exact FW.gend
              · skip
                intro σD a w opsD QD hk hf hQ
                refine FW.l_callH (I1 := (ODevDev.items b0_0 xd3 xc3 xr4 (⟨l3, m4, y2_2, y2_4⟩ : ODevDev))) (I2 := [FW.blk b0 127 ([.lit (.pointer (some ⟨b0_0, 0, none⟩))] ++ [.lit (.int .i64 y1_1)] ++ [.lit (.int .i64 y1_2)] ++ [.lit (.int .i64 y1_3)] ++ [.lit (.int .u64 y1_4)])]) (js := [2, 2, 2]) hk rfl rfl hf rfl rfl Go.Proofs.Try.func34 rfl (by kernel_rfl) (dev_Dev_Read.ok (⟨l3, m4, y2_2, y2_4⟩ : ODevDev) (IntKind.wrap .i64 (y1_3 + v9)) _ hr_t6 b0_0 xd3 xc3 xr4) ?_; clear hk
                rintro _ _ ⟨zd2, zc2, zr2, rfl, rfl⟩ a w hk
                refine hQ _ _ a w ?_ hk; clear hk hQ hf
                refine ⟨[(94, [], .lit (.pointer (some ⟨b0, 0, none⟩))), (95, [], .lit (.pointer (some ⟨b0, 0, none⟩))), (96, [], .lit (.pointer (some ⟨b0, 0, none⟩))), (97, [], .lit (.pointer (some ⟨b0_0, 0, none⟩))), (98, [], .lit (.pointer (some ⟨b0, 0, none⟩))), (99, [], .lit (.pointer (some ⟨b0, 0, none⟩))), (100, [], .lit (.pointer (some ⟨b0, 3, none⟩))), (101, [], .lit (.int .i64 y1_3)), (102, [], .lit (.int .i64 v9)), (103, [], .lit (.int .i64 (IntKind.wrap .i64 (y1_3 + v9)))), (104, [], .tup [.lit (.string (FW.B t6.1)), .lit (.int .i64 t6.2.1)]), (93, [], .tup [.lit (.string (FW.B t6.1)), .lit (.int .i64 t6.2.1)]), (105, [], .lit (.string (FW.B t6.1))), (106, [], .lit (.int .i64 t6.2.1)), (10, [], .lit (.string (FW.B t6.1))), (11, [], .lit (.int .i64 t6.2.1))], And.intro rfl (And.intro rfl (And.intro rfl (And.intro rfl (And.intro rfl (And.intro rfl (And.intro rfl (And.intro rfl (And.intro rfl (And.intro rfl (trivial)))))))))), rfl, ?_⟩
                refine FW.glast ?_ ?_
                · skip
                  refine FW.gskip rfl rfl ?_
                  refine FW.gskip rfl rfl ?_
                  refine FW.gskip rfl rfl ?_
                  refine FW.gskip rfl rfl ?_
                  refine FW.gskip rfl rfl ?_
                  refine FW.gskip rfl rfl ?_
                  refine FW.gskip rfl rfl ?_
                  refine FW.gskip rfl rfl ?_
                  refine FW.gskip rfl rfl ?_
                  refine FW.gskip rfl rfl ?_
                  refine FW.gskip rfl rfl ?_
                  refine FW.gfun (y := .tup [.lit (.string (FW.B t6.1)), .lit (.int .i64 t6.2.1)]) rfl rfl rfl rfl (fun a w hk => FW.f_move hk (FW.holds_nil _) rfl) ?_
                  refine FW.gfun (y := .lit (.string (FW.B t6.1))) rfl rfl rfl rfl (fun a w hk => FW.f_extract hk (FW.holds_nil _) rfl rfl) ?_
                  refine FW.gfun (y := .lit (.int .i64 t6.2.1)) rfl rfl rfl rfl (fun a w hk => FW.f_extract hk (FW.holds_nil _) rfl rfl) ?_
                  refine FW.gfun (y := .lit (.string (FW.B t6.1))) rfl rfl rfl rfl (fun a w hk => FW.f_assign hk (FW.holds_nil _) rfl) ?_
                  refine FW.gfun (y := .lit (.int .i64 t6.2.1)) rfl rfl rfl rfl (fun a w hk => FW.f_assign hk (FW.holds_nil _) rfl) ?_
                  exact FW.gend
                · skip
                  intro a w hk; simp only [FW.stD, cond_true] at hk
                  refine FW.wreg1 ?_
                  refine FW.lfun (y := .lit (.string (FW.B v8))) hk rfl rfl rfl rfl (FW.f_move hk (FW.holds_nil _) rfl) ?_; clear hk; intro a w hk
                  refine FW.lfun (y := .lit (.string (FW.B t6.1))) hk rfl rfl rfl rfl (FW.f_move hk (FW.holds_nil _) rfl) ?_; clear hk; intro a w hk
                  obtain ⟨hc5, h⟩ := FW.chk h
                  refine FW.lfun (y := .lit (.string (FW.B (v8 ++ t6.1)))) hk rfl rfl rfl rfl ((FW.f_pure (FW.p_sadd hk.kn (FW.holds_nil _) rfl rfl hc5))) ?_; clear hk; intro a w hk
                  refine FW.lfun (y := .lit (.string (FW.B (v8 ++ t6.1)))) hk rfl rfl rfl rfl (FW.f_assign hk (FW.holds_nil _) rfl) ?_; clear hk; intro a w hk
                  refine wpList_nil ?_
                  (repeat first | refine FW.then_normal ?_ | refine FW.block_normal ?_); refine hK20 _ _ ?_
                  refine FW.wreg1 ?_
                  refine FW.lfun (y := .lit (.int .i64 v9)) hk rfl rfl rfl rfl (FW.f_move hk (FW.holds_nil _) rfl) ?_; clear hk; intro a w hk
                  refine FW.lfun (y := .lit (.int .i64 (IntKind.wrap .i64 (v9 + 1)))) hk rfl rfl rfl rfl ((FW.f_pure (FW.p_add hk.kn (FW.holds_nil _) rfl rfl))) ?_; clear hk; intro a w hk
                  refine FW.lfun (y := .lit (.int .i64 (IntKind.wrap .i64 (v9 + 1)))) hk rfl rfl rfl rfl (FW.f_assign hk (FW.holds_nil _) rfl) ?_; clear hk; intro a w hk
                  refine wpList_nil ?_
                  (repeat first | refine FW.then_normal ?_ | refine FW.block_normal ?_); exact hK17 (kl1, t6.2.2.steps, t6.2.2.off, t6.2.2.sure, t6.2.2.cache, y1_1, y1_2, y1_3, y1_4, v6, v7, (v8 ++ t6.1), (IntKind.wrap .i64 (v9 + 1)), zd2, zc2, zr2) _ _ (Nat.lt_succ_self _) ⟨hk.sub ⟨rfl, rfl, rfl, rfl, rfl, trivial⟩, h⟩
            · skip
              refine wp_exit ?_; (repeat first | refine FW.then_exit ?_ | refine FW.block_exit_ne rfl ?_); refine FW.block_exit ?_
              (repeat first | refine FW.then_normal ?_ | refine FW.block_normal ?_); refine hK15 _ _ ?_
              refine FW.wreg ?_; intro K' hK24
              refine FW.lfun (y := .lit (.string (FW.B v8))) hk rfl rfl rfl rfl (FW.f_move hk (FW.holds_nil _) rfl) ?_; clear hk; intro a w hk
              refine FW.lfun (y := .lit (.int .u64 v6)) hk rfl rfl rfl rfl (FW.f_move hk (FW.holds_nil _) rfl) ?_; clear hk; intro a w hk
              obtain ⟨hc6, h⟩ := FW.chk h
              refine FW.lfun (y := .lit (.string (FW.B (List.take (Int.toNat v6) v8)))) hk rfl rfl rfl rfl ((FW.f_pure (FW.p_slice_hi Go.Proofs.Try.underlying9 hk.kn (FW.holds_nil _) rfl rfl hc6))) ?_; clear hk; intro a w hk
              refine FW.lfun (y := .lit (.string (FW.B (List.take (Int.toNat v6) v8)))) hk rfl rfl rfl rfl (FW.f_assign hk (FW.holds_nil _) rfl) ?_; clear hk; intro a w hk
              refine FW.lfun (y := .lit (.bool true)) hk rfl rfl rfl rfl (FW.f_assign hk (FW.holds_nil _) rfl) ?_; clear hk; intro a w hk
              refine FW.lend (hK24 _ _ ?_); clear hK24 K'
              refine wp_ret ?_
              (repeat first | refine FW.then_ret ?_ | refine FW.block_ret ?_)
              obtain rfl := Option.some.inj h
              replace hk := FW.S.keep (I1 := [FW.blk b0 127 ([.lit (.pointer (some ⟨b0_0, 0, none⟩))] ++ [.lit (.int .i64 y1_1)] ++ [.lit (.int .i64 y1_2)] ++ [.lit (.int .i64 y1_3)] ++ [.lit (.int .u64 y1_4)]), FW.blk b0_0 109 ([.lit (.slice xd3 (List.length l3) xc3)] ++ [.lit (.map (some xr4))] ++ [.lit (.int .i64 y2_2)] ++ [.lit (.slice none 0 0)] ++ [.lit (.bool y2_4)]), FW.orow xd3 xc3 9 1 c_str l3, FW.mapI (.int .i64) (Value.int .i64) FW.evS xr4 m4]) (I2 := []) (js := [2, 2, 2, 3]) hk rfl
              exact FW.fretH2 hk rfl (FW.rtmp hk rfl) (FW.rtmp hk rfl) ⟨xd3, xc3, xr4, rfl, rfl⟩

theorem log_Open.ok (K : Nat) (v0 : ODevDev) (v1 : Int) (v2 : Int) (v3 : Int) (r : OLogLog × List (List UInt8) × Int × ODevDev) (h : log_Open.f K v0 v1 v2 v3 = some r) :
    ∀ (b0 : Nat) (xd0_0 : Option Addr) (xc0_0 : Nat) (xr0_1 : Nat), FW.OkH Go.Proofs.Try.prog 47 [.lit (.pointer (some ⟨b0, 0, none⟩)), .lit (.int .i64 v1), .lit (.int .i64 v2), .lit (.int .u64 v3)] (ODevDev.items b0 xd0_0 xc0_0 xr0_1 v0) (fun y I => ∃ (bn0 : Nat) (zxd0_0 : Option Addr) (zxc0_0 : Nat) (zxr0_1 : Nat), y = .tup [.lit (.pointer (some ⟨bn0, 0, none⟩)), .row (r_c_str r.2.1), .lit (.int .i64 r.2.2.1)] ∧ I = (OLogLog.items bn0 b0 r.1) ++ (ODevDev.items b0 zxd0_0 zxc0_0 zxr0_1 r.2.2.2)) := by
  intro b0 xd0_0 xc0_0 xr0_1
  refine FW.enterH (xs := [.lit (.pointer (some ⟨b0, 0, none⟩)), .lit (.int .i64 v1), .lit (.int .i64 v2), .lit (.int .u64 v3)]) Go.Proofs.Try.func47 rfl Go.Proofs.Try.ntmps47 rfl ?_
  intro M w0 a hk
  replace hk : FW.S M w0 a w0.toWorld 75 [FW.blk b0 109 ([.lit (.slice xd0_0 (List.length v0.sure) xc0_0)] ++ [.lit (.map (some xr0_1))] ++ [.lit (.int .i64 v0.steps)] ++ [.lit (.slice none 0 0)] ++ [.lit (.bool v0.off)]), FW.orow xd0_0 xc0_0 9 1 c_str v0.sure, FW.mapI (.int .i64) (Value.int .i64) FW.evS xr0_1 v0.cache] [(0, [], .lit (.pointer (some ⟨b0, 0, none⟩))), (1, [], .lit (.int .i64 v1)), (2, [], .lit (.int .i64 v2)), (3, [], .lit (.int .u64 v3))] := hk
  unfold log_Open.f at h
  refine FW.wreg ?_; intro K' hK1
  refine FW.lfun (y := .lit (.pointer none)) hk rfl rfl rfl rfl (FW.f_assign hk (FW.holds_nil _) rfl) ?_; clear hk; intro a w hk
  refine FW.lfun (y := .row (r_c_str [])) hk rfl rfl rfl rfl (FW.f_assignNil) ?_; clear hk; intro a w hk
  refine FW.lfun (y := .lit (.int .i64 0)) hk rfl rfl rfl rfl (FW.f_assign hk (FW.holds_nil _) rfl) ?_; clear hk; intro a w hk
  refine FW.lend (hK1 _ _ ?_); clear hK1 K'
  refine FW.wseq ?_; intro K' hK2
  refine FW.wreg ?_; intro K' hK3
  refine FW.lfun (y := .lit (.pointer (some ⟨b0, 0, none⟩))) hk rfl rfl rfl rfl (FW.f_move hk (FW.holds_nil _) rfl) ?_; clear hk; intro a w hk
  refine FW.lfun (y := .lit (.bool false)) hk rfl rfl rfl rfl ((FW.f_pure (FW.p_ptrEq Go.Proofs.Try.underlying46 hk.kn (FW.holds_nil _) rfl rfl rfl))) ?_; clear hk; intro a w hk
  refine FW.lfun (y := .lit (.bool false)) hk rfl rfl rfl rfl (FW.f_move hk (FW.holds_nil _) rfl) ?_; clear hk; intro a w hk
  refine FW.lfunG (y := .lit (.int .i64 v1)) hk rfl rfl rfl rfl rfl rfl rfl rfl (fun hc => FW.f_move hk hc rfl) ?_; clear hk; intro a w hk
  refine FW.lfunG (y := .lit (.bool (decide (v1 < 0)))) hk rfl rfl rfl rfl rfl rfl rfl rfl (fun hc => (FW.f_pure (FW.p_lss hk.kn hc rfl rfl))) ?_; clear hk; intro a w hk
  refine FW.lfun (y := .lit (.bool (decide (v1 < 0)))) hk rfl rfl rfl rfl ((FW.f_pure (FW.p_pickX hk.kn (FW.holds_nil _) rfl rfl))) ?_; clear hk; intro a w hk
  refine FW.lfun (y := .lit (.bool (decide (v1 < 0)))) hk rfl rfl rfl rfl (FW.f_move hk (FW.holds_nil _) rfl) ?_; clear hk; intro a w hk
  refine FW.lfunG (y := .lit (.int .i64 v2)) hk rfl rfl rfl rfl rfl rfl rfl rfl (fun hc => FW.f_move hk hc rfl) ?_; clear hk; intro a w hk
  refine FW.lfunG (y := .lit (.int .i64 v1)) hk rfl rfl rfl rfl rfl rfl rfl rfl (fun hc => FW.f_move hk hc rfl) ?_; clear hk; intro a w hk
  refine FW.lfunG (y := .lit (.bool (decide (v2 < v1)))) hk rfl rfl rfl rfl rfl rfl rfl rfl (fun hc => (FW.f_pure (FW.p_lss hk.kn hc rfl rfl))) ?_; clear hk; intro a w hk
  refine FW.lfun (y := .lit (.bool ((decide (v1 < 0)) || (decide (v2 < v1))))) hk rfl rfl rfl rfl ((FW.f_pure (FW.p_pick_or hk.kn (FW.holds_nil _) rfl rfl))) ?_; clear hk; intro a w hk
  refine FW.lfun (y := .lit (.bool ((decide (v1 < 0)) || (decide (v2 < v1))))) hk rfl rfl rfl rfl (FW.f_move hk (FW.holds_nil _) rfl) ?_; clear hk; intro a w hk
  refine FW.lfunG (y := .lit (.int .i64 v2)) hk rfl rfl rfl rfl rfl rfl rfl rfl (fun hc => FW.f_move hk hc rfl) ?_; clear hk; intro a w hk
  refine FW.lfunG (y := .lit (.pointer (some ⟨b0, 0, none⟩))) hk rfl rfl rfl rfl rfl rfl rfl rfl (fun hc => FW.f_move hk hc rfl) ?_; clear hk; intro a w hk
  obtain ⟨t1, hr_t1, hn_t1, h⟩ := FW.bndG2 h
  refine FW.l_callHG (I1 := (ODevDev.items b0 xd0_0 xc0_0 xr0_1 v0)) (I2 := []) (js := [2, 2, 2]) hk rfl rfl rfl rfl rfl rfl rfl rfl rfl Go.Proofs.Try.func42 rfl (by kernel_rfl) (fun hc => dev_Dev_Len.ok v0 _ (hr_t1 (FW.asm_out (p := ((decide (v1 < 0)) || (decide (v2 < v1))) = false) hk.kn hc (fun e0 => e0))) b0 xd0_0 xc0_0 xr0_1) (fun hn => by obtain rfl := hn_t1 (fun hp => hn (FW.asm_in hk.kn (by have e0 := hp; exact ⟨e0, rfl, trivial⟩))); exact ⟨_, xd0_0, xc0_0, xr0_1, rfl, rfl⟩) ?_; clear hk
  rintro _ _ ⟨zd1, zc1, zr1, rfl, rfl⟩ a w hk
  refine FW.lfunG (y := .lit (.bool (decide (t1.1 < v2)))) hk rfl rfl rfl rfl rfl rfl rfl rfl (fun hc => (FW.f_pure (FW.p_gtr hk.kn hc rfl rfl))) ?_; clear hk; intro a w hk
  refine FW.lfun (y := .lit (.bool (((decide (v1 < 0)) || (decide (v2 < v1))) || (decide (t1.1 < v2))))) hk rfl rfl rfl rfl ((FW.f_pure (FW.p_pick_or hk.kn (FW.holds_nil _) rfl rfl))) ?_; clear hk; intro a w hk
  refine FW.lfun (y := .lit (.bool (((decide (v1 < 0)) || (decide (v2 < v1))) || (decide (t1.1 < v2))))) hk rfl rfl rfl rfl (FW.f_move hk (FW.holds_nil _) rfl) ?_; clear hk; intro a w hk
  refine FW.lfunG (y := .lit (.int .u64 v3)) hk rfl rfl rfl rfl rfl rfl rfl rfl (fun hc => FW.f_move hk hc rfl) ?_; clear hk; intro a w hk
  refine FW.lfunG (y := .lit (.bool (decide (v3 = 0)))) hk rfl rfl rfl rfl rfl rfl rfl rfl (fun hc => (FW.f_pure (FW.p_eql hk.kn hc rfl rfl))) ?_; clear hk; intro a w hk
  refine FW.lfun (y := .lit (.bool ((((decide (v1 < 0)) || (decide (v2 < v1))) || (decide (t1.1 < v2))) || (decide (v3 = 0))))) hk rfl rfl rfl rfl ((FW.f_pure (FW.p_pick_or hk.kn (FW.holds_nil _) rfl rfl))) ?_; clear hk; intro a w hk
  refine FW.lend (hK3 _ _ ?_); clear hK3 K'
  refine FW.wcondF (b := ((((decide (v1 < 0)) || (decide (v2 < v1))) || (decide (t1.1 < v2))) || (decide (v3 = 0)))) hk h rfl (fun h hb => ?_) (fun h hb => ?_)
  · skip
    cases h
  · skip
    refine wp_skip ?_
    (repeat first | refine FW.then_normal ?_ | refine FW.block_normal ?_); refine hK2 _ _ ?_
    refine FW.wseq ?_; intro K' hK4
    refine FW.wreg ?_; intro K' hK5
    refine FW.lfun (y := .lit (.pointer (some ⟨b0, 0, none⟩))) hk rfl rfl rfl rfl (FW.f_move hk (FW.holds_nil _) rfl) ?_; clear hk; intro a w hk
    obtain ⟨t2, hr_t2, h⟩ := FW.bnd h
    refine FW.l_callH (I1 := (ODevDev.items b0 zd1 zc1 zr1 t1.2)) (I2 := []) (js := [2, 2, 2]) hk rfl rfl rfl rfl rfl Go.Proofs.Try.func41 rfl (by kernel_rfl) (dev_Dev_Off.ok t1.2 _ hr_t2 b0 zd1 zc1 zr1) ?_; clear hk
    rintro _ _ ⟨zd2, zc2, zr2, rfl, rfl⟩ a w hk
    refine FW.lend (hK5 _ _ ?_); clear hK5 K'
    refine FW.wcondF (b := t2.1) hk h rfl (fun h hb => ?_) (fun h hb => ?_)
    · skip
      cases h
    · skip
      refine wp_skip ?_
      (repeat first | refine FW.then_normal ?_ | refine FW.block_normal ?_); refine hK4 _ _ ?_
      refine FW.wreg ?_; intro K' hK6
      refine FW.lfun (y := .lit (.pointer (some ⟨b0, 0, none⟩))) hk rfl rfl rfl rfl (FW.f_move hk (FW.holds_nil _) rfl) ?_; clear hk; intro a w hk
      refine FW.lfun (y := .lit (.int .i64 v1)) hk rfl rfl rfl rfl (FW.f_move hk (FW.holds_nil _) rfl) ?_; clear hk; intro a w hk
      refine FW.lfun (y := .lit (.int .i64 v2)) hk rfl rfl rfl rfl (FW.f_move hk (FW.holds_nil _) rfl) ?_; clear hk; intro a w hk
      refine FW.lfun (y := .lit (.int .i64 v1)) hk rfl rfl rfl rfl (FW.f_move hk (FW.holds_nil _) rfl) ?_; clear hk; intro a w hk
      refine FW.lfun (y := .lit (.int .u64 v3)) hk rfl rfl rfl rfl (FW.f_move hk (FW.holds_nil _) rfl) ?_; clear hk; intro a w hk
      refine FW.lfun (y := .agg ([.lit (.pointer (some ⟨b0, 0, none⟩))] ++ [.lit (.int .i64 v1)] ++ [.lit (.int .i64 v2)] ++ [.lit (.int .i64 v1)] ++ [.lit (.int .u64 v3)])) hk rfl rfl rfl rfl (FW.f_buildN [] hk (FW.holds_nil _) rfl rfl rfl) ?_; clear hk; intro a w hk
      refine FW.l_box (cs := [.lit (.pointer (some ⟨b0, 0, none⟩))] ++ [.lit (.int .i64 v1)] ++ [.lit (.int .i64 v2)] ++ [.lit (.int .i64 v1)] ++ [.lit (.int .u64 v3)]) hk rfl rfl rfl rfl rfl ?_; clear hk; intro b1 a w hk
      refine FW.lfun (y := .lit (.pointer (some ⟨b1, 0, none⟩))) hk rfl rfl rfl rfl (FW.f_assign hk (FW.holds_nil _) rfl) ?_; clear hk; intro a w hk
      refine FW.lend (hK6 _ _ ?_); clear hK6 K'
      refine FW.wreg ?_; intro K' hK7
      refine FW.lfun (y := .lit (.slice none 0 0)) hk rfl rfl rfl rfl (FW.f_assign hk (FW.holds_nil _) rfl) ?_; clear hk; intro a w hk
      replace hk := hk.nilRow 9 1 c_str (fun _ => rfl)
      refine FW.lend (hK7 _ _ ?_); clear hK7 K'
      refine wp_block ?_
      refine FW.wloop (T := Nat × List (List UInt8) × Int × Int × Int × Int × Int × Bool × List (List UInt8) × (List (Int × (List UInt8))) × Option Addr × Nat × Option Addr × Nat × Nat) (fun x a w => match x with | (kl1, l5, y4_1, y4_2, y4_3, y4_4, y1_2, y1_4, l2, m3, xd5, xc5, xd2, xc2, xr3) => FW.S M w0 a w 75 [FW.orow xd5 xc5 9 1 c_str l5, FW.blk b1 127 ([.lit (.pointer (some ⟨b0, 0, none⟩))] ++ [.lit (.int .i64 y4_1)] ++ [.lit (.int .i64 y4_2)] ++ [.lit (.int .i64 y4_3)] ++ [.lit (.int .u64 y4_4)]), FW.blk b0 109 ([.lit (.slice xd2 (List.length l2) xc2)] ++ [.lit (.map (some xr3))] ++ [.lit (.int .i64 y1_2)] ++ [.lit (.slice none 0 0)] ++ [.lit (.bool y1_4)]), FW.orow xd2 xc2 9 1 c_str l2, FW.mapI (.int .i64) (Value.int .i64) FW.evS xr3 m3] [(11, [], .lit (.pointer (some ⟨b1, 0, none⟩))), (12, [], .lit (.slice xd5 (List.length l5) xc5))] ∧ log_Open.l1 K kl1 l5 y4_1 y4_2 y4_3 y4_4 y1_2 y1_4 l2 m3 = some r) (fun x => x.1) (K, ([] : List (List UInt8)), v1, v2, v1, v3, t2.2.steps, t2.2.off, t2.2.sure, t2.2.cache, none, 0, zd2, zc2, zr2) ⟨hk.sub ⟨rfl, rfl, trivial⟩, h⟩ ?_
      clear hk h
      rintro ⟨kl1, l5, y4_1, y4_2, y4_3, y4_4, y1_2, y1_4, l2, m3, xd5, xc5, xd2, xc2, xr3⟩ a w ⟨hk, h⟩ K' hK8
      cases kl1 with
      | zero => simp [log_Open.l1] at h
      | succ kl1 =>
      rw [log_Open.l1.eq_2] at h
      refine wp_block ?_
      refine FW.wreg ?_; intro K' hK9
      refine FW.lfun (y := .lit (.pointer (some ⟨b1, 0, none⟩))) hk rfl rfl rfl rfl (FW.f_move hk (FW.holds_nil _) rfl) ?_; clear hk; intro a w hk
      obtain ⟨t3, hr_t3, h⟩ := FW.bnd h
      refine FW.l_callH (I1 := (OLogLog.items b1 b0 (⟨y4_1, y4_2, y4_3, y4_4⟩ : OLogLog)) ++ (ODevDev.items b0 xd2 xc2 xr3 (⟨l2, m3, y1_2, y1_4⟩ : ODevDev))) (I2 := [FW.orow xd5 xc5 9 1 c_str l5]) (js := [4, 4, 4, 4]) hk rfl rfl rfl rfl rfl Go.Proofs.Try.func73 rfl (by kernel_rfl) (log_Log_read.ok K (⟨y4_1, y4_2, y4_3, y4_4⟩ : OLogLog) (⟨l2, m3, y1_2, y1_4⟩ : ODevDev) _ hr_t3 b1 b0 xd2 xc2 xr3) ?_; clear hk
      rintro _ _ ⟨zd3, zc3, zr3, rfl, rfl⟩ a w hk
      refine FW.lfun (y := .tup [.lit (.string (FW.B t3.1)), .lit (.bool t3.2.1)]) hk rfl rfl rfl rfl (FW.f_move hk (FW.holds_nil _) rfl) ?_; clear hk; intro a w hk
      refine FW.lfun (y := .lit (.string (FW.B t3.1))) hk rfl rfl rfl rfl (FW.f_extract hk (FW.holds_nil _) rfl rfl) ?_; clear hk; intro a w hk
      refine FW.lfun (y := .lit (.bool t3.2.1)) hk rfl rfl rfl rfl (FW.f_extract hk (FW.holds_nil _) rfl rfl) ?_; clear hk; intro a w hk
      refine FW.lfun (y := .lit (.string (FW.B t3.1))) hk rfl rfl rfl rfl (FW.f_assign hk (FW.holds_nil _) rfl) ?_; clear hk; intro a w hk
      refine FW.lfun (y := .lit (.bool t3.2.1)) hk rfl rfl rfl rfl (FW.f_assign hk (FW.holds_nil _) rfl) ?_; clear hk; intro a w hk
      refine FW.lend (hK9 _ _ ?_); clear hK9 K'
      refine FW.wseq ?_; intro K' hK10
      refine FW.wreg ?_; intro K' hK11
      refine FW.lfun (y := .lit (.bool t3.2.1)) hk rfl rfl rfl rfl (FW.f_move hk (FW.holds_nil _) rfl) ?_; clear hk; intro a w hk
      refine FW.lfun (y := .lit (.bool (!t3.2.1))) hk rfl rfl rfl rfl ((FW.f_pure (FW.p_not hk.kn (FW.holds_nil _) rfl))) ?_; clear hk; intro a w hk
      refine FW.lend (hK11 _ _ ?_); clear hK11 K'
      refine FW.wcondF (b := (!t3.2.1)) hk h rfl (fun h hb => ?_) (fun h hb => ?_)
      · skip
        refine FW.wreg ?_; intro K' hK12
        refine FW.lfun (y := .lit (.pointer (some ⟨b1, 0, none⟩))) hk rfl rfl rfl rfl (FW.f_move hk (FW.holds_nil _) rfl) ?_; clear hk; intro a w hk
        refine FW.lfun (y := .lit (.slice xd5 (List.length l5) xc5)) hk rfl rfl rfl rfl (FW.f_move hk (FW.holds_nil _) rfl) ?_; clear hk; intro a w hk
        refine FW.lfun (y := .lit (.pointer (some ⟨b1, 0, none⟩))) hk rfl rfl rfl rfl (FW.f_assign hk (FW.holds_nil _) rfl) ?_; clear hk; intro a w hk
        refine FW.lfun (y := .lit (.slice xd5 (List.length l5) xc5)) hk rfl rfl rfl rfl (FW.f_assign hk (FW.holds_nil _) rfl) ?_; clear hk; intro a w hk
        refine FW.lfun (y := .lit (.int .i64 0)) hk rfl rfl rfl rfl (FW.f_assign hk (FW.holds_nil _) rfl) ?_; clear hk; intro a w hk
        refine FW.lend (hK12 _ _ ?_); clear hK12 K'
        refine wp_ret ?_
        (repeat first | refine FW.then_ret ?_ | refine FW.block_ret ?_)
        replace hk := FW.S.freezeR (I' := [FW.blk b1 127 ([.lit (.pointer (some ⟨b0, 0, none⟩))] ++ [.lit (.int .i64 t3.2.2.1.from_)] ++ [.lit (.int .i64 t3.2.2.1.to_)] ++ [.lit (.int .i64 t3.2.2.1.at_)] ++ [.lit (.int .u64 t3.2.2.1.next)]), FW.blk b0 109 ([.lit (.slice zd3 (List.length t3.2.2.2.sure) zc3)] ++ [.lit (.map (some zr3))] ++ [.lit (.int .i64 t3.2.2.2.steps)] ++ [.lit (.slice none 0 0)] ++ [.lit (.bool t3.2.2.2.off)]), FW.orow zd3 zc3 9 1 c_str t3.2.2.2.sure, FW.mapI (.int .i64) (Value.int .i64) FW.evS zr3 t3.2.2.2.cache]) r_c_str_eq hk (j := 4) rfl (t := 9) rfl rfl
        obtain rfl := Option.some.inj h
        replace hk := FW.S.keep (I1 := [FW.blk b1 127 ([.lit (.pointer (some ⟨b0, 0, none⟩))] ++ [.lit (.int .i64 t3.2.2.1.from_)] ++ [.lit (.int .i64 t3.2.2.1.to_)] ++ [.lit (.int .i64 t3.2.2.1.at_)] ++ [.lit (.int .u64 t3.2.2.1.next)]), FW.blk b0 109 ([.lit (.slice zd3 (List.length t3.2.2.2.sure) zc3)] ++ [.lit (.map (some zr3))] ++ [.lit (.int .i64 t3.2.2.2.steps)] ++ [.lit (.slice none 0 0)] ++ [.lit (.bool t3.2.2.2.off)]), FW.orow zd3 zc3 9 1 c_str t3.2.2.2.sure, FW.mapI (.int .i64) (Value.int .i64) FW.evS zr3 t3.2.2.2.cache]) (I2 := []) (js := [3, 3, 3, 3]) hk rfl
        exact FW.fretH3 hk rfl (FW.rtmp hk rfl) (FW.rtmp hk rfl) (FW.rtmp hk rfl) ⟨b1, zd3, zc3, zr3, rfl, rfl⟩
      · skip
        refine wp_skip ?_
        (repeat first | refine FW.then_normal ?_ | refine FW.block_normal ?_); refine hK10 _ _ ?_
        refine FW.wreg ?_; intro K' hK13
        refine FW.lfun (y := .lit (.slice xd5 (List.length l5) xc5)) hk rfl rfl rfl rfl (FW.f_move hk (FW.holds_nil _) rfl) ?_; clear hk; intro a w hk
        refine FW.lfun (y := .lit (.string (FW.B t3.1))) hk rfl rfl rfl rfl (FW.f_move hk (FW.holds_nil _) rfl) ?_; clear hk; intro a w hk
        refine FW.l_buildSlice (f := c_str) (l := ([t3.1] : List (List UInt8))) hk rfl rfl rfl Go.Proofs.Try.underlying61 rfl rfl rfl rfl (fun _ => rfl) rfl ?_; clear hk; intro b2 a w hk
        obtain ⟨hc1, h⟩ := FW.chk h
        refine FW.l_append (l2 := ([t3.1] : List (List UInt8))) (l3 := (l5 ++ ([t3.1] : List (List UInt8)))) (I' := fun ad1 cap1 => [FW.orow (some ⟨b2, 0, none⟩) 1 9 1 c_str ([t3.1] : List (List UInt8)), FW.blk b1 127 ([.lit (.pointer (some ⟨b0, 0, none⟩))] ++ [.lit (.int .i64 t3.2.2.1.from_)] ++ [.lit (.int .i64 t3.2.2.1.to_)] ++ [.lit (.int .i64 t3.2.2.1.at_)] ++ [.lit (.int .u64 t3.2.2.1.next)]), FW.blk b0 109 ([.lit (.slice zd3 (List.length t3.2.2.2.sure) zc3)] ++ [.lit (.map (some zr3))] ++ [.lit (.int .i64 t3.2.2.2.steps)] ++ [.lit (.slice none 0 0)] ++ [.lit (.bool t3.2.2.2.off)]), FW.orow zd3 zc3 9 1 c_str t3.2.2.2.sure, FW.mapI (.int .i64) (Value.int .i64) FW.evS zr3 t3.2.2.2.cache, FW.orow ad1 cap1 9 1 c_str (l5 ++ ([t3.1] : List (List UInt8)))]) (j := 5) hk rfl rfl rfl rfl (FW.own_src hk (j := 0) rfl rfl (fun _ => rfl) Go.Proofs.Try.underlying61) Go.Proofs.Try.underlying61 (by kernel_rfl) hc1 rfl (fun _ _ => rfl) ?_; clear hk; intro ad1 cap1 a w hk
        replace hk := FW.S.dropI (I' := [FW.blk b1 127 ([.lit (.pointer (some ⟨b0, 0, none⟩))] ++ [.lit (.int .i64 t3.2.2.1.from_)] ++ [.lit (.int .i64 t3.2.2.1.to_)] ++ [.lit (.int .i64 t3.2.2.1.at_)] ++ [.lit (.int .u64 t3.2.2.1.next)]), FW.blk b0 109 ([.lit (.slice zd3 (List.length t3.2.2.2.sure) zc3)] ++ [.lit (.map (some zr3))] ++ [.lit (.int .i64 t3.2.2.2.steps)] ++ [.lit (.slice none 0 0)] ++ [.lit (.bool t3.2.2.2.off)]), FW.orow zd3 zc3 9 1 c_str t3.2.2.2.sure, FW.mapI (.int .i64) (Value.int .i64) FW.evS zr3 t3.2.2.2.cache, FW.orow ad1 cap1 9 1 c_str (l5 ++ ([t3.1] : List (List UInt8)))]) hk 0 rfl
        refine FW.lfun (y := .lit (.slice ad1 (List.length (l5 ++ ([t3.1] : List (List UInt8)))) cap1)) hk rfl rfl rfl rfl (FW.f_assign hk (FW.holds_nil _) rfl) ?_; clear hk; intro a w hk
        refine FW.lend (hK13 _ _ ?_); clear hK13 K'
        obtain ⟨t4, hr_t4, h⟩ := FW.bnd h
        refine FW.wdrawE (need := [false, false, false, false, false, false, false, false, false, false, false]) [(10, [true, true, true, true, true, true, true, true, true, true, false], [true, true, true, true, true, true, true, true, true, true, false])] [(58, [], .lit (.pointer (some ⟨b1, 0, none⟩))), (59, [], .lit (.pointer (some ⟨b1, 0, none⟩))), (60, [], .lit (.pointer (some ⟨b1, 3, none⟩))), (61, [], .lit (.int .i64 t3.2.2.1.at_)), (62, [], .lit (.string (FW.B t3.1))), (63, [], .lit (.int .i64 (List.length t3.1 : Int))), (64, [], .lit (.int .i64 t4)), (65, [], .lit (.int .i64 (IntKind.wrap .i64 (t3.2.2.1.at_ + t4)))), (66, [], .lit (.pointer (some ⟨b1, 0, none⟩))), (67, [], .lit (.pointer (some ⟨b1, 3, none⟩))), (75, [], .lit undef)] (by kernel_rfl) (by kernel_rfl) (by kernel_rfl) (by kernel_rfl) hk ?_; clear hk
        refine FW.gnext0 ?_ rfl rfl rfl ?_
        · skip
          refine FW.gfun (y := .lit (.pointer (some ⟨b1, 0, none⟩))) rfl rfl rfl rfl (fun a w hk => FW.f_move hk (FW.holds_nil _) rfl) ?_
          refine FW.gfun (y := .lit (.pointer (some ⟨b1, 0, none⟩))) rfl rfl rfl rfl (fun a w hk => (FW.f_pure (FW.p_nilCheck hk.kn (FW.holds_nil _) rfl))) ?_
          refine FW.gfun (y := .lit (.pointer (some ⟨b1, 3, none⟩))) rfl rfl rfl rfl (fun a w hk => FW.f_fieldPtr hk (FW.holds_nil _) rfl Go.Proofs.Try.underlying127 rfl (by kernel_rfl) rfl) ?_
          refine FW.gfun (y := .lit (.int .i64 t3.2.2.1.at_)) rfl rfl rfl rfl (fun a w hk => FW.f_loadBlk1 hk (FW.holds_nil _) (j := 0) rfl rfl Go.Proofs.Try.underlying3 rfl rfl) ?_
          refine FW.gfun (y := .lit (.string (FW.B t3.1))) rfl rfl rfl rfl (fun a w hk => FW.f_move hk (FW.holds_nil _) rfl) ?_
          refine FW.gfun (y := .lit (.int .i64 (List.length t3.1 : Int))) rfl rfl rfl rfl (fun a w hk => (FW.f_pure (FW.p_slen Go.Proofs.Try.underlying9 hk.kn (FW.holds_nil _) rfl))) ?_
          refine FW.gfun (y := .lit (.int .i64 t4)) rfl rfl rfl rfl (fun a w hk => FW.f_call hk (FW.holds_nil _) rfl rfl Go.Proofs.Try.func45 rfl (by kernel_rfl) (log_Sectors.ok (List.length t3.1 : Int) _ hr_t4)) ?_
          refine FW.gfun (y := .lit (.int .i64 (IntKind.wrap .i64 (t3.2.2.1.at_ + t4)))) rfl rfl rfl rfl (fun a w hk => (FW.f_pure (FW.p_add hk.kn (FW.holds_nil _) rfl rfl))) ?_
          refine FW.gfun (y := .lit (.pointer (some ⟨b1, 0, none⟩))) rfl rfl rfl rfl (fun a w hk => (FW.f_pure (FW.p_nilCheck hk.kn (FW.holds_nil _) rfl))) ?_
          refine FW.gfun (y := .lit (.pointer (some ⟨b1, 3, none⟩))) rfl rfl rfl rfl (fun a w hk => FW.f_fieldPtr hk (FW.holds_nil _) rfl Go.Proofs.Try.underlying127 rfl (by kernel_rfl) rfl) ?_
          refine FW.gskip0 rfl ?_
          exact FW.gend
        · skip
          intro σD a w opsD QD hk hQ
          refine FW.l_store (I' := [FW.blk b1 127 ([.lit (.pointer (some ⟨b0, 0, none⟩))] ++ [.lit (.int .i64 t3.2.2.1.from_)] ++ [.lit (.int .i64 t3.2.2.1.to_)] ++ [.lit (.int .i64 (IntKind.wrap .i64 (t3.2.2.1.at_ + t4)))] ++ [.lit (.int .u64 t3.2.2.1.next)]), FW.blk b0 109 ([.lit (.slice zd3 (List.length t3.2.2.2.sure) zc3)] ++ [.lit (.map (some zr3))] ++ [.lit (.int .i64 t3.2.2.2.steps)] ++ [.lit (.slice none 0 0)] ++ [.lit (.bool t3.2.2.2.off)]), FW.orow zd3 zc3 9 1 c_str t3.2.2.2.sure, FW.mapI (.int .i64) (Value.int .i64) FW.evS zr3 t3.2.2.2.cache, FW.orow ad1 cap1 9 1 c_str (l5 ++ ([t3.1] : List (List UInt8)))]) (cs' := [.lit (.pointer (some ⟨b0, 0, none⟩))] ++ [.lit (.int .i64 t3.2.2.1.from_)] ++ [.lit (.int .i64 t3.2.2.1.to_)] ++ [.lit (.int .i64 (IntKind.wrap .i64 (t3.2.2.1.at_ + t4)))] ++ [.lit (.int .u64 t3.2.2.1.next)]) (j := 0) hk rfl rfl rfl rfl rfl (by kernel_rfl) rfl rfl ?_; clear hk; intro w hk
          refine hQ _ a w ?_ hk; clear hk hQ
          refine ⟨[(58, [], .lit (.pointer (some ⟨b1, 0, none⟩))), (59, [], .lit (.pointer (some ⟨b1, 0, none⟩))), (60, [], .lit (.pointer (some ⟨b1, 3, none⟩))), (61, [], .lit (.int .i64 t3.2.2.1.at_)), (62, [], .lit (.string (FW.B t3.1))), (63, [], .lit (.int .i64 (List.length t3.1 : Int))), (64, [], .lit (.int .i64 t4)), (65, [], .lit (.int .i64 (IntKind.wrap .i64 (t3.2.2.1.at_ + t4)))), (66, [], .lit (.pointer (some ⟨b1, 0, none⟩))), (67, [], .lit (.pointer (some ⟨b1, 3, none⟩))), (75, [], .lit undef)], And.intro rfl (And.intro rfl (And.intro rfl (And.intro rfl (And.intro rfl (And.intro rfl (And.intro rfl (And.intro rfl (And.intro rfl (And.intro rfl (trivial)))))))))), rfl, ?_⟩
          refine FW.glast ?_ ?_
          · skip
            refine FW.gskip rfl rfl ?_
            refine FW.gskip rfl rfl ?_
            refine FW.gskip rfl rfl ?_
            refine FW.gskip rfl rfl ?_
            refine FW.gskip rfl rfl ?_
            refine FW.gskip rfl rfl ?_
            refine FW.gskip rfl rfl ?_
            refine FW.gskip rfl rfl ?_
            refine FW.gskip rfl rfl ?_
            refine FW.gskip rfl rfl ?_
            refine FW.gskip0 rfl ?_
            exact FW.gend
          · skip
            intro a w hk; simp only [FW.stD, cond_true] at hk
            refine FW.wreg1 ?_
            refine FW.lfun (y := .lit (.pointer (some ⟨b1, 0, none⟩))) hk rfl rfl rfl rfl (FW.f_move hk (FW.holds_nil _) rfl) ?_; clear hk; intro a w hk
            refine FW.lfun (y := .lit (.pointer (some ⟨b1, 0, none⟩))) hk rfl rfl rfl rfl ((FW.f_pure (FW.p_nilCheck hk.kn (FW.holds_nil _) rfl))) ?_; clear hk; intro a w hk
            refine FW.lfun (y := .lit (.pointer (some ⟨b1, 4, none⟩))) hk rfl rfl rfl rfl (FW.f_fieldPtr hk (FW.holds_nil _) rfl Go.Proofs.Try.underlying127 rfl (by kernel_rfl) rfl) ?_; clear hk; intro a w hk
            refine FW.lfun (y := .lit (.int .u64 t3.2.2.1.next)) hk rfl rfl rfl rfl (FW.f_loadBlk1 hk (FW.holds_nil _) (j := 0) rfl rfl Go.Proofs.Try.underlying29 rfl rfl) ?_; clear hk; intro a w hk
            refine FW.lfun (y := .lit (.int .u64 (IntKind.wrap .u64 (t3.2.2.1.next + 1)))) hk rfl rfl rfl rfl ((FW.f_pure (FW.p_add hk.kn (FW.holds_nil _) rfl rfl))) ?_; clear hk; intro a w hk
            refine FW.lfun (y := .lit (.pointer (some ⟨b1, 0, none⟩))) hk rfl rfl rfl rfl ((FW.f_pure (FW.p_nilCheck hk.kn (FW.holds_nil _) rfl))) ?_; clear hk; intro a w hk
            refine FW.lfun (y := .lit (.pointer (some ⟨b1, 4, none⟩))) hk rfl rfl rfl rfl (FW.f_fieldPtr hk (FW.holds_nil _) rfl Go.Proofs.Try.underlying127 rfl (by kernel_rfl) rfl) ?_; clear hk; intro a w hk
            refine FW.l_store (I' := [FW.blk b1 127 ([.lit (.pointer (some ⟨b0, 0, none⟩))] ++ [.lit (.int .i64 t3.2.2.1.from_)] ++ [.lit (.int .i64 t3.2.2.1.to_)] ++ [.lit (.int .i64 (IntKind.wrap .i64 (t3.2.2.1.at_ + t4)))] ++ [.lit (.int .u64 (IntKind.wrap .u64 (t3.2.2.1.next + 1)))]), FW.blk b0 109 ([.lit (.slice zd3 (List.length t3.2.2.2.sure) zc3)] ++ [.lit (.map (some zr3))] ++ [.lit (.int .i64 t3.2.2.2.steps)] ++ [.lit (.slice none 0 0)] ++ [.lit (.bool t3.2.2.2.off)]), FW.orow zd3 zc3 9 1 c_str t3.2.2.2.sure, FW.mapI (.int .i64) (Value.int .i64) FW.evS zr3 t3.2.2.2.cache, FW.orow ad1 cap1 9 1 c_str (l5 ++ ([t3.1] : List (List UInt8)))]) (cs' := [.lit (.pointer (some ⟨b0, 0, none⟩))] ++ [.lit (.int .i64 t3.2.2.1.from_)] ++ [.lit (.int .i64 t3.2.2.1.to_)] ++ [.lit (.int .i64 (IntKind.wrap .i64 (t3.2.2.1.at_ + t4)))] ++ [.lit (.int .u64 (IntKind.wrap .u64 (t3.2.2.1.next + 1)))]) (j := 0) hk rfl rfl rfl rfl rfl (by kernel_rfl) rfl rfl ?_; clear hk; intro w hk
            refine wpList_nil ?_
            (repeat first | refine FW.then_normal ?_ | refine FW.block_normal ?_); exact hK8 (kl1, (l5 ++ ([t3.1] : List (List UInt8))), t3.2.2.1.from_, t3.2.2.1.to_, (IntKind.wrap .i64 (t3.2.2.1.at_ + t4)), (IntKind.wrap .u64 (t3.2.2.1.next + 1)), t3.2.2.2.steps, t3.2.2.2.off, t3.2.2.2.sure, t3.2.2.2.cache, ad1, cap1, zd3, zc3, zr3) _ _ (Nat.lt_succ_self _) ⟨(FW.S.pick hk (js := [3, 3, 3, 3, 4]) rfl).sub ⟨rfl, rfl, trivial⟩, h⟩

theorem log_pad.ok  (v0 : List UInt8) (v1 : Int) (r : List UInt8) (h : log_pad.f v0 v1 = some r) :
    FW.Ok Go.Proofs.Try.prog 96 [.lit (.string (FW.B v0)), .lit (.int .i64 v1)] (.lit (.string (FW.B r))) := by
  refine FW.enter (xs := [.lit (.string (FW.B v0)), .lit (.int .i64 v1)]) Go.Proofs.Try.func96 rfl Go.Proofs.Try.ntmps96 rfl ?_
  intro M w0 a hk
  unfold log_pad.f at h
  refine FW.wreg ?_; intro K' hK1
  refine FW.lfun (y := .lit (.string (FW.B ([] : List UInt8)))) hk rfl rfl rfl rfl (FW.f_assign hk (FW.holds_nil _) rfl) ?_; clear hk; intro a w hk
  refine FW.lend (hK1 _ _ ?_); clear hK1 K'
  refine FW.wreg ?_; intro K' hK2
  refine FW.lfun (y := .lit (.string (FW.B v0))) hk rfl rfl rfl rfl (FW.f_move hk (FW.holds_nil _) rfl) ?_; clear hk; intro a w hk
  refine FW.lfun (y := .lit (.int .i64 v1)) hk rfl rfl rfl rfl (FW.f_move hk (FW.holds_nil _) rfl) ?_; clear hk; intro a w hk
  refine FW.lfun (y := .lit (.string (FW.B v0))) hk rfl rfl rfl rfl (FW.f_move hk (FW.holds_nil _) rfl) ?_; clear hk; intro a w hk
  refine FW.lfun (y := .lit (.int .i64 (List.length v0 : Int))) hk rfl rfl rfl rfl ((FW.f_pure (FW.p_slen Go.Proofs.Try.underlying9 hk.kn (FW.holds_nil _) rfl))) ?_; clear hk; intro a w hk
  refine FW.lfun (y := .lit (.int .i64 (IntKind.wrap .i64 (v1 - (List.length v0 : Int))))) hk rfl rfl rfl rfl ((FW.f_pure (FW.p_sub hk.kn (FW.holds_nil _) rfl rfl))) ?_; clear hk; intro a w hk
  obtain ⟨t1, hr_t1, h⟩ := FW.bnd h
  refine FW.lfun (y := .lit (.string (FW.B t1))) hk rfl rfl rfl rfl (FW.f_call hk (FW.holds_nil _) rfl rfl Go.Proofs.Try.func62 rfl (by kernel_rfl) (strings_Repeat.ok ([0] : List UInt8) (IntKind.wrap .i64 (v1 - (List.length v0 : Int))) _ hr_t1)) ?_; clear hk; intro a w hk
  obtain ⟨hc1, h⟩ := FW.chk h
  refine FW.lfun (y := .lit (.string (FW.B (v0 ++ t1)))) hk rfl rfl rfl rfl ((FW.f_pure (FW.p_sadd hk.kn (FW.holds_nil _) rfl rfl hc1))) ?_; clear hk; intro a w hk
  refine FW.lfun (y := .lit (.string (FW.B (v0 ++ t1)))) hk rfl rfl rfl rfl (FW.f_assign hk (FW.holds_nil _) rfl) ?_; clear hk; intro a w hk
  refine FW.lend (hK2 _ _ ?_); clear hK2 K'
  refine wp_ret ?_
  (repeat first | refine FW.then_ret ?_ | refine FW.block_ret ?_)
  obtain rfl := Option.some.inj h
  exact FW.fret1 hk rfl rfl
end Go.Proofs.Ytimaibcaehagjaa

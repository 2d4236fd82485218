/- Written by a program of this session (gen.py): the contracts of functions of the program. -/
import Derived.KernelRfl
import Derived.Test.YtimaibcaehagjaaProg
import Derived.Test.YtimaibcaehagjaaAvFun
import Derived.Test.YtimaibcaehagjaaAvMan
import Derived.Test.YtimaibcaehagjaaAvMore
import Derived.Test.YtimaibcaehagjaaAvDraw2
import Derived.Test.YtimaibcaehagjaaAvRow
import Derived.Test.YtimaibcaehagjaaHn
import Derived.Test.YtimaibcaehagjaaHg
import Derived.Test.YtimaibcaehagjaaHar
import Derived.Test.YtimaibcaehagjaaHc
import Derived.Test.YtimaibcaehagjaaFx
import Derived.Test.YtimaibcaehagjaaDxP1
import Derived.Test.YtimaibcaehagjaaFy2
import Derived.Test.YtimaibcaehagjaaHl
import Derived.Test.YtimaibcaehagjaaHnl
import Derived.Test.YtimaibcaehagjaaLhD
import Derived.Test.YtimaibcaehagjaaLhP1
namespace Go.Proofs.Ytimaibcaehagjaa
set_option linter.unusedVariables false
set_option maxRecDepth 20000
set_option maxHeartbeats 10000000
theorem val_Eight.ok (K : Nat) (v0 : Int) (r : List UInt8) (h : val_Eight.f K v0 = some r) :
    FW.Ok Go.Proofs.Try.prog 97 [.lit (.int .u64 v0)] (.lit (.string (FW.B r))) := by
  refine FW.enter (xs := [.lit (.int .u64 v0)]) Go.Proofs.Try.func97 rfl Go.Proofs.Try.ntmps97 rfl ?_
  intro M w0 a hk
  unfold val_Eight.f at h
  refine FW.wreg ?_; intro K' hK1
  refine FW.lfun (y := .lit (.string (FW.B ([] : List UInt8)))) hk rfl rfl rfl rfl (FW.f_assign hk (FW.holds_nil _) rfl) ?_; clear hk; intro a w hk
  refine FW.lend (hK1 _ _ ?_); clear hK1 K'
  refine FW.wreg ?_; intro K' hK2
  refine FW.l_allocArr (f := c_u8) (N := 8) (z0 := (0 : Int)) (fun _ => rfl) hk rfl rfl rfl rfl rfl (by decide) ?_; clear hk; intro bx1 a w hk
  refine FW.lend (hK2 _ _ ?_); clear hK2 K'
  refine FW.wseq ?_; intro K' hK3
  refine FW.wreg ?_; intro K' hK4
  refine FW.lfun (y := .lit (.int .i64 0)) hk rfl rfl rfl rfl (FW.f_move hk (FW.holds_nil _) rfl) ?_; clear hk; intro a w hk
  refine FW.lend (hK4 _ _ ?_); clear hK4 K'
  refine wp_block ?_
  refine FW.wloop (T := Nat × List Int × Int × Int) (fun x a w => match x with | (kl1, l1, v0, v5) => FW.S M w0 a w 19 [FW.orow (some ⟨bx1, 0, none⟩) 8 165 1 c_u8 l1] [(0, [], .lit (.int .u64 v0)), (3, [], .lit (.pointer (some ⟨bx1, 0, none⟩))), (5, [], .lit (.int .i64 v5))] ∧ val_Eight.l1 K kl1 l1 v0 v5 = some r) (fun x => x.1) (K, (List.replicate 8 (0 : Int)), v0, 0) ⟨hk.sub ⟨rfl, rfl, rfl, trivial⟩, h⟩ ?_
  clear hk h
  rintro ⟨kl1, l1, v0, v5⟩ a w ⟨hk, h⟩ K' hK5
  cases kl1 with
  | zero => simp [val_Eight.l1] at h
  | succ kl1 =>
  rw [val_Eight.l1.eq_2] at h
  refine FW.wreg ?_; intro K' hK6
  refine FW.lfun (y := .lit (.bool (decide (v5 < 8)))) hk rfl rfl rfl rfl ((FW.f_pure (FW.p_lss hk.kn (FW.holds_nil _) rfl rfl))) ?_; clear hk; intro a w hk
  refine FW.lend (hK6 _ _ ?_); clear hK6 K'
  refine FW.wseq ?_; intro K' hK7
  refine FW.wcondF (b := (decide (v5 < 8))) hk h rfl (fun h hb => ?_) (fun h hb => ?_)
  · skip
    refine wp_skip ?_
    (repeat first | refine FW.then_normal ?_ | refine FW.block_normal ?_); refine hK7 _ _ ?_
    refine FW.wseq ?_; intro K' hK8
    refine wp_block ?_
    refine FW.wreg ?_; intro K' hK9
    refine FW.lfun (y := .lit (.int .i64 v5)) hk rfl rfl rfl rfl (FW.f_move hk (FW.holds_nil _) rfl) ?_; clear hk; intro a w hk
    refine FW.lfun (y := .lit (.int .i64 v5)) hk rfl rfl rfl rfl (FW.f_assign hk (FW.holds_nil _) rfl) ?_; clear hk; intro a w hk
    refine FW.lend (hK9 _ _ ?_); clear hK9 K'
    refine FW.wreg1 ?_
    refine FW.lfun (y := .lit (.int .i64 v5)) hk rfl rfl rfl rfl (FW.f_move hk (FW.holds_nil _) rfl) ?_; clear hk; intro a w hk
    refine FW.lfun (y := .lit (.int .u64 v0)) hk rfl rfl rfl rfl (FW.f_move hk (FW.holds_nil _) rfl) ?_; clear hk; intro a w hk
    refine FW.lfun (y := .lit (.int .i64 v5)) hk rfl rfl rfl rfl (FW.f_move hk (FW.holds_nil _) rfl) ?_; clear hk; intro a w hk
    refine FW.lfun (y := .lit (.int .i64 (IntKind.wrap .i64 (8 * v5)))) hk rfl rfl rfl rfl ((FW.f_pure (FW.p_mul hk.kn (FW.holds_nil _) rfl rfl))) ?_; clear hk; intro a w hk
    refine FW.lfun (y := .lit (.int .i64 (IntKind.wrap .i64 (56 - (IntKind.wrap .i64 (8 * v5)))))) hk rfl rfl rfl rfl ((FW.f_pure (FW.p_sub hk.kn (FW.holds_nil _) rfl rfl))) ?_; clear hk; intro a w hk
    obtain ⟨hc1, h⟩ := FW.chk h
    refine FW.lfun (y := .lit (.int .u64 (FW.shrI .u64 v0 (IntKind.wrap .i64 (56 - (IntKind.wrap .i64 (8 * v5))))))) hk rfl rfl rfl rfl ((FW.f_pure (FW.p_shr hk.kn (FW.holds_nil _) rfl rfl hc1))) ?_; clear hk; intro a w hk
    refine FW.lfun (y := .lit (.int .u8 (IntKind.wrap .u8 (FW.shrI .u64 v0 (IntKind.wrap .i64 (56 - (IntKind.wrap .i64 (8 * v5)))))))) hk rfl rfl rfl rfl ((FW.f_pure (FW.p_conv Go.Proofs.Try.underlying29 Go.Proofs.Try.underlying5 hk.kn (FW.holds_nil _) rfl))) ?_; clear hk; intro a w hk
    obtain ⟨hc2, h⟩ := FW.chk h
    refine FW.lfun (y := FW.elA (some ⟨bx1, 0, none⟩) 1 v5) hk rfl rfl rfl rfl (FW.f_idxArr (f := c_u8) (l := l1) hk (FW.holds_nil _) (j := 0) rfl rfl rfl Go.Proofs.Try.underlying165 (by kernel_rfl) hc2) ?_; clear hk; intro a w hk
    refine FW.l_storeOwn1 (f := c_u8) (l := l1) (v := (IntKind.wrap .u8 (FW.shrI .u64 v0 (IntKind.wrap .i64 (56 - (IntKind.wrap .i64 (8 * v5))))))) (I' := [FW.orow (some ⟨bx1, 0, none⟩) 8 165 1 c_u8 (List.set l1 (Int.toNat v5) (IntKind.wrap .u8 (FW.shrI .u64 v0 (IntKind.wrap .i64 (56 - (IntKind.wrap .i64 (8 * v5)))))))]) (j := 0) hk rfl rfl hc2 rfl rfl rfl rfl (by kernel_rfl) rfl ?_; clear hk; intro w hk
    refine wpList_nil ?_
    (repeat first | refine FW.then_normal ?_ | refine FW.block_normal ?_); refine hK8 _ _ ?_
    refine FW.wreg1 ?_
    refine FW.lfun (y := .lit (.int .i64 (IntKind.wrap .i64 (v5 + 1)))) hk rfl rfl rfl rfl ((FW.f_pure (FW.p_add hk.kn (FW.holds_nil _) rfl rfl))) ?_; clear hk; intro a w hk
    refine FW.lfun (y := .lit (.int .i64 (IntKind.wrap .i64 (v5 + 1)))) hk rfl rfl rfl rfl (FW.f_move hk (FW.holds_nil _) rfl) ?_; clear hk; intro a w hk
    refine wpList_nil ?_
    (repeat first | refine FW.then_normal ?_ | refine FW.block_normal ?_); exact hK5 (kl1, (List.set l1 (Int.toNat v5) (IntKind.wrap .u8 (FW.shrI .u64 v0 (IntKind.wrap .i64 (56 - (IntKind.wrap .i64 (8 * v5))))))), v0, (IntKind.wrap .i64 (v5 + 1))) _ _ (Nat.lt_succ_self _) ⟨hk.sub ⟨rfl, rfl, rfl, trivial⟩, h⟩
  · skip
    refine wp_exit ?_; (repeat first | refine FW.then_exit ?_ | refine FW.block_exit_ne rfl ?_); refine FW.block_exit ?_
    (repeat first | refine FW.then_normal ?_ | refine FW.block_normal ?_); refine hK3 _ _ ?_
    refine FW.wreg ?_; intro K' hK12
    obtain ⟨hc3, h⟩ := FW.chk h
    refine FW.lfun (y := .lit (.slice (some ⟨bx1, 0, none⟩) (List.length l1) 8)) hk rfl rfl rfl rfl (FW.f_sliceArr (l := l1) hk (FW.holds_nil _) rfl Go.Proofs.Try.underlying165 (by kernel_rfl) hc3) ?_; clear hk; intro a w hk
    refine FW.lfun (y := .lit (.string (FW.B (FW.toB l1)))) hk rfl rfl rfl rfl (FW.f_toBarr (f := c_u8) rfl hk (FW.holds_nil _) (j := 0) rfl rfl Go.Proofs.Try.underlying92 Go.Proofs.Try.underlying5 Go.Proofs.Try.underlying9) ?_; clear hk; intro a w hk
    refine FW.lfun (y := .lit (.string (FW.B (FW.toB l1)))) hk rfl rfl rfl rfl (FW.f_assign hk (FW.holds_nil _) rfl) ?_; clear hk; intro a w hk
    refine FW.lend (hK12 _ _ ?_); clear hK12 K'
    refine wp_ret ?_
    (repeat first | refine FW.then_ret ?_ | refine FW.block_ret ?_)
    obtain rfl := Option.some.inj h
    exact FW.fret1 hk rfl rfl

theorem log_head.ok (K : Nat) (v0 : Int) (v1 : List UInt8) (r : List UInt8) (h : log_head.f K v0 v1 = some r) :
    FW.Ok Go.Proofs.Try.prog 75 [.lit (.int .u64 v0), .lit (.string (FW.B v1))] (.lit (.string (FW.B r))) := by
  refine FW.enter (xs := [.lit (.int .u64 v0), .lit (.string (FW.B v1))]) Go.Proofs.Try.func75 rfl Go.Proofs.Try.ntmps75 rfl ?_
  intro M w0 a hk
  unfold log_head.f at h
  refine FW.wreg ?_; intro K' hK1
  refine FW.lfun (y := .lit (.string (FW.B ([] : List UInt8)))) hk rfl rfl rfl rfl (FW.f_assign hk (FW.holds_nil _) rfl) ?_; clear hk; intro a w hk
  refine FW.lend (hK1 _ _ ?_); clear hK1 K'
  obtain ⟨t1, hr_t1, h⟩ := FW.bnd h
  obtain ⟨t2, hr_t2, h⟩ := FW.bnd h
  obtain ⟨hc1, h⟩ := FW.chk h
  obtain ⟨hc2, h⟩ := FW.chk h
  obtain ⟨t3, hr_t3, h⟩ := FW.bnd h
  obtain ⟨hc3, h⟩ := FW.chk h
  obtain ⟨t4, hr_t4, h⟩ := FW.bnd h
  obtain ⟨hc4, h⟩ := FW.chk h
  refine FW.wdraw (by kernel_rfl) (by kernel_rfl) hk ?_; clear hk
  refine FW.dfun (y := .lit (.int .u64 v0)) rfl rfl rfl rfl (fun a w hk => FW.f_move hk (FW.holds_nil _) rfl) ?_
  refine FW.dfun (y := .lit (.string (FW.B t1))) rfl rfl rfl rfl (fun a w hk => FW.f_call hk (FW.holds_nil _) rfl rfl Go.Proofs.Try.func97 rfl (by kernel_rfl) (val_Eight.ok K v0 _ hr_t1)) ?_
  refine FW.dfun (y := .lit (.string (FW.B v1))) rfl rfl rfl rfl (fun a w hk => FW.f_move hk (FW.holds_nil _) rfl) ?_
  refine FW.dfun (y := .lit (.int .i64 (List.length v1 : Int))) rfl rfl rfl rfl (fun a w hk => (FW.f_pure (FW.p_slen Go.Proofs.Try.underlying9 hk.kn (FW.holds_nil _) rfl))) ?_
  refine FW.dfun (y := .lit (.int .u64 (IntKind.wrap .u64 (List.length v1 : Int)))) rfl rfl rfl rfl (fun a w hk => (FW.f_pure (FW.p_conv Go.Proofs.Try.underlying3 Go.Proofs.Try.underlying29 hk.kn (FW.holds_nil _) rfl))) ?_
  refine FW.dfun (y := .lit (.string (FW.B t2))) rfl rfl rfl rfl (fun a w hk => FW.f_call hk (FW.holds_nil _) rfl rfl Go.Proofs.Try.func97 rfl (by kernel_rfl) (val_Eight.ok K (IntKind.wrap .u64 (List.length v1 : Int)) _ hr_t2)) ?_
  refine FW.dfun (y := .lit (.string (FW.B (t1 ++ t2)))) rfl rfl rfl rfl (fun a w hk => (FW.f_pure (FW.p_sadd hk.kn (FW.holds_nil _) rfl rfl hc1))) ?_
  refine FW.dfun (y := .lit (.string (FW.B v1))) rfl rfl rfl rfl (fun a w hk => FW.f_move hk (FW.holds_nil _) rfl) ?_
  refine FW.dfun (y := .lit (.string (FW.B v1))) rfl rfl rfl rfl (fun a w hk => FW.f_move hk (FW.holds_nil _) rfl) ?_
  refine FW.dfun (y := .lit (.int .i64 (List.length v1 : Int))) rfl rfl rfl rfl (fun a w hk => (FW.f_pure (FW.p_slen Go.Proofs.Try.underlying9 hk.kn (FW.holds_nil _) rfl))) ?_
  refine FW.dfun (y := .lit (.int .i64 (if 104 < (List.length v1 : Int) then 104 else (List.length v1 : Int)))) rfl rfl rfl rfl (fun a w hk => (FW.f_pure (FW.p_min hk.kn (FW.holds_nil _) rfl rfl))) ?_
  refine FW.dfun (y := .lit (.string (FW.B (List.take (Int.toNat (if 104 < (List.length v1 : Int) then 104 else (List.length v1 : Int))) v1)))) rfl rfl rfl rfl (fun a w hk => (FW.f_pure (FW.p_slice_hi Go.Proofs.Try.underlying9 hk.kn (FW.holds_nil _) rfl rfl hc2))) ?_
  refine FW.dfun (y := .lit (.string (FW.B t3))) rfl rfl rfl rfl (fun a w hk => FW.f_call hk (FW.holds_nil _) rfl rfl Go.Proofs.Try.func96 rfl (by kernel_rfl) (log_pad.ok (List.take (Int.toNat (if 104 < (List.length v1 : Int) then 104 else (List.length v1 : Int))) v1) 104 _ hr_t3)) ?_
  refine FW.dfun (y := .lit (.string (FW.B ((t1 ++ t2) ++ t3)))) rfl rfl rfl rfl (fun a w hk => (FW.f_pure (FW.p_sadd hk.kn (FW.holds_nil _) rfl rfl hc3))) ?_
  refine FW.dfun (y := .lit (.int .u64 v0)) rfl rfl rfl rfl (fun a w hk => FW.f_move hk (FW.holds_nil _) rfl) ?_
  refine FW.dfun (y := .lit (.string (FW.B t4))) rfl rfl rfl rfl (fun a w hk => FW.f_call hk (FW.holds_nil _) rfl rfl Go.Proofs.Try.func97 rfl (by kernel_rfl) (val_Eight.ok K v0 _ hr_t4)) ?_
  refine FW.dfun (y := .lit (.string (FW.B (((t1 ++ t2) ++ t3) ++ t4)))) rfl rfl rfl rfl (fun a w hk => (FW.f_pure (FW.p_sadd hk.kn (FW.holds_nil _) rfl rfl hc4))) ?_
  refine FW.dfun (y := .lit (.string (FW.B (((t1 ++ t2) ++ t3) ++ t4)))) rfl rfl rfl rfl (fun a w hk => FW.f_assign hk (FW.holds_nil _) rfl) ?_
  refine FW.dend ?_; intro a w hk
  refine wp_ret ?_
  (repeat first | refine FW.then_ret ?_ | refine FW.block_ret ?_)
  obtain rfl := Option.some.inj h
  exact FW.fret1 hk rfl rfl

theorem log_Log_Add.ok (K : Nat) (v0 : OLogLog) (v0_0 : ODevDev) (v1 : List UInt8) (r : Int × OLogLog × ODevDev) (h : log_Log_Add.f K v0 v0_0 v1 = some r) :
    ∀ (b0 : Nat) (b0_0 : Nat) (xd0_0_0 : Option Addr) (xc0_0_0 : Nat) (xr0_0_1 : Nat) (xd0_0_3 : Option Addr) (xc0_0_3 : Nat), FW.OkH Go.Proofs.Try.prog 50 [.lit (.pointer (some ⟨b0, 0, none⟩)), .lit (.string (FW.B v1))] ((OLogLog.items b0 b0_0 v0) ++ (ODevDev.items b0_0 xd0_0_0 xc0_0_0 xr0_0_1 xd0_0_3 xc0_0_3 v0_0)) (fun y I => ∃ (zxd0_0_0 : Option Addr) (zxc0_0_0 : Nat) (zxr0_0_1 : Nat) (zxd0_0_3 : Option Addr) (zxc0_0_3 : Nat), y = .lit (.int .i64 r.1) ∧ I = (OLogLog.items b0 b0_0 r.2.1) ++ (ODevDev.items b0_0 zxd0_0_0 zxc0_0_0 zxr0_0_1 zxd0_0_3 zxc0_0_3 r.2.2)) := by
  intro b0 b0_0 xd0_0_0 xc0_0_0 xr0_0_1 xd0_0_3 xc0_0_3
  refine FW.enterH (xs := [.lit (.pointer (some ⟨b0, 0, none⟩)), .lit (.string (FW.B v1))]) Go.Proofs.Try.func50 rfl Go.Proofs.Try.ntmps50 rfl ?_
  intro M w0 a hk
  replace hk : FW.S M w0 a w0.toWorld 81 [FW.blk b0 127 ([.lit (.pointer (some ⟨b0_0, 0, none⟩)), .lit (.int .i64 v0.from_), .lit (.int .i64 v0.to_), .lit (.int .i64 v0.at_), .lit (.int .u64 v0.next)]), FW.blk b0_0 109 ([.lit (.slice xd0_0_0 (List.length v0_0.sure) xc0_0_0), .lit (.map (some xr0_0_1)), .lit (.int .i64 v0_0.steps), .lit (.slice xd0_0_3 (List.length v0_0.falls) xc0_0_3), .lit (.bool v0_0.off)]), FW.orow xd0_0_0 xc0_0_0 9 1 c_str v0_0.sure, FW.mapI (.int .i64) (Value.int .i64) FW.evS xr0_0_1 v0_0.cache, FW.orow xd0_0_3 xc0_0_3 45 3 ApiFall.cells v0_0.falls] [(0, [], .lit (.pointer (some ⟨b0, 0, none⟩))), (1, [], .lit (.string (FW.B v1)))] := hk
  unfold log_Log_Add.f at h
  refine FW.wreg ?_; intro K' hK1
  refine FW.lfun (y := .lit (.int .i64 0)) hk rfl rfl rfl rfl (FW.f_assign hk (FW.holds_nil _) rfl) ?_; clear hk; intro a w hk
  refine FW.lend (hK1 _ _ ?_); clear hK1 K'
  refine FW.wseq ?_; intro K' hK2
  refine wp_block ?_
  refine FW.wreg ?_; intro K' hK3
  refine FW.lfun (y := .lit (.pointer (some ⟨b0, 0, none⟩))) hk rfl rfl rfl rfl (FW.f_move hk (FW.holds_nil _) rfl) ?_; clear hk; intro a w hk
  refine FW.lfun (y := .lit (.bool false)) hk rfl rfl rfl rfl ((FW.f_pure (FW.p_ptrEq Go.Proofs.Try.underlying79 hk.kn (FW.holds_nil _) rfl rfl rfl))) ?_; clear hk; intro a w hk
  refine FW.lfun (y := .lit (.bool false)) hk rfl rfl rfl rfl (FW.f_move hk (FW.holds_nil _) rfl) ?_; clear hk; intro a w hk
  refine FW.lfunG (y := .lit (.pointer (some ⟨b0, 0, none⟩))) hk rfl rfl rfl rfl rfl rfl rfl rfl (fun hc => FW.f_move hk hc rfl) ?_; clear hk; intro a w hk
  refine FW.lfunG (y := .lit (.pointer (some ⟨b0, 0, none⟩))) hk rfl rfl rfl rfl rfl rfl rfl rfl (fun hc => (FW.f_pure (FW.p_nilCheck hk.kn hc rfl))) ?_; clear hk; intro a w hk
  refine FW.lfunG (y := .lit (.pointer (some ⟨b0, 0, none⟩))) hk rfl rfl rfl rfl rfl rfl rfl rfl (fun hc => FW.f_fieldPtr hk hc rfl Go.Proofs.Try.underlying127 rfl (by kernel_rfl) rfl) ?_; clear hk; intro a w hk
  refine FW.lfunG (y := .lit (.pointer (some ⟨b0_0, 0, none⟩))) hk rfl rfl rfl rfl rfl rfl rfl rfl (fun hc => FW.f_loadBlk1 hk hc (j := 0) rfl rfl Go.Proofs.Try.underlying46 rfl rfl) ?_; clear hk; intro a w hk
  obtain ⟨t1, hr_t1, hn_t1, h⟩ := FW.bndG2 h
  refine FW.l_callHG (I1 := (ODevDev.items b0_0 xd0_0_0 xc0_0_0 xr0_0_1 xd0_0_3 xc0_0_3 v0_0)) (I2 := [FW.blk b0 127 ([.lit (.pointer (some ⟨b0_0, 0, none⟩)), .lit (.int .i64 v0.from_), .lit (.int .i64 v0.to_), .lit (.int .i64 v0.at_), .lit (.int .u64 v0.next)])]) (js := [4, 4, 4, 4]) hk rfl rfl rfl rfl rfl rfl rfl rfl rfl Go.Proofs.Try.func41 rfl (by kernel_rfl) (fun hc => dev_Dev_Off.ok v0_0 _ (hr_t1 (FW.asm_out (p := false = false) hk.kn hc (fun e0 => e0))) b0_0 xd0_0_0 xc0_0_0 xr0_0_1 xd0_0_3 xc0_0_3) (fun hn => by obtain rfl := hn_t1 (fun hp => hn (FW.asm_in hk.kn (by have e0 := hp; exact ⟨e0, rfl, trivial⟩))); exact ⟨_, rfl, rfl⟩) ?_; clear hk
  rintro _ _ ⟨rfl, rfl⟩ a w hk
  refine FW.lfun (y := .lit (.bool t1)) hk rfl rfl rfl rfl ((FW.f_pure (FW.p_pickX hk.kn (FW.holds_nil _) rfl rfl))) ?_; clear hk; intro a w hk
  refine FW.lfun (y := .lit (.bool t1)) hk rfl rfl rfl rfl (FW.f_assign hk (FW.holds_nil _) rfl) ?_; clear hk; intro a w hk
  refine FW.lend (hK3 _ _ ?_); clear hK3 K'
  refine FW.wcondF (b := t1) hk h rfl (fun h hb => ?_) (fun h hb => ?_)
  · skip
    refine FW.wreg ?_; intro K' hK4
    refine FW.lfun (y := .lit (.int .i64 7)) hk rfl rfl rfl rfl (FW.f_assign hk (FW.holds_nil _) rfl) ?_; clear hk; intro a w hk
    refine FW.lend (hK4 _ _ ?_); clear hK4 K'
    refine wp_ret ?_
    (repeat first | refine FW.then_ret ?_ | refine FW.block_ret ?_)
    obtain rfl := Option.some.inj h
    replace hk := FW.S.keep (I1 := [FW.blk b0 127 ([.lit (.pointer (some ⟨b0_0, 0, none⟩)), .lit (.int .i64 v0.from_), .lit (.int .i64 v0.to_), .lit (.int .i64 v0.at_), .lit (.int .u64 v0.next)]), FW.blk b0_0 109 ([.lit (.slice xd0_0_0 (List.length v0_0.sure) xc0_0_0), .lit (.map (some xr0_0_1)), .lit (.int .i64 v0_0.steps), .lit (.slice xd0_0_3 (List.length v0_0.falls) xc0_0_3), .lit (.bool v0_0.off)]), FW.orow xd0_0_0 xc0_0_0 9 1 c_str v0_0.sure, FW.mapI (.int .i64) (Value.int .i64) FW.evS xr0_0_1 v0_0.cache, FW.orow xd0_0_3 xc0_0_3 45 3 ApiFall.cells v0_0.falls]) (I2 := []) (js := [3, 3, 3, 3, 4]) hk rfl
    exact FW.fretH1 hk rfl (FW.rtmp hk rfl) ⟨xd0_0_0, xc0_0_0, xr0_0_1, xd0_0_3, xc0_0_3, rfl, rfl⟩
  · skip
    obtain ⟨t2, hr_t2, h⟩ := FW.bnd h
    refine FW.wdraw (by kernel_rfl) (by kernel_rfl) hk ?_; clear hk
    refine FW.dfun (y := .lit (.string (FW.B v1))) rfl rfl rfl rfl (fun a w hk => FW.f_move hk (FW.holds_nil _) rfl) ?_
    refine FW.dfun (y := .lit (.int .i64 (List.length v1 : Int))) rfl rfl rfl rfl (fun a w hk => (FW.f_pure (FW.p_slen Go.Proofs.Try.underlying9 hk.kn (FW.holds_nil _) rfl))) ?_
    refine FW.dfun (y := .lit (.int .i64 t2)) rfl rfl rfl rfl (fun a w hk => FW.f_call hk (FW.holds_nil _) rfl rfl Go.Proofs.Try.func45 rfl (by kernel_rfl) (log_Sectors.ok (List.length v1 : Int) _ hr_t2)) ?_
    refine FW.dfun (y := .lit (.pointer (some ⟨b0, 0, none⟩))) rfl rfl rfl rfl (fun a w hk => FW.f_move hk (FW.holds_nil _) rfl) ?_
    refine FW.dfun (y := .lit (.pointer (some ⟨b0, 0, none⟩))) rfl rfl rfl rfl (fun a w hk => (FW.f_pure (FW.p_nilCheck hk.kn (FW.holds_nil _) rfl))) ?_
    refine FW.dfun (y := .lit (.pointer (some ⟨b0, 2, none⟩))) rfl rfl rfl rfl (fun a w hk => FW.f_fieldPtr hk (FW.holds_nil _) rfl Go.Proofs.Try.underlying127 rfl (by kernel_rfl) rfl) ?_
    refine FW.dfun (y := .lit (.int .i64 v0.to_)) rfl rfl rfl rfl (fun a w hk => FW.f_loadBlk1 hk (FW.holds_nil _) (j := 4) rfl rfl Go.Proofs.Try.underlying3 rfl rfl) ?_
    refine FW.dfun (y := .lit (.pointer (some ⟨b0, 0, none⟩))) rfl rfl rfl rfl (fun a w hk => FW.f_move hk (FW.holds_nil _) rfl) ?_
    refine FW.dfun (y := .lit (.pointer (some ⟨b0, 0, none⟩))) rfl rfl rfl rfl (fun a w hk => (FW.f_pure (FW.p_nilCheck hk.kn (FW.holds_nil _) rfl))) ?_
    refine FW.dfun (y := .lit (.pointer (some ⟨b0, 3, none⟩))) rfl rfl rfl rfl (fun a w hk => FW.f_fieldPtr hk (FW.holds_nil _) rfl Go.Proofs.Try.underlying127 rfl (by kernel_rfl) rfl) ?_
    refine FW.dfun (y := .lit (.int .i64 v0.at_)) rfl rfl rfl rfl (fun a w hk => FW.f_loadBlk1 hk (FW.holds_nil _) (j := 4) rfl rfl Go.Proofs.Try.underlying3 rfl rfl) ?_
    refine FW.dfun (y := .lit (.int .i64 (IntKind.wrap .i64 (v0.to_ - v0.at_)))) rfl rfl rfl rfl (fun a w hk => (FW.f_pure (FW.p_sub hk.kn (FW.holds_nil _) rfl rfl))) ?_
    refine FW.dfun (y := .lit (.bool (decide ((IntKind.wrap .i64 (v0.to_ - v0.at_)) < t2)))) rfl rfl rfl rfl (fun a w hk => (FW.f_pure (FW.p_gtr hk.kn (FW.holds_nil _) rfl rfl))) ?_
    refine FW.dfun (y := .lit (.bool (decide ((IntKind.wrap .i64 (v0.to_ - v0.at_)) < t2)))) rfl rfl rfl rfl (fun a w hk => FW.f_assign hk (FW.holds_nil _) rfl) ?_
    refine FW.dend ?_; intro a w hk
    refine FW.wcondF (b := (decide ((IntKind.wrap .i64 (v0.to_ - v0.at_)) < t2))) hk h rfl (fun h hb => ?_) (fun h hb => ?_)
    · skip
      refine FW.wreg ?_; intro K' hK6
      refine FW.lfun (y := .lit (.int .i64 40)) hk rfl rfl rfl rfl (FW.f_assign hk (FW.holds_nil _) rfl) ?_; clear hk; intro a w hk
      refine FW.lend (hK6 _ _ ?_); clear hK6 K'
      refine wp_ret ?_
      (repeat first | refine FW.then_ret ?_ | refine FW.block_ret ?_)
      obtain rfl := Option.some.inj h
      replace hk := FW.S.keep (I1 := [FW.blk b0 127 ([.lit (.pointer (some ⟨b0_0, 0, none⟩)), .lit (.int .i64 v0.from_), .lit (.int .i64 v0.to_), .lit (.int .i64 v0.at_), .lit (.int .u64 v0.next)]), FW.blk b0_0 109 ([.lit (.slice xd0_0_0 (List.length v0_0.sure) xc0_0_0), .lit (.map (some xr0_0_1)), .lit (.int .i64 v0_0.steps), .lit (.slice xd0_0_3 (List.length v0_0.falls) xc0_0_3), .lit (.bool v0_0.off)]), FW.orow xd0_0_0 xc0_0_0 9 1 c_str v0_0.sure, FW.mapI (.int .i64) (Value.int .i64) FW.evS xr0_0_1 v0_0.cache, FW.orow xd0_0_3 xc0_0_3 45 3 ApiFall.cells v0_0.falls]) (I2 := []) (js := [3, 3, 3, 3, 4]) hk rfl
      exact FW.fretH1 hk rfl (FW.rtmp hk rfl) ⟨xd0_0_0, xc0_0_0, xr0_0_1, xd0_0_3, xc0_0_3, rfl, rfl⟩
    · skip
      refine wp_skip ?_
      (repeat first | refine FW.then_normal ?_ | refine FW.block_normal ?_); refine hK2 _ _ ?_
      refine FW.wseq ?_; intro K' hK7
      refine FW.wreg ?_; intro K' hK8
      refine FW.lfun (y := .lit (.pointer (some ⟨b0, 0, none⟩))) hk rfl rfl rfl rfl (FW.f_move hk (FW.holds_nil _) rfl) ?_; clear hk; intro a w hk
      refine FW.lfun (y := .lit (.string (FW.B v1))) hk rfl rfl rfl rfl (FW.f_move hk (FW.holds_nil _) rfl) ?_; clear hk; intro a w hk
      obtain ⟨t3, hr_t3, h⟩ := FW.bnd h
      refine FW.l_callH (I1 := (OLogLog.items b0 b0_0 v0) ++ (ODevDev.items b0_0 xd0_0_0 xc0_0_0 xr0_0_1 xd0_0_3 xc0_0_3 v0_0)) (I2 := []) (js := [3, 3, 3, 3, 4]) hk rfl rfl rfl rfl rfl Go.Proofs.Try.func74 rfl (by kernel_rfl) (log_Log_body.ok K v0 v0_0 v1 _ hr_t3 b0 b0_0 xd0_0_0 xc0_0_0 xr0_0_1 xd0_0_3 xc0_0_3) ?_; clear hk
      rintro _ _ ⟨zd1, zc1, zr1, zd2, zc2, rfl, rfl⟩ a w hk
      refine FW.lfun (y := .lit (.int .i64 t3.1)) hk rfl rfl rfl rfl (FW.f_assign hk (FW.holds_nil _) rfl) ?_; clear hk; intro a w hk
      refine FW.lend (hK8 _ _ ?_); clear hK8 K'
      refine FW.wreg ?_; intro K' hK9
      refine FW.lfun (y := .lit (.int .i64 t3.1)) hk rfl rfl rfl rfl (FW.f_move hk (FW.holds_nil _) rfl) ?_; clear hk; intro a w hk
      refine FW.lfun (y := .lit (.bool (!decide (t3.1 = 0)))) hk rfl rfl rfl rfl ((FW.f_pure (FW.p_neq hk.kn (FW.holds_nil _) rfl rfl))) ?_; clear hk; intro a w hk
      refine FW.lend (hK9 _ _ ?_); clear hK9 K'
      refine FW.wcondF (b := (!decide (t3.1 = 0))) hk h rfl (fun h hb => ?_) (fun h hb => ?_)
      · skip
        refine FW.wreg ?_; intro K' hK10
        refine FW.lfun (y := .lit (.int .i64 t3.1)) hk rfl rfl rfl rfl (FW.f_move hk (FW.holds_nil _) rfl) ?_; clear hk; intro a w hk
        refine FW.lfun (y := .lit (.int .i64 t3.1)) hk rfl rfl rfl rfl (FW.f_assign hk (FW.holds_nil _) rfl) ?_; clear hk; intro a w hk
        refine FW.lend (hK10 _ _ ?_); clear hK10 K'
        refine wp_ret ?_
        (repeat first | refine FW.then_ret ?_ | refine FW.block_ret ?_)
        obtain rfl := Option.some.inj h
        replace hk := FW.S.keep (I1 := [FW.blk b0 127 ([.lit (.pointer (some ⟨b0_0, 0, none⟩)), .lit (.int .i64 t3.2.1.from_), .lit (.int .i64 t3.2.1.to_), .lit (.int .i64 t3.2.1.at_), .lit (.int .u64 t3.2.1.next)]), FW.blk b0_0 109 ([.lit (.slice zd1 (List.length t3.2.2.sure) zc1), .lit (.map (some zr1)), .lit (.int .i64 t3.2.2.steps), .lit (.slice zd2 (List.length t3.2.2.falls) zc2), .lit (.bool t3.2.2.off)]), FW.orow zd1 zc1 9 1 c_str t3.2.2.sure, FW.mapI (.int .i64) (Value.int .i64) FW.evS zr1 t3.2.2.cache, FW.orow zd2 zc2 45 3 ApiFall.cells t3.2.2.falls]) (I2 := []) (js := [4, 4, 4, 4, 4]) hk rfl
        exact FW.fretH1 hk rfl (FW.rtmp hk rfl) ⟨zd1, zc1, zr1, zd2, zc2, rfl, rfl⟩
      · skip
        refine wp_skip ?_
        (repeat first | refine FW.then_normal ?_ | refine FW.block_normal ?_); refine hK7 _ _ ?_
        refine FW.wseq ?_; intro K' hK11
        obtain ⟨t4, hr_t4, h⟩ := FW.bnd h
        obtain ⟨t5, hr_t5, h⟩ := FW.bnd h
        refine FW.wdrawE (.next [true, true, true, true, true, true, true, true, true, true, true, true, true, true, false, false] 14 [true, true, true, true, true, true, true, true, true, true, true, true, true, true, false, false] (.leaf [false, false, false, false, false, false, false, false, false, false, false, false, false, false, false, true])) [(38, [], .lit (.pointer (some ⟨b0, 0, none⟩))), (39, [], .lit (.pointer (some ⟨b0, 0, none⟩))), (40, [], .lit (.pointer (some ⟨b0, 0, none⟩))), (41, [], .lit (.pointer (some ⟨b0_0, 0, none⟩))), (42, [], .lit (.pointer (some ⟨b0, 0, none⟩))), (43, [], .lit (.pointer (some ⟨b0, 0, none⟩))), (44, [], .lit (.pointer (some ⟨b0, 3, none⟩))), (45, [], .lit (.int .i64 t3.2.1.at_)), (46, [], .lit (.pointer (some ⟨b0, 0, none⟩))), (47, [], .lit (.pointer (some ⟨b0, 0, none⟩))), (48, [], .lit (.pointer (some ⟨b0, 4, none⟩))), (49, [], .lit (.int .u64 t3.2.1.next)), (50, [], .lit (.string (FW.B v1))), (51, [], .lit (.string (FW.B t4))), (52, [], .agg []), (6, [], .agg [])] (by kernel_rfl) (by kernel_rfl) (by kernel_rfl) (by kernel_rfl) hk ?_; clear hk
        refine FW.gnext ?_ rfl rfl rfl rfl rfl ?_
        · skip
          refine FW.gfun (y := .lit (.pointer (some ⟨b0, 0, none⟩))) rfl rfl rfl rfl (fun a w hk => FW.f_move hk (FW.holds_nil _) rfl) ?_
          refine FW.gfun (y := .lit (.pointer (some ⟨b0, 0, none⟩))) rfl rfl rfl rfl (fun a w hk => (FW.f_pure (FW.p_nilCheck hk.kn (FW.holds_nil _) rfl))) ?_
          refine FW.gfun (y := .lit (.pointer (some ⟨b0, 0, none⟩))) rfl rfl rfl rfl (fun a w hk => FW.f_fieldPtr hk (FW.holds_nil _) rfl Go.Proofs.Try.underlying127 rfl (by kernel_rfl) rfl) ?_
          refine FW.gfun (y := .lit (.pointer (some ⟨b0_0, 0, none⟩))) rfl rfl rfl rfl (fun a w hk => FW.f_loadBlk1 hk (FW.holds_nil _) (j := 0) rfl rfl Go.Proofs.Try.underlying46 rfl rfl) ?_
          refine FW.gfun (y := .lit (.pointer (some ⟨b0, 0, none⟩))) rfl rfl rfl rfl (fun a w hk => FW.f_move hk (FW.holds_nil _) rfl) ?_
          refine FW.gfun (y := .lit (.pointer (some ⟨b0, 0, none⟩))) rfl rfl rfl rfl (fun a w hk => (FW.f_pure (FW.p_nilCheck hk.kn (FW.holds_nil _) rfl))) ?_
          refine FW.gfun (y := .lit (.pointer (some ⟨b0, 3, none⟩))) rfl rfl rfl rfl (fun a w hk => FW.f_fieldPtr hk (FW.holds_nil _) rfl Go.Proofs.Try.underlying127 rfl (by kernel_rfl) rfl) ?_
          refine FW.gfun (y := .lit (.int .i64 t3.2.1.at_)) rfl rfl rfl rfl (fun a w hk => FW.f_loadBlk1 hk (FW.holds_nil _) (j := 0) rfl rfl Go.Proofs.Try.underlying3 rfl rfl) ?_
          refine FW.gfun (y := .lit (.pointer (some ⟨b0, 0, none⟩))) rfl rfl rfl rfl (fun a w hk => FW.f_move hk (FW.holds_nil _) rfl) ?_
          refine FW.gfun (y := .lit (.pointer (some ⟨b0, 0, none⟩))) rfl rfl rfl rfl (fun a w hk => (FW.f_pure (FW.p_nilCheck hk.kn (FW.holds_nil _) rfl))) ?_
          refine FW.gfun (y := .lit (.pointer (some ⟨b0, 4, none⟩))) rfl rfl rfl rfl (fun a w hk => FW.f_fieldPtr hk (FW.holds_nil _) rfl Go.Proofs.Try.underlying127 rfl (by kernel_rfl) rfl) ?_
          refine FW.gfun (y := .lit (.int .u64 t3.2.1.next)) rfl rfl rfl rfl (fun a w hk => FW.f_loadBlk1 hk (FW.holds_nil _) (j := 0) rfl rfl Go.Proofs.Try.underlying29 rfl rfl) ?_
          refine FW.gfun (y := .lit (.string (FW.B v1))) rfl rfl rfl rfl (fun a w hk => FW.f_move hk (FW.holds_nil _) rfl) ?_
          refine FW.gfun (y := .lit (.string (FW.B t4))) rfl rfl rfl rfl (fun a w hk => FW.f_call hk (FW.holds_nil _) rfl rfl Go.Proofs.Try.func75 rfl (by kernel_rfl) (log_head.ok K t3.2.1.next v1 _ hr_t4)) ?_
          refine FW.gskip rfl rfl ?_
          refine FW.gskip rfl rfl ?_
          exact FW.gend
        · skip
          intro σD a w opsD QD hk hf hQ hX
          refine FW.l_callH (I1 := (ODevDev.items b0_0 zd1 zc1 zr1 zd2 zc2 t3.2.2)) (I2 := [FW.blk b0 127 ([.lit (.pointer (some ⟨b0_0, 0, none⟩)), .lit (.int .i64 t3.2.1.from_), .lit (.int .i64 t3.2.1.to_), .lit (.int .i64 t3.2.1.at_), .lit (.int .u64 t3.2.1.next)])]) (js := [4, 4, 4, 4]) hk rfl rfl hf rfl rfl Go.Proofs.Try.func29 rfl (by kernel_rfl) (dev_Dev_Write.ok K t3.2.2 t3.2.1.at_ t4 _ hr_t5 b0_0 zd1 zc1 zr1 zd2 zc2) ?_; clear hk
          rintro _ _ ⟨zd3, zc3, zr2, zd4, zc4, rfl, rfl⟩ a w hk
          refine hQ _ _ a w ?_ hk; clear hk hQ hf hX
          refine ⟨[(38, [], .lit (.pointer (some ⟨b0, 0, none⟩))), (39, [], .lit (.pointer (some ⟨b0, 0, none⟩))), (40, [], .lit (.pointer (some ⟨b0, 0, none⟩))), (41, [], .lit (.pointer (some ⟨b0_0, 0, none⟩))), (42, [], .lit (.pointer (some ⟨b0, 0, none⟩))), (43, [], .lit (.pointer (some ⟨b0, 0, none⟩))), (44, [], .lit (.pointer (some ⟨b0, 3, none⟩))), (45, [], .lit (.int .i64 t3.2.1.at_)), (46, [], .lit (.pointer (some ⟨b0, 0, none⟩))), (47, [], .lit (.pointer (some ⟨b0, 0, none⟩))), (48, [], .lit (.pointer (some ⟨b0, 4, none⟩))), (49, [], .lit (.int .u64 t3.2.1.next)), (50, [], .lit (.string (FW.B v1))), (51, [], .lit (.string (FW.B t4))), (52, [], .lit (.int .i64 t5.1)), (6, [], .lit (.int .i64 t5.1))], And.intro rfl (And.intro rfl (And.intro rfl (And.intro rfl (And.intro rfl (And.intro rfl (And.intro rfl (And.intro rfl (And.intro rfl (And.intro rfl (And.intro rfl (And.intro rfl (And.intro rfl (And.intro rfl (trivial)))))))))))))), rfl, ?_⟩
          refine FW.glast ?_ ?_
          · skip
            refine FW.gskip rfl rfl ?_
            refine FW.gskip rfl rfl ?_
            refine FW.gskip rfl rfl ?_
            refine FW.gskip rfl rfl ?_
            refine FW.gskip rfl rfl ?_
            refine FW.gskip rfl rfl ?_
            refine FW.gskip rfl rfl ?_
            refine FW.gskip rfl rfl ?_
            refine FW.gskip rfl rfl ?_
            refine FW.gskip rfl rfl ?_
            refine FW.gskip rfl rfl ?_
            refine FW.gskip rfl rfl ?_
            refine FW.gskip rfl rfl ?_
            refine FW.gskip rfl rfl ?_
            refine FW.gskip rfl rfl ?_
            refine FW.gfun (y := .lit (.int .i64 t5.1)) rfl rfl rfl rfl (fun a w hk => FW.f_assign hk (FW.holds_nil _) rfl) ?_
            exact FW.gend
          · skip
            intro a w hk; simp only [FW.stD, cond_true] at hk
            refine FW.wreg ?_; intro K' hK13
            refine FW.lfun (y := .lit (.int .i64 t5.1)) hk rfl rfl rfl rfl (FW.f_move hk (FW.holds_nil _) rfl) ?_; clear hk; intro a w hk
            refine FW.lfun (y := .lit (.bool (!decide (t5.1 = 0)))) hk rfl rfl rfl rfl ((FW.f_pure (FW.p_neq hk.kn (FW.holds_nil _) rfl rfl))) ?_; clear hk; intro a w hk
            refine FW.lend (hK13 _ _ ?_); clear hK13 K'
            refine FW.wcondF (b := (!decide (t5.1 = 0))) hk h rfl (fun h hb => ?_) (fun h hb => ?_)
            · skip
              refine FW.wreg ?_; intro K' hK14
              refine FW.lfun (y := .lit (.int .i64 t5.1)) hk rfl rfl rfl rfl (FW.f_move hk (FW.holds_nil _) rfl) ?_; clear hk; intro a w hk
              refine FW.lfun (y := .lit (.int .i64 t5.1)) hk rfl rfl rfl rfl (FW.f_assign hk (FW.holds_nil _) rfl) ?_; clear hk; intro a w hk
              refine FW.lend (hK14 _ _ ?_); clear hK14 K'
              refine wp_ret ?_
              (repeat first | refine FW.then_ret ?_ | refine FW.block_ret ?_)
              obtain rfl := Option.some.inj h
              replace hk := FW.S.keep (I1 := [FW.blk b0 127 ([.lit (.pointer (some ⟨b0_0, 0, none⟩)), .lit (.int .i64 t3.2.1.from_), .lit (.int .i64 t3.2.1.to_), .lit (.int .i64 t3.2.1.at_), .lit (.int .u64 t3.2.1.next)]), FW.blk b0_0 109 ([.lit (.slice zd3 (List.length t5.2.sure) zc3), .lit (.map (some zr2)), .lit (.int .i64 t5.2.steps), .lit (.slice zd4 (List.length t5.2.falls) zc4), .lit (.bool t5.2.off)]), FW.orow zd3 zc3 9 1 c_str t5.2.sure, FW.mapI (.int .i64) (Value.int .i64) FW.evS zr2 t5.2.cache, FW.orow zd4 zc4 45 3 ApiFall.cells t5.2.falls]) (I2 := []) (js := [3, 3, 3, 3, 4]) hk rfl
              exact FW.fretH1 hk rfl (FW.rtmp hk rfl) ⟨zd3, zc3, zr2, zd4, zc4, rfl, rfl⟩
            · skip
              refine wp_skip ?_
              (repeat first | refine FW.then_normal ?_ | refine FW.block_normal ?_); refine hK11 _ _ ?_
              refine FW.wseq ?_; intro K' hK15
              refine FW.wreg ?_; intro K' hK16
              refine FW.lfun (y := .lit (.pointer (some ⟨b0, 0, none⟩))) hk rfl rfl rfl rfl (FW.f_move hk (FW.holds_nil _) rfl) ?_; clear hk; intro a w hk
              refine FW.lfun (y := .lit (.pointer (some ⟨b0, 0, none⟩))) hk rfl rfl rfl rfl ((FW.f_pure (FW.p_nilCheck hk.kn (FW.holds_nil _) rfl))) ?_; clear hk; intro a w hk
              refine FW.lfun (y := .lit (.pointer (some ⟨b0, 0, none⟩))) hk rfl rfl rfl rfl (FW.f_fieldPtr hk (FW.holds_nil _) rfl Go.Proofs.Try.underlying127 rfl (by kernel_rfl) rfl) ?_; clear hk; intro a w hk
              refine FW.lfun (y := .lit (.pointer (some ⟨b0_0, 0, none⟩))) hk rfl rfl rfl rfl (FW.f_loadBlk1 hk (FW.holds_nil _) (j := 4) rfl rfl Go.Proofs.Try.underlying46 rfl rfl) ?_; clear hk; intro a w hk
              obtain ⟨t6, hr_t6, h⟩ := FW.bnd h
              refine FW.l_callH (I1 := (ODevDev.items b0_0 zd3 zc3 zr2 zd4 zc4 t5.2)) (I2 := [FW.blk b0 127 ([.lit (.pointer (some ⟨b0_0, 0, none⟩)), .lit (.int .i64 t3.2.1.from_), .lit (.int .i64 t3.2.1.to_), .lit (.int .i64 t3.2.1.at_), .lit (.int .u64 t3.2.1.next)])]) (js := [3, 3, 3, 3]) hk rfl rfl rfl rfl rfl Go.Proofs.Try.func31 rfl (by kernel_rfl) (dev_Dev_Flush.ok K t5.2 _ hr_t6 b0_0 zd3 zc3 zr2 zd4 zc4) ?_; clear hk
              rintro _ _ ⟨zd5, zc5, zr3, zd6, zc6, rfl, rfl⟩ a w hk
              refine FW.lfun (y := .lit (.int .i64 t6.1)) hk rfl rfl rfl rfl (FW.f_assign hk (FW.holds_nil _) rfl) ?_; clear hk; intro a w hk
              refine FW.lend (hK16 _ _ ?_); clear hK16 K'
              refine FW.wreg ?_; intro K' hK17
              refine FW.lfun (y := .lit (.int .i64 t6.1)) hk rfl rfl rfl rfl (FW.f_move hk (FW.holds_nil _) rfl) ?_; clear hk; intro a w hk
              refine FW.lfun (y := .lit (.bool (!decide (t6.1 = 0)))) hk rfl rfl rfl rfl ((FW.f_pure (FW.p_neq hk.kn (FW.holds_nil _) rfl rfl))) ?_; clear hk; intro a w hk
              refine FW.lend (hK17 _ _ ?_); clear hK17 K'
              refine FW.wcondF (b := (!decide (t6.1 = 0))) hk h rfl (fun h hb => ?_) (fun h hb => ?_)
              · skip
                refine FW.wreg ?_; intro K' hK18
                refine FW.lfun (y := .lit (.int .i64 t6.1)) hk rfl rfl rfl rfl (FW.f_move hk (FW.holds_nil _) rfl) ?_; clear hk; intro a w hk
                refine FW.lfun (y := .lit (.int .i64 t6.1)) hk rfl rfl rfl rfl (FW.f_assign hk (FW.holds_nil _) rfl) ?_; clear hk; intro a w hk
                refine FW.lend (hK18 _ _ ?_); clear hK18 K'
                refine wp_ret ?_
                (repeat first | refine FW.then_ret ?_ | refine FW.block_ret ?_)
                obtain rfl := Option.some.inj h
                replace hk := FW.S.keep (I1 := [FW.blk b0 127 ([.lit (.pointer (some ⟨b0_0, 0, none⟩)), .lit (.int .i64 t3.2.1.from_), .lit (.int .i64 t3.2.1.to_), .lit (.int .i64 t3.2.1.at_), .lit (.int .u64 t3.2.1.next)]), FW.blk b0_0 109 ([.lit (.slice zd5 (List.length t6.2.sure) zc5), .lit (.map (some zr3)), .lit (.int .i64 t6.2.steps), .lit (.slice zd6 (List.length t6.2.falls) zc6), .lit (.bool t6.2.off)]), FW.orow zd5 zc5 9 1 c_str t6.2.sure, FW.mapI (.int .i64) (Value.int .i64) FW.evS zr3 t6.2.cache, FW.orow zd6 zc6 45 3 ApiFall.cells t6.2.falls]) (I2 := []) (js := [3, 3, 3, 3, 4]) hk rfl
                exact FW.fretH1 hk rfl (FW.rtmp hk rfl) ⟨zd5, zc5, zr3, zd6, zc6, rfl, rfl⟩
              · skip
                refine wp_skip ?_
                (repeat first | refine FW.then_normal ?_ | refine FW.block_normal ?_); refine hK15 _ _ ?_
                obtain ⟨t7, hr_t7, h⟩ := FW.bnd h
                refine FW.wdrawE (.next [true, true, true, true, true, true, true, true, true, true, false] 10 [true, true, true, true, true, true, true, true, true, true, false] (.leaf [false, false, false, false, false, false, false, false, false, false, false])) [(64, [], .lit (.pointer (some ⟨b0, 0, none⟩))), (65, [], .lit (.pointer (some ⟨b0, 0, none⟩))), (66, [], .lit (.pointer (some ⟨b0, 3, none⟩))), (67, [], .lit (.int .i64 t3.2.1.at_)), (68, [], .lit (.string (FW.B v1))), (69, [], .lit (.int .i64 (List.length v1 : Int))), (70, [], .lit (.int .i64 t7)), (71, [], .lit (.int .i64 (IntKind.wrap .i64 (t3.2.1.at_ + t7)))), (72, [], .lit (.pointer (some ⟨b0, 0, none⟩))), (73, [], .lit (.pointer (some ⟨b0, 3, none⟩))), (81, [], .lit undef)] (by kernel_rfl) (by kernel_rfl) (by kernel_rfl) (by kernel_rfl) hk ?_; clear hk
                refine FW.gnext0 ?_ rfl rfl rfl ?_
                · skip
                  refine FW.gfun (y := .lit (.pointer (some ⟨b0, 0, none⟩))) rfl rfl rfl rfl (fun a w hk => FW.f_move hk (FW.holds_nil _) rfl) ?_
                  refine FW.gfun (y := .lit (.pointer (some ⟨b0, 0, none⟩))) rfl rfl rfl rfl (fun a w hk => (FW.f_pure (FW.p_nilCheck hk.kn (FW.holds_nil _) rfl))) ?_
                  refine FW.gfun (y := .lit (.pointer (some ⟨b0, 3, none⟩))) rfl rfl rfl rfl (fun a w hk => FW.f_fieldPtr hk (FW.holds_nil _) rfl Go.Proofs.Try.underlying127 rfl (by kernel_rfl) rfl) ?_
                  refine FW.gfun (y := .lit (.int .i64 t3.2.1.at_)) rfl rfl rfl rfl (fun a w hk => FW.f_loadBlk1 hk (FW.holds_nil _) (j := 4) rfl rfl Go.Proofs.Try.underlying3 rfl rfl) ?_
                  refine FW.gfun (y := .lit (.string (FW.B v1))) rfl rfl rfl rfl (fun a w hk => FW.f_move hk (FW.holds_nil _) rfl) ?_
                  refine FW.gfun (y := .lit (.int .i64 (List.length v1 : Int))) rfl rfl rfl rfl (fun a w hk => (FW.f_pure (FW.p_slen Go.Proofs.Try.underlying9 hk.kn (FW.holds_nil _) rfl))) ?_
                  refine FW.gfun (y := .lit (.int .i64 t7)) rfl rfl rfl rfl (fun a w hk => FW.f_call hk (FW.holds_nil _) rfl rfl Go.Proofs.Try.func45 rfl (by kernel_rfl) (log_Sectors.ok (List.length v1 : Int) _ hr_t7)) ?_
                  refine FW.gfun (y := .lit (.int .i64 (IntKind.wrap .i64 (t3.2.1.at_ + t7)))) rfl rfl rfl rfl (fun a w hk => (FW.f_pure (FW.p_add hk.kn (FW.holds_nil _) rfl rfl))) ?_
                  refine FW.gfun (y := .lit (.pointer (some ⟨b0, 0, none⟩))) rfl rfl rfl rfl (fun a w hk => (FW.f_pure (FW.p_nilCheck hk.kn (FW.holds_nil _) rfl))) ?_
                  refine FW.gfun (y := .lit (.pointer (some ⟨b0, 3, none⟩))) rfl rfl rfl rfl (fun a w hk => FW.f_fieldPtr hk (FW.holds_nil _) rfl Go.Proofs.Try.underlying127 rfl (by kernel_rfl) rfl) ?_
                  refine FW.gskip0 rfl ?_
                  exact FW.gend
                · skip
                  intro σD a w opsD QD hk hQ hX
                  refine FW.l_store (I' := [FW.blk b0_0 109 ([.lit (.slice zd5 (List.length t6.2.sure) zc5), .lit (.map (some zr3)), .lit (.int .i64 t6.2.steps), .lit (.slice zd6 (List.length t6.2.falls) zc6), .lit (.bool t6.2.off)]), FW.orow zd5 zc5 9 1 c_str t6.2.sure, FW.mapI (.int .i64) (Value.int .i64) FW.evS zr3 t6.2.cache, FW.orow zd6 zc6 45 3 ApiFall.cells t6.2.falls, FW.blk b0 127 ([.lit (.pointer (some ⟨b0_0, 0, none⟩)), .lit (.int .i64 t3.2.1.from_), .lit (.int .i64 t3.2.1.to_), .lit (.int .i64 (IntKind.wrap .i64 (t3.2.1.at_ + t7))), .lit (.int .u64 t3.2.1.next)])]) (cs' := [.lit (.pointer (some ⟨b0_0, 0, none⟩)), .lit (.int .i64 t3.2.1.from_), .lit (.int .i64 t3.2.1.to_), .lit (.int .i64 (IntKind.wrap .i64 (t3.2.1.at_ + t7))), .lit (.int .u64 t3.2.1.next)]) (j := 4) hk rfl rfl rfl rfl rfl (by kernel_rfl) rfl rfl ?_; clear hk; intro w hk
                  refine hQ _ a w ?_ hk; clear hk hQ hX
                  refine ⟨[(64, [], .lit (.pointer (some ⟨b0, 0, none⟩))), (65, [], .lit (.pointer (some ⟨b0, 0, none⟩))), (66, [], .lit (.pointer (some ⟨b0, 3, none⟩))), (67, [], .lit (.int .i64 t3.2.1.at_)), (68, [], .lit (.string (FW.B v1))), (69, [], .lit (.int .i64 (List.length v1 : Int))), (70, [], .lit (.int .i64 t7)), (71, [], .lit (.int .i64 (IntKind.wrap .i64 (t3.2.1.at_ + t7)))), (72, [], .lit (.pointer (some ⟨b0, 0, none⟩))), (73, [], .lit (.pointer (some ⟨b0, 3, none⟩))), (81, [], .lit undef)], And.intro rfl (And.intro rfl (And.intro rfl (And.intro rfl (And.intro rfl (And.intro rfl (And.intro rfl (And.intro rfl (And.intro rfl (And.intro rfl (trivial)))))))))), rfl, ?_⟩
                  refine FW.glast ?_ ?_
                  · skip
                    refine FW.gskip rfl rfl ?_
                    refine FW.gskip rfl rfl ?_
                    refine FW.gskip rfl rfl ?_
                    refine FW.gskip rfl rfl ?_
                    refine FW.gskip rfl rfl ?_
                    refine FW.gskip rfl rfl ?_
                    refine FW.gskip rfl rfl ?_
                    refine FW.gskip rfl rfl ?_
                    refine FW.gskip rfl rfl ?_
                    refine FW.gskip rfl rfl ?_
                    refine FW.gskip0 rfl ?_
                    exact FW.gend
                  · skip
                    intro a w hk; simp only [FW.stD, cond_true] at hk
                    refine FW.wreg ?_; intro K' hK20
                    refine FW.lfun (y := .lit (.pointer (some ⟨b0, 0, none⟩))) hk rfl rfl rfl rfl (FW.f_move hk (FW.holds_nil _) rfl) ?_; clear hk; intro a w hk
                    refine FW.lfun (y := .lit (.pointer (some ⟨b0, 0, none⟩))) hk rfl rfl rfl rfl ((FW.f_pure (FW.p_nilCheck hk.kn (FW.holds_nil _) rfl))) ?_; clear hk; intro a w hk
                    refine FW.lfun (y := .lit (.pointer (some ⟨b0, 4, none⟩))) hk rfl rfl rfl rfl (FW.f_fieldPtr hk (FW.holds_nil _) rfl Go.Proofs.Try.underlying127 rfl (by kernel_rfl) rfl) ?_; clear hk; intro a w hk
                    refine FW.lfun (y := .lit (.int .u64 t3.2.1.next)) hk rfl rfl rfl rfl (FW.f_loadBlk1 hk (FW.holds_nil _) (j := 4) rfl rfl Go.Proofs.Try.underlying29 rfl rfl) ?_; clear hk; intro a w hk
                    refine FW.lfun (y := .lit (.int .u64 (IntKind.wrap .u64 (t3.2.1.next + 1)))) hk rfl rfl rfl rfl ((FW.f_pure (FW.p_add hk.kn (FW.holds_nil _) rfl rfl))) ?_; clear hk; intro a w hk
                    refine FW.lfun (y := .lit (.pointer (some ⟨b0, 0, none⟩))) hk rfl rfl rfl rfl ((FW.f_pure (FW.p_nilCheck hk.kn (FW.holds_nil _) rfl))) ?_; clear hk; intro a w hk
                    refine FW.lfun (y := .lit (.pointer (some ⟨b0, 4, none⟩))) hk rfl rfl rfl rfl (FW.f_fieldPtr hk (FW.holds_nil _) rfl Go.Proofs.Try.underlying127 rfl (by kernel_rfl) rfl) ?_; clear hk; intro a w hk
                    refine FW.l_store (I' := [FW.blk b0_0 109 ([.lit (.slice zd5 (List.length t6.2.sure) zc5), .lit (.map (some zr3)), .lit (.int .i64 t6.2.steps), .lit (.slice zd6 (List.length t6.2.falls) zc6), .lit (.bool t6.2.off)]), FW.orow zd5 zc5 9 1 c_str t6.2.sure, FW.mapI (.int .i64) (Value.int .i64) FW.evS zr3 t6.2.cache, FW.orow zd6 zc6 45 3 ApiFall.cells t6.2.falls, FW.blk b0 127 ([.lit (.pointer (some ⟨b0_0, 0, none⟩)), .lit (.int .i64 t3.2.1.from_), .lit (.int .i64 t3.2.1.to_), .lit (.int .i64 (IntKind.wrap .i64 (t3.2.1.at_ + t7))), .lit (.int .u64 (IntKind.wrap .u64 (t3.2.1.next + 1)))])]) (cs' := [.lit (.pointer (some ⟨b0_0, 0, none⟩)), .lit (.int .i64 t3.2.1.from_), .lit (.int .i64 t3.2.1.to_), .lit (.int .i64 (IntKind.wrap .i64 (t3.2.1.at_ + t7))), .lit (.int .u64 (IntKind.wrap .u64 (t3.2.1.next + 1)))]) (j := 4) hk rfl rfl rfl rfl rfl (by kernel_rfl) rfl rfl ?_; clear hk; intro w hk
                    refine FW.lend (hK20 _ _ ?_); clear hK20 K'
                    refine FW.wreg ?_; intro K' hK21
                    refine FW.lfun (y := .lit (.int .i64 0)) hk rfl rfl rfl rfl (FW.f_assign hk (FW.holds_nil _) rfl) ?_; clear hk; intro a w hk
                    refine FW.lend (hK21 _ _ ?_); clear hK21 K'
                    refine wp_ret ?_
                    (repeat first | refine FW.then_ret ?_ | refine FW.block_ret ?_)
                    obtain rfl := Option.some.inj h
                    replace hk := FW.S.keep (I1 := [FW.blk b0 127 ([.lit (.pointer (some ⟨b0_0, 0, none⟩)), .lit (.int .i64 t3.2.1.from_), .lit (.int .i64 t3.2.1.to_), .lit (.int .i64 (IntKind.wrap .i64 (t3.2.1.at_ + t7))), .lit (.int .u64 (IntKind.wrap .u64 (t3.2.1.next + 1)))]), FW.blk b0_0 109 ([.lit (.slice zd5 (List.length t6.2.sure) zc5), .lit (.map (some zr3)), .lit (.int .i64 t6.2.steps), .lit (.slice zd6 (List.length t6.2.falls) zc6), .lit (.bool t6.2.off)]), FW.orow zd5 zc5 9 1 c_str t6.2.sure, FW.mapI (.int .i64) (Value.int .i64) FW.evS zr3 t6.2.cache, FW.orow zd6 zc6 45 3 ApiFall.cells t6.2.falls]) (I2 := []) (js := [3, 3, 3, 3, 4]) hk rfl
                    exact FW.fretH1 hk rfl (FW.rtmp hk rfl) ⟨zd5, zc5, zr3, zd6, zc6, rfl, rfl⟩
end Go.Proofs.Ytimaibcaehagjaa

/- Written by a program of this session (gen.py): the contracts of functions of the program. -/
import Derived.KernelRfl
import Derived.Test.YtimaibcaehagjaaProg
import Derived.Test.YtimaibcaehagjaaAvFun
import Derived.Test.YtimaibcaehagjaaAvMan
import Derived.Test.YtimaibcaehagjaaAvMore
import Derived.Test.YtimaibcaehagjaaAvDraw2
import Derived.Test.YtimaibcaehagjaaAvRow
import Derived.Test.YtimaibcaehagjaaHn
import Derived.Test.YtimaibcaehagjaaHg
import Derived.Test.YtimaibcaehagjaaHar
import Derived.Test.YtimaibcaehagjaaHc
import Derived.Test.YtimaibcaehagjaaFx
import Derived.Test.YtimaibcaehagjaaDxP1
import Derived.Test.YtimaibcaehagjaaFy2
import Derived.Test.YtimaibcaehagjaaDaP0
import Derived.Test.YtimaibcaehagjaaHl
import Derived.Test.YtimaibcaehagjaaHnl
import Derived.Test.YtimaibcaehagjaaFz
import Derived.Test.YtimaibcaehagjaaDnD
namespace Go.Proofs.Ytimaibcaehagjaa
set_option linter.unusedVariables false
set_option maxRecDepth 20000
set_option maxHeartbeats 10000000
theorem dev_Dev_Off_nil.ok   (r : Bool) (h : dev_Dev_Off_nil.f = some r) :
    FW.Ok Go.Proofs.Try.prog 41 [.lit (.pointer none)] (.lit (.bool r)) := by
  refine FW.enter (xs := [.lit (.pointer none)]) Go.Proofs.Try.func41 rfl Go.Proofs.Try.ntmps41 rfl ?_
  intro M w0 a hk
  unfold dev_Dev_Off_nil.f at h
  refine FW.wreg ?_; intro K' hK1
  refine FW.lfun (y := .lit (.bool false)) hk rfl rfl rfl rfl (FW.f_assign hk (FW.holds_nil _) rfl) ?_; clear hk; intro a w hk
  refine FW.lend (hK1 _ _ ?_); clear hK1 K'
  refine FW.wreg ?_; intro K' hK2
  refine FW.lfun (y := .lit (.pointer none)) hk rfl rfl rfl rfl (FW.f_move hk (FW.holds_nil _) rfl) ?_; clear hk; intro a w hk
  refine FW.lfun (y := .lit (.bool true)) hk rfl rfl rfl rfl ((FW.f_pure (FW.p_ptrEq Go.Proofs.Try.underlying46 hk.kn (FW.holds_nil _) rfl rfl rfl))) ?_; clear hk; intro a w hk
  refine FW.lfun (y := .lit (.bool true)) hk rfl rfl rfl rfl (FW.f_move hk (FW.holds_nil _) rfl) ?_; clear hk; intro a w hk
  refine FW.lfunG (y := .lit (.bool false)) hk rfl rfl rfl rfl rfl rfl rfl rfl (fun hc => (FW.noHold hk.kn rfl rfl hc).elim) ?_; clear hk; intro a w hk
  refine FW.lfunG (y := .lit (.bool false)) hk rfl rfl rfl rfl rfl rfl rfl rfl (fun hc => (FW.noHold hk.kn rfl rfl hc).elim) ?_; clear hk; intro a w hk
  refine FW.lfunG (y := .lit (.bool false)) hk rfl rfl rfl rfl rfl rfl rfl rfl (fun hc => (FW.noHold hk.kn rfl rfl hc).elim) ?_; clear hk; intro a w hk
  refine FW.lfunG (y := .lit (.bool false)) hk rfl rfl rfl rfl rfl rfl rfl rfl (fun hc => (FW.noHold hk.kn rfl rfl hc).elim) ?_; clear hk; intro a w hk
  refine FW.lfun (y := .lit (.bool true)) hk rfl rfl rfl rfl ((FW.f_pure (FW.p_pickT hk.kn (FW.holds_nil _) rfl rfl))) ?_; clear hk; intro a w hk
  refine FW.lfun (y := .lit (.bool true)) hk rfl rfl rfl rfl (FW.f_assign hk (FW.holds_nil _) rfl) ?_; clear hk; intro a w hk
  refine FW.lend (hK2 _ _ ?_); clear hK2 K'
  refine wp_ret ?_
  (repeat first | refine FW.then_ret ?_ | refine FW.block_ret ?_)
  obtain rfl := Option.some.inj h
  exact FW.fret1 hk rfl rfl

theorem dev_Dev_Crash_nil.ok (K : Nat) (v1 : Int) (v2 : Int) (r : Unit) (h : dev_Dev_Crash_nil.f K v1 v2 = some r) :
    FW.Ok Go.Proofs.Try.prog 32 [.lit (.pointer none), .lit (.int .u64 v1), .lit (.int .i64 v2)] (.tup []) := by
  refine FW.enter (xs := [.lit (.pointer none), .lit (.int .u64 v1), .lit (.int .i64 v2)]) Go.Proofs.Try.func32 rfl Go.Proofs.Try.ntmps32 rfl ?_
  intro M w0 a hk
  unfold dev_Dev_Crash_nil.f at h
  refine FW.wseq ?_; intro K' hK1
  refine FW.wreg ?_; intro K' hK2
  refine FW.lfun (y := .lit (.pointer none)) hk rfl rfl rfl rfl (FW.f_move hk (FW.holds_nil _) rfl) ?_; clear hk; intro a w hk
  obtain ⟨t1, hr_t1, h⟩ := FW.bnd h
  refine FW.lfun (y := .lit (.bool t1)) hk rfl rfl rfl rfl (FW.f_call hk (FW.holds_nil _) rfl rfl Go.Proofs.Try.func41 rfl (by kernel_rfl) (dev_Dev_Off_nil.ok  _ hr_t1)) ?_; clear hk; intro a w hk
  refine FW.lend (hK2 _ _ ?_); clear hK2 K'
  refine FW.wcondF (b := t1) hk h rfl (fun h hb => ?_) (fun h hb => ?_)
  · skip
    refine wp_ret ?_
    (repeat first | refine FW.then_ret ?_ | refine FW.block_ret ?_)
    obtain rfl := Option.some.inj h
    exact FW.fret0 hk rfl
  · skip
    cases h

theorem dev_Dev_Plan_nil.ok  (v1 : List ApiFall) (r : Unit) (h : dev_Dev_Plan_nil.f v1 = some r) :
    FW.Ok Go.Proofs.Try.prog 39 [.lit (.pointer none), .row (r_ApiFall_cells v1)] (.tup []) := by
  refine FW.enter (xs := [.lit (.pointer none), .row (r_ApiFall_cells v1)]) Go.Proofs.Try.func39 rfl Go.Proofs.Try.ntmps39 rfl ?_
  intro M w0 a hk
  unfold dev_Dev_Plan_nil.f at h
  refine FW.wreg ?_; intro K' hK1
  refine FW.lfun (y := .lit (.pointer none)) hk rfl rfl rfl rfl (FW.f_move hk (FW.holds_nil _) rfl) ?_; clear hk; intro a w hk
  refine FW.lfun (y := .lit (.bool false)) hk rfl rfl rfl rfl ((FW.f_pure (FW.p_ptrNe Go.Proofs.Try.underlying46 hk.kn (FW.holds_nil _) rfl rfl rfl))) ?_; clear hk; intro a w hk
  refine FW.lend (hK1 _ _ ?_); clear hK1 K'
  refine FW.wcondX hk rfl ?_
  refine wp_skip ?_
  (repeat first | refine FW.then_normal ?_ | refine FW.block_normal ?_)
  refine FW.fnorm ?_
  obtain rfl := Option.some.inj h
  exact FW.fret0 hk rfl

theorem dev_Dev_Read_nil.ok  (v1 : Int) (r : List UInt8 × Int) (h : dev_Dev_Read_nil.f v1 = some r) :
    FW.Ok Go.Proofs.Try.prog 34 [.lit (.pointer none), .lit (.int .i64 v1)] (.tup [.lit (.string (FW.B r.1)), .lit (.int .i64 r.2)]) := by
  refine FW.enter (xs := [.lit (.pointer none), .lit (.int .i64 v1)]) Go.Proofs.Try.func34 rfl Go.Proofs.Try.ntmps34 rfl ?_
  intro M w0 a hk
  unfold dev_Dev_Read_nil.f at h
  refine FW.wreg ?_; intro K' hK1
  refine FW.lfun (y := .lit (.string (FW.B ([] : List UInt8)))) hk rfl rfl rfl rfl (FW.f_assign hk (FW.holds_nil _) rfl) ?_; clear hk; intro a w hk
  refine FW.lfun (y := .lit (.int .i64 0)) hk rfl rfl rfl rfl (FW.f_assign hk (FW.holds_nil _) rfl) ?_; clear hk; intro a w hk
  refine FW.lend (hK1 _ _ ?_); clear hK1 K'
  refine FW.wseq ?_; intro K' hK2
  refine wp_block ?_
  refine FW.wreg ?_; intro K' hK3
  refine FW.lfun (y := .lit (.pointer none)) hk rfl rfl rfl rfl (FW.f_move hk (FW.holds_nil _) rfl) ?_; clear hk; intro a w hk
  obtain ⟨t1, hr_t1, h⟩ := FW.bnd h
  refine FW.lfun (y := .lit (.bool t1)) hk rfl rfl rfl rfl (FW.f_call hk (FW.holds_nil _) rfl rfl Go.Proofs.Try.func41 rfl (by kernel_rfl) (dev_Dev_Off_nil.ok  _ hr_t1)) ?_; clear hk; intro a w hk
  refine FW.lfun (y := .lit (.bool t1)) hk rfl rfl rfl rfl (FW.f_assign hk (FW.holds_nil _) rfl) ?_; clear hk; intro a w hk
  refine FW.lend (hK3 _ _ ?_); clear hK3 K'
  refine FW.wcondF (b := t1) hk h rfl (fun h hb => ?_) (fun h hb => ?_)
  · skip
    refine FW.wreg ?_; intro K' hK4
    refine FW.lfun (y := .lit (.string (FW.B ([] : List UInt8)))) hk rfl rfl rfl rfl (FW.f_assign hk (FW.holds_nil _) rfl) ?_; clear hk; intro a w hk
    refine FW.lfun (y := .lit (.int .i64 7)) hk rfl rfl rfl rfl (FW.f_assign hk (FW.holds_nil _) rfl) ?_; clear hk; intro a w hk
    refine FW.lend (hK4 _ _ ?_); clear hK4 K'
    refine wp_ret ?_
    (repeat first | refine FW.then_ret ?_ | refine FW.block_ret ?_)
    obtain rfl := Option.some.inj h
    exact FW.fret2 hk rfl rfl rfl
  · skip
    cases h

theorem dev_New_opt.ok (K : Nat) (v0 : Int) (r : Option ODevDev × Int) (h : dev_New_opt.f K v0 = some r) :
    FW.OkH Go.Proofs.Try.prog 27 [.lit (.int .i64 v0)] [] (fun y I => ∃ (bn0 : Nat) (zxdn0_0 : Option Addr) (zxcn0_0 : Nat) (zxrn0_1 : Nat) (zxdn0_3 : Option Addr) (zxcn0_3 : Nat), y = .tup [FW.ptrO r.1 bn0, .lit (.int .i64 r.2)] ∧ I = (FW.optI r.1 fun x => ODevDev.items bn0 zxdn0_0 zxcn0_0 zxrn0_1 zxdn0_3 zxcn0_3 x)) := by
  refine FW.enterH (xs := [.lit (.int .i64 v0)]) Go.Proofs.Try.func27 rfl Go.Proofs.Try.ntmps27 rfl ?_
  intro M w0 a hk
  unfold dev_New_opt.f at h
  refine FW.wreg ?_; intro K' hK1
  refine FW.lfun (y := .lit (.pointer none)) hk rfl rfl rfl rfl (FW.f_assign hk (FW.holds_nil _) rfl) ?_; clear hk; intro a w hk
  refine FW.lfun (y := .lit (.int .i64 0)) hk rfl rfl rfl rfl (FW.f_assign hk (FW.holds_nil _) rfl) ?_; clear hk; intro a w hk
  refine FW.lend (hK1 _ _ ?_); clear hK1 K'
  refine FW.wseq ?_; intro K' hK2
  refine FW.wreg ?_; intro K' hK3
  refine FW.lfun (y := .lit (.int .i64 v0)) hk rfl rfl rfl rfl (FW.f_move hk (FW.holds_nil _) rfl) ?_; clear hk; intro a w hk
  refine FW.lfun (y := .lit (.bool (decide (v0 < 0)))) hk rfl rfl rfl rfl ((FW.f_pure (FW.p_lss hk.kn (FW.holds_nil _) rfl rfl))) ?_; clear hk; intro a w hk
  refine FW.lfun (y := .lit (.bool (decide (v0 < 0)))) hk rfl rfl rfl rfl (FW.f_move hk (FW.holds_nil _) rfl) ?_; clear hk; intro a w hk
  refine FW.lfunG (y := .lit (.int .i64 v0)) hk rfl rfl rfl rfl rfl rfl rfl rfl (fun hc => FW.f_move hk hc rfl) ?_; clear hk; intro a w hk
  refine FW.lfunG (y := .lit (.bool (decide (65536 < v0)))) hk rfl rfl rfl rfl rfl rfl rfl rfl (fun hc => (FW.f_pure (FW.p_gtr hk.kn hc rfl rfl))) ?_; clear hk; intro a w hk
  refine FW.lfun (y := .lit (.bool ((decide (v0 < 0)) || (decide (65536 < v0))))) hk rfl rfl rfl rfl ((FW.f_pure (FW.p_pick_or hk.kn (FW.holds_nil _) rfl rfl))) ?_; clear hk; intro a w hk
  refine FW.lend (hK3 _ _ ?_); clear hK3 K'
  refine FW.wcondF (b := ((decide (v0 < 0)) || (decide (65536 < v0)))) hk h rfl (fun h hb => ?_) (fun h hb => ?_)
  · skip
    refine FW.wreg ?_; intro K' hK4
    refine FW.lfun (y := .lit (.pointer none)) hk rfl rfl rfl rfl (FW.f_assign hk (FW.holds_nil _) rfl) ?_; clear hk; intro a w hk
    refine FW.lfun (y := .lit (.int .i64 1)) hk rfl rfl rfl rfl (FW.f_assign hk (FW.holds_nil _) rfl) ?_; clear hk; intro a w hk
    refine FW.lend (hK4 _ _ ?_); clear hK4 K'
    refine wp_ret ?_
    (repeat first | refine FW.then_ret ?_ | refine FW.block_ret ?_)
    obtain rfl := Option.some.inj h
    replace hk := FW.S.keep (I1 := []) (I2 := []) (js := []) hk rfl
    exact FW.fretH2 hk rfl (FW.rtmp hk rfl) (FW.rtmp hk rfl) ⟨0, none, 0, 0, none, 0, rfl, rfl⟩
  · skip
    refine wp_skip ?_
    (repeat first | refine FW.then_normal ?_ | refine FW.block_normal ?_); refine hK2 _ _ ?_
    refine FW.wreg ?_; intro K' hK5
    refine FW.lfun (y := .lit (.int .i64 v0)) hk rfl rfl rfl rfl (FW.f_move hk (FW.holds_nil _) rfl) ?_; clear hk; intro a w hk
    obtain ⟨hc1, h⟩ := FW.chk h
    refine FW.l_makeSlice (f := c_str) (z := ([] : List UInt8)) (fun _ => rfl) hk rfl rfl rfl rfl Go.Proofs.Try.underlying61 (by kernel_rfl) rfl rfl (by kernel_rfl) hc1 ?_; clear hk; intro bx1 a w hk
    refine FW.l_makeMap (κ := Int) (ν := List UInt8) (D := .int .i64) (ek := Value.int .i64) (ev := FW.evS) hk rfl rfl FW.keyI64 ?_; clear hk; intro r1 a w hk
    replace hk := hk.nilRow 45 3 ApiFall.cells (fun _ => rfl)
    refine FW.lfun (y := .agg ([.lit (.slice (some ⟨bx1, 0, none⟩) (List.length (List.replicate (Int.toNat v0) ([] : List UInt8))) (Int.toNat v0)), .lit (.map (some r1)), .lit (.int .i64 0), .lit (.slice none (List.length ([] : List ApiFall)) 0), .lit (.bool false)])) hk rfl rfl rfl rfl (FW.f_buildN [3] hk (FW.holds_nil _) rfl rfl rfl) ?_; clear hk; intro a w hk
    refine FW.l_box (cs := [.lit (.slice (some ⟨bx1, 0, none⟩) (List.length (List.replicate (Int.toNat v0) ([] : List UInt8))) (Int.toNat v0)), .lit (.map (some r1)), .lit (.int .i64 0), .lit (.slice none (List.length ([] : List ApiFall)) 0), .lit (.bool false)]) hk rfl rfl rfl rfl rfl ?_; clear hk; intro bx2 a w hk
    refine FW.lfun (y := .lit (.pointer (some ⟨bx2, 0, none⟩))) hk rfl rfl rfl rfl (FW.f_assign hk (FW.holds_nil _) rfl) ?_; clear hk; intro a w hk
    refine FW.lend (hK5 _ _ ?_); clear hK5 K'
    refine FW.wseq ?_; intro K' hK6
    refine FW.wreg ?_; intro K' hK7
    refine FW.lfun (y := .lit (.pointer (some ⟨bx2, 0, none⟩))) hk rfl rfl rfl rfl (FW.f_move hk (FW.holds_nil _) rfl) ?_; clear hk; intro a w hk
    refine FW.lfun (y := .lit (.pointer (some ⟨bx2, 0, none⟩))) hk rfl rfl rfl rfl ((FW.f_pure (FW.p_nilCheck hk.kn (FW.holds_nil _) rfl))) ?_; clear hk; intro a w hk
    refine FW.lfun (y := .lit (.pointer (some ⟨bx2, 0, none⟩))) hk rfl rfl rfl rfl (FW.f_fieldPtr hk (FW.holds_nil _) rfl Go.Proofs.Try.underlying109 rfl (by kernel_rfl) rfl) ?_; clear hk; intro a w hk
    refine FW.lfun (y := .lit (.slice (some ⟨bx1, 0, none⟩) (List.length (List.replicate (Int.toNat v0) ([] : List UInt8))) (Int.toNat v0))) hk rfl rfl rfl rfl (FW.f_loadBlk1 hk (FW.holds_nil _) (j := 0) rfl rfl Go.Proofs.Try.underlying61 rfl rfl) ?_; clear hk; intro a w hk
    refine FW.lfun (y := .lit (.int .i64 (List.length (List.replicate (Int.toNat v0) ([] : List UInt8)) : Int))) hk rfl rfl rfl rfl ((FW.f_pure (FW.p_len Go.Proofs.Try.underlying61 hk.kn (FW.holds_nil _) rfl))) ?_; clear hk; intro a w hk
    refine FW.lfun (y := .lit (.int .i64 0)) hk rfl rfl rfl rfl (FW.f_move hk (FW.holds_nil _) rfl) ?_; clear hk; intro a w hk
    refine FW.lend (hK7 _ _ ?_); clear hK7 K'
    refine wp_block ?_
    refine FW.wloop (T := Nat × Int × Bool × List (List UInt8) × Int × Int × Option Addr × Nat) (fun x a w => match x with | (kl1, y4_2, y4_4, l1, v21, v22, xd1, xc1) => FW.S M w0 a w 34 [FW.blk bx2 109 ([.lit (.slice xd1 (List.length l1) xc1), .lit (.map (some r1)), .lit (.int .i64 y4_2), .lit (.slice none (List.length ([] : List ApiFall)) 0), .lit (.bool y4_4)]), FW.orow none 0 45 3 ApiFall.cells ([] : List ApiFall), FW.mapI (.int .i64) (Value.int .i64) FW.evS r1 ([] : List (Int × (List UInt8))), FW.orow xd1 xc1 9 1 c_str l1] [(4, [], .lit (.pointer (some ⟨bx2, 0, none⟩))), (21, [], .lit (.int .i64 v21)), (22, [], .lit (.int .i64 v22))] ∧ dev_New_opt.l1 K kl1 y4_2 y4_4 l1 v21 v22 = some r) (fun x => x.1) (K, 0, false, (List.replicate (Int.toNat v0) ([] : List UInt8)), (List.length (List.replicate (Int.toNat v0) ([] : List UInt8)) : Int), 0, (some ⟨bx1, 0, none⟩), (Int.toNat v0)) ⟨hk.sub ⟨rfl, rfl, rfl, trivial⟩, h⟩ ?_
    clear hk h
    rintro ⟨kl1, y4_2, y4_4, l1, v21, v22, xd1, xc1⟩ a w ⟨hk, h⟩ K' hK8
    cases kl1 with
    | zero => simp [dev_New_opt.l1] at h
    | succ kl1 =>
    rw [dev_New_opt.l1.eq_2] at h
    refine FW.wreg ?_; intro K' hK9
    refine FW.lfun (y := .lit (.bool (decide (v22 < v21)))) hk rfl rfl rfl rfl ((FW.f_pure (FW.p_lss hk.kn (FW.holds_nil _) rfl rfl))) ?_; clear hk; intro a w hk
    refine FW.lend (hK9 _ _ ?_); clear hK9 K'
    refine FW.wseq ?_; intro K' hK10
    refine FW.wcondF (b := (decide (v22 < v21))) hk h rfl (fun h hb => ?_) (fun h hb => ?_)
    · skip
      refine wp_skip ?_
      (repeat first | refine FW.then_normal ?_ | refine FW.block_normal ?_); refine hK10 _ _ ?_
      refine FW.wseq ?_; intro K' hK11
      refine wp_block ?_
      refine FW.wreg ?_; intro K' hK12
      refine FW.lfun (y := .lit (.int .i64 v22)) hk rfl rfl rfl rfl (FW.f_move hk (FW.holds_nil _) rfl) ?_; clear hk; intro a w hk
      refine FW.lfun (y := .lit (.int .i64 v22)) hk rfl rfl rfl rfl (FW.f_assign hk (FW.holds_nil _) rfl) ?_; clear hk; intro a w hk
      refine FW.lend (hK12 _ _ ?_); clear hK12 K'
      obtain ⟨t1, hr_t1, h⟩ := FW.bnd h
      obtain ⟨hc2, h⟩ := FW.chk h
      refine FW.wdrawE1 (.next [true, true, true, true, true, true, true, false] 7 [true, true, true, true, true, true, true, false] (.leaf [false, false, false, false, false, false, false, false])) [(25, [], .lit (.pointer (some ⟨bx2, 0, none⟩))), (26, [], .lit (.pointer (some ⟨bx2, 0, none⟩))), (27, [], .lit (.pointer (some ⟨bx2, 0, none⟩))), (28, [], .lit (.slice xd1 (List.length l1) xc1)), (29, [], .lit (.int .i64 v22)), (30, [], .lit (.string (FW.B t1))), (31, [], FW.elA xd1 1 v22), (34, [], .lit undef)] (by kernel_rfl) (by kernel_rfl) (by kernel_rfl) (by kernel_rfl) hk ?_; clear hk
      refine FW.gnext0 ?_ rfl rfl rfl ?_
      · skip
        refine FW.gfun (y := .lit (.pointer (some ⟨bx2, 0, none⟩))) rfl rfl rfl rfl (fun a w hk => FW.f_move hk (FW.holds_nil _) rfl) ?_
        refine FW.gfun (y := .lit (.pointer (some ⟨bx2, 0, none⟩))) rfl rfl rfl rfl (fun a w hk => (FW.f_pure (FW.p_nilCheck hk.kn (FW.holds_nil _) rfl))) ?_
        refine FW.gfun (y := .lit (.pointer (some ⟨bx2, 0, none⟩))) rfl rfl rfl rfl (fun a w hk => FW.f_fieldPtr hk (FW.holds_nil _) rfl Go.Proofs.Try.underlying109 rfl (by kernel_rfl) rfl) ?_
        refine FW.gfun (y := .lit (.slice xd1 (List.length l1) xc1)) rfl rfl rfl rfl (fun a w hk => FW.f_loadBlk1 hk (FW.holds_nil _) (j := 0) rfl rfl Go.Proofs.Try.underlying61 rfl rfl) ?_
        refine FW.gfun (y := .lit (.int .i64 v22)) rfl rfl rfl rfl (fun a w hk => FW.f_move hk (FW.holds_nil _) rfl) ?_
        refine FW.gfun (y := .lit (.string (FW.B t1))) rfl rfl rfl rfl (fun a w hk => FW.f_call hk (FW.holds_nil _) rfl rfl Go.Proofs.Try.func62 rfl (by kernel_rfl) (strings_Repeat.ok ([0] : List UInt8) 128 _ hr_t1)) ?_
        refine FW.gfun (y := FW.elA xd1 1 v22) rfl rfl rfl rfl (fun a w hk => FW.f_idxOwn (f := c_str) (l := l1) hk (FW.holds_nil _) (j := 3) rfl rfl (by first | rfl | simp only [List.length_set]) rfl Go.Proofs.Try.underlying61 (by kernel_rfl) hc2) ?_
        refine FW.gskip0 rfl ?_
        exact FW.gend
      · skip
        intro σD a w opsD QD hk hQ hX
        refine FW.l_storeOwn1 (f := c_str) (l := l1) (v := t1) (I' := [FW.blk bx2 109 ([.lit (.slice xd1 (List.length l1) xc1), .lit (.map (some r1)), .lit (.int .i64 y4_2), .lit (.slice none (List.length ([] : List ApiFall)) 0), .lit (.bool y4_4)]), FW.orow none 0 45 3 ApiFall.cells ([] : List ApiFall), FW.mapI (.int .i64) (Value.int .i64) FW.evS r1 ([] : List (Int × (List UInt8))), FW.orow xd1 xc1 9 1 c_str (List.set l1 (Int.toNat v22) t1)]) (j := 3) hk rfl rfl hc2 rfl rfl rfl rfl (by kernel_rfl) rfl ?_; clear hk; intro w hk
        refine hQ _ a w ?_ hk; clear hk hQ hX
        refine ⟨[(25, [], .lit (.pointer (some ⟨bx2, 0, none⟩))), (26, [], .lit (.pointer (some ⟨bx2, 0, none⟩))), (27, [], .lit (.pointer (some ⟨bx2, 0, none⟩))), (28, [], .lit (.slice xd1 (List.length l1) xc1)), (29, [], .lit (.int .i64 v22)), (30, [], .lit (.string (FW.B t1))), (31, [], FW.elA xd1 1 v22), (34, [], .lit undef)], And.intro rfl (And.intro rfl (And.intro rfl (And.intro rfl (And.intro rfl (And.intro rfl (And.intro rfl (trivial))))))), rfl, ?_⟩
        refine FW.glast ?_ ?_
        · skip
          refine FW.gskip rfl rfl ?_
          refine FW.gskip rfl rfl ?_
          refine FW.gskip rfl rfl ?_
          refine FW.gskip rfl rfl ?_
          refine FW.gskip rfl rfl ?_
          refine FW.gskip rfl rfl ?_
          refine FW.gskip rfl rfl ?_
          refine FW.gskip0 rfl ?_
          exact FW.gend
        · skip
          intro a w hk; simp only [FW.stD, cond_true] at hk
          (repeat first | refine FW.then_normal ?_ | refine FW.block_normal ?_); refine hK11 _ _ ?_
          refine FW.wreg1 ?_
          refine FW.lfun (y := .lit (.int .i64 (IntKind.wrap .i64 (v22 + 1)))) hk rfl rfl rfl rfl ((FW.f_pure (FW.p_add hk.kn (FW.holds_nil _) rfl rfl))) ?_; clear hk; intro a w hk
          refine FW.lfun (y := .lit (.int .i64 (IntKind.wrap .i64 (v22 + 1)))) hk rfl rfl rfl rfl (FW.f_move hk (FW.holds_nil _) rfl) ?_; clear hk; intro a w hk
          refine wpList_nil ?_
          replace hk := FW.S.cast (I' := [FW.blk bx2 109 ([.lit (.slice xd1 (List.length (List.set l1 (Int.toNat v22) t1)) xc1), .lit (.map (some r1)), .lit (.int .i64 y4_2), .lit (.slice none (List.length ([] : List ApiFall)) 0), .lit (.bool y4_4)]), FW.orow none 0 45 3 ApiFall.cells ([] : List ApiFall), FW.mapI (.int .i64) (Value.int .i64) FW.evS r1 ([] : List (Int × (List UInt8))), FW.orow xd1 xc1 9 1 c_str (List.set l1 (Int.toNat v22) t1)]) hk (by first | rfl | simp only [List.length_set]) rfl
          (repeat first | refine FW.then_normal ?_ | refine FW.block_normal ?_); exact hK8 (kl1, y4_2, y4_4, (List.set l1 (Int.toNat v22) t1), v21, (IntKind.wrap .i64 (v22 + 1)), xd1, xc1) _ _ (Nat.lt_succ_self _) ⟨hk.sub ⟨rfl, rfl, rfl, trivial⟩, h⟩
    · skip
      refine wp_exit ?_; (repeat first | refine FW.then_exit ?_ | refine FW.block_exit_ne rfl ?_); refine FW.block_exit ?_
      (repeat first | refine FW.then_normal ?_ | refine FW.block_normal ?_); refine hK6 _ _ ?_
      refine FW.wreg ?_; intro K' hK15
      refine FW.lfun (y := .lit (.pointer (some ⟨bx2, 0, none⟩))) hk rfl rfl rfl rfl (FW.f_move hk (FW.holds_nil _) rfl) ?_; clear hk; intro a w hk
      refine FW.lfun (y := .lit (.pointer (some ⟨bx2, 0, none⟩))) hk rfl rfl rfl rfl (FW.f_assign hk (FW.holds_nil _) rfl) ?_; clear hk; intro a w hk
      refine FW.lfun (y := .lit (.int .i64 0)) hk rfl rfl rfl rfl (FW.f_assign hk (FW.holds_nil _) rfl) ?_; clear hk; intro a w hk
      refine FW.lend (hK15 _ _ ?_); clear hK15 K'
      refine wp_ret ?_
      (repeat first | refine FW.then_ret ?_ | refine FW.block_ret ?_)
      obtain rfl := Option.some.inj h
      replace hk := FW.S.keep (I1 := [FW.blk bx2 109 ([.lit (.slice xd1 (List.length l1) xc1), .lit (.map (some r1)), .lit (.int .i64 y4_2), .lit (.slice none (List.length ([] : List ApiFall)) 0), .lit (.bool y4_4)]), FW.orow xd1 xc1 9 1 c_str l1, FW.mapI (.int .i64) (Value.int .i64) FW.evS r1 ([] : List (Int × (List UInt8))), FW.orow none 0 45 3 ApiFall.cells ([] : List ApiFall)]) (I2 := []) (js := [1, 2, 3, 3]) hk rfl
      exact FW.fretH2 hk rfl (FW.rtmp hk rfl) (FW.rtmp hk rfl) ⟨bx2, xd1, xc1, r1, none, 0, rfl, rfl⟩

theorem dev_Dev_Copy.ok  (v0 : ODevDev) (r : ODevDev × ODevDev) (h : dev_Dev_Copy.f v0 = some r) :
    ∀ (b0 : Nat) (xd0_0 : Option Addr) (xc0_0 : Nat) (xr0_1 : Nat) (xd0_3 : Option Addr) (xc0_3 : Nat), FW.OkH Go.Proofs.Try.prog 40 [.lit (.pointer (some ⟨b0, 0, none⟩))] (ODevDev.items b0 xd0_0 xc0_0 xr0_1 xd0_3 xc0_3 v0) (fun y I => ∃ (bn0 : Nat) (zxdn0_0 : Option Addr) (zxcn0_0 : Nat) (zxrn0_1 : Nat) (zxdn0_3 : Option Addr) (zxcn0_3 : Nat) (zxd0_0 : Option Addr) (zxc0_0 : Nat) (zxr0_1 : Nat) (zxd0_3 : Option Addr) (zxc0_3 : Nat), y = .lit (.pointer (some ⟨bn0, 0, none⟩)) ∧ I = (ODevDev.items bn0 zxdn0_0 zxcn0_0 zxrn0_1 zxdn0_3 zxcn0_3 r.1) ++ (ODevDev.items b0 zxd0_0 zxc0_0 zxr0_1 zxd0_3 zxc0_3 r.2)) := by
  intro b0 xd0_0 xc0_0 xr0_1 xd0_3 xc0_3
  refine FW.enterH (xs := [.lit (.pointer (some ⟨b0, 0, none⟩))]) Go.Proofs.Try.func40 rfl Go.Proofs.Try.ntmps40 rfl ?_
  intro M w0 a hk
  replace hk : FW.S M w0 a w0.toWorld 27 [FW.blk b0 109 ([.lit (.slice xd0_0 (List.length v0.sure) xc0_0), .lit (.map (some xr0_1)), .lit (.int .i64 v0.steps), .lit (.slice xd0_3 (List.length v0.falls) xc0_3), .lit (.bool v0.off)]), FW.orow xd0_0 xc0_0 9 1 c_str v0.sure, FW.mapI (.int .i64) (Value.int .i64) FW.evS xr0_1 v0.cache, FW.orow xd0_3 xc0_3 45 3 ApiFall.cells v0.falls] [(0, [], .lit (.pointer (some ⟨b0, 0, none⟩)))] := hk
  unfold dev_Dev_Copy.f at h
  refine FW.wreg ?_; intro K' hK1
  refine FW.lfun (y := .lit (.pointer none)) hk rfl rfl rfl rfl (FW.f_assign hk (FW.holds_nil _) rfl) ?_; clear hk; intro a w hk
  refine FW.lend (hK1 _ _ ?_); clear hK1 K'
  refine FW.wseq ?_; intro K' hK2
  refine FW.wreg ?_; intro K' hK3
  refine FW.lfun (y := .lit (.pointer (some ⟨b0, 0, none⟩))) hk rfl rfl rfl rfl (FW.f_move hk (FW.holds_nil _) rfl) ?_; clear hk; intro a w hk
  refine FW.lfun (y := .lit (.bool false)) hk rfl rfl rfl rfl ((FW.f_pure (FW.p_ptrEq Go.Proofs.Try.underlying46 hk.kn (FW.holds_nil _) rfl rfl rfl))) ?_; clear hk; intro a w hk
  refine FW.lend (hK3 _ _ ?_); clear hK3 K'
  refine FW.wcondX hk rfl ?_
  refine wp_skip ?_
  (repeat first | refine FW.then_normal ?_ | refine FW.block_normal ?_); refine hK2 _ _ ?_
  refine FW.wreg ?_; intro K' hK4
  refine FW.lfun (y := .lit (.pointer (some ⟨b0, 0, none⟩))) hk rfl rfl rfl rfl (FW.f_move hk (FW.holds_nil _) rfl) ?_; clear hk; intro a w hk
  refine FW.lfun (y := .lit (.pointer (some ⟨b0, 0, none⟩))) hk rfl rfl rfl rfl ((FW.f_pure (FW.p_nilCheck hk.kn (FW.holds_nil _) rfl))) ?_; clear hk; intro a w hk
  refine FW.lfun (y := .agg ([.lit (.slice xd0_0 (List.length v0.sure) xc0_0), .lit (.map (some xr0_1)), .lit (.int .i64 v0.steps), .lit (.slice xd0_3 (List.length v0.falls) xc0_3), .lit (.bool v0.off)])) hk rfl rfl rfl rfl (FW.f_loadBlk hk (FW.holds_nil _) (j := 0) rfl rfl Go.Proofs.Try.underlying109 rfl rfl rfl rfl) ?_; clear hk; intro a w hk
  refine FW.l_alloc (zs := [.row [], .lit (.map none), .lit (.int .i64 0), .row [], .lit (.bool false)]) [] hk rfl rfl rfl rfl ?_; clear hk; intro bx1 a w hk
  refine FW.l_store (I' := [FW.blk bx1 109 ([.lit (.slice xd0_0 (List.length v0.sure) xc0_0), .lit (.map (some xr0_1)), .lit (.int .i64 v0.steps), .lit (.slice xd0_3 (List.length v0.falls) xc0_3), .lit (.bool v0.off)]), FW.blk b0 109 ([.lit (.slice xd0_0 (List.length v0.sure) xc0_0), .lit (.map (some xr0_1)), .lit (.int .i64 v0.steps), .lit (.slice xd0_3 (List.length v0.falls) xc0_3), .lit (.bool v0.off)]), FW.orow xd0_0 xc0_0 9 1 c_str v0.sure, FW.mapI (.int .i64) (Value.int .i64) FW.evS xr0_1 v0.cache, FW.orow xd0_3 xc0_3 45 3 ApiFall.cells v0.falls]) (cs' := [.lit (.slice xd0_0 (List.length v0.sure) xc0_0), .lit (.map (some xr0_1)), .lit (.int .i64 v0.steps), .lit (.slice xd0_3 (List.length v0.falls) xc0_3), .lit (.bool v0.off)]) (j := 0) hk rfl rfl rfl rfl rfl (by kernel_rfl) rfl rfl ?_; clear hk; intro w hk
  refine FW.lend (hK4 _ _ ?_); clear hK4 K'
  obtain ⟨hc1, h⟩ := FW.chk h
  obtain ⟨hc2, h⟩ := FW.chk h
  refine FW.wdrawE (.next [true, true, true, true, false, true, true, true, true, false, true, true, true, true, false, false, false, false, false, false, false] 4 [true, true, true, true, false, true, true, true, true, false, true, true, true, true, false, false, false, false, false, false, false] (.next [false, false, false, false, false, true, true, true, true, false, true, true, true, true, false, false, false, false, false, false, false] 9 [true, true, true, true, true, true, true, true, true, false, true, true, true, true, false, false, false, false, false, false, false] (.next [false, false, false, false, false, false, false, false, false, false, true, true, true, true, false, false, false, false, false, false, false] 14 [true, true, true, true, true, true, true, true, true, true, true, true, true, true, false, false, false, false, false, false, false] (.next [false, false, false, false, false, false, false, false, false, false, false, false, false, false, false, true, false, false, false, false, false] 16 [true, true, true, true, true, true, true, true, true, true, true, true, true, true, true, true, false, false, false, false, false] (.next [false, false, false, false, false, false, false, false, false, false, false, false, false, false, false, false, false, true, false, false, false] 18 [true, true, true, true, true, true, true, true, true, true, true, true, true, true, true, true, true, true, false, false, false] (.next [false, false, false, false, false, false, false, false, false, false, false, false, false, false, false, false, false, false, false, true, false] 20 [true, true, true, true, true, true, true, true, true, true, true, true, true, true, true, true, true, true, true, true, false] (.leaf [false, false, false, false, false, false, false, false, false, false, false, false, false, false, false, false, false, false, false, false, false]))))))) [(9, [], .lit (.pointer (some ⟨b0, 0, none⟩))), (10, [], .lit (.pointer (some ⟨b0, 0, none⟩))), (11, [], .lit (.pointer (some ⟨b0, 0, none⟩))), (12, [], .lit (.slice xd0_0 (List.length v0.sure) xc0_0)), (13, [], .agg []), (14, [], .lit (.pointer (some ⟨b0, 0, none⟩))), (15, [], .lit (.pointer (some ⟨b0, 0, none⟩))), (16, [], .lit (.pointer (some ⟨b0, 1, none⟩))), (17, [], .lit (.map (some xr0_1))), (18, [], .agg []), (19, [], .lit (.pointer (some ⟨b0, 0, none⟩))), (20, [], .lit (.pointer (some ⟨b0, 0, none⟩))), (21, [], .lit (.pointer (some ⟨b0, 3, none⟩))), (22, [], .lit (.slice xd0_3 (List.length v0.falls) xc0_3)), (23, [], .agg []), (24, [], .agg []), (27, [], .lit undef), (25, [], .agg []), (27, [], .lit undef), (26, [], .agg []), (27, [], .lit undef)] (by kernel_rfl) (by kernel_rfl) (by kernel_rfl) (by kernel_rfl) hk ?_; clear hk
  refine FW.gnext ?_ rfl rfl rfl rfl rfl ?_
  · skip
    refine FW.gfun (y := .lit (.pointer (some ⟨b0, 0, none⟩))) rfl rfl rfl rfl (fun a w hk => FW.f_move hk (FW.holds_nil _) rfl) ?_
    refine FW.gfun (y := .lit (.pointer (some ⟨b0, 0, none⟩))) rfl rfl rfl rfl (fun a w hk => (FW.f_pure (FW.p_nilCheck hk.kn (FW.holds_nil _) rfl))) ?_
    refine FW.gfun (y := .lit (.pointer (some ⟨b0, 0, none⟩))) rfl rfl rfl rfl (fun a w hk => FW.f_fieldPtr hk (FW.holds_nil _) rfl Go.Proofs.Try.underlying109 rfl (by kernel_rfl) rfl) ?_
    refine FW.gfun (y := .lit (.slice xd0_0 (List.length v0.sure) xc0_0)) rfl rfl rfl rfl (fun a w hk => FW.f_loadBlk1 hk (FW.holds_nil _) (j := 1) rfl rfl Go.Proofs.Try.underlying61 rfl rfl) ?_
    refine FW.gskip rfl rfl ?_
    refine FW.gfun (y := .lit (.pointer (some ⟨b0, 0, none⟩))) rfl rfl rfl rfl (fun a w hk => FW.f_move hk (FW.holds_nil _) rfl) ?_
    refine FW.gfun (y := .lit (.pointer (some ⟨b0, 0, none⟩))) rfl rfl rfl rfl (fun a w hk => (FW.f_pure (FW.p_nilCheck hk.kn (FW.holds_nil _) rfl))) ?_
    refine FW.gfun (y := .lit (.pointer (some ⟨b0, 1, none⟩))) rfl rfl rfl rfl (fun a w hk => FW.f_fieldPtr hk (FW.holds_nil _) rfl Go.Proofs.Try.underlying109 rfl (by kernel_rfl) rfl) ?_
    refine FW.gfun (y := .lit (.map (some xr0_1))) rfl rfl rfl rfl (fun a w hk => FW.f_loadBlk1 hk (FW.holds_nil _) (j := 1) rfl rfl Go.Proofs.Try.underlying107 rfl rfl) ?_
    refine FW.gskip rfl rfl ?_
    refine FW.gfun (y := .lit (.pointer (some ⟨b0, 0, none⟩))) rfl rfl rfl rfl (fun a w hk => FW.f_move hk (FW.holds_nil _) rfl) ?_
    refine FW.gfun (y := .lit (.pointer (some ⟨b0, 0, none⟩))) rfl rfl rfl rfl (fun a w hk => (FW.f_pure (FW.p_nilCheck hk.kn (FW.holds_nil _) rfl))) ?_
    refine FW.gfun (y := .lit (.pointer (some ⟨b0, 3, none⟩))) rfl rfl rfl rfl (fun a w hk => FW.f_fieldPtr hk (FW.holds_nil _) rfl Go.Proofs.Try.underlying109 rfl (by kernel_rfl) rfl) ?_
    refine FW.gfun (y := .lit (.slice xd0_3 (List.length v0.falls) xc0_3)) rfl rfl rfl rfl (fun a w hk => FW.f_loadBlk1 hk (FW.holds_nil _) (j := 1) rfl rfl Go.Proofs.Try.underlying74 rfl rfl) ?_
    refine FW.gskip rfl rfl ?_
    refine FW.gskip rfl rfl ?_
    refine FW.gskip0 rfl ?_
    refine FW.gskip rfl rfl ?_
    refine FW.gskip0 rfl ?_
    refine FW.gskip rfl rfl ?_
    refine FW.gskip0 rfl ?_
    exact FW.gend
  · skip
    intro σD a w opsD QD hk hf hQ hX
    refine FW.l_callH (I1 := [FW.orow xd0_0 xc0_0 9 1 c_str v0.sure]) (I2 := [FW.blk bx1 109 ([.lit (.slice xd0_0 (List.length v0.sure) xc0_0), .lit (.map (some xr0_1)), .lit (.int .i64 v0.steps), .lit (.slice xd0_3 (List.length v0.falls) xc0_3), .lit (.bool v0.off)]), FW.blk b0 109 ([.lit (.slice xd0_0 (List.length v0.sure) xc0_0), .lit (.map (some xr0_1)), .lit (.int .i64 v0.steps), .lit (.slice xd0_3 (List.length v0.falls) xc0_3), .lit (.bool v0.off)]), FW.mapI (.int .i64) (Value.int .i64) FW.evS xr0_1 v0.cache, FW.orow xd0_3 xc0_3 45 3 ApiFall.cells v0.falls]) (js := [2]) hk rfl rfl hf rfl rfl Go.Proofs.Try.func71 rfl (by kernel_rfl) (textsCloneOwn.ok v0.sure hc1 _ _) ?_; clear hk
    rintro _ _ ⟨zd1, zc1, rfl, rfl⟩ a w hk
    refine hQ _ _ a w ?_ hk; clear hk hQ hf hX
    refine ⟨[(9, [], .lit (.pointer (some ⟨b0, 0, none⟩))), (10, [], .lit (.pointer (some ⟨b0, 0, none⟩))), (11, [], .lit (.pointer (some ⟨b0, 0, none⟩))), (12, [], .lit (.slice xd0_0 (List.length v0.sure) xc0_0)), (13, [], .lit (.slice zd1 (List.length v0.sure) zc1)), (14, [], .lit (.pointer (some ⟨b0, 0, none⟩))), (15, [], .lit (.pointer (some ⟨b0, 0, none⟩))), (16, [], .lit (.pointer (some ⟨b0, 1, none⟩))), (17, [], .lit (.map (some xr0_1))), (18, [], .agg []), (19, [], .lit (.pointer (some ⟨b0, 0, none⟩))), (20, [], .lit (.pointer (some ⟨b0, 0, none⟩))), (21, [], .lit (.pointer (some ⟨b0, 3, none⟩))), (22, [], .lit (.slice xd0_3 (List.length v0.falls) xc0_3)), (23, [], .agg []), (24, [], .agg []), (27, [], .lit undef), (25, [], .agg []), (27, [], .lit undef), (26, [], .agg []), (27, [], .lit undef)], And.intro rfl (And.intro rfl (And.intro rfl (And.intro rfl (And.intro rfl (And.intro rfl (And.intro rfl (And.intro rfl (And.intro rfl (And.intro rfl (And.intro rfl (And.intro rfl (trivial)))))))))))), rfl, ?_⟩
    refine FW.gnext ?_ rfl rfl rfl rfl rfl ?_
    · skip
      refine FW.gskip rfl rfl ?_
      refine FW.gskip rfl rfl ?_
      refine FW.gskip rfl rfl ?_
      refine FW.gskip rfl rfl ?_
      refine FW.gskip rfl rfl ?_
      refine FW.gfun (y := .lit (.pointer (some ⟨b0, 0, none⟩))) rfl rfl rfl rfl (fun a w hk => FW.f_move hk (FW.holds_nil _) rfl) ?_
      refine FW.gfun (y := .lit (.pointer (some ⟨b0, 0, none⟩))) rfl rfl rfl rfl (fun a w hk => (FW.f_pure (FW.p_nilCheck hk.kn (FW.holds_nil _) rfl))) ?_
      refine FW.gfun (y := .lit (.pointer (some ⟨b0, 1, none⟩))) rfl rfl rfl rfl (fun a w hk => FW.f_fieldPtr hk (FW.holds_nil _) rfl Go.Proofs.Try.underlying109 rfl (by kernel_rfl) rfl) ?_
      refine FW.gfun (y := .lit (.map (some xr0_1))) rfl rfl rfl rfl (fun a w hk => FW.f_loadBlk1 hk (FW.holds_nil _) (j := 3) rfl rfl Go.Proofs.Try.underlying107 rfl rfl) ?_
      refine FW.gskip rfl rfl ?_
      refine FW.gfun (y := .lit (.pointer (some ⟨b0, 0, none⟩))) rfl rfl rfl rfl (fun a w hk => FW.f_move hk (FW.holds_nil _) rfl) ?_
      refine FW.gfun (y := .lit (.pointer (some ⟨b0, 0, none⟩))) rfl rfl rfl rfl (fun a w hk => (FW.f_pure (FW.p_nilCheck hk.kn (FW.holds_nil _) rfl))) ?_
      refine FW.gfun (y := .lit (.pointer (some ⟨b0, 3, none⟩))) rfl rfl rfl rfl (fun a w hk => FW.f_fieldPtr hk (FW.holds_nil _) rfl Go.Proofs.Try.underlying109 rfl (by kernel_rfl) rfl) ?_
      refine FW.gfun (y := .lit (.slice xd0_3 (List.length v0.falls) xc0_3)) rfl rfl rfl rfl (fun a w hk => FW.f_loadBlk1 hk (FW.holds_nil _) (j := 3) rfl rfl Go.Proofs.Try.underlying74 rfl rfl) ?_
      refine FW.gskip rfl rfl ?_
      refine FW.gskip rfl rfl ?_
      refine FW.gskip0 rfl ?_
      refine FW.gskip rfl rfl ?_
      refine FW.gskip0 rfl ?_
      refine FW.gskip rfl rfl ?_
      refine FW.gskip0 rfl ?_
      exact FW.gend
    · skip
      intro σD a w opsD QD hk hf hQ hX
      refine FW.l_callH (I1 := [FW.mapI (.int .i64) (Value.int .i64) FW.evS xr0_1 v0.cache]) (I2 := [FW.orow zd1 zc1 9 1 c_str v0.sure, FW.orow xd0_0 xc0_0 9 1 c_str v0.sure, FW.blk bx1 109 ([.lit (.slice xd0_0 (List.length v0.sure) xc0_0), .lit (.map (some xr0_1)), .lit (.int .i64 v0.steps), .lit (.slice xd0_3 (List.length v0.falls) xc0_3), .lit (.bool v0.off)]), FW.blk b0 109 ([.lit (.slice xd0_0 (List.length v0.sure) xc0_0), .lit (.map (some xr0_1)), .lit (.int .i64 v0.steps), .lit (.slice xd0_3 (List.length v0.falls) xc0_3), .lit (.bool v0.off)]), FW.orow xd0_3 xc0_3 45 3 ApiFall.cells v0.falls]) (js := [4]) hk rfl rfl hf rfl rfl Go.Proofs.Try.func72 rfl (by kernel_rfl) (mapsClone.ok v0.cache _) ?_; clear hk
      rintro _ _ ⟨zr2, rfl, rfl⟩ a w hk
      refine hQ _ _ a w ?_ hk; clear hk hQ hf hX
      refine ⟨[(9, [], .lit (.pointer (some ⟨b0, 0, none⟩))), (10, [], .lit (.pointer (some ⟨b0, 0, none⟩))), (11, [], .lit (.pointer (some ⟨b0, 0, none⟩))), (12, [], .lit (.slice xd0_0 (List.length v0.sure) xc0_0)), (13, [], .lit (.slice zd1 (List.length v0.sure) zc1)), (14, [], .lit (.pointer (some ⟨b0, 0, none⟩))), (15, [], .lit (.pointer (some ⟨b0, 0, none⟩))), (16, [], .lit (.pointer (some ⟨b0, 1, none⟩))), (17, [], .lit (.map (some xr0_1))), (18, [], .lit (.map (some zr2))), (19, [], .lit (.pointer (some ⟨b0, 0, none⟩))), (20, [], .lit (.pointer (some ⟨b0, 0, none⟩))), (21, [], .lit (.pointer (some ⟨b0, 3, none⟩))), (22, [], .lit (.slice xd0_3 (List.length v0.falls) xc0_3)), (23, [], .agg []), (24, [], .agg []), (27, [], .lit undef), (25, [], .agg []), (27, [], .lit undef), (26, [], .agg []), (27, [], .lit undef)], And.intro rfl (And.intro rfl (And.intro rfl (And.intro rfl (And.intro rfl (And.intro rfl (And.intro rfl (And.intro rfl (And.intro rfl (And.intro rfl (And.intro rfl (And.intro rfl (And.intro rfl (trivial))))))))))))), rfl, ?_⟩
      refine FW.gnext ?_ rfl rfl rfl rfl rfl ?_
      · skip
        refine FW.gskip rfl rfl ?_
        refine FW.gskip rfl rfl ?_
        refine FW.gskip rfl rfl ?_
        refine FW.gskip rfl rfl ?_
        refine FW.gskip rfl rfl ?_
        refine FW.gskip rfl rfl ?_
        refine FW.gskip rfl rfl ?_
        refine FW.gskip rfl rfl ?_
        refine FW.gskip rfl rfl ?_
        refine FW.gskip rfl rfl ?_
        refine FW.gfun (y := .lit (.pointer (some ⟨b0, 0, none⟩))) rfl rfl rfl rfl (fun a w hk => FW.f_move hk (FW.holds_nil _) rfl) ?_
        refine FW.gfun (y := .lit (.pointer (some ⟨b0, 0, none⟩))) rfl rfl rfl rfl (fun a w hk => (FW.f_pure (FW.p_nilCheck hk.kn (FW.holds_nil _) rfl))) ?_
        refine FW.gfun (y := .lit (.pointer (some ⟨b0, 3, none⟩))) rfl rfl rfl rfl (fun a w hk => FW.f_fieldPtr hk (FW.holds_nil _) rfl Go.Proofs.Try.underlying109 rfl (by kernel_rfl) rfl) ?_
        refine FW.gfun (y := .lit (.slice xd0_3 (List.length v0.falls) xc0_3)) rfl rfl rfl rfl (fun a w hk => FW.f_loadBlk1 hk (FW.holds_nil _) (j := 5) rfl rfl Go.Proofs.Try.underlying74 rfl rfl) ?_
        refine FW.gskip rfl rfl ?_
        refine FW.gskip rfl rfl ?_
        refine FW.gskip0 rfl ?_
        refine FW.gskip rfl rfl ?_
        refine FW.gskip0 rfl ?_
        refine FW.gskip rfl rfl ?_
        refine FW.gskip0 rfl ?_
        exact FW.gend
      · skip
        intro σD a w opsD QD hk hf hQ hX
        refine FW.l_callH (I1 := [FW.orow xd0_3 xc0_3 45 3 ApiFall.cells v0.falls]) (I2 := [FW.mapI (.int .i64) (Value.int .i64) FW.evS zr2 v0.cache, FW.mapI (.int .i64) (Value.int .i64) FW.evS xr0_1 v0.cache, FW.orow zd1 zc1 9 1 c_str v0.sure, FW.orow xd0_0 xc0_0 9 1 c_str v0.sure, FW.blk bx1 109 ([.lit (.slice xd0_0 (List.length v0.sure) xc0_0), .lit (.map (some xr0_1)), .lit (.int .i64 v0.steps), .lit (.slice xd0_3 (List.length v0.falls) xc0_3), .lit (.bool v0.off)]), FW.blk b0 109 ([.lit (.slice xd0_0 (List.length v0.sure) xc0_0), .lit (.map (some xr0_1)), .lit (.int .i64 v0.steps), .lit (.slice xd0_3 (List.length v0.falls) xc0_3), .lit (.bool v0.off)])]) (js := [6]) hk rfl rfl hf rfl rfl Go.Proofs.Try.func70 rfl (by kernel_rfl) (fallsCloneOwn.ok v0.falls hc2 _ _) ?_; clear hk
        rintro _ _ ⟨zd3, zc3, rfl, rfl⟩ a w hk
        refine hQ _ _ a w ?_ hk; clear hk hQ hf hX
        refine ⟨[(9, [], .lit (.pointer (some ⟨b0, 0, none⟩))), (10, [], .lit (.pointer (some ⟨b0, 0, none⟩))), (11, [], .lit (.pointer (some ⟨b0, 0, none⟩))), (12, [], .lit (.slice xd0_0 (List.length v0.sure) xc0_0)), (13, [], .lit (.slice zd1 (List.length v0.sure) zc1)), (14, [], .lit (.pointer (some ⟨b0, 0, none⟩))), (15, [], .lit (.pointer (some ⟨b0, 0, none⟩))), (16, [], .lit (.pointer (some ⟨b0, 1, none⟩))), (17, [], .lit (.map (some xr0_1))), (18, [], .lit (.map (some zr2))), (19, [], .lit (.pointer (some ⟨b0, 0, none⟩))), (20, [], .lit (.pointer (some ⟨b0, 0, none⟩))), (21, [], .lit (.pointer (some ⟨b0, 3, none⟩))), (22, [], .lit (.slice xd0_3 (List.length v0.falls) xc0_3)), (23, [], .lit (.slice zd3 (List.length v0.falls) zc3)), (24, [], .lit (.pointer (some ⟨bx1, 0, none⟩))), (27, [], .lit undef), (25, [], .agg []), (27, [], .lit undef), (26, [], .agg []), (27, [], .lit undef)], And.intro rfl (And.intro rfl (And.intro rfl (And.intro rfl (And.intro rfl (And.intro rfl (And.intro rfl (And.intro rfl (And.intro rfl (And.intro rfl (And.intro rfl (And.intro rfl (And.intro rfl (And.intro rfl (trivial)))))))))))))), rfl, ?_⟩
        refine FW.gnext0 ?_ rfl rfl rfl ?_
        · skip
          refine FW.gskip rfl rfl ?_
          refine FW.gskip rfl rfl ?_
          refine FW.gskip rfl rfl ?_
          refine FW.gskip rfl rfl ?_
          refine FW.gskip rfl rfl ?_
          refine FW.gskip rfl rfl ?_
          refine FW.gskip rfl rfl ?_
          refine FW.gskip rfl rfl ?_
          refine FW.gskip rfl rfl ?_
          refine FW.gskip rfl rfl ?_
          refine FW.gskip rfl rfl ?_
          refine FW.gskip rfl rfl ?_
          refine FW.gskip rfl rfl ?_
          refine FW.gskip rfl rfl ?_
          refine FW.gskip rfl rfl ?_
          refine FW.gfun (y := .lit (.pointer (some ⟨bx1, 0, none⟩))) rfl rfl rfl rfl (fun a w hk => FW.f_fieldPtr hk (FW.holds_nil _) rfl Go.Proofs.Try.underlying109 rfl (by kernel_rfl) rfl) ?_
          refine FW.gskip0 rfl ?_
          refine FW.gskip rfl rfl ?_
          refine FW.gskip0 rfl ?_
          refine FW.gskip rfl rfl ?_
          refine FW.gskip0 rfl ?_
          exact FW.gend
        · skip
          intro σD a w opsD QD hk hQ hX
          refine FW.l_store (I' := [FW.orow zd3 zc3 45 3 ApiFall.cells v0.falls, FW.orow xd0_3 xc0_3 45 3 ApiFall.cells v0.falls, FW.mapI (.int .i64) (Value.int .i64) FW.evS zr2 v0.cache, FW.mapI (.int .i64) (Value.int .i64) FW.evS xr0_1 v0.cache, FW.orow zd1 zc1 9 1 c_str v0.sure, FW.orow xd0_0 xc0_0 9 1 c_str v0.sure, FW.blk bx1 109 ([.lit (.slice zd1 (List.length v0.sure) zc1), .lit (.map (some xr0_1)), .lit (.int .i64 v0.steps), .lit (.slice xd0_3 (List.length v0.falls) xc0_3), .lit (.bool v0.off)]), FW.blk b0 109 ([.lit (.slice xd0_0 (List.length v0.sure) xc0_0), .lit (.map (some xr0_1)), .lit (.int .i64 v0.steps), .lit (.slice xd0_3 (List.length v0.falls) xc0_3), .lit (.bool v0.off)])]) (cs' := [.lit (.slice zd1 (List.length v0.sure) zc1), .lit (.map (some xr0_1)), .lit (.int .i64 v0.steps), .lit (.slice xd0_3 (List.length v0.falls) xc0_3), .lit (.bool v0.off)]) (j := 6) hk rfl rfl rfl rfl rfl (by kernel_rfl) rfl rfl ?_; clear hk; intro w hk
          refine hQ _ a w ?_ hk; clear hk hQ hX
          refine ⟨[(9, [], .lit (.pointer (some ⟨b0, 0, none⟩))), (10, [], .lit (.pointer (some ⟨b0, 0, none⟩))), (11, [], .lit (.pointer (some ⟨b0, 0, none⟩))), (12, [], .lit (.slice xd0_0 (List.length v0.sure) xc0_0)), (13, [], .lit (.slice zd1 (List.length v0.sure) zc1)), (14, [], .lit (.pointer (some ⟨b0, 0, none⟩))), (15, [], .lit (.pointer (some ⟨b0, 0, none⟩))), (16, [], .lit (.pointer (some ⟨b0, 1, none⟩))), (17, [], .lit (.map (some xr0_1))), (18, [], .lit (.map (some zr2))), (19, [], .lit (.pointer (some ⟨b0, 0, none⟩))), (20, [], .lit (.pointer (some ⟨b0, 0, none⟩))), (21, [], .lit (.pointer (some ⟨b0, 3, none⟩))), (22, [], .lit (.slice xd0_3 (List.length v0.falls) xc0_3)), (23, [], .lit (.slice zd3 (List.length v0.falls) zc3)), (24, [], .lit (.pointer (some ⟨bx1, 0, none⟩))), (27, [], .lit undef), (25, [], .lit (.pointer (some ⟨bx1, 1, none⟩))), (27, [], .lit undef), (26, [], .agg []), (27, [], .lit undef)], And.intro rfl (And.intro rfl (And.intro rfl (And.intro rfl (And.intro rfl (And.intro rfl (And.intro rfl (And.intro rfl (And.intro rfl (And.intro rfl (And.intro rfl (And.intro rfl (And.intro rfl (And.intro rfl (And.intro rfl (And.intro rfl (trivial)))))))))))))))), rfl, ?_⟩
          refine FW.gnext0 ?_ rfl rfl rfl ?_
          · skip
            refine FW.gskip rfl rfl ?_
            refine FW.gskip rfl rfl ?_
            refine FW.gskip rfl rfl ?_
            refine FW.gskip rfl rfl ?_
            refine FW.gskip rfl rfl ?_
            refine FW.gskip rfl rfl ?_
            refine FW.gskip rfl rfl ?_
            refine FW.gskip rfl rfl ?_
            refine FW.gskip rfl rfl ?_
            refine FW.gskip rfl rfl ?_
            refine FW.gskip rfl rfl ?_
            refine FW.gskip rfl rfl ?_
            refine FW.gskip rfl rfl ?_
            refine FW.gskip rfl rfl ?_
            refine FW.gskip rfl rfl ?_
            refine FW.gskip rfl rfl ?_
            refine FW.gskip0 rfl ?_
            refine FW.gfun (y := .lit (.pointer (some ⟨bx1, 1, none⟩))) rfl rfl rfl rfl (fun a w hk => FW.f_fieldPtr hk (FW.holds_nil _) rfl Go.Proofs.Try.underlying109 rfl (by kernel_rfl) rfl) ?_
            refine FW.gskip0 rfl ?_
            refine FW.gskip rfl rfl ?_
            refine FW.gskip0 rfl ?_
            exact FW.gend
          · skip
            intro σD a w opsD QD hk hQ hX
            refine FW.l_store (I' := [FW.orow zd3 zc3 45 3 ApiFall.cells v0.falls, FW.orow xd0_3 xc0_3 45 3 ApiFall.cells v0.falls, FW.mapI (.int .i64) (Value.int .i64) FW.evS zr2 v0.cache, FW.mapI (.int .i64) (Value.int .i64) FW.evS xr0_1 v0.cache, FW.orow zd1 zc1 9 1 c_str v0.sure, FW.orow xd0_0 xc0_0 9 1 c_str v0.sure, FW.blk bx1 109 ([.lit (.slice zd1 (List.length v0.sure) zc1), .lit (.map (some zr2)), .lit (.int .i64 v0.steps), .lit (.slice xd0_3 (List.length v0.falls) xc0_3), .lit (.bool v0.off)]), FW.blk b0 109 ([.lit (.slice xd0_0 (List.length v0.sure) xc0_0), .lit (.map (some xr0_1)), .lit (.int .i64 v0.steps), .lit (.slice xd0_3 (List.length v0.falls) xc0_3), .lit (.bool v0.off)])]) (cs' := [.lit (.slice zd1 (List.length v0.sure) zc1), .lit (.map (some zr2)), .lit (.int .i64 v0.steps), .lit (.slice xd0_3 (List.length v0.falls) xc0_3), .lit (.bool v0.off)]) (j := 6) hk rfl rfl rfl rfl rfl (by kernel_rfl) rfl rfl ?_; clear hk; intro w hk
            refine hQ _ a w ?_ hk; clear hk hQ hX
            refine ⟨[(9, [], .lit (.pointer (some ⟨b0, 0, none⟩))), (10, [], .lit (.pointer (some ⟨b0, 0, none⟩))), (11, [], .lit (.pointer (some ⟨b0, 0, none⟩))), (12, [], .lit (.slice xd0_0 (List.length v0.sure) xc0_0)), (13, [], .lit (.slice zd1 (List.length v0.sure) zc1)), (14, [], .lit (.pointer (some ⟨b0, 0, none⟩))), (15, [], .lit (.pointer (some ⟨b0, 0, none⟩))), (16, [], .lit (.pointer (some ⟨b0, 1, none⟩))), (17, [], .lit (.map (some xr0_1))), (18, [], .lit (.map (some zr2))), (19, [], .lit (.pointer (some ⟨b0, 0, none⟩))), (20, [], .lit (.pointer (some ⟨b0, 0, none⟩))), (21, [], .lit (.pointer (some ⟨b0, 3, none⟩))), (22, [], .lit (.slice xd0_3 (List.length v0.falls) xc0_3)), (23, [], .lit (.slice zd3 (List.length v0.falls) zc3)), (24, [], .lit (.pointer (some ⟨bx1, 0, none⟩))), (27, [], .lit undef), (25, [], .lit (.pointer (some ⟨bx1, 1, none⟩))), (27, [], .lit undef), (26, [], .lit (.pointer (some ⟨bx1, 3, none⟩))), (27, [], .lit undef)], And.intro rfl (And.intro rfl (And.intro rfl (And.intro rfl (And.intro rfl (And.intro rfl (And.intro rfl (And.intro rfl (And.intro rfl (And.intro rfl (And.intro rfl (And.intro rfl (And.intro rfl (And.intro rfl (And.intro rfl (And.intro rfl (And.intro rfl (And.intro rfl (trivial)))))))))))))))))), rfl, ?_⟩
            refine FW.gnext0 ?_ rfl rfl rfl ?_
            · skip
              refine FW.gskip rfl rfl ?_
              refine FW.gskip rfl rfl ?_
              refine FW.gskip rfl rfl ?_
              refine FW.gskip rfl rfl ?_
              refine FW.gskip rfl rfl ?_
              refine FW.gskip rfl rfl ?_
              refine FW.gskip rfl rfl ?_
              refine FW.gskip rfl rfl ?_
              refine FW.gskip rfl rfl ?_
              refine FW.gskip rfl rfl ?_
              refine FW.gskip rfl rfl ?_
              refine FW.gskip rfl rfl ?_
              refine FW.gskip rfl rfl ?_
              refine FW.gskip rfl rfl ?_
              refine FW.gskip rfl rfl ?_
              refine FW.gskip rfl rfl ?_
              refine FW.gskip0 rfl ?_
              refine FW.gskip rfl rfl ?_
              refine FW.gskip0 rfl ?_
              refine FW.gfun (y := .lit (.pointer (some ⟨bx1, 3, none⟩))) rfl rfl rfl rfl (fun a w hk => FW.f_fieldPtr hk (FW.holds_nil _) rfl Go.Proofs.Try.underlying109 rfl (by kernel_rfl) rfl) ?_
              refine FW.gskip0 rfl ?_
              exact FW.gend
            · skip
              intro σD a w opsD QD hk hQ hX
              refine FW.l_store (I' := [FW.orow zd3 zc3 45 3 ApiFall.cells v0.falls, FW.orow xd0_3 xc0_3 45 3 ApiFall.cells v0.falls, FW.mapI (.int .i64) (Value.int .i64) FW.evS zr2 v0.cache, FW.mapI (.int .i64) (Value.int .i64) FW.evS xr0_1 v0.cache, FW.orow zd1 zc1 9 1 c_str v0.sure, FW.orow xd0_0 xc0_0 9 1 c_str v0.sure, FW.blk bx1 109 ([.lit (.slice zd1 (List.length v0.sure) zc1), .lit (.map (some zr2)), .lit (.int .i64 v0.steps), .lit (.slice zd3 (List.length v0.falls) zc3), .lit (.bool v0.off)]), FW.blk b0 109 ([.lit (.slice xd0_0 (List.length v0.sure) xc0_0), .lit (.map (some xr0_1)), .lit (.int .i64 v0.steps), .lit (.slice xd0_3 (List.length v0.falls) xc0_3), .lit (.bool v0.off)])]) (cs' := [.lit (.slice zd1 (List.length v0.sure) zc1), .lit (.map (some zr2)), .lit (.int .i64 v0.steps), .lit (.slice zd3 (List.length v0.falls) zc3), .lit (.bool v0.off)]) (j := 6) hk rfl rfl rfl rfl rfl (by kernel_rfl) rfl rfl ?_; clear hk; intro w hk
              refine hQ _ a w ?_ hk; clear hk hQ hX
              refine ⟨[(9, [], .lit (.pointer (some ⟨b0, 0, none⟩))), (10, [], .lit (.pointer (some ⟨b0, 0, none⟩))), (11, [], .lit (.pointer (some ⟨b0, 0, none⟩))), (12, [], .lit (.slice xd0_0 (List.length v0.sure) xc0_0)), (13, [], .lit (.slice zd1 (List.length v0.sure) zc1)), (14, [], .lit (.pointer (some ⟨b0, 0, none⟩))), (15, [], .lit (.pointer (some ⟨b0, 0, none⟩))), (16, [], .lit (.pointer (some ⟨b0, 1, none⟩))), (17, [], .lit (.map (some xr0_1))), (18, [], .lit (.map (some zr2))), (19, [], .lit (.pointer (some ⟨b0, 0, none⟩))), (20, [], .lit (.pointer (some ⟨b0, 0, none⟩))), (21, [], .lit (.pointer (some ⟨b0, 3, none⟩))), (22, [], .lit (.slice xd0_3 (List.length v0.falls) xc0_3)), (23, [], .lit (.slice zd3 (List.length v0.falls) zc3)), (24, [], .lit (.pointer (some ⟨bx1, 0, none⟩))), (27, [], .lit undef), (25, [], .lit (.pointer (some ⟨bx1, 1, none⟩))), (27, [], .lit undef), (26, [], .lit (.pointer (some ⟨bx1, 3, none⟩))), (27, [], .lit undef)], And.intro rfl (And.intro rfl (And.intro rfl (And.intro rfl (And.intro rfl (And.intro rfl (And.intro rfl (And.intro rfl (And.intro rfl (And.intro rfl (And.intro rfl (And.intro rfl (And.intro rfl (And.intro rfl (And.intro rfl (And.intro rfl (And.intro rfl (And.intro rfl (And.intro rfl (And.intro rfl (trivial)))))))))))))))))))), rfl, ?_⟩
              refine FW.glast ?_ ?_
              · skip
                refine FW.gskip rfl rfl ?_
                refine FW.gskip rfl rfl ?_
                refine FW.gskip rfl rfl ?_
                refine FW.gskip rfl rfl ?_
                refine FW.gskip rfl rfl ?_
                refine FW.gskip rfl rfl ?_
                refine FW.gskip rfl rfl ?_
                refine FW.gskip rfl rfl ?_
                refine FW.gskip rfl rfl ?_
                refine FW.gskip rfl rfl ?_
                refine FW.gskip rfl rfl ?_
                refine FW.gskip rfl rfl ?_
                refine FW.gskip rfl rfl ?_
                refine FW.gskip rfl rfl ?_
                refine FW.gskip rfl rfl ?_
                refine FW.gskip rfl rfl ?_
                refine FW.gskip0 rfl ?_
                refine FW.gskip rfl rfl ?_
                refine FW.gskip0 rfl ?_
                refine FW.gskip rfl rfl ?_
                refine FW.gskip0 rfl ?_
                exact FW.gend
              · skip
                intro a w hk; simp only [FW.stD, cond_true] at hk
                refine FW.wreg ?_; intro K' hK6
                refine FW.lfun (y := .lit (.pointer (some ⟨bx1, 0, none⟩))) hk rfl rfl rfl rfl (FW.f_assign hk (FW.holds_nil _) rfl) ?_; clear hk; intro a w hk
                refine FW.lend (hK6 _ _ ?_); clear hK6 K'
                refine wp_ret ?_
                (repeat first | refine FW.then_ret ?_ | refine FW.block_ret ?_)
                obtain rfl := Option.some.inj h
                replace hk := FW.S.keep (I1 := [FW.blk bx1 109 ([.lit (.slice zd1 (List.length v0.sure) zc1), .lit (.map (some zr2)), .lit (.int .i64 v0.steps), .lit (.slice zd3 (List.length v0.falls) zc3), .lit (.bool v0.off)]), FW.orow zd1 zc1 9 1 c_str v0.sure, FW.mapI (.int .i64) (Value.int .i64) FW.evS zr2 v0.cache, FW.orow zd3 zc3 45 3 ApiFall.cells v0.falls, FW.blk b0 109 ([.lit (.slice xd0_0 (List.length v0.sure) xc0_0), .lit (.map (some xr0_1)), .lit (.int .i64 v0.steps), .lit (.slice xd0_3 (List.length v0.falls) xc0_3), .lit (.bool v0.off)]), FW.orow xd0_0 xc0_0 9 1 c_str v0.sure, FW.mapI (.int .i64) (Value.int .i64) FW.evS xr0_1 v0.cache, FW.orow xd0_3 xc0_3 45 3 ApiFall.cells v0.falls]) (I2 := []) (js := [1, 3, 5, 7, 4, 5, 6, 7]) hk rfl
                exact FW.fretH1 hk rfl (FW.rtmp hk rfl) ⟨bx1, zd1, zc1, zr2, zd3, zc3, xd0_0, xc0_0, xr0_1, xd0_3, xc0_3, rfl, rfl⟩

theorem dev_Dev_Write_nil.ok (K : Nat) (v1 : Int) (v2 : List UInt8) (r : Int) (h : dev_Dev_Write_nil.f K v1 v2 = some r) :
    FW.Ok Go.Proofs.Try.prog 29 [.lit (.pointer none), .lit (.int .i64 v1), .lit (.string (FW.B v2))] (.lit (.int .i64 r)) := by
  refine FW.enter (xs := [.lit (.pointer none), .lit (.int .i64 v1), .lit (.string (FW.B v2))]) Go.Proofs.Try.func29 rfl Go.Proofs.Try.ntmps29 rfl ?_
  intro M w0 a hk
  unfold dev_Dev_Write_nil.f at h
  refine FW.wreg ?_; intro K' hK1
  refine FW.lfun (y := .lit (.int .i64 0)) hk rfl rfl rfl rfl (FW.f_assign hk (FW.holds_nil _) rfl) ?_; clear hk; intro a w hk
  refine FW.lend (hK1 _ _ ?_); clear hK1 K'
  refine FW.wseq ?_; intro K' hK2
  refine wp_block ?_
  refine FW.wreg ?_; intro K' hK3
  refine FW.lfun (y := .lit (.pointer none)) hk rfl rfl rfl rfl (FW.f_move hk (FW.holds_nil _) rfl) ?_; clear hk; intro a w hk
  obtain ⟨t1, hr_t1, h⟩ := FW.bnd h
  refine FW.lfun (y := .lit (.bool t1)) hk rfl rfl rfl rfl (FW.f_call hk (FW.holds_nil _) rfl rfl Go.Proofs.Try.func41 rfl (by kernel_rfl) (dev_Dev_Off_nil.ok  _ hr_t1)) ?_; clear hk; intro a w hk
  refine FW.lfun (y := .lit (.bool t1)) hk rfl rfl rfl rfl (FW.f_assign hk (FW.holds_nil _) rfl) ?_; clear hk; intro a w hk
  refine FW.lend (hK3 _ _ ?_); clear hK3 K'
  refine FW.wcondF (b := t1) hk h rfl (fun h hb => ?_) (fun h hb => ?_)
  · skip
    refine FW.wreg ?_; intro K' hK4
    refine FW.lfun (y := .lit (.int .i64 7)) hk rfl rfl rfl rfl (FW.f_assign hk (FW.holds_nil _) rfl) ?_; clear hk; intro a w hk
    refine FW.lend (hK4 _ _ ?_); clear hK4 K'
    refine wp_ret ?_
    (repeat first | refine FW.then_ret ?_ | refine FW.block_ret ?_)
    obtain rfl := Option.some.inj h
    exact FW.fret1 hk rfl rfl
  · skip
    cases h

theorem dev_Dev_Up_nil.ok   (r : Bool) (h : dev_Dev_Up_nil.f = some r) :
    FW.Ok Go.Proofs.Try.prog 33 [.lit (.pointer none)] (.lit (.bool r)) := by
  refine FW.enter (xs := [.lit (.pointer none)]) Go.Proofs.Try.func33 rfl Go.Proofs.Try.ntmps33 rfl ?_
  intro M w0 a hk
  unfold dev_Dev_Up_nil.f at h
  refine FW.wreg ?_; intro K' hK1
  refine FW.lfun (y := .lit (.bool false)) hk rfl rfl rfl rfl (FW.f_assign hk (FW.holds_nil _) rfl) ?_; clear hk; intro a w hk
  refine FW.lend (hK1 _ _ ?_); clear hK1 K'
  refine FW.wseq ?_; intro K' hK2
  refine FW.wreg ?_; intro K' hK3
  refine FW.lfun (y := .lit (.pointer none)) hk rfl rfl rfl rfl (FW.f_move hk (FW.holds_nil _) rfl) ?_; clear hk; intro a w hk
  refine FW.lfun (y := .lit (.bool true)) hk rfl rfl rfl rfl ((FW.f_pure (FW.p_ptrEq Go.Proofs.Try.underlying46 hk.kn (FW.holds_nil _) rfl rfl rfl))) ?_; clear hk; intro a w hk
  refine FW.lfun (y := .lit (.bool true)) hk rfl rfl rfl rfl (FW.f_move hk (FW.holds_nil _) rfl) ?_; clear hk; intro a w hk
  refine FW.lfunG (y := .lit (.bool false)) hk rfl rfl rfl rfl rfl rfl rfl rfl (fun hc => (FW.noHold hk.kn rfl rfl hc).elim) ?_; clear hk; intro a w hk
  refine FW.lfunG (y := .lit (.bool false)) hk rfl rfl rfl rfl rfl rfl rfl rfl (fun hc => (FW.noHold hk.kn rfl rfl hc).elim) ?_; clear hk; intro a w hk
  refine FW.lfunG (y := .lit (.bool false)) hk rfl rfl rfl rfl rfl rfl rfl rfl (fun hc => (FW.noHold hk.kn rfl rfl hc).elim) ?_; clear hk; intro a w hk
  refine FW.lfunG (y := .lit (.bool false)) hk rfl rfl rfl rfl rfl rfl rfl rfl (fun hc => (FW.noHold hk.kn rfl rfl hc).elim) ?_; clear hk; intro a w hk
  refine FW.lfunG (y := .lit (.bool false)) hk rfl rfl rfl rfl rfl rfl rfl rfl (fun hc => (FW.noHold hk.kn rfl rfl hc).elim) ?_; clear hk; intro a w hk
  refine FW.lfun (y := .lit (.bool true)) hk rfl rfl rfl rfl ((FW.f_pure (FW.p_pickT hk.kn (FW.holds_nil _) rfl rfl))) ?_; clear hk; intro a w hk
  refine FW.lend (hK3 _ _ ?_); clear hK3 K'
  refine FW.wcondT hk rfl ?_
  refine FW.wreg ?_; intro K' hK4
  refine FW.lfun (y := .lit (.bool false)) hk rfl rfl rfl rfl (FW.f_assign hk (FW.holds_nil _) rfl) ?_; clear hk; intro a w hk
  refine FW.lend (hK4 _ _ ?_); clear hK4 K'
  refine wp_ret ?_
  (repeat first | refine FW.then_ret ?_ | refine FW.block_ret ?_)
  obtain rfl := Option.some.inj h
  exact FW.fret1 hk rfl rfl

theorem dev_Dev_Len_nil.ok   (r : Int) (h : dev_Dev_Len_nil.f = some r) :
    FW.Ok Go.Proofs.Try.prog 42 [.lit (.pointer none)] (.lit (.int .i64 r)) := by
  refine FW.enter (xs := [.lit (.pointer none)]) Go.Proofs.Try.func42 rfl Go.Proofs.Try.ntmps42 rfl ?_
  intro M w0 a hk
  unfold dev_Dev_Len_nil.f at h
  refine FW.wreg ?_; intro K' hK1
  refine FW.lfun (y := .lit (.int .i64 0)) hk rfl rfl rfl rfl (FW.f_assign hk (FW.holds_nil _) rfl) ?_; clear hk; intro a w hk
  refine FW.lend (hK1 _ _ ?_); clear hK1 K'
  refine FW.wseq ?_; intro K' hK2
  refine FW.wreg ?_; intro K' hK3
  refine FW.lfun (y := .lit (.pointer none)) hk rfl rfl rfl rfl (FW.f_move hk (FW.holds_nil _) rfl) ?_; clear hk; intro a w hk
  refine FW.lfun (y := .lit (.bool true)) hk rfl rfl rfl rfl ((FW.f_pure (FW.p_ptrEq Go.Proofs.Try.underlying46 hk.kn (FW.holds_nil _) rfl rfl rfl))) ?_; clear hk; intro a w hk
  refine FW.lend (hK3 _ _ ?_); clear hK3 K'
  refine FW.wcondT hk rfl ?_
  refine FW.wreg ?_; intro K' hK4
  refine FW.lfun (y := .lit (.int .i64 0)) hk rfl rfl rfl rfl (FW.f_assign hk (FW.holds_nil _) rfl) ?_; clear hk; intro a w hk
  refine FW.lend (hK4 _ _ ?_); clear hK4 K'
  refine wp_ret ?_
  (repeat first | refine FW.then_ret ?_ | refine FW.block_ret ?_)
  obtain rfl := Option.some.inj h
  exact FW.fret1 hk rfl rfl

theorem dev_Dev_Steps_nil.ok   (r : Int) (h : dev_Dev_Steps_nil.f = some r) :
    FW.Ok Go.Proofs.Try.prog 43 [.lit (.pointer none)] (.lit (.int .i64 r)) := by
  refine FW.enter (xs := [.lit (.pointer none)]) Go.Proofs.Try.func43 rfl Go.Proofs.Try.ntmps43 rfl ?_
  intro M w0 a hk
  unfold dev_Dev_Steps_nil.f at h
  refine FW.wreg ?_; intro K' hK1
  refine FW.lfun (y := .lit (.int .i64 0)) hk rfl rfl rfl rfl (FW.f_assign hk (FW.holds_nil _) rfl) ?_; clear hk; intro a w hk
  refine FW.lend (hK1 _ _ ?_); clear hK1 K'
  refine FW.wseq ?_; intro K' hK2
  refine FW.wreg ?_; intro K' hK3
  refine FW.lfun (y := .lit (.pointer none)) hk rfl rfl rfl rfl (FW.f_move hk (FW.holds_nil _) rfl) ?_; clear hk; intro a w hk
  refine FW.lfun (y := .lit (.bool true)) hk rfl rfl rfl rfl ((FW.f_pure (FW.p_ptrEq Go.Proofs.Try.underlying46 hk.kn (FW.holds_nil _) rfl rfl rfl))) ?_; clear hk; intro a w hk
  refine FW.lend (hK3 _ _ ?_); clear hK3 K'
  refine FW.wcondT hk rfl ?_
  refine FW.wreg ?_; intro K' hK4
  refine FW.lfun (y := .lit (.int .i64 0)) hk rfl rfl rfl rfl (FW.f_assign hk (FW.holds_nil _) rfl) ?_; clear hk; intro a w hk
  refine FW.lend (hK4 _ _ ?_); clear hK4 K'
  refine wp_ret ?_
  (repeat first | refine FW.then_ret ?_ | refine FW.block_ret ?_)
  obtain rfl := Option.some.inj h
  exact FW.fret1 hk rfl rfl

theorem dev_Dev_Loose_nil.ok   (r : Int) (h : dev_Dev_Loose_nil.f = some r) :
    FW.Ok Go.Proofs.Try.prog 35 [.lit (.pointer none)] (.lit (.int .i64 r)) := by
  refine FW.enter (xs := [.lit (.pointer none)]) Go.Proofs.Try.func35 rfl Go.Proofs.Try.ntmps35 rfl ?_
  intro M w0 a hk
  unfold dev_Dev_Loose_nil.f at h
  refine FW.wreg ?_; intro K' hK1
  refine FW.lfun (y := .lit (.int .i64 0)) hk rfl rfl rfl rfl (FW.f_assign hk (FW.holds_nil _) rfl) ?_; clear hk; intro a w hk
  refine FW.lend (hK1 _ _ ?_); clear hK1 K'
  refine FW.wseq ?_; intro K' hK2
  refine FW.wreg ?_; intro K' hK3
  refine FW.lfun (y := .lit (.pointer none)) hk rfl rfl rfl rfl (FW.f_move hk (FW.holds_nil _) rfl) ?_; clear hk; intro a w hk
  refine FW.lfun (y := .lit (.bool true)) hk rfl rfl rfl rfl ((FW.f_pure (FW.p_ptrEq Go.Proofs.Try.underlying46 hk.kn (FW.holds_nil _) rfl rfl rfl))) ?_; clear hk; intro a w hk
  refine FW.lend (hK3 _ _ ?_); clear hK3 K'
  refine FW.wcondT hk rfl ?_
  refine FW.wreg ?_; intro K' hK4
  refine FW.lfun (y := .lit (.int .i64 0)) hk rfl rfl rfl rfl (FW.f_assign hk (FW.holds_nil _) rfl) ?_; clear hk; intro a w hk
  refine FW.lend (hK4 _ _ ?_); clear hK4 K'
  refine wp_ret ?_
  (repeat first | refine FW.then_ret ?_ | refine FW.block_ret ?_)
  obtain rfl := Option.some.inj h
  exact FW.fret1 hk rfl rfl
end Go.Proofs.Ytimaibcaehagjaa

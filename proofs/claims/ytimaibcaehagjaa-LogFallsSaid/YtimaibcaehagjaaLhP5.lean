/- Written by a program of this session (gen.py): the contracts of functions of the program. -/
import Derived.KernelRfl
import Derived.Test.YtimaibcaehagjaaProg
import Derived.Test.YtimaibcaehagjaaAvFun
import Derived.Test.YtimaibcaehagjaaAvMan
import Derived.Test.YtimaibcaehagjaaAvMore
import Derived.Test.YtimaibcaehagjaaAvDraw2
import Derived.Test.YtimaibcaehagjaaAvRow
import Derived.Test.YtimaibcaehagjaaHn
import Derived.Test.YtimaibcaehagjaaHg
import Derived.Test.YtimaibcaehagjaaHar
import Derived.Test.YtimaibcaehagjaaHc
import Derived.Test.YtimaibcaehagjaaFx
import Derived.Test.YtimaibcaehagjaaDxP1
import Derived.Test.YtimaibcaehagjaaFy2
import Derived.Test.YtimaibcaehagjaaHl
import Derived.Test.YtimaibcaehagjaaHnl
import Derived.Test.YtimaibcaehagjaaLhD
import Derived.Test.YtimaibcaehagjaaLhP4
namespace Go.Proofs.Ytimaibcaehagjaa
set_option linter.unusedVariables false
set_option maxRecDepth 20000
set_option maxHeartbeats 10000000
theorem offshootlaw04_LogForged.ok (K : Nat) (v0 : List (List UInt8)) (v1 : Int) (v2 : Int) (r : Bool) (h : offshootlaw04_LogForged.f K v0 v1 v2 = some r) :
    FW.Ok Go.Proofs.Try.prog 14 [.row (r_c_str v0), .lit (.int .u64 v1), .lit (.int .i64 v2)] (.lit (.bool r)) := by
  refine FW.enter (xs := [.row (r_c_str v0), .lit (.int .u64 v1), .lit (.int .i64 v2)]) Go.Proofs.Try.func14 rfl Go.Proofs.Try.ntmps14 rfl ?_
  intro M w0 a hk
  unfold offshootlaw04_LogForged.f at h
  refine FW.wreg ?_; intro K' hK1
  refine FW.lfun (y := .lit (.bool false)) hk rfl rfl rfl rfl (FW.f_assign hk (FW.holds_nil _) rfl) ?_; clear hk; intro a w hk
  refine FW.lend (hK1 _ _ ?_); clear hK1 K'
  refine FW.wreg ?_; intro K' hK2
  obtain ⟨t1, hr_t1, h⟩ := FW.bnd h
  refine FW.l_callH (I1 := ([] : List FW.It)) (I2 := []) (js := []) hk rfl rfl rfl rfl rfl Go.Proofs.Try.func27 rfl (by kernel_rfl) (dev_New.ok K 40 _ hr_t1 ) ?_; clear hk
  rintro _ _ ⟨bx1, xdNt1_0_0, xcNt1_0_0, xrNt1_0_1, xdNt1_0_3, xcNt1_0_3, rfl, rfl⟩ a w hk
  refine FW.lfun (y := .tup [.lit (.pointer (some ⟨bx1, 0, none⟩)), .lit (.int .i64 t1.2)]) hk rfl rfl rfl rfl (FW.f_move hk (FW.holds_nil _) rfl) ?_; clear hk; intro a w hk
  refine FW.lfun (y := .lit (.pointer (some ⟨bx1, 0, none⟩))) hk rfl rfl rfl rfl (FW.f_extract hk (FW.holds_nil _) rfl rfl) ?_; clear hk; intro a w hk
  refine FW.lfun (y := .lit (.int .i64 t1.2)) hk rfl rfl rfl rfl (FW.f_extract hk (FW.holds_nil _) rfl rfl) ?_; clear hk; intro a w hk
  refine FW.lfun (y := .lit (.pointer (some ⟨bx1, 0, none⟩))) hk rfl rfl rfl rfl (FW.f_assign hk (FW.holds_nil _) rfl) ?_; clear hk; intro a w hk
  refine FW.lfun (y := .lit (.int .i64 t1.2)) hk rfl rfl rfl rfl (FW.f_assign hk (FW.holds_nil _) rfl) ?_; clear hk; intro a w hk
  refine FW.lend (hK2 _ _ ?_); clear hK2 K'
  refine FW.wreg ?_; intro K' hK3
  refine FW.lfun (y := .lit (.pointer (some ⟨bx1, 0, none⟩))) hk rfl rfl rfl rfl (FW.f_move hk (FW.holds_nil _) rfl) ?_; clear hk; intro a w hk
  obtain ⟨t2, hr_t2, h⟩ := FW.bnd h
  refine FW.l_callH (I1 := (ODevDev.items bx1 xdNt1_0_0 xcNt1_0_0 xrNt1_0_1 xdNt1_0_3 xcNt1_0_3 t1.1)) (I2 := []) (js := [3, 3, 3, 3]) hk rfl rfl rfl rfl rfl Go.Proofs.Try.func47 rfl (by kernel_rfl) (log_Open.ok K t1.1 0 40 1 _ hr_t2 bx1 xdNt1_0_0 xcNt1_0_0 xrNt1_0_1 xdNt1_0_3 xcNt1_0_3) ?_; clear hk
  rintro _ _ ⟨bx2, zd1, zc1, zr1, zd2, zc2, rfl, rfl⟩ a w hk
  refine FW.lfun (y := .tup [.lit (.pointer (some ⟨bx2, 0, none⟩)), .row (r_c_str t2.2.1), .lit (.int .i64 t2.2.2.1)]) hk rfl rfl rfl rfl (FW.f_move hk (FW.holds_nil _) rfl) ?_; clear hk; intro a w hk
  refine FW.lfun (y := .lit (.pointer (some ⟨bx2, 0, none⟩))) hk rfl rfl rfl rfl (FW.f_extract hk (FW.holds_nil _) rfl rfl) ?_; clear hk; intro a w hk
  refine FW.lfun (y := .row (r_c_str t2.2.1)) hk rfl rfl rfl rfl (FW.f_extract hk (FW.holds_nil _) rfl rfl) ?_; clear hk; intro a w hk
  refine FW.lfun (y := .lit (.int .i64 t2.2.2.1)) hk rfl rfl rfl rfl (FW.f_extract hk (FW.holds_nil _) rfl rfl) ?_; clear hk; intro a w hk
  refine FW.lfun (y := .lit (.pointer (some ⟨bx2, 0, none⟩))) hk rfl rfl rfl rfl (FW.f_assign hk (FW.holds_nil _) rfl) ?_; clear hk; intro a w hk
  refine FW.lfun (y := .row (r_c_str t2.2.1)) hk rfl rfl rfl rfl (FW.f_assign hk (FW.holds_nil _) rfl) ?_; clear hk; intro a w hk
  refine FW.lfun (y := .lit (.int .i64 t2.2.2.1)) hk rfl rfl rfl rfl (FW.f_assign hk (FW.holds_nil _) rfl) ?_; clear hk; intro a w hk
  refine FW.lend (hK3 _ _ ?_); clear hK3 K'
  refine FW.wseq ?_; intro K' hK4
  refine FW.wreg ?_; intro K' hK5
  obtain ⟨t3, hr_t3, h⟩ := FW.bnd h
  refine FW.lfun (y := .lit (.bool t3)) hk rfl rfl rfl rfl (FW.f_call hk (FW.holds_nil _) rfl rfl Go.Proofs.Try.func44 rfl (by kernel_rfl) (offshootlaw04_awake.ok K  _ hr_t3)) ?_; clear hk; intro a w hk
  refine FW.lfun (y := .lit (.bool (!t3))) hk rfl rfl rfl rfl ((FW.f_pure (FW.p_not hk.kn (FW.holds_nil _) rfl))) ?_; clear hk; intro a w hk
  refine FW.lfun (y := .lit (.bool (!t3))) hk rfl rfl rfl rfl (FW.f_move hk (FW.holds_nil _) rfl) ?_; clear hk; intro a w hk
  refine FW.lfunG (y := .lit (.int .i64 t1.2)) hk rfl rfl rfl rfl rfl rfl rfl rfl (fun hc => FW.f_move hk hc rfl) ?_; clear hk; intro a w hk
  refine FW.lfunG (y := .lit (.bool (!decide (t1.2 = 0)))) hk rfl rfl rfl rfl rfl rfl rfl rfl (fun hc => (FW.f_pure (FW.p_neq hk.kn hc rfl rfl))) ?_; clear hk; intro a w hk
  refine FW.lfun (y := .lit (.bool ((!t3) || (!decide (t1.2 = 0))))) hk rfl rfl rfl rfl ((FW.f_pure (FW.p_pick_or hk.kn (FW.holds_nil _) rfl rfl))) ?_; clear hk; intro a w hk
  refine FW.lfun (y := .lit (.bool ((!t3) || (!decide (t1.2 = 0))))) hk rfl rfl rfl rfl (FW.f_move hk (FW.holds_nil _) rfl) ?_; clear hk; intro a w hk
  refine FW.lfunG (y := .lit (.int .i64 t2.2.2.1)) hk rfl rfl rfl rfl rfl rfl rfl rfl (fun hc => FW.f_move hk hc rfl) ?_; clear hk; intro a w hk
  refine FW.lfunG (y := .lit (.bool (!decide (t2.2.2.1 = 0)))) hk rfl rfl rfl rfl rfl rfl rfl rfl (fun hc => (FW.f_pure (FW.p_neq hk.kn hc rfl rfl))) ?_; clear hk; intro a w hk
  refine FW.lfun (y := .lit (.bool (((!t3) || (!decide (t1.2 = 0))) || (!decide (t2.2.2.1 = 0))))) hk rfl rfl rfl rfl ((FW.f_pure (FW.p_pick_or hk.kn (FW.holds_nil _) rfl rfl))) ?_; clear hk; intro a w hk
  refine FW.lend (hK5 _ _ ?_); clear hK5 K'
  refine FW.wcondF (b := (((!t3) || (!decide (t1.2 = 0))) || (!decide (t2.2.2.1 = 0)))) hk h rfl (fun h hb => ?_) (fun h hb => ?_)
  · skip
    refine FW.wreg ?_; intro K' hK6
    refine FW.lfun (y := .lit (.bool false)) hk rfl rfl rfl rfl (FW.f_assign hk (FW.holds_nil _) rfl) ?_; clear hk; intro a w hk
    refine FW.lend (hK6 _ _ ?_); clear hK6 K'
    refine wp_ret ?_
    (repeat first | refine FW.then_ret ?_ | refine FW.block_ret ?_)
    obtain rfl := Option.some.inj h
    exact FW.fret1 hk rfl rfl
  · skip
    refine wp_skip ?_
    (repeat first | refine FW.then_normal ?_ | refine FW.block_normal ?_); refine hK4 _ _ ?_
    refine FW.wreg ?_; intro K' hK7
    refine FW.lfun (y := .lit (.string (FW.B ([] : List UInt8)))) hk rfl rfl rfl rfl (FW.f_assign hk (FW.holds_nil _) rfl) ?_; clear hk; intro a w hk
    refine FW.lend (hK7 _ _ ?_); clear hK7 K'
    refine FW.wseq ?_; intro K' hK8
    refine FW.wreg ?_; intro K' hK9
    refine FW.lfun (y := .lit (.int .i64 0)) hk rfl rfl rfl rfl (FW.f_assign hk (FW.holds_nil _) rfl) ?_; clear hk; intro a w hk
    refine FW.lend (hK9 _ _ ?_); clear hK9 K'
    refine wp_block ?_
    refine FW.wloop (T := Nat × Int × Int × Int × Int × Int × Bool × List (List UInt8) × (List (Int × (List UInt8))) × List ApiFall × List (List UInt8) × Int × Int × List UInt8 × Int × Option Addr × Nat × Nat × Option Addr × Nat) (fun x a w => match x with | (kl1, y5_1, y5_2, y5_3, y5_4, y1_2, y1_4, l2, m3, l4, v0, v1, v2, v12, v13, xd2, xc2, xr3, xd4, xc4) => FW.S M w0 a w 158 [FW.blk bx2 127 ([.lit (.pointer (some ⟨bx1, 0, none⟩)), .lit (.int .i64 y5_1), .lit (.int .i64 y5_2), .lit (.int .i64 y5_3), .lit (.int .u64 y5_4)]), FW.blk bx1 109 ([.lit (.slice xd2 (List.length l2) xc2), .lit (.map (some xr3)), .lit (.int .i64 y1_2), .lit (.slice xd4 (List.length l4) xc4), .lit (.bool y1_4)]), FW.orow xd2 xc2 9 1 c_str l2, FW.mapI (.int .i64) (Value.int .i64) FW.evS xr3 m3, FW.orow xd4 xc4 45 3 ApiFall.cells l4] [(0, [], .row (r_c_str v0)), (1, [], .lit (.int .u64 v1)), (2, [], .lit (.int .i64 v2)), (7, [], .lit (.pointer (some ⟨bx1, 0, none⟩))), (9, [], .lit (.pointer (some ⟨bx2, 0, none⟩))), (12, [], .lit (.string (FW.B v12))), (13, [], .lit (.int .i64 v13))] ∧ offshootlaw04_LogForged.l1 K kl1 y5_1 y5_2 y5_3 y5_4 y1_2 y1_4 l2 m3 l4 v0 v1 v2 v12 v13 = some r) (fun x => x.1) (K, t2.1.from_, t2.1.to_, t2.1.at_, t2.1.next, t2.2.2.2.steps, t2.2.2.2.off, t2.2.2.2.sure, t2.2.2.2.cache, t2.2.2.2.falls, v0, v1, v2, ([] : List UInt8), 0, zd1, zc1, zr1, zd2, zc2) ⟨hk.sub ⟨rfl, rfl, rfl, rfl, rfl, rfl, rfl, trivial⟩, h⟩ ?_
    clear hk h
    rintro ⟨kl1, y5_1, y5_2, y5_3, y5_4, y1_2, y1_4, l2, m3, l4, v0, v1, v2, v12, v13, xd2, xc2, xr3, xd4, xc4⟩ a w ⟨hk, h⟩ K' hK10
    cases kl1 with
    | zero => simp [offshootlaw04_LogForged.l1] at h
    | succ kl1 =>
    rw [offshootlaw04_LogForged.l1.eq_2] at h
    refine FW.wseq ?_; intro K' hK11
    refine FW.wreg ?_; intro K' hK12
    refine FW.lfun (y := .lit (.int .i64 v13)) hk rfl rfl rfl rfl (FW.f_move hk (FW.holds_nil _) rfl) ?_; clear hk; intro a w hk
    refine FW.lfun (y := .row (r_c_str v0)) hk rfl rfl rfl rfl (FW.f_move hk (FW.holds_nil _) rfl) ?_; clear hk; intro a w hk
    refine FW.lfun (y := .lit (.int .i64 (List.length v0 : Int))) hk rfl rfl rfl rfl (FW.f_len (R := r_c_str) (f := c_str) (l := v0) r_c_str_eq Go.Proofs.Try.underlying61 hk (FW.holds_nil _) rfl) ?_; clear hk; intro a w hk
    refine FW.lfun (y := .lit (.bool (decide (v13 < (List.length v0 : Int))))) hk rfl rfl rfl rfl ((FW.f_pure (FW.p_lss hk.kn (FW.holds_nil _) rfl rfl))) ?_; clear hk; intro a w hk
    refine FW.lfun (y := .lit (.bool (decide (v13 < (List.length v0 : Int))))) hk rfl rfl rfl rfl (FW.f_move hk (FW.holds_nil _) rfl) ?_; clear hk; intro a w hk
    refine FW.lfunG (y := .lit (.int .i64 v13)) hk rfl rfl rfl rfl rfl rfl rfl rfl (fun hc => FW.f_move hk hc rfl) ?_; clear hk; intro a w hk
    refine FW.lfunG (y := .lit (.bool (decide (v13 < 3)))) hk rfl rfl rfl rfl rfl rfl rfl rfl (fun hc => (FW.f_pure (FW.p_lss hk.kn hc rfl rfl))) ?_; clear hk; intro a w hk
    refine FW.lfun (y := .lit (.bool ((decide (v13 < (List.length v0 : Int))) && (decide (v13 < 3))))) hk rfl rfl rfl rfl ((FW.f_pure (FW.p_pick_and hk.kn (FW.holds_nil _) rfl rfl))) ?_; clear hk; intro a w hk
    refine FW.lend (hK12 _ _ ?_); clear hK12 K'
    refine FW.wcondF (b := ((decide (v13 < (List.length v0 : Int))) && (decide (v13 < 3)))) hk h rfl (fun h hb => ?_) (fun h hb => ?_)
    · skip
      refine wp_skip ?_
      (repeat first | refine FW.then_normal ?_ | refine FW.block_normal ?_); refine hK11 _ _ ?_
      refine FW.wseq ?_; intro K' hK13
      refine wp_block ?_
      refine FW.wreg ?_; intro K' hK14
      refine FW.lfun (y := .lit (.int .u64 v1)) hk rfl rfl rfl rfl (FW.f_move hk (FW.holds_nil _) rfl) ?_; clear hk; intro a w hk
      refine FW.lfun (y := .lit (.int .u64 (FW.andI .u64 v1 7))) hk rfl rfl rfl rfl ((FW.f_pure (FW.p_and hk.kn (FW.holds_nil _) rfl rfl))) ?_; clear hk; intro a w hk
      refine FW.lfun (y := .lit (.int .i64 v13)) hk rfl rfl rfl rfl (FW.f_move hk (FW.holds_nil _) rfl) ?_; clear hk; intro a w hk
      refine FW.lfun (y := .lit (.int .u64 (IntKind.wrap .u64 v13))) hk rfl rfl rfl rfl ((FW.f_pure (FW.p_conv Go.Proofs.Try.underlying3 Go.Proofs.Try.underlying29 hk.kn (FW.holds_nil _) rfl))) ?_; clear hk; intro a w hk
      refine FW.lfun (y := .lit (.int .u64 (IntKind.wrap .u64 ((FW.andI .u64 v1 7) + (IntKind.wrap .u64 v13))))) hk rfl rfl rfl rfl ((FW.f_pure (FW.p_add hk.kn (FW.holds_nil _) rfl rfl))) ?_; clear hk; intro a w hk
      refine FW.lfun (y := .lit (.int .u64 (IntKind.wrap .u64 ((FW.andI .u64 v1 7) + (IntKind.wrap .u64 v13))))) hk rfl rfl rfl rfl (FW.f_assign hk (FW.holds_nil _) rfl) ?_; clear hk; intro a w hk
      refine FW.lend (hK14 _ _ ?_); clear hK14 K'
      refine FW.wreg ?_; intro K' hK15
      refine FW.lfun (y := .lit (.int .u64 (IntKind.wrap .u64 ((FW.andI .u64 v1 7) + (IntKind.wrap .u64 v13))))) hk rfl rfl rfl rfl (FW.f_move hk (FW.holds_nil _) rfl) ?_; clear hk; intro a w hk
      refine FW.lfun (y := .row (r_c_str v0)) hk rfl rfl rfl rfl (FW.f_move hk (FW.holds_nil _) rfl) ?_; clear hk; intro a w hk
      refine FW.lfun (y := .lit (.int .i64 v13)) hk rfl rfl rfl rfl (FW.f_move hk (FW.holds_nil _) rfl) ?_; clear hk; intro a w hk
      obtain ⟨hc1, h⟩ := FW.chk h
      refine FW.lfun (y := .ref (c_str (List.getD v0 (Int.toNat v13) default))) hk rfl rfl rfl rfl (FW.f_indexAddr (R := r_c_str) (f := c_str) (l := v0) (sz := 1) r_c_str_eq (fun _ => rfl) hk (FW.holds_nil _) rfl rfl Go.Proofs.Try.underlying61 (by kernel_rfl) hc1) ?_; clear hk; intro a w hk
      refine FW.lfun (y := .lit (.string (FW.B (List.getD v0 (Int.toNat v13) default)))) hk rfl rfl rfl rfl (FW.f_load1 hk (FW.holds_nil _) rfl rfl Go.Proofs.Try.underlying9 rfl) ?_; clear hk; intro a w hk
      obtain ⟨t4, hr_t4, h⟩ := FW.bnd h
      refine FW.lfun (y := .lit (.string (FW.B t4))) hk rfl rfl rfl rfl (FW.f_call hk (FW.holds_nil _) rfl rfl Go.Proofs.Try.func49 rfl (by kernel_rfl) (offshootlaw04_few.ok (List.getD v0 (Int.toNat v13) default) _ hr_t4)) ?_; clear hk; intro a w hk
      obtain ⟨t5, hr_t5, h⟩ := FW.bnd h
      refine FW.lfun (y := .row (r_c_str t5)) hk rfl rfl rfl rfl (FW.f_call hk (FW.holds_nil _) rfl rfl Go.Proofs.Try.func51 rfl (by kernel_rfl) (offshootref04_Laid.ok K (IntKind.wrap .u64 ((FW.andI .u64 v1 7) + (IntKind.wrap .u64 v13))) t4 _ hr_t5)) ?_; clear hk; intro a w hk
      refine FW.lfun (y := .row (r_c_str t5)) hk rfl rfl rfl rfl (FW.f_assign hk (FW.holds_nil _) rfl) ?_; clear hk; intro a w hk
      refine FW.lend (hK15 _ _ ?_); clear hK15 K'
      obtain ⟨hc2, h⟩ := FW.chk h
      obtain ⟨hc3, h⟩ := FW.chk h
      obtain ⟨hc4, h⟩ := FW.chk h
      obtain ⟨t6, hr_t6, h⟩ := FW.bnd h
      obtain ⟨hc5, h⟩ := FW.chk h
      obtain ⟨hc6, h⟩ := FW.chk h
      obtain ⟨hc7, h⟩ := FW.chk h
      refine FW.wdrawE1 (.next [true, false, false, true, true, true, false, true, true, true, true, true, false, false, false] 1 [true, false, false, true, true, true, false, true, true, true, true, true, false, false, false] (.leaf [true, false, true, true, true, true, true, true, true, true, true, true, true, true, true])) [(65, [], .lit (.string (FW.B v12))), (66, [], .agg []), (67, [], .agg []), (68, [], .row (r_c_str t5)), (69, [], .ref (c_str (List.getD t5 (Int.toNat 0) default))), (70, [], .lit (.string (FW.B (List.getD t5 (Int.toNat 0) default)))), (71, [], .agg []), (72, [], .lit (.int .u64 (IntKind.wrap .u64 ((FW.andI .u64 v1 7) + (IntKind.wrap .u64 v13))))), (73, [], .lit (.int .u64 (IntKind.wrap .u64 ((IntKind.wrap .u64 ((FW.andI .u64 v1 7) + (IntKind.wrap .u64 v13))) + 1)))), (74, [], .row (r_c_str t6)), (75, [], .ref (c_str (List.getD t6 (Int.toNat 0) default))), (76, [], .lit (.string (FW.B (List.getD t6 (Int.toNat 0) default)))), (77, [], .agg []), (78, [], .agg []), (12, [], .agg [])] (by kernel_rfl) (by kernel_rfl) (by kernel_rfl) (by kernel_rfl) hk ?_; clear hk
      refine FW.gnext ?_ rfl rfl rfl rfl rfl ?_
      · skip
        refine FW.gfun (y := .lit (.string (FW.B v12))) rfl rfl rfl rfl (fun a w hk => FW.f_move hk (FW.holds_nil _) rfl) ?_
        refine FW.gskip rfl rfl ?_
        refine FW.gskip rfl rfl ?_
        refine FW.gfun (y := .row (r_c_str t5)) rfl rfl rfl rfl (fun a w hk => FW.f_move hk (FW.holds_nil _) rfl) ?_
        refine FW.gfun (y := .ref (c_str (List.getD t5 (Int.toNat 0) default))) rfl rfl rfl rfl (fun a w hk => FW.f_indexAddr (R := r_c_str) (f := c_str) (l := t5) (sz := 1) r_c_str_eq (fun _ => rfl) hk (FW.holds_nil _) rfl rfl Go.Proofs.Try.underlying61 (by kernel_rfl) hc3) ?_
        refine FW.gfun (y := .lit (.string (FW.B (List.getD t5 (Int.toNat 0) default)))) rfl rfl rfl rfl (fun a w hk => FW.f_load1 hk (FW.holds_nil _) rfl rfl Go.Proofs.Try.underlying9 rfl) ?_
        refine FW.gskip rfl rfl ?_
        refine FW.gfun (y := .lit (.int .u64 (IntKind.wrap .u64 ((FW.andI .u64 v1 7) + (IntKind.wrap .u64 v13))))) rfl rfl rfl rfl (fun a w hk => FW.f_move hk (FW.holds_nil _) rfl) ?_
        refine FW.gfun (y := .lit (.int .u64 (IntKind.wrap .u64 ((IntKind.wrap .u64 ((FW.andI .u64 v1 7) + (IntKind.wrap .u64 v13))) + 1)))) rfl rfl rfl rfl (fun a w hk => (FW.f_pure (FW.p_add hk.kn (FW.holds_nil _) rfl rfl))) ?_
        refine FW.gfun (y := .row (r_c_str t6)) rfl rfl rfl rfl (fun a w hk => FW.f_call hk (FW.holds_nil _) rfl rfl Go.Proofs.Try.func51 rfl (by kernel_rfl) (offshootref04_Laid.ok K (IntKind.wrap .u64 ((IntKind.wrap .u64 ((FW.andI .u64 v1 7) + (IntKind.wrap .u64 v13))) + 1)) ([102, 111, 114, 103, 101, 100] : List UInt8) _ hr_t6)) ?_
        refine FW.gfun (y := .ref (c_str (List.getD t6 (Int.toNat 0) default))) rfl rfl rfl rfl (fun a w hk => FW.f_indexAddr (R := r_c_str) (f := c_str) (l := t6) (sz := 1) r_c_str_eq (fun _ => rfl) hk (FW.holds_nil _) rfl rfl Go.Proofs.Try.underlying61 (by kernel_rfl) hc5) ?_
        refine FW.gfun (y := .lit (.string (FW.B (List.getD t6 (Int.toNat 0) default)))) rfl rfl rfl rfl (fun a w hk => FW.f_load1 hk (FW.holds_nil _) rfl rfl Go.Proofs.Try.underlying9 rfl) ?_
        refine FW.gskip rfl rfl ?_
        refine FW.gskip rfl rfl ?_
        refine FW.gskip rfl rfl ?_
        exact FW.gend
      · skip
        intro σD a w opsD QD hk hf hQ hX
        refine FW.l_makeSlice (f := c_u8) (z := (0 : Int)) (fun _ => rfl) hk rfl hf rfl rfl Go.Proofs.Try.underlying92 (by kernel_rfl) rfl rfl (by kernel_rfl) hc2 ?_; clear hk; intro bx3 a w hk
        refine hQ _ _ a w ?_ hk; clear hk hQ hf hX
        refine ⟨[(65, [], .lit (.string (FW.B v12))), (66, [], .lit (.slice (some ⟨bx3, 0, none⟩) (List.length (List.replicate (Int.toNat 104) (0 : Int))) (Int.toNat 104))), (67, [], .lit (.string (FW.B (FW.toB (List.replicate (Int.toNat 104) (0 : Int)))))), (68, [], .row (r_c_str t5)), (69, [], .ref (c_str (List.getD t5 (Int.toNat 0) default))), (70, [], .lit (.string (FW.B (List.getD t5 (Int.toNat 0) default)))), (71, [], .lit (.string (FW.B ((FW.toB (List.replicate (Int.toNat 104) (0 : Int))) ++ (List.getD t5 (Int.toNat 0) default))))), (72, [], .lit (.int .u64 (IntKind.wrap .u64 ((FW.andI .u64 v1 7) + (IntKind.wrap .u64 v13))))), (73, [], .lit (.int .u64 (IntKind.wrap .u64 ((IntKind.wrap .u64 ((FW.andI .u64 v1 7) + (IntKind.wrap .u64 v13))) + 1)))), (74, [], .row (r_c_str t6)), (75, [], .ref (c_str (List.getD t6 (Int.toNat 0) default))), (76, [], .lit (.string (FW.B (List.getD t6 (Int.toNat 0) default)))), (77, [], .lit (.string (FW.B (((FW.toB (List.replicate (Int.toNat 104) (0 : Int))) ++ (List.getD t5 (Int.toNat 0) default)) ++ (List.getD t6 (Int.toNat 0) default))))), (78, [], .lit (.string (FW.B (v12 ++ (((FW.toB (List.replicate (Int.toNat 104) (0 : Int))) ++ (List.getD t5 (Int.toNat 0) default)) ++ (List.getD t6 (Int.toNat 0) default)))))), (12, [], .lit (.string (FW.B (v12 ++ (((FW.toB (List.replicate (Int.toNat 104) (0 : Int))) ++ (List.getD t5 (Int.toNat 0) default)) ++ (List.getD t6 (Int.toNat 0) default))))))], And.intro rfl (And.intro rfl (And.intro rfl (And.intro rfl (And.intro rfl (And.intro rfl (And.intro rfl (And.intro rfl (And.intro rfl (trivial))))))))), rfl, ?_⟩
        refine FW.glast ?_ ?_
        · skip
          refine FW.gfun (y := .lit (.string (FW.B v12))) rfl rfl rfl rfl (fun a w hk => FW.f_move hk (FW.holds_nil _) rfl) ?_
          refine FW.gskip rfl rfl ?_
          refine FW.gfun (y := .lit (.string (FW.B (FW.toB (List.replicate (Int.toNat 104) (0 : Int)))))) rfl rfl rfl rfl (fun a w hk => FW.f_toBown (f := c_u8) rfl hk (FW.holds_nil _) (j := 0) rfl rfl Go.Proofs.Try.underlying92 Go.Proofs.Try.underlying5 Go.Proofs.Try.underlying9) ?_
          refine FW.gfun (y := .row (r_c_str t5)) rfl rfl rfl rfl (fun a w hk => FW.f_move hk (FW.holds_nil _) rfl) ?_
          refine FW.gfun (y := .ref (c_str (List.getD t5 (Int.toNat 0) default))) rfl rfl rfl rfl (fun a w hk => FW.f_indexAddr (R := r_c_str) (f := c_str) (l := t5) (sz := 1) r_c_str_eq (fun _ => rfl) hk (FW.holds_nil _) rfl rfl Go.Proofs.Try.underlying61 (by kernel_rfl) hc3) ?_
          refine FW.gfun (y := .lit (.string (FW.B (List.getD t5 (Int.toNat 0) default)))) rfl rfl rfl rfl (fun a w hk => FW.f_load1 hk (FW.holds_nil _) rfl rfl Go.Proofs.Try.underlying9 rfl) ?_
          refine FW.gfun (y := .lit (.string (FW.B ((FW.toB (List.replicate (Int.toNat 104) (0 : Int))) ++ (List.getD t5 (Int.toNat 0) default))))) rfl rfl rfl rfl (fun a w hk => (FW.f_pure (FW.p_sadd hk.kn (FW.holds_nil _) rfl rfl hc4))) ?_
          refine FW.gfun (y := .lit (.int .u64 (IntKind.wrap .u64 ((FW.andI .u64 v1 7) + (IntKind.wrap .u64 v13))))) rfl rfl rfl rfl (fun a w hk => FW.f_move hk (FW.holds_nil _) rfl) ?_
          refine FW.gfun (y := .lit (.int .u64 (IntKind.wrap .u64 ((IntKind.wrap .u64 ((FW.andI .u64 v1 7) + (IntKind.wrap .u64 v13))) + 1)))) rfl rfl rfl rfl (fun a w hk => (FW.f_pure (FW.p_add hk.kn (FW.holds_nil _) rfl rfl))) ?_
          refine FW.gfun (y := .row (r_c_str t6)) rfl rfl rfl rfl (fun a w hk => FW.f_call hk (FW.holds_nil _) rfl rfl Go.Proofs.Try.func51 rfl (by kernel_rfl) (offshootref04_Laid.ok K (IntKind.wrap .u64 ((IntKind.wrap .u64 ((FW.andI .u64 v1 7) + (IntKind.wrap .u64 v13))) + 1)) ([102, 111, 114, 103, 101, 100] : List UInt8) _ hr_t6)) ?_
          refine FW.gfun (y := .ref (c_str (List.getD t6 (Int.toNat 0) default))) rfl rfl rfl rfl (fun a w hk => FW.f_indexAddr (R := r_c_str) (f := c_str) (l := t6) (sz := 1) r_c_str_eq (fun _ => rfl) hk (FW.holds_nil _) rfl rfl Go.Proofs.Try.underlying61 (by kernel_rfl) hc5) ?_
          refine FW.gfun (y := .lit (.string (FW.B (List.getD t6 (Int.toNat 0) default)))) rfl rfl rfl rfl (fun a w hk => FW.f_load1 hk (FW.holds_nil _) rfl rfl Go.Proofs.Try.underlying9 rfl) ?_
          refine FW.gfun (y := .lit (.string (FW.B (((FW.toB (List.replicate (Int.toNat 104) (0 : Int))) ++ (List.getD t5 (Int.toNat 0) default)) ++ (List.getD t6 (Int.toNat 0) default))))) rfl rfl rfl rfl (fun a w hk => (FW.f_pure (FW.p_sadd hk.kn (FW.holds_nil _) rfl rfl hc6))) ?_
          refine FW.gfun (y := .lit (.string (FW.B (v12 ++ (((FW.toB (List.replicate (Int.toNat 104) (0 : Int))) ++ (List.getD t5 (Int.toNat 0) default)) ++ (List.getD t6 (Int.toNat 0) default)))))) rfl rfl rfl rfl (fun a w hk => (FW.f_pure (FW.p_sadd hk.kn (FW.holds_nil _) rfl rfl hc7))) ?_
          refine FW.gfun (y := .lit (.string (FW.B (v12 ++ (((FW.toB (List.replicate (Int.toNat 104) (0 : Int))) ++ (List.getD t5 (Int.toNat 0) default)) ++ (List.getD t6 (Int.toNat 0) default)))))) rfl rfl rfl rfl (fun a w hk => FW.f_assign hk (FW.holds_nil _) rfl) ?_
          exact FW.gend
        · skip
          intro a w hk; simp only [FW.stD, cond_true] at hk
          (repeat first | refine FW.then_normal ?_ | refine FW.block_normal ?_); refine hK13 _ _ ?_
          refine FW.wreg1 ?_
          refine FW.lfun (y := .lit (.int .i64 v13)) hk rfl rfl rfl rfl (FW.f_move hk (FW.holds_nil _) rfl) ?_; clear hk; intro a w hk
          refine FW.lfun (y := .lit (.int .i64 (IntKind.wrap .i64 (v13 + 1)))) hk rfl rfl rfl rfl ((FW.f_pure (FW.p_add hk.kn (FW.holds_nil _) rfl rfl))) ?_; clear hk; intro a w hk
          refine FW.lfun (y := .lit (.int .i64 (IntKind.wrap .i64 (v13 + 1)))) hk rfl rfl rfl rfl (FW.f_assign hk (FW.holds_nil _) rfl) ?_; clear hk; intro a w hk
          refine wpList_nil ?_
          (repeat first | refine FW.then_normal ?_ | refine FW.block_normal ?_); exact hK10 (kl1, y5_1, y5_2, y5_3, y5_4, y1_2, y1_4, l2, m3, l4, v0, v1, v2, (v12 ++ (((FW.toB (List.replicate (Int.toNat 104) (0 : Int))) ++ (List.getD t5 (Int.toNat 0) default)) ++ (List.getD t6 (Int.toNat 0) default))), (IntKind.wrap .i64 (v13 + 1)), xd2, xc2, xr3, xd4, xc4) _ _ (Nat.lt_succ_self _) ⟨(hk.drop 0).sub ⟨rfl, rfl, rfl, rfl, rfl, rfl, rfl, trivial⟩, h⟩
    · skip
      refine wp_exit ?_; (repeat first | refine FW.then_exit ?_ | refine FW.block_exit_ne rfl ?_); refine FW.block_exit ?_
      (repeat first | refine FW.then_normal ?_ | refine FW.block_normal ?_); refine hK8 _ _ ?_
      refine FW.wreg ?_; intro K' hK18
      refine FW.lfun (y := .lit (.pointer (some ⟨bx2, 0, none⟩))) hk rfl rfl rfl rfl (FW.f_move hk (FW.holds_nil _) rfl) ?_; clear hk; intro a w hk
      refine FW.lfun (y := .lit (.string (FW.B v12))) hk rfl rfl rfl rfl (FW.f_move hk (FW.holds_nil _) rfl) ?_; clear hk; intro a w hk
      obtain ⟨t7, hr_t7, h⟩ := FW.bnd h
      refine FW.l_callH (I1 := (OLogLog.items bx2 bx1 (⟨y5_1, y5_2, y5_3, y5_4⟩ : OLogLog)) ++ (ODevDev.items bx1 xd2 xc2 xr3 xd4 xc4 (⟨l2, m3, y1_2, l4, y1_4⟩ : ODevDev))) (I2 := []) (js := [4, 4, 4, 4, 4]) hk rfl rfl rfl rfl rfl Go.Proofs.Try.func50 rfl (by kernel_rfl) (log_Log_Add.ok K (⟨y5_1, y5_2, y5_3, y5_4⟩ : OLogLog) (⟨l2, m3, y1_2, l4, y1_4⟩ : ODevDev) v12 _ hr_t7 bx2 bx1 xd2 xc2 xr3 xd4 xc4) ?_; clear hk
      rintro _ _ ⟨zd3, zc3, zr2, zd4, zc4, rfl, rfl⟩ a w hk
      refine FW.lfun (y := .lit (.int .i64 t7.1)) hk rfl rfl rfl rfl (FW.f_assign hk (FW.holds_nil _) rfl) ?_; clear hk; intro a w hk
      refine FW.lend (hK18 _ _ ?_); clear hK18 K'
      refine FW.wreg ?_; intro K' hK19
      refine FW.lfun (y := .lit (.pointer (some ⟨bx2, 0, none⟩))) hk rfl rfl rfl rfl (FW.f_move hk (FW.holds_nil _) rfl) ?_; clear hk; intro a w hk
      obtain ⟨t8, hr_t8, h⟩ := FW.bnd h
      refine FW.l_callH (I1 := (OLogLog.items bx2 bx1 t7.2.1) ++ (ODevDev.items bx1 zd3 zc3 zr2 zd4 zc4 t7.2.2)) (I2 := []) (js := [4, 4, 4, 4, 4]) hk rfl rfl rfl rfl rfl Go.Proofs.Try.func48 rfl (by kernel_rfl) (log_Log_Reset.ok t7.2.1 t7.2.2 _ hr_t8 bx2 bx1 zd3 zc3 zr2 zd4 zc4) ?_; clear hk
      rintro _ _ ⟨zd5, zc5, zr3, zd6, zc6, rfl, rfl⟩ a w hk
      refine FW.lend (hK19 _ _ ?_); clear hK19 K'
      refine FW.wreg ?_; intro K' hK20
      refine FW.lfun (y := .lit (.pointer (some ⟨bx2, 0, none⟩))) hk rfl rfl rfl rfl (FW.f_move hk (FW.holds_nil _) rfl) ?_; clear hk; intro a w hk
      obtain ⟨t9, hr_t9, h⟩ := FW.bnd h
      refine FW.l_callH (I1 := (OLogLog.items bx2 bx1 t8.1) ++ (ODevDev.items bx1 zd5 zc5 zr3 zd6 zc6 t8.2)) (I2 := []) (js := [4, 4, 4, 4, 4]) hk rfl rfl rfl rfl rfl Go.Proofs.Try.func50 rfl (by kernel_rfl) (log_Log_Add.ok K t8.1 t8.2 ([115, 104, 111, 114, 116] : List UInt8) _ hr_t9 bx2 bx1 zd5 zc5 zr3 zd6 zc6) ?_; clear hk
      rintro _ _ ⟨zd7, zc7, zr4, zd8, zc8, rfl, rfl⟩ a w hk
      refine FW.lfun (y := .lit (.int .i64 t9.1)) hk rfl rfl rfl rfl (FW.f_assign hk (FW.holds_nil _) rfl) ?_; clear hk; intro a w hk
      refine FW.lend (hK20 _ _ ?_); clear hK20 K'
      refine FW.wreg ?_; intro K' hK21
      refine FW.lfun (y := .lit (.pointer (some ⟨bx1, 0, none⟩))) hk rfl rfl rfl rfl (FW.f_move hk (FW.holds_nil _) rfl) ?_; clear hk; intro a w hk
      refine FW.lfun (y := .lit (.pointer (some ⟨bx1, 0, none⟩))) hk rfl rfl rfl rfl (FW.f_move hk (FW.holds_nil _) rfl) ?_; clear hk; intro a w hk
      obtain ⟨t10, hr_t10, h⟩ := FW.bnd h
      refine FW.l_callH (I1 := (ODevDev.items bx1 zd7 zc7 zr4 zd8 zc8 t9.2.2)) (I2 := [FW.blk bx2 127 ([.lit (.pointer (some ⟨bx1, 0, none⟩)), .lit (.int .i64 t9.2.1.from_), .lit (.int .i64 t9.2.1.to_), .lit (.int .i64 t9.2.1.at_), .lit (.int .u64 t9.2.1.next)])]) (js := [4, 4, 4, 4]) hk rfl rfl rfl rfl rfl Go.Proofs.Try.func43 rfl (by kernel_rfl) (dev_Dev_Steps.ok t9.2.2 _ hr_t10 bx1 zd7 zc7 zr4 zd8 zc8) ?_; clear hk
      rintro _ _ ⟨rfl, rfl⟩ a w hk
      refine FW.lfun (y := .lit (.int .i64 (IntKind.wrap .i64 (t10 + 3)))) hk rfl rfl rfl rfl ((FW.f_pure (FW.p_add hk.kn (FW.holds_nil _) rfl rfl))) ?_; clear hk; intro a w hk
      refine FW.lfun (y := .lit (.int .i64 v2)) hk rfl rfl rfl rfl (FW.f_move hk (FW.holds_nil _) rfl) ?_; clear hk; intro a w hk
      refine FW.lfun (y := .agg ((ApiFall.cells (⟨(IntKind.wrap .i64 (t10 + 3)), 0, v2⟩ : ApiFall)))) hk rfl rfl rfl rfl (FW.f_build hk (FW.holds_nil _) rfl rfl) ?_; clear hk; intro a w hk
      refine FW.l_buildSlice (f := ApiFall.cells) (l := ([(⟨(IntKind.wrap .i64 (t10 + 3)), 0, v2⟩ : ApiFall)] : List ApiFall)) hk rfl rfl rfl Go.Proofs.Try.underlying74 rfl rfl rfl rfl (fun _ => rfl) rfl ?_; clear hk; intro bx4 a w hk
      replace hk := (FW.S.freezeR (I' := [FW.blk bx1 109 ([.lit (.slice zd7 (List.length t9.2.2.sure) zc7), .lit (.map (some zr4)), .lit (.int .i64 t9.2.2.steps), .lit (.slice zd8 (List.length t9.2.2.falls) zc8), .lit (.bool t9.2.2.off)]), FW.orow zd7 zc7 9 1 c_str t9.2.2.sure, FW.mapI (.int .i64) (Value.int .i64) FW.evS zr4 t9.2.2.cache, FW.orow zd8 zc8 45 3 ApiFall.cells t9.2.2.falls, FW.blk bx2 127 ([.lit (.pointer (some ⟨bx1, 0, none⟩)), .lit (.int .i64 t9.2.1.from_), .lit (.int .i64 t9.2.1.to_), .lit (.int .i64 t9.2.1.at_), .lit (.int .u64 t9.2.1.next)])]) r_ApiFall_cells_eq hk (j := 0) rfl (t := 92) rfl rfl).squash
      obtain ⟨t11, hr_t11, h⟩ := FW.bnd h
      refine FW.l_callH (I1 := (ODevDev.items bx1 zd7 zc7 zr4 zd8 zc8 t9.2.2)) (I2 := [FW.blk bx2 127 ([.lit (.pointer (some ⟨bx1, 0, none⟩)), .lit (.int .i64 t9.2.1.from_), .lit (.int .i64 t9.2.1.to_), .lit (.int .i64 t9.2.1.at_), .lit (.int .u64 t9.2.1.next)])]) (js := [3, 3, 3, 3]) hk rfl rfl rfl rfl rfl Go.Proofs.Try.func39 rfl (by kernel_rfl) (dev_Dev_Plan.ok t9.2.2 ([(⟨(IntKind.wrap .i64 (t10 + 3)), 0, v2⟩ : ApiFall)] : List ApiFall) _ hr_t11 bx1 zd7 zc7 zr4 zd8 zc8) ?_; clear hk
      rintro _ _ ⟨zd9, zc9, zr5, zd10, zc10, rfl, rfl⟩ a w hk
      refine FW.lend (hK21 _ _ ?_); clear hK21 K'
      refine FW.wreg ?_; intro K' hK22
      refine FW.lfun (y := .lit (.pointer (some ⟨bx2, 0, none⟩))) hk rfl rfl rfl rfl (FW.f_move hk (FW.holds_nil _) rfl) ?_; clear hk; intro a w hk
      obtain ⟨t12, hr_t12, h⟩ := FW.bnd h
      refine FW.l_callH (I1 := (OLogLog.items bx2 bx1 t9.2.1) ++ (ODevDev.items bx1 zd9 zc9 zr5 zd10 zc10 t11)) (I2 := []) (js := [3, 3, 3, 3, 4]) hk rfl rfl rfl rfl rfl Go.Proofs.Try.func50 rfl (by kernel_rfl) (log_Log_Add.ok K t9.2.1 t11 ([108, 111, 115, 116] : List UInt8) _ hr_t12 bx2 bx1 zd9 zc9 zr5 zd10 zc10) ?_; clear hk
      rintro _ _ ⟨zd11, zc11, zr6, zd12, zc12, rfl, rfl⟩ a w hk
      refine FW.lfun (y := .lit (.int .i64 t12.1)) hk rfl rfl rfl rfl (FW.f_assign hk (FW.holds_nil _) rfl) ?_; clear hk; intro a w hk
      refine FW.lend (hK22 _ _ ?_); clear hK22 K'
      refine FW.wreg ?_; intro K' hK23
      refine FW.lfun (y := .lit (.pointer (some ⟨bx1, 0, none⟩))) hk rfl rfl rfl rfl (FW.f_move hk (FW.holds_nil _) rfl) ?_; clear hk; intro a w hk
      obtain ⟨t13, hr_t13, h⟩ := FW.bnd h
      refine FW.l_callH (I1 := (ODevDev.items bx1 zd11 zc11 zr6 zd12 zc12 t12.2.2)) (I2 := [FW.blk bx2 127 ([.lit (.pointer (some ⟨bx1, 0, none⟩)), .lit (.int .i64 t12.2.1.from_), .lit (.int .i64 t12.2.1.to_), .lit (.int .i64 t12.2.1.at_), .lit (.int .u64 t12.2.1.next)])]) (js := [4, 4, 4, 4]) hk rfl rfl rfl rfl rfl Go.Proofs.Try.func33 rfl (by kernel_rfl) (dev_Dev_Up.ok t12.2.2 _ hr_t13 bx1 zd11 zc11 zr6 zd12 zc12) ?_; clear hk
      rintro _ _ ⟨zd13, zc13, zr7, zd14, zc14, rfl, rfl⟩ a w hk
      refine FW.lend (hK23 _ _ ?_); clear hK23 K'
      refine FW.wreg ?_; intro K' hK24
      refine FW.lfun (y := .lit (.pointer (some ⟨bx1, 0, none⟩))) hk rfl rfl rfl rfl (FW.f_move hk (FW.holds_nil _) rfl) ?_; clear hk; intro a w hk
      obtain ⟨t14, hr_t14, h⟩ := FW.bnd h
      refine FW.l_callH (I1 := (ODevDev.items bx1 zd13 zc13 zr7 zd14 zc14 t13.2)) (I2 := [FW.blk bx2 127 ([.lit (.pointer (some ⟨bx1, 0, none⟩)), .lit (.int .i64 t12.2.1.from_), .lit (.int .i64 t12.2.1.to_), .lit (.int .i64 t12.2.1.at_), .lit (.int .u64 t12.2.1.next)])]) (js := [3, 3, 3, 3]) hk rfl rfl rfl rfl rfl Go.Proofs.Try.func47 rfl (by kernel_rfl) (log_Open.ok K t13.2 0 40 2 _ hr_t14 bx1 zd13 zc13 zr7 zd14 zc14) ?_; clear hk
      rintro _ _ ⟨bx5, zd15, zc15, zr8, zd16, zc16, rfl, rfl⟩ a w hk
      refine FW.lfun (y := .tup [.lit (.pointer (some ⟨bx5, 0, none⟩)), .row (r_c_str t14.2.1), .lit (.int .i64 t14.2.2.1)]) hk rfl rfl rfl rfl (FW.f_move hk (FW.holds_nil _) rfl) ?_; clear hk; intro a w hk
      refine FW.lfun (y := .lit (.pointer (some ⟨bx5, 0, none⟩))) hk rfl rfl rfl rfl (FW.f_extract hk (FW.holds_nil _) rfl rfl) ?_; clear hk; intro a w hk
      refine FW.lfun (y := .row (r_c_str t14.2.1)) hk rfl rfl rfl rfl (FW.f_extract hk (FW.holds_nil _) rfl rfl) ?_; clear hk; intro a w hk
      refine FW.lfun (y := .lit (.int .i64 t14.2.2.1)) hk rfl rfl rfl rfl (FW.f_extract hk (FW.holds_nil _) rfl rfl) ?_; clear hk; intro a w hk
      refine FW.lfun (y := .lit (.pointer (some ⟨bx5, 0, none⟩))) hk rfl rfl rfl rfl (FW.f_assign hk (FW.holds_nil _) rfl) ?_; clear hk; intro a w hk
      refine FW.lfun (y := .row (r_c_str t14.2.1)) hk rfl rfl rfl rfl (FW.f_assign hk (FW.holds_nil _) rfl) ?_; clear hk; intro a w hk
      refine FW.lfun (y := .lit (.int .i64 t14.2.2.1)) hk rfl rfl rfl rfl (FW.f_assign hk (FW.holds_nil _) rfl) ?_; clear hk; intro a w hk
      refine FW.lend (hK24 _ _ ?_); clear hK24 K'
      refine FW.wseq ?_; intro K' hK25
      refine FW.wreg ?_; intro K' hK26
      refine FW.lfun (y := .lit (.int .i64 t7.1)) hk rfl rfl rfl rfl (FW.f_move hk (FW.holds_nil _) rfl) ?_; clear hk; intro a w hk
      refine FW.lfun (y := .lit (.bool (decide (t7.1 = 40)))) hk rfl rfl rfl rfl ((FW.f_pure (FW.p_eql hk.kn (FW.holds_nil _) rfl rfl))) ?_; clear hk; intro a w hk
      refine FW.lend (hK26 _ _ ?_); clear hK26 K'
      refine FW.wcondF (b := (decide (t7.1 = 40))) hk h rfl (fun h hb => ?_) (fun h hb => ?_)
      · skip
        refine FW.wreg ?_; intro K' hK27
        refine FW.lfun (y := .lit (.bool true)) hk rfl rfl rfl rfl (FW.f_assign hk (FW.holds_nil _) rfl) ?_; clear hk; intro a w hk
        refine FW.lend (hK27 _ _ ?_); clear hK27 K'
        refine wp_ret ?_
        (repeat first | refine FW.then_ret ?_ | refine FW.block_ret ?_)
        obtain rfl := Option.some.inj h
        exact FW.fret1 hk rfl rfl
      · skip
        refine wp_skip ?_
        (repeat first | refine FW.then_normal ?_ | refine FW.block_normal ?_); refine hK25 _ _ ?_
        refine FW.wreg ?_; intro K' hK28
        refine FW.lfun (y := .row (r_c_str t14.2.1)) hk rfl rfl rfl rfl (FW.f_move hk (FW.holds_nil _) rfl) ?_; clear hk; intro a w hk
        refine FW.lfun (y := .lit (.int .i64 (List.length t14.2.1 : Int))) hk rfl rfl rfl rfl (FW.f_len (R := r_c_str) (f := c_str) (l := t14.2.1) r_c_str_eq Go.Proofs.Try.underlying61 hk (FW.holds_nil _) rfl) ?_; clear hk; intro a w hk
        refine FW.lfun (y := .lit (.bool (decide ((List.length t14.2.1 : Int) = 1)))) hk rfl rfl rfl rfl ((FW.f_pure (FW.p_eql hk.kn (FW.holds_nil _) rfl rfl))) ?_; clear hk; intro a w hk
        refine FW.lfun (y := .lit (.bool (decide ((List.length t14.2.1 : Int) = 1)))) hk rfl rfl rfl rfl (FW.f_move hk (FW.holds_nil _) rfl) ?_; clear hk; intro a w hk
        refine FW.lfunG (y := .row (r_c_str t14.2.1)) hk rfl rfl rfl rfl rfl rfl rfl rfl (fun hc => FW.f_move hk hc rfl) ?_; clear hk; intro a w hk
        obtain ⟨hc8, h⟩ := FW.chk h
        refine FW.lfunG (y := .ref (c_str (List.getD t14.2.1 (Int.toNat 0) default))) hk rfl rfl rfl rfl rfl rfl rfl rfl (fun hc => FW.f_indexAddr (R := r_c_str) (f := c_str) (l := t14.2.1) (sz := 1) r_c_str_eq (fun _ => rfl) hk hc rfl rfl Go.Proofs.Try.underlying61 (by kernel_rfl) hc8) ?_; clear hk; intro a w hk
        refine FW.lfunG (y := .lit (.string (FW.B (List.getD t14.2.1 (Int.toNat 0) default)))) hk rfl rfl rfl rfl rfl rfl rfl rfl (fun hc => FW.f_load1 hk hc rfl rfl Go.Proofs.Try.underlying9 rfl) ?_; clear hk; intro a w hk
        refine FW.lfunG (y := .lit (.bool (decide ((List.getD t14.2.1 (Int.toNat 0) default) = ([115, 104, 111, 114, 116] : List UInt8))))) hk rfl rfl rfl rfl rfl rfl rfl rfl (fun hc => (FW.f_pure (FW.p_seql hk.kn hc rfl rfl))) ?_; clear hk; intro a w hk
        refine FW.lfun (y := .lit (.bool ((decide ((List.length t14.2.1 : Int) = 1)) && (decide ((List.getD t14.2.1 (Int.toNat 0) default) = ([115, 104, 111, 114, 116] : List UInt8)))))) hk rfl rfl rfl rfl ((FW.f_pure (FW.p_pick_and hk.kn (FW.holds_nil _) rfl rfl))) ?_; clear hk; intro a w hk
        refine FW.lfun (y := .lit (.bool ((decide ((List.length t14.2.1 : Int) = 1)) && (decide ((List.getD t14.2.1 (Int.toNat 0) default) = ([115, 104, 111, 114, 116] : List UInt8)))))) hk rfl rfl rfl rfl (FW.f_move hk (FW.holds_nil _) rfl) ?_; clear hk; intro a w hk
        refine FW.lfunG (y := .row (r_c_str t14.2.1)) hk rfl rfl rfl rfl rfl rfl rfl rfl (fun hc => FW.f_move hk hc rfl) ?_; clear hk; intro a w hk
        refine FW.lfunG (y := .lit (.int .i64 (List.length t14.2.1 : Int))) hk rfl rfl rfl rfl rfl rfl rfl rfl (fun hc => FW.f_len (R := r_c_str) (f := c_str) (l := t14.2.1) r_c_str_eq Go.Proofs.Try.underlying61 hk hc rfl) ?_; clear hk; intro a w hk
        refine FW.lfunG (y := .lit (.bool (decide ((List.length t14.2.1 : Int) = 2)))) hk rfl rfl rfl rfl rfl rfl rfl rfl (fun hc => (FW.f_pure (FW.p_eql hk.kn hc rfl rfl))) ?_; clear hk; intro a w hk
        refine FW.lfunG (y := .lit (.bool (decide ((List.length t14.2.1 : Int) = 2)))) hk rfl rfl rfl rfl rfl rfl rfl rfl (fun hc => FW.f_move hk hc rfl) ?_; clear hk; intro a w hk
        refine FW.lfunG (y := .row (r_c_str t14.2.1)) hk rfl rfl rfl rfl rfl rfl rfl rfl (fun hc => FW.f_move hk hc rfl) ?_; clear hk; intro a w hk
        obtain ⟨hc9, h⟩ := FW.chk h
        refine FW.lfunG (y := .ref (c_str (List.getD t14.2.1 (Int.toNat 0) default))) hk rfl rfl rfl rfl rfl rfl rfl rfl (fun hc => FW.f_indexAddr (R := r_c_str) (f := c_str) (l := t14.2.1) (sz := 1) r_c_str_eq (fun _ => rfl) hk hc rfl rfl Go.Proofs.Try.underlying61 (by kernel_rfl) hc9) ?_; clear hk; intro a w hk
        refine FW.lfunG (y := .lit (.string (FW.B (List.getD t14.2.1 (Int.toNat 0) default)))) hk rfl rfl rfl rfl rfl rfl rfl rfl (fun hc => FW.f_load1 hk hc rfl rfl Go.Proofs.Try.underlying9 rfl) ?_; clear hk; intro a w hk
        refine FW.lfunG (y := .lit (.bool (decide ((List.getD t14.2.1 (Int.toNat 0) default) = ([115, 104, 111, 114, 116] : List UInt8))))) hk rfl rfl rfl rfl rfl rfl rfl rfl (fun hc => (FW.f_pure (FW.p_seql hk.kn hc rfl rfl))) ?_; clear hk; intro a w hk
        refine FW.lfunG (y := .lit (.bool ((decide ((List.length t14.2.1 : Int) = 2)) && (decide ((List.getD t14.2.1 (Int.toNat 0) default) = ([115, 104, 111, 114, 116] : List UInt8)))))) hk rfl rfl rfl rfl rfl rfl rfl rfl (fun hc => (FW.f_pure (FW.p_pick_and hk.kn hc rfl rfl))) ?_; clear hk; intro a w hk
        refine FW.lfunG (y := .lit (.bool ((decide ((List.length t14.2.1 : Int) = 2)) && (decide ((List.getD t14.2.1 (Int.toNat 0) default) = ([115, 104, 111, 114, 116] : List UInt8)))))) hk rfl rfl rfl rfl rfl rfl rfl rfl (fun hc => FW.f_move hk hc rfl) ?_; clear hk; intro a w hk
        refine FW.lfunG (y := .row (r_c_str t14.2.1)) hk rfl rfl rfl rfl rfl rfl rfl rfl (fun hc => FW.f_move hk hc rfl) ?_; clear hk; intro a w hk
        obtain ⟨hc10, h⟩ := FW.chk h
        refine FW.lfunG (y := .ref (c_str (List.getD t14.2.1 (Int.toNat 1) default))) hk rfl rfl rfl rfl rfl rfl rfl rfl (fun hc => FW.f_indexAddr (R := r_c_str) (f := c_str) (l := t14.2.1) (sz := 1) r_c_str_eq (fun _ => rfl) hk hc rfl rfl Go.Proofs.Try.underlying61 (by kernel_rfl) hc10) ?_; clear hk; intro a w hk
        refine FW.lfunG (y := .lit (.string (FW.B (List.getD t14.2.1 (Int.toNat 1) default)))) hk rfl rfl rfl rfl rfl rfl rfl rfl (fun hc => FW.f_load1 hk hc rfl rfl Go.Proofs.Try.underlying9 rfl) ?_; clear hk; intro a w hk
        refine FW.lfunG (y := .lit (.bool (decide ((List.getD t14.2.1 (Int.toNat 1) default) = ([108, 111, 115, 116] : List UInt8))))) hk rfl rfl rfl rfl rfl rfl rfl rfl (fun hc => (FW.f_pure (FW.p_seql hk.kn hc rfl rfl))) ?_; clear hk; intro a w hk
        refine FW.lfunG (y := .lit (.bool (((decide ((List.length t14.2.1 : Int) = 2)) && (decide ((List.getD t14.2.1 (Int.toNat 0) default) = ([115, 104, 111, 114, 116] : List UInt8)))) && (decide ((List.getD t14.2.1 (Int.toNat 1) default) = ([108, 111, 115, 116] : List UInt8)))))) hk rfl rfl rfl rfl rfl rfl rfl rfl (fun hc => (FW.f_pure (FW.p_pick_and hk.kn hc rfl rfl))) ?_; clear hk; intro a w hk
        refine FW.lfun (y := .lit (.bool (((decide ((List.length t14.2.1 : Int) = 1)) && (decide ((List.getD t14.2.1 (Int.toNat 0) default) = ([115, 104, 111, 114, 116] : List UInt8)))) || (((decide ((List.length t14.2.1 : Int) = 2)) && (decide ((List.getD t14.2.1 (Int.toNat 0) default) = ([115, 104, 111, 114, 116] : List UInt8)))) && (decide ((List.getD t14.2.1 (Int.toNat 1) default) = ([108, 111, 115, 116] : List UInt8))))))) hk rfl rfl rfl rfl ((FW.f_pure (FW.p_pick_or hk.kn (FW.holds_nil _) rfl rfl))) ?_; clear hk; intro a w hk
        refine FW.lfun (y := .lit (.bool (((decide ((List.length t14.2.1 : Int) = 1)) && (decide ((List.getD t14.2.1 (Int.toNat 0) default) = ([115, 104, 111, 114, 116] : List UInt8)))) || (((decide ((List.length t14.2.1 : Int) = 2)) && (decide ((List.getD t14.2.1 (Int.toNat 0) default) = ([115, 104, 111, 114, 116] : List UInt8)))) && (decide ((List.getD t14.2.1 (Int.toNat 1) default) = ([108, 111, 115, 116] : List UInt8))))))) hk rfl rfl rfl rfl (FW.f_assign hk (FW.holds_nil _) rfl) ?_; clear hk; intro a w hk
        refine FW.lend (hK28 _ _ ?_); clear hK28 K'
        refine FW.wreg ?_; intro K' hK29
        refine FW.lfun (y := .lit (.int .i64 t7.1)) hk rfl rfl rfl rfl (FW.f_move hk (FW.holds_nil _) rfl) ?_; clear hk; intro a w hk
        refine FW.lfun (y := .lit (.bool (decide (t7.1 = 0)))) hk rfl rfl rfl rfl ((FW.f_pure (FW.p_eql hk.kn (FW.holds_nil _) rfl rfl))) ?_; clear hk; intro a w hk
        refine FW.lfun (y := .lit (.bool (decide (t7.1 = 0)))) hk rfl rfl rfl rfl (FW.f_move hk (FW.holds_nil _) rfl) ?_; clear hk; intro a w hk
        refine FW.lfunG (y := .lit (.int .i64 t9.1)) hk rfl rfl rfl rfl rfl rfl rfl rfl (fun hc => FW.f_move hk hc rfl) ?_; clear hk; intro a w hk
        refine FW.lfunG (y := .lit (.bool (decide (t9.1 = 0)))) hk rfl rfl rfl rfl rfl rfl rfl rfl (fun hc => (FW.f_pure (FW.p_eql hk.kn hc rfl rfl))) ?_; clear hk; intro a w hk
        refine FW.lfun (y := .lit (.bool ((decide (t7.1 = 0)) && (decide (t9.1 = 0))))) hk rfl rfl rfl rfl ((FW.f_pure (FW.p_pick_and hk.kn (FW.holds_nil _) rfl rfl))) ?_; clear hk; intro a w hk
        refine FW.lfun (y := .lit (.bool ((decide (t7.1 = 0)) && (decide (t9.1 = 0))))) hk rfl rfl rfl rfl (FW.f_move hk (FW.holds_nil _) rfl) ?_; clear hk; intro a w hk
        refine FW.lfunG (y := .lit (.int .i64 t12.1)) hk rfl rfl rfl rfl rfl rfl rfl rfl (fun hc => FW.f_move hk hc rfl) ?_; clear hk; intro a w hk
        refine FW.lfunG (y := .lit (.bool (decide (t12.1 = 7)))) hk rfl rfl rfl rfl rfl rfl rfl rfl (fun hc => (FW.f_pure (FW.p_eql hk.kn hc rfl rfl))) ?_; clear hk; intro a w hk
        refine FW.lfun (y := .lit (.bool (((decide (t7.1 = 0)) && (decide (t9.1 = 0))) && (decide (t12.1 = 7))))) hk rfl rfl rfl rfl ((FW.f_pure (FW.p_pick_and hk.kn (FW.holds_nil _) rfl rfl))) ?_; clear hk; intro a w hk
        refine FW.lfun (y := .lit (.bool (((decide (t7.1 = 0)) && (decide (t9.1 = 0))) && (decide (t12.1 = 7))))) hk rfl rfl rfl rfl (FW.f_move hk (FW.holds_nil _) rfl) ?_; clear hk; intro a w hk
        refine FW.lfunG (y := .lit (.int .i64 t14.2.2.1)) hk rfl rfl rfl rfl rfl rfl rfl rfl (fun hc => FW.f_move hk hc rfl) ?_; clear hk; intro a w hk
        refine FW.lfunG (y := .lit (.bool (decide (t14.2.2.1 = 0)))) hk rfl rfl rfl rfl rfl rfl rfl rfl (fun hc => (FW.f_pure (FW.p_eql hk.kn hc rfl rfl))) ?_; clear hk; intro a w hk
        refine FW.lfun (y := .lit (.bool ((((decide (t7.1 = 0)) && (decide (t9.1 = 0))) && (decide (t12.1 = 7))) && (decide (t14.2.2.1 = 0))))) hk rfl rfl rfl rfl ((FW.f_pure (FW.p_pick_and hk.kn (FW.holds_nil _) rfl rfl))) ?_; clear hk; intro a w hk
        refine FW.lfun (y := .lit (.bool ((((decide (t7.1 = 0)) && (decide (t9.1 = 0))) && (decide (t12.1 = 7))) && (decide (t14.2.2.1 = 0))))) hk rfl rfl rfl rfl (FW.f_move hk (FW.holds_nil _) rfl) ?_; clear hk; intro a w hk
        refine FW.lfunG (y := .lit (.bool (((decide ((List.length t14.2.1 : Int) = 1)) && (decide ((List.getD t14.2.1 (Int.toNat 0) default) = ([115, 104, 111, 114, 116] : List UInt8)))) || (((decide ((List.length t14.2.1 : Int) = 2)) && (decide ((List.getD t14.2.1 (Int.toNat 0) default) = ([115, 104, 111, 114, 116] : List UInt8)))) && (decide ((List.getD t14.2.1 (Int.toNat 1) default) = ([108, 111, 115, 116] : List UInt8))))))) hk rfl rfl rfl rfl rfl rfl rfl rfl (fun hc => FW.f_move hk hc rfl) ?_; clear hk; intro a w hk
        refine FW.lfun (y := .lit (.bool (((((decide (t7.1 = 0)) && (decide (t9.1 = 0))) && (decide (t12.1 = 7))) && (decide (t14.2.2.1 = 0))) && (((decide ((List.length t14.2.1 : Int) = 1)) && (decide ((List.getD t14.2.1 (Int.toNat 0) default) = ([115, 104, 111, 114, 116] : List UInt8)))) || (((decide ((List.length t14.2.1 : Int) = 2)) && (decide ((List.getD t14.2.1 (Int.toNat 0) default) = ([115, 104, 111, 114, 116] : List UInt8)))) && (decide ((List.getD t14.2.1 (Int.toNat 1) default) = ([108, 111, 115, 116] : List UInt8)))))))) hk rfl rfl rfl rfl ((FW.f_pure (FW.p_pick_and hk.kn (FW.holds_nil _) rfl rfl))) ?_; clear hk; intro a w hk
        refine FW.lfun (y := .lit (.bool (((((decide (t7.1 = 0)) && (decide (t9.1 = 0))) && (decide (t12.1 = 7))) && (decide (t14.2.2.1 = 0))) && (((decide ((List.length t14.2.1 : Int) = 1)) && (decide ((List.getD t14.2.1 (Int.toNat 0) default) = ([115, 104, 111, 114, 116] : List UInt8)))) || (((decide ((List.length t14.2.1 : Int) = 2)) && (decide ((List.getD t14.2.1 (Int.toNat 0) default) = ([115, 104, 111, 114, 116] : List UInt8)))) && (decide ((List.getD t14.2.1 (Int.toNat 1) default) = ([108, 111, 115, 116] : List UInt8)))))))) hk rfl rfl rfl rfl (FW.f_move hk (FW.holds_nil _) rfl) ?_; clear hk; intro a w hk
        refine FW.lfunG (y := .lit (.pointer (some ⟨bx5, 0, none⟩))) hk rfl rfl rfl rfl rfl rfl rfl rfl (fun hc => FW.f_move hk hc rfl) ?_; clear hk; intro a w hk
        obtain ⟨t15, hr_t15, hn_t15, h⟩ := FW.bndG2 h
        refine FW.l_callHG (I1 := (OLogLog.items bx5 bx1 t14.1) ++ (ODevDev.items bx1 zd15 zc15 zr8 zd16 zc16 t14.2.2.2)) (I2 := [FW.blk bx2 127 ([.lit (.pointer (some ⟨bx1, 0, none⟩)), .lit (.int .i64 t12.2.1.from_), .lit (.int .i64 t12.2.1.to_), .lit (.int .i64 t12.2.1.at_), .lit (.int .u64 t12.2.1.next)])]) (js := [4, 4, 4, 4, 4]) hk rfl rfl rfl rfl rfl rfl rfl rfl rfl Go.Proofs.Try.func54 rfl (by kernel_rfl) (fun hc => log_Log_Next.ok t14.1 t14.2.2.2 _ (hr_t15 (FW.asm_out (p := (((((decide (t7.1 = 0)) && (decide (t9.1 = 0))) && (decide (t12.1 = 7))) && (decide (t14.2.2.1 = 0))) && (((decide ((List.length t14.2.1 : Int) = 1)) && (decide ((List.getD t14.2.1 (Int.toNat 0) default) = ([115, 104, 111, 114, 116] : List UInt8)))) || (((decide ((List.length t14.2.1 : Int) = 2)) && (decide ((List.getD t14.2.1 (Int.toNat 0) default) = ([115, 104, 111, 114, 116] : List UInt8)))) && (decide ((List.getD t14.2.1 (Int.toNat 1) default) = ([108, 111, 115, 116] : List UInt8)))))) = true) hk.kn hc (fun e0 => e0))) bx5 bx1 zd15 zc15 zr8 zd16 zc16) (fun hn => by obtain rfl := hn_t15 (fun hp => hn (FW.asm_in hk.kn (by have e0 := hp; exact ⟨e0, rfl, trivial⟩))); exact ⟨_, rfl, rfl⟩) ?_; clear hk
        rintro _ _ ⟨rfl, rfl⟩ a w hk
        refine FW.lfunG (y := .row (r_c_str t14.2.1)) hk rfl rfl rfl rfl rfl rfl rfl rfl (fun hc => FW.f_move hk hc rfl) ?_; clear hk; intro a w hk
        refine FW.lfunG (y := .lit (.int .i64 (List.length t14.2.1 : Int))) hk rfl rfl rfl rfl rfl rfl rfl rfl (fun hc => FW.f_len (R := r_c_str) (f := c_str) (l := t14.2.1) r_c_str_eq Go.Proofs.Try.underlying61 hk hc rfl) ?_; clear hk; intro a w hk
        refine FW.lfunG (y := .lit (.int .u64 (IntKind.wrap .u64 (List.length t14.2.1 : Int)))) hk rfl rfl rfl rfl rfl rfl rfl rfl (fun hc => (FW.f_pure (FW.p_conv Go.Proofs.Try.underlying3 Go.Proofs.Try.underlying29 hk.kn hc rfl))) ?_; clear hk; intro a w hk
        refine FW.lfunG (y := .lit (.int .u64 (IntKind.wrap .u64 (2 + (IntKind.wrap .u64 (List.length t14.2.1 : Int)))))) hk rfl rfl rfl rfl rfl rfl rfl rfl (fun hc => (FW.f_pure (FW.p_add hk.kn hc rfl rfl))) ?_; clear hk; intro a w hk
        refine FW.lfunG (y := .lit (.bool (decide (t15 = (IntKind.wrap .u64 (2 + (IntKind.wrap .u64 (List.length t14.2.1 : Int)))))))) hk rfl rfl rfl rfl rfl rfl rfl rfl (fun hc => (FW.f_pure (FW.p_eql hk.kn hc rfl rfl))) ?_; clear hk; intro a w hk
        refine FW.lfun (y := .lit (.bool ((((((decide (t7.1 = 0)) && (decide (t9.1 = 0))) && (decide (t12.1 = 7))) && (decide (t14.2.2.1 = 0))) && (((decide ((List.length t14.2.1 : Int) = 1)) && (decide ((List.getD t14.2.1 (Int.toNat 0) default) = ([115, 104, 111, 114, 116] : List UInt8)))) || (((decide ((List.length t14.2.1 : Int) = 2)) && (decide ((List.getD t14.2.1 (Int.toNat 0) default) = ([115, 104, 111, 114, 116] : List UInt8)))) && (decide ((List.getD t14.2.1 (Int.toNat 1) default) = ([108, 111, 115, 116] : List UInt8)))))) && (decide (t15 = (IntKind.wrap .u64 (2 + (IntKind.wrap .u64 (List.length t14.2.1 : Int))))))))) hk rfl rfl rfl rfl ((FW.f_pure (FW.p_pick_and hk.kn (FW.holds_nil _) rfl rfl))) ?_; clear hk; intro a w hk
        refine FW.lfun (y := .lit (.bool ((((((decide (t7.1 = 0)) && (decide (t9.1 = 0))) && (decide (t12.1 = 7))) && (decide (t14.2.2.1 = 0))) && (((decide ((List.length t14.2.1 : Int) = 1)) && (decide ((List.getD t14.2.1 (Int.toNat 0) default) = ([115, 104, 111, 114, 116] : List UInt8)))) || (((decide ((List.length t14.2.1 : Int) = 2)) && (decide ((List.getD t14.2.1 (Int.toNat 0) default) = ([115, 104, 111, 114, 116] : List UInt8)))) && (decide ((List.getD t14.2.1 (Int.toNat 1) default) = ([108, 111, 115, 116] : List UInt8)))))) && (decide (t15 = (IntKind.wrap .u64 (2 + (IntKind.wrap .u64 (List.length t14.2.1 : Int))))))))) hk rfl rfl rfl rfl (FW.f_assign hk (FW.holds_nil _) rfl) ?_; clear hk; intro a w hk
        refine FW.lend (hK29 _ _ ?_); clear hK29 K'
        refine wp_ret ?_
        (repeat first | refine FW.then_ret ?_ | refine FW.block_ret ?_)
        obtain rfl := Option.some.inj h
        exact FW.fret1 hk rfl rfl

theorem offshootlaw04_same.ok (K : Nat) (v0 : List (List UInt8)) (v1 : List (List UInt8)) (r : Bool) (h : offshootlaw04_same.f K v0 v1 = some r) :
    FW.Ok Go.Proofs.Try.prog 52 [.row (r_c_str v0), .row (r_c_str v1)] (.lit (.bool r)) := by
  refine FW.enter (xs := [.row (r_c_str v0), .row (r_c_str v1)]) Go.Proofs.Try.func52 rfl Go.Proofs.Try.ntmps52 rfl ?_
  intro M w0 a hk
  unfold offshootlaw04_same.f at h
  refine FW.wreg ?_; intro K' hK1
  refine FW.lfun (y := .lit (.bool false)) hk rfl rfl rfl rfl (FW.f_assign hk (FW.holds_nil _) rfl) ?_; clear hk; intro a w hk
  refine FW.lend (hK1 _ _ ?_); clear hK1 K'
  refine FW.wseq ?_; intro K' hK2
  refine FW.wreg ?_; intro K' hK3
  refine FW.lfun (y := .row (r_c_str v0)) hk rfl rfl rfl rfl (FW.f_move hk (FW.holds_nil _) rfl) ?_; clear hk; intro a w hk
  refine FW.lfun (y := .lit (.int .i64 (List.length v0 : Int))) hk rfl rfl rfl rfl (FW.f_len (R := r_c_str) (f := c_str) (l := v0) r_c_str_eq Go.Proofs.Try.underlying61 hk (FW.holds_nil _) rfl) ?_; clear hk; intro a w hk
  refine FW.lfun (y := .row (r_c_str v1)) hk rfl rfl rfl rfl (FW.f_move hk (FW.holds_nil _) rfl) ?_; clear hk; intro a w hk
  refine FW.lfun (y := .lit (.int .i64 (List.length v1 : Int))) hk rfl rfl rfl rfl (FW.f_len (R := r_c_str) (f := c_str) (l := v1) r_c_str_eq Go.Proofs.Try.underlying61 hk (FW.holds_nil _) rfl) ?_; clear hk; intro a w hk
  refine FW.lfun (y := .lit (.bool (!decide ((List.length v0 : Int) = (List.length v1 : Int))))) hk rfl rfl rfl rfl ((FW.f_pure (FW.p_neq hk.kn (FW.holds_nil _) rfl rfl))) ?_; clear hk; intro a w hk
  refine FW.lend (hK3 _ _ ?_); clear hK3 K'
  refine FW.wcondF (b := (!decide ((List.length v0 : Int) = (List.length v1 : Int)))) hk h rfl (fun h hb => ?_) (fun h hb => ?_)
  · skip
    refine FW.wreg ?_; intro K' hK4
    refine FW.lfun (y := .lit (.bool false)) hk rfl rfl rfl rfl (FW.f_assign hk (FW.holds_nil _) rfl) ?_; clear hk; intro a w hk
    refine FW.lend (hK4 _ _ ?_); clear hK4 K'
    refine wp_ret ?_
    (repeat first | refine FW.then_ret ?_ | refine FW.block_ret ?_)
    obtain rfl := Option.some.inj h
    exact FW.fret1 hk rfl rfl
  · skip
    refine wp_skip ?_
    (repeat first | refine FW.then_normal ?_ | refine FW.block_normal ?_); refine hK2 _ _ ?_
    refine FW.wseq ?_; intro K' hK5
    refine FW.wreg ?_; intro K' hK6
    refine FW.lfun (y := .lit (.int .i64 0)) hk rfl rfl rfl rfl (FW.f_assign hk (FW.holds_nil _) rfl) ?_; clear hk; intro a w hk
    refine FW.lend (hK6 _ _ ?_); clear hK6 K'
    refine wp_block ?_
    refine FW.wloop (T := Nat × List (List UInt8) × List (List UInt8) × Int) (fun x a w => match x with | (kl1, v0, v1, v5) => FW.S M w0 a w 26 [] [(0, [], .row (r_c_str v0)), (1, [], .row (r_c_str v1)), (5, [], .lit (.int .i64 v5))] ∧ offshootlaw04_same.l1 K kl1 v0 v1 v5 = some r) (fun x => x.1) (K, v0, v1, 0) ⟨hk.sub ⟨rfl, rfl, rfl, trivial⟩, h⟩ ?_
    clear hk h
    rintro ⟨kl1, v0, v1, v5⟩ a w ⟨hk, h⟩ K' hK7
    cases kl1 with
    | zero => simp [offshootlaw04_same.l1] at h
    | succ kl1 =>
    rw [offshootlaw04_same.l1.eq_2] at h
    refine FW.wseq ?_; intro K' hK8
    refine FW.wreg ?_; intro K' hK9
    refine FW.lfun (y := .lit (.int .i64 v5)) hk rfl rfl rfl rfl (FW.f_move hk (FW.holds_nil _) rfl) ?_; clear hk; intro a w hk
    refine FW.lfun (y := .row (r_c_str v0)) hk rfl rfl rfl rfl (FW.f_move hk (FW.holds_nil _) rfl) ?_; clear hk; intro a w hk
    refine FW.lfun (y := .lit (.int .i64 (List.length v0 : Int))) hk rfl rfl rfl rfl (FW.f_len (R := r_c_str) (f := c_str) (l := v0) r_c_str_eq Go.Proofs.Try.underlying61 hk (FW.holds_nil _) rfl) ?_; clear hk; intro a w hk
    refine FW.lfun (y := .lit (.bool (decide (v5 < (List.length v0 : Int))))) hk rfl rfl rfl rfl ((FW.f_pure (FW.p_lss hk.kn (FW.holds_nil _) rfl rfl))) ?_; clear hk; intro a w hk
    refine FW.lend (hK9 _ _ ?_); clear hK9 K'
    refine FW.wcondF (b := (decide (v5 < (List.length v0 : Int)))) hk h rfl (fun h hb => ?_) (fun h hb => ?_)
    · skip
      refine wp_skip ?_
      (repeat first | refine FW.then_normal ?_ | refine FW.block_normal ?_); refine hK8 _ _ ?_
      refine FW.wseq ?_; intro K' hK10
      refine wp_block ?_
      obtain ⟨hc1, h⟩ := FW.chk h
      obtain ⟨hc2, h⟩ := FW.chk h
      refine FW.wdraw (by kernel_rfl) (by kernel_rfl) hk ?_; clear hk
      refine FW.dfun (y := .row (r_c_str v0)) rfl rfl rfl rfl (fun a w hk => FW.f_move hk (FW.holds_nil _) rfl) ?_
      refine FW.dfun (y := .lit (.int .i64 v5)) rfl rfl rfl rfl (fun a w hk => FW.f_move hk (FW.holds_nil _) rfl) ?_
      refine FW.dfun (y := .ref (c_str (List.getD v0 (Int.toNat v5) default))) rfl rfl rfl rfl (fun a w hk => FW.f_indexAddr (R := r_c_str) (f := c_str) (l := v0) (sz := 1) r_c_str_eq (fun _ => rfl) hk (FW.holds_nil _) rfl rfl Go.Proofs.Try.underlying61 (by kernel_rfl) hc1) ?_
      refine FW.dfun (y := .lit (.string (FW.B (List.getD v0 (Int.toNat v5) default)))) rfl rfl rfl rfl (fun a w hk => FW.f_load1 hk (FW.holds_nil _) rfl rfl Go.Proofs.Try.underlying9 rfl) ?_
      refine FW.dfun (y := .row (r_c_str v1)) rfl rfl rfl rfl (fun a w hk => FW.f_move hk (FW.holds_nil _) rfl) ?_
      refine FW.dfun (y := .lit (.int .i64 v5)) rfl rfl rfl rfl (fun a w hk => FW.f_move hk (FW.holds_nil _) rfl) ?_
      refine FW.dfun (y := .ref (c_str (List.getD v1 (Int.toNat v5) default))) rfl rfl rfl rfl (fun a w hk => FW.f_indexAddr (R := r_c_str) (f := c_str) (l := v1) (sz := 1) r_c_str_eq (fun _ => rfl) hk (FW.holds_nil _) rfl rfl Go.Proofs.Try.underlying61 (by kernel_rfl) hc2) ?_
      refine FW.dfun (y := .lit (.string (FW.B (List.getD v1 (Int.toNat v5) default)))) rfl rfl rfl rfl (fun a w hk => FW.f_load1 hk (FW.holds_nil _) rfl rfl Go.Proofs.Try.underlying9 rfl) ?_
      refine FW.dfun (y := .lit (.bool (!decide ((List.getD v0 (Int.toNat v5) default) = (List.getD v1 (Int.toNat v5) default))))) rfl rfl rfl rfl (fun a w hk => (FW.f_pure (FW.p_sneq hk.kn (FW.holds_nil _) rfl rfl))) ?_
      refine FW.dend ?_; intro a w hk
      refine FW.wcondF (b := (!decide ((List.getD v0 (Int.toNat v5) default) = (List.getD v1 (Int.toNat v5) default)))) hk h rfl (fun h hb => ?_) (fun h hb => ?_)
      · skip
        refine FW.wreg ?_; intro K' hK12
        refine FW.lfun (y := .lit (.bool false)) hk rfl rfl rfl rfl (FW.f_assign hk (FW.holds_nil _) rfl) ?_; clear hk; intro a w hk
        refine FW.lend (hK12 _ _ ?_); clear hK12 K'
        refine wp_ret ?_
        (repeat first | refine FW.then_ret ?_ | refine FW.block_ret ?_)
        obtain rfl := Option.some.inj h
        exact FW.fret1 hk rfl rfl
      · skip
        refine wp_skip ?_
        (repeat first | refine FW.then_normal ?_ | refine FW.block_normal ?_); refine hK10 _ _ ?_
        refine FW.wreg1 ?_
        refine FW.lfun (y := .lit (.int .i64 v5)) hk rfl rfl rfl rfl (FW.f_move hk (FW.holds_nil _) rfl) ?_; clear hk; intro a w hk
        refine FW.lfun (y := .lit (.int .i64 (IntKind.wrap .i64 (v5 + 1)))) hk rfl rfl rfl rfl ((FW.f_pure (FW.p_add hk.kn (FW.holds_nil _) rfl rfl))) ?_; clear hk; intro a w hk
        refine FW.lfun (y := .lit (.int .i64 (IntKind.wrap .i64 (v5 + 1)))) hk rfl rfl rfl rfl (FW.f_assign hk (FW.holds_nil _) rfl) ?_; clear hk; intro a w hk
        refine wpList_nil ?_
        (repeat first | refine FW.then_normal ?_ | refine FW.block_normal ?_); exact hK7 (kl1, v0, v1, (IntKind.wrap .i64 (v5 + 1))) _ _ (Nat.lt_succ_self _) ⟨hk.sub ⟨rfl, rfl, rfl, trivial⟩, h⟩
    · skip
      refine wp_exit ?_; (repeat first | refine FW.then_exit ?_ | refine FW.block_exit_ne rfl ?_); refine FW.block_exit ?_
      (repeat first | refine FW.then_normal ?_ | refine FW.block_normal ?_); refine hK5 _ _ ?_
      refine FW.wreg ?_; intro K' hK14
      refine FW.lfun (y := .lit (.bool true)) hk rfl rfl rfl rfl (FW.f_assign hk (FW.holds_nil _) rfl) ?_; clear hk; intro a w hk
      refine FW.lend (hK14 _ _ ?_); clear hK14 K'
      refine wp_ret ?_
      (repeat first | refine FW.then_ret ?_ | refine FW.block_ret ?_)
      obtain rfl := Option.some.inj h
      exact FW.fret1 hk rfl rfl
end Go.Proofs.Ytimaibcaehagjaa

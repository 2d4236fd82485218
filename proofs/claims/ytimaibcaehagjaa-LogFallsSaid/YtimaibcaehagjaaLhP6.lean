/- Written by a program of this session (gen.py): the contracts of functions of the program. -/
import Derived.KernelRfl
import Derived.Test.YtimaibcaehagjaaProg
import Derived.Test.YtimaibcaehagjaaAvFun
import Derived.Test.YtimaibcaehagjaaAvMan
import Derived.Test.YtimaibcaehagjaaAvMore
import Derived.Test.YtimaibcaehagjaaAvDraw2
import Derived.Test.YtimaibcaehagjaaAvRow
import Derived.Test.YtimaibcaehagjaaHn
import Derived.Test.YtimaibcaehagjaaHg
import Derived.Test.YtimaibcaehagjaaHar
import Derived.Test.YtimaibcaehagjaaHc
import Derived.Test.YtimaibcaehagjaaFx
import Derived.Test.YtimaibcaehagjaaDxP1
import Derived.Test.YtimaibcaehagjaaFy2
import Derived.Test.YtimaibcaehagjaaHl
import Derived.Test.YtimaibcaehagjaaHnl
import Derived.Test.YtimaibcaehagjaaLhD
import Derived.Test.YtimaibcaehagjaaLhP5
namespace Go.Proofs.Ytimaibcaehagjaa
set_option linter.unusedVariables false
set_option maxRecDepth 20000
set_option maxHeartbeats 10000000
theorem offshootlaw04_LogFalls.ok (K : Nat) (v0 : List (List UInt8)) (v1 : List ApiFall) (v2 : List Bool) (r : Bool) (h : offshootlaw04_LogFalls.f K v0 v1 v2 = some r) :
    FW.Ok Go.Proofs.Try.prog 13 [.row (r_c_str v0), .row (r_ApiFall_cells v1), .row (r_c_bool v2)] (.lit (.bool r)) := by
  refine FW.enter (xs := [.row (r_c_str v0), .row (r_ApiFall_cells v1), .row (r_c_bool v2)]) Go.Proofs.Try.func13 rfl Go.Proofs.Try.ntmps13 rfl ?_
  intro M w0 a hk
  unfold offshootlaw04_LogFalls.f at h
  refine FW.wreg ?_; intro K' hK1
  refine FW.lfun (y := .lit (.bool false)) hk rfl rfl rfl rfl (FW.f_assign hk (FW.holds_nil _) rfl) ?_; clear hk; intro a w hk
  refine FW.lend (hK1 _ _ ?_); clear hK1 K'
  refine FW.wreg ?_; intro K' hK2
  obtain ⟨t1, hr_t1, h⟩ := FW.bnd h
  refine FW.l_callH (I1 := ([] : List FW.It)) (I2 := []) (js := []) hk rfl rfl rfl rfl rfl Go.Proofs.Try.func27 rfl (by kernel_rfl) (dev_New.ok K 14 _ hr_t1 ) ?_; clear hk
  rintro _ _ ⟨bx1, xdNt1_0_0, xcNt1_0_0, xrNt1_0_1, xdNt1_0_3, xcNt1_0_3, rfl, rfl⟩ a w hk
  refine FW.lfun (y := .tup [.lit (.pointer (some ⟨bx1, 0, none⟩)), .lit (.int .i64 t1.2)]) hk rfl rfl rfl rfl (FW.f_move hk (FW.holds_nil _) rfl) ?_; clear hk; intro a w hk
  refine FW.lfun (y := .lit (.pointer (some ⟨bx1, 0, none⟩))) hk rfl rfl rfl rfl (FW.f_extract hk (FW.holds_nil _) rfl rfl) ?_; clear hk; intro a w hk
  refine FW.lfun (y := .lit (.int .i64 t1.2)) hk rfl rfl rfl rfl (FW.f_extract hk (FW.holds_nil _) rfl rfl) ?_; clear hk; intro a w hk
  refine FW.lfun (y := .lit (.pointer (some ⟨bx1, 0, none⟩))) hk rfl rfl rfl rfl (FW.f_assign hk (FW.holds_nil _) rfl) ?_; clear hk; intro a w hk
  refine FW.lfun (y := .lit (.int .i64 t1.2)) hk rfl rfl rfl rfl (FW.f_assign hk (FW.holds_nil _) rfl) ?_; clear hk; intro a w hk
  refine FW.lend (hK2 _ _ ?_); clear hK2 K'
  refine FW.wreg ?_; intro K' hK3
  refine FW.lfun (y := .lit (.pointer (some ⟨bx1, 0, none⟩))) hk rfl rfl rfl rfl (FW.f_move hk (FW.holds_nil _) rfl) ?_; clear hk; intro a w hk
  obtain ⟨t2, hr_t2, h⟩ := FW.bnd h
  refine FW.l_callH (I1 := (ODevDev.items bx1 xdNt1_0_0 xcNt1_0_0 xrNt1_0_1 xdNt1_0_3 xcNt1_0_3 t1.1)) (I2 := []) (js := [3, 3, 3, 3]) hk rfl rfl rfl rfl rfl Go.Proofs.Try.func47 rfl (by kernel_rfl) (log_Open.ok K t1.1 0 14 1 _ hr_t2 bx1 xdNt1_0_0 xcNt1_0_0 xrNt1_0_1 xdNt1_0_3 xcNt1_0_3) ?_; clear hk
  rintro _ _ ⟨bx2, zd1, zc1, zr1, zd2, zc2, rfl, rfl⟩ a w hk
  refine FW.lfun (y := .tup [.lit (.pointer (some ⟨bx2, 0, none⟩)), .row (r_c_str t2.2.1), .lit (.int .i64 t2.2.2.1)]) hk rfl rfl rfl rfl (FW.f_move hk (FW.holds_nil _) rfl) ?_; clear hk; intro a w hk
  refine FW.lfun (y := .lit (.pointer (some ⟨bx2, 0, none⟩))) hk rfl rfl rfl rfl (FW.f_extract hk (FW.holds_nil _) rfl rfl) ?_; clear hk; intro a w hk
  refine FW.lfun (y := .row (r_c_str t2.2.1)) hk rfl rfl rfl rfl (FW.f_extract hk (FW.holds_nil _) rfl rfl) ?_; clear hk; intro a w hk
  refine FW.lfun (y := .lit (.int .i64 t2.2.2.1)) hk rfl rfl rfl rfl (FW.f_extract hk (FW.holds_nil _) rfl rfl) ?_; clear hk; intro a w hk
  refine FW.lfun (y := .lit (.pointer (some ⟨bx2, 0, none⟩))) hk rfl rfl rfl rfl (FW.f_assign hk (FW.holds_nil _) rfl) ?_; clear hk; intro a w hk
  refine FW.lfun (y := .row (r_c_str t2.2.1)) hk rfl rfl rfl rfl (FW.f_assign hk (FW.holds_nil _) rfl) ?_; clear hk; intro a w hk
  refine FW.lfun (y := .lit (.int .i64 t2.2.2.1)) hk rfl rfl rfl rfl (FW.f_assign hk (FW.holds_nil _) rfl) ?_; clear hk; intro a w hk
  refine FW.lend (hK3 _ _ ?_); clear hK3 K'
  refine FW.wseq ?_; intro K' hK4
  refine FW.wreg ?_; intro K' hK5
  obtain ⟨t3, hr_t3, h⟩ := FW.bnd h
  refine FW.lfun (y := .lit (.bool t3)) hk rfl rfl rfl rfl (FW.f_call hk (FW.holds_nil _) rfl rfl Go.Proofs.Try.func44 rfl (by kernel_rfl) (offshootlaw04_awake.ok K  _ hr_t3)) ?_; clear hk; intro a w hk
  refine FW.lfun (y := .lit (.bool (!t3))) hk rfl rfl rfl rfl ((FW.f_pure (FW.p_not hk.kn (FW.holds_nil _) rfl))) ?_; clear hk; intro a w hk
  refine FW.lfun (y := .lit (.bool (!t3))) hk rfl rfl rfl rfl (FW.f_move hk (FW.holds_nil _) rfl) ?_; clear hk; intro a w hk
  refine FW.lfunG (y := .lit (.int .i64 t1.2)) hk rfl rfl rfl rfl rfl rfl rfl rfl (fun hc => FW.f_move hk hc rfl) ?_; clear hk; intro a w hk
  refine FW.lfunG (y := .lit (.bool (!decide (t1.2 = 0)))) hk rfl rfl rfl rfl rfl rfl rfl rfl (fun hc => (FW.f_pure (FW.p_neq hk.kn hc rfl rfl))) ?_; clear hk; intro a w hk
  refine FW.lfun (y := .lit (.bool ((!t3) || (!decide (t1.2 = 0))))) hk rfl rfl rfl rfl ((FW.f_pure (FW.p_pick_or hk.kn (FW.holds_nil _) rfl rfl))) ?_; clear hk; intro a w hk
  refine FW.lfun (y := .lit (.bool ((!t3) || (!decide (t1.2 = 0))))) hk rfl rfl rfl rfl (FW.f_move hk (FW.holds_nil _) rfl) ?_; clear hk; intro a w hk
  refine FW.lfunG (y := .lit (.int .i64 t2.2.2.1)) hk rfl rfl rfl rfl rfl rfl rfl rfl (fun hc => FW.f_move hk hc rfl) ?_; clear hk; intro a w hk
  refine FW.lfunG (y := .lit (.bool (!decide (t2.2.2.1 = 0)))) hk rfl rfl rfl rfl rfl rfl rfl rfl (fun hc => (FW.f_pure (FW.p_neq hk.kn hc rfl rfl))) ?_; clear hk; intro a w hk
  refine FW.lfun (y := .lit (.bool (((!t3) || (!decide (t1.2 = 0))) || (!decide (t2.2.2.1 = 0))))) hk rfl rfl rfl rfl ((FW.f_pure (FW.p_pick_or hk.kn (FW.holds_nil _) rfl rfl))) ?_; clear hk; intro a w hk
  refine FW.lend (hK5 _ _ ?_); clear hK5 K'
  refine FW.wcondF (b := (((!t3) || (!decide (t1.2 = 0))) || (!decide (t2.2.2.1 = 0)))) hk h rfl (fun h hb => ?_) (fun h hb => ?_)
  · skip
    refine FW.wreg ?_; intro K' hK6
    refine FW.lfun (y := .lit (.bool false)) hk rfl rfl rfl rfl (FW.f_assign hk (FW.holds_nil _) rfl) ?_; clear hk; intro a w hk
    refine FW.lend (hK6 _ _ ?_); clear hK6 K'
    refine wp_ret ?_
    (repeat first | refine FW.then_ret ?_ | refine FW.block_ret ?_)
    obtain rfl := Option.some.inj h
    exact FW.fret1 hk rfl rfl
  · skip
    refine wp_skip ?_
    (repeat first | refine FW.then_normal ?_ | refine FW.block_normal ?_); refine hK4 _ _ ?_
    refine FW.wreg ?_; intro K' hK7
    refine FW.l_buildSlice0 (f := c_str) hk rfl rfl Go.Proofs.Try.underlying61 rfl (fun _ => rfl) ?_; clear hk; intro bx3 a w hk
    replace hk := (FW.S.freezeR (I' := [FW.blk bx2 127 ([.lit (.pointer (some ⟨bx1, 0, none⟩)), .lit (.int .i64 t2.1.from_), .lit (.int .i64 t2.1.to_), .lit (.int .i64 t2.1.at_), .lit (.int .u64 t2.1.next)]), FW.blk bx1 109 ([.lit (.slice zd1 (List.length t2.2.2.2.sure) zc1), .lit (.map (some zr1)), .lit (.int .i64 t2.2.2.2.steps), .lit (.slice zd2 (List.length t2.2.2.2.falls) zc2), .lit (.bool t2.2.2.2.off)]), FW.orow zd1 zc1 9 1 c_str t2.2.2.2.sure, FW.mapI (.int .i64) (Value.int .i64) FW.evS zr1 t2.2.2.2.cache, FW.orow zd2 zc2 45 3 ApiFall.cells t2.2.2.2.falls]) r_c_str_eq hk (j := 0) rfl (t := 42) rfl rfl).squash
    refine FW.lfun (y := .row (r_c_str ([] : List (List UInt8)))) hk rfl rfl rfl rfl (FW.f_assign hk (FW.holds_nil _) rfl) ?_; clear hk; intro a w hk
    refine FW.lfun (y := .lit (.int .u64 1)) hk rfl rfl rfl rfl (FW.f_assign hk (FW.holds_nil _) rfl) ?_; clear hk; intro a w hk
    refine FW.lend (hK7 _ _ ?_); clear hK7 K'
    refine FW.wseq ?_; intro K' hK8
    refine FW.wreg ?_; intro K' hK9
    refine FW.lfun (y := .lit (.int .i64 0)) hk rfl rfl rfl rfl (FW.f_assign hk (FW.holds_nil _) rfl) ?_; clear hk; intro a w hk
    refine FW.lend (hK9 _ _ ?_); clear hK9 K'
    refine wp_block ?_
    refine FW.wloop (T := Nat × Int × Int × Int × Int × Int × Bool × List (List UInt8) × (List (Int × (List UInt8))) × List ApiFall × List (List UInt8) × List ApiFall × List Bool × List (List UInt8) × Int × Int × Nat × Option Addr × Nat × Nat × Option Addr × Nat) (fun x a w => match x with | (kl1, y5_1, y5_2, y5_3, y5_4, y1_2, y1_4, l2, m3, l4, v0, v1, v2, v12, v13, v14, xn5, xd2, xc2, xr3, xd4, xc4) => FW.S M w0 a w 142 [FW.blk xn5 127 ([.lit (.pointer (some ⟨bx1, 0, none⟩)), .lit (.int .i64 y5_1), .lit (.int .i64 y5_2), .lit (.int .i64 y5_3), .lit (.int .u64 y5_4)]), FW.blk bx1 109 ([.lit (.slice xd2 (List.length l2) xc2), .lit (.map (some xr3)), .lit (.int .i64 y1_2), .lit (.slice xd4 (List.length l4) xc4), .lit (.bool y1_4)]), FW.orow xd2 xc2 9 1 c_str l2, FW.mapI (.int .i64) (Value.int .i64) FW.evS xr3 m3, FW.orow xd4 xc4 45 3 ApiFall.cells l4] [(0, [], .row (r_c_str v0)), (1, [], .row (r_ApiFall_cells v1)), (2, [], .row (r_c_bool v2)), (7, [], .lit (.pointer (some ⟨bx1, 0, none⟩))), (9, [], .lit (.pointer (some ⟨xn5, 0, none⟩))), (12, [], .row (r_c_str v12)), (13, [], .lit (.int .u64 v13)), (14, [], .lit (.int .i64 v14))] ∧ offshootlaw04_LogFalls.l1 K kl1 y5_1 y5_2 y5_3 y5_4 y1_2 y1_4 l2 m3 l4 v0 v1 v2 v12 v13 v14 = some r) (fun x => x.1) (K, t2.1.from_, t2.1.to_, t2.1.at_, t2.1.next, t2.2.2.2.steps, t2.2.2.2.off, t2.2.2.2.sure, t2.2.2.2.cache, t2.2.2.2.falls, v0, v1, v2, ([] : List (List UInt8)), 1, 0, bx2, zd1, zc1, zr1, zd2, zc2) ⟨hk.sub ⟨rfl, rfl, rfl, rfl, rfl, rfl, rfl, rfl, trivial⟩, h⟩ ?_
    clear hk h
    rintro ⟨kl1, y5_1, y5_2, y5_3, y5_4, y1_2, y1_4, l2, m3, l4, v0, v1, v2, v12, v13, v14, xn5, xd2, xc2, xr3, xd4, xc4⟩ a w ⟨hk, h⟩ K' hK10
    cases kl1 with
    | zero => simp [offshootlaw04_LogFalls.l1] at h
    | succ kl1 =>
    rw [offshootlaw04_LogFalls.l1.eq_2] at h
    refine FW.wseq ?_; intro K' hK11
    refine FW.wreg ?_; intro K' hK12
    refine FW.lfun (y := .lit (.int .i64 v14)) hk rfl rfl rfl rfl (FW.f_move hk (FW.holds_nil _) rfl) ?_; clear hk; intro a w hk
    refine FW.lfun (y := .row (r_c_str v0)) hk rfl rfl rfl rfl (FW.f_move hk (FW.holds_nil _) rfl) ?_; clear hk; intro a w hk
    refine FW.lfun (y := .lit (.int .i64 (List.length v0 : Int))) hk rfl rfl rfl rfl (FW.f_len (R := r_c_str) (f := c_str) (l := v0) r_c_str_eq Go.Proofs.Try.underlying61 hk (FW.holds_nil _) rfl) ?_; clear hk; intro a w hk
    refine FW.lfun (y := .lit (.bool (decide (v14 < (List.length v0 : Int))))) hk rfl rfl rfl rfl ((FW.f_pure (FW.p_lss hk.kn (FW.holds_nil _) rfl rfl))) ?_; clear hk; intro a w hk
    refine FW.lfun (y := .lit (.bool (decide (v14 < (List.length v0 : Int))))) hk rfl rfl rfl rfl (FW.f_move hk (FW.holds_nil _) rfl) ?_; clear hk; intro a w hk
    refine FW.lfunG (y := .lit (.int .i64 v14)) hk rfl rfl rfl rfl rfl rfl rfl rfl (fun hc => FW.f_move hk hc rfl) ?_; clear hk; intro a w hk
    refine FW.lfunG (y := .lit (.bool (decide (v14 < 14)))) hk rfl rfl rfl rfl rfl rfl rfl rfl (fun hc => (FW.f_pure (FW.p_lss hk.kn hc rfl rfl))) ?_; clear hk; intro a w hk
    refine FW.lfun (y := .lit (.bool ((decide (v14 < (List.length v0 : Int))) && (decide (v14 < 14))))) hk rfl rfl rfl rfl ((FW.f_pure (FW.p_pick_and hk.kn (FW.holds_nil _) rfl rfl))) ?_; clear hk; intro a w hk
    refine FW.lend (hK12 _ _ ?_); clear hK12 K'
    refine FW.wcondF (b := ((decide (v14 < (List.length v0 : Int))) && (decide (v14 < 14)))) hk h rfl (fun h hb => ?_) (fun h hb => ?_)
    · skip
      refine wp_skip ?_
      (repeat first | refine FW.then_normal ?_ | refine FW.block_normal ?_); refine hK11 _ _ ?_
      refine FW.wseqJ (fun a w => ∃ (y5_1 : Int) (y5_2 : Int) (y5_3 : Int) (y5_4 : Int) (y1_2 : Int) (y1_4 : Bool) (l2 : List (List UInt8)) (m3 : List (Int × (List UInt8))) (l4 : List ApiFall) (v0 : List (List UInt8)) (v1 : List ApiFall) (v2 : List Bool) (v12 : List (List UInt8)) (v13 : Int) (v14 : Int) (xn5 : Nat) (xd2 : Option Addr) (xc2 : Nat) (xr3 : Nat) (xd4 : Option Addr) (xc4 : Nat), FW.S M w0 a w 142 [FW.blk xn5 127 ([.lit (.pointer (some ⟨bx1, 0, none⟩)), .lit (.int .i64 y5_1), .lit (.int .i64 y5_2), .lit (.int .i64 y5_3), .lit (.int .u64 y5_4)]), FW.blk bx1 109 ([.lit (.slice xd2 (List.length l2) xc2), .lit (.map (some xr3)), .lit (.int .i64 y1_2), .lit (.slice xd4 (List.length l4) xc4), .lit (.bool y1_4)]), FW.orow xd2 xc2 9 1 c_str l2, FW.mapI (.int .i64) (Value.int .i64) FW.evS xr3 m3, FW.orow xd4 xc4 45 3 ApiFall.cells l4] [(0, [], .row (r_c_str v0)), (1, [], .row (r_ApiFall_cells v1)), (2, [], .row (r_c_bool v2)), (7, [], .lit (.pointer (some ⟨bx1, 0, none⟩))), (9, [], .lit (.pointer (some ⟨xn5, 0, none⟩))), (12, [], .row (r_c_str v12)), (13, [], .lit (.int .u64 v13)), (14, [], .lit (.int .i64 v14))] ∧ offshootlaw04_LogFalls.j1 (offshootlaw04_LogFalls.l1 K kl1) K y5_1 y5_2 y5_3 y5_4 y1_2 y1_4 l2 m3 l4 v0 v1 v2 v12 v13 v14 = some r) ?_ ?_
      · clear hk h
        rintro a w ⟨y5_1, y5_2, y5_3, y5_4, y1_2, y1_4, l2, m3, l4, v0, v1, v2, v12, v13, v14, xn5, xd2, xc2, xr3, xd4, xc4, hk, h⟩
        unfold offshootlaw04_LogFalls.j1 at h
        refine FW.wreg1 ?_
        refine FW.lfun (y := .lit (.int .i64 v14)) hk rfl rfl rfl rfl (FW.f_move hk (FW.holds_nil _) rfl) ?_; clear hk; intro a w hk
        refine FW.lfun (y := .lit (.int .i64 (IntKind.wrap .i64 (v14 + 1)))) hk rfl rfl rfl rfl ((FW.f_pure (FW.p_add hk.kn (FW.holds_nil _) rfl rfl))) ?_; clear hk; intro a w hk
        refine FW.lfun (y := .lit (.int .i64 (IntKind.wrap .i64 (v14 + 1)))) hk rfl rfl rfl rfl (FW.f_assign hk (FW.holds_nil _) rfl) ?_; clear hk; intro a w hk
        refine wpList_nil ?_
        (repeat first | refine FW.then_normal ?_ | refine FW.block_normal ?_); exact hK10 (kl1, y5_1, y5_2, y5_3, y5_4, y1_2, y1_4, l2, m3, l4, v0, v1, v2, v12, v13, (IntKind.wrap .i64 (v14 + 1)), xn5, xd2, xc2, xr3, xd4, xc4) _ _ (Nat.lt_succ_self _) ⟨hk.sub ⟨rfl, rfl, rfl, rfl, rfl, rfl, rfl, rfl, trivial⟩, h⟩
      · intro K' hK13
        refine wp_block ?_
        refine FW.wseqJ (fun a w => ∃ (y5_1 : Int) (y5_2 : Int) (y5_3 : Int) (y5_4 : Int) (y1_2 : Int) (y1_4 : Bool) (l2 : List (List UInt8)) (m3 : List (Int × (List UInt8))) (l4 : List ApiFall) (v0 : List (List UInt8)) (v1 : List ApiFall) (v2 : List Bool) (v12 : List (List UInt8)) (v13 : Int) (v14 : Int) (xd2 : Option Addr) (xc2 : Nat) (xr3 : Nat) (xd4 : Option Addr) (xc4 : Nat), FW.S M w0 a w 142 [FW.blk xn5 127 ([.lit (.pointer (some ⟨bx1, 0, none⟩)), .lit (.int .i64 y5_1), .lit (.int .i64 y5_2), .lit (.int .i64 y5_3), .lit (.int .u64 y5_4)]), FW.blk bx1 109 ([.lit (.slice xd2 (List.length l2) xc2), .lit (.map (some xr3)), .lit (.int .i64 y1_2), .lit (.slice xd4 (List.length l4) xc4), .lit (.bool y1_4)]), FW.orow xd2 xc2 9 1 c_str l2, FW.mapI (.int .i64) (Value.int .i64) FW.evS xr3 m3, FW.orow xd4 xc4 45 3 ApiFall.cells l4] [(0, [], .row (r_c_str v0)), (1, [], .row (r_ApiFall_cells v1)), (2, [], .row (r_c_bool v2)), (7, [], .lit (.pointer (some ⟨bx1, 0, none⟩))), (9, [], .lit (.pointer (some ⟨xn5, 0, none⟩))), (12, [], .row (r_c_str v12)), (13, [], .lit (.int .u64 v13)), (14, [], .lit (.int .i64 v14))] ∧ offshootlaw04_LogFalls.j2 (offshootlaw04_LogFalls.l1 K kl1) K y5_1 y5_2 y5_3 y5_4 y1_2 y1_4 l2 m3 l4 v0 v1 v2 v12 v13 v14 = some r) ?_ ?_
        · clear hk h
          rintro a w ⟨y5_1, y5_2, y5_3, y5_4, y1_2, y1_4, l2, m3, l4, v0, v1, v2, v12, v13, v14, xd2, xc2, xr3, xd4, xc4, hk, h⟩
          unfold offshootlaw04_LogFalls.j2 at h
          refine FW.wseqJ (fun a w => ∃ (y1_2 : Int) (y1_4 : Bool) (l2 : List (List UInt8)) (m3 : List (Int × (List UInt8))) (l4 : List ApiFall) (v0 : List (List UInt8)) (v1 : List ApiFall) (v2 : List Bool) (v12 : List (List UInt8)) (v13 : Int) (v14 : Int) (xd2 : Option Addr) (xc2 : Nat) (xr3 : Nat) (xd4 : Option Addr) (xc4 : Nat), FW.S M w0 a w 142 [FW.blk bx1 109 ([.lit (.slice xd2 (List.length l2) xc2), .lit (.map (some xr3)), .lit (.int .i64 y1_2), .lit (.slice xd4 (List.length l4) xc4), .lit (.bool y1_4)]), FW.orow xd2 xc2 9 1 c_str l2, FW.mapI (.int .i64) (Value.int .i64) FW.evS xr3 m3, FW.orow xd4 xc4 45 3 ApiFall.cells l4, FW.blk xn5 127 ([.lit (.pointer (some ⟨bx1, 0, none⟩)), .lit (.int .i64 y5_1), .lit (.int .i64 y5_2), .lit (.int .i64 y5_3), .lit (.int .u64 y5_4)])] [(0, [], .row (r_c_str v0)), (1, [], .row (r_ApiFall_cells v1)), (2, [], .row (r_c_bool v2)), (7, [], .lit (.pointer (some ⟨bx1, 0, none⟩))), (9, [], .lit (.pointer (some ⟨xn5, 0, none⟩))), (12, [], .row (r_c_str v12)), (13, [], .lit (.int .u64 v13)), (14, [], .lit (.int .i64 v14))] ∧ offshootlaw04_LogFalls.j3 (offshootlaw04_LogFalls.l1 K kl1) K y5_1 y5_2 y5_3 y5_4 y1_2 y1_4 l2 m3 l4 v0 v1 v2 v12 v13 v14 = some r) ?_ ?_
          · clear hk h
            rintro a w ⟨y1_2, y1_4, l2, m3, l4, v0, v1, v2, v12, v13, v14, xd2, xc2, xr3, xd4, xc4, hk, h⟩
            unfold offshootlaw04_LogFalls.j3 at h
            refine FW.wreg ?_; intro K' hK17
            refine FW.lfun (y := .row (r_c_str v0)) hk rfl rfl rfl rfl (FW.f_move hk (FW.holds_nil _) rfl) ?_; clear hk; intro a w hk
            refine FW.lfun (y := .lit (.int .i64 v14)) hk rfl rfl rfl rfl (FW.f_move hk (FW.holds_nil _) rfl) ?_; clear hk; intro a w hk
            obtain ⟨hc1, h⟩ := FW.chk h
            refine FW.lfun (y := .ref (c_str (List.getD v0 (Int.toNat v14) default))) hk rfl rfl rfl rfl (FW.f_indexAddr (R := r_c_str) (f := c_str) (l := v0) (sz := 1) r_c_str_eq (fun _ => rfl) hk (FW.holds_nil _) rfl rfl Go.Proofs.Try.underlying61 (by kernel_rfl) hc1) ?_; clear hk; intro a w hk
            refine FW.lfun (y := .lit (.string (FW.B (List.getD v0 (Int.toNat v14) default)))) hk rfl rfl rfl rfl (FW.f_load1 hk (FW.holds_nil _) rfl rfl Go.Proofs.Try.underlying9 rfl) ?_; clear hk; intro a w hk
            obtain ⟨t4, hr_t4, h⟩ := FW.bnd h
            refine FW.lfun (y := .lit (.string (FW.B t4))) hk rfl rfl rfl rfl (FW.f_call hk (FW.holds_nil _) rfl rfl Go.Proofs.Try.func49 rfl (by kernel_rfl) (offshootlaw04_few.ok (List.getD v0 (Int.toNat v14) default) _ hr_t4)) ?_; clear hk; intro a w hk
            refine FW.lfun (y := .lit (.string (FW.B t4))) hk rfl rfl rfl rfl (FW.f_assign hk (FW.holds_nil _) rfl) ?_; clear hk; intro a w hk
            refine FW.lend (hK17 _ _ ?_); clear hK17 K'
            refine FW.wreg ?_; intro K' hK18
            refine FW.lfun (y := .lit (.pointer (some ⟨xn5, 0, none⟩))) hk rfl rfl rfl rfl (FW.f_move hk (FW.holds_nil _) rfl) ?_; clear hk; intro a w hk
            refine FW.lfun (y := .lit (.string (FW.B t4))) hk rfl rfl rfl rfl (FW.f_move hk (FW.holds_nil _) rfl) ?_; clear hk; intro a w hk
            obtain ⟨t5, hr_t5, h⟩ := FW.bnd h
            refine FW.l_callH (I1 := (OLogLog.items xn5 bx1 (⟨y5_1, y5_2, y5_3, y5_4⟩ : OLogLog)) ++ (ODevDev.items bx1 xd2 xc2 xr3 xd4 xc4 (⟨l2, m3, y1_2, l4, y1_4⟩ : ODevDev))) (I2 := []) (js := [3, 3, 3, 3, 4]) hk rfl rfl rfl rfl rfl Go.Proofs.Try.func50 rfl (by kernel_rfl) (log_Log_Add.ok K (⟨y5_1, y5_2, y5_3, y5_4⟩ : OLogLog) (⟨l2, m3, y1_2, l4, y1_4⟩ : ODevDev) t4 _ hr_t5 xn5 bx1 xd2 xc2 xr3 xd4 xc4) ?_; clear hk
            rintro _ _ ⟨zd3, zc3, zr2, zd4, zc4, rfl, rfl⟩ a w hk
            refine FW.lfun (y := .lit (.int .i64 t5.1)) hk rfl rfl rfl rfl (FW.f_assign hk (FW.holds_nil _) rfl) ?_; clear hk; intro a w hk
            refine FW.lend (hK18 _ _ ?_); clear hK18 K'
            refine FW.wseq ?_; intro K' hK19
            refine FW.wreg ?_; intro K' hK20
            refine FW.lfun (y := .lit (.int .i64 t5.1)) hk rfl rfl rfl rfl (FW.f_move hk (FW.holds_nil _) rfl) ?_; clear hk; intro a w hk
            refine FW.lfun (y := .lit (.bool (decide (t5.1 = 0)))) hk rfl rfl rfl rfl ((FW.f_pure (FW.p_eql hk.kn (FW.holds_nil _) rfl rfl))) ?_; clear hk; intro a w hk
            refine FW.lend (hK20 _ _ ?_); clear hK20 K'
            refine FW.wcondF (b := (decide (t5.1 = 0))) hk h rfl (fun h hb => ?_) (fun h hb => ?_)
            · skip
              refine FW.wreg ?_; intro K' hK21
              refine FW.l_buildSlice0 (f := c_str) hk rfl rfl Go.Proofs.Try.underlying61 rfl (fun _ => rfl) ?_; clear hk; intro bx4 a w hk
              refine FW.lfun (y := .row (r_c_str v12)) hk rfl rfl rfl rfl (FW.f_move hk (FW.holds_nil _) rfl) ?_; clear hk; intro a w hk
              obtain ⟨hc2, h⟩ := FW.chk h
              refine FW.l_append (l2 := v12) (l3 := (([] : List (List UInt8)) ++ v12)) (I' := fun ad1 cap1 => [FW.orow ad1 cap1 9 1 c_str (([] : List (List UInt8)) ++ v12), FW.blk xn5 127 ([.lit (.pointer (some ⟨bx1, 0, none⟩)), .lit (.int .i64 t5.2.1.from_), .lit (.int .i64 t5.2.1.to_), .lit (.int .i64 t5.2.1.at_), .lit (.int .u64 t5.2.1.next)]), FW.blk bx1 109 ([.lit (.slice zd3 (List.length t5.2.2.sure) zc3), .lit (.map (some zr2)), .lit (.int .i64 t5.2.2.steps), .lit (.slice zd4 (List.length t5.2.2.falls) zc4), .lit (.bool t5.2.2.off)]), FW.orow zd3 zc3 9 1 c_str t5.2.2.sure, FW.mapI (.int .i64) (Value.int .i64) FW.evS zr2 t5.2.2.cache, FW.orow zd4 zc4 45 3 ApiFall.cells t5.2.2.falls]) (j := 0) hk rfl rfl rfl rfl (FW.imm_src (sz := 1) hk r_c_str_eq rfl (fun _ => rfl) (fun _ => rfl) Go.Proofs.Try.underlying61) Go.Proofs.Try.underlying61 (by kernel_rfl) hc2 rfl (fun _ _ => rfl) ?_; clear hk; intro ad1 cap1 a w hk
              refine FW.lfun (y := .lit (.string (FW.B t4))) hk rfl rfl rfl rfl (FW.f_move hk (FW.holds_nil _) rfl) ?_; clear hk; intro a w hk
              refine FW.l_buildSlice (f := c_str) (l := ([t4] : List (List UInt8))) hk rfl rfl rfl Go.Proofs.Try.underlying61 rfl rfl rfl rfl (fun _ => rfl) rfl ?_; clear hk; intro bx5 a w hk
              obtain ⟨hc3, h⟩ := FW.chk h
              refine FW.l_append (l2 := ([t4] : List (List UInt8))) (l3 := ((([] : List (List UInt8)) ++ v12) ++ ([t4] : List (List UInt8)))) (I' := fun ad2 cap2 => [FW.orow (some ⟨bx5, 0, none⟩) 1 9 1 c_str ([t4] : List (List UInt8)), FW.orow ad2 cap2 9 1 c_str ((([] : List (List UInt8)) ++ v12) ++ ([t4] : List (List UInt8))), FW.blk xn5 127 ([.lit (.pointer (some ⟨bx1, 0, none⟩)), .lit (.int .i64 t5.2.1.from_), .lit (.int .i64 t5.2.1.to_), .lit (.int .i64 t5.2.1.at_), .lit (.int .u64 t5.2.1.next)]), FW.blk bx1 109 ([.lit (.slice zd3 (List.length t5.2.2.sure) zc3), .lit (.map (some zr2)), .lit (.int .i64 t5.2.2.steps), .lit (.slice zd4 (List.length t5.2.2.falls) zc4), .lit (.bool t5.2.2.off)]), FW.orow zd3 zc3 9 1 c_str t5.2.2.sure, FW.mapI (.int .i64) (Value.int .i64) FW.evS zr2 t5.2.2.cache, FW.orow zd4 zc4 45 3 ApiFall.cells t5.2.2.falls]) (j := 1) hk rfl rfl rfl rfl (FW.own_src hk (j := 0) rfl rfl (fun _ => rfl) Go.Proofs.Try.underlying61) Go.Proofs.Try.underlying61 (by kernel_rfl) hc3 rfl (fun _ _ => rfl) ?_; clear hk; intro ad2 cap2 a w hk
              replace hk := FW.S.dropI (I' := [FW.orow ad2 cap2 9 1 c_str ((([] : List (List UInt8)) ++ v12) ++ ([t4] : List (List UInt8))), FW.blk xn5 127 ([.lit (.pointer (some ⟨bx1, 0, none⟩)), .lit (.int .i64 t5.2.1.from_), .lit (.int .i64 t5.2.1.to_), .lit (.int .i64 t5.2.1.at_), .lit (.int .u64 t5.2.1.next)]), FW.blk bx1 109 ([.lit (.slice zd3 (List.length t5.2.2.sure) zc3), .lit (.map (some zr2)), .lit (.int .i64 t5.2.2.steps), .lit (.slice zd4 (List.length t5.2.2.falls) zc4), .lit (.bool t5.2.2.off)]), FW.orow zd3 zc3 9 1 c_str t5.2.2.sure, FW.mapI (.int .i64) (Value.int .i64) FW.evS zr2 t5.2.2.cache, FW.orow zd4 zc4 45 3 ApiFall.cells t5.2.2.falls]) hk 0 rfl
              replace hk := (FW.S.freezeR (I' := [FW.blk xn5 127 ([.lit (.pointer (some ⟨bx1, 0, none⟩)), .lit (.int .i64 t5.2.1.from_), .lit (.int .i64 t5.2.1.to_), .lit (.int .i64 t5.2.1.at_), .lit (.int .u64 t5.2.1.next)]), FW.blk bx1 109 ([.lit (.slice zd3 (List.length t5.2.2.sure) zc3), .lit (.map (some zr2)), .lit (.int .i64 t5.2.2.steps), .lit (.slice zd4 (List.length t5.2.2.falls) zc4), .lit (.bool t5.2.2.off)]), FW.orow zd3 zc3 9 1 c_str t5.2.2.sure, FW.mapI (.int .i64) (Value.int .i64) FW.evS zr2 t5.2.2.cache, FW.orow zd4 zc4 45 3 ApiFall.cells t5.2.2.falls]) r_c_str_eq hk (j := 0) rfl (t := 106) rfl rfl).squash
              refine FW.lfun (y := .row (r_c_str ((([] : List (List UInt8)) ++ v12) ++ ([t4] : List (List UInt8))))) hk rfl rfl rfl rfl (FW.f_assign hk (FW.holds_nil _) rfl) ?_; clear hk; intro a w hk
              refine FW.lend (hK21 _ _ ?_); clear hK21 K'
              refine wp_exit ?_; (repeat first | refine FW.then_exit ?_ | refine FW.block_exit_ne rfl ?_); refine FW.block_exit ?_
              (repeat first | refine FW.then_normal ?_ | refine FW.block_normal ?_); exact hK13 _ _ ⟨t5.2.1.from_, t5.2.1.to_, t5.2.1.at_, t5.2.1.next, t5.2.2.steps, t5.2.2.off, t5.2.2.sure, t5.2.2.cache, t5.2.2.falls, v0, v1, v2, ((([] : List (List UInt8)) ++ v12) ++ ([t4] : List (List UInt8))), v13, v14, xn5, zd3, zc3, zr2, zd4, zc4, hk.sub ⟨rfl, rfl, rfl, rfl, rfl, rfl, rfl, rfl, trivial⟩, h⟩
            · skip
              refine wp_skip ?_
              (repeat first | refine FW.then_normal ?_ | refine FW.block_normal ?_); refine hK19 _ _ ?_
              refine FW.wseq ?_; intro K' hK22
              refine FW.wreg ?_; intro K' hK23
              refine FW.lfun (y := .lit (.int .i64 t5.1)) hk rfl rfl rfl rfl (FW.f_move hk (FW.holds_nil _) rfl) ?_; clear hk; intro a w hk
              refine FW.lfun (y := .lit (.bool (!decide (t5.1 = 7)))) hk rfl rfl rfl rfl ((FW.f_pure (FW.p_neq hk.kn (FW.holds_nil _) rfl rfl))) ?_; clear hk; intro a w hk
              refine FW.lend (hK23 _ _ ?_); clear hK23 K'
              refine FW.wcondF (b := (!decide (t5.1 = 7))) hk h rfl (fun h hb => ?_) (fun h hb => ?_)
              · skip
                refine wp_exit ?_; (repeat first | refine FW.then_exit ?_ | refine FW.block_exit_ne rfl ?_); refine FW.block_exit ?_
                (repeat first | refine FW.then_normal ?_ | refine FW.block_normal ?_); exact hK13 _ _ ⟨t5.2.1.from_, t5.2.1.to_, t5.2.1.at_, t5.2.1.next, t5.2.2.steps, t5.2.2.off, t5.2.2.sure, t5.2.2.cache, t5.2.2.falls, v0, v1, v2, v12, v13, v14, xn5, zd3, zc3, zr2, zd4, zc4, hk.sub ⟨rfl, rfl, rfl, rfl, rfl, rfl, rfl, rfl, trivial⟩, h⟩
              · skip
                refine wp_skip ?_
                (repeat first | refine FW.then_normal ?_ | refine FW.block_normal ?_); refine hK22 _ _ ?_
                refine FW.wreg ?_; intro K' hK24
                refine FW.lfun (y := .lit (.pointer (some ⟨bx1, 0, none⟩))) hk rfl rfl rfl rfl (FW.f_move hk (FW.holds_nil _) rfl) ?_; clear hk; intro a w hk
                obtain ⟨t6, hr_t6, h⟩ := FW.bnd h
                refine FW.l_callH (I1 := (ODevDev.items bx1 zd3 zc3 zr2 zd4 zc4 t5.2.2)) (I2 := [FW.blk xn5 127 ([.lit (.pointer (some ⟨bx1, 0, none⟩)), .lit (.int .i64 t5.2.1.from_), .lit (.int .i64 t5.2.1.to_), .lit (.int .i64 t5.2.1.at_), .lit (.int .u64 t5.2.1.next)])]) (js := [4, 4, 4, 4]) hk rfl rfl rfl rfl rfl Go.Proofs.Try.func39 rfl (by kernel_rfl) (FW.OkH.nil1 (dev_Dev_Plan.ok t5.2.2 [] _ hr_t6 bx1 zd3 zc3 zr2 zd4 zc4)) ?_; clear hk
                rintro _ _ ⟨zd5, zc5, zr3, zd6, zc6, rfl, rfl⟩ a w hk
                refine FW.lend (hK24 _ _ ?_); clear hK24 K'
                refine FW.wreg ?_; intro K' hK25
                refine FW.lfun (y := .lit (.pointer (some ⟨bx1, 0, none⟩))) hk rfl rfl rfl rfl (FW.f_move hk (FW.holds_nil _) rfl) ?_; clear hk; intro a w hk
                obtain ⟨t7, hr_t7, h⟩ := FW.bnd h
                refine FW.l_callH (I1 := (ODevDev.items bx1 zd5 zc5 zr3 zd6 zc6 t6)) (I2 := [FW.blk xn5 127 ([.lit (.pointer (some ⟨bx1, 0, none⟩)), .lit (.int .i64 t5.2.1.from_), .lit (.int .i64 t5.2.1.to_), .lit (.int .i64 t5.2.1.at_), .lit (.int .u64 t5.2.1.next)])]) (js := [3, 3, 3, 3]) hk rfl rfl rfl rfl rfl Go.Proofs.Try.func33 rfl (by kernel_rfl) (dev_Dev_Up.ok t6 _ hr_t7 bx1 zd5 zc5 zr3 zd6 zc6) ?_; clear hk
                rintro _ _ ⟨zd7, zc7, zr4, zd8, zc8, rfl, rfl⟩ a w hk
                refine FW.lend (hK25 _ _ ?_); clear hK25 K'
                refine FW.wreg ?_; intro K' hK26
                refine FW.lfun (y := .lit (.pointer (some ⟨bx1, 0, none⟩))) hk rfl rfl rfl rfl (FW.f_move hk (FW.holds_nil _) rfl) ?_; clear hk; intro a w hk
                refine FW.lfun (y := .lit (.int .u64 v13)) hk rfl rfl rfl rfl (FW.f_move hk (FW.holds_nil _) rfl) ?_; clear hk; intro a w hk
                obtain ⟨t8, hr_t8, h⟩ := FW.bnd h
                refine FW.l_callH (I1 := (ODevDev.items bx1 zd7 zc7 zr4 zd8 zc8 t7.2)) (I2 := [FW.blk xn5 127 ([.lit (.pointer (some ⟨bx1, 0, none⟩)), .lit (.int .i64 t5.2.1.from_), .lit (.int .i64 t5.2.1.to_), .lit (.int .i64 t5.2.1.at_), .lit (.int .u64 t5.2.1.next)])]) (js := [3, 3, 3, 3]) hk rfl rfl rfl rfl rfl Go.Proofs.Try.func47 rfl (by kernel_rfl) (log_Open.ok K t7.2 0 14 v13 _ hr_t8 bx1 zd7 zc7 zr4 zd8 zc8) ?_; clear hk
                rintro _ _ ⟨bx6, zd9, zc9, zr5, zd10, zc10, rfl, rfl⟩ a w hk
                refine FW.lfun (y := .tup [.lit (.pointer (some ⟨bx6, 0, none⟩)), .row (r_c_str t8.2.1), .lit (.int .i64 t8.2.2.1)]) hk rfl rfl rfl rfl (FW.f_move hk (FW.holds_nil _) rfl) ?_; clear hk; intro a w hk
                refine FW.lfun (y := .lit (.pointer (some ⟨bx6, 0, none⟩))) hk rfl rfl rfl rfl (FW.f_extract hk (FW.holds_nil _) rfl rfl) ?_; clear hk; intro a w hk
                refine FW.lfun (y := .row (r_c_str t8.2.1)) hk rfl rfl rfl rfl (FW.f_extract hk (FW.holds_nil _) rfl rfl) ?_; clear hk; intro a w hk
                refine FW.lfun (y := .lit (.int .i64 t8.2.2.1)) hk rfl rfl rfl rfl (FW.f_extract hk (FW.holds_nil _) rfl rfl) ?_; clear hk; intro a w hk
                refine FW.lfun (y := .lit (.pointer (some ⟨bx6, 0, none⟩))) hk rfl rfl rfl rfl (FW.f_assign hk (FW.holds_nil _) rfl) ?_; clear hk; intro a w hk
                refine FW.lfun (y := .row (r_c_str t8.2.1)) hk rfl rfl rfl rfl (FW.f_assign hk (FW.holds_nil _) rfl) ?_; clear hk; intro a w hk
                refine FW.lfun (y := .lit (.int .i64 t8.2.2.1)) hk rfl rfl rfl rfl (FW.f_assign hk (FW.holds_nil _) rfl) ?_; clear hk; intro a w hk
                refine FW.lend (hK26 _ _ ?_); clear hK26 K'
                refine FW.wreg ?_; intro K' hK27
                refine FW.l_buildSlice0 (f := c_str) hk rfl rfl Go.Proofs.Try.underlying61 rfl (fun _ => rfl) ?_; clear hk; intro bx7 a w hk
                refine FW.lfun (y := .row (r_c_str v12)) hk rfl rfl rfl rfl (FW.f_move hk (FW.holds_nil _) rfl) ?_; clear hk; intro a w hk
                obtain ⟨hc4, h⟩ := FW.chk h
                refine FW.l_append (l2 := v12) (l3 := (([] : List (List UInt8)) ++ v12)) (I' := fun ad3 cap3 => [FW.orow ad3 cap3 9 1 c_str (([] : List (List UInt8)) ++ v12), FW.blk bx6 127 ([.lit (.pointer (some ⟨bx1, 0, none⟩)), .lit (.int .i64 t8.1.from_), .lit (.int .i64 t8.1.to_), .lit (.int .i64 t8.1.at_), .lit (.int .u64 t8.1.next)]), FW.blk bx1 109 ([.lit (.slice zd9 (List.length t8.2.2.2.sure) zc9), .lit (.map (some zr5)), .lit (.int .i64 t8.2.2.2.steps), .lit (.slice zd10 (List.length t8.2.2.2.falls) zc10), .lit (.bool t8.2.2.2.off)]), FW.orow zd9 zc9 9 1 c_str t8.2.2.2.sure, FW.mapI (.int .i64) (Value.int .i64) FW.evS zr5 t8.2.2.2.cache, FW.orow zd10 zc10 45 3 ApiFall.cells t8.2.2.2.falls, FW.blk xn5 127 ([.lit (.pointer (some ⟨bx1, 0, none⟩)), .lit (.int .i64 t5.2.1.from_), .lit (.int .i64 t5.2.1.to_), .lit (.int .i64 t5.2.1.at_), .lit (.int .u64 t5.2.1.next)])]) (j := 0) hk rfl rfl rfl rfl (FW.imm_src (sz := 1) hk r_c_str_eq rfl (fun _ => rfl) (fun _ => rfl) Go.Proofs.Try.underlying61) Go.Proofs.Try.underlying61 (by kernel_rfl) hc4 rfl (fun _ _ => rfl) ?_; clear hk; intro ad3 cap3 a w hk
                refine FW.lfun (y := .lit (.string (FW.B t4))) hk rfl rfl rfl rfl (FW.f_move hk (FW.holds_nil _) rfl) ?_; clear hk; intro a w hk
                refine FW.l_buildSlice (f := c_str) (l := ([t4] : List (List UInt8))) hk rfl rfl rfl Go.Proofs.Try.underlying61 rfl rfl rfl rfl (fun _ => rfl) rfl ?_; clear hk; intro bx8 a w hk
                obtain ⟨hc5, h⟩ := FW.chk h
                refine FW.l_append (l2 := ([t4] : List (List UInt8))) (l3 := ((([] : List (List UInt8)) ++ v12) ++ ([t4] : List (List UInt8)))) (I' := fun ad4 cap4 => [FW.orow (some ⟨bx8, 0, none⟩) 1 9 1 c_str ([t4] : List (List UInt8)), FW.orow ad4 cap4 9 1 c_str ((([] : List (List UInt8)) ++ v12) ++ ([t4] : List (List UInt8))), FW.blk bx6 127 ([.lit (.pointer (some ⟨bx1, 0, none⟩)), .lit (.int .i64 t8.1.from_), .lit (.int .i64 t8.1.to_), .lit (.int .i64 t8.1.at_), .lit (.int .u64 t8.1.next)]), FW.blk bx1 109 ([.lit (.slice zd9 (List.length t8.2.2.2.sure) zc9), .lit (.map (some zr5)), .lit (.int .i64 t8.2.2.2.steps), .lit (.slice zd10 (List.length t8.2.2.2.falls) zc10), .lit (.bool t8.2.2.2.off)]), FW.orow zd9 zc9 9 1 c_str t8.2.2.2.sure, FW.mapI (.int .i64) (Value.int .i64) FW.evS zr5 t8.2.2.2.cache, FW.orow zd10 zc10 45 3 ApiFall.cells t8.2.2.2.falls, FW.blk xn5 127 ([.lit (.pointer (some ⟨bx1, 0, none⟩)), .lit (.int .i64 t5.2.1.from_), .lit (.int .i64 t5.2.1.to_), .lit (.int .i64 t5.2.1.at_), .lit (.int .u64 t5.2.1.next)])]) (j := 1) hk rfl rfl rfl rfl (FW.own_src hk (j := 0) rfl rfl (fun _ => rfl) Go.Proofs.Try.underlying61) Go.Proofs.Try.underlying61 (by kernel_rfl) hc5 rfl (fun _ _ => rfl) ?_; clear hk; intro ad4 cap4 a w hk
                replace hk := FW.S.dropI (I' := [FW.orow ad4 cap4 9 1 c_str ((([] : List (List UInt8)) ++ v12) ++ ([t4] : List (List UInt8))), FW.blk bx6 127 ([.lit (.pointer (some ⟨bx1, 0, none⟩)), .lit (.int .i64 t8.1.from_), .lit (.int .i64 t8.1.to_), .lit (.int .i64 t8.1.at_), .lit (.int .u64 t8.1.next)]), FW.blk bx1 109 ([.lit (.slice zd9 (List.length t8.2.2.2.sure) zc9), .lit (.map (some zr5)), .lit (.int .i64 t8.2.2.2.steps), .lit (.slice zd10 (List.length t8.2.2.2.falls) zc10), .lit (.bool t8.2.2.2.off)]), FW.orow zd9 zc9 9 1 c_str t8.2.2.2.sure, FW.mapI (.int .i64) (Value.int .i64) FW.evS zr5 t8.2.2.2.cache, FW.orow zd10 zc10 45 3 ApiFall.cells t8.2.2.2.falls, FW.blk xn5 127 ([.lit (.pointer (some ⟨bx1, 0, none⟩)), .lit (.int .i64 t5.2.1.from_), .lit (.int .i64 t5.2.1.to_), .lit (.int .i64 t5.2.1.at_), .lit (.int .u64 t5.2.1.next)])]) hk 0 rfl
                replace hk := (FW.S.freezeR (I' := [FW.blk bx6 127 ([.lit (.pointer (some ⟨bx1, 0, none⟩)), .lit (.int .i64 t8.1.from_), .lit (.int .i64 t8.1.to_), .lit (.int .i64 t8.1.at_), .lit (.int .u64 t8.1.next)]), FW.blk bx1 109 ([.lit (.slice zd9 (List.length t8.2.2.2.sure) zc9), .lit (.map (some zr5)), .lit (.int .i64 t8.2.2.2.steps), .lit (.slice zd10 (List.length t8.2.2.2.falls) zc10), .lit (.bool t8.2.2.2.off)]), FW.orow zd9 zc9 9 1 c_str t8.2.2.2.sure, FW.mapI (.int .i64) (Value.int .i64) FW.evS zr5 t8.2.2.2.cache, FW.orow zd10 zc10 45 3 ApiFall.cells t8.2.2.2.falls, FW.blk xn5 127 ([.lit (.pointer (some ⟨bx1, 0, none⟩)), .lit (.int .i64 t5.2.1.from_), .lit (.int .i64 t5.2.1.to_), .lit (.int .i64 t5.2.1.at_), .lit (.int .u64 t5.2.1.next)])]) r_c_str_eq hk (j := 0) rfl (t := 125) rfl rfl).squash
                refine FW.lfun (y := .row (r_c_str ((([] : List (List UInt8)) ++ v12) ++ ([t4] : List (List UInt8))))) hk rfl rfl rfl rfl (FW.f_assign hk (FW.holds_nil _) rfl) ?_; clear hk; intro a w hk
                refine FW.lend (hK27 _ _ ?_); clear hK27 K'
                refine FW.wseq ?_; intro K' hK28
                refine FW.wreg ?_; intro K' hK29
                refine FW.lfun (y := .lit (.int .i64 t8.2.2.1)) hk rfl rfl rfl rfl (FW.f_move hk (FW.holds_nil _) rfl) ?_; clear hk; intro a w hk
                refine FW.lfun (y := .lit (.bool (!decide (t8.2.2.1 = 0)))) hk rfl rfl rfl rfl ((FW.f_pure (FW.p_neq hk.kn (FW.holds_nil _) rfl rfl))) ?_; clear hk; intro a w hk
                refine FW.lfun (y := .lit (.bool (!decide (t8.2.2.1 = 0)))) hk rfl rfl rfl rfl (FW.f_move hk (FW.holds_nil _) rfl) ?_; clear hk; intro a w hk
                refine FW.lfunG (y := .row (r_c_str t8.2.1)) hk rfl rfl rfl rfl rfl rfl rfl rfl (fun hc => FW.f_move hk hc rfl) ?_; clear hk; intro a w hk
                refine FW.lfunG (y := .row (r_c_str v12)) hk rfl rfl rfl rfl rfl rfl rfl rfl (fun hc => FW.f_move hk hc rfl) ?_; clear hk; intro a w hk
                obtain ⟨t9, hr_t9, h⟩ := FW.bndG h
                refine FW.lfunG (y := .lit (.bool t9)) hk rfl rfl rfl rfl rfl rfl rfl rfl (fun hc => FW.f_call hk hc rfl rfl Go.Proofs.Try.func52 rfl (by kernel_rfl) (offshootlaw04_same.ok K t8.2.1 v12 _ (hr_t9 (FW.asm_out (p := (!decide (t8.2.2.1 = 0)) = false) hk.kn hc (fun e0 => e0))))) ?_; clear hk; intro a w hk
                refine FW.lfunG (y := .lit (.bool (!t9))) hk rfl rfl rfl rfl rfl rfl rfl rfl (fun hc => (FW.f_pure (FW.p_not hk.kn hc rfl))) ?_; clear hk; intro a w hk
                refine FW.lfunG (y := .lit (.bool (!t9))) hk rfl rfl rfl rfl rfl rfl rfl rfl (fun hc => FW.f_move hk hc rfl) ?_; clear hk; intro a w hk
                refine FW.lfunG (y := .row (r_c_str t8.2.1)) hk rfl rfl rfl rfl rfl rfl rfl rfl (fun hc => FW.f_move hk hc rfl) ?_; clear hk; intro a w hk
                refine FW.lfunG (y := .row (r_c_str ((([] : List (List UInt8)) ++ v12) ++ ([t4] : List (List UInt8))))) hk rfl rfl rfl rfl rfl rfl rfl rfl (fun hc => FW.f_move hk hc rfl) ?_; clear hk; intro a w hk
                obtain ⟨t10, hr_t10, h⟩ := FW.bndG h
                refine FW.lfunG (y := .lit (.bool t10)) hk rfl rfl rfl rfl rfl rfl rfl rfl (fun hc => FW.f_call hk hc rfl rfl Go.Proofs.Try.func52 rfl (by kernel_rfl) (offshootlaw04_same.ok K t8.2.1 ((([] : List (List UInt8)) ++ v12) ++ ([t4] : List (List UInt8))) _ (hr_t10 (FW.asm_out (p := (!t9) = true ∧ (!decide (t8.2.2.1 = 0)) = false) hk.kn hc (fun e0 => fun e1 => ⟨e0, e1⟩))))) ?_; clear hk; intro a w hk
                refine FW.lfunG (y := .lit (.bool (!t10))) hk rfl rfl rfl rfl rfl rfl rfl rfl (fun hc => (FW.f_pure (FW.p_not hk.kn hc rfl))) ?_; clear hk; intro a w hk
                refine FW.lfunG (y := .lit (.bool ((!t9) && (!t10)))) hk rfl rfl rfl rfl rfl rfl rfl rfl (fun hc => (FW.f_pure (FW.p_pick_and hk.kn hc rfl rfl))) ?_; clear hk; intro a w hk
                refine FW.lfun (y := .lit (.bool ((!decide (t8.2.2.1 = 0)) || ((!t9) && (!t10))))) hk rfl rfl rfl rfl ((FW.f_pure (FW.p_pick_or hk.kn (FW.holds_nil _) rfl rfl))) ?_; clear hk; intro a w hk
                refine FW.lend (hK29 _ _ ?_); clear hK29 K'
                refine FW.wcondF (b := ((!decide (t8.2.2.1 = 0)) || ((!t9) && (!t10)))) hk h rfl (fun h hb => ?_) (fun h hb => ?_)
                · skip
                  refine FW.wreg ?_; intro K' hK30
                  refine FW.lfun (y := .lit (.bool false)) hk rfl rfl rfl rfl (FW.f_assign hk (FW.holds_nil _) rfl) ?_; clear hk; intro a w hk
                  refine FW.lend (hK30 _ _ ?_); clear hK30 K'
                  refine wp_ret ?_
                  (repeat first | refine FW.then_ret ?_ | refine FW.block_ret ?_)
                  obtain rfl := Option.some.inj h
                  exact FW.fret1 hk rfl rfl
                · skip
                  refine wp_skip ?_
                  (repeat first | refine FW.then_normal ?_ | refine FW.block_normal ?_); refine hK28 _ _ ?_
                  refine FW.wreg1 ?_
                  refine FW.lfun (y := .lit (.pointer (some ⟨bx6, 0, none⟩))) hk rfl rfl rfl rfl (FW.f_move hk (FW.holds_nil _) rfl) ?_; clear hk; intro a w hk
                  refine FW.lfun (y := .row (r_c_str t8.2.1)) hk rfl rfl rfl rfl (FW.f_move hk (FW.holds_nil _) rfl) ?_; clear hk; intro a w hk
                  refine FW.lfun (y := .lit (.pointer (some ⟨bx6, 0, none⟩))) hk rfl rfl rfl rfl (FW.f_assign hk (FW.holds_nil _) rfl) ?_; clear hk; intro a w hk
                  refine FW.lfun (y := .row (r_c_str t8.2.1)) hk rfl rfl rfl rfl (FW.f_assign hk (FW.holds_nil _) rfl) ?_; clear hk; intro a w hk
                  refine wpList_nil ?_
                  (repeat first | refine FW.then_normal ?_ | refine FW.block_normal ?_); exact hK13 _ _ ⟨t8.1.from_, t8.1.to_, t8.1.at_, t8.1.next, t8.2.2.2.steps, t8.2.2.2.off, t8.2.2.2.sure, t8.2.2.2.cache, t8.2.2.2.falls, v0, v1, v2, t8.2.1, v13, v14, bx6, zd9, zc9, zr5, zd10, zc10, (hk.drop 5).sub ⟨rfl, rfl, rfl, rfl, rfl, rfl, rfl, rfl, trivial⟩, h⟩
          · intro K' hK16
            refine FW.wreg ?_; intro K' hK32
            refine FW.lfun (y := .lit (.int .i64 v14)) hk rfl rfl rfl rfl (FW.f_move hk (FW.holds_nil _) rfl) ?_; clear hk; intro a w hk
            refine FW.lfun (y := .row (r_ApiFall_cells v1)) hk rfl rfl rfl rfl (FW.f_move hk (FW.holds_nil _) rfl) ?_; clear hk; intro a w hk
            refine FW.lfun (y := .lit (.int .i64 (List.length v1 : Int))) hk rfl rfl rfl rfl (FW.f_len (R := r_ApiFall_cells) (f := ApiFall.cells) (l := v1) r_ApiFall_cells_eq Go.Proofs.Try.underlying74 hk (FW.holds_nil _) rfl) ?_; clear hk; intro a w hk
            refine FW.lfun (y := .lit (.bool (decide (v14 < (List.length v1 : Int))))) hk rfl rfl rfl rfl ((FW.f_pure (FW.p_lss hk.kn (FW.holds_nil _) rfl rfl))) ?_; clear hk; intro a w hk
            refine FW.lend (hK32 _ _ ?_); clear hK32 K'
            refine FW.wcondF (b := (decide (v14 < (List.length v1 : Int)))) hk h rfl (fun h hb => ?_) (fun h hb => ?_)
            · skip
              refine FW.wreg ?_; intro K' hK33
              refine FW.lfun (y := .row (r_ApiFall_cells v1)) hk rfl rfl rfl rfl (FW.f_move hk (FW.holds_nil _) rfl) ?_; clear hk; intro a w hk
              refine FW.lfun (y := .lit (.int .i64 v14)) hk rfl rfl rfl rfl (FW.f_move hk (FW.holds_nil _) rfl) ?_; clear hk; intro a w hk
              obtain ⟨hc6, h⟩ := FW.chk h
              refine FW.lfun (y := .ref (ApiFall.cells (List.getD v1 (Int.toNat v14) default))) hk rfl rfl rfl rfl (FW.f_indexAddr (R := r_ApiFall_cells) (f := ApiFall.cells) (l := v1) (sz := 3) r_ApiFall_cells_eq (fun _ => rfl) hk (FW.holds_nil _) rfl rfl Go.Proofs.Try.underlying74 (by kernel_rfl) hc6) ?_; clear hk; intro a w hk
              refine FW.lfun (y := .agg ((ApiFall.cells (List.getD v1 (Int.toNat v14) default)))) hk rfl rfl rfl rfl (FW.f_load hk (FW.holds_nil _) rfl Go.Proofs.Try.underlying45 rfl rfl rfl rfl) ?_; clear hk; intro a w hk
              refine FW.l_alloc (zs := (ApiFall.cells (⟨0, 0, 0⟩ : ApiFall))) [] hk rfl rfl rfl rfl ?_; clear hk; intro bx9 a w hk
              refine FW.l_store (I' := [FW.blk bx9 45 ((ApiFall.cells (List.getD v1 (Int.toNat v14) default))), FW.blk xn5 127 ([.lit (.pointer (some ⟨bx1, 0, none⟩)), .lit (.int .i64 y5_1), .lit (.int .i64 y5_2), .lit (.int .i64 y5_3), .lit (.int .u64 y5_4)]), FW.blk bx1 109 ([.lit (.slice xd2 (List.length l2) xc2), .lit (.map (some xr3)), .lit (.int .i64 y1_2), .lit (.slice xd4 (List.length l4) xc4), .lit (.bool y1_4)]), FW.orow xd2 xc2 9 1 c_str l2, FW.mapI (.int .i64) (Value.int .i64) FW.evS xr3 m3, FW.orow xd4 xc4 45 3 ApiFall.cells l4]) (cs' := (ApiFall.cells (List.getD v1 (Int.toNat v14) default))) (j := 0) hk rfl rfl rfl rfl rfl (by kernel_rfl) rfl rfl ?_; clear hk; intro w hk
              refine FW.lend (hK33 _ _ ?_); clear hK33 K'
              refine FW.wseqJ (fun a w => ∃ (y7 : ApiFall) (v0 : List (List UInt8)) (v1 : List ApiFall) (v2 : List Bool) (v12 : List (List UInt8)) (v13 : Int) (v14 : Int), FW.S M w0 a w 142 [FW.blk bx9 45 ((ApiFall.cells y7)), FW.blk xn5 127 ([.lit (.pointer (some ⟨bx1, 0, none⟩)), .lit (.int .i64 y5_1), .lit (.int .i64 y5_2), .lit (.int .i64 y5_3), .lit (.int .u64 y5_4)]), FW.blk bx1 109 ([.lit (.slice xd2 (List.length l2) xc2), .lit (.map (some xr3)), .lit (.int .i64 y1_2), .lit (.slice xd4 (List.length l4) xc4), .lit (.bool y1_4)]), FW.orow xd2 xc2 9 1 c_str l2, FW.mapI (.int .i64) (Value.int .i64) FW.evS xr3 m3, FW.orow xd4 xc4 45 3 ApiFall.cells l4] [(0, [], .row (r_c_str v0)), (1, [], .row (r_ApiFall_cells v1)), (2, [], .row (r_c_bool v2)), (7, [], .lit (.pointer (some ⟨bx1, 0, none⟩))), (9, [], .lit (.pointer (some ⟨xn5, 0, none⟩))), (12, [], .row (r_c_str v12)), (13, [], .lit (.int .u64 v13)), (14, [], .lit (.int .i64 v14)), (15, [], .lit (.pointer (some ⟨bx9, 0, none⟩)))] ∧ offshootlaw04_LogFalls.j4 (offshootlaw04_LogFalls.l1 K kl1) K l2 l4 m3 y1_2 y1_4 y5_1 y5_2 y5_3 y5_4 y7 v0 v1 v2 v12 v13 v14 = some r) ?_ ?_
              · clear hk h
                rintro a w ⟨y7, v0, v1, v2, v12, v13, v14, hk, h⟩
                unfold offshootlaw04_LogFalls.j4 at h
                obtain ⟨t11, hr_t11, h⟩ := FW.bnd h
                refine FW.wdrawE (.next [true, false, true, true, true, false, false, false] 1 [true, false, true, true, true, false, false, false] (.next [false, false, true, true, true, true, true, false] 7 [true, true, true, true, true, true, true, false] (.leaf [false, false, false, false, false, false, false, false]))) [(80, [], .lit (.pointer (some ⟨bx1, 0, none⟩))), (81, [], .agg []), (82, [], .lit (.pointer (some ⟨bx9, 0, none⟩))), (83, [], .lit (.int .i64 y7.At)), (84, [], .lit (.int .i64 (Int.tmod y7.At 9))), (85, [], .agg []), (86, [], .agg []), (142, [], .lit undef)] (by kernel_rfl) (by kernel_rfl) (by kernel_rfl) (by kernel_rfl) hk ?_; clear hk
                refine FW.gnext ?_ rfl rfl rfl rfl rfl ?_
                · skip
                  refine FW.gfun (y := .lit (.pointer (some ⟨bx1, 0, none⟩))) rfl rfl rfl rfl (fun a w hk => FW.f_move hk (FW.holds_nil _) rfl) ?_
                  refine FW.gskip rfl rfl ?_
                  refine FW.gfun (y := .lit (.pointer (some ⟨bx9, 0, none⟩))) rfl rfl rfl rfl (fun a w hk => FW.f_fieldPtr hk (FW.holds_nil _) rfl Go.Proofs.Try.underlying45 rfl (by kernel_rfl) rfl) ?_
                  refine FW.gfun (y := .lit (.int .i64 y7.At)) rfl rfl rfl rfl (fun a w hk => FW.f_loadBlk1 hk (FW.holds_nil _) (j := 0) rfl rfl Go.Proofs.Try.underlying3 rfl rfl) ?_
                  refine FW.gfun (y := .lit (.int .i64 (Int.tmod y7.At 9))) rfl rfl rfl rfl (fun a w hk => (FW.f_pure (FW.p_rem hk.kn (FW.holds_nil _) rfl rfl (show ¬ (9 : Int) = 0 from by decide)))) ?_
                  refine FW.gskip rfl rfl ?_
                  refine FW.gskip rfl rfl ?_
                  refine FW.gskip0 rfl ?_
                  exact FW.gend
                · skip
                  intro σD a w opsD QD hk hf hQ hX
                  refine FW.l_callH (I1 := (ODevDev.items bx1 xd2 xc2 xr3 xd4 xc4 (⟨l2, m3, y1_2, l4, y1_4⟩ : ODevDev))) (I2 := [FW.blk bx9 45 ((ApiFall.cells y7)), FW.blk xn5 127 ([.lit (.pointer (some ⟨bx1, 0, none⟩)), .lit (.int .i64 y5_1), .lit (.int .i64 y5_2), .lit (.int .i64 y5_3), .lit (.int .u64 y5_4)])]) (js := [5, 5, 5, 5]) hk rfl rfl hf rfl rfl Go.Proofs.Try.func43 rfl (by kernel_rfl) (dev_Dev_Steps.ok (⟨l2, m3, y1_2, l4, y1_4⟩ : ODevDev) _ hr_t11 bx1 xd2 xc2 xr3 xd4 xc4) ?_; clear hk
                  rintro _ _ ⟨rfl, rfl⟩ a w hk
                  refine hQ _ _ a w ?_ hk; clear hk hQ hf hX
                  refine ⟨[(80, [], .lit (.pointer (some ⟨bx1, 0, none⟩))), (81, [], .lit (.int .i64 t11)), (82, [], .lit (.pointer (some ⟨bx9, 0, none⟩))), (83, [], .lit (.int .i64 y7.At)), (84, [], .lit (.int .i64 (Int.tmod y7.At 9))), (85, [], .lit (.int .i64 (IntKind.wrap .i64 (t11 + (Int.tmod y7.At 9))))), (86, [], .lit (.pointer (some ⟨bx9, 0, none⟩))), (142, [], .lit undef)], And.intro rfl (And.intro rfl (And.intro rfl (And.intro rfl (trivial)))), rfl, ?_⟩
                  refine FW.gnext0 ?_ rfl rfl rfl ?_
                  · skip
                    refine FW.gskip rfl rfl ?_
                    refine FW.gskip rfl rfl ?_
                    refine FW.gfun (y := .lit (.pointer (some ⟨bx9, 0, none⟩))) rfl rfl rfl rfl (fun a w hk => FW.f_fieldPtr hk (FW.holds_nil _) rfl Go.Proofs.Try.underlying45 rfl (by kernel_rfl) rfl) ?_
                    refine FW.gfun (y := .lit (.int .i64 y7.At)) rfl rfl rfl rfl (fun a w hk => FW.f_loadBlk1 hk (FW.holds_nil _) (j := 4) rfl rfl Go.Proofs.Try.underlying3 rfl rfl) ?_
                    refine FW.gfun (y := .lit (.int .i64 (Int.tmod y7.At 9))) rfl rfl rfl rfl (fun a w hk => (FW.f_pure (FW.p_rem hk.kn (FW.holds_nil _) rfl rfl (show ¬ (9 : Int) = 0 from by decide)))) ?_
                    refine FW.gfun (y := .lit (.int .i64 (IntKind.wrap .i64 (t11 + (Int.tmod y7.At 9))))) rfl rfl rfl rfl (fun a w hk => (FW.f_pure (FW.p_add hk.kn (FW.holds_nil _) rfl rfl))) ?_
                    refine FW.gfun (y := .lit (.pointer (some ⟨bx9, 0, none⟩))) rfl rfl rfl rfl (fun a w hk => FW.f_fieldPtr hk (FW.holds_nil _) rfl Go.Proofs.Try.underlying45 rfl (by kernel_rfl) rfl) ?_
                    refine FW.gskip0 rfl ?_
                    exact FW.gend
                  · skip
                    intro σD a w opsD QD hk hQ hX
                    refine FW.l_store (I' := [FW.blk bx1 109 ([.lit (.slice xd2 (List.length l2) xc2), .lit (.map (some xr3)), .lit (.int .i64 y1_2), .lit (.slice xd4 (List.length l4) xc4), .lit (.bool y1_4)]), FW.orow xd2 xc2 9 1 c_str l2, FW.mapI (.int .i64) (Value.int .i64) FW.evS xr3 m3, FW.orow xd4 xc4 45 3 ApiFall.cells l4, FW.blk bx9 45 ((ApiFall.cells (⟨(IntKind.wrap .i64 (t11 + (Int.tmod y7.At 9))), y7.Keep, y7.Torn⟩ : ApiFall))), FW.blk xn5 127 ([.lit (.pointer (some ⟨bx1, 0, none⟩)), .lit (.int .i64 y5_1), .lit (.int .i64 y5_2), .lit (.int .i64 y5_3), .lit (.int .u64 y5_4)])]) (cs' := (ApiFall.cells (⟨(IntKind.wrap .i64 (t11 + (Int.tmod y7.At 9))), y7.Keep, y7.Torn⟩ : ApiFall))) (j := 4) hk rfl rfl rfl rfl rfl (by kernel_rfl) rfl rfl ?_; clear hk; intro w hk
                    refine hQ _ a w ?_ hk; clear hk hQ hX
                    refine ⟨[(80, [], .lit (.pointer (some ⟨bx1, 0, none⟩))), (81, [], .lit (.int .i64 t11)), (82, [], .lit (.pointer (some ⟨bx9, 0, none⟩))), (83, [], .lit (.int .i64 y7.At)), (84, [], .lit (.int .i64 (Int.tmod y7.At 9))), (85, [], .lit (.int .i64 (IntKind.wrap .i64 (t11 + (Int.tmod y7.At 9))))), (86, [], .lit (.pointer (some ⟨bx9, 0, none⟩))), (142, [], .lit undef)], And.intro rfl (And.intro rfl (And.intro rfl (And.intro rfl (And.intro rfl (And.intro rfl (And.intro rfl (trivial))))))), rfl, ?_⟩
                    refine FW.glast ?_ ?_
                    · skip
                      refine FW.gskip rfl rfl ?_
                      refine FW.gskip rfl rfl ?_
                      refine FW.gskip rfl rfl ?_
                      refine FW.gskip rfl rfl ?_
                      refine FW.gskip rfl rfl ?_
                      refine FW.gskip rfl rfl ?_
                      refine FW.gskip rfl rfl ?_
                      refine FW.gskip0 rfl ?_
                      exact FW.gend
                    · skip
                      intro a w hk; simp only [FW.stD, cond_true] at hk
                      refine FW.wreg1 ?_
                      refine FW.lfun (y := .lit (.pointer (some ⟨bx1, 0, none⟩))) hk rfl rfl rfl rfl (FW.f_move hk (FW.holds_nil _) rfl) ?_; clear hk; intro a w hk
                      refine FW.lfun (y := .agg ((ApiFall.cells (⟨(IntKind.wrap .i64 (t11 + (Int.tmod y7.At 9))), y7.Keep, y7.Torn⟩ : ApiFall)))) hk rfl rfl rfl rfl (FW.f_loadBlk hk (FW.holds_nil _) (j := 4) rfl rfl Go.Proofs.Try.underlying45 rfl rfl rfl rfl) ?_; clear hk; intro a w hk
                      refine FW.l_buildSlice (f := ApiFall.cells) (l := ([(⟨(IntKind.wrap .i64 (t11 + (Int.tmod y7.At 9))), y7.Keep, y7.Torn⟩ : ApiFall)] : List ApiFall)) hk rfl rfl rfl Go.Proofs.Try.underlying74 rfl rfl rfl rfl (fun _ => rfl) rfl ?_; clear hk; intro bx10 a w hk
                      replace hk := (FW.S.freezeR (I' := [FW.blk bx1 109 ([.lit (.slice xd2 (List.length l2) xc2), .lit (.map (some xr3)), .lit (.int .i64 y1_2), .lit (.slice xd4 (List.length l4) xc4), .lit (.bool y1_4)]), FW.orow xd2 xc2 9 1 c_str l2, FW.mapI (.int .i64) (Value.int .i64) FW.evS xr3 m3, FW.orow xd4 xc4 45 3 ApiFall.cells l4, FW.blk bx9 45 ((ApiFall.cells (⟨(IntKind.wrap .i64 (t11 + (Int.tmod y7.At 9))), y7.Keep, y7.Torn⟩ : ApiFall))), FW.blk xn5 127 ([.lit (.pointer (some ⟨bx1, 0, none⟩)), .lit (.int .i64 y5_1), .lit (.int .i64 y5_2), .lit (.int .i64 y5_3), .lit (.int .u64 y5_4)])]) r_ApiFall_cells_eq hk (j := 0) rfl (t := 89) rfl rfl).squash
                      obtain ⟨t12, hr_t12, h⟩ := FW.bnd h
                      refine FW.l_callH (I1 := (ODevDev.items bx1 xd2 xc2 xr3 xd4 xc4 (⟨l2, m3, y1_2, l4, y1_4⟩ : ODevDev))) (I2 := [FW.blk bx9 45 ((ApiFall.cells (⟨(IntKind.wrap .i64 (t11 + (Int.tmod y7.At 9))), y7.Keep, y7.Torn⟩ : ApiFall))), FW.blk xn5 127 ([.lit (.pointer (some ⟨bx1, 0, none⟩)), .lit (.int .i64 y5_1), .lit (.int .i64 y5_2), .lit (.int .i64 y5_3), .lit (.int .u64 y5_4)])]) (js := [3, 3, 3, 3]) hk rfl rfl rfl rfl rfl Go.Proofs.Try.func39 rfl (by kernel_rfl) (dev_Dev_Plan.ok (⟨l2, m3, y1_2, l4, y1_4⟩ : ODevDev) ([(⟨(IntKind.wrap .i64 (t11 + (Int.tmod y7.At 9))), y7.Keep, y7.Torn⟩ : ApiFall)] : List ApiFall) _ hr_t12 bx1 xd2 xc2 xr3 xd4 xc4) ?_; clear hk
                      rintro _ _ ⟨zd11, zc11, zr6, zd12, zc12, rfl, rfl⟩ a w hk
                      refine wpList_nil ?_
                      (repeat first | refine FW.then_normal ?_ | refine FW.block_normal ?_); exact hK16 _ _ ⟨t12.steps, t12.off, t12.sure, t12.cache, t12.falls, v0, v1, v2, v12, v13, v14, zd11, zc11, zr6, zd12, zc12, (hk.drop 4).sub ⟨rfl, rfl, rfl, rfl, rfl, rfl, rfl, rfl, trivial⟩, h⟩
              · intro K' hK34
                refine FW.wreg ?_; intro K' hK37
                refine FW.lfun (y := .lit (.pointer (some ⟨bx9, 0, none⟩))) hk rfl rfl rfl rfl (FW.f_fieldPtr hk (FW.holds_nil _) rfl Go.Proofs.Try.underlying45 rfl (by kernel_rfl) rfl) ?_; clear hk; intro a w hk
                refine FW.lfun (y := .lit (.int .i64 ((List.getD v1 (Int.toNat v14) default).At))) hk rfl rfl rfl rfl (FW.f_loadBlk1 hk (FW.holds_nil _) (j := 0) rfl rfl Go.Proofs.Try.underlying3 rfl rfl) ?_; clear hk; intro a w hk
                refine FW.lfun (y := .lit (.bool (decide (((List.getD v1 (Int.toNat v14) default).At) < 0)))) hk rfl rfl rfl rfl ((FW.f_pure (FW.p_lss hk.kn (FW.holds_nil _) rfl rfl))) ?_; clear hk; intro a w hk
                refine FW.lend (hK37 _ _ ?_); clear hK37 K'
                refine FW.wcondF (b := (decide (((List.getD v1 (Int.toNat v14) default).At) < 0))) hk h rfl (fun h hb => ?_) (fun h hb => ?_)
                · skip
                  refine FW.wreg1 ?_
                  refine FW.lfun (y := .lit (.pointer (some ⟨bx9, 0, none⟩))) hk rfl rfl rfl rfl (FW.f_fieldPtr hk (FW.holds_nil _) rfl Go.Proofs.Try.underlying45 rfl (by kernel_rfl) rfl) ?_; clear hk; intro a w hk
                  refine FW.l_store (I' := [FW.blk bx9 45 ((ApiFall.cells (⟨0, (List.getD v1 (Int.toNat v14) default).Keep, (List.getD v1 (Int.toNat v14) default).Torn⟩ : ApiFall))), FW.blk xn5 127 ([.lit (.pointer (some ⟨bx1, 0, none⟩)), .lit (.int .i64 y5_1), .lit (.int .i64 y5_2), .lit (.int .i64 y5_3), .lit (.int .u64 y5_4)]), FW.blk bx1 109 ([.lit (.slice xd2 (List.length l2) xc2), .lit (.map (some xr3)), .lit (.int .i64 y1_2), .lit (.slice xd4 (List.length l4) xc4), .lit (.bool y1_4)]), FW.orow xd2 xc2 9 1 c_str l2, FW.mapI (.int .i64) (Value.int .i64) FW.evS xr3 m3, FW.orow xd4 xc4 45 3 ApiFall.cells l4]) (cs' := (ApiFall.cells (⟨0, (List.getD v1 (Int.toNat v14) default).Keep, (List.getD v1 (Int.toNat v14) default).Torn⟩ : ApiFall))) (j := 0) hk rfl rfl rfl rfl rfl (by kernel_rfl) rfl rfl ?_; clear hk; intro w hk
                  refine wpList_nil ?_
                  (repeat first | refine FW.then_normal ?_ | refine FW.block_normal ?_); exact hK34 _ _ ⟨(⟨0, (List.getD v1 (Int.toNat v14) default).Keep, (List.getD v1 (Int.toNat v14) default).Torn⟩ : ApiFall), v0, v1, v2, v12, v13, v14, hk.sub ⟨rfl, rfl, rfl, rfl, rfl, rfl, rfl, rfl, rfl, trivial⟩, h⟩
                · skip
                  refine wp_skip ?_
                  (repeat first | refine FW.then_normal ?_ | refine FW.block_normal ?_); exact hK34 _ _ ⟨(List.getD v1 (Int.toNat v14) default), v0, v1, v2, v12, v13, v14, hk.sub ⟨rfl, rfl, rfl, rfl, rfl, rfl, rfl, rfl, rfl, trivial⟩, h⟩
            · skip
              refine wp_skip ?_
              (repeat first | refine FW.then_normal ?_ | refine FW.block_normal ?_); exact hK16 _ _ ⟨y1_2, y1_4, l2, m3, l4, v0, v1, v2, v12, v13, v14, xd2, xc2, xr3, xd4, xc4, (FW.S.pick hk (js := [0, 4, 4, 4, 4]) rfl).sub ⟨rfl, rfl, rfl, rfl, rfl, rfl, rfl, rfl, trivial⟩, h⟩
        · intro K' hK15
          refine FW.wreg ?_; intro K' hK39
          refine FW.lfun (y := .lit (.int .i64 v14)) hk rfl rfl rfl rfl (FW.f_move hk (FW.holds_nil _) rfl) ?_; clear hk; intro a w hk
          refine FW.lfun (y := .row (r_c_bool v2)) hk rfl rfl rfl rfl (FW.f_move hk (FW.holds_nil _) rfl) ?_; clear hk; intro a w hk
          refine FW.lfun (y := .lit (.int .i64 (List.length v2 : Int))) hk rfl rfl rfl rfl (FW.f_len (R := r_c_bool) (f := c_bool) (l := v2) r_c_bool_eq Go.Proofs.Try.underlying90 hk (FW.holds_nil _) rfl) ?_; clear hk; intro a w hk
          refine FW.lfun (y := .lit (.bool (decide (v14 < (List.length v2 : Int))))) hk rfl rfl rfl rfl ((FW.f_pure (FW.p_lss hk.kn (FW.holds_nil _) rfl rfl))) ?_; clear hk; intro a w hk
          refine FW.lfun (y := .lit (.bool (decide (v14 < (List.length v2 : Int))))) hk rfl rfl rfl rfl (FW.f_move hk (FW.holds_nil _) rfl) ?_; clear hk; intro a w hk
          refine FW.lfunG (y := .row (r_c_bool v2)) hk rfl rfl rfl rfl rfl rfl rfl rfl (fun hc => FW.f_move hk hc rfl) ?_; clear hk; intro a w hk
          refine FW.lfunG (y := .lit (.int .i64 v14)) hk rfl rfl rfl rfl rfl rfl rfl rfl (fun hc => FW.f_move hk hc rfl) ?_; clear hk; intro a w hk
          obtain ⟨hc7, h⟩ := FW.chk h
          refine FW.lfunG (y := .ref (c_bool (List.getD v2 (Int.toNat v14) default))) hk rfl rfl rfl rfl rfl rfl rfl rfl (fun hc => FW.f_indexAddr (R := r_c_bool) (f := c_bool) (l := v2) (sz := 1) r_c_bool_eq (fun _ => rfl) hk hc rfl rfl Go.Proofs.Try.underlying90 (by kernel_rfl) hc7) ?_; clear hk; intro a w hk
          refine FW.lfunG (y := .lit (.bool (List.getD v2 (Int.toNat v14) default))) hk rfl rfl rfl rfl rfl rfl rfl rfl (fun hc => FW.f_load1 hk hc rfl rfl Go.Proofs.Try.underlying4 rfl) ?_; clear hk; intro a w hk
          refine FW.lfun (y := .lit (.bool ((decide (v14 < (List.length v2 : Int))) && (List.getD v2 (Int.toNat v14) default)))) hk rfl rfl rfl rfl ((FW.f_pure (FW.p_pick_and hk.kn (FW.holds_nil _) rfl rfl))) ?_; clear hk; intro a w hk
          refine FW.lend (hK39 _ _ ?_); clear hK39 K'
          refine FW.wcondF (b := ((decide (v14 < (List.length v2 : Int))) && (List.getD v2 (Int.toNat v14) default))) hk h rfl (fun h hb => ?_) (fun h hb => ?_)
          · skip
            refine FW.wreg ?_; intro K' hK40
            refine FW.lfun (y := .lit (.pointer (some ⟨xn5, 0, none⟩))) hk rfl rfl rfl rfl (FW.f_move hk (FW.holds_nil _) rfl) ?_; clear hk; intro a w hk
            obtain ⟨t13, hr_t13, h⟩ := FW.bnd h
            refine FW.l_callH (I1 := (OLogLog.items xn5 bx1 (⟨y5_1, y5_2, y5_3, y5_4⟩ : OLogLog)) ++ (ODevDev.items bx1 xd2 xc2 xr3 xd4 xc4 (⟨l2, m3, y1_2, l4, y1_4⟩ : ODevDev))) (I2 := []) (js := [4, 4, 4, 4, 4]) hk rfl rfl rfl rfl rfl Go.Proofs.Try.func48 rfl (by kernel_rfl) (log_Log_Reset.ok (⟨y5_1, y5_2, y5_3, y5_4⟩ : OLogLog) (⟨l2, m3, y1_2, l4, y1_4⟩ : ODevDev) _ hr_t13 xn5 bx1 xd2 xc2 xr3 xd4 xc4) ?_; clear hk
            rintro _ _ ⟨zd13, zc13, zr7, zd14, zc14, rfl, rfl⟩ a w hk
            refine FW.lend (hK40 _ _ ?_); clear hK40 K'
            refine FW.wreg1 ?_
            refine FW.l_buildSlice0 (f := c_str) hk rfl rfl Go.Proofs.Try.underlying61 rfl (fun _ => rfl) ?_; clear hk; intro bx11 a w hk
            replace hk := (FW.S.freezeR (I' := [FW.blk xn5 127 ([.lit (.pointer (some ⟨bx1, 0, none⟩)), .lit (.int .i64 t13.1.from_), .lit (.int .i64 t13.1.to_), .lit (.int .i64 t13.1.at_), .lit (.int .u64 t13.1.next)]), FW.blk bx1 109 ([.lit (.slice zd13 (List.length t13.2.sure) zc13), .lit (.map (some zr7)), .lit (.int .i64 t13.2.steps), .lit (.slice zd14 (List.length t13.2.falls) zc14), .lit (.bool t13.2.off)]), FW.orow zd13 zc13 9 1 c_str t13.2.sure, FW.mapI (.int .i64) (Value.int .i64) FW.evS zr7 t13.2.cache, FW.orow zd14 zc14 45 3 ApiFall.cells t13.2.falls]) r_c_str_eq hk (j := 0) rfl (t := 65) rfl rfl).squash
            refine FW.lfun (y := .lit (.pointer (some ⟨xn5, 0, none⟩))) hk rfl rfl rfl rfl (FW.f_move hk (FW.holds_nil _) rfl) ?_; clear hk; intro a w hk
            obtain ⟨t14, hr_t14, h⟩ := FW.bnd h
            refine FW.l_callH (I1 := (OLogLog.items xn5 bx1 t13.1) ++ (ODevDev.items bx1 zd13 zc13 zr7 zd14 zc14 t13.2)) (I2 := []) (js := [4, 4, 4, 4, 4]) hk rfl rfl rfl rfl rfl Go.Proofs.Try.func54 rfl (by kernel_rfl) (log_Log_Next.ok t13.1 t13.2 _ hr_t14 xn5 bx1 zd13 zc13 zr7 zd14 zc14) ?_; clear hk
            rintro _ _ ⟨rfl, rfl⟩ a w hk
            refine FW.lfun (y := .row (r_c_str ([] : List (List UInt8)))) hk rfl rfl rfl rfl (FW.f_assign hk (FW.holds_nil _) rfl) ?_; clear hk; intro a w hk
            refine FW.lfun (y := .lit (.int .u64 t14)) hk rfl rfl rfl rfl (FW.f_assign hk (FW.holds_nil _) rfl) ?_; clear hk; intro a w hk
            refine wpList_nil ?_
            (repeat first | refine FW.then_normal ?_ | refine FW.block_normal ?_); exact hK15 _ _ ⟨t13.1.from_, t13.1.to_, t13.1.at_, t13.1.next, t13.2.steps, t13.2.off, t13.2.sure, t13.2.cache, t13.2.falls, v0, v1, v2, ([] : List (List UInt8)), t14, v14, zd13, zc13, zr7, zd14, zc14, hk.sub ⟨rfl, rfl, rfl, rfl, rfl, rfl, rfl, rfl, trivial⟩, h⟩
          · skip
            refine wp_skip ?_
            (repeat first | refine FW.then_normal ?_ | refine FW.block_normal ?_); exact hK15 _ _ ⟨y5_1, y5_2, y5_3, y5_4, y1_2, y1_4, l2, m3, l4, v0, v1, v2, v12, v13, v14, xd2, xc2, xr3, xd4, xc4, hk.sub ⟨rfl, rfl, rfl, rfl, rfl, rfl, rfl, rfl, trivial⟩, h⟩
    · skip
      refine wp_exit ?_; (repeat first | refine FW.then_exit ?_ | refine FW.block_exit_ne rfl ?_); refine FW.block_exit ?_
      (repeat first | refine FW.then_normal ?_ | refine FW.block_normal ?_); refine hK8 _ _ ?_
      refine FW.wreg ?_; intro K' hK42
      refine FW.lfun (y := .lit (.bool true)) hk rfl rfl rfl rfl (FW.f_assign hk (FW.holds_nil _) rfl) ?_; clear hk; intro a w hk
      refine FW.lend (hK42 _ _ ?_); clear hK42 K'
      refine wp_ret ?_
      (repeat first | refine FW.then_ret ?_ | refine FW.block_ret ?_)
      obtain rfl := Option.some.inj h
      exact FW.fret1 hk rfl rfl
end Go.Proofs.Ytimaibcaehagjaa

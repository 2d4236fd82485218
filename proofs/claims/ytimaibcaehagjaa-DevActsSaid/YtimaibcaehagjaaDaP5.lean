/- Written by a program of this session (gen.py): the contracts of functions of the program. -/
import Derived.KernelRfl
import Derived.Test.YtimaibcaehagjaaProg
import Derived.Test.YtimaibcaehagjaaAvFun
import Derived.Test.YtimaibcaehagjaaAvMan
import Derived.Test.YtimaibcaehagjaaAvMore
import Derived.Test.YtimaibcaehagjaaAvDraw2
import Derived.Test.YtimaibcaehagjaaAvRow
import Derived.Test.YtimaibcaehagjaaHn
import Derived.Test.YtimaibcaehagjaaHg
import Derived.Test.YtimaibcaehagjaaHar
import Derived.Test.YtimaibcaehagjaaHc
import Derived.Test.YtimaibcaehagjaaFx
import Derived.Test.YtimaibcaehagjaaDxP1
import Derived.Test.YtimaibcaehagjaaFy2
import Derived.Test.YtimaibcaehagjaaDaD
import Derived.Test.YtimaibcaehagjaaDaP4
namespace Go.Proofs.Ytimaibcaehagjaa
set_option linter.unusedVariables false
set_option maxRecDepth 20000
set_option maxHeartbeats 10000000
theorem offshootlaw03_DevActs.ok (K : Nat) (v0 : Int) (v1 : List Offshootlaw03Act) (r : Bool) (h : offshootlaw03_DevActs.f K v0 v1 = some r) :
    FW.Ok Go.Proofs.Try.prog 7 [.lit (.int .i64 v0), .row (r_Offshootlaw03Act_cells v1)] (.lit (.bool r)) := by
  refine FW.enter (xs := [.lit (.int .i64 v0), .row (r_Offshootlaw03Act_cells v1)]) Go.Proofs.Try.func7 rfl Go.Proofs.Try.ntmps7 rfl ?_
  intro M w0 a hk
  unfold offshootlaw03_DevActs.f at h
  refine FW.wreg ?_; intro K' hK1
  refine FW.lfun (y := .lit (.bool false)) hk rfl rfl rfl rfl (FW.f_assign hk (FW.holds_nil _) rfl) ?_; clear hk; intro a w hk
  refine FW.lend (hK1 _ _ ?_); clear hK1 K'
  refine FW.wreg ?_; intro K' hK2
  refine FW.lfun (y := .lit (.int .i64 v0)) hk rfl rfl rfl rfl (FW.f_move hk (FW.holds_nil _) rfl) ?_; clear hk; intro a w hk
  refine FW.lfun (y := .lit (.int .i64 (FW.andI .i64 v0 15))) hk rfl rfl rfl rfl ((FW.f_pure (FW.p_and hk.kn (FW.holds_nil _) rfl rfl))) ?_; clear hk; intro a w hk
  refine FW.lfun (y := .lit (.int .i64 (FW.andI .i64 v0 15))) hk rfl rfl rfl rfl (FW.f_assign hk (FW.holds_nil _) rfl) ?_; clear hk; intro a w hk
  refine FW.lend (hK2 _ _ ?_); clear hK2 K'
  refine FW.wreg ?_; intro K' hK3
  refine FW.lfun (y := .lit (.int .i64 (FW.andI .i64 v0 15))) hk rfl rfl rfl rfl (FW.f_move hk (FW.holds_nil _) rfl) ?_; clear hk; intro a w hk
  obtain ⟨t1, hr_t1, h⟩ := FW.bnd h
  refine FW.l_callH (I1 := ([] : List FW.It)) (I2 := []) (js := []) hk rfl rfl rfl rfl rfl Go.Proofs.Try.func27 rfl (by kernel_rfl) (dev_New.ok K (FW.andI .i64 v0 15) _ hr_t1 ) ?_; clear hk
  rintro _ _ ⟨bx1, xdNt1_0_0, xcNt1_0_0, xrNt1_0_1, xdNt1_0_3, xcNt1_0_3, rfl, rfl⟩ a w hk
  refine FW.lfun (y := .tup [.lit (.pointer (some ⟨bx1, 0, none⟩)), .lit (.int .i64 t1.2)]) hk rfl rfl rfl rfl (FW.f_move hk (FW.holds_nil _) rfl) ?_; clear hk; intro a w hk
  refine FW.lfun (y := .lit (.pointer (some ⟨bx1, 0, none⟩))) hk rfl rfl rfl rfl (FW.f_extract hk (FW.holds_nil _) rfl rfl) ?_; clear hk; intro a w hk
  refine FW.lfun (y := .lit (.int .i64 t1.2)) hk rfl rfl rfl rfl (FW.f_extract hk (FW.holds_nil _) rfl rfl) ?_; clear hk; intro a w hk
  refine FW.lfun (y := .lit (.pointer (some ⟨bx1, 0, none⟩))) hk rfl rfl rfl rfl (FW.f_assign hk (FW.holds_nil _) rfl) ?_; clear hk; intro a w hk
  refine FW.lfun (y := .lit (.int .i64 t1.2)) hk rfl rfl rfl rfl (FW.f_assign hk (FW.holds_nil _) rfl) ?_; clear hk; intro a w hk
  refine FW.lend (hK3 _ _ ?_); clear hK3 K'
  refine FW.wreg ?_; intro K' hK4
  refine FW.lfun (y := .lit (.pointer (some ⟨bx1, 0, none⟩))) hk rfl rfl rfl rfl (FW.f_move hk (FW.holds_nil _) rfl) ?_; clear hk; intro a w hk
  refine FW.lfun (y := .lit (.int .i64 (FW.andI .i64 v0 15))) hk rfl rfl rfl rfl (FW.f_move hk (FW.holds_nil _) rfl) ?_; clear hk; intro a w hk
  obtain ⟨t2, hr_t2, h⟩ := FW.bnd h
  refine FW.lfun (y := .agg ((Offshootref03Dev.cells t2))) hk rfl rfl rfl rfl (FW.f_call hk (FW.holds_nil _) rfl rfl Go.Proofs.Try.func36 rfl (by kernel_rfl) (offshootref03_New.ok K (FW.andI .i64 v0 15) _ hr_t2)) ?_; clear hk; intro a w hk
  refine FW.lfun (y := .agg (([.lit (.pointer (some ⟨bx1, 0, none⟩))] : List FW.AV) ++ (Offshootref03Dev.cells t2))) hk rfl rfl rfl rfl (FW.f_buildN [] hk (FW.holds_nil _) rfl rfl rfl) ?_; clear hk; intro a w hk
  refine FW.l_alloc (zs := ([.lit (.pointer none)] : List FW.AV) ++ (Offshootref03Dev.cells (⟨[], [], 0, [], false⟩ : Offshootref03Dev))) [] hk rfl rfl rfl rfl ?_; clear hk; intro bx2 a w hk
  refine FW.l_store (I' := [FW.blk bx2 68 (([.lit (.pointer (some ⟨bx1, 0, none⟩))] : List FW.AV) ++ (Offshootref03Dev.cells t2)), FW.blk bx1 109 ([.lit (.slice xdNt1_0_0 (List.length t1.1.sure) xcNt1_0_0), .lit (.map (some xrNt1_0_1)), .lit (.int .i64 t1.1.steps), .lit (.slice xdNt1_0_3 (List.length t1.1.falls) xcNt1_0_3), .lit (.bool t1.1.off)]), FW.orow xdNt1_0_0 xcNt1_0_0 9 1 c_str t1.1.sure, FW.mapI (.int .i64) (Value.int .i64) FW.evS xrNt1_0_1 t1.1.cache, FW.orow xdNt1_0_3 xcNt1_0_3 45 3 ApiFall.cells t1.1.falls]) (cs' := ([.lit (.pointer (some ⟨bx1, 0, none⟩))] : List FW.AV) ++ (Offshootref03Dev.cells t2)) (j := 0) hk rfl rfl rfl rfl rfl (by kernel_rfl) rfl rfl ?_; clear hk; intro w hk
  refine FW.lend (hK4 _ _ ?_); clear hK4 K'
  refine FW.wseq ?_; intro K' hK5
  refine FW.wreg ?_; intro K' hK6
  obtain ⟨t3, hr_t3, h⟩ := FW.bnd h
  refine FW.lfun (y := .lit (.bool t3)) hk rfl rfl rfl rfl (FW.f_call hk (FW.holds_nil _) rfl rfl Go.Proofs.Try.func28 rfl (by kernel_rfl) (offshootlaw03_awake.ok K  _ hr_t3)) ?_; clear hk; intro a w hk
  refine FW.lfun (y := .lit (.bool (!t3))) hk rfl rfl rfl rfl ((FW.f_pure (FW.p_not hk.kn (FW.holds_nil _) rfl))) ?_; clear hk; intro a w hk
  refine FW.lfun (y := .lit (.bool (!t3))) hk rfl rfl rfl rfl (FW.f_move hk (FW.holds_nil _) rfl) ?_; clear hk; intro a w hk
  refine FW.lfunG (y := .lit (.int .i64 t1.2)) hk rfl rfl rfl rfl rfl rfl rfl rfl (fun hc => FW.f_move hk hc rfl) ?_; clear hk; intro a w hk
  refine FW.lfunG (y := .lit (.bool (!decide (t1.2 = 0)))) hk rfl rfl rfl rfl rfl rfl rfl rfl (fun hc => (FW.f_pure (FW.p_neq hk.kn hc rfl rfl))) ?_; clear hk; intro a w hk
  refine FW.lfun (y := .lit (.bool ((!t3) || (!decide (t1.2 = 0))))) hk rfl rfl rfl rfl ((FW.f_pure (FW.p_pick_or hk.kn (FW.holds_nil _) rfl rfl))) ?_; clear hk; intro a w hk
  refine FW.lend (hK6 _ _ ?_); clear hK6 K'
  refine FW.wcondF (b := ((!t3) || (!decide (t1.2 = 0)))) hk h rfl (fun h hb => ?_) (fun h hb => ?_)
  · skip
    refine FW.wreg ?_; intro K' hK7
    refine FW.lfun (y := .lit (.bool false)) hk rfl rfl rfl rfl (FW.f_assign hk (FW.holds_nil _) rfl) ?_; clear hk; intro a w hk
    refine FW.lend (hK7 _ _ ?_); clear hK7 K'
    refine wp_ret ?_
    (repeat first | refine FW.then_ret ?_ | refine FW.block_ret ?_)
    obtain rfl := Option.some.inj h
    exact FW.fret1 hk rfl rfl
  · skip
    refine wp_skip ?_
    (repeat first | refine FW.then_normal ?_ | refine FW.block_normal ?_); refine hK5 _ _ ?_
    refine FW.wseq ?_; intro K' hK8
    refine FW.wreg ?_; intro K' hK9
    refine FW.lfun (y := .lit (.int .i64 0)) hk rfl rfl rfl rfl (FW.f_assign hk (FW.holds_nil _) rfl) ?_; clear hk; intro a w hk
    refine FW.lend (hK9 _ _ ?_); clear hK9 K'
    refine wp_block ?_
    refine FW.wloop (T := Nat × Offshootref03Dev × Int × Bool × List (List UInt8) × (List (Int × (List UInt8))) × List ApiFall × List Offshootlaw03Act × Int × Option Addr × Nat × Nat × Option Addr × Nat) (fun x a w => match x with | (kl1, y5_1, y1_2, y1_4, l2, m3, l4, v1, v9, xd2, xc2, xr3, xd4, xc4) => FW.S M w0 a w 56 [FW.blk bx2 68 (([.lit (.pointer (some ⟨bx1, 0, none⟩))] : List FW.AV) ++ (Offshootref03Dev.cells y5_1)), FW.blk bx1 109 ([.lit (.slice xd2 (List.length l2) xc2), .lit (.map (some xr3)), .lit (.int .i64 y1_2), .lit (.slice xd4 (List.length l4) xc4), .lit (.bool y1_4)]), FW.orow xd2 xc2 9 1 c_str l2, FW.mapI (.int .i64) (Value.int .i64) FW.evS xr3 m3, FW.orow xd4 xc4 45 3 ApiFall.cells l4] [(1, [], .row (r_Offshootlaw03Act_cells v1)), (8, [], .lit (.pointer (some ⟨bx2, 0, none⟩))), (9, [], .lit (.int .i64 v9))] ∧ offshootlaw03_DevActs.l1 K kl1 y5_1 y1_2 y1_4 l2 m3 l4 v1 v9 = some r) (fun x => x.1) (K, t2, t1.1.steps, t1.1.off, t1.1.sure, t1.1.cache, t1.1.falls, v1, 0, xdNt1_0_0, xcNt1_0_0, xrNt1_0_1, xdNt1_0_3, xcNt1_0_3) ⟨hk.sub ⟨rfl, rfl, rfl, trivial⟩, h⟩ ?_
    clear hk h
    rintro ⟨kl1, y5_1, y1_2, y1_4, l2, m3, l4, v1, v9, xd2, xc2, xr3, xd4, xc4⟩ a w ⟨hk, h⟩ K' hK10
    cases kl1 with
    | zero => simp [offshootlaw03_DevActs.l1] at h
    | succ kl1 =>
    rw [offshootlaw03_DevActs.l1.eq_2] at h
    refine FW.wseq ?_; intro K' hK11
    refine FW.wreg ?_; intro K' hK12
    refine FW.lfun (y := .lit (.int .i64 v9)) hk rfl rfl rfl rfl (FW.f_move hk (FW.holds_nil _) rfl) ?_; clear hk; intro a w hk
    refine FW.lfun (y := .row (r_Offshootlaw03Act_cells v1)) hk rfl rfl rfl rfl (FW.f_move hk (FW.holds_nil _) rfl) ?_; clear hk; intro a w hk
    refine FW.lfun (y := .lit (.int .i64 (List.length v1 : Int))) hk rfl rfl rfl rfl (FW.f_len (R := r_Offshootlaw03Act_cells) (f := Offshootlaw03Act.cells) (l := v1) r_Offshootlaw03Act_cells_eq Go.Proofs.Try.underlying43 hk (FW.holds_nil _) rfl) ?_; clear hk; intro a w hk
    refine FW.lfun (y := .lit (.bool (decide (v9 < (List.length v1 : Int))))) hk rfl rfl rfl rfl ((FW.f_pure (FW.p_lss hk.kn (FW.holds_nil _) rfl rfl))) ?_; clear hk; intro a w hk
    refine FW.lfun (y := .lit (.bool (decide (v9 < (List.length v1 : Int))))) hk rfl rfl rfl rfl (FW.f_move hk (FW.holds_nil _) rfl) ?_; clear hk; intro a w hk
    refine FW.lfunG (y := .lit (.int .i64 v9)) hk rfl rfl rfl rfl rfl rfl rfl rfl (fun hc => FW.f_move hk hc rfl) ?_; clear hk; intro a w hk
    refine FW.lfunG (y := .lit (.bool (decide (v9 < 50)))) hk rfl rfl rfl rfl rfl rfl rfl rfl (fun hc => (FW.f_pure (FW.p_lss hk.kn hc rfl rfl))) ?_; clear hk; intro a w hk
    refine FW.lfun (y := .lit (.bool ((decide (v9 < (List.length v1 : Int))) && (decide (v9 < 50))))) hk rfl rfl rfl rfl ((FW.f_pure (FW.p_pick_and hk.kn (FW.holds_nil _) rfl rfl))) ?_; clear hk; intro a w hk
    refine FW.lend (hK12 _ _ ?_); clear hK12 K'
    refine FW.wcondF (b := ((decide (v9 < (List.length v1 : Int))) && (decide (v9 < 50)))) hk h rfl (fun h hb => ?_) (fun h hb => ?_)
    · skip
      refine wp_skip ?_
      (repeat first | refine FW.then_normal ?_ | refine FW.block_normal ?_); refine hK11 _ _ ?_
      refine FW.wseq ?_; intro K' hK13
      refine wp_block ?_
      refine FW.wseqJ (fun a w => ∃ (y6_1 : Offshootref03Dev) (y1_2 : Int) (y1_4 : Bool) (l2 : List (List UInt8)) (m3 : List (Int × (List UInt8))) (l4 : List ApiFall) (v1 : List Offshootlaw03Act) (v9 : Int) (v11 : Bool) (xn6 : Nat) (xd2 : Option Addr) (xc2 : Nat) (xr3 : Nat) (xd4 : Option Addr) (xc4 : Nat), FW.S M w0 a w 56 [FW.blk xn6 68 (([.lit (.pointer (some ⟨bx1, 0, none⟩))] : List FW.AV) ++ (Offshootref03Dev.cells y6_1)), FW.blk bx1 109 ([.lit (.slice xd2 (List.length l2) xc2), .lit (.map (some xr3)), .lit (.int .i64 y1_2), .lit (.slice xd4 (List.length l4) xc4), .lit (.bool y1_4)]), FW.orow xd2 xc2 9 1 c_str l2, FW.mapI (.int .i64) (Value.int .i64) FW.evS xr3 m3, FW.orow xd4 xc4 45 3 ApiFall.cells l4, FW.blk bx2 68 (([.lit (.pointer (some ⟨bx1, 0, none⟩))] : List FW.AV) ++ (Offshootref03Dev.cells y5_1))] [(1, [], .row (r_Offshootlaw03Act_cells v1)), (8, [], .lit (.pointer (some ⟨bx2, 0, none⟩))), (9, [], .lit (.int .i64 v9)), (10, [], .lit (.pointer (some ⟨xn6, 0, none⟩))), (11, [], .lit (.bool v11))] ∧ offshootlaw03_DevActs.j1 (offshootlaw03_DevActs.l1 K kl1) K y5_1 y6_1 y1_2 y1_4 l2 m3 l4 v1 v9 v11 = some r) ?_ ?_
      · clear hk h
        rintro a w ⟨y6_1, y1_2, y1_4, l2, m3, l4, v1, v9, v11, xn6, xd2, xc2, xr3, xd4, xc4, hk, h⟩
        unfold offshootlaw03_DevActs.j1 at h
        refine FW.wreg ?_; intro K' hK15
        refine FW.lfun (y := .agg (([.lit (.pointer (some ⟨bx1, 0, none⟩))] : List FW.AV) ++ (Offshootref03Dev.cells y6_1))) hk rfl rfl rfl rfl (FW.f_loadBlk hk (FW.holds_nil _) (j := 0) rfl rfl Go.Proofs.Try.underlying68 rfl rfl rfl rfl) ?_; clear hk; intro a w hk
        refine FW.l_store (I' := [FW.blk xn6 68 (([.lit (.pointer (some ⟨bx1, 0, none⟩))] : List FW.AV) ++ (Offshootref03Dev.cells y6_1)), FW.blk bx1 109 ([.lit (.slice xd2 (List.length l2) xc2), .lit (.map (some xr3)), .lit (.int .i64 y1_2), .lit (.slice xd4 (List.length l4) xc4), .lit (.bool y1_4)]), FW.orow xd2 xc2 9 1 c_str l2, FW.mapI (.int .i64) (Value.int .i64) FW.evS xr3 m3, FW.orow xd4 xc4 45 3 ApiFall.cells l4, FW.blk bx2 68 (([.lit (.pointer (some ⟨bx1, 0, none⟩))] : List FW.AV) ++ (Offshootref03Dev.cells y6_1))]) (cs' := ([.lit (.pointer (some ⟨bx1, 0, none⟩))] : List FW.AV) ++ (Offshootref03Dev.cells y6_1)) (j := 5) hk rfl rfl rfl rfl rfl (by kernel_rfl) rfl rfl ?_; clear hk; intro w hk
        refine FW.lend (hK15 _ _ ?_); clear hK15 K'
        refine FW.wreg ?_; intro K' hK16
        refine FW.lfun (y := .lit (.bool v11)) hk rfl rfl rfl rfl (FW.f_move hk (FW.holds_nil _) rfl) ?_; clear hk; intro a w hk
        refine FW.lfun (y := .lit (.bool (!v11))) hk rfl rfl rfl rfl ((FW.f_pure (FW.p_not hk.kn (FW.holds_nil _) rfl))) ?_; clear hk; intro a w hk
        refine FW.lfun (y := .lit (.bool (!v11))) hk rfl rfl rfl rfl (FW.f_move hk (FW.holds_nil _) rfl) ?_; clear hk; intro a w hk
        refine FW.lfunG (y := .agg (([.lit (.pointer (some ⟨bx1, 0, none⟩))] : List FW.AV) ++ (Offshootref03Dev.cells y6_1))) hk rfl rfl rfl rfl rfl rfl rfl rfl (fun hc => FW.f_loadBlk hk hc (j := 5) rfl rfl Go.Proofs.Try.underlying68 rfl rfl rfl rfl) ?_; clear hk; intro a w hk
        obtain ⟨t4, hr_t4, hn_t4, h⟩ := FW.bndG2 h
        refine FW.l_callHG (I1 := (ODevDev.items bx1 xd2 xc2 xr3 xd4 xc4 (⟨l2, m3, y1_2, l4, y1_4⟩ : ODevDev))) (I2 := [FW.blk xn6 68 (([.lit (.pointer (some ⟨bx1, 0, none⟩))] : List FW.AV) ++ (Offshootref03Dev.cells y6_1)), FW.blk bx2 68 (([.lit (.pointer (some ⟨bx1, 0, none⟩))] : List FW.AV) ++ (Offshootref03Dev.cells y6_1))]) (js := [4, 4, 4, 4]) hk rfl rfl rfl rfl rfl rfl rfl rfl rfl Go.Proofs.Try.func38 rfl (by kernel_rfl) (fun hc => offshootlaw03_both_same.ok K (⟨y6_1⟩ : Offshootlaw03Both) (⟨l2, m3, y1_2, l4, y1_4⟩ : ODevDev) _ (hr_t4 (FW.asm_out (p := (!v11) = false) hk.kn hc (fun e0 => e0))) bx1 xd2 xc2 xr3 xd4 xc4) (fun hn => by obtain rfl := hn_t4 (fun hp => hn (FW.asm_in hk.kn (by have e0 := hp; exact ⟨e0, rfl, trivial⟩))); exact ⟨_, rfl, rfl⟩) ?_; clear hk
        rintro _ _ ⟨rfl, rfl⟩ a w hk
        refine FW.lfunG (y := .lit (.bool (!t4))) hk rfl rfl rfl rfl rfl rfl rfl rfl (fun hc => (FW.f_pure (FW.p_not hk.kn hc rfl))) ?_; clear hk; intro a w hk
        refine FW.lfun (y := .lit (.bool ((!v11) || (!t4)))) hk rfl rfl rfl rfl ((FW.f_pure (FW.p_pick_or hk.kn (FW.holds_nil _) rfl rfl))) ?_; clear hk; intro a w hk
        refine FW.lend (hK16 _ _ ?_); clear hK16 K'
        refine FW.wcondF (b := ((!v11) || (!t4))) hk h rfl (fun h hb => ?_) (fun h hb => ?_)
        · skip
          refine FW.wreg ?_; intro K' hK17
          refine FW.lfun (y := .lit (.bool false)) hk rfl rfl rfl rfl (FW.f_assign hk (FW.holds_nil _) rfl) ?_; clear hk; intro a w hk
          refine FW.lend (hK17 _ _ ?_); clear hK17 K'
          refine wp_ret ?_
          (repeat first | refine FW.then_ret ?_ | refine FW.block_ret ?_)
          obtain rfl := Option.some.inj h
          exact FW.fret1 hk rfl rfl
        · skip
          refine wp_skip ?_
          (repeat first | refine FW.then_normal ?_ | refine FW.block_normal ?_); refine hK13 _ _ ?_
          refine FW.wreg1 ?_
          refine FW.lfun (y := .lit (.int .i64 v9)) hk rfl rfl rfl rfl (FW.f_move hk (FW.holds_nil _) rfl) ?_; clear hk; intro a w hk
          refine FW.lfun (y := .lit (.int .i64 (IntKind.wrap .i64 (v9 + 1)))) hk rfl rfl rfl rfl ((FW.f_pure (FW.p_add hk.kn (FW.holds_nil _) rfl rfl))) ?_; clear hk; intro a w hk
          refine FW.lfun (y := .lit (.int .i64 (IntKind.wrap .i64 (v9 + 1)))) hk rfl rfl rfl rfl (FW.f_assign hk (FW.holds_nil _) rfl) ?_; clear hk; intro a w hk
          refine wpList_nil ?_
          (repeat first | refine FW.then_normal ?_ | refine FW.block_normal ?_); exact hK10 (kl1, y6_1, y1_2, y1_4, l2, m3, l4, v1, (IntKind.wrap .i64 (v9 + 1)), xd2, xc2, xr3, xd4, xc4) _ _ (Nat.lt_succ_self _) ⟨(FW.S.pick (hk.drop 4) (js := [3, 3, 3, 3, 4]) rfl).sub ⟨rfl, rfl, rfl, trivial⟩, h⟩
      · intro K' hK14
        obtain ⟨hc1, h⟩ := FW.chk h
        obtain ⟨t5, hr_t5, h⟩ := FW.bnd h
        refine FW.wdrawE1 (.or (.next [true, true, true, true, true, false, false, false, false, false, false, false] 5 [true, true, true, true, true, false, false, false, false, false, false, false] (.next [false, false, false, false, false, false, true, true, true, false, false, false] 9 [true, true, true, true, true, true, true, true, true, false, false, false] (.next [false, false, false, false, false, false, true, true, true, false, false, false] 10 [true, true, true, true, true, true, true, true, true, true, false, false] (.leaf [false, false, false, false, false, false, false, false, true, false, false, true])))) (.next [true, true, true, true, true, false, false, false, false, false, false, false] 9 [true, true, true, true, true, false, false, false, false, false, false, false] (.next [true, true, true, true, true, false, false, false, false, false, false, false] 5 [true, true, true, true, true, false, false, false, false, true, false, false] (.next [false, false, false, false, false, false, true, true, true, false, false, false] 10 [true, true, true, true, true, true, true, true, true, true, false, false] (.leaf [false, false, false, false, false, false, false, false, true, false, false, true]))))) [(40, [], .agg (([.lit (.pointer (some ⟨bx1, 0, none⟩))] : List FW.AV) ++ (Offshootref03Dev.cells y5_1))), (41, [], .row (r_Offshootlaw03Act_cells v1)), (42, [], .lit (.int .i64 v9)), (43, [], .ref (Offshootlaw03Act.cells (List.getD v1 (Int.toNat v9) default))), (44, [], .agg ((Offshootlaw03Act.cells (List.getD v1 (Int.toNat v9) default)))), (45, [], .agg []), (39, [], .agg []), (46, [], .agg []), (47, [], .agg []), (10, [], .agg []), (56, [], .lit undef), (11, [], .agg [])] (by kernel_rfl) (by kernel_rfl) (by kernel_rfl) (by kernel_rfl) hk ?_; clear hk
        refine FW.gor ?_ ?_
        · skip
          refine FW.gnext ?_ rfl rfl rfl rfl rfl ?_
          · skip
            refine FW.gfun (y := .agg (([.lit (.pointer (some ⟨bx1, 0, none⟩))] : List FW.AV) ++ (Offshootref03Dev.cells y5_1))) rfl rfl rfl rfl (fun a w hk => FW.f_loadBlk hk (FW.holds_nil _) (j := 0) rfl rfl Go.Proofs.Try.underlying68 rfl rfl rfl rfl) ?_
            refine FW.gfun (y := .row (r_Offshootlaw03Act_cells v1)) rfl rfl rfl rfl (fun a w hk => FW.f_move hk (FW.holds_nil _) rfl) ?_
            refine FW.gfun (y := .lit (.int .i64 v9)) rfl rfl rfl rfl (fun a w hk => FW.f_move hk (FW.holds_nil _) rfl) ?_
            refine FW.gfun (y := .ref (Offshootlaw03Act.cells (List.getD v1 (Int.toNat v9) default))) rfl rfl rfl rfl (fun a w hk => FW.f_indexAddr (R := r_Offshootlaw03Act_cells) (f := Offshootlaw03Act.cells) (l := v1) (sz := 7) r_Offshootlaw03Act_cells_eq (fun _ => rfl) hk (FW.holds_nil _) rfl rfl Go.Proofs.Try.underlying43 (by kernel_rfl) hc1) ?_
            refine FW.gfun (y := .agg ((Offshootlaw03Act.cells (List.getD v1 (Int.toNat v9) default)))) rfl rfl rfl rfl (fun a w hk => FW.f_load hk (FW.holds_nil _) rfl Go.Proofs.Try.underlying51 rfl rfl rfl rfl) ?_
            refine FW.gskip rfl rfl ?_
            refine FW.gskip rfl rfl ?_
            refine FW.gskip rfl rfl ?_
            refine FW.gskip rfl rfl ?_
            refine FW.gskip rfl rfl ?_
            refine FW.gskip0 rfl ?_
            refine FW.gskip rfl rfl ?_
            exact FW.gend
          · skip
            intro σD a w opsD QD hk hf hQ hX
            refine FW.l_callH (I1 := (ODevDev.items bx1 xd2 xc2 xr3 xd4 xc4 (⟨l2, m3, y1_2, l4, y1_4⟩ : ODevDev))) (I2 := [FW.blk bx2 68 (([.lit (.pointer (some ⟨bx1, 0, none⟩))] : List FW.AV) ++ (Offshootref03Dev.cells y5_1))]) (js := [4, 4, 4, 4]) hk rfl rfl hf rfl rfl Go.Proofs.Try.func37 rfl (by kernel_rfl) (offshootlaw03_both_do.ok K (⟨y5_1⟩ : Offshootlaw03Both) (⟨l2, m3, y1_2, l4, y1_4⟩ : ODevDev) (List.getD v1 (Int.toNat v9) default) _ hr_t5 bx1 xd2 xc2 xr3 xd4 xc4) ?_; clear hk
            rintro _ _ ⟨zd1, zc1, zr1, zd2, zc2, rfl, rfl⟩ a w hk
            refine hQ _ _ a w ?_ hk; clear hk hQ hf hX
            refine ⟨[(40, [], .agg (([.lit (.pointer (some ⟨bx1, 0, none⟩))] : List FW.AV) ++ (Offshootref03Dev.cells y5_1))), (41, [], .row (r_Offshootlaw03Act_cells v1)), (42, [], .lit (.int .i64 v9)), (43, [], .ref (Offshootlaw03Act.cells (List.getD v1 (Int.toNat v9) default))), (44, [], .agg ((Offshootlaw03Act.cells (List.getD v1 (Int.toNat v9) default)))), (45, [], .tup [.agg (([.lit (.pointer (some ⟨bx1, 0, none⟩))] : List FW.AV) ++ (Offshootref03Dev.cells t5.1.m)), .lit (.bool t5.2.1)]), (39, [], .tup [.agg (([.lit (.pointer (some ⟨bx1, 0, none⟩))] : List FW.AV) ++ (Offshootref03Dev.cells t5.1.m)), .lit (.bool t5.2.1)]), (46, [], .agg (([.lit (.pointer (some ⟨bx1, 0, none⟩))] : List FW.AV) ++ (Offshootref03Dev.cells t5.1.m))), (47, [], .lit (.bool t5.2.1)), (10, [], .agg []), (56, [], .lit undef), (11, [], .agg [])], And.intro rfl (And.intro rfl (And.intro rfl (And.intro rfl (And.intro rfl (trivial))))), rfl, ?_⟩
            refine FW.gnext ?_ rfl rfl rfl rfl rfl ?_
            · skip
              refine FW.gskip rfl rfl ?_
              refine FW.gskip rfl rfl ?_
              refine FW.gskip rfl rfl ?_
              refine FW.gskip rfl rfl ?_
              refine FW.gskip rfl rfl ?_
              refine FW.gskip rfl rfl ?_
              refine FW.gfun (y := .tup [.agg (([.lit (.pointer (some ⟨bx1, 0, none⟩))] : List FW.AV) ++ (Offshootref03Dev.cells t5.1.m)), .lit (.bool t5.2.1)]) rfl rfl rfl rfl (fun a w hk => FW.f_move hk (FW.holds_nil _) rfl) ?_
              refine FW.gfun (y := .agg (([.lit (.pointer (some ⟨bx1, 0, none⟩))] : List FW.AV) ++ (Offshootref03Dev.cells t5.1.m))) rfl rfl rfl rfl (fun a w hk => FW.f_extract hk (FW.holds_nil _) rfl rfl) ?_
              refine FW.gfun (y := .lit (.bool t5.2.1)) rfl rfl rfl rfl (fun a w hk => FW.f_extract hk (FW.holds_nil _) rfl rfl) ?_
              refine FW.gskip rfl rfl ?_
              refine FW.gskip0 rfl ?_
              refine FW.gskip rfl rfl ?_
              exact FW.gend
            · skip
              intro σD a w opsD QD hk hf hQ hX
              refine FW.l_alloc (zs := ([.lit (.pointer none)] : List FW.AV) ++ (Offshootref03Dev.cells (⟨[], [], 0, [], false⟩ : Offshootref03Dev))) [] hk rfl hf rfl rfl ?_; clear hk; intro bx3 a w hk
              refine hQ _ _ a w ?_ hk; clear hk hQ hf hX
              refine ⟨[(40, [], .agg (([.lit (.pointer (some ⟨bx1, 0, none⟩))] : List FW.AV) ++ (Offshootref03Dev.cells y5_1))), (41, [], .row (r_Offshootlaw03Act_cells v1)), (42, [], .lit (.int .i64 v9)), (43, [], .ref (Offshootlaw03Act.cells (List.getD v1 (Int.toNat v9) default))), (44, [], .agg ((Offshootlaw03Act.cells (List.getD v1 (Int.toNat v9) default)))), (45, [], .tup [.agg (([.lit (.pointer (some ⟨bx1, 0, none⟩))] : List FW.AV) ++ (Offshootref03Dev.cells t5.1.m)), .lit (.bool t5.2.1)]), (39, [], .tup [.agg (([.lit (.pointer (some ⟨bx1, 0, none⟩))] : List FW.AV) ++ (Offshootref03Dev.cells t5.1.m)), .lit (.bool t5.2.1)]), (46, [], .agg (([.lit (.pointer (some ⟨bx1, 0, none⟩))] : List FW.AV) ++ (Offshootref03Dev.cells t5.1.m))), (47, [], .lit (.bool t5.2.1)), (10, [], .lit (.pointer (some ⟨bx3, 0, none⟩))), (56, [], .lit undef), (11, [], .agg [])], And.intro rfl (And.intro rfl (And.intro rfl (And.intro rfl (And.intro rfl (And.intro rfl (And.intro rfl (And.intro rfl (And.intro rfl (trivial))))))))), rfl, ?_⟩
              refine FW.gnext0 ?_ rfl rfl rfl ?_
              · skip
                refine FW.gskip rfl rfl ?_
                refine FW.gskip rfl rfl ?_
                refine FW.gskip rfl rfl ?_
                refine FW.gskip rfl rfl ?_
                refine FW.gskip rfl rfl ?_
                refine FW.gskip rfl rfl ?_
                refine FW.gfun (y := .tup [.agg (([.lit (.pointer (some ⟨bx1, 0, none⟩))] : List FW.AV) ++ (Offshootref03Dev.cells t5.1.m)), .lit (.bool t5.2.1)]) rfl rfl rfl rfl (fun a w hk => FW.f_move hk (FW.holds_nil _) rfl) ?_
                refine FW.gfun (y := .agg (([.lit (.pointer (some ⟨bx1, 0, none⟩))] : List FW.AV) ++ (Offshootref03Dev.cells t5.1.m))) rfl rfl rfl rfl (fun a w hk => FW.f_extract hk (FW.holds_nil _) rfl rfl) ?_
                refine FW.gfun (y := .lit (.bool t5.2.1)) rfl rfl rfl rfl (fun a w hk => FW.f_extract hk (FW.holds_nil _) rfl rfl) ?_
                refine FW.gskip rfl rfl ?_
                refine FW.gskip0 rfl ?_
                refine FW.gskip rfl rfl ?_
                exact FW.gend
              · skip
                intro σD a w opsD QD hk hQ hX
                refine FW.l_store (I' := [FW.blk bx3 68 (([.lit (.pointer (some ⟨bx1, 0, none⟩))] : List FW.AV) ++ (Offshootref03Dev.cells t5.1.m)), FW.blk bx1 109 ([.lit (.slice zd1 (List.length t5.2.2.sure) zc1), .lit (.map (some zr1)), .lit (.int .i64 t5.2.2.steps), .lit (.slice zd2 (List.length t5.2.2.falls) zc2), .lit (.bool t5.2.2.off)]), FW.orow zd1 zc1 9 1 c_str t5.2.2.sure, FW.mapI (.int .i64) (Value.int .i64) FW.evS zr1 t5.2.2.cache, FW.orow zd2 zc2 45 3 ApiFall.cells t5.2.2.falls, FW.blk bx2 68 (([.lit (.pointer (some ⟨bx1, 0, none⟩))] : List FW.AV) ++ (Offshootref03Dev.cells y5_1))]) (cs' := ([.lit (.pointer (some ⟨bx1, 0, none⟩))] : List FW.AV) ++ (Offshootref03Dev.cells t5.1.m)) (j := 0) hk rfl rfl rfl rfl rfl (by kernel_rfl) rfl rfl ?_; clear hk; intro w hk
                refine hQ _ a w ?_ hk; clear hk hQ hX
                refine ⟨[(40, [], .agg (([.lit (.pointer (some ⟨bx1, 0, none⟩))] : List FW.AV) ++ (Offshootref03Dev.cells y5_1))), (41, [], .row (r_Offshootlaw03Act_cells v1)), (42, [], .lit (.int .i64 v9)), (43, [], .ref (Offshootlaw03Act.cells (List.getD v1 (Int.toNat v9) default))), (44, [], .agg ((Offshootlaw03Act.cells (List.getD v1 (Int.toNat v9) default)))), (45, [], .tup [.agg (([.lit (.pointer (some ⟨bx1, 0, none⟩))] : List FW.AV) ++ (Offshootref03Dev.cells t5.1.m)), .lit (.bool t5.2.1)]), (39, [], .tup [.agg (([.lit (.pointer (some ⟨bx1, 0, none⟩))] : List FW.AV) ++ (Offshootref03Dev.cells t5.1.m)), .lit (.bool t5.2.1)]), (46, [], .agg (([.lit (.pointer (some ⟨bx1, 0, none⟩))] : List FW.AV) ++ (Offshootref03Dev.cells t5.1.m))), (47, [], .lit (.bool t5.2.1)), (10, [], .lit (.pointer (some ⟨bx3, 0, none⟩))), (56, [], .lit undef), (11, [], .lit (.bool t5.2.1))], And.intro rfl (And.intro rfl (And.intro rfl (And.intro rfl (And.intro rfl (And.intro rfl (And.intro rfl (And.intro rfl (And.intro rfl (And.intro rfl (trivial)))))))))), rfl, ?_⟩
                refine FW.glast ?_ ?_
                · skip
                  refine FW.gskip rfl rfl ?_
                  refine FW.gskip rfl rfl ?_
                  refine FW.gskip rfl rfl ?_
                  refine FW.gskip rfl rfl ?_
                  refine FW.gskip rfl rfl ?_
                  refine FW.gskip rfl rfl ?_
                  refine FW.gskip rfl rfl ?_
                  refine FW.gskip rfl rfl ?_
                  refine FW.gfun (y := .lit (.bool t5.2.1)) rfl rfl rfl rfl (fun a w hk => FW.f_extract hk (FW.holds_nil _) rfl rfl) ?_
                  refine FW.gskip rfl rfl ?_
                  refine FW.gskip0 rfl ?_
                  refine FW.gfun (y := .lit (.bool t5.2.1)) rfl rfl rfl rfl (fun a w hk => FW.f_assign hk (FW.holds_nil _) rfl) ?_
                  exact FW.gend
                · skip
                  intro a w hk; simp only [FW.stD, cond_true] at hk
                  (repeat first | refine FW.then_normal ?_ | refine FW.block_normal ?_); exact hK14 _ _ ⟨t5.1.m, t5.2.2.steps, t5.2.2.off, t5.2.2.sure, t5.2.2.cache, t5.2.2.falls, v1, v9, t5.2.1, bx3, zd1, zc1, zr1, zd2, zc2, hk.sub ⟨rfl, rfl, rfl, rfl, rfl, trivial⟩, h⟩
        · skip
          refine FW.gnext ?_ rfl rfl rfl rfl rfl ?_
          · skip
            refine FW.gfun (y := .agg (([.lit (.pointer (some ⟨bx1, 0, none⟩))] : List FW.AV) ++ (Offshootref03Dev.cells y5_1))) rfl rfl rfl rfl (fun a w hk => FW.f_loadBlk hk (FW.holds_nil _) (j := 0) rfl rfl Go.Proofs.Try.underlying68 rfl rfl rfl rfl) ?_
            refine FW.gfun (y := .row (r_Offshootlaw03Act_cells v1)) rfl rfl rfl rfl (fun a w hk => FW.f_move hk (FW.holds_nil _) rfl) ?_
            refine FW.gfun (y := .lit (.int .i64 v9)) rfl rfl rfl rfl (fun a w hk => FW.f_move hk (FW.holds_nil _) rfl) ?_
            refine FW.gfun (y := .ref (Offshootlaw03Act.cells (List.getD v1 (Int.toNat v9) default))) rfl rfl rfl rfl (fun a w hk => FW.f_indexAddr (R := r_Offshootlaw03Act_cells) (f := Offshootlaw03Act.cells) (l := v1) (sz := 7) r_Offshootlaw03Act_cells_eq (fun _ => rfl) hk (FW.holds_nil _) rfl rfl Go.Proofs.Try.underlying43 (by kernel_rfl) hc1) ?_
            refine FW.gfun (y := .agg ((Offshootlaw03Act.cells (List.getD v1 (Int.toNat v9) default)))) rfl rfl rfl rfl (fun a w hk => FW.f_load hk (FW.holds_nil _) rfl Go.Proofs.Try.underlying51 rfl rfl rfl rfl) ?_
            refine FW.gskip rfl rfl ?_
            refine FW.gskip rfl rfl ?_
            refine FW.gskip rfl rfl ?_
            refine FW.gskip rfl rfl ?_
            refine FW.gskip rfl rfl ?_
            refine FW.gskip0 rfl ?_
            refine FW.gskip rfl rfl ?_
            exact FW.gend
          · skip
            intro σD a w opsD QD hk hf hQ hX
            refine FW.l_alloc (zs := ([.lit (.pointer none)] : List FW.AV) ++ (Offshootref03Dev.cells (⟨[], [], 0, [], false⟩ : Offshootref03Dev))) [] hk rfl hf rfl rfl ?_; clear hk; intro bx3 a w hk
            refine hQ _ _ a w ?_ hk; clear hk hQ hf hX
            refine ⟨[(40, [], .agg (([.lit (.pointer (some ⟨bx1, 0, none⟩))] : List FW.AV) ++ (Offshootref03Dev.cells y5_1))), (41, [], .row (r_Offshootlaw03Act_cells v1)), (42, [], .lit (.int .i64 v9)), (43, [], .ref (Offshootlaw03Act.cells (List.getD v1 (Int.toNat v9) default))), (44, [], .agg ((Offshootlaw03Act.cells (List.getD v1 (Int.toNat v9) default)))), (45, [], .agg []), (39, [], .agg []), (46, [], .agg []), (47, [], .agg []), (10, [], .lit (.pointer (some ⟨bx3, 0, none⟩))), (56, [], .lit undef), (11, [], .agg [])], And.intro rfl (And.intro rfl (And.intro rfl (And.intro rfl (And.intro rfl (trivial))))), rfl, ?_⟩
            refine FW.gnext ?_ rfl rfl rfl rfl rfl ?_
            · skip
              refine FW.gfun (y := .agg (([.lit (.pointer (some ⟨bx1, 0, none⟩))] : List FW.AV) ++ (Offshootref03Dev.cells y5_1))) rfl rfl rfl rfl (fun a w hk => FW.f_loadBlk hk (FW.holds_nil _) (j := 1) rfl rfl Go.Proofs.Try.underlying68 rfl rfl rfl rfl) ?_
              refine FW.gfun (y := .row (r_Offshootlaw03Act_cells v1)) rfl rfl rfl rfl (fun a w hk => FW.f_move hk (FW.holds_nil _) rfl) ?_
              refine FW.gfun (y := .lit (.int .i64 v9)) rfl rfl rfl rfl (fun a w hk => FW.f_move hk (FW.holds_nil _) rfl) ?_
              refine FW.gfun (y := .ref (Offshootlaw03Act.cells (List.getD v1 (Int.toNat v9) default))) rfl rfl rfl rfl (fun a w hk => FW.f_indexAddr (R := r_Offshootlaw03Act_cells) (f := Offshootlaw03Act.cells) (l := v1) (sz := 7) r_Offshootlaw03Act_cells_eq (fun _ => rfl) hk (FW.holds_nil _) rfl rfl Go.Proofs.Try.underlying43 (by kernel_rfl) hc1) ?_
              refine FW.gfun (y := .agg ((Offshootlaw03Act.cells (List.getD v1 (Int.toNat v9) default)))) rfl rfl rfl rfl (fun a w hk => FW.f_load hk (FW.holds_nil _) rfl Go.Proofs.Try.underlying51 rfl rfl rfl rfl) ?_
              refine FW.gskip rfl rfl ?_
              refine FW.gskip rfl rfl ?_
              refine FW.gskip rfl rfl ?_
              refine FW.gskip rfl rfl ?_
              refine FW.gskip rfl rfl ?_
              refine FW.gskip0 rfl ?_
              refine FW.gskip rfl rfl ?_
              exact FW.gend
            · skip
              intro σD a w opsD QD hk hf hQ hX
              refine FW.l_callH (I1 := (ODevDev.items bx1 xd2 xc2 xr3 xd4 xc4 (⟨l2, m3, y1_2, l4, y1_4⟩ : ODevDev))) (I2 := [FW.blk bx3 68 (([.lit (.pointer none)] : List FW.AV) ++ (Offshootref03Dev.cells (⟨[], [], 0, [], false⟩ : Offshootref03Dev))), FW.blk bx2 68 (([.lit (.pointer (some ⟨bx1, 0, none⟩))] : List FW.AV) ++ (Offshootref03Dev.cells y5_1))]) (js := [5, 5, 5, 5]) hk rfl rfl hf rfl rfl Go.Proofs.Try.func37 rfl (by kernel_rfl) (offshootlaw03_both_do.ok K (⟨y5_1⟩ : Offshootlaw03Both) (⟨l2, m3, y1_2, l4, y1_4⟩ : ODevDev) (List.getD v1 (Int.toNat v9) default) _ hr_t5 bx1 xd2 xc2 xr3 xd4 xc4) ?_; clear hk
              rintro _ _ ⟨zd1, zc1, zr1, zd2, zc2, rfl, rfl⟩ a w hk
              refine hQ _ _ a w ?_ hk; clear hk hQ hf hX
              refine ⟨[(40, [], .agg (([.lit (.pointer (some ⟨bx1, 0, none⟩))] : List FW.AV) ++ (Offshootref03Dev.cells y5_1))), (41, [], .row (r_Offshootlaw03Act_cells v1)), (42, [], .lit (.int .i64 v9)), (43, [], .ref (Offshootlaw03Act.cells (List.getD v1 (Int.toNat v9) default))), (44, [], .agg ((Offshootlaw03Act.cells (List.getD v1 (Int.toNat v9) default)))), (45, [], .tup [.agg (([.lit (.pointer (some ⟨bx1, 0, none⟩))] : List FW.AV) ++ (Offshootref03Dev.cells t5.1.m)), .lit (.bool t5.2.1)]), (39, [], .tup [.agg (([.lit (.pointer (some ⟨bx1, 0, none⟩))] : List FW.AV) ++ (Offshootref03Dev.cells t5.1.m)), .lit (.bool t5.2.1)]), (46, [], .agg (([.lit (.pointer (some ⟨bx1, 0, none⟩))] : List FW.AV) ++ (Offshootref03Dev.cells t5.1.m))), (47, [], .lit (.bool t5.2.1)), (10, [], .lit (.pointer (some ⟨bx3, 0, none⟩))), (56, [], .lit undef), (11, [], .agg [])], And.intro rfl (And.intro rfl (And.intro rfl (And.intro rfl (And.intro rfl (And.intro rfl (trivial)))))), rfl, ?_⟩
              refine FW.gnext0 ?_ rfl rfl rfl ?_
              · skip
                refine FW.gskip rfl rfl ?_
                refine FW.gskip rfl rfl ?_
                refine FW.gskip rfl rfl ?_
                refine FW.gskip rfl rfl ?_
                refine FW.gskip rfl rfl ?_
                refine FW.gskip rfl rfl ?_
                refine FW.gfun (y := .tup [.agg (([.lit (.pointer (some ⟨bx1, 0, none⟩))] : List FW.AV) ++ (Offshootref03Dev.cells t5.1.m)), .lit (.bool t5.2.1)]) rfl rfl rfl rfl (fun a w hk => FW.f_move hk (FW.holds_nil _) rfl) ?_
                refine FW.gfun (y := .agg (([.lit (.pointer (some ⟨bx1, 0, none⟩))] : List FW.AV) ++ (Offshootref03Dev.cells t5.1.m))) rfl rfl rfl rfl (fun a w hk => FW.f_extract hk (FW.holds_nil _) rfl rfl) ?_
                refine FW.gfun (y := .lit (.bool t5.2.1)) rfl rfl rfl rfl (fun a w hk => FW.f_extract hk (FW.holds_nil _) rfl rfl) ?_
                refine FW.gskip rfl rfl ?_
                refine FW.gskip0 rfl ?_
                refine FW.gskip rfl rfl ?_
                exact FW.gend
              · skip
                intro σD a w opsD QD hk hQ hX
                refine FW.l_store (I' := [FW.blk bx1 109 ([.lit (.slice zd1 (List.length t5.2.2.sure) zc1), .lit (.map (some zr1)), .lit (.int .i64 t5.2.2.steps), .lit (.slice zd2 (List.length t5.2.2.falls) zc2), .lit (.bool t5.2.2.off)]), FW.orow zd1 zc1 9 1 c_str t5.2.2.sure, FW.mapI (.int .i64) (Value.int .i64) FW.evS zr1 t5.2.2.cache, FW.orow zd2 zc2 45 3 ApiFall.cells t5.2.2.falls, FW.blk bx3 68 (([.lit (.pointer (some ⟨bx1, 0, none⟩))] : List FW.AV) ++ (Offshootref03Dev.cells t5.1.m)), FW.blk bx2 68 (([.lit (.pointer (some ⟨bx1, 0, none⟩))] : List FW.AV) ++ (Offshootref03Dev.cells y5_1))]) (cs' := ([.lit (.pointer (some ⟨bx1, 0, none⟩))] : List FW.AV) ++ (Offshootref03Dev.cells t5.1.m)) (j := 4) hk rfl rfl rfl rfl rfl (by kernel_rfl) rfl rfl ?_; clear hk; intro w hk
                refine hQ _ a w ?_ hk; clear hk hQ hX
                refine ⟨[(40, [], .agg (([.lit (.pointer (some ⟨bx1, 0, none⟩))] : List FW.AV) ++ (Offshootref03Dev.cells y5_1))), (41, [], .row (r_Offshootlaw03Act_cells v1)), (42, [], .lit (.int .i64 v9)), (43, [], .ref (Offshootlaw03Act.cells (List.getD v1 (Int.toNat v9) default))), (44, [], .agg ((Offshootlaw03Act.cells (List.getD v1 (Int.toNat v9) default)))), (45, [], .tup [.agg (([.lit (.pointer (some ⟨bx1, 0, none⟩))] : List FW.AV) ++ (Offshootref03Dev.cells t5.1.m)), .lit (.bool t5.2.1)]), (39, [], .tup [.agg (([.lit (.pointer (some ⟨bx1, 0, none⟩))] : List FW.AV) ++ (Offshootref03Dev.cells t5.1.m)), .lit (.bool t5.2.1)]), (46, [], .agg (([.lit (.pointer (some ⟨bx1, 0, none⟩))] : List FW.AV) ++ (Offshootref03Dev.cells t5.1.m))), (47, [], .lit (.bool t5.2.1)), (10, [], .lit (.pointer (some ⟨bx3, 0, none⟩))), (56, [], .lit undef), (11, [], .lit (.bool t5.2.1))], And.intro rfl (And.intro rfl (And.intro rfl (And.intro rfl (And.intro rfl (And.intro rfl (And.intro rfl (And.intro rfl (And.intro rfl (And.intro rfl (trivial)))))))))), rfl, ?_⟩
                refine FW.glast ?_ ?_
                · skip
                  refine FW.gskip rfl rfl ?_
                  refine FW.gskip rfl rfl ?_
                  refine FW.gskip rfl rfl ?_
                  refine FW.gskip rfl rfl ?_
                  refine FW.gskip rfl rfl ?_
                  refine FW.gskip rfl rfl ?_
                  refine FW.gskip rfl rfl ?_
                  refine FW.gskip rfl rfl ?_
                  refine FW.gfun (y := .lit (.bool t5.2.1)) rfl rfl rfl rfl (fun a w hk => FW.f_extract hk (FW.holds_nil _) rfl rfl) ?_
                  refine FW.gskip rfl rfl ?_
                  refine FW.gskip0 rfl ?_
                  refine FW.gfun (y := .lit (.bool t5.2.1)) rfl rfl rfl rfl (fun a w hk => FW.f_assign hk (FW.holds_nil _) rfl) ?_
                  exact FW.gend
                · skip
                  intro a w hk; simp only [FW.stD, cond_true] at hk
                  (repeat first | refine FW.then_normal ?_ | refine FW.block_normal ?_); exact hK14 _ _ ⟨t5.1.m, t5.2.2.steps, t5.2.2.off, t5.2.2.sure, t5.2.2.cache, t5.2.2.falls, v1, v9, t5.2.1, bx3, zd1, zc1, zr1, zd2, zc2, (FW.S.pick hk (js := [5, 4, 4, 4, 4, 5]) rfl).sub ⟨rfl, rfl, rfl, rfl, rfl, trivial⟩, h⟩
    · skip
      refine wp_exit ?_; (repeat first | refine FW.then_exit ?_ | refine FW.block_exit_ne rfl ?_); refine FW.block_exit ?_
      (repeat first | refine FW.then_normal ?_ | refine FW.block_normal ?_); refine hK8 _ _ ?_
      refine FW.wreg ?_; intro K' hK20
      refine FW.lfun (y := .lit (.bool true)) hk rfl rfl rfl rfl (FW.f_assign hk (FW.holds_nil _) rfl) ?_; clear hk; intro a w hk
      refine FW.lend (hK20 _ _ ?_); clear hK20 K'
      refine wp_ret ?_
      (repeat first | refine FW.then_ret ?_ | refine FW.block_ret ?_)
      obtain rfl := Option.some.inj h
      exact FW.fret1 hk rfl rfl
end Go.Proofs.Ytimaibcaehagjaa

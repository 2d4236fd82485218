/- Written by a program of this session (gen.py): the contracts of functions of the program. -/
import Derived.KernelRfl
import Derived.Test.YtbjbgodcenopnaaProg
import Derived.Test.YtbjbgodcenopnaaAvFun
import Derived.Test.YtbjbgodcenopnaaAvMan
import Derived.Test.YtbjbgodcenopnaaAvMore
import Derived.Test.YtbjbgodcenopnaaAvDraw2
import Derived.Test.YtbjbgodcenopnaaAvRow
import Derived.Test.YtbjbgodcenopnaaAvBld
import Derived.Test.YtbjbgodcenopnaaHcl
import Derived.Test.YtbjbgodcenopnaaAvFl
import Derived.Test.YtbjbgodcenopnaaSvD
import Derived.Test.YtbjbgodcenopnaaSvP10
namespace Go.Proofs.Ytbjbgodcenopnaa
set_option linter.unusedVariables false
set_option maxRecDepth 20000
set_option maxHeartbeats 10000000
theorem offshootref12_State_steps.bok (s_offshootref12_State_steps : Offshootref12State → Option (Offshootref12State × List ApiStep)) (s_offshootref12_State_arg : Offshootref12State → Option (Offshootref12State × ApiArg)) (hs_offshootref12_State_steps : ∀ (v0 : Offshootref12State) (r : Offshootref12State × List ApiStep), s_offshootref12_State_steps v0 = some r → FW.Ok Try.prog 27 [.agg (Offshootref12State.cells v0)] (.tup [.agg (Offshootref12State.cells r.1), .row (r_ApiStep_cells r.2)])) (hs_offshootref12_State_arg : ∀ (v0 : Offshootref12State) (r : Offshootref12State × ApiArg), s_offshootref12_State_arg v0 = some r → FW.Ok Try.prog 52 [.agg (Offshootref12State.cells v0)] (.tup [.agg (Offshootref12State.cells r.1), .agg (ApiArg.cells r.2)])) (K : Nat) (v0 : Offshootref12State) (r : Offshootref12State × List ApiStep) (h : offshootref12_State_steps.b s_offshootref12_State_steps s_offshootref12_State_arg K v0 = some r) :
  FW.Ok Try.prog 27 [.agg (Offshootref12State.cells v0)] (.tup [.agg (Offshootref12State.cells r.1), .row (r_ApiStep_cells r.2)]) := by
 refine FW.enter (xs := [.agg (Offshootref12State.cells v0)]) Try.func27 rfl Try.ntmps27 rfl ?_
 intro M w0 a hk
 unfold offshootref12_State_steps.b at h
 refine FW.wreg ?_; intro K' hK1
 refine FW.l_box (cs := (Offshootref12State.cells v0)) hk rfl rfl rfl rfl rfl ?_; clear hk; intro bx1 a w hk
 refine FW.l_alloc (zs := (Offshootref12State.cells (⟨[], 0, 0, 0, 0, 0⟩ : Offshootref12State))) [] hk rfl rfl rfl rfl ?_; clear hk; intro bx2 a w hk
 refine FW.lfun (y := .row (r_ApiStep_cells [])) hk rfl rfl rfl rfl (FW.f_assignNil) ?_; clear hk; intro a w hk
 refine FW.lend (hK1 _ _ ?_); clear hK1 K'
 refine FW.wreg ?_; intro K' hK2
 refine FW.l_buildSlice0 (f := ApiStep.cells) hk rfl rfl Try.underlying22 rfl (fun _ => rfl) ?_; clear hk; intro bx3 a w hk
 refine FW.lfun (y := .lit (.slice (some ⟨bx3, 0, none⟩) (List.length ([] : List ApiStep)) 0)) hk rfl rfl rfl rfl (FW.f_assign hk FW.h0 rfl) ?_; clear hk; intro a w hk
 refine FW.lend (hK2 _ _ ?_); clear hK2 K'
 refine FW.wseqJ (fun a w => ∃ (l3 : List ApiStep) (y1 : Offshootref12State) (xd3 : Option Addr) (xc3 : Nat), FW.S M w0 a w 95 [FW.orow xd3 xc3 29 2 ApiStep.cells l3, FW.blk bx2 64 ((Offshootref12State.cells (⟨[], 0, 0, 0, 0, 0⟩ : Offshootref12State))), FW.blk bx1 64 ((Offshootref12State.cells y1))] [(1, [], .lit (.pointer (some ⟨bx1, 0, none⟩))), (2, [], .lit (.pointer (some ⟨bx2, 0, none⟩))), (4, [], .lit (.slice xd3 (List.length l3) xc3))] ∧ offshootref12_State_steps.j1 s_offshootref12_State_steps s_offshootref12_State_arg K l3 y1 = some r) ?_ ?_
 ·clear hk h
  rintro a w ⟨l3, y1, xd3, xc3, hk, h⟩
  unfold offshootref12_State_steps.j1 at h
  refine FW.wreg ?_; intro K' hK4
  refine FW.lfun (y := .agg ((Offshootref12State.cells y1))) hk rfl rfl rfl rfl (FW.f_loadBlk hk FW.h0 (j := 2) rfl rfl Try.underlying64 rfl rfl rfl rfl) ?_; clear hk; intro a w hk
  refine FW.lfun (y := .lit (.slice xd3 (List.length l3) xc3)) hk rfl rfl rfl rfl (FW.f_move hk FW.h0 rfl) ?_; clear hk; intro a w hk
  refine FW.l_store (I' := [FW.orow xd3 xc3 29 2 ApiStep.cells l3, FW.blk bx2 64 ((Offshootref12State.cells y1)), FW.blk bx1 64 ((Offshootref12State.cells y1))]) (cs' := (Offshootref12State.cells y1)) (j := 1) hk rfl rfl rfl rfl rfl (by kernel_rfl) rfl rfl ?_; clear hk; intro w hk
  refine FW.lfun (y := .lit (.slice xd3 (List.length l3) xc3)) hk rfl rfl rfl rfl (FW.f_assign hk FW.h0 rfl) ?_; clear hk; intro a w hk
  refine FW.lend (hK4 _ _ ?_); clear hK4 K'
  refine wp_ret ?_
  (repeat first | refine FW.then_ret ?_ | refine FW.block_ret ?_)
  replace hk := FW.S.freezeR (I' := [FW.blk bx2 64 ((Offshootref12State.cells y1)), FW.blk bx1 64 ((Offshootref12State.cells y1))]) r_ApiStep_cells_eq hk (j := 0) rfl (t := 3) rfl rfl
  obtain rfl := Option.some.inj h
  exact FW.fretR2 hk rfl (FW.rcell hk rfl (j := 0) rfl Try.underlying64 rfl (by kernel_rfl)) (FW.rtmp hk rfl)
 ·intro K' hK3
  refine wp_block ?_
  refine FW.wloop (T := Nat × List ApiStep × Offshootref12State × Option Addr × Nat) (fun x a w => match x with | (kl1, l3, y1, xd3, xc3) => FW.S M w0 a w 95 [FW.orow xd3 xc3 29 2 ApiStep.cells l3, FW.blk bx2 64 ((Offshootref12State.cells (⟨[], 0, 0, 0, 0, 0⟩ : Offshootref12State))), FW.blk bx1 64 ((Offshootref12State.cells y1))] [(1, [], .lit (.pointer (some ⟨bx1, 0, none⟩))), (2, [], .lit (.pointer (some ⟨bx2, 0, none⟩))), (4, [], .lit (.slice xd3 (List.length l3) xc3))] ∧ offshootref12_State_steps.l1 s_offshootref12_State_steps s_offshootref12_State_arg K kl1 l3 y1 = some r) (fun x => x.1) (K, ([] : List ApiStep), v0, (some ⟨bx3, 0, none⟩), 0) ⟨hk.sub ⟨rfl, rfl, rfl, trivial⟩, h⟩ ?_
  clear hk h
  rintro ⟨kl1, l3, y1, xd3, xc3⟩ a w ⟨hk, h⟩ K' hK5
  cases kl1 with
  | zero => simp [offshootref12_State_steps.l1] at h
  | succ kl1 =>
  rw [offshootref12_State_steps.l1.eq_2] at h
  refine FW.wseq ?_; intro K' hK6
  refine FW.wreg ?_; intro K' hK7
  refine FW.lfun (y := .lit (.pointer (some ⟨bx1, 5, none⟩))) hk rfl rfl rfl rfl (FW.f_fieldPtr hk FW.h0 rfl Try.underlying64 rfl (by kernel_rfl) rfl) ?_; clear hk; intro a w hk
  refine FW.lfun (y := .lit (.int .i64 y1.E)) hk rfl rfl rfl rfl (FW.f_loadBlk1 hk FW.h0 (j := 2) rfl rfl Try.underlying23 rfl rfl) ?_; clear hk; intro a w hk
  refine FW.lfun (y := .lit (.bool (decide (y1.E = 0)))) hk rfl rfl rfl rfl ((FW.f_pure (FW.p_eql hk.kn FW.h0 rfl rfl))) ?_; clear hk; intro a w hk
  refine FW.lend (hK7 _ _ ?_); clear hK7 K'
  refine FW.wcondF (b := (decide (y1.E = 0))) hk h rfl (fun h hb => ?_) (fun h hb => ?_)
  ·skip
   refine wp_skip ?_
   (repeat first | refine FW.then_normal ?_ | refine FW.block_normal ?_); refine hK6 _ _ ?_
   refine wp_block ?_
   refine FW.wseq ?_; intro K' hK8
   refine FW.wreg ?_; intro K' hK9
   refine FW.lfun (y := .lit (.pointer (some ⟨bx1, 3, none⟩))) hk rfl rfl rfl rfl (FW.f_fieldPtr hk FW.h0 rfl Try.underlying64 rfl (by kernel_rfl) rfl) ?_; clear hk; intro a w hk
   refine FW.lfun (y := .lit (.int .i64 y1.Steps)) hk rfl rfl rfl rfl (FW.f_loadBlk1 hk FW.h0 (j := 2) rfl rfl Try.underlying3 rfl rfl) ?_; clear hk; intro a w hk
   refine FW.lfun (y := .lit (.bool (decide (150 ≤ y1.Steps)))) hk rfl rfl rfl rfl ((FW.f_pure (FW.p_geq hk.kn FW.h0 rfl rfl))) ?_; clear hk; intro a w hk
   refine FW.lend (hK9 _ _ ?_); clear hK9 K'
   refine FW.wcondF (b := (decide (150 ≤ y1.Steps))) hk h rfl (fun h hb => ?_) (fun h hb => ?_)
   ·skip
    refine FW.wreg ?_; intro K' hK10
    refine FW.lfun (y := .agg ((Offshootref12State.cells y1))) hk rfl rfl rfl rfl (FW.f_loadBlk hk FW.h0 (j := 2) rfl rfl Try.underlying64 rfl rfl rfl rfl) ?_; clear hk; intro a w hk
    obtain ⟨t1, hr_t1, h⟩ := FW.bnd h
    refine FW.lfun (y := .agg ((Offshootref12State.cells t1))) hk rfl rfl rfl rfl (FW.f_call hk FW.h0 rfl rfl Try.func28 rfl (by kernel_rfl) (offshootref12_State_fail.ok y1 3 _ hr_t1)) ?_; clear hk; intro a w hk
    refine FW.l_store (I' := [FW.orow xd3 xc3 29 2 ApiStep.cells l3, FW.blk bx2 64 ((Offshootref12State.cells t1)), FW.blk bx1 64 ((Offshootref12State.cells y1))]) (cs' := (Offshootref12State.cells t1)) (j := 1) hk rfl rfl rfl rfl rfl (by kernel_rfl) rfl rfl ?_; clear hk; intro w hk
    refine FW.lfun (y := .row (r_ApiStep_cells [])) hk rfl rfl rfl rfl (FW.f_assignNil) ?_; clear hk; intro a w hk
    refine FW.lend (hK10 _ _ ?_); clear hK10 K'
    refine wp_ret ?_
    (repeat first | refine FW.then_ret ?_ | refine FW.block_ret ?_)
    obtain rfl := Option.some.inj h
    exact FW.fretR2 hk rfl (FW.rcell hk rfl (j := 1) rfl Try.underlying64 rfl (by kernel_rfl)) (FW.rtmp hk rfl)
   ·skip
    refine wp_skip ?_
    (repeat first | refine FW.then_normal ?_ | refine FW.block_normal ?_); refine hK8 _ _ ?_
    refine FW.wreg ?_; intro K' hK11
    refine FW.lfun (y := .lit (.pointer (some ⟨bx1, 3, none⟩))) hk rfl rfl rfl rfl (FW.f_fieldPtr hk FW.h0 rfl Try.underlying64 rfl (by kernel_rfl) rfl) ?_; clear hk; intro a w hk
    refine FW.lfun (y := .lit (.int .i64 y1.Steps)) hk rfl rfl rfl rfl (FW.f_loadBlk1 hk FW.h0 (j := 2) rfl rfl Try.underlying3 rfl rfl) ?_; clear hk; intro a w hk
    refine FW.lfun (y := .lit (.int .i64 (IntKind.wrap .i64 (y1.Steps + 1)))) hk rfl rfl rfl rfl ((FW.f_pure (FW.p_add hk.kn FW.h0 rfl rfl))) ?_; clear hk; intro a w hk
    refine FW.lfun (y := .lit (.pointer (some ⟨bx1, 3, none⟩))) hk rfl rfl rfl rfl (FW.f_fieldPtr hk FW.h0 rfl Try.underlying64 rfl (by kernel_rfl) rfl) ?_; clear hk; intro a w hk
    refine FW.l_store (I' := [FW.orow xd3 xc3 29 2 ApiStep.cells l3, FW.blk bx2 64 ((Offshootref12State.cells (⟨[], 0, 0, 0, 0, 0⟩ : Offshootref12State))), FW.blk bx1 64 ((Offshootref12State.cells (⟨y1.L, y1.I, y1.Deep, (IntKind.wrap .i64 (y1.Steps + 1)), y1.At, y1.E⟩ : Offshootref12State)))]) (cs' := (Offshootref12State.cells (⟨y1.L, y1.I, y1.Deep, (IntKind.wrap .i64 (y1.Steps + 1)), y1.At, y1.E⟩ : Offshootref12State))) (j := 2) hk rfl rfl rfl rfl rfl (by kernel_rfl) rfl rfl ?_; clear hk; intro w hk
    refine FW.lend (hK11 _ _ ?_); clear hK11 K'
    refine FW.wseq ?_; intro K' hK12
    refine FW.wreg ?_; intro K' hK13
    refine FW.lfun (y := .lit (.pointer (some ⟨bx1, 0, none⟩))) hk rfl rfl rfl rfl (FW.f_fieldPtr hk FW.h0 rfl Try.underlying64 rfl (by kernel_rfl) rfl) ?_; clear hk; intro a w hk
    refine FW.lfun (y := .row (r_ApiWord_cells y1.L)) hk rfl rfl rfl rfl (FW.f_loadBlk1 hk FW.h0 (j := 2) rfl rfl Try.underlying60 rfl rfl) ?_; clear hk; intro a w hk
    refine FW.lfun (y := .lit (.pointer (some ⟨bx1, 1, none⟩))) hk rfl rfl rfl rfl (FW.f_fieldPtr hk FW.h0 rfl Try.underlying64 rfl (by kernel_rfl) rfl) ?_; clear hk; intro a w hk
    refine FW.lfun (y := .lit (.int .i64 y1.I)) hk rfl rfl rfl rfl (FW.f_loadBlk1 hk FW.h0 (j := 2) rfl rfl Try.underlying3 rfl rfl) ?_; clear hk; intro a w hk
    obtain ⟨hc1, h⟩ := FW.chk h
    refine FW.lfun (y := .ref (ApiWord.cells (List.getD y1.L (Int.toNat y1.I) default))) hk rfl rfl rfl rfl (FW.f_indexAddr (R := r_ApiWord_cells) (f := ApiWord.cells) (l := y1.L) (sz := 5) r_ApiWord_cells_eq (fun _ => rfl) hk FW.h0 rfl rfl Try.underlying60 (by kernel_rfl) hc1) ?_; clear hk; intro a w hk
    refine FW.lfun (y := .ref (List.drop 0 (ApiWord.cells (List.getD y1.L (Int.toNat y1.I) default)))) hk rfl rfl rfl rfl (FW.f_fieldAddr hk FW.h0 rfl Try.underlying66 rfl (by kernel_rfl) rfl) ?_; clear hk; intro a w hk
    refine FW.lfun (y := .lit (.int .i64 ((List.getD y1.L (Int.toNat y1.I) default).Kind))) hk rfl rfl rfl rfl (FW.f_load1 hk FW.h0 rfl rfl Try.underlying3 rfl) ?_; clear hk; intro a w hk
    refine FW.lfun (y := .lit (.bool (!decide (((List.getD y1.L (Int.toNat y1.I) default).Kind) = 1)))) hk rfl rfl rfl rfl ((FW.f_pure (FW.p_neq hk.kn FW.h0 rfl rfl))) ?_; clear hk; intro a w hk
    refine FW.lend (hK13 _ _ ?_); clear hK13 K'
    refine FW.wcondF (b := (!decide (((List.getD y1.L (Int.toNat y1.I) default).Kind) = 1))) hk h rfl (fun h hb => ?_) (fun h hb => ?_)
    ·skip
     refine FW.wreg ?_; intro K' hK14
     refine FW.lfun (y := .agg ((Offshootref12State.cells (⟨y1.L, y1.I, y1.Deep, (IntKind.wrap .i64 (y1.Steps + 1)), y1.At, y1.E⟩ : Offshootref12State)))) hk rfl rfl rfl rfl (FW.f_loadBlk hk FW.h0 (j := 2) rfl rfl Try.underlying64 rfl rfl rfl rfl) ?_; clear hk; intro a w hk
     obtain ⟨t2, hr_t2, h⟩ := FW.bnd h
     refine FW.lfun (y := .agg ((Offshootref12State.cells t2))) hk rfl rfl rfl rfl (FW.f_call hk FW.h0 rfl rfl Try.func28 rfl (by kernel_rfl) (offshootref12_State_fail.ok (⟨y1.L, y1.I, y1.Deep, (IntKind.wrap .i64 (y1.Steps + 1)), y1.At, y1.E⟩ : Offshootref12State) 120 _ hr_t2)) ?_; clear hk; intro a w hk
     refine FW.l_store (I' := [FW.orow xd3 xc3 29 2 ApiStep.cells l3, FW.blk bx2 64 ((Offshootref12State.cells t2)), FW.blk bx1 64 ((Offshootref12State.cells (⟨y1.L, y1.I, y1.Deep, (IntKind.wrap .i64 (y1.Steps + 1)), y1.At, y1.E⟩ : Offshootref12State)))]) (cs' := (Offshootref12State.cells t2)) (j := 1) hk rfl rfl rfl rfl rfl (by kernel_rfl) rfl rfl ?_; clear hk; intro w hk
     refine FW.lfun (y := .row (r_ApiStep_cells [])) hk rfl rfl rfl rfl (FW.f_assignNil) ?_; clear hk; intro a w hk
     refine FW.lend (hK14 _ _ ?_); clear hK14 K'
     refine wp_ret ?_
     (repeat first | refine FW.then_ret ?_ | refine FW.block_ret ?_)
     obtain rfl := Option.some.inj h
     exact FW.fretR2 hk rfl (FW.rcell hk rfl (j := 1) rfl Try.underlying64 rfl (by kernel_rfl)) (FW.rtmp hk rfl)
    ·skip
     refine wp_skip ?_
     (repeat first | refine FW.then_normal ?_ | refine FW.block_normal ?_); refine hK12 _ _ ?_
     refine FW.wreg ?_; intro K' hK15
     refine FW.lfun (y := .lit (.pointer (some ⟨bx1, 0, none⟩))) hk rfl rfl rfl rfl (FW.f_fieldPtr hk FW.h0 rfl Try.underlying64 rfl (by kernel_rfl) rfl) ?_; clear hk; intro a w hk
     refine FW.lfun (y := .row (r_ApiWord_cells y1.L)) hk rfl rfl rfl rfl (FW.f_loadBlk1 hk FW.h0 (j := 2) rfl rfl Try.underlying60 rfl rfl) ?_; clear hk; intro a w hk
     refine FW.lfun (y := .lit (.pointer (some ⟨bx1, 1, none⟩))) hk rfl rfl rfl rfl (FW.f_fieldPtr hk FW.h0 rfl Try.underlying64 rfl (by kernel_rfl) rfl) ?_; clear hk; intro a w hk
     refine FW.lfun (y := .lit (.int .i64 y1.I)) hk rfl rfl rfl rfl (FW.f_loadBlk1 hk FW.h0 (j := 2) rfl rfl Try.underlying3 rfl rfl) ?_; clear hk; intro a w hk
     obtain ⟨hc2, h⟩ := FW.chk h
     refine FW.lfun (y := .ref (ApiWord.cells (List.getD y1.L (Int.toNat y1.I) default))) hk rfl rfl rfl rfl (FW.f_indexAddr (R := r_ApiWord_cells) (f := ApiWord.cells) (l := y1.L) (sz := 5) r_ApiWord_cells_eq (fun _ => rfl) hk FW.h0 rfl rfl Try.underlying60 (by kernel_rfl) hc2) ?_; clear hk; intro a w hk
     refine FW.lfun (y := .ref (List.drop 1 (ApiWord.cells (List.getD y1.L (Int.toNat y1.I) default)))) hk rfl rfl rfl rfl (FW.f_fieldAddr hk FW.h0 rfl Try.underlying66 rfl (by kernel_rfl) rfl) ?_; clear hk; intro a w hk
     refine FW.lfun (y := .lit (.string (FW.B ((List.getD y1.L (Int.toNat y1.I) default).S)))) hk rfl rfl rfl rfl (FW.f_load1 hk FW.h0 rfl rfl Try.underlying9 rfl) ?_; clear hk; intro a w hk
     refine FW.lfun (y := .agg ([.lit (.string (FW.B ((List.getD y1.L (Int.toNat y1.I) default).S))), .lit (.slice none 0 0)])) hk rfl rfl rfl rfl (FW.f_buildN [1] hk FW.h0 rfl rfl rfl) ?_; clear hk; intro a w hk
     refine FW.l_alloc (zs := (ApiStep.cells (⟨[], []⟩ : ApiStep))) [] hk rfl rfl rfl rfl ?_; clear hk; intro bx4 a w hk
     refine FW.l_store (I' := [FW.blk bx4 29 ([.lit (.string (FW.B ((List.getD y1.L (Int.toNat y1.I) default).S))), .lit (.slice none 0 0)]), FW.orow xd3 xc3 29 2 ApiStep.cells l3, FW.blk bx2 64 ((Offshootref12State.cells (⟨[], 0, 0, 0, 0, 0⟩ : Offshootref12State))), FW.blk bx1 64 ((Offshootref12State.cells (⟨y1.L, y1.I, y1.Deep, (IntKind.wrap .i64 (y1.Steps + 1)), y1.At, y1.E⟩ : Offshootref12State)))]) (cs' := [.lit (.string (FW.B ((List.getD y1.L (Int.toNat y1.I) default).S))), .lit (.slice none 0 0)]) (j := 0) hk rfl rfl rfl rfl rfl (by kernel_rfl) rfl rfl ?_; clear hk; intro w hk
     replace hk := hk.nilRow 38 11 ApiArg.cells (fun _ => rfl)
     refine FW.lend (hK15 _ _ ?_); clear hK15 K'
     refine FW.wreg ?_; intro K' hK16
     refine FW.lfun (y := .lit (.pointer (some ⟨bx1, 1, none⟩))) hk rfl rfl rfl rfl (FW.f_fieldPtr hk FW.h0 rfl Try.underlying64 rfl (by kernel_rfl) rfl) ?_; clear hk; intro a w hk
     refine FW.lfun (y := .lit (.int .i64 y1.I)) hk rfl rfl rfl rfl (FW.f_loadBlk1 hk FW.h0 (j := 4) rfl rfl Try.underlying3 rfl rfl) ?_; clear hk; intro a w hk
     refine FW.lfun (y := .lit (.int .i64 (IntKind.wrap .i64 (y1.I + 1)))) hk rfl rfl rfl rfl ((FW.f_pure (FW.p_add hk.kn FW.h0 rfl rfl))) ?_; clear hk; intro a w hk
     refine FW.lfun (y := .lit (.pointer (some ⟨bx1, 1, none⟩))) hk rfl rfl rfl rfl (FW.f_fieldPtr hk FW.h0 rfl Try.underlying64 rfl (by kernel_rfl) rfl) ?_; clear hk; intro a w hk
     refine FW.l_store (I' := [FW.orow none 0 38 11 ApiArg.cells ([] : List ApiArg), FW.blk bx4 29 ([.lit (.string (FW.B ((List.getD y1.L (Int.toNat y1.I) default).S))), .lit (.slice none (List.length ([] : List ApiArg)) 0)]), FW.orow xd3 xc3 29 2 ApiStep.cells l3, FW.blk bx2 64 ((Offshootref12State.cells (⟨[], 0, 0, 0, 0, 0⟩ : Offshootref12State))), FW.blk bx1 64 ((Offshootref12State.cells (⟨y1.L, (IntKind.wrap .i64 (y1.I + 1)), y1.Deep, (IntKind.wrap .i64 (y1.Steps + 1)), y1.At, y1.E⟩ : Offshootref12State)))]) (cs' := (Offshootref12State.cells (⟨y1.L, (IntKind.wrap .i64 (y1.I + 1)), y1.Deep, (IntKind.wrap .i64 (y1.Steps + 1)), y1.At, y1.E⟩ : Offshootref12State))) (j := 4) hk rfl rfl rfl rfl rfl (by kernel_rfl) rfl rfl ?_; clear hk; intro w hk
     refine FW.lend (hK16 _ _ ?_); clear hK16 K'
     refine FW.wreg ?_; intro K' hK17
     refine FW.lfun (y := .agg ((Offshootref12State.cells (⟨y1.L, (IntKind.wrap .i64 (y1.I + 1)), y1.Deep, (IntKind.wrap .i64 (y1.Steps + 1)), y1.At, y1.E⟩ : Offshootref12State)))) hk rfl rfl rfl rfl (FW.f_loadBlk hk FW.h0 (j := 4) rfl rfl Try.underlying64 rfl rfl rfl rfl) ?_; clear hk; intro a w hk
     obtain ⟨t3, hr_t3, h⟩ := FW.bnd h
     refine FW.lfun (y := .agg ((Offshootref12State.cells t3))) hk rfl rfl rfl rfl (FW.f_call hk FW.h0 rfl rfl Try.func26 rfl (by kernel_rfl) (offshootref12_State_sign.ok (⟨y1.L, (IntKind.wrap .i64 (y1.I + 1)), y1.Deep, (IntKind.wrap .i64 (y1.Steps + 1)), y1.At, y1.E⟩ : Offshootref12State) ([40] : List UInt8) _ hr_t3)) ?_; clear hk; intro a w hk
     refine FW.l_store (I' := [FW.orow none 0 38 11 ApiArg.cells ([] : List ApiArg), FW.blk bx4 29 ([.lit (.string (FW.B ((List.getD y1.L (Int.toNat y1.I) default).S))), .lit (.slice none (List.length ([] : List ApiArg)) 0)]), FW.orow xd3 xc3 29 2 ApiStep.cells l3, FW.blk bx2 64 ((Offshootref12State.cells (⟨[], 0, 0, 0, 0, 0⟩ : Offshootref12State))), FW.blk bx1 64 ((Offshootref12State.cells t3))]) (cs' := (Offshootref12State.cells t3)) (j := 4) hk rfl rfl rfl rfl rfl (by kernel_rfl) rfl rfl ?_; clear hk; intro w hk
     refine FW.lend (hK17 _ _ ?_); clear hK17 K'
     refine FW.wseq ?_; intro K' hK18
     refine wp_block ?_
     refine FW.wloop (T := Nat × List ApiArg × List UInt8 × Offshootref12State × Option Addr × Nat) (fun x a w => match x with | (kl2, l5, y4_0, y1, xd5, xc5) => FW.S M w0 a w 95 [FW.orow xd5 xc5 38 11 ApiArg.cells l5, FW.blk bx4 29 ([.lit (.string (FW.B y4_0)), .lit (.slice xd5 (List.length l5) xc5)]), FW.orow xd3 xc3 29 2 ApiStep.cells l3, FW.blk bx2 64 ((Offshootref12State.cells (⟨[], 0, 0, 0, 0, 0⟩ : Offshootref12State))), FW.blk bx1 64 ((Offshootref12State.cells y1))] [(1, [], .lit (.pointer (some ⟨bx1, 0, none⟩))), (2, [], .lit (.pointer (some ⟨bx2, 0, none⟩))), (4, [], .lit (.slice xd3 (List.length l3) xc3)), (5, [], .lit (.pointer (some ⟨bx4, 0, none⟩)))] ∧ offshootref12_State_steps.l2 s_offshootref12_State_steps s_offshootref12_State_arg (offshootref12_State_steps.l1 s_offshootref12_State_steps s_offshootref12_State_arg K kl1) K l3 kl2 l5 y4_0 y1 = some r) (fun x => x.1) (K, ([] : List ApiArg), (List.getD y1.L (Int.toNat y1.I) default).S, t3, none, 0) ⟨hk.sub ⟨rfl, rfl, rfl, rfl, trivial⟩, h⟩ ?_
     clear hk h
     rintro ⟨kl2, l5, y4_0, y1, xd5, xc5⟩ a w ⟨hk, h⟩ K' hK19
     cases kl2 with
     | zero => simp [offshootref12_State_steps.l2] at h
     | succ kl2 =>
     rw [offshootref12_State_steps.l2.eq_2] at h
     refine FW.wseq ?_; intro K' hK20
     refine FW.wreg ?_; intro K' hK21
     refine FW.lfun (y := .lit (.pointer (some ⟨bx1, 5, none⟩))) hk rfl rfl rfl rfl (FW.f_fieldPtr hk FW.h0 rfl Try.underlying64 rfl (by kernel_rfl) rfl) ?_; clear hk; intro a w hk
     refine FW.lfun (y := .lit (.int .i64 y1.E)) hk rfl rfl rfl rfl (FW.f_loadBlk1 hk FW.h0 (j := 4) rfl rfl Try.underlying23 rfl rfl) ?_; clear hk; intro a w hk
     refine FW.lfun (y := .lit (.bool (decide (y1.E = 0)))) hk rfl rfl rfl rfl ((FW.f_pure (FW.p_eql hk.kn FW.h0 rfl rfl))) ?_; clear hk; intro a w hk
     refine FW.lfun (y := .lit (.bool (decide (y1.E = 0)))) hk rfl rfl rfl rfl (FW.f_move hk FW.h0 rfl) ?_; clear hk; intro a w hk
     refine FW.lfunG (y := .agg ((Offshootref12State.cells y1))) hk rfl rfl rfl rfl rfl rfl rfl rfl (fun hc => FW.f_loadBlk hk hc (j := 4) rfl rfl Try.underlying64 rfl rfl rfl rfl) ?_; clear hk; intro a w hk
     obtain ⟨t4, hr_t4, h⟩ := FW.bndG h
     refine FW.lfunG (y := .lit (.bool t4)) hk rfl rfl rfl rfl rfl rfl rfl rfl (fun hc => FW.f_call hk hc rfl rfl Try.func51 rfl (by kernel_rfl) (offshootref12_State_is.ok y1 ([41] : List UInt8) _ (hr_t4 (FW.asm_out (p := (decide (y1.E = 0)) = true) hk.kn hc (fun e0 => e0))))) ?_; clear hk; intro a w hk
     refine FW.lfunG (y := .lit (.bool (!t4))) hk rfl rfl rfl rfl rfl rfl rfl rfl (fun hc => (FW.f_pure (FW.p_not hk.kn hc rfl))) ?_; clear hk; intro a w hk
     refine FW.lfun (y := .lit (.bool ((decide (y1.E = 0)) && (!t4)))) hk rfl rfl rfl rfl ((FW.f_pure (FW.p_pick_and hk.kn FW.h0 rfl rfl))) ?_; clear hk; intro a w hk
     refine FW.lend (hK21 _ _ ?_); clear hK21 K'
     refine FW.wcondF (b := ((decide (y1.E = 0)) && (!t4))) hk h rfl (fun h hb => ?_) (fun h hb => ?_)
     ·skip
      refine wp_skip ?_
      (repeat first | refine FW.then_normal ?_ | refine FW.block_normal ?_); refine hK20 _ _ ?_
      refine wp_block ?_
      refine FW.wseqJ (fun a w => ∃ (y1 : Offshootref12State), FW.S M w0 a w 95 [FW.orow xd5 xc5 38 11 ApiArg.cells l5, FW.blk bx4 29 ([.lit (.string (FW.B y4_0)), .lit (.slice xd5 (List.length l5) xc5)]), FW.orow xd3 xc3 29 2 ApiStep.cells l3, FW.blk bx2 64 ((Offshootref12State.cells (⟨[], 0, 0, 0, 0, 0⟩ : Offshootref12State))), FW.blk bx1 64 ((Offshootref12State.cells y1))] [(1, [], .lit (.pointer (some ⟨bx1, 0, none⟩))), (2, [], .lit (.pointer (some ⟨bx2, 0, none⟩))), (4, [], .lit (.slice xd3 (List.length l3) xc3)), (5, [], .lit (.pointer (some ⟨bx4, 0, none⟩)))] ∧ offshootref12_State_steps.j2 s_offshootref12_State_steps s_offshootref12_State_arg (offshootref12_State_steps.l1 s_offshootref12_State_steps s_offshootref12_State_arg K kl1) (offshootref12_State_steps.l2 s_offshootref12_State_steps s_offshootref12_State_arg (offshootref12_State_steps.l1 s_offshootref12_State_steps s_offshootref12_State_arg K kl1) K l3 kl2) K l3 l5 y4_0 y1 = some r) ?_ ?_
      ·clear hk h
       rintro a w ⟨y1, hk, h⟩
       unfold offshootref12_State_steps.j2 at h
       refine FW.wseqJ (fun a w => ∃ (y1 : Offshootref12State), FW.S M w0 a w 95 [FW.orow xd5 xc5 38 11 ApiArg.cells l5, FW.blk bx4 29 ([.lit (.string (FW.B y4_0)), .lit (.slice xd5 (List.length l5) xc5)]), FW.orow xd3 xc3 29 2 ApiStep.cells l3, FW.blk bx2 64 ((Offshootref12State.cells (⟨[], 0, 0, 0, 0, 0⟩ : Offshootref12State))), FW.blk bx1 64 ((Offshootref12State.cells y1))] [(1, [], .lit (.pointer (some ⟨bx1, 0, none⟩))), (2, [], .lit (.pointer (some ⟨bx2, 0, none⟩))), (4, [], .lit (.slice xd3 (List.length l3) xc3)), (5, [], .lit (.pointer (some ⟨bx4, 0, none⟩)))] ∧ offshootref12_State_steps.j3 s_offshootref12_State_steps s_offshootref12_State_arg (offshootref12_State_steps.l1 s_offshootref12_State_steps s_offshootref12_State_arg K kl1) (offshootref12_State_steps.l2 s_offshootref12_State_steps s_offshootref12_State_arg (offshootref12_State_steps.l1 s_offshootref12_State_steps s_offshootref12_State_arg K kl1) K l3 kl2) K l3 l5 y4_0 y1 = some r) ?_ ?_
       ·clear hk h
        rintro a w ⟨y1, hk, h⟩
        unfold offshootref12_State_steps.j3 at h
        refine FW.wreg ?_; intro K' hK24
        refine FW.lfun (y := .lit (.pointer (some ⟨bx1, 5, none⟩))) hk rfl rfl rfl rfl (FW.f_fieldPtr hk FW.h0 rfl Try.underlying64 rfl (by kernel_rfl) rfl) ?_; clear hk; intro a w hk
        refine FW.lfun (y := .lit (.int .i64 y1.E)) hk rfl rfl rfl rfl (FW.f_loadBlk1 hk FW.h0 (j := 4) rfl rfl Try.underlying23 rfl rfl) ?_; clear hk; intro a w hk
        refine FW.lfun (y := .lit (.bool (decide (y1.E = 0)))) hk rfl rfl rfl rfl ((FW.f_pure (FW.p_eql hk.kn FW.h0 rfl rfl))) ?_; clear hk; intro a w hk
        refine FW.lend (hK24 _ _ ?_); clear hK24 K'
        refine FW.wcondF (b := (decide (y1.E = 0))) hk h rfl (fun h hb => ?_) (fun h hb => ?_)
        ·skip
         refine FW.wreg ?_; intro K' hK25
         refine FW.lfun (y := .agg ((Offshootref12State.cells y1))) hk rfl rfl rfl rfl (FW.f_loadBlk hk FW.h0 (j := 4) rfl rfl Try.underlying64 rfl rfl rfl rfl) ?_; clear hk; intro a w hk
         obtain ⟨t5, hr_t5, h⟩ := FW.bnd h
         refine FW.lfun (y := .tup [.agg ((Offshootref12State.cells t5.1)), .agg ((ApiArg.cells t5.2))]) hk rfl rfl rfl rfl (FW.f_call hk FW.h0 rfl rfl Try.func52 rfl (by kernel_rfl) (hs_offshootref12_State_arg y1 _ hr_t5)) ?_; clear hk; intro a w hk
         refine FW.lfun (y := .tup [.agg ((Offshootref12State.cells t5.1)), .agg ((ApiArg.cells t5.2))]) hk rfl rfl rfl rfl (FW.f_move hk FW.h0 rfl) ?_; clear hk; intro a w hk
         refine FW.lfun (y := .agg ((Offshootref12State.cells t5.1))) hk rfl rfl rfl rfl (FW.f_extract hk FW.h0 rfl rfl) ?_; clear hk; intro a w hk
         refine FW.lfun (y := .agg ((ApiArg.cells t5.2))) hk rfl rfl rfl rfl (FW.f_extract hk FW.h0 rfl rfl) ?_; clear hk; intro a w hk
         refine FW.l_alloc (zs := (Offshootref12State.cells (⟨[], 0, 0, 0, 0, 0⟩ : Offshootref12State))) [] hk rfl rfl rfl rfl ?_; clear hk; intro bx5 a w hk
         refine FW.l_alloc (zs := (ApiArg.cells (⟨0, (⟨0, false, 0, 0, [], []⟩ : ApiValue), (⟨[], [], []⟩ : ApiPred), []⟩ : ApiArg))) [] hk rfl rfl rfl rfl ?_; clear hk; intro bx6 a w hk
         refine FW.l_store (I' := [FW.blk bx6 38 ((ApiArg.cells (⟨0, (⟨0, false, 0, 0, [], []⟩ : ApiValue), (⟨[], [], []⟩ : ApiPred), []⟩ : ApiArg))), FW.blk bx5 64 ((Offshootref12State.cells t5.1)), FW.orow xd5 xc5 38 11 ApiArg.cells l5, FW.blk bx4 29 ([.lit (.string (FW.B y4_0)), .lit (.slice xd5 (List.length l5) xc5)]), FW.orow xd3 xc3 29 2 ApiStep.cells l3, FW.blk bx2 64 ((Offshootref12State.cells (⟨[], 0, 0, 0, 0, 0⟩ : Offshootref12State))), FW.blk bx1 64 ((Offshootref12State.cells y1))]) (cs' := (Offshootref12State.cells t5.1)) (j := 1) hk rfl rfl rfl rfl rfl (by kernel_rfl) rfl rfl ?_; clear hk; intro w hk
         refine FW.l_store (I' := [FW.blk bx6 38 ((ApiArg.cells t5.2)), FW.blk bx5 64 ((Offshootref12State.cells t5.1)), FW.orow xd5 xc5 38 11 ApiArg.cells l5, FW.blk bx4 29 ([.lit (.string (FW.B y4_0)), .lit (.slice xd5 (List.length l5) xc5)]), FW.orow xd3 xc3 29 2 ApiStep.cells l3, FW.blk bx2 64 ((Offshootref12State.cells (⟨[], 0, 0, 0, 0, 0⟩ : Offshootref12State))), FW.blk bx1 64 ((Offshootref12State.cells y1))]) (cs' := (ApiArg.cells t5.2)) (j := 0) hk rfl rfl rfl rfl rfl (by kernel_rfl) rfl rfl ?_; clear hk; intro w hk
         refine FW.lend (hK25 _ _ ?_); clear hK25 K'
         obtain ⟨hc3, h⟩ := FW.chk h
         refine FW.wdrawE1 (.next [true, true, true, true, false, false, false, false, false] 4 [true, true, true, true, false, false, false, false, false] (.next [true, true, true, false, false, false, false, false, false] 5 [true, true, true, true, true, false, false, false, false] (.next [true, false, false, false, false, false, false, false, false] 6 [true, true, true, true, true, true, false, false, false] (.next [false, false, false, false, false, false, false, true, false] 8 [true, true, true, true, true, true, true, true, false] (.leaf [false, false, false, false, false, false, false, false, false]))))) [(73, [], .agg ((Offshootref12State.cells t5.1))), (74, [], .lit (.pointer (some ⟨bx4, 1, none⟩))), (75, [], .lit (.slice xd5 (List.length l5) xc5)), (76, [], .agg ((ApiArg.cells t5.2))), (77, [], .agg []), (78, [], .agg []), (95, [], .lit undef), (79, [], .agg []), (95, [], .lit undef)] (by kernel_rfl) (by kernel_rfl) (by kernel_rfl) (by kernel_rfl) hk ?_; clear hk
         refine FW.gnext ?_ rfl rfl rfl rfl rfl ?_
         ·skip
          refine FW.gfun (y := .agg ((Offshootref12State.cells t5.1))) rfl rfl rfl rfl (fun a w hk => FW.f_loadBlk hk FW.h0 (j := 1) rfl rfl Try.underlying64 rfl rfl rfl rfl) ?_
          refine FW.gfun (y := .lit (.pointer (some ⟨bx4, 1, none⟩))) rfl rfl rfl rfl (fun a w hk => FW.f_fieldPtr hk FW.h0 rfl Try.underlying29 rfl (by kernel_rfl) rfl) ?_
          refine FW.gfun (y := .lit (.slice xd5 (List.length l5) xc5)) rfl rfl rfl rfl (fun a w hk => FW.f_loadBlk1 hk FW.h0 (j := 3) rfl rfl Try.underlying27 rfl rfl) ?_
          refine FW.gfun (y := .agg ((ApiArg.cells t5.2))) rfl rfl rfl rfl (fun a w hk => FW.f_loadBlk hk FW.h0 (j := 0) rfl rfl Try.underlying38 rfl rfl rfl rfl) ?_
          refine FW.gskip rfl rfl ?_
          refine FW.gskip rfl rfl ?_
          refine FW.gskip0 rfl ?_
          refine FW.gskip rfl rfl ?_
          refine FW.gskip0 rfl ?_
          exact FW.gend
         ·skip
          intro σD a w opsD QD hk hf hQ hX
          refine FW.l_buildSlice (f := ApiArg.cells) (l := ([t5.2] : List ApiArg)) hk rfl hf rfl Try.underlying27 rfl rfl rfl rfl (fun _ => rfl) rfl ?_; clear hk; intro bx7 a w hk
          refine hQ _ _ a w ?_ hk; clear hk hQ hf hX
          refine ⟨[(73, [], .agg ((Offshootref12State.cells t5.1))), (74, [], .lit (.pointer (some ⟨bx4, 1, none⟩))), (75, [], .lit (.slice xd5 (List.length l5) xc5)), (76, [], .agg ((ApiArg.cells t5.2))), (77, [], .lit (.slice (some ⟨bx7, 0, none⟩) (List.length ([t5.2] : List ApiArg)) 1)), (78, [], .agg []), (95, [], .lit undef), (79, [], .agg []), (95, [], .lit undef)], And.intro rfl (And.intro rfl (And.intro rfl (And.intro rfl (trivial)))), rfl, ?_⟩
          refine FW.gnext ?_ rfl rfl rfl rfl rfl ?_
          ·skip
           refine FW.gfun (y := .agg ((Offshootref12State.cells t5.1))) rfl rfl rfl rfl (fun a w hk => FW.f_loadBlk hk FW.h0 (j := 2) rfl rfl Try.underlying64 rfl rfl rfl rfl) ?_
           refine FW.gfun (y := .lit (.pointer (some ⟨bx4, 1, none⟩))) rfl rfl rfl rfl (fun a w hk => FW.f_fieldPtr hk FW.h0 rfl Try.underlying29 rfl (by kernel_rfl) rfl) ?_
           refine FW.gfun (y := .lit (.slice xd5 (List.length l5) xc5)) rfl rfl rfl rfl (fun a w hk => FW.f_loadBlk1 hk FW.h0 (j := 4) rfl rfl Try.underlying27 rfl rfl) ?_
           refine FW.gskip rfl rfl ?_
           refine FW.gskip rfl rfl ?_
           refine FW.gskip rfl rfl ?_
           refine FW.gskip0 rfl ?_
           refine FW.gskip rfl rfl ?_
           refine FW.gskip0 rfl ?_
           exact FW.gend
          ·skip
           intro σD a w opsD QD hk hf hQ hX
           refine FW.l_append (l2 := ([t5.2] : List ApiArg)) (l3 := (l5 ++ ([t5.2] : List ApiArg))) (I' := fun ad1 cap1 => [FW.orow (some ⟨bx7, 0, none⟩) 1 38 11 ApiArg.cells ([t5.2] : List ApiArg), FW.blk bx6 38 ((ApiArg.cells t5.2)), FW.blk bx5 64 ((Offshootref12State.cells t5.1)), FW.orow ad1 cap1 38 11 ApiArg.cells (l5 ++ ([t5.2] : List ApiArg)), FW.blk bx4 29 ([.lit (.string (FW.B y4_0)), .lit (.slice xd5 (List.length l5) xc5)]), FW.orow xd3 xc3 29 2 ApiStep.cells l3, FW.blk bx2 64 ((Offshootref12State.cells (⟨[], 0, 0, 0, 0, 0⟩ : Offshootref12State))), FW.blk bx1 64 ((Offshootref12State.cells y1))]) (j := 3) hk rfl rfl hf rfl (FW.own_src hk (j := 0) rfl rfl (fun _ => rfl) Try.underlying27) Try.underlying27 (by kernel_rfl) hc3 rfl (fun _ _ => rfl) ?_; clear hk; intro ad1 cap1 a w hk
           replace hk := FW.S.dropI (I' := [FW.blk bx6 38 ((ApiArg.cells t5.2)), FW.blk bx5 64 ((Offshootref12State.cells t5.1)), FW.orow ad1 cap1 38 11 ApiArg.cells (l5 ++ ([t5.2] : List ApiArg)), FW.blk bx4 29 ([.lit (.string (FW.B y4_0)), .lit (.slice xd5 (List.length l5) xc5)]), FW.orow xd3 xc3 29 2 ApiStep.cells l3, FW.blk bx2 64 ((Offshootref12State.cells (⟨[], 0, 0, 0, 0, 0⟩ : Offshootref12State))), FW.blk bx1 64 ((Offshootref12State.cells y1))]) hk 0 rfl
           refine hQ _ _ a w ?_ hk; clear hk hQ hf hX
           refine ⟨[(73, [], .agg ((Offshootref12State.cells t5.1))), (74, [], .lit (.pointer (some ⟨bx4, 1, none⟩))), (75, [], .lit (.slice xd5 (List.length l5) xc5)), (76, [], .agg ((ApiArg.cells t5.2))), (77, [], .lit (.slice (some ⟨bx7, 0, none⟩) (List.length ([t5.2] : List ApiArg)) 1)), (78, [], .lit (.slice ad1 (List.length (l5 ++ ([t5.2] : List ApiArg))) cap1)), (95, [], .lit undef), (79, [], .agg []), (95, [], .lit undef)], And.intro rfl (And.intro rfl (And.intro rfl (And.intro rfl (And.intro rfl (trivial))))), rfl, ?_⟩
           refine FW.gnext0 ?_ rfl rfl rfl ?_
           ·skip
            refine FW.gfun (y := .agg ((Offshootref12State.cells t5.1))) rfl rfl rfl rfl (fun a w hk => FW.f_loadBlk hk FW.h0 (j := 1) rfl rfl Try.underlying64 rfl rfl rfl rfl) ?_
            refine FW.gskip rfl rfl ?_
            refine FW.gskip rfl rfl ?_
            refine FW.gskip rfl rfl ?_
            refine FW.gskip rfl rfl ?_
            refine FW.gskip rfl rfl ?_
            refine FW.gskip0 rfl ?_
            refine FW.gskip rfl rfl ?_
            refine FW.gskip0 rfl ?_
            exact FW.gend
           ·skip
            intro σD a w opsD QD hk hQ hX
            refine FW.l_store (I' := [FW.blk bx6 38 ((ApiArg.cells t5.2)), FW.blk bx5 64 ((Offshootref12State.cells t5.1)), FW.orow ad1 cap1 38 11 ApiArg.cells (l5 ++ ([t5.2] : List ApiArg)), FW.blk bx4 29 ([.lit (.string (FW.B y4_0)), .lit (.slice xd5 (List.length l5) xc5)]), FW.orow xd3 xc3 29 2 ApiStep.cells l3, FW.blk bx2 64 ((Offshootref12State.cells (⟨[], 0, 0, 0, 0, 0⟩ : Offshootref12State))), FW.blk bx1 64 ((Offshootref12State.cells t5.1))]) (cs' := (Offshootref12State.cells t5.1)) (j := 6) hk rfl rfl rfl rfl rfl (by kernel_rfl) rfl rfl ?_; clear hk; intro w hk
            refine hQ _ a w ?_ hk; clear hk hQ hX
            refine ⟨[(73, [], .agg ((Offshootref12State.cells t5.1))), (74, [], .lit (.pointer (some ⟨bx4, 1, none⟩))), (75, [], .lit (.slice xd5 (List.length l5) xc5)), (76, [], .agg ((ApiArg.cells t5.2))), (77, [], .lit (.slice (some ⟨bx7, 0, none⟩) (List.length ([t5.2] : List ApiArg)) 1)), (78, [], .lit (.slice ad1 (List.length (l5 ++ ([t5.2] : List ApiArg))) cap1)), (95, [], .lit undef), (79, [], .lit (.pointer (some ⟨bx4, 1, none⟩))), (95, [], .lit undef)], And.intro rfl (And.intro rfl (And.intro rfl (And.intro rfl (And.intro rfl (And.intro rfl (trivial)))))), rfl, ?_⟩
            refine FW.gnext0 ?_ rfl rfl rfl ?_
            ·skip
             refine FW.gskip rfl rfl ?_
             refine FW.gskip rfl rfl ?_
             refine FW.gskip rfl rfl ?_
             refine FW.gskip rfl rfl ?_
             refine FW.gskip rfl rfl ?_
             refine FW.gskip rfl rfl ?_
             refine FW.gskip0 rfl ?_
             refine FW.gfun (y := .lit (.pointer (some ⟨bx4, 1, none⟩))) rfl rfl rfl rfl (fun a w hk => FW.f_fieldPtr hk FW.h0 rfl Try.underlying29 rfl (by kernel_rfl) rfl) ?_
             refine FW.gskip0 rfl ?_
             exact FW.gend
            ·skip
             intro σD a w opsD QD hk hQ hX
             refine FW.l_store (I' := [FW.blk bx6 38 ((ApiArg.cells t5.2)), FW.blk bx5 64 ((Offshootref12State.cells t5.1)), FW.orow ad1 cap1 38 11 ApiArg.cells (l5 ++ ([t5.2] : List ApiArg)), FW.blk bx4 29 ([.lit (.string (FW.B y4_0)), .lit (.slice ad1 (List.length (l5 ++ ([t5.2] : List ApiArg))) cap1)]), FW.orow xd3 xc3 29 2 ApiStep.cells l3, FW.blk bx2 64 ((Offshootref12State.cells (⟨[], 0, 0, 0, 0, 0⟩ : Offshootref12State))), FW.blk bx1 64 ((Offshootref12State.cells t5.1))]) (cs' := [.lit (.string (FW.B y4_0)), .lit (.slice ad1 (List.length (l5 ++ ([t5.2] : List ApiArg))) cap1)]) (j := 3) hk rfl rfl rfl rfl rfl (by kernel_rfl) rfl rfl ?_; clear hk; intro w hk
             refine hQ _ a w ?_ hk; clear hk hQ hX
             refine ⟨[(73, [], .agg ((Offshootref12State.cells t5.1))), (74, [], .lit (.pointer (some ⟨bx4, 1, none⟩))), (75, [], .lit (.slice xd5 (List.length l5) xc5)), (76, [], .agg ((ApiArg.cells t5.2))), (77, [], .lit (.slice (some ⟨bx7, 0, none⟩) (List.length ([t5.2] : List ApiArg)) 1)), (78, [], .lit (.slice ad1 (List.length (l5 ++ ([t5.2] : List ApiArg))) cap1)), (95, [], .lit undef), (79, [], .lit (.pointer (some ⟨bx4, 1, none⟩))), (95, [], .lit undef)], And.intro rfl (And.intro rfl (And.intro rfl (And.intro rfl (And.intro rfl (And.intro rfl (And.intro rfl (And.intro rfl (trivial)))))))), rfl, ?_⟩
             refine FW.glast ?_ ?_
             ·skip
              refine FW.gskip rfl rfl ?_
              refine FW.gskip rfl rfl ?_
              refine FW.gskip rfl rfl ?_
              refine FW.gskip rfl rfl ?_
              refine FW.gskip rfl rfl ?_
              refine FW.gskip rfl rfl ?_
              refine FW.gskip0 rfl ?_
              refine FW.gskip rfl rfl ?_
              refine FW.gskip0 rfl ?_
              exact FW.gend
             ·skip
              intro a w hk; simp only [FW.stD, cond_true] at hk
              (repeat first | refine FW.then_normal ?_ | refine FW.block_normal ?_); exact hK19 (kl2, (l5 ++ ([t5.2] : List ApiArg)), y4_0, t5.1, ad1, cap1) _ _ (Nat.lt_succ_self _) ⟨((hk.drop 1).drop 0).sub ⟨rfl, rfl, rfl, rfl, trivial⟩, h⟩
        ·skip
         refine wp_skip ?_
         (repeat first | refine FW.then_normal ?_ | refine FW.block_normal ?_); exact hK19 (kl2, l5, y4_0, y1, xd5, xc5) _ _ (Nat.lt_succ_self _) ⟨hk.sub ⟨rfl, rfl, rfl, rfl, trivial⟩, h⟩
       ·intro K' hK23
        refine FW.wreg ?_; intro K' hK27
        refine FW.lfun (y := .lit (.pointer (some ⟨bx4, 1, none⟩))) hk rfl rfl rfl rfl (FW.f_fieldPtr hk FW.h0 rfl Try.underlying29 rfl (by kernel_rfl) rfl) ?_; clear hk; intro a w hk
        refine FW.lfun (y := .lit (.slice xd5 (List.length l5) xc5)) hk rfl rfl rfl rfl (FW.f_loadBlk1 hk FW.h0 (j := 1) rfl rfl Try.underlying27 rfl rfl) ?_; clear hk; intro a w hk
        refine FW.lfun (y := .lit (.int .i64 (List.length l5 : Int))) hk rfl rfl rfl rfl ((FW.f_pure (FW.p_len Try.underlying27 hk.kn FW.h0 rfl))) ?_; clear hk; intro a w hk
        refine FW.lfun (y := .lit (.bool (decide (12 ≤ (List.length l5 : Int))))) hk rfl rfl rfl rfl ((FW.f_pure (FW.p_geq hk.kn FW.h0 rfl rfl))) ?_; clear hk; intro a w hk
        refine FW.lend (hK27 _ _ ?_); clear hK27 K'
        refine FW.wcondF (b := (decide (12 ≤ (List.length l5 : Int)))) hk h rfl (fun h hb => ?_) (fun h hb => ?_)
        ·skip
         refine FW.wreg1 ?_
         refine FW.lfun (y := .agg ((Offshootref12State.cells y1))) hk rfl rfl rfl rfl (FW.f_loadBlk hk FW.h0 (j := 4) rfl rfl Try.underlying64 rfl rfl rfl rfl) ?_; clear hk; intro a w hk
         obtain ⟨t6, hr_t6, h⟩ := FW.bnd h
         refine FW.lfun (y := .agg ((Offshootref12State.cells t6))) hk rfl rfl rfl rfl (FW.f_call hk FW.h0 rfl rfl Try.func28 rfl (by kernel_rfl) (offshootref12_State_fail.ok y1 3 _ hr_t6)) ?_; clear hk; intro a w hk
         refine FW.l_store (I' := [FW.orow xd5 xc5 38 11 ApiArg.cells l5, FW.blk bx4 29 ([.lit (.string (FW.B y4_0)), .lit (.slice xd5 (List.length l5) xc5)]), FW.orow xd3 xc3 29 2 ApiStep.cells l3, FW.blk bx2 64 ((Offshootref12State.cells (⟨[], 0, 0, 0, 0, 0⟩ : Offshootref12State))), FW.blk bx1 64 ((Offshootref12State.cells t6))]) (cs' := (Offshootref12State.cells t6)) (j := 4) hk rfl rfl rfl rfl rfl (by kernel_rfl) rfl rfl ?_; clear hk; intro w hk
         refine wpList_nil ?_
         (repeat first | refine FW.then_normal ?_ | refine FW.block_normal ?_); exact hK23 _ _ ⟨t6, hk.sub ⟨rfl, rfl, rfl, rfl, trivial⟩, h⟩
        ·skip
         refine wp_skip ?_
         (repeat first | refine FW.then_normal ?_ | refine FW.block_normal ?_); exact hK23 _ _ ⟨y1, hk.sub ⟨rfl, rfl, rfl, rfl, trivial⟩, h⟩
      ·intro K' hK22
       refine FW.wreg ?_; intro K' hK29
       refine FW.lfun (y := .lit (.pointer (some ⟨bx4, 1, none⟩))) hk rfl rfl rfl rfl (FW.f_fieldPtr hk FW.h0 rfl Try.underlying29 rfl (by kernel_rfl) rfl) ?_; clear hk; intro a w hk
       refine FW.lfun (y := .lit (.slice xd5 (List.length l5) xc5)) hk rfl rfl rfl rfl (FW.f_loadBlk1 hk FW.h0 (j := 1) rfl rfl Try.underlying27 rfl rfl) ?_; clear hk; intro a w hk
       refine FW.lfun (y := .lit (.int .i64 (List.length l5 : Int))) hk rfl rfl rfl rfl ((FW.f_pure (FW.p_len Try.underlying27 hk.kn FW.h0 rfl))) ?_; clear hk; intro a w hk
       refine FW.lfun (y := .lit (.bool (decide (0 < (List.length l5 : Int))))) hk rfl rfl rfl rfl ((FW.f_pure (FW.p_gtr hk.kn FW.h0 rfl rfl))) ?_; clear hk; intro a w hk
       refine FW.lend (hK29 _ _ ?_); clear hK29 K'
       refine FW.wcondF (b := (decide (0 < (List.length l5 : Int)))) hk h rfl (fun h hb => ?_) (fun h hb => ?_)
       ·skip
        refine FW.wreg1 ?_
        refine FW.lfun (y := .agg ((Offshootref12State.cells y1))) hk rfl rfl rfl rfl (FW.f_loadBlk hk FW.h0 (j := 4) rfl rfl Try.underlying64 rfl rfl rfl rfl) ?_; clear hk; intro a w hk
        obtain ⟨t7, hr_t7, h⟩ := FW.bnd h
        refine FW.lfun (y := .agg ((Offshootref12State.cells t7))) hk rfl rfl rfl rfl (FW.f_call hk FW.h0 rfl rfl Try.func26 rfl (by kernel_rfl) (offshootref12_State_sign.ok y1 ([44] : List UInt8) _ hr_t7)) ?_; clear hk; intro a w hk
        refine FW.l_store (I' := [FW.orow xd5 xc5 38 11 ApiArg.cells l5, FW.blk bx4 29 ([.lit (.string (FW.B y4_0)), .lit (.slice xd5 (List.length l5) xc5)]), FW.orow xd3 xc3 29 2 ApiStep.cells l3, FW.blk bx2 64 ((Offshootref12State.cells (⟨[], 0, 0, 0, 0, 0⟩ : Offshootref12State))), FW.blk bx1 64 ((Offshootref12State.cells t7))]) (cs' := (Offshootref12State.cells t7)) (j := 4) hk rfl rfl rfl rfl rfl (by kernel_rfl) rfl rfl ?_; clear hk; intro w hk
        refine wpList_nil ?_
        (repeat first | refine FW.then_normal ?_ | refine FW.block_normal ?_); exact hK22 _ _ ⟨t7, hk.sub ⟨rfl, rfl, rfl, rfl, trivial⟩, h⟩
       ·skip
        refine wp_skip ?_
        (repeat first | refine FW.then_normal ?_ | refine FW.block_normal ?_); exact hK22 _ _ ⟨y1, hk.sub ⟨rfl, rfl, rfl, rfl, trivial⟩, h⟩
     ·skip
      refine wp_exit ?_; (repeat first | refine FW.then_exit ?_ | refine FW.block_exit_ne rfl ?_); refine FW.block_exit ?_
      (repeat first | refine FW.then_normal ?_ | refine FW.block_normal ?_); refine hK18 _ _ ?_
      refine FW.wreg ?_; intro K' hK31
      refine FW.lfun (y := .agg ((Offshootref12State.cells y1))) hk rfl rfl rfl rfl (FW.f_loadBlk hk FW.h0 (j := 4) rfl rfl Try.underlying64 rfl rfl rfl rfl) ?_; clear hk; intro a w hk
      obtain ⟨t8, hr_t8, h⟩ := FW.bnd h
      refine FW.lfun (y := .agg ((Offshootref12State.cells t8))) hk rfl rfl rfl rfl (FW.f_call hk FW.h0 rfl rfl Try.func26 rfl (by kernel_rfl) (offshootref12_State_sign.ok y1 ([41] : List UInt8) _ hr_t8)) ?_; clear hk; intro a w hk
      refine FW.l_store (I' := [FW.orow xd5 xc5 38 11 ApiArg.cells l5, FW.blk bx4 29 ([.lit (.string (FW.B y4_0)), .lit (.slice xd5 (List.length l5) xc5)]), FW.orow xd3 xc3 29 2 ApiStep.cells l3, FW.blk bx2 64 ((Offshootref12State.cells (⟨[], 0, 0, 0, 0, 0⟩ : Offshootref12State))), FW.blk bx1 64 ((Offshootref12State.cells t8))]) (cs' := (Offshootref12State.cells t8)) (j := 4) hk rfl rfl rfl rfl rfl (by kernel_rfl) rfl rfl ?_; clear hk; intro w hk
      refine FW.lend (hK31 _ _ ?_); clear hK31 K'
      refine FW.wreg ?_; intro K' hK32
      refine FW.lfun (y := .lit (.slice xd3 (List.length l3) xc3)) hk rfl rfl rfl rfl (FW.f_move hk FW.h0 rfl) ?_; clear hk; intro a w hk
      replace hk := FW.S.freezeBlk (I1 := [FW.blk bx4 29 ([.lit (.string (FW.B y4_0)), .lit (.slice xd5 (List.length l5) xc5)]), FW.orow xd3 xc3 29 2 ApiStep.cells l3, FW.blk bx2 64 ((Offshootref12State.cells (⟨[], 0, 0, 0, 0, 0⟩ : Offshootref12State))), FW.blk bx1 64 ((Offshootref12State.cells t8))]) (cs' := (ApiStep.cells (⟨y4_0, l5⟩ : ApiStep))) (I' := [FW.blk bx4 29 ((ApiStep.cells (⟨y4_0, l5⟩ : ApiStep))), FW.orow xd3 xc3 29 2 ApiStep.cells l3, FW.blk bx2 64 ((Offshootref12State.cells (⟨[], 0, 0, 0, 0, 0⟩ : Offshootref12State))), FW.blk bx1 64 ((Offshootref12State.cells t8))]) r_ApiArg_cells_eq hk 0 0 1 rfl rfl rfl rfl rfl rfl
      refine FW.lfun (y := .agg ((ApiStep.cells (⟨y4_0, l5⟩ : ApiStep)))) hk rfl rfl rfl rfl (FW.f_loadBlk hk FW.h0 (j := 0) rfl rfl Try.underlying29 rfl rfl rfl rfl) ?_; clear hk; intro a w hk
      refine FW.l_buildSlice (f := ApiStep.cells) (l := ([(⟨y4_0, l5⟩ : ApiStep)] : List ApiStep)) hk rfl rfl rfl Try.underlying22 rfl rfl rfl rfl (fun _ => rfl) rfl ?_; clear hk; intro bx8 a w hk
      obtain ⟨hc4, h⟩ := FW.chk h
      refine FW.l_append (l2 := ([(⟨y4_0, l5⟩ : ApiStep)] : List ApiStep)) (l3 := (l3 ++ ([(⟨y4_0, l5⟩ : ApiStep)] : List ApiStep))) (I' := fun ad2 cap2 => [FW.orow (some ⟨bx8, 0, none⟩) 1 29 2 ApiStep.cells ([(⟨y4_0, l5⟩ : ApiStep)] : List ApiStep), FW.blk bx4 29 ((ApiStep.cells (⟨y4_0, l5⟩ : ApiStep))), FW.orow ad2 cap2 29 2 ApiStep.cells (l3 ++ ([(⟨y4_0, l5⟩ : ApiStep)] : List ApiStep)), FW.blk bx2 64 ((Offshootref12State.cells (⟨[], 0, 0, 0, 0, 0⟩ : Offshootref12State))), FW.blk bx1 64 ((Offshootref12State.cells t8))]) (j := 2) hk rfl rfl rfl rfl (FW.own_src hk (j := 0) rfl rfl (fun _ => rfl) Try.underlying22) Try.underlying22 (by kernel_rfl) hc4 rfl (fun _ _ => rfl) ?_; clear hk; intro ad2 cap2 a w hk
      replace hk := FW.S.dropI (I' := [FW.blk bx4 29 ((ApiStep.cells (⟨y4_0, l5⟩ : ApiStep))), FW.orow ad2 cap2 29 2 ApiStep.cells (l3 ++ ([(⟨y4_0, l5⟩ : ApiStep)] : List ApiStep)), FW.blk bx2 64 ((Offshootref12State.cells (⟨[], 0, 0, 0, 0, 0⟩ : Offshootref12State))), FW.blk bx1 64 ((Offshootref12State.cells t8))]) hk 0 rfl
      refine FW.lfun (y := .lit (.slice ad2 (List.length (l3 ++ ([(⟨y4_0, l5⟩ : ApiStep)] : List ApiStep))) cap2)) hk rfl rfl rfl rfl (FW.f_assign hk FW.h0 rfl) ?_; clear hk; intro a w hk
      refine FW.lend (hK32 _ _ ?_); clear hK32 K'
      refine FW.wseq ?_; intro K' hK33
      refine FW.wreg ?_; intro K' hK34
      refine FW.lfun (y := .agg ((Offshootref12State.cells t8))) hk rfl rfl rfl rfl (FW.f_loadBlk hk FW.h0 (j := 3) rfl rfl Try.underlying64 rfl rfl rfl rfl) ?_; clear hk; intro a w hk
      obtain ⟨t9, hr_t9, h⟩ := FW.bnd h
      refine FW.lfun (y := .lit (.bool t9)) hk rfl rfl rfl rfl (FW.f_call hk FW.h0 rfl rfl Try.func51 rfl (by kernel_rfl) (offshootref12_State_is.ok t8 ([46] : List UInt8) _ hr_t9)) ?_; clear hk; intro a w hk
      refine FW.lfun (y := .lit (.bool (!t9))) hk rfl rfl rfl rfl ((FW.f_pure (FW.p_not hk.kn FW.h0 rfl))) ?_; clear hk; intro a w hk
      refine FW.lend (hK34 _ _ ?_); clear hK34 K'
      refine FW.wcondF (b := (!t9)) hk h rfl (fun h hb => ?_) (fun h hb => ?_)
      ·skip
       refine wp_exit ?_; (repeat first | refine FW.then_exit ?_ | refine FW.block_exit_ne rfl ?_); refine FW.block_exit ?_
       (repeat first | refine FW.then_normal ?_ | refine FW.block_normal ?_); exact hK3 _ _ ⟨(l3 ++ ([(⟨y4_0, l5⟩ : ApiStep)] : List ApiStep)), t8, ad2, cap2, (hk.drop 0).sub ⟨rfl, rfl, rfl, trivial⟩, h⟩
      ·skip
       refine wp_skip ?_
       (repeat first | refine FW.then_normal ?_ | refine FW.block_normal ?_); refine hK33 _ _ ?_
       refine FW.wreg1 ?_
       refine FW.lfun (y := .lit (.pointer (some ⟨bx1, 1, none⟩))) hk rfl rfl rfl rfl (FW.f_fieldPtr hk FW.h0 rfl Try.underlying64 rfl (by kernel_rfl) rfl) ?_; clear hk; intro a w hk
       refine FW.lfun (y := .lit (.int .i64 t8.I)) hk rfl rfl rfl rfl (FW.f_loadBlk1 hk FW.h0 (j := 3) rfl rfl Try.underlying3 rfl rfl) ?_; clear hk; intro a w hk
       refine FW.lfun (y := .lit (.int .i64 (IntKind.wrap .i64 (t8.I + 1)))) hk rfl rfl rfl rfl ((FW.f_pure (FW.p_add hk.kn FW.h0 rfl rfl))) ?_; clear hk; intro a w hk
       refine FW.lfun (y := .lit (.pointer (some ⟨bx1, 1, none⟩))) hk rfl rfl rfl rfl (FW.f_fieldPtr hk FW.h0 rfl Try.underlying64 rfl (by kernel_rfl) rfl) ?_; clear hk; intro a w hk
       refine FW.l_store (I' := [FW.blk bx4 29 ((ApiStep.cells (⟨y4_0, l5⟩ : ApiStep))), FW.orow ad2 cap2 29 2 ApiStep.cells (l3 ++ ([(⟨y4_0, l5⟩ : ApiStep)] : List ApiStep)), FW.blk bx2 64 ((Offshootref12State.cells (⟨[], 0, 0, 0, 0, 0⟩ : Offshootref12State))), FW.blk bx1 64 ((Offshootref12State.cells (⟨t8.L, (IntKind.wrap .i64 (t8.I + 1)), t8.Deep, t8.Steps, t8.At, t8.E⟩ : Offshootref12State)))]) (cs' := (Offshootref12State.cells (⟨t8.L, (IntKind.wrap .i64 (t8.I + 1)), t8.Deep, t8.Steps, t8.At, t8.E⟩ : Offshootref12State))) (j := 3) hk rfl rfl rfl rfl rfl (by kernel_rfl) rfl rfl ?_; clear hk; intro w hk
       refine wpList_nil ?_
       (repeat first | refine FW.then_normal ?_ | refine FW.block_normal ?_); exact hK5 (kl1, (l3 ++ ([(⟨y4_0, l5⟩ : ApiStep)] : List ApiStep)), (⟨t8.L, (IntKind.wrap .i64 (t8.I + 1)), t8.Deep, t8.Steps, t8.At, t8.E⟩ : Offshootref12State), ad2, cap2) _ _ (Nat.lt_succ_self _) ⟨(hk.drop 0).sub ⟨rfl, rfl, rfl, trivial⟩, h⟩
  ·skip
   refine wp_exit ?_; (repeat first | refine FW.then_exit ?_ | refine FW.block_exit_ne rfl ?_); refine FW.block_exit ?_
   (repeat first | refine FW.then_normal ?_ | refine FW.block_normal ?_); exact hK3 _ _ ⟨l3, y1, xd3, xc3, hk.sub ⟨rfl, rfl, rfl, trivial⟩, h⟩
theorem offshootref12_State_arg.bok (s_offshootref12_State_steps : Offshootref12State → Option (Offshootref12State × List ApiStep)) (s_offshootref12_State_arg : Offshootref12State → Option (Offshootref12State × ApiArg)) (hs_offshootref12_State_steps : ∀ (v0 : Offshootref12State) (r : Offshootref12State × List ApiStep), s_offshootref12_State_steps v0 = some r → FW.Ok Try.prog 27 [.agg (Offshootref12State.cells v0)] (.tup [.agg (Offshootref12State.cells r.1), .row (r_ApiStep_cells r.2)])) (hs_offshootref12_State_arg : ∀ (v0 : Offshootref12State) (r : Offshootref12State × ApiArg), s_offshootref12_State_arg v0 = some r → FW.Ok Try.prog 52 [.agg (Offshootref12State.cells v0)] (.tup [.agg (Offshootref12State.cells r.1), .agg (ApiArg.cells r.2)])) (K : Nat) (v0 : Offshootref12State) (r : Offshootref12State × ApiArg) (h : offshootref12_State_arg.b s_offshootref12_State_steps s_offshootref12_State_arg K v0 = some r) :
  FW.Ok Try.prog 52 [.agg (Offshootref12State.cells v0)] (.tup [.agg (Offshootref12State.cells r.1), .agg (ApiArg.cells r.2)]) := by
 refine FW.enter (xs := [.agg (Offshootref12State.cells v0)]) Try.func52 rfl Try.ntmps52 rfl ?_
 intro M w0 a hk
 unfold offshootref12_State_arg.b at h
 refine FW.wreg ?_; intro K' hK1
 refine FW.l_box (cs := (Offshootref12State.cells v0)) hk rfl rfl rfl rfl rfl ?_; clear hk; intro bx1 a w hk
 refine FW.l_alloc (zs := (Offshootref12State.cells (⟨[], 0, 0, 0, 0, 0⟩ : Offshootref12State))) [] hk rfl rfl rfl rfl ?_; clear hk; intro bx2 a w hk
 refine FW.l_alloc (zs := (ApiArg.cells (⟨0, (⟨0, false, 0, 0, [], []⟩ : ApiValue), (⟨[], [], []⟩ : ApiPred), []⟩ : ApiArg))) [] hk rfl rfl rfl rfl ?_; clear hk; intro bx3 a w hk
 refine FW.lend (hK1 _ _ ?_); clear hK1 K'
 refine FW.wreg ?_; intro K' hK2
 refine FW.lfun (y := .agg ((Offshootref12State.cells v0))) hk rfl rfl rfl rfl (FW.f_loadBlk hk FW.h0 (j := 2) rfl rfl Try.underlying64 rfl rfl rfl rfl) ?_; clear hk; intro a w hk
 obtain ⟨t1, hr_t1, h⟩ := FW.bnd h
 refine FW.lfun (y := .tup [.agg ((Offshootref12State.cells t1.1)), .agg ((ApiValue.cells t1.2.1)), .lit (.bool t1.2.2)]) hk rfl rfl rfl rfl (FW.f_call hk FW.h0 rfl rfl Try.func76 rfl (by kernel_rfl) (offshootref12_State_value.ok K v0 _ hr_t1)) ?_; clear hk; intro a w hk
 refine FW.lfun (y := .tup [.agg ((Offshootref12State.cells t1.1)), .agg ((ApiValue.cells t1.2.1)), .lit (.bool t1.2.2)]) hk rfl rfl rfl rfl (FW.f_move hk FW.h0 rfl) ?_; clear hk; intro a w hk
 refine FW.lfun (y := .agg ((Offshootref12State.cells t1.1))) hk rfl rfl rfl rfl (FW.f_extract hk FW.h0 rfl rfl) ?_; clear hk; intro a w hk
 refine FW.lfun (y := .agg ((ApiValue.cells t1.2.1))) hk rfl rfl rfl rfl (FW.f_extract hk FW.h0 rfl rfl) ?_; clear hk; intro a w hk
 refine FW.lfun (y := .lit (.bool t1.2.2)) hk rfl rfl rfl rfl (FW.f_extract hk FW.h0 rfl rfl) ?_; clear hk; intro a w hk
 refine FW.l_alloc (zs := (Offshootref12State.cells (⟨[], 0, 0, 0, 0, 0⟩ : Offshootref12State))) [] hk rfl rfl rfl rfl ?_; clear hk; intro bx4 a w hk
 refine FW.l_alloc (zs := (ApiValue.cells (⟨0, false, 0, 0, [], []⟩ : ApiValue))) [] hk rfl rfl rfl rfl ?_; clear hk; intro bx5 a w hk
 refine FW.l_store (I' := [FW.blk bx5 33 ((ApiValue.cells (⟨0, false, 0, 0, [], []⟩ : ApiValue))), FW.blk bx4 64 ((Offshootref12State.cells t1.1)), FW.blk bx3 38 ((ApiArg.cells (⟨0, (⟨0, false, 0, 0, [], []⟩ : ApiValue), (⟨[], [], []⟩ : ApiPred), []⟩ : ApiArg))), FW.blk bx2 64 ((Offshootref12State.cells (⟨[], 0, 0, 0, 0, 0⟩ : Offshootref12State))), FW.blk bx1 64 ((Offshootref12State.cells v0))]) (cs' := (Offshootref12State.cells t1.1)) (j := 1) hk rfl rfl rfl rfl rfl (by kernel_rfl) rfl rfl ?_; clear hk; intro w hk
 refine FW.l_store (I' := [FW.blk bx5 33 ((ApiValue.cells t1.2.1)), FW.blk bx4 64 ((Offshootref12State.cells t1.1)), FW.blk bx3 38 ((ApiArg.cells (⟨0, (⟨0, false, 0, 0, [], []⟩ : ApiValue), (⟨[], [], []⟩ : ApiPred), []⟩ : ApiArg))), FW.blk bx2 64 ((Offshootref12State.cells (⟨[], 0, 0, 0, 0, 0⟩ : Offshootref12State))), FW.blk bx1 64 ((Offshootref12State.cells v0))]) (cs' := (ApiValue.cells t1.2.1)) (j := 0) hk rfl rfl rfl rfl rfl (by kernel_rfl) rfl rfl ?_; clear hk; intro w hk
 refine FW.lfun (y := .lit (.bool t1.2.2)) hk rfl rfl rfl rfl (FW.f_assign hk FW.h0 rfl) ?_; clear hk; intro a w hk
 refine FW.lend (hK2 _ _ ?_); clear hK2 K'
 refine FW.wseq ?_; intro K' hK3
 refine FW.wreg ?_; intro K' hK4
 refine FW.lfun (y := .lit (.bool t1.2.2)) hk rfl rfl rfl rfl (FW.f_move hk FW.h0 rfl) ?_; clear hk; intro a w hk
 refine FW.lfun (y := .lit (.bool t1.2.2)) hk rfl rfl rfl rfl (FW.f_move hk FW.h0 rfl) ?_; clear hk; intro a w hk
 refine FW.lfunG (y := .lit (.pointer (some ⟨bx4, 5, none⟩))) hk rfl rfl rfl rfl rfl rfl rfl rfl (fun hc => FW.f_fieldPtr hk hc rfl Try.underlying64 rfl (by kernel_rfl) rfl) ?_; clear hk; intro a w hk
 refine FW.lfunG (y := .lit (.int .i64 t1.1.E)) hk rfl rfl rfl rfl rfl rfl rfl rfl (fun hc => FW.f_loadBlk1 hk hc (j := 1) rfl rfl Try.underlying23 rfl rfl) ?_; clear hk; intro a w hk
 refine FW.lfunG (y := .lit (.bool (!decide (t1.1.E = 0)))) hk rfl rfl rfl rfl rfl rfl rfl rfl (fun hc => (FW.f_pure (FW.p_neq hk.kn hc rfl rfl))) ?_; clear hk; intro a w hk
 refine FW.lfun (y := .lit (.bool (t1.2.2 || (!decide (t1.1.E = 0))))) hk rfl rfl rfl rfl ((FW.f_pure (FW.p_pick_or hk.kn FW.h0 rfl rfl))) ?_; clear hk; intro a w hk
 refine FW.lend (hK4 _ _ ?_); clear hK4 K'
 refine FW.wcondF (b := (t1.2.2 || (!decide (t1.1.E = 0)))) hk h rfl (fun h hb => ?_) (fun h hb => ?_)
 ·skip
  refine FW.wdrawE (.next [true, true, true, false, false] 3 [true, true, true, false, false] (.next [false, true, true, false, false] 4 [true, true, true, true, false] (.leaf [false, false, false, false, false]))) [(28, [], .agg ((Offshootref12State.cells t1.1))), (29, [], .agg ((ApiValue.cells t1.2.1))), (30, [], .agg ((ApiArg.cells (⟨1, t1.2.1, (⟨[], [], []⟩ : ApiPred), []⟩ : ApiArg)))), (122, [], .lit undef), (122, [], .lit undef)] (by kernel_rfl) (by kernel_rfl) (by kernel_rfl) (by kernel_rfl) hk ?_; clear hk
  refine FW.gnext0 ?_ rfl rfl rfl ?_
  ·skip
   refine FW.gfun (y := .agg ((Offshootref12State.cells t1.1))) rfl rfl rfl rfl (fun a w hk => FW.f_loadBlk hk FW.h0 (j := 1) rfl rfl Try.underlying64 rfl rfl rfl rfl) ?_
   refine FW.gfun (y := .agg ((ApiValue.cells t1.2.1))) rfl rfl rfl rfl (fun a w hk => FW.f_loadBlk hk FW.h0 (j := 0) rfl rfl Try.underlying33 rfl rfl rfl rfl) ?_
   refine FW.gfun (y := .agg ((ApiArg.cells (⟨1, t1.2.1, (⟨[], [], []⟩ : ApiPred), []⟩ : ApiArg)))) rfl rfl rfl rfl (fun a w hk => FW.f_buildN [] hk FW.h0 rfl rfl rfl) ?_
   refine FW.gskip0 rfl ?_
   refine FW.gskip0 rfl ?_
   exact FW.gend
  ·skip
   intro σD a w opsD QD hk hQ hX
   refine FW.l_store (I' := [FW.blk bx5 33 ((ApiValue.cells t1.2.1)), FW.blk bx4 64 ((Offshootref12State.cells t1.1)), FW.blk bx3 38 ((ApiArg.cells (⟨0, (⟨0, false, 0, 0, [], []⟩ : ApiValue), (⟨[], [], []⟩ : ApiPred), []⟩ : ApiArg))), FW.blk bx2 64 ((Offshootref12State.cells t1.1)), FW.blk bx1 64 ((Offshootref12State.cells v0))]) (cs' := (Offshootref12State.cells t1.1)) (j := 3) hk rfl rfl rfl rfl rfl (by kernel_rfl) rfl rfl ?_; clear hk; intro w hk
   refine hQ _ a w ?_ hk; clear hk hQ hX
   refine ⟨[(28, [], .agg ((Offshootref12State.cells t1.1))), (29, [], .agg ((ApiValue.cells t1.2.1))), (30, [], .agg ((ApiArg.cells (⟨1, t1.2.1, (⟨[], [], []⟩ : ApiPred), []⟩ : ApiArg)))), (122, [], .lit undef), (122, [], .lit undef)], And.intro rfl (And.intro rfl (And.intro rfl (trivial))), rfl, ?_⟩
   refine FW.gnext0 ?_ rfl rfl rfl ?_
   ·skip
    refine FW.gskip rfl rfl ?_
    refine FW.gfun (y := .agg ((ApiValue.cells t1.2.1))) rfl rfl rfl rfl (fun a w hk => FW.f_loadBlk hk FW.h0 (j := 0) rfl rfl Try.underlying33 rfl rfl rfl rfl) ?_
    refine FW.gfun (y := .agg ((ApiArg.cells (⟨1, t1.2.1, (⟨[], [], []⟩ : ApiPred), []⟩ : ApiArg)))) rfl rfl rfl rfl (fun a w hk => FW.f_buildN [] hk FW.h0 rfl rfl rfl) ?_
    refine FW.gskip0 rfl ?_
    refine FW.gskip0 rfl ?_
    exact FW.gend
   ·skip
    intro σD a w opsD QD hk hQ hX
    refine FW.l_store (I' := [FW.blk bx5 33 ((ApiValue.cells t1.2.1)), FW.blk bx4 64 ((Offshootref12State.cells t1.1)), FW.blk bx3 38 ((ApiArg.cells (⟨1, t1.2.1, (⟨[], [], []⟩ : ApiPred), []⟩ : ApiArg))), FW.blk bx2 64 ((Offshootref12State.cells t1.1)), FW.blk bx1 64 ((Offshootref12State.cells v0))]) (cs' := (ApiArg.cells (⟨1, t1.2.1, (⟨[], [], []⟩ : ApiPred), []⟩ : ApiArg))) (j := 2) hk rfl rfl rfl rfl rfl (by kernel_rfl) rfl rfl ?_; clear hk; intro w hk
    refine hQ _ a w ?_ hk; clear hk hQ hX
    refine ⟨[(28, [], .agg ((Offshootref12State.cells t1.1))), (29, [], .agg ((ApiValue.cells t1.2.1))), (30, [], .agg ((ApiArg.cells (⟨1, t1.2.1, (⟨[], [], []⟩ : ApiPred), []⟩ : ApiArg)))), (122, [], .lit undef), (122, [], .lit undef)], And.intro rfl (And.intro rfl (And.intro rfl (And.intro rfl (trivial)))), rfl, ?_⟩
    refine FW.glast ?_ ?_
    ·skip
     refine FW.gskip rfl rfl ?_
     refine FW.gskip rfl rfl ?_
     refine FW.gskip rfl rfl ?_
     refine FW.gskip0 rfl ?_
     refine FW.gskip0 rfl ?_
     exact FW.gend
    ·skip
     intro a w hk; simp only [FW.stD, cond_true] at hk
     refine wp_ret ?_
     (repeat first | refine FW.then_ret ?_ | refine FW.block_ret ?_)
     obtain rfl := Option.some.inj h
     exact FW.fretR2 hk rfl (FW.rcell hk rfl (j := 3) rfl Try.underlying64 rfl (by kernel_rfl)) (FW.rcell hk rfl (j := 2) rfl Try.underlying38 rfl (by kernel_rfl))
 ·skip
  refine wp_skip ?_
  (repeat first | refine FW.then_normal ?_ | refine FW.block_normal ?_); refine hK3 _ _ ?_
  refine FW.wreg ?_; intro K' hK6
  refine FW.lfun (y := .lit (.pointer (some ⟨bx1, 0, none⟩))) hk rfl rfl rfl rfl (FW.f_fieldPtr hk FW.h0 rfl Try.underlying64 rfl (by kernel_rfl) rfl) ?_; clear hk; intro a w hk
  refine FW.lfun (y := .row (r_ApiWord_cells v0.L)) hk rfl rfl rfl rfl (FW.f_loadBlk1 hk FW.h0 (j := 4) rfl rfl Try.underlying60 rfl rfl) ?_; clear hk; intro a w hk
  refine FW.lfun (y := .lit (.pointer (some ⟨bx1, 1, none⟩))) hk rfl rfl rfl rfl (FW.f_fieldPtr hk FW.h0 rfl Try.underlying64 rfl (by kernel_rfl) rfl) ?_; clear hk; intro a w hk
  refine FW.lfun (y := .lit (.int .i64 v0.I)) hk rfl rfl rfl rfl (FW.f_loadBlk1 hk FW.h0 (j := 4) rfl rfl Try.underlying3 rfl rfl) ?_; clear hk; intro a w hk
  obtain ⟨hc1, h⟩ := FW.chk h
  refine FW.lfun (y := .ref (ApiWord.cells (List.getD v0.L (Int.toNat v0.I) default))) hk rfl rfl rfl rfl (FW.f_indexAddr (R := r_ApiWord_cells) (f := ApiWord.cells) (l := v0.L) (sz := 5) r_ApiWord_cells_eq (fun _ => rfl) hk FW.h0 rfl rfl Try.underlying60 (by kernel_rfl) hc1) ?_; clear hk; intro a w hk
  refine FW.lfun (y := .agg ((ApiWord.cells (List.getD v0.L (Int.toNat v0.I) default)))) hk rfl rfl rfl rfl (FW.f_load hk FW.h0 rfl Try.underlying66 rfl rfl rfl rfl) ?_; clear hk; intro a w hk
  refine FW.l_alloc (zs := (ApiWord.cells (⟨0, [], 0, 0, 0⟩ : ApiWord))) [] hk rfl rfl rfl rfl ?_; clear hk; intro bx6 a w hk
  refine FW.l_store (I' := [FW.blk bx6 66 ((ApiWord.cells (List.getD v0.L (Int.toNat v0.I) default))), FW.blk bx5 33 ((ApiValue.cells t1.2.1)), FW.blk bx4 64 ((Offshootref12State.cells t1.1)), FW.blk bx3 38 ((ApiArg.cells (⟨0, (⟨0, false, 0, 0, [], []⟩ : ApiValue), (⟨[], [], []⟩ : ApiPred), []⟩ : ApiArg))), FW.blk bx2 64 ((Offshootref12State.cells (⟨[], 0, 0, 0, 0, 0⟩ : Offshootref12State))), FW.blk bx1 64 ((Offshootref12State.cells v0))]) (cs' := (ApiWord.cells (List.getD v0.L (Int.toNat v0.I) default))) (j := 0) hk rfl rfl rfl rfl rfl (by kernel_rfl) rfl rfl ?_; clear hk; intro w hk
  refine FW.lend (hK6 _ _ ?_); clear hK6 K'
  refine FW.wseqJ (fun a w => ∃ (y6 : ApiWord) (y1 : Offshootref12State), FW.S M w0 a w 122 [FW.blk bx6 66 ((ApiWord.cells y6)), FW.blk bx3 38 ((ApiArg.cells (⟨0, (⟨0, false, 0, 0, [], []⟩ : ApiValue), (⟨[], [], []⟩ : ApiPred), []⟩ : ApiArg))), FW.blk bx2 64 ((Offshootref12State.cells (⟨[], 0, 0, 0, 0, 0⟩ : Offshootref12State))), FW.blk bx1 64 ((Offshootref12State.cells y1))] [(1, [], .lit (.pointer (some ⟨bx1, 0, none⟩))), (2, [], .lit (.pointer (some ⟨bx2, 0, none⟩))), (3, [], .lit (.pointer (some ⟨bx3, 0, none⟩))), (7, [], .lit (.pointer (some ⟨bx6, 0, none⟩)))] ∧ offshootref12_State_arg.j1 s_offshootref12_State_steps s_offshootref12_State_arg K y6 y1 = some r) ?_ ?_
  ·clear hk h
   rintro a w ⟨y6, y1, hk, h⟩
   unfold offshootref12_State_arg.j1 at h
   refine FW.wreg ?_; intro K' hK8
   refine FW.lfun (y := .lit (.pointer (some ⟨bx1, 2, none⟩))) hk rfl rfl rfl rfl (FW.f_fieldPtr hk FW.h0 rfl Try.underlying64 rfl (by kernel_rfl) rfl) ?_; clear hk; intro a w hk
   refine FW.lfun (y := .lit (.int .i64 y1.Deep)) hk rfl rfl rfl rfl (FW.f_loadBlk1 hk FW.h0 (j := 3) rfl rfl Try.underlying3 rfl rfl) ?_; clear hk; intro a w hk
   refine FW.lfun (y := .lit (.int .i64 y1.Deep)) hk rfl rfl rfl rfl (FW.f_assign hk FW.h0 rfl) ?_; clear hk; intro a w hk
   refine FW.lend (hK8 _ _ ?_); clear hK8 K'
   refine FW.wreg ?_; intro K' hK9
   refine FW.lfun (y := .agg ((Offshootref12State.cells y1))) hk rfl rfl rfl rfl (FW.f_loadBlk hk FW.h0 (j := 3) rfl rfl Try.underlying64 rfl rfl rfl rfl) ?_; clear hk; intro a w hk
   obtain ⟨t2, hr_t2, h⟩ := FW.bnd h
   refine FW.lfun (y := .agg ((Offshootref12State.cells t2))) hk rfl rfl rfl rfl (FW.f_call hk FW.h0 rfl rfl Try.func79 rfl (by kernel_rfl) (offshootref12_State_into.ok y1 _ hr_t2)) ?_; clear hk; intro a w hk
   refine FW.l_store (I' := [FW.blk bx6 66 ((ApiWord.cells y6)), FW.blk bx3 38 ((ApiArg.cells (⟨0, (⟨0, false, 0, 0, [], []⟩ : ApiValue), (⟨[], [], []⟩ : ApiPred), []⟩ : ApiArg))), FW.blk bx2 64 ((Offshootref12State.cells (⟨[], 0, 0, 0, 0, 0⟩ : Offshootref12State))), FW.blk bx1 64 ((Offshootref12State.cells t2))]) (cs' := (Offshootref12State.cells t2)) (j := 3) hk rfl rfl rfl rfl rfl (by kernel_rfl) rfl rfl ?_; clear hk; intro w hk
   refine FW.lend (hK9 _ _ ?_); clear hK9 K'
   refine FW.wseqJ (fun a w => ∃ (y1 : Offshootref12State) (v14 : Int), FW.S M w0 a w 122 [FW.blk bx3 38 ((ApiArg.cells (⟨0, (⟨0, false, 0, 0, [], []⟩ : ApiValue), (⟨[], [], []⟩ : ApiPred), []⟩ : ApiArg))), FW.blk bx2 64 ((Offshootref12State.cells (⟨[], 0, 0, 0, 0, 0⟩ : Offshootref12State))), FW.blk bx1 64 ((Offshootref12State.cells y1))] [(1, [], .lit (.pointer (some ⟨bx1, 0, none⟩))), (2, [], .lit (.pointer (some ⟨bx2, 0, none⟩))), (3, [], .lit (.pointer (some ⟨bx3, 0, none⟩))), (14, [], .lit (.int .i64 v14))] ∧ offshootref12_State_arg.j2 s_offshootref12_State_steps s_offshootref12_State_arg K y1 v14 = some r) ?_ ?_
   ·clear hk h
    rintro a w ⟨y1, v14, hk, h⟩
    unfold offshootref12_State_arg.j2 at h
    refine FW.wreg ?_; intro K' hK11
    refine FW.lfun (y := .agg ((Offshootref12State.cells y1))) hk rfl rfl rfl rfl (FW.f_loadBlk hk FW.h0 (j := 2) rfl rfl Try.underlying64 rfl rfl rfl rfl) ?_; clear hk; intro a w hk
    obtain ⟨t3, hr_t3, h⟩ := FW.bnd h
    refine FW.lfun (y := .tup [.agg ((Offshootref12State.cells t3.1)), .row (r_ApiStep_cells t3.2)]) hk rfl rfl rfl rfl (FW.f_call hk FW.h0 rfl rfl Try.func27 rfl (by kernel_rfl) (hs_offshootref12_State_steps y1 _ hr_t3)) ?_; clear hk; intro a w hk
    refine FW.lfun (y := .tup [.agg ((Offshootref12State.cells t3.1)), .row (r_ApiStep_cells t3.2)]) hk rfl rfl rfl rfl (FW.f_move hk FW.h0 rfl) ?_; clear hk; intro a w hk
    refine FW.lfun (y := .agg ((Offshootref12State.cells t3.1))) hk rfl rfl rfl rfl (FW.f_extract hk FW.h0 rfl rfl) ?_; clear hk; intro a w hk
    refine FW.lfun (y := .row (r_ApiStep_cells t3.2)) hk rfl rfl rfl rfl (FW.f_extract hk FW.h0 rfl rfl) ?_; clear hk; intro a w hk
    refine FW.l_store (I' := [FW.blk bx3 38 ((ApiArg.cells (⟨0, (⟨0, false, 0, 0, [], []⟩ : ApiValue), (⟨[], [], []⟩ : ApiPred), []⟩ : ApiArg))), FW.blk bx2 64 ((Offshootref12State.cells (⟨[], 0, 0, 0, 0, 0⟩ : Offshootref12State))), FW.blk bx1 64 ((Offshootref12State.cells t3.1))]) (cs' := (Offshootref12State.cells t3.1)) (j := 2) hk rfl rfl rfl rfl rfl (by kernel_rfl) rfl rfl ?_; clear hk; intro w hk
    refine FW.lfun (y := .row (r_ApiStep_cells t3.2)) hk rfl rfl rfl rfl (FW.f_assign hk FW.h0 rfl) ?_; clear hk; intro a w hk
    refine FW.lend (hK11 _ _ ?_); clear hK11 K'
    refine FW.wreg ?_; intro K' hK12
    refine FW.lfun (y := .lit (.int .i64 v14)) hk rfl rfl rfl rfl (FW.f_move hk FW.h0 rfl) ?_; clear hk; intro a w hk
    refine FW.lfun (y := .lit (.pointer (some ⟨bx1, 2, none⟩))) hk rfl rfl rfl rfl (FW.f_fieldPtr hk FW.h0 rfl Try.underlying64 rfl (by kernel_rfl) rfl) ?_; clear hk; intro a w hk
    refine FW.l_store (I' := [FW.blk bx3 38 ((ApiArg.cells (⟨0, (⟨0, false, 0, 0, [], []⟩ : ApiValue), (⟨[], [], []⟩ : ApiPred), []⟩ : ApiArg))), FW.blk bx2 64 ((Offshootref12State.cells (⟨[], 0, 0, 0, 0, 0⟩ : Offshootref12State))), FW.blk bx1 64 ((Offshootref12State.cells (⟨t3.1.L, t3.1.I, v14, t3.1.Steps, t3.1.At, t3.1.E⟩ : Offshootref12State)))]) (cs' := (Offshootref12State.cells (⟨t3.1.L, t3.1.I, v14, t3.1.Steps, t3.1.At, t3.1.E⟩ : Offshootref12State))) (j := 2) hk rfl rfl rfl rfl rfl (by kernel_rfl) rfl rfl ?_; clear hk; intro w hk
    refine FW.lend (hK12 _ _ ?_); clear hK12 K'
    refine FW.wreg ?_; intro K' hK13
    refine FW.lfun (y := .agg ((Offshootref12State.cells (⟨t3.1.L, t3.1.I, v14, t3.1.Steps, t3.1.At, t3.1.E⟩ : Offshootref12State)))) hk rfl rfl rfl rfl (FW.f_loadBlk hk FW.h0 (j := 2) rfl rfl Try.underlying64 rfl rfl rfl rfl) ?_; clear hk; intro a w hk
    refine FW.lfun (y := .row (r_ApiStep_cells t3.2)) hk rfl rfl rfl rfl (FW.f_move hk FW.h0 rfl) ?_; clear hk; intro a w hk
    refine FW.lfun (y := .agg ((ApiArg.cells (⟨3, (⟨0, false, 0, 0, [], []⟩ : ApiValue), (⟨[], [], []⟩ : ApiPred), t3.2⟩ : ApiArg)))) hk rfl rfl rfl rfl (FW.f_buildN [] hk FW.h0 rfl rfl rfl) ?_; clear hk; intro a w hk
    refine FW.l_store (I' := [FW.blk bx3 38 ((ApiArg.cells (⟨0, (⟨0, false, 0, 0, [], []⟩ : ApiValue), (⟨[], [], []⟩ : ApiPred), []⟩ : ApiArg))), FW.blk bx2 64 ((Offshootref12State.cells (⟨t3.1.L, t3.1.I, v14, t3.1.Steps, t3.1.At, t3.1.E⟩ : Offshootref12State))), FW.blk bx1 64 ((Offshootref12State.cells (⟨t3.1.L, t3.1.I, v14, t3.1.Steps, t3.1.At, t3.1.E⟩ : Offshootref12State)))]) (cs' := (Offshootref12State.cells (⟨t3.1.L, t3.1.I, v14, t3.1.Steps, t3.1.At, t3.1.E⟩ : Offshootref12State))) (j := 1) hk rfl rfl rfl rfl rfl (by kernel_rfl) rfl rfl ?_; clear hk; intro w hk
    refine FW.l_store (I' := [FW.blk bx3 38 ((ApiArg.cells (⟨3, (⟨0, false, 0, 0, [], []⟩ : ApiValue), (⟨[], [], []⟩ : ApiPred), t3.2⟩ : ApiArg))), FW.blk bx2 64 ((Offshootref12State.cells (⟨t3.1.L, t3.1.I, v14, t3.1.Steps, t3.1.At, t3.1.E⟩ : Offshootref12State))), FW.blk bx1 64 ((Offshootref12State.cells (⟨t3.1.L, t3.1.I, v14, t3.1.Steps, t3.1.At, t3.1.E⟩ : Offshootref12State)))]) (cs' := (ApiArg.cells (⟨3, (⟨0, false, 0, 0, [], []⟩ : ApiValue), (⟨[], [], []⟩ : ApiPred), t3.2⟩ : ApiArg))) (j := 0) hk rfl rfl rfl rfl rfl (by kernel_rfl) rfl rfl ?_; clear hk; intro w hk
    refine FW.lend (hK13 _ _ ?_); clear hK13 K'
    refine wp_ret ?_
    (repeat first | refine FW.then_ret ?_ | refine FW.block_ret ?_)
    obtain rfl := Option.some.inj h
    exact FW.fretR2 hk rfl (FW.rcell hk rfl (j := 1) rfl Try.underlying64 rfl (by kernel_rfl)) (FW.rcell hk rfl (j := 0) rfl Try.underlying38 rfl (by kernel_rfl))
   ·intro K' hK10
    refine FW.wreg ?_; intro K' hK14
    refine FW.lfun (y := .lit (.pointer (some ⟨bx1, 5, none⟩))) hk rfl rfl rfl rfl (FW.f_fieldPtr hk FW.h0 rfl Try.underlying64 rfl (by kernel_rfl) rfl) ?_; clear hk; intro a w hk
    refine FW.lfun (y := .lit (.int .i64 t2.E)) hk rfl rfl rfl rfl (FW.f_loadBlk1 hk FW.h0 (j := 3) rfl rfl Try.underlying23 rfl rfl) ?_; clear hk; intro a w hk
    refine FW.lfun (y := .lit (.bool (decide (t2.E = 0)))) hk rfl rfl rfl rfl ((FW.f_pure (FW.p_eql hk.kn FW.h0 rfl rfl))) ?_; clear hk; intro a w hk
    refine FW.lfun (y := .lit (.bool (decide (t2.E = 0)))) hk rfl rfl rfl rfl (FW.f_move hk FW.h0 rfl) ?_; clear hk; intro a w hk
    refine FW.lfunG (y := .lit (.pointer (some ⟨bx6, 0, none⟩))) hk rfl rfl rfl rfl rfl rfl rfl rfl (fun hc => FW.f_fieldPtr hk hc rfl Try.underlying66 rfl (by kernel_rfl) rfl) ?_; clear hk; intro a w hk
    refine FW.lfunG (y := .lit (.int .i64 y6.Kind)) hk rfl rfl rfl rfl rfl rfl rfl rfl (fun hc => FW.f_loadBlk1 hk hc (j := 0) rfl rfl Try.underlying3 rfl rfl) ?_; clear hk; intro a w hk
    refine FW.lfunG (y := .lit (.bool (decide (y6.Kind = 1)))) hk rfl rfl rfl rfl rfl rfl rfl rfl (fun hc => (FW.f_pure (FW.p_eql hk.kn hc rfl rfl))) ?_; clear hk; intro a w hk
    refine FW.lfun (y := .lit (.bool ((decide (t2.E = 0)) && (decide (y6.Kind = 1))))) hk rfl rfl rfl rfl ((FW.f_pure (FW.p_pick_and hk.kn FW.h0 rfl rfl))) ?_; clear hk; intro a w hk
    refine FW.lfun (y := .lit (.bool ((decide (t2.E = 0)) && (decide (y6.Kind = 1))))) hk rfl rfl rfl rfl (FW.f_move hk FW.h0 rfl) ?_; clear hk; intro a w hk
    refine FW.lfunG (y := .lit (.pointer (some ⟨bx6, 1, none⟩))) hk rfl rfl rfl rfl rfl rfl rfl rfl (fun hc => FW.f_fieldPtr hk hc rfl Try.underlying66 rfl (by kernel_rfl) rfl) ?_; clear hk; intro a w hk
    refine FW.lfunG (y := .lit (.string (FW.B y6.S))) hk rfl rfl rfl rfl rfl rfl rfl rfl (fun hc => FW.f_loadBlk1 hk hc (j := 0) rfl rfl Try.underlying9 rfl rfl) ?_; clear hk; intro a w hk
    refine FW.lfunG (y := .lit (.bool (decide (y6.S = ([95, 95] : List UInt8))))) hk rfl rfl rfl rfl rfl rfl rfl rfl (fun hc => (FW.f_pure (FW.p_seql hk.kn hc rfl rfl))) ?_; clear hk; intro a w hk
    refine FW.lfun (y := .lit (.bool (((decide (t2.E = 0)) && (decide (y6.Kind = 1))) && (decide (y6.S = ([95, 95] : List UInt8)))))) hk rfl rfl rfl rfl ((FW.f_pure (FW.p_pick_and hk.kn FW.h0 rfl rfl))) ?_; clear hk; intro a w hk
    refine FW.lend (hK14 _ _ ?_); clear hK14 K'
    refine FW.wcondF (b := (((decide (t2.E = 0)) && (decide (y6.Kind = 1))) && (decide (y6.S = ([95, 95] : List UInt8))))) hk h rfl (fun h hb => ?_) (fun h hb => ?_)
    ·skip
     refine FW.wreg ?_; intro K' hK15
     refine FW.lfun (y := .lit (.pointer (some ⟨bx1, 1, none⟩))) hk rfl rfl rfl rfl (FW.f_fieldPtr hk FW.h0 rfl Try.underlying64 rfl (by kernel_rfl) rfl) ?_; clear hk; intro a w hk
     refine FW.lfun (y := .lit (.int .i64 t2.I)) hk rfl rfl rfl rfl (FW.f_loadBlk1 hk FW.h0 (j := 3) rfl rfl Try.underlying3 rfl rfl) ?_; clear hk; intro a w hk
     refine FW.lfun (y := .lit (.int .i64 (IntKind.wrap .i64 (t2.I + 1)))) hk rfl rfl rfl rfl ((FW.f_pure (FW.p_add hk.kn FW.h0 rfl rfl))) ?_; clear hk; intro a w hk
     refine FW.lfun (y := .lit (.pointer (some ⟨bx1, 1, none⟩))) hk rfl rfl rfl rfl (FW.f_fieldPtr hk FW.h0 rfl Try.underlying64 rfl (by kernel_rfl) rfl) ?_; clear hk; intro a w hk
     refine FW.l_store (I' := [FW.blk bx6 66 ((ApiWord.cells y6)), FW.blk bx3 38 ((ApiArg.cells (⟨0, (⟨0, false, 0, 0, [], []⟩ : ApiValue), (⟨[], [], []⟩ : ApiPred), []⟩ : ApiArg))), FW.blk bx2 64 ((Offshootref12State.cells (⟨[], 0, 0, 0, 0, 0⟩ : Offshootref12State))), FW.blk bx1 64 ((Offshootref12State.cells (⟨t2.L, (IntKind.wrap .i64 (t2.I + 1)), t2.Deep, t2.Steps, t2.At, t2.E⟩ : Offshootref12State)))]) (cs' := (Offshootref12State.cells (⟨t2.L, (IntKind.wrap .i64 (t2.I + 1)), t2.Deep, t2.Steps, t2.At, t2.E⟩ : Offshootref12State))) (j := 3) hk rfl rfl rfl rfl rfl (by kernel_rfl) rfl rfl ?_; clear hk; intro w hk
     refine FW.lend (hK15 _ _ ?_); clear hK15 K'
     refine FW.wreg1 ?_
     refine FW.lfun (y := .agg ((Offshootref12State.cells (⟨t2.L, (IntKind.wrap .i64 (t2.I + 1)), t2.Deep, t2.Steps, t2.At, t2.E⟩ : Offshootref12State)))) hk rfl rfl rfl rfl (FW.f_loadBlk hk FW.h0 (j := 3) rfl rfl Try.underlying64 rfl rfl rfl rfl) ?_; clear hk; intro a w hk
     obtain ⟨t4, hr_t4, h⟩ := FW.bnd h
     refine FW.lfun (y := .agg ((Offshootref12State.cells t4))) hk rfl rfl rfl rfl (FW.f_call hk FW.h0 rfl rfl Try.func26 rfl (by kernel_rfl) (offshootref12_State_sign.ok (⟨t2.L, (IntKind.wrap .i64 (t2.I + 1)), t2.Deep, t2.Steps, t2.At, t2.E⟩ : Offshootref12State) ([46] : List UInt8) _ hr_t4)) ?_; clear hk; intro a w hk
     refine FW.l_store (I' := [FW.blk bx6 66 ((ApiWord.cells y6)), FW.blk bx3 38 ((ApiArg.cells (⟨0, (⟨0, false, 0, 0, [], []⟩ : ApiValue), (⟨[], [], []⟩ : ApiPred), []⟩ : ApiArg))), FW.blk bx2 64 ((Offshootref12State.cells (⟨[], 0, 0, 0, 0, 0⟩ : Offshootref12State))), FW.blk bx1 64 ((Offshootref12State.cells t4))]) (cs' := (Offshootref12State.cells t4)) (j := 3) hk rfl rfl rfl rfl rfl (by kernel_rfl) rfl rfl ?_; clear hk; intro w hk
     refine wpList_nil ?_
     (repeat first | refine FW.then_normal ?_ | refine FW.block_normal ?_); exact hK10 _ _ ⟨t4, y1.Deep, (hk.drop 0).sub ⟨rfl, rfl, rfl, rfl, trivial⟩, h⟩
    ·skip
     refine wp_skip ?_
     (repeat first | refine FW.then_normal ?_ | refine FW.block_normal ?_); exact hK10 _ _ ⟨t2, y1.Deep, (hk.drop 0).sub ⟨rfl, rfl, rfl, rfl, trivial⟩, h⟩
  ·intro K' hK7
   refine FW.wreg ?_; intro K' hK17
   refine FW.lfun (y := .lit (.pointer (some ⟨bx6, 0, none⟩))) hk rfl rfl rfl rfl (FW.f_fieldPtr hk FW.h0 rfl Try.underlying66 rfl (by kernel_rfl) rfl) ?_; clear hk; intro a w hk
   refine FW.lfun (y := .lit (.int .i64 ((List.getD v0.L (Int.toNat v0.I) default).Kind))) hk rfl rfl rfl rfl (FW.f_loadBlk1 hk FW.h0 (j := 0) rfl rfl Try.underlying3 rfl rfl) ?_; clear hk; intro a w hk
   refine FW.lfun (y := .lit (.bool (decide (((List.getD v0.L (Int.toNat v0.I) default).Kind) = 1)))) hk rfl rfl rfl rfl ((FW.f_pure (FW.p_eql hk.kn FW.h0 rfl rfl))) ?_; clear hk; intro a w hk
   refine FW.lend (hK17 _ _ ?_); clear hK17 K'
   refine FW.wcondF (b := (decide (((List.getD v0.L (Int.toNat v0.I) default).Kind) = 1))) hk h rfl (fun h hb => ?_) (fun h hb => ?_)
   ·skip
    refine FW.wreg ?_; intro K' hK18
    refine FW.lfun (y := .lit (.pointer (some ⟨bx1, 0, none⟩))) hk rfl rfl rfl rfl (FW.f_fieldPtr hk FW.h0 rfl Try.underlying64 rfl (by kernel_rfl) rfl) ?_; clear hk; intro a w hk
    refine FW.lfun (y := .row (r_ApiWord_cells v0.L)) hk rfl rfl rfl rfl (FW.f_loadBlk1 hk FW.h0 (j := 5) rfl rfl Try.underlying60 rfl rfl) ?_; clear hk; intro a w hk
    refine FW.lfun (y := .lit (.pointer (some ⟨bx1, 1, none⟩))) hk rfl rfl rfl rfl (FW.f_fieldPtr hk FW.h0 rfl Try.underlying64 rfl (by kernel_rfl) rfl) ?_; clear hk; intro a w hk
    refine FW.lfun (y := .lit (.int .i64 v0.I)) hk rfl rfl rfl rfl (FW.f_loadBlk1 hk FW.h0 (j := 5) rfl rfl Try.underlying3 rfl rfl) ?_; clear hk; intro a w hk
    refine FW.lfun (y := .lit (.int .i64 (IntKind.wrap .i64 (v0.I + 1)))) hk rfl rfl rfl rfl ((FW.f_pure (FW.p_add hk.kn FW.h0 rfl rfl))) ?_; clear hk; intro a w hk
    obtain ⟨hc2, h⟩ := FW.chk h
    refine FW.lfun (y := .ref (ApiWord.cells (List.getD v0.L (Int.toNat (IntKind.wrap .i64 (v0.I + 1))) default))) hk rfl rfl rfl rfl (FW.f_indexAddr (R := r_ApiWord_cells) (f := ApiWord.cells) (l := v0.L) (sz := 5) r_ApiWord_cells_eq (fun _ => rfl) hk FW.h0 rfl rfl Try.underlying60 (by kernel_rfl) hc2) ?_; clear hk; intro a w hk
    refine FW.lfun (y := .agg ((ApiWord.cells (List.getD v0.L (Int.toNat (IntKind.wrap .i64 (v0.I + 1))) default)))) hk rfl rfl rfl rfl (FW.f_load hk FW.h0 rfl Try.underlying66 rfl rfl rfl rfl) ?_; clear hk; intro a w hk
    refine FW.l_alloc (zs := (ApiWord.cells (⟨0, [], 0, 0, 0⟩ : ApiWord))) [] hk rfl rfl rfl rfl ?_; clear hk; intro bx7 a w hk
    refine FW.l_store (I' := [FW.blk bx7 66 ((ApiWord.cells (List.getD v0.L (Int.toNat (IntKind.wrap .i64 (v0.I + 1))) default))), FW.blk bx6 66 ((ApiWord.cells (List.getD v0.L (Int.toNat v0.I) default))), FW.blk bx5 33 ((ApiValue.cells t1.2.1)), FW.blk bx4 64 ((Offshootref12State.cells t1.1)), FW.blk bx3 38 ((ApiArg.cells (⟨0, (⟨0, false, 0, 0, [], []⟩ : ApiValue), (⟨[], [], []⟩ : ApiPred), []⟩ : ApiArg))), FW.blk bx2 64 ((Offshootref12State.cells (⟨[], 0, 0, 0, 0, 0⟩ : Offshootref12State))), FW.blk bx1 64 ((Offshootref12State.cells v0))]) (cs' := (ApiWord.cells (List.getD v0.L (Int.toNat (IntKind.wrap .i64 (v0.I + 1))) default))) (j := 0) hk rfl rfl rfl rfl rfl (by kernel_rfl) rfl rfl ?_; clear hk; intro w hk
    refine FW.lend (hK18 _ _ ?_); clear hK18 K'
    refine FW.wreg ?_; intro K' hK19
    refine FW.lfun (y := .lit (.pointer (some ⟨bx7, 0, none⟩))) hk rfl rfl rfl rfl (FW.f_fieldPtr hk FW.h0 rfl Try.underlying66 rfl (by kernel_rfl) rfl) ?_; clear hk; intro a w hk
    refine FW.lfun (y := .lit (.int .i64 ((List.getD v0.L (Int.toNat (IntKind.wrap .i64 (v0.I + 1))) default).Kind))) hk rfl rfl rfl rfl (FW.f_loadBlk1 hk FW.h0 (j := 0) rfl rfl Try.underlying3 rfl rfl) ?_; clear hk; intro a w hk
    refine FW.lfun (y := .lit (.bool (decide (((List.getD v0.L (Int.toNat (IntKind.wrap .i64 (v0.I + 1))) default).Kind) = 5)))) hk rfl rfl rfl rfl ((FW.f_pure (FW.p_eql hk.kn FW.h0 rfl rfl))) ?_; clear hk; intro a w hk
    refine FW.lfun (y := .lit (.bool (decide (((List.getD v0.L (Int.toNat (IntKind.wrap .i64 (v0.I + 1))) default).Kind) = 5)))) hk rfl rfl rfl rfl (FW.f_move hk FW.h0 rfl) ?_; clear hk; intro a w hk
    refine FW.lfunG (y := .lit (.pointer (some ⟨bx7, 1, none⟩))) hk rfl rfl rfl rfl rfl rfl rfl rfl (fun hc => FW.f_fieldPtr hk hc rfl Try.underlying66 rfl (by kernel_rfl) rfl) ?_; clear hk; intro a w hk
    refine FW.lfunG (y := .lit (.string (FW.B ((List.getD v0.L (Int.toNat (IntKind.wrap .i64 (v0.I + 1))) default).S)))) hk rfl rfl rfl rfl rfl rfl rfl rfl (fun hc => FW.f_loadBlk1 hk hc (j := 0) rfl rfl Try.underlying9 rfl rfl) ?_; clear hk; intro a w hk
    refine FW.lfunG (y := .lit (.bool (decide (((List.getD v0.L (Int.toNat (IntKind.wrap .i64 (v0.I + 1))) default).S) = ([40] : List UInt8))))) hk rfl rfl rfl rfl rfl rfl rfl rfl (fun hc => (FW.f_pure (FW.p_seql hk.kn hc rfl rfl))) ?_; clear hk; intro a w hk
    refine FW.lfun (y := .lit (.bool ((decide (((List.getD v0.L (Int.toNat (IntKind.wrap .i64 (v0.I + 1))) default).Kind) = 5)) && (decide (((List.getD v0.L (Int.toNat (IntKind.wrap .i64 (v0.I + 1))) default).S) = ([40] : List UInt8)))))) hk rfl rfl rfl rfl ((FW.f_pure (FW.p_pick_and hk.kn FW.h0 rfl rfl))) ?_; clear hk; intro a w hk
    refine FW.lfun (y := .lit (.bool ((decide (((List.getD v0.L (Int.toNat (IntKind.wrap .i64 (v0.I + 1))) default).Kind) = 5)) && (decide (((List.getD v0.L (Int.toNat (IntKind.wrap .i64 (v0.I + 1))) default).S) = ([40] : List UInt8)))))) hk rfl rfl rfl rfl (FW.f_assign hk FW.h0 rfl) ?_; clear hk; intro a w hk
    refine FW.lend (hK19 _ _ ?_); clear hK19 K'
    refine FW.wseq ?_; intro K' hK20
    refine FW.wreg ?_; intro K' hK21
    refine FW.lfun (y := .lit (.pointer (some ⟨bx6, 1, none⟩))) hk rfl rfl rfl rfl (FW.f_fieldPtr hk FW.h0 rfl Try.underlying66 rfl (by kernel_rfl) rfl) ?_; clear hk; intro a w hk
    refine FW.lfun (y := .lit (.string (FW.B ((List.getD v0.L (Int.toNat v0.I) default).S)))) hk rfl rfl rfl rfl (FW.f_loadBlk1 hk FW.h0 (j := 1) rfl rfl Try.underlying9 rfl rfl) ?_; clear hk; intro a w hk
    obtain ⟨t5, hr_t5, h⟩ := FW.bnd h
    refine FW.lfun (y := .tup [.lit (.int .i64 t5.1), .lit (.bool t5.2)]) hk rfl rfl rfl rfl (FW.f_call hk FW.h0 rfl rfl Try.func77 rfl (by kernel_rfl) (offshootref12_Preds.ok K ((List.getD v0.L (Int.toNat v0.I) default).S) _ hr_t5)) ?_; clear hk; intro a w hk
    refine FW.lfun (y := .tup [.lit (.int .i64 t5.1), .lit (.bool t5.2)]) hk rfl rfl rfl rfl (FW.f_move hk FW.h0 rfl) ?_; clear hk; intro a w hk
    refine FW.lfun (y := .lit (.int .i64 t5.1)) hk rfl rfl rfl rfl (FW.f_extract hk FW.h0 rfl rfl) ?_; clear hk; intro a w hk
    refine FW.lfun (y := .lit (.bool t5.2)) hk rfl rfl rfl rfl (FW.f_extract hk FW.h0 rfl rfl) ?_; clear hk; intro a w hk
    refine FW.lfun (y := .lit (.int .i64 t5.1)) hk rfl rfl rfl rfl (FW.f_assign hk FW.h0 rfl) ?_; clear hk; intro a w hk
    refine FW.lfun (y := .lit (.bool t5.2)) hk rfl rfl rfl rfl (FW.f_assign hk FW.h0 rfl) ?_; clear hk; intro a w hk
    refine FW.lend (hK21 _ _ ?_); clear hK21 K'
    refine FW.wreg ?_; intro K' hK22
    refine FW.lfun (y := .lit (.bool t5.2)) hk rfl rfl rfl rfl (FW.f_move hk FW.h0 rfl) ?_; clear hk; intro a w hk
    refine FW.lfun (y := .lit (.bool t5.2)) hk rfl rfl rfl rfl (FW.f_move hk FW.h0 rfl) ?_; clear hk; intro a w hk
    refine FW.lfunG (y := .lit (.bool ((decide (((List.getD v0.L (Int.toNat (IntKind.wrap .i64 (v0.I + 1))) default).Kind) = 5)) && (decide (((List.getD v0.L (Int.toNat (IntKind.wrap .i64 (v0.I + 1))) default).S) = ([40] : List UInt8)))))) hk rfl rfl rfl rfl rfl rfl rfl rfl (fun hc => FW.f_move hk hc rfl) ?_; clear hk; intro a w hk
    refine FW.lfun (y := .lit (.bool (t5.2 && ((decide (((List.getD v0.L (Int.toNat (IntKind.wrap .i64 (v0.I + 1))) default).Kind) = 5)) && (decide (((List.getD v0.L (Int.toNat (IntKind.wrap .i64 (v0.I + 1))) default).S) = ([40] : List UInt8))))))) hk rfl rfl rfl rfl ((FW.f_pure (FW.p_pick_and hk.kn FW.h0 rfl rfl))) ?_; clear hk; intro a w hk
    refine FW.lend (hK22 _ _ ?_); clear hK22 K'
    refine FW.wcondF (b := (t5.2 && ((decide (((List.getD v0.L (Int.toNat (IntKind.wrap .i64 (v0.I + 1))) default).Kind) = 5)) && (decide (((List.getD v0.L (Int.toNat (IntKind.wrap .i64 (v0.I + 1))) default).S) = ([40] : List UInt8)))))) hk h rfl (fun h hb => ?_) (fun h hb => ?_)
    ·skip
     refine FW.wreg ?_; intro K' hK23
     refine FW.lfun (y := .agg ((Offshootref12State.cells v0))) hk rfl rfl rfl rfl (FW.f_loadBlk hk FW.h0 (j := 6) rfl rfl Try.underlying64 rfl rfl rfl rfl) ?_; clear hk; intro a w hk
     obtain ⟨t6, hr_t6, h⟩ := FW.bnd h
     refine FW.lfun (y := .tup [.agg ((Offshootref12State.cells t6.1)), .agg ((ApiPred.cells t6.2))]) hk rfl rfl rfl rfl (FW.f_call hk FW.h0 rfl rfl Try.func78 rfl (by kernel_rfl) (offshootref12_State_pred.ok K v0 _ hr_t6)) ?_; clear hk; intro a w hk
     refine FW.lfun (y := .tup [.agg ((Offshootref12State.cells t6.1)), .agg ((ApiPred.cells t6.2))]) hk rfl rfl rfl rfl (FW.f_move hk FW.h0 rfl) ?_; clear hk; intro a w hk
     refine FW.lfun (y := .agg ((Offshootref12State.cells t6.1))) hk rfl rfl rfl rfl (FW.f_extract hk FW.h0 rfl rfl) ?_; clear hk; intro a w hk
     refine FW.lfun (y := .agg ((ApiPred.cells t6.2))) hk rfl rfl rfl rfl (FW.f_extract hk FW.h0 rfl rfl) ?_; clear hk; intro a w hk
     refine FW.l_alloc (zs := (Offshootref12State.cells (⟨[], 0, 0, 0, 0, 0⟩ : Offshootref12State))) [] hk rfl rfl rfl rfl ?_; clear hk; intro bx8 a w hk
     refine FW.l_alloc (zs := (ApiPred.cells (⟨[], [], []⟩ : ApiPred))) [] hk rfl rfl rfl rfl ?_; clear hk; intro bx9 a w hk
     refine FW.l_store (I' := [FW.blk bx9 36 ((ApiPred.cells (⟨[], [], []⟩ : ApiPred))), FW.blk bx8 64 ((Offshootref12State.cells t6.1)), FW.blk bx7 66 ((ApiWord.cells (List.getD v0.L (Int.toNat (IntKind.wrap .i64 (v0.I + 1))) default))), FW.blk bx6 66 ((ApiWord.cells (List.getD v0.L (Int.toNat v0.I) default))), FW.blk bx5 33 ((ApiValue.cells t1.2.1)), FW.blk bx4 64 ((Offshootref12State.cells t1.1)), FW.blk bx3 38 ((ApiArg.cells (⟨0, (⟨0, false, 0, 0, [], []⟩ : ApiValue), (⟨[], [], []⟩ : ApiPred), []⟩ : ApiArg))), FW.blk bx2 64 ((Offshootref12State.cells (⟨[], 0, 0, 0, 0, 0⟩ : Offshootref12State))), FW.blk bx1 64 ((Offshootref12State.cells v0))]) (cs' := (Offshootref12State.cells t6.1)) (j := 1) hk rfl rfl rfl rfl rfl (by kernel_rfl) rfl rfl ?_; clear hk; intro w hk
     refine FW.l_store (I' := [FW.blk bx9 36 ((ApiPred.cells t6.2)), FW.blk bx8 64 ((Offshootref12State.cells t6.1)), FW.blk bx7 66 ((ApiWord.cells (List.getD v0.L (Int.toNat (IntKind.wrap .i64 (v0.I + 1))) default))), FW.blk bx6 66 ((ApiWord.cells (List.getD v0.L (Int.toNat v0.I) default))), FW.blk bx5 33 ((ApiValue.cells t1.2.1)), FW.blk bx4 64 ((Offshootref12State.cells t1.1)), FW.blk bx3 38 ((ApiArg.cells (⟨0, (⟨0, false, 0, 0, [], []⟩ : ApiValue), (⟨[], [], []⟩ : ApiPred), []⟩ : ApiArg))), FW.blk bx2 64 ((Offshootref12State.cells (⟨[], 0, 0, 0, 0, 0⟩ : Offshootref12State))), FW.blk bx1 64 ((Offshootref12State.cells v0))]) (cs' := (ApiPred.cells t6.2)) (j := 0) hk rfl rfl rfl rfl rfl (by kernel_rfl) rfl rfl ?_; clear hk; intro w hk
     refine FW.lend (hK23 _ _ ?_); clear hK23 K'
     refine FW.wdrawE (.next [true, true, true, false, false] 3 [true, true, true, false, false] (.next [false, true, true, false, false] 4 [true, true, true, true, false] (.leaf [false, false, false, false, false]))) [(70, [], .agg ((Offshootref12State.cells t6.1))), (71, [], .agg ((ApiPred.cells t6.2))), (72, [], .agg ((ApiArg.cells (⟨2, (⟨0, false, 0, 0, [], []⟩ : ApiValue), t6.2, []⟩ : ApiArg)))), (122, [], .lit undef), (122, [], .lit undef)] (by kernel_rfl) (by kernel_rfl) (by kernel_rfl) (by kernel_rfl) hk ?_; clear hk
     refine FW.gnext0 ?_ rfl rfl rfl ?_
     ·skip
      refine FW.gfun (y := .agg ((Offshootref12State.cells t6.1))) rfl rfl rfl rfl (fun a w hk => FW.f_loadBlk hk FW.h0 (j := 1) rfl rfl Try.underlying64 rfl rfl rfl rfl) ?_
      refine FW.gfun (y := .agg ((ApiPred.cells t6.2))) rfl rfl rfl rfl (fun a w hk => FW.f_loadBlk hk FW.h0 (j := 0) rfl rfl Try.underlying36 rfl rfl rfl rfl) ?_
      refine FW.gfun (y := .agg ((ApiArg.cells (⟨2, (⟨0, false, 0, 0, [], []⟩ : ApiValue), t6.2, []⟩ : ApiArg)))) rfl rfl rfl rfl (fun a w hk => FW.f_buildN [] hk FW.h0 rfl rfl rfl) ?_
      refine FW.gskip0 rfl ?_
      refine FW.gskip0 rfl ?_
      exact FW.gend
     ·skip
      intro σD a w opsD QD hk hQ hX
      refine FW.l_store (I' := [FW.blk bx9 36 ((ApiPred.cells t6.2)), FW.blk bx8 64 ((Offshootref12State.cells t6.1)), FW.blk bx7 66 ((ApiWord.cells (List.getD v0.L (Int.toNat (IntKind.wrap .i64 (v0.I + 1))) default))), FW.blk bx6 66 ((ApiWord.cells (List.getD v0.L (Int.toNat v0.I) default))), FW.blk bx5 33 ((ApiValue.cells t1.2.1)), FW.blk bx4 64 ((Offshootref12State.cells t1.1)), FW.blk bx3 38 ((ApiArg.cells (⟨0, (⟨0, false, 0, 0, [], []⟩ : ApiValue), (⟨[], [], []⟩ : ApiPred), []⟩ : ApiArg))), FW.blk bx2 64 ((Offshootref12State.cells t6.1)), FW.blk bx1 64 ((Offshootref12State.cells v0))]) (cs' := (Offshootref12State.cells t6.1)) (j := 7) hk rfl rfl rfl rfl rfl (by kernel_rfl) rfl rfl ?_; clear hk; intro w hk
      refine hQ _ a w ?_ hk; clear hk hQ hX
      refine ⟨[(70, [], .agg ((Offshootref12State.cells t6.1))), (71, [], .agg ((ApiPred.cells t6.2))), (72, [], .agg ((ApiArg.cells (⟨2, (⟨0, false, 0, 0, [], []⟩ : ApiValue), t6.2, []⟩ : ApiArg)))), (122, [], .lit undef), (122, [], .lit undef)], And.intro rfl (And.intro rfl (And.intro rfl (trivial))), rfl, ?_⟩
      refine FW.gnext0 ?_ rfl rfl rfl ?_
      ·skip
       refine FW.gskip rfl rfl ?_
       refine FW.gfun (y := .agg ((ApiPred.cells t6.2))) rfl rfl rfl rfl (fun a w hk => FW.f_loadBlk hk FW.h0 (j := 0) rfl rfl Try.underlying36 rfl rfl rfl rfl) ?_
       refine FW.gfun (y := .agg ((ApiArg.cells (⟨2, (⟨0, false, 0, 0, [], []⟩ : ApiValue), t6.2, []⟩ : ApiArg)))) rfl rfl rfl rfl (fun a w hk => FW.f_buildN [] hk FW.h0 rfl rfl rfl) ?_
       refine FW.gskip0 rfl ?_
       refine FW.gskip0 rfl ?_
       exact FW.gend
      ·skip
       intro σD a w opsD QD hk hQ hX
       refine FW.l_store (I' := [FW.blk bx9 36 ((ApiPred.cells t6.2)), FW.blk bx8 64 ((Offshootref12State.cells t6.1)), FW.blk bx7 66 ((ApiWord.cells (List.getD v0.L (Int.toNat (IntKind.wrap .i64 (v0.I + 1))) default))), FW.blk bx6 66 ((ApiWord.cells (List.getD v0.L (Int.toNat v0.I) default))), FW.blk bx5 33 ((ApiValue.cells t1.2.1)), FW.blk bx4 64 ((Offshootref12State.cells t1.1)), FW.blk bx3 38 ((ApiArg.cells (⟨2, (⟨0, false, 0, 0, [], []⟩ : ApiValue), t6.2, []⟩ : ApiArg))), FW.blk bx2 64 ((Offshootref12State.cells t6.1)), FW.blk bx1 64 ((Offshootref12State.cells v0))]) (cs' := (ApiArg.cells (⟨2, (⟨0, false, 0, 0, [], []⟩ : ApiValue), t6.2, []⟩ : ApiArg))) (j := 6) hk rfl rfl rfl rfl rfl (by kernel_rfl) rfl rfl ?_; clear hk; intro w hk
       refine hQ _ a w ?_ hk; clear hk hQ hX
       refine ⟨[(70, [], .agg ((Offshootref12State.cells t6.1))), (71, [], .agg ((ApiPred.cells t6.2))), (72, [], .agg ((ApiArg.cells (⟨2, (⟨0, false, 0, 0, [], []⟩ : ApiValue), t6.2, []⟩ : ApiArg)))), (122, [], .lit undef), (122, [], .lit undef)], And.intro rfl (And.intro rfl (And.intro rfl (And.intro rfl (trivial)))), rfl, ?_⟩
       refine FW.glast ?_ ?_
       ·skip
        refine FW.gskip rfl rfl ?_
        refine FW.gskip rfl rfl ?_
        refine FW.gskip rfl rfl ?_
        refine FW.gskip0 rfl ?_
        refine FW.gskip0 rfl ?_
        exact FW.gend
       ·skip
        intro a w hk; simp only [FW.stD, cond_true] at hk
        refine wp_ret ?_
        (repeat first | refine FW.then_ret ?_ | refine FW.block_ret ?_)
        obtain rfl := Option.some.inj h
        exact FW.fretR2 hk rfl (FW.rcell hk rfl (j := 7) rfl Try.underlying64 rfl (by kernel_rfl)) (FW.rcell hk rfl (j := 6) rfl Try.underlying38 rfl (by kernel_rfl))
    ·skip
     refine wp_skip ?_
     (repeat first | refine FW.then_normal ?_ | refine FW.block_normal ?_); refine hK20 _ _ ?_
     refine FW.wreg ?_; intro K' hK25
     refine FW.lfun (y := .lit (.bool ((decide (((List.getD v0.L (Int.toNat (IntKind.wrap .i64 (v0.I + 1))) default).Kind) = 5)) && (decide (((List.getD v0.L (Int.toNat (IntKind.wrap .i64 (v0.I + 1))) default).S) = ([40] : List UInt8)))))) hk rfl rfl rfl rfl (FW.f_move hk FW.h0 rfl) ?_; clear hk; intro a w hk
     refine FW.lfun (y := .lit (.bool (!((decide (((List.getD v0.L (Int.toNat (IntKind.wrap .i64 (v0.I + 1))) default).Kind) = 5)) && (decide (((List.getD v0.L (Int.toNat (IntKind.wrap .i64 (v0.I + 1))) default).S) = ([40] : List UInt8))))))) hk rfl rfl rfl rfl ((FW.f_pure (FW.p_not hk.kn FW.h0 rfl))) ?_; clear hk; intro a w hk
     refine FW.lfun (y := .lit (.bool (!((decide (((List.getD v0.L (Int.toNat (IntKind.wrap .i64 (v0.I + 1))) default).Kind) = 5)) && (decide (((List.getD v0.L (Int.toNat (IntKind.wrap .i64 (v0.I + 1))) default).S) = ([40] : List UInt8))))))) hk rfl rfl rfl rfl (FW.f_move hk FW.h0 rfl) ?_; clear hk; intro a w hk
     refine FW.lfunG (y := .lit (.pointer (some ⟨bx6, 1, none⟩))) hk rfl rfl rfl rfl rfl rfl rfl rfl (fun hc => FW.f_fieldPtr hk hc rfl Try.underlying66 rfl (by kernel_rfl) rfl) ?_; clear hk; intro a w hk
     refine FW.lfunG (y := .lit (.string (FW.B ((List.getD v0.L (Int.toNat v0.I) default).S)))) hk rfl rfl rfl rfl rfl rfl rfl rfl (fun hc => FW.f_loadBlk1 hk hc (j := 1) rfl rfl Try.underlying9 rfl rfl) ?_; clear hk; intro a w hk
     refine FW.lfunG (y := .lit (.bool (!decide (((List.getD v0.L (Int.toNat v0.I) default).S) = ([95, 95] : List UInt8))))) hk rfl rfl rfl rfl rfl rfl rfl rfl (fun hc => (FW.f_pure (FW.p_sneq hk.kn hc rfl rfl))) ?_; clear hk; intro a w hk
     refine FW.lfun (y := .lit (.bool ((!((decide (((List.getD v0.L (Int.toNat (IntKind.wrap .i64 (v0.I + 1))) default).Kind) = 5)) && (decide (((List.getD v0.L (Int.toNat (IntKind.wrap .i64 (v0.I + 1))) default).S) = ([40] : List UInt8))))) && (!decide (((List.getD v0.L (Int.toNat v0.I) default).S) = ([95, 95] : List UInt8)))))) hk rfl rfl rfl rfl ((FW.f_pure (FW.p_pick_and hk.kn FW.h0 rfl rfl))) ?_; clear hk; intro a w hk
     refine FW.lend (hK25 _ _ ?_); clear hK25 K'
     refine FW.wcondF (b := ((!((decide (((List.getD v0.L (Int.toNat (IntKind.wrap .i64 (v0.I + 1))) default).Kind) = 5)) && (decide (((List.getD v0.L (Int.toNat (IntKind.wrap .i64 (v0.I + 1))) default).S) = ([40] : List UInt8))))) && (!decide (((List.getD v0.L (Int.toNat v0.I) default).S) = ([95, 95] : List UInt8))))) hk h rfl (fun h hb => ?_) (fun h hb => ?_)
     ·skip
      refine FW.wreg ?_; intro K' hK26
      refine FW.lfun (y := .lit (.pointer (some ⟨bx1, 1, none⟩))) hk rfl rfl rfl rfl (FW.f_fieldPtr hk FW.h0 rfl Try.underlying64 rfl (by kernel_rfl) rfl) ?_; clear hk; intro a w hk
      refine FW.lfun (y := .lit (.int .i64 v0.I)) hk rfl rfl rfl rfl (FW.f_loadBlk1 hk FW.h0 (j := 6) rfl rfl Try.underlying3 rfl rfl) ?_; clear hk; intro a w hk
      refine FW.lfun (y := .lit (.int .i64 (IntKind.wrap .i64 (v0.I + 1)))) hk rfl rfl rfl rfl ((FW.f_pure (FW.p_add hk.kn FW.h0 rfl rfl))) ?_; clear hk; intro a w hk
      refine FW.lfun (y := .lit (.pointer (some ⟨bx1, 1, none⟩))) hk rfl rfl rfl rfl (FW.f_fieldPtr hk FW.h0 rfl Try.underlying64 rfl (by kernel_rfl) rfl) ?_; clear hk; intro a w hk
      refine FW.l_store (I' := [FW.blk bx7 66 ((ApiWord.cells (List.getD v0.L (Int.toNat (IntKind.wrap .i64 (v0.I + 1))) default))), FW.blk bx6 66 ((ApiWord.cells (List.getD v0.L (Int.toNat v0.I) default))), FW.blk bx5 33 ((ApiValue.cells t1.2.1)), FW.blk bx4 64 ((Offshootref12State.cells t1.1)), FW.blk bx3 38 ((ApiArg.cells (⟨0, (⟨0, false, 0, 0, [], []⟩ : ApiValue), (⟨[], [], []⟩ : ApiPred), []⟩ : ApiArg))), FW.blk bx2 64 ((Offshootref12State.cells (⟨[], 0, 0, 0, 0, 0⟩ : Offshootref12State))), FW.blk bx1 64 ((Offshootref12State.cells (⟨v0.L, (IntKind.wrap .i64 (v0.I + 1)), v0.Deep, v0.Steps, v0.At, v0.E⟩ : Offshootref12State)))]) (cs' := (Offshootref12State.cells (⟨v0.L, (IntKind.wrap .i64 (v0.I + 1)), v0.Deep, v0.Steps, v0.At, v0.E⟩ : Offshootref12State))) (j := 6) hk rfl rfl rfl rfl rfl (by kernel_rfl) rfl rfl ?_; clear hk; intro w hk
      refine FW.lend (hK26 _ _ ?_); clear hK26 K'
      refine FW.wdrawE (.next [true, true, true, true, true, false, false] 5 [true, true, true, true, true, false, false] (.next [false, true, true, true, true, false, false] 6 [true, true, true, true, true, true, false] (.leaf [false, false, false, false, false, false, false]))) [(84, [], .agg ((Offshootref12State.cells (⟨v0.L, (IntKind.wrap .i64 (v0.I + 1)), v0.Deep, v0.Steps, v0.At, v0.E⟩ : Offshootref12State)))), (85, [], .lit (.pointer (some ⟨bx6, 1, none⟩))), (86, [], .lit (.string (FW.B ((List.getD v0.L (Int.toNat v0.I) default).S)))), (87, [], .agg ((ApiValue.cells (⟨4, false, 0, 0, (List.getD v0.L (Int.toNat v0.I) default).S, []⟩ : ApiValue)))), (88, [], .agg ((ApiArg.cells (⟨4, (⟨4, false, 0, 0, (List.getD v0.L (Int.toNat v0.I) default).S, []⟩ : ApiValue), (⟨[], [], []⟩ : ApiPred), []⟩ : ApiArg)))), (122, [], .lit undef), (122, [], .lit undef)] (by kernel_rfl) (by kernel_rfl) (by kernel_rfl) (by kernel_rfl) hk ?_; clear hk
      refine FW.gnext0 ?_ rfl rfl rfl ?_
      ·skip
       refine FW.gfun (y := .agg ((Offshootref12State.cells (⟨v0.L, (IntKind.wrap .i64 (v0.I + 1)), v0.Deep, v0.Steps, v0.At, v0.E⟩ : Offshootref12State)))) rfl rfl rfl rfl (fun a w hk => FW.f_loadBlk hk FW.h0 (j := 6) rfl rfl Try.underlying64 rfl rfl rfl rfl) ?_
       refine FW.gfun (y := .lit (.pointer (some ⟨bx6, 1, none⟩))) rfl rfl rfl rfl (fun a w hk => FW.f_fieldPtr hk FW.h0 rfl Try.underlying66 rfl (by kernel_rfl) rfl) ?_
       refine FW.gfun (y := .lit (.string (FW.B ((List.getD v0.L (Int.toNat v0.I) default).S)))) rfl rfl rfl rfl (fun a w hk => FW.f_loadBlk1 hk FW.h0 (j := 1) rfl rfl Try.underlying9 rfl rfl) ?_
       refine FW.gfun (y := .agg ((ApiValue.cells (⟨4, false, 0, 0, (List.getD v0.L (Int.toNat v0.I) default).S, []⟩ : ApiValue)))) rfl rfl rfl rfl (fun a w hk => FW.f_buildN [] hk FW.h0 rfl rfl rfl) ?_
       refine FW.gfun (y := .agg ((ApiArg.cells (⟨4, (⟨4, false, 0, 0, (List.getD v0.L (Int.toNat v0.I) default).S, []⟩ : ApiValue), (⟨[], [], []⟩ : ApiPred), []⟩ : ApiArg)))) rfl rfl rfl rfl (fun a w hk => FW.f_buildN [] hk FW.h0 rfl rfl rfl) ?_
       refine FW.gskip0 rfl ?_
       refine FW.gskip0 rfl ?_
       exact FW.gend
      ·skip
       intro σD a w opsD QD hk hQ hX
       refine FW.l_store (I' := [FW.blk bx7 66 ((ApiWord.cells (List.getD v0.L (Int.toNat (IntKind.wrap .i64 (v0.I + 1))) default))), FW.blk bx6 66 ((ApiWord.cells (List.getD v0.L (Int.toNat v0.I) default))), FW.blk bx5 33 ((ApiValue.cells t1.2.1)), FW.blk bx4 64 ((Offshootref12State.cells t1.1)), FW.blk bx3 38 ((ApiArg.cells (⟨0, (⟨0, false, 0, 0, [], []⟩ : ApiValue), (⟨[], [], []⟩ : ApiPred), []⟩ : ApiArg))), FW.blk bx2 64 ((Offshootref12State.cells (⟨v0.L, (IntKind.wrap .i64 (v0.I + 1)), v0.Deep, v0.Steps, v0.At, v0.E⟩ : Offshootref12State))), FW.blk bx1 64 ((Offshootref12State.cells (⟨v0.L, (IntKind.wrap .i64 (v0.I + 1)), v0.Deep, v0.Steps, v0.At, v0.E⟩ : Offshootref12State)))]) (cs' := (Offshootref12State.cells (⟨v0.L, (IntKind.wrap .i64 (v0.I + 1)), v0.Deep, v0.Steps, v0.At, v0.E⟩ : Offshootref12State))) (j := 5) hk rfl rfl rfl rfl rfl (by kernel_rfl) rfl rfl ?_; clear hk; intro w hk
       refine hQ _ a w ?_ hk; clear hk hQ hX
       refine ⟨[(84, [], .agg ((Offshootref12State.cells (⟨v0.L, (IntKind.wrap .i64 (v0.I + 1)), v0.Deep, v0.Steps, v0.At, v0.E⟩ : Offshootref12State)))), (85, [], .lit (.pointer (some ⟨bx6, 1, none⟩))), (86, [], .lit (.string (FW.B ((List.getD v0.L (Int.toNat v0.I) default).S)))), (87, [], .agg ((ApiValue.cells (⟨4, false, 0, 0, (List.getD v0.L (Int.toNat v0.I) default).S, []⟩ : ApiValue)))), (88, [], .agg ((ApiArg.cells (⟨4, (⟨4, false, 0, 0, (List.getD v0.L (Int.toNat v0.I) default).S, []⟩ : ApiValue), (⟨[], [], []⟩ : ApiPred), []⟩ : ApiArg)))), (122, [], .lit undef), (122, [], .lit undef)], And.intro rfl (And.intro rfl (And.intro rfl (And.intro rfl (And.intro rfl (trivial))))), rfl, ?_⟩
       refine FW.gnext0 ?_ rfl rfl rfl ?_
       ·skip
        refine FW.gskip rfl rfl ?_
        refine FW.gfun (y := .lit (.pointer (some ⟨bx6, 1, none⟩))) rfl rfl rfl rfl (fun a w hk => FW.f_fieldPtr hk FW.h0 rfl Try.underlying66 rfl (by kernel_rfl) rfl) ?_
        refine FW.gfun (y := .lit (.string (FW.B ((List.getD v0.L (Int.toNat v0.I) default).S)))) rfl rfl rfl rfl (fun a w hk => FW.f_loadBlk1 hk FW.h0 (j := 1) rfl rfl Try.underlying9 rfl rfl) ?_
        refine FW.gfun (y := .agg ((ApiValue.cells (⟨4, false, 0, 0, (List.getD v0.L (Int.toNat v0.I) default).S, []⟩ : ApiValue)))) rfl rfl rfl rfl (fun a w hk => FW.f_buildN [] hk FW.h0 rfl rfl rfl) ?_
        refine FW.gfun (y := .agg ((ApiArg.cells (⟨4, (⟨4, false, 0, 0, (List.getD v0.L (Int.toNat v0.I) default).S, []⟩ : ApiValue), (⟨[], [], []⟩ : ApiPred), []⟩ : ApiArg)))) rfl rfl rfl rfl (fun a w hk => FW.f_buildN [] hk FW.h0 rfl rfl rfl) ?_
        refine FW.gskip0 rfl ?_
        refine FW.gskip0 rfl ?_
        exact FW.gend
       ·skip
        intro σD a w opsD QD hk hQ hX
        refine FW.l_store (I' := [FW.blk bx7 66 ((ApiWord.cells (List.getD v0.L (Int.toNat (IntKind.wrap .i64 (v0.I + 1))) default))), FW.blk bx6 66 ((ApiWord.cells (List.getD v0.L (Int.toNat v0.I) default))), FW.blk bx5 33 ((ApiValue.cells t1.2.1)), FW.blk bx4 64 ((Offshootref12State.cells t1.1)), FW.blk bx3 38 ((ApiArg.cells (⟨4, (⟨4, false, 0, 0, (List.getD v0.L (Int.toNat v0.I) default).S, []⟩ : ApiValue), (⟨[], [], []⟩ : ApiPred), []⟩ : ApiArg))), FW.blk bx2 64 ((Offshootref12State.cells (⟨v0.L, (IntKind.wrap .i64 (v0.I + 1)), v0.Deep, v0.Steps, v0.At, v0.E⟩ : Offshootref12State))), FW.blk bx1 64 ((Offshootref12State.cells (⟨v0.L, (IntKind.wrap .i64 (v0.I + 1)), v0.Deep, v0.Steps, v0.At, v0.E⟩ : Offshootref12State)))]) (cs' := (ApiArg.cells (⟨4, (⟨4, false, 0, 0, (List.getD v0.L (Int.toNat v0.I) default).S, []⟩ : ApiValue), (⟨[], [], []⟩ : ApiPred), []⟩ : ApiArg))) (j := 4) hk rfl rfl rfl rfl rfl (by kernel_rfl) rfl rfl ?_; clear hk; intro w hk
        refine hQ _ a w ?_ hk; clear hk hQ hX
        refine ⟨[(84, [], .agg ((Offshootref12State.cells (⟨v0.L, (IntKind.wrap .i64 (v0.I + 1)), v0.Deep, v0.Steps, v0.At, v0.E⟩ : Offshootref12State)))), (85, [], .lit (.pointer (some ⟨bx6, 1, none⟩))), (86, [], .lit (.string (FW.B ((List.getD v0.L (Int.toNat v0.I) default).S)))), (87, [], .agg ((ApiValue.cells (⟨4, false, 0, 0, (List.getD v0.L (Int.toNat v0.I) default).S, []⟩ : ApiValue)))), (88, [], .agg ((ApiArg.cells (⟨4, (⟨4, false, 0, 0, (List.getD v0.L (Int.toNat v0.I) default).S, []⟩ : ApiValue), (⟨[], [], []⟩ : ApiPred), []⟩ : ApiArg)))), (122, [], .lit undef), (122, [], .lit undef)], And.intro rfl (And.intro rfl (And.intro rfl (And.intro rfl (And.intro rfl (And.intro rfl (trivial)))))), rfl, ?_⟩
        refine FW.glast ?_ ?_
        ·skip
         refine FW.gskip rfl rfl ?_
         refine FW.gskip rfl rfl ?_
         refine FW.gskip rfl rfl ?_
         refine FW.gskip rfl rfl ?_
         refine FW.gskip rfl rfl ?_
         refine FW.gskip0 rfl ?_
         refine FW.gskip0 rfl ?_
         exact FW.gend
        ·skip
         intro a w hk; simp only [FW.stD, cond_true] at hk
         refine wp_ret ?_
         (repeat first | refine FW.then_ret ?_ | refine FW.block_ret ?_)
         obtain rfl := Option.some.inj h
         exact FW.fretR2 hk rfl (FW.rcell hk rfl (j := 5) rfl Try.underlying64 rfl (by kernel_rfl)) (FW.rcell hk rfl (j := 4) rfl Try.underlying38 rfl (by kernel_rfl))
     ·skip
      refine wp_skip ?_
      (repeat first | refine FW.then_normal ?_ | refine FW.block_normal ?_); exact hK7 _ _ ⟨(List.getD v0.L (Int.toNat v0.I) default), v0, (((hk.drop 3).drop 2).drop 0).sub ⟨rfl, rfl, rfl, rfl, trivial⟩, h⟩
   ·skip
    refine wp_skip ?_
    (repeat first | refine FW.then_normal ?_ | refine FW.block_normal ?_); exact hK7 _ _ ⟨(List.getD v0.L (Int.toNat v0.I) default), v0, ((hk.drop 2).drop 1).sub ⟨rfl, rfl, rfl, rfl, trivial⟩, h⟩
theorem offshootref12_State_steps_knot : ∀ K : Nat, (∀ (v0 : Offshootref12State) (r : Offshootref12State × List ApiStep), offshootref12_State_steps.f K v0 = some r → FW.Ok Try.prog 27 [.agg (Offshootref12State.cells v0)] (.tup [.agg (Offshootref12State.cells r.1), .row (r_ApiStep_cells r.2)])) ∧ (∀ (v0 : Offshootref12State) (r : Offshootref12State × ApiArg), offshootref12_State_arg.f K v0 = some r → FW.Ok Try.prog 52 [.agg (Offshootref12State.cells v0)] (.tup [.agg (Offshootref12State.cells r.1), .agg (ApiArg.cells r.2)]))
 | 0 => ⟨fun v0 r h => by simp [offshootref12_State_steps.f] at h, fun v0 r h => by simp [offshootref12_State_arg.f] at h⟩
 | K + 1 => ⟨fun v0 r h => by rw [offshootref12_State_steps.f] at h; exact offshootref12_State_steps.bok _ _ (offshootref12_State_steps_knot K).1 (offshootref12_State_steps_knot K).2 K v0 r h, fun v0 r h => by rw [offshootref12_State_arg.f] at h; exact offshootref12_State_arg.bok _ _ (offshootref12_State_steps_knot K).1 (offshootref12_State_steps_knot K).2 K v0 r h⟩
theorem offshootref12_State_steps.ok (K : Nat) (v0 : Offshootref12State) (r : Offshootref12State × List ApiStep) (h : offshootref12_State_steps.f K v0 = some r) : FW.Ok Try.prog 27 [.agg (Offshootref12State.cells v0)] (.tup [.agg (Offshootref12State.cells r.1), .row (r_ApiStep_cells r.2)]) := (offshootref12_State_steps_knot K).1 v0 r h
theorem offshootref12_State_arg.ok (K : Nat) (v0 : Offshootref12State) (r : Offshootref12State × ApiArg) (h : offshootref12_State_arg.f K v0 = some r) : FW.Ok Try.prog 52 [.agg (Offshootref12State.cells v0)] (.tup [.agg (Offshootref12State.cells r.1), .agg (ApiArg.cells r.2)]) := (offshootref12_State_steps_knot K).2 v0 r h
end Go.Proofs.Ytbjbgodcenopnaa

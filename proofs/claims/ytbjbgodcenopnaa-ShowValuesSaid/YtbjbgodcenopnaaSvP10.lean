/- Written by a program of this session (gen.py): the contracts of functions of the program. -/
import Derived.KernelRfl
import Derived.Test.YtbjbgodcenopnaaProg
import Derived.Test.YtbjbgodcenopnaaAvFun
import Derived.Test.YtbjbgodcenopnaaAvMan
import Derived.Test.YtbjbgodcenopnaaAvMore
import Derived.Test.YtbjbgodcenopnaaAvDraw2
import Derived.Test.YtbjbgodcenopnaaAvRow
import Derived.Test.YtbjbgodcenopnaaAvBld
import Derived.Test.YtbjbgodcenopnaaHcl
import Derived.Test.YtbjbgodcenopnaaAvFl
import Derived.Test.YtbjbgodcenopnaaSvD
import Derived.Test.YtbjbgodcenopnaaSvP9
namespace Go.Proofs.Ytbjbgodcenopnaa
set_option linter.unusedVariables false
set_option maxRecDepth 20000
set_option maxHeartbeats 10000000
theorem offshootref12_State_pred.bok (s_offshootref12_State_pred : Offshootref12State → Option (Offshootref12State × ApiPred)) (hs_offshootref12_State_pred : ∀ (v0 : Offshootref12State) (r : Offshootref12State × ApiPred), s_offshootref12_State_pred v0 = some r → FW.Ok Try.prog 78 [.agg (Offshootref12State.cells v0)] (.tup [.agg (Offshootref12State.cells r.1), .agg (ApiPred.cells r.2)])) (K : Nat) (v0 : Offshootref12State) (r : Offshootref12State × ApiPred) (h : offshootref12_State_pred.b s_offshootref12_State_pred K v0 = some r) :
  FW.Ok Try.prog 78 [.agg (Offshootref12State.cells v0)] (.tup [.agg (Offshootref12State.cells r.1), .agg (ApiPred.cells r.2)]) := by
 refine FW.enter (xs := [.agg (Offshootref12State.cells v0)]) Try.func78 rfl Try.ntmps78 rfl ?_
 intro M w0 a hk
 unfold offshootref12_State_pred.b at h
 refine FW.wreg ?_; intro K' hK1
 refine FW.l_box (cs := (Offshootref12State.cells v0)) hk rfl rfl rfl rfl rfl ?_; clear hk; intro bx1 a w hk
 refine FW.l_alloc (zs := (Offshootref12State.cells (⟨[], 0, 0, 0, 0, 0⟩ : Offshootref12State))) [] hk rfl rfl rfl rfl ?_; clear hk; intro bx2 a w hk
 refine FW.l_alloc (zs := (ApiPred.cells (⟨[], [], []⟩ : ApiPred))) [] hk rfl rfl rfl rfl ?_; clear hk; intro bx3 a w hk
 refine FW.lend (hK1 _ _ ?_); clear hK1 K'
 refine FW.wreg ?_; intro K' hK2
 refine FW.lfun (y := .agg ((Offshootref12State.cells v0))) hk rfl rfl rfl rfl (FW.f_loadBlk hk FW.h0 (j := 2) rfl rfl Try.underlying64 rfl rfl rfl rfl) ?_; clear hk; intro a w hk
 refine FW.l_alloc (zs := (Offshootref12State.cells (⟨[], 0, 0, 0, 0, 0⟩ : Offshootref12State))) [] hk rfl rfl rfl rfl ?_; clear hk; intro bx4 a w hk
 refine FW.l_store (I' := [FW.blk bx4 64 ((Offshootref12State.cells v0)), FW.blk bx3 36 ((ApiPred.cells (⟨[], [], []⟩ : ApiPred))), FW.blk bx2 64 ((Offshootref12State.cells (⟨[], 0, 0, 0, 0, 0⟩ : Offshootref12State))), FW.blk bx1 64 ((Offshootref12State.cells v0))]) (cs' := (Offshootref12State.cells v0)) (j := 0) hk rfl rfl rfl rfl rfl (by kernel_rfl) rfl rfl ?_; clear hk; intro w hk
 refine FW.lend (hK2 _ _ ?_); clear hK2 K'
 refine FW.wseq ?_; intro K' hK3
 refine FW.wreg ?_; intro K' hK4
 refine FW.lfun (y := .lit (.pointer (some ⟨bx1, 5, none⟩))) hk rfl rfl rfl rfl (FW.f_fieldPtr hk FW.h0 rfl Try.underlying64 rfl (by kernel_rfl) rfl) ?_; clear hk; intro a w hk
 refine FW.lfun (y := .lit (.int .i64 v0.E)) hk rfl rfl rfl rfl (FW.f_loadBlk1 hk FW.h0 (j := 3) rfl rfl Try.underlying23 rfl rfl) ?_; clear hk; intro a w hk
 refine FW.lfun (y := .lit (.bool (!decide (v0.E = 0)))) hk rfl rfl rfl rfl ((FW.f_pure (FW.p_neq hk.kn FW.h0 rfl rfl))) ?_; clear hk; intro a w hk
 refine FW.lfun (y := .lit (.bool (!decide (v0.E = 0)))) hk rfl rfl rfl rfl (FW.f_move hk FW.h0 rfl) ?_; clear hk; intro a w hk
 refine FW.lfunG (y := .lit (.pointer (some ⟨bx1, 0, none⟩))) hk rfl rfl rfl rfl rfl rfl rfl rfl (fun hc => FW.f_fieldPtr hk hc rfl Try.underlying64 rfl (by kernel_rfl) rfl) ?_; clear hk; intro a w hk
 refine FW.lfunG (y := .row (r_ApiWord_cells v0.L)) hk rfl rfl rfl rfl rfl rfl rfl rfl (fun hc => FW.f_loadBlk1 hk hc (j := 3) rfl rfl Try.underlying60 rfl rfl) ?_; clear hk; intro a w hk
 refine FW.lfunG (y := .lit (.pointer (some ⟨bx1, 1, none⟩))) hk rfl rfl rfl rfl rfl rfl rfl rfl (fun hc => FW.f_fieldPtr hk hc rfl Try.underlying64 rfl (by kernel_rfl) rfl) ?_; clear hk; intro a w hk
 refine FW.lfunG (y := .lit (.int .i64 v0.I)) hk rfl rfl rfl rfl rfl rfl rfl rfl (fun hc => FW.f_loadBlk1 hk hc (j := 3) rfl rfl Try.underlying3 rfl rfl) ?_; clear hk; intro a w hk
 obtain ⟨hc1, h⟩ := FW.chk h
 refine FW.lfunG (y := .ref (ApiWord.cells (List.getD v0.L (Int.toNat v0.I) default))) hk rfl rfl rfl rfl rfl rfl rfl rfl (fun hc => FW.f_indexAddr (R := r_ApiWord_cells) (f := ApiWord.cells) (l := v0.L) (sz := 5) r_ApiWord_cells_eq (fun _ => rfl) hk hc rfl rfl Try.underlying60 (by kernel_rfl) hc1) ?_; clear hk; intro a w hk
 refine FW.lfunG (y := .ref (List.drop 0 (ApiWord.cells (List.getD v0.L (Int.toNat v0.I) default)))) hk rfl rfl rfl rfl rfl rfl rfl rfl (fun hc => FW.f_fieldAddr hk hc rfl Try.underlying66 rfl (by kernel_rfl) rfl) ?_; clear hk; intro a w hk
 refine FW.lfunG (y := .lit (.int .i64 ((List.getD v0.L (Int.toNat v0.I) default).Kind))) hk rfl rfl rfl rfl rfl rfl rfl rfl (fun hc => FW.f_load1 hk hc rfl rfl Try.underlying3 rfl) ?_; clear hk; intro a w hk
 refine FW.lfunG (y := .lit (.bool (!decide (((List.getD v0.L (Int.toNat v0.I) default).Kind) = 1)))) hk rfl rfl rfl rfl rfl rfl rfl rfl (fun hc => (FW.f_pure (FW.p_neq hk.kn hc rfl rfl))) ?_; clear hk; intro a w hk
 refine FW.lfun (y := .lit (.bool ((!decide (v0.E = 0)) || (!decide (((List.getD v0.L (Int.toNat v0.I) default).Kind) = 1))))) hk rfl rfl rfl rfl ((FW.f_pure (FW.p_pick_or hk.kn FW.h0 rfl rfl))) ?_; clear hk; intro a w hk
 refine FW.lend (hK4 _ _ ?_); clear hK4 K'
 refine FW.wcondF (b := ((!decide (v0.E = 0)) || (!decide (((List.getD v0.L (Int.toNat v0.I) default).Kind) = 1)))) hk h rfl (fun h hb => ?_) (fun h hb => ?_)
 ·skip
  refine FW.wreg ?_; intro K' hK5
  refine FW.lfun (y := .agg ((Offshootref12State.cells v0))) hk rfl rfl rfl rfl (FW.f_loadBlk hk FW.h0 (j := 3) rfl rfl Try.underlying64 rfl rfl rfl rfl) ?_; clear hk; intro a w hk
  obtain ⟨t1, hr_t1, h⟩ := FW.bnd h
  refine FW.lfun (y := .agg ((Offshootref12State.cells t1))) hk rfl rfl rfl rfl (FW.f_call hk FW.h0 rfl rfl Try.func28 rfl (by kernel_rfl) (offshootref12_State_fail.ok v0 120 _ hr_t1)) ?_; clear hk; intro a w hk
  refine FW.lfun (y := .agg ((ApiPred.cells (⟨[], [], []⟩ : ApiPred)))) hk rfl rfl rfl rfl (FW.f_buildN [] hk FW.h0 rfl rfl rfl) ?_; clear hk; intro a w hk
  refine FW.l_store (I' := [FW.blk bx4 64 ((Offshootref12State.cells v0)), FW.blk bx3 36 ((ApiPred.cells (⟨[], [], []⟩ : ApiPred))), FW.blk bx2 64 ((Offshootref12State.cells t1)), FW.blk bx1 64 ((Offshootref12State.cells v0))]) (cs' := (Offshootref12State.cells t1)) (j := 2) hk rfl rfl rfl rfl rfl (by kernel_rfl) rfl rfl ?_; clear hk; intro w hk
  refine FW.l_store (I' := [FW.blk bx4 64 ((Offshootref12State.cells v0)), FW.blk bx3 36 ((ApiPred.cells (⟨[], [], []⟩ : ApiPred))), FW.blk bx2 64 ((Offshootref12State.cells t1)), FW.blk bx1 64 ((Offshootref12State.cells v0))]) (cs' := (ApiPred.cells (⟨[], [], []⟩ : ApiPred))) (j := 1) hk rfl rfl rfl rfl rfl (by kernel_rfl) rfl rfl ?_; clear hk; intro w hk
  refine FW.lend (hK5 _ _ ?_); clear hK5 K'
  refine wp_ret ?_
  (repeat first | refine FW.then_ret ?_ | refine FW.block_ret ?_)
  obtain rfl := Option.some.inj h
  exact FW.fretR2 hk rfl (FW.rcell hk rfl (j := 2) rfl Try.underlying64 rfl (by kernel_rfl)) (FW.rcell hk rfl (j := 1) rfl Try.underlying36 rfl (by kernel_rfl))
 ·skip
  refine wp_skip ?_
  (repeat first | refine FW.then_normal ?_ | refine FW.block_normal ?_); refine hK3 _ _ ?_
  refine FW.wreg ?_; intro K' hK6
  refine FW.lfun (y := .lit (.pointer (some ⟨bx1, 0, none⟩))) hk rfl rfl rfl rfl (FW.f_fieldPtr hk FW.h0 rfl Try.underlying64 rfl (by kernel_rfl) rfl) ?_; clear hk; intro a w hk
  refine FW.lfun (y := .row (r_ApiWord_cells v0.L)) hk rfl rfl rfl rfl (FW.f_loadBlk1 hk FW.h0 (j := 3) rfl rfl Try.underlying60 rfl rfl) ?_; clear hk; intro a w hk
  refine FW.lfun (y := .lit (.pointer (some ⟨bx1, 1, none⟩))) hk rfl rfl rfl rfl (FW.f_fieldPtr hk FW.h0 rfl Try.underlying64 rfl (by kernel_rfl) rfl) ?_; clear hk; intro a w hk
  refine FW.lfun (y := .lit (.int .i64 v0.I)) hk rfl rfl rfl rfl (FW.f_loadBlk1 hk FW.h0 (j := 3) rfl rfl Try.underlying3 rfl rfl) ?_; clear hk; intro a w hk
  obtain ⟨hc2, h⟩ := FW.chk h
  refine FW.lfun (y := .ref (ApiWord.cells (List.getD v0.L (Int.toNat v0.I) default))) hk rfl rfl rfl rfl (FW.f_indexAddr (R := r_ApiWord_cells) (f := ApiWord.cells) (l := v0.L) (sz := 5) r_ApiWord_cells_eq (fun _ => rfl) hk FW.h0 rfl rfl Try.underlying60 (by kernel_rfl) hc2) ?_; clear hk; intro a w hk
  refine FW.lfun (y := .ref (List.drop 1 (ApiWord.cells (List.getD v0.L (Int.toNat v0.I) default)))) hk rfl rfl rfl rfl (FW.f_fieldAddr hk FW.h0 rfl Try.underlying66 rfl (by kernel_rfl) rfl) ?_; clear hk; intro a w hk
  refine FW.lfun (y := .lit (.string (FW.B ((List.getD v0.L (Int.toNat v0.I) default).S)))) hk rfl rfl rfl rfl (FW.f_load1 hk FW.h0 rfl rfl Try.underlying9 rfl) ?_; clear hk; intro a w hk
  obtain ⟨t2, hr_t2, h⟩ := FW.bnd h
  refine FW.lfun (y := .tup [.lit (.int .i64 t2.1), .lit (.bool t2.2)]) hk rfl rfl rfl rfl (FW.f_call hk FW.h0 rfl rfl Try.func77 rfl (by kernel_rfl) (offshootref12_Preds.ok K ((List.getD v0.L (Int.toNat v0.I) default).S) _ hr_t2)) ?_; clear hk; intro a w hk
  refine FW.lfun (y := .tup [.lit (.int .i64 t2.1), .lit (.bool t2.2)]) hk rfl rfl rfl rfl (FW.f_move hk FW.h0 rfl) ?_; clear hk; intro a w hk
  refine FW.lfun (y := .lit (.int .i64 t2.1)) hk rfl rfl rfl rfl (FW.f_extract hk FW.h0 rfl rfl) ?_; clear hk; intro a w hk
  refine FW.lfun (y := .lit (.bool t2.2)) hk rfl rfl rfl rfl (FW.f_extract hk FW.h0 rfl rfl) ?_; clear hk; intro a w hk
  refine FW.lfun (y := .lit (.int .i64 t2.1)) hk rfl rfl rfl rfl (FW.f_assign hk FW.h0 rfl) ?_; clear hk; intro a w hk
  refine FW.lfun (y := .lit (.bool t2.2)) hk rfl rfl rfl rfl (FW.f_assign hk FW.h0 rfl) ?_; clear hk; intro a w hk
  refine FW.lend (hK6 _ _ ?_); clear hK6 K'
  refine FW.wseq ?_; intro K' hK7
  refine FW.wreg ?_; intro K' hK8
  refine FW.lfun (y := .lit (.bool t2.2)) hk rfl rfl rfl rfl (FW.f_move hk FW.h0 rfl) ?_; clear hk; intro a w hk
  refine FW.lfun (y := .lit (.bool (!t2.2))) hk rfl rfl rfl rfl ((FW.f_pure (FW.p_not hk.kn FW.h0 rfl))) ?_; clear hk; intro a w hk
  refine FW.lend (hK8 _ _ ?_); clear hK8 K'
  refine FW.wcondF (b := (!t2.2)) hk h rfl (fun h hb => ?_) (fun h hb => ?_)
  ·skip
   refine FW.wreg ?_; intro K' hK9
   refine FW.lfun (y := .agg ((Offshootref12State.cells v0))) hk rfl rfl rfl rfl (FW.f_loadBlk hk FW.h0 (j := 3) rfl rfl Try.underlying64 rfl rfl rfl rfl) ?_; clear hk; intro a w hk
   obtain ⟨t3, hr_t3, h⟩ := FW.bnd h
   refine FW.lfun (y := .agg ((Offshootref12State.cells t3))) hk rfl rfl rfl rfl (FW.f_call hk FW.h0 rfl rfl Try.func28 rfl (by kernel_rfl) (offshootref12_State_fail.ok v0 120 _ hr_t3)) ?_; clear hk; intro a w hk
   refine FW.lfun (y := .agg ((ApiPred.cells (⟨[], [], []⟩ : ApiPred)))) hk rfl rfl rfl rfl (FW.f_buildN [] hk FW.h0 rfl rfl rfl) ?_; clear hk; intro a w hk
   refine FW.l_store (I' := [FW.blk bx4 64 ((Offshootref12State.cells v0)), FW.blk bx3 36 ((ApiPred.cells (⟨[], [], []⟩ : ApiPred))), FW.blk bx2 64 ((Offshootref12State.cells t3)), FW.blk bx1 64 ((Offshootref12State.cells v0))]) (cs' := (Offshootref12State.cells t3)) (j := 2) hk rfl rfl rfl rfl rfl (by kernel_rfl) rfl rfl ?_; clear hk; intro w hk
   refine FW.l_store (I' := [FW.blk bx4 64 ((Offshootref12State.cells v0)), FW.blk bx3 36 ((ApiPred.cells (⟨[], [], []⟩ : ApiPred))), FW.blk bx2 64 ((Offshootref12State.cells t3)), FW.blk bx1 64 ((Offshootref12State.cells v0))]) (cs' := (ApiPred.cells (⟨[], [], []⟩ : ApiPred))) (j := 1) hk rfl rfl rfl rfl rfl (by kernel_rfl) rfl rfl ?_; clear hk; intro w hk
   refine FW.lend (hK9 _ _ ?_); clear hK9 K'
   refine wp_ret ?_
   (repeat first | refine FW.then_ret ?_ | refine FW.block_ret ?_)
   obtain rfl := Option.some.inj h
   exact FW.fretR2 hk rfl (FW.rcell hk rfl (j := 2) rfl Try.underlying64 rfl (by kernel_rfl)) (FW.rcell hk rfl (j := 1) rfl Try.underlying36 rfl (by kernel_rfl))
  ·skip
   refine wp_skip ?_
   (repeat first | refine FW.then_normal ?_ | refine FW.block_normal ?_); refine hK7 _ _ ?_
   refine FW.wreg ?_; intro K' hK10
   refine FW.lfun (y := .lit (.pointer (some ⟨bx1, 0, none⟩))) hk rfl rfl rfl rfl (FW.f_fieldPtr hk FW.h0 rfl Try.underlying64 rfl (by kernel_rfl) rfl) ?_; clear hk; intro a w hk
   refine FW.lfun (y := .row (r_ApiWord_cells v0.L)) hk rfl rfl rfl rfl (FW.f_loadBlk1 hk FW.h0 (j := 3) rfl rfl Try.underlying60 rfl rfl) ?_; clear hk; intro a w hk
   refine FW.lfun (y := .lit (.pointer (some ⟨bx1, 1, none⟩))) hk rfl rfl rfl rfl (FW.f_fieldPtr hk FW.h0 rfl Try.underlying64 rfl (by kernel_rfl) rfl) ?_; clear hk; intro a w hk
   refine FW.lfun (y := .lit (.int .i64 v0.I)) hk rfl rfl rfl rfl (FW.f_loadBlk1 hk FW.h0 (j := 3) rfl rfl Try.underlying3 rfl rfl) ?_; clear hk; intro a w hk
   obtain ⟨hc3, h⟩ := FW.chk h
   refine FW.lfun (y := .ref (ApiWord.cells (List.getD v0.L (Int.toNat v0.I) default))) hk rfl rfl rfl rfl (FW.f_indexAddr (R := r_ApiWord_cells) (f := ApiWord.cells) (l := v0.L) (sz := 5) r_ApiWord_cells_eq (fun _ => rfl) hk FW.h0 rfl rfl Try.underlying60 (by kernel_rfl) hc3) ?_; clear hk; intro a w hk
   refine FW.lfun (y := .ref (List.drop 1 (ApiWord.cells (List.getD v0.L (Int.toNat v0.I) default)))) hk rfl rfl rfl rfl (FW.f_fieldAddr hk FW.h0 rfl Try.underlying66 rfl (by kernel_rfl) rfl) ?_; clear hk; intro a w hk
   refine FW.lfun (y := .lit (.string (FW.B ((List.getD v0.L (Int.toNat v0.I) default).S)))) hk rfl rfl rfl rfl (FW.f_load1 hk FW.h0 rfl rfl Try.underlying9 rfl) ?_; clear hk; intro a w hk
   refine FW.lfun (y := .agg ((ApiPred.cells (⟨(List.getD v0.L (Int.toNat v0.I) default).S, [], []⟩ : ApiPred)))) hk rfl rfl rfl rfl (FW.f_buildN [] hk FW.h0 rfl rfl rfl) ?_; clear hk; intro a w hk
   refine FW.l_alloc (zs := (ApiPred.cells (⟨[], [], []⟩ : ApiPred))) [] hk rfl rfl rfl rfl ?_; clear hk; intro bx5 a w hk
   refine FW.l_store (I' := [FW.blk bx5 36 ((ApiPred.cells (⟨(List.getD v0.L (Int.toNat v0.I) default).S, [], []⟩ : ApiPred))), FW.blk bx4 64 ((Offshootref12State.cells v0)), FW.blk bx3 36 ((ApiPred.cells (⟨[], [], []⟩ : ApiPred))), FW.blk bx2 64 ((Offshootref12State.cells (⟨[], 0, 0, 0, 0, 0⟩ : Offshootref12State))), FW.blk bx1 64 ((Offshootref12State.cells v0))]) (cs' := (ApiPred.cells (⟨(List.getD v0.L (Int.toNat v0.I) default).S, [], []⟩ : ApiPred))) (j := 0) hk rfl rfl rfl rfl rfl (by kernel_rfl) rfl rfl ?_; clear hk; intro w hk
   refine FW.lend (hK10 _ _ ?_); clear hK10 K'
   refine FW.wreg ?_; intro K' hK11
   refine FW.lfun (y := .lit (.pointer (some ⟨bx1, 1, none⟩))) hk rfl rfl rfl rfl (FW.f_fieldPtr hk FW.h0 rfl Try.underlying64 rfl (by kernel_rfl) rfl) ?_; clear hk; intro a w hk
   refine FW.lfun (y := .lit (.int .i64 v0.I)) hk rfl rfl rfl rfl (FW.f_loadBlk1 hk FW.h0 (j := 4) rfl rfl Try.underlying3 rfl rfl) ?_; clear hk; intro a w hk
   refine FW.lfun (y := .lit (.int .i64 (IntKind.wrap .i64 (v0.I + 1)))) hk rfl rfl rfl rfl ((FW.f_pure (FW.p_add hk.kn FW.h0 rfl rfl))) ?_; clear hk; intro a w hk
   refine FW.lfun (y := .lit (.pointer (some ⟨bx1, 1, none⟩))) hk rfl rfl rfl rfl (FW.f_fieldPtr hk FW.h0 rfl Try.underlying64 rfl (by kernel_rfl) rfl) ?_; clear hk; intro a w hk
   refine FW.l_store (I' := [FW.blk bx5 36 ((ApiPred.cells (⟨(List.getD v0.L (Int.toNat v0.I) default).S, [], []⟩ : ApiPred))), FW.blk bx4 64 ((Offshootref12State.cells v0)), FW.blk bx3 36 ((ApiPred.cells (⟨[], [], []⟩ : ApiPred))), FW.blk bx2 64 ((Offshootref12State.cells (⟨[], 0, 0, 0, 0, 0⟩ : Offshootref12State))), FW.blk bx1 64 ((Offshootref12State.cells (⟨v0.L, (IntKind.wrap .i64 (v0.I + 1)), v0.Deep, v0.Steps, v0.At, v0.E⟩ : Offshootref12State)))]) (cs' := (Offshootref12State.cells (⟨v0.L, (IntKind.wrap .i64 (v0.I + 1)), v0.Deep, v0.Steps, v0.At, v0.E⟩ : Offshootref12State))) (j := 4) hk rfl rfl rfl rfl rfl (by kernel_rfl) rfl rfl ?_; clear hk; intro w hk
   refine FW.lend (hK11 _ _ ?_); clear hK11 K'
   refine FW.wreg ?_; intro K' hK12
   refine FW.lfun (y := .agg ((Offshootref12State.cells (⟨v0.L, (IntKind.wrap .i64 (v0.I + 1)), v0.Deep, v0.Steps, v0.At, v0.E⟩ : Offshootref12State)))) hk rfl rfl rfl rfl (FW.f_loadBlk hk FW.h0 (j := 4) rfl rfl Try.underlying64 rfl rfl rfl rfl) ?_; clear hk; intro a w hk
   obtain ⟨t4, hr_t4, h⟩ := FW.bnd h
   refine FW.lfun (y := .agg ((Offshootref12State.cells t4))) hk rfl rfl rfl rfl (FW.f_call hk FW.h0 rfl rfl Try.func26 rfl (by kernel_rfl) (offshootref12_State_sign.ok (⟨v0.L, (IntKind.wrap .i64 (v0.I + 1)), v0.Deep, v0.Steps, v0.At, v0.E⟩ : Offshootref12State) ([40] : List UInt8) _ hr_t4)) ?_; clear hk; intro a w hk
   obtain ⟨t5, hr_t5, h⟩ := FW.bnd h
   refine FW.lfun (y := .agg ((Offshootref12State.cells t5))) hk rfl rfl rfl rfl (FW.f_call hk FW.h0 rfl rfl Try.func79 rfl (by kernel_rfl) (offshootref12_State_into.ok t4 _ hr_t5)) ?_; clear hk; intro a w hk
   refine FW.l_store (I' := [FW.blk bx5 36 ((ApiPred.cells (⟨(List.getD v0.L (Int.toNat v0.I) default).S, [], []⟩ : ApiPred))), FW.blk bx4 64 ((Offshootref12State.cells v0)), FW.blk bx3 36 ((ApiPred.cells (⟨[], [], []⟩ : ApiPred))), FW.blk bx2 64 ((Offshootref12State.cells (⟨[], 0, 0, 0, 0, 0⟩ : Offshootref12State))), FW.blk bx1 64 ((Offshootref12State.cells t5))]) (cs' := (Offshootref12State.cells t5)) (j := 4) hk rfl rfl rfl rfl rfl (by kernel_rfl) rfl rfl ?_; clear hk; intro w hk
   refine FW.lend (hK12 _ _ ?_); clear hK12 K'
   refine FW.wreg ?_; intro K' hK13
   refine FW.lfun (y := .agg ((Offshootref12State.cells t5))) hk rfl rfl rfl rfl (FW.f_loadBlk hk FW.h0 (j := 4) rfl rfl Try.underlying64 rfl rfl rfl rfl) ?_; clear hk; intro a w hk
   obtain ⟨t6, hr_t6, h⟩ := FW.bnd h
   refine FW.lfun (y := .tup [.agg ((Offshootref12State.cells t6.1)), .row (r_ApiValue_cells t6.2)]) hk rfl rfl rfl rfl (FW.f_call hk FW.h0 rfl rfl Try.func108 rfl (by kernel_rfl) (offshootref12_State_values.ok K t5 ([41] : List UInt8) _ hr_t6)) ?_; clear hk; intro a w hk
   refine FW.lfun (y := .tup [.agg ((Offshootref12State.cells t6.1)), .row (r_ApiValue_cells t6.2)]) hk rfl rfl rfl rfl (FW.f_move hk FW.h0 rfl) ?_; clear hk; intro a w hk
   refine FW.lfun (y := .agg ((Offshootref12State.cells t6.1))) hk rfl rfl rfl rfl (FW.f_extract hk FW.h0 rfl rfl) ?_; clear hk; intro a w hk
   refine FW.lfun (y := .row (r_ApiValue_cells t6.2)) hk rfl rfl rfl rfl (FW.f_extract hk FW.h0 rfl rfl) ?_; clear hk; intro a w hk
   refine FW.l_store (I' := [FW.blk bx5 36 ((ApiPred.cells (⟨(List.getD v0.L (Int.toNat v0.I) default).S, [], []⟩ : ApiPred))), FW.blk bx4 64 ((Offshootref12State.cells v0)), FW.blk bx3 36 ((ApiPred.cells (⟨[], [], []⟩ : ApiPred))), FW.blk bx2 64 ((Offshootref12State.cells (⟨[], 0, 0, 0, 0, 0⟩ : Offshootref12State))), FW.blk bx1 64 ((Offshootref12State.cells t6.1))]) (cs' := (Offshootref12State.cells t6.1)) (j := 4) hk rfl rfl rfl rfl rfl (by kernel_rfl) rfl rfl ?_; clear hk; intro w hk
   refine FW.lfun (y := .lit (.pointer (some ⟨bx5, 1, none⟩))) hk rfl rfl rfl rfl (FW.f_fieldPtr hk FW.h0 rfl Try.underlying36 rfl (by kernel_rfl) rfl) ?_; clear hk; intro a w hk
   refine FW.l_store (I' := [FW.blk bx5 36 ((ApiPred.cells (⟨(List.getD v0.L (Int.toNat v0.I) default).S, t6.2, []⟩ : ApiPred))), FW.blk bx4 64 ((Offshootref12State.cells v0)), FW.blk bx3 36 ((ApiPred.cells (⟨[], [], []⟩ : ApiPred))), FW.blk bx2 64 ((Offshootref12State.cells (⟨[], 0, 0, 0, 0, 0⟩ : Offshootref12State))), FW.blk bx1 64 ((Offshootref12State.cells t6.1))]) (cs' := (ApiPred.cells (⟨(List.getD v0.L (Int.toNat v0.I) default).S, t6.2, []⟩ : ApiPred))) (j := 0) hk rfl rfl rfl rfl rfl (by kernel_rfl) rfl rfl ?_; clear hk; intro w hk
   refine FW.lend (hK13 _ _ ?_); clear hK13 K'
   refine FW.wreg ?_; intro K' hK14
   refine FW.lfun (y := .lit (.pointer (some ⟨bx4, 2, none⟩))) hk rfl rfl rfl rfl (FW.f_fieldPtr hk FW.h0 rfl Try.underlying64 rfl (by kernel_rfl) rfl) ?_; clear hk; intro a w hk
   refine FW.lfun (y := .lit (.int .i64 v0.Deep)) hk rfl rfl rfl rfl (FW.f_loadBlk1 hk FW.h0 (j := 1) rfl rfl Try.underlying3 rfl rfl) ?_; clear hk; intro a w hk
   refine FW.lfun (y := .lit (.pointer (some ⟨bx1, 2, none⟩))) hk rfl rfl rfl rfl (FW.f_fieldPtr hk FW.h0 rfl Try.underlying64 rfl (by kernel_rfl) rfl) ?_; clear hk; intro a w hk
   refine FW.l_store (I' := [FW.blk bx5 36 ((ApiPred.cells (⟨(List.getD v0.L (Int.toNat v0.I) default).S, t6.2, []⟩ : ApiPred))), FW.blk bx4 64 ((Offshootref12State.cells v0)), FW.blk bx3 36 ((ApiPred.cells (⟨[], [], []⟩ : ApiPred))), FW.blk bx2 64 ((Offshootref12State.cells (⟨[], 0, 0, 0, 0, 0⟩ : Offshootref12State))), FW.blk bx1 64 ((Offshootref12State.cells (⟨t6.1.L, t6.1.I, v0.Deep, t6.1.Steps, t6.1.At, t6.1.E⟩ : Offshootref12State)))]) (cs' := (Offshootref12State.cells (⟨t6.1.L, t6.1.I, v0.Deep, t6.1.Steps, t6.1.At, t6.1.E⟩ : Offshootref12State))) (j := 4) hk rfl rfl rfl rfl rfl (by kernel_rfl) rfl rfl ?_; clear hk; intro w hk
   refine FW.lend (hK14 _ _ ?_); clear hK14 K'
   refine FW.wseq ?_; intro K' hK15
   refine FW.wreg ?_; intro K' hK16
   refine FW.lfun (y := .lit (.pointer (some ⟨bx1, 5, none⟩))) hk rfl rfl rfl rfl (FW.f_fieldPtr hk FW.h0 rfl Try.underlying64 rfl (by kernel_rfl) rfl) ?_; clear hk; intro a w hk
   refine FW.lfun (y := .lit (.int .i64 t6.1.E)) hk rfl rfl rfl rfl (FW.f_loadBlk1 hk FW.h0 (j := 4) rfl rfl Try.underlying23 rfl rfl) ?_; clear hk; intro a w hk
   refine FW.lfun (y := .lit (.bool (decide (t6.1.E = 0)))) hk rfl rfl rfl rfl ((FW.f_pure (FW.p_eql hk.kn FW.h0 rfl rfl))) ?_; clear hk; intro a w hk
   refine FW.lfun (y := .lit (.bool (decide (t6.1.E = 0)))) hk rfl rfl rfl rfl (FW.f_move hk FW.h0 rfl) ?_; clear hk; intro a w hk
   refine FW.lfunG (y := .lit (.int .i64 t2.1)) hk rfl rfl rfl rfl rfl rfl rfl rfl (fun hc => FW.f_move hk hc rfl) ?_; clear hk; intro a w hk
   refine FW.lfunG (y := .lit (.bool (decide (0 ≤ t2.1)))) hk rfl rfl rfl rfl rfl rfl rfl rfl (fun hc => (FW.f_pure (FW.p_geq hk.kn hc rfl rfl))) ?_; clear hk; intro a w hk
   refine FW.lfun (y := .lit (.bool ((decide (t6.1.E = 0)) && (decide (0 ≤ t2.1))))) hk rfl rfl rfl rfl ((FW.f_pure (FW.p_pick_and hk.kn FW.h0 rfl rfl))) ?_; clear hk; intro a w hk
   refine FW.lfun (y := .lit (.bool ((decide (t6.1.E = 0)) && (decide (0 ≤ t2.1))))) hk rfl rfl rfl rfl (FW.f_move hk FW.h0 rfl) ?_; clear hk; intro a w hk
   refine FW.lfunG (y := .lit (.pointer (some ⟨bx5, 1, none⟩))) hk rfl rfl rfl rfl rfl rfl rfl rfl (fun hc => FW.f_fieldPtr hk hc rfl Try.underlying36 rfl (by kernel_rfl) rfl) ?_; clear hk; intro a w hk
   refine FW.lfunG (y := .row (r_ApiValue_cells t6.2)) hk rfl rfl rfl rfl rfl rfl rfl rfl (fun hc => FW.f_loadBlk1 hk hc (j := 0) rfl rfl Try.underlying31 rfl rfl) ?_; clear hk; intro a w hk
   refine FW.lfunG (y := .lit (.int .i64 (List.length t6.2 : Int))) hk rfl rfl rfl rfl rfl rfl rfl rfl (fun hc => FW.f_len (R := r_ApiValue_cells) (f := ApiValue.cells) (l := t6.2) r_ApiValue_cells_eq Try.underlying31 hk hc rfl) ?_; clear hk; intro a w hk
   refine FW.lfunG (y := .lit (.int .i64 t2.1)) hk rfl rfl rfl rfl rfl rfl rfl rfl (fun hc => FW.f_move hk hc rfl) ?_; clear hk; intro a w hk
   refine FW.lfunG (y := .lit (.bool (!decide ((List.length t6.2 : Int) = t2.1)))) hk rfl rfl rfl rfl rfl rfl rfl rfl (fun hc => (FW.f_pure (FW.p_neq hk.kn hc rfl rfl))) ?_; clear hk; intro a w hk
   refine FW.lfun (y := .lit (.bool (((decide (t6.1.E = 0)) && (decide (0 ≤ t2.1))) && (!decide ((List.length t6.2 : Int) = t2.1))))) hk rfl rfl rfl rfl ((FW.f_pure (FW.p_pick_and hk.kn FW.h0 rfl rfl))) ?_; clear hk; intro a w hk
   refine FW.lend (hK16 _ _ ?_); clear hK16 K'
   refine FW.wcondF (b := (((decide (t6.1.E = 0)) && (decide (0 ≤ t2.1))) && (!decide ((List.length t6.2 : Int) = t2.1)))) hk h rfl (fun h hb => ?_) (fun h hb => ?_)
   ·skip
    refine FW.wreg ?_; intro K' hK17
    refine FW.lfun (y := .agg ((Offshootref12State.cells v0))) hk rfl rfl rfl rfl (FW.f_loadBlk hk FW.h0 (j := 1) rfl rfl Try.underlying64 rfl rfl rfl rfl) ?_; clear hk; intro a w hk
    obtain ⟨t7, hr_t7, h⟩ := FW.bnd h
    refine FW.lfun (y := .agg ((Offshootref12State.cells t7))) hk rfl rfl rfl rfl (FW.f_call hk FW.h0 rfl rfl Try.func28 rfl (by kernel_rfl) (offshootref12_State_fail.ok v0 120 _ hr_t7)) ?_; clear hk; intro a w hk
    refine FW.lfun (y := .agg ((ApiPred.cells (⟨[], [], []⟩ : ApiPred)))) hk rfl rfl rfl rfl (FW.f_buildN [] hk FW.h0 rfl rfl rfl) ?_; clear hk; intro a w hk
    refine FW.l_store (I' := [FW.blk bx5 36 ((ApiPred.cells (⟨(List.getD v0.L (Int.toNat v0.I) default).S, t6.2, []⟩ : ApiPred))), FW.blk bx4 64 ((Offshootref12State.cells v0)), FW.blk bx3 36 ((ApiPred.cells (⟨[], [], []⟩ : ApiPred))), FW.blk bx2 64 ((Offshootref12State.cells t7)), FW.blk bx1 64 ((Offshootref12State.cells (⟨t6.1.L, t6.1.I, v0.Deep, t6.1.Steps, t6.1.At, t6.1.E⟩ : Offshootref12State)))]) (cs' := (Offshootref12State.cells t7)) (j := 3) hk rfl rfl rfl rfl rfl (by kernel_rfl) rfl rfl ?_; clear hk; intro w hk
    refine FW.l_store (I' := [FW.blk bx5 36 ((ApiPred.cells (⟨(List.getD v0.L (Int.toNat v0.I) default).S, t6.2, []⟩ : ApiPred))), FW.blk bx4 64 ((Offshootref12State.cells v0)), FW.blk bx3 36 ((ApiPred.cells (⟨[], [], []⟩ : ApiPred))), FW.blk bx2 64 ((Offshootref12State.cells t7)), FW.blk bx1 64 ((Offshootref12State.cells (⟨t6.1.L, t6.1.I, v0.Deep, t6.1.Steps, t6.1.At, t6.1.E⟩ : Offshootref12State)))]) (cs' := (ApiPred.cells (⟨[], [], []⟩ : ApiPred))) (j := 2) hk rfl rfl rfl rfl rfl (by kernel_rfl) rfl rfl ?_; clear hk; intro w hk
    refine FW.lend (hK17 _ _ ?_); clear hK17 K'
    refine wp_ret ?_
    (repeat first | refine FW.then_ret ?_ | refine FW.block_ret ?_)
    obtain rfl := Option.some.inj h
    exact FW.fretR2 hk rfl (FW.rcell hk rfl (j := 3) rfl Try.underlying64 rfl (by kernel_rfl)) (FW.rcell hk rfl (j := 2) rfl Try.underlying36 rfl (by kernel_rfl))
   ·skip
    refine wp_skip ?_
    (repeat first | refine FW.then_normal ?_ | refine FW.block_normal ?_); refine hK15 _ _ ?_
    refine FW.wseqJ (fun a w => ∃ (y5 : ApiPred) (y4 : Offshootref12State) (y1 : Offshootref12State), FW.S M w0 a w 166 [FW.blk bx5 36 ((ApiPred.cells y5)), FW.blk bx4 64 ((Offshootref12State.cells y4)), FW.blk bx3 36 ((ApiPred.cells (⟨[], [], []⟩ : ApiPred))), FW.blk bx2 64 ((Offshootref12State.cells (⟨[], 0, 0, 0, 0, 0⟩ : Offshootref12State))), FW.blk bx1 64 ((Offshootref12State.cells y1))] [(1, [], .lit (.pointer (some ⟨bx1, 0, none⟩))), (2, [], .lit (.pointer (some ⟨bx2, 0, none⟩))), (3, [], .lit (.pointer (some ⟨bx3, 0, none⟩))), (4, [], .lit (.pointer (some ⟨bx4, 0, none⟩))), (7, [], .lit (.pointer (some ⟨bx5, 0, none⟩)))] ∧ offshootref12_State_pred.j1 s_offshootref12_State_pred K y5 y4 y1 = some r) ?_ ?_
    ·clear hk h
     rintro a w ⟨y5, y4, y1, hk, h⟩
     unfold offshootref12_State_pred.j1 at h
     refine FW.wreg ?_; intro K' hK19
     refine FW.lfun (y := .lit (.pointer (some ⟨bx4, 2, none⟩))) hk rfl rfl rfl rfl (FW.f_fieldPtr hk FW.h0 rfl Try.underlying64 rfl (by kernel_rfl) rfl) ?_; clear hk; intro a w hk
     refine FW.lfun (y := .lit (.int .i64 y4.Deep)) hk rfl rfl rfl rfl (FW.f_loadBlk1 hk FW.h0 (j := 1) rfl rfl Try.underlying3 rfl rfl) ?_; clear hk; intro a w hk
     refine FW.lfun (y := .lit (.pointer (some ⟨bx1, 2, none⟩))) hk rfl rfl rfl rfl (FW.f_fieldPtr hk FW.h0 rfl Try.underlying64 rfl (by kernel_rfl) rfl) ?_; clear hk; intro a w hk
     refine FW.l_store (I' := [FW.blk bx5 36 ((ApiPred.cells y5)), FW.blk bx4 64 ((Offshootref12State.cells y4)), FW.blk bx3 36 ((ApiPred.cells (⟨[], [], []⟩ : ApiPred))), FW.blk bx2 64 ((Offshootref12State.cells (⟨[], 0, 0, 0, 0, 0⟩ : Offshootref12State))), FW.blk bx1 64 ((Offshootref12State.cells (⟨y1.L, y1.I, y4.Deep, y1.Steps, y1.At, y1.E⟩ : Offshootref12State)))]) (cs' := (Offshootref12State.cells (⟨y1.L, y1.I, y4.Deep, y1.Steps, y1.At, y1.E⟩ : Offshootref12State))) (j := 4) hk rfl rfl rfl rfl rfl (by kernel_rfl) rfl rfl ?_; clear hk; intro w hk
     refine FW.lend (hK19 _ _ ?_); clear hK19 K'
     refine FW.wdrawE (.next [true, true, false, false] 2 [true, true, false, false] (.next [false, true, false, false] 3 [true, true, true, false] (.leaf [false, false, false, false]))) [(164, [], .agg ((Offshootref12State.cells (⟨y1.L, y1.I, y4.Deep, y1.Steps, y1.At, y1.E⟩ : Offshootref12State)))), (165, [], .agg ((ApiPred.cells y5))), (166, [], .lit undef), (166, [], .lit undef)] (by kernel_rfl) (by kernel_rfl) (by kernel_rfl) (by kernel_rfl) hk ?_; clear hk
     refine FW.gnext0 ?_ rfl rfl rfl ?_
     ·skip
      refine FW.gfun (y := .agg ((Offshootref12State.cells (⟨y1.L, y1.I, y4.Deep, y1.Steps, y1.At, y1.E⟩ : Offshootref12State)))) rfl rfl rfl rfl (fun a w hk => FW.f_loadBlk hk FW.h0 (j := 4) rfl rfl Try.underlying64 rfl rfl rfl rfl) ?_
      refine FW.gfun (y := .agg ((ApiPred.cells y5))) rfl rfl rfl rfl (fun a w hk => FW.f_loadBlk hk FW.h0 (j := 0) rfl rfl Try.underlying36 rfl rfl rfl rfl) ?_
      refine FW.gskip0 rfl ?_
      refine FW.gskip0 rfl ?_
      exact FW.gend
     ·skip
      intro σD a w opsD QD hk hQ hX
      refine FW.l_store (I' := [FW.blk bx5 36 ((ApiPred.cells y5)), FW.blk bx4 64 ((Offshootref12State.cells y4)), FW.blk bx3 36 ((ApiPred.cells (⟨[], [], []⟩ : ApiPred))), FW.blk bx2 64 ((Offshootref12State.cells (⟨y1.L, y1.I, y4.Deep, y1.Steps, y1.At, y1.E⟩ : Offshootref12State))), FW.blk bx1 64 ((Offshootref12State.cells (⟨y1.L, y1.I, y4.Deep, y1.Steps, y1.At, y1.E⟩ : Offshootref12State)))]) (cs' := (Offshootref12State.cells (⟨y1.L, y1.I, y4.Deep, y1.Steps, y1.At, y1.E⟩ : Offshootref12State))) (j := 3) hk rfl rfl rfl rfl rfl (by kernel_rfl) rfl rfl ?_; clear hk; intro w hk
      refine hQ _ a w ?_ hk; clear hk hQ hX
      refine ⟨[(164, [], .agg ((Offshootref12State.cells (⟨y1.L, y1.I, y4.Deep, y1.Steps, y1.At, y1.E⟩ : Offshootref12State)))), (165, [], .agg ((ApiPred.cells y5))), (166, [], .lit undef), (166, [], .lit undef)], And.intro rfl (And.intro rfl (trivial)), rfl, ?_⟩
      refine FW.gnext0 ?_ rfl rfl rfl ?_
      ·skip
       refine FW.gskip rfl rfl ?_
       refine FW.gfun (y := .agg ((ApiPred.cells y5))) rfl rfl rfl rfl (fun a w hk => FW.f_loadBlk hk FW.h0 (j := 0) rfl rfl Try.underlying36 rfl rfl rfl rfl) ?_
       refine FW.gskip0 rfl ?_
       refine FW.gskip0 rfl ?_
       exact FW.gend
      ·skip
       intro σD a w opsD QD hk hQ hX
       refine FW.l_store (I' := [FW.blk bx5 36 ((ApiPred.cells y5)), FW.blk bx4 64 ((Offshootref12State.cells y4)), FW.blk bx3 36 ((ApiPred.cells y5)), FW.blk bx2 64 ((Offshootref12State.cells (⟨y1.L, y1.I, y4.Deep, y1.Steps, y1.At, y1.E⟩ : Offshootref12State))), FW.blk bx1 64 ((Offshootref12State.cells (⟨y1.L, y1.I, y4.Deep, y1.Steps, y1.At, y1.E⟩ : Offshootref12State)))]) (cs' := (ApiPred.cells y5)) (j := 2) hk rfl rfl rfl rfl rfl (by kernel_rfl) rfl rfl ?_; clear hk; intro w hk
       refine hQ _ a w ?_ hk; clear hk hQ hX
       refine ⟨[(164, [], .agg ((Offshootref12State.cells (⟨y1.L, y1.I, y4.Deep, y1.Steps, y1.At, y1.E⟩ : Offshootref12State)))), (165, [], .agg ((ApiPred.cells y5))), (166, [], .lit undef), (166, [], .lit undef)], And.intro rfl (And.intro rfl (And.intro rfl (trivial))), rfl, ?_⟩
       refine FW.glast ?_ ?_
       ·skip
        refine FW.gskip rfl rfl ?_
        refine FW.gskip rfl rfl ?_
        refine FW.gskip0 rfl ?_
        refine FW.gskip0 rfl ?_
        exact FW.gend
       ·skip
        intro a w hk; simp only [FW.stD, cond_true] at hk
        refine wp_ret ?_
        (repeat first | refine FW.then_ret ?_ | refine FW.block_ret ?_)
        obtain rfl := Option.some.inj h
        exact FW.fretR2 hk rfl (FW.rcell hk rfl (j := 3) rfl Try.underlying64 rfl (by kernel_rfl)) (FW.rcell hk rfl (j := 2) rfl Try.underlying36 rfl (by kernel_rfl))
    ·intro K' hK18
     refine wp_block ?_
     refine FW.wloop (T := Nat × ApiPred × Offshootref12State × Offshootref12State) (fun x a w => match x with | (kl1, y5, y4, y1) => FW.S M w0 a w 166 [FW.blk bx5 36 ((ApiPred.cells y5)), FW.blk bx4 64 ((Offshootref12State.cells y4)), FW.blk bx3 36 ((ApiPred.cells (⟨[], [], []⟩ : ApiPred))), FW.blk bx2 64 ((Offshootref12State.cells (⟨[], 0, 0, 0, 0, 0⟩ : Offshootref12State))), FW.blk bx1 64 ((Offshootref12State.cells y1))] [(1, [], .lit (.pointer (some ⟨bx1, 0, none⟩))), (2, [], .lit (.pointer (some ⟨bx2, 0, none⟩))), (3, [], .lit (.pointer (some ⟨bx3, 0, none⟩))), (4, [], .lit (.pointer (some ⟨bx4, 0, none⟩))), (7, [], .lit (.pointer (some ⟨bx5, 0, none⟩)))] ∧ offshootref12_State_pred.l1 s_offshootref12_State_pred K kl1 y5 y4 y1 = some r) (fun x => x.1) (K, (⟨(List.getD v0.L (Int.toNat v0.I) default).S, t6.2, []⟩ : ApiPred), v0, (⟨t6.1.L, t6.1.I, v0.Deep, t6.1.Steps, t6.1.At, t6.1.E⟩ : Offshootref12State)) ⟨hk.sub ⟨rfl, rfl, rfl, rfl, rfl, trivial⟩, h⟩ ?_
     clear hk h
     rintro ⟨kl1, y5, y4, y1⟩ a w ⟨hk, h⟩ K' hK21
     cases kl1 with
     | zero => simp [offshootref12_State_pred.l1] at h
     | succ kl1 =>
     rw [offshootref12_State_pred.l1.eq_2] at h
     refine FW.wseq ?_; intro K' hK22
     refine FW.wreg ?_; intro K' hK23
     refine FW.lfun (y := .agg ((Offshootref12State.cells y1))) hk rfl rfl rfl rfl (FW.f_loadBlk hk FW.h0 (j := 4) rfl rfl Try.underlying64 rfl rfl rfl rfl) ?_; clear hk; intro a w hk
     obtain ⟨t8, hr_t8, h⟩ := FW.bnd h
     refine FW.lfun (y := .lit (.bool t8)) hk rfl rfl rfl rfl (FW.f_call hk FW.h0 rfl rfl Try.func51 rfl (by kernel_rfl) (offshootref12_State_is.ok y1 ([46] : List UInt8) _ hr_t8)) ?_; clear hk; intro a w hk
     refine FW.lend (hK23 _ _ ?_); clear hK23 K'
     refine FW.wcondF (b := t8) hk h rfl (fun h hb => ?_) (fun h hb => ?_)
     ·skip
      refine wp_skip ?_
      (repeat first | refine FW.then_normal ?_ | refine FW.block_normal ?_); refine hK22 _ _ ?_
      refine wp_block ?_
      refine FW.wreg ?_; intro K' hK24
      refine FW.lfun (y := .lit (.pointer (some ⟨bx1, 1, none⟩))) hk rfl rfl rfl rfl (FW.f_fieldPtr hk FW.h0 rfl Try.underlying64 rfl (by kernel_rfl) rfl) ?_; clear hk; intro a w hk
      refine FW.lfun (y := .lit (.int .i64 y1.I)) hk rfl rfl rfl rfl (FW.f_loadBlk1 hk FW.h0 (j := 4) rfl rfl Try.underlying3 rfl rfl) ?_; clear hk; intro a w hk
      refine FW.lfun (y := .lit (.int .i64 (IntKind.wrap .i64 (y1.I + 1)))) hk rfl rfl rfl rfl ((FW.f_pure (FW.p_add hk.kn FW.h0 rfl rfl))) ?_; clear hk; intro a w hk
      refine FW.lfun (y := .lit (.pointer (some ⟨bx1, 1, none⟩))) hk rfl rfl rfl rfl (FW.f_fieldPtr hk FW.h0 rfl Try.underlying64 rfl (by kernel_rfl) rfl) ?_; clear hk; intro a w hk
      refine FW.l_store (I' := [FW.blk bx5 36 ((ApiPred.cells y5)), FW.blk bx4 64 ((Offshootref12State.cells y4)), FW.blk bx3 36 ((ApiPred.cells (⟨[], [], []⟩ : ApiPred))), FW.blk bx2 64 ((Offshootref12State.cells (⟨[], 0, 0, 0, 0, 0⟩ : Offshootref12State))), FW.blk bx1 64 ((Offshootref12State.cells (⟨y1.L, (IntKind.wrap .i64 (y1.I + 1)), y1.Deep, y1.Steps, y1.At, y1.E⟩ : Offshootref12State)))]) (cs' := (Offshootref12State.cells (⟨y1.L, (IntKind.wrap .i64 (y1.I + 1)), y1.Deep, y1.Steps, y1.At, y1.E⟩ : Offshootref12State))) (j := 4) hk rfl rfl rfl rfl rfl (by kernel_rfl) rfl rfl ?_; clear hk; intro w hk
      refine FW.lend (hK24 _ _ ?_); clear hK24 K'
      refine FW.wreg ?_; intro K' hK25
      refine FW.lfun (y := .agg ((Offshootref12State.cells (⟨y1.L, (IntKind.wrap .i64 (y1.I + 1)), y1.Deep, y1.Steps, y1.At, y1.E⟩ : Offshootref12State)))) hk rfl rfl rfl rfl (FW.f_loadBlk hk FW.h0 (j := 4) rfl rfl Try.underlying64 rfl rfl rfl rfl) ?_; clear hk; intro a w hk
      obtain ⟨t9, hr_t9, h⟩ := FW.bnd h
      refine FW.lfun (y := .agg ((Offshootref12State.cells t9))) hk rfl rfl rfl rfl (FW.f_call hk FW.h0 rfl rfl Try.func79 rfl (by kernel_rfl) (offshootref12_State_into.ok (⟨y1.L, (IntKind.wrap .i64 (y1.I + 1)), y1.Deep, y1.Steps, y1.At, y1.E⟩ : Offshootref12State) _ hr_t9)) ?_; clear hk; intro a w hk
      refine FW.l_store (I' := [FW.blk bx5 36 ((ApiPred.cells y5)), FW.blk bx4 64 ((Offshootref12State.cells y4)), FW.blk bx3 36 ((ApiPred.cells (⟨[], [], []⟩ : ApiPred))), FW.blk bx2 64 ((Offshootref12State.cells (⟨[], 0, 0, 0, 0, 0⟩ : Offshootref12State))), FW.blk bx1 64 ((Offshootref12State.cells t9))]) (cs' := (Offshootref12State.cells t9)) (j := 4) hk rfl rfl rfl rfl rfl (by kernel_rfl) rfl rfl ?_; clear hk; intro w hk
      refine FW.lend (hK25 _ _ ?_); clear hK25 K'
      refine FW.wreg ?_; intro K' hK26
      refine FW.lfun (y := .agg ((Offshootref12State.cells t9))) hk rfl rfl rfl rfl (FW.f_loadBlk hk FW.h0 (j := 4) rfl rfl Try.underlying64 rfl rfl rfl rfl) ?_; clear hk; intro a w hk
      refine FW.l_alloc (zs := (Offshootref12State.cells (⟨[], 0, 0, 0, 0, 0⟩ : Offshootref12State))) [] hk rfl rfl rfl rfl ?_; clear hk; intro bx6 a w hk
      refine FW.l_store (I' := [FW.blk bx6 64 ((Offshootref12State.cells t9)), FW.blk bx5 36 ((ApiPred.cells y5)), FW.blk bx4 64 ((Offshootref12State.cells y4)), FW.blk bx3 36 ((ApiPred.cells (⟨[], [], []⟩ : ApiPred))), FW.blk bx2 64 ((Offshootref12State.cells (⟨[], 0, 0, 0, 0, 0⟩ : Offshootref12State))), FW.blk bx1 64 ((Offshootref12State.cells t9))]) (cs' := (Offshootref12State.cells t9)) (j := 0) hk rfl rfl rfl rfl rfl (by kernel_rfl) rfl rfl ?_; clear hk; intro w hk
      refine FW.lend (hK26 _ _ ?_); clear hK26 K'
      refine FW.wseqJ (fun a w => ∃ (y6 : Offshootref12State) (y1 : Offshootref12State), FW.S M w0 a w 166 [FW.blk bx6 64 ((Offshootref12State.cells y6)), FW.blk bx5 36 ((ApiPred.cells y5)), FW.blk bx4 64 ((Offshootref12State.cells y4)), FW.blk bx3 36 ((ApiPred.cells (⟨[], [], []⟩ : ApiPred))), FW.blk bx2 64 ((Offshootref12State.cells (⟨[], 0, 0, 0, 0, 0⟩ : Offshootref12State))), FW.blk bx1 64 ((Offshootref12State.cells y1))] [(1, [], .lit (.pointer (some ⟨bx1, 0, none⟩))), (2, [], .lit (.pointer (some ⟨bx2, 0, none⟩))), (3, [], .lit (.pointer (some ⟨bx3, 0, none⟩))), (4, [], .lit (.pointer (some ⟨bx4, 0, none⟩))), (7, [], .lit (.pointer (some ⟨bx5, 0, none⟩))), (8, [], .lit (.pointer (some ⟨bx6, 0, none⟩)))] ∧ offshootref12_State_pred.j2 s_offshootref12_State_pred (offshootref12_State_pred.l1 s_offshootref12_State_pred K kl1) K y4 y5 y6 y1 = some r) ?_ ?_
      ·clear hk h
       rintro a w ⟨y6, y1, hk, h⟩
       unfold offshootref12_State_pred.j2 at h
       refine FW.wseq ?_; intro K' hK28
       refine FW.wreg ?_; intro K' hK29
       refine FW.lfun (y := .lit (.pointer (some ⟨bx1, 5, none⟩))) hk rfl rfl rfl rfl (FW.f_fieldPtr hk FW.h0 rfl Try.underlying64 rfl (by kernel_rfl) rfl) ?_; clear hk; intro a w hk
       refine FW.lfun (y := .lit (.int .i64 y1.E)) hk rfl rfl rfl rfl (FW.f_loadBlk1 hk FW.h0 (j := 5) rfl rfl Try.underlying23 rfl rfl) ?_; clear hk; intro a w hk
       refine FW.lfun (y := .lit (.bool (!decide (y1.E = 0)))) hk rfl rfl rfl rfl ((FW.f_pure (FW.p_neq hk.kn FW.h0 rfl rfl))) ?_; clear hk; intro a w hk
       refine FW.lend (hK29 _ _ ?_); clear hK29 K'
       refine FW.wcondF (b := (!decide (y1.E = 0))) hk h rfl (fun h hb => ?_) (fun h hb => ?_)
       ·skip
        refine wp_exit ?_; (repeat first | refine FW.then_exit ?_ | refine FW.block_exit_ne rfl ?_); refine FW.block_exit ?_
        (repeat first | refine FW.then_normal ?_ | refine FW.block_normal ?_); exact hK18 _ _ ⟨y5, y4, y1, (hk.drop 0).sub ⟨rfl, rfl, rfl, rfl, rfl, trivial⟩, h⟩
       ·skip
        refine wp_skip ?_
        (repeat first | refine FW.then_normal ?_ | refine FW.block_normal ?_); refine hK28 _ _ ?_
        refine FW.wreg ?_; intro K' hK30
        refine FW.lfun (y := .lit (.pointer (some ⟨bx1, 0, none⟩))) hk rfl rfl rfl rfl (FW.f_fieldPtr hk FW.h0 rfl Try.underlying64 rfl (by kernel_rfl) rfl) ?_; clear hk; intro a w hk
        refine FW.lfun (y := .row (r_ApiWord_cells y1.L)) hk rfl rfl rfl rfl (FW.f_loadBlk1 hk FW.h0 (j := 5) rfl rfl Try.underlying60 rfl rfl) ?_; clear hk; intro a w hk
        refine FW.lfun (y := .lit (.pointer (some ⟨bx1, 1, none⟩))) hk rfl rfl rfl rfl (FW.f_fieldPtr hk FW.h0 rfl Try.underlying64 rfl (by kernel_rfl) rfl) ?_; clear hk; intro a w hk
        refine FW.lfun (y := .lit (.int .i64 y1.I)) hk rfl rfl rfl rfl (FW.f_loadBlk1 hk FW.h0 (j := 5) rfl rfl Try.underlying3 rfl rfl) ?_; clear hk; intro a w hk
        obtain ⟨hc4, h⟩ := FW.chk h
        refine FW.lfun (y := .ref (ApiWord.cells (List.getD y1.L (Int.toNat y1.I) default))) hk rfl rfl rfl rfl (FW.f_indexAddr (R := r_ApiWord_cells) (f := ApiWord.cells) (l := y1.L) (sz := 5) r_ApiWord_cells_eq (fun _ => rfl) hk FW.h0 rfl rfl Try.underlying60 (by kernel_rfl) hc4) ?_; clear hk; intro a w hk
        refine FW.lfun (y := .ref (List.drop 1 (ApiWord.cells (List.getD y1.L (Int.toNat y1.I) default)))) hk rfl rfl rfl rfl (FW.f_fieldAddr hk FW.h0 rfl Try.underlying66 rfl (by kernel_rfl) rfl) ?_; clear hk; intro a w hk
        refine FW.lfun (y := .lit (.string (FW.B ((List.getD y1.L (Int.toNat y1.I) default).S)))) hk rfl rfl rfl rfl (FW.f_load1 hk FW.h0 rfl rfl Try.underlying9 rfl) ?_; clear hk; intro a w hk
        refine FW.lfun (y := .lit (.string (FW.B ((List.getD y1.L (Int.toNat y1.I) default).S)))) hk rfl rfl rfl rfl (FW.f_assign hk FW.h0 rfl) ?_; clear hk; intro a w hk
        refine FW.lend (hK30 _ _ ?_); clear hK30 K'
        refine FW.wreg ?_; intro K' hK31
        refine FW.lfun (y := .lit (.pointer (some ⟨bx1, 1, none⟩))) hk rfl rfl rfl rfl (FW.f_fieldPtr hk FW.h0 rfl Try.underlying64 rfl (by kernel_rfl) rfl) ?_; clear hk; intro a w hk
        refine FW.lfun (y := .lit (.int .i64 y1.I)) hk rfl rfl rfl rfl (FW.f_loadBlk1 hk FW.h0 (j := 5) rfl rfl Try.underlying3 rfl rfl) ?_; clear hk; intro a w hk
        refine FW.lfun (y := .lit (.int .i64 (IntKind.wrap .i64 (y1.I + 1)))) hk rfl rfl rfl rfl ((FW.f_pure (FW.p_add hk.kn FW.h0 rfl rfl))) ?_; clear hk; intro a w hk
        refine FW.lfun (y := .lit (.pointer (some ⟨bx1, 1, none⟩))) hk rfl rfl rfl rfl (FW.f_fieldPtr hk FW.h0 rfl Try.underlying64 rfl (by kernel_rfl) rfl) ?_; clear hk; intro a w hk
        refine FW.l_store (I' := [FW.blk bx6 64 ((Offshootref12State.cells y6)), FW.blk bx5 36 ((ApiPred.cells y5)), FW.blk bx4 64 ((Offshootref12State.cells y4)), FW.blk bx3 36 ((ApiPred.cells (⟨[], [], []⟩ : ApiPred))), FW.blk bx2 64 ((Offshootref12State.cells (⟨[], 0, 0, 0, 0, 0⟩ : Offshootref12State))), FW.blk bx1 64 ((Offshootref12State.cells (⟨y1.L, (IntKind.wrap .i64 (y1.I + 1)), y1.Deep, y1.Steps, y1.At, y1.E⟩ : Offshootref12State)))]) (cs' := (Offshootref12State.cells (⟨y1.L, (IntKind.wrap .i64 (y1.I + 1)), y1.Deep, y1.Steps, y1.At, y1.E⟩ : Offshootref12State))) (j := 5) hk rfl rfl rfl rfl rfl (by kernel_rfl) rfl rfl ?_; clear hk; intro w hk
        refine FW.lend (hK31 _ _ ?_); clear hK31 K'
        refine FW.wreg ?_; intro K' hK32
        refine FW.lfun (y := .agg ((Offshootref12State.cells (⟨y1.L, (IntKind.wrap .i64 (y1.I + 1)), y1.Deep, y1.Steps, y1.At, y1.E⟩ : Offshootref12State)))) hk rfl rfl rfl rfl (FW.f_loadBlk hk FW.h0 (j := 5) rfl rfl Try.underlying64 rfl rfl rfl rfl) ?_; clear hk; intro a w hk
        obtain ⟨t10, hr_t10, h⟩ := FW.bnd h
        refine FW.lfun (y := .agg ((Offshootref12State.cells t10))) hk rfl rfl rfl rfl (FW.f_call hk FW.h0 rfl rfl Try.func26 rfl (by kernel_rfl) (offshootref12_State_sign.ok (⟨y1.L, (IntKind.wrap .i64 (y1.I + 1)), y1.Deep, y1.Steps, y1.At, y1.E⟩ : Offshootref12State) ([40] : List UInt8) _ hr_t10)) ?_; clear hk; intro a w hk
        refine FW.l_store (I' := [FW.blk bx6 64 ((Offshootref12State.cells y6)), FW.blk bx5 36 ((ApiPred.cells y5)), FW.blk bx4 64 ((Offshootref12State.cells y4)), FW.blk bx3 36 ((ApiPred.cells (⟨[], [], []⟩ : ApiPred))), FW.blk bx2 64 ((Offshootref12State.cells (⟨[], 0, 0, 0, 0, 0⟩ : Offshootref12State))), FW.blk bx1 64 ((Offshootref12State.cells t10))]) (cs' := (Offshootref12State.cells t10)) (j := 5) hk rfl rfl rfl rfl rfl (by kernel_rfl) rfl rfl ?_; clear hk; intro w hk
        refine FW.lend (hK32 _ _ ?_); clear hK32 K'
        refine FW.wseqJ (fun a w => ∃ (y5 : ApiPred) (y1 : Offshootref12State), FW.S M w0 a w 166 [FW.blk bx5 36 ((ApiPred.cells y5)), FW.blk bx4 64 ((Offshootref12State.cells y4)), FW.blk bx3 36 ((ApiPred.cells (⟨[], [], []⟩ : ApiPred))), FW.blk bx2 64 ((Offshootref12State.cells (⟨[], 0, 0, 0, 0, 0⟩ : Offshootref12State))), FW.blk bx1 64 ((Offshootref12State.cells y1))] [(1, [], .lit (.pointer (some ⟨bx1, 0, none⟩))), (2, [], .lit (.pointer (some ⟨bx2, 0, none⟩))), (3, [], .lit (.pointer (some ⟨bx3, 0, none⟩))), (4, [], .lit (.pointer (some ⟨bx4, 0, none⟩))), (7, [], .lit (.pointer (some ⟨bx5, 0, none⟩)))] ∧ offshootref12_State_pred.j3 s_offshootref12_State_pred (offshootref12_State_pred.l1 s_offshootref12_State_pred K kl1) K y4 y5 y1 = some r) ?_ ?_
        ·clear hk h
         rintro a w ⟨y5, y1, hk, h⟩
         unfold offshootref12_State_pred.j3 at h
         refine FW.wreg1 ?_
         refine FW.lfun (y := .agg ((Offshootref12State.cells y1))) hk rfl rfl rfl rfl (FW.f_loadBlk hk FW.h0 (j := 4) rfl rfl Try.underlying64 rfl rfl rfl rfl) ?_; clear hk; intro a w hk
         obtain ⟨t11, hr_t11, h⟩ := FW.bnd h
         refine FW.lfun (y := .agg ((Offshootref12State.cells t11))) hk rfl rfl rfl rfl (FW.f_call hk FW.h0 rfl rfl Try.func26 rfl (by kernel_rfl) (offshootref12_State_sign.ok y1 ([41] : List UInt8) _ hr_t11)) ?_; clear hk; intro a w hk
         refine FW.l_store (I' := [FW.blk bx5 36 ((ApiPred.cells y5)), FW.blk bx4 64 ((Offshootref12State.cells y4)), FW.blk bx3 36 ((ApiPred.cells (⟨[], [], []⟩ : ApiPred))), FW.blk bx2 64 ((Offshootref12State.cells (⟨[], 0, 0, 0, 0, 0⟩ : Offshootref12State))), FW.blk bx1 64 ((Offshootref12State.cells t11))]) (cs' := (Offshootref12State.cells t11)) (j := 4) hk rfl rfl rfl rfl rfl (by kernel_rfl) rfl rfl ?_; clear hk; intro w hk
         refine wpList_nil ?_
         (repeat first | refine FW.then_normal ?_ | refine FW.block_normal ?_); exact hK21 (kl1, y5, y4, t11) _ _ (Nat.lt_succ_self _) ⟨hk.sub ⟨rfl, rfl, rfl, rfl, rfl, trivial⟩, h⟩
        ·intro K' hK33
         refine FW.wreg ?_; intro K' hK35
         refine FW.lfun (y := .lit (.string (FW.B ((List.getD y1.L (Int.toNat y1.I) default).S)))) hk rfl rfl rfl rfl (FW.f_move hk FW.h0 rfl) ?_; clear hk; intro a w hk
         refine FW.lend (hK35 _ _ ?_); clear hK35 K'
         refine wp_block ?_
         refine FW.wseqJ (fun a w => ∃ (y1 : Offshootref12State) (v9 : List UInt8) (v127 : List UInt8) (v133 : Bool), FW.S M w0 a w 166 [FW.blk bx6 64 ((Offshootref12State.cells y6)), FW.blk bx5 36 ((ApiPred.cells y5)), FW.blk bx4 64 ((Offshootref12State.cells y4)), FW.blk bx3 36 ((ApiPred.cells (⟨[], [], []⟩ : ApiPred))), FW.blk bx2 64 ((Offshootref12State.cells (⟨[], 0, 0, 0, 0, 0⟩ : Offshootref12State))), FW.blk bx1 64 ((Offshootref12State.cells y1))] [(1, [], .lit (.pointer (some ⟨bx1, 0, none⟩))), (2, [], .lit (.pointer (some ⟨bx2, 0, none⟩))), (3, [], .lit (.pointer (some ⟨bx3, 0, none⟩))), (4, [], .lit (.pointer (some ⟨bx4, 0, none⟩))), (7, [], .lit (.pointer (some ⟨bx5, 0, none⟩))), (8, [], .lit (.pointer (some ⟨bx6, 0, none⟩))), (9, [], .lit (.string (FW.B v9))), (127, [], .lit (.string (FW.B v127))), (133, [], .lit (.bool v133))] ∧ offshootref12_State_pred.j4 s_offshootref12_State_pred (offshootref12_State_pred.l1 s_offshootref12_State_pred K kl1) K y4 y5 y6 y1 v9 v127 v133 = some r) ?_ ?_
         ·clear hk h
          rintro a w ⟨y1, v9, v127, v133, hk, h⟩
          unfold offshootref12_State_pred.j4 at h
          refine FW.wcondF (b := v133) hk h rfl (fun h hb => ?_) (fun h hb => ?_)
          ·skip
           refine FW.wreg ?_; intro K' hK37
           refine FW.lfun (y := .lit (.pointer (some ⟨bx1, 5, none⟩))) hk rfl rfl rfl rfl (FW.f_fieldPtr hk FW.h0 rfl Try.underlying64 rfl (by kernel_rfl) rfl) ?_; clear hk; intro a w hk
           refine FW.lfun (y := .lit (.int .i64 y1.E)) hk rfl rfl rfl rfl (FW.f_loadBlk1 hk FW.h0 (j := 5) rfl rfl Try.underlying23 rfl rfl) ?_; clear hk; intro a w hk
           refine FW.lfun (y := .lit (.bool (decide (y1.E = 0)))) hk rfl rfl rfl rfl ((FW.f_pure (FW.p_eql hk.kn FW.h0 rfl rfl))) ?_; clear hk; intro a w hk
           refine FW.lend (hK37 _ _ ?_); clear hK37 K'
           refine FW.wcondF (b := (decide (y1.E = 0))) hk h rfl (fun h hb => ?_) (fun h hb => ?_)
           ·skip
            refine FW.wreg ?_; intro K' hK38
            refine FW.lfun (y := .agg ((Offshootref12State.cells y1))) hk rfl rfl rfl rfl (FW.f_loadBlk hk FW.h0 (j := 5) rfl rfl Try.underlying64 rfl rfl rfl rfl) ?_; clear hk; intro a w hk
            obtain ⟨t12, hr_t12, h⟩ := FW.bnd h
            refine FW.lfun (y := .tup [.agg ((Offshootref12State.cells t12.1)), .agg ((ApiPred.cells t12.2))]) hk rfl rfl rfl rfl (FW.f_call hk FW.h0 rfl rfl Try.func78 rfl (by kernel_rfl) (hs_offshootref12_State_pred y1 _ hr_t12)) ?_; clear hk; intro a w hk
            refine FW.lfun (y := .tup [.agg ((Offshootref12State.cells t12.1)), .agg ((ApiPred.cells t12.2))]) hk rfl rfl rfl rfl (FW.f_move hk FW.h0 rfl) ?_; clear hk; intro a w hk
            refine FW.lfun (y := .agg ((Offshootref12State.cells t12.1))) hk rfl rfl rfl rfl (FW.f_extract hk FW.h0 rfl rfl) ?_; clear hk; intro a w hk
            refine FW.lfun (y := .agg ((ApiPred.cells t12.2))) hk rfl rfl rfl rfl (FW.f_extract hk FW.h0 rfl rfl) ?_; clear hk; intro a w hk
            refine FW.l_alloc (zs := (Offshootref12State.cells (⟨[], 0, 0, 0, 0, 0⟩ : Offshootref12State))) [] hk rfl rfl rfl rfl ?_; clear hk; intro bx7 a w hk
            refine FW.l_alloc (zs := (ApiPred.cells (⟨[], [], []⟩ : ApiPred))) [] hk rfl rfl rfl rfl ?_; clear hk; intro bx8 a w hk
            refine FW.l_store (I' := [FW.blk bx8 36 ((ApiPred.cells (⟨[], [], []⟩ : ApiPred))), FW.blk bx7 64 ((Offshootref12State.cells t12.1)), FW.blk bx6 64 ((Offshootref12State.cells y6)), FW.blk bx5 36 ((ApiPred.cells y5)), FW.blk bx4 64 ((Offshootref12State.cells y4)), FW.blk bx3 36 ((ApiPred.cells (⟨[], [], []⟩ : ApiPred))), FW.blk bx2 64 ((Offshootref12State.cells (⟨[], 0, 0, 0, 0, 0⟩ : Offshootref12State))), FW.blk bx1 64 ((Offshootref12State.cells y1))]) (cs' := (Offshootref12State.cells t12.1)) (j := 1) hk rfl rfl rfl rfl rfl (by kernel_rfl) rfl rfl ?_; clear hk; intro w hk
            refine FW.l_store (I' := [FW.blk bx8 36 ((ApiPred.cells t12.2)), FW.blk bx7 64 ((Offshootref12State.cells t12.1)), FW.blk bx6 64 ((Offshootref12State.cells y6)), FW.blk bx5 36 ((ApiPred.cells y5)), FW.blk bx4 64 ((Offshootref12State.cells y4)), FW.blk bx3 36 ((ApiPred.cells (⟨[], [], []⟩ : ApiPred))), FW.blk bx2 64 ((Offshootref12State.cells (⟨[], 0, 0, 0, 0, 0⟩ : Offshootref12State))), FW.blk bx1 64 ((Offshootref12State.cells y1))]) (cs' := (ApiPred.cells t12.2)) (j := 0) hk rfl rfl rfl rfl rfl (by kernel_rfl) rfl rfl ?_; clear hk; intro w hk
            refine FW.lend (hK38 _ _ ?_); clear hK38 K'
            refine FW.wreg ?_; intro K' hK39
            refine FW.lfun (y := .lit (.pointer (some ⟨bx1, 2, none⟩))) hk rfl rfl rfl rfl (FW.f_fieldPtr hk FW.h0 rfl Try.underlying64 rfl (by kernel_rfl) rfl) ?_; clear hk; intro a w hk
            refine FW.lfun (y := .lit (.int .i64 y1.Deep)) hk rfl rfl rfl rfl (FW.f_loadBlk1 hk FW.h0 (j := 7) rfl rfl Try.underlying3 rfl rfl) ?_; clear hk; intro a w hk
            refine FW.lfun (y := .lit (.int .i64 y1.Deep)) hk rfl rfl rfl rfl (FW.f_assign hk FW.h0 rfl) ?_; clear hk; intro a w hk
            refine FW.lend (hK39 _ _ ?_); clear hK39 K'
            refine FW.wreg ?_; intro K' hK40
            refine FW.lfun (y := .agg ((Offshootref12State.cells t12.1))) hk rfl rfl rfl rfl (FW.f_loadBlk hk FW.h0 (j := 1) rfl rfl Try.underlying64 rfl rfl rfl rfl) ?_; clear hk; intro a w hk
            refine FW.l_store (I' := [FW.blk bx8 36 ((ApiPred.cells t12.2)), FW.blk bx7 64 ((Offshootref12State.cells t12.1)), FW.blk bx6 64 ((Offshootref12State.cells y6)), FW.blk bx5 36 ((ApiPred.cells y5)), FW.blk bx4 64 ((Offshootref12State.cells y4)), FW.blk bx3 36 ((ApiPred.cells (⟨[], [], []⟩ : ApiPred))), FW.blk bx2 64 ((Offshootref12State.cells (⟨[], 0, 0, 0, 0, 0⟩ : Offshootref12State))), FW.blk bx1 64 ((Offshootref12State.cells t12.1))]) (cs' := (Offshootref12State.cells t12.1)) (j := 7) hk rfl rfl rfl rfl rfl (by kernel_rfl) rfl rfl ?_; clear hk; intro w hk
            refine FW.lend (hK40 _ _ ?_); clear hK40 K'
            refine FW.wreg ?_; intro K' hK41
            refine FW.lfun (y := .lit (.int .i64 y1.Deep)) hk rfl rfl rfl rfl (FW.f_move hk FW.h0 rfl) ?_; clear hk; intro a w hk
            refine FW.lfun (y := .lit (.pointer (some ⟨bx1, 2, none⟩))) hk rfl rfl rfl rfl (FW.f_fieldPtr hk FW.h0 rfl Try.underlying64 rfl (by kernel_rfl) rfl) ?_; clear hk; intro a w hk
            refine FW.l_store (I' := [FW.blk bx8 36 ((ApiPred.cells t12.2)), FW.blk bx7 64 ((Offshootref12State.cells t12.1)), FW.blk bx6 64 ((Offshootref12State.cells y6)), FW.blk bx5 36 ((ApiPred.cells y5)), FW.blk bx4 64 ((Offshootref12State.cells y4)), FW.blk bx3 36 ((ApiPred.cells (⟨[], [], []⟩ : ApiPred))), FW.blk bx2 64 ((Offshootref12State.cells (⟨[], 0, 0, 0, 0, 0⟩ : Offshootref12State))), FW.blk bx1 64 ((Offshootref12State.cells (⟨t12.1.L, t12.1.I, y1.Deep, t12.1.Steps, t12.1.At, t12.1.E⟩ : Offshootref12State)))]) (cs' := (Offshootref12State.cells (⟨t12.1.L, t12.1.I, y1.Deep, t12.1.Steps, t12.1.At, t12.1.E⟩ : Offshootref12State))) (j := 7) hk rfl rfl rfl rfl rfl (by kernel_rfl) rfl rfl ?_; clear hk; intro w hk
            refine FW.lend (hK41 _ _ ?_); clear hK41 K'
            refine FW.wreg1 ?_
            refine FW.lfun (y := .lit (.string (FW.B v9))) hk rfl rfl rfl rfl (FW.f_move hk FW.h0 rfl) ?_; clear hk; intro a w hk
            refine FW.lfun (y := .agg ((ApiPred.cells y5))) hk rfl rfl rfl rfl (FW.f_loadBlk hk FW.h0 (j := 3) rfl rfl Try.underlying36 rfl rfl rfl rfl) ?_; clear hk; intro a w hk
            refine FW.lfun (y := .agg ((ApiPred.cells t12.2))) hk rfl rfl rfl rfl (FW.f_loadBlk hk FW.h0 (j := 0) rfl rfl Try.underlying36 rfl rfl rfl rfl) ?_; clear hk; intro a w hk
            refine FW.l_buildSlice (f := ApiPred.cells) (l := ([y5, t12.2] : List ApiPred)) hk rfl rfl rfl Try.underlying34 rfl rfl rfl rfl (fun _ => rfl) rfl ?_; clear hk; intro bx9 a w hk
            replace hk := (FW.S.freezeR (I' := [FW.blk bx8 36 ((ApiPred.cells t12.2)), FW.blk bx7 64 ((Offshootref12State.cells t12.1)), FW.blk bx6 64 ((Offshootref12State.cells y6)), FW.blk bx5 36 ((ApiPred.cells y5)), FW.blk bx4 64 ((Offshootref12State.cells y4)), FW.blk bx3 36 ((ApiPred.cells (⟨[], [], []⟩ : ApiPred))), FW.blk bx2 64 ((Offshootref12State.cells (⟨[], 0, 0, 0, 0, 0⟩ : Offshootref12State))), FW.blk bx1 64 ((Offshootref12State.cells (⟨t12.1.L, t12.1.I, y1.Deep, t12.1.Steps, t12.1.At, t12.1.E⟩ : Offshootref12State)))]) r_ApiPred_cells_eq hk (j := 0) rfl (t := 152) rfl rfl).squash
            refine FW.lfun (y := .agg ((ApiPred.cells (⟨v9, [], ([y5, t12.2] : List ApiPred)⟩ : ApiPred)))) hk rfl rfl rfl rfl (FW.f_buildN [] hk FW.h0 rfl rfl rfl) ?_; clear hk; intro a w hk
            refine FW.l_store (I' := [FW.blk bx8 36 ((ApiPred.cells t12.2)), FW.blk bx7 64 ((Offshootref12State.cells t12.1)), FW.blk bx6 64 ((Offshootref12State.cells y6)), FW.blk bx5 36 ((ApiPred.cells (⟨v9, [], ([y5, t12.2] : List ApiPred)⟩ : ApiPred))), FW.blk bx4 64 ((Offshootref12State.cells y4)), FW.blk bx3 36 ((ApiPred.cells (⟨[], [], []⟩ : ApiPred))), FW.blk bx2 64 ((Offshootref12State.cells (⟨[], 0, 0, 0, 0, 0⟩ : Offshootref12State))), FW.blk bx1 64 ((Offshootref12State.cells (⟨t12.1.L, t12.1.I, y1.Deep, t12.1.Steps, t12.1.At, t12.1.E⟩ : Offshootref12State)))]) (cs' := (ApiPred.cells (⟨v9, [], ([y5, t12.2] : List ApiPred)⟩ : ApiPred))) (j := 3) hk rfl rfl rfl rfl rfl (by kernel_rfl) rfl rfl ?_; clear hk; intro w hk
            refine wpList_nil ?_
            (repeat first | refine FW.then_normal ?_ | refine FW.block_normal ?_); exact hK33 _ _ ⟨(⟨v9, [], ([y5, t12.2] : List ApiPred)⟩ : ApiPred), (⟨t12.1.L, t12.1.I, y1.Deep, t12.1.Steps, t12.1.At, t12.1.E⟩ : Offshootref12State), (((hk.drop 2).drop 1).drop 0).sub ⟨rfl, rfl, rfl, rfl, rfl, trivial⟩, h⟩
           ·skip
            refine wp_skip ?_
            (repeat first | refine FW.then_normal ?_ | refine FW.block_normal ?_); exact hK33 _ _ ⟨y5, y1, (hk.drop 0).sub ⟨rfl, rfl, rfl, rfl, rfl, trivial⟩, h⟩
          ·skip
           refine FW.wreg ?_; intro K' hK43
           refine FW.lfun (y := .lit (.bool (decide (v127 = ([110, 101, 103, 97, 116, 101] : List UInt8))))) hk rfl rfl rfl rfl ((FW.f_pure (FW.p_seql hk.kn FW.h0 rfl rfl))) ?_; clear hk; intro a w hk
           refine FW.lfun (y := .lit (.bool (decide (v127 = ([110, 101, 103, 97, 116, 101] : List UInt8))))) hk rfl rfl rfl rfl (FW.f_assign hk FW.h0 rfl) ?_; clear hk; intro a w hk
           refine FW.lend (hK43 _ _ ?_); clear hK43 K'
           refine FW.wcondF (b := (decide (v127 = ([110, 101, 103, 97, 116, 101] : List UInt8)))) hk h rfl (fun h hb => ?_) (fun h hb => ?_)
           ·skip
            refine FW.wreg1 ?_
            refine FW.lfun (y := .agg ((ApiPred.cells y5))) hk rfl rfl rfl rfl (FW.f_loadBlk hk FW.h0 (j := 1) rfl rfl Try.underlying36 rfl rfl rfl rfl) ?_; clear hk; intro a w hk
            refine FW.l_buildSlice (f := ApiPred.cells) (l := ([y5] : List ApiPred)) hk rfl rfl rfl Try.underlying34 rfl rfl rfl rfl (fun _ => rfl) rfl ?_; clear hk; intro bx10 a w hk
            replace hk := (FW.S.freezeR (I' := [FW.blk bx6 64 ((Offshootref12State.cells y6)), FW.blk bx5 36 ((ApiPred.cells y5)), FW.blk bx4 64 ((Offshootref12State.cells y4)), FW.blk bx3 36 ((ApiPred.cells (⟨[], [], []⟩ : ApiPred))), FW.blk bx2 64 ((Offshootref12State.cells (⟨[], 0, 0, 0, 0, 0⟩ : Offshootref12State))), FW.blk bx1 64 ((Offshootref12State.cells y1))]) r_ApiPred_cells_eq hk (j := 0) rfl (t := 157) rfl rfl).squash
            refine FW.lfun (y := .agg ((ApiPred.cells (⟨([110, 111, 116] : List UInt8), [], ([y5] : List ApiPred)⟩ : ApiPred)))) hk rfl rfl rfl rfl (FW.f_buildN [] hk FW.h0 rfl rfl rfl) ?_; clear hk; intro a w hk
            refine FW.l_store (I' := [FW.blk bx6 64 ((Offshootref12State.cells y6)), FW.blk bx5 36 ((ApiPred.cells (⟨([110, 111, 116] : List UInt8), [], ([y5] : List ApiPred)⟩ : ApiPred))), FW.blk bx4 64 ((Offshootref12State.cells y4)), FW.blk bx3 36 ((ApiPred.cells (⟨[], [], []⟩ : ApiPred))), FW.blk bx2 64 ((Offshootref12State.cells (⟨[], 0, 0, 0, 0, 0⟩ : Offshootref12State))), FW.blk bx1 64 ((Offshootref12State.cells y1))]) (cs' := (ApiPred.cells (⟨([110, 111, 116] : List UInt8), [], ([y5] : List ApiPred)⟩ : ApiPred))) (j := 1) hk rfl rfl rfl rfl rfl (by kernel_rfl) rfl rfl ?_; clear hk; intro w hk
            refine wpList_nil ?_
            (repeat first | refine FW.then_normal ?_ | refine FW.block_normal ?_); exact hK33 _ _ ⟨(⟨([110, 111, 116] : List UInt8), [], ([y5] : List ApiPred)⟩ : ApiPred), y1, (hk.drop 0).sub ⟨rfl, rfl, rfl, rfl, rfl, trivial⟩, h⟩
           ·skip
            refine FW.wreg ?_; intro K' hK45
            refine FW.lfun (y := .lit (.pointer (some ⟨bx1, 5, none⟩))) hk rfl rfl rfl rfl (FW.f_fieldPtr hk FW.h0 rfl Try.underlying64 rfl (by kernel_rfl) rfl) ?_; clear hk; intro a w hk
            refine FW.lfun (y := .lit (.int .i64 y1.E)) hk rfl rfl rfl rfl (FW.f_loadBlk1 hk FW.h0 (j := 5) rfl rfl Try.underlying23 rfl rfl) ?_; clear hk; intro a w hk
            refine FW.lfun (y := .lit (.bool (decide (y1.E = 0)))) hk rfl rfl rfl rfl ((FW.f_pure (FW.p_eql hk.kn FW.h0 rfl rfl))) ?_; clear hk; intro a w hk
            refine FW.lend (hK45 _ _ ?_); clear hK45 K'
            refine FW.wcondF (b := (decide (y1.E = 0))) hk h rfl (fun h hb => ?_) (fun h hb => ?_)
            ·skip
             refine FW.wreg1 ?_
             refine FW.lfun (y := .agg ((Offshootref12State.cells y6))) hk rfl rfl rfl rfl (FW.f_loadBlk hk FW.h0 (j := 0) rfl rfl Try.underlying64 rfl rfl rfl rfl) ?_; clear hk; intro a w hk
             obtain ⟨t13, hr_t13, h⟩ := FW.bnd h
             refine FW.lfun (y := .agg ((Offshootref12State.cells t13))) hk rfl rfl rfl rfl (FW.f_call hk FW.h0 rfl rfl Try.func28 rfl (by kernel_rfl) (offshootref12_State_fail.ok y6 120 _ hr_t13)) ?_; clear hk; intro a w hk
             refine FW.l_store (I' := [FW.blk bx6 64 ((Offshootref12State.cells y6)), FW.blk bx5 36 ((ApiPred.cells y5)), FW.blk bx4 64 ((Offshootref12State.cells y4)), FW.blk bx3 36 ((ApiPred.cells (⟨[], [], []⟩ : ApiPred))), FW.blk bx2 64 ((Offshootref12State.cells (⟨[], 0, 0, 0, 0, 0⟩ : Offshootref12State))), FW.blk bx1 64 ((Offshootref12State.cells t13))]) (cs' := (Offshootref12State.cells t13)) (j := 5) hk rfl rfl rfl rfl rfl (by kernel_rfl) rfl rfl ?_; clear hk; intro w hk
             refine wpList_nil ?_
             (repeat first | refine FW.then_normal ?_ | refine FW.block_normal ?_); exact hK33 _ _ ⟨y5, t13, (hk.drop 0).sub ⟨rfl, rfl, rfl, rfl, rfl, trivial⟩, h⟩
            ·skip
             refine wp_skip ?_
             (repeat first | refine FW.then_normal ?_ | refine FW.block_normal ?_); exact hK33 _ _ ⟨y5, y1, (hk.drop 0).sub ⟨rfl, rfl, rfl, rfl, rfl, trivial⟩, h⟩
         ·intro K' hK36
          refine FW.wreg ?_; intro K' hK47
          refine FW.lfun (y := .lit (.bool (decide (((List.getD y1.L (Int.toNat y1.I) default).S) = ([97, 110, 100] : List UInt8))))) hk rfl rfl rfl rfl ((FW.f_pure (FW.p_seql hk.kn FW.h0 rfl rfl))) ?_; clear hk; intro a w hk
          refine FW.lfun (y := .lit (.bool (decide (((List.getD y1.L (Int.toNat y1.I) default).S) = ([97, 110, 100] : List UInt8))))) hk rfl rfl rfl rfl (FW.f_assign hk FW.h0 rfl) ?_; clear hk; intro a w hk
          refine FW.lend (hK47 _ _ ?_); clear hK47 K'
          refine FW.wcondF (b := (decide (((List.getD y1.L (Int.toNat y1.I) default).S) = ([97, 110, 100] : List UInt8)))) hk h rfl (fun h hb => ?_) (fun h hb => ?_)
          ·skip
           refine wp_skip ?_
           (repeat first | refine FW.then_normal ?_ | refine FW.block_normal ?_); exact hK36 _ _ ⟨t10, (List.getD y1.L (Int.toNat y1.I) default).S, (List.getD y1.L (Int.toNat y1.I) default).S, (decide (((List.getD y1.L (Int.toNat y1.I) default).S) = ([97, 110, 100] : List UInt8))), hk.sub ⟨rfl, rfl, rfl, rfl, rfl, rfl, rfl, rfl, rfl, trivial⟩, h⟩
          ·skip
           refine FW.wreg1 ?_
           refine FW.lfun (y := .lit (.bool (decide (((List.getD y1.L (Int.toNat y1.I) default).S) = ([111, 114] : List UInt8))))) hk rfl rfl rfl rfl ((FW.f_pure (FW.p_seql hk.kn FW.h0 rfl rfl))) ?_; clear hk; intro a w hk
           refine FW.lfun (y := .lit (.bool (decide (((List.getD y1.L (Int.toNat y1.I) default).S) = ([111, 114] : List UInt8))))) hk rfl rfl rfl rfl (FW.f_assign hk FW.h0 rfl) ?_; clear hk; intro a w hk
           refine wpList_nil ?_
           (repeat first | refine FW.then_normal ?_ | refine FW.block_normal ?_); exact hK36 _ _ ⟨t10, (List.getD y1.L (Int.toNat y1.I) default).S, (List.getD y1.L (Int.toNat y1.I) default).S, (decide (((List.getD y1.L (Int.toNat y1.I) default).S) = ([111, 114] : List UInt8))), hk.sub ⟨rfl, rfl, rfl, rfl, rfl, rfl, rfl, rfl, rfl, trivial⟩, h⟩
      ·intro K' hK27
       refine FW.wreg ?_; intro K' hK49
       refine FW.lfun (y := .lit (.pointer (some ⟨bx1, 5, none⟩))) hk rfl rfl rfl rfl (FW.f_fieldPtr hk FW.h0 rfl Try.underlying64 rfl (by kernel_rfl) rfl) ?_; clear hk; intro a w hk
       refine FW.lfun (y := .lit (.int .i64 t9.E)) hk rfl rfl rfl rfl (FW.f_loadBlk1 hk FW.h0 (j := 5) rfl rfl Try.underlying23 rfl rfl) ?_; clear hk; intro a w hk
       refine FW.lfun (y := .lit (.bool (decide (t9.E = 0)))) hk rfl rfl rfl rfl ((FW.f_pure (FW.p_eql hk.kn FW.h0 rfl rfl))) ?_; clear hk; intro a w hk
       refine FW.lfun (y := .lit (.bool (decide (t9.E = 0)))) hk rfl rfl rfl rfl (FW.f_move hk FW.h0 rfl) ?_; clear hk; intro a w hk
       refine FW.lfunG (y := .lit (.pointer (some ⟨bx1, 0, none⟩))) hk rfl rfl rfl rfl rfl rfl rfl rfl (fun hc => FW.f_fieldPtr hk hc rfl Try.underlying64 rfl (by kernel_rfl) rfl) ?_; clear hk; intro a w hk
       refine FW.lfunG (y := .row (r_ApiWord_cells t9.L)) hk rfl rfl rfl rfl rfl rfl rfl rfl (fun hc => FW.f_loadBlk1 hk hc (j := 5) rfl rfl Try.underlying60 rfl rfl) ?_; clear hk; intro a w hk
       refine FW.lfunG (y := .lit (.pointer (some ⟨bx1, 1, none⟩))) hk rfl rfl rfl rfl rfl rfl rfl rfl (fun hc => FW.f_fieldPtr hk hc rfl Try.underlying64 rfl (by kernel_rfl) rfl) ?_; clear hk; intro a w hk
       refine FW.lfunG (y := .lit (.int .i64 t9.I)) hk rfl rfl rfl rfl rfl rfl rfl rfl (fun hc => FW.f_loadBlk1 hk hc (j := 5) rfl rfl Try.underlying3 rfl rfl) ?_; clear hk; intro a w hk
       obtain ⟨hc5, h⟩ := FW.chk h
       refine FW.lfunG (y := .ref (ApiWord.cells (List.getD t9.L (Int.toNat t9.I) default))) hk rfl rfl rfl rfl rfl rfl rfl rfl (fun hc => FW.f_indexAddr (R := r_ApiWord_cells) (f := ApiWord.cells) (l := t9.L) (sz := 5) r_ApiWord_cells_eq (fun _ => rfl) hk hc rfl rfl Try.underlying60 (by kernel_rfl) hc5) ?_; clear hk; intro a w hk
       refine FW.lfunG (y := .ref (List.drop 0 (ApiWord.cells (List.getD t9.L (Int.toNat t9.I) default)))) hk rfl rfl rfl rfl rfl rfl rfl rfl (fun hc => FW.f_fieldAddr hk hc rfl Try.underlying66 rfl (by kernel_rfl) rfl) ?_; clear hk; intro a w hk
       refine FW.lfunG (y := .lit (.int .i64 ((List.getD t9.L (Int.toNat t9.I) default).Kind))) hk rfl rfl rfl rfl rfl rfl rfl rfl (fun hc => FW.f_load1 hk hc rfl rfl Try.underlying3 rfl) ?_; clear hk; intro a w hk
       refine FW.lfunG (y := .lit (.bool (!decide (((List.getD t9.L (Int.toNat t9.I) default).Kind) = 1)))) hk rfl rfl rfl rfl rfl rfl rfl rfl (fun hc => (FW.f_pure (FW.p_neq hk.kn hc rfl rfl))) ?_; clear hk; intro a w hk
       refine FW.lfun (y := .lit (.bool ((decide (t9.E = 0)) && (!decide (((List.getD t9.L (Int.toNat t9.I) default).Kind) = 1))))) hk rfl rfl rfl rfl ((FW.f_pure (FW.p_pick_and hk.kn FW.h0 rfl rfl))) ?_; clear hk; intro a w hk
       refine FW.lend (hK49 _ _ ?_); clear hK49 K'
       refine FW.wcondF (b := ((decide (t9.E = 0)) && (!decide (((List.getD t9.L (Int.toNat t9.I) default).Kind) = 1)))) hk h rfl (fun h hb => ?_) (fun h hb => ?_)
       ·skip
        refine FW.wreg1 ?_
        refine FW.lfun (y := .agg ((Offshootref12State.cells t9))) hk rfl rfl rfl rfl (FW.f_loadBlk hk FW.h0 (j := 5) rfl rfl Try.underlying64 rfl rfl rfl rfl) ?_; clear hk; intro a w hk
        obtain ⟨t14, hr_t14, h⟩ := FW.bnd h
        refine FW.lfun (y := .agg ((Offshootref12State.cells t14))) hk rfl rfl rfl rfl (FW.f_call hk FW.h0 rfl rfl Try.func28 rfl (by kernel_rfl) (offshootref12_State_fail.ok t9 120 _ hr_t14)) ?_; clear hk; intro a w hk
        refine FW.l_store (I' := [FW.blk bx6 64 ((Offshootref12State.cells t9)), FW.blk bx5 36 ((ApiPred.cells y5)), FW.blk bx4 64 ((Offshootref12State.cells y4)), FW.blk bx3 36 ((ApiPred.cells (⟨[], [], []⟩ : ApiPred))), FW.blk bx2 64 ((Offshootref12State.cells (⟨[], 0, 0, 0, 0, 0⟩ : Offshootref12State))), FW.blk bx1 64 ((Offshootref12State.cells t14))]) (cs' := (Offshootref12State.cells t14)) (j := 5) hk rfl rfl rfl rfl rfl (by kernel_rfl) rfl rfl ?_; clear hk; intro w hk
        refine wpList_nil ?_
        (repeat first | refine FW.then_normal ?_ | refine FW.block_normal ?_); exact hK27 _ _ ⟨t9, t14, hk.sub ⟨rfl, rfl, rfl, rfl, rfl, rfl, trivial⟩, h⟩
       ·skip
        refine wp_skip ?_
        (repeat first | refine FW.then_normal ?_ | refine FW.block_normal ?_); exact hK27 _ _ ⟨t9, t9, hk.sub ⟨rfl, rfl, rfl, rfl, rfl, rfl, trivial⟩, h⟩
     ·skip
      refine wp_exit ?_; (repeat first | refine FW.then_exit ?_ | refine FW.block_exit_ne rfl ?_); refine FW.block_exit ?_
      (repeat first | refine FW.then_normal ?_ | refine FW.block_normal ?_); exact hK18 _ _ ⟨y5, y4, y1, hk.sub ⟨rfl, rfl, rfl, rfl, rfl, trivial⟩, h⟩
theorem offshootref12_State_pred_knot : ∀ K : Nat, (∀ (v0 : Offshootref12State) (r : Offshootref12State × ApiPred), offshootref12_State_pred.f K v0 = some r → FW.Ok Try.prog 78 [.agg (Offshootref12State.cells v0)] (.tup [.agg (Offshootref12State.cells r.1), .agg (ApiPred.cells r.2)]))
 | 0 => fun v0 r h => by simp [offshootref12_State_pred.f] at h
 | K + 1 => fun v0 r h => by rw [offshootref12_State_pred.f] at h; exact offshootref12_State_pred.bok _ (offshootref12_State_pred_knot K) K v0 r h
theorem offshootref12_State_pred.ok (K : Nat) (v0 : Offshootref12State) (r : Offshootref12State × ApiPred) (h : offshootref12_State_pred.f K v0 = some r) : FW.Ok Try.prog 78 [.agg (Offshootref12State.cells v0)] (.tup [.agg (Offshootref12State.cells r.1), .agg (ApiPred.cells r.2)]) := (offshootref12_State_pred_knot K) v0 r h
end Go.Proofs.Ytbjbgodcenopnaa

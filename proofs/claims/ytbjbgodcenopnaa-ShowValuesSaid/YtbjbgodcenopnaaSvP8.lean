/- Written by a program of this session (gen.py): the contracts of functions of the program. -/
import Derived.KernelRfl
import Derived.Test.YtbjbgodcenopnaaProg
import Derived.Test.YtbjbgodcenopnaaAvFun
import Derived.Test.YtbjbgodcenopnaaAvMan
import Derived.Test.YtbjbgodcenopnaaAvMore
import Derived.Test.YtbjbgodcenopnaaAvDraw2
import Derived.Test.YtbjbgodcenopnaaAvRow
import Derived.Test.YtbjbgodcenopnaaAvBld
import Derived.Test.YtbjbgodcenopnaaHcl
import Derived.Test.YtbjbgodcenopnaaAvFl
import Derived.Test.YtbjbgodcenopnaaSvD
import Derived.Test.YtbjbgodcenopnaaSvP7
namespace Go.Proofs.Ytbjbgodcenopnaa
set_option linter.unusedVariables false
set_option maxRecDepth 20000
set_option maxHeartbeats 10000000
theorem offshootref12_State_value.bok (s_offshootref12_State_value : Offshootref12State → Option (Offshootref12State × ApiValue × Bool)) (s_offshootref12_State_values : Offshootref12State → List UInt8 → Option (Offshootref12State × List ApiValue)) (hs_offshootref12_State_value : ∀ (v0 : Offshootref12State) (r : Offshootref12State × ApiValue × Bool), s_offshootref12_State_value v0 = some r → FW.Ok Try.prog 76 [.agg (Offshootref12State.cells v0)] (.tup [.agg (Offshootref12State.cells r.1), .agg (ApiValue.cells r.2.1), .lit (.bool r.2.2)])) (hs_offshootref12_State_values : ∀ (v0 : Offshootref12State) (v1 : List UInt8) (r : Offshootref12State × List ApiValue), s_offshootref12_State_values v0 v1 = some r → FW.Ok Try.prog 108 [.agg (Offshootref12State.cells v0), .lit (.string (FW.B v1))] (.tup [.agg (Offshootref12State.cells r.1), .row (r_ApiValue_cells r.2)])) (K : Nat) (v0 : Offshootref12State) (r : Offshootref12State × ApiValue × Bool) (h : offshootref12_State_value.b s_offshootref12_State_value s_offshootref12_State_values K v0 = some r) :
  FW.Ok Try.prog 76 [.agg (Offshootref12State.cells v0)] (.tup [.agg (Offshootref12State.cells r.1), .agg (ApiValue.cells r.2.1), .lit (.bool r.2.2)]) := by
 refine FW.enter (xs := [.agg (Offshootref12State.cells v0)]) Try.func76 rfl Try.ntmps76 rfl ?_
 intro M w0 a hk
 unfold offshootref12_State_value.b at h
 refine FW.wreg ?_; intro K' hK1
 refine FW.l_box (cs := (Offshootref12State.cells v0)) hk rfl rfl rfl rfl rfl ?_; clear hk; intro bx1 a w hk
 refine FW.l_alloc (zs := (Offshootref12State.cells (⟨[], 0, 0, 0, 0, 0⟩ : Offshootref12State))) [] hk rfl rfl rfl rfl ?_; clear hk; intro bx2 a w hk
 refine FW.l_alloc (zs := (ApiValue.cells (⟨0, false, 0, 0, [], []⟩ : ApiValue))) [] hk rfl rfl rfl rfl ?_; clear hk; intro bx3 a w hk
 refine FW.lfun (y := .lit (.bool false)) hk rfl rfl rfl rfl (FW.f_assign hk FW.h0 rfl) ?_; clear hk; intro a w hk
 refine FW.lend (hK1 _ _ ?_); clear hK1 K'
 refine FW.wseq ?_; intro K' hK2
 refine FW.wreg ?_; intro K' hK3
 refine FW.lfun (y := .lit (.pointer (some ⟨bx1, 5, none⟩))) hk rfl rfl rfl rfl (FW.f_fieldPtr hk FW.h0 rfl Try.underlying64 rfl (by kernel_rfl) rfl) ?_; clear hk; intro a w hk
 refine FW.lfun (y := .lit (.int .i64 v0.E)) hk rfl rfl rfl rfl (FW.f_loadBlk1 hk FW.h0 (j := 2) rfl rfl Try.underlying23 rfl rfl) ?_; clear hk; intro a w hk
 refine FW.lfun (y := .lit (.bool (!decide (v0.E = 0)))) hk rfl rfl rfl rfl ((FW.f_pure (FW.p_neq hk.kn FW.h0 rfl rfl))) ?_; clear hk; intro a w hk
 refine FW.lend (hK3 _ _ ?_); clear hK3 K'
 refine FW.wcondF (b := (!decide (v0.E = 0))) hk h rfl (fun h hb => ?_) (fun h hb => ?_)
 ·skip
  refine FW.wreg ?_; intro K' hK4
  refine FW.lfun (y := .agg ((Offshootref12State.cells v0))) hk rfl rfl rfl rfl (FW.f_loadBlk hk FW.h0 (j := 2) rfl rfl Try.underlying64 rfl rfl rfl rfl) ?_; clear hk; intro a w hk
  refine FW.lfun (y := .agg ((ApiValue.cells (⟨0, false, 0, 0, [], []⟩ : ApiValue)))) hk rfl rfl rfl rfl (FW.f_buildN [] hk FW.h0 rfl rfl rfl) ?_; clear hk; intro a w hk
  refine FW.l_store (I' := [FW.blk bx3 33 ((ApiValue.cells (⟨0, false, 0, 0, [], []⟩ : ApiValue))), FW.blk bx2 64 ((Offshootref12State.cells v0)), FW.blk bx1 64 ((Offshootref12State.cells v0))]) (cs' := (Offshootref12State.cells v0)) (j := 1) hk rfl rfl rfl rfl rfl (by kernel_rfl) rfl rfl ?_; clear hk; intro w hk
  refine FW.l_store (I' := [FW.blk bx3 33 ((ApiValue.cells (⟨0, false, 0, 0, [], []⟩ : ApiValue))), FW.blk bx2 64 ((Offshootref12State.cells v0)), FW.blk bx1 64 ((Offshootref12State.cells v0))]) (cs' := (ApiValue.cells (⟨0, false, 0, 0, [], []⟩ : ApiValue))) (j := 0) hk rfl rfl rfl rfl rfl (by kernel_rfl) rfl rfl ?_; clear hk; intro w hk
  refine FW.lfun (y := .lit (.bool false)) hk rfl rfl rfl rfl (FW.f_assign hk FW.h0 rfl) ?_; clear hk; intro a w hk
  refine FW.lend (hK4 _ _ ?_); clear hK4 K'
  refine wp_ret ?_
  (repeat first | refine FW.then_ret ?_ | refine FW.block_ret ?_)
  obtain rfl := Option.some.inj h
  exact FW.fretR3 hk rfl (FW.rcell hk rfl (j := 1) rfl Try.underlying64 rfl (by kernel_rfl)) (FW.rcell hk rfl (j := 0) rfl Try.underlying33 rfl (by kernel_rfl)) (FW.rtmp hk rfl)
 ·skip
  refine wp_skip ?_
  (repeat first | refine FW.then_normal ?_ | refine FW.block_normal ?_); refine hK2 _ _ ?_
  refine FW.wreg ?_; intro K' hK5
  refine FW.lfun (y := .lit (.pointer (some ⟨bx1, 0, none⟩))) hk rfl rfl rfl rfl (FW.f_fieldPtr hk FW.h0 rfl Try.underlying64 rfl (by kernel_rfl) rfl) ?_; clear hk; intro a w hk
  refine FW.lfun (y := .row (r_ApiWord_cells v0.L)) hk rfl rfl rfl rfl (FW.f_loadBlk1 hk FW.h0 (j := 2) rfl rfl Try.underlying60 rfl rfl) ?_; clear hk; intro a w hk
  refine FW.lfun (y := .lit (.pointer (some ⟨bx1, 1, none⟩))) hk rfl rfl rfl rfl (FW.f_fieldPtr hk FW.h0 rfl Try.underlying64 rfl (by kernel_rfl) rfl) ?_; clear hk; intro a w hk
  refine FW.lfun (y := .lit (.int .i64 v0.I)) hk rfl rfl rfl rfl (FW.f_loadBlk1 hk FW.h0 (j := 2) rfl rfl Try.underlying3 rfl rfl) ?_; clear hk; intro a w hk
  obtain ⟨hc1, h⟩ := FW.chk h
  refine FW.lfun (y := .ref (ApiWord.cells (List.getD v0.L (Int.toNat v0.I) default))) hk rfl rfl rfl rfl (FW.f_indexAddr (R := r_ApiWord_cells) (f := ApiWord.cells) (l := v0.L) (sz := 5) r_ApiWord_cells_eq (fun _ => rfl) hk FW.h0 rfl rfl Try.underlying60 (by kernel_rfl) hc1) ?_; clear hk; intro a w hk
  refine FW.lfun (y := .agg ((ApiWord.cells (List.getD v0.L (Int.toNat v0.I) default)))) hk rfl rfl rfl rfl (FW.f_load hk FW.h0 rfl Try.underlying66 rfl rfl rfl rfl) ?_; clear hk; intro a w hk
  refine FW.l_alloc (zs := (ApiWord.cells (⟨0, [], 0, 0, 0⟩ : ApiWord))) [] hk rfl rfl rfl rfl ?_; clear hk; intro bx4 a w hk
  refine FW.l_store (I' := [FW.blk bx4 66 ((ApiWord.cells (List.getD v0.L (Int.toNat v0.I) default))), FW.blk bx3 33 ((ApiValue.cells (⟨0, false, 0, 0, [], []⟩ : ApiValue))), FW.blk bx2 64 ((Offshootref12State.cells (⟨[], 0, 0, 0, 0, 0⟩ : Offshootref12State))), FW.blk bx1 64 ((Offshootref12State.cells v0))]) (cs' := (ApiWord.cells (List.getD v0.L (Int.toNat v0.I) default))) (j := 0) hk rfl rfl rfl rfl rfl (by kernel_rfl) rfl rfl ?_; clear hk; intro w hk
  refine FW.lend (hK5 _ _ ?_); clear hK5 K'
  refine FW.wreg ?_; intro K' hK6
  refine FW.lfun (y := .agg ((ApiValue.cells (⟨0, false, 0, 0, [], []⟩ : ApiValue)))) hk rfl rfl rfl rfl (FW.f_buildN [] hk FW.h0 rfl rfl rfl) ?_; clear hk; intro a w hk
  refine FW.l_alloc (zs := (ApiValue.cells (⟨0, false, 0, 0, [], []⟩ : ApiValue))) [] hk rfl rfl rfl rfl ?_; clear hk; intro bx5 a w hk
  refine FW.l_store (I' := [FW.blk bx5 33 ((ApiValue.cells (⟨0, false, 0, 0, [], []⟩ : ApiValue))), FW.blk bx4 66 ((ApiWord.cells (List.getD v0.L (Int.toNat v0.I) default))), FW.blk bx3 33 ((ApiValue.cells (⟨0, false, 0, 0, [], []⟩ : ApiValue))), FW.blk bx2 64 ((Offshootref12State.cells (⟨[], 0, 0, 0, 0, 0⟩ : Offshootref12State))), FW.blk bx1 64 ((Offshootref12State.cells v0))]) (cs' := (ApiValue.cells (⟨0, false, 0, 0, [], []⟩ : ApiValue))) (j := 0) hk rfl rfl rfl rfl rfl (by kernel_rfl) rfl rfl ?_; clear hk; intro w hk
  refine FW.lfun (y := .lit (.bool true)) hk rfl rfl rfl rfl (FW.f_assign hk FW.h0 rfl) ?_; clear hk; intro a w hk
  refine FW.lend (hK6 _ _ ?_); clear hK6 K'
  refine FW.wseqJ (fun a w => ∃ (y5 : ApiValue) (y1 : Offshootref12State) (v7 : Bool), FW.S M w0 a w 105 [FW.blk bx5 33 ((ApiValue.cells y5)), FW.blk bx3 33 ((ApiValue.cells (⟨0, false, 0, 0, [], []⟩ : ApiValue))), FW.blk bx2 64 ((Offshootref12State.cells (⟨[], 0, 0, 0, 0, 0⟩ : Offshootref12State))), FW.blk bx1 64 ((Offshootref12State.cells y1))] [(1, [], .lit (.pointer (some ⟨bx1, 0, none⟩))), (2, [], .lit (.pointer (some ⟨bx2, 0, none⟩))), (3, [], .lit (.pointer (some ⟨bx3, 0, none⟩))), (6, [], .lit (.pointer (some ⟨bx5, 0, none⟩))), (7, [], .lit (.bool v7))] ∧ offshootref12_State_value.j1 s_offshootref12_State_value s_offshootref12_State_values K y5 y1 v7 = some r) ?_ ?_
  ·clear hk h
   rintro a w ⟨y5, y1, v7, hk, h⟩
   unfold offshootref12_State_value.j1 at h
   refine FW.wseqJ (fun a w => ∃ (y1 : Offshootref12State) (v7 : Bool), FW.S M w0 a w 105 [FW.blk bx5 33 ((ApiValue.cells y5)), FW.blk bx3 33 ((ApiValue.cells (⟨0, false, 0, 0, [], []⟩ : ApiValue))), FW.blk bx2 64 ((Offshootref12State.cells (⟨[], 0, 0, 0, 0, 0⟩ : Offshootref12State))), FW.blk bx1 64 ((Offshootref12State.cells y1))] [(1, [], .lit (.pointer (some ⟨bx1, 0, none⟩))), (2, [], .lit (.pointer (some ⟨bx2, 0, none⟩))), (3, [], .lit (.pointer (some ⟨bx3, 0, none⟩))), (6, [], .lit (.pointer (some ⟨bx5, 0, none⟩))), (7, [], .lit (.bool v7))] ∧ offshootref12_State_value.j2 s_offshootref12_State_value s_offshootref12_State_values K y5 y1 v7 = some r) ?_ ?_
   ·clear hk h
    rintro a w ⟨y1, v7, hk, h⟩
    unfold offshootref12_State_value.j2 at h
    refine FW.wdrawE (.next [true, true, true, false, false, false] 3 [true, true, true, false, false, false] (.next [false, true, true, false, false, false] 4 [true, true, true, true, false, false] (.leaf [false, false, true, false, false, true]))) [(102, [], .agg ((Offshootref12State.cells y1))), (103, [], .agg ((ApiValue.cells y5))), (104, [], .lit (.bool v7)), (105, [], .lit undef), (105, [], .lit undef), (4, [], .agg [])] (by kernel_rfl) (by kernel_rfl) (by kernel_rfl) (by kernel_rfl) hk ?_; clear hk
    refine FW.gnext0 ?_ rfl rfl rfl ?_
    ·skip
     refine FW.gfun (y := .agg ((Offshootref12State.cells y1))) rfl rfl rfl rfl (fun a w hk => FW.f_loadBlk hk FW.h0 (j := 3) rfl rfl Try.underlying64 rfl rfl rfl rfl) ?_
     refine FW.gfun (y := .agg ((ApiValue.cells y5))) rfl rfl rfl rfl (fun a w hk => FW.f_loadBlk hk FW.h0 (j := 0) rfl rfl Try.underlying33 rfl rfl rfl rfl) ?_
     refine FW.gfun (y := .lit (.bool v7)) rfl rfl rfl rfl (fun a w hk => FW.f_move hk FW.h0 rfl) ?_
     refine FW.gskip0 rfl ?_
     refine FW.gskip0 rfl ?_
     refine FW.gskip rfl rfl ?_
     exact FW.gend
    ·skip
     intro σD a w opsD QD hk hQ hX
     refine FW.l_store (I' := [FW.blk bx5 33 ((ApiValue.cells y5)), FW.blk bx3 33 ((ApiValue.cells (⟨0, false, 0, 0, [], []⟩ : ApiValue))), FW.blk bx2 64 ((Offshootref12State.cells y1)), FW.blk bx1 64 ((Offshootref12State.cells y1))]) (cs' := (Offshootref12State.cells y1)) (j := 2) hk rfl rfl rfl rfl rfl (by kernel_rfl) rfl rfl ?_; clear hk; intro w hk
     refine hQ _ a w ?_ hk; clear hk hQ hX
     refine ⟨[(102, [], .agg ((Offshootref12State.cells y1))), (103, [], .agg ((ApiValue.cells y5))), (104, [], .lit (.bool v7)), (105, [], .lit undef), (105, [], .lit undef), (4, [], .agg [])], And.intro rfl (And.intro rfl (And.intro rfl (trivial))), rfl, ?_⟩
     refine FW.gnext0 ?_ rfl rfl rfl ?_
     ·skip
      refine FW.gskip rfl rfl ?_
      refine FW.gfun (y := .agg ((ApiValue.cells y5))) rfl rfl rfl rfl (fun a w hk => FW.f_loadBlk hk FW.h0 (j := 0) rfl rfl Try.underlying33 rfl rfl rfl rfl) ?_
      refine FW.gfun (y := .lit (.bool v7)) rfl rfl rfl rfl (fun a w hk => FW.f_move hk FW.h0 rfl) ?_
      refine FW.gskip0 rfl ?_
      refine FW.gskip0 rfl ?_
      refine FW.gskip rfl rfl ?_
      exact FW.gend
     ·skip
      intro σD a w opsD QD hk hQ hX
      refine FW.l_store (I' := [FW.blk bx5 33 ((ApiValue.cells y5)), FW.blk bx3 33 ((ApiValue.cells y5)), FW.blk bx2 64 ((Offshootref12State.cells y1)), FW.blk bx1 64 ((Offshootref12State.cells y1))]) (cs' := (ApiValue.cells y5)) (j := 1) hk rfl rfl rfl rfl rfl (by kernel_rfl) rfl rfl ?_; clear hk; intro w hk
      refine hQ _ a w ?_ hk; clear hk hQ hX
      refine ⟨[(102, [], .agg ((Offshootref12State.cells y1))), (103, [], .agg ((ApiValue.cells y5))), (104, [], .lit (.bool v7)), (105, [], .lit undef), (105, [], .lit undef), (4, [], .lit (.bool v7))], And.intro rfl (And.intro rfl (And.intro rfl (And.intro rfl (trivial)))), rfl, ?_⟩
      refine FW.glast ?_ ?_
      ·skip
       refine FW.gskip rfl rfl ?_
       refine FW.gskip rfl rfl ?_
       refine FW.gfun (y := .lit (.bool v7)) rfl rfl rfl rfl (fun a w hk => FW.f_move hk FW.h0 rfl) ?_
       refine FW.gskip0 rfl ?_
       refine FW.gskip0 rfl ?_
       refine FW.gfun (y := .lit (.bool v7)) rfl rfl rfl rfl (fun a w hk => FW.f_assign hk FW.h0 rfl) ?_
       exact FW.gend
      ·skip
       intro a w hk; simp only [FW.stD, cond_true] at hk
       refine wp_ret ?_
       (repeat first | refine FW.then_ret ?_ | refine FW.block_ret ?_)
       obtain rfl := Option.some.inj h
       exact FW.fretR3 hk rfl (FW.rcell hk rfl (j := 2) rfl Try.underlying64 rfl (by kernel_rfl)) (FW.rcell hk rfl (j := 1) rfl Try.underlying33 rfl (by kernel_rfl)) (FW.rtmp hk rfl)
   ·intro K' hK8
    refine FW.wreg ?_; intro K' hK10
    refine FW.lfun (y := .lit (.bool v7)) hk rfl rfl rfl rfl (FW.f_move hk FW.h0 rfl) ?_; clear hk; intro a w hk
    refine FW.lend (hK10 _ _ ?_); clear hK10 K'
    refine FW.wcondF (b := v7) hk h rfl (fun h hb => ?_) (fun h hb => ?_)
    ·skip
     refine FW.wreg1 ?_
     refine FW.lfun (y := .lit (.pointer (some ⟨bx1, 1, none⟩))) hk rfl rfl rfl rfl (FW.f_fieldPtr hk FW.h0 rfl Try.underlying64 rfl (by kernel_rfl) rfl) ?_; clear hk; intro a w hk
     refine FW.lfun (y := .lit (.int .i64 y1.I)) hk rfl rfl rfl rfl (FW.f_loadBlk1 hk FW.h0 (j := 3) rfl rfl Try.underlying3 rfl rfl) ?_; clear hk; intro a w hk
     refine FW.lfun (y := .lit (.int .i64 (IntKind.wrap .i64 (y1.I + 1)))) hk rfl rfl rfl rfl ((FW.f_pure (FW.p_add hk.kn FW.h0 rfl rfl))) ?_; clear hk; intro a w hk
     refine FW.lfun (y := .lit (.pointer (some ⟨bx1, 1, none⟩))) hk rfl rfl rfl rfl (FW.f_fieldPtr hk FW.h0 rfl Try.underlying64 rfl (by kernel_rfl) rfl) ?_; clear hk; intro a w hk
     refine FW.l_store (I' := [FW.blk bx5 33 ((ApiValue.cells y5)), FW.blk bx3 33 ((ApiValue.cells (⟨0, false, 0, 0, [], []⟩ : ApiValue))), FW.blk bx2 64 ((Offshootref12State.cells (⟨[], 0, 0, 0, 0, 0⟩ : Offshootref12State))), FW.blk bx1 64 ((Offshootref12State.cells (⟨y1.L, (IntKind.wrap .i64 (y1.I + 1)), y1.Deep, y1.Steps, y1.At, y1.E⟩ : Offshootref12State)))]) (cs' := (Offshootref12State.cells (⟨y1.L, (IntKind.wrap .i64 (y1.I + 1)), y1.Deep, y1.Steps, y1.At, y1.E⟩ : Offshootref12State))) (j := 3) hk rfl rfl rfl rfl rfl (by kernel_rfl) rfl rfl ?_; clear hk; intro w hk
     refine wpList_nil ?_
     (repeat first | refine FW.then_normal ?_ | refine FW.block_normal ?_); exact hK8 _ _ ⟨(⟨y1.L, (IntKind.wrap .i64 (y1.I + 1)), y1.Deep, y1.Steps, y1.At, y1.E⟩ : Offshootref12State), v7, hk.sub ⟨rfl, rfl, rfl, rfl, rfl, trivial⟩, h⟩
    ·skip
     refine wp_skip ?_
     (repeat first | refine FW.then_normal ?_ | refine FW.block_normal ?_); exact hK8 _ _ ⟨y1, v7, hk.sub ⟨rfl, rfl, rfl, rfl, rfl, trivial⟩, h⟩
  ·intro K' hK7
   refine wp_block ?_
   refine FW.wreg ?_; intro K' hK12
   refine FW.lfun (y := .lit (.pointer (some ⟨bx4, 0, none⟩))) hk rfl rfl rfl rfl (FW.f_fieldPtr hk FW.h0 rfl Try.underlying66 rfl (by kernel_rfl) rfl) ?_; clear hk; intro a w hk
   refine FW.lfun (y := .lit (.int .i64 ((List.getD v0.L (Int.toNat v0.I) default).Kind))) hk rfl rfl rfl rfl (FW.f_loadBlk1 hk FW.h0 (j := 1) rfl rfl Try.underlying3 rfl rfl) ?_; clear hk; intro a w hk
   refine FW.lfun (y := .lit (.bool (decide (((List.getD v0.L (Int.toNat v0.I) default).Kind) = 2)))) hk rfl rfl rfl rfl ((FW.f_pure (FW.p_eql hk.kn FW.h0 rfl rfl))) ?_; clear hk; intro a w hk
   refine FW.lfun (y := .lit (.bool (decide (((List.getD v0.L (Int.toNat v0.I) default).Kind) = 2)))) hk rfl rfl rfl rfl (FW.f_assign hk FW.h0 rfl) ?_; clear hk; intro a w hk
   refine FW.lend (hK12 _ _ ?_); clear hK12 K'
   refine FW.wcondF (b := (decide (((List.getD v0.L (Int.toNat v0.I) default).Kind) = 2))) hk h rfl (fun h hb => ?_) (fun h hb => ?_)
   ·skip
    refine FW.wreg1 ?_
    refine FW.lfun (y := .lit (.pointer (some ⟨bx4, 2, none⟩))) hk rfl rfl rfl rfl (FW.f_fieldPtr hk FW.h0 rfl Try.underlying66 rfl (by kernel_rfl) rfl) ?_; clear hk; intro a w hk
    refine FW.lfun (y := .lit (.int .i64 ((List.getD v0.L (Int.toNat v0.I) default).N))) hk rfl rfl rfl rfl (FW.f_loadBlk1 hk FW.h0 (j := 1) rfl rfl Try.underlying2 rfl rfl) ?_; clear hk; intro a w hk
    refine FW.lfun (y := .agg ((ApiValue.cells (⟨2, false, (List.getD v0.L (Int.toNat v0.I) default).N, 0, [], []⟩ : ApiValue)))) hk rfl rfl rfl rfl (FW.f_buildN [] hk FW.h0 rfl rfl rfl) ?_; clear hk; intro a w hk
    refine FW.l_store (I' := [FW.blk bx5 33 ((ApiValue.cells (⟨2, false, (List.getD v0.L (Int.toNat v0.I) default).N, 0, [], []⟩ : ApiValue))), FW.blk bx4 66 ((ApiWord.cells (List.getD v0.L (Int.toNat v0.I) default))), FW.blk bx3 33 ((ApiValue.cells (⟨0, false, 0, 0, [], []⟩ : ApiValue))), FW.blk bx2 64 ((Offshootref12State.cells (⟨[], 0, 0, 0, 0, 0⟩ : Offshootref12State))), FW.blk bx1 64 ((Offshootref12State.cells v0))]) (cs' := (ApiValue.cells (⟨2, false, (List.getD v0.L (Int.toNat v0.I) default).N, 0, [], []⟩ : ApiValue))) (j := 0) hk rfl rfl rfl rfl rfl (by kernel_rfl) rfl rfl ?_; clear hk; intro w hk
    refine wpList_nil ?_
    (repeat first | refine FW.then_normal ?_ | refine FW.block_normal ?_); exact hK7 _ _ ⟨(⟨2, false, (List.getD v0.L (Int.toNat v0.I) default).N, 0, [], []⟩ : ApiValue), v0, true, (hk.drop 1).sub ⟨rfl, rfl, rfl, rfl, rfl, trivial⟩, h⟩
   ·skip
    refine FW.wreg ?_; intro K' hK14
    refine FW.lfun (y := .lit (.pointer (some ⟨bx4, 0, none⟩))) hk rfl rfl rfl rfl (FW.f_fieldPtr hk FW.h0 rfl Try.underlying66 rfl (by kernel_rfl) rfl) ?_; clear hk; intro a w hk
    refine FW.lfun (y := .lit (.int .i64 ((List.getD v0.L (Int.toNat v0.I) default).Kind))) hk rfl rfl rfl rfl (FW.f_loadBlk1 hk FW.h0 (j := 1) rfl rfl Try.underlying3 rfl rfl) ?_; clear hk; intro a w hk
    refine FW.lfun (y := .lit (.bool (decide (((List.getD v0.L (Int.toNat v0.I) default).Kind) = 3)))) hk rfl rfl rfl rfl ((FW.f_pure (FW.p_eql hk.kn FW.h0 rfl rfl))) ?_; clear hk; intro a w hk
    refine FW.lfun (y := .lit (.bool (decide (((List.getD v0.L (Int.toNat v0.I) default).Kind) = 3)))) hk rfl rfl rfl rfl (FW.f_assign hk FW.h0 rfl) ?_; clear hk; intro a w hk
    refine FW.lend (hK14 _ _ ?_); clear hK14 K'
    refine FW.wcondF (b := (decide (((List.getD v0.L (Int.toNat v0.I) default).Kind) = 3))) hk h rfl (fun h hb => ?_) (fun h hb => ?_)
    ·skip
     refine FW.wreg1 ?_
     refine FW.lfun (y := .lit (.pointer (some ⟨bx4, 3, none⟩))) hk rfl rfl rfl rfl (FW.f_fieldPtr hk FW.h0 rfl Try.underlying66 rfl (by kernel_rfl) rfl) ?_; clear hk; intro a w hk
     refine FW.lfun (y := .lit (.float .f64 ((List.getD v0.L (Int.toNat v0.I) default).F))) hk rfl rfl rfl rfl (FW.f_loadBlk1 hk FW.h0 (j := 1) rfl rfl Try.underlying30 rfl rfl) ?_; clear hk; intro a w hk
     refine FW.lfun (y := .agg ((ApiValue.cells (⟨3, false, 0, (List.getD v0.L (Int.toNat v0.I) default).F, [], []⟩ : ApiValue)))) hk rfl rfl rfl rfl (FW.f_buildN [] hk FW.h0 rfl rfl rfl) ?_; clear hk; intro a w hk
     refine FW.l_store (I' := [FW.blk bx5 33 ((ApiValue.cells (⟨3, false, 0, (List.getD v0.L (Int.toNat v0.I) default).F, [], []⟩ : ApiValue))), FW.blk bx4 66 ((ApiWord.cells (List.getD v0.L (Int.toNat v0.I) default))), FW.blk bx3 33 ((ApiValue.cells (⟨0, false, 0, 0, [], []⟩ : ApiValue))), FW.blk bx2 64 ((Offshootref12State.cells (⟨[], 0, 0, 0, 0, 0⟩ : Offshootref12State))), FW.blk bx1 64 ((Offshootref12State.cells v0))]) (cs' := (ApiValue.cells (⟨3, false, 0, (List.getD v0.L (Int.toNat v0.I) default).F, [], []⟩ : ApiValue))) (j := 0) hk rfl rfl rfl rfl rfl (by kernel_rfl) rfl rfl ?_; clear hk; intro w hk
     refine wpList_nil ?_
     (repeat first | refine FW.then_normal ?_ | refine FW.block_normal ?_); exact hK7 _ _ ⟨(⟨3, false, 0, (List.getD v0.L (Int.toNat v0.I) default).F, [], []⟩ : ApiValue), v0, true, (hk.drop 1).sub ⟨rfl, rfl, rfl, rfl, rfl, trivial⟩, h⟩
    ·skip
     refine FW.wreg ?_; intro K' hK16
     refine FW.lfun (y := .lit (.pointer (some ⟨bx4, 0, none⟩))) hk rfl rfl rfl rfl (FW.f_fieldPtr hk FW.h0 rfl Try.underlying66 rfl (by kernel_rfl) rfl) ?_; clear hk; intro a w hk
     refine FW.lfun (y := .lit (.int .i64 ((List.getD v0.L (Int.toNat v0.I) default).Kind))) hk rfl rfl rfl rfl (FW.f_loadBlk1 hk FW.h0 (j := 1) rfl rfl Try.underlying3 rfl rfl) ?_; clear hk; intro a w hk
     refine FW.lfun (y := .lit (.bool (decide (((List.getD v0.L (Int.toNat v0.I) default).Kind) = 4)))) hk rfl rfl rfl rfl ((FW.f_pure (FW.p_eql hk.kn FW.h0 rfl rfl))) ?_; clear hk; intro a w hk
     refine FW.lfun (y := .lit (.bool (decide (((List.getD v0.L (Int.toNat v0.I) default).Kind) = 4)))) hk rfl rfl rfl rfl (FW.f_assign hk FW.h0 rfl) ?_; clear hk; intro a w hk
     refine FW.lend (hK16 _ _ ?_); clear hK16 K'
     refine FW.wcondF (b := (decide (((List.getD v0.L (Int.toNat v0.I) default).Kind) = 4))) hk h rfl (fun h hb => ?_) (fun h hb => ?_)
     ·skip
      refine FW.wreg1 ?_
      refine FW.lfun (y := .lit (.pointer (some ⟨bx4, 1, none⟩))) hk rfl rfl rfl rfl (FW.f_fieldPtr hk FW.h0 rfl Try.underlying66 rfl (by kernel_rfl) rfl) ?_; clear hk; intro a w hk
      refine FW.lfun (y := .lit (.string (FW.B ((List.getD v0.L (Int.toNat v0.I) default).S)))) hk rfl rfl rfl rfl (FW.f_loadBlk1 hk FW.h0 (j := 1) rfl rfl Try.underlying9 rfl rfl) ?_; clear hk; intro a w hk
      refine FW.lfun (y := .agg ((ApiValue.cells (⟨4, false, 0, 0, (List.getD v0.L (Int.toNat v0.I) default).S, []⟩ : ApiValue)))) hk rfl rfl rfl rfl (FW.f_buildN [] hk FW.h0 rfl rfl rfl) ?_; clear hk; intro a w hk
      refine FW.l_store (I' := [FW.blk bx5 33 ((ApiValue.cells (⟨4, false, 0, 0, (List.getD v0.L (Int.toNat v0.I) default).S, []⟩ : ApiValue))), FW.blk bx4 66 ((ApiWord.cells (List.getD v0.L (Int.toNat v0.I) default))), FW.blk bx3 33 ((ApiValue.cells (⟨0, false, 0, 0, [], []⟩ : ApiValue))), FW.blk bx2 64 ((Offshootref12State.cells (⟨[], 0, 0, 0, 0, 0⟩ : Offshootref12State))), FW.blk bx1 64 ((Offshootref12State.cells v0))]) (cs' := (ApiValue.cells (⟨4, false, 0, 0, (List.getD v0.L (Int.toNat v0.I) default).S, []⟩ : ApiValue))) (j := 0) hk rfl rfl rfl rfl rfl (by kernel_rfl) rfl rfl ?_; clear hk; intro w hk
      refine wpList_nil ?_
      (repeat first | refine FW.then_normal ?_ | refine FW.block_normal ?_); exact hK7 _ _ ⟨(⟨4, false, 0, 0, (List.getD v0.L (Int.toNat v0.I) default).S, []⟩ : ApiValue), v0, true, (hk.drop 1).sub ⟨rfl, rfl, rfl, rfl, rfl, trivial⟩, h⟩
     ·skip
      refine FW.wreg ?_; intro K' hK18
      refine FW.lfun (y := .lit (.pointer (some ⟨bx4, 0, none⟩))) hk rfl rfl rfl rfl (FW.f_fieldPtr hk FW.h0 rfl Try.underlying66 rfl (by kernel_rfl) rfl) ?_; clear hk; intro a w hk
      refine FW.lfun (y := .lit (.int .i64 ((List.getD v0.L (Int.toNat v0.I) default).Kind))) hk rfl rfl rfl rfl (FW.f_loadBlk1 hk FW.h0 (j := 1) rfl rfl Try.underlying3 rfl rfl) ?_; clear hk; intro a w hk
      refine FW.lfun (y := .lit (.bool (decide (((List.getD v0.L (Int.toNat v0.I) default).Kind) = 1)))) hk rfl rfl rfl rfl ((FW.f_pure (FW.p_eql hk.kn FW.h0 rfl rfl))) ?_; clear hk; intro a w hk
      refine FW.lfun (y := .lit (.bool (decide (((List.getD v0.L (Int.toNat v0.I) default).Kind) = 1)))) hk rfl rfl rfl rfl (FW.f_move hk FW.h0 rfl) ?_; clear hk; intro a w hk
      refine FW.lfunG (y := .lit (.pointer (some ⟨bx4, 1, none⟩))) hk rfl rfl rfl rfl rfl rfl rfl rfl (fun hc => FW.f_fieldPtr hk hc rfl Try.underlying66 rfl (by kernel_rfl) rfl) ?_; clear hk; intro a w hk
      refine FW.lfunG (y := .lit (.string (FW.B ((List.getD v0.L (Int.toNat v0.I) default).S)))) hk rfl rfl rfl rfl rfl rfl rfl rfl (fun hc => FW.f_loadBlk1 hk hc (j := 1) rfl rfl Try.underlying9 rfl rfl) ?_; clear hk; intro a w hk
      refine FW.lfunG (y := .lit (.bool (decide (((List.getD v0.L (Int.toNat v0.I) default).S) = ([116, 114, 117, 101] : List UInt8))))) hk rfl rfl rfl rfl rfl rfl rfl rfl (fun hc => (FW.f_pure (FW.p_seql hk.kn hc rfl rfl))) ?_; clear hk; intro a w hk
      refine FW.lfun (y := .lit (.bool ((decide (((List.getD v0.L (Int.toNat v0.I) default).Kind) = 1)) && (decide (((List.getD v0.L (Int.toNat v0.I) default).S) = ([116, 114, 117, 101] : List UInt8)))))) hk rfl rfl rfl rfl ((FW.f_pure (FW.p_pick_and hk.kn FW.h0 rfl rfl))) ?_; clear hk; intro a w hk
      refine FW.lfun (y := .lit (.bool ((decide (((List.getD v0.L (Int.toNat v0.I) default).Kind) = 1)) && (decide (((List.getD v0.L (Int.toNat v0.I) default).S) = ([116, 114, 117, 101] : List UInt8)))))) hk rfl rfl rfl rfl (FW.f_assign hk FW.h0 rfl) ?_; clear hk; intro a w hk
      refine FW.lend (hK18 _ _ ?_); clear hK18 K'
      refine FW.wcondF (b := ((decide (((List.getD v0.L (Int.toNat v0.I) default).Kind) = 1)) && (decide (((List.getD v0.L (Int.toNat v0.I) default).S) = ([116, 114, 117, 101] : List UInt8))))) hk h rfl (fun h hb => ?_) (fun h hb => ?_)
      ·skip
       refine FW.wreg1 ?_
       refine FW.lfun (y := .agg ((ApiValue.cells (⟨1, true, 0, 0, [], []⟩ : ApiValue)))) hk rfl rfl rfl rfl (FW.f_buildN [] hk FW.h0 rfl rfl rfl) ?_; clear hk; intro a w hk
       refine FW.l_store (I' := [FW.blk bx5 33 ((ApiValue.cells (⟨1, true, 0, 0, [], []⟩ : ApiValue))), FW.blk bx4 66 ((ApiWord.cells (List.getD v0.L (Int.toNat v0.I) default))), FW.blk bx3 33 ((ApiValue.cells (⟨0, false, 0, 0, [], []⟩ : ApiValue))), FW.blk bx2 64 ((Offshootref12State.cells (⟨[], 0, 0, 0, 0, 0⟩ : Offshootref12State))), FW.blk bx1 64 ((Offshootref12State.cells v0))]) (cs' := (ApiValue.cells (⟨1, true, 0, 0, [], []⟩ : ApiValue))) (j := 0) hk rfl rfl rfl rfl rfl (by kernel_rfl) rfl rfl ?_; clear hk; intro w hk
       refine wpList_nil ?_
       (repeat first | refine FW.then_normal ?_ | refine FW.block_normal ?_); exact hK7 _ _ ⟨(⟨1, true, 0, 0, [], []⟩ : ApiValue), v0, true, (hk.drop 1).sub ⟨rfl, rfl, rfl, rfl, rfl, trivial⟩, h⟩
      ·skip
       refine FW.wreg ?_; intro K' hK20
       refine FW.lfun (y := .lit (.pointer (some ⟨bx4, 0, none⟩))) hk rfl rfl rfl rfl (FW.f_fieldPtr hk FW.h0 rfl Try.underlying66 rfl (by kernel_rfl) rfl) ?_; clear hk; intro a w hk
       refine FW.lfun (y := .lit (.int .i64 ((List.getD v0.L (Int.toNat v0.I) default).Kind))) hk rfl rfl rfl rfl (FW.f_loadBlk1 hk FW.h0 (j := 1) rfl rfl Try.underlying3 rfl rfl) ?_; clear hk; intro a w hk
       refine FW.lfun (y := .lit (.bool (decide (((List.getD v0.L (Int.toNat v0.I) default).Kind) = 1)))) hk rfl rfl rfl rfl ((FW.f_pure (FW.p_eql hk.kn FW.h0 rfl rfl))) ?_; clear hk; intro a w hk
       refine FW.lfun (y := .lit (.bool (decide (((List.getD v0.L (Int.toNat v0.I) default).Kind) = 1)))) hk rfl rfl rfl rfl (FW.f_move hk FW.h0 rfl) ?_; clear hk; intro a w hk
       refine FW.lfunG (y := .lit (.pointer (some ⟨bx4, 1, none⟩))) hk rfl rfl rfl rfl rfl rfl rfl rfl (fun hc => FW.f_fieldPtr hk hc rfl Try.underlying66 rfl (by kernel_rfl) rfl) ?_; clear hk; intro a w hk
       refine FW.lfunG (y := .lit (.string (FW.B ((List.getD v0.L (Int.toNat v0.I) default).S)))) hk rfl rfl rfl rfl rfl rfl rfl rfl (fun hc => FW.f_loadBlk1 hk hc (j := 1) rfl rfl Try.underlying9 rfl rfl) ?_; clear hk; intro a w hk
       refine FW.lfunG (y := .lit (.bool (decide (((List.getD v0.L (Int.toNat v0.I) default).S) = ([102, 97, 108, 115, 101] : List UInt8))))) hk rfl rfl rfl rfl rfl rfl rfl rfl (fun hc => (FW.f_pure (FW.p_seql hk.kn hc rfl rfl))) ?_; clear hk; intro a w hk
       refine FW.lfun (y := .lit (.bool ((decide (((List.getD v0.L (Int.toNat v0.I) default).Kind) = 1)) && (decide (((List.getD v0.L (Int.toNat v0.I) default).S) = ([102, 97, 108, 115, 101] : List UInt8)))))) hk rfl rfl rfl rfl ((FW.f_pure (FW.p_pick_and hk.kn FW.h0 rfl rfl))) ?_; clear hk; intro a w hk
       refine FW.lfun (y := .lit (.bool ((decide (((List.getD v0.L (Int.toNat v0.I) default).Kind) = 1)) && (decide (((List.getD v0.L (Int.toNat v0.I) default).S) = ([102, 97, 108, 115, 101] : List UInt8)))))) hk rfl rfl rfl rfl (FW.f_assign hk FW.h0 rfl) ?_; clear hk; intro a w hk
       refine FW.lend (hK20 _ _ ?_); clear hK20 K'
       refine FW.wcondF (b := ((decide (((List.getD v0.L (Int.toNat v0.I) default).Kind) = 1)) && (decide (((List.getD v0.L (Int.toNat v0.I) default).S) = ([102, 97, 108, 115, 101] : List UInt8))))) hk h rfl (fun h hb => ?_) (fun h hb => ?_)
       ·skip
        refine FW.wreg1 ?_
        refine FW.lfun (y := .agg ((ApiValue.cells (⟨1, false, 0, 0, [], []⟩ : ApiValue)))) hk rfl rfl rfl rfl (FW.f_buildN [] hk FW.h0 rfl rfl rfl) ?_; clear hk; intro a w hk
        refine FW.l_store (I' := [FW.blk bx5 33 ((ApiValue.cells (⟨1, false, 0, 0, [], []⟩ : ApiValue))), FW.blk bx4 66 ((ApiWord.cells (List.getD v0.L (Int.toNat v0.I) default))), FW.blk bx3 33 ((ApiValue.cells (⟨0, false, 0, 0, [], []⟩ : ApiValue))), FW.blk bx2 64 ((Offshootref12State.cells (⟨[], 0, 0, 0, 0, 0⟩ : Offshootref12State))), FW.blk bx1 64 ((Offshootref12State.cells v0))]) (cs' := (ApiValue.cells (⟨1, false, 0, 0, [], []⟩ : ApiValue))) (j := 0) hk rfl rfl rfl rfl rfl (by kernel_rfl) rfl rfl ?_; clear hk; intro w hk
        refine wpList_nil ?_
        (repeat first | refine FW.then_normal ?_ | refine FW.block_normal ?_); exact hK7 _ _ ⟨(⟨1, false, 0, 0, [], []⟩ : ApiValue), v0, true, (hk.drop 1).sub ⟨rfl, rfl, rfl, rfl, rfl, trivial⟩, h⟩
       ·skip
        refine FW.wreg ?_; intro K' hK22
        refine FW.lfun (y := .lit (.pointer (some ⟨bx4, 0, none⟩))) hk rfl rfl rfl rfl (FW.f_fieldPtr hk FW.h0 rfl Try.underlying66 rfl (by kernel_rfl) rfl) ?_; clear hk; intro a w hk
        refine FW.lfun (y := .lit (.int .i64 ((List.getD v0.L (Int.toNat v0.I) default).Kind))) hk rfl rfl rfl rfl (FW.f_loadBlk1 hk FW.h0 (j := 1) rfl rfl Try.underlying3 rfl rfl) ?_; clear hk; intro a w hk
        refine FW.lfun (y := .lit (.bool (decide (((List.getD v0.L (Int.toNat v0.I) default).Kind) = 1)))) hk rfl rfl rfl rfl ((FW.f_pure (FW.p_eql hk.kn FW.h0 rfl rfl))) ?_; clear hk; intro a w hk
        refine FW.lfun (y := .lit (.bool (decide (((List.getD v0.L (Int.toNat v0.I) default).Kind) = 1)))) hk rfl rfl rfl rfl (FW.f_move hk FW.h0 rfl) ?_; clear hk; intro a w hk
        refine FW.lfunG (y := .lit (.pointer (some ⟨bx4, 1, none⟩))) hk rfl rfl rfl rfl rfl rfl rfl rfl (fun hc => FW.f_fieldPtr hk hc rfl Try.underlying66 rfl (by kernel_rfl) rfl) ?_; clear hk; intro a w hk
        refine FW.lfunG (y := .lit (.string (FW.B ((List.getD v0.L (Int.toNat v0.I) default).S)))) hk rfl rfl rfl rfl rfl rfl rfl rfl (fun hc => FW.f_loadBlk1 hk hc (j := 1) rfl rfl Try.underlying9 rfl rfl) ?_; clear hk; intro a w hk
        refine FW.lfunG (y := .lit (.bool (decide (((List.getD v0.L (Int.toNat v0.I) default).S) = ([110, 117, 108, 108] : List UInt8))))) hk rfl rfl rfl rfl rfl rfl rfl rfl (fun hc => (FW.f_pure (FW.p_seql hk.kn hc rfl rfl))) ?_; clear hk; intro a w hk
        refine FW.lfun (y := .lit (.bool ((decide (((List.getD v0.L (Int.toNat v0.I) default).Kind) = 1)) && (decide (((List.getD v0.L (Int.toNat v0.I) default).S) = ([110, 117, 108, 108] : List UInt8)))))) hk rfl rfl rfl rfl ((FW.f_pure (FW.p_pick_and hk.kn FW.h0 rfl rfl))) ?_; clear hk; intro a w hk
        refine FW.lfun (y := .lit (.bool ((decide (((List.getD v0.L (Int.toNat v0.I) default).Kind) = 1)) && (decide (((List.getD v0.L (Int.toNat v0.I) default).S) = ([110, 117, 108, 108] : List UInt8)))))) hk rfl rfl rfl rfl (FW.f_assign hk FW.h0 rfl) ?_; clear hk; intro a w hk
        refine FW.lend (hK22 _ _ ?_); clear hK22 K'
        refine FW.wcondF (b := ((decide (((List.getD v0.L (Int.toNat v0.I) default).Kind) = 1)) && (decide (((List.getD v0.L (Int.toNat v0.I) default).S) = ([110, 117, 108, 108] : List UInt8))))) hk h rfl (fun h hb => ?_) (fun h hb => ?_)
        ·skip
         refine wp_skip ?_
         (repeat first | refine FW.then_normal ?_ | refine FW.block_normal ?_); exact hK7 _ _ ⟨(⟨0, false, 0, 0, [], []⟩ : ApiValue), v0, true, (hk.drop 1).sub ⟨rfl, rfl, rfl, rfl, rfl, trivial⟩, h⟩
        ·skip
         refine FW.wreg ?_; intro K' hK23
         refine FW.lfun (y := .agg ((Offshootref12State.cells v0))) hk rfl rfl rfl rfl (FW.f_loadBlk hk FW.h0 (j := 4) rfl rfl Try.underlying64 rfl rfl rfl rfl) ?_; clear hk; intro a w hk
         obtain ⟨t1, hr_t1, h⟩ := FW.bnd h
         refine FW.lfun (y := .lit (.bool t1)) hk rfl rfl rfl rfl (FW.f_call hk FW.h0 rfl rfl Try.func51 rfl (by kernel_rfl) (offshootref12_State_is.ok v0 ([91] : List UInt8) _ hr_t1)) ?_; clear hk; intro a w hk
         refine FW.lfun (y := .lit (.bool t1)) hk rfl rfl rfl rfl (FW.f_assign hk FW.h0 rfl) ?_; clear hk; intro a w hk
         refine FW.lend (hK23 _ _ ?_); clear hK23 K'
         refine FW.wcondF (b := t1) hk h rfl (fun h hb => ?_) (fun h hb => ?_)
         ·skip
          refine FW.wreg ?_; intro K' hK24
          refine FW.lfun (y := .lit (.pointer (some ⟨bx1, 1, none⟩))) hk rfl rfl rfl rfl (FW.f_fieldPtr hk FW.h0 rfl Try.underlying64 rfl (by kernel_rfl) rfl) ?_; clear hk; intro a w hk
          refine FW.lfun (y := .lit (.int .i64 v0.I)) hk rfl rfl rfl rfl (FW.f_loadBlk1 hk FW.h0 (j := 4) rfl rfl Try.underlying3 rfl rfl) ?_; clear hk; intro a w hk
          refine FW.lfun (y := .lit (.int .i64 (IntKind.wrap .i64 (v0.I + 1)))) hk rfl rfl rfl rfl ((FW.f_pure (FW.p_add hk.kn FW.h0 rfl rfl))) ?_; clear hk; intro a w hk
          refine FW.lfun (y := .lit (.pointer (some ⟨bx1, 1, none⟩))) hk rfl rfl rfl rfl (FW.f_fieldPtr hk FW.h0 rfl Try.underlying64 rfl (by kernel_rfl) rfl) ?_; clear hk; intro a w hk
          refine FW.l_store (I' := [FW.blk bx5 33 ((ApiValue.cells (⟨0, false, 0, 0, [], []⟩ : ApiValue))), FW.blk bx4 66 ((ApiWord.cells (List.getD v0.L (Int.toNat v0.I) default))), FW.blk bx3 33 ((ApiValue.cells (⟨0, false, 0, 0, [], []⟩ : ApiValue))), FW.blk bx2 64 ((Offshootref12State.cells (⟨[], 0, 0, 0, 0, 0⟩ : Offshootref12State))), FW.blk bx1 64 ((Offshootref12State.cells (⟨v0.L, (IntKind.wrap .i64 (v0.I + 1)), v0.Deep, v0.Steps, v0.At, v0.E⟩ : Offshootref12State)))]) (cs' := (Offshootref12State.cells (⟨v0.L, (IntKind.wrap .i64 (v0.I + 1)), v0.Deep, v0.Steps, v0.At, v0.E⟩ : Offshootref12State))) (j := 4) hk rfl rfl rfl rfl rfl (by kernel_rfl) rfl rfl ?_; clear hk; intro w hk
          refine FW.lend (hK24 _ _ ?_); clear hK24 K'
          refine FW.wreg ?_; intro K' hK25
          refine FW.lfun (y := .lit (.pointer (some ⟨bx1, 2, none⟩))) hk rfl rfl rfl rfl (FW.f_fieldPtr hk FW.h0 rfl Try.underlying64 rfl (by kernel_rfl) rfl) ?_; clear hk; intro a w hk
          refine FW.lfun (y := .lit (.int .i64 v0.Deep)) hk rfl rfl rfl rfl (FW.f_loadBlk1 hk FW.h0 (j := 4) rfl rfl Try.underlying3 rfl rfl) ?_; clear hk; intro a w hk
          refine FW.lfun (y := .lit (.int .i64 v0.Deep)) hk rfl rfl rfl rfl (FW.f_assign hk FW.h0 rfl) ?_; clear hk; intro a w hk
          refine FW.lend (hK25 _ _ ?_); clear hK25 K'
          refine FW.wreg ?_; intro K' hK26
          refine FW.lfun (y := .agg ((Offshootref12State.cells (⟨v0.L, (IntKind.wrap .i64 (v0.I + 1)), v0.Deep, v0.Steps, v0.At, v0.E⟩ : Offshootref12State)))) hk rfl rfl rfl rfl (FW.f_loadBlk hk FW.h0 (j := 4) rfl rfl Try.underlying64 rfl rfl rfl rfl) ?_; clear hk; intro a w hk
          obtain ⟨t2, hr_t2, h⟩ := FW.bnd h
          refine FW.lfun (y := .agg ((Offshootref12State.cells t2))) hk rfl rfl rfl rfl (FW.f_call hk FW.h0 rfl rfl Try.func79 rfl (by kernel_rfl) (offshootref12_State_into.ok (⟨v0.L, (IntKind.wrap .i64 (v0.I + 1)), v0.Deep, v0.Steps, v0.At, v0.E⟩ : Offshootref12State) _ hr_t2)) ?_; clear hk; intro a w hk
          refine FW.l_store (I' := [FW.blk bx5 33 ((ApiValue.cells (⟨0, false, 0, 0, [], []⟩ : ApiValue))), FW.blk bx4 66 ((ApiWord.cells (List.getD v0.L (Int.toNat v0.I) default))), FW.blk bx3 33 ((ApiValue.cells (⟨0, false, 0, 0, [], []⟩ : ApiValue))), FW.blk bx2 64 ((Offshootref12State.cells (⟨[], 0, 0, 0, 0, 0⟩ : Offshootref12State))), FW.blk bx1 64 ((Offshootref12State.cells t2))]) (cs' := (Offshootref12State.cells t2)) (j := 4) hk rfl rfl rfl rfl rfl (by kernel_rfl) rfl rfl ?_; clear hk; intro w hk
          refine FW.lend (hK26 _ _ ?_); clear hK26 K'
          refine FW.wreg ?_; intro K' hK27
          refine FW.lfun (y := .agg ((Offshootref12State.cells t2))) hk rfl rfl rfl rfl (FW.f_loadBlk hk FW.h0 (j := 4) rfl rfl Try.underlying64 rfl rfl rfl rfl) ?_; clear hk; intro a w hk
          obtain ⟨t3, hr_t3, h⟩ := FW.bnd h
          refine FW.lfun (y := .tup [.agg ((Offshootref12State.cells t3.1)), .row (r_ApiValue_cells t3.2)]) hk rfl rfl rfl rfl (FW.f_call hk FW.h0 rfl rfl Try.func108 rfl (by kernel_rfl) (hs_offshootref12_State_values t2 ([93] : List UInt8) _ hr_t3)) ?_; clear hk; intro a w hk
          refine FW.lfun (y := .tup [.agg ((Offshootref12State.cells t3.1)), .row (r_ApiValue_cells t3.2)]) hk rfl rfl rfl rfl (FW.f_move hk FW.h0 rfl) ?_; clear hk; intro a w hk
          refine FW.lfun (y := .agg ((Offshootref12State.cells t3.1))) hk rfl rfl rfl rfl (FW.f_extract hk FW.h0 rfl rfl) ?_; clear hk; intro a w hk
          refine FW.lfun (y := .row (r_ApiValue_cells t3.2)) hk rfl rfl rfl rfl (FW.f_extract hk FW.h0 rfl rfl) ?_; clear hk; intro a w hk
          refine FW.l_alloc (zs := (Offshootref12State.cells (⟨[], 0, 0, 0, 0, 0⟩ : Offshootref12State))) [] hk rfl rfl rfl rfl ?_; clear hk; intro bx6 a w hk
          refine FW.l_store (I' := [FW.blk bx6 64 ((Offshootref12State.cells t3.1)), FW.blk bx5 33 ((ApiValue.cells (⟨0, false, 0, 0, [], []⟩ : ApiValue))), FW.blk bx4 66 ((ApiWord.cells (List.getD v0.L (Int.toNat v0.I) default))), FW.blk bx3 33 ((ApiValue.cells (⟨0, false, 0, 0, [], []⟩ : ApiValue))), FW.blk bx2 64 ((Offshootref12State.cells (⟨[], 0, 0, 0, 0, 0⟩ : Offshootref12State))), FW.blk bx1 64 ((Offshootref12State.cells t2))]) (cs' := (Offshootref12State.cells t3.1)) (j := 0) hk rfl rfl rfl rfl rfl (by kernel_rfl) rfl rfl ?_; clear hk; intro w hk
          refine FW.lfun (y := .row (r_ApiValue_cells t3.2)) hk rfl rfl rfl rfl (FW.f_assign hk FW.h0 rfl) ?_; clear hk; intro a w hk
          refine FW.lend (hK27 _ _ ?_); clear hK27 K'
          refine FW.wreg ?_; intro K' hK28
          refine FW.lfun (y := .lit (.int .i64 v0.Deep)) hk rfl rfl rfl rfl (FW.f_move hk FW.h0 rfl) ?_; clear hk; intro a w hk
          refine FW.lfun (y := .lit (.pointer (some ⟨bx6, 2, none⟩))) hk rfl rfl rfl rfl (FW.f_fieldPtr hk FW.h0 rfl Try.underlying64 rfl (by kernel_rfl) rfl) ?_; clear hk; intro a w hk
          refine FW.l_store (I' := [FW.blk bx6 64 ((Offshootref12State.cells (⟨t3.1.L, t3.1.I, v0.Deep, t3.1.Steps, t3.1.At, t3.1.E⟩ : Offshootref12State))), FW.blk bx5 33 ((ApiValue.cells (⟨0, false, 0, 0, [], []⟩ : ApiValue))), FW.blk bx4 66 ((ApiWord.cells (List.getD v0.L (Int.toNat v0.I) default))), FW.blk bx3 33 ((ApiValue.cells (⟨0, false, 0, 0, [], []⟩ : ApiValue))), FW.blk bx2 64 ((Offshootref12State.cells (⟨[], 0, 0, 0, 0, 0⟩ : Offshootref12State))), FW.blk bx1 64 ((Offshootref12State.cells t2))]) (cs' := (Offshootref12State.cells (⟨t3.1.L, t3.1.I, v0.Deep, t3.1.Steps, t3.1.At, t3.1.E⟩ : Offshootref12State))) (j := 0) hk rfl rfl rfl rfl rfl (by kernel_rfl) rfl rfl ?_; clear hk; intro w hk
          refine FW.lend (hK28 _ _ ?_); clear hK28 K'
          refine FW.wdrawE (.next [true, true, true, true, true, true, false, false, false] 6 [true, true, true, true, true, true, false, false, false] (.next [false, true, true, true, true, true, false, false, false] 7 [true, true, true, true, true, true, true, false, false] (.leaf [false, false, false, true, true, true, false, false, true]))) [(91, [], .agg ((Offshootref12State.cells (⟨t3.1.L, t3.1.I, v0.Deep, t3.1.Steps, t3.1.At, t3.1.E⟩ : Offshootref12State)))), (92, [], .row (r_ApiValue_cells t3.2)), (93, [], .agg ((ApiValue.cells (⟨5, false, 0, 0, [], t3.2⟩ : ApiValue)))), (94, [], .lit (.pointer (some ⟨bx6, 5, none⟩))), (95, [], .lit (.int .i64 t3.1.E)), (96, [], .lit (.bool (decide (t3.1.E = 0)))), (105, [], .lit undef), (105, [], .lit undef), (4, [], .agg [])] (by kernel_rfl) (by kernel_rfl) (by kernel_rfl) (by kernel_rfl) hk ?_; clear hk
          refine FW.gnext0 ?_ rfl rfl rfl ?_
          ·skip
           refine FW.gfun (y := .agg ((Offshootref12State.cells (⟨t3.1.L, t3.1.I, v0.Deep, t3.1.Steps, t3.1.At, t3.1.E⟩ : Offshootref12State)))) rfl rfl rfl rfl (fun a w hk => FW.f_loadBlk hk FW.h0 (j := 0) rfl rfl Try.underlying64 rfl rfl rfl rfl) ?_
           refine FW.gfun (y := .row (r_ApiValue_cells t3.2)) rfl rfl rfl rfl (fun a w hk => FW.f_move hk FW.h0 rfl) ?_
           refine FW.gfun (y := .agg ((ApiValue.cells (⟨5, false, 0, 0, [], t3.2⟩ : ApiValue)))) rfl rfl rfl rfl (fun a w hk => FW.f_buildN [] hk FW.h0 rfl rfl rfl) ?_
           refine FW.gfun (y := .lit (.pointer (some ⟨bx6, 5, none⟩))) rfl rfl rfl rfl (fun a w hk => FW.f_fieldPtr hk FW.h0 rfl Try.underlying64 rfl (by kernel_rfl) rfl) ?_
           refine FW.gfun (y := .lit (.int .i64 t3.1.E)) rfl rfl rfl rfl (fun a w hk => FW.f_loadBlk1 hk FW.h0 (j := 0) rfl rfl Try.underlying23 rfl rfl) ?_
           refine FW.gfun (y := .lit (.bool (decide (t3.1.E = 0)))) rfl rfl rfl rfl (fun a w hk => (FW.f_pure (FW.p_eql hk.kn FW.h0 rfl rfl))) ?_
           refine FW.gskip0 rfl ?_
           refine FW.gskip0 rfl ?_
           refine FW.gskip rfl rfl ?_
           exact FW.gend
          ·skip
           intro σD a w opsD QD hk hQ hX
           refine FW.l_store (I' := [FW.blk bx6 64 ((Offshootref12State.cells (⟨t3.1.L, t3.1.I, v0.Deep, t3.1.Steps, t3.1.At, t3.1.E⟩ : Offshootref12State))), FW.blk bx5 33 ((ApiValue.cells (⟨0, false, 0, 0, [], []⟩ : ApiValue))), FW.blk bx4 66 ((ApiWord.cells (List.getD v0.L (Int.toNat v0.I) default))), FW.blk bx3 33 ((ApiValue.cells (⟨0, false, 0, 0, [], []⟩ : ApiValue))), FW.blk bx2 64 ((Offshootref12State.cells (⟨t3.1.L, t3.1.I, v0.Deep, t3.1.Steps, t3.1.At, t3.1.E⟩ : Offshootref12State))), FW.blk bx1 64 ((Offshootref12State.cells t2))]) (cs' := (Offshootref12State.cells (⟨t3.1.L, t3.1.I, v0.Deep, t3.1.Steps, t3.1.At, t3.1.E⟩ : Offshootref12State))) (j := 4) hk rfl rfl rfl rfl rfl (by kernel_rfl) rfl rfl ?_; clear hk; intro w hk
           refine hQ _ a w ?_ hk; clear hk hQ hX
           refine ⟨[(91, [], .agg ((Offshootref12State.cells (⟨t3.1.L, t3.1.I, v0.Deep, t3.1.Steps, t3.1.At, t3.1.E⟩ : Offshootref12State)))), (92, [], .row (r_ApiValue_cells t3.2)), (93, [], .agg ((ApiValue.cells (⟨5, false, 0, 0, [], t3.2⟩ : ApiValue)))), (94, [], .lit (.pointer (some ⟨bx6, 5, none⟩))), (95, [], .lit (.int .i64 t3.1.E)), (96, [], .lit (.bool (decide (t3.1.E = 0)))), (105, [], .lit undef), (105, [], .lit undef), (4, [], .agg [])], And.intro rfl (And.intro rfl (And.intro rfl (And.intro rfl (And.intro rfl (And.intro rfl (trivial)))))), rfl, ?_⟩
           refine FW.gnext0 ?_ rfl rfl rfl ?_
           ·skip
            refine FW.gskip rfl rfl ?_
            refine FW.gfun (y := .row (r_ApiValue_cells t3.2)) rfl rfl rfl rfl (fun a w hk => FW.f_move hk FW.h0 rfl) ?_
            refine FW.gfun (y := .agg ((ApiValue.cells (⟨5, false, 0, 0, [], t3.2⟩ : ApiValue)))) rfl rfl rfl rfl (fun a w hk => FW.f_buildN [] hk FW.h0 rfl rfl rfl) ?_
            refine FW.gfun (y := .lit (.pointer (some ⟨bx6, 5, none⟩))) rfl rfl rfl rfl (fun a w hk => FW.f_fieldPtr hk FW.h0 rfl Try.underlying64 rfl (by kernel_rfl) rfl) ?_
            refine FW.gfun (y := .lit (.int .i64 t3.1.E)) rfl rfl rfl rfl (fun a w hk => FW.f_loadBlk1 hk FW.h0 (j := 0) rfl rfl Try.underlying23 rfl rfl) ?_
            refine FW.gfun (y := .lit (.bool (decide (t3.1.E = 0)))) rfl rfl rfl rfl (fun a w hk => (FW.f_pure (FW.p_eql hk.kn FW.h0 rfl rfl))) ?_
            refine FW.gskip0 rfl ?_
            refine FW.gskip0 rfl ?_
            refine FW.gskip rfl rfl ?_
            exact FW.gend
           ·skip
            intro σD a w opsD QD hk hQ hX
            refine FW.l_store (I' := [FW.blk bx6 64 ((Offshootref12State.cells (⟨t3.1.L, t3.1.I, v0.Deep, t3.1.Steps, t3.1.At, t3.1.E⟩ : Offshootref12State))), FW.blk bx5 33 ((ApiValue.cells (⟨0, false, 0, 0, [], []⟩ : ApiValue))), FW.blk bx4 66 ((ApiWord.cells (List.getD v0.L (Int.toNat v0.I) default))), FW.blk bx3 33 ((ApiValue.cells (⟨5, false, 0, 0, [], t3.2⟩ : ApiValue))), FW.blk bx2 64 ((Offshootref12State.cells (⟨t3.1.L, t3.1.I, v0.Deep, t3.1.Steps, t3.1.At, t3.1.E⟩ : Offshootref12State))), FW.blk bx1 64 ((Offshootref12State.cells t2))]) (cs' := (ApiValue.cells (⟨5, false, 0, 0, [], t3.2⟩ : ApiValue))) (j := 3) hk rfl rfl rfl rfl rfl (by kernel_rfl) rfl rfl ?_; clear hk; intro w hk
            refine hQ _ a w ?_ hk; clear hk hQ hX
            refine ⟨[(91, [], .agg ((Offshootref12State.cells (⟨t3.1.L, t3.1.I, v0.Deep, t3.1.Steps, t3.1.At, t3.1.E⟩ : Offshootref12State)))), (92, [], .row (r_ApiValue_cells t3.2)), (93, [], .agg ((ApiValue.cells (⟨5, false, 0, 0, [], t3.2⟩ : ApiValue)))), (94, [], .lit (.pointer (some ⟨bx6, 5, none⟩))), (95, [], .lit (.int .i64 t3.1.E)), (96, [], .lit (.bool (decide (t3.1.E = 0)))), (105, [], .lit undef), (105, [], .lit undef), (4, [], .lit (.bool (decide (t3.1.E = 0))))], And.intro rfl (And.intro rfl (And.intro rfl (And.intro rfl (And.intro rfl (And.intro rfl (And.intro rfl (trivial))))))), rfl, ?_⟩
            refine FW.glast ?_ ?_
            ·skip
             refine FW.gskip rfl rfl ?_
             refine FW.gskip rfl rfl ?_
             refine FW.gskip rfl rfl ?_
             refine FW.gfun (y := .lit (.pointer (some ⟨bx6, 5, none⟩))) rfl rfl rfl rfl (fun a w hk => FW.f_fieldPtr hk FW.h0 rfl Try.underlying64 rfl (by kernel_rfl) rfl) ?_
             refine FW.gfun (y := .lit (.int .i64 t3.1.E)) rfl rfl rfl rfl (fun a w hk => FW.f_loadBlk1 hk FW.h0 (j := 0) rfl rfl Try.underlying23 rfl rfl) ?_
             refine FW.gfun (y := .lit (.bool (decide (t3.1.E = 0)))) rfl rfl rfl rfl (fun a w hk => (FW.f_pure (FW.p_eql hk.kn FW.h0 rfl rfl))) ?_
             refine FW.gskip0 rfl ?_
             refine FW.gskip0 rfl ?_
             refine FW.gfun (y := .lit (.bool (decide (t3.1.E = 0)))) rfl rfl rfl rfl (fun a w hk => FW.f_assign hk FW.h0 rfl) ?_
             exact FW.gend
            ·skip
             intro a w hk; simp only [FW.stD, cond_true] at hk
             refine wp_ret ?_
             (repeat first | refine FW.then_ret ?_ | refine FW.block_ret ?_)
             obtain rfl := Option.some.inj h
             exact FW.fretR3 hk rfl (FW.rcell hk rfl (j := 4) rfl Try.underlying64 rfl (by kernel_rfl)) (FW.rcell hk rfl (j := 3) rfl Try.underlying33 rfl (by kernel_rfl)) (FW.rtmp hk rfl)
         ·skip
          refine FW.wreg1 ?_
          refine FW.lfun (y := .lit (.bool false)) hk rfl rfl rfl rfl (FW.f_assign hk FW.h0 rfl) ?_; clear hk; intro a w hk
          refine wpList_nil ?_
          (repeat first | refine FW.then_normal ?_ | refine FW.block_normal ?_); exact hK7 _ _ ⟨(⟨0, false, 0, 0, [], []⟩ : ApiValue), v0, false, (hk.drop 1).sub ⟨rfl, rfl, rfl, rfl, rfl, trivial⟩, h⟩
theorem offshootref12_State_values.bok (s_offshootref12_State_value : Offshootref12State → Option (Offshootref12State × ApiValue × Bool)) (s_offshootref12_State_values : Offshootref12State → List UInt8 → Option (Offshootref12State × List ApiValue)) (hs_offshootref12_State_value : ∀ (v0 : Offshootref12State) (r : Offshootref12State × ApiValue × Bool), s_offshootref12_State_value v0 = some r → FW.Ok Try.prog 76 [.agg (Offshootref12State.cells v0)] (.tup [.agg (Offshootref12State.cells r.1), .agg (ApiValue.cells r.2.1), .lit (.bool r.2.2)])) (hs_offshootref12_State_values : ∀ (v0 : Offshootref12State) (v1 : List UInt8) (r : Offshootref12State × List ApiValue), s_offshootref12_State_values v0 v1 = some r → FW.Ok Try.prog 108 [.agg (Offshootref12State.cells v0), .lit (.string (FW.B v1))] (.tup [.agg (Offshootref12State.cells r.1), .row (r_ApiValue_cells r.2)])) (K : Nat) (v0 : Offshootref12State) (v1 : List UInt8) (r : Offshootref12State × List ApiValue) (h : offshootref12_State_values.b s_offshootref12_State_value s_offshootref12_State_values K v0 v1 = some r) :
  FW.Ok Try.prog 108 [.agg (Offshootref12State.cells v0), .lit (.string (FW.B v1))] (.tup [.agg (Offshootref12State.cells r.1), .row (r_ApiValue_cells r.2)]) := by
 refine FW.enter (xs := [.agg (Offshootref12State.cells v0), .lit (.string (FW.B v1))]) Try.func108 rfl Try.ntmps108 rfl ?_
 intro M w0 a hk
 unfold offshootref12_State_values.b at h
 refine FW.wreg ?_; intro K' hK1
 refine FW.l_box (cs := (Offshootref12State.cells v0)) hk rfl rfl rfl rfl rfl ?_; clear hk; intro bx1 a w hk
 refine FW.l_alloc (zs := (Offshootref12State.cells (⟨[], 0, 0, 0, 0, 0⟩ : Offshootref12State))) [] hk rfl rfl rfl rfl ?_; clear hk; intro bx2 a w hk
 refine FW.lfun (y := .row (r_ApiValue_cells [])) hk rfl rfl rfl rfl (FW.f_assignNil) ?_; clear hk; intro a w hk
 refine FW.lend (hK1 _ _ ?_); clear hK1 K'
 refine FW.wreg ?_; intro K' hK2
 refine FW.l_buildSlice0 (f := ApiValue.cells) hk rfl rfl Try.underlying31 rfl (fun _ => rfl) ?_; clear hk; intro bx3 a w hk
 refine FW.lfun (y := .lit (.slice (some ⟨bx3, 0, none⟩) (List.length ([] : List ApiValue)) 0)) hk rfl rfl rfl rfl (FW.f_assign hk FW.h0 rfl) ?_; clear hk; intro a w hk
 refine FW.lend (hK2 _ _ ?_); clear hK2 K'
 refine FW.wseq ?_; intro K' hK3
 refine wp_block ?_
 refine FW.wloop (T := Nat × List ApiValue × Offshootref12State × List UInt8 × Option Addr × Nat) (fun x a w => match x with | (kl1, l3, y1, v1, xd3, xc3) => FW.S M w0 a w 49 [FW.orow xd3 xc3 33 6 ApiValue.cells l3, FW.blk bx2 64 ((Offshootref12State.cells (⟨[], 0, 0, 0, 0, 0⟩ : Offshootref12State))), FW.blk bx1 64 ((Offshootref12State.cells y1))] [(1, [], .lit (.string (FW.B v1))), (2, [], .lit (.pointer (some ⟨bx1, 0, none⟩))), (4, [], .lit (.pointer (some ⟨bx2, 0, none⟩))), (6, [], .lit (.slice xd3 (List.length l3) xc3))] ∧ offshootref12_State_values.l1 s_offshootref12_State_value s_offshootref12_State_values K kl1 l3 y1 v1 = some r) (fun x => x.1) (K, ([] : List ApiValue), v0, v1, (some ⟨bx3, 0, none⟩), 0) ⟨hk.sub ⟨rfl, rfl, rfl, rfl, trivial⟩, h⟩ ?_
 clear hk h
 rintro ⟨kl1, l3, y1, v1, xd3, xc3⟩ a w ⟨hk, h⟩ K' hK4
 cases kl1 with
 | zero => simp [offshootref12_State_values.l1] at h
 | succ kl1 =>
 rw [offshootref12_State_values.l1.eq_2] at h
 refine FW.wseq ?_; intro K' hK5
 refine FW.wreg ?_; intro K' hK6
 refine FW.lfun (y := .lit (.pointer (some ⟨bx1, 5, none⟩))) hk rfl rfl rfl rfl (FW.f_fieldPtr hk FW.h0 rfl Try.underlying64 rfl (by kernel_rfl) rfl) ?_; clear hk; intro a w hk
 refine FW.lfun (y := .lit (.int .i64 y1.E)) hk rfl rfl rfl rfl (FW.f_loadBlk1 hk FW.h0 (j := 2) rfl rfl Try.underlying23 rfl rfl) ?_; clear hk; intro a w hk
 refine FW.lfun (y := .lit (.bool (decide (y1.E = 0)))) hk rfl rfl rfl rfl ((FW.f_pure (FW.p_eql hk.kn FW.h0 rfl rfl))) ?_; clear hk; intro a w hk
 refine FW.lfun (y := .lit (.bool (decide (y1.E = 0)))) hk rfl rfl rfl rfl (FW.f_move hk FW.h0 rfl) ?_; clear hk; intro a w hk
 refine FW.lfunG (y := .agg ((Offshootref12State.cells y1))) hk rfl rfl rfl rfl rfl rfl rfl rfl (fun hc => FW.f_loadBlk hk hc (j := 2) rfl rfl Try.underlying64 rfl rfl rfl rfl) ?_; clear hk; intro a w hk
 refine FW.lfunG (y := .lit (.string (FW.B v1))) hk rfl rfl rfl rfl rfl rfl rfl rfl (fun hc => FW.f_move hk hc rfl) ?_; clear hk; intro a w hk
 obtain ⟨t1, hr_t1, h⟩ := FW.bndG h
 refine FW.lfunG (y := .lit (.bool t1)) hk rfl rfl rfl rfl rfl rfl rfl rfl (fun hc => FW.f_call hk hc rfl rfl Try.func51 rfl (by kernel_rfl) (offshootref12_State_is.ok y1 v1 _ (hr_t1 (FW.asm_out (p := (decide (y1.E = 0)) = true) hk.kn hc (fun e0 => e0))))) ?_; clear hk; intro a w hk
 refine FW.lfunG (y := .lit (.bool (!t1))) hk rfl rfl rfl rfl rfl rfl rfl rfl (fun hc => (FW.f_pure (FW.p_not hk.kn hc rfl))) ?_; clear hk; intro a w hk
 refine FW.lfun (y := .lit (.bool ((decide (y1.E = 0)) && (!t1)))) hk rfl rfl rfl rfl ((FW.f_pure (FW.p_pick_and hk.kn FW.h0 rfl rfl))) ?_; clear hk; intro a w hk
 refine FW.lend (hK6 _ _ ?_); clear hK6 K'
 refine FW.wcondF (b := ((decide (y1.E = 0)) && (!t1))) hk h rfl (fun h hb => ?_) (fun h hb => ?_)
 ·skip
  refine wp_skip ?_
  (repeat first | refine FW.then_normal ?_ | refine FW.block_normal ?_); refine hK5 _ _ ?_
  refine wp_block ?_
  refine FW.wseqJ (fun a w => ∃ (y1 : Offshootref12State) (v1 : List UInt8), FW.S M w0 a w 49 [FW.orow xd3 xc3 33 6 ApiValue.cells l3, FW.blk bx2 64 ((Offshootref12State.cells (⟨[], 0, 0, 0, 0, 0⟩ : Offshootref12State))), FW.blk bx1 64 ((Offshootref12State.cells y1))] [(1, [], .lit (.string (FW.B v1))), (2, [], .lit (.pointer (some ⟨bx1, 0, none⟩))), (4, [], .lit (.pointer (some ⟨bx2, 0, none⟩))), (6, [], .lit (.slice xd3 (List.length l3) xc3))] ∧ offshootref12_State_values.j1 s_offshootref12_State_value s_offshootref12_State_values (offshootref12_State_values.l1 s_offshootref12_State_value s_offshootref12_State_values K kl1) K l3 y1 v1 = some r) ?_ ?_
  ·clear hk h
   rintro a w ⟨y1, v1, hk, h⟩
   unfold offshootref12_State_values.j1 at h
   refine FW.wseqJ (fun a w => ∃ (y1 : Offshootref12State) (v1 : List UInt8), FW.S M w0 a w 49 [FW.orow xd3 xc3 33 6 ApiValue.cells l3, FW.blk bx2 64 ((Offshootref12State.cells (⟨[], 0, 0, 0, 0, 0⟩ : Offshootref12State))), FW.blk bx1 64 ((Offshootref12State.cells y1))] [(1, [], .lit (.string (FW.B v1))), (2, [], .lit (.pointer (some ⟨bx1, 0, none⟩))), (4, [], .lit (.pointer (some ⟨bx2, 0, none⟩))), (6, [], .lit (.slice xd3 (List.length l3) xc3))] ∧ offshootref12_State_values.j2 s_offshootref12_State_value s_offshootref12_State_values (offshootref12_State_values.l1 s_offshootref12_State_value s_offshootref12_State_values K kl1) K l3 y1 v1 = some r) ?_ ?_
   ·clear hk h
    rintro a w ⟨y1, v1, hk, h⟩
    unfold offshootref12_State_values.j2 at h
    refine FW.wreg ?_; intro K' hK9
    refine FW.lfun (y := .agg ((Offshootref12State.cells y1))) hk rfl rfl rfl rfl (FW.f_loadBlk hk FW.h0 (j := 2) rfl rfl Try.underlying64 rfl rfl rfl rfl) ?_; clear hk; intro a w hk
    obtain ⟨t2, hr_t2, h⟩ := FW.bnd h
    refine FW.lfun (y := .tup [.agg ((Offshootref12State.cells t2.1)), .agg ((ApiValue.cells t2.2.1)), .lit (.bool t2.2.2)]) hk rfl rfl rfl rfl (FW.f_call hk FW.h0 rfl rfl Try.func76 rfl (by kernel_rfl) (hs_offshootref12_State_value y1 _ hr_t2)) ?_; clear hk; intro a w hk
    refine FW.lfun (y := .tup [.agg ((Offshootref12State.cells t2.1)), .agg ((ApiValue.cells t2.2.1)), .lit (.bool t2.2.2)]) hk rfl rfl rfl rfl (FW.f_move hk FW.h0 rfl) ?_; clear hk; intro a w hk
    refine FW.lfun (y := .agg ((Offshootref12State.cells t2.1))) hk rfl rfl rfl rfl (FW.f_extract hk FW.h0 rfl rfl) ?_; clear hk; intro a w hk
    refine FW.lfun (y := .agg ((ApiValue.cells t2.2.1))) hk rfl rfl rfl rfl (FW.f_extract hk FW.h0 rfl rfl) ?_; clear hk; intro a w hk
    refine FW.lfun (y := .lit (.bool t2.2.2)) hk rfl rfl rfl rfl (FW.f_extract hk FW.h0 rfl rfl) ?_; clear hk; intro a w hk
    refine FW.l_alloc (zs := (Offshootref12State.cells (⟨[], 0, 0, 0, 0, 0⟩ : Offshootref12State))) [] hk rfl rfl rfl rfl ?_; clear hk; intro bx4 a w hk
    refine FW.l_alloc (zs := (ApiValue.cells (⟨0, false, 0, 0, [], []⟩ : ApiValue))) [] hk rfl rfl rfl rfl ?_; clear hk; intro bx5 a w hk
    refine FW.l_store (I' := [FW.blk bx5 33 ((ApiValue.cells (⟨0, false, 0, 0, [], []⟩ : ApiValue))), FW.blk bx4 64 ((Offshootref12State.cells t2.1)), FW.orow xd3 xc3 33 6 ApiValue.cells l3, FW.blk bx2 64 ((Offshootref12State.cells (⟨[], 0, 0, 0, 0, 0⟩ : Offshootref12State))), FW.blk bx1 64 ((Offshootref12State.cells y1))]) (cs' := (Offshootref12State.cells t2.1)) (j := 1) hk rfl rfl rfl rfl rfl (by kernel_rfl) rfl rfl ?_; clear hk; intro w hk
    refine FW.l_store (I' := [FW.blk bx5 33 ((ApiValue.cells t2.2.1)), FW.blk bx4 64 ((Offshootref12State.cells t2.1)), FW.orow xd3 xc3 33 6 ApiValue.cells l3, FW.blk bx2 64 ((Offshootref12State.cells (⟨[], 0, 0, 0, 0, 0⟩ : Offshootref12State))), FW.blk bx1 64 ((Offshootref12State.cells y1))]) (cs' := (ApiValue.cells t2.2.1)) (j := 0) hk rfl rfl rfl rfl rfl (by kernel_rfl) rfl rfl ?_; clear hk; intro w hk
    refine FW.lfun (y := .lit (.bool t2.2.2)) hk rfl rfl rfl rfl (FW.f_assign hk FW.h0 rfl) ?_; clear hk; intro a w hk
    refine FW.lend (hK9 _ _ ?_); clear hK9 K'
    refine FW.wreg ?_; intro K' hK10
    refine FW.lfun (y := .agg ((Offshootref12State.cells t2.1))) hk rfl rfl rfl rfl (FW.f_loadBlk hk FW.h0 (j := 1) rfl rfl Try.underlying64 rfl rfl rfl rfl) ?_; clear hk; intro a w hk
    refine FW.l_store (I' := [FW.blk bx5 33 ((ApiValue.cells t2.2.1)), FW.blk bx4 64 ((Offshootref12State.cells t2.1)), FW.orow xd3 xc3 33 6 ApiValue.cells l3, FW.blk bx2 64 ((Offshootref12State.cells (⟨[], 0, 0, 0, 0, 0⟩ : Offshootref12State))), FW.blk bx1 64 ((Offshootref12State.cells t2.1))]) (cs' := (Offshootref12State.cells t2.1)) (j := 4) hk rfl rfl rfl rfl rfl (by kernel_rfl) rfl rfl ?_; clear hk; intro w hk
    refine FW.lend (hK10 _ _ ?_); clear hK10 K'
    refine FW.wseqJ (fun a w => ∃ (y5 : ApiValue) (y1 : Offshootref12State) (v1 : List UInt8), FW.S M w0 a w 49 [FW.blk bx5 33 ((ApiValue.cells y5)), FW.orow xd3 xc3 33 6 ApiValue.cells l3, FW.blk bx2 64 ((Offshootref12State.cells (⟨[], 0, 0, 0, 0, 0⟩ : Offshootref12State))), FW.blk bx1 64 ((Offshootref12State.cells y1))] [(1, [], .lit (.string (FW.B v1))), (2, [], .lit (.pointer (some ⟨bx1, 0, none⟩))), (4, [], .lit (.pointer (some ⟨bx2, 0, none⟩))), (6, [], .lit (.slice xd3 (List.length l3) xc3)), (8, [], .lit (.pointer (some ⟨bx5, 0, none⟩)))] ∧ offshootref12_State_values.j3 s_offshootref12_State_value s_offshootref12_State_values (offshootref12_State_values.l1 s_offshootref12_State_value s_offshootref12_State_values K kl1) K l3 y5 y1 v1 = some r) ?_ ?_
    ·clear hk h
     rintro a w ⟨y5, y1, v1, hk, h⟩
     unfold offshootref12_State_values.j3 at h
     refine FW.wreg1 ?_
     refine FW.lfun (y := .lit (.slice xd3 (List.length l3) xc3)) hk rfl rfl rfl rfl (FW.f_move hk FW.h0 rfl) ?_; clear hk; intro a w hk
     refine FW.lfun (y := .agg ((ApiValue.cells y5))) hk rfl rfl rfl rfl (FW.f_loadBlk hk FW.h0 (j := 0) rfl rfl Try.underlying33 rfl rfl rfl rfl) ?_; clear hk; intro a w hk
     refine FW.l_buildSlice (f := ApiValue.cells) (l := ([y5] : List ApiValue)) hk rfl rfl rfl Try.underlying31 rfl rfl rfl rfl (fun _ => rfl) rfl ?_; clear hk; intro bx6 a w hk
     obtain ⟨hc1, h⟩ := FW.chk h
     refine FW.l_append (l2 := ([y5] : List ApiValue)) (l3 := (l3 ++ ([y5] : List ApiValue))) (I' := fun ad1 cap1 => [FW.orow (some ⟨bx6, 0, none⟩) 1 33 6 ApiValue.cells ([y5] : List ApiValue), FW.blk bx5 33 ((ApiValue.cells y5)), FW.orow ad1 cap1 33 6 ApiValue.cells (l3 ++ ([y5] : List ApiValue)), FW.blk bx2 64 ((Offshootref12State.cells (⟨[], 0, 0, 0, 0, 0⟩ : Offshootref12State))), FW.blk bx1 64 ((Offshootref12State.cells y1))]) (j := 2) hk rfl rfl rfl rfl (FW.own_src hk (j := 0) rfl rfl (fun _ => rfl) Try.underlying31) Try.underlying31 (by kernel_rfl) hc1 rfl (fun _ _ => rfl) ?_; clear hk; intro ad1 cap1 a w hk
     replace hk := FW.S.dropI (I' := [FW.blk bx5 33 ((ApiValue.cells y5)), FW.orow ad1 cap1 33 6 ApiValue.cells (l3 ++ ([y5] : List ApiValue)), FW.blk bx2 64 ((Offshootref12State.cells (⟨[], 0, 0, 0, 0, 0⟩ : Offshootref12State))), FW.blk bx1 64 ((Offshootref12State.cells y1))]) hk 0 rfl
     refine FW.lfun (y := .lit (.slice ad1 (List.length (l3 ++ ([y5] : List ApiValue))) cap1)) hk rfl rfl rfl rfl (FW.f_assign hk FW.h0 rfl) ?_; clear hk; intro a w hk
     refine wpList_nil ?_
     (repeat first | refine FW.then_normal ?_ | refine FW.block_normal ?_); exact hK4 (kl1, (l3 ++ ([y5] : List ApiValue)), y1, v1, ad1, cap1) _ _ (Nat.lt_succ_self _) ⟨(hk.drop 0).sub ⟨rfl, rfl, rfl, rfl, trivial⟩, h⟩
    ·intro K' hK11
     refine FW.wreg ?_; intro K' hK13
     refine FW.lfun (y := .lit (.bool t2.2.2)) hk rfl rfl rfl rfl (FW.f_move hk FW.h0 rfl) ?_; clear hk; intro a w hk
     refine FW.lfun (y := .lit (.bool (!t2.2.2))) hk rfl rfl rfl rfl ((FW.f_pure (FW.p_not hk.kn FW.h0 rfl))) ?_; clear hk; intro a w hk
     refine FW.lend (hK13 _ _ ?_); clear hK13 K'
     refine FW.wcondF (b := (!t2.2.2)) hk h rfl (fun h hb => ?_) (fun h hb => ?_)
     ·skip
      refine FW.wreg1 ?_
      refine FW.lfun (y := .agg ((Offshootref12State.cells t2.1))) hk rfl rfl rfl rfl (FW.f_loadBlk hk FW.h0 (j := 4) rfl rfl Try.underlying64 rfl rfl rfl rfl) ?_; clear hk; intro a w hk
      obtain ⟨t3, hr_t3, h⟩ := FW.bnd h
      refine FW.lfun (y := .agg ((Offshootref12State.cells t3))) hk rfl rfl rfl rfl (FW.f_call hk FW.h0 rfl rfl Try.func28 rfl (by kernel_rfl) (offshootref12_State_fail.ok t2.1 120 _ hr_t3)) ?_; clear hk; intro a w hk
      refine FW.l_store (I' := [FW.blk bx5 33 ((ApiValue.cells t2.2.1)), FW.blk bx4 64 ((Offshootref12State.cells t2.1)), FW.orow xd3 xc3 33 6 ApiValue.cells l3, FW.blk bx2 64 ((Offshootref12State.cells (⟨[], 0, 0, 0, 0, 0⟩ : Offshootref12State))), FW.blk bx1 64 ((Offshootref12State.cells t3))]) (cs' := (Offshootref12State.cells t3)) (j := 4) hk rfl rfl rfl rfl rfl (by kernel_rfl) rfl rfl ?_; clear hk; intro w hk
      refine wpList_nil ?_
      (repeat first | refine FW.then_normal ?_ | refine FW.block_normal ?_); exact hK11 _ _ ⟨t2.2.1, t3, v1, (hk.drop 1).sub ⟨rfl, rfl, rfl, rfl, rfl, trivial⟩, h⟩
     ·skip
      refine wp_skip ?_
      (repeat first | refine FW.then_normal ?_ | refine FW.block_normal ?_); exact hK11 _ _ ⟨t2.2.1, t2.1, v1, (hk.drop 1).sub ⟨rfl, rfl, rfl, rfl, rfl, trivial⟩, h⟩
   ·intro K' hK8
    refine FW.wreg ?_; intro K' hK15
    refine FW.lfun (y := .lit (.slice xd3 (List.length l3) xc3)) hk rfl rfl rfl rfl (FW.f_move hk FW.h0 rfl) ?_; clear hk; intro a w hk
    refine FW.lfun (y := .lit (.int .i64 (List.length l3 : Int))) hk rfl rfl rfl rfl ((FW.f_pure (FW.p_len Try.underlying31 hk.kn FW.h0 rfl))) ?_; clear hk; intro a w hk
    refine FW.lfun (y := .lit (.bool (decide (12 ≤ (List.length l3 : Int))))) hk rfl rfl rfl rfl ((FW.f_pure (FW.p_geq hk.kn FW.h0 rfl rfl))) ?_; clear hk; intro a w hk
    refine FW.lend (hK15 _ _ ?_); clear hK15 K'
    refine FW.wcondF (b := (decide (12 ≤ (List.length l3 : Int)))) hk h rfl (fun h hb => ?_) (fun h hb => ?_)
    ·skip
     refine FW.wreg1 ?_
     refine FW.lfun (y := .agg ((Offshootref12State.cells y1))) hk rfl rfl rfl rfl (FW.f_loadBlk hk FW.h0 (j := 2) rfl rfl Try.underlying64 rfl rfl rfl rfl) ?_; clear hk; intro a w hk
     obtain ⟨t4, hr_t4, h⟩ := FW.bnd h
     refine FW.lfun (y := .agg ((Offshootref12State.cells t4))) hk rfl rfl rfl rfl (FW.f_call hk FW.h0 rfl rfl Try.func28 rfl (by kernel_rfl) (offshootref12_State_fail.ok y1 3 _ hr_t4)) ?_; clear hk; intro a w hk
     refine FW.l_store (I' := [FW.orow xd3 xc3 33 6 ApiValue.cells l3, FW.blk bx2 64 ((Offshootref12State.cells (⟨[], 0, 0, 0, 0, 0⟩ : Offshootref12State))), FW.blk bx1 64 ((Offshootref12State.cells t4))]) (cs' := (Offshootref12State.cells t4)) (j := 2) hk rfl rfl rfl rfl rfl (by kernel_rfl) rfl rfl ?_; clear hk; intro w hk
     refine wpList_nil ?_
     (repeat first | refine FW.then_normal ?_ | refine FW.block_normal ?_); exact hK8 _ _ ⟨t4, v1, hk.sub ⟨rfl, rfl, rfl, rfl, trivial⟩, h⟩
    ·skip
     refine wp_skip ?_
     (repeat first | refine FW.then_normal ?_ | refine FW.block_normal ?_); exact hK8 _ _ ⟨y1, v1, hk.sub ⟨rfl, rfl, rfl, rfl, trivial⟩, h⟩
  ·intro K' hK7
   refine FW.wreg ?_; intro K' hK17
   refine FW.lfun (y := .lit (.slice xd3 (List.length l3) xc3)) hk rfl rfl rfl rfl (FW.f_move hk FW.h0 rfl) ?_; clear hk; intro a w hk
   refine FW.lfun (y := .lit (.int .i64 (List.length l3 : Int))) hk rfl rfl rfl rfl ((FW.f_pure (FW.p_len Try.underlying31 hk.kn FW.h0 rfl))) ?_; clear hk; intro a w hk
   refine FW.lfun (y := .lit (.bool (decide (0 < (List.length l3 : Int))))) hk rfl rfl rfl rfl ((FW.f_pure (FW.p_gtr hk.kn FW.h0 rfl rfl))) ?_; clear hk; intro a w hk
   refine FW.lend (hK17 _ _ ?_); clear hK17 K'
   refine FW.wcondF (b := (decide (0 < (List.length l3 : Int)))) hk h rfl (fun h hb => ?_) (fun h hb => ?_)
   ·skip
    refine FW.wreg1 ?_
    refine FW.lfun (y := .agg ((Offshootref12State.cells y1))) hk rfl rfl rfl rfl (FW.f_loadBlk hk FW.h0 (j := 2) rfl rfl Try.underlying64 rfl rfl rfl rfl) ?_; clear hk; intro a w hk
    obtain ⟨t5, hr_t5, h⟩ := FW.bnd h
    refine FW.lfun (y := .agg ((Offshootref12State.cells t5))) hk rfl rfl rfl rfl (FW.f_call hk FW.h0 rfl rfl Try.func26 rfl (by kernel_rfl) (offshootref12_State_sign.ok y1 ([44] : List UInt8) _ hr_t5)) ?_; clear hk; intro a w hk
    refine FW.l_store (I' := [FW.orow xd3 xc3 33 6 ApiValue.cells l3, FW.blk bx2 64 ((Offshootref12State.cells (⟨[], 0, 0, 0, 0, 0⟩ : Offshootref12State))), FW.blk bx1 64 ((Offshootref12State.cells t5))]) (cs' := (Offshootref12State.cells t5)) (j := 2) hk rfl rfl rfl rfl rfl (by kernel_rfl) rfl rfl ?_; clear hk; intro w hk
    refine wpList_nil ?_
    (repeat first | refine FW.then_normal ?_ | refine FW.block_normal ?_); exact hK7 _ _ ⟨t5, v1, hk.sub ⟨rfl, rfl, rfl, rfl, trivial⟩, h⟩
   ·skip
    refine wp_skip ?_
    (repeat first | refine FW.then_normal ?_ | refine FW.block_normal ?_); exact hK7 _ _ ⟨y1, v1, hk.sub ⟨rfl, rfl, rfl, rfl, trivial⟩, h⟩
 ·skip
  refine wp_exit ?_; (repeat first | refine FW.then_exit ?_ | refine FW.block_exit_ne rfl ?_); refine FW.block_exit ?_
  (repeat first | refine FW.then_normal ?_ | refine FW.block_normal ?_); refine hK3 _ _ ?_
  refine FW.wreg ?_; intro K' hK19
  refine FW.lfun (y := .agg ((Offshootref12State.cells y1))) hk rfl rfl rfl rfl (FW.f_loadBlk hk FW.h0 (j := 2) rfl rfl Try.underlying64 rfl rfl rfl rfl) ?_; clear hk; intro a w hk
  refine FW.lfun (y := .lit (.string (FW.B v1))) hk rfl rfl rfl rfl (FW.f_move hk FW.h0 rfl) ?_; clear hk; intro a w hk
  obtain ⟨t6, hr_t6, h⟩ := FW.bnd h
  refine FW.lfun (y := .agg ((Offshootref12State.cells t6))) hk rfl rfl rfl rfl (FW.f_call hk FW.h0 rfl rfl Try.func26 rfl (by kernel_rfl) (offshootref12_State_sign.ok y1 v1 _ hr_t6)) ?_; clear hk; intro a w hk
  refine FW.lfun (y := .lit (.slice xd3 (List.length l3) xc3)) hk rfl rfl rfl rfl (FW.f_move hk FW.h0 rfl) ?_; clear hk; intro a w hk
  refine FW.l_store (I' := [FW.orow xd3 xc3 33 6 ApiValue.cells l3, FW.blk bx2 64 ((Offshootref12State.cells t6)), FW.blk bx1 64 ((Offshootref12State.cells y1))]) (cs' := (Offshootref12State.cells t6)) (j := 1) hk rfl rfl rfl rfl rfl (by kernel_rfl) rfl rfl ?_; clear hk; intro w hk
  refine FW.lfun (y := .lit (.slice xd3 (List.length l3) xc3)) hk rfl rfl rfl rfl (FW.f_assign hk FW.h0 rfl) ?_; clear hk; intro a w hk
  refine FW.lend (hK19 _ _ ?_); clear hK19 K'
  refine wp_ret ?_
  (repeat first | refine FW.then_ret ?_ | refine FW.block_ret ?_)
  replace hk := FW.S.freezeR (I' := [FW.blk bx2 64 ((Offshootref12State.cells t6)), FW.blk bx1 64 ((Offshootref12State.cells y1))]) r_ApiValue_cells_eq hk (j := 0) rfl (t := 5) rfl rfl
  obtain rfl := Option.some.inj h
  exact FW.fretR2 hk rfl (FW.rcell hk rfl (j := 0) rfl Try.underlying64 rfl (by kernel_rfl)) (FW.rtmp hk rfl)
theorem offshootref12_State_value_knot : ∀ K : Nat, (∀ (v0 : Offshootref12State) (r : Offshootref12State × ApiValue × Bool), offshootref12_State_value.f K v0 = some r → FW.Ok Try.prog 76 [.agg (Offshootref12State.cells v0)] (.tup [.agg (Offshootref12State.cells r.1), .agg (ApiValue.cells r.2.1), .lit (.bool r.2.2)])) ∧ (∀ (v0 : Offshootref12State) (v1 : List UInt8) (r : Offshootref12State × List ApiValue), offshootref12_State_values.f K v0 v1 = some r → FW.Ok Try.prog 108 [.agg (Offshootref12State.cells v0), .lit (.string (FW.B v1))] (.tup [.agg (Offshootref12State.cells r.1), .row (r_ApiValue_cells r.2)]))
 | 0 => ⟨fun v0 r h => by simp [offshootref12_State_value.f] at h, fun v0 v1 r h => by simp [offshootref12_State_values.f] at h⟩
 | K + 1 => ⟨fun v0 r h => by rw [offshootref12_State_value.f] at h; exact offshootref12_State_value.bok _ _ (offshootref12_State_value_knot K).1 (offshootref12_State_value_knot K).2 K v0 r h, fun v0 v1 r h => by rw [offshootref12_State_values.f] at h; exact offshootref12_State_values.bok _ _ (offshootref12_State_value_knot K).1 (offshootref12_State_value_knot K).2 K v0 v1 r h⟩
theorem offshootref12_State_value.ok (K : Nat) (v0 : Offshootref12State) (r : Offshootref12State × ApiValue × Bool) (h : offshootref12_State_value.f K v0 = some r) : FW.Ok Try.prog 76 [.agg (Offshootref12State.cells v0)] (.tup [.agg (Offshootref12State.cells r.1), .agg (ApiValue.cells r.2.1), .lit (.bool r.2.2)]) := (offshootref12_State_value_knot K).1 v0 r h
theorem offshootref12_State_values.ok (K : Nat) (v0 : Offshootref12State) (v1 : List UInt8) (r : Offshootref12State × List ApiValue) (h : offshootref12_State_values.f K v0 v1 = some r) : FW.Ok Try.prog 108 [.agg (Offshootref12State.cells v0), .lit (.string (FW.B v1))] (.tup [.agg (Offshootref12State.cells r.1), .row (r_ApiValue_cells r.2)]) := (offshootref12_State_value_knot K).2 v0 v1 r h
end Go.Proofs.Ytbjbgodcenopnaa

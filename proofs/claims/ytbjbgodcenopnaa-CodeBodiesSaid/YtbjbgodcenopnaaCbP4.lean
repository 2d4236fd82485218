/- Written by a program of this session (gen.py): the contracts of functions of the program. -/
import Derived.Test.YtbjbgodcenopnaaCbP3
namespace Go.Proofs.Ytbjbgodcenopnaa
set_option linter.unusedVariables false
set_option maxRecDepth 20000
set_option maxHeartbeats 10000000
abbrev Zzvs (zvs : St12 → List UInt8 → Option (St12 × List ApiValue)) : Prop := ∀ (v0 : St12) (v1 : List UInt8) (r : St12 × List ApiValue), zvs v0 v1 = some r → FW.Ok Try.prog 108 [.agg (St12.cells v0), .lit (.string (FW.B v1))] (.tup [.agg (St12.cells r.1), .row (r_ApiValue_cells r.2)])
abbrev Zzv (zv : St12 → Option (St12 × ApiValue × Bool)) : Prop := ∀ (v0 : St12) (r : St12 × ApiValue × Bool), zv v0 = some r → FW.Ok Try.prog 76 [.agg (St12.cells v0)] (.tup [.agg (St12.cells r.1), .agg (ApiValue.cells r.2.1), .lit (.bool r.2.2)])
theorem p12_value.bok (zv : St12 → Option (St12 × ApiValue × Bool)) (zvs : St12 → List UInt8 → Option (St12 × List ApiValue)) (hzv : Zzv zv) (hzvs : Zzvs zvs) (K : Nat) (v0 : St12) (r : St12 × ApiValue × Bool) (h : p12_value.b zv zvs K v0 = some r) :
  FW.Ok Try.prog 76 [.agg (St12.cells v0)] (.tup [.agg (St12.cells r.1), .agg (ApiValue.cells r.2.1), .lit (.bool r.2.2)]) := by
 refine FW.enter (xs := [.agg (St12.cells v0)]) Try.func76 rfl Try.ntmps76 rfl ?_
 intro M w0 a hk
 unfold p12_value.b at h
 refine FW.wreg fun _ q1 => ?_
 refine FW.l_box (cs := (St12.cells v0)) hk rfl rfl rfl rfl rfl ?_; clear hk; intro bx1 a w hk
 refine FW.l_alloc (zs := (St12.cells (⟨[], 0, 0, 0, 0, 0⟩ : St12))) [] hk rfl rfl rfl rfl ?_; clear hk; intro bx2 a w hk
 refine FW.l_alloc (zs := (ApiValue.cells (⟨0, false, 0, 0, [], []⟩ : ApiValue))) [] hk rfl rfl rfl rfl ?_; clear hk; intro bx3 a w hk
 refine FW.sA hk fun a w hk => ?_
 refine FW.lend (q1 _ _ ?_)
 refine FW.wseq fun _ q2 => ?_
 refine FW.wreg fun _ q3 => ?_
 refine FW.sFp 5 hk Try.underlying64 fun a w hk => ?_
 refine FW.lf (y := .lit (.int .i64 v0.E)) hk (FW.f_loadBlk1 hk FW.h0 (j := 2) rfl rfl Try.underlying23 rfl rfl) fun a w hk => ?_
 refine FW.lf (y := .lit (.bool (!decide (v0.E = 0)))) hk ((FW.f_pure (FW.p_neq hk.kn FW.h0 rfl rfl))) fun a w hk => ?_
 refine FW.lend (q3 _ _ ?_)
 refine FW.wcondF (b := (!decide (v0.E = 0))) hk h rfl (fun h hb => ?_) (fun h hb => ?_)
 ·skip
  refine FW.wreg fun _ q4 => ?_
  refine FW.lf (y := .agg ((St12.cells v0))) hk (FW.f_loadBlk hk FW.h0 (j := 2) rfl rfl Try.underlying64 rfl rfl rfl rfl) fun a w hk => ?_
  refine FW.lf (y := .agg ((ApiValue.cells (⟨0, false, 0, 0, [], []⟩ : ApiValue)))) hk (FW.f_buildN [] hk FW.h0 rfl rfl rfl) fun a w hk => ?_
  refine FW.st1 (cs' := (St12.cells v0)) hk rfl (by kernel_rfl) fun w hk => ?_
  refine FW.st0 (cs' := (ApiValue.cells (⟨0, false, 0, 0, [], []⟩ : ApiValue))) hk rfl (by kernel_rfl) fun w hk => ?_
  refine FW.sA hk fun a w hk => ?_
  refine FW.lend (q4 _ _ ?_)
  refine wp_ret ?_
  (repeat first | refine FW.then_ret ?_ | refine FW.block_ret ?_)
  obtain rfl := Option.some.inj h
  exact FW.fretR3 hk rfl (FW.rcell hk rfl (j := 1) rfl Try.underlying64 rfl (by kernel_rfl)) (FW.rcell hk rfl (j := 0) rfl Try.underlying33 rfl (by kernel_rfl)) (FW.rtmp hk rfl)
 refine wp_skip ?_
 (repeat first | refine FW.tn ?_ | refine FW.bn ?_); refine q2 _ _ ?_
 refine FW.wreg fun _ q5 => ?_
 refine FW.sFp 0 hk Try.underlying64 fun a w hk => ?_
 refine FW.lf (y := .row (r_ApiWord_cells v0.L)) hk (FW.f_loadBlk1 hk FW.h0 (j := 2) rfl rfl Try.underlying60 rfl rfl) fun a w hk => ?_
 refine FW.sFp 1 hk Try.underlying64 fun a w hk => ?_
 refine FW.lf (y := .lit (.int .i64 v0.I)) hk (FW.f_loadBlk1 hk FW.h0 (j := 2) rfl rfl Try.underlying3 rfl rfl) fun a w hk => ?_
 obtain ⟨hc1, h⟩ := FW.chk h
 refine FW.lf (y := .ref (ApiWord.cells (List.getD v0.L (Int.toNat v0.I) default))) hk (FW.f_indexAddr (R := r_ApiWord_cells) (f := ApiWord.cells) (l := v0.L) (sz := 5) r_ApiWord_cells_eq (fun _ => rfl) hk FW.h0 rfl rfl Try.underlying60 (by kernel_rfl) hc1) fun a w hk => ?_
 refine FW.lf (y := .agg ((ApiWord.cells (List.getD v0.L (Int.toNat v0.I) default)))) hk (FW.f_load hk FW.h0 rfl Try.underlying66 rfl rfl rfl rfl) fun a w hk => ?_
 refine FW.l_alloc (zs := (ApiWord.cells (⟨0, [], 0, 0, 0⟩ : ApiWord))) [] hk rfl rfl rfl rfl ?_; clear hk; intro bx4 a w hk
 refine FW.st0 (cs' := (ApiWord.cells (List.getD v0.L (Int.toNat v0.I) default))) hk rfl (by kernel_rfl) fun w hk => ?_
 refine FW.lend (q5 _ _ ?_)
 refine FW.wreg fun _ q6 => ?_
 refine FW.lf (y := .agg ((ApiValue.cells (⟨0, false, 0, 0, [], []⟩ : ApiValue)))) hk (FW.f_buildN [] hk FW.h0 rfl rfl rfl) fun a w hk => ?_
 refine FW.l_alloc (zs := (ApiValue.cells (⟨0, false, 0, 0, [], []⟩ : ApiValue))) [] hk rfl rfl rfl rfl ?_; clear hk; intro bx5 a w hk
 refine FW.st0 (cs' := (ApiValue.cells (⟨0, false, 0, 0, [], []⟩ : ApiValue))) hk rfl (by kernel_rfl) fun w hk => ?_
 refine FW.sA hk fun a w hk => ?_
 refine FW.lend (q6 _ _ ?_)
 refine FW.wseqJ (fun a w => ∃ (y5 : ApiValue) (y1 : St12) (v7 : Bool), FW.S M w0 a w 105 [FW.blk bx5 33 ((ApiValue.cells y5)), FW.blk bx3 33 ((ApiValue.cells (⟨0, false, 0, 0, [], []⟩ : ApiValue))), FW.blk bx2 64 ((St12.cells (⟨[], 0, 0, 0, 0, 0⟩ : St12))), FW.blk bx1 64 ((St12.cells y1))] [(1, [], .lit (.pointer (some ⟨bx1, 0, none⟩))), (2, [], .lit (.pointer (some ⟨bx2, 0, none⟩))), (3, [], .lit (.pointer (some ⟨bx3, 0, none⟩))), (6, [], .lit (.pointer (some ⟨bx5, 0, none⟩))), (7, [], .lit (.bool v7))] ∧ p12_value.j1 zv zvs K y5 y1 v7 = some r) ?_ ?_
 ·clear hk h
  rintro a w ⟨y5, y1, v7, hk, h⟩
  unfold p12_value.j1 at h
  refine FW.wseqJ (fun a w => ∃ (y1 : St12) (v7 : Bool), FW.S M w0 a w 105 [FW.blk bx5 33 ((ApiValue.cells y5)), FW.blk bx3 33 ((ApiValue.cells (⟨0, false, 0, 0, [], []⟩ : ApiValue))), FW.blk bx2 64 ((St12.cells (⟨[], 0, 0, 0, 0, 0⟩ : St12))), FW.blk bx1 64 ((St12.cells y1))] [(1, [], .lit (.pointer (some ⟨bx1, 0, none⟩))), (2, [], .lit (.pointer (some ⟨bx2, 0, none⟩))), (3, [], .lit (.pointer (some ⟨bx3, 0, none⟩))), (6, [], .lit (.pointer (some ⟨bx5, 0, none⟩))), (7, [], .lit (.bool v7))] ∧ p12_value.j2 zv zvs K y5 y1 v7 = some r) ?_ ?_
  ·clear hk h
   rintro a w ⟨y1, v7, hk, h⟩
   unfold p12_value.j2 at h
   refine FW.wdrawE (.next [true, true, true, false, false, false] 3 [true, true, true, false, false, false] (.next [false, true, true, false, false, false] 4 [true, true, true, true, false, false] (.leaf [false, false, true, false, false, true]))) [(102, [], .agg ((St12.cells y1))), (103, [], .agg ((ApiValue.cells y5))), (104, [], .lit (.bool v7)), (105, [], .lit undef), (105, [], .lit undef), (4, [], .agg [])] (by kernel_rfl) (by kernel_rfl) (by kernel_rfl) (by kernel_rfl) hk ?_; clear hk
   refine FW.gnext0 ?_ rfl rfl rfl ?_
   ·skip
    refine FW.gfun (y := .agg ((St12.cells y1))) rfl rfl rfl rfl (fun a w hk => FW.f_loadBlk hk FW.h0 (j := 3) rfl rfl Try.underlying64 rfl rfl rfl rfl) ?_
    refine FW.gfun (y := .agg ((ApiValue.cells y5))) rfl rfl rfl rfl (fun a w hk => FW.f_loadBlk hk FW.h0 (j := 0) rfl rfl Try.underlying33 rfl rfl rfl rfl) ?_
    refine FW.gfun (y := .lit (.bool v7)) rfl rfl rfl rfl (fun a w hk => FW.f_move hk FW.h0 rfl) ?_
    refine FW.gskip0 rfl ?_
    refine FW.gskip0 rfl ?_
    refine FW.gskip rfl rfl ?_
    exact FW.gend
   ·skip
    intro σD a w opsD QD hk hQ hX
    refine FW.st2 (cs' := (St12.cells y1)) hk rfl (by kernel_rfl) fun w hk => ?_
    refine hQ _ a w ?_ hk; clear hk hQ hX
    refine ⟨[(102, [], .agg ((St12.cells y1))), (103, [], .agg ((ApiValue.cells y5))), (104, [], .lit (.bool v7)), (105, [], .lit undef), (105, [], .lit undef), (4, [], .agg [])], And.intro rfl (And.intro rfl (And.intro rfl (trivial))), rfl, ?_⟩
    refine FW.gnext0 ?_ rfl rfl rfl ?_
    ·skip
     refine FW.gskip rfl rfl ?_
     refine FW.gfun (y := .agg ((ApiValue.cells y5))) rfl rfl rfl rfl (fun a w hk => FW.f_loadBlk hk FW.h0 (j := 0) rfl rfl Try.underlying33 rfl rfl rfl rfl) ?_
     refine FW.gfun (y := .lit (.bool v7)) rfl rfl rfl rfl (fun a w hk => FW.f_move hk FW.h0 rfl) ?_
     refine FW.gskip0 rfl ?_
     refine FW.gskip0 rfl ?_
     refine FW.gskip rfl rfl ?_
     exact FW.gend
    ·skip
     intro σD a w opsD QD hk hQ hX
     refine FW.st1 (cs' := (ApiValue.cells y5)) hk rfl (by kernel_rfl) fun w hk => ?_
     refine hQ _ a w ?_ hk; clear hk hQ hX
     refine ⟨[(102, [], .agg ((St12.cells y1))), (103, [], .agg ((ApiValue.cells y5))), (104, [], .lit (.bool v7)), (105, [], .lit undef), (105, [], .lit undef), (4, [], .lit (.bool v7))], And.intro rfl (And.intro rfl (And.intro rfl (And.intro rfl (trivial)))), rfl, ?_⟩
     refine FW.glast ?_ ?_
     ·skip
      refine FW.gskip rfl rfl ?_
      refine FW.gskip rfl rfl ?_
      refine FW.gfun (y := .lit (.bool v7)) rfl rfl rfl rfl (fun a w hk => FW.f_move hk FW.h0 rfl) ?_
      refine FW.gskip0 rfl ?_
      refine FW.gskip0 rfl ?_
      refine FW.gfun (y := .lit (.bool v7)) rfl rfl rfl rfl (fun a w hk => FW.f_assign hk FW.h0 rfl) ?_
      exact FW.gend
     ·skip
      intro a w hk; simp only [FW.stD, cond_true] at hk
      refine wp_ret ?_
      (repeat first | refine FW.then_ret ?_ | refine FW.block_ret ?_)
      obtain rfl := Option.some.inj h
      exact FW.fretR3 hk rfl (FW.rcell hk rfl (j := 2) rfl Try.underlying64 rfl (by kernel_rfl)) (FW.rcell hk rfl (j := 1) rfl Try.underlying33 rfl (by kernel_rfl)) (FW.rtmp hk rfl)
  ·intro K' q8
   refine FW.wreg fun _ q10 => ?_
   refine FW.sM hk fun a w hk => ?_
   refine FW.lend (q10 _ _ ?_)
   refine FW.wcondF (b := v7) hk h rfl (fun h hb => ?_) (fun h hb => ?_)
   ·skip
    refine FW.wreg1 ?_
    refine FW.sFp 1 hk Try.underlying64 fun a w hk => ?_
    refine FW.lf (y := .lit (.int .i64 y1.I)) hk (FW.f_loadBlk1 hk FW.h0 (j := 3) rfl rfl Try.underlying3 rfl rfl) fun a w hk => ?_
    refine FW.sAd hk fun a w hk => ?_
    refine FW.sFp 1 hk Try.underlying64 fun a w hk => ?_
    refine FW.st3 (cs' := (St12.cells (⟨y1.L, (IntKind.wrap .i64 (y1.I + 1)), y1.Deep, y1.Steps, y1.At, y1.E⟩ : St12))) hk rfl (by kernel_rfl) fun w hk => ?_
    refine wpList_nil ?_
    (repeat first | refine FW.tn ?_ | refine FW.bn ?_); exact q8 _ _ ⟨(⟨y1.L, (IntKind.wrap .i64 (y1.I + 1)), y1.Deep, y1.Steps, y1.At, y1.E⟩ : St12), v7, hk.sub ⟨rfl, rfl, rfl, rfl, rfl, trivial⟩, h⟩
   refine wp_skip ?_
   (repeat first | refine FW.tn ?_ | refine FW.bn ?_); exact q8 _ _ ⟨y1, v7, hk.sub ⟨rfl, rfl, rfl, rfl, rfl, trivial⟩, h⟩
 ·intro K' q7
  refine wp_block ?_
  refine FW.wreg fun _ q12 => ?_
  refine FW.sFp 0 hk Try.underlying66 fun a w hk => ?_
  refine FW.lf (y := .lit (.int .i64 ((List.getD v0.L (Int.toNat v0.I) default).Kind))) hk (FW.f_loadBlk1 hk FW.h0 (j := 1) rfl rfl Try.underlying3 rfl rfl) fun a w hk => ?_
  refine FW.sEq hk fun a w hk => ?_
  refine FW.sA hk fun a w hk => ?_
  refine FW.lend (q12 _ _ ?_)
  refine FW.wcondF (b := (decide (((List.getD v0.L (Int.toNat v0.I) default).Kind) = 2))) hk h rfl (fun h hb => ?_) (fun h hb => ?_)
  ·skip
   refine FW.wreg1 ?_
   refine FW.sFp 2 hk Try.underlying66 fun a w hk => ?_
   refine FW.lf (y := .lit (.int .i64 ((List.getD v0.L (Int.toNat v0.I) default).N))) hk (FW.f_loadBlk1 hk FW.h0 (j := 1) rfl rfl Try.underlying2 rfl rfl) fun a w hk => ?_
   refine FW.lf (y := .agg ((ApiValue.cells (⟨2, false, (List.getD v0.L (Int.toNat v0.I) default).N, 0, [], []⟩ : ApiValue)))) hk (FW.f_buildN [] hk FW.h0 rfl rfl rfl) fun a w hk => ?_
   refine FW.st0 (cs' := (ApiValue.cells (⟨2, false, (List.getD v0.L (Int.toNat v0.I) default).N, 0, [], []⟩ : ApiValue))) hk rfl (by kernel_rfl) fun w hk => ?_
   refine wpList_nil ?_
   (repeat first | refine FW.tn ?_ | refine FW.bn ?_); exact q7 _ _ ⟨(⟨2, false, (List.getD v0.L (Int.toNat v0.I) default).N, 0, [], []⟩ : ApiValue), v0, true, (hk.drop 1).sub ⟨rfl, rfl, rfl, rfl, rfl, trivial⟩, h⟩
  refine FW.wreg fun _ q14 => ?_
  refine FW.sFp 0 hk Try.underlying66 fun a w hk => ?_
  refine FW.lf (y := .lit (.int .i64 ((List.getD v0.L (Int.toNat v0.I) default).Kind))) hk (FW.f_loadBlk1 hk FW.h0 (j := 1) rfl rfl Try.underlying3 rfl rfl) fun a w hk => ?_
  refine FW.sEq hk fun a w hk => ?_
  refine FW.sA hk fun a w hk => ?_
  refine FW.lend (q14 _ _ ?_)
  refine FW.wcondF (b := (decide (((List.getD v0.L (Int.toNat v0.I) default).Kind) = 3))) hk h rfl (fun h hb => ?_) (fun h hb => ?_)
  ·skip
   refine FW.wreg1 ?_
   refine FW.sFp 3 hk Try.underlying66 fun a w hk => ?_
   refine FW.lf (y := .lit (.float .f64 ((List.getD v0.L (Int.toNat v0.I) default).F))) hk (FW.f_loadBlk1 hk FW.h0 (j := 1) rfl rfl Try.underlying30 rfl rfl) fun a w hk => ?_
   refine FW.lf (y := .agg ((ApiValue.cells (⟨3, false, 0, (List.getD v0.L (Int.toNat v0.I) default).F, [], []⟩ : ApiValue)))) hk (FW.f_buildN [] hk FW.h0 rfl rfl rfl) fun a w hk => ?_
   refine FW.st0 (cs' := (ApiValue.cells (⟨3, false, 0, (List.getD v0.L (Int.toNat v0.I) default).F, [], []⟩ : ApiValue))) hk rfl (by kernel_rfl) fun w hk => ?_
   refine wpList_nil ?_
   (repeat first | refine FW.tn ?_ | refine FW.bn ?_); exact q7 _ _ ⟨(⟨3, false, 0, (List.getD v0.L (Int.toNat v0.I) default).F, [], []⟩ : ApiValue), v0, true, (hk.drop 1).sub ⟨rfl, rfl, rfl, rfl, rfl, trivial⟩, h⟩
  refine FW.wreg fun _ q16 => ?_
  refine FW.sFp 0 hk Try.underlying66 fun a w hk => ?_
  refine FW.lf (y := .lit (.int .i64 ((List.getD v0.L (Int.toNat v0.I) default).Kind))) hk (FW.f_loadBlk1 hk FW.h0 (j := 1) rfl rfl Try.underlying3 rfl rfl) fun a w hk => ?_
  refine FW.sEq hk fun a w hk => ?_
  refine FW.sA hk fun a w hk => ?_
  refine FW.lend (q16 _ _ ?_)
  refine FW.wcondF (b := (decide (((List.getD v0.L (Int.toNat v0.I) default).Kind) = 4))) hk h rfl (fun h hb => ?_) (fun h hb => ?_)
  ·skip
   refine FW.wreg1 ?_
   refine FW.sFp 1 hk Try.underlying66 fun a w hk => ?_
   refine FW.lf (y := .lit (.string (FW.B ((List.getD v0.L (Int.toNat v0.I) default).S)))) hk (FW.f_loadBlk1 hk FW.h0 (j := 1) rfl rfl Try.underlying9 rfl rfl) fun a w hk => ?_
   refine FW.lf (y := .agg ((ApiValue.cells (⟨4, false, 0, 0, (List.getD v0.L (Int.toNat v0.I) default).S, []⟩ : ApiValue)))) hk (FW.f_buildN [] hk FW.h0 rfl rfl rfl) fun a w hk => ?_
   refine FW.st0 (cs' := (ApiValue.cells (⟨4, false, 0, 0, (List.getD v0.L (Int.toNat v0.I) default).S, []⟩ : ApiValue))) hk rfl (by kernel_rfl) fun w hk => ?_
   refine wpList_nil ?_
   (repeat first | refine FW.tn ?_ | refine FW.bn ?_); exact q7 _ _ ⟨(⟨4, false, 0, 0, (List.getD v0.L (Int.toNat v0.I) default).S, []⟩ : ApiValue), v0, true, (hk.drop 1).sub ⟨rfl, rfl, rfl, rfl, rfl, trivial⟩, h⟩
  refine FW.wreg fun _ q18 => ?_
  refine FW.sFp 0 hk Try.underlying66 fun a w hk => ?_
  refine FW.lf (y := .lit (.int .i64 ((List.getD v0.L (Int.toNat v0.I) default).Kind))) hk (FW.f_loadBlk1 hk FW.h0 (j := 1) rfl rfl Try.underlying3 rfl rfl) fun a w hk => ?_
  refine FW.sEq hk fun a w hk => ?_
  refine FW.sM hk fun a w hk => ?_
  refine FW.lg (y := .lit (.pointer (some ⟨bx4, 1, none⟩))) hk rfl rfl rfl (fun hc => FW.f_fieldPtr hk hc rfl Try.underlying66 rfl (by kernel_rfl) rfl) fun a w hk => ?_
  refine FW.lg (y := .lit (.string (FW.B ((List.getD v0.L (Int.toNat v0.I) default).S)))) hk rfl rfl rfl (fun hc => FW.f_loadBlk1 hk hc (j := 1) rfl rfl Try.underlying9 rfl rfl) fun a w hk => ?_
  refine FW.lg (y := .lit (.bool (decide (((List.getD v0.L (Int.toNat v0.I) default).S) = ([116, 114, 117, 101] : List UInt8))))) hk rfl rfl rfl (fun hc => (FW.f_pure (FW.p_seql hk.kn hc rfl rfl))) fun a w hk => ?_
  refine FW.sAn hk fun a w hk => ?_
  refine FW.sA hk fun a w hk => ?_
  refine FW.lend (q18 _ _ ?_)
  refine FW.wcondF (b := ((decide (((List.getD v0.L (Int.toNat v0.I) default).Kind) = 1)) && (decide (((List.getD v0.L (Int.toNat v0.I) default).S) = ([116, 114, 117, 101] : List UInt8))))) hk h rfl (fun h hb => ?_) (fun h hb => ?_)
  ·skip
   refine FW.wreg1 ?_
   refine FW.lf (y := .agg ((ApiValue.cells (⟨1, true, 0, 0, [], []⟩ : ApiValue)))) hk (FW.f_buildN [] hk FW.h0 rfl rfl rfl) fun a w hk => ?_
   refine FW.st0 (cs' := (ApiValue.cells (⟨1, true, 0, 0, [], []⟩ : ApiValue))) hk rfl (by kernel_rfl) fun w hk => ?_
   refine wpList_nil ?_
   (repeat first | refine FW.tn ?_ | refine FW.bn ?_); exact q7 _ _ ⟨(⟨1, true, 0, 0, [], []⟩ : ApiValue), v0, true, (hk.drop 1).sub ⟨rfl, rfl, rfl, rfl, rfl, trivial⟩, h⟩
  refine FW.wreg fun _ q20 => ?_
  refine FW.sFp 0 hk Try.underlying66 fun a w hk => ?_
  refine FW.lf (y := .lit (.int .i64 ((List.getD v0.L (Int.toNat v0.I) default).Kind))) hk (FW.f_loadBlk1 hk FW.h0 (j := 1) rfl rfl Try.underlying3 rfl rfl) fun a w hk => ?_
  refine FW.sEq hk fun a w hk => ?_
  refine FW.sM hk fun a w hk => ?_
  refine FW.lg (y := .lit (.pointer (some ⟨bx4, 1, none⟩))) hk rfl rfl rfl (fun hc => FW.f_fieldPtr hk hc rfl Try.underlying66 rfl (by kernel_rfl) rfl) fun a w hk => ?_
  refine FW.lg (y := .lit (.string (FW.B ((List.getD v0.L (Int.toNat v0.I) default).S)))) hk rfl rfl rfl (fun hc => FW.f_loadBlk1 hk hc (j := 1) rfl rfl Try.underlying9 rfl rfl) fun a w hk => ?_
  refine FW.lg (y := .lit (.bool (decide (((List.getD v0.L (Int.toNat v0.I) default).S) = ([102, 97, 108, 115, 101] : List UInt8))))) hk rfl rfl rfl (fun hc => (FW.f_pure (FW.p_seql hk.kn hc rfl rfl))) fun a w hk => ?_
  refine FW.sAn hk fun a w hk => ?_
  refine FW.sA hk fun a w hk => ?_
  refine FW.lend (q20 _ _ ?_)
  refine FW.wcondF (b := ((decide (((List.getD v0.L (Int.toNat v0.I) default).Kind) = 1)) && (decide (((List.getD v0.L (Int.toNat v0.I) default).S) = ([102, 97, 108, 115, 101] : List UInt8))))) hk h rfl (fun h hb => ?_) (fun h hb => ?_)
  ·skip
   refine FW.wreg1 ?_
   refine FW.lf (y := .agg ((ApiValue.cells (⟨1, false, 0, 0, [], []⟩ : ApiValue)))) hk (FW.f_buildN [] hk FW.h0 rfl rfl rfl) fun a w hk => ?_
   refine FW.st0 (cs' := (ApiValue.cells (⟨1, false, 0, 0, [], []⟩ : ApiValue))) hk rfl (by kernel_rfl) fun w hk => ?_
   refine wpList_nil ?_
   (repeat first | refine FW.tn ?_ | refine FW.bn ?_); exact q7 _ _ ⟨(⟨1, false, 0, 0, [], []⟩ : ApiValue), v0, true, (hk.drop 1).sub ⟨rfl, rfl, rfl, rfl, rfl, trivial⟩, h⟩
  refine FW.wreg fun _ q22 => ?_
  refine FW.sFp 0 hk Try.underlying66 fun a w hk => ?_
  refine FW.lf (y := .lit (.int .i64 ((List.getD v0.L (Int.toNat v0.I) default).Kind))) hk (FW.f_loadBlk1 hk FW.h0 (j := 1) rfl rfl Try.underlying3 rfl rfl) fun a w hk => ?_
  refine FW.sEq hk fun a w hk => ?_
  refine FW.sM hk fun a w hk => ?_
  refine FW.lg (y := .lit (.pointer (some ⟨bx4, 1, none⟩))) hk rfl rfl rfl (fun hc => FW.f_fieldPtr hk hc rfl Try.underlying66 rfl (by kernel_rfl) rfl) fun a w hk => ?_
  refine FW.lg (y := .lit (.string (FW.B ((List.getD v0.L (Int.toNat v0.I) default).S)))) hk rfl rfl rfl (fun hc => FW.f_loadBlk1 hk hc (j := 1) rfl rfl Try.underlying9 rfl rfl) fun a w hk => ?_
  refine FW.lg (y := .lit (.bool (decide (((List.getD v0.L (Int.toNat v0.I) default).S) = ([110, 117, 108, 108] : List UInt8))))) hk rfl rfl rfl (fun hc => (FW.f_pure (FW.p_seql hk.kn hc rfl rfl))) fun a w hk => ?_
  refine FW.sAn hk fun a w hk => ?_
  refine FW.sA hk fun a w hk => ?_
  refine FW.lend (q22 _ _ ?_)
  refine FW.wcondF (b := ((decide (((List.getD v0.L (Int.toNat v0.I) default).Kind) = 1)) && (decide (((List.getD v0.L (Int.toNat v0.I) default).S) = ([110, 117, 108, 108] : List UInt8))))) hk h rfl (fun h hb => ?_) (fun h hb => ?_)
  ·skip
   refine wp_skip ?_
   (repeat first | refine FW.tn ?_ | refine FW.bn ?_); exact q7 _ _ ⟨(⟨0, false, 0, 0, [], []⟩ : ApiValue), v0, true, (hk.drop 1).sub ⟨rfl, rfl, rfl, rfl, rfl, trivial⟩, h⟩
  refine FW.wreg fun _ q23 => ?_
  refine FW.lf (y := .agg ((St12.cells v0))) hk (FW.f_loadBlk hk FW.h0 (j := 4) rfl rfl Try.underlying64 rfl rfl rfl rfl) fun a w hk => ?_
  obtain ⟨t1, hr_t1, h⟩ := FW.bnd h
  refine FW.lf (y := .lit (.bool t1)) hk (FW.f_call hk FW.h0 rfl rfl Try.func51 rfl (by kernel_rfl) (p12_is.ok v0 ([91] : List UInt8) _ hr_t1)) fun a w hk => ?_
  refine FW.sA hk fun a w hk => ?_
  refine FW.lend (q23 _ _ ?_)
  refine FW.wcondF (b := t1) hk h rfl (fun h hb => ?_) (fun h hb => ?_)
  ·skip
   refine FW.wreg fun _ q24 => ?_
   refine FW.sFp 1 hk Try.underlying64 fun a w hk => ?_
   refine FW.lf (y := .lit (.int .i64 v0.I)) hk (FW.f_loadBlk1 hk FW.h0 (j := 4) rfl rfl Try.underlying3 rfl rfl) fun a w hk => ?_
   refine FW.sAd hk fun a w hk => ?_
   refine FW.sFp 1 hk Try.underlying64 fun a w hk => ?_
   refine FW.st4 (cs' := (St12.cells (⟨v0.L, (IntKind.wrap .i64 (v0.I + 1)), v0.Deep, v0.Steps, v0.At, v0.E⟩ : St12))) hk rfl (by kernel_rfl) fun w hk => ?_
   refine FW.lend (q24 _ _ ?_)
   refine FW.wreg fun _ q25 => ?_
   refine FW.sFp 2 hk Try.underlying64 fun a w hk => ?_
   refine FW.lf (y := .lit (.int .i64 v0.Deep)) hk (FW.f_loadBlk1 hk FW.h0 (j := 4) rfl rfl Try.underlying3 rfl rfl) fun a w hk => ?_
   refine FW.sA hk fun a w hk => ?_
   refine FW.lend (q25 _ _ ?_)
   refine FW.wreg fun _ q26 => ?_
   refine FW.lf (y := .agg ((St12.cells (⟨v0.L, (IntKind.wrap .i64 (v0.I + 1)), v0.Deep, v0.Steps, v0.At, v0.E⟩ : St12)))) hk (FW.f_loadBlk hk FW.h0 (j := 4) rfl rfl Try.underlying64 rfl rfl rfl rfl) fun a w hk => ?_
   obtain ⟨t2, hr_t2, h⟩ := FW.bnd h
   refine FW.lf (y := .agg ((St12.cells t2))) hk (FW.f_call hk FW.h0 rfl rfl Try.func79 rfl (by kernel_rfl) (p12_into.ok (⟨v0.L, (IntKind.wrap .i64 (v0.I + 1)), v0.Deep, v0.Steps, v0.At, v0.E⟩ : St12) _ hr_t2)) fun a w hk => ?_
   refine FW.st4 (cs' := (St12.cells t2)) hk rfl (by kernel_rfl) fun w hk => ?_
   refine FW.lend (q26 _ _ ?_)
   refine FW.wreg fun _ q27 => ?_
   refine FW.lf (y := .agg ((St12.cells t2))) hk (FW.f_loadBlk hk FW.h0 (j := 4) rfl rfl Try.underlying64 rfl rfl rfl rfl) fun a w hk => ?_
   obtain ⟨t3, hr_t3, h⟩ := FW.bnd h
   refine FW.lf (y := .tup [.agg ((St12.cells t3.1)), .row (r_ApiValue_cells t3.2)]) hk (FW.f_call hk FW.h0 rfl rfl Try.func108 rfl (by kernel_rfl) (hzvs t2 ([93] : List UInt8) _ hr_t3)) fun a w hk => ?_
   refine FW.sM hk fun a w hk => ?_
   refine FW.lf (y := .agg ((St12.cells t3.1))) hk (FW.f_extract hk FW.h0 rfl rfl) fun a w hk => ?_
   refine FW.lf (y := .row (r_ApiValue_cells t3.2)) hk (FW.f_extract hk FW.h0 rfl rfl) fun a w hk => ?_
   refine FW.l_alloc (zs := (St12.cells (⟨[], 0, 0, 0, 0, 0⟩ : St12))) [] hk rfl rfl rfl rfl ?_; clear hk; intro bx6 a w hk
   refine FW.st0 (cs' := (St12.cells t3.1)) hk rfl (by kernel_rfl) fun w hk => ?_
   refine FW.sA hk fun a w hk => ?_
   refine FW.lend (q27 _ _ ?_)
   refine FW.wreg fun _ q28 => ?_
   refine FW.sM hk fun a w hk => ?_
   refine FW.sFp 2 hk Try.underlying64 fun a w hk => ?_
   refine FW.st0 (cs' := (St12.cells (⟨t3.1.L, t3.1.I, v0.Deep, t3.1.Steps, t3.1.At, t3.1.E⟩ : St12))) hk rfl (by kernel_rfl) fun w hk => ?_
   refine FW.lend (q28 _ _ ?_)
   refine FW.wdrawE (.next [true, true, true, true, true, true, false, false, false] 6 [true, true, true, true, true, true, false, false, false] (.next [false, true, true, true, true, true, false, false, false] 7 [true, true, true, true, true, true, true, false, false] (.leaf [false, false, false, true, true, true, false, false, true]))) [(91, [], .agg ((St12.cells (⟨t3.1.L, t3.1.I, v0.Deep, t3.1.Steps, t3.1.At, t3.1.E⟩ : St12)))), (92, [], .row (r_ApiValue_cells t3.2)), (93, [], .agg ((ApiValue.cells (⟨5, false, 0, 0, [], t3.2⟩ : ApiValue)))), (94, [], .lit (.pointer (some ⟨bx6, 5, none⟩))), (95, [], .lit (.int .i64 t3.1.E)), (96, [], .lit (.bool (decide (t3.1.E = 0)))), (105, [], .lit undef), (105, [], .lit undef), (4, [], .agg [])] (by kernel_rfl) (by kernel_rfl) (by kernel_rfl) (by kernel_rfl) hk ?_; clear hk
   refine FW.gnext0 ?_ rfl rfl rfl ?_
   ·skip
    refine FW.gfun (y := .agg ((St12.cells (⟨t3.1.L, t3.1.I, v0.Deep, t3.1.Steps, t3.1.At, t3.1.E⟩ : St12)))) rfl rfl rfl rfl (fun a w hk => FW.f_loadBlk hk FW.h0 (j := 0) rfl rfl Try.underlying64 rfl rfl rfl rfl) ?_
    refine FW.gfun (y := .row (r_ApiValue_cells t3.2)) rfl rfl rfl rfl (fun a w hk => FW.f_move hk FW.h0 rfl) ?_
    refine FW.gfun (y := .agg ((ApiValue.cells (⟨5, false, 0, 0, [], t3.2⟩ : ApiValue)))) rfl rfl rfl rfl (fun a w hk => FW.f_buildN [] hk FW.h0 rfl rfl rfl) ?_
    refine FW.gfun (y := .lit (.pointer (some ⟨bx6, 5, none⟩))) rfl rfl rfl rfl (fun a w hk => FW.f_fieldPtr hk FW.h0 rfl Try.underlying64 rfl (by kernel_rfl) rfl) ?_
    refine FW.gfun (y := .lit (.int .i64 t3.1.E)) rfl rfl rfl rfl (fun a w hk => FW.f_loadBlk1 hk FW.h0 (j := 0) rfl rfl Try.underlying23 rfl rfl) ?_
    refine FW.gfun (y := .lit (.bool (decide (t3.1.E = 0)))) rfl rfl rfl rfl (fun a w hk => (FW.f_pure (FW.p_eql hk.kn FW.h0 rfl rfl))) ?_
    refine FW.gskip0 rfl ?_
    refine FW.gskip0 rfl ?_
    refine FW.gskip rfl rfl ?_
    exact FW.gend
   ·skip
    intro σD a w opsD QD hk hQ hX
    refine FW.st4 (cs' := (St12.cells (⟨t3.1.L, t3.1.I, v0.Deep, t3.1.Steps, t3.1.At, t3.1.E⟩ : St12))) hk rfl (by kernel_rfl) fun w hk => ?_
    refine hQ _ a w ?_ hk; clear hk hQ hX
    refine ⟨[(91, [], .agg ((St12.cells (⟨t3.1.L, t3.1.I, v0.Deep, t3.1.Steps, t3.1.At, t3.1.E⟩ : St12)))), (92, [], .row (r_ApiValue_cells t3.2)), (93, [], .agg ((ApiValue.cells (⟨5, false, 0, 0, [], t3.2⟩ : ApiValue)))), (94, [], .lit (.pointer (some ⟨bx6, 5, none⟩))), (95, [], .lit (.int .i64 t3.1.E)), (96, [], .lit (.bool (decide (t3.1.E = 0)))), (105, [], .lit undef), (105, [], .lit undef), (4, [], .agg [])], And.intro rfl (And.intro rfl (And.intro rfl (And.intro rfl (And.intro rfl (And.intro rfl (trivial)))))), rfl, ?_⟩
    refine FW.gnext0 ?_ rfl rfl rfl ?_
    ·skip
     refine FW.gskip rfl rfl ?_
     refine FW.gfun (y := .row (r_ApiValue_cells t3.2)) rfl rfl rfl rfl (fun a w hk => FW.f_move hk FW.h0 rfl) ?_
     refine FW.gfun (y := .agg ((ApiValue.cells (⟨5, false, 0, 0, [], t3.2⟩ : ApiValue)))) rfl rfl rfl rfl (fun a w hk => FW.f_buildN [] hk FW.h0 rfl rfl rfl) ?_
     refine FW.gfun (y := .lit (.pointer (some ⟨bx6, 5, none⟩))) rfl rfl rfl rfl (fun a w hk => FW.f_fieldPtr hk FW.h0 rfl Try.underlying64 rfl (by kernel_rfl) rfl) ?_
     refine FW.gfun (y := .lit (.int .i64 t3.1.E)) rfl rfl rfl rfl (fun a w hk => FW.f_loadBlk1 hk FW.h0 (j := 0) rfl rfl Try.underlying23 rfl rfl) ?_
     refine FW.gfun (y := .lit (.bool (decide (t3.1.E = 0)))) rfl rfl rfl rfl (fun a w hk => (FW.f_pure (FW.p_eql hk.kn FW.h0 rfl rfl))) ?_
     refine FW.gskip0 rfl ?_
     refine FW.gskip0 rfl ?_
     refine FW.gskip rfl rfl ?_
     exact FW.gend
    ·skip
     intro σD a w opsD QD hk hQ hX
     refine FW.st3 (cs' := (ApiValue.cells (⟨5, false, 0, 0, [], t3.2⟩ : ApiValue))) hk rfl (by kernel_rfl) fun w hk => ?_
     refine hQ _ a w ?_ hk; clear hk hQ hX
     refine ⟨[(91, [], .agg ((St12.cells (⟨t3.1.L, t3.1.I, v0.Deep, t3.1.Steps, t3.1.At, t3.1.E⟩ : St12)))), (92, [], .row (r_ApiValue_cells t3.2)), (93, [], .agg ((ApiValue.cells (⟨5, false, 0, 0, [], t3.2⟩ : ApiValue)))), (94, [], .lit (.pointer (some ⟨bx6, 5, none⟩))), (95, [], .lit (.int .i64 t3.1.E)), (96, [], .lit (.bool (decide (t3.1.E = 0)))), (105, [], .lit undef), (105, [], .lit undef), (4, [], .lit (.bool (decide (t3.1.E = 0))))], And.intro rfl (And.intro rfl (And.intro rfl (And.intro rfl (And.intro rfl (And.intro rfl (And.intro rfl (trivial))))))), rfl, ?_⟩
     refine FW.glast ?_ ?_
     ·skip
      refine FW.gskip rfl rfl ?_
      refine FW.gskip rfl rfl ?_
      refine FW.gskip rfl rfl ?_
      refine FW.gfun (y := .lit (.pointer (some ⟨bx6, 5, none⟩))) rfl rfl rfl rfl (fun a w hk => FW.f_fieldPtr hk FW.h0 rfl Try.underlying64 rfl (by kernel_rfl) rfl) ?_
      refine FW.gfun (y := .lit (.int .i64 t3.1.E)) rfl rfl rfl rfl (fun a w hk => FW.f_loadBlk1 hk FW.h0 (j := 0) rfl rfl Try.underlying23 rfl rfl) ?_
      refine FW.gfun (y := .lit (.bool (decide (t3.1.E = 0)))) rfl rfl rfl rfl (fun a w hk => (FW.f_pure (FW.p_eql hk.kn FW.h0 rfl rfl))) ?_
      refine FW.gskip0 rfl ?_
      refine FW.gskip0 rfl ?_
      refine FW.gfun (y := .lit (.bool (decide (t3.1.E = 0)))) rfl rfl rfl rfl (fun a w hk => FW.f_assign hk FW.h0 rfl) ?_
      exact FW.gend
     ·skip
      intro a w hk; simp only [FW.stD, cond_true] at hk
      refine wp_ret ?_
      (repeat first | refine FW.then_ret ?_ | refine FW.block_ret ?_)
      obtain rfl := Option.some.inj h
      exact FW.fretR3 hk rfl (FW.rcell hk rfl (j := 4) rfl Try.underlying64 rfl (by kernel_rfl)) (FW.rcell hk rfl (j := 3) rfl Try.underlying33 rfl (by kernel_rfl)) (FW.rtmp hk rfl)
  refine FW.wreg1 ?_
  refine FW.sA hk fun a w hk => ?_
  refine wpList_nil ?_
  (repeat first | refine FW.tn ?_ | refine FW.bn ?_); exact q7 _ _ ⟨(⟨0, false, 0, 0, [], []⟩ : ApiValue), v0, false, (hk.drop 1).sub ⟨rfl, rfl, rfl, rfl, rfl, trivial⟩, h⟩
end Go.Proofs.Ytbjbgodcenopnaa

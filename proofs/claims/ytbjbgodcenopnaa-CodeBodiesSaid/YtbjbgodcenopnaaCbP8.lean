/- Written by a program of this session (gen.py): the contracts of functions of the program. -/
import Derived.Test.YtbjbgodcenopnaaCbP7
namespace Go.Proofs.Ytbjbgodcenopnaa
set_option linter.unusedVariables false
set_option maxRecDepth 20000
set_option maxHeartbeats 10000000
theorem p12_arg.bok (zst : St12 → Option (St12 × List ApiStep)) (zar : St12 → Option (St12 × ApiArg)) (hzst : Zzst zst) (hzar : Zzar zar) (K : Nat) (v0 : St12) (r : St12 × ApiArg) (h : p12_arg.b zst zar K v0 = some r) :
  FW.Ok Try.prog 52 [.agg (St12.cells v0)] (.tup [.agg (St12.cells r.1), .agg (ApiArg.cells r.2)]) := by
 refine FW.enter (xs := [.agg (St12.cells v0)]) Try.func52 rfl Try.ntmps52 rfl ?_
 intro M w0 a hk
 unfold p12_arg.b at h
 refine FW.wreg fun _ q1 => ?_
 refine FW.l_box (cs := (St12.cells v0)) hk rfl rfl rfl rfl rfl ?_; clear hk; intro bx1 a w hk
 refine FW.l_alloc (zs := (St12.cells (⟨[], 0, 0, 0, 0, 0⟩ : St12))) [] hk rfl rfl rfl rfl ?_; clear hk; intro bx2 a w hk
 refine FW.l_alloc (zs := (ApiArg.cells (⟨0, (⟨0, false, 0, 0, [], []⟩ : ApiValue), (⟨[], [], []⟩ : ApiPred), []⟩ : ApiArg))) [] hk rfl rfl rfl rfl ?_; clear hk; intro bx3 a w hk
 refine FW.lend (q1 _ _ ?_)
 refine FW.wreg fun _ q2 => ?_
 refine FW.lf (y := .agg ((St12.cells v0))) hk (FW.f_loadBlk hk FW.h0 (j := 2) rfl rfl Try.underlying64 rfl rfl rfl rfl) fun a w hk => ?_
 obtain ⟨t1, hr_t1, h⟩ := FW.bnd h
 refine FW.lf (y := .tup [.agg ((St12.cells t1.1)), .agg ((ApiValue.cells t1.2.1)), .lit (.bool t1.2.2)]) hk (FW.f_call hk FW.h0 rfl rfl Try.func76 rfl (by kernel_rfl) (p12_value.ok K v0 _ hr_t1)) fun a w hk => ?_
 refine FW.sM hk fun a w hk => ?_
 refine FW.lf (y := .agg ((St12.cells t1.1))) hk (FW.f_extract hk FW.h0 rfl rfl) fun a w hk => ?_
 refine FW.lf (y := .agg ((ApiValue.cells t1.2.1))) hk (FW.f_extract hk FW.h0 rfl rfl) fun a w hk => ?_
 refine FW.lf (y := .lit (.bool t1.2.2)) hk (FW.f_extract hk FW.h0 rfl rfl) fun a w hk => ?_
 refine FW.l_alloc (zs := (St12.cells (⟨[], 0, 0, 0, 0, 0⟩ : St12))) [] hk rfl rfl rfl rfl ?_; clear hk; intro bx4 a w hk
 refine FW.l_alloc (zs := (ApiValue.cells (⟨0, false, 0, 0, [], []⟩ : ApiValue))) [] hk rfl rfl rfl rfl ?_; clear hk; intro bx5 a w hk
 refine FW.st1 (cs' := (St12.cells t1.1)) hk rfl (by kernel_rfl) fun w hk => ?_
 refine FW.st0 (cs' := (ApiValue.cells t1.2.1)) hk rfl (by kernel_rfl) fun w hk => ?_
 refine FW.sA hk fun a w hk => ?_
 refine FW.lend (q2 _ _ ?_)
 refine FW.wseq fun _ q3 => ?_
 refine FW.wreg fun _ q4 => ?_
 refine FW.sM hk fun a w hk => ?_
 refine FW.sM hk fun a w hk => ?_
 refine FW.lg (y := .lit (.pointer (some ⟨bx4, 5, none⟩))) hk rfl rfl rfl (fun hc => FW.f_fieldPtr hk hc rfl Try.underlying64 rfl (by kernel_rfl) rfl) fun a w hk => ?_
 refine FW.lg (y := .lit (.int .i64 t1.1.E)) hk rfl rfl rfl (fun hc => FW.f_loadBlk1 hk hc (j := 1) rfl rfl Try.underlying23 rfl rfl) fun a w hk => ?_
 refine FW.lg (y := .lit (.bool (!decide (t1.1.E = 0)))) hk rfl rfl rfl (fun hc => (FW.f_pure (FW.p_neq hk.kn hc rfl rfl))) fun a w hk => ?_
 refine FW.sOr hk fun a w hk => ?_
 refine FW.lend (q4 _ _ ?_)
 refine FW.wcondF (b := (t1.2.2 || (!decide (t1.1.E = 0)))) hk h rfl (fun h hb => ?_) (fun h hb => ?_)
 ·skip
  refine FW.wdrawE (.next [true, true, true, false, false] 3 [true, true, true, false, false] (.next [false, true, true, false, false] 4 [true, true, true, true, false] (.leaf [false, false, false, false, false]))) [(28, [], .agg ((St12.cells t1.1))), (29, [], .agg ((ApiValue.cells t1.2.1))), (30, [], .agg ((ApiArg.cells (⟨1, t1.2.1, (⟨[], [], []⟩ : ApiPred), []⟩ : ApiArg)))), (122, [], .lit undef), (122, [], .lit undef)] (by kernel_rfl) (by kernel_rfl) (by kernel_rfl) (by kernel_rfl) hk ?_; clear hk
  refine FW.gnext0 ?_ rfl rfl rfl ?_
  ·skip
   refine FW.gfun (y := .agg ((St12.cells t1.1))) rfl rfl rfl rfl (fun a w hk => FW.f_loadBlk hk FW.h0 (j := 1) rfl rfl Try.underlying64 rfl rfl rfl rfl) ?_
   refine FW.gfun (y := .agg ((ApiValue.cells t1.2.1))) rfl rfl rfl rfl (fun a w hk => FW.f_loadBlk hk FW.h0 (j := 0) rfl rfl Try.underlying33 rfl rfl rfl rfl) ?_
   refine FW.gfun (y := .agg ((ApiArg.cells (⟨1, t1.2.1, (⟨[], [], []⟩ : ApiPred), []⟩ : ApiArg)))) rfl rfl rfl rfl (fun a w hk => FW.f_buildN [] hk FW.h0 rfl rfl rfl) ?_
   refine FW.gskip0 rfl ?_
   refine FW.gskip0 rfl ?_
   exact FW.gend
  ·skip
   intro σD a w opsD QD hk hQ hX
   refine FW.st3 (cs' := (St12.cells t1.1)) hk rfl (by kernel_rfl) fun w hk => ?_
   refine hQ _ a w ?_ hk; clear hk hQ hX
   refine ⟨[(28, [], .agg ((St12.cells t1.1))), (29, [], .agg ((ApiValue.cells t1.2.1))), (30, [], .agg ((ApiArg.cells (⟨1, t1.2.1, (⟨[], [], []⟩ : ApiPred), []⟩ : ApiArg)))), (122, [], .lit undef), (122, [], .lit undef)], And.intro rfl (And.intro rfl (And.intro rfl (trivial))), rfl, ?_⟩
   refine FW.gnext0 ?_ rfl rfl rfl ?_
   ·skip
    refine FW.gskip rfl rfl ?_
    refine FW.gfun (y := .agg ((ApiValue.cells t1.2.1))) rfl rfl rfl rfl (fun a w hk => FW.f_loadBlk hk FW.h0 (j := 0) rfl rfl Try.underlying33 rfl rfl rfl rfl) ?_
    refine FW.gfun (y := .agg ((ApiArg.cells (⟨1, t1.2.1, (⟨[], [], []⟩ : ApiPred), []⟩ : ApiArg)))) rfl rfl rfl rfl (fun a w hk => FW.f_buildN [] hk FW.h0 rfl rfl rfl) ?_
    refine FW.gskip0 rfl ?_
    refine FW.gskip0 rfl ?_
    exact FW.gend
   ·skip
    intro σD a w opsD QD hk hQ hX
    refine FW.st2 (cs' := (ApiArg.cells (⟨1, t1.2.1, (⟨[], [], []⟩ : ApiPred), []⟩ : ApiArg))) hk rfl (by kernel_rfl) fun w hk => ?_
    refine hQ _ a w ?_ hk; clear hk hQ hX
    refine ⟨[(28, [], .agg ((St12.cells t1.1))), (29, [], .agg ((ApiValue.cells t1.2.1))), (30, [], .agg ((ApiArg.cells (⟨1, t1.2.1, (⟨[], [], []⟩ : ApiPred), []⟩ : ApiArg)))), (122, [], .lit undef), (122, [], .lit undef)], And.intro rfl (And.intro rfl (And.intro rfl (And.intro rfl (trivial)))), rfl, ?_⟩
    refine FW.glast ?_ ?_
    ·skip
     refine FW.gskip rfl rfl ?_
     refine FW.gskip rfl rfl ?_
     refine FW.gskip rfl rfl ?_
     refine FW.gskip0 rfl ?_
     refine FW.gskip0 rfl ?_
     exact FW.gend
    ·skip
     intro a w hk; simp only [FW.stD, cond_true] at hk
     refine wp_ret ?_
     (repeat first | refine FW.then_ret ?_ | refine FW.block_ret ?_)
     obtain rfl := Option.some.inj h
     exact FW.fretR2 hk rfl (FW.rcell hk rfl (j := 3) rfl Try.underlying64 rfl (by kernel_rfl)) (FW.rcell hk rfl (j := 2) rfl Try.underlying38 rfl (by kernel_rfl))
 refine wp_skip ?_
 (repeat first | refine FW.tn ?_ | refine FW.bn ?_); refine q3 _ _ ?_
 refine FW.wreg fun _ q6 => ?_
 refine FW.sFp 0 hk Try.underlying64 fun a w hk => ?_
 refine FW.lf (y := .row (r_ApiWord_cells v0.L)) hk (FW.f_loadBlk1 hk FW.h0 (j := 4) rfl rfl Try.underlying60 rfl rfl) fun a w hk => ?_
 refine FW.sFp 1 hk Try.underlying64 fun a w hk => ?_
 refine FW.lf (y := .lit (.int .i64 v0.I)) hk (FW.f_loadBlk1 hk FW.h0 (j := 4) rfl rfl Try.underlying3 rfl rfl) fun a w hk => ?_
 obtain ⟨hc1, h⟩ := FW.chk h
 refine FW.lf (y := .ref (ApiWord.cells (List.getD v0.L (Int.toNat v0.I) default))) hk (FW.f_indexAddr (R := r_ApiWord_cells) (f := ApiWord.cells) (l := v0.L) (sz := 5) r_ApiWord_cells_eq (fun _ => rfl) hk FW.h0 rfl rfl Try.underlying60 (by kernel_rfl) hc1) fun a w hk => ?_
 refine FW.lf (y := .agg ((ApiWord.cells (List.getD v0.L (Int.toNat v0.I) default)))) hk (FW.f_load hk FW.h0 rfl Try.underlying66 rfl rfl rfl rfl) fun a w hk => ?_
 refine FW.l_alloc (zs := (ApiWord.cells (⟨0, [], 0, 0, 0⟩ : ApiWord))) [] hk rfl rfl rfl rfl ?_; clear hk; intro bx6 a w hk
 refine FW.st0 (cs' := (ApiWord.cells (List.getD v0.L (Int.toNat v0.I) default))) hk rfl (by kernel_rfl) fun w hk => ?_
 refine FW.lend (q6 _ _ ?_)
 refine FW.wseqJ (fun a w => ∃ (y6 : ApiWord) (y1 : St12), FW.S M w0 a w 122 [FW.blk bx6 66 ((ApiWord.cells y6)), FW.blk bx3 38 ((ApiArg.cells (⟨0, (⟨0, false, 0, 0, [], []⟩ : ApiValue), (⟨[], [], []⟩ : ApiPred), []⟩ : ApiArg))), FW.blk bx2 64 ((St12.cells (⟨[], 0, 0, 0, 0, 0⟩ : St12))), FW.blk bx1 64 ((St12.cells y1))] [(1, [], .lit (.pointer (some ⟨bx1, 0, none⟩))), (2, [], .lit (.pointer (some ⟨bx2, 0, none⟩))), (3, [], .lit (.pointer (some ⟨bx3, 0, none⟩))), (7, [], .lit (.pointer (some ⟨bx6, 0, none⟩)))] ∧ p12_arg.j1 zst zar K y6 y1 = some r) ?_ ?_
 ·clear hk h
  rintro a w ⟨y6, y1, hk, h⟩
  unfold p12_arg.j1 at h
  refine FW.wreg fun _ q8 => ?_
  refine FW.sFp 2 hk Try.underlying64 fun a w hk => ?_
  refine FW.lf (y := .lit (.int .i64 y1.Deep)) hk (FW.f_loadBlk1 hk FW.h0 (j := 3) rfl rfl Try.underlying3 rfl rfl) fun a w hk => ?_
  refine FW.sA hk fun a w hk => ?_
  refine FW.lend (q8 _ _ ?_)
  refine FW.wreg fun _ q9 => ?_
  refine FW.lf (y := .agg ((St12.cells y1))) hk (FW.f_loadBlk hk FW.h0 (j := 3) rfl rfl Try.underlying64 rfl rfl rfl rfl) fun a w hk => ?_
  obtain ⟨t2, hr_t2, h⟩ := FW.bnd h
  refine FW.lf (y := .agg ((St12.cells t2))) hk (FW.f_call hk FW.h0 rfl rfl Try.func79 rfl (by kernel_rfl) (p12_into.ok y1 _ hr_t2)) fun a w hk => ?_
  refine FW.st3 (cs' := (St12.cells t2)) hk rfl (by kernel_rfl) fun w hk => ?_
  refine FW.lend (q9 _ _ ?_)
  refine FW.wseqJ (fun a w => ∃ (y1 : St12) (v14 : Int), FW.S M w0 a w 122 [FW.blk bx3 38 ((ApiArg.cells (⟨0, (⟨0, false, 0, 0, [], []⟩ : ApiValue), (⟨[], [], []⟩ : ApiPred), []⟩ : ApiArg))), FW.blk bx2 64 ((St12.cells (⟨[], 0, 0, 0, 0, 0⟩ : St12))), FW.blk bx1 64 ((St12.cells y1))] [(1, [], .lit (.pointer (some ⟨bx1, 0, none⟩))), (2, [], .lit (.pointer (some ⟨bx2, 0, none⟩))), (3, [], .lit (.pointer (some ⟨bx3, 0, none⟩))), (14, [], .lit (.int .i64 v14))] ∧ p12_arg.j2 zst zar K y1 v14 = some r) ?_ ?_
  ·clear hk h
   rintro a w ⟨y1, v14, hk, h⟩
   unfold p12_arg.j2 at h
   refine FW.wreg fun _ q11 => ?_
   refine FW.lf (y := .agg ((St12.cells y1))) hk (FW.f_loadBlk hk FW.h0 (j := 2) rfl rfl Try.underlying64 rfl rfl rfl rfl) fun a w hk => ?_
   obtain ⟨t3, hr_t3, h⟩ := FW.bnd h
   refine FW.lf (y := .tup [.agg ((St12.cells t3.1)), .row (r_ApiStep_cells t3.2)]) hk (FW.f_call hk FW.h0 rfl rfl Try.func27 rfl (by kernel_rfl) (hzst y1 _ hr_t3)) fun a w hk => ?_
   refine FW.sM hk fun a w hk => ?_
   refine FW.lf (y := .agg ((St12.cells t3.1))) hk (FW.f_extract hk FW.h0 rfl rfl) fun a w hk => ?_
   refine FW.lf (y := .row (r_ApiStep_cells t3.2)) hk (FW.f_extract hk FW.h0 rfl rfl) fun a w hk => ?_
   refine FW.st2 (cs' := (St12.cells t3.1)) hk rfl (by kernel_rfl) fun w hk => ?_
   refine FW.sA hk fun a w hk => ?_
   refine FW.lend (q11 _ _ ?_)
   refine FW.wreg fun _ q12 => ?_
   refine FW.sM hk fun a w hk => ?_
   refine FW.sFp 2 hk Try.underlying64 fun a w hk => ?_
   refine FW.st2 (cs' := (St12.cells (⟨t3.1.L, t3.1.I, v14, t3.1.Steps, t3.1.At, t3.1.E⟩ : St12))) hk rfl (by kernel_rfl) fun w hk => ?_
   refine FW.lend (q12 _ _ ?_)
   refine FW.wreg fun _ q13 => ?_
   refine FW.lf (y := .agg ((St12.cells (⟨t3.1.L, t3.1.I, v14, t3.1.Steps, t3.1.At, t3.1.E⟩ : St12)))) hk (FW.f_loadBlk hk FW.h0 (j := 2) rfl rfl Try.underlying64 rfl rfl rfl rfl) fun a w hk => ?_
   refine FW.sM hk fun a w hk => ?_
   refine FW.lf (y := .agg ((ApiArg.cells (⟨3, (⟨0, false, 0, 0, [], []⟩ : ApiValue), (⟨[], [], []⟩ : ApiPred), t3.2⟩ : ApiArg)))) hk (FW.f_buildN [] hk FW.h0 rfl rfl rfl) fun a w hk => ?_
   refine FW.st1 (cs' := (St12.cells (⟨t3.1.L, t3.1.I, v14, t3.1.Steps, t3.1.At, t3.1.E⟩ : St12))) hk rfl (by kernel_rfl) fun w hk => ?_
   refine FW.st0 (cs' := (ApiArg.cells (⟨3, (⟨0, false, 0, 0, [], []⟩ : ApiValue), (⟨[], [], []⟩ : ApiPred), t3.2⟩ : ApiArg))) hk rfl (by kernel_rfl) fun w hk => ?_
   refine FW.lend (q13 _ _ ?_)
   refine wp_ret ?_
   (repeat first | refine FW.then_ret ?_ | refine FW.block_ret ?_)
   obtain rfl := Option.some.inj h
   exact FW.fretR2 hk rfl (FW.rcell hk rfl (j := 1) rfl Try.underlying64 rfl (by kernel_rfl)) (FW.rcell hk rfl (j := 0) rfl Try.underlying38 rfl (by kernel_rfl))
  ·intro K' q10
   refine FW.wreg fun _ q14 => ?_
   refine FW.sFp 5 hk Try.underlying64 fun a w hk => ?_
   refine FW.lf (y := .lit (.int .i64 t2.E)) hk (FW.f_loadBlk1 hk FW.h0 (j := 3) rfl rfl Try.underlying23 rfl rfl) fun a w hk => ?_
   refine FW.sEq hk fun a w hk => ?_
   refine FW.sM hk fun a w hk => ?_
   refine FW.lg (y := .lit (.pointer (some ⟨bx6, 0, none⟩))) hk rfl rfl rfl (fun hc => FW.f_fieldPtr hk hc rfl Try.underlying66 rfl (by kernel_rfl) rfl) fun a w hk => ?_
   refine FW.lg (y := .lit (.int .i64 y6.Kind)) hk rfl rfl rfl (fun hc => FW.f_loadBlk1 hk hc (j := 0) rfl rfl Try.underlying3 rfl rfl) fun a w hk => ?_
   refine FW.lg (y := .lit (.bool (decide (y6.Kind = 1)))) hk rfl rfl rfl (fun hc => (FW.f_pure (FW.p_eql hk.kn hc rfl rfl))) fun a w hk => ?_
   refine FW.sAn hk fun a w hk => ?_
   refine FW.sM hk fun a w hk => ?_
   refine FW.lg (y := .lit (.pointer (some ⟨bx6, 1, none⟩))) hk rfl rfl rfl (fun hc => FW.f_fieldPtr hk hc rfl Try.underlying66 rfl (by kernel_rfl) rfl) fun a w hk => ?_
   refine FW.lg (y := .lit (.string (FW.B y6.S))) hk rfl rfl rfl (fun hc => FW.f_loadBlk1 hk hc (j := 0) rfl rfl Try.underlying9 rfl rfl) fun a w hk => ?_
   refine FW.lg (y := .lit (.bool (decide (y6.S = ([95, 95] : List UInt8))))) hk rfl rfl rfl (fun hc => (FW.f_pure (FW.p_seql hk.kn hc rfl rfl))) fun a w hk => ?_
   refine FW.sAn hk fun a w hk => ?_
   refine FW.lend (q14 _ _ ?_)
   refine FW.wcondF (b := (((decide (t2.E = 0)) && (decide (y6.Kind = 1))) && (decide (y6.S = ([95, 95] : List UInt8))))) hk h rfl (fun h hb => ?_) (fun h hb => ?_)
   ·skip
    refine FW.wreg fun _ q15 => ?_
    refine FW.sFp 1 hk Try.underlying64 fun a w hk => ?_
    refine FW.lf (y := .lit (.int .i64 t2.I)) hk (FW.f_loadBlk1 hk FW.h0 (j := 3) rfl rfl Try.underlying3 rfl rfl) fun a w hk => ?_
    refine FW.sAd hk fun a w hk => ?_
    refine FW.sFp 1 hk Try.underlying64 fun a w hk => ?_
    refine FW.st3 (cs' := (St12.cells (⟨t2.L, (IntKind.wrap .i64 (t2.I + 1)), t2.Deep, t2.Steps, t2.At, t2.E⟩ : St12))) hk rfl (by kernel_rfl) fun w hk => ?_
    refine FW.lend (q15 _ _ ?_)
    refine FW.wreg1 ?_
    refine FW.lf (y := .agg ((St12.cells (⟨t2.L, (IntKind.wrap .i64 (t2.I + 1)), t2.Deep, t2.Steps, t2.At, t2.E⟩ : St12)))) hk (FW.f_loadBlk hk FW.h0 (j := 3) rfl rfl Try.underlying64 rfl rfl rfl rfl) fun a w hk => ?_
    obtain ⟨t4, hr_t4, h⟩ := FW.bnd h
    refine FW.lf (y := .agg ((St12.cells t4))) hk (FW.f_call hk FW.h0 rfl rfl Try.func26 rfl (by kernel_rfl) (p12_sign.ok (⟨t2.L, (IntKind.wrap .i64 (t2.I + 1)), t2.Deep, t2.Steps, t2.At, t2.E⟩ : St12) ([46] : List UInt8) _ hr_t4)) fun a w hk => ?_
    refine FW.st3 (cs' := (St12.cells t4)) hk rfl (by kernel_rfl) fun w hk => ?_
    refine wpList_nil ?_
    (repeat first | refine FW.tn ?_ | refine FW.bn ?_); exact q10 _ _ ⟨t4, y1.Deep, (hk.drop 0).sub ⟨rfl, rfl, rfl, rfl, trivial⟩, h⟩
   refine wp_skip ?_
   (repeat first | refine FW.tn ?_ | refine FW.bn ?_); exact q10 _ _ ⟨t2, y1.Deep, (hk.drop 0).sub ⟨rfl, rfl, rfl, rfl, trivial⟩, h⟩
 ·intro K' q7
  refine FW.wreg fun _ q17 => ?_
  refine FW.sFp 0 hk Try.underlying66 fun a w hk => ?_
  refine FW.lf (y := .lit (.int .i64 ((List.getD v0.L (Int.toNat v0.I) default).Kind))) hk (FW.f_loadBlk1 hk FW.h0 (j := 0) rfl rfl Try.underlying3 rfl rfl) fun a w hk => ?_
  refine FW.sEq hk fun a w hk => ?_
  refine FW.lend (q17 _ _ ?_)
  refine FW.wcondF (b := (decide (((List.getD v0.L (Int.toNat v0.I) default).Kind) = 1))) hk h rfl (fun h hb => ?_) (fun h hb => ?_)
  ·skip
   refine FW.wreg fun _ q18 => ?_
   refine FW.sFp 0 hk Try.underlying64 fun a w hk => ?_
   refine FW.lf (y := .row (r_ApiWord_cells v0.L)) hk (FW.f_loadBlk1 hk FW.h0 (j := 5) rfl rfl Try.underlying60 rfl rfl) fun a w hk => ?_
   refine FW.sFp 1 hk Try.underlying64 fun a w hk => ?_
   refine FW.lf (y := .lit (.int .i64 v0.I)) hk (FW.f_loadBlk1 hk FW.h0 (j := 5) rfl rfl Try.underlying3 rfl rfl) fun a w hk => ?_
   refine FW.sAd hk fun a w hk => ?_
   obtain ⟨hc2, h⟩ := FW.chk h
   refine FW.lf (y := .ref (ApiWord.cells (List.getD v0.L (Int.toNat (IntKind.wrap .i64 (v0.I + 1))) default))) hk (FW.f_indexAddr (R := r_ApiWord_cells) (f := ApiWord.cells) (l := v0.L) (sz := 5) r_ApiWord_cells_eq (fun _ => rfl) hk FW.h0 rfl rfl Try.underlying60 (by kernel_rfl) hc2) fun a w hk => ?_
   refine FW.lf (y := .agg ((ApiWord.cells (List.getD v0.L (Int.toNat (IntKind.wrap .i64 (v0.I + 1))) default)))) hk (FW.f_load hk FW.h0 rfl Try.underlying66 rfl rfl rfl rfl) fun a w hk => ?_
   refine FW.l_alloc (zs := (ApiWord.cells (⟨0, [], 0, 0, 0⟩ : ApiWord))) [] hk rfl rfl rfl rfl ?_; clear hk; intro bx7 a w hk
   refine FW.st0 (cs' := (ApiWord.cells (List.getD v0.L (Int.toNat (IntKind.wrap .i64 (v0.I + 1))) default))) hk rfl (by kernel_rfl) fun w hk => ?_
   refine FW.lend (q18 _ _ ?_)
   refine FW.wreg fun _ q19 => ?_
   refine FW.sFp 0 hk Try.underlying66 fun a w hk => ?_
   refine FW.lf (y := .lit (.int .i64 ((List.getD v0.L (Int.toNat (IntKind.wrap .i64 (v0.I + 1))) default).Kind))) hk (FW.f_loadBlk1 hk FW.h0 (j := 0) rfl rfl Try.underlying3 rfl rfl) fun a w hk => ?_
   refine FW.sEq hk fun a w hk => ?_
   refine FW.sM hk fun a w hk => ?_
   refine FW.lg (y := .lit (.pointer (some ⟨bx7, 1, none⟩))) hk rfl rfl rfl (fun hc => FW.f_fieldPtr hk hc rfl Try.underlying66 rfl (by kernel_rfl) rfl) fun a w hk => ?_
   refine FW.lg (y := .lit (.string (FW.B ((List.getD v0.L (Int.toNat (IntKind.wrap .i64 (v0.I + 1))) default).S)))) hk rfl rfl rfl (fun hc => FW.f_loadBlk1 hk hc (j := 0) rfl rfl Try.underlying9 rfl rfl) fun a w hk => ?_
   refine FW.lg (y := .lit (.bool (decide (((List.getD v0.L (Int.toNat (IntKind.wrap .i64 (v0.I + 1))) default).S) = ([40] : List UInt8))))) hk rfl rfl rfl (fun hc => (FW.f_pure (FW.p_seql hk.kn hc rfl rfl))) fun a w hk => ?_
   refine FW.sAn hk fun a w hk => ?_
   refine FW.sA hk fun a w hk => ?_
   refine FW.lend (q19 _ _ ?_)
   refine FW.wseq fun _ q20 => ?_
   refine FW.wreg fun _ q21 => ?_
   refine FW.sFp 1 hk Try.underlying66 fun a w hk => ?_
   refine FW.lf (y := .lit (.string (FW.B ((List.getD v0.L (Int.toNat v0.I) default).S)))) hk (FW.f_loadBlk1 hk FW.h0 (j := 1) rfl rfl Try.underlying9 rfl rfl) fun a w hk => ?_
   obtain ⟨t5, hr_t5, h⟩ := FW.bnd h
   refine FW.lf (y := .tup [.lit (.int .i64 t5.1), .lit (.bool t5.2)]) hk (FW.f_call hk FW.h0 rfl rfl Try.func77 rfl (by kernel_rfl) (r12_Preds.ok K ((List.getD v0.L (Int.toNat v0.I) default).S) _ hr_t5)) fun a w hk => ?_
   refine FW.sM hk fun a w hk => ?_
   refine FW.lf (y := .lit (.int .i64 t5.1)) hk (FW.f_extract hk FW.h0 rfl rfl) fun a w hk => ?_
   refine FW.lf (y := .lit (.bool t5.2)) hk (FW.f_extract hk FW.h0 rfl rfl) fun a w hk => ?_
   refine FW.sA hk fun a w hk => ?_
   refine FW.sA hk fun a w hk => ?_
   refine FW.lend (q21 _ _ ?_)
   refine FW.wreg fun _ q22 => ?_
   refine FW.sM hk fun a w hk => ?_
   refine FW.sM hk fun a w hk => ?_
   refine FW.lg (y := .lit (.bool ((decide (((List.getD v0.L (Int.toNat (IntKind.wrap .i64 (v0.I + 1))) default).Kind) = 5)) && (decide (((List.getD v0.L (Int.toNat (IntKind.wrap .i64 (v0.I + 1))) default).S) = ([40] : List UInt8)))))) hk rfl rfl rfl (fun hc => FW.f_move hk hc rfl) fun a w hk => ?_
   refine FW.sAn hk fun a w hk => ?_
   refine FW.lend (q22 _ _ ?_)
   refine FW.wcondF (b := (t5.2 && ((decide (((List.getD v0.L (Int.toNat (IntKind.wrap .i64 (v0.I + 1))) default).Kind) = 5)) && (decide (((List.getD v0.L (Int.toNat (IntKind.wrap .i64 (v0.I + 1))) default).S) = ([40] : List UInt8)))))) hk h rfl (fun h hb => ?_) (fun h hb => ?_)
   ·skip
    refine FW.wreg fun _ q23 => ?_
    refine FW.lf (y := .agg ((St12.cells v0))) hk (FW.f_loadBlk hk FW.h0 (j := 6) rfl rfl Try.underlying64 rfl rfl rfl rfl) fun a w hk => ?_
    obtain ⟨t6, hr_t6, h⟩ := FW.bnd h
    refine FW.lf (y := .tup [.agg ((St12.cells t6.1)), .agg ((ApiPred.cells t6.2))]) hk (FW.f_call hk FW.h0 rfl rfl Try.func78 rfl (by kernel_rfl) (p12_pred.ok K v0 _ hr_t6)) fun a w hk => ?_
    refine FW.sM hk fun a w hk => ?_
    refine FW.lf (y := .agg ((St12.cells t6.1))) hk (FW.f_extract hk FW.h0 rfl rfl) fun a w hk => ?_
    refine FW.lf (y := .agg ((ApiPred.cells t6.2))) hk (FW.f_extract hk FW.h0 rfl rfl) fun a w hk => ?_
    refine FW.l_alloc (zs := (St12.cells (⟨[], 0, 0, 0, 0, 0⟩ : St12))) [] hk rfl rfl rfl rfl ?_; clear hk; intro bx8 a w hk
    refine FW.l_alloc (zs := (ApiPred.cells (⟨[], [], []⟩ : ApiPred))) [] hk rfl rfl rfl rfl ?_; clear hk; intro bx9 a w hk
    refine FW.st1 (cs' := (St12.cells t6.1)) hk rfl (by kernel_rfl) fun w hk => ?_
    refine FW.st0 (cs' := (ApiPred.cells t6.2)) hk rfl (by kernel_rfl) fun w hk => ?_
    refine FW.lend (q23 _ _ ?_)
    refine FW.wdrawE (.next [true, true, true, false, false] 3 [true, true, true, false, false] (.next [false, true, true, false, false] 4 [true, true, true, true, false] (.leaf [false, false, false, false, false]))) [(70, [], .agg ((St12.cells t6.1))), (71, [], .agg ((ApiPred.cells t6.2))), (72, [], .agg ((ApiArg.cells (⟨2, (⟨0, false, 0, 0, [], []⟩ : ApiValue), t6.2, []⟩ : ApiArg)))), (122, [], .lit undef), (122, [], .lit undef)] (by kernel_rfl) (by kernel_rfl) (by kernel_rfl) (by kernel_rfl) hk ?_; clear hk
    refine FW.gnext0 ?_ rfl rfl rfl ?_
    ·skip
     refine FW.gfun (y := .agg ((St12.cells t6.1))) rfl rfl rfl rfl (fun a w hk => FW.f_loadBlk hk FW.h0 (j := 1) rfl rfl Try.underlying64 rfl rfl rfl rfl) ?_
     refine FW.gfun (y := .agg ((ApiPred.cells t6.2))) rfl rfl rfl rfl (fun a w hk => FW.f_loadBlk hk FW.h0 (j := 0) rfl rfl Try.underlying36 rfl rfl rfl rfl) ?_
     refine FW.gfun (y := .agg ((ApiArg.cells (⟨2, (⟨0, false, 0, 0, [], []⟩ : ApiValue), t6.2, []⟩ : ApiArg)))) rfl rfl rfl rfl (fun a w hk => FW.f_buildN [] hk FW.h0 rfl rfl rfl) ?_
     refine FW.gskip0 rfl ?_
     refine FW.gskip0 rfl ?_
     exact FW.gend
    ·skip
     intro σD a w opsD QD hk hQ hX
     refine FW.l_store (I' := [FW.blk bx9 36 ((ApiPred.cells t6.2)), FW.blk bx8 64 ((St12.cells t6.1)), FW.blk bx7 66 ((ApiWord.cells (List.getD v0.L (Int.toNat (IntKind.wrap .i64 (v0.I + 1))) default))), FW.blk bx6 66 ((ApiWord.cells (List.getD v0.L (Int.toNat v0.I) default))), FW.blk bx5 33 ((ApiValue.cells t1.2.1)), FW.blk bx4 64 ((St12.cells t1.1)), FW.blk bx3 38 ((ApiArg.cells (⟨0, (⟨0, false, 0, 0, [], []⟩ : ApiValue), (⟨[], [], []⟩ : ApiPred), []⟩ : ApiArg))), FW.blk bx2 64 ((St12.cells t6.1)), FW.blk bx1 64 ((St12.cells v0))]) (cs' := (St12.cells t6.1)) (j := 7) hk rfl rfl rfl rfl rfl (by kernel_rfl) rfl rfl fun w hk => ?_
     refine hQ _ a w ?_ hk; clear hk hQ hX
     refine ⟨[(70, [], .agg ((St12.cells t6.1))), (71, [], .agg ((ApiPred.cells t6.2))), (72, [], .agg ((ApiArg.cells (⟨2, (⟨0, false, 0, 0, [], []⟩ : ApiValue), t6.2, []⟩ : ApiArg)))), (122, [], .lit undef), (122, [], .lit undef)], And.intro rfl (And.intro rfl (And.intro rfl (trivial))), rfl, ?_⟩
     refine FW.gnext0 ?_ rfl rfl rfl ?_
     ·skip
      refine FW.gskip rfl rfl ?_
      refine FW.gfun (y := .agg ((ApiPred.cells t6.2))) rfl rfl rfl rfl (fun a w hk => FW.f_loadBlk hk FW.h0 (j := 0) rfl rfl Try.underlying36 rfl rfl rfl rfl) ?_
      refine FW.gfun (y := .agg ((ApiArg.cells (⟨2, (⟨0, false, 0, 0, [], []⟩ : ApiValue), t6.2, []⟩ : ApiArg)))) rfl rfl rfl rfl (fun a w hk => FW.f_buildN [] hk FW.h0 rfl rfl rfl) ?_
      refine FW.gskip0 rfl ?_
      refine FW.gskip0 rfl ?_
      exact FW.gend
     ·skip
      intro σD a w opsD QD hk hQ hX
      refine FW.st6 (cs' := (ApiArg.cells (⟨2, (⟨0, false, 0, 0, [], []⟩ : ApiValue), t6.2, []⟩ : ApiArg))) hk rfl (by kernel_rfl) fun w hk => ?_
      refine hQ _ a w ?_ hk; clear hk hQ hX
      refine ⟨[(70, [], .agg ((St12.cells t6.1))), (71, [], .agg ((ApiPred.cells t6.2))), (72, [], .agg ((ApiArg.cells (⟨2, (⟨0, false, 0, 0, [], []⟩ : ApiValue), t6.2, []⟩ : ApiArg)))), (122, [], .lit undef), (122, [], .lit undef)], And.intro rfl (And.intro rfl (And.intro rfl (And.intro rfl (trivial)))), rfl, ?_⟩
      refine FW.glast ?_ ?_
      ·skip
       refine FW.gskip rfl rfl ?_
       refine FW.gskip rfl rfl ?_
       refine FW.gskip rfl rfl ?_
       refine FW.gskip0 rfl ?_
       refine FW.gskip0 rfl ?_
       exact FW.gend
      ·skip
       intro a w hk; simp only [FW.stD, cond_true] at hk
       refine wp_ret ?_
       (repeat first | refine FW.then_ret ?_ | refine FW.block_ret ?_)
       obtain rfl := Option.some.inj h
       exact FW.fretR2 hk rfl (FW.rcell hk rfl (j := 7) rfl Try.underlying64 rfl (by kernel_rfl)) (FW.rcell hk rfl (j := 6) rfl Try.underlying38 rfl (by kernel_rfl))
   refine wp_skip ?_
   (repeat first | refine FW.tn ?_ | refine FW.bn ?_); refine q20 _ _ ?_
   refine FW.wreg fun _ q25 => ?_
   refine FW.sM hk fun a w hk => ?_
   refine FW.lf (y := .lit (.bool (!((decide (((List.getD v0.L (Int.toNat (IntKind.wrap .i64 (v0.I + 1))) default).Kind) = 5)) && (decide (((List.getD v0.L (Int.toNat (IntKind.wrap .i64 (v0.I + 1))) default).S) = ([40] : List UInt8))))))) hk ((FW.f_pure (FW.p_not hk.kn FW.h0 rfl))) fun a w hk => ?_
   refine FW.sM hk fun a w hk => ?_
   refine FW.lg (y := .lit (.pointer (some ⟨bx6, 1, none⟩))) hk rfl rfl rfl (fun hc => FW.f_fieldPtr hk hc rfl Try.underlying66 rfl (by kernel_rfl) rfl) fun a w hk => ?_
   refine FW.lg (y := .lit (.string (FW.B ((List.getD v0.L (Int.toNat v0.I) default).S)))) hk rfl rfl rfl (fun hc => FW.f_loadBlk1 hk hc (j := 1) rfl rfl Try.underlying9 rfl rfl) fun a w hk => ?_
   refine FW.lg (y := .lit (.bool (!decide (((List.getD v0.L (Int.toNat v0.I) default).S) = ([95, 95] : List UInt8))))) hk rfl rfl rfl (fun hc => (FW.f_pure (FW.p_sneq hk.kn hc rfl rfl))) fun a w hk => ?_
   refine FW.sAn hk fun a w hk => ?_
   refine FW.lend (q25 _ _ ?_)
   refine FW.wcondF (b := ((!((decide (((List.getD v0.L (Int.toNat (IntKind.wrap .i64 (v0.I + 1))) default).Kind) = 5)) && (decide (((List.getD v0.L (Int.toNat (IntKind.wrap .i64 (v0.I + 1))) default).S) = ([40] : List UInt8))))) && (!decide (((List.getD v0.L (Int.toNat v0.I) default).S) = ([95, 95] : List UInt8))))) hk h rfl (fun h hb => ?_) (fun h hb => ?_)
   ·skip
    refine FW.wreg fun _ q26 => ?_
    refine FW.sFp 1 hk Try.underlying64 fun a w hk => ?_
    refine FW.lf (y := .lit (.int .i64 v0.I)) hk (FW.f_loadBlk1 hk FW.h0 (j := 6) rfl rfl Try.underlying3 rfl rfl) fun a w hk => ?_
    refine FW.sAd hk fun a w hk => ?_
    refine FW.sFp 1 hk Try.underlying64 fun a w hk => ?_
    refine FW.st6 (cs' := (St12.cells (⟨v0.L, (IntKind.wrap .i64 (v0.I + 1)), v0.Deep, v0.Steps, v0.At, v0.E⟩ : St12))) hk rfl (by kernel_rfl) fun w hk => ?_
    refine FW.lend (q26 _ _ ?_)
    refine FW.wdrawE (.next [true, true, true, true, true, false, false] 5 [true, true, true, true, true, false, false] (.next [false, true, true, true, true, false, false] 6 [true, true, true, true, true, true, false] (.leaf [false, false, false, false, false, false, false]))) [(84, [], .agg ((St12.cells (⟨v0.L, (IntKind.wrap .i64 (v0.I + 1)), v0.Deep, v0.Steps, v0.At, v0.E⟩ : St12)))), (85, [], .lit (.pointer (some ⟨bx6, 1, none⟩))), (86, [], .lit (.string (FW.B ((List.getD v0.L (Int.toNat v0.I) default).S)))), (87, [], .agg ((ApiValue.cells (⟨4, false, 0, 0, (List.getD v0.L (Int.toNat v0.I) default).S, []⟩ : ApiValue)))), (88, [], .agg ((ApiArg.cells (⟨4, (⟨4, false, 0, 0, (List.getD v0.L (Int.toNat v0.I) default).S, []⟩ : ApiValue), (⟨[], [], []⟩ : ApiPred), []⟩ : ApiArg)))), (122, [], .lit undef), (122, [], .lit undef)] (by kernel_rfl) (by kernel_rfl) (by kernel_rfl) (by kernel_rfl) hk ?_; clear hk
    refine FW.gnext0 ?_ rfl rfl rfl ?_
    ·skip
     refine FW.gfun (y := .agg ((St12.cells (⟨v0.L, (IntKind.wrap .i64 (v0.I + 1)), v0.Deep, v0.Steps, v0.At, v0.E⟩ : St12)))) rfl rfl rfl rfl (fun a w hk => FW.f_loadBlk hk FW.h0 (j := 6) rfl rfl Try.underlying64 rfl rfl rfl rfl) ?_
     refine FW.gfun (y := .lit (.pointer (some ⟨bx6, 1, none⟩))) rfl rfl rfl rfl (fun a w hk => FW.f_fieldPtr hk FW.h0 rfl Try.underlying66 rfl (by kernel_rfl) rfl) ?_
     refine FW.gfun (y := .lit (.string (FW.B ((List.getD v0.L (Int.toNat v0.I) default).S)))) rfl rfl rfl rfl (fun a w hk => FW.f_loadBlk1 hk FW.h0 (j := 1) rfl rfl Try.underlying9 rfl rfl) ?_
     refine FW.gfun (y := .agg ((ApiValue.cells (⟨4, false, 0, 0, (List.getD v0.L (Int.toNat v0.I) default).S, []⟩ : ApiValue)))) rfl rfl rfl rfl (fun a w hk => FW.f_buildN [] hk FW.h0 rfl rfl rfl) ?_
     refine FW.gfun (y := .agg ((ApiArg.cells (⟨4, (⟨4, false, 0, 0, (List.getD v0.L (Int.toNat v0.I) default).S, []⟩ : ApiValue), (⟨[], [], []⟩ : ApiPred), []⟩ : ApiArg)))) rfl rfl rfl rfl (fun a w hk => FW.f_buildN [] hk FW.h0 rfl rfl rfl) ?_
     refine FW.gskip0 rfl ?_
     refine FW.gskip0 rfl ?_
     exact FW.gend
    ·skip
     intro σD a w opsD QD hk hQ hX
     refine FW.st5 (cs' := (St12.cells (⟨v0.L, (IntKind.wrap .i64 (v0.I + 1)), v0.Deep, v0.Steps, v0.At, v0.E⟩ : St12))) hk rfl (by kernel_rfl) fun w hk => ?_
     refine hQ _ a w ?_ hk; clear hk hQ hX
     refine ⟨[(84, [], .agg ((St12.cells (⟨v0.L, (IntKind.wrap .i64 (v0.I + 1)), v0.Deep, v0.Steps, v0.At, v0.E⟩ : St12)))), (85, [], .lit (.pointer (some ⟨bx6, 1, none⟩))), (86, [], .lit (.string (FW.B ((List.getD v0.L (Int.toNat v0.I) default).S)))), (87, [], .agg ((ApiValue.cells (⟨4, false, 0, 0, (List.getD v0.L (Int.toNat v0.I) default).S, []⟩ : ApiValue)))), (88, [], .agg ((ApiArg.cells (⟨4, (⟨4, false, 0, 0, (List.getD v0.L (Int.toNat v0.I) default).S, []⟩ : ApiValue), (⟨[], [], []⟩ : ApiPred), []⟩ : ApiArg)))), (122, [], .lit undef), (122, [], .lit undef)], And.intro rfl (And.intro rfl (And.intro rfl (And.intro rfl (And.intro rfl (trivial))))), rfl, ?_⟩
     refine FW.gnext0 ?_ rfl rfl rfl ?_
     ·skip
      refine FW.gskip rfl rfl ?_
      refine FW.gfun (y := .lit (.pointer (some ⟨bx6, 1, none⟩))) rfl rfl rfl rfl (fun a w hk => FW.f_fieldPtr hk FW.h0 rfl Try.underlying66 rfl (by kernel_rfl) rfl) ?_
      refine FW.gfun (y := .lit (.string (FW.B ((List.getD v0.L (Int.toNat v0.I) default).S)))) rfl rfl rfl rfl (fun a w hk => FW.f_loadBlk1 hk FW.h0 (j := 1) rfl rfl Try.underlying9 rfl rfl) ?_
      refine FW.gfun (y := .agg ((ApiValue.cells (⟨4, false, 0, 0, (List.getD v0.L (Int.toNat v0.I) default).S, []⟩ : ApiValue)))) rfl rfl rfl rfl (fun a w hk => FW.f_buildN [] hk FW.h0 rfl rfl rfl) ?_
      refine FW.gfun (y := .agg ((ApiArg.cells (⟨4, (⟨4, false, 0, 0, (List.getD v0.L (Int.toNat v0.I) default).S, []⟩ : ApiValue), (⟨[], [], []⟩ : ApiPred), []⟩ : ApiArg)))) rfl rfl rfl rfl (fun a w hk => FW.f_buildN [] hk FW.h0 rfl rfl rfl) ?_
      refine FW.gskip0 rfl ?_
      refine FW.gskip0 rfl ?_
      exact FW.gend
     ·skip
      intro σD a w opsD QD hk hQ hX
      refine FW.st4 (cs' := (ApiArg.cells (⟨4, (⟨4, false, 0, 0, (List.getD v0.L (Int.toNat v0.I) default).S, []⟩ : ApiValue), (⟨[], [], []⟩ : ApiPred), []⟩ : ApiArg))) hk rfl (by kernel_rfl) fun w hk => ?_
      refine hQ _ a w ?_ hk; clear hk hQ hX
      refine ⟨[(84, [], .agg ((St12.cells (⟨v0.L, (IntKind.wrap .i64 (v0.I + 1)), v0.Deep, v0.Steps, v0.At, v0.E⟩ : St12)))), (85, [], .lit (.pointer (some ⟨bx6, 1, none⟩))), (86, [], .lit (.string (FW.B ((List.getD v0.L (Int.toNat v0.I) default).S)))), (87, [], .agg ((ApiValue.cells (⟨4, false, 0, 0, (List.getD v0.L (Int.toNat v0.I) default).S, []⟩ : ApiValue)))), (88, [], .agg ((ApiArg.cells (⟨4, (⟨4, false, 0, 0, (List.getD v0.L (Int.toNat v0.I) default).S, []⟩ : ApiValue), (⟨[], [], []⟩ : ApiPred), []⟩ : ApiArg)))), (122, [], .lit undef), (122, [], .lit undef)], And.intro rfl (And.intro rfl (And.intro rfl (And.intro rfl (And.intro rfl (And.intro rfl (trivial)))))), rfl, ?_⟩
      refine FW.glast ?_ ?_
      ·skip
       refine FW.gskip rfl rfl ?_
       refine FW.gskip rfl rfl ?_
       refine FW.gskip rfl rfl ?_
       refine FW.gskip rfl rfl ?_
       refine FW.gskip rfl rfl ?_
       refine FW.gskip0 rfl ?_
       refine FW.gskip0 rfl ?_
       exact FW.gend
      ·skip
       intro a w hk; simp only [FW.stD, cond_true] at hk
       refine wp_ret ?_
       (repeat first | refine FW.then_ret ?_ | refine FW.block_ret ?_)
       obtain rfl := Option.some.inj h
       exact FW.fretR2 hk rfl (FW.rcell hk rfl (j := 5) rfl Try.underlying64 rfl (by kernel_rfl)) (FW.rcell hk rfl (j := 4) rfl Try.underlying38 rfl (by kernel_rfl))
   refine wp_skip ?_
   (repeat first | refine FW.tn ?_ | refine FW.bn ?_); exact q7 _ _ ⟨(List.getD v0.L (Int.toNat v0.I) default), v0, (((hk.drop 3).drop 2).drop 0).sub ⟨rfl, rfl, rfl, rfl, trivial⟩, h⟩
  refine wp_skip ?_
  (repeat first | refine FW.tn ?_ | refine FW.bn ?_); exact q7 _ _ ⟨(List.getD v0.L (Int.toNat v0.I) default), v0, ((hk.drop 2).drop 1).sub ⟨rfl, rfl, rfl, rfl, trivial⟩, h⟩

theorem p12_steps_knot : ∀ K : Nat, (∀ (v0 : St12) (r : St12 × List ApiStep), p12_steps.f K v0 = some r → FW.Ok Try.prog 27 [.agg (St12.cells v0)] (.tup [.agg (St12.cells r.1), .row (r_ApiStep_cells r.2)])) ∧ (∀ (v0 : St12) (r : St12 × ApiArg), p12_arg.f K v0 = some r → FW.Ok Try.prog 52 [.agg (St12.cells v0)] (.tup [.agg (St12.cells r.1), .agg (ApiArg.cells r.2)]))
 | 0 => ⟨fun v0 r h => by simp [p12_steps.f] at h, fun v0 r h => by simp [p12_arg.f] at h⟩
 | K + 1 => ⟨fun v0 r h => by rw [p12_steps.f] at h; exact p12_steps.bok _ _ (p12_steps_knot K).1 (p12_steps_knot K).2 K v0 r h, fun v0 r h => by rw [p12_arg.f] at h; exact p12_arg.bok _ _ (p12_steps_knot K).1 (p12_steps_knot K).2 K v0 r h⟩

theorem p12_steps.ok (K : Nat) (v0 : St12) (r : St12 × List ApiStep) (h : p12_steps.f K v0 = some r) : FW.Ok Try.prog 27 [.agg (St12.cells v0)] (.tup [.agg (St12.cells r.1), .row (r_ApiStep_cells r.2)]) := (p12_steps_knot K).1 v0 r h

theorem p12_arg.ok (K : Nat) (v0 : St12) (r : St12 × ApiArg) (h : p12_arg.f K v0 = some r) : FW.Ok Try.prog 52 [.agg (St12.cells v0)] (.tup [.agg (St12.cells r.1), .agg (ApiArg.cells r.2)]) := (p12_steps_knot K).2 v0 r h
end Go.Proofs.Ytbjbgodcenopnaa

/- Written by a program of this session (gen.py): the contracts of functions of the program. -/
import Derived.Test.YtbjbgodcenopnaaCbP5
namespace Go.Proofs.Ytbjbgodcenopnaa
set_option linter.unusedVariables false
set_option maxRecDepth 20000
set_option maxHeartbeats 10000000
abbrev Zzpr (zpr : St12 → Option (St12 × ApiPred)) : Prop := ∀ (v0 : St12) (r : St12 × ApiPred), zpr v0 = some r → FW.Ok Try.prog 78 [.agg (St12.cells v0)] (.tup [.agg (St12.cells r.1), .agg (ApiPred.cells r.2)])
theorem p12_pred.bok (zpr : St12 → Option (St12 × ApiPred)) (hzpr : Zzpr zpr) (K : Nat) (v0 : St12) (r : St12 × ApiPred) (h : p12_pred.b zpr K v0 = some r) :
  FW.Ok Try.prog 78 [.agg (St12.cells v0)] (.tup [.agg (St12.cells r.1), .agg (ApiPred.cells r.2)]) := by
 refine FW.enter (xs := [.agg (St12.cells v0)]) Try.func78 rfl Try.ntmps78 rfl ?_
 intro M w0 a hk
 unfold p12_pred.b at h
 refine FW.wreg fun _ q1 => ?_
 refine FW.l_box (cs := (St12.cells v0)) hk rfl rfl rfl rfl rfl ?_; clear hk; intro bx1 a w hk
 refine FW.l_alloc (zs := (St12.cells (⟨[], 0, 0, 0, 0, 0⟩ : St12))) [] hk rfl rfl rfl rfl ?_; clear hk; intro bx2 a w hk
 refine FW.l_alloc (zs := (ApiPred.cells (⟨[], [], []⟩ : ApiPred))) [] hk rfl rfl rfl rfl ?_; clear hk; intro bx3 a w hk
 refine FW.lend (q1 _ _ ?_)
 refine FW.wreg fun _ q2 => ?_
 refine FW.lf (y := .agg ((St12.cells v0))) hk (FW.f_loadBlk hk FW.h0 (j := 2) rfl rfl Try.underlying64 rfl rfl rfl rfl) fun a w hk => ?_
 refine FW.l_alloc (zs := (St12.cells (⟨[], 0, 0, 0, 0, 0⟩ : St12))) [] hk rfl rfl rfl rfl ?_; clear hk; intro bx4 a w hk
 refine FW.st0 (cs' := (St12.cells v0)) hk rfl (by kernel_rfl) fun w hk => ?_
 refine FW.lend (q2 _ _ ?_)
 refine FW.wseq fun _ q3 => ?_
 refine FW.wreg fun _ q4 => ?_
 refine FW.sFp 5 hk Try.underlying64 fun a w hk => ?_
 refine FW.lf (y := .lit (.int .i64 v0.E)) hk (FW.f_loadBlk1 hk FW.h0 (j := 3) rfl rfl Try.underlying23 rfl rfl) fun a w hk => ?_
 refine FW.lf (y := .lit (.bool (!decide (v0.E = 0)))) hk ((FW.f_pure (FW.p_neq hk.kn FW.h0 rfl rfl))) fun a w hk => ?_
 refine FW.sM hk fun a w hk => ?_
 refine FW.lg (y := .lit (.pointer (some ⟨bx1, 0, none⟩))) hk rfl rfl rfl (fun hc => FW.f_fieldPtr hk hc rfl Try.underlying64 rfl (by kernel_rfl) rfl) fun a w hk => ?_
 refine FW.lg (y := .row (r_ApiWord_cells v0.L)) hk rfl rfl rfl (fun hc => FW.f_loadBlk1 hk hc (j := 3) rfl rfl Try.underlying60 rfl rfl) fun a w hk => ?_
 refine FW.lg (y := .lit (.pointer (some ⟨bx1, 1, none⟩))) hk rfl rfl rfl (fun hc => FW.f_fieldPtr hk hc rfl Try.underlying64 rfl (by kernel_rfl) rfl) fun a w hk => ?_
 refine FW.lg (y := .lit (.int .i64 v0.I)) hk rfl rfl rfl (fun hc => FW.f_loadBlk1 hk hc (j := 3) rfl rfl Try.underlying3 rfl rfl) fun a w hk => ?_
 obtain ⟨hc1, h⟩ := FW.chk h
 refine FW.lg (y := .ref (ApiWord.cells (List.getD v0.L (Int.toNat v0.I) default))) hk rfl rfl rfl (fun hc => FW.f_indexAddr (R := r_ApiWord_cells) (f := ApiWord.cells) (l := v0.L) (sz := 5) r_ApiWord_cells_eq (fun _ => rfl) hk hc rfl rfl Try.underlying60 (by kernel_rfl) hc1) fun a w hk => ?_
 refine FW.lg (y := .ref (List.drop 0 (ApiWord.cells (List.getD v0.L (Int.toNat v0.I) default)))) hk rfl rfl rfl (fun hc => FW.f_fieldAddr hk hc rfl Try.underlying66 rfl (by kernel_rfl) rfl) fun a w hk => ?_
 refine FW.lg (y := .lit (.int .i64 ((List.getD v0.L (Int.toNat v0.I) default).Kind))) hk rfl rfl rfl (fun hc => FW.f_load1 hk hc rfl rfl Try.underlying3 rfl) fun a w hk => ?_
 refine FW.lg (y := .lit (.bool (!decide (((List.getD v0.L (Int.toNat v0.I) default).Kind) = 1)))) hk rfl rfl rfl (fun hc => (FW.f_pure (FW.p_neq hk.kn hc rfl rfl))) fun a w hk => ?_
 refine FW.sOr hk fun a w hk => ?_
 refine FW.lend (q4 _ _ ?_)
 refine FW.wcondF (b := ((!decide (v0.E = 0)) || (!decide (((List.getD v0.L (Int.toNat v0.I) default).Kind) = 1)))) hk h rfl (fun h hb => ?_) (fun h hb => ?_)
 ·skip
  refine FW.wreg fun _ q5 => ?_
  refine FW.lf (y := .agg ((St12.cells v0))) hk (FW.f_loadBlk hk FW.h0 (j := 3) rfl rfl Try.underlying64 rfl rfl rfl rfl) fun a w hk => ?_
  obtain ⟨t1, hr_t1, h⟩ := FW.bnd h
  refine FW.lf (y := .agg ((St12.cells t1))) hk (FW.f_call hk FW.h0 rfl rfl Try.func28 rfl (by kernel_rfl) (p12_fail.ok v0 120 _ hr_t1)) fun a w hk => ?_
  refine FW.lf (y := .agg ((ApiPred.cells (⟨[], [], []⟩ : ApiPred)))) hk (FW.f_buildN [] hk FW.h0 rfl rfl rfl) fun a w hk => ?_
  refine FW.st2 (cs' := (St12.cells t1)) hk rfl (by kernel_rfl) fun w hk => ?_
  refine FW.st1 (cs' := (ApiPred.cells (⟨[], [], []⟩ : ApiPred))) hk rfl (by kernel_rfl) fun w hk => ?_
  refine FW.lend (q5 _ _ ?_)
  refine wp_ret ?_
  (repeat first | refine FW.then_ret ?_ | refine FW.block_ret ?_)
  obtain rfl := Option.some.inj h
  exact FW.fretR2 hk rfl (FW.rcell hk rfl (j := 2) rfl Try.underlying64 rfl (by kernel_rfl)) (FW.rcell hk rfl (j := 1) rfl Try.underlying36 rfl (by kernel_rfl))
 refine wp_skip ?_
 (repeat first | refine FW.tn ?_ | refine FW.bn ?_); refine q3 _ _ ?_
 refine FW.wreg fun _ q6 => ?_
 refine FW.sFp 0 hk Try.underlying64 fun a w hk => ?_
 refine FW.lf (y := .row (r_ApiWord_cells v0.L)) hk (FW.f_loadBlk1 hk FW.h0 (j := 3) rfl rfl Try.underlying60 rfl rfl) fun a w hk => ?_
 refine FW.sFp 1 hk Try.underlying64 fun a w hk => ?_
 refine FW.lf (y := .lit (.int .i64 v0.I)) hk (FW.f_loadBlk1 hk FW.h0 (j := 3) rfl rfl Try.underlying3 rfl rfl) fun a w hk => ?_
 obtain ⟨hc2, h⟩ := FW.chk h
 refine FW.lf (y := .ref (ApiWord.cells (List.getD v0.L (Int.toNat v0.I) default))) hk (FW.f_indexAddr (R := r_ApiWord_cells) (f := ApiWord.cells) (l := v0.L) (sz := 5) r_ApiWord_cells_eq (fun _ => rfl) hk FW.h0 rfl rfl Try.underlying60 (by kernel_rfl) hc2) fun a w hk => ?_
 refine FW.lf (y := .ref (List.drop 1 (ApiWord.cells (List.getD v0.L (Int.toNat v0.I) default)))) hk (FW.f_fieldAddr hk FW.h0 rfl Try.underlying66 rfl (by kernel_rfl) rfl) fun a w hk => ?_
 refine FW.lf (y := .lit (.string (FW.B ((List.getD v0.L (Int.toNat v0.I) default).S)))) hk (FW.f_load1 hk FW.h0 rfl rfl Try.underlying9 rfl) fun a w hk => ?_
 obtain ⟨t2, hr_t2, h⟩ := FW.bnd h
 refine FW.lf (y := .tup [.lit (.int .i64 t2.1), .lit (.bool t2.2)]) hk (FW.f_call hk FW.h0 rfl rfl Try.func77 rfl (by kernel_rfl) (r12_Preds.ok K ((List.getD v0.L (Int.toNat v0.I) default).S) _ hr_t2)) fun a w hk => ?_
 refine FW.sM hk fun a w hk => ?_
 refine FW.lf (y := .lit (.int .i64 t2.1)) hk (FW.f_extract hk FW.h0 rfl rfl) fun a w hk => ?_
 refine FW.lf (y := .lit (.bool t2.2)) hk (FW.f_extract hk FW.h0 rfl rfl) fun a w hk => ?_
 refine FW.sA hk fun a w hk => ?_
 refine FW.sA hk fun a w hk => ?_
 refine FW.lend (q6 _ _ ?_)
 refine FW.wseq fun _ q7 => ?_
 refine FW.wreg fun _ q8 => ?_
 refine FW.sM hk fun a w hk => ?_
 refine FW.lf (y := .lit (.bool (!t2.2))) hk ((FW.f_pure (FW.p_not hk.kn FW.h0 rfl))) fun a w hk => ?_
 refine FW.lend (q8 _ _ ?_)
 refine FW.wcondF (b := (!t2.2)) hk h rfl (fun h hb => ?_) (fun h hb => ?_)
 ·skip
  refine FW.wreg fun _ q9 => ?_
  refine FW.lf (y := .agg ((St12.cells v0))) hk (FW.f_loadBlk hk FW.h0 (j := 3) rfl rfl Try.underlying64 rfl rfl rfl rfl) fun a w hk => ?_
  obtain ⟨t3, hr_t3, h⟩ := FW.bnd h
  refine FW.lf (y := .agg ((St12.cells t3))) hk (FW.f_call hk FW.h0 rfl rfl Try.func28 rfl (by kernel_rfl) (p12_fail.ok v0 120 _ hr_t3)) fun a w hk => ?_
  refine FW.lf (y := .agg ((ApiPred.cells (⟨[], [], []⟩ : ApiPred)))) hk (FW.f_buildN [] hk FW.h0 rfl rfl rfl) fun a w hk => ?_
  refine FW.st2 (cs' := (St12.cells t3)) hk rfl (by kernel_rfl) fun w hk => ?_
  refine FW.st1 (cs' := (ApiPred.cells (⟨[], [], []⟩ : ApiPred))) hk rfl (by kernel_rfl) fun w hk => ?_
  refine FW.lend (q9 _ _ ?_)
  refine wp_ret ?_
  (repeat first | refine FW.then_ret ?_ | refine FW.block_ret ?_)
  obtain rfl := Option.some.inj h
  exact FW.fretR2 hk rfl (FW.rcell hk rfl (j := 2) rfl Try.underlying64 rfl (by kernel_rfl)) (FW.rcell hk rfl (j := 1) rfl Try.underlying36 rfl (by kernel_rfl))
 refine wp_skip ?_
 (repeat first | refine FW.tn ?_ | refine FW.bn ?_); refine q7 _ _ ?_
 refine FW.wreg fun _ q10 => ?_
 refine FW.sFp 0 hk Try.underlying64 fun a w hk => ?_
 refine FW.lf (y := .row (r_ApiWord_cells v0.L)) hk (FW.f_loadBlk1 hk FW.h0 (j := 3) rfl rfl Try.underlying60 rfl rfl) fun a w hk => ?_
 refine FW.sFp 1 hk Try.underlying64 fun a w hk => ?_
 refine FW.lf (y := .lit (.int .i64 v0.I)) hk (FW.f_loadBlk1 hk FW.h0 (j := 3) rfl rfl Try.underlying3 rfl rfl) fun a w hk => ?_
 obtain ⟨hc3, h⟩ := FW.chk h
 refine FW.lf (y := .ref (ApiWord.cells (List.getD v0.L (Int.toNat v0.I) default))) hk (FW.f_indexAddr (R := r_ApiWord_cells) (f := ApiWord.cells) (l := v0.L) (sz := 5) r_ApiWord_cells_eq (fun _ => rfl) hk FW.h0 rfl rfl Try.underlying60 (by kernel_rfl) hc3) fun a w hk => ?_
 refine FW.lf (y := .ref (List.drop 1 (ApiWord.cells (List.getD v0.L (Int.toNat v0.I) default)))) hk (FW.f_fieldAddr hk FW.h0 rfl Try.underlying66 rfl (by kernel_rfl) rfl) fun a w hk => ?_
 refine FW.lf (y := .lit (.string (FW.B ((List.getD v0.L (Int.toNat v0.I) default).S)))) hk (FW.f_load1 hk FW.h0 rfl rfl Try.underlying9 rfl) fun a w hk => ?_
 refine FW.lf (y := .agg ((ApiPred.cells (⟨(List.getD v0.L (Int.toNat v0.I) default).S, [], []⟩ : ApiPred)))) hk (FW.f_buildN [] hk FW.h0 rfl rfl rfl) fun a w hk => ?_
 refine FW.l_alloc (zs := (ApiPred.cells (⟨[], [], []⟩ : ApiPred))) [] hk rfl rfl rfl rfl ?_; clear hk; intro bx5 a w hk
 refine FW.st0 (cs' := (ApiPred.cells (⟨(List.getD v0.L (Int.toNat v0.I) default).S, [], []⟩ : ApiPred))) hk rfl (by kernel_rfl) fun w hk => ?_
 refine FW.lend (q10 _ _ ?_)
 refine FW.wreg fun _ q11 => ?_
 refine FW.sFp 1 hk Try.underlying64 fun a w hk => ?_
 refine FW.lf (y := .lit (.int .i64 v0.I)) hk (FW.f_loadBlk1 hk FW.h0 (j := 4) rfl rfl Try.underlying3 rfl rfl) fun a w hk => ?_
 refine FW.sAd hk fun a w hk => ?_
 refine FW.sFp 1 hk Try.underlying64 fun a w hk => ?_
 refine FW.st4 (cs' := (St12.cells (⟨v0.L, (IntKind.wrap .i64 (v0.I + 1)), v0.Deep, v0.Steps, v0.At, v0.E⟩ : St12))) hk rfl (by kernel_rfl) fun w hk => ?_
 refine FW.lend (q11 _ _ ?_)
 refine FW.wreg fun _ q12 => ?_
 refine FW.lf (y := .agg ((St12.cells (⟨v0.L, (IntKind.wrap .i64 (v0.I + 1)), v0.Deep, v0.Steps, v0.At, v0.E⟩ : St12)))) hk (FW.f_loadBlk hk FW.h0 (j := 4) rfl rfl Try.underlying64 rfl rfl rfl rfl) fun a w hk => ?_
 obtain ⟨t4, hr_t4, h⟩ := FW.bnd h
 refine FW.lf (y := .agg ((St12.cells t4))) hk (FW.f_call hk FW.h0 rfl rfl Try.func26 rfl (by kernel_rfl) (p12_sign.ok (⟨v0.L, (IntKind.wrap .i64 (v0.I + 1)), v0.Deep, v0.Steps, v0.At, v0.E⟩ : St12) ([40] : List UInt8) _ hr_t4)) fun a w hk => ?_
 obtain ⟨t5, hr_t5, h⟩ := FW.bnd h
 refine FW.lf (y := .agg ((St12.cells t5))) hk (FW.f_call hk FW.h0 rfl rfl Try.func79 rfl (by kernel_rfl) (p12_into.ok t4 _ hr_t5)) fun a w hk => ?_
 refine FW.st4 (cs' := (St12.cells t5)) hk rfl (by kernel_rfl) fun w hk => ?_
 refine FW.lend (q12 _ _ ?_)
 refine FW.wreg fun _ q13 => ?_
 refine FW.lf (y := .agg ((St12.cells t5))) hk (FW.f_loadBlk hk FW.h0 (j := 4) rfl rfl Try.underlying64 rfl rfl rfl rfl) fun a w hk => ?_
 obtain ⟨t6, hr_t6, h⟩ := FW.bnd h
 refine FW.lf (y := .tup [.agg ((St12.cells t6.1)), .row (r_ApiValue_cells t6.2)]) hk (FW.f_call hk FW.h0 rfl rfl Try.func108 rfl (by kernel_rfl) (p12_values.ok K t5 ([41] : List UInt8) _ hr_t6)) fun a w hk => ?_
 refine FW.sM hk fun a w hk => ?_
 refine FW.lf (y := .agg ((St12.cells t6.1))) hk (FW.f_extract hk FW.h0 rfl rfl) fun a w hk => ?_
 refine FW.lf (y := .row (r_ApiValue_cells t6.2)) hk (FW.f_extract hk FW.h0 rfl rfl) fun a w hk => ?_
 refine FW.st4 (cs' := (St12.cells t6.1)) hk rfl (by kernel_rfl) fun w hk => ?_
 refine FW.sFp 1 hk Try.underlying36 fun a w hk => ?_
 refine FW.st0 (cs' := (ApiPred.cells (⟨(List.getD v0.L (Int.toNat v0.I) default).S, t6.2, []⟩ : ApiPred))) hk rfl (by kernel_rfl) fun w hk => ?_
 refine FW.lend (q13 _ _ ?_)
 refine FW.wreg fun _ q14 => ?_
 refine FW.sFp 2 hk Try.underlying64 fun a w hk => ?_
 refine FW.lf (y := .lit (.int .i64 v0.Deep)) hk (FW.f_loadBlk1 hk FW.h0 (j := 1) rfl rfl Try.underlying3 rfl rfl) fun a w hk => ?_
 refine FW.sFp 2 hk Try.underlying64 fun a w hk => ?_
 refine FW.st4 (cs' := (St12.cells (⟨t6.1.L, t6.1.I, v0.Deep, t6.1.Steps, t6.1.At, t6.1.E⟩ : St12))) hk rfl (by kernel_rfl) fun w hk => ?_
 refine FW.lend (q14 _ _ ?_)
 refine FW.wseq fun _ q15 => ?_
 refine FW.wreg fun _ q16 => ?_
 refine FW.sFp 5 hk Try.underlying64 fun a w hk => ?_
 refine FW.lf (y := .lit (.int .i64 t6.1.E)) hk (FW.f_loadBlk1 hk FW.h0 (j := 4) rfl rfl Try.underlying23 rfl rfl) fun a w hk => ?_
 refine FW.sEq hk fun a w hk => ?_
 refine FW.sM hk fun a w hk => ?_
 refine FW.lg (y := .lit (.int .i64 t2.1)) hk rfl rfl rfl (fun hc => FW.f_move hk hc rfl) fun a w hk => ?_
 refine FW.lg (y := .lit (.bool (decide (0 ≤ t2.1)))) hk rfl rfl rfl (fun hc => (FW.f_pure (FW.p_geq hk.kn hc rfl rfl))) fun a w hk => ?_
 refine FW.sAn hk fun a w hk => ?_
 refine FW.sM hk fun a w hk => ?_
 refine FW.lg (y := .lit (.pointer (some ⟨bx5, 1, none⟩))) hk rfl rfl rfl (fun hc => FW.f_fieldPtr hk hc rfl Try.underlying36 rfl (by kernel_rfl) rfl) fun a w hk => ?_
 refine FW.lg (y := .row (r_ApiValue_cells t6.2)) hk rfl rfl rfl (fun hc => FW.f_loadBlk1 hk hc (j := 0) rfl rfl Try.underlying31 rfl rfl) fun a w hk => ?_
 refine FW.lg (y := .lit (.int .i64 (List.length t6.2 : Int))) hk rfl rfl rfl (fun hc => FW.f_len (R := r_ApiValue_cells) (f := ApiValue.cells) (l := t6.2) r_ApiValue_cells_eq Try.underlying31 hk hc rfl) fun a w hk => ?_
 refine FW.lg (y := .lit (.int .i64 t2.1)) hk rfl rfl rfl (fun hc => FW.f_move hk hc rfl) fun a w hk => ?_
 refine FW.lg (y := .lit (.bool (!decide ((List.length t6.2 : Int) = t2.1)))) hk rfl rfl rfl (fun hc => (FW.f_pure (FW.p_neq hk.kn hc rfl rfl))) fun a w hk => ?_
 refine FW.sAn hk fun a w hk => ?_
 refine FW.lend (q16 _ _ ?_)
 refine FW.wcondF (b := (((decide (t6.1.E = 0)) && (decide (0 ≤ t2.1))) && (!decide ((List.length t6.2 : Int) = t2.1)))) hk h rfl (fun h hb => ?_) (fun h hb => ?_)
 ·skip
  refine FW.wreg fun _ q17 => ?_
  refine FW.lf (y := .agg ((St12.cells v0))) hk (FW.f_loadBlk hk FW.h0 (j := 1) rfl rfl Try.underlying64 rfl rfl rfl rfl) fun a w hk => ?_
  obtain ⟨t7, hr_t7, h⟩ := FW.bnd h
  refine FW.lf (y := .agg ((St12.cells t7))) hk (FW.f_call hk FW.h0 rfl rfl Try.func28 rfl (by kernel_rfl) (p12_fail.ok v0 120 _ hr_t7)) fun a w hk => ?_
  refine FW.lf (y := .agg ((ApiPred.cells (⟨[], [], []⟩ : ApiPred)))) hk (FW.f_buildN [] hk FW.h0 rfl rfl rfl) fun a w hk => ?_
  refine FW.st3 (cs' := (St12.cells t7)) hk rfl (by kernel_rfl) fun w hk => ?_
  refine FW.st2 (cs' := (ApiPred.cells (⟨[], [], []⟩ : ApiPred))) hk rfl (by kernel_rfl) fun w hk => ?_
  refine FW.lend (q17 _ _ ?_)
  refine wp_ret ?_
  (repeat first | refine FW.then_ret ?_ | refine FW.block_ret ?_)
  obtain rfl := Option.some.inj h
  exact FW.fretR2 hk rfl (FW.rcell hk rfl (j := 3) rfl Try.underlying64 rfl (by kernel_rfl)) (FW.rcell hk rfl (j := 2) rfl Try.underlying36 rfl (by kernel_rfl))
 refine wp_skip ?_
 (repeat first | refine FW.tn ?_ | refine FW.bn ?_); refine q15 _ _ ?_
 refine FW.wseqJ (fun a w => ∃ (y5 : ApiPred) (y4 : St12) (y1 : St12), FW.S M w0 a w 166 [FW.blk bx5 36 ((ApiPred.cells y5)), FW.blk bx4 64 ((St12.cells y4)), FW.blk bx3 36 ((ApiPred.cells (⟨[], [], []⟩ : ApiPred))), FW.blk bx2 64 ((St12.cells (⟨[], 0, 0, 0, 0, 0⟩ : St12))), FW.blk bx1 64 ((St12.cells y1))] [(1, [], .lit (.pointer (some ⟨bx1, 0, none⟩))), (2, [], .lit (.pointer (some ⟨bx2, 0, none⟩))), (3, [], .lit (.pointer (some ⟨bx3, 0, none⟩))), (4, [], .lit (.pointer (some ⟨bx4, 0, none⟩))), (7, [], .lit (.pointer (some ⟨bx5, 0, none⟩)))] ∧ p12_pred.j1 zpr K y5 y4 y1 = some r) ?_ ?_
 ·clear hk h
  rintro a w ⟨y5, y4, y1, hk, h⟩
  unfold p12_pred.j1 at h
  refine FW.wreg fun _ q19 => ?_
  refine FW.sFp 2 hk Try.underlying64 fun a w hk => ?_
  refine FW.lf (y := .lit (.int .i64 y4.Deep)) hk (FW.f_loadBlk1 hk FW.h0 (j := 1) rfl rfl Try.underlying3 rfl rfl) fun a w hk => ?_
  refine FW.sFp 2 hk Try.underlying64 fun a w hk => ?_
  refine FW.st4 (cs' := (St12.cells (⟨y1.L, y1.I, y4.Deep, y1.Steps, y1.At, y1.E⟩ : St12))) hk rfl (by kernel_rfl) fun w hk => ?_
  refine FW.lend (q19 _ _ ?_)
  refine FW.wdrawE (.next [true, true, false, false] 2 [true, true, false, false] (.next [false, true, false, false] 3 [true, true, true, false] (.leaf [false, false, false, false]))) [(164, [], .agg ((St12.cells (⟨y1.L, y1.I, y4.Deep, y1.Steps, y1.At, y1.E⟩ : St12)))), (165, [], .agg ((ApiPred.cells y5))), (166, [], .lit undef), (166, [], .lit undef)] (by kernel_rfl) (by kernel_rfl) (by kernel_rfl) (by kernel_rfl) hk ?_; clear hk
  refine FW.gnext0 ?_ rfl rfl rfl ?_
  ·skip
   refine FW.gfun (y := .agg ((St12.cells (⟨y1.L, y1.I, y4.Deep, y1.Steps, y1.At, y1.E⟩ : St12)))) rfl rfl rfl rfl (fun a w hk => FW.f_loadBlk hk FW.h0 (j := 4) rfl rfl Try.underlying64 rfl rfl rfl rfl) ?_
   refine FW.gfun (y := .agg ((ApiPred.cells y5))) rfl rfl rfl rfl (fun a w hk => FW.f_loadBlk hk FW.h0 (j := 0) rfl rfl Try.underlying36 rfl rfl rfl rfl) ?_
   refine FW.gskip0 rfl ?_
   refine FW.gskip0 rfl ?_
   exact FW.gend
  ·skip
   intro σD a w opsD QD hk hQ hX
   refine FW.st3 (cs' := (St12.cells (⟨y1.L, y1.I, y4.Deep, y1.Steps, y1.At, y1.E⟩ : St12))) hk rfl (by kernel_rfl) fun w hk => ?_
   refine hQ _ a w ?_ hk; clear hk hQ hX
   refine ⟨[(164, [], .agg ((St12.cells (⟨y1.L, y1.I, y4.Deep, y1.Steps, y1.At, y1.E⟩ : St12)))), (165, [], .agg ((ApiPred.cells y5))), (166, [], .lit undef), (166, [], .lit undef)], And.intro rfl (And.intro rfl (trivial)), rfl, ?_⟩
   refine FW.gnext0 ?_ rfl rfl rfl ?_
   ·skip
    refine FW.gskip rfl rfl ?_
    refine FW.gfun (y := .agg ((ApiPred.cells y5))) rfl rfl rfl rfl (fun a w hk => FW.f_loadBlk hk FW.h0 (j := 0) rfl rfl Try.underlying36 rfl rfl rfl rfl) ?_
    refine FW.gskip0 rfl ?_
    refine FW.gskip0 rfl ?_
    exact FW.gend
   ·skip
    intro σD a w opsD QD hk hQ hX
    refine FW.st2 (cs' := (ApiPred.cells y5)) hk rfl (by kernel_rfl) fun w hk => ?_
    refine hQ _ a w ?_ hk; clear hk hQ hX
    refine ⟨[(164, [], .agg ((St12.cells (⟨y1.L, y1.I, y4.Deep, y1.Steps, y1.At, y1.E⟩ : St12)))), (165, [], .agg ((ApiPred.cells y5))), (166, [], .lit undef), (166, [], .lit undef)], And.intro rfl (And.intro rfl (And.intro rfl (trivial))), rfl, ?_⟩
    refine FW.glast ?_ ?_
    ·skip
     refine FW.gskip rfl rfl ?_
     refine FW.gskip rfl rfl ?_
     refine FW.gskip0 rfl ?_
     refine FW.gskip0 rfl ?_
     exact FW.gend
    ·skip
     intro a w hk; simp only [FW.stD, cond_true] at hk
     refine wp_ret ?_
     (repeat first | refine FW.then_ret ?_ | refine FW.block_ret ?_)
     obtain rfl := Option.some.inj h
     exact FW.fretR2 hk rfl (FW.rcell hk rfl (j := 3) rfl Try.underlying64 rfl (by kernel_rfl)) (FW.rcell hk rfl (j := 2) rfl Try.underlying36 rfl (by kernel_rfl))
 ·intro K' q18
  refine wp_block ?_
  refine FW.wloop (T := Nat × ApiPred × St12 × St12) (fun x a w => match x with | (kl1, y5, y4, y1) => FW.S M w0 a w 166 [FW.blk bx5 36 ((ApiPred.cells y5)), FW.blk bx4 64 ((St12.cells y4)), FW.blk bx3 36 ((ApiPred.cells (⟨[], [], []⟩ : ApiPred))), FW.blk bx2 64 ((St12.cells (⟨[], 0, 0, 0, 0, 0⟩ : St12))), FW.blk bx1 64 ((St12.cells y1))] [(1, [], .lit (.pointer (some ⟨bx1, 0, none⟩))), (2, [], .lit (.pointer (some ⟨bx2, 0, none⟩))), (3, [], .lit (.pointer (some ⟨bx3, 0, none⟩))), (4, [], .lit (.pointer (some ⟨bx4, 0, none⟩))), (7, [], .lit (.pointer (some ⟨bx5, 0, none⟩)))] ∧ p12_pred.l1 zpr K kl1 y5 y4 y1 = some r) (fun x => x.1) (K, (⟨(List.getD v0.L (Int.toNat v0.I) default).S, t6.2, []⟩ : ApiPred), v0, (⟨t6.1.L, t6.1.I, v0.Deep, t6.1.Steps, t6.1.At, t6.1.E⟩ : St12)) ⟨hk.sub ⟨rfl, rfl, rfl, rfl, rfl, trivial⟩, h⟩ ?_
  clear hk h
  rintro ⟨kl1, y5, y4, y1⟩ a w ⟨hk, h⟩ K' q21
  cases kl1 with
  | zero => simp [p12_pred.l1] at h
  | succ kl1 =>
  rw [p12_pred.l1.eq_2] at h
  refine FW.wseq fun _ q22 => ?_
  refine FW.wreg fun _ q23 => ?_
  refine FW.lf (y := .agg ((St12.cells y1))) hk (FW.f_loadBlk hk FW.h0 (j := 4) rfl rfl Try.underlying64 rfl rfl rfl rfl) fun a w hk => ?_
  obtain ⟨t8, hr_t8, h⟩ := FW.bnd h
  refine FW.lf (y := .lit (.bool t8)) hk (FW.f_call hk FW.h0 rfl rfl Try.func51 rfl (by kernel_rfl) (p12_is.ok y1 ([46] : List UInt8) _ hr_t8)) fun a w hk => ?_
  refine FW.lend (q23 _ _ ?_)
  refine FW.wcondF (b := t8) hk h rfl (fun h hb => ?_) (fun h hb => ?_)
  ·skip
   refine wp_skip ?_
   (repeat first | refine FW.tn ?_ | refine FW.bn ?_); refine q22 _ _ ?_
   refine wp_block ?_
   refine FW.wreg fun _ q24 => ?_
   refine FW.sFp 1 hk Try.underlying64 fun a w hk => ?_
   refine FW.lf (y := .lit (.int .i64 y1.I)) hk (FW.f_loadBlk1 hk FW.h0 (j := 4) rfl rfl Try.underlying3 rfl rfl) fun a w hk => ?_
   refine FW.sAd hk fun a w hk => ?_
   refine FW.sFp 1 hk Try.underlying64 fun a w hk => ?_
   refine FW.st4 (cs' := (St12.cells (⟨y1.L, (IntKind.wrap .i64 (y1.I + 1)), y1.Deep, y1.Steps, y1.At, y1.E⟩ : St12))) hk rfl (by kernel_rfl) fun w hk => ?_
   refine FW.lend (q24 _ _ ?_)
   refine FW.wreg fun _ q25 => ?_
   refine FW.lf (y := .agg ((St12.cells (⟨y1.L, (IntKind.wrap .i64 (y1.I + 1)), y1.Deep, y1.Steps, y1.At, y1.E⟩ : St12)))) hk (FW.f_loadBlk hk FW.h0 (j := 4) rfl rfl Try.underlying64 rfl rfl rfl rfl) fun a w hk => ?_
   obtain ⟨t9, hr_t9, h⟩ := FW.bnd h
   refine FW.lf (y := .agg ((St12.cells t9))) hk (FW.f_call hk FW.h0 rfl rfl Try.func79 rfl (by kernel_rfl) (p12_into.ok (⟨y1.L, (IntKind.wrap .i64 (y1.I + 1)), y1.Deep, y1.Steps, y1.At, y1.E⟩ : St12) _ hr_t9)) fun a w hk => ?_
   refine FW.st4 (cs' := (St12.cells t9)) hk rfl (by kernel_rfl) fun w hk => ?_
   refine FW.lend (q25 _ _ ?_)
   refine FW.wreg fun _ q26 => ?_
   refine FW.lf (y := .agg ((St12.cells t9))) hk (FW.f_loadBlk hk FW.h0 (j := 4) rfl rfl Try.underlying64 rfl rfl rfl rfl) fun a w hk => ?_
   refine FW.l_alloc (zs := (St12.cells (⟨[], 0, 0, 0, 0, 0⟩ : St12))) [] hk rfl rfl rfl rfl ?_; clear hk; intro bx6 a w hk
   refine FW.st0 (cs' := (St12.cells t9)) hk rfl (by kernel_rfl) fun w hk => ?_
   refine FW.lend (q26 _ _ ?_)
   refine FW.wseqJ (fun a w => ∃ (y6 : St12) (y1 : St12), FW.S M w0 a w 166 [FW.blk bx6 64 ((St12.cells y6)), FW.blk bx5 36 ((ApiPred.cells y5)), FW.blk bx4 64 ((St12.cells y4)), FW.blk bx3 36 ((ApiPred.cells (⟨[], [], []⟩ : ApiPred))), FW.blk bx2 64 ((St12.cells (⟨[], 0, 0, 0, 0, 0⟩ : St12))), FW.blk bx1 64 ((St12.cells y1))] [(1, [], .lit (.pointer (some ⟨bx1, 0, none⟩))), (2, [], .lit (.pointer (some ⟨bx2, 0, none⟩))), (3, [], .lit (.pointer (some ⟨bx3, 0, none⟩))), (4, [], .lit (.pointer (some ⟨bx4, 0, none⟩))), (7, [], .lit (.pointer (some ⟨bx5, 0, none⟩))), (8, [], .lit (.pointer (some ⟨bx6, 0, none⟩)))] ∧ p12_pred.j2 zpr (p12_pred.l1 zpr K kl1) K y4 y5 y6 y1 = some r) ?_ ?_
   ·clear hk h
    rintro a w ⟨y6, y1, hk, h⟩
    unfold p12_pred.j2 at h
    refine FW.wseq fun _ q28 => ?_
    refine FW.wreg fun _ q29 => ?_
    refine FW.sFp 5 hk Try.underlying64 fun a w hk => ?_
    refine FW.lf (y := .lit (.int .i64 y1.E)) hk (FW.f_loadBlk1 hk FW.h0 (j := 5) rfl rfl Try.underlying23 rfl rfl) fun a w hk => ?_
    refine FW.lf (y := .lit (.bool (!decide (y1.E = 0)))) hk ((FW.f_pure (FW.p_neq hk.kn FW.h0 rfl rfl))) fun a w hk => ?_
    refine FW.lend (q29 _ _ ?_)
    refine FW.wcondF (b := (!decide (y1.E = 0))) hk h rfl (fun h hb => ?_) (fun h hb => ?_)
    ·skip
     refine wp_exit ?_; (repeat first | refine FW.then_exit ?_ | refine FW.block_exit_ne rfl ?_); refine FW.block_exit ?_
     (repeat first | refine FW.tn ?_ | refine FW.bn ?_); exact q18 _ _ ⟨y5, y4, y1, (hk.drop 0).sub ⟨rfl, rfl, rfl, rfl, rfl, trivial⟩, h⟩
    refine wp_skip ?_
    (repeat first | refine FW.tn ?_ | refine FW.bn ?_); refine q28 _ _ ?_
    refine FW.wreg fun _ q30 => ?_
    refine FW.sFp 0 hk Try.underlying64 fun a w hk => ?_
    refine FW.lf (y := .row (r_ApiWord_cells y1.L)) hk (FW.f_loadBlk1 hk FW.h0 (j := 5) rfl rfl Try.underlying60 rfl rfl) fun a w hk => ?_
    refine FW.sFp 1 hk Try.underlying64 fun a w hk => ?_
    refine FW.lf (y := .lit (.int .i64 y1.I)) hk (FW.f_loadBlk1 hk FW.h0 (j := 5) rfl rfl Try.underlying3 rfl rfl) fun a w hk => ?_
    obtain ⟨hc4, h⟩ := FW.chk h
    refine FW.lf (y := .ref (ApiWord.cells (List.getD y1.L (Int.toNat y1.I) default))) hk (FW.f_indexAddr (R := r_ApiWord_cells) (f := ApiWord.cells) (l := y1.L) (sz := 5) r_ApiWord_cells_eq (fun _ => rfl) hk FW.h0 rfl rfl Try.underlying60 (by kernel_rfl) hc4) fun a w hk => ?_
    refine FW.lf (y := .ref (List.drop 1 (ApiWord.cells (List.getD y1.L (Int.toNat y1.I) default)))) hk (FW.f_fieldAddr hk FW.h0 rfl Try.underlying66 rfl (by kernel_rfl) rfl) fun a w hk => ?_
    refine FW.lf (y := .lit (.string (FW.B ((List.getD y1.L (Int.toNat y1.I) default).S)))) hk (FW.f_load1 hk FW.h0 rfl rfl Try.underlying9 rfl) fun a w hk => ?_
    refine FW.sA hk fun a w hk => ?_
    refine FW.lend (q30 _ _ ?_)
    refine FW.wreg fun _ q31 => ?_
    refine FW.sFp 1 hk Try.underlying64 fun a w hk => ?_
    refine FW.lf (y := .lit (.int .i64 y1.I)) hk (FW.f_loadBlk1 hk FW.h0 (j := 5) rfl rfl Try.underlying3 rfl rfl) fun a w hk => ?_
    refine FW.sAd hk fun a w hk => ?_
    refine FW.sFp 1 hk Try.underlying64 fun a w hk => ?_
    refine FW.st5 (cs' := (St12.cells (⟨y1.L, (IntKind.wrap .i64 (y1.I + 1)), y1.Deep, y1.Steps, y1.At, y1.E⟩ : St12))) hk rfl (by kernel_rfl) fun w hk => ?_
    refine FW.lend (q31 _ _ ?_)
    refine FW.wreg fun _ q32 => ?_
    refine FW.lf (y := .agg ((St12.cells (⟨y1.L, (IntKind.wrap .i64 (y1.I + 1)), y1.Deep, y1.Steps, y1.At, y1.E⟩ : St12)))) hk (FW.f_loadBlk hk FW.h0 (j := 5) rfl rfl Try.underlying64 rfl rfl rfl rfl) fun a w hk => ?_
    obtain ⟨t10, hr_t10, h⟩ := FW.bnd h
    refine FW.lf (y := .agg ((St12.cells t10))) hk (FW.f_call hk FW.h0 rfl rfl Try.func26 rfl (by kernel_rfl) (p12_sign.ok (⟨y1.L, (IntKind.wrap .i64 (y1.I + 1)), y1.Deep, y1.Steps, y1.At, y1.E⟩ : St12) ([40] : List UInt8) _ hr_t10)) fun a w hk => ?_
    refine FW.st5 (cs' := (St12.cells t10)) hk rfl (by kernel_rfl) fun w hk => ?_
    refine FW.lend (q32 _ _ ?_)
    refine FW.wseqJ (fun a w => ∃ (y5 : ApiPred) (y1 : St12), FW.S M w0 a w 166 [FW.blk bx5 36 ((ApiPred.cells y5)), FW.blk bx4 64 ((St12.cells y4)), FW.blk bx3 36 ((ApiPred.cells (⟨[], [], []⟩ : ApiPred))), FW.blk bx2 64 ((St12.cells (⟨[], 0, 0, 0, 0, 0⟩ : St12))), FW.blk bx1 64 ((St12.cells y1))] [(1, [], .lit (.pointer (some ⟨bx1, 0, none⟩))), (2, [], .lit (.pointer (some ⟨bx2, 0, none⟩))), (3, [], .lit (.pointer (some ⟨bx3, 0, none⟩))), (4, [], .lit (.pointer (some ⟨bx4, 0, none⟩))), (7, [], .lit (.pointer (some ⟨bx5, 0, none⟩)))] ∧ p12_pred.j3 zpr (p12_pred.l1 zpr K kl1) K y4 y5 y1 = some r) ?_ ?_
    ·clear hk h
     rintro a w ⟨y5, y1, hk, h⟩
     unfold p12_pred.j3 at h
     refine FW.wreg1 ?_
     refine FW.lf (y := .agg ((St12.cells y1))) hk (FW.f_loadBlk hk FW.h0 (j := 4) rfl rfl Try.underlying64 rfl rfl rfl rfl) fun a w hk => ?_
     obtain ⟨t11, hr_t11, h⟩ := FW.bnd h
     refine FW.lf (y := .agg ((St12.cells t11))) hk (FW.f_call hk FW.h0 rfl rfl Try.func26 rfl (by kernel_rfl) (p12_sign.ok y1 ([41] : List UInt8) _ hr_t11)) fun a w hk => ?_
     refine FW.st4 (cs' := (St12.cells t11)) hk rfl (by kernel_rfl) fun w hk => ?_
     refine wpList_nil ?_
     (repeat first | refine FW.tn ?_ | refine FW.bn ?_); exact q21 (kl1, y5, y4, t11) _ _ (Nat.lt_succ_self _) ⟨hk.sub ⟨rfl, rfl, rfl, rfl, rfl, trivial⟩, h⟩
    ·intro K' q33
     refine FW.wreg fun _ q35 => ?_
     refine FW.sM hk fun a w hk => ?_
     refine FW.lend (q35 _ _ ?_)
     refine wp_block ?_
     refine FW.wseqJ (fun a w => ∃ (y1 : St12) (v9 : List UInt8) (v127 : List UInt8) (v133 : Bool), FW.S M w0 a w 166 [FW.blk bx6 64 ((St12.cells y6)), FW.blk bx5 36 ((ApiPred.cells y5)), FW.blk bx4 64 ((St12.cells y4)), FW.blk bx3 36 ((ApiPred.cells (⟨[], [], []⟩ : ApiPred))), FW.blk bx2 64 ((St12.cells (⟨[], 0, 0, 0, 0, 0⟩ : St12))), FW.blk bx1 64 ((St12.cells y1))] [(1, [], .lit (.pointer (some ⟨bx1, 0, none⟩))), (2, [], .lit (.pointer (some ⟨bx2, 0, none⟩))), (3, [], .lit (.pointer (some ⟨bx3, 0, none⟩))), (4, [], .lit (.pointer (some ⟨bx4, 0, none⟩))), (7, [], .lit (.pointer (some ⟨bx5, 0, none⟩))), (8, [], .lit (.pointer (some ⟨bx6, 0, none⟩))), (9, [], .lit (.string (FW.B v9))), (127, [], .lit (.string (FW.B v127))), (133, [], .lit (.bool v133))] ∧ p12_pred.j4 zpr (p12_pred.l1 zpr K kl1) K y4 y5 y6 y1 v9 v127 v133 = some r) ?_ ?_
     ·clear hk h
      rintro a w ⟨y1, v9, v127, v133, hk, h⟩
      unfold p12_pred.j4 at h
      refine FW.wcondF (b := v133) hk h rfl (fun h hb => ?_) (fun h hb => ?_)
      ·skip
       refine FW.wreg fun _ q37 => ?_
       refine FW.sFp 5 hk Try.underlying64 fun a w hk => ?_
       refine FW.lf (y := .lit (.int .i64 y1.E)) hk (FW.f_loadBlk1 hk FW.h0 (j := 5) rfl rfl Try.underlying23 rfl rfl) fun a w hk => ?_
       refine FW.sEq hk fun a w hk => ?_
       refine FW.lend (q37 _ _ ?_)
       refine FW.wcondF (b := (decide (y1.E = 0))) hk h rfl (fun h hb => ?_) (fun h hb => ?_)
       ·skip
        refine FW.wreg fun _ q38 => ?_
        refine FW.lf (y := .agg ((St12.cells y1))) hk (FW.f_loadBlk hk FW.h0 (j := 5) rfl rfl Try.underlying64 rfl rfl rfl rfl) fun a w hk => ?_
        obtain ⟨t12, hr_t12, h⟩ := FW.bnd h
        refine FW.lf (y := .tup [.agg ((St12.cells t12.1)), .agg ((ApiPred.cells t12.2))]) hk (FW.f_call hk FW.h0 rfl rfl Try.func78 rfl (by kernel_rfl) (hzpr y1 _ hr_t12)) fun a w hk => ?_
        refine FW.sM hk fun a w hk => ?_
        refine FW.lf (y := .agg ((St12.cells t12.1))) hk (FW.f_extract hk FW.h0 rfl rfl) fun a w hk => ?_
        refine FW.lf (y := .agg ((ApiPred.cells t12.2))) hk (FW.f_extract hk FW.h0 rfl rfl) fun a w hk => ?_
        refine FW.l_alloc (zs := (St12.cells (⟨[], 0, 0, 0, 0, 0⟩ : St12))) [] hk rfl rfl rfl rfl ?_; clear hk; intro bx7 a w hk
        refine FW.l_alloc (zs := (ApiPred.cells (⟨[], [], []⟩ : ApiPred))) [] hk rfl rfl rfl rfl ?_; clear hk; intro bx8 a w hk
        refine FW.st1 (cs' := (St12.cells t12.1)) hk rfl (by kernel_rfl) fun w hk => ?_
        refine FW.st0 (cs' := (ApiPred.cells t12.2)) hk rfl (by kernel_rfl) fun w hk => ?_
        refine FW.lend (q38 _ _ ?_)
        refine FW.wreg fun _ q39 => ?_
        refine FW.sFp 2 hk Try.underlying64 fun a w hk => ?_
        refine FW.lf (y := .lit (.int .i64 y1.Deep)) hk (FW.f_loadBlk1 hk FW.h0 (j := 7) rfl rfl Try.underlying3 rfl rfl) fun a w hk => ?_
        refine FW.sA hk fun a w hk => ?_
        refine FW.lend (q39 _ _ ?_)
        refine FW.wreg fun _ q40 => ?_
        refine FW.lf (y := .agg ((St12.cells t12.1))) hk (FW.f_loadBlk hk FW.h0 (j := 1) rfl rfl Try.underlying64 rfl rfl rfl rfl) fun a w hk => ?_
        refine FW.l_store (I' := [FW.blk bx8 36 ((ApiPred.cells t12.2)), FW.blk bx7 64 ((St12.cells t12.1)), FW.blk bx6 64 ((St12.cells y6)), FW.blk bx5 36 ((ApiPred.cells y5)), FW.blk bx4 64 ((St12.cells y4)), FW.blk bx3 36 ((ApiPred.cells (⟨[], [], []⟩ : ApiPred))), FW.blk bx2 64 ((St12.cells (⟨[], 0, 0, 0, 0, 0⟩ : St12))), FW.blk bx1 64 ((St12.cells t12.1))]) (cs' := (St12.cells t12.1)) (j := 7) hk rfl rfl rfl rfl rfl (by kernel_rfl) rfl rfl fun w hk => ?_
        refine FW.lend (q40 _ _ ?_)
        refine FW.wreg fun _ q41 => ?_
        refine FW.sM hk fun a w hk => ?_
        refine FW.sFp 2 hk Try.underlying64 fun a w hk => ?_
        refine FW.l_store (I' := [FW.blk bx8 36 ((ApiPred.cells t12.2)), FW.blk bx7 64 ((St12.cells t12.1)), FW.blk bx6 64 ((St12.cells y6)), FW.blk bx5 36 ((ApiPred.cells y5)), FW.blk bx4 64 ((St12.cells y4)), FW.blk bx3 36 ((ApiPred.cells (⟨[], [], []⟩ : ApiPred))), FW.blk bx2 64 ((St12.cells (⟨[], 0, 0, 0, 0, 0⟩ : St12))), FW.blk bx1 64 ((St12.cells (⟨t12.1.L, t12.1.I, y1.Deep, t12.1.Steps, t12.1.At, t12.1.E⟩ : St12)))]) (cs' := (St12.cells (⟨t12.1.L, t12.1.I, y1.Deep, t12.1.Steps, t12.1.At, t12.1.E⟩ : St12))) (j := 7) hk rfl rfl rfl rfl rfl (by kernel_rfl) rfl rfl fun w hk => ?_
        refine FW.lend (q41 _ _ ?_)
        refine FW.wreg1 ?_
        refine FW.sM hk fun a w hk => ?_
        refine FW.lf (y := .agg ((ApiPred.cells y5))) hk (FW.f_loadBlk hk FW.h0 (j := 3) rfl rfl Try.underlying36 rfl rfl rfl rfl) fun a w hk => ?_
        refine FW.lf (y := .agg ((ApiPred.cells t12.2))) hk (FW.f_loadBlk hk FW.h0 (j := 0) rfl rfl Try.underlying36 rfl rfl rfl rfl) fun a w hk => ?_
        refine FW.l_buildSlice (f := ApiPred.cells) (l := ([y5, t12.2] : List ApiPred)) hk rfl rfl rfl Try.underlying34 rfl rfl rfl rfl (fun _ => rfl) rfl ?_; clear hk; intro bx9 a w hk
        replace hk := (FW.S.freezeR (I' := [FW.blk bx8 36 ((ApiPred.cells t12.2)), FW.blk bx7 64 ((St12.cells t12.1)), FW.blk bx6 64 ((St12.cells y6)), FW.blk bx5 36 ((ApiPred.cells y5)), FW.blk bx4 64 ((St12.cells y4)), FW.blk bx3 36 ((ApiPred.cells (⟨[], [], []⟩ : ApiPred))), FW.blk bx2 64 ((St12.cells (⟨[], 0, 0, 0, 0, 0⟩ : St12))), FW.blk bx1 64 ((St12.cells (⟨t12.1.L, t12.1.I, y1.Deep, t12.1.Steps, t12.1.At, t12.1.E⟩ : St12)))]) r_ApiPred_cells_eq hk (j := 0) rfl (t := 152) rfl rfl).squash
        refine FW.lf (y := .agg ((ApiPred.cells (⟨v9, [], ([y5, t12.2] : List ApiPred)⟩ : ApiPred)))) hk (FW.f_buildN [] hk FW.h0 rfl rfl rfl) fun a w hk => ?_
        refine FW.st3 (cs' := (ApiPred.cells (⟨v9, [], ([y5, t12.2] : List ApiPred)⟩ : ApiPred))) hk rfl (by kernel_rfl) fun w hk => ?_
        refine wpList_nil ?_
        (repeat first | refine FW.tn ?_ | refine FW.bn ?_); exact q33 _ _ ⟨(⟨v9, [], ([y5, t12.2] : List ApiPred)⟩ : ApiPred), (⟨t12.1.L, t12.1.I, y1.Deep, t12.1.Steps, t12.1.At, t12.1.E⟩ : St12), (((hk.drop 2).drop 1).drop 0).sub ⟨rfl, rfl, rfl, rfl, rfl, trivial⟩, h⟩
       refine wp_skip ?_
       (repeat first | refine FW.tn ?_ | refine FW.bn ?_); exact q33 _ _ ⟨y5, y1, (hk.drop 0).sub ⟨rfl, rfl, rfl, rfl, rfl, trivial⟩, h⟩
      refine FW.wreg fun _ q43 => ?_
      refine FW.sSe hk fun a w hk => ?_
      refine FW.sA hk fun a w hk => ?_
      refine FW.lend (q43 _ _ ?_)
      refine FW.wcondF (b := (decide (v127 = ([110, 101, 103, 97, 116, 101] : List UInt8)))) hk h rfl (fun h hb => ?_) (fun h hb => ?_)
      ·skip
       refine FW.wreg1 ?_
       refine FW.lf (y := .agg ((ApiPred.cells y5))) hk (FW.f_loadBlk hk FW.h0 (j := 1) rfl rfl Try.underlying36 rfl rfl rfl rfl) fun a w hk => ?_
       refine FW.l_buildSlice (f := ApiPred.cells) (l := ([y5] : List ApiPred)) hk rfl rfl rfl Try.underlying34 rfl rfl rfl rfl (fun _ => rfl) rfl ?_; clear hk; intro bx10 a w hk
       replace hk := (FW.S.freezeR (I' := [FW.blk bx6 64 ((St12.cells y6)), FW.blk bx5 36 ((ApiPred.cells y5)), FW.blk bx4 64 ((St12.cells y4)), FW.blk bx3 36 ((ApiPred.cells (⟨[], [], []⟩ : ApiPred))), FW.blk bx2 64 ((St12.cells (⟨[], 0, 0, 0, 0, 0⟩ : St12))), FW.blk bx1 64 ((St12.cells y1))]) r_ApiPred_cells_eq hk (j := 0) rfl (t := 157) rfl rfl).squash
       refine FW.lf (y := .agg ((ApiPred.cells (⟨([110, 111, 116] : List UInt8), [], ([y5] : List ApiPred)⟩ : ApiPred)))) hk (FW.f_buildN [] hk FW.h0 rfl rfl rfl) fun a w hk => ?_
       refine FW.st1 (cs' := (ApiPred.cells (⟨([110, 111, 116] : List UInt8), [], ([y5] : List ApiPred)⟩ : ApiPred))) hk rfl (by kernel_rfl) fun w hk => ?_
       refine wpList_nil ?_
       (repeat first | refine FW.tn ?_ | refine FW.bn ?_); exact q33 _ _ ⟨(⟨([110, 111, 116] : List UInt8), [], ([y5] : List ApiPred)⟩ : ApiPred), y1, (hk.drop 0).sub ⟨rfl, rfl, rfl, rfl, rfl, trivial⟩, h⟩
      refine FW.wreg fun _ q45 => ?_
      refine FW.sFp 5 hk Try.underlying64 fun a w hk => ?_
      refine FW.lf (y := .lit (.int .i64 y1.E)) hk (FW.f_loadBlk1 hk FW.h0 (j := 5) rfl rfl Try.underlying23 rfl rfl) fun a w hk => ?_
      refine FW.sEq hk fun a w hk => ?_
      refine FW.lend (q45 _ _ ?_)
      refine FW.wcondF (b := (decide (y1.E = 0))) hk h rfl (fun h hb => ?_) (fun h hb => ?_)
      ·skip
       refine FW.wreg1 ?_
       refine FW.lf (y := .agg ((St12.cells y6))) hk (FW.f_loadBlk hk FW.h0 (j := 0) rfl rfl Try.underlying64 rfl rfl rfl rfl) fun a w hk => ?_
       obtain ⟨t13, hr_t13, h⟩ := FW.bnd h
       refine FW.lf (y := .agg ((St12.cells t13))) hk (FW.f_call hk FW.h0 rfl rfl Try.func28 rfl (by kernel_rfl) (p12_fail.ok y6 120 _ hr_t13)) fun a w hk => ?_
       refine FW.st5 (cs' := (St12.cells t13)) hk rfl (by kernel_rfl) fun w hk => ?_
       refine wpList_nil ?_
       (repeat first | refine FW.tn ?_ | refine FW.bn ?_); exact q33 _ _ ⟨y5, t13, (hk.drop 0).sub ⟨rfl, rfl, rfl, rfl, rfl, trivial⟩, h⟩
      refine wp_skip ?_
      (repeat first | refine FW.tn ?_ | refine FW.bn ?_); exact q33 _ _ ⟨y5, y1, (hk.drop 0).sub ⟨rfl, rfl, rfl, rfl, rfl, trivial⟩, h⟩
     ·intro K' q36
      refine FW.wreg fun _ q47 => ?_
      refine FW.sSe hk fun a w hk => ?_
      refine FW.sA hk fun a w hk => ?_
      refine FW.lend (q47 _ _ ?_)
      refine FW.wcondF (b := (decide (((List.getD y1.L (Int.toNat y1.I) default).S) = ([97, 110, 100] : List UInt8)))) hk h rfl (fun h hb => ?_) (fun h hb => ?_)
      ·skip
       refine wp_skip ?_
       (repeat first | refine FW.tn ?_ | refine FW.bn ?_); exact q36 _ _ ⟨t10, (List.getD y1.L (Int.toNat y1.I) default).S, (List.getD y1.L (Int.toNat y1.I) default).S, (decide (((List.getD y1.L (Int.toNat y1.I) default).S) = ([97, 110, 100] : List UInt8))), hk.sub ⟨rfl, rfl, rfl, rfl, rfl, rfl, rfl, rfl, rfl, trivial⟩, h⟩
      refine FW.wreg1 ?_
      refine FW.sSe hk fun a w hk => ?_
      refine FW.sA hk fun a w hk => ?_
      refine wpList_nil ?_
      (repeat first | refine FW.tn ?_ | refine FW.bn ?_); exact q36 _ _ ⟨t10, (List.getD y1.L (Int.toNat y1.I) default).S, (List.getD y1.L (Int.toNat y1.I) default).S, (decide (((List.getD y1.L (Int.toNat y1.I) default).S) = ([111, 114] : List UInt8))), hk.sub ⟨rfl, rfl, rfl, rfl, rfl, rfl, rfl, rfl, rfl, trivial⟩, h⟩
   ·intro K' q27
    refine FW.wreg fun _ q49 => ?_
    refine FW.sFp 5 hk Try.underlying64 fun a w hk => ?_
    refine FW.lf (y := .lit (.int .i64 t9.E)) hk (FW.f_loadBlk1 hk FW.h0 (j := 5) rfl rfl Try.underlying23 rfl rfl) fun a w hk => ?_
    refine FW.sEq hk fun a w hk => ?_
    refine FW.sM hk fun a w hk => ?_
    refine FW.lg (y := .lit (.pointer (some ⟨bx1, 0, none⟩))) hk rfl rfl rfl (fun hc => FW.f_fieldPtr hk hc rfl Try.underlying64 rfl (by kernel_rfl) rfl) fun a w hk => ?_
    refine FW.lg (y := .row (r_ApiWord_cells t9.L)) hk rfl rfl rfl (fun hc => FW.f_loadBlk1 hk hc (j := 5) rfl rfl Try.underlying60 rfl rfl) fun a w hk => ?_
    refine FW.lg (y := .lit (.pointer (some ⟨bx1, 1, none⟩))) hk rfl rfl rfl (fun hc => FW.f_fieldPtr hk hc rfl Try.underlying64 rfl (by kernel_rfl) rfl) fun a w hk => ?_
    refine FW.lg (y := .lit (.int .i64 t9.I)) hk rfl rfl rfl (fun hc => FW.f_loadBlk1 hk hc (j := 5) rfl rfl Try.underlying3 rfl rfl) fun a w hk => ?_
    obtain ⟨hc5, h⟩ := FW.chk h
    refine FW.lg (y := .ref (ApiWord.cells (List.getD t9.L (Int.toNat t9.I) default))) hk rfl rfl rfl (fun hc => FW.f_indexAddr (R := r_ApiWord_cells) (f := ApiWord.cells) (l := t9.L) (sz := 5) r_ApiWord_cells_eq (fun _ => rfl) hk hc rfl rfl Try.underlying60 (by kernel_rfl) hc5) fun a w hk => ?_
    refine FW.lg (y := .ref (List.drop 0 (ApiWord.cells (List.getD t9.L (Int.toNat t9.I) default)))) hk rfl rfl rfl (fun hc => FW.f_fieldAddr hk hc rfl Try.underlying66 rfl (by kernel_rfl) rfl) fun a w hk => ?_
    refine FW.lg (y := .lit (.int .i64 ((List.getD t9.L (Int.toNat t9.I) default).Kind))) hk rfl rfl rfl (fun hc => FW.f_load1 hk hc rfl rfl Try.underlying3 rfl) fun a w hk => ?_
    refine FW.lg (y := .lit (.bool (!decide (((List.getD t9.L (Int.toNat t9.I) default).Kind) = 1)))) hk rfl rfl rfl (fun hc => (FW.f_pure (FW.p_neq hk.kn hc rfl rfl))) fun a w hk => ?_
    refine FW.sAn hk fun a w hk => ?_
    refine FW.lend (q49 _ _ ?_)
    refine FW.wcondF (b := ((decide (t9.E = 0)) && (!decide (((List.getD t9.L (Int.toNat t9.I) default).Kind) = 1)))) hk h rfl (fun h hb => ?_) (fun h hb => ?_)
    ·skip
     refine FW.wreg1 ?_
     refine FW.lf (y := .agg ((St12.cells t9))) hk (FW.f_loadBlk hk FW.h0 (j := 5) rfl rfl Try.underlying64 rfl rfl rfl rfl) fun a w hk => ?_
     obtain ⟨t14, hr_t14, h⟩ := FW.bnd h
     refine FW.lf (y := .agg ((St12.cells t14))) hk (FW.f_call hk FW.h0 rfl rfl Try.func28 rfl (by kernel_rfl) (p12_fail.ok t9 120 _ hr_t14)) fun a w hk => ?_
     refine FW.st5 (cs' := (St12.cells t14)) hk rfl (by kernel_rfl) fun w hk => ?_
     refine wpList_nil ?_
     (repeat first | refine FW.tn ?_ | refine FW.bn ?_); exact q27 _ _ ⟨t9, t14, hk.sub ⟨rfl, rfl, rfl, rfl, rfl, rfl, trivial⟩, h⟩
    refine wp_skip ?_
    (repeat first | refine FW.tn ?_ | refine FW.bn ?_); exact q27 _ _ ⟨t9, t9, hk.sub ⟨rfl, rfl, rfl, rfl, rfl, rfl, trivial⟩, h⟩
  refine wp_exit ?_; (repeat first | refine FW.then_exit ?_ | refine FW.block_exit_ne rfl ?_); refine FW.block_exit ?_
  (repeat first | refine FW.tn ?_ | refine FW.bn ?_); exact q18 _ _ ⟨y5, y4, y1, hk.sub ⟨rfl, rfl, rfl, rfl, rfl, trivial⟩, h⟩
end Go.Proofs.Ytbjbgodcenopnaa

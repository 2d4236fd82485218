/- Written by a program of this session (gen.py): the contracts of functions of the program. -/
import Derived.Test.YtbjbgodcenopnaaCbP8
namespace Go.Proofs.Ytbjbgodcenopnaa
set_option linter.unusedVariables false
set_option maxRecDepth 20000
set_option maxHeartbeats 10000000
theorem r12_Parse.ok (K : Nat) (v0 : List UInt8) (r : List ApiStep × Int × Int) (h : r12_Parse.f K v0 = some r) :
  FW.Ok Try.prog 9 [.lit (.string (FW.B v0))] (.tup [.row (r_ApiStep_cells r.1), .lit (.int .i64 r.2.1), .lit (.int .i64 r.2.2)]) := by
 refine FW.enter (xs := [.lit (.string (FW.B v0))]) Try.func9 rfl Try.ntmps9 rfl ?_
 intro M w0 a hk
 unfold r12_Parse.f at h
 refine FW.wreg fun _ q1 => ?_
 refine FW.lf (y := .row (r_ApiStep_cells [])) hk (FW.f_assignNil) fun a w hk => ?_
 refine FW.sA hk fun a w hk => ?_
 refine FW.sA hk fun a w hk => ?_
 refine FW.lend (q1 _ _ ?_)
 refine FW.wreg fun _ q2 => ?_
 refine FW.sM hk fun a w hk => ?_
 obtain ⟨t1, hr_t1, h⟩ := FW.bnd h
 refine FW.lf (y := .tup [.row (r_ApiWord_cells t1.1), .lit (.int .i64 t1.2.1), .lit (.int .i64 t1.2.2)]) hk (FW.f_call hk FW.h0 rfl rfl Try.func25 rfl (by kernel_rfl) (r11_Words.ok K v0 _ hr_t1)) fun a w hk => ?_
 refine FW.sM hk fun a w hk => ?_
 refine FW.lf (y := .row (r_ApiWord_cells t1.1)) hk (FW.f_extract hk FW.h0 rfl rfl) fun a w hk => ?_
 refine FW.lf (y := .lit (.int .i64 t1.2.1)) hk (FW.f_extract hk FW.h0 rfl rfl) fun a w hk => ?_
 refine FW.lf (y := .lit (.int .i64 t1.2.2)) hk (FW.f_extract hk FW.h0 rfl rfl) fun a w hk => ?_
 refine FW.sA hk fun a w hk => ?_
 refine FW.sA hk fun a w hk => ?_
 refine FW.sA hk fun a w hk => ?_
 refine FW.lend (q2 _ _ ?_)
 refine FW.wseq fun _ q3 => ?_
 refine FW.wreg fun _ q4 => ?_
 refine FW.sM hk fun a w hk => ?_
 refine FW.lf (y := .lit (.bool (!decide (t1.2.2 = 0)))) hk ((FW.f_pure (FW.p_neq hk.kn FW.h0 rfl rfl))) fun a w hk => ?_
 refine FW.lend (q4 _ _ ?_)
 refine FW.wcondF (b := (!decide (t1.2.2 = 0))) hk h rfl (fun h hb => ?_) (fun h hb => ?_)
 ·skip
  refine FW.wreg fun _ q5 => ?_
  refine FW.sM hk fun a w hk => ?_
  refine FW.sM hk fun a w hk => ?_
  refine FW.lf (y := .row (r_ApiStep_cells [])) hk (FW.f_assignNil) fun a w hk => ?_
  refine FW.sA hk fun a w hk => ?_
  refine FW.sA hk fun a w hk => ?_
  refine FW.lend (q5 _ _ ?_)
  refine wp_ret ?_
  (repeat first | refine FW.then_ret ?_ | refine FW.block_ret ?_)
  obtain rfl := Option.some.inj h
  exact FW.fret3 hk rfl rfl rfl rfl
 refine wp_skip ?_
 (repeat first | refine FW.tn ?_ | refine FW.bn ?_); refine q3 _ _ ?_
 refine FW.wreg fun _ q6 => ?_
 refine FW.sM hk fun a w hk => ?_
 refine FW.lf (y := .agg ((St12.cells (⟨t1.1, 0, 0, 0, 0, 0⟩ : St12)))) hk (FW.f_buildN [] hk FW.h0 rfl rfl rfl) fun a w hk => ?_
 refine FW.l_alloc (zs := (St12.cells (⟨[], 0, 0, 0, 0, 0⟩ : St12))) [] hk rfl rfl rfl rfl ?_; clear hk; intro bx1 a w hk
 refine FW.st0 (cs' := (St12.cells (⟨t1.1, 0, 0, 0, 0, 0⟩ : St12))) hk rfl (by kernel_rfl) fun w hk => ?_
 refine FW.lend (q6 _ _ ?_)
 refine FW.wseq fun _ q7 => ?_
 refine FW.wreg fun _ q8 => ?_
 refine FW.sM hk fun a w hk => ?_
 obtain ⟨hc1, h⟩ := FW.chk h
 refine FW.lf (y := .ref (ApiWord.cells (List.getD t1.1 (Int.toNat 0) default))) hk (FW.f_indexAddr (R := r_ApiWord_cells) (f := ApiWord.cells) (l := t1.1) (sz := 5) r_ApiWord_cells_eq (fun _ => rfl) hk FW.h0 rfl rfl Try.underlying60 (by kernel_rfl) hc1) fun a w hk => ?_
 refine FW.lf (y := .ref (List.drop 0 (ApiWord.cells (List.getD t1.1 (Int.toNat 0) default)))) hk (FW.f_fieldAddr hk FW.h0 rfl Try.underlying66 rfl (by kernel_rfl) rfl) fun a w hk => ?_
 refine FW.lf (y := .lit (.int .i64 ((List.getD t1.1 (Int.toNat 0) default).Kind))) hk (FW.f_load1 hk FW.h0 rfl rfl Try.underlying3 rfl) fun a w hk => ?_
 refine FW.lf (y := .lit (.bool (!decide (((List.getD t1.1 (Int.toNat 0) default).Kind) = 1)))) hk ((FW.f_pure (FW.p_neq hk.kn FW.h0 rfl rfl))) fun a w hk => ?_
 refine FW.sM hk fun a w hk => ?_
 refine FW.lg (y := .row (r_ApiWord_cells t1.1)) hk rfl rfl rfl (fun hc => FW.f_move hk hc rfl) fun a w hk => ?_
 obtain ⟨hc2, h⟩ := FW.chk h
 refine FW.lg (y := .ref (ApiWord.cells (List.getD t1.1 (Int.toNat 0) default))) hk rfl rfl rfl (fun hc => FW.f_indexAddr (R := r_ApiWord_cells) (f := ApiWord.cells) (l := t1.1) (sz := 5) r_ApiWord_cells_eq (fun _ => rfl) hk hc rfl rfl Try.underlying60 (by kernel_rfl) hc2) fun a w hk => ?_
 refine FW.lg (y := .ref (List.drop 1 (ApiWord.cells (List.getD t1.1 (Int.toNat 0) default)))) hk rfl rfl rfl (fun hc => FW.f_fieldAddr hk hc rfl Try.underlying66 rfl (by kernel_rfl) rfl) fun a w hk => ?_
 refine FW.lg (y := .lit (.string (FW.B ((List.getD t1.1 (Int.toNat 0) default).S)))) hk rfl rfl rfl (fun hc => FW.f_load1 hk hc rfl rfl Try.underlying9 rfl) fun a w hk => ?_
 refine FW.lg (y := .lit (.bool (!decide (((List.getD t1.1 (Int.toNat 0) default).S) = ([103] : List UInt8))))) hk rfl rfl rfl (fun hc => (FW.f_pure (FW.p_sneq hk.kn hc rfl rfl))) fun a w hk => ?_
 refine FW.sOr hk fun a w hk => ?_
 refine FW.lend (q8 _ _ ?_)
 refine FW.wcondF (b := ((!decide (((List.getD t1.1 (Int.toNat 0) default).Kind) = 1)) || (!decide (((List.getD t1.1 (Int.toNat 0) default).S) = ([103] : List UInt8))))) hk h rfl (fun h hb => ?_) (fun h hb => ?_)
 ·skip
  obtain ⟨hc3, h⟩ := FW.chk h
  refine FW.wdraw (by kernel_rfl) (by kernel_rfl) hk ?_; clear hk
  refine FW.dfun (y := .row (r_ApiWord_cells t1.1)) rfl rfl rfl rfl (fun a w hk => FW.f_move hk FW.h0 rfl) ?_
  refine FW.dfun (y := .ref (ApiWord.cells (List.getD t1.1 (Int.toNat 0) default))) rfl rfl rfl rfl (fun a w hk => FW.f_indexAddr (R := r_ApiWord_cells) (f := ApiWord.cells) (l := t1.1) (sz := 5) r_ApiWord_cells_eq (fun _ => rfl) hk FW.h0 rfl rfl Try.underlying60 (by kernel_rfl) hc3) ?_
  refine FW.dfun (y := .ref (List.drop 4 (ApiWord.cells (List.getD t1.1 (Int.toNat 0) default)))) rfl rfl rfl rfl (fun a w hk => FW.f_fieldAddr hk FW.h0 rfl Try.underlying66 rfl (by kernel_rfl) rfl) ?_
  refine FW.dfun (y := .lit (.int .i64 ((List.getD t1.1 (Int.toNat 0) default).At))) rfl rfl rfl rfl (fun a w hk => FW.f_load1 hk FW.h0 rfl rfl Try.underlying3 rfl) ?_
  refine FW.dfun (y := .row (r_ApiStep_cells [])) rfl rfl rfl rfl (fun a w hk => FW.f_assignNil) ?_
  refine FW.dfun (y := .lit (.int .i64 ((List.getD t1.1 (Int.toNat 0) default).At))) rfl rfl rfl rfl (fun a w hk => FW.f_assign hk FW.h0 rfl) ?_
  refine FW.dfun (y := .lit (.int .i64 120)) rfl rfl rfl rfl (fun a w hk => FW.f_assign hk FW.h0 rfl) ?_
  refine FW.dend ?_; intro a w hk
  refine wp_ret ?_
  (repeat first | refine FW.then_ret ?_ | refine FW.block_ret ?_)
  obtain rfl := Option.some.inj h
  exact FW.fret3 hk rfl rfl rfl rfl
 refine wp_skip ?_
 (repeat first | refine FW.tn ?_ | refine FW.bn ?_); refine q7 _ _ ?_
 refine FW.wreg fun _ q10 => ?_
 refine FW.sFp 1 hk Try.underlying64 fun a w hk => ?_
 refine FW.st0 (cs' := (St12.cells (⟨t1.1, 1, 0, 0, 0, 0⟩ : St12))) hk rfl (by kernel_rfl) fun w hk => ?_
 refine FW.lend (q10 _ _ ?_)
 refine FW.wreg fun _ q11 => ?_
 refine FW.lf (y := .agg ((St12.cells (⟨t1.1, 1, 0, 0, 0, 0⟩ : St12)))) hk (FW.f_loadBlk hk FW.h0 (j := 0) rfl rfl Try.underlying64 rfl rfl rfl rfl) fun a w hk => ?_
 obtain ⟨t2, hr_t2, h⟩ := FW.bnd h
 refine FW.lf (y := .agg ((St12.cells t2))) hk (FW.f_call hk FW.h0 rfl rfl Try.func26 rfl (by kernel_rfl) (p12_sign.ok (⟨t1.1, 1, 0, 0, 0, 0⟩ : St12) ([46] : List UInt8) _ hr_t2)) fun a w hk => ?_
 obtain ⟨t3, hr_t3, h⟩ := FW.bnd h
 refine FW.lf (y := .tup [.agg ((St12.cells t3.1)), .row (r_ApiStep_cells t3.2)]) hk (FW.f_call hk FW.h0 rfl rfl Try.func27 rfl (by kernel_rfl) (p12_steps.ok K t2 _ hr_t3)) fun a w hk => ?_
 refine FW.sM hk fun a w hk => ?_
 refine FW.lf (y := .agg ((St12.cells t3.1))) hk (FW.f_extract hk FW.h0 rfl rfl) fun a w hk => ?_
 refine FW.lf (y := .row (r_ApiStep_cells t3.2)) hk (FW.f_extract hk FW.h0 rfl rfl) fun a w hk => ?_
 refine FW.st0 (cs' := (St12.cells t3.1)) hk rfl (by kernel_rfl) fun w hk => ?_
 refine FW.sA hk fun a w hk => ?_
 refine FW.lend (q11 _ _ ?_)
 refine FW.wseqJ (fun a w => ∃ (y1 : St12) (v9 : List ApiStep), FW.S M w0 a w 68 [FW.blk bx1 64 ((St12.cells y1))] [(8, [], .lit (.pointer (some ⟨bx1, 0, none⟩))), (9, [], .row (r_ApiStep_cells v9))] ∧ r12_Parse.j1 K y1 v9 = some r) ?_ ?_
 ·clear hk h
  rintro a w ⟨y1, v9, hk, h⟩
  unfold r12_Parse.j1 at h
  refine FW.wseq fun _ q13 => ?_
  refine FW.wreg fun _ q14 => ?_
  refine FW.sFp 5 hk Try.underlying64 fun a w hk => ?_
  refine FW.lf (y := .lit (.int .i64 y1.E)) hk (FW.f_loadBlk1 hk FW.h0 (j := 0) rfl rfl Try.underlying23 rfl rfl) fun a w hk => ?_
  refine FW.lf (y := .lit (.bool (!decide (y1.E = 0)))) hk ((FW.f_pure (FW.p_neq hk.kn FW.h0 rfl rfl))) fun a w hk => ?_
  refine FW.lend (q14 _ _ ?_)
  refine FW.wcondF (b := (!decide (y1.E = 0))) hk h rfl (fun h hb => ?_) (fun h hb => ?_)
  ·skip
   refine FW.wdraw (by kernel_rfl) (by kernel_rfl) hk ?_; clear hk
   refine FW.dfun (y := .lit (.pointer (some ⟨bx1, 4, none⟩))) rfl rfl rfl rfl (fun a w hk => FW.f_fieldPtr hk FW.h0 rfl Try.underlying64 rfl (by kernel_rfl) rfl) ?_
   refine FW.dfun (y := .lit (.int .i64 y1.At)) rfl rfl rfl rfl (fun a w hk => FW.f_loadBlk1 hk FW.h0 (j := 0) rfl rfl Try.underlying3 rfl rfl) ?_
   refine FW.dfun (y := .lit (.pointer (some ⟨bx1, 5, none⟩))) rfl rfl rfl rfl (fun a w hk => FW.f_fieldPtr hk FW.h0 rfl Try.underlying64 rfl (by kernel_rfl) rfl) ?_
   refine FW.dfun (y := .lit (.int .i64 y1.E)) rfl rfl rfl rfl (fun a w hk => FW.f_loadBlk1 hk FW.h0 (j := 0) rfl rfl Try.underlying23 rfl rfl) ?_
   refine FW.dfun (y := .row (r_ApiStep_cells [])) rfl rfl rfl rfl (fun a w hk => FW.f_assignNil) ?_
   refine FW.dfun (y := .lit (.int .i64 y1.At)) rfl rfl rfl rfl (fun a w hk => FW.f_assign hk FW.h0 rfl) ?_
   refine FW.dfun (y := .lit (.int .i64 y1.E)) rfl rfl rfl rfl (fun a w hk => FW.f_assign hk FW.h0 rfl) ?_
   refine FW.dend ?_; intro a w hk
   refine wp_ret ?_
   (repeat first | refine FW.then_ret ?_ | refine FW.block_ret ?_)
   obtain rfl := Option.some.inj h
   exact FW.fret3 hk rfl rfl rfl rfl
  refine wp_skip ?_
  (repeat first | refine FW.tn ?_ | refine FW.bn ?_); refine q13 _ _ ?_
  refine FW.wreg fun _ q16 => ?_
  refine FW.sM hk fun a w hk => ?_
  refine FW.sA hk fun a w hk => ?_
  refine FW.sA hk fun a w hk => ?_
  refine FW.sA hk fun a w hk => ?_
  refine FW.lend (q16 _ _ ?_)
  refine wp_ret ?_
  (repeat first | refine FW.then_ret ?_ | refine FW.block_ret ?_)
  obtain rfl := Option.some.inj h
  exact FW.fret3 hk rfl rfl rfl rfl
 ·intro K' q12
  refine FW.wreg fun _ q17 => ?_
  refine FW.sFp 5 hk Try.underlying64 fun a w hk => ?_
  refine FW.lf (y := .lit (.int .i64 t3.1.E)) hk (FW.f_loadBlk1 hk FW.h0 (j := 0) rfl rfl Try.underlying23 rfl rfl) fun a w hk => ?_
  refine FW.sEq hk fun a w hk => ?_
  refine FW.sM hk fun a w hk => ?_
  refine FW.lg (y := .lit (.pointer (some ⟨bx1, 0, none⟩))) hk rfl rfl rfl (fun hc => FW.f_fieldPtr hk hc rfl Try.underlying64 rfl (by kernel_rfl) rfl) fun a w hk => ?_
  refine FW.lg (y := .row (r_ApiWord_cells t3.1.L)) hk rfl rfl rfl (fun hc => FW.f_loadBlk1 hk hc (j := 0) rfl rfl Try.underlying60 rfl rfl) fun a w hk => ?_
  refine FW.lg (y := .lit (.pointer (some ⟨bx1, 1, none⟩))) hk rfl rfl rfl (fun hc => FW.f_fieldPtr hk hc rfl Try.underlying64 rfl (by kernel_rfl) rfl) fun a w hk => ?_
  refine FW.lg (y := .lit (.int .i64 t3.1.I)) hk rfl rfl rfl (fun hc => FW.f_loadBlk1 hk hc (j := 0) rfl rfl Try.underlying3 rfl rfl) fun a w hk => ?_
  obtain ⟨hc4, h⟩ := FW.chk h
  refine FW.lg (y := .ref (ApiWord.cells (List.getD t3.1.L (Int.toNat t3.1.I) default))) hk rfl rfl rfl (fun hc => FW.f_indexAddr (R := r_ApiWord_cells) (f := ApiWord.cells) (l := t3.1.L) (sz := 5) r_ApiWord_cells_eq (fun _ => rfl) hk hc rfl rfl Try.underlying60 (by kernel_rfl) hc4) fun a w hk => ?_
  refine FW.lg (y := .ref (List.drop 0 (ApiWord.cells (List.getD t3.1.L (Int.toNat t3.1.I) default)))) hk rfl rfl rfl (fun hc => FW.f_fieldAddr hk hc rfl Try.underlying66 rfl (by kernel_rfl) rfl) fun a w hk => ?_
  refine FW.lg (y := .lit (.int .i64 ((List.getD t3.1.L (Int.toNat t3.1.I) default).Kind))) hk rfl rfl rfl (fun hc => FW.f_load1 hk hc rfl rfl Try.underlying3 rfl) fun a w hk => ?_
  refine FW.lg (y := .lit (.bool (!decide (((List.getD t3.1.L (Int.toNat t3.1.I) default).Kind) = 0)))) hk rfl rfl rfl (fun hc => (FW.f_pure (FW.p_neq hk.kn hc rfl rfl))) fun a w hk => ?_
  refine FW.sAn hk fun a w hk => ?_
  refine FW.lend (q17 _ _ ?_)
  refine FW.wcondF (b := ((decide (t3.1.E = 0)) && (!decide (((List.getD t3.1.L (Int.toNat t3.1.I) default).Kind) = 0)))) hk h rfl (fun h hb => ?_) (fun h hb => ?_)
  ·skip
   refine FW.wreg1 ?_
   refine FW.lf (y := .agg ((St12.cells t3.1))) hk (FW.f_loadBlk hk FW.h0 (j := 0) rfl rfl Try.underlying64 rfl rfl rfl rfl) fun a w hk => ?_
   obtain ⟨t4, hr_t4, h⟩ := FW.bnd h
   refine FW.lf (y := .agg ((St12.cells t4))) hk (FW.f_call hk FW.h0 rfl rfl Try.func28 rfl (by kernel_rfl) (p12_fail.ok t3.1 120 _ hr_t4)) fun a w hk => ?_
   refine FW.st0 (cs' := (St12.cells t4)) hk rfl (by kernel_rfl) fun w hk => ?_
   refine wpList_nil ?_
   (repeat first | refine FW.tn ?_ | refine FW.bn ?_); exact q12 _ _ ⟨t4, t3.2, hk.sub ⟨rfl, rfl, trivial⟩, h⟩
  refine wp_skip ?_
  (repeat first | refine FW.tn ?_ | refine FW.bn ?_); exact q12 _ _ ⟨t3.1, t3.2, hk.sub ⟨rfl, rfl, trivial⟩, h⟩
end Go.Proofs.Ytbjbgodcenopnaa

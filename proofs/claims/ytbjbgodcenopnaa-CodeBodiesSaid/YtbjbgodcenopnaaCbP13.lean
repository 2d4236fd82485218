/- Written by a program of this session (gen.py): the contracts of functions of the program. -/
import Derived.Test.YtbjbgodcenopnaaCbP12
namespace Go.Proofs.Ytbjbgodcenopnaa
set_option linter.unusedVariables false
set_option maxRecDepth 20000
set_option maxHeartbeats 10000000
theorem check_place.ok (K : Nat) (v0 : List ApiStep) (v1 : Int) (v2 : Bool) (r : Int) (h : check_place.f K v0 v1 v2 = some r) :
  FW.Ok Try.prog 98 [.row (r_ApiStep_cells v0), .lit (.int .i64 v1), .lit (.bool v2)] (.lit (.int .i64 r)) := by
 refine FW.enter (xs := [.row (r_ApiStep_cells v0), .lit (.int .i64 v1), .lit (.bool v2)]) Try.func98 rfl Try.ntmps98 rfl ?_
 intro M w0 a hk
 unfold check_place.f at h
 refine FW.wreg fun _ q1 => ?_
 refine FW.sA hk fun a w hk => ?_
 refine FW.lend (q1 _ _ ?_)
 refine FW.wreg fun _ q2 => ?_
 refine FW.sM hk fun a w hk => ?_
 refine FW.sM hk fun a w hk => ?_
 obtain ⟨hc1, h⟩ := FW.chk h
 refine FW.lf (y := .ref (ApiStep.cells (List.getD v0 (Int.toNat v1) default))) hk (FW.f_indexAddr (R := r_ApiStep_cells) (f := ApiStep.cells) (l := v0) (sz := 2) r_ApiStep_cells_eq (fun _ => rfl) hk FW.h0 rfl rfl Try.underlying22 (by kernel_rfl) hc1) fun a w hk => ?_
 refine FW.lf (y := .agg ((ApiStep.cells (List.getD v0 (Int.toNat v1) default)))) hk (FW.f_load hk FW.h0 rfl Try.underlying29 rfl rfl rfl rfl) fun a w hk => ?_
 refine FW.l_alloc (zs := (ApiStep.cells (⟨[], []⟩ : ApiStep))) [] hk rfl rfl rfl rfl ?_; clear hk; intro bx1 a w hk
 refine FW.st0 (cs' := (ApiStep.cells (List.getD v0 (Int.toNat v1) default))) hk rfl (by kernel_rfl) fun w hk => ?_
 refine FW.lend (q2 _ _ ?_)
 refine FW.wreg fun _ q3 => ?_
 refine FW.sFp 0 hk Try.underlying29 fun a w hk => ?_
 refine FW.lf (y := .lit (.string (FW.B ((List.getD v0 (Int.toNat v1) default).Name)))) hk (FW.f_loadBlk1 hk FW.h0 (j := 0) rfl rfl Try.underlying9 rfl rfl) fun a w hk => ?_
 refine FW.sSe hk fun a w hk => ?_
 refine FW.sM hk fun a w hk => ?_
 refine FW.lg (y := .lit (.pointer (some ⟨bx1, 0, none⟩))) hk rfl rfl rfl (fun hc => FW.f_fieldPtr hk hc rfl Try.underlying29 rfl (by kernel_rfl) rfl) fun a w hk => ?_
 refine FW.lg (y := .lit (.string (FW.B ((List.getD v0 (Int.toNat v1) default).Name)))) hk rfl rfl rfl (fun hc => FW.f_loadBlk1 hk hc (j := 0) rfl rfl Try.underlying9 rfl rfl) fun a w hk => ?_
 refine FW.lg (y := .lit (.bool (decide (((List.getD v0 (Int.toNat v1) default).Name) = ([69] : List UInt8))))) hk rfl rfl rfl (fun hc => (FW.f_pure (FW.p_seql hk.kn hc rfl rfl))) fun a w hk => ?_
 refine FW.sOr hk fun a w hk => ?_
 refine FW.sM hk fun a w hk => ?_
 refine FW.lg (y := .lit (.pointer (some ⟨bx1, 0, none⟩))) hk rfl rfl rfl (fun hc => FW.f_fieldPtr hk hc rfl Try.underlying29 rfl (by kernel_rfl) rfl) fun a w hk => ?_
 refine FW.lg (y := .lit (.string (FW.B ((List.getD v0 (Int.toNat v1) default).Name)))) hk rfl rfl rfl (fun hc => FW.f_loadBlk1 hk hc (j := 0) rfl rfl Try.underlying9 rfl rfl) fun a w hk => ?_
 refine FW.lg (y := .lit (.bool (decide (((List.getD v0 (Int.toNat v1) default).Name) = ([97, 100, 100, 86] : List UInt8))))) hk rfl rfl rfl (fun hc => (FW.f_pure (FW.p_seql hk.kn hc rfl rfl))) fun a w hk => ?_
 refine FW.sOr hk fun a w hk => ?_
 refine FW.sM hk fun a w hk => ?_
 refine FW.lg (y := .lit (.pointer (some ⟨bx1, 0, none⟩))) hk rfl rfl rfl (fun hc => FW.f_fieldPtr hk hc rfl Try.underlying29 rfl (by kernel_rfl) rfl) fun a w hk => ?_
 refine FW.lg (y := .lit (.string (FW.B ((List.getD v0 (Int.toNat v1) default).Name)))) hk rfl rfl rfl (fun hc => FW.f_loadBlk1 hk hc (j := 0) rfl rfl Try.underlying9 rfl rfl) fun a w hk => ?_
 refine FW.lg (y := .lit (.bool (decide (((List.getD v0 (Int.toNat v1) default).Name) = ([105, 110, 106, 101, 99, 116] : List UInt8))))) hk rfl rfl rfl (fun hc => (FW.f_pure (FW.p_seql hk.kn hc rfl rfl))) fun a w hk => ?_
 refine FW.sOr hk fun a w hk => ?_
 refine FW.sA hk fun a w hk => ?_
 refine FW.lend (q3 _ _ ?_)
 refine FW.wseq fun _ q4 => ?_
 refine FW.wreg fun _ q5 => ?_
 refine FW.sM hk fun a w hk => ?_
 refine FW.sM hk fun a w hk => ?_
 refine FW.lg (y := .lit (.int .i64 v1)) hk rfl rfl rfl (fun hc => FW.f_move hk hc rfl) fun a w hk => ?_
 refine FW.lg (y := .lit (.bool (decide (v1 = 0)))) hk rfl rfl rfl (fun hc => (FW.f_pure (FW.p_eql hk.kn hc rfl rfl))) fun a w hk => ?_
 refine FW.sAn hk fun a w hk => ?_
 refine FW.sM hk fun a w hk => ?_
 refine FW.lg (y := .lit (.bool ((((decide (((List.getD v0 (Int.toNat v1) default).Name) = ([86] : List UInt8))) || (decide (((List.getD v0 (Int.toNat v1) default).Name) = ([69] : List UInt8)))) || (decide (((List.getD v0 (Int.toNat v1) default).Name) = ([97, 100, 100, 86] : List UInt8)))) || (decide (((List.getD v0 (Int.toNat v1) default).Name) = ([105, 110, 106, 101, 99, 116] : List UInt8)))))) hk rfl rfl rfl (fun hc => FW.f_move hk hc rfl) fun a w hk => ?_
 refine FW.lg (y := .lit (.bool (!((((decide (((List.getD v0 (Int.toNat v1) default).Name) = ([86] : List UInt8))) || (decide (((List.getD v0 (Int.toNat v1) default).Name) = ([69] : List UInt8)))) || (decide (((List.getD v0 (Int.toNat v1) default).Name) = ([97, 100, 100, 86] : List UInt8)))) || (decide (((List.getD v0 (Int.toNat v1) default).Name) = ([105, 110, 106, 101, 99, 116] : List UInt8))))))) hk rfl rfl rfl (fun hc => (FW.f_pure (FW.p_not hk.kn hc rfl))) fun a w hk => ?_
 refine FW.sAn hk fun a w hk => ?_
 refine FW.lend (q5 _ _ ?_)
 refine FW.wcondF (b := ((v2 && (decide (v1 = 0))) && (!((((decide (((List.getD v0 (Int.toNat v1) default).Name) = ([86] : List UInt8))) || (decide (((List.getD v0 (Int.toNat v1) default).Name) = ([69] : List UInt8)))) || (decide (((List.getD v0 (Int.toNat v1) default).Name) = ([97, 100, 100, 86] : List UInt8)))) || (decide (((List.getD v0 (Int.toNat v1) default).Name) = ([105, 110, 106, 101, 99, 116] : List UInt8))))))) hk h rfl (fun h hb => ?_) (fun h hb => ?_)
 ·skip
  refine FW.wreg fun _ q6 => ?_
  refine FW.sA hk fun a w hk => ?_
  refine FW.lend (q6 _ _ ?_)
  refine wp_ret ?_
  (repeat first | refine FW.then_ret ?_ | refine FW.block_ret ?_)
  obtain rfl := Option.some.inj h
  exact FW.fret1 hk rfl rfl
 refine wp_skip ?_
 (repeat first | refine FW.tn ?_ | refine FW.bn ?_); refine q4 _ _ ?_
 refine FW.wseqJ (fun a w => ∃ (y1 : ApiStep) (v0 : List ApiStep) (v1 : Int), FW.S M w0 a w 148 [FW.blk bx1 29 ((ApiStep.cells y1))] [(0, [], .row (r_ApiStep_cells v0)), (1, [], .lit (.int .i64 v1)), (7, [], .lit (.pointer (some ⟨bx1, 0, none⟩)))] ∧ check_place.j1 K y1 v0 v1 = some r) ?_ ?_
 ·clear hk h
  rintro a w ⟨y1, v0, v1, hk, h⟩
  unfold check_place.j1 at h
  refine FW.wreg fun _ q8 => ?_
  refine FW.sM hk fun a w hk => ?_
  refine FW.sAd hk fun a w hk => ?_
  refine FW.sM hk fun a w hk => ?_
  refine FW.lf (y := .lit (.int .i64 (List.length v0 : Int))) hk (FW.f_len (R := r_ApiStep_cells) (f := ApiStep.cells) (l := v0) r_ApiStep_cells_eq Try.underlying22 hk FW.h0 rfl) fun a w hk => ?_
  refine FW.sEq hk fun a w hk => ?_
  refine FW.sM hk fun a w hk => ?_
  refine FW.lg (y := .row (r_ApiStep_cells v0)) hk rfl rfl rfl (fun hc => FW.f_move hk hc rfl) fun a w hk => ?_
  refine FW.lg (y := .lit (.int .i64 v1)) hk rfl rfl rfl (fun hc => FW.f_move hk hc rfl) fun a w hk => ?_
  refine FW.lg (y := .lit (.int .i64 (IntKind.wrap .i64 (v1 + 1)))) hk rfl rfl rfl (fun hc => (FW.f_pure (FW.p_add hk.kn hc rfl rfl))) fun a w hk => ?_
  obtain ⟨hc2, h⟩ := FW.chk h
  refine FW.lg (y := .ref (ApiStep.cells (List.getD v0 (Int.toNat (IntKind.wrap .i64 (v1 + 1))) default))) hk rfl rfl rfl (fun hc => FW.f_indexAddr (R := r_ApiStep_cells) (f := ApiStep.cells) (l := v0) (sz := 2) r_ApiStep_cells_eq (fun _ => rfl) hk hc rfl rfl Try.underlying22 (by kernel_rfl) hc2) fun a w hk => ?_
  refine FW.lg (y := .ref (List.drop 0 (ApiStep.cells (List.getD v0 (Int.toNat (IntKind.wrap .i64 (v1 + 1))) default)))) hk rfl rfl rfl (fun hc => FW.f_fieldAddr hk hc rfl Try.underlying29 rfl (by kernel_rfl) rfl) fun a w hk => ?_
  refine FW.lg (y := .lit (.string (FW.B ((List.getD v0 (Int.toNat (IntKind.wrap .i64 (v1 + 1))) default).Name)))) hk rfl rfl rfl (fun hc => FW.f_load1 hk hc rfl rfl Try.underlying9 rfl) fun a w hk => ?_
  obtain ⟨t1, hr_t1, h⟩ := FW.bndG h
  refine FW.lg (y := FW.nrow (r_c_str t1)) hk rfl rfl rfl (fun hc => FW.f_call hk hc rfl rfl Try.func125 rfl (by kernel_rfl) (check_after.ok ((List.getD v0 (Int.toNat (IntKind.wrap .i64 (v1 + 1))) default).Name) _ (hr_t1 (FW.asm_out (p := (decide ((IntKind.wrap .i64 (v1 + 1)) = (List.length v0 : Int))) = false) hk.kn hc (fun e0 => e0))))) fun a w hk => ?_
  refine FW.lg (y := .lit (.bool (List.isEmpty t1))) hk rfl rfl rfl (fun hc => FW.f_nrowEq hk hc rfl rfl Try.underlying56 (FW.empty_map rfl)) fun a w hk => ?_
  refine FW.sOr hk fun a w hk => ?_
  refine FW.sA hk fun a w hk => ?_
  refine FW.lend (q8 _ _ ?_)
  refine FW.wseq fun _ q9 => ?_
  refine FW.wreg fun _ q10 => ?_
  refine FW.sFp 0 hk Try.underlying29 fun a w hk => ?_
  refine FW.lf (y := .lit (.string (FW.B y1.Name))) hk (FW.f_loadBlk1 hk FW.h0 (j := 0) rfl rfl Try.underlying9 rfl rfl) fun a w hk => ?_
  refine FW.sSe hk fun a w hk => ?_
  refine FW.sM hk fun a w hk => ?_
  refine FW.lg (y := .lit (.bool ((decide ((IntKind.wrap .i64 (v1 + 1)) = (List.length v0 : Int))) || (List.isEmpty t1)))) hk rfl rfl rfl (fun hc => FW.f_move hk hc rfl) fun a w hk => ?_
  refine FW.lg (y := .lit (.bool ((decide ((IntKind.wrap .i64 (v1 + 1)) = (List.length v0 : Int))) || (List.isEmpty t1)))) hk rfl rfl rfl (fun hc => FW.f_move hk hc rfl) fun a w hk => ?_
  refine FW.lg (y := .row (r_ApiStep_cells v0)) hk rfl rfl rfl (fun hc => FW.f_move hk hc rfl) fun a w hk => ?_
  refine FW.lg (y := .lit (.int .i64 v1)) hk rfl rfl rfl (fun hc => FW.f_move hk hc rfl) fun a w hk => ?_
  refine FW.lg (y := .lit (.int .i64 (IntKind.wrap .i64 (v1 + 1)))) hk rfl rfl rfl (fun hc => (FW.f_pure (FW.p_add hk.kn hc rfl rfl))) fun a w hk => ?_
  obtain ⟨hc3, h⟩ := FW.chk h
  refine FW.lg (y := .ref (ApiStep.cells (List.getD v0 (Int.toNat (IntKind.wrap .i64 (v1 + 1))) default))) hk rfl rfl rfl (fun hc => FW.f_indexAddr (R := r_ApiStep_cells) (f := ApiStep.cells) (l := v0) (sz := 2) r_ApiStep_cells_eq (fun _ => rfl) hk hc rfl rfl Try.underlying22 (by kernel_rfl) hc3) fun a w hk => ?_
  refine FW.lg (y := .ref (List.drop 0 (ApiStep.cells (List.getD v0 (Int.toNat (IntKind.wrap .i64 (v1 + 1))) default)))) hk rfl rfl rfl (fun hc => FW.f_fieldAddr hk hc rfl Try.underlying29 rfl (by kernel_rfl) rfl) fun a w hk => ?_
  refine FW.lg (y := .lit (.string (FW.B ((List.getD v0 (Int.toNat (IntKind.wrap .i64 (v1 + 1))) default).Name)))) hk rfl rfl rfl (fun hc => FW.f_load1 hk hc rfl rfl Try.underlying9 rfl) fun a w hk => ?_
  refine FW.lg (y := .lit (.bool (!decide (((List.getD v0 (Int.toNat (IntKind.wrap .i64 (v1 + 1))) default).Name) = ([116, 111] : List UInt8))))) hk rfl rfl rfl (fun hc => (FW.f_pure (FW.p_sneq hk.kn hc rfl rfl))) fun a w hk => ?_
  refine FW.lg (y := .lit (.bool (!decide (((List.getD v0 (Int.toNat (IntKind.wrap .i64 (v1 + 1))) default).Name) = ([116, 111] : List UInt8))))) hk rfl rfl rfl (fun hc => FW.f_move hk hc rfl) fun a w hk => ?_
  refine FW.lg (y := .row (r_ApiStep_cells v0)) hk rfl rfl rfl (fun hc => FW.f_move hk hc rfl) fun a w hk => ?_
  refine FW.lg (y := .lit (.int .i64 v1)) hk rfl rfl rfl (fun hc => FW.f_move hk hc rfl) fun a w hk => ?_
  refine FW.lg (y := .lit (.int .i64 (IntKind.wrap .i64 (v1 + 1)))) hk rfl rfl rfl (fun hc => (FW.f_pure (FW.p_add hk.kn hc rfl rfl))) fun a w hk => ?_
  obtain ⟨hc4, h⟩ := FW.chk h
  refine FW.lg (y := .ref (ApiStep.cells (List.getD v0 (Int.toNat (IntKind.wrap .i64 (v1 + 1))) default))) hk rfl rfl rfl (fun hc => FW.f_indexAddr (R := r_ApiStep_cells) (f := ApiStep.cells) (l := v0) (sz := 2) r_ApiStep_cells_eq (fun _ => rfl) hk hc rfl rfl Try.underlying22 (by kernel_rfl) hc4) fun a w hk => ?_
  refine FW.lg (y := .ref (List.drop 0 (ApiStep.cells (List.getD v0 (Int.toNat (IntKind.wrap .i64 (v1 + 1))) default)))) hk rfl rfl rfl (fun hc => FW.f_fieldAddr hk hc rfl Try.underlying29 rfl (by kernel_rfl) rfl) fun a w hk => ?_
  refine FW.lg (y := .lit (.string (FW.B ((List.getD v0 (Int.toNat (IntKind.wrap .i64 (v1 + 1))) default).Name)))) hk rfl rfl rfl (fun hc => FW.f_load1 hk hc rfl rfl Try.underlying9 rfl) fun a w hk => ?_
  refine FW.lg (y := .lit (.bool (!decide (((List.getD v0 (Int.toNat (IntKind.wrap .i64 (v1 + 1))) default).Name) = ([102, 114, 111, 109] : List UInt8))))) hk rfl rfl rfl (fun hc => (FW.f_pure (FW.p_sneq hk.kn hc rfl rfl))) fun a w hk => ?_
  refine FW.lg (y := .lit (.bool ((!decide (((List.getD v0 (Int.toNat (IntKind.wrap .i64 (v1 + 1))) default).Name) = ([116, 111] : List UInt8))) && (!decide (((List.getD v0 (Int.toNat (IntKind.wrap .i64 (v1 + 1))) default).Name) = ([102, 114, 111, 109] : List UInt8)))))) hk rfl rfl rfl (fun hc => (FW.f_pure (FW.p_pick_and hk.kn hc rfl rfl))) fun a w hk => ?_
  refine FW.lg (y := .lit (.bool (((decide ((IntKind.wrap .i64 (v1 + 1)) = (List.length v0 : Int))) || (List.isEmpty t1)) || ((!decide (((List.getD v0 (Int.toNat (IntKind.wrap .i64 (v1 + 1))) default).Name) = ([116, 111] : List UInt8))) && (!decide (((List.getD v0 (Int.toNat (IntKind.wrap .i64 (v1 + 1))) default).Name) = ([102, 114, 111, 109] : List UInt8))))))) hk rfl rfl rfl (fun hc => (FW.f_pure (FW.p_pick_or hk.kn hc rfl rfl))) fun a w hk => ?_
  refine FW.sAn hk fun a w hk => ?_
  refine FW.sM hk fun a w hk => ?_
  refine FW.lg (y := .lit (.pointer (some ⟨bx1, 0, none⟩))) hk rfl rfl rfl (fun hc => FW.f_fieldPtr hk hc rfl Try.underlying29 rfl (by kernel_rfl) rfl) fun a w hk => ?_
  refine FW.lg (y := .lit (.string (FW.B y1.Name))) hk rfl rfl rfl (fun hc => FW.f_loadBlk1 hk hc (j := 0) rfl rfl Try.underlying9 rfl rfl) fun a w hk => ?_
  refine FW.lg (y := .lit (.bool (decide (y1.Name = ([114, 101, 112, 101, 97, 116] : List UInt8))))) hk rfl rfl rfl (fun hc => (FW.f_pure (FW.p_seql hk.kn hc rfl rfl))) fun a w hk => ?_
  refine FW.lg (y := .lit (.bool (decide (y1.Name = ([114, 101, 112, 101, 97, 116] : List UInt8))))) hk rfl rfl rfl (fun hc => FW.f_move hk hc rfl) fun a w hk => ?_
  refine FW.lg (y := .lit (.bool ((decide ((IntKind.wrap .i64 (v1 + 1)) = (List.length v0 : Int))) || (List.isEmpty t1)))) hk rfl rfl rfl (fun hc => FW.f_move hk hc rfl) fun a w hk => ?_
  refine FW.lg (y := .lit (.bool ((decide (y1.Name = ([114, 101, 112, 101, 97, 116] : List UInt8))) && ((decide ((IntKind.wrap .i64 (v1 + 1)) = (List.length v0 : Int))) || (List.isEmpty t1))))) hk rfl rfl rfl (fun hc => (FW.f_pure (FW.p_pick_and hk.kn hc rfl rfl))) fun a w hk => ?_
  refine FW.sOr hk fun a w hk => ?_
  refine FW.lend (q10 _ _ ?_)
  refine FW.wcondF (b := (((decide (y1.Name = ([97, 100, 100, 69] : List UInt8))) && (((decide ((IntKind.wrap .i64 (v1 + 1)) = (List.length v0 : Int))) || (List.isEmpty t1)) || ((!decide (((List.getD v0 (Int.toNat (IntKind.wrap .i64 (v1 + 1))) default).Name) = ([116, 111] : List UInt8))) && (!decide (((List.getD v0 (Int.toNat (IntKind.wrap .i64 (v1 + 1))) default).Name) = ([102, 114, 111, 109] : List UInt8)))))) || ((decide (y1.Name = ([114, 101, 112, 101, 97, 116] : List UInt8))) && ((decide ((IntKind.wrap .i64 (v1 + 1)) = (List.length v0 : Int))) || (List.isEmpty t1))))) hk h rfl (fun h hb => ?_) (fun h hb => ?_)
  ·skip
   refine FW.wreg fun _ q11 => ?_
   refine FW.sA hk fun a w hk => ?_
   refine FW.lend (q11 _ _ ?_)
   refine wp_ret ?_
   (repeat first | refine FW.then_ret ?_ | refine FW.block_ret ?_)
   obtain rfl := Option.some.inj h
   exact FW.fret1 hk rfl rfl
  refine wp_skip ?_
  (repeat first | refine FW.tn ?_ | refine FW.bn ?_); refine q9 _ _ ?_
  refine FW.wreg fun _ q12 => ?_
  refine FW.sA hk fun a w hk => ?_
  refine FW.lend (q12 _ _ ?_)
  refine wp_ret ?_
  (repeat first | refine FW.then_ret ?_ | refine FW.block_ret ?_)
  obtain rfl := Option.some.inj h
  exact FW.fret1 hk rfl rfl
 ·intro K' q7
  refine FW.wreg fun _ q13 => ?_
  refine FW.sFp 0 hk Try.underlying29 fun a w hk => ?_
  refine FW.lf (y := .lit (.string (FW.B ((List.getD v0 (Int.toNat v1) default).Name)))) hk (FW.f_loadBlk1 hk FW.h0 (j := 0) rfl rfl Try.underlying9 rfl rfl) fun a w hk => ?_
  obtain ⟨t2, hr_t2, h⟩ := FW.bnd h
  refine FW.lf (y := FW.nrow (r_c_str t2)) hk (FW.f_call hk FW.h0 rfl rfl Try.func125 rfl (by kernel_rfl) (check_after.ok ((List.getD v0 (Int.toNat v1) default).Name) _ hr_t2)) fun a w hk => ?_
  refine FW.sA hk fun a w hk => ?_
  refine FW.lend (q13 _ _ ?_)
  refine FW.wreg fun _ q14 => ?_
  refine FW.sM hk fun a w hk => ?_
  refine FW.lf (y := .lit (.bool (!(List.isEmpty t2)))) hk (FW.f_nrowNe hk FW.h0 rfl rfl Try.underlying56 (FW.nempty_map rfl)) fun a w hk => ?_
  replace hk := hk.as (i := 9) (y := .row (r_c_str t2)) rfl (fun v hv => FW.nrow_row hv)
  replace hk := hk.as (i := 46) (y := .row (r_c_str t2)) rfl (fun v hv => FW.nrow_row hv)
  replace hk := hk.as (i := 47) (y := .row (r_c_str t2)) rfl (fun v hv => FW.nrow_row hv)
  refine FW.lend (q14 _ _ ?_)
  refine FW.wcondF (b := (!(List.isEmpty t2))) hk h rfl (fun h hb => ?_) (fun h hb => ?_)
  ·skip
   refine FW.wseq fun _ q15 => ?_
   refine FW.wreg fun _ q16 => ?_
   refine FW.sM hk fun a w hk => ?_
   refine FW.sEq hk fun a w hk => ?_
   refine FW.sM hk fun a w hk => ?_
   refine FW.lg (y := .row (r_c_str t2)) hk rfl rfl rfl (fun hc => FW.f_move hk hc rfl) fun a w hk => ?_
   refine FW.lg (y := .row (r_ApiStep_cells v0)) hk rfl rfl rfl (fun hc => FW.f_move hk hc rfl) fun a w hk => ?_
   refine FW.lg (y := .lit (.int .i64 v1)) hk rfl rfl rfl (fun hc => FW.f_move hk hc rfl) fun a w hk => ?_
   refine FW.lg (y := .lit (.int .i64 (IntKind.wrap .i64 (v1 - 1)))) hk rfl rfl rfl (fun hc => (FW.f_pure (FW.p_sub hk.kn hc rfl rfl))) fun a w hk => ?_
   obtain ⟨hc5, h⟩ := FW.chk h
   refine FW.lg (y := .ref (ApiStep.cells (List.getD v0 (Int.toNat (IntKind.wrap .i64 (v1 - 1))) default))) hk rfl rfl rfl (fun hc => FW.f_indexAddr (R := r_ApiStep_cells) (f := ApiStep.cells) (l := v0) (sz := 2) r_ApiStep_cells_eq (fun _ => rfl) hk hc rfl rfl Try.underlying22 (by kernel_rfl) hc5) fun a w hk => ?_
   refine FW.lg (y := .ref (List.drop 0 (ApiStep.cells (List.getD v0 (Int.toNat (IntKind.wrap .i64 (v1 - 1))) default)))) hk rfl rfl rfl (fun hc => FW.f_fieldAddr hk hc rfl Try.underlying29 rfl (by kernel_rfl) rfl) fun a w hk => ?_
   refine FW.lg (y := .lit (.string (FW.B ((List.getD v0 (Int.toNat (IntKind.wrap .i64 (v1 - 1))) default).Name)))) hk rfl rfl rfl (fun hc => FW.f_load1 hk hc rfl rfl Try.underlying9 rfl) fun a w hk => ?_
   obtain ⟨t3, hr_t3, h⟩ := FW.bndG h
   refine FW.lg (y := .lit (.bool t3)) hk rfl rfl rfl (fun hc => FW.f_call hk hc rfl rfl Try.func126 rfl (by kernel_rfl) (slices_Contains_string_string.ok K t2 ((List.getD v0 (Int.toNat (IntKind.wrap .i64 (v1 - 1))) default).Name) _ (hr_t3 (FW.asm_out (p := (decide (v1 = 0)) = false) hk.kn hc (fun e0 => e0))))) fun a w hk => ?_
   refine FW.lg (y := .lit (.bool (!t3))) hk rfl rfl rfl (fun hc => (FW.f_pure (FW.p_not hk.kn hc rfl))) fun a w hk => ?_
   refine FW.sOr hk fun a w hk => ?_
   refine FW.lend (q16 _ _ ?_)
   refine FW.wcondF (b := ((decide (v1 = 0)) || (!t3))) hk h rfl (fun h hb => ?_) (fun h hb => ?_)
   ·skip
    refine FW.wreg fun _ q17 => ?_
    refine FW.sA hk fun a w hk => ?_
    refine FW.lend (q17 _ _ ?_)
    refine wp_ret ?_
    (repeat first | refine FW.then_ret ?_ | refine FW.block_ret ?_)
    obtain rfl := Option.some.inj h
    exact FW.fret1 hk rfl rfl
   refine wp_skip ?_
   (repeat first | refine FW.tn ?_ | refine FW.bn ?_); refine q15 _ _ ?_
   refine FW.wreg fun _ q18 => ?_
   refine FW.sM hk fun a w hk => ?_
   refine FW.sM hk fun a w hk => ?_
   refine FW.sFp 0 hk Try.underlying29 fun a w hk => ?_
   refine FW.lf (y := .lit (.string (FW.B ((List.getD v0 (Int.toNat v1) default).Name)))) hk (FW.f_loadBlk1 hk FW.h0 (j := 0) rfl rfl Try.underlying9 rfl rfl) fun a w hk => ?_
   obtain ⟨t4, hr_t4, h⟩ := FW.bnd h
   refine FW.lf (y := .tup [.lit (.int .i64 t4.1), .lit (.string (FW.B t4.2))]) hk (FW.f_call hk FW.h0 rfl rfl Try.func127 rfl (by kernel_rfl) (check_run.ok K v0 v1 ((List.getD v0 (Int.toNat v1) default).Name) _ hr_t4)) fun a w hk => ?_
   refine FW.sM hk fun a w hk => ?_
   refine FW.lf (y := .lit (.int .i64 t4.1)) hk (FW.f_extract hk FW.h0 rfl rfl) fun a w hk => ?_
   refine FW.lf (y := .lit (.string (FW.B t4.2))) hk (FW.f_extract hk FW.h0 rfl rfl) fun a w hk => ?_
   refine FW.sA hk fun a w hk => ?_
   refine FW.sA hk fun a w hk => ?_
   refine FW.lend (q18 _ _ ?_)
   refine FW.wseq fun _ q19 => ?_
   refine FW.wreg fun _ q20 => ?_
   refine FW.sM hk fun a w hk => ?_
   refine FW.sFp 0 hk Try.underlying29 fun a w hk => ?_
   refine FW.lf (y := .lit (.string (FW.B ((List.getD v0 (Int.toNat v1) default).Name)))) hk (FW.f_loadBlk1 hk FW.h0 (j := 0) rfl rfl Try.underlying9 rfl rfl) fun a w hk => ?_
   refine FW.sM hk fun a w hk => ?_
   obtain ⟨t5, hr_t5, h⟩ := FW.bnd h
   refine FW.lf (y := .lit (.int .i64 t5)) hk (FW.f_call hk FW.h0 rfl rfl Try.func128 rfl (by kernel_rfl) (check_most.ok ((List.getD v0 (Int.toNat v1) default).Name) t4.2 _ hr_t5)) fun a w hk => ?_
   refine FW.lf (y := .lit (.bool (decide (t5 < t4.1)))) hk ((FW.f_pure (FW.p_gtr hk.kn FW.h0 rfl rfl))) fun a w hk => ?_
   refine FW.lend (q20 _ _ ?_)
   refine FW.wcondF (b := (decide (t5 < t4.1))) hk h rfl (fun h hb => ?_) (fun h hb => ?_)
   ·skip
    refine FW.wreg fun _ q21 => ?_
    refine FW.sA hk fun a w hk => ?_
    refine FW.lend (q21 _ _ ?_)
    refine wp_ret ?_
    (repeat first | refine FW.then_ret ?_ | refine FW.block_ret ?_)
    obtain rfl := Option.some.inj h
    exact FW.fret1 hk rfl rfl
   refine wp_skip ?_
   (repeat first | refine FW.tn ?_ | refine FW.bn ?_); refine q19 _ _ ?_
   refine FW.wreg fun _ q22 => ?_
   refine FW.sFp 0 hk Try.underlying29 fun a w hk => ?_
   refine FW.lf (y := .lit (.string (FW.B ((List.getD v0 (Int.toNat v1) default).Name)))) hk (FW.f_loadBlk1 hk FW.h0 (j := 0) rfl rfl Try.underlying9 rfl rfl) fun a w hk => ?_
   refine FW.sSe hk fun a w hk => ?_
   refine FW.sM hk fun a w hk => ?_
   refine FW.lg (y := .lit (.string (FW.B t4.2))) hk rfl rfl rfl (fun hc => FW.f_move hk hc rfl) fun a w hk => ?_
   refine FW.lg (y := .lit (.bool (!decide (t4.2 = ([111, 114, 100, 101, 114] : List UInt8))))) hk rfl rfl rfl (fun hc => (FW.f_pure (FW.p_sneq hk.kn hc rfl rfl))) fun a w hk => ?_
   refine FW.sAn hk fun a w hk => ?_
   refine FW.sM hk fun a w hk => ?_
   refine FW.lg (y := .lit (.pointer (some ⟨bx1, 1, none⟩))) hk rfl rfl rfl (fun hc => FW.f_fieldPtr hk hc rfl Try.underlying29 rfl (by kernel_rfl) rfl) fun a w hk => ?_
   refine FW.lg (y := .row (r_ApiArg_cells ((List.getD v0 (Int.toNat v1) default).Args))) hk rfl rfl rfl (fun hc => FW.f_loadBlk1 hk hc (j := 0) rfl rfl Try.underlying27 rfl rfl) fun a w hk => ?_
   refine FW.lg (y := .lit (.int .i64 (List.length ((List.getD v0 (Int.toNat v1) default).Args) : Int))) hk rfl rfl rfl (fun hc => FW.f_len (R := r_ApiArg_cells) (f := ApiArg.cells) (l := (List.getD v0 (Int.toNat v1) default).Args) r_ApiArg_cells_eq Try.underlying27 hk hc rfl) fun a w hk => ?_
   refine FW.lg (y := .lit (.bool (decide (0 < (List.length ((List.getD v0 (Int.toNat v1) default).Args) : Int))))) hk rfl rfl rfl (fun hc => (FW.f_pure (FW.p_gtr hk.kn hc rfl rfl))) fun a w hk => ?_
   refine FW.sAn hk fun a w hk => ?_
   refine FW.sM hk fun a w hk => ?_
   refine FW.lg (y := .lit (.pointer (some ⟨bx1, 1, none⟩))) hk rfl rfl rfl (fun hc => FW.f_fieldPtr hk hc rfl Try.underlying29 rfl (by kernel_rfl) rfl) fun a w hk => ?_
   refine FW.lg (y := .row (r_ApiArg_cells ((List.getD v0 (Int.toNat v1) default).Args))) hk rfl rfl rfl (fun hc => FW.f_loadBlk1 hk hc (j := 0) rfl rfl Try.underlying27 rfl rfl) fun a w hk => ?_
   refine FW.lg (y := .lit (.pointer (some ⟨bx1, 1, none⟩))) hk rfl rfl rfl (fun hc => FW.f_fieldPtr hk hc rfl Try.underlying29 rfl (by kernel_rfl) rfl) fun a w hk => ?_
   refine FW.lg (y := .row (r_ApiArg_cells ((List.getD v0 (Int.toNat v1) default).Args))) hk rfl rfl rfl (fun hc => FW.f_loadBlk1 hk hc (j := 0) rfl rfl Try.underlying27 rfl rfl) fun a w hk => ?_
   refine FW.lg (y := .lit (.int .i64 (List.length ((List.getD v0 (Int.toNat v1) default).Args) : Int))) hk rfl rfl rfl (fun hc => FW.f_len (R := r_ApiArg_cells) (f := ApiArg.cells) (l := (List.getD v0 (Int.toNat v1) default).Args) r_ApiArg_cells_eq Try.underlying27 hk hc rfl) fun a w hk => ?_
   refine FW.lg (y := .lit (.int .i64 (IntKind.wrap .i64 ((List.length ((List.getD v0 (Int.toNat v1) default).Args) : Int) - 1)))) hk rfl rfl rfl (fun hc => (FW.f_pure (FW.p_sub hk.kn hc rfl rfl))) fun a w hk => ?_
   obtain ⟨hc6, h⟩ := FW.chk h
   refine FW.lg (y := .ref (ApiArg.cells (List.getD ((List.getD v0 (Int.toNat v1) default).Args) (Int.toNat (IntKind.wrap .i64 ((List.length ((List.getD v0 (Int.toNat v1) default).Args) : Int) - 1))) default))) hk rfl rfl rfl (fun hc => FW.f_indexAddr (R := r_ApiArg_cells) (f := ApiArg.cells) (l := (List.getD v0 (Int.toNat v1) default).Args) (sz := 11) r_ApiArg_cells_eq (fun _ => rfl) hk hc rfl rfl Try.underlying27 (by kernel_rfl) hc6) fun a w hk => ?_
   refine FW.lg (y := .ref (List.drop 0 (ApiArg.cells (List.getD ((List.getD v0 (Int.toNat v1) default).Args) (Int.toNat (IntKind.wrap .i64 ((List.length ((List.getD v0 (Int.toNat v1) default).Args) : Int) - 1))) default)))) hk rfl rfl rfl (fun hc => FW.f_fieldAddr hk hc rfl Try.underlying38 rfl (by kernel_rfl) rfl) fun a w hk => ?_
   refine FW.lg (y := .lit (.int .i64 ((List.getD ((List.getD v0 (Int.toNat v1) default).Args) (Int.toNat (IntKind.wrap .i64 ((List.length ((List.getD v0 (Int.toNat v1) default).Args) : Int) - 1))) default).Kind))) hk rfl rfl rfl (fun hc => FW.f_load1 hk hc rfl rfl Try.underlying3 rfl) fun a w hk => ?_
   refine FW.lg (y := .lit (.bool (decide (((List.getD ((List.getD v0 (Int.toNat v1) default).Args) (Int.toNat (IntKind.wrap .i64 ((List.length ((List.getD v0 (Int.toNat v1) default).Args) : Int) - 1))) default).Kind) = 4)))) hk rfl rfl rfl (fun hc => (FW.f_pure (FW.p_eql hk.kn hc rfl rfl))) fun a w hk => ?_
   refine FW.sAn hk fun a w hk => ?_
   refine FW.lend (q22 _ _ ?_)
   refine FW.wcondF (b := ((((decide (((List.getD v0 (Int.toNat v1) default).Name) = ([98, 121] : List UInt8))) && (!decide (t4.2 = ([111, 114, 100, 101, 114] : List UInt8)))) && (decide (0 < (List.length ((List.getD v0 (Int.toNat v1) default).Args) : Int)))) && (decide (((List.getD ((List.getD v0 (Int.toNat v1) default).Args) (Int.toNat (IntKind.wrap .i64 ((List.length ((List.getD v0 (Int.toNat v1) default).Args) : Int) - 1))) default).Kind) = 4)))) hk h rfl (fun h hb => ?_) (fun h hb => ?_)
   ·skip
    refine FW.wreg fun _ q23 => ?_
    refine FW.sA hk fun a w hk => ?_
    refine FW.lend (q23 _ _ ?_)
    refine wp_ret ?_
    (repeat first | refine FW.then_ret ?_ | refine FW.block_ret ?_)
    obtain rfl := Option.some.inj h
    exact FW.fret1 hk rfl rfl
   refine wp_skip ?_
   (repeat first | refine FW.tn ?_ | refine FW.bn ?_); exact q7 _ _ ⟨(List.getD v0 (Int.toNat v1) default), v0, v1, hk.sub ⟨rfl, rfl, rfl, trivial⟩, h⟩
  refine wp_skip ?_
  (repeat first | refine FW.tn ?_ | refine FW.bn ?_); exact q7 _ _ ⟨(List.getD v0 (Int.toNat v1) default), v0, v1, hk.sub ⟨rfl, rfl, rfl, trivial⟩, h⟩
end Go.Proofs.Ytbjbgodcenopnaa

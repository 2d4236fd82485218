/- Written by a program of this session (gen.py): the contracts of functions of the program. -/
import Derived.Test.YtbjbgodcenopnaaCbP13
namespace Go.Proofs.Ytbjbgodcenopnaa
set_option linter.unusedVariables false
set_option maxRecDepth 20000
set_option maxHeartbeats 10000000
abbrev Zzcs (zcs : List ApiStep → Bool → Option Int) : Prop := ∀ (v0 : List ApiStep) (v1 : Bool) (r : Int), zcs v0 v1 = some r → FW.Ok Try.prog 68 [.row (r_ApiStep_cells v0), .lit (.bool v1)] (.lit (.int .i64 r))
theorem check_steps.bok (zcs : List ApiStep → Bool → Option Int) (hzcs : Zzcs zcs) (K : Nat) (v0 : List ApiStep) (v1 : Bool) (r : Int) (h : check_steps.b zcs K v0 v1 = some r) :
  FW.Ok Try.prog 68 [.row (r_ApiStep_cells v0), .lit (.bool v1)] (.lit (.int .i64 r)) := by
 refine FW.enter (xs := [.row (r_ApiStep_cells v0), .lit (.bool v1)]) Try.func68 rfl Try.ntmps68 rfl ?_
 intro M w0 a hk
 unfold check_steps.b at h
 refine FW.wreg fun _ q1 => ?_
 refine FW.sA hk fun a w hk => ?_
 refine FW.lend (q1 _ _ ?_)
 refine FW.wseq fun _ q2 => ?_
 refine FW.wreg fun _ q3 => ?_
 refine FW.sM hk fun a w hk => ?_
 refine FW.lf (y := .lit (.int .i64 (List.length v0 : Int))) hk (FW.f_len (R := r_ApiStep_cells) (f := ApiStep.cells) (l := v0) r_ApiStep_cells_eq Try.underlying22 hk FW.h0 rfl) fun a w hk => ?_
 refine FW.sM hk fun a w hk => ?_
 refine FW.lend (q3 _ _ ?_)
 refine wp_block ?_
 refine FW.wloop (T := Nat × List ApiStep × Bool × List ApiStep × Int × Int) (fun x a w => match x with | (kl1, v0, v1, v12, v13, v14) => FW.S M w0 a w 82 [] [(0, [], .row (r_ApiStep_cells v0)), (1, [], .lit (.bool v1)), (12, [], .row (r_ApiStep_cells v12)), (13, [], .lit (.int .i64 v13)), (14, [], .lit (.int .i64 v14))] ∧ check_steps.l1 zcs K kl1 v0 v1 v12 v13 v14 = some r) (fun x => x.1) (K, v0, v1, v0, (List.length v0 : Int), 0) ⟨hk.sub ⟨rfl, rfl, rfl, rfl, rfl, trivial⟩, h⟩ ?_
 clear hk h
 rintro ⟨kl1, v0, v1, v12, v13, v14⟩ a w ⟨hk, h⟩ K' q4
 cases kl1 with
 | zero => simp [check_steps.l1] at h
 | succ kl1 =>
 rw [check_steps.l1.eq_2] at h
 refine FW.wreg fun _ q5 => ?_
 refine FW.sLt hk fun a w hk => ?_
 refine FW.lend (q5 _ _ ?_)
 refine FW.wseq fun _ q6 => ?_
 refine FW.wcondF (b := (decide (v14 < v13))) hk h rfl (fun h hb => ?_) (fun h hb => ?_)
 ·skip
  refine wp_skip ?_
  (repeat first | refine FW.tn ?_ | refine FW.bn ?_); refine q6 _ _ ?_
  refine FW.wseq fun _ q7 => ?_
  refine wp_block ?_
  refine FW.wreg fun _ q8 => ?_
  refine FW.sM hk fun a w hk => ?_
  obtain ⟨hc1, h⟩ := FW.chk h
  refine FW.lf (y := .ref (ApiStep.cells (List.getD v12 (Int.toNat v14) default))) hk (FW.f_indexAddr (R := r_ApiStep_cells) (f := ApiStep.cells) (l := v12) (sz := 2) r_ApiStep_cells_eq (fun _ => rfl) hk FW.h0 rfl rfl Try.underlying22 (by kernel_rfl) hc1) fun a w hk => ?_
  refine FW.lf (y := .agg ((ApiStep.cells (List.getD v12 (Int.toNat v14) default)))) hk (FW.f_load hk FW.h0 rfl Try.underlying29 rfl rfl rfl rfl) fun a w hk => ?_
  refine FW.l_alloc (zs := (ApiStep.cells (⟨[], []⟩ : ApiStep))) [] hk rfl rfl rfl rfl ?_; clear hk; intro bx1 a w hk
  refine FW.sA hk fun a w hk => ?_
  refine FW.st0 (cs' := (ApiStep.cells (List.getD v12 (Int.toNat v14) default))) hk rfl (by kernel_rfl) fun w hk => ?_
  refine FW.lend (q8 _ _ ?_)
  refine FW.wreg fun _ q9 => ?_
  refine FW.sFp 0 hk Try.underlying29 fun a w hk => ?_
  refine FW.lf (y := .lit (.string (FW.B ((List.getD v12 (Int.toNat v14) default).Name)))) hk (FW.f_loadBlk1 hk FW.h0 (j := 0) rfl rfl Try.underlying9 rfl rfl) fun a w hk => ?_
  obtain ⟨t1, hr_t1, h⟩ := FW.bnd h
  refine FW.lf (y := FW.nrow (r_c_str t1)) hk (FW.f_call hk FW.h0 rfl rfl Try.func94 rfl (by kernel_rfl) (check_forms.ok ((List.getD v12 (Int.toNat v14) default).Name) _ hr_t1)) fun a w hk => ?_
  refine FW.sA hk fun a w hk => ?_
  refine FW.lend (q9 _ _ ?_)
  refine FW.wseq fun _ q10 => ?_
  refine FW.wreg fun _ q11 => ?_
  refine FW.sM hk fun a w hk => ?_
  refine FW.lf (y := .lit (.bool (List.isEmpty t1))) hk (FW.f_nrowEq hk FW.h0 rfl rfl Try.underlying56 (FW.empty_map rfl)) fun a w hk => ?_
  replace hk := hk.as (i := 7) (y := .row (r_c_str t1)) rfl (fun v hv => FW.nrow_row hv)
  replace hk := hk.as (i := 21) (y := .row (r_c_str t1)) rfl (fun v hv => FW.nrow_row hv)
  replace hk := hk.as (i := 22) (y := .row (r_c_str t1)) rfl (fun v hv => FW.nrow_row hv)
  refine FW.lend (q11 _ _ ?_)
  refine FW.wcondF (b := (List.isEmpty t1)) hk h rfl (fun h hb => ?_) (fun h hb => ?_)
  ·skip
   refine FW.wreg fun _ q12 => ?_
   refine FW.sA hk fun a w hk => ?_
   refine FW.lend (q12 _ _ ?_)
   refine wp_ret ?_
   (repeat first | refine FW.then_ret ?_ | refine FW.block_ret ?_)
   obtain rfl := Option.some.inj h
   exact FW.fret1 hk rfl rfl
  refine wp_skip ?_
  (repeat first | refine FW.tn ?_ | refine FW.bn ?_); refine q10 _ _ ?_
  refine FW.wseq fun _ q13 => ?_
  refine FW.wreg fun _ q14 => ?_
  refine FW.sM hk fun a w hk => ?_
  refine FW.lf (y := .lit (.func (.func 96) #[] #[.pointer (some ⟨bx1, 0, none⟩)])) hk (FW.f_makeFunc hk FW.h0 rfl) fun a w hk => ?_
  obtain ⟨t2, hr_t2, h⟩ := FW.bnd h
  refine FW.l_callH (I1 := (OVarApiStep.items bx1 (List.getD v12 (Int.toNat v14) default))) (I2 := []) (js := [0]) hk rfl rfl rfl rfl rfl Try.func95 rfl (by kernel_rfl) (cF_steps.ok K t1 (List.getD v12 (Int.toNat v14) default) _ hr_t2 bx1) ?_; clear hk
  rintro _ _ ⟨rfl, rfl⟩ a w hk
  refine FW.lf (y := .lit (.bool (!t2))) hk ((FW.f_pure (FW.p_not hk.kn FW.h0 rfl))) fun a w hk => ?_
  refine FW.lend (q14 _ _ ?_)
  refine FW.wcondF (b := (!t2)) hk h rfl (fun h hb => ?_) (fun h hb => ?_)
  ·skip
   refine FW.wreg fun _ q15 => ?_
   refine FW.sA hk fun a w hk => ?_
   refine FW.lend (q15 _ _ ?_)
   refine wp_ret ?_
   (repeat first | refine FW.then_ret ?_ | refine FW.block_ret ?_)
   obtain rfl := Option.some.inj h
   exact FW.fret1 hk rfl rfl
  refine wp_skip ?_
  (repeat first | refine FW.tn ?_ | refine FW.bn ?_); refine q13 _ _ ?_
  refine FW.wseq fun _ q16 => ?_
  refine FW.wreg fun _ q17 => ?_
  refine FW.sFp 0 hk Try.underlying29 fun a w hk => ?_
  refine FW.lf (y := .lit (.string (FW.B ((List.getD v12 (Int.toNat v14) default).Name)))) hk (FW.f_loadBlk1 hk FW.h0 (j := 0) rfl rfl Try.underlying9 rfl rfl) fun a w hk => ?_
  refine FW.sSe hk fun a w hk => ?_
  refine FW.sM hk fun a w hk => ?_
  refine FW.lg (y := .lit (.pointer (some ⟨bx1, 0, none⟩))) hk rfl rfl rfl (fun hc => FW.f_fieldPtr hk hc rfl Try.underlying29 rfl (by kernel_rfl) rfl) fun a w hk => ?_
  refine FW.lg (y := .lit (.string (FW.B ((List.getD v12 (Int.toNat v14) default).Name)))) hk rfl rfl rfl (fun hc => FW.f_loadBlk1 hk hc (j := 0) rfl rfl Try.underlying9 rfl rfl) fun a w hk => ?_
  refine FW.lg (y := .lit (.bool (decide (((List.getD v12 (Int.toNat v14) default).Name) = ([117, 110, 105, 111, 110] : List UInt8))))) hk rfl rfl rfl (fun hc => (FW.f_pure (FW.p_seql hk.kn hc rfl rfl))) fun a w hk => ?_
  refine FW.sOr hk fun a w hk => ?_
  refine FW.sM hk fun a w hk => ?_
  refine FW.lg (y := .lit (.pointer (some ⟨bx1, 0, none⟩))) hk rfl rfl rfl (fun hc => FW.f_fieldPtr hk hc rfl Try.underlying29 rfl (by kernel_rfl) rfl) fun a w hk => ?_
  refine FW.lg (y := .lit (.string (FW.B ((List.getD v12 (Int.toNat v14) default).Name)))) hk rfl rfl rfl (fun hc => FW.f_loadBlk1 hk hc (j := 0) rfl rfl Try.underlying9 rfl rfl) fun a w hk => ?_
  refine FW.lg (y := .lit (.bool (decide (((List.getD v12 (Int.toNat v14) default).Name) = ([99, 111, 97, 108, 101, 115, 99, 101] : List UInt8))))) hk rfl rfl rfl (fun hc => (FW.f_pure (FW.p_seql hk.kn hc rfl rfl))) fun a w hk => ?_
  refine FW.sOr hk fun a w hk => ?_
  refine FW.sM hk fun a w hk => ?_
  refine FW.lg (y := .lit (.pointer (some ⟨bx1, 0, none⟩))) hk rfl rfl rfl (fun hc => FW.f_fieldPtr hk hc rfl Try.underlying29 rfl (by kernel_rfl) rfl) fun a w hk => ?_
  refine FW.lg (y := .lit (.string (FW.B ((List.getD v12 (Int.toNat v14) default).Name)))) hk rfl rfl rfl (fun hc => FW.f_loadBlk1 hk hc (j := 0) rfl rfl Try.underlying9 rfl rfl) fun a w hk => ?_
  refine FW.lg (y := .lit (.bool (decide (((List.getD v12 (Int.toNat v14) default).Name) = ([97, 110, 100] : List UInt8))))) hk rfl rfl rfl (fun hc => (FW.f_pure (FW.p_seql hk.kn hc rfl rfl))) fun a w hk => ?_
  refine FW.sOr hk fun a w hk => ?_
  refine FW.sM hk fun a w hk => ?_
  refine FW.lg (y := .lit (.pointer (some ⟨bx1, 0, none⟩))) hk rfl rfl rfl (fun hc => FW.f_fieldPtr hk hc rfl Try.underlying29 rfl (by kernel_rfl) rfl) fun a w hk => ?_
  refine FW.lg (y := .lit (.string (FW.B ((List.getD v12 (Int.toNat v14) default).Name)))) hk rfl rfl rfl (fun hc => FW.f_loadBlk1 hk hc (j := 0) rfl rfl Try.underlying9 rfl rfl) fun a w hk => ?_
  refine FW.lg (y := .lit (.bool (decide (((List.getD v12 (Int.toNat v14) default).Name) = ([111, 114] : List UInt8))))) hk rfl rfl rfl (fun hc => (FW.f_pure (FW.p_seql hk.kn hc rfl rfl))) fun a w hk => ?_
  refine FW.sOr hk fun a w hk => ?_
  refine FW.sM hk fun a w hk => ?_
  refine FW.lg (y := .lit (.pointer (some ⟨bx1, 1, none⟩))) hk rfl rfl rfl (fun hc => FW.f_fieldPtr hk hc rfl Try.underlying29 rfl (by kernel_rfl) rfl) fun a w hk => ?_
  refine FW.lg (y := .row (r_ApiArg_cells ((List.getD v12 (Int.toNat v14) default).Args))) hk rfl rfl rfl (fun hc => FW.f_loadBlk1 hk hc (j := 0) rfl rfl Try.underlying27 rfl rfl) fun a w hk => ?_
  refine FW.lg (y := .lit (.int .i64 (List.length ((List.getD v12 (Int.toNat v14) default).Args) : Int))) hk rfl rfl rfl (fun hc => FW.f_len (R := r_ApiArg_cells) (f := ApiArg.cells) (l := (List.getD v12 (Int.toNat v14) default).Args) r_ApiArg_cells_eq Try.underlying27 hk hc rfl) fun a w hk => ?_
  refine FW.lg (y := .lit (.bool (decide ((List.length ((List.getD v12 (Int.toNat v14) default).Args) : Int) = 0)))) hk rfl rfl rfl (fun hc => (FW.f_pure (FW.p_eql hk.kn hc rfl rfl))) fun a w hk => ?_
  refine FW.sAn hk fun a w hk => ?_
  refine FW.lend (q17 _ _ ?_)
  refine FW.wcondF (b := ((((((decide (((List.getD v12 (Int.toNat v14) default).Name) = ([105, 110, 106, 101, 99, 116] : List UInt8))) || (decide (((List.getD v12 (Int.toNat v14) default).Name) = ([117, 110, 105, 111, 110] : List UInt8)))) || (decide (((List.getD v12 (Int.toNat v14) default).Name) = ([99, 111, 97, 108, 101, 115, 99, 101] : List UInt8)))) || (decide (((List.getD v12 (Int.toNat v14) default).Name) = ([97, 110, 100] : List UInt8)))) || (decide (((List.getD v12 (Int.toNat v14) default).Name) = ([111, 114] : List UInt8)))) && (decide ((List.length ((List.getD v12 (Int.toNat v14) default).Args) : Int) = 0)))) hk h rfl (fun h hb => ?_) (fun h hb => ?_)
  ·skip
   refine FW.wreg fun _ q18 => ?_
   refine FW.sA hk fun a w hk => ?_
   refine FW.lend (q18 _ _ ?_)
   refine wp_ret ?_
   (repeat first | refine FW.then_ret ?_ | refine FW.block_ret ?_)
   obtain rfl := Option.some.inj h
   exact FW.fret1 hk rfl rfl
  refine wp_skip ?_
  (repeat first | refine FW.tn ?_ | refine FW.bn ?_); refine q16 _ _ ?_
  refine FW.wseq fun _ q19 => ?_
  refine FW.wreg fun _ q20 => ?_
  refine FW.sM hk fun a w hk => ?_
  refine FW.sM hk fun a w hk => ?_
  refine FW.sM hk fun a w hk => ?_
  obtain ⟨t3, hr_t3, h⟩ := FW.bnd h
  refine FW.lf (y := .lit (.int .i64 t3)) hk (FW.f_call hk FW.h0 rfl rfl Try.func98 rfl (by kernel_rfl) (check_place.ok K v0 v14 v1 _ hr_t3)) fun a w hk => ?_
  refine FW.sA hk fun a w hk => ?_
  refine FW.lend (q20 _ _ ?_)
  refine FW.wreg fun _ q21 => ?_
  refine FW.sM hk fun a w hk => ?_
  refine FW.lf (y := .lit (.bool (!decide (t3 = 0)))) hk ((FW.f_pure (FW.p_neq hk.kn FW.h0 rfl rfl))) fun a w hk => ?_
  refine FW.lend (q21 _ _ ?_)
  refine FW.wcondF (b := (!decide (t3 = 0))) hk h rfl (fun h hb => ?_) (fun h hb => ?_)
  ·skip
   refine FW.wreg fun _ q22 => ?_
   refine FW.sM hk fun a w hk => ?_
   refine FW.sA hk fun a w hk => ?_
   refine FW.lend (q22 _ _ ?_)
   refine wp_ret ?_
   (repeat first | refine FW.then_ret ?_ | refine FW.block_ret ?_)
   obtain rfl := Option.some.inj h
   exact FW.fret1 hk rfl rfl
  refine wp_skip ?_
  (repeat first | refine FW.tn ?_ | refine FW.bn ?_); refine q19 _ _ ?_
  refine FW.wreg fun _ q23 => ?_
  refine FW.sFp 1 hk Try.underlying29 fun a w hk => ?_
  refine FW.lf (y := .row (r_ApiArg_cells ((List.getD v12 (Int.toNat v14) default).Args))) hk (FW.f_loadBlk1 hk FW.h0 (j := 0) rfl rfl Try.underlying27 rfl rfl) fun a w hk => ?_
  refine FW.lf (y := .lit (.int .i64 (List.length ((List.getD v12 (Int.toNat v14) default).Args) : Int))) hk (FW.f_len (R := r_ApiArg_cells) (f := ApiArg.cells) (l := (List.getD v12 (Int.toNat v14) default).Args) r_ApiArg_cells_eq Try.underlying27 hk FW.h0 rfl) fun a w hk => ?_
  refine FW.sM hk fun a w hk => ?_
  refine FW.lend (q23 _ _ ?_)
  refine wp_block ?_
  refine FW.wloop (T := Nat × List ApiStep × Bool × List ApiStep × Int × Int × List ApiArg × Int × Int) (fun x a w => match x with | (kl2, v0, v1, v12, v13, v14, v65, v66, v67) => FW.S M w0 a w 82 [] [(0, [], .row (r_ApiStep_cells v0)), (1, [], .lit (.bool v1)), (12, [], .row (r_ApiStep_cells v12)), (13, [], .lit (.int .i64 v13)), (14, [], .lit (.int .i64 v14)), (65, [], .row (r_ApiArg_cells v65)), (66, [], .lit (.int .i64 v66)), (67, [], .lit (.int .i64 v67))] ∧ check_steps.l2 zcs (check_steps.l1 zcs K kl1) K kl2 v0 v1 v12 v13 v14 v65 v66 v67 = some r) (fun x => x.1) (K, v0, v1, v12, v13, v14, (List.getD v12 (Int.toNat v14) default).Args, (List.length ((List.getD v12 (Int.toNat v14) default).Args) : Int), 0) ⟨(hk.drop 0).sub ⟨rfl, rfl, rfl, rfl, rfl, rfl, rfl, rfl, trivial⟩, h⟩ ?_
  clear hk h
  rintro ⟨kl2, v0, v1, v12, v13, v14, v65, v66, v67⟩ a w ⟨hk, h⟩ K' q24
  cases kl2 with
  | zero => simp [check_steps.l2] at h
  | succ kl2 =>
  rw [check_steps.l2.eq_2] at h
  refine FW.wreg fun _ q25 => ?_
  refine FW.sLt hk fun a w hk => ?_
  refine FW.lend (q25 _ _ ?_)
  refine FW.wseq fun _ q26 => ?_
  refine FW.wcondF (b := (decide (v67 < v66))) hk h rfl (fun h hb => ?_) (fun h hb => ?_)
  ·skip
   refine wp_skip ?_
   (repeat first | refine FW.tn ?_ | refine FW.bn ?_); refine q26 _ _ ?_
   refine FW.wseqJ (fun a w => ∃ (v0 : List ApiStep) (v1 : Bool) (v12 : List ApiStep) (v13 : Int) (v14 : Int) (v65 : List ApiArg) (v66 : Int) (v67 : Int), FW.S M w0 a w 82 [] [(0, [], .row (r_ApiStep_cells v0)), (1, [], .lit (.bool v1)), (12, [], .row (r_ApiStep_cells v12)), (13, [], .lit (.int .i64 v13)), (14, [], .lit (.int .i64 v14)), (65, [], .row (r_ApiArg_cells v65)), (66, [], .lit (.int .i64 v66)), (67, [], .lit (.int .i64 v67))] ∧ check_steps.j1 zcs (check_steps.l1 zcs K kl1) (check_steps.l2 zcs (check_steps.l1 zcs K kl1) K kl2) K v0 v1 v12 v13 v14 v65 v66 v67 = some r) ?_ ?_
   ·clear hk h
    rintro a w ⟨v0, v1, v12, v13, v14, v65, v66, v67, hk, h⟩
    unfold check_steps.j1 at h
    refine FW.wreg1 ?_
    refine FW.sAd hk fun a w hk => ?_
    refine FW.sM hk fun a w hk => ?_
    refine wpList_nil ?_
    (repeat first | refine FW.tn ?_ | refine FW.bn ?_); exact q24 (kl2, v0, v1, v12, v13, v14, v65, v66, (IntKind.wrap .i64 (v67 + 1))) _ _ (Nat.lt_succ_self _) ⟨hk.sub ⟨rfl, rfl, rfl, rfl, rfl, rfl, rfl, rfl, trivial⟩, h⟩
   ·intro K' q27
    refine wp_block ?_
    refine FW.wreg fun _ q29 => ?_
    obtain ⟨hc2, h⟩ := FW.chk h
    refine FW.lf (y := .ref (ApiArg.cells (List.getD v65 (Int.toNat v67) default))) hk (FW.f_indexAddr (R := r_ApiArg_cells) (f := ApiArg.cells) (l := v65) (sz := 11) r_ApiArg_cells_eq (fun _ => rfl) hk FW.h0 rfl rfl Try.underlying27 (by kernel_rfl) hc2) fun a w hk => ?_
    refine FW.lf (y := .agg ((ApiArg.cells (List.getD v65 (Int.toNat v67) default)))) hk (FW.f_load hk FW.h0 rfl Try.underlying38 rfl rfl rfl rfl) fun a w hk => ?_
    refine FW.l_alloc (zs := (ApiArg.cells (⟨0, (⟨0, false, 0, 0, [], []⟩ : ApiValue), (⟨[], [], []⟩ : ApiPred), []⟩ : ApiArg))) [] hk rfl rfl rfl rfl ?_; clear hk; intro bx2 a w hk
    refine FW.st0 (cs' := (ApiArg.cells (List.getD v65 (Int.toNat v67) default))) hk rfl (by kernel_rfl) fun w hk => ?_
    refine FW.lend (q29 _ _ ?_)
    refine FW.wseq fun _ q30 => ?_
    refine FW.wreg fun _ q31 => ?_
    refine FW.sFp 0 hk Try.underlying38 fun a w hk => ?_
    refine FW.lf (y := .lit (.int .i64 ((List.getD v65 (Int.toNat v67) default).Kind))) hk (FW.f_loadBlk1 hk FW.h0 (j := 0) rfl rfl Try.underlying3 rfl rfl) fun a w hk => ?_
    refine FW.lf (y := .lit (.bool (!decide (((List.getD v65 (Int.toNat v67) default).Kind) = 3)))) hk ((FW.f_pure (FW.p_neq hk.kn FW.h0 rfl rfl))) fun a w hk => ?_
    refine FW.lend (q31 _ _ ?_)
    refine FW.wcondF (b := (!decide (((List.getD v65 (Int.toNat v67) default).Kind) = 3))) hk h rfl (fun h hb => ?_) (fun h hb => ?_)
    ·skip
     refine wp_exit ?_; (repeat first | refine FW.then_exit ?_ | refine FW.block_exit_ne rfl ?_); refine FW.block_exit ?_
     (repeat first | refine FW.tn ?_ | refine FW.bn ?_); exact q27 _ _ ⟨v0, v1, v12, v13, v14, v65, v66, v67, (hk.drop 0).sub ⟨rfl, rfl, rfl, rfl, rfl, rfl, rfl, rfl, trivial⟩, h⟩
    refine wp_skip ?_
    (repeat first | refine FW.tn ?_ | refine FW.bn ?_); refine q30 _ _ ?_
    refine FW.wreg fun _ q32 => ?_
    refine FW.sFp 10 hk Try.underlying38 fun a w hk => ?_
    refine FW.lf (y := .row (r_ApiStep_cells ((List.getD v65 (Int.toNat v67) default).T))) hk (FW.f_loadBlk1 hk FW.h0 (j := 0) rfl rfl Try.underlying22 rfl rfl) fun a w hk => ?_
    obtain ⟨t4, hr_t4, h⟩ := FW.bnd h
    refine FW.lf (y := .lit (.int .i64 t4)) hk (FW.f_call hk FW.h0 rfl rfl Try.func68 rfl (by kernel_rfl) (hzcs ((List.getD v65 (Int.toNat v67) default).T) false _ hr_t4)) fun a w hk => ?_
    refine FW.sA hk fun a w hk => ?_
    refine FW.lend (q32 _ _ ?_)
    refine FW.wreg fun _ q33 => ?_
    refine FW.sM hk fun a w hk => ?_
    refine FW.lf (y := .lit (.bool (!decide (t4 = 0)))) hk ((FW.f_pure (FW.p_neq hk.kn FW.h0 rfl rfl))) fun a w hk => ?_
    refine FW.lend (q33 _ _ ?_)
    refine FW.wcondF (b := (!decide (t4 = 0))) hk h rfl (fun h hb => ?_) (fun h hb => ?_)
    ·skip
     refine FW.wreg fun _ q34 => ?_
     refine FW.sM hk fun a w hk => ?_
     refine FW.sA hk fun a w hk => ?_
     refine FW.lend (q34 _ _ ?_)
     refine wp_ret ?_
     (repeat first | refine FW.then_ret ?_ | refine FW.block_ret ?_)
     obtain rfl := Option.some.inj h
     exact FW.fret1 hk rfl rfl
    refine wp_skip ?_
    (repeat first | refine FW.tn ?_ | refine FW.bn ?_); exact q27 _ _ ⟨v0, v1, v12, v13, v14, v65, v66, v67, (hk.drop 0).sub ⟨rfl, rfl, rfl, rfl, rfl, rfl, rfl, rfl, trivial⟩, h⟩
  refine wp_exit ?_; (repeat first | refine FW.then_exit ?_ | refine FW.block_exit_ne rfl ?_); refine FW.block_exit ?_
  (repeat first | refine FW.tn ?_ | refine FW.bn ?_); refine q7 _ _ ?_
  refine FW.wreg1 ?_
  refine FW.sAd hk fun a w hk => ?_
  refine FW.sM hk fun a w hk => ?_
  refine wpList_nil ?_
  (repeat first | refine FW.tn ?_ | refine FW.bn ?_); exact q4 (kl1, v0, v1, v12, v13, (IntKind.wrap .i64 (v14 + 1))) _ _ (Nat.lt_succ_self _) ⟨hk.sub ⟨rfl, rfl, rfl, rfl, rfl, trivial⟩, h⟩
 refine wp_exit ?_; (repeat first | refine FW.then_exit ?_ | refine FW.block_exit_ne rfl ?_); refine FW.block_exit ?_
 (repeat first | refine FW.tn ?_ | refine FW.bn ?_); refine q2 _ _ ?_
 refine FW.wreg fun _ q36 => ?_
 refine FW.sA hk fun a w hk => ?_
 refine FW.lend (q36 _ _ ?_)
 refine wp_ret ?_
 (repeat first | refine FW.then_ret ?_ | refine FW.block_ret ?_)
 obtain rfl := Option.some.inj h
 exact FW.fret1 hk rfl rfl

theorem check_steps_knot : ∀ K : Nat, (∀ (v0 : List ApiStep) (v1 : Bool) (r : Int), check_steps.f K v0 v1 = some r → FW.Ok Try.prog 68 [.row (r_ApiStep_cells v0), .lit (.bool v1)] (.lit (.int .i64 r)))
 | 0 => fun v0 v1 r h => by simp [check_steps.f] at h
 | K + 1 => fun v0 v1 r h => by rw [check_steps.f] at h; exact check_steps.bok _ (check_steps_knot K) K v0 v1 r h

theorem check_steps.ok (K : Nat) (v0 : List ApiStep) (v1 : Bool) (r : Int) (h : check_steps.f K v0 v1 = some r) : FW.Ok Try.prog 68 [.row (r_ApiStep_cells v0), .lit (.bool v1)] (.lit (.int .i64 r)) := (check_steps_knot K) v0 v1 r h

theorem check_Check.ok (K : Nat) (v0 : List ApiStep) (r : Int) (h : check_Check.f K v0 = some r) :
  FW.Ok Try.prog 47 [.row (r_ApiStep_cells v0)] (.lit (.int .i64 r)) := by
 refine FW.enter (xs := [.row (r_ApiStep_cells v0)]) Try.func47 rfl Try.ntmps47 rfl ?_
 intro M w0 a hk
 unfold check_Check.f at h
 refine FW.wreg fun _ q1 => ?_
 refine FW.sA hk fun a w hk => ?_
 refine FW.lend (q1 _ _ ?_)
 refine FW.wseq fun _ q2 => ?_
 refine FW.wreg fun _ q3 => ?_
 refine FW.sM hk fun a w hk => ?_
 refine FW.lf (y := .lit (.int .i64 (List.length v0 : Int))) hk (FW.f_len (R := r_ApiStep_cells) (f := ApiStep.cells) (l := v0) r_ApiStep_cells_eq Try.underlying22 hk FW.h0 rfl) fun a w hk => ?_
 refine FW.sEq hk fun a w hk => ?_
 refine FW.lend (q3 _ _ ?_)
 refine FW.wcondF (b := (decide ((List.length v0 : Int) = 0))) hk h rfl (fun h hb => ?_) (fun h hb => ?_)
 ·skip
  refine FW.wreg fun _ q4 => ?_
  refine FW.sA hk fun a w hk => ?_
  refine FW.lend (q4 _ _ ?_)
  refine wp_ret ?_
  (repeat first | refine FW.then_ret ?_ | refine FW.block_ret ?_)
  obtain rfl := Option.some.inj h
  exact FW.fret1 hk rfl rfl
 refine wp_skip ?_
 (repeat first | refine FW.tn ?_ | refine FW.bn ?_); refine q2 _ _ ?_
 refine FW.wreg fun _ q5 => ?_
 refine FW.sM hk fun a w hk => ?_
 obtain ⟨t1, hr_t1, h⟩ := FW.bnd h
 refine FW.lf (y := .lit (.int .i64 t1)) hk (FW.f_call hk FW.h0 rfl rfl Try.func68 rfl (by kernel_rfl) (check_steps.ok K v0 true _ hr_t1)) fun a w hk => ?_
 refine FW.sA hk fun a w hk => ?_
 refine FW.lend (q5 _ _ ?_)
 refine wp_ret ?_
 (repeat first | refine FW.then_ret ?_ | refine FW.block_ret ?_)
 obtain rfl := Option.some.inj h
 exact FW.fret1 hk rfl rfl

theorem code_modifies.ok  (v0 : List UInt8) (r : Bool) (h : code_modifies.f v0 = some r) :
  FW.Ok Try.prog 69 [.lit (.string (FW.B v0))] (.lit (.bool r)) := by
 refine FW.enter (xs := [.lit (.string (FW.B v0))]) Try.func69 rfl Try.ntmps69 rfl ?_
 intro M w0 a hk
 unfold code_modifies.f at h
 refine FW.wreg fun _ q1 => ?_
 refine FW.sA hk fun a w hk => ?_
 refine FW.lend (q1 _ _ ?_)
 refine FW.wseq fun _ q2 => ?_
 refine FW.wreg fun _ q3 => ?_
 refine FW.sM hk fun a w hk => ?_
 refine FW.lend (q3 _ _ ?_)
 refine wp_block ?_
 refine FW.wseqJ (fun a w => ∃ (v4 : Bool), FW.S M w0 a w 11 [] [(4, [], .lit (.bool v4))] ∧ code_modifies.j1 v4 = some r) ?_ ?_
 ·clear hk h
  rintro a w ⟨v4, hk, h⟩
  unfold code_modifies.j1 at h
  refine FW.wcondF (b := v4) hk h rfl (fun h hb => ?_) (fun h hb => ?_)
  ·skip
   refine FW.wreg fun _ q5 => ?_
   refine FW.sA hk fun a w hk => ?_
   refine FW.lend (q5 _ _ ?_)
   refine wp_ret ?_
   (repeat first | refine FW.then_ret ?_ | refine FW.block_ret ?_)
   obtain rfl := Option.some.inj h
   exact FW.fret1 hk rfl rfl
  refine wp_skip ?_
  (repeat first | refine FW.tn ?_ | refine FW.bn ?_); refine q2 _ _ ?_
  refine FW.wreg fun _ q6 => ?_
  refine FW.sA hk fun a w hk => ?_
  refine FW.lend (q6 _ _ ?_)
  refine wp_ret ?_
  (repeat first | refine FW.then_ret ?_ | refine FW.block_ret ?_)
  obtain rfl := Option.some.inj h
  exact FW.fret1 hk rfl rfl
 ·intro K' q4
  refine FW.wreg fun _ q7 => ?_
  refine FW.sSe hk fun a w hk => ?_
  refine FW.sA hk fun a w hk => ?_
  refine FW.lend (q7 _ _ ?_)
  refine FW.wcondF (b := (decide (v0 = ([98, 121] : List UInt8)))) hk h rfl (fun h hb => ?_) (fun h hb => ?_)
  ·skip
   refine wp_skip ?_
   (repeat first | refine FW.tn ?_ | refine FW.bn ?_); exact q4 _ _ ⟨(decide (v0 = ([98, 121] : List UInt8))), hk.sub ⟨rfl, trivial⟩, h⟩
  refine FW.wreg fun _ q8 => ?_
  refine FW.sSe hk fun a w hk => ?_
  refine FW.sA hk fun a w hk => ?_
  refine FW.lend (q8 _ _ ?_)
  refine FW.wcondF (b := (decide (v0 = ([116, 105, 109, 101, 115] : List UInt8)))) hk h rfl (fun h hb => ?_) (fun h hb => ?_)
  ·skip
   refine wp_skip ?_
   (repeat first | refine FW.tn ?_ | refine FW.bn ?_); exact q4 _ _ ⟨(decide (v0 = ([116, 105, 109, 101, 115] : List UInt8))), hk.sub ⟨rfl, trivial⟩, h⟩
  refine FW.wreg fun _ q9 => ?_
  refine FW.sSe hk fun a w hk => ?_
  refine FW.sA hk fun a w hk => ?_
  refine FW.lend (q9 _ _ ?_)
  refine FW.wcondF (b := (decide (v0 = ([117, 110, 116, 105, 108] : List UInt8)))) hk h rfl (fun h hb => ?_) (fun h hb => ?_)
  ·skip
   refine wp_skip ?_
   (repeat first | refine FW.tn ?_ | refine FW.bn ?_); exact q4 _ _ ⟨(decide (v0 = ([117, 110, 116, 105, 108] : List UInt8))), hk.sub ⟨rfl, trivial⟩, h⟩
  refine FW.wreg fun _ q10 => ?_
  refine FW.sSe hk fun a w hk => ?_
  refine FW.sA hk fun a w hk => ?_
  refine FW.lend (q10 _ _ ?_)
  refine FW.wcondF (b := (decide (v0 = ([101, 109, 105, 116] : List UInt8)))) hk h rfl (fun h hb => ?_) (fun h hb => ?_)
  ·skip
   refine wp_skip ?_
   (repeat first | refine FW.tn ?_ | refine FW.bn ?_); exact q4 _ _ ⟨(decide (v0 = ([101, 109, 105, 116] : List UInt8))), hk.sub ⟨rfl, trivial⟩, h⟩
  refine FW.wreg fun _ q11 => ?_
  refine FW.sSe hk fun a w hk => ?_
  refine FW.sA hk fun a w hk => ?_
  refine FW.lend (q11 _ _ ?_)
  refine FW.wcondF (b := (decide (v0 = ([116, 111] : List UInt8)))) hk h rfl (fun h hb => ?_) (fun h hb => ?_)
  ·skip
   refine wp_skip ?_
   (repeat first | refine FW.tn ?_ | refine FW.bn ?_); exact q4 _ _ ⟨(decide (v0 = ([116, 111] : List UInt8))), hk.sub ⟨rfl, trivial⟩, h⟩
  refine FW.wreg1 ?_
  refine FW.sSe hk fun a w hk => ?_
  refine FW.sA hk fun a w hk => ?_
  refine wpList_nil ?_
  (repeat first | refine FW.tn ?_ | refine FW.bn ?_); exact q4 _ _ ⟨(decide (v0 = ([102, 114, 111, 109] : List UInt8))), hk.sub ⟨rfl, trivial⟩, h⟩
end Go.Proofs.Ytbjbgodcenopnaa

/- Written by a program of this session (gen.py): the contracts of functions of the program. -/
import Derived.Test.YtbjbgodcenopnaaCbP18
namespace Go.Proofs.Ytbjbgodcenopnaa
set_option linter.unusedVariables false
set_option maxRecDepth 20000
set_option maxHeartbeats 10000000
theorem cm_other.bok (zB : OCM → List ApiStep → Option (Int × OCM)) (zI : OCM → ApiStep → List ApiStep → Option (ApiIns × OCM)) (zK : OCM → List ApiArg → Option (List Int × OCM)) (zO : OCM → ApiStep → List ApiStep → Option (ApiIns × OCM)) (zY : OCM → List ApiStep → Int → Option (List Int × OCM)) (zb : OCM → ApiStep → Option (Int × OCM)) (zR : OCM → List ApiStep → Option (ApiIns × OCM)) (zT : OCM → ApiStep → List ApiStep → Option (ApiIns × OCM)) (zE : OCM → ApiStep → List ApiStep → Option (ApiIns × OCM)) (hzB : ZzB zB) (hzI : ZzI zI) (hzK : ZzK zK) (hzO : ZzO zO) (hzY : ZzY zY) (hzb : Zzb zb) (hzR : ZzR zR) (hzT : ZzT zT) (hzE : ZzE zE) (K : Nat) (v0 : OCM) (v1 : ApiStep) (v2 : List ApiStep) (r : ApiIns × OCM) (h : cm_other.b zB zI zK zO zY zb zR zT zE K v0 v1 v2 = some r) :
  ∀ (b0 : Nat) (xd0_0 : Option Addr) (xc0_0 : Nat), FW.OkH Try.prog 107 [.lit (.pointer (some ⟨b0, 0, none⟩)), .agg (ApiStep.cells v1), .row (r_ApiStep_cells v2)] (OCM.items b0 xd0_0 xc0_0 v0) (fun y I => ∃ (zxd0_0 : Option Addr) (zxc0_0 : Nat), y = .agg (ApiIns.cells r.1) ∧ I = OCM.items b0 zxd0_0 zxc0_0 r.2) := by
 intro b0 xd0_0 xc0_0
 refine FW.enterH (xs := [.lit (.pointer (some ⟨b0, 0, none⟩)), .agg (ApiStep.cells v1), .row (r_ApiStep_cells v2)]) Try.func107 rfl Try.ntmps107 rfl ?_
 intro M w0 a hk
 replace hk : FW.S M w0 a w0.toWorld 138 [FW.blk b0 93 ([.lit (.slice xd0_0 (List.length v0.out) xc0_0)]), FW.orow xd0_0 xc0_0 55 1 c_s_ApiIns_cells v0.out] [(0, [], .lit (.pointer (some ⟨b0, 0, none⟩))), (1, [], .agg ((ApiStep.cells v1))), (2, [], .row (r_ApiStep_cells v2))] := hk
 unfold cm_other.b at h
 refine FW.wreg fun _ q1 => ?_
 refine FW.l_box (cs := (ApiStep.cells v1)) hk rfl rfl rfl rfl rfl ?_; clear hk; intro bx1 a w hk
 refine FW.l_alloc (zs := (ApiIns.cells (⟨0, [], [], [], (⟨[], [], []⟩ : ApiPred), [], false⟩ : ApiIns))) [] hk rfl rfl rfl rfl ?_; clear hk; intro bx2 a w hk
 refine FW.lend (q1 _ _ ?_)
 refine FW.wseq fun _ q2 => ?_
 refine FW.wreg fun _ q3 => ?_
 refine FW.sFp 0 hk Try.underlying29 fun a w hk => ?_
 refine FW.lf (y := .lit (.string (FW.B v1.Name))) hk (FW.f_loadBlk1 hk FW.h0 (j := 1) rfl rfl Try.underlying9 rfl rfl) fun a w hk => ?_
 refine FW.lend (q3 _ _ ?_)
 refine wp_block ?_
 refine FW.wreg fun _ q4 => ?_
 refine FW.sSe hk fun a w hk => ?_
 refine FW.sA hk fun a w hk => ?_
 refine FW.lend (q4 _ _ ?_)
 refine FW.wcondF (b := (decide (v1.Name = ([104, 97, 115] : List UInt8)))) hk h rfl (fun h hb => ?_) (fun h hb => ?_)
 ·skip
  refine FW.wseq fun _ q5 => ?_
  refine FW.wreg fun _ q6 => ?_
  refine FW.sFp 1 hk Try.underlying29 fun a w hk => ?_
  refine FW.lf (y := .row (r_ApiArg_cells v1.Args)) hk (FW.f_loadBlk1 hk FW.h0 (j := 1) rfl rfl Try.underlying27 rfl rfl) fun a w hk => ?_
  refine FW.lf (y := .lit (.int .i64 (List.length v1.Args : Int))) hk (FW.f_len (R := r_ApiArg_cells) (f := ApiArg.cells) (l := v1.Args) r_ApiArg_cells_eq Try.underlying27 hk FW.h0 rfl) fun a w hk => ?_
  refine FW.sEq hk fun a w hk => ?_
  refine FW.lend (q6 _ _ ?_)
  refine FW.wcondF (b := (decide ((List.length v1.Args : Int) = 1))) hk h rfl (fun h hb => ?_) (fun h hb => ?_)
  ·skip
   refine FW.wreg fun _ q7 => ?_
   refine FW.sFp 1 hk Try.underlying29 fun a w hk => ?_
   refine FW.lf (y := .row (r_ApiArg_cells v1.Args)) hk (FW.f_loadBlk1 hk FW.h0 (j := 1) rfl rfl Try.underlying27 rfl rfl) fun a w hk => ?_
   obtain ⟨t1, hr_t1, h⟩ := FW.bnd h
   refine FW.lf (y := .row (r_c_str t1)) hk (FW.f_call hk FW.h0 rfl rfl Try.func102 rfl (by kernel_rfl) (code_names.ok K v1.Args _ hr_t1)) fun a w hk => ?_
   refine FW.lf (y := .agg ((ApiIns.cells (⟨6, t1, [], [], (⟨[], [], []⟩ : ApiPred), [], false⟩ : ApiIns)))) hk (FW.f_buildN [] hk FW.h0 rfl rfl rfl) fun a w hk => ?_
   refine FW.st0 (cs' := (ApiIns.cells (⟨6, t1, [], [], (⟨[], [], []⟩ : ApiPred), [], false⟩ : ApiIns))) hk rfl (by kernel_rfl) fun w hk => ?_
   refine FW.lend (q7 _ _ ?_)
   refine wp_ret ?_
   (repeat first | refine FW.then_ret ?_ | refine FW.block_ret ?_)
   obtain rfl := Option.some.inj h
   have hr_0 := FW.rres_keep (I1 := [FW.blk b0 93 ([.lit (.slice xd0_0 (List.length v0.out) xc0_0)]), FW.orow xd0_0 xc0_0 55 1 c_s_ApiIns_cells v0.out]) (I2 := [FW.blk bx2 59 ((ApiIns.cells (⟨6, t1, [], [], (⟨[], [], []⟩ : ApiPred), [], false⟩ : ApiIns))), FW.blk bx1 29 ((ApiStep.cells v1))]) (js := [3, 3]) rfl (FW.rcell (tt := 6) hk rfl (j := 0) rfl Try.underlying59 rfl (by kernel_rfl))
   replace hk := FW.S.keep (I1 := [FW.blk b0 93 ([.lit (.slice xd0_0 (List.length v0.out) xc0_0)]), FW.orow xd0_0 xc0_0 55 1 c_s_ApiIns_cells v0.out]) (I2 := [FW.blk bx2 59 ((ApiIns.cells (⟨6, t1, [], [], (⟨[], [], []⟩ : ApiPred), [], false⟩ : ApiIns))), FW.blk bx1 29 ((ApiStep.cells v1))]) (js := [3, 3]) hk rfl
   exact FW.fretH1 hk rfl hr_0 ⟨xd0_0, xc0_0, rfl, rfl⟩
  refine wp_skip ?_
  (repeat first | refine FW.tn ?_ | refine FW.bn ?_); refine q5 _ _ ?_
  obtain ⟨hc1, h⟩ := FW.chk h
  obtain ⟨t2, hr_t2, h⟩ := FW.bnd h
  obtain ⟨hc2, h⟩ := FW.chk h
  obtain ⟨t3, hr_t3, h⟩ := FW.bnd h
  refine FW.wdrawE (.next [true, true, true, true, true, true, true, true, true, true, false] 10 [true, true, true, true, true, true, true, true, true, true, false] (.leaf [false, false, false, false, false, false, false, false, false, false, false])) [(21, [], .lit (.pointer (some ⟨bx1, 1, none⟩))), (22, [], .row (r_ApiArg_cells v1.Args)), (23, [], .row (r_ApiArg_cells (List.take (Int.toNat 1 - Int.toNat 0) (List.drop (Int.toNat 0) v1.Args)))), (24, [], .row (r_c_str t2)), (25, [], .lit (.pointer (some ⟨bx1, 1, none⟩))), (26, [], .row (r_ApiArg_cells v1.Args)), (27, [], .ref (ApiArg.cells (List.getD v1.Args (Int.toNat 1) default))), (28, [], .agg ((ApiArg.cells (List.getD v1.Args (Int.toNat 1) default)))), (29, [], .agg ((ApiPred.cells t3))), (30, [], .agg ((ApiIns.cells (⟨7, t2, [], [], t3, [], false⟩ : ApiIns)))), (138, [], .lit undef)] (by kernel_rfl) (by kernel_rfl) (by kernel_rfl) (by kernel_rfl) hk ?_; clear hk
  refine FW.gnext0 ?_ rfl rfl rfl ?_
  ·skip
   refine FW.gfun (y := .lit (.pointer (some ⟨bx1, 1, none⟩))) rfl rfl rfl rfl (fun a w hk => FW.f_fieldPtr hk FW.h0 rfl Try.underlying29 rfl (by kernel_rfl) rfl) ?_
   refine FW.gfun (y := .row (r_ApiArg_cells v1.Args)) rfl rfl rfl rfl (fun a w hk => FW.f_loadBlk1 hk FW.h0 (j := 1) rfl rfl Try.underlying27 rfl rfl) ?_
   refine FW.gfun (y := .row (r_ApiArg_cells (List.take (Int.toNat 1 - Int.toNat 0) (List.drop (Int.toNat 0) v1.Args)))) rfl rfl rfl rfl (fun a w hk => FW.f_part (R := r_ApiArg_cells) (f := ApiArg.cells) (l := v1.Args) (sz := 11) r_ApiArg_cells_eq (fun _ => rfl) hk FW.h0 rfl Try.underlying27 (by kernel_rfl) rfl rfl hc1) ?_
   refine FW.gfun (y := .row (r_c_str t2)) rfl rfl rfl rfl (fun a w hk => FW.f_call hk FW.h0 rfl rfl Try.func102 rfl (by kernel_rfl) (code_names.ok K (List.take (Int.toNat 1 - Int.toNat 0) (List.drop (Int.toNat 0) v1.Args)) _ hr_t2)) ?_
   refine FW.gfun (y := .lit (.pointer (some ⟨bx1, 1, none⟩))) rfl rfl rfl rfl (fun a w hk => FW.f_fieldPtr hk FW.h0 rfl Try.underlying29 rfl (by kernel_rfl) rfl) ?_
   refine FW.gfun (y := .row (r_ApiArg_cells v1.Args)) rfl rfl rfl rfl (fun a w hk => FW.f_loadBlk1 hk FW.h0 (j := 1) rfl rfl Try.underlying27 rfl rfl) ?_
   refine FW.gfun (y := .ref (ApiArg.cells (List.getD v1.Args (Int.toNat 1) default))) rfl rfl rfl rfl (fun a w hk => FW.f_indexAddr (R := r_ApiArg_cells) (f := ApiArg.cells) (l := v1.Args) (sz := 11) r_ApiArg_cells_eq (fun _ => rfl) hk FW.h0 rfl rfl Try.underlying27 (by kernel_rfl) hc2) ?_
   refine FW.gfun (y := .agg ((ApiArg.cells (List.getD v1.Args (Int.toNat 1) default)))) rfl rfl rfl rfl (fun a w hk => FW.f_load hk FW.h0 rfl Try.underlying38 rfl rfl rfl rfl) ?_
   refine FW.gfun (y := .agg ((ApiPred.cells t3))) rfl rfl rfl rfl (fun a w hk => FW.f_call hk FW.h0 rfl rfl Try.func130 rfl (by kernel_rfl) (code_pred.ok K (List.getD v1.Args (Int.toNat 1) default) _ hr_t3)) ?_
   refine FW.gfun (y := .agg ((ApiIns.cells (⟨7, t2, [], [], t3, [], false⟩ : ApiIns)))) rfl rfl rfl rfl (fun a w hk => FW.f_buildN [] hk FW.h0 rfl rfl rfl) ?_
   refine FW.gskip0 rfl ?_
   exact FW.gend
  ·skip
   intro σD a w opsD QD hk hQ hX
   refine FW.st0 (cs' := (ApiIns.cells (⟨7, t2, [], [], t3, [], false⟩ : ApiIns))) hk rfl (by kernel_rfl) fun w hk => ?_
   refine hQ _ a w ?_ hk; clear hk hQ hX
   refine ⟨[(21, [], .lit (.pointer (some ⟨bx1, 1, none⟩))), (22, [], .row (r_ApiArg_cells v1.Args)), (23, [], .row (r_ApiArg_cells (List.take (Int.toNat 1 - Int.toNat 0) (List.drop (Int.toNat 0) v1.Args)))), (24, [], .row (r_c_str t2)), (25, [], .lit (.pointer (some ⟨bx1, 1, none⟩))), (26, [], .row (r_ApiArg_cells v1.Args)), (27, [], .ref (ApiArg.cells (List.getD v1.Args (Int.toNat 1) default))), (28, [], .agg ((ApiArg.cells (List.getD v1.Args (Int.toNat 1) default)))), (29, [], .agg ((ApiPred.cells t3))), (30, [], .agg ((ApiIns.cells (⟨7, t2, [], [], t3, [], false⟩ : ApiIns)))), (138, [], .lit undef)], And.intro rfl (And.intro rfl (And.intro rfl (And.intro rfl (And.intro rfl (And.intro rfl (And.intro rfl (And.intro rfl (And.intro rfl (And.intro rfl (trivial)))))))))), rfl, ?_⟩
   refine FW.glast ?_ ?_
   ·skip
    refine FW.gskip rfl rfl ?_
    refine FW.gskip rfl rfl ?_
    refine FW.gskip rfl rfl ?_
    refine FW.gskip rfl rfl ?_
    refine FW.gskip rfl rfl ?_
    refine FW.gskip rfl rfl ?_
    refine FW.gskip rfl rfl ?_
    refine FW.gskip rfl rfl ?_
    refine FW.gskip rfl rfl ?_
    refine FW.gskip rfl rfl ?_
    refine FW.gskip0 rfl ?_
    exact FW.gend
   ·skip
    intro a w hk; simp only [FW.stD, cond_true] at hk
    refine wp_ret ?_
    (repeat first | refine FW.then_ret ?_ | refine FW.block_ret ?_)
    obtain rfl := Option.some.inj h
    have hr_0 := FW.rres_keep (I1 := [FW.blk b0 93 ([.lit (.slice xd0_0 (List.length v0.out) xc0_0)]), FW.orow xd0_0 xc0_0 55 1 c_s_ApiIns_cells v0.out]) (I2 := [FW.blk bx2 59 ((ApiIns.cells (⟨7, t2, [], [], t3, [], false⟩ : ApiIns))), FW.blk bx1 29 ((ApiStep.cells v1))]) (js := [3, 3]) rfl (FW.rcell (tt := 6) hk rfl (j := 0) rfl Try.underlying59 rfl (by kernel_rfl))
    replace hk := FW.S.keep (I1 := [FW.blk b0 93 ([.lit (.slice xd0_0 (List.length v0.out) xc0_0)]), FW.orow xd0_0 xc0_0 55 1 c_s_ApiIns_cells v0.out]) (I2 := [FW.blk bx2 59 ((ApiIns.cells (⟨7, t2, [], [], t3, [], false⟩ : ApiIns))), FW.blk bx1 29 ((ApiStep.cells v1))]) (js := [3, 3]) hk rfl
    exact FW.fretH1 hk rfl hr_0 ⟨xd0_0, xc0_0, rfl, rfl⟩
 refine FW.wreg fun _ q9 => ?_
 refine FW.sSe hk fun a w hk => ?_
 refine FW.sA hk fun a w hk => ?_
 refine FW.lend (q9 _ _ ?_)
 refine FW.wcondF (b := (decide (v1.Name = ([105, 115] : List UInt8)))) hk h rfl (fun h hb => ?_) (fun h hb => ?_)
 ·skip
  refine FW.wreg fun _ q10 => ?_
  refine FW.sFp 1 hk Try.underlying29 fun a w hk => ?_
  refine FW.lf (y := .row (r_ApiArg_cells v1.Args)) hk (FW.f_loadBlk1 hk FW.h0 (j := 1) rfl rfl Try.underlying27 rfl rfl) fun a w hk => ?_
  obtain ⟨hc3, h⟩ := FW.chk h
  refine FW.lf (y := .ref (ApiArg.cells (List.getD v1.Args (Int.toNat 0) default))) hk (FW.f_indexAddr (R := r_ApiArg_cells) (f := ApiArg.cells) (l := v1.Args) (sz := 11) r_ApiArg_cells_eq (fun _ => rfl) hk FW.h0 rfl rfl Try.underlying27 (by kernel_rfl) hc3) fun a w hk => ?_
  refine FW.lf (y := .agg ((ApiArg.cells (List.getD v1.Args (Int.toNat 0) default)))) hk (FW.f_load hk FW.h0 rfl Try.underlying38 rfl rfl rfl rfl) fun a w hk => ?_
  obtain ⟨t4, hr_t4, h⟩ := FW.bnd h
  refine FW.lf (y := .agg ((ApiPred.cells t4))) hk (FW.f_call hk FW.h0 rfl rfl Try.func130 rfl (by kernel_rfl) (code_pred.ok K (List.getD v1.Args (Int.toNat 0) default) _ hr_t4)) fun a w hk => ?_
  refine FW.lf (y := .agg ((ApiIns.cells (⟨11, [], [], [], t4, [], false⟩ : ApiIns)))) hk (FW.f_buildN [] hk FW.h0 rfl rfl rfl) fun a w hk => ?_
  refine FW.st0 (cs' := (ApiIns.cells (⟨11, [], [], [], t4, [], false⟩ : ApiIns))) hk rfl (by kernel_rfl) fun w hk => ?_
  refine FW.lend (q10 _ _ ?_)
  refine wp_ret ?_
  (repeat first | refine FW.then_ret ?_ | refine FW.block_ret ?_)
  obtain rfl := Option.some.inj h
  have hr_0 := FW.rres_keep (I1 := [FW.blk b0 93 ([.lit (.slice xd0_0 (List.length v0.out) xc0_0)]), FW.orow xd0_0 xc0_0 55 1 c_s_ApiIns_cells v0.out]) (I2 := [FW.blk bx2 59 ((ApiIns.cells (⟨11, [], [], [], t4, [], false⟩ : ApiIns))), FW.blk bx1 29 ((ApiStep.cells v1))]) (js := [3, 3]) rfl (FW.rcell (tt := 6) hk rfl (j := 0) rfl Try.underlying59 rfl (by kernel_rfl))
  replace hk := FW.S.keep (I1 := [FW.blk b0 93 ([.lit (.slice xd0_0 (List.length v0.out) xc0_0)]), FW.orow xd0_0 xc0_0 55 1 c_s_ApiIns_cells v0.out]) (I2 := [FW.blk bx2 59 ((ApiIns.cells (⟨11, [], [], [], t4, [], false⟩ : ApiIns))), FW.blk bx1 29 ((ApiStep.cells v1))]) (js := [3, 3]) hk rfl
  exact FW.fretH1 hk rfl hr_0 ⟨xd0_0, xc0_0, rfl, rfl⟩
 refine FW.wreg fun _ q11 => ?_
 refine FW.sSe hk fun a w hk => ?_
 refine FW.sA hk fun a w hk => ?_
 refine FW.lend (q11 _ _ ?_)
 refine FW.wcondF (b := (decide (v1.Name = ([108, 105, 109, 105, 116] : List UInt8)))) hk h rfl (fun h hb => ?_) (fun h hb => ?_)
 ·skip
  refine FW.wreg fun _ q12 => ?_
  refine FW.sFp 1 hk Try.underlying29 fun a w hk => ?_
  refine FW.lf (y := .row (r_ApiArg_cells v1.Args)) hk (FW.f_loadBlk1 hk FW.h0 (j := 1) rfl rfl Try.underlying27 rfl rfl) fun a w hk => ?_
  obtain ⟨hc4, h⟩ := FW.chk h
  refine FW.lf (y := .ref (ApiArg.cells (List.getD v1.Args (Int.toNat 0) default))) hk (FW.f_indexAddr (R := r_ApiArg_cells) (f := ApiArg.cells) (l := v1.Args) (sz := 11) r_ApiArg_cells_eq (fun _ => rfl) hk FW.h0 rfl rfl Try.underlying27 (by kernel_rfl) hc4) fun a w hk => ?_
  refine FW.lf (y := .ref (List.drop 1 (ApiArg.cells (List.getD v1.Args (Int.toNat 0) default)))) hk (FW.f_fieldAddr hk FW.h0 rfl Try.underlying38 rfl (by kernel_rfl) rfl) fun a w hk => ?_
  refine FW.lf (y := .ref (List.drop 2 (List.drop 1 (ApiArg.cells (List.getD v1.Args (Int.toNat 0) default))))) hk (FW.f_fieldAddr hk FW.h0 rfl Try.underlying33 rfl (by kernel_rfl) rfl) fun a w hk => ?_
  refine FW.lf (y := .lit (.int .i64 (((List.getD v1.Args (Int.toNat 0) default).V).N))) hk (FW.f_load1 hk FW.h0 rfl rfl Try.underlying2 rfl) fun a w hk => ?_
  refine FW.l_buildSlice (f := c_i64) (l := ([0, ((List.getD v1.Args (Int.toNat 0) default).V).N] : List Int)) hk rfl rfl rfl Try.underlying57 rfl rfl rfl rfl (fun _ => rfl) rfl ?_; clear hk; intro bx3 a w hk
  replace hk := (FW.S.freezeR (I' := [FW.blk bx2 59 ((ApiIns.cells (⟨0, [], [], [], (⟨[], [], []⟩ : ApiPred), [], false⟩ : ApiIns))), FW.blk bx1 29 ((ApiStep.cells v1)), FW.blk b0 93 ([.lit (.slice xd0_0 (List.length v0.out) xc0_0)]), FW.orow xd0_0 xc0_0 55 1 c_s_ApiIns_cells v0.out]) r_c_i64_eq hk (j := 0) rfl (t := 47) rfl rfl).squash
  refine FW.lf (y := .agg ((ApiIns.cells (⟨17, [], ([0, ((List.getD v1.Args (Int.toNat 0) default).V).N] : List Int), [], (⟨[], [], []⟩ : ApiPred), [], false⟩ : ApiIns)))) hk (FW.f_buildN [] hk FW.h0 rfl rfl rfl) fun a w hk => ?_
  refine FW.st0 (cs' := (ApiIns.cells (⟨17, [], ([0, ((List.getD v1.Args (Int.toNat 0) default).V).N] : List Int), [], (⟨[], [], []⟩ : ApiPred), [], false⟩ : ApiIns))) hk rfl (by kernel_rfl) fun w hk => ?_
  refine FW.lend (q12 _ _ ?_)
  refine wp_ret ?_
  (repeat first | refine FW.then_ret ?_ | refine FW.block_ret ?_)
  obtain rfl := Option.some.inj h
  have hr_0 := FW.rres_keep (I1 := [FW.blk b0 93 ([.lit (.slice xd0_0 (List.length v0.out) xc0_0)]), FW.orow xd0_0 xc0_0 55 1 c_s_ApiIns_cells v0.out]) (I2 := [FW.blk bx2 59 ((ApiIns.cells (⟨17, [], ([0, ((List.getD v1.Args (Int.toNat 0) default).V).N] : List Int), [], (⟨[], [], []⟩ : ApiPred), [], false⟩ : ApiIns))), FW.blk bx1 29 ((ApiStep.cells v1))]) (js := [3, 3]) rfl (FW.rcell (tt := 6) hk rfl (j := 0) rfl Try.underlying59 rfl (by kernel_rfl))
  replace hk := FW.S.keep (I1 := [FW.blk b0 93 ([.lit (.slice xd0_0 (List.length v0.out) xc0_0)]), FW.orow xd0_0 xc0_0 55 1 c_s_ApiIns_cells v0.out]) (I2 := [FW.blk bx2 59 ((ApiIns.cells (⟨17, [], ([0, ((List.getD v1.Args (Int.toNat 0) default).V).N] : List Int), [], (⟨[], [], []⟩ : ApiPred), [], false⟩ : ApiIns))), FW.blk bx1 29 ((ApiStep.cells v1))]) (js := [3, 3]) hk rfl
  exact FW.fretH1 hk rfl hr_0 ⟨xd0_0, xc0_0, rfl, rfl⟩
 refine FW.wreg fun _ q13 => ?_
 refine FW.sSe hk fun a w hk => ?_
 refine FW.sA hk fun a w hk => ?_
 refine FW.lend (q13 _ _ ?_)
 refine FW.wcondF (b := (decide (v1.Name = ([115, 107, 105, 112] : List UInt8)))) hk h rfl (fun h hb => ?_) (fun h hb => ?_)
 ·skip
  refine FW.wreg fun _ q14 => ?_
  refine FW.sFp 1 hk Try.underlying29 fun a w hk => ?_
  refine FW.lf (y := .row (r_ApiArg_cells v1.Args)) hk (FW.f_loadBlk1 hk FW.h0 (j := 1) rfl rfl Try.underlying27 rfl rfl) fun a w hk => ?_
  obtain ⟨hc5, h⟩ := FW.chk h
  refine FW.lf (y := .ref (ApiArg.cells (List.getD v1.Args (Int.toNat 0) default))) hk (FW.f_indexAddr (R := r_ApiArg_cells) (f := ApiArg.cells) (l := v1.Args) (sz := 11) r_ApiArg_cells_eq (fun _ => rfl) hk FW.h0 rfl rfl Try.underlying27 (by kernel_rfl) hc5) fun a w hk => ?_
  refine FW.lf (y := .ref (List.drop 1 (ApiArg.cells (List.getD v1.Args (Int.toNat 0) default)))) hk (FW.f_fieldAddr hk FW.h0 rfl Try.underlying38 rfl (by kernel_rfl) rfl) fun a w hk => ?_
  refine FW.lf (y := .ref (List.drop 2 (List.drop 1 (ApiArg.cells (List.getD v1.Args (Int.toNat 0) default))))) hk (FW.f_fieldAddr hk FW.h0 rfl Try.underlying33 rfl (by kernel_rfl) rfl) fun a w hk => ?_
  refine FW.lf (y := .lit (.int .i64 (((List.getD v1.Args (Int.toNat 0) default).V).N))) hk (FW.f_load1 hk FW.h0 rfl rfl Try.underlying2 rfl) fun a w hk => ?_
  refine FW.l_buildSlice (f := c_i64) (l := ([((List.getD v1.Args (Int.toNat 0) default).V).N, (-1)] : List Int)) hk rfl rfl rfl Try.underlying57 rfl rfl rfl rfl (fun _ => rfl) rfl ?_; clear hk; intro bx4 a w hk
  replace hk := (FW.S.freezeR (I' := [FW.blk bx2 59 ((ApiIns.cells (⟨0, [], [], [], (⟨[], [], []⟩ : ApiPred), [], false⟩ : ApiIns))), FW.blk bx1 29 ((ApiStep.cells v1)), FW.blk b0 93 ([.lit (.slice xd0_0 (List.length v0.out) xc0_0)]), FW.orow xd0_0 xc0_0 55 1 c_s_ApiIns_cells v0.out]) r_c_i64_eq hk (j := 0) rfl (t := 57) rfl rfl).squash
  refine FW.lf (y := .agg ((ApiIns.cells (⟨17, [], ([((List.getD v1.Args (Int.toNat 0) default).V).N, (-1)] : List Int), [], (⟨[], [], []⟩ : ApiPred), [], false⟩ : ApiIns)))) hk (FW.f_buildN [] hk FW.h0 rfl rfl rfl) fun a w hk => ?_
  refine FW.st0 (cs' := (ApiIns.cells (⟨17, [], ([((List.getD v1.Args (Int.toNat 0) default).V).N, (-1)] : List Int), [], (⟨[], [], []⟩ : ApiPred), [], false⟩ : ApiIns))) hk rfl (by kernel_rfl) fun w hk => ?_
  refine FW.lend (q14 _ _ ?_)
  refine wp_ret ?_
  (repeat first | refine FW.then_ret ?_ | refine FW.block_ret ?_)
  obtain rfl := Option.some.inj h
  have hr_0 := FW.rres_keep (I1 := [FW.blk b0 93 ([.lit (.slice xd0_0 (List.length v0.out) xc0_0)]), FW.orow xd0_0 xc0_0 55 1 c_s_ApiIns_cells v0.out]) (I2 := [FW.blk bx2 59 ((ApiIns.cells (⟨17, [], ([((List.getD v1.Args (Int.toNat 0) default).V).N, (-1)] : List Int), [], (⟨[], [], []⟩ : ApiPred), [], false⟩ : ApiIns))), FW.blk bx1 29 ((ApiStep.cells v1))]) (js := [3, 3]) rfl (FW.rcell (tt := 6) hk rfl (j := 0) rfl Try.underlying59 rfl (by kernel_rfl))
  replace hk := FW.S.keep (I1 := [FW.blk b0 93 ([.lit (.slice xd0_0 (List.length v0.out) xc0_0)]), FW.orow xd0_0 xc0_0 55 1 c_s_ApiIns_cells v0.out]) (I2 := [FW.blk bx2 59 ((ApiIns.cells (⟨17, [], ([((List.getD v1.Args (Int.toNat 0) default).V).N, (-1)] : List Int), [], (⟨[], [], []⟩ : ApiPred), [], false⟩ : ApiIns))), FW.blk bx1 29 ((ApiStep.cells v1))]) (js := [3, 3]) hk rfl
  exact FW.fretH1 hk rfl hr_0 ⟨xd0_0, xc0_0, rfl, rfl⟩
 refine FW.wreg fun _ q15 => ?_
 refine FW.sSe hk fun a w hk => ?_
 refine FW.sA hk fun a w hk => ?_
 refine FW.lend (q15 _ _ ?_)
 refine FW.wcondF (b := (decide (v1.Name = ([114, 97, 110, 103, 101] : List UInt8)))) hk h rfl (fun h hb => ?_) (fun h hb => ?_)
 ·skip
  refine FW.wreg fun _ q16 => ?_
  refine FW.sFp 1 hk Try.underlying29 fun a w hk => ?_
  refine FW.lf (y := .row (r_ApiArg_cells v1.Args)) hk (FW.f_loadBlk1 hk FW.h0 (j := 1) rfl rfl Try.underlying27 rfl rfl) fun a w hk => ?_
  obtain ⟨t5, hr_t5, h⟩ := FW.bnd h
  refine FW.lf (y := .row (r_c_i64 t5)) hk (FW.f_call hk FW.h0 rfl rfl Try.func100 rfl (by kernel_rfl) (code_numbers.ok K v1.Args _ hr_t5)) fun a w hk => ?_
  refine FW.lf (y := .agg ((ApiIns.cells (⟨17, [], t5, [], (⟨[], [], []⟩ : ApiPred), [], false⟩ : ApiIns)))) hk (FW.f_buildN [] hk FW.h0 rfl rfl rfl) fun a w hk => ?_
  refine FW.st0 (cs' := (ApiIns.cells (⟨17, [], t5, [], (⟨[], [], []⟩ : ApiPred), [], false⟩ : ApiIns))) hk rfl (by kernel_rfl) fun w hk => ?_
  refine FW.lend (q16 _ _ ?_)
  refine wp_ret ?_
  (repeat first | refine FW.then_ret ?_ | refine FW.block_ret ?_)
  obtain rfl := Option.some.inj h
  have hr_0 := FW.rres_keep (I1 := [FW.blk b0 93 ([.lit (.slice xd0_0 (List.length v0.out) xc0_0)]), FW.orow xd0_0 xc0_0 55 1 c_s_ApiIns_cells v0.out]) (I2 := [FW.blk bx2 59 ((ApiIns.cells (⟨17, [], t5, [], (⟨[], [], []⟩ : ApiPred), [], false⟩ : ApiIns))), FW.blk bx1 29 ((ApiStep.cells v1))]) (js := [3, 3]) rfl (FW.rcell (tt := 6) hk rfl (j := 0) rfl Try.underlying59 rfl (by kernel_rfl))
  replace hk := FW.S.keep (I1 := [FW.blk b0 93 ([.lit (.slice xd0_0 (List.length v0.out) xc0_0)]), FW.orow xd0_0 xc0_0 55 1 c_s_ApiIns_cells v0.out]) (I2 := [FW.blk bx2 59 ((ApiIns.cells (⟨17, [], t5, [], (⟨[], [], []⟩ : ApiPred), [], false⟩ : ApiIns))), FW.blk bx1 29 ((ApiStep.cells v1))]) (js := [3, 3]) hk rfl
  exact FW.fretH1 hk rfl hr_0 ⟨xd0_0, xc0_0, rfl, rfl⟩
 refine FW.wreg fun _ q17 => ?_
 refine FW.sSe hk fun a w hk => ?_
 refine FW.sA hk fun a w hk => ?_
 refine FW.lend (q17 _ _ ?_)
 refine FW.wcondF (b := (decide (v1.Name = ([111, 117, 116, 86] : List UInt8)))) hk h rfl (fun h hb => ?_) (fun h hb => ?_)
 ·skip
  refine FW.wreg fun _ q18 => ?_
  refine FW.l_buildSlice (f := c_i64) (l := ([1] : List Int)) hk rfl rfl rfl Try.underlying57 rfl rfl rfl rfl (fun _ => rfl) rfl ?_; clear hk; intro bx5 a w hk
  replace hk := (FW.S.freezeR (I' := [FW.blk bx2 59 ((ApiIns.cells (⟨0, [], [], [], (⟨[], [], []⟩ : ApiPred), [], false⟩ : ApiIns))), FW.blk bx1 29 ((ApiStep.cells v1)), FW.blk b0 93 ([.lit (.slice xd0_0 (List.length v0.out) xc0_0)]), FW.orow xd0_0 xc0_0 55 1 c_s_ApiIns_cells v0.out]) r_c_i64_eq hk (j := 0) rfl (t := 67) rfl rfl).squash
  refine FW.lf (y := .agg ((ApiIns.cells (⟨21, [], ([1] : List Int), [], (⟨[], [], []⟩ : ApiPred), [], false⟩ : ApiIns)))) hk (FW.f_buildN [] hk FW.h0 rfl rfl rfl) fun a w hk => ?_
  refine FW.st0 (cs' := (ApiIns.cells (⟨21, [], ([1] : List Int), [], (⟨[], [], []⟩ : ApiPred), [], false⟩ : ApiIns))) hk rfl (by kernel_rfl) fun w hk => ?_
  refine FW.lend (q18 _ _ ?_)
  refine wp_ret ?_
  (repeat first | refine FW.then_ret ?_ | refine FW.block_ret ?_)
  obtain rfl := Option.some.inj h
  have hr_0 := FW.rres_keep (I1 := [FW.blk b0 93 ([.lit (.slice xd0_0 (List.length v0.out) xc0_0)]), FW.orow xd0_0 xc0_0 55 1 c_s_ApiIns_cells v0.out]) (I2 := [FW.blk bx2 59 ((ApiIns.cells (⟨21, [], ([1] : List Int), [], (⟨[], [], []⟩ : ApiPred), [], false⟩ : ApiIns))), FW.blk bx1 29 ((ApiStep.cells v1))]) (js := [3, 3]) rfl (FW.rcell (tt := 6) hk rfl (j := 0) rfl Try.underlying59 rfl (by kernel_rfl))
  replace hk := FW.S.keep (I1 := [FW.blk b0 93 ([.lit (.slice xd0_0 (List.length v0.out) xc0_0)]), FW.orow xd0_0 xc0_0 55 1 c_s_ApiIns_cells v0.out]) (I2 := [FW.blk bx2 59 ((ApiIns.cells (⟨21, [], ([1] : List Int), [], (⟨[], [], []⟩ : ApiPred), [], false⟩ : ApiIns))), FW.blk bx1 29 ((ApiStep.cells v1))]) (js := [3, 3]) hk rfl
  exact FW.fretH1 hk rfl hr_0 ⟨xd0_0, xc0_0, rfl, rfl⟩
 refine FW.wreg fun _ q19 => ?_
 refine FW.sSe hk fun a w hk => ?_
 refine FW.sA hk fun a w hk => ?_
 refine FW.lend (q19 _ _ ?_)
 refine FW.wcondF (b := (decide (v1.Name = ([105, 110, 86] : List UInt8)))) hk h rfl (fun h hb => ?_) (fun h hb => ?_)
 ·skip
  refine FW.wreg fun _ q20 => ?_
  refine FW.l_buildSlice (f := c_i64) (l := ([2] : List Int)) hk rfl rfl rfl Try.underlying57 rfl rfl rfl rfl (fun _ => rfl) rfl ?_; clear hk; intro bx6 a w hk
  replace hk := (FW.S.freezeR (I' := [FW.blk bx2 59 ((ApiIns.cells (⟨0, [], [], [], (⟨[], [], []⟩ : ApiPred), [], false⟩ : ApiIns))), FW.blk bx1 29 ((ApiStep.cells v1)), FW.blk b0 93 ([.lit (.slice xd0_0 (List.length v0.out) xc0_0)]), FW.orow xd0_0 xc0_0 55 1 c_s_ApiIns_cells v0.out]) r_c_i64_eq hk (j := 0) rfl (t := 71) rfl rfl).squash
  refine FW.lf (y := .agg ((ApiIns.cells (⟨21, [], ([2] : List Int), [], (⟨[], [], []⟩ : ApiPred), [], false⟩ : ApiIns)))) hk (FW.f_buildN [] hk FW.h0 rfl rfl rfl) fun a w hk => ?_
  refine FW.st0 (cs' := (ApiIns.cells (⟨21, [], ([2] : List Int), [], (⟨[], [], []⟩ : ApiPred), [], false⟩ : ApiIns))) hk rfl (by kernel_rfl) fun w hk => ?_
  refine FW.lend (q20 _ _ ?_)
  refine wp_ret ?_
  (repeat first | refine FW.then_ret ?_ | refine FW.block_ret ?_)
  obtain rfl := Option.some.inj h
  have hr_0 := FW.rres_keep (I1 := [FW.blk b0 93 ([.lit (.slice xd0_0 (List.length v0.out) xc0_0)]), FW.orow xd0_0 xc0_0 55 1 c_s_ApiIns_cells v0.out]) (I2 := [FW.blk bx2 59 ((ApiIns.cells (⟨21, [], ([2] : List Int), [], (⟨[], [], []⟩ : ApiPred), [], false⟩ : ApiIns))), FW.blk bx1 29 ((ApiStep.cells v1))]) (js := [3, 3]) rfl (FW.rcell (tt := 6) hk rfl (j := 0) rfl Try.underlying59 rfl (by kernel_rfl))
  replace hk := FW.S.keep (I1 := [FW.blk b0 93 ([.lit (.slice xd0_0 (List.length v0.out) xc0_0)]), FW.orow xd0_0 xc0_0 55 1 c_s_ApiIns_cells v0.out]) (I2 := [FW.blk bx2 59 ((ApiIns.cells (⟨21, [], ([2] : List Int), [], (⟨[], [], []⟩ : ApiPred), [], false⟩ : ApiIns))), FW.blk bx1 29 ((ApiStep.cells v1))]) (js := [3, 3]) hk rfl
  exact FW.fretH1 hk rfl hr_0 ⟨xd0_0, xc0_0, rfl, rfl⟩
 refine FW.wreg fun _ q21 => ?_
 refine FW.sSe hk fun a w hk => ?_
 refine FW.sA hk fun a w hk => ?_
 refine FW.lend (q21 _ _ ?_)
 refine FW.wcondF (b := (decide (v1.Name = ([98, 111, 116, 104, 86] : List UInt8)))) hk h rfl (fun h hb => ?_) (fun h hb => ?_)
 ·skip
  refine FW.wreg fun _ q22 => ?_
  refine FW.l_buildSlice (f := c_i64) (l := ([3] : List Int)) hk rfl rfl rfl Try.underlying57 rfl rfl rfl rfl (fun _ => rfl) rfl ?_; clear hk; intro bx7 a w hk
  replace hk := (FW.S.freezeR (I' := [FW.blk bx2 59 ((ApiIns.cells (⟨0, [], [], [], (⟨[], [], []⟩ : ApiPred), [], false⟩ : ApiIns))), FW.blk bx1 29 ((ApiStep.cells v1)), FW.blk b0 93 ([.lit (.slice xd0_0 (List.length v0.out) xc0_0)]), FW.orow xd0_0 xc0_0 55 1 c_s_ApiIns_cells v0.out]) r_c_i64_eq hk (j := 0) rfl (t := 75) rfl rfl).squash
  refine FW.lf (y := .agg ((ApiIns.cells (⟨21, [], ([3] : List Int), [], (⟨[], [], []⟩ : ApiPred), [], false⟩ : ApiIns)))) hk (FW.f_buildN [] hk FW.h0 rfl rfl rfl) fun a w hk => ?_
  refine FW.st0 (cs' := (ApiIns.cells (⟨21, [], ([3] : List Int), [], (⟨[], [], []⟩ : ApiPred), [], false⟩ : ApiIns))) hk rfl (by kernel_rfl) fun w hk => ?_
  refine FW.lend (q22 _ _ ?_)
  refine wp_ret ?_
  (repeat first | refine FW.then_ret ?_ | refine FW.block_ret ?_)
  obtain rfl := Option.some.inj h
  have hr_0 := FW.rres_keep (I1 := [FW.blk b0 93 ([.lit (.slice xd0_0 (List.length v0.out) xc0_0)]), FW.orow xd0_0 xc0_0 55 1 c_s_ApiIns_cells v0.out]) (I2 := [FW.blk bx2 59 ((ApiIns.cells (⟨21, [], ([3] : List Int), [], (⟨[], [], []⟩ : ApiPred), [], false⟩ : ApiIns))), FW.blk bx1 29 ((ApiStep.cells v1))]) (js := [3, 3]) rfl (FW.rcell (tt := 6) hk rfl (j := 0) rfl Try.underlying59 rfl (by kernel_rfl))
  replace hk := FW.S.keep (I1 := [FW.blk b0 93 ([.lit (.slice xd0_0 (List.length v0.out) xc0_0)]), FW.orow xd0_0 xc0_0 55 1 c_s_ApiIns_cells v0.out]) (I2 := [FW.blk bx2 59 ((ApiIns.cells (⟨21, [], ([3] : List Int), [], (⟨[], [], []⟩ : ApiPred), [], false⟩ : ApiIns))), FW.blk bx1 29 ((ApiStep.cells v1))]) (js := [3, 3]) hk rfl
  exact FW.fretH1 hk rfl hr_0 ⟨xd0_0, xc0_0, rfl, rfl⟩
 refine FW.wreg fun _ q23 => ?_
 refine FW.sSe hk fun a w hk => ?_
 refine FW.sA hk fun a w hk => ?_
 refine FW.lend (q23 _ _ ?_)
 refine FW.wcondF (b := (decide (v1.Name = ([100, 101, 100, 117, 112] : List UInt8)))) hk h rfl (fun h hb => ?_) (fun h hb => ?_)
 ·skip
  refine FW.wreg fun _ q24 => ?_
  refine FW.sM hk fun a w hk => ?_
  refine FW.sM hk fun a w hk => ?_
  obtain ⟨t6, hr_t6, h⟩ := FW.bnd h
  refine FW.l_callH (I1 := (OCM.items b0 xd0_0 xc0_0 v0)) (I2 := [FW.blk bx2 59 ((ApiIns.cells (⟨0, [], [], [], (⟨[], [], []⟩ : ApiPred), [], false⟩ : ApiIns))), FW.blk bx1 29 ((ApiStep.cells v1))]) (js := [3, 3]) hk rfl rfl rfl rfl rfl Try.func131 rfl (by kernel_rfl) (hzY v0 v2 1 _ hr_t6 b0 xd0_0 xc0_0) ?_; clear hk
  rintro _ _ ⟨zd1, zc1, rfl, rfl⟩ a w hk
  refine FW.lf (y := .agg ((ApiIns.cells (⟨16, [], [], [], (⟨[], [], []⟩ : ApiPred), t6.1, false⟩ : ApiIns)))) hk (FW.f_buildN [] hk FW.h0 rfl rfl rfl) fun a w hk => ?_
  refine FW.st2 (cs' := (ApiIns.cells (⟨16, [], [], [], (⟨[], [], []⟩ : ApiPred), t6.1, false⟩ : ApiIns))) hk rfl (by kernel_rfl) fun w hk => ?_
  refine FW.lend (q24 _ _ ?_)
  refine wp_ret ?_
  (repeat first | refine FW.then_ret ?_ | refine FW.block_ret ?_)
  obtain rfl := Option.some.inj h
  have hr_0 := FW.rres_keep (I1 := [FW.blk b0 93 ([.lit (.slice zd1 (List.length t6.2.out) zc1)]), FW.orow zd1 zc1 55 1 c_s_ApiIns_cells t6.2.out]) (I2 := [FW.blk bx2 59 ((ApiIns.cells (⟨16, [], [], [], (⟨[], [], []⟩ : ApiPred), t6.1, false⟩ : ApiIns))), FW.blk bx1 29 ((ApiStep.cells v1))]) (js := [1, 1]) rfl (FW.rcell (tt := 6) hk rfl (j := 2) rfl Try.underlying59 rfl (by kernel_rfl))
  replace hk := FW.S.keep (I1 := [FW.blk b0 93 ([.lit (.slice zd1 (List.length t6.2.out) zc1)]), FW.orow zd1 zc1 55 1 c_s_ApiIns_cells t6.2.out]) (I2 := [FW.blk bx2 59 ((ApiIns.cells (⟨16, [], [], [], (⟨[], [], []⟩ : ApiPred), t6.1, false⟩ : ApiIns))), FW.blk bx1 29 ((ApiStep.cells v1))]) (js := [1, 1]) hk rfl
  exact FW.fretH1 hk rfl hr_0 ⟨zd1, zc1, rfl, rfl⟩
 refine FW.wreg fun _ q25 => ?_
 refine FW.sSe hk fun a w hk => ?_
 refine FW.sA hk fun a w hk => ?_
 refine FW.lend (q25 _ _ ?_)
 refine FW.wcondF (b := (decide (v1.Name = ([103, 114, 111, 117, 112] : List UInt8)))) hk h rfl (fun h hb => ?_) (fun h hb => ?_)
 ·skip
  refine FW.wreg fun _ q26 => ?_
  refine FW.sM hk fun a w hk => ?_
  refine FW.sM hk fun a w hk => ?_
  obtain ⟨t7, hr_t7, h⟩ := FW.bnd h
  refine FW.l_callH (I1 := (OCM.items b0 xd0_0 xc0_0 v0)) (I2 := [FW.blk bx2 59 ((ApiIns.cells (⟨0, [], [], [], (⟨[], [], []⟩ : ApiPred), [], false⟩ : ApiIns))), FW.blk bx1 29 ((ApiStep.cells v1))]) (js := [3, 3]) hk rfl rfl rfl rfl rfl Try.func131 rfl (by kernel_rfl) (hzY v0 v2 2 _ hr_t7 b0 xd0_0 xc0_0) ?_; clear hk
  rintro _ _ ⟨zd2, zc2, rfl, rfl⟩ a w hk
  refine FW.lf (y := .agg ((ApiIns.cells (⟨34, [], [], [], (⟨[], [], []⟩ : ApiPred), t7.1, false⟩ : ApiIns)))) hk (FW.f_buildN [] hk FW.h0 rfl rfl rfl) fun a w hk => ?_
  refine FW.st2 (cs' := (ApiIns.cells (⟨34, [], [], [], (⟨[], [], []⟩ : ApiPred), t7.1, false⟩ : ApiIns))) hk rfl (by kernel_rfl) fun w hk => ?_
  refine FW.lend (q26 _ _ ?_)
  refine wp_ret ?_
  (repeat first | refine FW.then_ret ?_ | refine FW.block_ret ?_)
  obtain rfl := Option.some.inj h
  have hr_0 := FW.rres_keep (I1 := [FW.blk b0 93 ([.lit (.slice zd2 (List.length t7.2.out) zc2)]), FW.orow zd2 zc2 55 1 c_s_ApiIns_cells t7.2.out]) (I2 := [FW.blk bx2 59 ((ApiIns.cells (⟨34, [], [], [], (⟨[], [], []⟩ : ApiPred), t7.1, false⟩ : ApiIns))), FW.blk bx1 29 ((ApiStep.cells v1))]) (js := [1, 1]) rfl (FW.rcell (tt := 6) hk rfl (j := 2) rfl Try.underlying59 rfl (by kernel_rfl))
  replace hk := FW.S.keep (I1 := [FW.blk b0 93 ([.lit (.slice zd2 (List.length t7.2.out) zc2)]), FW.orow zd2 zc2 55 1 c_s_ApiIns_cells t7.2.out]) (I2 := [FW.blk bx2 59 ((ApiIns.cells (⟨34, [], [], [], (⟨[], [], []⟩ : ApiPred), t7.1, false⟩ : ApiIns))), FW.blk bx1 29 ((ApiStep.cells v1))]) (js := [1, 1]) hk rfl
  exact FW.fretH1 hk rfl hr_0 ⟨zd2, zc2, rfl, rfl⟩
 refine FW.wreg fun _ q27 => ?_
 refine FW.sSe hk fun a w hk => ?_
 refine FW.sA hk fun a w hk => ?_
 refine FW.lend (q27 _ _ ?_)
 refine FW.wcondF (b := (decide (v1.Name = ([103, 114, 111, 117, 112, 67, 111, 117, 110, 116] : List UInt8)))) hk h rfl (fun h hb => ?_) (fun h hb => ?_)
 ·skip
  refine FW.wreg fun _ q28 => ?_
  refine FW.sM hk fun a w hk => ?_
  refine FW.sM hk fun a w hk => ?_
  obtain ⟨t8, hr_t8, h⟩ := FW.bnd h
  refine FW.l_callH (I1 := (OCM.items b0 xd0_0 xc0_0 v0)) (I2 := [FW.blk bx2 59 ((ApiIns.cells (⟨0, [], [], [], (⟨[], [], []⟩ : ApiPred), [], false⟩ : ApiIns))), FW.blk bx1 29 ((ApiStep.cells v1))]) (js := [3, 3]) hk rfl rfl rfl rfl rfl Try.func131 rfl (by kernel_rfl) (hzY v0 v2 1 _ hr_t8 b0 xd0_0 xc0_0) ?_; clear hk
  rintro _ _ ⟨zd3, zc3, rfl, rfl⟩ a w hk
  refine FW.lf (y := .agg ((ApiIns.cells (⟨35, [], [], [], (⟨[], [], []⟩ : ApiPred), t8.1, false⟩ : ApiIns)))) hk (FW.f_buildN [] hk FW.h0 rfl rfl rfl) fun a w hk => ?_
  refine FW.st2 (cs' := (ApiIns.cells (⟨35, [], [], [], (⟨[], [], []⟩ : ApiPred), t8.1, false⟩ : ApiIns))) hk rfl (by kernel_rfl) fun w hk => ?_
  refine FW.lend (q28 _ _ ?_)
  refine wp_ret ?_
  (repeat first | refine FW.then_ret ?_ | refine FW.block_ret ?_)
  obtain rfl := Option.some.inj h
  have hr_0 := FW.rres_keep (I1 := [FW.blk b0 93 ([.lit (.slice zd3 (List.length t8.2.out) zc3)]), FW.orow zd3 zc3 55 1 c_s_ApiIns_cells t8.2.out]) (I2 := [FW.blk bx2 59 ((ApiIns.cells (⟨35, [], [], [], (⟨[], [], []⟩ : ApiPred), t8.1, false⟩ : ApiIns))), FW.blk bx1 29 ((ApiStep.cells v1))]) (js := [1, 1]) rfl (FW.rcell (tt := 6) hk rfl (j := 2) rfl Try.underlying59 rfl (by kernel_rfl))
  replace hk := FW.S.keep (I1 := [FW.blk b0 93 ([.lit (.slice zd3 (List.length t8.2.out) zc3)]), FW.orow zd3 zc3 55 1 c_s_ApiIns_cells t8.2.out]) (I2 := [FW.blk bx2 59 ((ApiIns.cells (⟨35, [], [], [], (⟨[], [], []⟩ : ApiPred), t8.1, false⟩ : ApiIns))), FW.blk bx1 29 ((ApiStep.cells v1))]) (js := [1, 1]) hk rfl
  exact FW.fretH1 hk rfl hr_0 ⟨zd3, zc3, rfl, rfl⟩
 refine FW.wreg fun _ q29 => ?_
 refine FW.sSe hk fun a w hk => ?_
 refine FW.sA hk fun a w hk => ?_
 refine FW.lend (q29 _ _ ?_)
 refine FW.wcondF (b := (decide (v1.Name = ([111, 114, 100, 101, 114] : List UInt8)))) hk h rfl (fun h hb => ?_) (fun h hb => ?_)
 ·skip
  refine FW.wreg fun _ q30 => ?_
  refine FW.sM hk fun a w hk => ?_
  refine FW.sM hk fun a w hk => ?_
  obtain ⟨t9, hr_t9, h⟩ := FW.bnd h
  refine FW.l_callH (I1 := (OCM.items b0 xd0_0 xc0_0 v0)) (I2 := [FW.blk bx2 59 ((ApiIns.cells (⟨0, [], [], [], (⟨[], [], []⟩ : ApiPred), [], false⟩ : ApiIns))), FW.blk bx1 29 ((ApiStep.cells v1))]) (js := [3, 3]) hk rfl rfl rfl rfl rfl Try.func132 rfl (by kernel_rfl) (hzR v0 v2 _ hr_t9 b0 xd0_0 xc0_0) ?_; clear hk
  rintro _ _ ⟨zd4, zc4, rfl, rfl⟩ a w hk
  refine FW.st2 (cs' := (ApiIns.cells t9.1)) hk rfl (by kernel_rfl) fun w hk => ?_
  refine FW.lend (q30 _ _ ?_)
  refine wp_ret ?_
  (repeat first | refine FW.then_ret ?_ | refine FW.block_ret ?_)
  obtain rfl := Option.some.inj h
  have hr_0 := FW.rres_keep (I1 := [FW.blk b0 93 ([.lit (.slice zd4 (List.length t9.2.out) zc4)]), FW.orow zd4 zc4 55 1 c_s_ApiIns_cells t9.2.out]) (I2 := [FW.blk bx2 59 ((ApiIns.cells t9.1)), FW.blk bx1 29 ((ApiStep.cells v1))]) (js := [1, 1]) rfl (FW.rcell (tt := 6) hk rfl (j := 2) rfl Try.underlying59 rfl (by kernel_rfl))
  replace hk := FW.S.keep (I1 := [FW.blk b0 93 ([.lit (.slice zd4 (List.length t9.2.out) zc4)]), FW.orow zd4 zc4 55 1 c_s_ApiIns_cells t9.2.out]) (I2 := [FW.blk bx2 59 ((ApiIns.cells t9.1)), FW.blk bx1 29 ((ApiStep.cells v1))]) (js := [1, 1]) hk rfl
  exact FW.fretH1 hk rfl hr_0 ⟨zd4, zc4, rfl, rfl⟩
 refine FW.wreg fun _ q31 => ?_
 refine FW.sSe hk fun a w hk => ?_
 refine FW.sA hk fun a w hk => ?_
 refine FW.lend (q31 _ _ ?_)
 refine FW.wcondF (b := (decide (v1.Name = ([114, 101, 112, 101, 97, 116] : List UInt8)))) hk h rfl (fun h hb => ?_) (fun h hb => ?_)
 ·skip
  refine FW.wreg fun _ q32 => ?_
  refine FW.sM hk fun a w hk => ?_
  refine FW.lf (y := .agg ((ApiStep.cells v1))) hk (FW.f_loadBlk hk FW.h0 (j := 1) rfl rfl Try.underlying29 rfl rfl rfl rfl) fun a w hk => ?_
  refine FW.sM hk fun a w hk => ?_
  obtain ⟨t10, hr_t10, h⟩ := FW.bnd h
  refine FW.l_callH (I1 := (OCM.items b0 xd0_0 xc0_0 v0)) (I2 := [FW.blk bx2 59 ((ApiIns.cells (⟨0, [], [], [], (⟨[], [], []⟩ : ApiPred), [], false⟩ : ApiIns))), FW.blk bx1 29 ((ApiStep.cells v1))]) (js := [3, 3]) hk rfl rfl rfl rfl rfl Try.func133 rfl (by kernel_rfl) (hzT v0 v1 v2 _ hr_t10 b0 xd0_0 xc0_0) ?_; clear hk
  rintro _ _ ⟨zd5, zc5, rfl, rfl⟩ a w hk
  refine FW.st2 (cs' := (ApiIns.cells t10.1)) hk rfl (by kernel_rfl) fun w hk => ?_
  refine FW.lend (q32 _ _ ?_)
  refine wp_ret ?_
  (repeat first | refine FW.then_ret ?_ | refine FW.block_ret ?_)
  obtain rfl := Option.some.inj h
  have hr_0 := FW.rres_keep (I1 := [FW.blk b0 93 ([.lit (.slice zd5 (List.length t10.2.out) zc5)]), FW.orow zd5 zc5 55 1 c_s_ApiIns_cells t10.2.out]) (I2 := [FW.blk bx2 59 ((ApiIns.cells t10.1)), FW.blk bx1 29 ((ApiStep.cells v1))]) (js := [1, 1]) rfl (FW.rcell (tt := 6) hk rfl (j := 2) rfl Try.underlying59 rfl (by kernel_rfl))
  replace hk := FW.S.keep (I1 := [FW.blk b0 93 ([.lit (.slice zd5 (List.length t10.2.out) zc5)]), FW.orow zd5 zc5 55 1 c_s_ApiIns_cells t10.2.out]) (I2 := [FW.blk bx2 59 ((ApiIns.cells t10.1)), FW.blk bx1 29 ((ApiStep.cells v1))]) (js := [1, 1]) hk rfl
  exact FW.fretH1 hk rfl hr_0 ⟨zd5, zc5, rfl, rfl⟩
 refine FW.wreg fun _ q33 => ?_
 refine FW.sSe hk fun a w hk => ?_
 refine FW.sA hk fun a w hk => ?_
 refine FW.lend (q33 _ _ ?_)
 refine FW.wcondF (b := (decide (v1.Name = ([97, 100, 100, 69] : List UInt8)))) hk h rfl (fun h hb => ?_) (fun h hb => ?_)
 ·skip
  refine FW.wreg fun _ q34 => ?_
  refine FW.sM hk fun a w hk => ?_
  refine FW.lf (y := .agg ((ApiStep.cells v1))) hk (FW.f_loadBlk hk FW.h0 (j := 1) rfl rfl Try.underlying29 rfl rfl rfl rfl) fun a w hk => ?_
  refine FW.sM hk fun a w hk => ?_
  obtain ⟨t11, hr_t11, h⟩ := FW.bnd h
  refine FW.l_callH (I1 := (OCM.items b0 xd0_0 xc0_0 v0)) (I2 := [FW.blk bx2 59 ((ApiIns.cells (⟨0, [], [], [], (⟨[], [], []⟩ : ApiPred), [], false⟩ : ApiIns))), FW.blk bx1 29 ((ApiStep.cells v1))]) (js := [3, 3]) hk rfl rfl rfl rfl rfl Try.func134 rfl (by kernel_rfl) (hzE v0 v1 v2 _ hr_t11 b0 xd0_0 xc0_0) ?_; clear hk
  rintro _ _ ⟨zd6, zc6, rfl, rfl⟩ a w hk
  refine FW.st2 (cs' := (ApiIns.cells t11.1)) hk rfl (by kernel_rfl) fun w hk => ?_
  refine FW.lend (q34 _ _ ?_)
  refine wp_ret ?_
  (repeat first | refine FW.then_ret ?_ | refine FW.block_ret ?_)
  obtain rfl := Option.some.inj h
  have hr_0 := FW.rres_keep (I1 := [FW.blk b0 93 ([.lit (.slice zd6 (List.length t11.2.out) zc6)]), FW.orow zd6 zc6 55 1 c_s_ApiIns_cells t11.2.out]) (I2 := [FW.blk bx2 59 ((ApiIns.cells t11.1)), FW.blk bx1 29 ((ApiStep.cells v1))]) (js := [1, 1]) rfl (FW.rcell (tt := 6) hk rfl (j := 2) rfl Try.underlying59 rfl (by kernel_rfl))
  replace hk := FW.S.keep (I1 := [FW.blk b0 93 ([.lit (.slice zd6 (List.length t11.2.out) zc6)]), FW.orow zd6 zc6 55 1 c_s_ApiIns_cells t11.2.out]) (I2 := [FW.blk bx2 59 ((ApiIns.cells t11.1)), FW.blk bx1 29 ((ApiStep.cells v1))]) (js := [1, 1]) hk rfl
  exact FW.fretH1 hk rfl hr_0 ⟨zd6, zc6, rfl, rfl⟩
 refine wp_skip ?_
 (repeat first | refine FW.tn ?_ | refine FW.bn ?_); refine q2 _ _ ?_
 refine FW.wreg fun _ q35 => ?_
 refine FW.sFp 1 hk Try.underlying29 fun a w hk => ?_
 refine FW.lf (y := .row (r_ApiArg_cells v1.Args)) hk (FW.f_loadBlk1 hk FW.h0 (j := 1) rfl rfl Try.underlying27 rfl rfl) fun a w hk => ?_
 refine FW.sA hk fun a w hk => ?_
 refine FW.lend (q35 _ _ ?_)
 refine FW.wreg fun _ q36 => ?_
 refine FW.sM hk fun a w hk => ?_
 refine FW.lf (y := .lit (.int .i64 (List.length v1.Args : Int))) hk (FW.f_len (R := r_ApiArg_cells) (f := ApiArg.cells) (l := v1.Args) r_ApiArg_cells_eq Try.underlying27 hk FW.h0 rfl) fun a w hk => ?_
 refine FW.sEq hk fun a w hk => ?_
 refine FW.sM hk fun a w hk => ?_
 refine FW.lg (y := .row (r_ApiArg_cells v1.Args)) hk rfl rfl rfl (fun hc => FW.f_move hk hc rfl) fun a w hk => ?_
 obtain ⟨hc6, h⟩ := FW.chk h
 refine FW.lg (y := .ref (ApiArg.cells (List.getD v1.Args (Int.toNat 0) default))) hk rfl rfl rfl (fun hc => FW.f_indexAddr (R := r_ApiArg_cells) (f := ApiArg.cells) (l := v1.Args) (sz := 11) r_ApiArg_cells_eq (fun _ => rfl) hk hc rfl rfl Try.underlying27 (by kernel_rfl) hc6) fun a w hk => ?_
 refine FW.lg (y := .ref (List.drop 1 (ApiArg.cells (List.getD v1.Args (Int.toNat 0) default)))) hk rfl rfl rfl (fun hc => FW.f_fieldAddr hk hc rfl Try.underlying38 rfl (by kernel_rfl) rfl) fun a w hk => ?_
 refine FW.lg (y := .ref (List.drop 4 (List.drop 1 (ApiArg.cells (List.getD v1.Args (Int.toNat 0) default))))) hk rfl rfl rfl (fun hc => FW.f_fieldAddr hk hc rfl Try.underlying33 rfl (by kernel_rfl) rfl) fun a w hk => ?_
 refine FW.lg (y := .lit (.string (FW.B (((List.getD v1.Args (Int.toNat 0) default).V).S)))) hk rfl rfl rfl (fun hc => FW.f_load1 hk hc rfl rfl Try.underlying9 rfl) fun a w hk => ?_
 refine FW.lg (y := .lit (.bool (decide ((((List.getD v1.Args (Int.toNat 0) default).V).S) = ([108, 105, 115, 116] : List UInt8))))) hk rfl rfl rfl (fun hc => (FW.f_pure (FW.p_seql hk.kn hc rfl rfl))) fun a w hk => ?_
 refine FW.sAn hk fun a w hk => ?_
 refine FW.sA hk fun a w hk => ?_
 refine FW.lend (q36 _ _ ?_)
 refine FW.wseqJ (fun a w => ∃ (v7 : List ApiArg) (v8 : Bool), FW.S M w0 a w 138 [FW.blk bx2 59 ((ApiIns.cells (⟨0, [], [], [], (⟨[], [], []⟩ : ApiPred), [], false⟩ : ApiIns))), FW.blk b0 93 ([.lit (.slice xd0_0 (List.length v0.out) xc0_0)]), FW.orow xd0_0 xc0_0 55 1 c_s_ApiIns_cells v0.out] [(6, [], .lit (.pointer (some ⟨bx2, 0, none⟩))), (7, [], .row (r_ApiArg_cells v7)), (8, [], .lit (.bool v8))] ∧ cm_other.j1 zB zI zK zO zY zb zR zT zE K v0 v7 v8 = some r) ?_ ?_
 ·clear hk h
  rintro a w ⟨v7, v8, hk, h⟩
  unfold cm_other.j1 at h
  obtain ⟨hc7, h⟩ := FW.chk h
  obtain ⟨t12, hr_t12, h⟩ := FW.bnd h
  obtain ⟨hc8, h⟩ := FW.chk h
  obtain ⟨t13, hr_t13, h⟩ := FW.bnd h
  refine FW.wdrawE (.next [true, true, true, true, true, true, true, true, false] 8 [true, true, true, true, true, true, true, true, false] (.leaf [false, false, false, false, false, false, false, false, false])) [(130, [], .row (r_ApiArg_cells v7)), (131, [], .row (r_ApiArg_cells (List.take (Int.toNat 1 - Int.toNat 0) (List.drop (Int.toNat 0) v7)))), (132, [], .row (r_c_str t12)), (133, [], .row (r_ApiArg_cells v7)), (134, [], .row (r_ApiArg_cells (List.take (Int.toNat (List.length v7 : Int) - Int.toNat 1) (List.drop (Int.toNat 1) v7)))), (135, [], .row (r_ApiValue_cells t13)), (136, [], .lit (.bool v8)), (137, [], .agg ((ApiIns.cells (⟨45, t12, [], t13, (⟨[], [], []⟩ : ApiPred), [], v8⟩ : ApiIns)))), (138, [], .lit undef)] (by kernel_rfl) (by kernel_rfl) (by kernel_rfl) (by kernel_rfl) hk ?_; clear hk
  refine FW.gnext0 ?_ rfl rfl rfl ?_
  ·skip
   refine FW.gfun (y := .row (r_ApiArg_cells v7)) rfl rfl rfl rfl (fun a w hk => FW.f_move hk FW.h0 rfl) ?_
   refine FW.gfun (y := .row (r_ApiArg_cells (List.take (Int.toNat 1 - Int.toNat 0) (List.drop (Int.toNat 0) v7)))) rfl rfl rfl rfl (fun a w hk => FW.f_part (R := r_ApiArg_cells) (f := ApiArg.cells) (l := v7) (sz := 11) r_ApiArg_cells_eq (fun _ => rfl) hk FW.h0 rfl Try.underlying27 (by kernel_rfl) rfl rfl hc7) ?_
   refine FW.gfun (y := .row (r_c_str t12)) rfl rfl rfl rfl (fun a w hk => FW.f_call hk FW.h0 rfl rfl Try.func102 rfl (by kernel_rfl) (code_names.ok K (List.take (Int.toNat 1 - Int.toNat 0) (List.drop (Int.toNat 0) v7)) _ hr_t12)) ?_
   refine FW.gfun (y := .row (r_ApiArg_cells v7)) rfl rfl rfl rfl (fun a w hk => FW.f_move hk FW.h0 rfl) ?_
   refine FW.gfun (y := .row (r_ApiArg_cells (List.take (Int.toNat (List.length v7 : Int) - Int.toNat 1) (List.drop (Int.toNat 1) v7)))) rfl rfl rfl rfl (fun a w hk => FW.f_part (R := r_ApiArg_cells) (f := ApiArg.cells) (l := v7) (sz := 11) r_ApiArg_cells_eq (fun _ => rfl) hk FW.h0 rfl Try.underlying27 (by kernel_rfl) rfl rfl hc8) ?_
   refine FW.gfun (y := .row (r_ApiValue_cells t13)) rfl rfl rfl rfl (fun a w hk => FW.f_call hk FW.h0 rfl rfl Try.func101 rfl (by kernel_rfl) (code_values.ok K (List.take (Int.toNat (List.length v7 : Int) - Int.toNat 1) (List.drop (Int.toNat 1) v7)) _ hr_t13)) ?_
   refine FW.gfun (y := .lit (.bool v8)) rfl rfl rfl rfl (fun a w hk => FW.f_move hk FW.h0 rfl) ?_
   refine FW.gfun (y := .agg ((ApiIns.cells (⟨45, t12, [], t13, (⟨[], [], []⟩ : ApiPred), [], v8⟩ : ApiIns)))) rfl rfl rfl rfl (fun a w hk => FW.f_buildN [] hk FW.h0 rfl rfl rfl) ?_
   refine FW.gskip0 rfl ?_
   exact FW.gend
  ·skip
   intro σD a w opsD QD hk hQ hX
   refine FW.st0 (cs' := (ApiIns.cells (⟨45, t12, [], t13, (⟨[], [], []⟩ : ApiPred), [], v8⟩ : ApiIns))) hk rfl (by kernel_rfl) fun w hk => ?_
   refine hQ _ a w ?_ hk; clear hk hQ hX
   refine ⟨[(130, [], .row (r_ApiArg_cells v7)), (131, [], .row (r_ApiArg_cells (List.take (Int.toNat 1 - Int.toNat 0) (List.drop (Int.toNat 0) v7)))), (132, [], .row (r_c_str t12)), (133, [], .row (r_ApiArg_cells v7)), (134, [], .row (r_ApiArg_cells (List.take (Int.toNat (List.length v7 : Int) - Int.toNat 1) (List.drop (Int.toNat 1) v7)))), (135, [], .row (r_ApiValue_cells t13)), (136, [], .lit (.bool v8)), (137, [], .agg ((ApiIns.cells (⟨45, t12, [], t13, (⟨[], [], []⟩ : ApiPred), [], v8⟩ : ApiIns)))), (138, [], .lit undef)], And.intro rfl (And.intro rfl (And.intro rfl (And.intro rfl (And.intro rfl (And.intro rfl (And.intro rfl (And.intro rfl (trivial)))))))), rfl, ?_⟩
   refine FW.glast ?_ ?_
   ·skip
    refine FW.gskip rfl rfl ?_
    refine FW.gskip rfl rfl ?_
    refine FW.gskip rfl rfl ?_
    refine FW.gskip rfl rfl ?_
    refine FW.gskip rfl rfl ?_
    refine FW.gskip rfl rfl ?_
    refine FW.gskip rfl rfl ?_
    refine FW.gskip rfl rfl ?_
    refine FW.gskip0 rfl ?_
    exact FW.gend
   ·skip
    intro a w hk; simp only [FW.stD, cond_true] at hk
    refine wp_ret ?_
    (repeat first | refine FW.then_ret ?_ | refine FW.block_ret ?_)
    obtain rfl := Option.some.inj h
    have hr_0 := FW.rres_keep (I1 := [FW.blk b0 93 ([.lit (.slice xd0_0 (List.length v0.out) xc0_0)]), FW.orow xd0_0 xc0_0 55 1 c_s_ApiIns_cells v0.out]) (I2 := [FW.blk bx2 59 ((ApiIns.cells (⟨45, t12, [], t13, (⟨[], [], []⟩ : ApiPred), [], v8⟩ : ApiIns)))]) (js := [2, 2]) rfl (FW.rcell (tt := 6) hk rfl (j := 0) rfl Try.underlying59 rfl (by kernel_rfl))
    replace hk := FW.S.keep (I1 := [FW.blk b0 93 ([.lit (.slice xd0_0 (List.length v0.out) xc0_0)]), FW.orow xd0_0 xc0_0 55 1 c_s_ApiIns_cells v0.out]) (I2 := [FW.blk bx2 59 ((ApiIns.cells (⟨45, t12, [], t13, (⟨[], [], []⟩ : ApiPred), [], v8⟩ : ApiIns)))]) (js := [2, 2]) hk rfl
    exact FW.fretH1 hk rfl hr_0 ⟨xd0_0, xc0_0, rfl, rfl⟩
 ·intro K' q37
  refine FW.wreg fun _ q39 => ?_
  refine FW.sM hk fun a w hk => ?_
  refine FW.lf (y := .lit (.int .i64 (List.length v1.Args : Int))) hk (FW.f_len (R := r_ApiArg_cells) (f := ApiArg.cells) (l := v1.Args) r_ApiArg_cells_eq Try.underlying27 hk FW.h0 rfl) fun a w hk => ?_
  refine FW.sEq hk fun a w hk => ?_
  refine FW.lend (q39 _ _ ?_)
  refine FW.wcondF (b := (decide ((List.length v1.Args : Int) = 3))) hk h rfl (fun h hb => ?_) (fun h hb => ?_)
  ·skip
   refine FW.wreg1 ?_
   refine FW.sM hk fun a w hk => ?_
   obtain ⟨hc9, h⟩ := FW.chk h
   refine FW.lf (y := .row (r_ApiArg_cells (List.take (Int.toNat (List.length v1.Args : Int) - Int.toNat 1) (List.drop (Int.toNat 1) v1.Args)))) hk (FW.f_part (R := r_ApiArg_cells) (f := ApiArg.cells) (l := v1.Args) (sz := 11) r_ApiArg_cells_eq (fun _ => rfl) hk FW.h0 rfl Try.underlying27 (by kernel_rfl) rfl rfl hc9) fun a w hk => ?_
   refine FW.sA hk fun a w hk => ?_
   refine wpList_nil ?_
   (repeat first | refine FW.tn ?_ | refine FW.bn ?_); exact q37 _ _ ⟨(List.take (Int.toNat (List.length v1.Args : Int) - Int.toNat 1) (List.drop (Int.toNat 1) v1.Args)), ((decide ((List.length v1.Args : Int) = 3)) && (decide ((((List.getD v1.Args (Int.toNat 0) default).V).S) = ([108, 105, 115, 116] : List UInt8)))), (hk.drop 1).sub ⟨rfl, rfl, rfl, trivial⟩, h⟩
  refine wp_skip ?_
  (repeat first | refine FW.tn ?_ | refine FW.bn ?_); exact q37 _ _ ⟨v1.Args, ((decide ((List.length v1.Args : Int) = 3)) && (decide ((((List.getD v1.Args (Int.toNat 0) default).V).S) = ([108, 105, 115, 116] : List UInt8)))), (hk.drop 1).sub ⟨rfl, rfl, rfl, trivial⟩, h⟩
end Go.Proofs.Ytbjbgodcenopnaa

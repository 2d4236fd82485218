/- Written by a program of this session (gen.py): the contracts of functions of the program. -/
import Derived.Test.YtbjbgodcenopnaaCbP21
namespace Go.Proofs.Ytbjbgodcenopnaa
set_option linter.unusedVariables false
set_option maxRecDepth 20000
set_option maxHeartbeats 10000000
theorem cm_repeat.bok (zB : OCM → List ApiStep → Option (Int × OCM)) (zI : OCM → ApiStep → List ApiStep → Option (ApiIns × OCM)) (zK : OCM → List ApiArg → Option (List Int × OCM)) (zO : OCM → ApiStep → List ApiStep → Option (ApiIns × OCM)) (zY : OCM → List ApiStep → Int → Option (List Int × OCM)) (zb : OCM → ApiStep → Option (Int × OCM)) (zR : OCM → List ApiStep → Option (ApiIns × OCM)) (zT : OCM → ApiStep → List ApiStep → Option (ApiIns × OCM)) (zE : OCM → ApiStep → List ApiStep → Option (ApiIns × OCM)) (hzB : ZzB zB) (hzI : ZzI zI) (hzK : ZzK zK) (hzO : ZzO zO) (hzY : ZzY zY) (hzb : Zzb zb) (hzR : ZzR zR) (hzT : ZzT zT) (hzE : ZzE zE) (K : Nat) (v0 : OCM) (v1 : ApiStep) (v2 : List ApiStep) (r : ApiIns × OCM) (h : cm_repeat.b zB zI zK zO zY zb zR zT zE K v0 v1 v2 = some r) :
  ∀ (b0 : Nat) (xd0_0 : Option Addr) (xc0_0 : Nat), FW.OkH Try.prog 133 [.lit (.pointer (some ⟨b0, 0, none⟩)), .agg (ApiStep.cells v1), .row (r_ApiStep_cells v2)] (OCM.items b0 xd0_0 xc0_0 v0) (fun y I => ∃ (zxd0_0 : Option Addr) (zxc0_0 : Nat), y = .agg (ApiIns.cells r.1) ∧ I = OCM.items b0 zxd0_0 zxc0_0 r.2) := by
 intro b0 xd0_0 xc0_0
 refine FW.enterH (xs := [.lit (.pointer (some ⟨b0, 0, none⟩)), .agg (ApiStep.cells v1), .row (r_ApiStep_cells v2)]) Try.func133 rfl Try.ntmps133 rfl ?_
 intro M w0 a hk
 replace hk : FW.S M w0 a w0.toWorld 54 [FW.blk b0 93 ([.lit (.slice xd0_0 (List.length v0.out) xc0_0)]), FW.orow xd0_0 xc0_0 55 1 c_s_ApiIns_cells v0.out] [(0, [], .lit (.pointer (some ⟨b0, 0, none⟩))), (1, [], .agg ((ApiStep.cells v1))), (2, [], .row (r_ApiStep_cells v2))] := hk
 unfold cm_repeat.b at h
 refine FW.wreg fun _ q1 => ?_
 refine FW.l_box (cs := (ApiStep.cells v1)) hk rfl rfl rfl rfl rfl ?_; clear hk; intro bx1 a w hk
 refine FW.l_alloc (zs := (ApiIns.cells (⟨0, [], [], [], (⟨[], [], []⟩ : ApiPred), [], false⟩ : ApiIns))) [] hk rfl rfl rfl rfl ?_; clear hk; intro bx2 a w hk
 refine FW.lend (q1 _ _ ?_)
 refine FW.wreg fun _ q2 => ?_
 refine FW.l_buildSlice (f := c_i64) (l := ([(-1)] : List Int)) hk rfl rfl rfl Try.underlying57 rfl rfl rfl rfl (fun _ => rfl) rfl ?_; clear hk; intro bx3 a w hk
 refine FW.sM hk fun a w hk => ?_
 refine FW.sFp 1 hk Try.underlying29 fun a w hk => ?_
 refine FW.lf (y := .row (r_ApiArg_cells v1.Args)) hk (FW.f_loadBlk1 hk FW.h0 (j := 2) rfl rfl Try.underlying27 rfl rfl) fun a w hk => ?_
 obtain ⟨hc1, h⟩ := FW.chk h
 refine FW.lf (y := .ref (ApiArg.cells (List.getD v1.Args (Int.toNat 0) default))) hk (FW.f_indexAddr (R := r_ApiArg_cells) (f := ApiArg.cells) (l := v1.Args) (sz := 11) r_ApiArg_cells_eq (fun _ => rfl) hk FW.h0 rfl rfl Try.underlying27 (by kernel_rfl) hc1) fun a w hk => ?_
 refine FW.lf (y := .ref (List.drop 10 (ApiArg.cells (List.getD v1.Args (Int.toNat 0) default)))) hk (FW.f_fieldAddr hk FW.h0 rfl Try.underlying38 rfl (by kernel_rfl) rfl) fun a w hk => ?_
 refine FW.lf (y := .row (r_ApiStep_cells ((List.getD v1.Args (Int.toNat 0) default).T))) hk (FW.f_load1 hk FW.h0 rfl rfl Try.underlying22 rfl) fun a w hk => ?_
 obtain ⟨t1, hr_t1, h⟩ := FW.bnd h
 refine FW.l_callH (I1 := (OCM.items b0 xd0_0 xc0_0 v0)) (I2 := [FW.orow (some ⟨bx3, 0, none⟩) 1 2 1 c_i64 ([(-1)] : List Int), FW.blk bx2 59 ((ApiIns.cells (⟨0, [], [], [], (⟨[], [], []⟩ : ApiPred), [], false⟩ : ApiIns))), FW.blk bx1 29 ((ApiStep.cells v1))]) (js := [4, 4]) hk rfl rfl rfl rfl rfl Try.func48 rfl (by kernel_rfl) (hzB v0 ((List.getD v1.Args (Int.toNat 0) default).T) _ hr_t1 b0 xd0_0 xc0_0) ?_; clear hk
 rintro _ _ ⟨zd1, zc1, rfl, rfl⟩ a w hk
 refine FW.l_buildSlice (f := c_i64) (l := ([t1.1, (-1)] : List Int)) hk rfl rfl rfl Try.underlying54 rfl rfl rfl rfl (fun _ => rfl) rfl ?_; clear hk; intro bx4 a w hk
 refine FW.lf (y := .agg (([.lit (.int .i64 42), .row (r_c_str []), .lit (.slice (some ⟨bx3, 0, none⟩) (List.length ([(-1)] : List Int)) 1), .row (r_ApiValue_cells [])] : List FW.AV) ++ (ApiPred.cells (⟨[], [], []⟩ : ApiPred)) ++ ([.lit (.slice (some ⟨bx4, 0, none⟩) (List.length ([t1.1, (-1)] : List Int)) 2), .lit (.bool false)] : List FW.AV))) hk (FW.f_buildN [] hk FW.h0 rfl rfl rfl) fun a w hk => ?_
 refine FW.l_alloc (zs := (ApiIns.cells (⟨0, [], [], [], (⟨[], [], []⟩ : ApiPred), [], false⟩ : ApiIns))) [] hk rfl rfl rfl rfl ?_; clear hk; intro bx5 a w hk
 refine FW.st0 (cs' := ([.lit (.int .i64 42), .row (r_c_str []), .lit (.slice (some ⟨bx3, 0, none⟩) (List.length ([(-1)] : List Int)) 1), .row (r_ApiValue_cells [])] : List FW.AV) ++ (ApiPred.cells (⟨[], [], []⟩ : ApiPred)) ++ ([.lit (.slice (some ⟨bx4, 0, none⟩) (List.length ([t1.1, (-1)] : List Int)) 2), .lit (.bool false)] : List FW.AV)) hk rfl (by kernel_rfl) fun w hk => ?_
 refine FW.lend (q2 _ _ ?_)
 refine FW.wseq fun _ q3 => ?_
 refine FW.wreg fun _ q4 => ?_
 refine FW.sM hk fun a w hk => ?_
 refine FW.lf (y := .lit (.int .i64 (List.length v2 : Int))) hk (FW.f_len (R := r_ApiStep_cells) (f := ApiStep.cells) (l := v2) r_ApiStep_cells_eq Try.underlying22 hk FW.h0 rfl) fun a w hk => ?_
 refine FW.sM hk fun a w hk => ?_
 refine FW.lend (q4 _ _ ?_)
 refine wp_block ?_
 refine FW.wloop (T := Nat × Int × List (List UInt8) × List ApiValue × ApiPred × Bool × List Int × List (List ApiIns) × List Int × List ApiStep × Int × Int × Option Addr × Nat × Option Addr × Nat × Option Addr × Nat) (fun x a w => match x with | (kl1, y7_0, y7_1, y7_3, y7_4, y7_6, l6, l2, l5, v20, v21, v22, xd6, xc6, xd2, xc2, xd5, xc5) => FW.S M w0 a w 54 [FW.blk bx5 59 (([.lit (.int .i64 y7_0), .row (r_c_str y7_1), .lit (.slice xd5 (List.length l5) xc5), .row (r_ApiValue_cells y7_3)] : List FW.AV) ++ (ApiPred.cells y7_4) ++ ([.lit (.slice xd6 (List.length l6) xc6), .lit (.bool y7_6)] : List FW.AV)), FW.orow xd6 xc6 3 1 c_i64 l6, FW.blk b0 93 ([.lit (.slice xd2 (List.length l2) xc2)]), FW.orow xd2 xc2 55 1 c_s_ApiIns_cells l2, FW.orow xd5 xc5 2 1 c_i64 l5, FW.blk bx2 59 ((ApiIns.cells (⟨0, [], [], [], (⟨[], [], []⟩ : ApiPred), [], false⟩ : ApiIns)))] [(0, [], .lit (.pointer (some ⟨b0, 0, none⟩))), (6, [], .lit (.pointer (some ⟨bx2, 0, none⟩))), (7, [], .lit (.pointer (some ⟨bx5, 0, none⟩))), (20, [], .row (r_ApiStep_cells v20)), (21, [], .lit (.int .i64 v21)), (22, [], .lit (.int .i64 v22))] ∧ cm_repeat.l1 zB zI zK zO zY zb zR zT zE K kl1 y7_0 y7_1 y7_3 y7_4 y7_6 l6 l2 l5 v20 v21 v22 = some r) (fun x => x.1) (K, 42, [], [], (⟨[], [], []⟩ : ApiPred), false, ([t1.1, (-1)] : List Int), t1.2.out, ([(-1)] : List Int), v2, (List.length v2 : Int), 0, (some ⟨bx4, 0, none⟩), 2, zd1, zc1, (some ⟨bx3, 0, none⟩), 1) ⟨(hk.drop 6).sub ⟨rfl, rfl, rfl, rfl, rfl, rfl, trivial⟩, h⟩ ?_
 clear hk h
 rintro ⟨kl1, y7_0, y7_1, y7_3, y7_4, y7_6, l6, l2, l5, v20, v21, v22, xd6, xc6, xd2, xc2, xd5, xc5⟩ a w ⟨hk, h⟩ K' q5
 cases kl1 with
 | zero => simp [cm_repeat.l1] at h
 | succ kl1 =>
 rw [cm_repeat.l1.eq_2] at h
 refine FW.wreg fun _ q6 => ?_
 refine FW.sLt hk fun a w hk => ?_
 refine FW.lend (q6 _ _ ?_)
 refine FW.wseq fun _ q7 => ?_
 refine FW.wcondF (b := (decide (v22 < v21))) hk h rfl (fun h hb => ?_) (fun h hb => ?_)
 ·skip
  refine wp_skip ?_
  (repeat first | refine FW.tn ?_ | refine FW.bn ?_); refine q7 _ _ ?_
  refine FW.wseqJ (fun a w => ∃ (y7_0 : Int) (y7_1 : List (List UInt8)) (y7_3 : List ApiValue) (y7_4 : ApiPred) (y7_6 : Bool) (l6 : List Int) (l2 : List (List ApiIns)) (l5 : List Int) (v20 : List ApiStep) (v21 : Int) (v22 : Int) (xd6 : Option Addr) (xc6 : Nat) (xd2 : Option Addr) (xc2 : Nat) (xd5 : Option Addr) (xc5 : Nat), FW.S M w0 a w 54 [FW.blk bx5 59 (([.lit (.int .i64 y7_0), .row (r_c_str y7_1), .lit (.slice xd5 (List.length l5) xc5), .row (r_ApiValue_cells y7_3)] : List FW.AV) ++ (ApiPred.cells y7_4) ++ ([.lit (.slice xd6 (List.length l6) xc6), .lit (.bool y7_6)] : List FW.AV)), FW.orow xd6 xc6 3 1 c_i64 l6, FW.blk b0 93 ([.lit (.slice xd2 (List.length l2) xc2)]), FW.orow xd2 xc2 55 1 c_s_ApiIns_cells l2, FW.orow xd5 xc5 2 1 c_i64 l5, FW.blk bx2 59 ((ApiIns.cells (⟨0, [], [], [], (⟨[], [], []⟩ : ApiPred), [], false⟩ : ApiIns)))] [(0, [], .lit (.pointer (some ⟨b0, 0, none⟩))), (6, [], .lit (.pointer (some ⟨bx2, 0, none⟩))), (7, [], .lit (.pointer (some ⟨bx5, 0, none⟩))), (20, [], .row (r_ApiStep_cells v20)), (21, [], .lit (.int .i64 v21)), (22, [], .lit (.int .i64 v22))] ∧ cm_repeat.j1 zB zI zK zO zY zb zR zT zE (cm_repeat.l1 zB zI zK zO zY zb zR zT zE K kl1) K y7_0 y7_1 y7_3 y7_4 y7_6 l6 l2 l5 v20 v21 v22 = some r) ?_ ?_
  ·clear hk h
   rintro a w ⟨y7_0, y7_1, y7_3, y7_4, y7_6, l6, l2, l5, v20, v21, v22, xd6, xc6, xd2, xc2, xd5, xc5, hk, h⟩
   unfold cm_repeat.j1 at h
   refine FW.wreg1 ?_
   refine FW.sAd hk fun a w hk => ?_
   refine FW.sM hk fun a w hk => ?_
   refine wpList_nil ?_
   (repeat first | refine FW.tn ?_ | refine FW.bn ?_); exact q5 (kl1, y7_0, y7_1, y7_3, y7_4, y7_6, l6, l2, l5, v20, v21, (IntKind.wrap .i64 (v22 + 1)), xd6, xc6, xd2, xc2, xd5, xc5) _ _ (Nat.lt_succ_self _) ⟨hk.sub ⟨rfl, rfl, rfl, rfl, rfl, rfl, trivial⟩, h⟩
  ·intro K' q8
   refine wp_block ?_
   refine FW.wreg fun _ q10 => ?_
   obtain ⟨hc2, h⟩ := FW.chk h
   refine FW.lf (y := .ref (ApiStep.cells (List.getD v20 (Int.toNat v22) default))) hk (FW.f_indexAddr (R := r_ApiStep_cells) (f := ApiStep.cells) (l := v20) (sz := 2) r_ApiStep_cells_eq (fun _ => rfl) hk FW.h0 rfl rfl Try.underlying22 (by kernel_rfl) hc2) fun a w hk => ?_
   refine FW.lf (y := .agg ((ApiStep.cells (List.getD v20 (Int.toNat v22) default)))) hk (FW.f_load hk FW.h0 rfl Try.underlying29 rfl rfl rfl rfl) fun a w hk => ?_
   refine FW.l_alloc (zs := (ApiStep.cells (⟨[], []⟩ : ApiStep))) [] hk rfl rfl rfl rfl ?_; clear hk; intro bx6 a w hk
   refine FW.st0 (cs' := (ApiStep.cells (List.getD v20 (Int.toNat v22) default))) hk rfl (by kernel_rfl) fun w hk => ?_
   refine FW.lend (q10 _ _ ?_)
   refine FW.wreg fun _ q11 => ?_
   refine FW.sFp 0 hk Try.underlying29 fun a w hk => ?_
   refine FW.lf (y := .lit (.string (FW.B ((List.getD v20 (Int.toNat v22) default).Name)))) hk (FW.f_loadBlk1 hk FW.h0 (j := 0) rfl rfl Try.underlying9 rfl rfl) fun a w hk => ?_
   refine FW.lend (q11 _ _ ?_)
   refine wp_block ?_
   refine FW.wreg fun _ q12 => ?_
   refine FW.sSe hk fun a w hk => ?_
   refine FW.sA hk fun a w hk => ?_
   refine FW.lend (q12 _ _ ?_)
   refine FW.wcondF (b := (decide (((List.getD v20 (Int.toNat v22) default).Name) = ([116, 105, 109, 101, 115] : List UInt8)))) hk h rfl (fun h hb => ?_) (fun h hb => ?_)
   ·skip
    obtain ⟨hc3, h⟩ := FW.chk h
    obtain ⟨hc4, h⟩ := FW.chk h
    refine FW.wdrawE1 (.next [true, true, true, true, true, true, true, true, true, false] 9 [true, true, true, true, true, true, true, true, true, false] (.leaf [false, false, false, false, false, false, false, false, false, false])) [(31, [], .lit (.pointer (some ⟨bx5, 2, none⟩))), (32, [], .lit (.slice xd5 (List.length l5) xc5)), (33, [], .lit (.pointer (some ⟨bx6, 1, none⟩))), (34, [], .row (r_ApiArg_cells ((List.getD v20 (Int.toNat v22) default).Args))), (35, [], .ref (ApiArg.cells (List.getD ((List.getD v20 (Int.toNat v22) default).Args) (Int.toNat 0) default))), (36, [], .ref (List.drop 1 (ApiArg.cells (List.getD ((List.getD v20 (Int.toNat v22) default).Args) (Int.toNat 0) default)))), (37, [], .ref (List.drop 2 (List.drop 1 (ApiArg.cells (List.getD ((List.getD v20 (Int.toNat v22) default).Args) (Int.toNat 0) default))))), (38, [], .lit (.int .i64 (((List.getD ((List.getD v20 (Int.toNat v22) default).Args) (Int.toNat 0) default).V).N))), (39, [], FW.elA xd5 1 0), (54, [], .lit undef)] (by kernel_rfl) (by kernel_rfl) (by kernel_rfl) (by kernel_rfl) hk ?_; clear hk
    refine FW.gnext0 ?_ rfl rfl rfl ?_
    ·skip
     refine FW.gfun (y := .lit (.pointer (some ⟨bx5, 2, none⟩))) rfl rfl rfl rfl (fun a w hk => FW.f_fieldPtr hk FW.h0 rfl Try.underlying59 rfl (by kernel_rfl) rfl) ?_
     refine FW.gfun (y := .lit (.slice xd5 (List.length l5) xc5)) rfl rfl rfl rfl (fun a w hk => FW.f_loadBlk1 hk FW.h0 (j := 1) rfl rfl Try.underlying57 rfl rfl) ?_
     refine FW.gfun (y := .lit (.pointer (some ⟨bx6, 1, none⟩))) rfl rfl rfl rfl (fun a w hk => FW.f_fieldPtr hk FW.h0 rfl Try.underlying29 rfl (by kernel_rfl) rfl) ?_
     refine FW.gfun (y := .row (r_ApiArg_cells ((List.getD v20 (Int.toNat v22) default).Args))) rfl rfl rfl rfl (fun a w hk => FW.f_loadBlk1 hk FW.h0 (j := 0) rfl rfl Try.underlying27 rfl rfl) ?_
     refine FW.gfun (y := .ref (ApiArg.cells (List.getD ((List.getD v20 (Int.toNat v22) default).Args) (Int.toNat 0) default))) rfl rfl rfl rfl (fun a w hk => FW.f_indexAddr (R := r_ApiArg_cells) (f := ApiArg.cells) (l := (List.getD v20 (Int.toNat v22) default).Args) (sz := 11) r_ApiArg_cells_eq (fun _ => rfl) hk FW.h0 rfl rfl Try.underlying27 (by kernel_rfl) hc3) ?_
     refine FW.gfun (y := .ref (List.drop 1 (ApiArg.cells (List.getD ((List.getD v20 (Int.toNat v22) default).Args) (Int.toNat 0) default)))) rfl rfl rfl rfl (fun a w hk => FW.f_fieldAddr hk FW.h0 rfl Try.underlying38 rfl (by kernel_rfl) rfl) ?_
     refine FW.gfun (y := .ref (List.drop 2 (List.drop 1 (ApiArg.cells (List.getD ((List.getD v20 (Int.toNat v22) default).Args) (Int.toNat 0) default))))) rfl rfl rfl rfl (fun a w hk => FW.f_fieldAddr hk FW.h0 rfl Try.underlying33 rfl (by kernel_rfl) rfl) ?_
     refine FW.gfun (y := .lit (.int .i64 (((List.getD ((List.getD v20 (Int.toNat v22) default).Args) (Int.toNat 0) default).V).N))) rfl rfl rfl rfl (fun a w hk => FW.f_load1 hk FW.h0 rfl rfl Try.underlying2 rfl) ?_
     refine FW.gfun (y := FW.elA xd5 1 0) rfl rfl rfl rfl (fun a w hk => FW.f_idxOwn (f := c_i64) (l := l5) hk FW.h0 (j := 5) rfl rfl (by first | rfl | simp only [List.length_set]) rfl Try.underlying57 (by kernel_rfl) hc4) ?_
     refine FW.gskip0 rfl ?_
     exact FW.gend
    ·skip
     intro σD a w opsD QD hk hQ hX
     refine FW.l_storeOwn1 (f := c_i64) (l := l5) (v := ((List.getD ((List.getD v20 (Int.toNat v22) default).Args) (Int.toNat 0) default).V).N) (I' := [FW.blk bx6 29 ((ApiStep.cells (List.getD v20 (Int.toNat v22) default))), FW.blk bx5 59 (([.lit (.int .i64 y7_0), .row (r_c_str y7_1), .lit (.slice xd5 (List.length l5) xc5), .row (r_ApiValue_cells y7_3)] : List FW.AV) ++ (ApiPred.cells y7_4) ++ ([.lit (.slice xd6 (List.length l6) xc6), .lit (.bool y7_6)] : List FW.AV)), FW.orow xd6 xc6 3 1 c_i64 l6, FW.blk b0 93 ([.lit (.slice xd2 (List.length l2) xc2)]), FW.orow xd2 xc2 55 1 c_s_ApiIns_cells l2, FW.orow xd5 xc5 2 1 c_i64 (List.set l5 (Int.toNat 0) (((List.getD ((List.getD v20 (Int.toNat v22) default).Args) (Int.toNat 0) default).V).N)), FW.blk bx2 59 ((ApiIns.cells (⟨0, [], [], [], (⟨[], [], []⟩ : ApiPred), [], false⟩ : ApiIns)))]) (j := 5) hk rfl rfl hc4 rfl rfl rfl rfl (by kernel_rfl) rfl fun w hk => ?_
     refine hQ _ a w ?_ hk; clear hk hQ hX
     refine ⟨[(31, [], .lit (.pointer (some ⟨bx5, 2, none⟩))), (32, [], .lit (.slice xd5 (List.length l5) xc5)), (33, [], .lit (.pointer (some ⟨bx6, 1, none⟩))), (34, [], .row (r_ApiArg_cells ((List.getD v20 (Int.toNat v22) default).Args))), (35, [], .ref (ApiArg.cells (List.getD ((List.getD v20 (Int.toNat v22) default).Args) (Int.toNat 0) default))), (36, [], .ref (List.drop 1 (ApiArg.cells (List.getD ((List.getD v20 (Int.toNat v22) default).Args) (Int.toNat 0) default)))), (37, [], .ref (List.drop 2 (List.drop 1 (ApiArg.cells (List.getD ((List.getD v20 (Int.toNat v22) default).Args) (Int.toNat 0) default))))), (38, [], .lit (.int .i64 (((List.getD ((List.getD v20 (Int.toNat v22) default).Args) (Int.toNat 0) default).V).N))), (39, [], FW.elA xd5 1 0), (54, [], .lit undef)], And.intro rfl (And.intro rfl (And.intro rfl (And.intro rfl (And.intro rfl (And.intro rfl (And.intro rfl (And.intro rfl (And.intro rfl (trivial))))))))), rfl, ?_⟩
     refine FW.glast ?_ ?_
     ·skip
      refine FW.gskip rfl rfl ?_
      refine FW.gskip rfl rfl ?_
      refine FW.gskip rfl rfl ?_
      refine FW.gskip rfl rfl ?_
      refine FW.gskip rfl rfl ?_
      refine FW.gskip rfl rfl ?_
      refine FW.gskip rfl rfl ?_
      refine FW.gskip rfl rfl ?_
      refine FW.gskip rfl rfl ?_
      refine FW.gskip0 rfl ?_
      exact FW.gend
     ·skip
      intro a w hk; simp only [FW.stD, cond_true] at hk
      replace hk := FW.S.cast (I' := [FW.blk bx6 29 ((ApiStep.cells (List.getD v20 (Int.toNat v22) default))), FW.blk bx5 59 (([.lit (.int .i64 y7_0), .row (r_c_str y7_1), .lit (.slice xd5 (List.length (List.set l5 (Int.toNat 0) (((List.getD ((List.getD v20 (Int.toNat v22) default).Args) (Int.toNat 0) default).V).N))) xc5), .row (r_ApiValue_cells y7_3)] : List FW.AV) ++ (ApiPred.cells y7_4) ++ ([.lit (.slice xd6 (List.length l6) xc6), .lit (.bool y7_6)] : List FW.AV)), FW.orow xd6 xc6 3 1 c_i64 l6, FW.blk b0 93 ([.lit (.slice xd2 (List.length l2) xc2)]), FW.orow xd2 xc2 55 1 c_s_ApiIns_cells l2, FW.orow xd5 xc5 2 1 c_i64 (List.set l5 (Int.toNat 0) (((List.getD ((List.getD v20 (Int.toNat v22) default).Args) (Int.toNat 0) default).V).N)), FW.blk bx2 59 ((ApiIns.cells (⟨0, [], [], [], (⟨[], [], []⟩ : ApiPred), [], false⟩ : ApiIns)))]) hk (by first | rfl | simp only [List.length_set]) rfl
      (repeat first | refine FW.tn ?_ | refine FW.bn ?_); exact q8 _ _ ⟨y7_0, y7_1, y7_3, y7_4, y7_6, l6, l2, (List.set l5 (Int.toNat 0) (((List.getD ((List.getD v20 (Int.toNat v22) default).Args) (Int.toNat 0) default).V).N)), v20, v21, v22, xd6, xc6, xd2, xc2, xd5, xc5, (hk.drop 0).sub ⟨rfl, rfl, rfl, rfl, rfl, rfl, trivial⟩, h⟩
   refine FW.wreg fun _ q14 => ?_
   refine FW.sSe hk fun a w hk => ?_
   refine FW.sA hk fun a w hk => ?_
   refine FW.lend (q14 _ _ ?_)
   refine FW.wcondF (b := (decide (((List.getD v20 (Int.toNat v22) default).Name) = ([117, 110, 116, 105, 108] : List UInt8)))) hk h rfl (fun h hb => ?_) (fun h hb => ?_)
   ·skip
    obtain ⟨hc5, h⟩ := FW.chk h
    obtain ⟨t2, hr_t2, h⟩ := FW.bnd h
    obtain ⟨hc6, h⟩ := FW.chk h
    refine FW.wdrawE1 (.next [true, true, true, true, true, true, true, true, false, false, false] 8 [true, true, true, true, true, true, true, true, false, false, false] (.next [true, true, false, false, false, false, false, false, false, true, false] 10 [true, true, true, true, true, true, true, true, true, true, false] (.leaf [false, false, false, false, false, false, false, false, false, false, false]))) [(42, [], .lit (.pointer (some ⟨bx5, 7, none⟩))), (43, [], .lit (.slice xd6 (List.length l6) xc6)), (44, [], .lit (.pointer (some ⟨b0, 0, none⟩))), (45, [], .lit (.pointer (some ⟨bx6, 1, none⟩))), (46, [], .row (r_ApiArg_cells ((List.getD v20 (Int.toNat v22) default).Args))), (47, [], .ref (ApiArg.cells (List.getD ((List.getD v20 (Int.toNat v22) default).Args) (Int.toNat 0) default))), (48, [], .ref (List.drop 10 (ApiArg.cells (List.getD ((List.getD v20 (Int.toNat v22) default).Args) (Int.toNat 0) default)))), (49, [], .row (r_ApiStep_cells ((List.getD ((List.getD v20 (Int.toNat v22) default).Args) (Int.toNat 0) default).T))), (50, [], .agg []), (51, [], .agg []), (54, [], .lit undef)] (by kernel_rfl) (by kernel_rfl) (by kernel_rfl) (by kernel_rfl) hk ?_; clear hk
    refine FW.gnext ?_ rfl rfl rfl rfl rfl ?_
    ·skip
     refine FW.gfun (y := .lit (.pointer (some ⟨bx5, 7, none⟩))) rfl rfl rfl rfl (fun a w hk => FW.f_fieldPtr hk FW.h0 rfl Try.underlying59 rfl (by kernel_rfl) rfl) ?_
     refine FW.gfun (y := .lit (.slice xd6 (List.length l6) xc6)) rfl rfl rfl rfl (fun a w hk => FW.f_loadBlk1 hk FW.h0 (j := 1) rfl rfl Try.underlying54 rfl rfl) ?_
     refine FW.gfun (y := .lit (.pointer (some ⟨b0, 0, none⟩))) rfl rfl rfl rfl (fun a w hk => FW.f_move hk FW.h0 rfl) ?_
     refine FW.gfun (y := .lit (.pointer (some ⟨bx6, 1, none⟩))) rfl rfl rfl rfl (fun a w hk => FW.f_fieldPtr hk FW.h0 rfl Try.underlying29 rfl (by kernel_rfl) rfl) ?_
     refine FW.gfun (y := .row (r_ApiArg_cells ((List.getD v20 (Int.toNat v22) default).Args))) rfl rfl rfl rfl (fun a w hk => FW.f_loadBlk1 hk FW.h0 (j := 0) rfl rfl Try.underlying27 rfl rfl) ?_
     refine FW.gfun (y := .ref (ApiArg.cells (List.getD ((List.getD v20 (Int.toNat v22) default).Args) (Int.toNat 0) default))) rfl rfl rfl rfl (fun a w hk => FW.f_indexAddr (R := r_ApiArg_cells) (f := ApiArg.cells) (l := (List.getD v20 (Int.toNat v22) default).Args) (sz := 11) r_ApiArg_cells_eq (fun _ => rfl) hk FW.h0 rfl rfl Try.underlying27 (by kernel_rfl) hc5) ?_
     refine FW.gfun (y := .ref (List.drop 10 (ApiArg.cells (List.getD ((List.getD v20 (Int.toNat v22) default).Args) (Int.toNat 0) default)))) rfl rfl rfl rfl (fun a w hk => FW.f_fieldAddr hk FW.h0 rfl Try.underlying38 rfl (by kernel_rfl) rfl) ?_
     refine FW.gfun (y := .row (r_ApiStep_cells ((List.getD ((List.getD v20 (Int.toNat v22) default).Args) (Int.toNat 0) default).T))) rfl rfl rfl rfl (fun a w hk => FW.f_load1 hk FW.h0 rfl rfl Try.underlying22 rfl) ?_
     refine FW.gskip rfl rfl ?_
     refine FW.gskip rfl rfl ?_
     refine FW.gskip0 rfl ?_
     exact FW.gend
    ·skip
     intro σD a w opsD QD hk hf hQ hX
     refine FW.l_callH (I1 := (OCM.items b0 xd2 xc2 (⟨l2⟩ : OCM))) (I2 := [FW.blk bx6 29 ((ApiStep.cells (List.getD v20 (Int.toNat v22) default))), FW.blk bx5 59 (([.lit (.int .i64 y7_0), .row (r_c_str y7_1), .lit (.slice xd5 (List.length l5) xc5), .row (r_ApiValue_cells y7_3)] : List FW.AV) ++ (ApiPred.cells y7_4) ++ ([.lit (.slice xd6 (List.length l6) xc6), .lit (.bool y7_6)] : List FW.AV)), FW.orow xd6 xc6 3 1 c_i64 l6, FW.orow xd5 xc5 2 1 c_i64 l5, FW.blk bx2 59 ((ApiIns.cells (⟨0, [], [], [], (⟨[], [], []⟩ : ApiPred), [], false⟩ : ApiIns)))]) (js := [4, 4]) hk rfl rfl hf rfl rfl Try.func48 rfl (by kernel_rfl) (hzB (⟨l2⟩ : OCM) ((List.getD ((List.getD v20 (Int.toNat v22) default).Args) (Int.toNat 0) default).T) _ hr_t2 b0 xd2 xc2) ?_; clear hk
     rintro _ _ ⟨zd2, zc2, rfl, rfl⟩ a w hk
     refine hQ _ _ a w ?_ hk; clear hk hQ hf hX
     refine ⟨[(42, [], .lit (.pointer (some ⟨bx5, 7, none⟩))), (43, [], .lit (.slice xd6 (List.length l6) xc6)), (44, [], .lit (.pointer (some ⟨b0, 0, none⟩))), (45, [], .lit (.pointer (some ⟨bx6, 1, none⟩))), (46, [], .row (r_ApiArg_cells ((List.getD v20 (Int.toNat v22) default).Args))), (47, [], .ref (ApiArg.cells (List.getD ((List.getD v20 (Int.toNat v22) default).Args) (Int.toNat 0) default))), (48, [], .ref (List.drop 10 (ApiArg.cells (List.getD ((List.getD v20 (Int.toNat v22) default).Args) (Int.toNat 0) default)))), (49, [], .row (r_ApiStep_cells ((List.getD ((List.getD v20 (Int.toNat v22) default).Args) (Int.toNat 0) default).T))), (50, [], .lit (.int .i64 t2.1)), (51, [], FW.elA xd6 1 1), (54, [], .lit undef)], And.intro rfl (And.intro rfl (And.intro rfl (And.intro rfl (And.intro rfl (And.intro rfl (And.intro rfl (And.intro rfl (trivial)))))))), rfl, ?_⟩
     refine FW.gnext0 ?_ rfl rfl rfl ?_
     ·skip
      refine FW.gfun (y := .lit (.pointer (some ⟨bx5, 7, none⟩))) rfl rfl rfl rfl (fun a w hk => FW.f_fieldPtr hk FW.h0 rfl Try.underlying59 rfl (by kernel_rfl) rfl) ?_
      refine FW.gfun (y := .lit (.slice xd6 (List.length l6) xc6)) rfl rfl rfl rfl (fun a w hk => FW.f_loadBlk1 hk FW.h0 (j := 3) rfl rfl Try.underlying54 rfl rfl) ?_
      refine FW.gskip rfl rfl ?_
      refine FW.gskip rfl rfl ?_
      refine FW.gskip rfl rfl ?_
      refine FW.gskip rfl rfl ?_
      refine FW.gskip rfl rfl ?_
      refine FW.gskip rfl rfl ?_
      refine FW.gskip rfl rfl ?_
      refine FW.gfun (y := FW.elA xd6 1 1) rfl rfl rfl rfl (fun a w hk => FW.f_idxOwn (f := c_i64) (l := l6) hk FW.h0 (j := 4) rfl rfl (by first | rfl | simp only [List.length_set]) rfl Try.underlying54 (by kernel_rfl) hc6) ?_
      refine FW.gskip0 rfl ?_
      exact FW.gend
     ·skip
      intro σD a w opsD QD hk hQ hX
      refine FW.l_storeOwn1 (f := c_i64) (l := l6) (v := t2.1) (I' := [FW.blk b0 93 ([.lit (.slice zd2 (List.length t2.2.out) zc2)]), FW.orow zd2 zc2 55 1 c_s_ApiIns_cells t2.2.out, FW.blk bx6 29 ((ApiStep.cells (List.getD v20 (Int.toNat v22) default))), FW.blk bx5 59 (([.lit (.int .i64 y7_0), .row (r_c_str y7_1), .lit (.slice xd5 (List.length l5) xc5), .row (r_ApiValue_cells y7_3)] : List FW.AV) ++ (ApiPred.cells y7_4) ++ ([.lit (.slice xd6 (List.length l6) xc6), .lit (.bool y7_6)] : List FW.AV)), FW.orow xd6 xc6 3 1 c_i64 (List.set l6 (Int.toNat 1) t2.1), FW.orow xd5 xc5 2 1 c_i64 l5, FW.blk bx2 59 ((ApiIns.cells (⟨0, [], [], [], (⟨[], [], []⟩ : ApiPred), [], false⟩ : ApiIns)))]) (j := 4) hk rfl rfl hc6 rfl rfl rfl rfl (by kernel_rfl) rfl fun w hk => ?_
      refine hQ _ a w ?_ hk; clear hk hQ hX
      refine ⟨[(42, [], .lit (.pointer (some ⟨bx5, 7, none⟩))), (43, [], .lit (.slice xd6 (List.length l6) xc6)), (44, [], .lit (.pointer (some ⟨b0, 0, none⟩))), (45, [], .lit (.pointer (some ⟨bx6, 1, none⟩))), (46, [], .row (r_ApiArg_cells ((List.getD v20 (Int.toNat v22) default).Args))), (47, [], .ref (ApiArg.cells (List.getD ((List.getD v20 (Int.toNat v22) default).Args) (Int.toNat 0) default))), (48, [], .ref (List.drop 10 (ApiArg.cells (List.getD ((List.getD v20 (Int.toNat v22) default).Args) (Int.toNat 0) default)))), (49, [], .row (r_ApiStep_cells ((List.getD ((List.getD v20 (Int.toNat v22) default).Args) (Int.toNat 0) default).T))), (50, [], .lit (.int .i64 t2.1)), (51, [], FW.elA xd6 1 1), (54, [], .lit undef)], And.intro rfl (And.intro rfl (And.intro rfl (And.intro rfl (And.intro rfl (And.intro rfl (And.intro rfl (And.intro rfl (And.intro rfl (And.intro rfl (trivial)))))))))), rfl, ?_⟩
      refine FW.glast ?_ ?_
      ·skip
       refine FW.gskip rfl rfl ?_
       refine FW.gskip rfl rfl ?_
       refine FW.gskip rfl rfl ?_
       refine FW.gskip rfl rfl ?_
       refine FW.gskip rfl rfl ?_
       refine FW.gskip rfl rfl ?_
       refine FW.gskip rfl rfl ?_
       refine FW.gskip rfl rfl ?_
       refine FW.gskip rfl rfl ?_
       refine FW.gskip rfl rfl ?_
       refine FW.gskip0 rfl ?_
       exact FW.gend
      ·skip
       intro a w hk; simp only [FW.stD, cond_true] at hk
       replace hk := FW.S.cast (I' := [FW.blk b0 93 ([.lit (.slice zd2 (List.length t2.2.out) zc2)]), FW.orow zd2 zc2 55 1 c_s_ApiIns_cells t2.2.out, FW.blk bx6 29 ((ApiStep.cells (List.getD v20 (Int.toNat v22) default))), FW.blk bx5 59 (([.lit (.int .i64 y7_0), .row (r_c_str y7_1), .lit (.slice xd5 (List.length l5) xc5), .row (r_ApiValue_cells y7_3)] : List FW.AV) ++ (ApiPred.cells y7_4) ++ ([.lit (.slice xd6 (List.length (List.set l6 (Int.toNat 1) t2.1)) xc6), .lit (.bool y7_6)] : List FW.AV)), FW.orow xd6 xc6 3 1 c_i64 (List.set l6 (Int.toNat 1) t2.1), FW.orow xd5 xc5 2 1 c_i64 l5, FW.blk bx2 59 ((ApiIns.cells (⟨0, [], [], [], (⟨[], [], []⟩ : ApiPred), [], false⟩ : ApiIns)))]) hk (by first | rfl | simp only [List.length_set]) rfl
       (repeat first | refine FW.tn ?_ | refine FW.bn ?_); exact q8 _ _ ⟨y7_0, y7_1, y7_3, y7_4, y7_6, (List.set l6 (Int.toNat 1) t2.1), t2.2.out, l5, v20, v21, v22, xd6, xc6, zd2, zc2, xd5, xc5, (FW.S.pick (hk.drop 2) (js := [5, 5, 3, 3, 5, 5]) rfl).sub ⟨rfl, rfl, rfl, rfl, rfl, rfl, trivial⟩, h⟩
   refine FW.wreg1 ?_
   refine FW.sFp 8 hk Try.underlying59 fun a w hk => ?_
   refine FW.st1 (cs' := ([.lit (.int .i64 y7_0), .row (r_c_str y7_1), .lit (.slice xd5 (List.length l5) xc5), .row (r_ApiValue_cells y7_3)] : List FW.AV) ++ (ApiPred.cells y7_4) ++ ([.lit (.slice xd6 (List.length l6) xc6), .lit (.bool true)] : List FW.AV)) hk rfl (by kernel_rfl) fun w hk => ?_
   refine wpList_nil ?_
   (repeat first | refine FW.tn ?_ | refine FW.bn ?_); exact q8 _ _ ⟨y7_0, y7_1, y7_3, y7_4, true, l6, l2, l5, v20, v21, v22, xd6, xc6, xd2, xc2, xd5, xc5, (hk.drop 0).sub ⟨rfl, rfl, rfl, rfl, rfl, rfl, trivial⟩, h⟩
 refine wp_exit ?_; (repeat first | refine FW.then_exit ?_ | refine FW.block_exit_ne rfl ?_); refine FW.block_exit ?_
 (repeat first | refine FW.tn ?_ | refine FW.bn ?_); refine q3 _ _ ?_
 refine FW.wreg fun _ q17 => ?_
 replace hk := FW.S.freezeBlk (I1 := [FW.blk bx5 59 (([.lit (.int .i64 y7_0), .row (r_c_str y7_1), .lit (.slice xd5 (List.length l5) xc5), .row (r_ApiValue_cells y7_3)] : List FW.AV) ++ (ApiPred.cells y7_4) ++ ([.lit (.slice xd6 (List.length l6) xc6), .lit (.bool y7_6)] : List FW.AV)), FW.orow xd6 xc6 3 1 c_i64 l6, FW.blk b0 93 ([.lit (.slice xd2 (List.length l2) xc2)]), FW.orow xd2 xc2 55 1 c_s_ApiIns_cells l2, FW.blk bx2 59 ((ApiIns.cells (⟨0, [], [], [], (⟨[], [], []⟩ : ApiPred), [], false⟩ : ApiIns)))]) (cs' := ([.lit (.int .i64 y7_0), .row (r_c_str y7_1), .row (r_c_i64 l5), .row (r_ApiValue_cells y7_3)] : List FW.AV) ++ (ApiPred.cells y7_4) ++ ([.lit (.slice xd6 (List.length l6) xc6), .lit (.bool y7_6)] : List FW.AV)) (I' := [FW.blk bx5 59 (([.lit (.int .i64 y7_0), .row (r_c_str y7_1), .row (r_c_i64 l5), .row (r_ApiValue_cells y7_3)] : List FW.AV) ++ (ApiPred.cells y7_4) ++ ([.lit (.slice xd6 (List.length l6) xc6), .lit (.bool y7_6)] : List FW.AV)), FW.orow xd6 xc6 3 1 c_i64 l6, FW.blk b0 93 ([.lit (.slice xd2 (List.length l2) xc2)]), FW.orow xd2 xc2 55 1 c_s_ApiIns_cells l2, FW.blk bx2 59 ((ApiIns.cells (⟨0, [], [], [], (⟨[], [], []⟩ : ApiPred), [], false⟩ : ApiIns)))]) r_c_i64_eq hk 4 0 2 rfl rfl rfl rfl rfl rfl
 replace hk := FW.S.freezeBlk (I1 := [FW.blk bx5 59 (([.lit (.int .i64 y7_0), .row (r_c_str y7_1), .row (r_c_i64 l5), .row (r_ApiValue_cells y7_3)] : List FW.AV) ++ (ApiPred.cells y7_4) ++ ([.lit (.slice xd6 (List.length l6) xc6), .lit (.bool y7_6)] : List FW.AV)), FW.blk b0 93 ([.lit (.slice xd2 (List.length l2) xc2)]), FW.orow xd2 xc2 55 1 c_s_ApiIns_cells l2, FW.blk bx2 59 ((ApiIns.cells (⟨0, [], [], [], (⟨[], [], []⟩ : ApiPred), [], false⟩ : ApiIns)))]) (cs' := (ApiIns.cells (⟨y7_0, y7_1, l5, y7_3, y7_4, l6, y7_6⟩ : ApiIns))) (I' := [FW.blk bx5 59 ((ApiIns.cells (⟨y7_0, y7_1, l5, y7_3, y7_4, l6, y7_6⟩ : ApiIns))), FW.blk b0 93 ([.lit (.slice xd2 (List.length l2) xc2)]), FW.orow xd2 xc2 55 1 c_s_ApiIns_cells l2, FW.blk bx2 59 ((ApiIns.cells (⟨0, [], [], [], (⟨[], [], []⟩ : ApiPred), [], false⟩ : ApiIns)))]) r_c_i64_eq hk 1 0 7 rfl rfl rfl rfl rfl rfl
 refine FW.lf (y := .agg ((ApiIns.cells (⟨y7_0, y7_1, l5, y7_3, y7_4, l6, y7_6⟩ : ApiIns)))) hk (FW.f_loadBlk hk FW.h0 (j := 0) rfl rfl Try.underlying59 rfl rfl rfl rfl) fun a w hk => ?_
 refine FW.st3 (cs' := (ApiIns.cells (⟨y7_0, y7_1, l5, y7_3, y7_4, l6, y7_6⟩ : ApiIns))) hk rfl (by kernel_rfl) fun w hk => ?_
 refine FW.lend (q17 _ _ ?_)
 refine wp_ret ?_
 (repeat first | refine FW.then_ret ?_ | refine FW.block_ret ?_)
 obtain rfl := Option.some.inj h
 have hr_0 := FW.rres_keep (I1 := [FW.blk b0 93 ([.lit (.slice xd2 (List.length l2) xc2)]), FW.orow xd2 xc2 55 1 c_s_ApiIns_cells l2]) (I2 := [FW.blk bx5 59 ((ApiIns.cells (⟨y7_0, y7_1, l5, y7_3, y7_4, l6, y7_6⟩ : ApiIns))), FW.blk bx2 59 ((ApiIns.cells (⟨y7_0, y7_1, l5, y7_3, y7_4, l6, y7_6⟩ : ApiIns)))]) (js := [2, 2]) rfl (FW.rcell (tt := 6) hk rfl (j := 3) rfl Try.underlying59 rfl (by kernel_rfl))
 replace hk := FW.S.keep (I1 := [FW.blk b0 93 ([.lit (.slice xd2 (List.length l2) xc2)]), FW.orow xd2 xc2 55 1 c_s_ApiIns_cells l2]) (I2 := [FW.blk bx5 59 ((ApiIns.cells (⟨y7_0, y7_1, l5, y7_3, y7_4, l6, y7_6⟩ : ApiIns))), FW.blk bx2 59 ((ApiIns.cells (⟨y7_0, y7_1, l5, y7_3, y7_4, l6, y7_6⟩ : ApiIns)))]) (js := [2, 2]) hk rfl
 exact FW.fretH1 hk rfl hr_0 ⟨xd2, xc2, rfl, rfl⟩
end Go.Proofs.Ytbjbgodcenopnaa

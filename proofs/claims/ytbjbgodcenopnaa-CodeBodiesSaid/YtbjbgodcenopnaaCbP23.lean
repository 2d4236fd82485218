/- Written by a program of this session (gen.py): the contracts of functions of the program. -/
import Derived.Test.YtbjbgodcenopnaaCbP22
namespace Go.Proofs.Ytbjbgodcenopnaa
set_option linter.unusedVariables false
set_option maxRecDepth 20000
set_option maxHeartbeats 10000000
theorem cm_addE.bok (zB : OCM → List ApiStep → Option (Int × OCM)) (zI : OCM → ApiStep → List ApiStep → Option (ApiIns × OCM)) (zK : OCM → List ApiArg → Option (List Int × OCM)) (zO : OCM → ApiStep → List ApiStep → Option (ApiIns × OCM)) (zY : OCM → List ApiStep → Int → Option (List Int × OCM)) (zb : OCM → ApiStep → Option (Int × OCM)) (zR : OCM → List ApiStep → Option (ApiIns × OCM)) (zT : OCM → ApiStep → List ApiStep → Option (ApiIns × OCM)) (zE : OCM → ApiStep → List ApiStep → Option (ApiIns × OCM)) (hzB : ZzB zB) (hzI : ZzI zI) (hzK : ZzK zK) (hzO : ZzO zO) (hzY : ZzY zY) (hzb : Zzb zb) (hzR : ZzR zR) (hzT : ZzT zT) (hzE : ZzE zE) (K : Nat) (v0 : OCM) (v1 : ApiStep) (v2 : List ApiStep) (r : ApiIns × OCM) (h : cm_addE.b zB zI zK zO zY zb zR zT zE K v0 v1 v2 = some r) :
  ∀ (b0 : Nat) (xd0_0 : Option Addr) (xc0_0 : Nat), FW.OkH Try.prog 134 [.lit (.pointer (some ⟨b0, 0, none⟩)), .agg (ApiStep.cells v1), .row (r_ApiStep_cells v2)] (OCM.items b0 xd0_0 xc0_0 v0) (fun y I => ∃ (zxd0_0 : Option Addr) (zxc0_0 : Nat), y = .agg (ApiIns.cells r.1) ∧ I = OCM.items b0 zxd0_0 zxc0_0 r.2) := by
 intro b0 xd0_0 xc0_0
 refine FW.enterH (xs := [.lit (.pointer (some ⟨b0, 0, none⟩)), .agg (ApiStep.cells v1), .row (r_ApiStep_cells v2)]) Try.func134 rfl Try.ntmps134 rfl ?_
 intro M w0 a hk
 replace hk : FW.S M w0 a w0.toWorld 42 [FW.blk b0 93 ([.lit (.slice xd0_0 (List.length v0.out) xc0_0)]), FW.orow xd0_0 xc0_0 55 1 c_s_ApiIns_cells v0.out] [(0, [], .lit (.pointer (some ⟨b0, 0, none⟩))), (1, [], .agg ((ApiStep.cells v1))), (2, [], .row (r_ApiStep_cells v2))] := hk
 unfold cm_addE.b at h
 refine FW.wreg fun _ q1 => ?_
 refine FW.l_box (cs := (ApiStep.cells v1)) hk rfl rfl rfl rfl rfl ?_; clear hk; intro bx1 a w hk
 refine FW.l_alloc (zs := (ApiIns.cells (⟨0, [], [], [], (⟨[], [], []⟩ : ApiPred), [], false⟩ : ApiIns))) [] hk rfl rfl rfl rfl ?_; clear hk; intro bx2 a w hk
 refine FW.lend (q1 _ _ ?_)
 refine FW.wreg fun _ q2 => ?_
 refine FW.sFp 1 hk Try.underlying29 fun a w hk => ?_
 refine FW.lf (y := .row (r_ApiArg_cells v1.Args)) hk (FW.f_loadBlk1 hk FW.h0 (j := 1) rfl rfl Try.underlying27 rfl rfl) fun a w hk => ?_
 obtain ⟨t1, hr_t1, h⟩ := FW.bnd h
 refine FW.lf (y := .row (r_c_str t1)) hk (FW.f_call hk FW.h0 rfl rfl Try.func102 rfl (by kernel_rfl) (code_names.ok K v1.Args _ hr_t1)) fun a w hk => ?_
 refine FW.l_buildSlice (f := c_i64) (l := ([(-1), (-1)] : List Int)) hk rfl rfl rfl Try.underlying54 rfl rfl rfl rfl (fun _ => rfl) rfl ?_; clear hk; intro bx3 a w hk
 refine FW.lf (y := .agg (([.lit (.int .i64 5), .row (r_c_str t1), .row (r_c_i64 []), .row (r_ApiValue_cells [])] : List FW.AV) ++ (ApiPred.cells (⟨[], [], []⟩ : ApiPred)) ++ ([.lit (.slice (some ⟨bx3, 0, none⟩) (List.length ([(-1), (-1)] : List Int)) 2), .lit (.bool false)] : List FW.AV))) hk (FW.f_buildN [] hk FW.h0 rfl rfl rfl) fun a w hk => ?_
 refine FW.l_alloc (zs := (ApiIns.cells (⟨0, [], [], [], (⟨[], [], []⟩ : ApiPred), [], false⟩ : ApiIns))) [] hk rfl rfl rfl rfl ?_; clear hk; intro bx4 a w hk
 refine FW.st0 (cs' := ([.lit (.int .i64 5), .row (r_c_str t1), .row (r_c_i64 []), .row (r_ApiValue_cells [])] : List FW.AV) ++ (ApiPred.cells (⟨[], [], []⟩ : ApiPred)) ++ ([.lit (.slice (some ⟨bx3, 0, none⟩) (List.length ([(-1), (-1)] : List Int)) 2), .lit (.bool false)] : List FW.AV)) hk rfl (by kernel_rfl) fun w hk => ?_
 refine FW.lend (q2 _ _ ?_)
 refine FW.wseq fun _ q3 => ?_
 refine FW.wreg fun _ q4 => ?_
 refine FW.sM hk fun a w hk => ?_
 refine FW.lf (y := .lit (.int .i64 (List.length v2 : Int))) hk (FW.f_len (R := r_ApiStep_cells) (f := ApiStep.cells) (l := v2) r_ApiStep_cells_eq Try.underlying22 hk FW.h0 rfl) fun a w hk => ?_
 refine FW.sM hk fun a w hk => ?_
 refine FW.lend (q4 _ _ ?_)
 refine wp_block ?_
 refine FW.wloop (T := Nat × Int × List (List UInt8) × List Int × List ApiValue × ApiPred × Bool × List Int × List (List ApiIns) × List ApiStep × Int × Int × Option Addr × Nat × Option Addr × Nat) (fun x a w => match x with | (kl1, y6_0, y6_1, y6_2, y6_3, y6_4, y6_6, l5, l2, v16, v17, v18, xd5, xc5, xd2, xc2) => FW.S M w0 a w 42 [FW.blk bx4 59 (([.lit (.int .i64 y6_0), .row (r_c_str y6_1), .row (r_c_i64 y6_2), .row (r_ApiValue_cells y6_3)] : List FW.AV) ++ (ApiPred.cells y6_4) ++ ([.lit (.slice xd5 (List.length l5) xc5), .lit (.bool y6_6)] : List FW.AV)), FW.orow xd5 xc5 3 1 c_i64 l5, FW.blk bx2 59 ((ApiIns.cells (⟨0, [], [], [], (⟨[], [], []⟩ : ApiPred), [], false⟩ : ApiIns))), FW.blk b0 93 ([.lit (.slice xd2 (List.length l2) xc2)]), FW.orow xd2 xc2 55 1 c_s_ApiIns_cells l2] [(0, [], .lit (.pointer (some ⟨b0, 0, none⟩))), (6, [], .lit (.pointer (some ⟨bx2, 0, none⟩))), (7, [], .lit (.pointer (some ⟨bx4, 0, none⟩))), (16, [], .row (r_ApiStep_cells v16)), (17, [], .lit (.int .i64 v17)), (18, [], .lit (.int .i64 v18))] ∧ cm_addE.l1 zB zI zK zO zY zb zR zT zE K kl1 y6_0 y6_1 y6_2 y6_3 y6_4 y6_6 l5 l2 v16 v17 v18 = some r) (fun x => x.1) (K, 5, t1, [], [], (⟨[], [], []⟩ : ApiPred), false, ([(-1), (-1)] : List Int), v0.out, v2, (List.length v2 : Int), 0, (some ⟨bx3, 0, none⟩), 2, xd0_0, xc0_0) ⟨(hk.drop 3).sub ⟨rfl, rfl, rfl, rfl, rfl, rfl, trivial⟩, h⟩ ?_
 clear hk h
 rintro ⟨kl1, y6_0, y6_1, y6_2, y6_3, y6_4, y6_6, l5, l2, v16, v17, v18, xd5, xc5, xd2, xc2⟩ a w ⟨hk, h⟩ K' q5
 cases kl1 with
 | zero => simp [cm_addE.l1] at h
 | succ kl1 =>
 rw [cm_addE.l1.eq_2] at h
 refine FW.wreg fun _ q6 => ?_
 refine FW.sLt hk fun a w hk => ?_
 refine FW.lend (q6 _ _ ?_)
 refine FW.wseq fun _ q7 => ?_
 refine FW.wcondF (b := (decide (v18 < v17))) hk h rfl (fun h hb => ?_) (fun h hb => ?_)
 ·skip
  refine wp_skip ?_
  (repeat first | refine FW.tn ?_ | refine FW.bn ?_); refine q7 _ _ ?_
  refine FW.wseqJ (fun a w => ∃ (l2 : List (List ApiIns)) (y6_0 : Int) (y6_1 : List (List UInt8)) (y6_2 : List Int) (y6_3 : List ApiValue) (y6_4 : ApiPred) (y6_6 : Bool) (l5 : List Int) (v16 : List ApiStep) (v17 : Int) (v18 : Int) (xd2 : Option Addr) (xc2 : Nat) (xd5 : Option Addr) (xc5 : Nat), FW.S M w0 a w 42 [FW.blk b0 93 ([.lit (.slice xd2 (List.length l2) xc2)]), FW.orow xd2 xc2 55 1 c_s_ApiIns_cells l2, FW.blk bx4 59 (([.lit (.int .i64 y6_0), .row (r_c_str y6_1), .row (r_c_i64 y6_2), .row (r_ApiValue_cells y6_3)] : List FW.AV) ++ (ApiPred.cells y6_4) ++ ([.lit (.slice xd5 (List.length l5) xc5), .lit (.bool y6_6)] : List FW.AV)), FW.orow xd5 xc5 3 1 c_i64 l5, FW.blk bx2 59 ((ApiIns.cells (⟨0, [], [], [], (⟨[], [], []⟩ : ApiPred), [], false⟩ : ApiIns)))] [(0, [], .lit (.pointer (some ⟨b0, 0, none⟩))), (6, [], .lit (.pointer (some ⟨bx2, 0, none⟩))), (7, [], .lit (.pointer (some ⟨bx4, 0, none⟩))), (16, [], .row (r_ApiStep_cells v16)), (17, [], .lit (.int .i64 v17)), (18, [], .lit (.int .i64 v18))] ∧ cm_addE.j1 zB zI zK zO zY zb zR zT zE (cm_addE.l1 zB zI zK zO zY zb zR zT zE K kl1) K l2 y6_0 y6_1 y6_2 y6_3 y6_4 y6_6 l5 v16 v17 v18 = some r) ?_ ?_
  ·clear hk h
   rintro a w ⟨l2, y6_0, y6_1, y6_2, y6_3, y6_4, y6_6, l5, v16, v17, v18, xd2, xc2, xd5, xc5, hk, h⟩
   unfold cm_addE.j1 at h
   refine FW.wreg1 ?_
   refine FW.sAd hk fun a w hk => ?_
   refine FW.sM hk fun a w hk => ?_
   refine wpList_nil ?_
   (repeat first | refine FW.tn ?_ | refine FW.bn ?_); exact q5 (kl1, y6_0, y6_1, y6_2, y6_3, y6_4, y6_6, l5, l2, v16, v17, (IntKind.wrap .i64 (v18 + 1)), xd5, xc5, xd2, xc2) _ _ (Nat.lt_succ_self _) ⟨(FW.S.pick hk (js := [1, 1, 4, 4, 4]) rfl).sub ⟨rfl, rfl, rfl, rfl, rfl, rfl, trivial⟩, h⟩
  ·intro K' q8
   refine wp_block ?_
   refine FW.wreg fun _ q10 => ?_
   obtain ⟨hc1, h⟩ := FW.chk h
   refine FW.lf (y := .ref (ApiStep.cells (List.getD v16 (Int.toNat v18) default))) hk (FW.f_indexAddr (R := r_ApiStep_cells) (f := ApiStep.cells) (l := v16) (sz := 2) r_ApiStep_cells_eq (fun _ => rfl) hk FW.h0 rfl rfl Try.underlying22 (by kernel_rfl) hc1) fun a w hk => ?_
   refine FW.lf (y := .agg ((ApiStep.cells (List.getD v16 (Int.toNat v18) default)))) hk (FW.f_load hk FW.h0 rfl Try.underlying29 rfl rfl rfl rfl) fun a w hk => ?_
   refine FW.l_alloc (zs := (ApiStep.cells (⟨[], []⟩ : ApiStep))) [] hk rfl rfl rfl rfl ?_; clear hk; intro bx5 a w hk
   refine FW.st0 (cs' := (ApiStep.cells (List.getD v16 (Int.toNat v18) default))) hk rfl (by kernel_rfl) fun w hk => ?_
   refine FW.lend (q10 _ _ ?_)
   refine FW.wreg fun _ q11 => ?_
   refine FW.sM hk fun a w hk => ?_
   refine FW.sFp 1 hk Try.underlying29 fun a w hk => ?_
   refine FW.lf (y := .row (r_ApiArg_cells ((List.getD v16 (Int.toNat v18) default).Args))) hk (FW.f_loadBlk1 hk FW.h0 (j := 0) rfl rfl Try.underlying27 rfl rfl) fun a w hk => ?_
   obtain ⟨hc2, h⟩ := FW.chk h
   refine FW.lf (y := .ref (ApiArg.cells (List.getD ((List.getD v16 (Int.toNat v18) default).Args) (Int.toNat 0) default))) hk (FW.f_indexAddr (R := r_ApiArg_cells) (f := ApiArg.cells) (l := (List.getD v16 (Int.toNat v18) default).Args) (sz := 11) r_ApiArg_cells_eq (fun _ => rfl) hk FW.h0 rfl rfl Try.underlying27 (by kernel_rfl) hc2) fun a w hk => ?_
   refine FW.lf (y := .ref (List.drop 10 (ApiArg.cells (List.getD ((List.getD v16 (Int.toNat v18) default).Args) (Int.toNat 0) default)))) hk (FW.f_fieldAddr hk FW.h0 rfl Try.underlying38 rfl (by kernel_rfl) rfl) fun a w hk => ?_
   refine FW.lf (y := .row (r_ApiStep_cells ((List.getD ((List.getD v16 (Int.toNat v18) default).Args) (Int.toNat 0) default).T))) hk (FW.f_load1 hk FW.h0 rfl rfl Try.underlying22 rfl) fun a w hk => ?_
   obtain ⟨t2, hr_t2, h⟩ := FW.bnd h
   refine FW.l_callH (I1 := (OCM.items b0 xd2 xc2 (⟨l2⟩ : OCM))) (I2 := [FW.blk bx5 29 ((ApiStep.cells (List.getD v16 (Int.toNat v18) default))), FW.blk bx4 59 (([.lit (.int .i64 y6_0), .row (r_c_str y6_1), .row (r_c_i64 y6_2), .row (r_ApiValue_cells y6_3)] : List FW.AV) ++ (ApiPred.cells y6_4) ++ ([.lit (.slice xd5 (List.length l5) xc5), .lit (.bool y6_6)] : List FW.AV)), FW.orow xd5 xc5 3 1 c_i64 l5, FW.blk bx2 59 ((ApiIns.cells (⟨0, [], [], [], (⟨[], [], []⟩ : ApiPred), [], false⟩ : ApiIns)))]) (js := [5, 5]) hk rfl rfl rfl rfl rfl Try.func48 rfl (by kernel_rfl) (hzB (⟨l2⟩ : OCM) ((List.getD ((List.getD v16 (Int.toNat v18) default).Args) (Int.toNat 0) default).T) _ hr_t2 b0 xd2 xc2) ?_; clear hk
   rintro _ _ ⟨zd1, zc1, rfl, rfl⟩ a w hk
   refine FW.sA hk fun a w hk => ?_
   refine FW.lend (q11 _ _ ?_)
   refine FW.wreg fun _ q12 => ?_
   refine FW.sFp 0 hk Try.underlying29 fun a w hk => ?_
   refine FW.lf (y := .lit (.string (FW.B ((List.getD v16 (Int.toNat v18) default).Name)))) hk (FW.f_loadBlk1 hk FW.h0 (j := 2) rfl rfl Try.underlying9 rfl rfl) fun a w hk => ?_
   refine FW.sSe hk fun a w hk => ?_
   refine FW.lend (q12 _ _ ?_)
   refine FW.wcondF (b := (decide (((List.getD v16 (Int.toNat v18) default).Name) = ([116, 111] : List UInt8)))) hk h rfl (fun h hb => ?_) (fun h hb => ?_)
   ·skip
    refine FW.wreg1 ?_
    refine FW.sFp 7 hk Try.underlying59 fun a w hk => ?_
    refine FW.lf (y := .lit (.slice xd5 (List.length l5) xc5)) hk (FW.f_loadBlk1 hk FW.h0 (j := 3) rfl rfl Try.underlying54 rfl rfl) fun a w hk => ?_
    refine FW.sM hk fun a w hk => ?_
    obtain ⟨hc3, h⟩ := FW.chk h
    refine FW.lf (y := FW.elA xd5 1 0) hk (FW.f_idxOwn (f := c_i64) (l := l5) hk FW.h0 (j := 4) rfl rfl (by first | rfl | simp only [List.length_set]) rfl Try.underlying54 (by kernel_rfl) hc3) fun a w hk => ?_
    refine FW.l_storeOwn1 (f := c_i64) (l := l5) (v := t2.1) (I' := [FW.blk b0 93 ([.lit (.slice zd1 (List.length t2.2.out) zc1)]), FW.orow zd1 zc1 55 1 c_s_ApiIns_cells t2.2.out, FW.blk bx5 29 ((ApiStep.cells (List.getD v16 (Int.toNat v18) default))), FW.blk bx4 59 (([.lit (.int .i64 y6_0), .row (r_c_str y6_1), .row (r_c_i64 y6_2), .row (r_ApiValue_cells y6_3)] : List FW.AV) ++ (ApiPred.cells y6_4) ++ ([.lit (.slice xd5 (List.length l5) xc5), .lit (.bool y6_6)] : List FW.AV)), FW.orow xd5 xc5 3 1 c_i64 (List.set l5 (Int.toNat 0) t2.1), FW.blk bx2 59 ((ApiIns.cells (⟨0, [], [], [], (⟨[], [], []⟩ : ApiPred), [], false⟩ : ApiIns)))]) (j := 4) hk rfl rfl hc3 rfl rfl rfl rfl (by kernel_rfl) rfl fun w hk => ?_
    refine wpList_nil ?_
    replace hk := FW.S.cast (I' := [FW.blk b0 93 ([.lit (.slice zd1 (List.length t2.2.out) zc1)]), FW.orow zd1 zc1 55 1 c_s_ApiIns_cells t2.2.out, FW.blk bx5 29 ((ApiStep.cells (List.getD v16 (Int.toNat v18) default))), FW.blk bx4 59 (([.lit (.int .i64 y6_0), .row (r_c_str y6_1), .row (r_c_i64 y6_2), .row (r_ApiValue_cells y6_3)] : List FW.AV) ++ (ApiPred.cells y6_4) ++ ([.lit (.slice xd5 (List.length (List.set l5 (Int.toNat 0) t2.1)) xc5), .lit (.bool y6_6)] : List FW.AV)), FW.orow xd5 xc5 3 1 c_i64 (List.set l5 (Int.toNat 0) t2.1), FW.blk bx2 59 ((ApiIns.cells (⟨0, [], [], [], (⟨[], [], []⟩ : ApiPred), [], false⟩ : ApiIns)))]) hk (by first | rfl | simp only [List.length_set]) rfl
    (repeat first | refine FW.tn ?_ | refine FW.bn ?_); exact q8 _ _ ⟨t2.2.out, y6_0, y6_1, y6_2, y6_3, y6_4, y6_6, (List.set l5 (Int.toNat 0) t2.1), v16, v17, v18, zd1, zc1, xd5, xc5, (hk.drop 2).sub ⟨rfl, rfl, rfl, rfl, rfl, rfl, trivial⟩, h⟩
   refine FW.wreg1 ?_
   refine FW.sFp 7 hk Try.underlying59 fun a w hk => ?_
   refine FW.lf (y := .lit (.slice xd5 (List.length l5) xc5)) hk (FW.f_loadBlk1 hk FW.h0 (j := 3) rfl rfl Try.underlying54 rfl rfl) fun a w hk => ?_
   refine FW.sM hk fun a w hk => ?_
   obtain ⟨hc4, h⟩ := FW.chk h
   refine FW.lf (y := FW.elA xd5 1 1) hk (FW.f_idxOwn (f := c_i64) (l := l5) hk FW.h0 (j := 4) rfl rfl (by first | rfl | simp only [List.length_set]) rfl Try.underlying54 (by kernel_rfl) hc4) fun a w hk => ?_
   refine FW.l_storeOwn1 (f := c_i64) (l := l5) (v := t2.1) (I' := [FW.blk b0 93 ([.lit (.slice zd1 (List.length t2.2.out) zc1)]), FW.orow zd1 zc1 55 1 c_s_ApiIns_cells t2.2.out, FW.blk bx5 29 ((ApiStep.cells (List.getD v16 (Int.toNat v18) default))), FW.blk bx4 59 (([.lit (.int .i64 y6_0), .row (r_c_str y6_1), .row (r_c_i64 y6_2), .row (r_ApiValue_cells y6_3)] : List FW.AV) ++ (ApiPred.cells y6_4) ++ ([.lit (.slice xd5 (List.length l5) xc5), .lit (.bool y6_6)] : List FW.AV)), FW.orow xd5 xc5 3 1 c_i64 (List.set l5 (Int.toNat 1) t2.1), FW.blk bx2 59 ((ApiIns.cells (⟨0, [], [], [], (⟨[], [], []⟩ : ApiPred), [], false⟩ : ApiIns)))]) (j := 4) hk rfl rfl hc4 rfl rfl rfl rfl (by kernel_rfl) rfl fun w hk => ?_
   refine wpList_nil ?_
   replace hk := FW.S.cast (I' := [FW.blk b0 93 ([.lit (.slice zd1 (List.length t2.2.out) zc1)]), FW.orow zd1 zc1 55 1 c_s_ApiIns_cells t2.2.out, FW.blk bx5 29 ((ApiStep.cells (List.getD v16 (Int.toNat v18) default))), FW.blk bx4 59 (([.lit (.int .i64 y6_0), .row (r_c_str y6_1), .row (r_c_i64 y6_2), .row (r_ApiValue_cells y6_3)] : List FW.AV) ++ (ApiPred.cells y6_4) ++ ([.lit (.slice xd5 (List.length (List.set l5 (Int.toNat 1) t2.1)) xc5), .lit (.bool y6_6)] : List FW.AV)), FW.orow xd5 xc5 3 1 c_i64 (List.set l5 (Int.toNat 1) t2.1), FW.blk bx2 59 ((ApiIns.cells (⟨0, [], [], [], (⟨[], [], []⟩ : ApiPred), [], false⟩ : ApiIns)))]) hk (by first | rfl | simp only [List.length_set]) rfl
   (repeat first | refine FW.tn ?_ | refine FW.bn ?_); exact q8 _ _ ⟨t2.2.out, y6_0, y6_1, y6_2, y6_3, y6_4, y6_6, (List.set l5 (Int.toNat 1) t2.1), v16, v17, v18, zd1, zc1, xd5, xc5, (hk.drop 2).sub ⟨rfl, rfl, rfl, rfl, rfl, rfl, trivial⟩, h⟩
 refine wp_exit ?_; (repeat first | refine FW.then_exit ?_ | refine FW.block_exit_ne rfl ?_); refine FW.block_exit ?_
 (repeat first | refine FW.tn ?_ | refine FW.bn ?_); refine q3 _ _ ?_
 refine FW.wreg fun _ q15 => ?_
 replace hk := FW.S.freezeBlk (I1 := [FW.blk bx4 59 (([.lit (.int .i64 y6_0), .row (r_c_str y6_1), .row (r_c_i64 y6_2), .row (r_ApiValue_cells y6_3)] : List FW.AV) ++ (ApiPred.cells y6_4) ++ ([.lit (.slice xd5 (List.length l5) xc5), .lit (.bool y6_6)] : List FW.AV)), FW.blk bx2 59 ((ApiIns.cells (⟨0, [], [], [], (⟨[], [], []⟩ : ApiPred), [], false⟩ : ApiIns))), FW.blk b0 93 ([.lit (.slice xd2 (List.length l2) xc2)]), FW.orow xd2 xc2 55 1 c_s_ApiIns_cells l2]) (cs' := (ApiIns.cells (⟨y6_0, y6_1, y6_2, y6_3, y6_4, l5, y6_6⟩ : ApiIns))) (I' := [FW.blk bx4 59 ((ApiIns.cells (⟨y6_0, y6_1, y6_2, y6_3, y6_4, l5, y6_6⟩ : ApiIns))), FW.blk bx2 59 ((ApiIns.cells (⟨0, [], [], [], (⟨[], [], []⟩ : ApiPred), [], false⟩ : ApiIns))), FW.blk b0 93 ([.lit (.slice xd2 (List.length l2) xc2)]), FW.orow xd2 xc2 55 1 c_s_ApiIns_cells l2]) r_c_i64_eq hk 1 0 7 rfl rfl rfl rfl rfl rfl
 refine FW.lf (y := .agg ((ApiIns.cells (⟨y6_0, y6_1, y6_2, y6_3, y6_4, l5, y6_6⟩ : ApiIns)))) hk (FW.f_loadBlk hk FW.h0 (j := 0) rfl rfl Try.underlying59 rfl rfl rfl rfl) fun a w hk => ?_
 refine FW.st1 (cs' := (ApiIns.cells (⟨y6_0, y6_1, y6_2, y6_3, y6_4, l5, y6_6⟩ : ApiIns))) hk rfl (by kernel_rfl) fun w hk => ?_
 refine FW.lend (q15 _ _ ?_)
 refine wp_ret ?_
 (repeat first | refine FW.then_ret ?_ | refine FW.block_ret ?_)
 obtain rfl := Option.some.inj h
 have hr_0 := FW.rres_keep (I1 := [FW.blk b0 93 ([.lit (.slice xd2 (List.length l2) xc2)]), FW.orow xd2 xc2 55 1 c_s_ApiIns_cells l2]) (I2 := [FW.blk bx4 59 ((ApiIns.cells (⟨y6_0, y6_1, y6_2, y6_3, y6_4, l5, y6_6⟩ : ApiIns))), FW.blk bx2 59 ((ApiIns.cells (⟨y6_0, y6_1, y6_2, y6_3, y6_4, l5, y6_6⟩ : ApiIns)))]) (js := [3, 3]) rfl (FW.rcell (tt := 6) hk rfl (j := 1) rfl Try.underlying59 rfl (by kernel_rfl))
 replace hk := FW.S.keep (I1 := [FW.blk b0 93 ([.lit (.slice xd2 (List.length l2) xc2)]), FW.orow xd2 xc2 55 1 c_s_ApiIns_cells l2]) (I2 := [FW.blk bx4 59 ((ApiIns.cells (⟨y6_0, y6_1, y6_2, y6_3, y6_4, l5, y6_6⟩ : ApiIns))), FW.blk bx2 59 ((ApiIns.cells (⟨y6_0, y6_1, y6_2, y6_3, y6_4, l5, y6_6⟩ : ApiIns)))]) (js := [3, 3]) hk rfl
 exact FW.fretH1 hk rfl hr_0 ⟨xd2, xc2, rfl, rfl⟩

theorem cm_body_knot : ∀ K : Nat, (∀ (v0 : OCM) (v1 : List ApiStep) (r : Int × OCM), cm_body.f K v0 v1 = some r → ∀ (b0 : Nat) (xd0_0 : Option Addr) (xc0_0 : Nat), FW.OkH Try.prog 48 [.lit (.pointer (some ⟨b0, 0, none⟩)), .row (r_ApiStep_cells v1)] (OCM.items b0 xd0_0 xc0_0 v0) (fun y I => ∃ (zxd0_0 : Option Addr) (zxc0_0 : Nat), y = .lit (.int .i64 r.1) ∧ I = OCM.items b0 zxd0_0 zxc0_0 r.2)) ∧ (∀ (v0 : OCM) (v1 : ApiStep) (v2 : List ApiStep) (r : ApiIns × OCM), cm_ins.f K v0 v1 v2 = some r → ∀ (b0 : Nat) (xd0_0 : Option Addr) (xc0_0 : Nat), FW.OkH Try.prog 70 [.lit (.pointer (some ⟨b0, 0, none⟩)), .agg (ApiStep.cells v1), .row (r_ApiStep_cells v2)] (OCM.items b0 xd0_0 xc0_0 v0) (fun y I => ∃ (zxd0_0 : Option Addr) (zxc0_0 : Nat), y = .agg (ApiIns.cells r.1) ∧ I = OCM.items b0 zxd0_0 zxc0_0 r.2)) ∧ (∀ (v0 : OCM) (v1 : List ApiArg) (r : List Int × OCM), cm_kids.f K v0 v1 = some r → ∀ (b0 : Nat) (xd0_0 : Option Addr) (xc0_0 : Nat), FW.OkH Try.prog 104 [.lit (.pointer (some ⟨b0, 0, none⟩)), .row (r_ApiArg_cells v1)] (OCM.items b0 xd0_0 xc0_0 v0) (fun y I => ∃ (zxd0_0 : Option Addr) (zxc0_0 : Nat), y = .row (r_c_i64 r.1) ∧ I = OCM.items b0 zxd0_0 zxc0_0 r.2)) ∧ (∀ (v0 : OCM) (v1 : ApiStep) (v2 : List ApiStep) (r : ApiIns × OCM), cm_other.f K v0 v1 v2 = some r → ∀ (b0 : Nat) (xd0_0 : Option Addr) (xc0_0 : Nat), FW.OkH Try.prog 107 [.lit (.pointer (some ⟨b0, 0, none⟩)), .agg (ApiStep.cells v1), .row (r_ApiStep_cells v2)] (OCM.items b0 xd0_0 xc0_0 v0) (fun y I => ∃ (zxd0_0 : Option Addr) (zxc0_0 : Nat), y = .agg (ApiIns.cells r.1) ∧ I = OCM.items b0 zxd0_0 zxc0_0 r.2)) ∧ (∀ (v0 : OCM) (v1 : List ApiStep) (v2 : Int) (r : List Int × OCM), cm_bys.f K v0 v1 v2 = some r → ∀ (b0 : Nat) (xd0_0 : Option Addr) (xc0_0 : Nat), FW.OkH Try.prog 131 [.lit (.pointer (some ⟨b0, 0, none⟩)), .row (r_ApiStep_cells v1), .lit (.int .i64 v2)] (OCM.items b0 xd0_0 xc0_0 v0) (fun y I => ∃ (zxd0_0 : Option Addr) (zxc0_0 : Nat), y = .row (r_c_i64 r.1) ∧ I = OCM.items b0 zxd0_0 zxc0_0 r.2)) ∧ (∀ (v0 : OCM) (v1 : ApiStep) (r : Int × OCM), cm_by.f K v0 v1 = some r → ∀ (b0 : Nat) (xd0_0 : Option Addr) (xc0_0 : Nat), FW.OkH Try.prog 151 [.lit (.pointer (some ⟨b0, 0, none⟩)), .agg (ApiStep.cells v1)] (OCM.items b0 xd0_0 xc0_0 v0) (fun y I => ∃ (zxd0_0 : Option Addr) (zxc0_0 : Nat), y = .lit (.int .i64 r.1) ∧ I = OCM.items b0 zxd0_0 zxc0_0 r.2)) ∧ (∀ (v0 : OCM) (v1 : List ApiStep) (r : ApiIns × OCM), cm_order.f K v0 v1 = some r → ∀ (b0 : Nat) (xd0_0 : Option Addr) (xc0_0 : Nat), FW.OkH Try.prog 132 [.lit (.pointer (some ⟨b0, 0, none⟩)), .row (r_ApiStep_cells v1)] (OCM.items b0 xd0_0 xc0_0 v0) (fun y I => ∃ (zxd0_0 : Option Addr) (zxc0_0 : Nat), y = .agg (ApiIns.cells r.1) ∧ I = OCM.items b0 zxd0_0 zxc0_0 r.2)) ∧ (∀ (v0 : OCM) (v1 : ApiStep) (v2 : List ApiStep) (r : ApiIns × OCM), cm_repeat.f K v0 v1 v2 = some r → ∀ (b0 : Nat) (xd0_0 : Option Addr) (xc0_0 : Nat), FW.OkH Try.prog 133 [.lit (.pointer (some ⟨b0, 0, none⟩)), .agg (ApiStep.cells v1), .row (r_ApiStep_cells v2)] (OCM.items b0 xd0_0 xc0_0 v0) (fun y I => ∃ (zxd0_0 : Option Addr) (zxc0_0 : Nat), y = .agg (ApiIns.cells r.1) ∧ I = OCM.items b0 zxd0_0 zxc0_0 r.2)) ∧ (∀ (v0 : OCM) (v1 : ApiStep) (v2 : List ApiStep) (r : ApiIns × OCM), cm_addE.f K v0 v1 v2 = some r → ∀ (b0 : Nat) (xd0_0 : Option Addr) (xc0_0 : Nat), FW.OkH Try.prog 134 [.lit (.pointer (some ⟨b0, 0, none⟩)), .agg (ApiStep.cells v1), .row (r_ApiStep_cells v2)] (OCM.items b0 xd0_0 xc0_0 v0) (fun y I => ∃ (zxd0_0 : Option Addr) (zxc0_0 : Nat), y = .agg (ApiIns.cells r.1) ∧ I = OCM.items b0 zxd0_0 zxc0_0 r.2))
 | 0 => ⟨fun v0 v1 r h => by simp [cm_body.f] at h, fun v0 v1 v2 r h => by simp [cm_ins.f] at h, fun v0 v1 r h => by simp [cm_kids.f] at h, fun v0 v1 v2 r h => by simp [cm_other.f] at h, fun v0 v1 v2 r h => by simp [cm_bys.f] at h, fun v0 v1 r h => by simp [cm_by.f] at h, fun v0 v1 r h => by simp [cm_order.f] at h, fun v0 v1 v2 r h => by simp [cm_repeat.f] at h, fun v0 v1 v2 r h => by simp [cm_addE.f] at h⟩
 | K + 1 => ⟨fun v0 v1 r h => by rw [cm_body.f] at h; exact cm_body.bok _ _ _ _ _ _ _ _ _ (cm_body_knot K).1 (cm_body_knot K).2.1 (cm_body_knot K).2.2.1 (cm_body_knot K).2.2.2.1 (cm_body_knot K).2.2.2.2.1 (cm_body_knot K).2.2.2.2.2.1 (cm_body_knot K).2.2.2.2.2.2.1 (cm_body_knot K).2.2.2.2.2.2.2.1 (cm_body_knot K).2.2.2.2.2.2.2.2 K v0 v1 r h, fun v0 v1 v2 r h => by rw [cm_ins.f] at h; exact cm_ins.bok _ _ _ _ _ _ _ _ _ (cm_body_knot K).1 (cm_body_knot K).2.1 (cm_body_knot K).2.2.1 (cm_body_knot K).2.2.2.1 (cm_body_knot K).2.2.2.2.1 (cm_body_knot K).2.2.2.2.2.1 (cm_body_knot K).2.2.2.2.2.2.1 (cm_body_knot K).2.2.2.2.2.2.2.1 (cm_body_knot K).2.2.2.2.2.2.2.2 K v0 v1 v2 r h, fun v0 v1 r h => by rw [cm_kids.f] at h; exact cm_kids.bok _ _ _ _ _ _ _ _ _ (cm_body_knot K).1 (cm_body_knot K).2.1 (cm_body_knot K).2.2.1 (cm_body_knot K).2.2.2.1 (cm_body_knot K).2.2.2.2.1 (cm_body_knot K).2.2.2.2.2.1 (cm_body_knot K).2.2.2.2.2.2.1 (cm_body_knot K).2.2.2.2.2.2.2.1 (cm_body_knot K).2.2.2.2.2.2.2.2 K v0 v1 r h, fun v0 v1 v2 r h => by rw [cm_other.f] at h; exact cm_other.bok _ _ _ _ _ _ _ _ _ (cm_body_knot K).1 (cm_body_knot K).2.1 (cm_body_knot K).2.2.1 (cm_body_knot K).2.2.2.1 (cm_body_knot K).2.2.2.2.1 (cm_body_knot K).2.2.2.2.2.1 (cm_body_knot K).2.2.2.2.2.2.1 (cm_body_knot K).2.2.2.2.2.2.2.1 (cm_body_knot K).2.2.2.2.2.2.2.2 K v0 v1 v2 r h, fun v0 v1 v2 r h => by rw [cm_bys.f] at h; exact cm_bys.bok _ _ _ _ _ _ _ _ _ (cm_body_knot K).1 (cm_body_knot K).2.1 (cm_body_knot K).2.2.1 (cm_body_knot K).2.2.2.1 (cm_body_knot K).2.2.2.2.1 (cm_body_knot K).2.2.2.2.2.1 (cm_body_knot K).2.2.2.2.2.2.1 (cm_body_knot K).2.2.2.2.2.2.2.1 (cm_body_knot K).2.2.2.2.2.2.2.2 K v0 v1 v2 r h, fun v0 v1 r h => by rw [cm_by.f] at h; exact cm_by.bok _ _ _ _ _ _ _ _ _ (cm_body_knot K).1 (cm_body_knot K).2.1 (cm_body_knot K).2.2.1 (cm_body_knot K).2.2.2.1 (cm_body_knot K).2.2.2.2.1 (cm_body_knot K).2.2.2.2.2.1 (cm_body_knot K).2.2.2.2.2.2.1 (cm_body_knot K).2.2.2.2.2.2.2.1 (cm_body_knot K).2.2.2.2.2.2.2.2 K v0 v1 r h, fun v0 v1 r h => by rw [cm_order.f] at h; exact cm_order.bok _ _ _ _ _ _ _ _ _ (cm_body_knot K).1 (cm_body_knot K).2.1 (cm_body_knot K).2.2.1 (cm_body_knot K).2.2.2.1 (cm_body_knot K).2.2.2.2.1 (cm_body_knot K).2.2.2.2.2.1 (cm_body_knot K).2.2.2.2.2.2.1 (cm_body_knot K).2.2.2.2.2.2.2.1 (cm_body_knot K).2.2.2.2.2.2.2.2 K v0 v1 r h, fun v0 v1 v2 r h => by rw [cm_repeat.f] at h; exact cm_repeat.bok _ _ _ _ _ _ _ _ _ (cm_body_knot K).1 (cm_body_knot K).2.1 (cm_body_knot K).2.2.1 (cm_body_knot K).2.2.2.1 (cm_body_knot K).2.2.2.2.1 (cm_body_knot K).2.2.2.2.2.1 (cm_body_knot K).2.2.2.2.2.2.1 (cm_body_knot K).2.2.2.2.2.2.2.1 (cm_body_knot K).2.2.2.2.2.2.2.2 K v0 v1 v2 r h, fun v0 v1 v2 r h => by rw [cm_addE.f] at h; exact cm_addE.bok _ _ _ _ _ _ _ _ _ (cm_body_knot K).1 (cm_body_knot K).2.1 (cm_body_knot K).2.2.1 (cm_body_knot K).2.2.2.1 (cm_body_knot K).2.2.2.2.1 (cm_body_knot K).2.2.2.2.2.1 (cm_body_knot K).2.2.2.2.2.2.1 (cm_body_knot K).2.2.2.2.2.2.2.1 (cm_body_knot K).2.2.2.2.2.2.2.2 K v0 v1 v2 r h⟩

theorem cm_body.ok (K : Nat) (v0 : OCM) (v1 : List ApiStep) (r : Int × OCM) (h : cm_body.f K v0 v1 = some r) : ∀ (b0 : Nat) (xd0_0 : Option Addr) (xc0_0 : Nat), FW.OkH Try.prog 48 [.lit (.pointer (some ⟨b0, 0, none⟩)), .row (r_ApiStep_cells v1)] (OCM.items b0 xd0_0 xc0_0 v0) (fun y I => ∃ (zxd0_0 : Option Addr) (zxc0_0 : Nat), y = .lit (.int .i64 r.1) ∧ I = OCM.items b0 zxd0_0 zxc0_0 r.2) := (cm_body_knot K).1 v0 v1 r h

theorem cm_ins.ok (K : Nat) (v0 : OCM) (v1 : ApiStep) (v2 : List ApiStep) (r : ApiIns × OCM) (h : cm_ins.f K v0 v1 v2 = some r) : ∀ (b0 : Nat) (xd0_0 : Option Addr) (xc0_0 : Nat), FW.OkH Try.prog 70 [.lit (.pointer (some ⟨b0, 0, none⟩)), .agg (ApiStep.cells v1), .row (r_ApiStep_cells v2)] (OCM.items b0 xd0_0 xc0_0 v0) (fun y I => ∃ (zxd0_0 : Option Addr) (zxc0_0 : Nat), y = .agg (ApiIns.cells r.1) ∧ I = OCM.items b0 zxd0_0 zxc0_0 r.2) := (cm_body_knot K).2.1 v0 v1 v2 r h

theorem cm_kids.ok (K : Nat) (v0 : OCM) (v1 : List ApiArg) (r : List Int × OCM) (h : cm_kids.f K v0 v1 = some r) : ∀ (b0 : Nat) (xd0_0 : Option Addr) (xc0_0 : Nat), FW.OkH Try.prog 104 [.lit (.pointer (some ⟨b0, 0, none⟩)), .row (r_ApiArg_cells v1)] (OCM.items b0 xd0_0 xc0_0 v0) (fun y I => ∃ (zxd0_0 : Option Addr) (zxc0_0 : Nat), y = .row (r_c_i64 r.1) ∧ I = OCM.items b0 zxd0_0 zxc0_0 r.2) := (cm_body_knot K).2.2.1 v0 v1 r h

theorem cm_other.ok (K : Nat) (v0 : OCM) (v1 : ApiStep) (v2 : List ApiStep) (r : ApiIns × OCM) (h : cm_other.f K v0 v1 v2 = some r) : ∀ (b0 : Nat) (xd0_0 : Option Addr) (xc0_0 : Nat), FW.OkH Try.prog 107 [.lit (.pointer (some ⟨b0, 0, none⟩)), .agg (ApiStep.cells v1), .row (r_ApiStep_cells v2)] (OCM.items b0 xd0_0 xc0_0 v0) (fun y I => ∃ (zxd0_0 : Option Addr) (zxc0_0 : Nat), y = .agg (ApiIns.cells r.1) ∧ I = OCM.items b0 zxd0_0 zxc0_0 r.2) := (cm_body_knot K).2.2.2.1 v0 v1 v2 r h

theorem cm_bys.ok (K : Nat) (v0 : OCM) (v1 : List ApiStep) (v2 : Int) (r : List Int × OCM) (h : cm_bys.f K v0 v1 v2 = some r) : ∀ (b0 : Nat) (xd0_0 : Option Addr) (xc0_0 : Nat), FW.OkH Try.prog 131 [.lit (.pointer (some ⟨b0, 0, none⟩)), .row (r_ApiStep_cells v1), .lit (.int .i64 v2)] (OCM.items b0 xd0_0 xc0_0 v0) (fun y I => ∃ (zxd0_0 : Option Addr) (zxc0_0 : Nat), y = .row (r_c_i64 r.1) ∧ I = OCM.items b0 zxd0_0 zxc0_0 r.2) := (cm_body_knot K).2.2.2.2.1 v0 v1 v2 r h

theorem cm_by.ok (K : Nat) (v0 : OCM) (v1 : ApiStep) (r : Int × OCM) (h : cm_by.f K v0 v1 = some r) : ∀ (b0 : Nat) (xd0_0 : Option Addr) (xc0_0 : Nat), FW.OkH Try.prog 151 [.lit (.pointer (some ⟨b0, 0, none⟩)), .agg (ApiStep.cells v1)] (OCM.items b0 xd0_0 xc0_0 v0) (fun y I => ∃ (zxd0_0 : Option Addr) (zxc0_0 : Nat), y = .lit (.int .i64 r.1) ∧ I = OCM.items b0 zxd0_0 zxc0_0 r.2) := (cm_body_knot K).2.2.2.2.2.1 v0 v1 r h

theorem cm_order.ok (K : Nat) (v0 : OCM) (v1 : List ApiStep) (r : ApiIns × OCM) (h : cm_order.f K v0 v1 = some r) : ∀ (b0 : Nat) (xd0_0 : Option Addr) (xc0_0 : Nat), FW.OkH Try.prog 132 [.lit (.pointer (some ⟨b0, 0, none⟩)), .row (r_ApiStep_cells v1)] (OCM.items b0 xd0_0 xc0_0 v0) (fun y I => ∃ (zxd0_0 : Option Addr) (zxc0_0 : Nat), y = .agg (ApiIns.cells r.1) ∧ I = OCM.items b0 zxd0_0 zxc0_0 r.2) := (cm_body_knot K).2.2.2.2.2.2.1 v0 v1 r h

theorem cm_repeat.ok (K : Nat) (v0 : OCM) (v1 : ApiStep) (v2 : List ApiStep) (r : ApiIns × OCM) (h : cm_repeat.f K v0 v1 v2 = some r) : ∀ (b0 : Nat) (xd0_0 : Option Addr) (xc0_0 : Nat), FW.OkH Try.prog 133 [.lit (.pointer (some ⟨b0, 0, none⟩)), .agg (ApiStep.cells v1), .row (r_ApiStep_cells v2)] (OCM.items b0 xd0_0 xc0_0 v0) (fun y I => ∃ (zxd0_0 : Option Addr) (zxc0_0 : Nat), y = .agg (ApiIns.cells r.1) ∧ I = OCM.items b0 zxd0_0 zxc0_0 r.2) := (cm_body_knot K).2.2.2.2.2.2.2.1 v0 v1 v2 r h

theorem cm_addE.ok (K : Nat) (v0 : OCM) (v1 : ApiStep) (v2 : List ApiStep) (r : ApiIns × OCM) (h : cm_addE.f K v0 v1 v2 = some r) : ∀ (b0 : Nat) (xd0_0 : Option Addr) (xc0_0 : Nat), FW.OkH Try.prog 134 [.lit (.pointer (some ⟨b0, 0, none⟩)), .agg (ApiStep.cells v1), .row (r_ApiStep_cells v2)] (OCM.items b0 xd0_0 xc0_0 v0) (fun y I => ∃ (zxd0_0 : Option Addr) (zxc0_0 : Nat), y = .agg (ApiIns.cells r.1) ∧ I = OCM.items b0 zxd0_0 zxc0_0 r.2) := (cm_body_knot K).2.2.2.2.2.2.2.2 v0 v1 v2 r h

theorem code_Compile.ok (K : Nat) (v0 : List ApiStep) (r : ApiProg × Int) (h : code_Compile.f K v0 = some r) :
  FW.Ok Try.prog 23 [.row (r_ApiStep_cells v0)] (.tup [.agg (ApiProg.cells r.1), .lit (.int .i64 r.2)]) := by
 refine FW.enter (xs := [.row (r_ApiStep_cells v0)]) Try.func23 rfl Try.ntmps23 rfl ?_
 intro M w0 a hk
 unfold code_Compile.f at h
 refine FW.wreg fun _ q1 => ?_
 refine FW.l_alloc (zs := (ApiProg.cells (⟨[]⟩ : ApiProg))) [] hk rfl rfl rfl rfl ?_; clear hk; intro bx1 a w hk
 refine FW.sA hk fun a w hk => ?_
 refine FW.lend (q1 _ _ ?_)
 refine FW.wseq fun _ q2 => ?_
 refine FW.wreg fun _ q3 => ?_
 refine FW.sM hk fun a w hk => ?_
 obtain ⟨t1, hr_t1, h⟩ := FW.bnd h
 refine FW.lf (y := .lit (.int .i64 t1)) hk (FW.f_call hk FW.h0 rfl rfl Try.func47 rfl (by kernel_rfl) (check_Check.ok K v0 _ hr_t1)) fun a w hk => ?_
 refine FW.sA hk fun a w hk => ?_
 refine FW.lend (q3 _ _ ?_)
 refine FW.wreg fun _ q4 => ?_
 refine FW.sM hk fun a w hk => ?_
 refine FW.lf (y := .lit (.bool (!decide (t1 = 0)))) hk ((FW.f_pure (FW.p_neq hk.kn FW.h0 rfl rfl))) fun a w hk => ?_
 refine FW.lend (q4 _ _ ?_)
 refine FW.wcondF (b := (!decide (t1 = 0))) hk h rfl (fun h hb => ?_) (fun h hb => ?_)
 ·skip
  refine FW.wreg fun _ q5 => ?_
  refine FW.lf (y := .agg ((ApiProg.cells (⟨[]⟩ : ApiProg)))) hk (FW.f_buildN [] hk FW.h0 rfl rfl rfl) fun a w hk => ?_
  refine FW.sM hk fun a w hk => ?_
  refine FW.st0 (cs' := (ApiProg.cells (⟨[]⟩ : ApiProg))) hk rfl (by kernel_rfl) fun w hk => ?_
  refine FW.sA hk fun a w hk => ?_
  refine FW.lend (q5 _ _ ?_)
  refine wp_ret ?_
  (repeat first | refine FW.then_ret ?_ | refine FW.block_ret ?_)
  obtain rfl := Option.some.inj h
  exact FW.fretR2 hk rfl (FW.rcell hk rfl (j := 0) rfl Try.underlying50 rfl (by kernel_rfl)) (FW.rtmp hk rfl)
 refine wp_skip ?_
 (repeat first | refine FW.tn ?_ | refine FW.bn ?_); refine q2 _ _ ?_
 refine FW.wreg fun _ q6 => ?_
 replace hk := hk.nilRow 55 1 c_s_ApiIns_cells (fun _ => rfl)
 refine FW.lf (y := .agg ([.lit (.slice none (List.length ([] : List (List ApiIns))) 0)])) hk (FW.f_buildN [0] hk FW.h0 rfl rfl rfl) fun a w hk => ?_
 refine FW.l_box (cs := [.lit (.slice none (List.length ([] : List (List ApiIns))) 0)]) hk rfl rfl rfl rfl rfl ?_; clear hk; intro bx2 a w hk
 refine FW.sA hk fun a w hk => ?_
 refine FW.lend (q6 _ _ ?_)
 refine FW.wreg fun _ q7 => ?_
 refine FW.sM hk fun a w hk => ?_
 refine FW.sM hk fun a w hk => ?_
 obtain ⟨t2, hr_t2, h⟩ := FW.bnd h
 refine FW.l_callH (I1 := (OCM.items bx2 none 0 (⟨([] : List (List ApiIns))⟩ : OCM))) (I2 := [FW.blk bx1 50 ((ApiProg.cells (⟨[]⟩ : ApiProg)))]) (js := [1, 1]) hk rfl rfl rfl rfl rfl Try.func48 rfl (by kernel_rfl) (cm_body.ok K (⟨([] : List (List ApiIns))⟩ : OCM) v0 _ hr_t2 bx2 none 0) ?_; clear hk
 rintro _ _ ⟨zd1, zc1, rfl, rfl⟩ a w hk
 refine FW.lend (q7 _ _ ?_)
 refine FW.wreg fun _ q8 => ?_
 refine FW.sM hk fun a w hk => ?_
 refine FW.lf (y := .lit (.pointer (some ⟨bx2, 0, none⟩))) hk ((FW.f_pure (FW.p_nilCheck hk.kn FW.h0 rfl))) fun a w hk => ?_
 refine FW.sFp 0 hk Try.underlying93 fun a w hk => ?_
 refine FW.lf (y := .lit (.slice zd1 (List.length t2.2.out) zc1)) hk (FW.f_loadBlk1 hk FW.h0 (j := 0) rfl rfl Try.underlying48 rfl rfl) fun a w hk => ?_
 replace hk := FW.S.freezeR (I' := [FW.blk bx2 93 ([.lit (.slice zd1 (List.length t2.2.out) zc1)]), FW.blk bx1 50 ((ApiProg.cells (⟨[]⟩ : ApiProg)))]) r_c_s_ApiIns_cells_eq hk (j := 1) rfl (t := 20) rfl rfl
 refine FW.lf (y := .agg ((ApiProg.cells (⟨t2.2.out⟩ : ApiProg)))) hk (FW.f_buildN [] hk FW.h0 rfl rfl rfl) fun a w hk => ?_
 refine FW.st1 (cs' := (ApiProg.cells (⟨t2.2.out⟩ : ApiProg))) hk rfl (by kernel_rfl) fun w hk => ?_
 refine FW.sA hk fun a w hk => ?_
 refine FW.lend (q8 _ _ ?_)
 refine wp_ret ?_
 (repeat first | refine FW.then_ret ?_ | refine FW.block_ret ?_)
 obtain rfl := Option.some.inj h
 exact FW.fretR2 hk rfl (FW.rcell hk rfl (j := 1) rfl Try.underlying50 rfl (by kernel_rfl)) (FW.rtmp hk rfl)

theorem w15_awake.ok (K : Nat)  (r : Bool) (h : w15_awake.f K = some r) :
  FW.Ok Try.prog 21 [] (.lit (.bool r)) := by
 refine FW.enter (xs := []) Try.func21 rfl Try.ntmps21 rfl ?_
 intro M w0 a hk
 unfold w15_awake.f at h
 refine FW.wreg fun _ q1 => ?_
 refine FW.sA hk fun a w hk => ?_
 refine FW.lend (q1 _ _ ?_)
 refine FW.wreg fun _ q2 => ?_
 obtain ⟨t1, hr_t1, h⟩ := FW.bnd h
 refine FW.lf (y := .tup [.row (r_ApiStep_cells t1.1), .lit (.int .i64 t1.2.1), .lit (.int .i64 t1.2.2)]) hk (FW.f_call hk FW.h0 rfl rfl Try.func9 rfl (by kernel_rfl) (r12_Parse.ok K ([103, 46, 86, 40, 41, 46, 111, 117, 116, 40, 39, 97, 39, 41] : List UInt8) _ hr_t1)) fun a w hk => ?_
 refine FW.sM hk fun a w hk => ?_
 refine FW.lf (y := .row (r_ApiStep_cells t1.1)) hk (FW.f_extract hk FW.h0 rfl rfl) fun a w hk => ?_
 refine FW.lf (y := .lit (.int .i64 t1.2.1)) hk (FW.f_extract hk FW.h0 rfl rfl) fun a w hk => ?_
 refine FW.lf (y := .lit (.int .i64 t1.2.2)) hk (FW.f_extract hk FW.h0 rfl rfl) fun a w hk => ?_
 refine FW.sA hk fun a w hk => ?_
 refine FW.sA hk fun a w hk => ?_
 refine FW.sA hk fun a w hk => ?_
 refine FW.lend (q2 _ _ ?_)
 refine FW.wreg fun _ q3 => ?_
 refine FW.sM hk fun a w hk => ?_
 obtain ⟨t2, hr_t2, h⟩ := FW.bnd h
 refine FW.lf (y := .tup [.agg ((ApiProg.cells t2.1)), .lit (.int .i64 t2.2)]) hk (FW.f_call hk FW.h0 rfl rfl Try.func23 rfl (by kernel_rfl) (code_Compile.ok K t1.1 _ hr_t2)) fun a w hk => ?_
 refine FW.sM hk fun a w hk => ?_
 refine FW.lf (y := .agg ((ApiProg.cells t2.1))) hk (FW.f_extract hk FW.h0 rfl rfl) fun a w hk => ?_
 refine FW.lf (y := .lit (.int .i64 t2.2)) hk (FW.f_extract hk FW.h0 rfl rfl) fun a w hk => ?_
 refine FW.l_alloc (zs := (ApiProg.cells (⟨[]⟩ : ApiProg))) [] hk rfl rfl rfl rfl ?_; clear hk; intro bx1 a w hk
 refine FW.st0 (cs' := (ApiProg.cells t2.1)) hk rfl (by kernel_rfl) fun w hk => ?_
 refine FW.sA hk fun a w hk => ?_
 refine FW.lend (q3 _ _ ?_)
 refine FW.wreg fun _ q4 => ?_
 refine FW.sM hk fun a w hk => ?_
 refine FW.sEq hk fun a w hk => ?_
 refine FW.sM hk fun a w hk => ?_
 refine FW.lg (y := .lit (.int .i64 t2.2)) hk rfl rfl rfl (fun hc => FW.f_move hk hc rfl) fun a w hk => ?_
 refine FW.lg (y := .lit (.bool (decide (t2.2 = 0)))) hk rfl rfl rfl (fun hc => (FW.f_pure (FW.p_eql hk.kn hc rfl rfl))) fun a w hk => ?_
 refine FW.sAn hk fun a w hk => ?_
 refine FW.sM hk fun a w hk => ?_
 refine FW.lg (y := .lit (.pointer (some ⟨bx1, 0, none⟩))) hk rfl rfl rfl (fun hc => FW.f_fieldPtr hk hc rfl Try.underlying50 rfl (by kernel_rfl) rfl) fun a w hk => ?_
 refine FW.lg (y := .row (r_c_s_ApiIns_cells t2.1.Bodies)) hk rfl rfl rfl (fun hc => FW.f_loadBlk1 hk hc (j := 0) rfl rfl Try.underlying48 rfl rfl) fun a w hk => ?_
 refine FW.lg (y := .lit (.int .i64 (List.length t2.1.Bodies : Int))) hk rfl rfl rfl (fun hc => FW.f_len (R := r_c_s_ApiIns_cells) (f := c_s_ApiIns_cells) (l := t2.1.Bodies) r_c_s_ApiIns_cells_eq Try.underlying48 hk hc rfl) fun a w hk => ?_
 refine FW.lg (y := .lit (.bool (decide ((List.length t2.1.Bodies : Int) = 1)))) hk rfl rfl rfl (fun hc => (FW.f_pure (FW.p_eql hk.kn hc rfl rfl))) fun a w hk => ?_
 refine FW.sAn hk fun a w hk => ?_
 refine FW.sM hk fun a w hk => ?_
 refine FW.lg (y := .lit (.pointer (some ⟨bx1, 0, none⟩))) hk rfl rfl rfl (fun hc => FW.f_fieldPtr hk hc rfl Try.underlying50 rfl (by kernel_rfl) rfl) fun a w hk => ?_
 refine FW.lg (y := .row (r_c_s_ApiIns_cells t2.1.Bodies)) hk rfl rfl rfl (fun hc => FW.f_loadBlk1 hk hc (j := 0) rfl rfl Try.underlying48 rfl rfl) fun a w hk => ?_
 obtain ⟨hc1, h⟩ := FW.chk h
 refine FW.lg (y := .ref (c_s_ApiIns_cells (List.getD t2.1.Bodies (Int.toNat 0) default))) hk rfl rfl rfl (fun hc => FW.f_indexAddr (R := r_c_s_ApiIns_cells) (f := c_s_ApiIns_cells) (l := t2.1.Bodies) (sz := 1) r_c_s_ApiIns_cells_eq (fun _ => rfl) hk hc rfl rfl Try.underlying48 (by kernel_rfl) hc1) fun a w hk => ?_
 refine FW.lg (y := .row (r_ApiIns_cells (List.getD t2.1.Bodies (Int.toNat 0) default))) hk rfl rfl rfl (fun hc => FW.f_load1 hk hc rfl rfl Try.underlying55 rfl) fun a w hk => ?_
 refine FW.lg (y := .lit (.int .i64 (List.length (List.getD t2.1.Bodies (Int.toNat 0) default) : Int))) hk rfl rfl rfl (fun hc => FW.f_len (R := r_ApiIns_cells) (f := ApiIns.cells) (l := (List.getD t2.1.Bodies (Int.toNat 0) default)) r_ApiIns_cells_eq Try.underlying55 hk hc rfl) fun a w hk => ?_
 refine FW.lg (y := .lit (.bool (decide ((List.length (List.getD t2.1.Bodies (Int.toNat 0) default) : Int) = 2)))) hk rfl rfl rfl (fun hc => (FW.f_pure (FW.p_eql hk.kn hc rfl rfl))) fun a w hk => ?_
 refine FW.sAn hk fun a w hk => ?_
 refine FW.sM hk fun a w hk => ?_
 refine FW.lg (y := .lit (.pointer (some ⟨bx1, 0, none⟩))) hk rfl rfl rfl (fun hc => FW.f_fieldPtr hk hc rfl Try.underlying50 rfl (by kernel_rfl) rfl) fun a w hk => ?_
 refine FW.lg (y := .row (r_c_s_ApiIns_cells t2.1.Bodies)) hk rfl rfl rfl (fun hc => FW.f_loadBlk1 hk hc (j := 0) rfl rfl Try.underlying48 rfl rfl) fun a w hk => ?_
 obtain ⟨hc2, h⟩ := FW.chk h
 refine FW.lg (y := .ref (c_s_ApiIns_cells (List.getD t2.1.Bodies (Int.toNat 0) default))) hk rfl rfl rfl (fun hc => FW.f_indexAddr (R := r_c_s_ApiIns_cells) (f := c_s_ApiIns_cells) (l := t2.1.Bodies) (sz := 1) r_c_s_ApiIns_cells_eq (fun _ => rfl) hk hc rfl rfl Try.underlying48 (by kernel_rfl) hc2) fun a w hk => ?_
 refine FW.lg (y := .row (r_ApiIns_cells (List.getD t2.1.Bodies (Int.toNat 0) default))) hk rfl rfl rfl (fun hc => FW.f_load1 hk hc rfl rfl Try.underlying55 rfl) fun a w hk => ?_
 obtain ⟨hc3, h⟩ := FW.chk h
 refine FW.lg (y := .ref (ApiIns.cells (List.getD (List.getD t2.1.Bodies (Int.toNat 0) default) (Int.toNat 1) default))) hk rfl rfl rfl (fun hc => FW.f_indexAddr (R := r_ApiIns_cells) (f := ApiIns.cells) (l := (List.getD t2.1.Bodies (Int.toNat 0) default)) (sz := 9) r_ApiIns_cells_eq (fun _ => rfl) hk hc rfl rfl Try.underlying55 (by kernel_rfl) hc3) fun a w hk => ?_
 refine FW.lg (y := .ref (List.drop 0 (ApiIns.cells (List.getD (List.getD t2.1.Bodies (Int.toNat 0) default) (Int.toNat 1) default)))) hk rfl rfl rfl (fun hc => FW.f_fieldAddr hk hc rfl Try.underlying59 rfl (by kernel_rfl) rfl) fun a w hk => ?_
 refine FW.lg (y := .lit (.int .i64 ((List.getD (List.getD t2.1.Bodies (Int.toNat 0) default) (Int.toNat 1) default).Op))) hk rfl rfl rfl (fun hc => FW.f_load1 hk hc rfl rfl Try.underlying3 rfl) fun a w hk => ?_
 refine FW.lg (y := .lit (.bool (decide (((List.getD (List.getD t2.1.Bodies (Int.toNat 0) default) (Int.toNat 1) default).Op) = 20)))) hk rfl rfl rfl (fun hc => (FW.f_pure (FW.p_eql hk.kn hc rfl rfl))) fun a w hk => ?_
 refine FW.sAn hk fun a w hk => ?_
 refine FW.sA hk fun a w hk => ?_
 refine FW.lend (q4 _ _ ?_)
 refine wp_ret ?_
 (repeat first | refine FW.then_ret ?_ | refine FW.block_ret ?_)
 obtain rfl := Option.some.inj h
 exact FW.fret1 hk rfl rfl
end Go.Proofs.Ytbjbgodcenopnaa

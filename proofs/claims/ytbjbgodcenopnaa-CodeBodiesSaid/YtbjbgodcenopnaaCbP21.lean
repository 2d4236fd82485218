/- Written by a program of this session (gen.py): the contracts of functions of the program. -/
import Derived.Test.YtbjbgodcenopnaaCbP20
namespace Go.Proofs.Ytbjbgodcenopnaa
set_option linter.unusedVariables false
set_option maxRecDepth 20000
set_option maxHeartbeats 10000000
theorem cm_order.bok (zB : OCM → List ApiStep → Option (Int × OCM)) (zI : OCM → ApiStep → List ApiStep → Option (ApiIns × OCM)) (zK : OCM → List ApiArg → Option (List Int × OCM)) (zO : OCM → ApiStep → List ApiStep → Option (ApiIns × OCM)) (zY : OCM → List ApiStep → Int → Option (List Int × OCM)) (zb : OCM → ApiStep → Option (Int × OCM)) (zR : OCM → List ApiStep → Option (ApiIns × OCM)) (zT : OCM → ApiStep → List ApiStep → Option (ApiIns × OCM)) (zE : OCM → ApiStep → List ApiStep → Option (ApiIns × OCM)) (hzB : ZzB zB) (hzI : ZzI zI) (hzK : ZzK zK) (hzO : ZzO zO) (hzY : ZzY zY) (hzb : Zzb zb) (hzR : ZzR zR) (hzT : ZzT zT) (hzE : ZzE zE) (K : Nat) (v0 : OCM) (v1 : List ApiStep) (r : ApiIns × OCM) (h : cm_order.b zB zI zK zO zY zb zR zT zE K v0 v1 = some r) :
  ∀ (b0 : Nat) (xd0_0 : Option Addr) (xc0_0 : Nat), FW.OkH Try.prog 132 [.lit (.pointer (some ⟨b0, 0, none⟩)), .row (r_ApiStep_cells v1)] (OCM.items b0 xd0_0 xc0_0 v0) (fun y I => ∃ (zxd0_0 : Option Addr) (zxc0_0 : Nat), y = .agg (ApiIns.cells r.1) ∧ I = OCM.items b0 zxd0_0 zxc0_0 r.2) := by
 intro b0 xd0_0 xc0_0
 refine FW.enterH (xs := [.lit (.pointer (some ⟨b0, 0, none⟩)), .row (r_ApiStep_cells v1)]) Try.func132 rfl Try.ntmps132 rfl ?_
 intro M w0 a hk
 replace hk : FW.S M w0 a w0.toWorld 63 [FW.blk b0 93 ([.lit (.slice xd0_0 (List.length v0.out) xc0_0)]), FW.orow xd0_0 xc0_0 55 1 c_s_ApiIns_cells v0.out] [(0, [], .lit (.pointer (some ⟨b0, 0, none⟩))), (1, [], .row (r_ApiStep_cells v1))] := hk
 unfold cm_order.b at h
 refine FW.wreg fun _ q1 => ?_
 refine FW.l_alloc (zs := (ApiIns.cells (⟨0, [], [], [], (⟨[], [], []⟩ : ApiPred), [], false⟩ : ApiIns))) [] hk rfl rfl rfl rfl ?_; clear hk; intro bx1 a w hk
 refine FW.lend (q1 _ _ ?_)
 refine FW.wreg fun _ q2 => ?_
 refine FW.sM hk fun a w hk => ?_
 refine FW.sM hk fun a w hk => ?_
 refine FW.sM hk fun a w hk => ?_
 refine FW.lf (y := .lit (.int .i64 (List.length v1 : Int))) hk (FW.f_len (R := r_ApiStep_cells) (f := ApiStep.cells) (l := v1) r_ApiStep_cells_eq Try.underlying22 hk FW.h0 rfl) fun a w hk => ?_
 refine FW.lf (y := .lit (.int .i64 (if (List.length v1 : Int) < 1 then 1 else (List.length v1 : Int)))) hk ((FW.f_pure (FW.p_max hk.kn FW.h0 rfl rfl))) fun a w hk => ?_
 obtain ⟨t1, hr_t1, h⟩ := FW.bnd h
 refine FW.l_callH (I1 := (OCM.items b0 xd0_0 xc0_0 v0)) (I2 := [FW.blk bx1 59 ((ApiIns.cells (⟨0, [], [], [], (⟨[], [], []⟩ : ApiPred), [], false⟩ : ApiIns)))]) (js := [2, 2]) hk rfl rfl rfl rfl rfl Try.func131 rfl (by kernel_rfl) (hzY v0 v1 (if (List.length v1 : Int) < 1 then 1 else (List.length v1 : Int)) _ hr_t1 b0 xd0_0 xc0_0) ?_; clear hk
 rintro _ _ ⟨zd1, zc1, rfl, rfl⟩ a w hk
 refine FW.lf (y := .agg (([.lit (.int .i64 36), .row (r_c_str []), .lit (.slice none 0 0), .row (r_ApiValue_cells [])] : List FW.AV) ++ (ApiPred.cells (⟨[], [], []⟩ : ApiPred)) ++ ([.row (r_c_i64 t1.1), .lit (.bool false)] : List FW.AV))) hk (FW.f_buildN [2] hk FW.h0 rfl rfl rfl) fun a w hk => ?_
 refine FW.l_alloc (zs := (ApiIns.cells (⟨0, [], [], [], (⟨[], [], []⟩ : ApiPred), [], false⟩ : ApiIns))) [] hk rfl rfl rfl rfl ?_; clear hk; intro bx2 a w hk
 refine FW.st0 (cs' := ([.lit (.int .i64 36), .row (r_c_str []), .lit (.slice none 0 0), .row (r_ApiValue_cells [])] : List FW.AV) ++ (ApiPred.cells (⟨[], [], []⟩ : ApiPred)) ++ ([.row (r_c_i64 t1.1), .lit (.bool false)] : List FW.AV)) hk rfl (by kernel_rfl) fun w hk => ?_
 replace hk := hk.nilRow 2 1 c_i64 (fun _ => rfl)
 refine FW.lend (q2 _ _ ?_)
 refine FW.wseq fun _ q3 => ?_
 refine FW.wreg fun _ q4 => ?_
 refine FW.sFp 7 hk Try.underlying59 fun a w hk => ?_
 refine FW.lf (y := .row (r_c_i64 t1.1)) hk (FW.f_loadBlk1 hk FW.h0 (j := 1) rfl rfl Try.underlying54 rfl rfl) fun a w hk => ?_
 refine FW.lf (y := .lit (.int .i64 (List.length t1.1 : Int))) hk (FW.f_len (R := r_c_i64) (f := c_i64) (l := t1.1) r_c_i64_eq Try.underlying54 hk FW.h0 rfl) fun a w hk => ?_
 refine FW.sM hk fun a w hk => ?_
 refine FW.lend (q4 _ _ ?_)
 refine wp_block ?_
 refine FW.wloop (T := Nat × List Int × Int × List (List UInt8) × List ApiValue × ApiPred × List Int × Bool × List (List ApiIns) × List ApiStep × Int × Int × Option Addr × Nat × Option Addr × Nat) (fun x a w => match x with | (kl1, l5, y4_0, y4_1, y4_3, y4_4, y4_5, y4_6, l2, v1, v18, v19, xd5, xc5, xd2, xc2) => FW.S M w0 a w 63 [FW.orow xd5 xc5 2 1 c_i64 l5, FW.blk bx2 59 (([.lit (.int .i64 y4_0), .row (r_c_str y4_1), .lit (.slice xd5 (List.length l5) xc5), .row (r_ApiValue_cells y4_3)] : List FW.AV) ++ (ApiPred.cells y4_4) ++ ([.row (r_c_i64 y4_5), .lit (.bool y4_6)] : List FW.AV)), FW.blk b0 93 ([.lit (.slice xd2 (List.length l2) xc2)]), FW.orow xd2 xc2 55 1 c_s_ApiIns_cells l2, FW.blk bx1 59 ((ApiIns.cells (⟨0, [], [], [], (⟨[], [], []⟩ : ApiPred), [], false⟩ : ApiIns)))] [(1, [], .row (r_ApiStep_cells v1)), (4, [], .lit (.pointer (some ⟨bx1, 0, none⟩))), (5, [], .lit (.pointer (some ⟨bx2, 0, none⟩))), (18, [], .lit (.int .i64 v18)), (19, [], .lit (.int .i64 v19))] ∧ cm_order.l1 zB zI zK zO zY zb zR zT zE K kl1 l5 y4_0 y4_1 y4_3 y4_4 y4_5 y4_6 l2 v1 v18 v19 = some r) (fun x => x.1) (K, ([] : List Int), 36, [], [], (⟨[], [], []⟩ : ApiPred), t1.1, false, t1.2.out, v1, (List.length t1.1 : Int), 0, none, 0, zd1, zc1) ⟨hk.sub ⟨rfl, rfl, rfl, rfl, rfl, trivial⟩, h⟩ ?_
 clear hk h
 rintro ⟨kl1, l5, y4_0, y4_1, y4_3, y4_4, y4_5, y4_6, l2, v1, v18, v19, xd5, xc5, xd2, xc2⟩ a w ⟨hk, h⟩ K' q5
 cases kl1 with
 | zero => simp [cm_order.l1] at h
 | succ kl1 =>
 rw [cm_order.l1.eq_2] at h
 refine FW.wreg fun _ q6 => ?_
 refine FW.sLt hk fun a w hk => ?_
 refine FW.lend (q6 _ _ ?_)
 refine FW.wseq fun _ q7 => ?_
 refine FW.wcondF (b := (decide (v19 < v18))) hk h rfl (fun h hb => ?_) (fun h hb => ?_)
 ·skip
  refine wp_skip ?_
  (repeat first | refine FW.tn ?_ | refine FW.bn ?_); refine q7 _ _ ?_
  refine FW.wseq fun _ q8 => ?_
  refine wp_block ?_
  refine FW.wreg fun _ q9 => ?_
  refine FW.sM hk fun a w hk => ?_
  refine FW.sA hk fun a w hk => ?_
  refine FW.lend (q9 _ _ ?_)
  refine FW.wreg fun _ q10 => ?_
  refine FW.sA hk fun a w hk => ?_
  refine FW.lend (q10 _ _ ?_)
  refine FW.wseqJ (fun a w => ∃ (v1 : List ApiStep) (v7 : Int) (v18 : Int) (v19 : Int), FW.S M w0 a w 63 [FW.orow xd5 xc5 2 1 c_i64 l5, FW.blk bx2 59 (([.lit (.int .i64 y4_0), .row (r_c_str y4_1), .lit (.slice xd5 (List.length l5) xc5), .row (r_ApiValue_cells y4_3)] : List FW.AV) ++ (ApiPred.cells y4_4) ++ ([.row (r_c_i64 y4_5), .lit (.bool y4_6)] : List FW.AV)), FW.blk b0 93 ([.lit (.slice xd2 (List.length l2) xc2)]), FW.orow xd2 xc2 55 1 c_s_ApiIns_cells l2, FW.blk bx1 59 ((ApiIns.cells (⟨0, [], [], [], (⟨[], [], []⟩ : ApiPred), [], false⟩ : ApiIns)))] [(1, [], .row (r_ApiStep_cells v1)), (4, [], .lit (.pointer (some ⟨bx1, 0, none⟩))), (5, [], .lit (.pointer (some ⟨bx2, 0, none⟩))), (7, [], .lit (.int .i64 v7)), (18, [], .lit (.int .i64 v18)), (19, [], .lit (.int .i64 v19))] ∧ cm_order.j1 zB zI zK zO zY zb zR zT zE (cm_order.l1 zB zI zK zO zY zb zR zT zE K kl1) K l2 l5 y4_0 y4_1 y4_3 y4_4 y4_5 y4_6 v1 v7 v18 v19 = some r) ?_ ?_
  ·clear hk h
   rintro a w ⟨v1, v7, v18, v19, hk, h⟩
   unfold cm_order.j1 at h
   refine FW.wreg1 ?_
   refine FW.sFp 2 hk Try.underlying59 fun a w hk => ?_
   refine FW.lf (y := .lit (.slice xd5 (List.length l5) xc5)) hk (FW.f_loadBlk1 hk FW.h0 (j := 1) rfl rfl Try.underlying57 rfl rfl) fun a w hk => ?_
   refine FW.sM hk fun a w hk => ?_
   refine FW.l_buildSlice (f := c_i64) (l := ([v7] : List Int)) hk rfl rfl rfl Try.underlying57 rfl rfl rfl rfl (fun _ => rfl) rfl ?_; clear hk; intro bx3 a w hk
   obtain ⟨hc1, h⟩ := FW.chk h
   refine FW.l_append (l2 := ([v7] : List Int)) (l3 := (l5 ++ ([v7] : List Int))) (I' := fun ad1 cap1 => [FW.orow (some ⟨bx3, 0, none⟩) 1 2 1 c_i64 ([v7] : List Int), FW.orow ad1 cap1 2 1 c_i64 (l5 ++ ([v7] : List Int)), FW.blk bx2 59 (([.lit (.int .i64 y4_0), .row (r_c_str y4_1), .lit (.slice xd5 (List.length l5) xc5), .row (r_ApiValue_cells y4_3)] : List FW.AV) ++ (ApiPred.cells y4_4) ++ ([.row (r_c_i64 y4_5), .lit (.bool y4_6)] : List FW.AV)), FW.blk b0 93 ([.lit (.slice xd2 (List.length l2) xc2)]), FW.orow xd2 xc2 55 1 c_s_ApiIns_cells l2, FW.blk bx1 59 ((ApiIns.cells (⟨0, [], [], [], (⟨[], [], []⟩ : ApiPred), [], false⟩ : ApiIns)))]) (j := 1) hk rfl rfl rfl rfl (FW.own_src hk (j := 0) rfl rfl (fun _ => rfl) Try.underlying57) Try.underlying57 (by kernel_rfl) hc1 rfl (fun _ _ => rfl) ?_; clear hk; intro ad1 cap1 a w hk
   replace hk := FW.S.dropI (I' := [FW.orow ad1 cap1 2 1 c_i64 (l5 ++ ([v7] : List Int)), FW.blk bx2 59 (([.lit (.int .i64 y4_0), .row (r_c_str y4_1), .lit (.slice xd5 (List.length l5) xc5), .row (r_ApiValue_cells y4_3)] : List FW.AV) ++ (ApiPred.cells y4_4) ++ ([.row (r_c_i64 y4_5), .lit (.bool y4_6)] : List FW.AV)), FW.blk b0 93 ([.lit (.slice xd2 (List.length l2) xc2)]), FW.orow xd2 xc2 55 1 c_s_ApiIns_cells l2, FW.blk bx1 59 ((ApiIns.cells (⟨0, [], [], [], (⟨[], [], []⟩ : ApiPred), [], false⟩ : ApiIns)))]) hk 0 rfl
   refine FW.sFp 2 hk Try.underlying59 fun a w hk => ?_
   refine FW.st1 (cs' := ([.lit (.int .i64 y4_0), .row (r_c_str y4_1), .lit (.slice ad1 (List.length (l5 ++ ([v7] : List Int))) cap1), .row (r_ApiValue_cells y4_3)] : List FW.AV) ++ (ApiPred.cells y4_4) ++ ([.row (r_c_i64 y4_5), .lit (.bool y4_6)] : List FW.AV)) hk rfl (by kernel_rfl) fun w hk => ?_
   refine wpList_nil ?_
   (repeat first | refine FW.tn ?_ | refine FW.bn ?_); refine q8 _ _ ?_
   refine FW.wreg1 ?_
   refine FW.sAd hk fun a w hk => ?_
   refine FW.sM hk fun a w hk => ?_
   refine wpList_nil ?_
   (repeat first | refine FW.tn ?_ | refine FW.bn ?_); exact q5 (kl1, (l5 ++ ([v7] : List Int)), y4_0, y4_1, y4_3, y4_4, y4_5, y4_6, l2, v1, v18, (IntKind.wrap .i64 (v19 + 1)), ad1, cap1, xd2, xc2) _ _ (Nat.lt_succ_self _) ⟨hk.sub ⟨rfl, rfl, rfl, rfl, rfl, trivial⟩, h⟩
  ·intro K' q11
   refine FW.wreg fun _ q14 => ?_
   refine FW.sM hk fun a w hk => ?_
   refine FW.sM hk fun a w hk => ?_
   refine FW.lf (y := .lit (.int .i64 (List.length v1 : Int))) hk (FW.f_len (R := r_ApiStep_cells) (f := ApiStep.cells) (l := v1) r_ApiStep_cells_eq Try.underlying22 hk FW.h0 rfl) fun a w hk => ?_
   refine FW.sLt hk fun a w hk => ?_
   refine FW.lend (q14 _ _ ?_)
   refine FW.wcondF (b := (decide (v19 < (List.length v1 : Int)))) hk h rfl (fun h hb => ?_) (fun h hb => ?_)
   ·skip
    refine FW.wreg fun _ q15 => ?_
    refine FW.sM hk fun a w hk => ?_
    refine FW.sM hk fun a w hk => ?_
    obtain ⟨hc2, h⟩ := FW.chk h
    refine FW.lf (y := .ref (ApiStep.cells (List.getD v1 (Int.toNat v19) default))) hk (FW.f_indexAddr (R := r_ApiStep_cells) (f := ApiStep.cells) (l := v1) (sz := 2) r_ApiStep_cells_eq (fun _ => rfl) hk FW.h0 rfl rfl Try.underlying22 (by kernel_rfl) hc2) fun a w hk => ?_
    refine FW.lf (y := .ref (List.drop 1 (ApiStep.cells (List.getD v1 (Int.toNat v19) default)))) hk (FW.f_fieldAddr hk FW.h0 rfl Try.underlying29 rfl (by kernel_rfl) rfl) fun a w hk => ?_
    refine FW.lf (y := .row (r_ApiArg_cells ((List.getD v1 (Int.toNat v19) default).Args))) hk (FW.f_load1 hk FW.h0 rfl rfl Try.underlying27 rfl) fun a w hk => ?_
    refine FW.sA hk fun a w hk => ?_
    refine FW.lend (q15 _ _ ?_)
    refine FW.wreg fun _ q16 => ?_
    refine FW.sM hk fun a w hk => ?_
    refine FW.lf (y := .lit (.int .i64 (List.length ((List.getD v1 (Int.toNat v19) default).Args) : Int))) hk (FW.f_len (R := r_ApiArg_cells) (f := ApiArg.cells) (l := (List.getD v1 (Int.toNat v19) default).Args) r_ApiArg_cells_eq Try.underlying27 hk FW.h0 rfl) fun a w hk => ?_
    refine FW.lf (y := .lit (.bool (decide (0 < (List.length ((List.getD v1 (Int.toNat v19) default).Args) : Int))))) hk ((FW.f_pure (FW.p_gtr hk.kn FW.h0 rfl rfl))) fun a w hk => ?_
    refine FW.sM hk fun a w hk => ?_
    refine FW.lg (y := .row (r_ApiArg_cells ((List.getD v1 (Int.toNat v19) default).Args))) hk rfl rfl rfl (fun hc => FW.f_move hk hc rfl) fun a w hk => ?_
    refine FW.lg (y := .row (r_ApiArg_cells ((List.getD v1 (Int.toNat v19) default).Args))) hk rfl rfl rfl (fun hc => FW.f_move hk hc rfl) fun a w hk => ?_
    refine FW.lg (y := .lit (.int .i64 (List.length ((List.getD v1 (Int.toNat v19) default).Args) : Int))) hk rfl rfl rfl (fun hc => FW.f_len (R := r_ApiArg_cells) (f := ApiArg.cells) (l := (List.getD v1 (Int.toNat v19) default).Args) r_ApiArg_cells_eq Try.underlying27 hk hc rfl) fun a w hk => ?_
    refine FW.lg (y := .lit (.int .i64 (IntKind.wrap .i64 ((List.length ((List.getD v1 (Int.toNat v19) default).Args) : Int) - 1)))) hk rfl rfl rfl (fun hc => (FW.f_pure (FW.p_sub hk.kn hc rfl rfl))) fun a w hk => ?_
    obtain ⟨hc3, h⟩ := FW.chk h
    refine FW.lg (y := .ref (ApiArg.cells (List.getD ((List.getD v1 (Int.toNat v19) default).Args) (Int.toNat (IntKind.wrap .i64 ((List.length ((List.getD v1 (Int.toNat v19) default).Args) : Int) - 1))) default))) hk rfl rfl rfl (fun hc => FW.f_indexAddr (R := r_ApiArg_cells) (f := ApiArg.cells) (l := (List.getD v1 (Int.toNat v19) default).Args) (sz := 11) r_ApiArg_cells_eq (fun _ => rfl) hk hc rfl rfl Try.underlying27 (by kernel_rfl) hc3) fun a w hk => ?_
    refine FW.lg (y := .ref (List.drop 0 (ApiArg.cells (List.getD ((List.getD v1 (Int.toNat v19) default).Args) (Int.toNat (IntKind.wrap .i64 ((List.length ((List.getD v1 (Int.toNat v19) default).Args) : Int) - 1))) default)))) hk rfl rfl rfl (fun hc => FW.f_fieldAddr hk hc rfl Try.underlying38 rfl (by kernel_rfl) rfl) fun a w hk => ?_
    refine FW.lg (y := .lit (.int .i64 ((List.getD ((List.getD v1 (Int.toNat v19) default).Args) (Int.toNat (IntKind.wrap .i64 ((List.length ((List.getD v1 (Int.toNat v19) default).Args) : Int) - 1))) default).Kind))) hk rfl rfl rfl (fun hc => FW.f_load1 hk hc rfl rfl Try.underlying3 rfl) fun a w hk => ?_
    refine FW.lg (y := .lit (.bool (decide (((List.getD ((List.getD v1 (Int.toNat v19) default).Args) (Int.toNat (IntKind.wrap .i64 ((List.length ((List.getD v1 (Int.toNat v19) default).Args) : Int) - 1))) default).Kind) = 4)))) hk rfl rfl rfl (fun hc => (FW.f_pure (FW.p_eql hk.kn hc rfl rfl))) fun a w hk => ?_
    refine FW.sAn hk fun a w hk => ?_
    refine FW.sM hk fun a w hk => ?_
    refine FW.lg (y := .row (r_ApiArg_cells ((List.getD v1 (Int.toNat v19) default).Args))) hk rfl rfl rfl (fun hc => FW.f_move hk hc rfl) fun a w hk => ?_
    refine FW.lg (y := .row (r_ApiArg_cells ((List.getD v1 (Int.toNat v19) default).Args))) hk rfl rfl rfl (fun hc => FW.f_move hk hc rfl) fun a w hk => ?_
    refine FW.lg (y := .lit (.int .i64 (List.length ((List.getD v1 (Int.toNat v19) default).Args) : Int))) hk rfl rfl rfl (fun hc => FW.f_len (R := r_ApiArg_cells) (f := ApiArg.cells) (l := (List.getD v1 (Int.toNat v19) default).Args) r_ApiArg_cells_eq Try.underlying27 hk hc rfl) fun a w hk => ?_
    refine FW.lg (y := .lit (.int .i64 (IntKind.wrap .i64 ((List.length ((List.getD v1 (Int.toNat v19) default).Args) : Int) - 1)))) hk rfl rfl rfl (fun hc => (FW.f_pure (FW.p_sub hk.kn hc rfl rfl))) fun a w hk => ?_
    obtain ⟨hc4, h⟩ := FW.chk h
    refine FW.lg (y := .ref (ApiArg.cells (List.getD ((List.getD v1 (Int.toNat v19) default).Args) (Int.toNat (IntKind.wrap .i64 ((List.length ((List.getD v1 (Int.toNat v19) default).Args) : Int) - 1))) default))) hk rfl rfl rfl (fun hc => FW.f_indexAddr (R := r_ApiArg_cells) (f := ApiArg.cells) (l := (List.getD v1 (Int.toNat v19) default).Args) (sz := 11) r_ApiArg_cells_eq (fun _ => rfl) hk hc rfl rfl Try.underlying27 (by kernel_rfl) hc4) fun a w hk => ?_
    refine FW.lg (y := .ref (List.drop 1 (ApiArg.cells (List.getD ((List.getD v1 (Int.toNat v19) default).Args) (Int.toNat (IntKind.wrap .i64 ((List.length ((List.getD v1 (Int.toNat v19) default).Args) : Int) - 1))) default)))) hk rfl rfl rfl (fun hc => FW.f_fieldAddr hk hc rfl Try.underlying38 rfl (by kernel_rfl) rfl) fun a w hk => ?_
    refine FW.lg (y := .ref (List.drop 4 (List.drop 1 (ApiArg.cells (List.getD ((List.getD v1 (Int.toNat v19) default).Args) (Int.toNat (IntKind.wrap .i64 ((List.length ((List.getD v1 (Int.toNat v19) default).Args) : Int) - 1))) default))))) hk rfl rfl rfl (fun hc => FW.f_fieldAddr hk hc rfl Try.underlying33 rfl (by kernel_rfl) rfl) fun a w hk => ?_
    refine FW.lg (y := .lit (.string (FW.B (((List.getD ((List.getD v1 (Int.toNat v19) default).Args) (Int.toNat (IntKind.wrap .i64 ((List.length ((List.getD v1 (Int.toNat v19) default).Args) : Int) - 1))) default).V).S)))) hk rfl rfl rfl (fun hc => FW.f_load1 hk hc rfl rfl Try.underlying9 rfl) fun a w hk => ?_
    refine FW.lg (y := .lit (.bool (decide ((((List.getD ((List.getD v1 (Int.toNat v19) default).Args) (Int.toNat (IntKind.wrap .i64 ((List.length ((List.getD v1 (Int.toNat v19) default).Args) : Int) - 1))) default).V).S) = ([100, 101, 115, 99] : List UInt8))))) hk rfl rfl rfl (fun hc => (FW.f_pure (FW.p_seql hk.kn hc rfl rfl))) fun a w hk => ?_
    refine FW.sAn hk fun a w hk => ?_
    refine FW.lend (q16 _ _ ?_)
    refine FW.wcondF (b := (((decide (0 < (List.length ((List.getD v1 (Int.toNat v19) default).Args) : Int))) && (decide (((List.getD ((List.getD v1 (Int.toNat v19) default).Args) (Int.toNat (IntKind.wrap .i64 ((List.length ((List.getD v1 (Int.toNat v19) default).Args) : Int) - 1))) default).Kind) = 4))) && (decide ((((List.getD ((List.getD v1 (Int.toNat v19) default).Args) (Int.toNat (IntKind.wrap .i64 ((List.length ((List.getD v1 (Int.toNat v19) default).Args) : Int) - 1))) default).V).S) = ([100, 101, 115, 99] : List UInt8))))) hk h rfl (fun h hb => ?_) (fun h hb => ?_)
    ·skip
     refine FW.wreg1 ?_
     refine FW.sA hk fun a w hk => ?_
     refine wpList_nil ?_
     (repeat first | refine FW.tn ?_ | refine FW.bn ?_); exact q11 _ _ ⟨v1, 1, v18, v19, hk.sub ⟨rfl, rfl, rfl, rfl, rfl, rfl, trivial⟩, h⟩
    refine wp_skip ?_
    (repeat first | refine FW.tn ?_ | refine FW.bn ?_); exact q11 _ _ ⟨v1, 0, v18, v19, hk.sub ⟨rfl, rfl, rfl, rfl, rfl, rfl, trivial⟩, h⟩
   refine wp_skip ?_
   (repeat first | refine FW.tn ?_ | refine FW.bn ?_); exact q11 _ _ ⟨v1, 0, v18, v19, hk.sub ⟨rfl, rfl, rfl, rfl, rfl, rfl, trivial⟩, h⟩
 refine wp_exit ?_; (repeat first | refine FW.then_exit ?_ | refine FW.block_exit_ne rfl ?_); refine FW.block_exit ?_
 (repeat first | refine FW.tn ?_ | refine FW.bn ?_); refine q3 _ _ ?_
 refine FW.wreg fun _ q18 => ?_
 replace hk := FW.S.freezeBlk (I1 := [FW.blk bx2 59 (([.lit (.int .i64 y4_0), .row (r_c_str y4_1), .lit (.slice xd5 (List.length l5) xc5), .row (r_ApiValue_cells y4_3)] : List FW.AV) ++ (ApiPred.cells y4_4) ++ ([.row (r_c_i64 y4_5), .lit (.bool y4_6)] : List FW.AV)), FW.blk b0 93 ([.lit (.slice xd2 (List.length l2) xc2)]), FW.orow xd2 xc2 55 1 c_s_ApiIns_cells l2, FW.blk bx1 59 ((ApiIns.cells (⟨0, [], [], [], (⟨[], [], []⟩ : ApiPred), [], false⟩ : ApiIns)))]) (cs' := (ApiIns.cells (⟨y4_0, y4_1, l5, y4_3, y4_4, y4_5, y4_6⟩ : ApiIns))) (I' := [FW.blk bx2 59 ((ApiIns.cells (⟨y4_0, y4_1, l5, y4_3, y4_4, y4_5, y4_6⟩ : ApiIns))), FW.blk b0 93 ([.lit (.slice xd2 (List.length l2) xc2)]), FW.orow xd2 xc2 55 1 c_s_ApiIns_cells l2, FW.blk bx1 59 ((ApiIns.cells (⟨0, [], [], [], (⟨[], [], []⟩ : ApiPred), [], false⟩ : ApiIns)))]) r_c_i64_eq hk 0 0 2 rfl rfl rfl rfl rfl rfl
 refine FW.lf (y := .agg ((ApiIns.cells (⟨y4_0, y4_1, l5, y4_3, y4_4, y4_5, y4_6⟩ : ApiIns)))) hk (FW.f_loadBlk hk FW.h0 (j := 0) rfl rfl Try.underlying59 rfl rfl rfl rfl) fun a w hk => ?_
 refine FW.st3 (cs' := (ApiIns.cells (⟨y4_0, y4_1, l5, y4_3, y4_4, y4_5, y4_6⟩ : ApiIns))) hk rfl (by kernel_rfl) fun w hk => ?_
 refine FW.lend (q18 _ _ ?_)
 refine wp_ret ?_
 (repeat first | refine FW.then_ret ?_ | refine FW.block_ret ?_)
 obtain rfl := Option.some.inj h
 have hr_0 := FW.rres_keep (I1 := [FW.blk b0 93 ([.lit (.slice xd2 (List.length l2) xc2)]), FW.orow xd2 xc2 55 1 c_s_ApiIns_cells l2]) (I2 := [FW.blk bx2 59 ((ApiIns.cells (⟨y4_0, y4_1, l5, y4_3, y4_4, y4_5, y4_6⟩ : ApiIns))), FW.blk bx1 59 ((ApiIns.cells (⟨y4_0, y4_1, l5, y4_3, y4_4, y4_5, y4_6⟩ : ApiIns)))]) (js := [2, 2]) rfl (FW.rcell (tt := 4) hk rfl (j := 3) rfl Try.underlying59 rfl (by kernel_rfl))
 replace hk := FW.S.keep (I1 := [FW.blk b0 93 ([.lit (.slice xd2 (List.length l2) xc2)]), FW.orow xd2 xc2 55 1 c_s_ApiIns_cells l2]) (I2 := [FW.blk bx2 59 ((ApiIns.cells (⟨y4_0, y4_1, l5, y4_3, y4_4, y4_5, y4_6⟩ : ApiIns))), FW.blk bx1 59 ((ApiIns.cells (⟨y4_0, y4_1, l5, y4_3, y4_4, y4_5, y4_6⟩ : ApiIns)))]) (js := [2, 2]) hk rfl
 exact FW.fretH1 hk rfl hr_0 ⟨xd2, xc2, rfl, rfl⟩
end Go.Proofs.Ytbjbgodcenopnaa

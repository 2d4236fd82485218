/- Written by a program of this session (gen.py): the contracts of functions of the program. -/
import Derived.Test.YtbjbgodcenopnaaCbP19
namespace Go.Proofs.Ytbjbgodcenopnaa
set_option linter.unusedVariables false
set_option maxRecDepth 20000
set_option maxHeartbeats 10000000
theorem cm_bys.bok (zB : OCM → List ApiStep → Option (Int × OCM)) (zI : OCM → ApiStep → List ApiStep → Option (ApiIns × OCM)) (zK : OCM → List ApiArg → Option (List Int × OCM)) (zO : OCM → ApiStep → List ApiStep → Option (ApiIns × OCM)) (zY : OCM → List ApiStep → Int → Option (List Int × OCM)) (zb : OCM → ApiStep → Option (Int × OCM)) (zR : OCM → List ApiStep → Option (ApiIns × OCM)) (zT : OCM → ApiStep → List ApiStep → Option (ApiIns × OCM)) (zE : OCM → ApiStep → List ApiStep → Option (ApiIns × OCM)) (hzB : ZzB zB) (hzI : ZzI zI) (hzK : ZzK zK) (hzO : ZzO zO) (hzY : ZzY zY) (hzb : Zzb zb) (hzR : ZzR zR) (hzT : ZzT zT) (hzE : ZzE zE) (K : Nat) (v0 : OCM) (v1 : List ApiStep) (v2 : Int) (r : List Int × OCM) (h : cm_bys.b zB zI zK zO zY zb zR zT zE K v0 v1 v2 = some r) :
  ∀ (b0 : Nat) (xd0_0 : Option Addr) (xc0_0 : Nat), FW.OkH Try.prog 131 [.lit (.pointer (some ⟨b0, 0, none⟩)), .row (r_ApiStep_cells v1), .lit (.int .i64 v2)] (OCM.items b0 xd0_0 xc0_0 v0) (fun y I => ∃ (zxd0_0 : Option Addr) (zxc0_0 : Nat), y = .row (r_c_i64 r.1) ∧ I = OCM.items b0 zxd0_0 zxc0_0 r.2) := by
 intro b0 xd0_0 xc0_0
 refine FW.enterH (xs := [.lit (.pointer (some ⟨b0, 0, none⟩)), .row (r_ApiStep_cells v1), .lit (.int .i64 v2)]) Try.func131 rfl Try.ntmps131 rfl ?_
 intro M w0 a hk
 replace hk : FW.S M w0 a w0.toWorld 30 [FW.blk b0 93 ([.lit (.slice xd0_0 (List.length v0.out) xc0_0)]), FW.orow xd0_0 xc0_0 55 1 c_s_ApiIns_cells v0.out] [(0, [], .lit (.pointer (some ⟨b0, 0, none⟩))), (1, [], .row (r_ApiStep_cells v1)), (2, [], .lit (.int .i64 v2))] := hk
 unfold cm_bys.b at h
 refine FW.wreg fun _ q1 => ?_
 refine FW.lf (y := .row (r_c_i64 [])) hk (FW.f_assignNil) fun a w hk => ?_
 refine FW.lend (q1 _ _ ?_)
 refine FW.wreg fun _ q2 => ?_
 refine FW.sA hk fun a w hk => ?_
 replace hk := hk.nilRow 3 1 c_i64 (fun _ => rfl)
 refine FW.lend (q2 _ _ ?_)
 refine FW.wseq fun _ q3 => ?_
 refine FW.wreg fun _ q4 => ?_
 refine FW.sM hk fun a w hk => ?_
 refine FW.sM hk fun a w hk => ?_
 refine FW.lend (q4 _ _ ?_)
 refine wp_block ?_
 refine FW.wloop (T := Nat × List Int × List (List ApiIns) × List ApiStep × Int × Int × Option Addr × Nat × Option Addr × Nat) (fun x a w => match x with | (kl1, l3, l2, v1, v10, v11, xd3, xc3, xd2, xc2) => FW.S M w0 a w 30 [FW.orow xd3 xc3 3 1 c_i64 l3, FW.blk b0 93 ([.lit (.slice xd2 (List.length l2) xc2)]), FW.orow xd2 xc2 55 1 c_s_ApiIns_cells l2] [(0, [], .lit (.pointer (some ⟨b0, 0, none⟩))), (1, [], .row (r_ApiStep_cells v1)), (7, [], .lit (.slice xd3 (List.length l3) xc3)), (10, [], .lit (.int .i64 v10)), (11, [], .lit (.int .i64 v11))] ∧ cm_bys.l1 zB zI zK zO zY zb zR zT zE K kl1 l3 l2 v1 v10 v11 = some r) (fun x => x.1) (K, ([] : List Int), v0.out, v1, v2, 0, none, 0, xd0_0, xc0_0) ⟨hk.sub ⟨rfl, rfl, rfl, rfl, rfl, trivial⟩, h⟩ ?_
 clear hk h
 rintro ⟨kl1, l3, l2, v1, v10, v11, xd3, xc3, xd2, xc2⟩ a w ⟨hk, h⟩ K' q5
 cases kl1 with
 | zero => simp [cm_bys.l1] at h
 | succ kl1 =>
 rw [cm_bys.l1.eq_2] at h
 refine FW.wreg fun _ q6 => ?_
 refine FW.sLt hk fun a w hk => ?_
 refine FW.lend (q6 _ _ ?_)
 refine FW.wseq fun _ q7 => ?_
 refine FW.wcondF (b := (decide (v11 < v10))) hk h rfl (fun h hb => ?_) (fun h hb => ?_)
 ·skip
  refine wp_skip ?_
  (repeat first | refine FW.tn ?_ | refine FW.bn ?_); refine q7 _ _ ?_
  refine FW.wseq fun _ q8 => ?_
  refine wp_block ?_
  refine FW.wreg fun _ q9 => ?_
  refine FW.sM hk fun a w hk => ?_
  refine FW.sA hk fun a w hk => ?_
  refine FW.lend (q9 _ _ ?_)
  refine FW.wreg fun _ q10 => ?_
  refine FW.sA hk fun a w hk => ?_
  refine FW.lend (q10 _ _ ?_)
  refine FW.wseqJ (fun a w => ∃ (l2 : List (List ApiIns)) (v1 : List ApiStep) (v9 : Int) (v10 : Int) (v11 : Int) (xd2 : Option Addr) (xc2 : Nat), FW.S M w0 a w 30 [FW.blk b0 93 ([.lit (.slice xd2 (List.length l2) xc2)]), FW.orow xd2 xc2 55 1 c_s_ApiIns_cells l2, FW.orow xd3 xc3 3 1 c_i64 l3] [(0, [], .lit (.pointer (some ⟨b0, 0, none⟩))), (1, [], .row (r_ApiStep_cells v1)), (7, [], .lit (.slice xd3 (List.length l3) xc3)), (9, [], .lit (.int .i64 v9)), (10, [], .lit (.int .i64 v10)), (11, [], .lit (.int .i64 v11))] ∧ cm_bys.j1 zB zI zK zO zY zb zR zT zE (cm_bys.l1 zB zI zK zO zY zb zR zT zE K kl1) K l3 l2 v1 v9 v10 v11 = some r) ?_ ?_
  ·clear hk h
   rintro a w ⟨l2, v1, v9, v10, v11, xd2, xc2, hk, h⟩
   unfold cm_bys.j1 at h
   refine FW.wreg1 ?_
   refine FW.sM hk fun a w hk => ?_
   refine FW.sM hk fun a w hk => ?_
   refine FW.l_buildSlice (f := c_i64) (l := ([v9] : List Int)) hk rfl rfl rfl Try.underlying54 rfl rfl rfl rfl (fun _ => rfl) rfl ?_; clear hk; intro bx1 a w hk
   obtain ⟨hc1, h⟩ := FW.chk h
   refine FW.l_append (l2 := ([v9] : List Int)) (l3 := (l3 ++ ([v9] : List Int))) (I' := fun ad1 cap1 => [FW.orow (some ⟨bx1, 0, none⟩) 1 3 1 c_i64 ([v9] : List Int), FW.blk b0 93 ([.lit (.slice xd2 (List.length l2) xc2)]), FW.orow xd2 xc2 55 1 c_s_ApiIns_cells l2, FW.orow ad1 cap1 3 1 c_i64 (l3 ++ ([v9] : List Int))]) (j := 3) hk rfl rfl rfl rfl (FW.own_src hk (j := 0) rfl rfl (fun _ => rfl) Try.underlying54) Try.underlying54 (by kernel_rfl) hc1 rfl (fun _ _ => rfl) ?_; clear hk; intro ad1 cap1 a w hk
   replace hk := FW.S.dropI (I' := [FW.blk b0 93 ([.lit (.slice xd2 (List.length l2) xc2)]), FW.orow xd2 xc2 55 1 c_s_ApiIns_cells l2, FW.orow ad1 cap1 3 1 c_i64 (l3 ++ ([v9] : List Int))]) hk 0 rfl
   refine FW.sA hk fun a w hk => ?_
   refine wpList_nil ?_
   (repeat first | refine FW.tn ?_ | refine FW.bn ?_); refine q8 _ _ ?_
   refine FW.wreg1 ?_
   refine FW.sAd hk fun a w hk => ?_
   refine FW.sM hk fun a w hk => ?_
   refine wpList_nil ?_
   (repeat first | refine FW.tn ?_ | refine FW.bn ?_); exact q5 (kl1, (l3 ++ ([v9] : List Int)), l2, v1, v10, (IntKind.wrap .i64 (v11 + 1)), ad1, cap1, xd2, xc2) _ _ (Nat.lt_succ_self _) ⟨(FW.S.pick hk (js := [1, 1, 2]) rfl).sub ⟨rfl, rfl, rfl, rfl, rfl, trivial⟩, h⟩
  ·intro K' q11
   refine FW.wreg fun _ q14 => ?_
   refine FW.sM hk fun a w hk => ?_
   refine FW.sM hk fun a w hk => ?_
   refine FW.lf (y := .lit (.int .i64 (List.length v1 : Int))) hk (FW.f_len (R := r_ApiStep_cells) (f := ApiStep.cells) (l := v1) r_ApiStep_cells_eq Try.underlying22 hk FW.h0 rfl) fun a w hk => ?_
   refine FW.sLt hk fun a w hk => ?_
   refine FW.lend (q14 _ _ ?_)
   refine FW.wcondF (b := (decide (v11 < (List.length v1 : Int)))) hk h rfl (fun h hb => ?_) (fun h hb => ?_)
   ·skip
    refine FW.wreg1 ?_
    refine FW.sM hk fun a w hk => ?_
    refine FW.sM hk fun a w hk => ?_
    refine FW.sM hk fun a w hk => ?_
    obtain ⟨hc2, h⟩ := FW.chk h
    refine FW.lf (y := .ref (ApiStep.cells (List.getD v1 (Int.toNat v11) default))) hk (FW.f_indexAddr (R := r_ApiStep_cells) (f := ApiStep.cells) (l := v1) (sz := 2) r_ApiStep_cells_eq (fun _ => rfl) hk FW.h0 rfl rfl Try.underlying22 (by kernel_rfl) hc2) fun a w hk => ?_
    refine FW.lf (y := .agg ((ApiStep.cells (List.getD v1 (Int.toNat v11) default)))) hk (FW.f_load hk FW.h0 rfl Try.underlying29 rfl rfl rfl rfl) fun a w hk => ?_
    obtain ⟨t1, hr_t1, h⟩ := FW.bnd h
    refine FW.l_callH (I1 := (OCM.items b0 xd2 xc2 (⟨l2⟩ : OCM))) (I2 := [FW.orow xd3 xc3 3 1 c_i64 l3]) (js := [2, 2]) hk rfl rfl rfl rfl rfl Try.func151 rfl (by kernel_rfl) (hzb (⟨l2⟩ : OCM) (List.getD v1 (Int.toNat v11) default) _ hr_t1 b0 xd2 xc2) ?_; clear hk
    rintro _ _ ⟨zd1, zc1, rfl, rfl⟩ a w hk
    refine FW.sA hk fun a w hk => ?_
    refine wpList_nil ?_
    (repeat first | refine FW.tn ?_ | refine FW.bn ?_); exact q11 _ _ ⟨t1.2.out, v1, t1.1, v10, v11, zd1, zc1, hk.sub ⟨rfl, rfl, rfl, rfl, rfl, rfl, trivial⟩, h⟩
   refine wp_skip ?_
   (repeat first | refine FW.tn ?_ | refine FW.bn ?_); exact q11 _ _ ⟨l2, v1, (-1), v10, v11, xd2, xc2, (FW.S.pick hk (js := [0, 2, 2]) rfl).sub ⟨rfl, rfl, rfl, rfl, rfl, rfl, trivial⟩, h⟩
 refine wp_exit ?_; (repeat first | refine FW.then_exit ?_ | refine FW.block_exit_ne rfl ?_); refine FW.block_exit ?_
 (repeat first | refine FW.tn ?_ | refine FW.bn ?_); refine q3 _ _ ?_
 refine FW.wreg fun _ q16 => ?_
 refine FW.sM hk fun a w hk => ?_
 refine FW.sA hk fun a w hk => ?_
 refine FW.lend (q16 _ _ ?_)
 refine wp_ret ?_
 (repeat first | refine FW.then_ret ?_ | refine FW.block_ret ?_)
 replace hk := FW.S.freezeR (I' := [FW.blk b0 93 ([.lit (.slice xd2 (List.length l2) xc2)]), FW.orow xd2 xc2 55 1 c_s_ApiIns_cells l2]) r_c_i64_eq hk (j := 0) rfl (t := 6) rfl rfl
 obtain rfl := Option.some.inj h
 replace hk := FW.S.keep (I1 := [FW.blk b0 93 ([.lit (.slice xd2 (List.length l2) xc2)]), FW.orow xd2 xc2 55 1 c_s_ApiIns_cells l2]) (I2 := []) (js := [1, 1]) hk rfl
 exact FW.fretH1 hk rfl (FW.rtmp hk rfl) ⟨xd2, xc2, rfl, rfl⟩

theorem cm_by.bok (zB : OCM → List ApiStep → Option (Int × OCM)) (zI : OCM → ApiStep → List ApiStep → Option (ApiIns × OCM)) (zK : OCM → List ApiArg → Option (List Int × OCM)) (zO : OCM → ApiStep → List ApiStep → Option (ApiIns × OCM)) (zY : OCM → List ApiStep → Int → Option (List Int × OCM)) (zb : OCM → ApiStep → Option (Int × OCM)) (zR : OCM → List ApiStep → Option (ApiIns × OCM)) (zT : OCM → ApiStep → List ApiStep → Option (ApiIns × OCM)) (zE : OCM → ApiStep → List ApiStep → Option (ApiIns × OCM)) (hzB : ZzB zB) (hzI : ZzI zI) (hzK : ZzK zK) (hzO : ZzO zO) (hzY : ZzY zY) (hzb : Zzb zb) (hzR : ZzR zR) (hzT : ZzT zT) (hzE : ZzE zE) (K : Nat) (v0 : OCM) (v1 : ApiStep) (r : Int × OCM) (h : cm_by.b zB zI zK zO zY zb zR zT zE K v0 v1 = some r) :
  ∀ (b0 : Nat) (xd0_0 : Option Addr) (xc0_0 : Nat), FW.OkH Try.prog 151 [.lit (.pointer (some ⟨b0, 0, none⟩)), .agg (ApiStep.cells v1)] (OCM.items b0 xd0_0 xc0_0 v0) (fun y I => ∃ (zxd0_0 : Option Addr) (zxc0_0 : Nat), y = .lit (.int .i64 r.1) ∧ I = OCM.items b0 zxd0_0 zxc0_0 r.2) := by
 intro b0 xd0_0 xc0_0
 refine FW.enterH (xs := [.lit (.pointer (some ⟨b0, 0, none⟩)), .agg (ApiStep.cells v1)]) Try.func151 rfl Try.ntmps151 rfl ?_
 intro M w0 a hk
 replace hk : FW.S M w0 a w0.toWorld 50 [FW.blk b0 93 ([.lit (.slice xd0_0 (List.length v0.out) xc0_0)]), FW.orow xd0_0 xc0_0 55 1 c_s_ApiIns_cells v0.out] [(0, [], .lit (.pointer (some ⟨b0, 0, none⟩))), (1, [], .agg ((ApiStep.cells v1)))] := hk
 unfold cm_by.b at h
 refine FW.wreg fun _ q1 => ?_
 refine FW.l_box (cs := (ApiStep.cells v1)) hk rfl rfl rfl rfl rfl ?_; clear hk; intro bx1 a w hk
 refine FW.sA hk fun a w hk => ?_
 refine FW.lend (q1 _ _ ?_)
 refine FW.wseq fun _ q2 => ?_
 refine FW.wreg fun _ q3 => ?_
 refine FW.sFp 1 hk Try.underlying29 fun a w hk => ?_
 refine FW.lf (y := .row (r_ApiArg_cells v1.Args)) hk (FW.f_loadBlk1 hk FW.h0 (j := 0) rfl rfl Try.underlying27 rfl rfl) fun a w hk => ?_
 refine FW.lf (y := .lit (.int .i64 (List.length v1.Args : Int))) hk (FW.f_len (R := r_ApiArg_cells) (f := ApiArg.cells) (l := v1.Args) r_ApiArg_cells_eq Try.underlying27 hk FW.h0 rfl) fun a w hk => ?_
 refine FW.sEq hk fun a w hk => ?_
 refine FW.sM hk fun a w hk => ?_
 refine FW.lg (y := .lit (.pointer (some ⟨bx1, 1, none⟩))) hk rfl rfl rfl (fun hc => FW.f_fieldPtr hk hc rfl Try.underlying29 rfl (by kernel_rfl) rfl) fun a w hk => ?_
 refine FW.lg (y := .row (r_ApiArg_cells v1.Args)) hk rfl rfl rfl (fun hc => FW.f_loadBlk1 hk hc (j := 0) rfl rfl Try.underlying27 rfl rfl) fun a w hk => ?_
 obtain ⟨hc1, h⟩ := FW.chk h
 refine FW.lg (y := .ref (ApiArg.cells (List.getD v1.Args (Int.toNat 0) default))) hk rfl rfl rfl (fun hc => FW.f_indexAddr (R := r_ApiArg_cells) (f := ApiArg.cells) (l := v1.Args) (sz := 11) r_ApiArg_cells_eq (fun _ => rfl) hk hc rfl rfl Try.underlying27 (by kernel_rfl) hc1) fun a w hk => ?_
 refine FW.lg (y := .ref (List.drop 0 (ApiArg.cells (List.getD v1.Args (Int.toNat 0) default)))) hk rfl rfl rfl (fun hc => FW.f_fieldAddr hk hc rfl Try.underlying38 rfl (by kernel_rfl) rfl) fun a w hk => ?_
 refine FW.lg (y := .lit (.int .i64 ((List.getD v1.Args (Int.toNat 0) default).Kind))) hk rfl rfl rfl (fun hc => FW.f_load1 hk hc rfl rfl Try.underlying3 rfl) fun a w hk => ?_
 refine FW.lg (y := .lit (.bool (decide (((List.getD v1.Args (Int.toNat 0) default).Kind) = 4)))) hk rfl rfl rfl (fun hc => (FW.f_pure (FW.p_eql hk.kn hc rfl rfl))) fun a w hk => ?_
 refine FW.sOr hk fun a w hk => ?_
 refine FW.lend (q3 _ _ ?_)
 refine FW.wcondF (b := ((decide ((List.length v1.Args : Int) = 0)) || (decide (((List.getD v1.Args (Int.toNat 0) default).Kind) = 4)))) hk h rfl (fun h hb => ?_) (fun h hb => ?_)
 ·skip
  refine FW.wreg fun _ q4 => ?_
  refine FW.sA hk fun a w hk => ?_
  refine FW.lend (q4 _ _ ?_)
  refine wp_ret ?_
  (repeat first | refine FW.then_ret ?_ | refine FW.block_ret ?_)
  obtain rfl := Option.some.inj h
  replace hk := FW.S.keep (I1 := [FW.blk b0 93 ([.lit (.slice xd0_0 (List.length v0.out) xc0_0)]), FW.orow xd0_0 xc0_0 55 1 c_s_ApiIns_cells v0.out]) (I2 := [FW.blk bx1 29 ((ApiStep.cells v1))]) (js := [2, 2]) hk rfl
  exact FW.fretH1 hk rfl (FW.rtmp hk rfl) ⟨xd0_0, xc0_0, rfl, rfl⟩
 refine wp_skip ?_
 (repeat first | refine FW.tn ?_ | refine FW.bn ?_); refine q2 _ _ ?_
 refine FW.wseq fun _ q5 => ?_
 refine FW.wreg fun _ q6 => ?_
 refine FW.sFp 1 hk Try.underlying29 fun a w hk => ?_
 refine FW.lf (y := .row (r_ApiArg_cells v1.Args)) hk (FW.f_loadBlk1 hk FW.h0 (j := 0) rfl rfl Try.underlying27 rfl rfl) fun a w hk => ?_
 obtain ⟨hc2, h⟩ := FW.chk h
 refine FW.lf (y := .ref (ApiArg.cells (List.getD v1.Args (Int.toNat 0) default))) hk (FW.f_indexAddr (R := r_ApiArg_cells) (f := ApiArg.cells) (l := v1.Args) (sz := 11) r_ApiArg_cells_eq (fun _ => rfl) hk FW.h0 rfl rfl Try.underlying27 (by kernel_rfl) hc2) fun a w hk => ?_
 refine FW.lf (y := .agg ((ApiArg.cells (List.getD v1.Args (Int.toNat 0) default)))) hk (FW.f_load hk FW.h0 rfl Try.underlying38 rfl rfl rfl rfl) fun a w hk => ?_
 refine FW.l_alloc (zs := (ApiArg.cells (⟨0, (⟨0, false, 0, 0, [], []⟩ : ApiValue), (⟨[], [], []⟩ : ApiPred), []⟩ : ApiArg))) [] hk rfl rfl rfl rfl ?_; clear hk; intro bx2 a w hk
 refine FW.st0 (cs' := (ApiArg.cells (List.getD v1.Args (Int.toNat 0) default))) hk rfl (by kernel_rfl) fun w hk => ?_
 refine FW.lend (q6 _ _ ?_)
 refine FW.wreg fun _ q7 => ?_
 refine FW.sFp 0 hk Try.underlying38 fun a w hk => ?_
 refine FW.lf (y := .lit (.int .i64 ((List.getD v1.Args (Int.toNat 0) default).Kind))) hk (FW.f_loadBlk1 hk FW.h0 (j := 0) rfl rfl Try.underlying3 rfl rfl) fun a w hk => ?_
 refine FW.sEq hk fun a w hk => ?_
 refine FW.lend (q7 _ _ ?_)
 refine FW.wcondF (b := (decide (((List.getD v1.Args (Int.toNat 0) default).Kind) = 3))) hk h rfl (fun h hb => ?_) (fun h hb => ?_)
 ·skip
  refine FW.wreg fun _ q8 => ?_
  refine FW.sM hk fun a w hk => ?_
  refine FW.sFp 10 hk Try.underlying38 fun a w hk => ?_
  refine FW.lf (y := .row (r_ApiStep_cells ((List.getD v1.Args (Int.toNat 0) default).T))) hk (FW.f_loadBlk1 hk FW.h0 (j := 0) rfl rfl Try.underlying22 rfl rfl) fun a w hk => ?_
  obtain ⟨t1, hr_t1, h⟩ := FW.bnd h
  refine FW.l_callH (I1 := (OCM.items b0 xd0_0 xc0_0 v0)) (I2 := [FW.blk bx2 38 ((ApiArg.cells (List.getD v1.Args (Int.toNat 0) default))), FW.blk bx1 29 ((ApiStep.cells v1))]) (js := [3, 3]) hk rfl rfl rfl rfl rfl Try.func48 rfl (by kernel_rfl) (hzB v0 ((List.getD v1.Args (Int.toNat 0) default).T) _ hr_t1 b0 xd0_0 xc0_0) ?_; clear hk
  rintro _ _ ⟨zd1, zc1, rfl, rfl⟩ a w hk
  refine FW.sA hk fun a w hk => ?_
  refine FW.lend (q8 _ _ ?_)
  refine wp_ret ?_
  (repeat first | refine FW.then_ret ?_ | refine FW.block_ret ?_)
  obtain rfl := Option.some.inj h
  replace hk := FW.S.keep (I1 := [FW.blk b0 93 ([.lit (.slice zd1 (List.length t1.2.out) zc1)]), FW.orow zd1 zc1 55 1 c_s_ApiIns_cells t1.2.out]) (I2 := [FW.blk bx2 38 ((ApiArg.cells (List.getD v1.Args (Int.toNat 0) default))), FW.blk bx1 29 ((ApiStep.cells v1))]) (js := [1, 1]) hk rfl
  exact FW.fretH1 hk rfl (FW.rtmp hk rfl) ⟨zd1, zc1, rfl, rfl⟩
 refine wp_skip ?_
 (repeat first | refine FW.tn ?_ | refine FW.bn ?_); refine q5 _ _ ?_
 obtain ⟨hc3, h⟩ := FW.chk h
 obtain ⟨t2, hr_t2, h⟩ := FW.bnd h
 obtain ⟨hc4, h⟩ := FW.chk h
 refine FW.wdrawE (.next [true, true, true, true, true, true, true, true, true, true, false, false, false, false, false, false] 10 [true, true, true, true, true, true, true, true, true, true, false, false, false, false, false, false] (.next [true, true, true, true, true, false, false, false, false, false, false, false, false, false, false, false] 11 [true, true, true, true, true, true, true, true, true, true, true, false, false, false, false, false] (.next [true, true, true, true, true, false, false, false, false, false, false, false, false, false, false, false] 12 [true, true, true, true, true, true, true, true, true, true, true, true, false, false, false, false] (.next [true, false, false, false, false, false, false, false, false, false, false, false, false, true, true, false] 15 [true, true, true, true, true, true, true, true, true, true, true, true, true, true, true, false] (.leaf [false, false, false, false, false, false, false, false, false, false, false, false, false, false, false, false]))))) [(29, [], .lit (.pointer (some ⟨b0, 0, none⟩))), (30, [], .lit (.pointer (some ⟨b0, 0, none⟩))), (31, [], .lit (.pointer (some ⟨b0, 0, none⟩))), (32, [], .lit (.pointer (some ⟨b0, 0, none⟩))), (33, [], .lit (.slice xd0_0 (List.length v0.out) xc0_0)), (34, [], .lit (.pointer (some ⟨bx1, 1, none⟩))), (35, [], .row (r_ApiArg_cells v1.Args)), (36, [], .row (r_ApiArg_cells (List.take (Int.toNat 1 - Int.toNat 0) (List.drop (Int.toNat 0) v1.Args)))), (37, [], .row (r_c_str t2)), (38, [], .agg ((ApiIns.cells (⟨22, t2, [], [], (⟨[], [], []⟩ : ApiPred), [], false⟩ : ApiIns)))), (39, [], .agg []), (40, [], .agg []), (41, [], .agg []), (42, [], .agg []), (43, [], .agg []), (50, [], .lit undef)] (by kernel_rfl) (by kernel_rfl) (by kernel_rfl) (by kernel_rfl) hk ?_; clear hk
 refine FW.gnext ?_ rfl rfl rfl rfl rfl ?_
 ·skip
  refine FW.gfun (y := .lit (.pointer (some ⟨b0, 0, none⟩))) rfl rfl rfl rfl (fun a w hk => FW.f_move hk FW.h0 rfl) ?_
  refine FW.gfun (y := .lit (.pointer (some ⟨b0, 0, none⟩))) rfl rfl rfl rfl (fun a w hk => FW.f_move hk FW.h0 rfl) ?_
  refine FW.gfun (y := .lit (.pointer (some ⟨b0, 0, none⟩))) rfl rfl rfl rfl (fun a w hk => (FW.f_pure (FW.p_nilCheck hk.kn FW.h0 rfl))) ?_
  refine FW.gfun (y := .lit (.pointer (some ⟨b0, 0, none⟩))) rfl rfl rfl rfl (fun a w hk => FW.f_fieldPtr hk FW.h0 rfl Try.underlying93 rfl (by kernel_rfl) rfl) ?_
  refine FW.gfun (y := .lit (.slice xd0_0 (List.length v0.out) xc0_0)) rfl rfl rfl rfl (fun a w hk => FW.f_loadBlk1 hk FW.h0 (j := 2) rfl rfl Try.underlying48 rfl rfl) ?_
  refine FW.gfun (y := .lit (.pointer (some ⟨bx1, 1, none⟩))) rfl rfl rfl rfl (fun a w hk => FW.f_fieldPtr hk FW.h0 rfl Try.underlying29 rfl (by kernel_rfl) rfl) ?_
  refine FW.gfun (y := .row (r_ApiArg_cells v1.Args)) rfl rfl rfl rfl (fun a w hk => FW.f_loadBlk1 hk FW.h0 (j := 1) rfl rfl Try.underlying27 rfl rfl) ?_
  refine FW.gfun (y := .row (r_ApiArg_cells (List.take (Int.toNat 1 - Int.toNat 0) (List.drop (Int.toNat 0) v1.Args)))) rfl rfl rfl rfl (fun a w hk => FW.f_part (R := r_ApiArg_cells) (f := ApiArg.cells) (l := v1.Args) (sz := 11) r_ApiArg_cells_eq (fun _ => rfl) hk FW.h0 rfl Try.underlying27 (by kernel_rfl) rfl rfl hc3) ?_
  refine FW.gfun (y := .row (r_c_str t2)) rfl rfl rfl rfl (fun a w hk => FW.f_call hk FW.h0 rfl rfl Try.func102 rfl (by kernel_rfl) (code_names.ok K (List.take (Int.toNat 1 - Int.toNat 0) (List.drop (Int.toNat 0) v1.Args)) _ hr_t2)) ?_
  refine FW.gfun (y := .agg ((ApiIns.cells (⟨22, t2, [], [], (⟨[], [], []⟩ : ApiPred), [], false⟩ : ApiIns)))) rfl rfl rfl rfl (fun a w hk => FW.f_buildN [] hk FW.h0 rfl rfl rfl) ?_
  refine FW.gskip rfl rfl ?_
  refine FW.gskip rfl rfl ?_
  refine FW.gskip rfl rfl ?_
  refine FW.gskip rfl rfl ?_
  refine FW.gskip rfl rfl ?_
  refine FW.gskip0 rfl ?_
  exact FW.gend
 ·skip
  intro σD a w opsD QD hk hf hQ hX
  refine FW.l_buildSlice (f := ApiIns.cells) (l := ([(⟨22, t2, [], [], (⟨[], [], []⟩ : ApiPred), [], false⟩ : ApiIns)] : List ApiIns)) hk rfl hf rfl Try.underlying55 rfl rfl rfl rfl (fun _ => rfl) rfl ?_; clear hk; intro bx3 a w hk
  replace hk := (FW.S.freezeR (I' := [FW.blk bx2 38 ((ApiArg.cells (List.getD v1.Args (Int.toNat 0) default))), FW.blk bx1 29 ((ApiStep.cells v1)), FW.blk b0 93 ([.lit (.slice xd0_0 (List.length v0.out) xc0_0)]), FW.orow xd0_0 xc0_0 55 1 c_s_ApiIns_cells v0.out]) r_ApiIns_cells_eq hk (j := 0) rfl (t := 39) rfl rfl).squash
  refine hQ _ _ a w ?_ hk; clear hk hQ hf hX
  refine ⟨[(29, [], .lit (.pointer (some ⟨b0, 0, none⟩))), (30, [], .lit (.pointer (some ⟨b0, 0, none⟩))), (31, [], .lit (.pointer (some ⟨b0, 0, none⟩))), (32, [], .lit (.pointer (some ⟨b0, 0, none⟩))), (33, [], .lit (.slice xd0_0 (List.length v0.out) xc0_0)), (34, [], .lit (.pointer (some ⟨bx1, 1, none⟩))), (35, [], .row (r_ApiArg_cells v1.Args)), (36, [], .row (r_ApiArg_cells (List.take (Int.toNat 1 - Int.toNat 0) (List.drop (Int.toNat 0) v1.Args)))), (37, [], .row (r_c_str t2)), (38, [], .agg ((ApiIns.cells (⟨22, t2, [], [], (⟨[], [], []⟩ : ApiPred), [], false⟩ : ApiIns)))), (39, [], .row (r_ApiIns_cells ([(⟨22, t2, [], [], (⟨[], [], []⟩ : ApiPred), [], false⟩ : ApiIns)] : List ApiIns))), (40, [], .agg []), (41, [], .agg []), (42, [], .agg []), (43, [], .agg []), (50, [], .lit undef)], And.intro rfl (And.intro rfl (And.intro rfl (And.intro rfl (And.intro rfl (And.intro rfl (And.intro rfl (And.intro rfl (And.intro rfl (And.intro rfl (trivial)))))))))), rfl, ?_⟩
  refine FW.gnext ?_ rfl rfl rfl rfl rfl ?_
  ·skip
   refine FW.gfun (y := .lit (.pointer (some ⟨b0, 0, none⟩))) rfl rfl rfl rfl (fun a w hk => FW.f_move hk FW.h0 rfl) ?_
   refine FW.gfun (y := .lit (.pointer (some ⟨b0, 0, none⟩))) rfl rfl rfl rfl (fun a w hk => FW.f_move hk FW.h0 rfl) ?_
   refine FW.gfun (y := .lit (.pointer (some ⟨b0, 0, none⟩))) rfl rfl rfl rfl (fun a w hk => (FW.f_pure (FW.p_nilCheck hk.kn FW.h0 rfl))) ?_
   refine FW.gfun (y := .lit (.pointer (some ⟨b0, 0, none⟩))) rfl rfl rfl rfl (fun a w hk => FW.f_fieldPtr hk FW.h0 rfl Try.underlying93 rfl (by kernel_rfl) rfl) ?_
   refine FW.gfun (y := .lit (.slice xd0_0 (List.length v0.out) xc0_0)) rfl rfl rfl rfl (fun a w hk => FW.f_loadBlk1 hk FW.h0 (j := 2) rfl rfl Try.underlying48 rfl rfl) ?_
   refine FW.gskip rfl rfl ?_
   refine FW.gskip rfl rfl ?_
   refine FW.gskip rfl rfl ?_
   refine FW.gskip rfl rfl ?_
   refine FW.gskip rfl rfl ?_
   refine FW.gskip rfl rfl ?_
   refine FW.gskip rfl rfl ?_
   refine FW.gskip rfl rfl ?_
   refine FW.gskip rfl rfl ?_
   refine FW.gskip rfl rfl ?_
   refine FW.gskip0 rfl ?_
   exact FW.gend
  ·skip
   intro σD a w opsD QD hk hf hQ hX
   refine FW.l_buildSlice (f := c_s_ApiIns_cells) (l := ([([(⟨22, t2, [], [], (⟨[], [], []⟩ : ApiPred), [], false⟩ : ApiIns)] : List ApiIns)] : List (List ApiIns))) hk rfl hf rfl Try.underlying48 rfl rfl rfl rfl (fun _ => rfl) rfl ?_; clear hk; intro bx4 a w hk
   refine hQ _ _ a w ?_ hk; clear hk hQ hf hX
   refine ⟨[(29, [], .lit (.pointer (some ⟨b0, 0, none⟩))), (30, [], .lit (.pointer (some ⟨b0, 0, none⟩))), (31, [], .lit (.pointer (some ⟨b0, 0, none⟩))), (32, [], .lit (.pointer (some ⟨b0, 0, none⟩))), (33, [], .lit (.slice xd0_0 (List.length v0.out) xc0_0)), (34, [], .lit (.pointer (some ⟨bx1, 1, none⟩))), (35, [], .row (r_ApiArg_cells v1.Args)), (36, [], .row (r_ApiArg_cells (List.take (Int.toNat 1 - Int.toNat 0) (List.drop (Int.toNat 0) v1.Args)))), (37, [], .row (r_c_str t2)), (38, [], .agg ((ApiIns.cells (⟨22, t2, [], [], (⟨[], [], []⟩ : ApiPred), [], false⟩ : ApiIns)))), (39, [], .row (r_ApiIns_cells ([(⟨22, t2, [], [], (⟨[], [], []⟩ : ApiPred), [], false⟩ : ApiIns)] : List ApiIns))), (40, [], .lit (.slice (some ⟨bx4, 0, none⟩) (List.length ([([(⟨22, t2, [], [], (⟨[], [], []⟩ : ApiPred), [], false⟩ : ApiIns)] : List ApiIns)] : List (List ApiIns))) 1)), (41, [], .agg []), (42, [], .agg []), (43, [], .agg []), (50, [], .lit undef)], And.intro rfl (And.intro rfl (And.intro rfl (And.intro rfl (And.intro rfl (And.intro rfl (And.intro rfl (And.intro rfl (And.intro rfl (And.intro rfl (And.intro rfl (trivial))))))))))), rfl, ?_⟩
   refine FW.gnext ?_ rfl rfl rfl rfl rfl ?_
   ·skip
    refine FW.gfun (y := .lit (.pointer (some ⟨b0, 0, none⟩))) rfl rfl rfl rfl (fun a w hk => FW.f_move hk FW.h0 rfl) ?_
    refine FW.gfun (y := .lit (.pointer (some ⟨b0, 0, none⟩))) rfl rfl rfl rfl (fun a w hk => FW.f_move hk FW.h0 rfl) ?_
    refine FW.gfun (y := .lit (.pointer (some ⟨b0, 0, none⟩))) rfl rfl rfl rfl (fun a w hk => (FW.f_pure (FW.p_nilCheck hk.kn FW.h0 rfl))) ?_
    refine FW.gfun (y := .lit (.pointer (some ⟨b0, 0, none⟩))) rfl rfl rfl rfl (fun a w hk => FW.f_fieldPtr hk FW.h0 rfl Try.underlying93 rfl (by kernel_rfl) rfl) ?_
    refine FW.gfun (y := .lit (.slice xd0_0 (List.length v0.out) xc0_0)) rfl rfl rfl rfl (fun a w hk => FW.f_loadBlk1 hk FW.h0 (j := 3) rfl rfl Try.underlying48 rfl rfl) ?_
    refine FW.gskip rfl rfl ?_
    refine FW.gskip rfl rfl ?_
    refine FW.gskip rfl rfl ?_
    refine FW.gskip rfl rfl ?_
    refine FW.gskip rfl rfl ?_
    refine FW.gskip rfl rfl ?_
    refine FW.gskip rfl rfl ?_
    refine FW.gskip rfl rfl ?_
    refine FW.gskip rfl rfl ?_
    refine FW.gskip rfl rfl ?_
    refine FW.gskip0 rfl ?_
    exact FW.gend
   ·skip
    intro σD a w opsD QD hk hf hQ hX
    refine FW.l_append (l2 := ([([(⟨22, t2, [], [], (⟨[], [], []⟩ : ApiPred), [], false⟩ : ApiIns)] : List ApiIns)] : List (List ApiIns))) (l3 := (v0.out ++ ([([(⟨22, t2, [], [], (⟨[], [], []⟩ : ApiPred), [], false⟩ : ApiIns)] : List ApiIns)] : List (List ApiIns)))) (I' := fun ad1 cap1 => [FW.orow (some ⟨bx4, 0, none⟩) 1 55 1 c_s_ApiIns_cells ([([(⟨22, t2, [], [], (⟨[], [], []⟩ : ApiPred), [], false⟩ : ApiIns)] : List ApiIns)] : List (List ApiIns)), FW.blk bx2 38 ((ApiArg.cells (List.getD v1.Args (Int.toNat 0) default))), FW.blk bx1 29 ((ApiStep.cells v1)), FW.blk b0 93 ([.lit (.slice xd0_0 (List.length v0.out) xc0_0)]), FW.orow ad1 cap1 55 1 c_s_ApiIns_cells (v0.out ++ ([([(⟨22, t2, [], [], (⟨[], [], []⟩ : ApiPred), [], false⟩ : ApiIns)] : List ApiIns)] : List (List ApiIns)))]) (j := 4) hk rfl rfl hf rfl (FW.own_src hk (j := 0) rfl rfl (fun _ => rfl) Try.underlying48) Try.underlying48 (by kernel_rfl) hc4 rfl (fun _ _ => rfl) ?_; clear hk; intro ad1 cap1 a w hk
    replace hk := FW.S.dropI (I' := [FW.blk bx2 38 ((ApiArg.cells (List.getD v1.Args (Int.toNat 0) default))), FW.blk bx1 29 ((ApiStep.cells v1)), FW.blk b0 93 ([.lit (.slice xd0_0 (List.length v0.out) xc0_0)]), FW.orow ad1 cap1 55 1 c_s_ApiIns_cells (v0.out ++ ([([(⟨22, t2, [], [], (⟨[], [], []⟩ : ApiPred), [], false⟩ : ApiIns)] : List ApiIns)] : List (List ApiIns)))]) hk 0 rfl
    refine hQ _ _ a w ?_ hk; clear hk hQ hf hX
    refine ⟨[(29, [], .lit (.pointer (some ⟨b0, 0, none⟩))), (30, [], .lit (.pointer (some ⟨b0, 0, none⟩))), (31, [], .lit (.pointer (some ⟨b0, 0, none⟩))), (32, [], .lit (.pointer (some ⟨b0, 0, none⟩))), (33, [], .lit (.slice xd0_0 (List.length v0.out) xc0_0)), (34, [], .lit (.pointer (some ⟨bx1, 1, none⟩))), (35, [], .row (r_ApiArg_cells v1.Args)), (36, [], .row (r_ApiArg_cells (List.take (Int.toNat 1 - Int.toNat 0) (List.drop (Int.toNat 0) v1.Args)))), (37, [], .row (r_c_str t2)), (38, [], .agg ((ApiIns.cells (⟨22, t2, [], [], (⟨[], [], []⟩ : ApiPred), [], false⟩ : ApiIns)))), (39, [], .row (r_ApiIns_cells ([(⟨22, t2, [], [], (⟨[], [], []⟩ : ApiPred), [], false⟩ : ApiIns)] : List ApiIns))), (40, [], .lit (.slice (some ⟨bx4, 0, none⟩) (List.length ([([(⟨22, t2, [], [], (⟨[], [], []⟩ : ApiPred), [], false⟩ : ApiIns)] : List ApiIns)] : List (List ApiIns))) 1)), (41, [], .lit (.slice ad1 (List.length (v0.out ++ ([([(⟨22, t2, [], [], (⟨[], [], []⟩ : ApiPred), [], false⟩ : ApiIns)] : List ApiIns)] : List (List ApiIns)))) cap1)), (42, [], .lit (.pointer (some ⟨b0, 0, none⟩))), (43, [], .lit (.pointer (some ⟨b0, 0, none⟩))), (50, [], .lit undef)], And.intro rfl (And.intro rfl (And.intro rfl (And.intro rfl (And.intro rfl (And.intro rfl (And.intro rfl (And.intro rfl (And.intro rfl (And.intro rfl (And.intro rfl (And.intro rfl (trivial)))))))))))), rfl, ?_⟩
    refine FW.gnext0 ?_ rfl rfl rfl ?_
    ·skip
     refine FW.gfun (y := .lit (.pointer (some ⟨b0, 0, none⟩))) rfl rfl rfl rfl (fun a w hk => FW.f_move hk FW.h0 rfl) ?_
     refine FW.gskip rfl rfl ?_
     refine FW.gskip rfl rfl ?_
     refine FW.gskip rfl rfl ?_
     refine FW.gskip rfl rfl ?_
     refine FW.gskip rfl rfl ?_
     refine FW.gskip rfl rfl ?_
     refine FW.gskip rfl rfl ?_
     refine FW.gskip rfl rfl ?_
     refine FW.gskip rfl rfl ?_
     refine FW.gskip rfl rfl ?_
     refine FW.gskip rfl rfl ?_
     refine FW.gskip rfl rfl ?_
     refine FW.gfun (y := .lit (.pointer (some ⟨b0, 0, none⟩))) rfl rfl rfl rfl (fun a w hk => (FW.f_pure (FW.p_nilCheck hk.kn FW.h0 rfl))) ?_
     refine FW.gfun (y := .lit (.pointer (some ⟨b0, 0, none⟩))) rfl rfl rfl rfl (fun a w hk => FW.f_fieldPtr hk FW.h0 rfl Try.underlying93 rfl (by kernel_rfl) rfl) ?_
     refine FW.gskip0 rfl ?_
     exact FW.gend
    ·skip
     intro σD a w opsD QD hk hQ hX
     refine FW.st2 (cs' := [.lit (.slice ad1 (List.length (v0.out ++ ([([(⟨22, t2, [], [], (⟨[], [], []⟩ : ApiPred), [], false⟩ : ApiIns)] : List ApiIns)] : List (List ApiIns)))) cap1)]) hk rfl (by kernel_rfl) fun w hk => ?_
     refine hQ _ a w ?_ hk; clear hk hQ hX
     refine ⟨[(29, [], .lit (.pointer (some ⟨b0, 0, none⟩))), (30, [], .lit (.pointer (some ⟨b0, 0, none⟩))), (31, [], .lit (.pointer (some ⟨b0, 0, none⟩))), (32, [], .lit (.pointer (some ⟨b0, 0, none⟩))), (33, [], .lit (.slice xd0_0 (List.length v0.out) xc0_0)), (34, [], .lit (.pointer (some ⟨bx1, 1, none⟩))), (35, [], .row (r_ApiArg_cells v1.Args)), (36, [], .row (r_ApiArg_cells (List.take (Int.toNat 1 - Int.toNat 0) (List.drop (Int.toNat 0) v1.Args)))), (37, [], .row (r_c_str t2)), (38, [], .agg ((ApiIns.cells (⟨22, t2, [], [], (⟨[], [], []⟩ : ApiPred), [], false⟩ : ApiIns)))), (39, [], .row (r_ApiIns_cells ([(⟨22, t2, [], [], (⟨[], [], []⟩ : ApiPred), [], false⟩ : ApiIns)] : List ApiIns))), (40, [], .lit (.slice (some ⟨bx4, 0, none⟩) (List.length ([([(⟨22, t2, [], [], (⟨[], [], []⟩ : ApiPred), [], false⟩ : ApiIns)] : List ApiIns)] : List (List ApiIns))) 1)), (41, [], .lit (.slice ad1 (List.length (v0.out ++ ([([(⟨22, t2, [], [], (⟨[], [], []⟩ : ApiPred), [], false⟩ : ApiIns)] : List ApiIns)] : List (List ApiIns)))) cap1)), (42, [], .lit (.pointer (some ⟨b0, 0, none⟩))), (43, [], .lit (.pointer (some ⟨b0, 0, none⟩))), (50, [], .lit undef)], And.intro rfl (And.intro rfl (And.intro rfl (And.intro rfl (And.intro rfl (And.intro rfl (And.intro rfl (And.intro rfl (And.intro rfl (And.intro rfl (And.intro rfl (And.intro rfl (And.intro rfl (And.intro rfl (And.intro rfl (trivial))))))))))))))), rfl, ?_⟩
     refine FW.glast ?_ ?_
     ·skip
      refine FW.gskip rfl rfl ?_
      refine FW.gskip rfl rfl ?_
      refine FW.gskip rfl rfl ?_
      refine FW.gskip rfl rfl ?_
      refine FW.gskip rfl rfl ?_
      refine FW.gskip rfl rfl ?_
      refine FW.gskip rfl rfl ?_
      refine FW.gskip rfl rfl ?_
      refine FW.gskip rfl rfl ?_
      refine FW.gskip rfl rfl ?_
      refine FW.gskip rfl rfl ?_
      refine FW.gskip rfl rfl ?_
      refine FW.gskip rfl rfl ?_
      refine FW.gskip rfl rfl ?_
      refine FW.gskip rfl rfl ?_
      refine FW.gskip0 rfl ?_
      exact FW.gend
     ·skip
      intro a w hk; simp only [FW.stD, cond_true] at hk
      refine FW.wreg fun _ q10 => ?_
      refine FW.sM hk fun a w hk => ?_
      refine FW.lf (y := .lit (.pointer (some ⟨b0, 0, none⟩))) hk ((FW.f_pure (FW.p_nilCheck hk.kn FW.h0 rfl))) fun a w hk => ?_
      refine FW.sFp 0 hk Try.underlying93 fun a w hk => ?_
      refine FW.lf (y := .lit (.slice ad1 (List.length (v0.out ++ ([([(⟨22, t2, [], [], (⟨[], [], []⟩ : ApiPred), [], false⟩ : ApiIns)] : List ApiIns)] : List (List ApiIns)))) cap1)) hk (FW.f_loadBlk1 hk FW.h0 (j := 2) rfl rfl Try.underlying48 rfl rfl) fun a w hk => ?_
      refine FW.lf (y := .lit (.int .i64 (List.length (v0.out ++ ([([(⟨22, t2, [], [], (⟨[], [], []⟩ : ApiPred), [], false⟩ : ApiIns)] : List ApiIns)] : List (List ApiIns))) : Int))) hk ((FW.f_pure (FW.p_len Try.underlying48 hk.kn FW.h0 rfl))) fun a w hk => ?_
      refine FW.lf (y := .lit (.int .i64 (IntKind.wrap .i64 ((List.length (v0.out ++ ([([(⟨22, t2, [], [], (⟨[], [], []⟩ : ApiPred), [], false⟩ : ApiIns)] : List ApiIns)] : List (List ApiIns))) : Int) - 1)))) hk ((FW.f_pure (FW.p_sub hk.kn FW.h0 rfl rfl))) fun a w hk => ?_
      refine FW.sA hk fun a w hk => ?_
      refine FW.lend (q10 _ _ ?_)
      refine wp_ret ?_
      (repeat first | refine FW.then_ret ?_ | refine FW.block_ret ?_)
      obtain rfl := Option.some.inj h
      replace hk := FW.S.keep (I1 := [FW.blk b0 93 ([.lit (.slice ad1 (List.length (v0.out ++ ([([(⟨22, t2, [], [], (⟨[], [], []⟩ : ApiPred), [], false⟩ : ApiIns)] : List ApiIns)] : List (List ApiIns)))) cap1)]), FW.orow ad1 cap1 55 1 c_s_ApiIns_cells (v0.out ++ ([([(⟨22, t2, [], [], (⟨[], [], []⟩ : ApiPred), [], false⟩ : ApiIns)] : List ApiIns)] : List (List ApiIns)))]) (I2 := [FW.blk bx2 38 ((ApiArg.cells (List.getD v1.Args (Int.toNat 0) default))), FW.blk bx1 29 ((ApiStep.cells v1))]) (js := [3, 3]) hk rfl
      exact FW.fretH1 hk rfl (FW.rtmp hk rfl) ⟨ad1, cap1, rfl, rfl⟩
end Go.Proofs.Ytbjbgodcenopnaa

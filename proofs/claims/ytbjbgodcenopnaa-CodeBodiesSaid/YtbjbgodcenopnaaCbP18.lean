/- Written by a program of this session (gen.py): the contracts of functions of the program. -/
import Derived.Test.YtbjbgodcenopnaaCbP17
namespace Go.Proofs.Ytbjbgodcenopnaa
set_option linter.unusedVariables false
set_option maxRecDepth 20000
set_option maxHeartbeats 10000000
theorem cm_ins.bok (zB : OCM → List ApiStep → Option (Int × OCM)) (zI : OCM → ApiStep → List ApiStep → Option (ApiIns × OCM)) (zK : OCM → List ApiArg → Option (List Int × OCM)) (zO : OCM → ApiStep → List ApiStep → Option (ApiIns × OCM)) (zY : OCM → List ApiStep → Int → Option (List Int × OCM)) (zb : OCM → ApiStep → Option (Int × OCM)) (zR : OCM → List ApiStep → Option (ApiIns × OCM)) (zT : OCM → ApiStep → List ApiStep → Option (ApiIns × OCM)) (zE : OCM → ApiStep → List ApiStep → Option (ApiIns × OCM)) (hzB : ZzB zB) (hzI : ZzI zI) (hzK : ZzK zK) (hzO : ZzO zO) (hzY : ZzY zY) (hzb : Zzb zb) (hzR : ZzR zR) (hzT : ZzT zT) (hzE : ZzE zE) (K : Nat) (v0 : OCM) (v1 : ApiStep) (v2 : List ApiStep) (r : ApiIns × OCM) (h : cm_ins.b zB zI zK zO zY zb zR zT zE K v0 v1 v2 = some r) :
  ∀ (b0 : Nat) (xd0_0 : Option Addr) (xc0_0 : Nat), FW.OkH Try.prog 70 [.lit (.pointer (some ⟨b0, 0, none⟩)), .agg (ApiStep.cells v1), .row (r_ApiStep_cells v2)] (OCM.items b0 xd0_0 xc0_0 v0) (fun y I => ∃ (zxd0_0 : Option Addr) (zxc0_0 : Nat), y = .agg (ApiIns.cells r.1) ∧ I = OCM.items b0 zxd0_0 zxc0_0 r.2) := by
 intro b0 xd0_0 xc0_0
 refine FW.enterH (xs := [.lit (.pointer (some ⟨b0, 0, none⟩)), .agg (ApiStep.cells v1), .row (r_ApiStep_cells v2)]) Try.func70 rfl Try.ntmps70 rfl ?_
 intro M w0 a hk
 replace hk : FW.S M w0 a w0.toWorld 79 [FW.blk b0 93 ([.lit (.slice xd0_0 (List.length v0.out) xc0_0)]), FW.orow xd0_0 xc0_0 55 1 c_s_ApiIns_cells v0.out] [(0, [], .lit (.pointer (some ⟨b0, 0, none⟩))), (1, [], .agg ((ApiStep.cells v1))), (2, [], .row (r_ApiStep_cells v2))] := hk
 unfold cm_ins.b at h
 refine FW.wreg fun _ q1 => ?_
 refine FW.l_box (cs := (ApiStep.cells v1)) hk rfl rfl rfl rfl rfl ?_; clear hk; intro bx1 a w hk
 refine FW.l_alloc (zs := (ApiIns.cells (⟨0, [], [], [], (⟨[], [], []⟩ : ApiPred), [], false⟩ : ApiIns))) [] hk rfl rfl rfl rfl ?_; clear hk; intro bx2 a w hk
 refine FW.lend (q1 _ _ ?_)
 refine FW.wseq fun _ q2 => ?_
 refine FW.wreg fun _ q3 => ?_
 refine FW.sFp 0 hk Try.underlying29 fun a w hk => ?_
 refine FW.lf (y := .lit (.string (FW.B v1.Name))) hk (FW.f_loadBlk1 hk FW.h0 (j := 1) rfl rfl Try.underlying9 rfl rfl) fun a w hk => ?_
 obtain ⟨t1, hr_t1, h⟩ := FW.bnd h
 refine FW.lf (y := .lit (.int .i64 t1)) hk (FW.f_call hk FW.h0 rfl rfl Try.func99 rfl (by kernel_rfl) (code_simple.ok v1.Name _ hr_t1)) fun a w hk => ?_
 refine FW.sA hk fun a w hk => ?_
 refine FW.lend (q3 _ _ ?_)
 refine FW.wreg fun _ q4 => ?_
 refine FW.sM hk fun a w hk => ?_
 refine FW.lf (y := .lit (.bool (!decide (t1 = 0)))) hk ((FW.f_pure (FW.p_neq hk.kn FW.h0 rfl rfl))) fun a w hk => ?_
 refine FW.lend (q4 _ _ ?_)
 refine FW.wcondF (b := (!decide (t1 = 0))) hk h rfl (fun h hb => ?_) (fun h hb => ?_)
 ·skip
  refine FW.wreg fun _ q5 => ?_
  refine FW.sM hk fun a w hk => ?_
  refine FW.lf (y := .agg ((ApiIns.cells (⟨t1, [], [], [], (⟨[], [], []⟩ : ApiPred), [], false⟩ : ApiIns)))) hk (FW.f_buildN [] hk FW.h0 rfl rfl rfl) fun a w hk => ?_
  refine FW.l_alloc (zs := (ApiIns.cells (⟨0, [], [], [], (⟨[], [], []⟩ : ApiPred), [], false⟩ : ApiIns))) [] hk rfl rfl rfl rfl ?_; clear hk; intro bx3 a w hk
  refine FW.st0 (cs' := (ApiIns.cells (⟨t1, [], [], [], (⟨[], [], []⟩ : ApiPred), [], false⟩ : ApiIns))) hk rfl (by kernel_rfl) fun w hk => ?_
  refine FW.lend (q5 _ _ ?_)
  refine FW.wseqJ (fun a w => ∃ (y5 : ApiIns), FW.S M w0 a w 79 [FW.blk bx3 59 ((ApiIns.cells y5)), FW.blk bx2 59 ((ApiIns.cells (⟨0, [], [], [], (⟨[], [], []⟩ : ApiPred), [], false⟩ : ApiIns))), FW.blk b0 93 ([.lit (.slice xd0_0 (List.length v0.out) xc0_0)]), FW.orow xd0_0 xc0_0 55 1 c_s_ApiIns_cells v0.out] [(6, [], .lit (.pointer (some ⟨bx2, 0, none⟩))), (8, [], .lit (.pointer (some ⟨bx3, 0, none⟩)))] ∧ cm_ins.j1 zB zI zK zO zY zb zR zT zE K v0 y5 = some r) ?_ ?_
  ·clear hk h
   rintro a w ⟨y5, hk, h⟩
   unfold cm_ins.j1 at h
   refine FW.wreg fun _ q7 => ?_
   refine FW.lf (y := .agg ((ApiIns.cells y5))) hk (FW.f_loadBlk hk FW.h0 (j := 0) rfl rfl Try.underlying59 rfl rfl rfl rfl) fun a w hk => ?_
   refine FW.st1 (cs' := (ApiIns.cells y5)) hk rfl (by kernel_rfl) fun w hk => ?_
   refine FW.lend (q7 _ _ ?_)
   refine wp_ret ?_
   (repeat first | refine FW.then_ret ?_ | refine FW.block_ret ?_)
   obtain rfl := Option.some.inj h
   have hr_0 := FW.rres_keep (I1 := [FW.blk b0 93 ([.lit (.slice xd0_0 (List.length v0.out) xc0_0)]), FW.orow xd0_0 xc0_0 55 1 c_s_ApiIns_cells v0.out]) (I2 := [FW.blk bx3 59 ((ApiIns.cells y5)), FW.blk bx2 59 ((ApiIns.cells y5))]) (js := [3, 3]) rfl (FW.rcell (tt := 6) hk rfl (j := 1) rfl Try.underlying59 rfl (by kernel_rfl))
   replace hk := FW.S.keep (I1 := [FW.blk b0 93 ([.lit (.slice xd0_0 (List.length v0.out) xc0_0)]), FW.orow xd0_0 xc0_0 55 1 c_s_ApiIns_cells v0.out]) (I2 := [FW.blk bx3 59 ((ApiIns.cells y5)), FW.blk bx2 59 ((ApiIns.cells y5))]) (js := [3, 3]) hk rfl
   exact FW.fretH1 hk rfl hr_0 ⟨xd0_0, xc0_0, rfl, rfl⟩
  ·intro K' q6
   refine FW.wreg fun _ q8 => ?_
   refine FW.sM hk fun a w hk => ?_
   refine FW.lend (q8 _ _ ?_)
   refine wp_block ?_
   refine FW.wseqJ (fun a w => ∃ (y5 : ApiIns) (y3 : ApiStep) (v20 : Int) (v25 : Bool), FW.S M w0 a w 79 [FW.blk bx3 59 ((ApiIns.cells y5)), FW.blk bx2 59 ((ApiIns.cells (⟨0, [], [], [], (⟨[], [], []⟩ : ApiPred), [], false⟩ : ApiIns))), FW.blk bx1 29 ((ApiStep.cells y3)), FW.blk b0 93 ([.lit (.slice xd0_0 (List.length v0.out) xc0_0)]), FW.orow xd0_0 xc0_0 55 1 c_s_ApiIns_cells v0.out] [(4, [], .lit (.pointer (some ⟨bx1, 0, none⟩))), (6, [], .lit (.pointer (some ⟨bx2, 0, none⟩))), (8, [], .lit (.pointer (some ⟨bx3, 0, none⟩))), (20, [], .lit (.int .i64 v20)), (25, [], .lit (.bool v25))] ∧ cm_ins.j2 zB zI zK zO zY zb zR zT zE K v0 y5 y3 v20 v25 = some r) ?_ ?_
   ·clear hk h
    rintro a w ⟨y5, y3, v20, v25, hk, h⟩
    unfold cm_ins.j2 at h
    refine FW.wcondF (b := v25) hk h rfl (fun h hb => ?_) (fun h hb => ?_)
    ·skip
     refine FW.wreg1 ?_
     refine FW.sFp 1 hk Try.underlying29 fun a w hk => ?_
     refine FW.lf (y := .row (r_ApiArg_cells y3.Args)) hk (FW.f_loadBlk1 hk FW.h0 (j := 2) rfl rfl Try.underlying27 rfl rfl) fun a w hk => ?_
     obtain ⟨t2, hr_t2, h⟩ := FW.bnd h
     refine FW.lf (y := .row (r_c_i64 t2)) hk (FW.f_call hk FW.h0 rfl rfl Try.func100 rfl (by kernel_rfl) (code_numbers.ok K y3.Args _ hr_t2)) fun a w hk => ?_
     refine FW.sFp 2 hk Try.underlying59 fun a w hk => ?_
     refine FW.st0 (cs' := (ApiIns.cells (⟨y5.Op, y5.S, t2, y5.V, y5.P, y5.Kids, y5.Flag⟩ : ApiIns))) hk rfl (by kernel_rfl) fun w hk => ?_
     refine wpList_nil ?_
     (repeat first | refine FW.tn ?_ | refine FW.bn ?_); exact q6 _ _ ⟨(⟨y5.Op, y5.S, t2, y5.V, y5.P, y5.Kids, y5.Flag⟩ : ApiIns), (hk.drop 2).sub ⟨rfl, rfl, trivial⟩, h⟩
    refine FW.wseqJ (fun a w => ∃ (v34 : Bool), FW.S M w0 a w 79 [FW.blk bx3 59 ((ApiIns.cells y5)), FW.blk bx2 59 ((ApiIns.cells (⟨0, [], [], [], (⟨[], [], []⟩ : ApiPred), [], false⟩ : ApiIns))), FW.blk bx1 29 ((ApiStep.cells y3)), FW.blk b0 93 ([.lit (.slice xd0_0 (List.length v0.out) xc0_0)]), FW.orow xd0_0 xc0_0 55 1 c_s_ApiIns_cells v0.out] [(4, [], .lit (.pointer (some ⟨bx1, 0, none⟩))), (6, [], .lit (.pointer (some ⟨bx2, 0, none⟩))), (8, [], .lit (.pointer (some ⟨bx3, 0, none⟩))), (34, [], .lit (.bool v34))] ∧ cm_ins.j3 zB zI zK zO zY zb zR zT zE K v0 y3 y5 v34 = some r) ?_ ?_
    ·clear hk h
     rintro a w ⟨v34, hk, h⟩
     unfold cm_ins.j3 at h
     refine FW.wcondF (b := v34) hk h rfl (fun h hb => ?_) (fun h hb => ?_)
     ·skip
      refine FW.wreg1 ?_
      refine FW.sFp 1 hk Try.underlying29 fun a w hk => ?_
      refine FW.lf (y := .row (r_ApiArg_cells y3.Args)) hk (FW.f_loadBlk1 hk FW.h0 (j := 2) rfl rfl Try.underlying27 rfl rfl) fun a w hk => ?_
      obtain ⟨t3, hr_t3, h⟩ := FW.bnd h
      refine FW.lf (y := .row (r_ApiValue_cells t3)) hk (FW.f_call hk FW.h0 rfl rfl Try.func101 rfl (by kernel_rfl) (code_values.ok K y3.Args _ hr_t3)) fun a w hk => ?_
      refine FW.sFp 3 hk Try.underlying59 fun a w hk => ?_
      refine FW.st0 (cs' := (ApiIns.cells (⟨y5.Op, y5.S, y5.N, t3, y5.P, y5.Kids, y5.Flag⟩ : ApiIns))) hk rfl (by kernel_rfl) fun w hk => ?_
      refine wpList_nil ?_
      (repeat first | refine FW.tn ?_ | refine FW.bn ?_); exact q6 _ _ ⟨(⟨y5.Op, y5.S, y5.N, t3, y5.P, y5.Kids, y5.Flag⟩ : ApiIns), (hk.drop 2).sub ⟨rfl, rfl, trivial⟩, h⟩
     refine FW.wreg1 ?_
     refine FW.sFp 1 hk Try.underlying29 fun a w hk => ?_
     refine FW.lf (y := .row (r_ApiArg_cells y3.Args)) hk (FW.f_loadBlk1 hk FW.h0 (j := 2) rfl rfl Try.underlying27 rfl rfl) fun a w hk => ?_
     obtain ⟨t4, hr_t4, h⟩ := FW.bnd h
     refine FW.lf (y := .row (r_c_str t4)) hk (FW.f_call hk FW.h0 rfl rfl Try.func102 rfl (by kernel_rfl) (code_names.ok K y3.Args _ hr_t4)) fun a w hk => ?_
     refine FW.sFp 1 hk Try.underlying59 fun a w hk => ?_
     refine FW.st0 (cs' := (ApiIns.cells (⟨y5.Op, t4, y5.N, y5.V, y5.P, y5.Kids, y5.Flag⟩ : ApiIns))) hk rfl (by kernel_rfl) fun w hk => ?_
     refine wpList_nil ?_
     (repeat first | refine FW.tn ?_ | refine FW.bn ?_); exact q6 _ _ ⟨(⟨y5.Op, t4, y5.N, y5.V, y5.P, y5.Kids, y5.Flag⟩ : ApiIns), (hk.drop 2).sub ⟨rfl, rfl, trivial⟩, h⟩
    ·intro K' q11
     refine FW.wreg fun _ q14 => ?_
     refine FW.sEq hk fun a w hk => ?_
     refine FW.sA hk fun a w hk => ?_
     refine FW.lend (q14 _ _ ?_)
     refine FW.wcondF (b := (decide (v20 = 3))) hk h rfl (fun h hb => ?_) (fun h hb => ?_)
     ·skip
      refine wp_skip ?_
      (repeat first | refine FW.tn ?_ | refine FW.bn ?_); exact q11 _ _ ⟨(decide (v20 = 3)), hk.sub ⟨rfl, rfl, rfl, rfl, trivial⟩, h⟩
     refine FW.wreg fun _ q15 => ?_
     refine FW.sEq hk fun a w hk => ?_
     refine FW.sA hk fun a w hk => ?_
     refine FW.lend (q15 _ _ ?_)
     refine FW.wcondF (b := (decide (v20 = 25))) hk h rfl (fun h hb => ?_) (fun h hb => ?_)
     ·skip
      refine wp_skip ?_
      (repeat first | refine FW.tn ?_ | refine FW.bn ?_); exact q11 _ _ ⟨(decide (v20 = 25)), hk.sub ⟨rfl, rfl, rfl, rfl, trivial⟩, h⟩
     refine FW.wreg fun _ q16 => ?_
     refine FW.sEq hk fun a w hk => ?_
     refine FW.sA hk fun a w hk => ?_
     refine FW.lend (q16 _ _ ?_)
     refine FW.wcondF (b := (decide (v20 = 29))) hk h rfl (fun h hb => ?_) (fun h hb => ?_)
     ·skip
      refine wp_skip ?_
      (repeat first | refine FW.tn ?_ | refine FW.bn ?_); exact q11 _ _ ⟨(decide (v20 = 29)), hk.sub ⟨rfl, rfl, rfl, rfl, trivial⟩, h⟩
     refine FW.wreg1 ?_
     refine FW.sEq hk fun a w hk => ?_
     refine FW.sA hk fun a w hk => ?_
     refine wpList_nil ?_
     (repeat first | refine FW.tn ?_ | refine FW.bn ?_); exact q11 _ _ ⟨(decide (v20 = 30)), hk.sub ⟨rfl, rfl, rfl, rfl, trivial⟩, h⟩
   ·intro K' q9
    refine FW.wreg fun _ q18 => ?_
    refine FW.sEq hk fun a w hk => ?_
    refine FW.sA hk fun a w hk => ?_
    refine FW.lend (q18 _ _ ?_)
    refine FW.wcondF (b := (decide (t1 = 1))) hk h rfl (fun h hb => ?_) (fun h hb => ?_)
    ·skip
     refine wp_skip ?_
     (repeat first | refine FW.tn ?_ | refine FW.bn ?_); exact q9 _ _ ⟨(⟨t1, [], [], [], (⟨[], [], []⟩ : ApiPred), [], false⟩ : ApiIns), v1, t1, (decide (t1 = 1)), hk.sub ⟨rfl, rfl, rfl, rfl, rfl, trivial⟩, h⟩
    refine FW.wreg fun _ q19 => ?_
    refine FW.sEq hk fun a w hk => ?_
    refine FW.sA hk fun a w hk => ?_
    refine FW.lend (q19 _ _ ?_)
    refine FW.wcondF (b := (decide (t1 = 2))) hk h rfl (fun h hb => ?_) (fun h hb => ?_)
    ·skip
     refine wp_skip ?_
     (repeat first | refine FW.tn ?_ | refine FW.bn ?_); exact q9 _ _ ⟨(⟨t1, [], [], [], (⟨[], [], []⟩ : ApiPred), [], false⟩ : ApiIns), v1, t1, (decide (t1 = 2)), hk.sub ⟨rfl, rfl, rfl, rfl, rfl, trivial⟩, h⟩
    refine FW.wreg fun _ q20 => ?_
    refine FW.sEq hk fun a w hk => ?_
    refine FW.sA hk fun a w hk => ?_
    refine FW.lend (q20 _ _ ?_)
    refine FW.wcondF (b := (decide (t1 = 10))) hk h rfl (fun h hb => ?_) (fun h hb => ?_)
    ·skip
     refine wp_skip ?_
     (repeat first | refine FW.tn ?_ | refine FW.bn ?_); exact q9 _ _ ⟨(⟨t1, [], [], [], (⟨[], [], []⟩ : ApiPred), [], false⟩ : ApiIns), v1, t1, (decide (t1 = 10)), hk.sub ⟨rfl, rfl, rfl, rfl, rfl, trivial⟩, h⟩
    refine FW.wreg1 ?_
    refine FW.sEq hk fun a w hk => ?_
    refine FW.sA hk fun a w hk => ?_
    refine wpList_nil ?_
    (repeat first | refine FW.tn ?_ | refine FW.bn ?_); exact q9 _ _ ⟨(⟨t1, [], [], [], (⟨[], [], []⟩ : ApiPred), [], false⟩ : ApiIns), v1, t1, (decide (t1 = 18)), hk.sub ⟨rfl, rfl, rfl, rfl, rfl, trivial⟩, h⟩
 refine wp_skip ?_
 (repeat first | refine FW.tn ?_ | refine FW.bn ?_); refine q2 _ _ ?_
 refine FW.wseq fun _ q22 => ?_
 refine FW.wreg fun _ q23 => ?_
 refine FW.sFp 0 hk Try.underlying29 fun a w hk => ?_
 refine FW.lf (y := .lit (.string (FW.B v1.Name))) hk (FW.f_loadBlk1 hk FW.h0 (j := 1) rfl rfl Try.underlying9 rfl rfl) fun a w hk => ?_
 obtain ⟨t5, hr_t5, h⟩ := FW.bnd h
 refine FW.lf (y := .lit (.int .i64 t5)) hk (FW.f_call hk FW.h0 rfl rfl Try.func103 rfl (by kernel_rfl) (code_nested.ok v1.Name _ hr_t5)) fun a w hk => ?_
 refine FW.sA hk fun a w hk => ?_
 refine FW.lend (q23 _ _ ?_)
 refine FW.wreg fun _ q24 => ?_
 refine FW.sM hk fun a w hk => ?_
 refine FW.lf (y := .lit (.bool (!decide (t5 = 0)))) hk ((FW.f_pure (FW.p_neq hk.kn FW.h0 rfl rfl))) fun a w hk => ?_
 refine FW.lend (q24 _ _ ?_)
 refine FW.wcondF (b := (!decide (t5 = 0))) hk h rfl (fun h hb => ?_) (fun h hb => ?_)
 ·skip
  refine FW.wreg fun _ q25 => ?_
  refine FW.sM hk fun a w hk => ?_
  refine FW.sM hk fun a w hk => ?_
  refine FW.sFp 1 hk Try.underlying29 fun a w hk => ?_
  refine FW.lf (y := .row (r_ApiArg_cells v1.Args)) hk (FW.f_loadBlk1 hk FW.h0 (j := 1) rfl rfl Try.underlying27 rfl rfl) fun a w hk => ?_
  obtain ⟨t6, hr_t6, h⟩ := FW.bnd h
  refine FW.l_callH (I1 := (OCM.items b0 xd0_0 xc0_0 v0)) (I2 := [FW.blk bx2 59 ((ApiIns.cells (⟨0, [], [], [], (⟨[], [], []⟩ : ApiPred), [], false⟩ : ApiIns))), FW.blk bx1 29 ((ApiStep.cells v1))]) (js := [3, 3]) hk rfl rfl rfl rfl rfl Try.func104 rfl (by kernel_rfl) (hzK v0 v1.Args _ hr_t6 b0 xd0_0 xc0_0) ?_; clear hk
  rintro _ _ ⟨zd1, zc1, rfl, rfl⟩ a w hk
  refine FW.lf (y := .agg ((ApiIns.cells (⟨t5, [], [], [], (⟨[], [], []⟩ : ApiPred), t6.1, false⟩ : ApiIns)))) hk (FW.f_buildN [] hk FW.h0 rfl rfl rfl) fun a w hk => ?_
  refine FW.st2 (cs' := (ApiIns.cells (⟨t5, [], [], [], (⟨[], [], []⟩ : ApiPred), t6.1, false⟩ : ApiIns))) hk rfl (by kernel_rfl) fun w hk => ?_
  refine FW.lend (q25 _ _ ?_)
  refine wp_ret ?_
  (repeat first | refine FW.then_ret ?_ | refine FW.block_ret ?_)
  obtain rfl := Option.some.inj h
  have hr_0 := FW.rres_keep (I1 := [FW.blk b0 93 ([.lit (.slice zd1 (List.length t6.2.out) zc1)]), FW.orow zd1 zc1 55 1 c_s_ApiIns_cells t6.2.out]) (I2 := [FW.blk bx2 59 ((ApiIns.cells (⟨t5, [], [], [], (⟨[], [], []⟩ : ApiPred), t6.1, false⟩ : ApiIns))), FW.blk bx1 29 ((ApiStep.cells v1))]) (js := [1, 1]) rfl (FW.rcell (tt := 6) hk rfl (j := 2) rfl Try.underlying59 rfl (by kernel_rfl))
  replace hk := FW.S.keep (I1 := [FW.blk b0 93 ([.lit (.slice zd1 (List.length t6.2.out) zc1)]), FW.orow zd1 zc1 55 1 c_s_ApiIns_cells t6.2.out]) (I2 := [FW.blk bx2 59 ((ApiIns.cells (⟨t5, [], [], [], (⟨[], [], []⟩ : ApiPred), t6.1, false⟩ : ApiIns))), FW.blk bx1 29 ((ApiStep.cells v1))]) (js := [1, 1]) hk rfl
  exact FW.fretH1 hk rfl hr_0 ⟨zd1, zc1, rfl, rfl⟩
 refine wp_skip ?_
 (repeat first | refine FW.tn ?_ | refine FW.bn ?_); refine q22 _ _ ?_
 refine FW.wseq fun _ q26 => ?_
 refine FW.wreg fun _ q27 => ?_
 refine FW.sFp 0 hk Try.underlying29 fun a w hk => ?_
 refine FW.lf (y := .lit (.string (FW.B v1.Name))) hk (FW.f_loadBlk1 hk FW.h0 (j := 1) rfl rfl Try.underlying9 rfl rfl) fun a w hk => ?_
 obtain ⟨t7, hr_t7, h⟩ := FW.bnd h
 refine FW.lf (y := .tup [.row (r_c_i64 t7.1), .lit (.bool t7.2)]) hk (FW.f_call hk FW.h0 rfl rfl Try.func105 rfl (by kernel_rfl) (code_walk.ok v1.Name _ hr_t7)) fun a w hk => ?_
 refine FW.sM hk fun a w hk => ?_
 refine FW.lf (y := .row (r_c_i64 t7.1)) hk (FW.f_extract hk FW.h0 rfl rfl) fun a w hk => ?_
 refine FW.lf (y := .lit (.bool t7.2)) hk (FW.f_extract hk FW.h0 rfl rfl) fun a w hk => ?_
 refine FW.sA hk fun a w hk => ?_
 refine FW.sA hk fun a w hk => ?_
 refine FW.lend (q27 _ _ ?_)
 refine FW.wreg fun _ q28 => ?_
 refine FW.sM hk fun a w hk => ?_
 refine FW.lend (q28 _ _ ?_)
 refine FW.wcondF (b := t7.2) hk h rfl (fun h hb => ?_) (fun h hb => ?_)
 ·skip
  refine FW.wreg fun _ q29 => ?_
  refine FW.sM hk fun a w hk => ?_
  refine FW.sFp 1 hk Try.underlying29 fun a w hk => ?_
  refine FW.lf (y := .row (r_ApiArg_cells v1.Args)) hk (FW.f_loadBlk1 hk FW.h0 (j := 1) rfl rfl Try.underlying27 rfl rfl) fun a w hk => ?_
  obtain ⟨t8, hr_t8, h⟩ := FW.bnd h
  refine FW.lf (y := .row (r_c_str t8)) hk (FW.f_call hk FW.h0 rfl rfl Try.func102 rfl (by kernel_rfl) (code_names.ok K v1.Args _ hr_t8)) fun a w hk => ?_
  refine FW.lf (y := .agg ((ApiIns.cells (⟨20, t8, t7.1, [], (⟨[], [], []⟩ : ApiPred), [], false⟩ : ApiIns)))) hk (FW.f_buildN [] hk FW.h0 rfl rfl rfl) fun a w hk => ?_
  refine FW.st0 (cs' := (ApiIns.cells (⟨20, t8, t7.1, [], (⟨[], [], []⟩ : ApiPred), [], false⟩ : ApiIns))) hk rfl (by kernel_rfl) fun w hk => ?_
  refine FW.lend (q29 _ _ ?_)
  refine wp_ret ?_
  (repeat first | refine FW.then_ret ?_ | refine FW.block_ret ?_)
  obtain rfl := Option.some.inj h
  have hr_0 := FW.rres_keep (I1 := [FW.blk b0 93 ([.lit (.slice xd0_0 (List.length v0.out) xc0_0)]), FW.orow xd0_0 xc0_0 55 1 c_s_ApiIns_cells v0.out]) (I2 := [FW.blk bx2 59 ((ApiIns.cells (⟨20, t8, t7.1, [], (⟨[], [], []⟩ : ApiPred), [], false⟩ : ApiIns))), FW.blk bx1 29 ((ApiStep.cells v1))]) (js := [3, 3]) rfl (FW.rcell (tt := 6) hk rfl (j := 0) rfl Try.underlying59 rfl (by kernel_rfl))
  replace hk := FW.S.keep (I1 := [FW.blk b0 93 ([.lit (.slice xd0_0 (List.length v0.out) xc0_0)]), FW.orow xd0_0 xc0_0 55 1 c_s_ApiIns_cells v0.out]) (I2 := [FW.blk bx2 59 ((ApiIns.cells (⟨20, t8, t7.1, [], (⟨[], [], []⟩ : ApiPred), [], false⟩ : ApiIns))), FW.blk bx1 29 ((ApiStep.cells v1))]) (js := [3, 3]) hk rfl
  exact FW.fretH1 hk rfl hr_0 ⟨xd0_0, xc0_0, rfl, rfl⟩
 refine wp_skip ?_
 (repeat first | refine FW.tn ?_ | refine FW.bn ?_); refine q26 _ _ ?_
 refine FW.wseq fun _ q30 => ?_
 refine FW.wreg fun _ q31 => ?_
 refine FW.sFp 0 hk Try.underlying29 fun a w hk => ?_
 refine FW.lf (y := .lit (.string (FW.B v1.Name))) hk (FW.f_loadBlk1 hk FW.h0 (j := 1) rfl rfl Try.underlying9 rfl rfl) fun a w hk => ?_
 obtain ⟨t9, hr_t9, h⟩ := FW.bnd h
 refine FW.lf (y := .lit (.int .i64 t9)) hk (FW.f_call hk FW.h0 rfl rfl Try.func106 rfl (by kernel_rfl) (code_reduce.ok v1.Name _ hr_t9)) fun a w hk => ?_
 refine FW.sA hk fun a w hk => ?_
 refine FW.lend (q31 _ _ ?_)
 refine FW.wreg fun _ q32 => ?_
 refine FW.sM hk fun a w hk => ?_
 refine FW.lf (y := .lit (.bool (!decide (t9 = 0)))) hk ((FW.f_pure (FW.p_neq hk.kn FW.h0 rfl rfl))) fun a w hk => ?_
 refine FW.lend (q32 _ _ ?_)
 refine FW.wcondF (b := (!decide (t9 = 0))) hk h rfl (fun h hb => ?_) (fun h hb => ?_)
 ·skip
  refine FW.wreg fun _ q33 => ?_
  refine FW.sM hk fun a w hk => ?_
  refine FW.l_buildSlice (f := c_i64) (l := ([t9] : List Int)) hk rfl rfl rfl Try.underlying57 rfl rfl rfl rfl (fun _ => rfl) rfl ?_; clear hk; intro bx4 a w hk
  replace hk := (FW.S.freezeR (I' := [FW.blk bx2 59 ((ApiIns.cells (⟨0, [], [], [], (⟨[], [], []⟩ : ApiPred), [], false⟩ : ApiIns))), FW.blk bx1 29 ((ApiStep.cells v1)), FW.blk b0 93 ([.lit (.slice xd0_0 (List.length v0.out) xc0_0)]), FW.orow xd0_0 xc0_0 55 1 c_s_ApiIns_cells v0.out]) r_c_i64_eq hk (j := 0) rfl (t := 73) rfl rfl).squash
  refine FW.lf (y := .agg ((ApiIns.cells (⟨33, [], ([t9] : List Int), [], (⟨[], [], []⟩ : ApiPred), [], false⟩ : ApiIns)))) hk (FW.f_buildN [] hk FW.h0 rfl rfl rfl) fun a w hk => ?_
  refine FW.st0 (cs' := (ApiIns.cells (⟨33, [], ([t9] : List Int), [], (⟨[], [], []⟩ : ApiPred), [], false⟩ : ApiIns))) hk rfl (by kernel_rfl) fun w hk => ?_
  refine FW.lend (q33 _ _ ?_)
  refine wp_ret ?_
  (repeat first | refine FW.then_ret ?_ | refine FW.block_ret ?_)
  obtain rfl := Option.some.inj h
  have hr_0 := FW.rres_keep (I1 := [FW.blk b0 93 ([.lit (.slice xd0_0 (List.length v0.out) xc0_0)]), FW.orow xd0_0 xc0_0 55 1 c_s_ApiIns_cells v0.out]) (I2 := [FW.blk bx2 59 ((ApiIns.cells (⟨33, [], ([t9] : List Int), [], (⟨[], [], []⟩ : ApiPred), [], false⟩ : ApiIns))), FW.blk bx1 29 ((ApiStep.cells v1))]) (js := [3, 3]) rfl (FW.rcell (tt := 6) hk rfl (j := 0) rfl Try.underlying59 rfl (by kernel_rfl))
  replace hk := FW.S.keep (I1 := [FW.blk b0 93 ([.lit (.slice xd0_0 (List.length v0.out) xc0_0)]), FW.orow xd0_0 xc0_0 55 1 c_s_ApiIns_cells v0.out]) (I2 := [FW.blk bx2 59 ((ApiIns.cells (⟨33, [], ([t9] : List Int), [], (⟨[], [], []⟩ : ApiPred), [], false⟩ : ApiIns))), FW.blk bx1 29 ((ApiStep.cells v1))]) (js := [3, 3]) hk rfl
  exact FW.fretH1 hk rfl hr_0 ⟨xd0_0, xc0_0, rfl, rfl⟩
 refine wp_skip ?_
 (repeat first | refine FW.tn ?_ | refine FW.bn ?_); refine q30 _ _ ?_
 refine FW.wreg fun _ q34 => ?_
 refine FW.sM hk fun a w hk => ?_
 refine FW.lf (y := .agg ((ApiStep.cells v1))) hk (FW.f_loadBlk hk FW.h0 (j := 1) rfl rfl Try.underlying29 rfl rfl rfl rfl) fun a w hk => ?_
 refine FW.sM hk fun a w hk => ?_
 obtain ⟨t10, hr_t10, h⟩ := FW.bnd h
 refine FW.l_callH (I1 := (OCM.items b0 xd0_0 xc0_0 v0)) (I2 := [FW.blk bx2 59 ((ApiIns.cells (⟨0, [], [], [], (⟨[], [], []⟩ : ApiPred), [], false⟩ : ApiIns))), FW.blk bx1 29 ((ApiStep.cells v1))]) (js := [3, 3]) hk rfl rfl rfl rfl rfl Try.func107 rfl (by kernel_rfl) (hzO v0 v1 v2 _ hr_t10 b0 xd0_0 xc0_0) ?_; clear hk
 rintro _ _ ⟨zd2, zc2, rfl, rfl⟩ a w hk
 refine FW.st2 (cs' := (ApiIns.cells t10.1)) hk rfl (by kernel_rfl) fun w hk => ?_
 refine FW.lend (q34 _ _ ?_)
 refine wp_ret ?_
 (repeat first | refine FW.then_ret ?_ | refine FW.block_ret ?_)
 obtain rfl := Option.some.inj h
 have hr_0 := FW.rres_keep (I1 := [FW.blk b0 93 ([.lit (.slice zd2 (List.length t10.2.out) zc2)]), FW.orow zd2 zc2 55 1 c_s_ApiIns_cells t10.2.out]) (I2 := [FW.blk bx2 59 ((ApiIns.cells t10.1)), FW.blk bx1 29 ((ApiStep.cells v1))]) (js := [1, 1]) rfl (FW.rcell (tt := 6) hk rfl (j := 2) rfl Try.underlying59 rfl (by kernel_rfl))
 replace hk := FW.S.keep (I1 := [FW.blk b0 93 ([.lit (.slice zd2 (List.length t10.2.out) zc2)]), FW.orow zd2 zc2 55 1 c_s_ApiIns_cells t10.2.out]) (I2 := [FW.blk bx2 59 ((ApiIns.cells t10.1)), FW.blk bx1 29 ((ApiStep.cells v1))]) (js := [1, 1]) hk rfl
 exact FW.fretH1 hk rfl hr_0 ⟨zd2, zc2, rfl, rfl⟩

theorem cm_kids.bok (zB : OCM → List ApiStep → Option (Int × OCM)) (zI : OCM → ApiStep → List ApiStep → Option (ApiIns × OCM)) (zK : OCM → List ApiArg → Option (List Int × OCM)) (zO : OCM → ApiStep → List ApiStep → Option (ApiIns × OCM)) (zY : OCM → List ApiStep → Int → Option (List Int × OCM)) (zb : OCM → ApiStep → Option (Int × OCM)) (zR : OCM → List ApiStep → Option (ApiIns × OCM)) (zT : OCM → ApiStep → List ApiStep → Option (ApiIns × OCM)) (zE : OCM → ApiStep → List ApiStep → Option (ApiIns × OCM)) (hzB : ZzB zB) (hzI : ZzI zI) (hzK : ZzK zK) (hzO : ZzO zO) (hzY : ZzY zY) (hzb : Zzb zb) (hzR : ZzR zR) (hzT : ZzT zT) (hzE : ZzE zE) (K : Nat) (v0 : OCM) (v1 : List ApiArg) (r : List Int × OCM) (h : cm_kids.b zB zI zK zO zY zb zR zT zE K v0 v1 = some r) :
  ∀ (b0 : Nat) (xd0_0 : Option Addr) (xc0_0 : Nat), FW.OkH Try.prog 104 [.lit (.pointer (some ⟨b0, 0, none⟩)), .row (r_ApiArg_cells v1)] (OCM.items b0 xd0_0 xc0_0 v0) (fun y I => ∃ (zxd0_0 : Option Addr) (zxc0_0 : Nat), y = .row (r_c_i64 r.1) ∧ I = OCM.items b0 zxd0_0 zxc0_0 r.2) := by
 intro b0 xd0_0 xc0_0
 refine FW.enterH (xs := [.lit (.pointer (some ⟨b0, 0, none⟩)), .row (r_ApiArg_cells v1)]) Try.func104 rfl Try.ntmps104 rfl ?_
 intro M w0 a hk
 replace hk : FW.S M w0 a w0.toWorld 23 [FW.blk b0 93 ([.lit (.slice xd0_0 (List.length v0.out) xc0_0)]), FW.orow xd0_0 xc0_0 55 1 c_s_ApiIns_cells v0.out] [(0, [], .lit (.pointer (some ⟨b0, 0, none⟩))), (1, [], .row (r_ApiArg_cells v1))] := hk
 unfold cm_kids.b at h
 refine FW.wreg fun _ q1 => ?_
 refine FW.lf (y := .row (r_c_i64 [])) hk (FW.f_assignNil) fun a w hk => ?_
 refine FW.lend (q1 _ _ ?_)
 refine FW.wreg fun _ q2 => ?_
 refine FW.sA hk fun a w hk => ?_
 replace hk := hk.nilRow 3 1 c_i64 (fun _ => rfl)
 refine FW.lend (q2 _ _ ?_)
 refine FW.wseq fun _ q3 => ?_
 refine FW.wreg fun _ q4 => ?_
 refine FW.sM hk fun a w hk => ?_
 refine FW.lf (y := .lit (.int .i64 (List.length v1 : Int))) hk (FW.f_len (R := r_ApiArg_cells) (f := ApiArg.cells) (l := v1) r_ApiArg_cells_eq Try.underlying27 hk FW.h0 rfl) fun a w hk => ?_
 refine FW.sM hk fun a w hk => ?_
 refine FW.lend (q4 _ _ ?_)
 refine wp_block ?_
 refine FW.wloop (T := Nat × List Int × List (List ApiIns) × List ApiArg × Int × Int × Option Addr × Nat × Option Addr × Nat) (fun x a w => match x with | (kl1, l3, l2, v8, v9, v10, xd3, xc3, xd2, xc2) => FW.S M w0 a w 23 [FW.orow xd3 xc3 3 1 c_i64 l3, FW.blk b0 93 ([.lit (.slice xd2 (List.length l2) xc2)]), FW.orow xd2 xc2 55 1 c_s_ApiIns_cells l2] [(0, [], .lit (.pointer (some ⟨b0, 0, none⟩))), (5, [], .lit (.slice xd3 (List.length l3) xc3)), (8, [], .row (r_ApiArg_cells v8)), (9, [], .lit (.int .i64 v9)), (10, [], .lit (.int .i64 v10))] ∧ cm_kids.l1 zB zI zK zO zY zb zR zT zE K kl1 l3 l2 v8 v9 v10 = some r) (fun x => x.1) (K, ([] : List Int), v0.out, v1, (List.length v1 : Int), 0, none, 0, xd0_0, xc0_0) ⟨hk.sub ⟨rfl, rfl, rfl, rfl, rfl, trivial⟩, h⟩ ?_
 clear hk h
 rintro ⟨kl1, l3, l2, v8, v9, v10, xd3, xc3, xd2, xc2⟩ a w ⟨hk, h⟩ K' q5
 cases kl1 with
 | zero => simp [cm_kids.l1] at h
 | succ kl1 =>
 rw [cm_kids.l1.eq_2] at h
 refine FW.wreg fun _ q6 => ?_
 refine FW.sLt hk fun a w hk => ?_
 refine FW.lend (q6 _ _ ?_)
 refine FW.wseq fun _ q7 => ?_
 refine FW.wcondF (b := (decide (v10 < v9))) hk h rfl (fun h hb => ?_) (fun h hb => ?_)
 ·skip
  refine wp_skip ?_
  (repeat first | refine FW.tn ?_ | refine FW.bn ?_); refine q7 _ _ ?_
  refine FW.wseq fun _ q8 => ?_
  refine wp_block ?_
  refine FW.wreg fun _ q9 => ?_
  obtain ⟨hc1, h⟩ := FW.chk h
  refine FW.lf (y := .ref (ApiArg.cells (List.getD v8 (Int.toNat v10) default))) hk (FW.f_indexAddr (R := r_ApiArg_cells) (f := ApiArg.cells) (l := v8) (sz := 11) r_ApiArg_cells_eq (fun _ => rfl) hk FW.h0 rfl rfl Try.underlying27 (by kernel_rfl) hc1) fun a w hk => ?_
  refine FW.lf (y := .agg ((ApiArg.cells (List.getD v8 (Int.toNat v10) default)))) hk (FW.f_load hk FW.h0 rfl Try.underlying38 rfl rfl rfl rfl) fun a w hk => ?_
  refine FW.l_alloc (zs := (ApiArg.cells (⟨0, (⟨0, false, 0, 0, [], []⟩ : ApiValue), (⟨[], [], []⟩ : ApiPred), []⟩ : ApiArg))) [] hk rfl rfl rfl rfl ?_; clear hk; intro bx1 a w hk
  refine FW.st0 (cs' := (ApiArg.cells (List.getD v8 (Int.toNat v10) default))) hk rfl (by kernel_rfl) fun w hk => ?_
  refine FW.lend (q9 _ _ ?_)
  refine FW.wreg1 ?_
  refine FW.sM hk fun a w hk => ?_
  refine FW.sM hk fun a w hk => ?_
  refine FW.sFp 10 hk Try.underlying38 fun a w hk => ?_
  refine FW.lf (y := .row (r_ApiStep_cells ((List.getD v8 (Int.toNat v10) default).T))) hk (FW.f_loadBlk1 hk FW.h0 (j := 0) rfl rfl Try.underlying22 rfl rfl) fun a w hk => ?_
  obtain ⟨t1, hr_t1, h⟩ := FW.bnd h
  refine FW.l_callH (I1 := (OCM.items b0 xd2 xc2 (⟨l2⟩ : OCM))) (I2 := [FW.blk bx1 38 ((ApiArg.cells (List.getD v8 (Int.toNat v10) default))), FW.orow xd3 xc3 3 1 c_i64 l3]) (js := [3, 3]) hk rfl rfl rfl rfl rfl Try.func48 rfl (by kernel_rfl) (hzB (⟨l2⟩ : OCM) ((List.getD v8 (Int.toNat v10) default).T) _ hr_t1 b0 xd2 xc2) ?_; clear hk
  rintro _ _ ⟨zd1, zc1, rfl, rfl⟩ a w hk
  refine FW.l_buildSlice (f := c_i64) (l := ([t1.1] : List Int)) hk rfl rfl rfl Try.underlying54 rfl rfl rfl rfl (fun _ => rfl) rfl ?_; clear hk; intro bx2 a w hk
  obtain ⟨hc2, h⟩ := FW.chk h
  refine FW.l_append (l2 := ([t1.1] : List Int)) (l3 := (l3 ++ ([t1.1] : List Int))) (I' := fun ad1 cap1 => [FW.orow (some ⟨bx2, 0, none⟩) 1 3 1 c_i64 ([t1.1] : List Int), FW.blk b0 93 ([.lit (.slice zd1 (List.length t1.2.out) zc1)]), FW.orow zd1 zc1 55 1 c_s_ApiIns_cells t1.2.out, FW.blk bx1 38 ((ApiArg.cells (List.getD v8 (Int.toNat v10) default))), FW.orow ad1 cap1 3 1 c_i64 (l3 ++ ([t1.1] : List Int))]) (j := 4) hk rfl rfl rfl rfl (FW.own_src hk (j := 0) rfl rfl (fun _ => rfl) Try.underlying54) Try.underlying54 (by kernel_rfl) hc2 rfl (fun _ _ => rfl) ?_; clear hk; intro ad1 cap1 a w hk
  replace hk := FW.S.dropI (I' := [FW.blk b0 93 ([.lit (.slice zd1 (List.length t1.2.out) zc1)]), FW.orow zd1 zc1 55 1 c_s_ApiIns_cells t1.2.out, FW.blk bx1 38 ((ApiArg.cells (List.getD v8 (Int.toNat v10) default))), FW.orow ad1 cap1 3 1 c_i64 (l3 ++ ([t1.1] : List Int))]) hk 0 rfl
  refine FW.sA hk fun a w hk => ?_
  refine wpList_nil ?_
  (repeat first | refine FW.tn ?_ | refine FW.bn ?_); refine q8 _ _ ?_
  refine FW.wreg1 ?_
  refine FW.sAd hk fun a w hk => ?_
  refine FW.sM hk fun a w hk => ?_
  refine wpList_nil ?_
  (repeat first | refine FW.tn ?_ | refine FW.bn ?_); exact q5 (kl1, (l3 ++ ([t1.1] : List Int)), t1.2.out, v8, v9, (IntKind.wrap .i64 (v10 + 1)), ad1, cap1, zd1, zc1) _ _ (Nat.lt_succ_self _) ⟨(FW.S.pick (hk.drop 2) (js := [1, 1, 2]) rfl).sub ⟨rfl, rfl, rfl, rfl, rfl, trivial⟩, h⟩
 refine wp_exit ?_; (repeat first | refine FW.then_exit ?_ | refine FW.block_exit_ne rfl ?_); refine FW.block_exit ?_
 (repeat first | refine FW.tn ?_ | refine FW.bn ?_); refine q3 _ _ ?_
 refine FW.wreg fun _ q12 => ?_
 refine FW.sM hk fun a w hk => ?_
 refine FW.sA hk fun a w hk => ?_
 refine FW.lend (q12 _ _ ?_)
 refine wp_ret ?_
 (repeat first | refine FW.then_ret ?_ | refine FW.block_ret ?_)
 replace hk := FW.S.freezeR (I' := [FW.blk b0 93 ([.lit (.slice xd2 (List.length l2) xc2)]), FW.orow xd2 xc2 55 1 c_s_ApiIns_cells l2]) r_c_i64_eq hk (j := 0) rfl (t := 4) rfl rfl
 obtain rfl := Option.some.inj h
 replace hk := FW.S.keep (I1 := [FW.blk b0 93 ([.lit (.slice xd2 (List.length l2) xc2)]), FW.orow xd2 xc2 55 1 c_s_ApiIns_cells l2]) (I2 := []) (js := [1, 1]) hk rfl
 exact FW.fretH1 hk rfl (FW.rtmp hk rfl) ⟨xd2, xc2, rfl, rfl⟩
end Go.Proofs.Ytbjbgodcenopnaa

/- Put together by pack.py (my own program) of texts of mine: CpP19, CpP20, CpP21, CpP22, CpP23, CpP24, CpP25, CpP26, CpP27, CpP28, CpP29, PureBase. -/
import Derived.IntWalk
import Derived.Test.YtbjbgodcenopnaaZ2
namespace Go.Proofs.Ytbjbgodcenopnaa
open FW _root_.Go.Proofs.Try
set_option linter.unusedVariables false
set_option maxRecDepth 20000
set_option maxHeartbeats 10000000
theorem cm_other.bok (zB : OCM → List ApiStep → Option (Int × OCM)) (zI : OCM → ApiStep → List ApiStep → Option (ApiIns × OCM)) (zK : OCM → List ApiArg → Option (List Int × OCM)) (zO : OCM → ApiStep → List ApiStep → Option (ApiIns × OCM)) (zY : OCM → List ApiStep → Int → Option (List Int × OCM)) (zb : OCM → ApiStep → Option (Int × OCM)) (zR : OCM → List ApiStep → Option (ApiIns × OCM)) (zT : OCM → ApiStep → List ApiStep → Option (ApiIns × OCM)) (zE : OCM → ApiStep → List ApiStep → Option (ApiIns × OCM)) (hzB : ZzB zB) (hzI : ZzI zI) (hzK : ZzK zK) (hzO : ZzO zO) (hzY : ZzY zY) (hzb : Zzb zb) (hzR : ZzR zR) (hzT : ZzT zT) (hzE : ZzE zE) (K : Nat) (v0 : OCM) (v1 : ApiStep) (v2 : List ApiStep) (r : ApiIns × OCM) (h : cm_other.b zB zI zK zO zY zb zR zT zE K v0 v1 v2 = some r) :
  ∀ (b0 : Nat) (xd0_0 : Option Addr) (xc0_0 : Nat), OkH prog 107 [.lit (.pointer (some ⟨b0, 0, none⟩)), .agg (ApiStep.cells v1), .row (r_ApiStep_cells v2)] (OCM.items b0 xd0_0 xc0_0 v0) (fun y I => ∃ (zxd0_0 : Option Addr) (zxc0_0 : Nat), y = .agg (ApiIns.cells r.1) ∧ I = OCM.items b0 zxd0_0 zxc0_0 r.2) := by
 intro b0 xd0_0 xc0_0
 refine enterH (xs := [.lit (.pointer (some ⟨b0, 0, none⟩)), .agg (ApiStep.cells v1), .row (r_ApiStep_cells v2)]) func107 rfl ntmps107 rfl ?_
 intro M w0 a hk
 replace hk : S M w0 a w0.toWorld 138 [blk b0 93 ([.lit (.slice xd0_0 (List.length v0.out) xc0_0)]), orow xd0_0 xc0_0 55 1 c_s_ApiIns_cells v0.out] [(0, [], .lit (.pointer (some ⟨b0, 0, none⟩))), (1, [], .agg ((ApiStep.cells v1))), (2, [], .row (r_ApiStep_cells v2))] := hk
 unfold cm_other.b at h
 refine wreg fun _ q1 => ?_
 refine l_box (cs := (ApiStep.cells v1)) hk rfl rfl rfl rfl rfl ?_; clear hk; intro bx1 a w hk
 refine l_alloc (zs := (ApiIns.cells (⟨0, [], [], [], (⟨[], [], []⟩ : ApiPred), [], false⟩ : ApiIns))) [] hk rfl rfl rfl rfl ?_; clear hk; intro bx2 a w hk
 refine lend (q1 _ _ ?_)
 refine wseq fun _ q2 => ?_
 refine rg hk fun _ q3=>gF 0 underlying29<|gB 1 underlying9<|ge q3 fun a w hk=>?_
 refine wp_block ?_
 refine rg hk fun _ q4=>gS<|gA<|ge q4 fun a w hk=>wc hk h (fun h hb=>?_) fun h hb=>?_
 ·refine wseq fun _ q5 => ?_
  refine rg hk fun _ q6=>gF 1 underlying29<|gB 1 underlying27<|fun a w hk=>?_
  refine lf hk (f_len (R := r_ApiArg_cells) (f := ApiArg.cells) (l := v1.Args) r_ApiArg_cells_eq underlying27 hk h0 rfl) fun a w hk=>?_
  refine go hk<|gE<|ge q6 fun a w hk=>wc hk h (fun h hb=>?_) fun h hb=>?_
  ·refine rg hk fun _ q7=>gF 1 underlying29<|gB 1 underlying27<|fun a w hk=>?_
   obtain ⟨t1, hr_t1, h⟩ := bnd h
   refine lf (y := .row (r_c_str t1)) hk (f_call hk h0 rfl rfl func102 rfl (by kernel_rfl) (code_names.ok K v1.Args _ hr_t1)) fun a w hk=>?_
   refine lf (y := .agg ((ApiIns.cells (⟨6, t1, [], [], (⟨[], [], []⟩ : ApiPred), [], false⟩ : ApiIns)))) hk (f_buildN [] hk h0 rfl rfl rfl) fun a w hk=>?_
   refine st0 (cs' := (ApiIns.cells (⟨6, t1, [], [], (⟨[], [], []⟩ : ApiPred), [], false⟩ : ApiIns))) hk rfl (by kernel_rfl) fun w hk => ?_
   refine lend (q7 _ _ ?_)
   refine wp_ret ?_
   obtain rfl := Option.some.inj h
   have hr_0 := rres_keep (I1 := [blk b0 93 ([.lit (.slice xd0_0 (List.length v0.out) xc0_0)]), orow xd0_0 xc0_0 55 1 c_s_ApiIns_cells v0.out]) (I2 := [blk bx2 59 ((ApiIns.cells (⟨6, t1, [], [], (⟨[], [], []⟩ : ApiPred), [], false⟩ : ApiIns))), blk bx1 29 ((ApiStep.cells v1))]) (js := [3, 3]) rfl (rcell (tt := 6) hk rfl (j := 0) rfl underlying59 rfl (by kernel_rfl))
   replace hk := S.keep (I1 := [blk b0 93 ([.lit (.slice xd0_0 (List.length v0.out) xc0_0)]), orow xd0_0 xc0_0 55 1 c_s_ApiIns_cells v0.out]) (I2 := [blk bx2 59 ((ApiIns.cells (⟨6, t1, [], [], (⟨[], [], []⟩ : ApiPred), [], false⟩ : ApiIns))), blk bx1 29 ((ApiStep.cells v1))]) (js := [3, 3]) hk rfl
   exact fretH1 hk rfl hr_0 ⟨xd0_0, xc0_0, rfl, rfl⟩
  refine wp_skip ?_
  refine q5 _ _ ?_
  obtain ⟨hc1, h⟩ := chk h
  obtain ⟨t2, hr_t2, h⟩ := bnd h
  obtain ⟨hc2, h⟩ := chk h
  obtain ⟨t3, hr_t3, h⟩ := bnd h
  refine wdrawE (.next [true, true, true, true, true, true, true, true, true, true, false] 10 [true, true, true, true, true, true, true, true, true, true, false] (.leaf [false, false, false, false, false, false, false, false, false, false, false])) [(21, [], .lit (.pointer (some ⟨bx1, 1, none⟩))), (22, [], .row (r_ApiArg_cells v1.Args)), (23, [], .row (r_ApiArg_cells (List.take (Int.toNat 1 - Int.toNat 0) (List.drop (Int.toNat 0) v1.Args)))), (24, [], .row (r_c_str t2)), (25, [], .lit (.pointer (some ⟨bx1, 1, none⟩))), (26, [], .row (r_ApiArg_cells v1.Args)), (27, [], .ref (ApiArg.cells (List.getD v1.Args (Int.toNat 1) default))), (28, [], .agg ((ApiArg.cells (List.getD v1.Args (Int.toNat 1) default)))), (29, [], .agg ((ApiPred.cells t3))), (30, [], .agg ((ApiIns.cells (⟨7, t2, [], [], t3, [], false⟩ : ApiIns)))), (138, [], .lit undef)] (by kernel_rfl) (by kernel_rfl) (by kernel_rfl) (by kernel_rfl) hk ?_; clear hk
  refine gnext0 ?_ rfl rfl rfl ?_
  ·refine gfun (y := .lit (.pointer (some ⟨bx1, 1, none⟩))) rfl rfl rfl rfl (fun a w hk => f_fieldPtr hk h0 rfl underlying29 rfl (by kernel_rfl) rfl) ?_
   refine gfun (y := .row (r_ApiArg_cells v1.Args)) rfl rfl rfl rfl (fun a w hk => f_loadBlk1 hk h0 (j := 1) rfl rfl underlying27 rfl rfl) ?_
   refine gfun (y := .row (r_ApiArg_cells (List.take (Int.toNat 1 - Int.toNat 0) (List.drop (Int.toNat 0) v1.Args)))) rfl rfl rfl rfl (fun a w hk => f_part (R := r_ApiArg_cells) (f := ApiArg.cells) (l := v1.Args) (sz := 11) r_ApiArg_cells_eq (fun _ => rfl) hk h0 rfl underlying27 (by kernel_rfl) rfl rfl hc1) ?_
   refine gfun (y := .row (r_c_str t2)) rfl rfl rfl rfl (fun a w hk => f_call hk h0 rfl rfl func102 rfl (by kernel_rfl) (code_names.ok K (List.take (Int.toNat 1 - Int.toNat 0) (List.drop (Int.toNat 0) v1.Args)) _ hr_t2)) ?_
   refine gfun (y := .lit (.pointer (some ⟨bx1, 1, none⟩))) rfl rfl rfl rfl (fun a w hk => f_fieldPtr hk h0 rfl underlying29 rfl (by kernel_rfl) rfl) ?_
   refine gfun (y := .row (r_ApiArg_cells v1.Args)) rfl rfl rfl rfl (fun a w hk => f_loadBlk1 hk h0 (j := 1) rfl rfl underlying27 rfl rfl) ?_
   refine gfun (y := .ref (ApiArg.cells (List.getD v1.Args (Int.toNat 1) default))) rfl rfl rfl rfl (fun a w hk => f_indexAddr (R := r_ApiArg_cells) (f := ApiArg.cells) (l := v1.Args) (sz := 11) r_ApiArg_cells_eq (fun _ => rfl) hk h0 rfl rfl underlying27 (by kernel_rfl) hc2) ?_
   refine gfun (y := .agg ((ApiArg.cells (List.getD v1.Args (Int.toNat 1) default)))) rfl rfl rfl rfl (fun a w hk => f_load hk h0 rfl underlying38 rfl rfl rfl rfl) ?_
   refine gfun (y := .agg ((ApiPred.cells t3))) rfl rfl rfl rfl (fun a w hk => f_call hk h0 rfl rfl func130 rfl (by kernel_rfl) (code_pred.ok K (List.getD v1.Args (Int.toNat 1) default) _ hr_t3)) ?_
   refine gfun (y := .agg ((ApiIns.cells (⟨7, t2, [], [], t3, [], false⟩ : ApiIns)))) rfl rfl rfl rfl (fun a w hk => f_buildN [] hk h0 rfl rfl rfl) ?_
   refine gskip0 rfl ?_
   exact gend
  ·intro σD a w opsD QD hk hQ hX
   refine st0 (cs' := (ApiIns.cells (⟨7, t2, [], [], t3, [], false⟩ : ApiIns))) hk rfl (by kernel_rfl) fun w hk => ?_
   refine hQ _ a w ?_ hk; clear hk hQ hX
   refine ⟨[(21, [], .lit (.pointer (some ⟨bx1, 1, none⟩))), (22, [], .row (r_ApiArg_cells v1.Args)), (23, [], .row (r_ApiArg_cells (List.take (Int.toNat 1 - Int.toNat 0) (List.drop (Int.toNat 0) v1.Args)))), (24, [], .row (r_c_str t2)), (25, [], .lit (.pointer (some ⟨bx1, 1, none⟩))), (26, [], .row (r_ApiArg_cells v1.Args)), (27, [], .ref (ApiArg.cells (List.getD v1.Args (Int.toNat 1) default))), (28, [], .agg ((ApiArg.cells (List.getD v1.Args (Int.toNat 1) default)))), (29, [], .agg ((ApiPred.cells t3))), (30, [], .agg ((ApiIns.cells (⟨7, t2, [], [], t3, [], false⟩ : ApiIns)))), (138, [], .lit undef)], And.intro rfl (And.intro rfl (And.intro rfl (And.intro rfl (And.intro rfl (And.intro rfl (And.intro rfl (And.intro rfl (And.intro rfl (And.intro rfl (trivial)))))))))), rfl, ?_⟩
   refine glast ?_ ?_
   ·refine gskip rfl rfl ?_
    refine gskip rfl rfl ?_
    refine gskip rfl rfl ?_
    refine gskip rfl rfl ?_
    refine gskip rfl rfl ?_
    refine gskip rfl rfl ?_
    refine gskip rfl rfl ?_
    refine gskip rfl rfl ?_
    refine gskip rfl rfl ?_
    refine gskip rfl rfl ?_
    refine gskip0 rfl ?_
    exact gend
   ·intro a w hk; simp only [stD, cond_true] at hk
    refine wp_ret ?_
    obtain rfl := Option.some.inj h
    have hr_0 := rres_keep (I1 := [blk b0 93 ([.lit (.slice xd0_0 (List.length v0.out) xc0_0)]), orow xd0_0 xc0_0 55 1 c_s_ApiIns_cells v0.out]) (I2 := [blk bx2 59 ((ApiIns.cells (⟨7, t2, [], [], t3, [], false⟩ : ApiIns))), blk bx1 29 ((ApiStep.cells v1))]) (js := [3, 3]) rfl (rcell (tt := 6) hk rfl (j := 0) rfl underlying59 rfl (by kernel_rfl))
    replace hk := S.keep (I1 := [blk b0 93 ([.lit (.slice xd0_0 (List.length v0.out) xc0_0)]), orow xd0_0 xc0_0 55 1 c_s_ApiIns_cells v0.out]) (I2 := [blk bx2 59 ((ApiIns.cells (⟨7, t2, [], [], t3, [], false⟩ : ApiIns))), blk bx1 29 ((ApiStep.cells v1))]) (js := [3, 3]) hk rfl
    exact fretH1 hk rfl hr_0 ⟨xd0_0, xc0_0, rfl, rfl⟩
 refine rg hk fun _ q9=>gS<|gA<|ge q9 fun a w hk=>wc hk h (fun h hb=>?_) fun h hb=>?_
 ·refine rg hk fun _ q10=>gF 1 underlying29<|gB 1 underlying27<|fun a w hk=>?_
  obtain ⟨hc3, h⟩ := chk h
  refine lf (y := .ref (ApiArg.cells (List.getD v1.Args (Int.toNat 0) default))) hk (f_indexAddr (R := r_ApiArg_cells) (f := ApiArg.cells) (l := v1.Args) (sz := 11) r_ApiArg_cells_eq (fun _ => rfl) hk h0 rfl rfl underlying27 (by kernel_rfl) hc3) fun a w hk=>?_
  refine lf hk (f_load hk h0 rfl underlying38 rfl rfl rfl rfl) fun a w hk=>?_
  obtain ⟨t4, hr_t4, h⟩ := bnd h
  refine lf (y := .agg ((ApiPred.cells t4))) hk (f_call hk h0 rfl rfl func130 rfl (by kernel_rfl) (code_pred.ok K (List.getD v1.Args (Int.toNat 0) default) _ hr_t4)) fun a w hk=>?_
  refine lf (y := .agg ((ApiIns.cells (⟨11, [], [], [], t4, [], false⟩ : ApiIns)))) hk (f_buildN [] hk h0 rfl rfl rfl) fun a w hk=>?_
  refine st0 (cs' := (ApiIns.cells (⟨11, [], [], [], t4, [], false⟩ : ApiIns))) hk rfl (by kernel_rfl) fun w hk => ?_
  refine lend (q10 _ _ ?_)
  refine wp_ret ?_
  obtain rfl := Option.some.inj h
  have hr_0 := rres_keep (I1 := [blk b0 93 ([.lit (.slice xd0_0 (List.length v0.out) xc0_0)]), orow xd0_0 xc0_0 55 1 c_s_ApiIns_cells v0.out]) (I2 := [blk bx2 59 ((ApiIns.cells (⟨11, [], [], [], t4, [], false⟩ : ApiIns))), blk bx1 29 ((ApiStep.cells v1))]) (js := [3, 3]) rfl (rcell (tt := 6) hk rfl (j := 0) rfl underlying59 rfl (by kernel_rfl))
  replace hk := S.keep (I1 := [blk b0 93 ([.lit (.slice xd0_0 (List.length v0.out) xc0_0)]), orow xd0_0 xc0_0 55 1 c_s_ApiIns_cells v0.out]) (I2 := [blk bx2 59 ((ApiIns.cells (⟨11, [], [], [], t4, [], false⟩ : ApiIns))), blk bx1 29 ((ApiStep.cells v1))]) (js := [3, 3]) hk rfl
  exact fretH1 hk rfl hr_0 ⟨xd0_0, xc0_0, rfl, rfl⟩
 refine rg hk fun _ q11=>gS<|gA<|ge q11 fun a w hk=>wc hk h (fun h hb=>?_) fun h hb=>?_
 ·refine rg hk fun _ q12=>gF 1 underlying29<|gB 1 underlying27<|fun a w hk=>?_
  obtain ⟨hc4, h⟩ := chk h
  refine lf (y := .ref (ApiArg.cells (List.getD v1.Args (Int.toNat 0) default))) hk (f_indexAddr (R := r_ApiArg_cells) (f := ApiArg.cells) (l := v1.Args) (sz := 11) r_ApiArg_cells_eq (fun _ => rfl) hk h0 rfl rfl underlying27 (by kernel_rfl) hc4) fun a w hk=>?_
  refine lf hk (f_fieldAddr hk h0 rfl underlying38 rfl (by kernel_rfl) rfl) fun a w hk=>?_
  refine lf hk (f_fieldAddr hk h0 rfl underlying33 rfl (by kernel_rfl) rfl) fun a w hk=>?_
  refine lf hk (f_load1 hk h0 rfl rfl underlying2 rfl) fun a w hk=>?_
  refine l_buildSlice (f := c_i64) (l := ([0, ((List.getD v1.Args (Int.toNat 0) default).V).N] : List Int)) hk rfl rfl rfl underlying57 rfl rfl rfl rfl (fun _ => rfl) rfl ?_; clear hk; intro bx3 a w hk
  replace hk := (S.freezeR (I' := [blk bx2 59 ((ApiIns.cells (⟨0, [], [], [], (⟨[], [], []⟩ : ApiPred), [], false⟩ : ApiIns))), blk bx1 29 ((ApiStep.cells v1)), blk b0 93 ([.lit (.slice xd0_0 (List.length v0.out) xc0_0)]), orow xd0_0 xc0_0 55 1 c_s_ApiIns_cells v0.out]) r_c_i64_eq hk (j := 0) rfl (t := 47) rfl rfl).squash
  refine lf (y := .agg ((ApiIns.cells (⟨17, [], ([0, ((List.getD v1.Args (Int.toNat 0) default).V).N] : List Int), [], (⟨[], [], []⟩ : ApiPred), [], false⟩ : ApiIns)))) hk (f_buildN [] hk h0 rfl rfl rfl) fun a w hk=>?_
  refine st0 (cs' := (ApiIns.cells (⟨17, [], ([0, ((List.getD v1.Args (Int.toNat 0) default).V).N] : List Int), [], (⟨[], [], []⟩ : ApiPred), [], false⟩ : ApiIns))) hk rfl (by kernel_rfl) fun w hk => ?_
  refine lend (q12 _ _ ?_)
  refine wp_ret ?_
  obtain rfl := Option.some.inj h
  have hr_0 := rres_keep (I1 := [blk b0 93 ([.lit (.slice xd0_0 (List.length v0.out) xc0_0)]), orow xd0_0 xc0_0 55 1 c_s_ApiIns_cells v0.out]) (I2 := [blk bx2 59 ((ApiIns.cells (⟨17, [], ([0, ((List.getD v1.Args (Int.toNat 0) default).V).N] : List Int), [], (⟨[], [], []⟩ : ApiPred), [], false⟩ : ApiIns))), blk bx1 29 ((ApiStep.cells v1))]) (js := [3, 3]) rfl (rcell (tt := 6) hk rfl (j := 0) rfl underlying59 rfl (by kernel_rfl))
  replace hk := S.keep (I1 := [blk b0 93 ([.lit (.slice xd0_0 (List.length v0.out) xc0_0)]), orow xd0_0 xc0_0 55 1 c_s_ApiIns_cells v0.out]) (I2 := [blk bx2 59 ((ApiIns.cells (⟨17, [], ([0, ((List.getD v1.Args (Int.toNat 0) default).V).N] : List Int), [], (⟨[], [], []⟩ : ApiPred), [], false⟩ : ApiIns))), blk bx1 29 ((ApiStep.cells v1))]) (js := [3, 3]) hk rfl
  exact fretH1 hk rfl hr_0 ⟨xd0_0, xc0_0, rfl, rfl⟩
 refine rg hk fun _ q13=>gS<|gA<|ge q13 fun a w hk=>wc hk h (fun h hb=>?_) fun h hb=>?_
 ·refine rg hk fun _ q14=>gF 1 underlying29<|gB 1 underlying27<|fun a w hk=>?_
  obtain ⟨hc5, h⟩ := chk h
  refine lf (y := .ref (ApiArg.cells (List.getD v1.Args (Int.toNat 0) default))) hk (f_indexAddr (R := r_ApiArg_cells) (f := ApiArg.cells) (l := v1.Args) (sz := 11) r_ApiArg_cells_eq (fun _ => rfl) hk h0 rfl rfl underlying27 (by kernel_rfl) hc5) fun a w hk=>?_
  refine lf hk (f_fieldAddr hk h0 rfl underlying38 rfl (by kernel_rfl) rfl) fun a w hk=>?_
  refine lf hk (f_fieldAddr hk h0 rfl underlying33 rfl (by kernel_rfl) rfl) fun a w hk=>?_
  refine lf hk (f_load1 hk h0 rfl rfl underlying2 rfl) fun a w hk=>?_
  refine l_buildSlice (f := c_i64) (l := ([((List.getD v1.Args (Int.toNat 0) default).V).N, (-1)] : List Int)) hk rfl rfl rfl underlying57 rfl rfl rfl rfl (fun _ => rfl) rfl ?_; clear hk; intro bx4 a w hk
  replace hk := (S.freezeR (I' := [blk bx2 59 ((ApiIns.cells (⟨0, [], [], [], (⟨[], [], []⟩ : ApiPred), [], false⟩ : ApiIns))), blk bx1 29 ((ApiStep.cells v1)), blk b0 93 ([.lit (.slice xd0_0 (List.length v0.out) xc0_0)]), orow xd0_0 xc0_0 55 1 c_s_ApiIns_cells v0.out]) r_c_i64_eq hk (j := 0) rfl (t := 57) rfl rfl).squash
  refine lf (y := .agg ((ApiIns.cells (⟨17, [], ([((List.getD v1.Args (Int.toNat 0) default).V).N, (-1)] : List Int), [], (⟨[], [], []⟩ : ApiPred), [], false⟩ : ApiIns)))) hk (f_buildN [] hk h0 rfl rfl rfl) fun a w hk=>?_
  refine st0 (cs' := (ApiIns.cells (⟨17, [], ([((List.getD v1.Args (Int.toNat 0) default).V).N, (-1)] : List Int), [], (⟨[], [], []⟩ : ApiPred), [], false⟩ : ApiIns))) hk rfl (by kernel_rfl) fun w hk => ?_
  refine lend (q14 _ _ ?_)
  refine wp_ret ?_
  obtain rfl := Option.some.inj h
  have hr_0 := rres_keep (I1 := [blk b0 93 ([.lit (.slice xd0_0 (List.length v0.out) xc0_0)]), orow xd0_0 xc0_0 55 1 c_s_ApiIns_cells v0.out]) (I2 := [blk bx2 59 ((ApiIns.cells (⟨17, [], ([((List.getD v1.Args (Int.toNat 0) default).V).N, (-1)] : List Int), [], (⟨[], [], []⟩ : ApiPred), [], false⟩ : ApiIns))), blk bx1 29 ((ApiStep.cells v1))]) (js := [3, 3]) rfl (rcell (tt := 6) hk rfl (j := 0) rfl underlying59 rfl (by kernel_rfl))
  replace hk := S.keep (I1 := [blk b0 93 ([.lit (.slice xd0_0 (List.length v0.out) xc0_0)]), orow xd0_0 xc0_0 55 1 c_s_ApiIns_cells v0.out]) (I2 := [blk bx2 59 ((ApiIns.cells (⟨17, [], ([((List.getD v1.Args (Int.toNat 0) default).V).N, (-1)] : List Int), [], (⟨[], [], []⟩ : ApiPred), [], false⟩ : ApiIns))), blk bx1 29 ((ApiStep.cells v1))]) (js := [3, 3]) hk rfl
  exact fretH1 hk rfl hr_0 ⟨xd0_0, xc0_0, rfl, rfl⟩
 refine rg hk fun _ q15=>gS<|gA<|ge q15 fun a w hk=>wc hk h (fun h hb=>?_) fun h hb=>?_
 ·refine rg hk fun _ q16=>gF 1 underlying29<|gB 1 underlying27<|fun a w hk=>?_
  obtain ⟨t5, hr_t5, h⟩ := bnd h
  refine lf (y := .row (r_c_i64 t5)) hk (f_call hk h0 rfl rfl func100 rfl (by kernel_rfl) (code_numbers.ok K v1.Args _ hr_t5)) fun a w hk=>?_
  refine lf (y := .agg ((ApiIns.cells (⟨17, [], t5, [], (⟨[], [], []⟩ : ApiPred), [], false⟩ : ApiIns)))) hk (f_buildN [] hk h0 rfl rfl rfl) fun a w hk=>?_
  refine st0 (cs' := (ApiIns.cells (⟨17, [], t5, [], (⟨[], [], []⟩ : ApiPred), [], false⟩ : ApiIns))) hk rfl (by kernel_rfl) fun w hk => ?_
  refine lend (q16 _ _ ?_)
  refine wp_ret ?_
  obtain rfl := Option.some.inj h
  have hr_0 := rres_keep (I1 := [blk b0 93 ([.lit (.slice xd0_0 (List.length v0.out) xc0_0)]), orow xd0_0 xc0_0 55 1 c_s_ApiIns_cells v0.out]) (I2 := [blk bx2 59 ((ApiIns.cells (⟨17, [], t5, [], (⟨[], [], []⟩ : ApiPred), [], false⟩ : ApiIns))), blk bx1 29 ((ApiStep.cells v1))]) (js := [3, 3]) rfl (rcell (tt := 6) hk rfl (j := 0) rfl underlying59 rfl (by kernel_rfl))
  replace hk := S.keep (I1 := [blk b0 93 ([.lit (.slice xd0_0 (List.length v0.out) xc0_0)]), orow xd0_0 xc0_0 55 1 c_s_ApiIns_cells v0.out]) (I2 := [blk bx2 59 ((ApiIns.cells (⟨17, [], t5, [], (⟨[], [], []⟩ : ApiPred), [], false⟩ : ApiIns))), blk bx1 29 ((ApiStep.cells v1))]) (js := [3, 3]) hk rfl
  exact fretH1 hk rfl hr_0 ⟨xd0_0, xc0_0, rfl, rfl⟩
 refine rg hk fun _ q17=>gS<|gA<|ge q17 fun a w hk=>wc hk h (fun h hb=>?_) fun h hb=>?_
 ·refine wreg fun _ q18 => ?_
  refine l_buildSlice (f := c_i64) (l := ([1] : List Int)) hk rfl rfl rfl underlying57 rfl rfl rfl rfl (fun _ => rfl) rfl ?_; clear hk; intro bx5 a w hk
  replace hk := (S.freezeR (I' := [blk bx2 59 ((ApiIns.cells (⟨0, [], [], [], (⟨[], [], []⟩ : ApiPred), [], false⟩ : ApiIns))), blk bx1 29 ((ApiStep.cells v1)), blk b0 93 ([.lit (.slice xd0_0 (List.length v0.out) xc0_0)]), orow xd0_0 xc0_0 55 1 c_s_ApiIns_cells v0.out]) r_c_i64_eq hk (j := 0) rfl (t := 67) rfl rfl).squash
  refine lf (y := .agg ((ApiIns.cells (⟨21, [], ([1] : List Int), [], (⟨[], [], []⟩ : ApiPred), [], false⟩ : ApiIns)))) hk (f_buildN [] hk h0 rfl rfl rfl) fun a w hk=>?_
  refine st0 (cs' := (ApiIns.cells (⟨21, [], ([1] : List Int), [], (⟨[], [], []⟩ : ApiPred), [], false⟩ : ApiIns))) hk rfl (by kernel_rfl) fun w hk => ?_
  refine lend (q18 _ _ ?_)
  refine wp_ret ?_
  obtain rfl := Option.some.inj h
  have hr_0 := rres_keep (I1 := [blk b0 93 ([.lit (.slice xd0_0 (List.length v0.out) xc0_0)]), orow xd0_0 xc0_0 55 1 c_s_ApiIns_cells v0.out]) (I2 := [blk bx2 59 ((ApiIns.cells (⟨21, [], ([1] : List Int), [], (⟨[], [], []⟩ : ApiPred), [], false⟩ : ApiIns))), blk bx1 29 ((ApiStep.cells v1))]) (js := [3, 3]) rfl (rcell (tt := 6) hk rfl (j := 0) rfl underlying59 rfl (by kernel_rfl))
  replace hk := S.keep (I1 := [blk b0 93 ([.lit (.slice xd0_0 (List.length v0.out) xc0_0)]), orow xd0_0 xc0_0 55 1 c_s_ApiIns_cells v0.out]) (I2 := [blk bx2 59 ((ApiIns.cells (⟨21, [], ([1] : List Int), [], (⟨[], [], []⟩ : ApiPred), [], false⟩ : ApiIns))), blk bx1 29 ((ApiStep.cells v1))]) (js := [3, 3]) hk rfl
  exact fretH1 hk rfl hr_0 ⟨xd0_0, xc0_0, rfl, rfl⟩
 refine rg hk fun _ q19=>gS<|gA<|ge q19 fun a w hk=>wc hk h (fun h hb=>?_) fun h hb=>?_
 ·refine wreg fun _ q20 => ?_
  refine l_buildSlice (f := c_i64) (l := ([2] : List Int)) hk rfl rfl rfl underlying57 rfl rfl rfl rfl (fun _ => rfl) rfl ?_; clear hk; intro bx6 a w hk
  replace hk := (S.freezeR (I' := [blk bx2 59 ((ApiIns.cells (⟨0, [], [], [], (⟨[], [], []⟩ : ApiPred), [], false⟩ : ApiIns))), blk bx1 29 ((ApiStep.cells v1)), blk b0 93 ([.lit (.slice xd0_0 (List.length v0.out) xc0_0)]), orow xd0_0 xc0_0 55 1 c_s_ApiIns_cells v0.out]) r_c_i64_eq hk (j := 0) rfl (t := 71) rfl rfl).squash
  refine lf (y := .agg ((ApiIns.cells (⟨21, [], ([2] : List Int), [], (⟨[], [], []⟩ : ApiPred), [], false⟩ : ApiIns)))) hk (f_buildN [] hk h0 rfl rfl rfl) fun a w hk=>?_
  refine st0 (cs' := (ApiIns.cells (⟨21, [], ([2] : List Int), [], (⟨[], [], []⟩ : ApiPred), [], false⟩ : ApiIns))) hk rfl (by kernel_rfl) fun w hk => ?_
  refine lend (q20 _ _ ?_)
  refine wp_ret ?_
  obtain rfl := Option.some.inj h
  have hr_0 := rres_keep (I1 := [blk b0 93 ([.lit (.slice xd0_0 (List.length v0.out) xc0_0)]), orow xd0_0 xc0_0 55 1 c_s_ApiIns_cells v0.out]) (I2 := [blk bx2 59 ((ApiIns.cells (⟨21, [], ([2] : List Int), [], (⟨[], [], []⟩ : ApiPred), [], false⟩ : ApiIns))), blk bx1 29 ((ApiStep.cells v1))]) (js := [3, 3]) rfl (rcell (tt := 6) hk rfl (j := 0) rfl underlying59 rfl (by kernel_rfl))
  replace hk := S.keep (I1 := [blk b0 93 ([.lit (.slice xd0_0 (List.length v0.out) xc0_0)]), orow xd0_0 xc0_0 55 1 c_s_ApiIns_cells v0.out]) (I2 := [blk bx2 59 ((ApiIns.cells (⟨21, [], ([2] : List Int), [], (⟨[], [], []⟩ : ApiPred), [], false⟩ : ApiIns))), blk bx1 29 ((ApiStep.cells v1))]) (js := [3, 3]) hk rfl
  exact fretH1 hk rfl hr_0 ⟨xd0_0, xc0_0, rfl, rfl⟩
 refine rg hk fun _ q21=>gS<|gA<|ge q21 fun a w hk=>wc hk h (fun h hb=>?_) fun h hb=>?_
 ·refine wreg fun _ q22 => ?_
  refine l_buildSlice (f := c_i64) (l := ([3] : List Int)) hk rfl rfl rfl underlying57 rfl rfl rfl rfl (fun _ => rfl) rfl ?_; clear hk; intro bx7 a w hk
  replace hk := (S.freezeR (I' := [blk bx2 59 ((ApiIns.cells (⟨0, [], [], [], (⟨[], [], []⟩ : ApiPred), [], false⟩ : ApiIns))), blk bx1 29 ((ApiStep.cells v1)), blk b0 93 ([.lit (.slice xd0_0 (List.length v0.out) xc0_0)]), orow xd0_0 xc0_0 55 1 c_s_ApiIns_cells v0.out]) r_c_i64_eq hk (j := 0) rfl (t := 75) rfl rfl).squash
  refine lf (y := .agg ((ApiIns.cells (⟨21, [], ([3] : List Int), [], (⟨[], [], []⟩ : ApiPred), [], false⟩ : ApiIns)))) hk (f_buildN [] hk h0 rfl rfl rfl) fun a w hk=>?_
  refine st0 (cs' := (ApiIns.cells (⟨21, [], ([3] : List Int), [], (⟨[], [], []⟩ : ApiPred), [], false⟩ : ApiIns))) hk rfl (by kernel_rfl) fun w hk => ?_
  refine lend (q22 _ _ ?_)
  refine wp_ret ?_
  obtain rfl := Option.some.inj h
  have hr_0 := rres_keep (I1 := [blk b0 93 ([.lit (.slice xd0_0 (List.length v0.out) xc0_0)]), orow xd0_0 xc0_0 55 1 c_s_ApiIns_cells v0.out]) (I2 := [blk bx2 59 ((ApiIns.cells (⟨21, [], ([3] : List Int), [], (⟨[], [], []⟩ : ApiPred), [], false⟩ : ApiIns))), blk bx1 29 ((ApiStep.cells v1))]) (js := [3, 3]) rfl (rcell (tt := 6) hk rfl (j := 0) rfl underlying59 rfl (by kernel_rfl))
  replace hk := S.keep (I1 := [blk b0 93 ([.lit (.slice xd0_0 (List.length v0.out) xc0_0)]), orow xd0_0 xc0_0 55 1 c_s_ApiIns_cells v0.out]) (I2 := [blk bx2 59 ((ApiIns.cells (⟨21, [], ([3] : List Int), [], (⟨[], [], []⟩ : ApiPred), [], false⟩ : ApiIns))), blk bx1 29 ((ApiStep.cells v1))]) (js := [3, 3]) hk rfl
  exact fretH1 hk rfl hr_0 ⟨xd0_0, xc0_0, rfl, rfl⟩
 refine rg hk fun _ q23=>gS<|gA<|ge q23 fun a w hk=>wc hk h (fun h hb=>?_) fun h hb=>?_
 ·refine rg hk fun _ q24=>gM<|gM<|fun a w hk=>?_
  obtain ⟨t6, hr_t6, h⟩ := bnd h
  refine l_callH (I1 := (OCM.items b0 xd0_0 xc0_0 v0)) (I2 := [blk bx2 59 ((ApiIns.cells (⟨0, [], [], [], (⟨[], [], []⟩ : ApiPred), [], false⟩ : ApiIns))), blk bx1 29 ((ApiStep.cells v1))]) (js := [3, 3]) hk rfl rfl rfl rfl rfl func131 rfl (by kernel_rfl) (hzY v0 v2 1 _ hr_t6 b0 xd0_0 xc0_0) ?_; clear hk
  rintro _ _ ⟨zd1, zc1, rfl, rfl⟩ a w hk
  refine lf (y := .agg ((ApiIns.cells (⟨16, [], [], [], (⟨[], [], []⟩ : ApiPred), t6.1, false⟩ : ApiIns)))) hk (f_buildN [] hk h0 rfl rfl rfl) fun a w hk=>?_
  refine st2 (cs' := (ApiIns.cells (⟨16, [], [], [], (⟨[], [], []⟩ : ApiPred), t6.1, false⟩ : ApiIns))) hk rfl (by kernel_rfl) fun w hk => ?_
  refine lend (q24 _ _ ?_)
  refine wp_ret ?_
  obtain rfl := Option.some.inj h
  have hr_0 := rres_keep (I1 := [blk b0 93 ([.lit (.slice zd1 (List.length t6.2.out) zc1)]), orow zd1 zc1 55 1 c_s_ApiIns_cells t6.2.out]) (I2 := [blk bx2 59 ((ApiIns.cells (⟨16, [], [], [], (⟨[], [], []⟩ : ApiPred), t6.1, false⟩ : ApiIns))), blk bx1 29 ((ApiStep.cells v1))]) (js := [1, 1]) rfl (rcell (tt := 6) hk rfl (j := 2) rfl underlying59 rfl (by kernel_rfl))
  replace hk := S.keep (I1 := [blk b0 93 ([.lit (.slice zd1 (List.length t6.2.out) zc1)]), orow zd1 zc1 55 1 c_s_ApiIns_cells t6.2.out]) (I2 := [blk bx2 59 ((ApiIns.cells (⟨16, [], [], [], (⟨[], [], []⟩ : ApiPred), t6.1, false⟩ : ApiIns))), blk bx1 29 ((ApiStep.cells v1))]) (js := [1, 1]) hk rfl
  exact fretH1 hk rfl hr_0 ⟨zd1, zc1, rfl, rfl⟩
 refine rg hk fun _ q25=>gS<|gA<|ge q25 fun a w hk=>wc hk h (fun h hb=>?_) fun h hb=>?_
 ·refine rg hk fun _ q26=>gM<|gM<|fun a w hk=>?_
  obtain ⟨t7, hr_t7, h⟩ := bnd h
  refine l_callH (I1 := (OCM.items b0 xd0_0 xc0_0 v0)) (I2 := [blk bx2 59 ((ApiIns.cells (⟨0, [], [], [], (⟨[], [], []⟩ : ApiPred), [], false⟩ : ApiIns))), blk bx1 29 ((ApiStep.cells v1))]) (js := [3, 3]) hk rfl rfl rfl rfl rfl func131 rfl (by kernel_rfl) (hzY v0 v2 2 _ hr_t7 b0 xd0_0 xc0_0) ?_; clear hk
  rintro _ _ ⟨zd2, zc2, rfl, rfl⟩ a w hk
  refine lf (y := .agg ((ApiIns.cells (⟨34, [], [], [], (⟨[], [], []⟩ : ApiPred), t7.1, false⟩ : ApiIns)))) hk (f_buildN [] hk h0 rfl rfl rfl) fun a w hk=>?_
  refine st2 (cs' := (ApiIns.cells (⟨34, [], [], [], (⟨[], [], []⟩ : ApiPred), t7.1, false⟩ : ApiIns))) hk rfl (by kernel_rfl) fun w hk => ?_
  refine lend (q26 _ _ ?_)
  refine wp_ret ?_
  obtain rfl := Option.some.inj h
  have hr_0 := rres_keep (I1 := [blk b0 93 ([.lit (.slice zd2 (List.length t7.2.out) zc2)]), orow zd2 zc2 55 1 c_s_ApiIns_cells t7.2.out]) (I2 := [blk bx2 59 ((ApiIns.cells (⟨34, [], [], [], (⟨[], [], []⟩ : ApiPred), t7.1, false⟩ : ApiIns))), blk bx1 29 ((ApiStep.cells v1))]) (js := [1, 1]) rfl (rcell (tt := 6) hk rfl (j := 2) rfl underlying59 rfl (by kernel_rfl))
  replace hk := S.keep (I1 := [blk b0 93 ([.lit (.slice zd2 (List.length t7.2.out) zc2)]), orow zd2 zc2 55 1 c_s_ApiIns_cells t7.2.out]) (I2 := [blk bx2 59 ((ApiIns.cells (⟨34, [], [], [], (⟨[], [], []⟩ : ApiPred), t7.1, false⟩ : ApiIns))), blk bx1 29 ((ApiStep.cells v1))]) (js := [1, 1]) hk rfl
  exact fretH1 hk rfl hr_0 ⟨zd2, zc2, rfl, rfl⟩
 refine rg hk fun _ q27=>gS<|gA<|ge q27 fun a w hk=>wc hk h (fun h hb=>?_) fun h hb=>?_
 ·refine rg hk fun _ q28=>gM<|gM<|fun a w hk=>?_
  obtain ⟨t8, hr_t8, h⟩ := bnd h
  refine l_callH (I1 := (OCM.items b0 xd0_0 xc0_0 v0)) (I2 := [blk bx2 59 ((ApiIns.cells (⟨0, [], [], [], (⟨[], [], []⟩ : ApiPred), [], false⟩ : ApiIns))), blk bx1 29 ((ApiStep.cells v1))]) (js := [3, 3]) hk rfl rfl rfl rfl rfl func131 rfl (by kernel_rfl) (hzY v0 v2 1 _ hr_t8 b0 xd0_0 xc0_0) ?_; clear hk
  rintro _ _ ⟨zd3, zc3, rfl, rfl⟩ a w hk
  refine lf (y := .agg ((ApiIns.cells (⟨35, [], [], [], (⟨[], [], []⟩ : ApiPred), t8.1, false⟩ : ApiIns)))) hk (f_buildN [] hk h0 rfl rfl rfl) fun a w hk=>?_
  refine st2 (cs' := (ApiIns.cells (⟨35, [], [], [], (⟨[], [], []⟩ : ApiPred), t8.1, false⟩ : ApiIns))) hk rfl (by kernel_rfl) fun w hk => ?_
  refine lend (q28 _ _ ?_)
  refine wp_ret ?_
  obtain rfl := Option.some.inj h
  have hr_0 := rres_keep (I1 := [blk b0 93 ([.lit (.slice zd3 (List.length t8.2.out) zc3)]), orow zd3 zc3 55 1 c_s_ApiIns_cells t8.2.out]) (I2 := [blk bx2 59 ((ApiIns.cells (⟨35, [], [], [], (⟨[], [], []⟩ : ApiPred), t8.1, false⟩ : ApiIns))), blk bx1 29 ((ApiStep.cells v1))]) (js := [1, 1]) rfl (rcell (tt := 6) hk rfl (j := 2) rfl underlying59 rfl (by kernel_rfl))
  replace hk := S.keep (I1 := [blk b0 93 ([.lit (.slice zd3 (List.length t8.2.out) zc3)]), orow zd3 zc3 55 1 c_s_ApiIns_cells t8.2.out]) (I2 := [blk bx2 59 ((ApiIns.cells (⟨35, [], [], [], (⟨[], [], []⟩ : ApiPred), t8.1, false⟩ : ApiIns))), blk bx1 29 ((ApiStep.cells v1))]) (js := [1, 1]) hk rfl
  exact fretH1 hk rfl hr_0 ⟨zd3, zc3, rfl, rfl⟩
 refine rg hk fun _ q29=>gS<|gA<|ge q29 fun a w hk=>wc hk h (fun h hb=>?_) fun h hb=>?_
 ·refine rg hk fun _ q30=>gM<|gM<|fun a w hk=>?_
  obtain ⟨t9, hr_t9, h⟩ := bnd h
  refine l_callH (I1 := (OCM.items b0 xd0_0 xc0_0 v0)) (I2 := [blk bx2 59 ((ApiIns.cells (⟨0, [], [], [], (⟨[], [], []⟩ : ApiPred), [], false⟩ : ApiIns))), blk bx1 29 ((ApiStep.cells v1))]) (js := [3, 3]) hk rfl rfl rfl rfl rfl func132 rfl (by kernel_rfl) (hzR v0 v2 _ hr_t9 b0 xd0_0 xc0_0) ?_; clear hk
  rintro _ _ ⟨zd4, zc4, rfl, rfl⟩ a w hk
  refine st2 (cs' := (ApiIns.cells t9.1)) hk rfl (by kernel_rfl) fun w hk => ?_
  refine lend (q30 _ _ ?_)
  refine wp_ret ?_
  obtain rfl := Option.some.inj h
  have hr_0 := rres_keep (I1 := [blk b0 93 ([.lit (.slice zd4 (List.length t9.2.out) zc4)]), orow zd4 zc4 55 1 c_s_ApiIns_cells t9.2.out]) (I2 := [blk bx2 59 ((ApiIns.cells t9.1)), blk bx1 29 ((ApiStep.cells v1))]) (js := [1, 1]) rfl (rcell (tt := 6) hk rfl (j := 2) rfl underlying59 rfl (by kernel_rfl))
  replace hk := S.keep (I1 := [blk b0 93 ([.lit (.slice zd4 (List.length t9.2.out) zc4)]), orow zd4 zc4 55 1 c_s_ApiIns_cells t9.2.out]) (I2 := [blk bx2 59 ((ApiIns.cells t9.1)), blk bx1 29 ((ApiStep.cells v1))]) (js := [1, 1]) hk rfl
  exact fretH1 hk rfl hr_0 ⟨zd4, zc4, rfl, rfl⟩
 refine rg hk fun _ q31=>gS<|gA<|ge q31 fun a w hk=>wc hk h (fun h hb=>?_) fun h hb=>?_
 ·refine rg hk fun _ q32=>gM<|fun a w hk=>?_
  refine lf hk (f_loadBlk hk h0 (j := 1) rfl rfl underlying29 rfl rfl rfl rfl) fun a w hk=>?_
  refine go hk<|gM<|fun a w hk=>?_
  obtain ⟨t10, hr_t10, h⟩ := bnd h
  refine l_callH (I1 := (OCM.items b0 xd0_0 xc0_0 v0)) (I2 := [blk bx2 59 ((ApiIns.cells (⟨0, [], [], [], (⟨[], [], []⟩ : ApiPred), [], false⟩ : ApiIns))), blk bx1 29 ((ApiStep.cells v1))]) (js := [3, 3]) hk rfl rfl rfl rfl rfl func133 rfl (by kernel_rfl) (hzT v0 v1 v2 _ hr_t10 b0 xd0_0 xc0_0) ?_; clear hk
  rintro _ _ ⟨zd5, zc5, rfl, rfl⟩ a w hk
  refine st2 (cs' := (ApiIns.cells t10.1)) hk rfl (by kernel_rfl) fun w hk => ?_
  refine lend (q32 _ _ ?_)
  refine wp_ret ?_
  obtain rfl := Option.some.inj h
  have hr_0 := rres_keep (I1 := [blk b0 93 ([.lit (.slice zd5 (List.length t10.2.out) zc5)]), orow zd5 zc5 55 1 c_s_ApiIns_cells t10.2.out]) (I2 := [blk bx2 59 ((ApiIns.cells t10.1)), blk bx1 29 ((ApiStep.cells v1))]) (js := [1, 1]) rfl (rcell (tt := 6) hk rfl (j := 2) rfl underlying59 rfl (by kernel_rfl))
  replace hk := S.keep (I1 := [blk b0 93 ([.lit (.slice zd5 (List.length t10.2.out) zc5)]), orow zd5 zc5 55 1 c_s_ApiIns_cells t10.2.out]) (I2 := [blk bx2 59 ((ApiIns.cells t10.1)), blk bx1 29 ((ApiStep.cells v1))]) (js := [1, 1]) hk rfl
  exact fretH1 hk rfl hr_0 ⟨zd5, zc5, rfl, rfl⟩
 refine rg hk fun _ q33=>gS<|gA<|ge q33 fun a w hk=>wc hk h (fun h hb=>?_) fun h hb=>?_
 ·refine rg hk fun _ q34=>gM<|fun a w hk=>?_
  refine lf hk (f_loadBlk hk h0 (j := 1) rfl rfl underlying29 rfl rfl rfl rfl) fun a w hk=>?_
  refine go hk<|gM<|fun a w hk=>?_
  obtain ⟨t11, hr_t11, h⟩ := bnd h
  refine l_callH (I1 := (OCM.items b0 xd0_0 xc0_0 v0)) (I2 := [blk bx2 59 ((ApiIns.cells (⟨0, [], [], [], (⟨[], [], []⟩ : ApiPred), [], false⟩ : ApiIns))), blk bx1 29 ((ApiStep.cells v1))]) (js := [3, 3]) hk rfl rfl rfl rfl rfl func134 rfl (by kernel_rfl) (hzE v0 v1 v2 _ hr_t11 b0 xd0_0 xc0_0) ?_; clear hk
  rintro _ _ ⟨zd6, zc6, rfl, rfl⟩ a w hk
  refine st2 (cs' := (ApiIns.cells t11.1)) hk rfl (by kernel_rfl) fun w hk => ?_
  refine lend (q34 _ _ ?_)
  refine wp_ret ?_
  obtain rfl := Option.some.inj h
  have hr_0 := rres_keep (I1 := [blk b0 93 ([.lit (.slice zd6 (List.length t11.2.out) zc6)]), orow zd6 zc6 55 1 c_s_ApiIns_cells t11.2.out]) (I2 := [blk bx2 59 ((ApiIns.cells t11.1)), blk bx1 29 ((ApiStep.cells v1))]) (js := [1, 1]) rfl (rcell (tt := 6) hk rfl (j := 2) rfl underlying59 rfl (by kernel_rfl))
  replace hk := S.keep (I1 := [blk b0 93 ([.lit (.slice zd6 (List.length t11.2.out) zc6)]), orow zd6 zc6 55 1 c_s_ApiIns_cells t11.2.out]) (I2 := [blk bx2 59 ((ApiIns.cells t11.1)), blk bx1 29 ((ApiStep.cells v1))]) (js := [1, 1]) hk rfl
  exact fretH1 hk rfl hr_0 ⟨zd6, zc6, rfl, rfl⟩
 refine wp_skip ?_
 refine q2 _ _ ?_
 refine rg hk fun _ q35=>gF 1 underlying29<|gB 1 underlying27<|gA<|ge q35 fun a w hk=>?_
 refine rg hk fun _ q36=>gM<|fun a w hk=>?_
 refine lf hk (f_len (R := r_ApiArg_cells) (f := ApiArg.cells) (l := v1.Args) r_ApiArg_cells_eq underlying27 hk h0 rfl) fun a w hk=>?_
 refine go hk<|gE<|gM<|gm<|fun a w hk=>?_
 obtain ⟨hc6, h⟩ := chk h
 refine lg (y := .ref (ApiArg.cells (List.getD v1.Args (Int.toNat 0) default))) hk rfl rfl rfl (fun hc => f_indexAddr (R := r_ApiArg_cells) (f := ApiArg.cells) (l := v1.Args) (sz := 11) r_ApiArg_cells_eq (fun _ => rfl) hk hc rfl rfl underlying27 (by kernel_rfl) hc6) fun a w hk=>?_
 refine lg hk rfl rfl rfl (fun hc => f_fieldAddr hk hc rfl underlying38 rfl (by kernel_rfl) rfl) fun a w hk=>?_
 refine lg hk rfl rfl rfl (fun hc => f_fieldAddr hk hc rfl underlying33 rfl (by kernel_rfl) rfl) fun a w hk=>?_
 refine lg hk rfl rfl rfl (fun hc => f_load1 hk hc rfl rfl underlying9 rfl) fun a w hk=>?_
 refine lg hk rfl rfl rfl (fun hc => (f_pure (p_seql hk.kn hc rfl rfl))) fun a w hk=>?_
 refine go hk<|gN<|gA<|ge q36 fun a w hk=>?_
 refine wseqJ (fun a w => ∃ (v7 : List ApiArg) (v8 : Bool), S M w0 a w 138 [blk bx2 59 ((ApiIns.cells (⟨0, [], [], [], (⟨[], [], []⟩ : ApiPred), [], false⟩ : ApiIns))), blk b0 93 ([.lit (.slice xd0_0 (List.length v0.out) xc0_0)]), orow xd0_0 xc0_0 55 1 c_s_ApiIns_cells v0.out] [(6, [], .lit (.pointer (some ⟨bx2, 0, none⟩))), (7, [], .row (r_ApiArg_cells v7)), (8, [], .lit (.bool v8))] ∧ cm_other.j1 zB zI zK zO zY zb zR zT zE K v0 v7 v8 = some r) ?_ ?_
 ·clear hk h
  rintro a w ⟨v7, v8, hk, h⟩
  unfold cm_other.j1 at h
  obtain ⟨hc7, h⟩ := chk h
  obtain ⟨t12, hr_t12, h⟩ := bnd h
  obtain ⟨hc8, h⟩ := chk h
  obtain ⟨t13, hr_t13, h⟩ := bnd h
  refine wdrawE (.next [true, true, true, true, true, true, true, true, false] 8 [true, true, true, true, true, true, true, true, false] (.leaf [false, false, false, false, false, false, false, false, false])) [(130, [], .row (r_ApiArg_cells v7)), (131, [], .row (r_ApiArg_cells (List.take (Int.toNat 1 - Int.toNat 0) (List.drop (Int.toNat 0) v7)))), (132, [], .row (r_c_str t12)), (133, [], .row (r_ApiArg_cells v7)), (134, [], .row (r_ApiArg_cells (List.take (Int.toNat (List.length v7 : Int) - Int.toNat 1) (List.drop (Int.toNat 1) v7)))), (135, [], .row (r_ApiValue_cells t13)), (136, [], .lit (.bool v8)), (137, [], .agg ((ApiIns.cells (⟨45, t12, [], t13, (⟨[], [], []⟩ : ApiPred), [], v8⟩ : ApiIns)))), (138, [], .lit undef)] (by kernel_rfl) (by kernel_rfl) (by kernel_rfl) (by kernel_rfl) hk ?_; clear hk
  refine gnext0 ?_ rfl rfl rfl ?_
  ·refine gfun (y := .row (r_ApiArg_cells v7)) rfl rfl rfl rfl (fun a w hk => f_move hk h0 rfl) ?_
   refine gfun (y := .row (r_ApiArg_cells (List.take (Int.toNat 1 - Int.toNat 0) (List.drop (Int.toNat 0) v7)))) rfl rfl rfl rfl (fun a w hk => f_part (R := r_ApiArg_cells) (f := ApiArg.cells) (l := v7) (sz := 11) r_ApiArg_cells_eq (fun _ => rfl) hk h0 rfl underlying27 (by kernel_rfl) rfl rfl hc7) ?_
   refine gfun (y := .row (r_c_str t12)) rfl rfl rfl rfl (fun a w hk => f_call hk h0 rfl rfl func102 rfl (by kernel_rfl) (code_names.ok K (List.take (Int.toNat 1 - Int.toNat 0) (List.drop (Int.toNat 0) v7)) _ hr_t12)) ?_
   refine gfun (y := .row (r_ApiArg_cells v7)) rfl rfl rfl rfl (fun a w hk => f_move hk h0 rfl) ?_
   refine gfun (y := .row (r_ApiArg_cells (List.take (Int.toNat (List.length v7 : Int) - Int.toNat 1) (List.drop (Int.toNat 1) v7)))) rfl rfl rfl rfl (fun a w hk => f_part (R := r_ApiArg_cells) (f := ApiArg.cells) (l := v7) (sz := 11) r_ApiArg_cells_eq (fun _ => rfl) hk h0 rfl underlying27 (by kernel_rfl) rfl rfl hc8) ?_
   refine gfun (y := .row (r_ApiValue_cells t13)) rfl rfl rfl rfl (fun a w hk => f_call hk h0 rfl rfl func101 rfl (by kernel_rfl) (code_values.ok K (List.take (Int.toNat (List.length v7 : Int) - Int.toNat 1) (List.drop (Int.toNat 1) v7)) _ hr_t13)) ?_
   refine gfun (y := .lit (.bool v8)) rfl rfl rfl rfl (fun a w hk => f_move hk h0 rfl) ?_
   refine gfun (y := .agg ((ApiIns.cells (⟨45, t12, [], t13, (⟨[], [], []⟩ : ApiPred), [], v8⟩ : ApiIns)))) rfl rfl rfl rfl (fun a w hk => f_buildN [] hk h0 rfl rfl rfl) ?_
   refine gskip0 rfl ?_
   exact gend
  ·intro σD a w opsD QD hk hQ hX
   refine st0 (cs' := (ApiIns.cells (⟨45, t12, [], t13, (⟨[], [], []⟩ : ApiPred), [], v8⟩ : ApiIns))) hk rfl (by kernel_rfl) fun w hk => ?_
   refine hQ _ a w ?_ hk; clear hk hQ hX
   refine ⟨[(130, [], .row (r_ApiArg_cells v7)), (131, [], .row (r_ApiArg_cells (List.take (Int.toNat 1 - Int.toNat 0) (List.drop (Int.toNat 0) v7)))), (132, [], .row (r_c_str t12)), (133, [], .row (r_ApiArg_cells v7)), (134, [], .row (r_ApiArg_cells (List.take (Int.toNat (List.length v7 : Int) - Int.toNat 1) (List.drop (Int.toNat 1) v7)))), (135, [], .row (r_ApiValue_cells t13)), (136, [], .lit (.bool v8)), (137, [], .agg ((ApiIns.cells (⟨45, t12, [], t13, (⟨[], [], []⟩ : ApiPred), [], v8⟩ : ApiIns)))), (138, [], .lit undef)], And.intro rfl (And.intro rfl (And.intro rfl (And.intro rfl (And.intro rfl (And.intro rfl (And.intro rfl (And.intro rfl (trivial)))))))), rfl, ?_⟩
   refine glast ?_ ?_
   ·refine gskip rfl rfl ?_
    refine gskip rfl rfl ?_
    refine gskip rfl rfl ?_
    refine gskip rfl rfl ?_
    refine gskip rfl rfl ?_
    refine gskip rfl rfl ?_
    refine gskip rfl rfl ?_
    refine gskip rfl rfl ?_
    refine gskip0 rfl ?_
    exact gend
   ·intro a w hk; simp only [stD, cond_true] at hk
    refine wp_ret ?_
    obtain rfl := Option.some.inj h
    have hr_0 := rres_keep (I1 := [blk b0 93 ([.lit (.slice xd0_0 (List.length v0.out) xc0_0)]), orow xd0_0 xc0_0 55 1 c_s_ApiIns_cells v0.out]) (I2 := [blk bx2 59 ((ApiIns.cells (⟨45, t12, [], t13, (⟨[], [], []⟩ : ApiPred), [], v8⟩ : ApiIns)))]) (js := [2, 2]) rfl (rcell (tt := 6) hk rfl (j := 0) rfl underlying59 rfl (by kernel_rfl))
    replace hk := S.keep (I1 := [blk b0 93 ([.lit (.slice xd0_0 (List.length v0.out) xc0_0)]), orow xd0_0 xc0_0 55 1 c_s_ApiIns_cells v0.out]) (I2 := [blk bx2 59 ((ApiIns.cells (⟨45, t12, [], t13, (⟨[], [], []⟩ : ApiPred), [], v8⟩ : ApiIns)))]) (js := [2, 2]) hk rfl
    exact fretH1 hk rfl hr_0 ⟨xd0_0, xc0_0, rfl, rfl⟩
 ·intro K' q37
  refine rg hk fun _ q39=>gM<|fun a w hk=>?_
  refine lf hk (f_len (R := r_ApiArg_cells) (f := ApiArg.cells) (l := v1.Args) r_ApiArg_cells_eq underlying27 hk h0 rfl) fun a w hk=>?_
  refine go hk<|gE<|ge q39 fun a w hk=>wc hk h (fun h hb=>?_) fun h hb=>?_
  ·refine rg1 hk<|gM<|fun a w hk=>?_
   obtain ⟨hc9, h⟩ := chk h
   refine lf (y := .row (r_ApiArg_cells (List.take (Int.toNat (List.length v1.Args : Int) - Int.toNat 1) (List.drop (Int.toNat 1) v1.Args)))) hk (f_part (R := r_ApiArg_cells) (f := ApiArg.cells) (l := v1.Args) (sz := 11) r_ApiArg_cells_eq (fun _ => rfl) hk h0 rfl underlying27 (by kernel_rfl) rfl rfl hc9) fun a w hk=>?_
   refine go hk<|gA<|fun a w hk=>?_
   refine wpList_nil ?_
   exact q37 _ _ ⟨(List.take (Int.toNat (List.length v1.Args : Int) - Int.toNat 1) (List.drop (Int.toNat 1) v1.Args)), ((decide ((List.length v1.Args : Int) = 3)) && (decide ((((List.getD v1.Args (Int.toNat 0) default).V).S) = ([108, 105, 115, 116] : List UInt8)))), (hk.drop 1).sub ⟨rfl, rfl, rfl, trivial⟩, h⟩
  refine wp_skip ?_
  exact q37 _ _ ⟨v1.Args, ((decide ((List.length v1.Args : Int) = 3)) && (decide ((((List.getD v1.Args (Int.toNat 0) default).V).S) = ([108, 105, 115, 116] : List UInt8)))), (hk.drop 1).sub ⟨rfl, rfl, rfl, trivial⟩, h⟩
end Go.Proofs.Ytbjbgodcenopnaa
namespace Go.Proofs.Ytbjbgodcenopnaa
open FW _root_.Go.Proofs.Try
set_option linter.unusedVariables false
set_option maxRecDepth 20000
set_option maxHeartbeats 10000000
theorem cm_bys.bok (zB : OCM → List ApiStep → Option (Int × OCM)) (zI : OCM → ApiStep → List ApiStep → Option (ApiIns × OCM)) (zK : OCM → List ApiArg → Option (List Int × OCM)) (zO : OCM → ApiStep → List ApiStep → Option (ApiIns × OCM)) (zY : OCM → List ApiStep → Int → Option (List Int × OCM)) (zb : OCM → ApiStep → Option (Int × OCM)) (zR : OCM → List ApiStep → Option (ApiIns × OCM)) (zT : OCM → ApiStep → List ApiStep → Option (ApiIns × OCM)) (zE : OCM → ApiStep → List ApiStep → Option (ApiIns × OCM)) (hzB : ZzB zB) (hzI : ZzI zI) (hzK : ZzK zK) (hzO : ZzO zO) (hzY : ZzY zY) (hzb : Zzb zb) (hzR : ZzR zR) (hzT : ZzT zT) (hzE : ZzE zE) (K : Nat) (v0 : OCM) (v1 : List ApiStep) (v2 : Int) (r : List Int × OCM) (h : cm_bys.b zB zI zK zO zY zb zR zT zE K v0 v1 v2 = some r) :
  ∀ (b0 : Nat) (xd0_0 : Option Addr) (xc0_0 : Nat), OkH prog 131 [.lit (.pointer (some ⟨b0, 0, none⟩)), .row (r_ApiStep_cells v1), .lit (.int .i64 v2)] (OCM.items b0 xd0_0 xc0_0 v0) (fun y I => ∃ (zxd0_0 : Option Addr) (zxc0_0 : Nat), y = .row (r_c_i64 r.1) ∧ I = OCM.items b0 zxd0_0 zxc0_0 r.2) := by
 intro b0 xd0_0 xc0_0
 refine enterH (xs := [.lit (.pointer (some ⟨b0, 0, none⟩)), .row (r_ApiStep_cells v1), .lit (.int .i64 v2)]) func131 rfl ntmps131 rfl ?_
 intro M w0 a hk
 replace hk : S M w0 a w0.toWorld 30 [blk b0 93 ([.lit (.slice xd0_0 (List.length v0.out) xc0_0)]), orow xd0_0 xc0_0 55 1 c_s_ApiIns_cells v0.out] [(0, [], .lit (.pointer (some ⟨b0, 0, none⟩))), (1, [], .row (r_ApiStep_cells v1)), (2, [], .lit (.int .i64 v2))] := hk
 unfold cm_bys.b at h
 refine wreg fun _ q1 => ?_
 refine lf (y := .row (r_c_i64 [])) hk (f_assignNil) fun a w hk=>?_
 refine lend (q1 _ _ ?_)
 refine rg hk fun _ q2=>gA<|fun a w hk=>?_
 replace hk := hk.nilRow 3 1 c_i64 (fun _ => rfl)
 refine lend (q2 _ _ ?_)
 refine wseq fun _ q3 => ?_
 refine rg hk fun _ q4=>gM<|gM<|ge q4 fun a w hk=>?_
 refine wp_block ?_
 refine wloop (T := Nat × List Int × List (List ApiIns) × List ApiStep × Int × Int × Option Addr × Nat × Option Addr × Nat) (fun x a w => match x with | (kl1, l3, l2, v1, v10, v11, xd3, xc3, xd2, xc2) => S M w0 a w 30 [orow xd3 xc3 3 1 c_i64 l3, blk b0 93 ([.lit (.slice xd2 (List.length l2) xc2)]), orow xd2 xc2 55 1 c_s_ApiIns_cells l2] [(0, [], .lit (.pointer (some ⟨b0, 0, none⟩))), (1, [], .row (r_ApiStep_cells v1)), (7, [], .lit (.slice xd3 (List.length l3) xc3)), (10, [], .lit (.int .i64 v10)), (11, [], .lit (.int .i64 v11))] ∧ cm_bys.l1 zB zI zK zO zY zb zR zT zE K kl1 l3 l2 v1 v10 v11 = some r) (fun x => x.1) (K, ([] : List Int), v0.out, v1, v2, 0, none, 0, xd0_0, xc0_0) ⟨hk.sub ⟨rfl, rfl, rfl, rfl, rfl, trivial⟩, h⟩ ?_
 clear hk h
 rintro ⟨kl1, l3, l2, v1, v10, v11, xd3, xc3, xd2, xc2⟩ a w ⟨hk, h⟩ K' q5
 cases kl1 with
 | zero => simp [cm_bys.l1] at h
 | succ kl1 =>
 rw [cm_bys.l1.eq_2] at h
 refine rg hk fun _ q6=>gL<|ge q6 fun a w hk=>?_
 refine wseq fun _ q7 => ?_
 refine wc hk h (fun h hb=>?_) fun h hb=>?_
 ·refine wp_skip ?_
  refine q7 _ _ ?_
  refine wseq fun _ q8 => ?_
  refine wp_block ?_
  refine rg hk fun _ q9=>gM<|gA<|ge q9 fun a w hk=>?_
  refine rg hk fun _ q10=>gA<|ge q10 fun a w hk=>?_
  refine wseqJ (fun a w => ∃ (l2 : List (List ApiIns)) (v1 : List ApiStep) (v9 : Int) (v10 : Int) (v11 : Int) (xd2 : Option Addr) (xc2 : Nat), S M w0 a w 30 [blk b0 93 ([.lit (.slice xd2 (List.length l2) xc2)]), orow xd2 xc2 55 1 c_s_ApiIns_cells l2, orow xd3 xc3 3 1 c_i64 l3] [(0, [], .lit (.pointer (some ⟨b0, 0, none⟩))), (1, [], .row (r_ApiStep_cells v1)), (7, [], .lit (.slice xd3 (List.length l3) xc3)), (9, [], .lit (.int .i64 v9)), (10, [], .lit (.int .i64 v10)), (11, [], .lit (.int .i64 v11))] ∧ cm_bys.j1 zB zI zK zO zY zb zR zT zE (cm_bys.l1 zB zI zK zO zY zb zR zT zE K kl1) K l3 l2 v1 v9 v10 v11 = some r) ?_ ?_
  ·clear hk h
   rintro a w ⟨l2, v1, v9, v10, v11, xd2, xc2, hk, h⟩
   unfold cm_bys.j1 at h
   refine rg1 hk<|gM<|gM<|fun a w hk=>?_
   refine l_buildSlice (f := c_i64) (l := ([v9] : List Int)) hk rfl rfl rfl underlying54 rfl rfl rfl rfl (fun _ => rfl) rfl ?_; clear hk; intro bx1 a w hk
   obtain ⟨hc1, h⟩ := chk h
   refine l_append (l2 := ([v9] : List Int)) (l3 := (l3 ++ ([v9] : List Int))) (I' := fun ad1 cap1 => [orow (some ⟨bx1, 0, none⟩) 1 3 1 c_i64 ([v9] : List Int), blk b0 93 ([.lit (.slice xd2 (List.length l2) xc2)]), orow xd2 xc2 55 1 c_s_ApiIns_cells l2, orow ad1 cap1 3 1 c_i64 (l3 ++ ([v9] : List Int))]) (j := 3) hk rfl rfl rfl rfl (own_src hk (j := 0) rfl rfl (fun _ => rfl) underlying54) underlying54 (by kernel_rfl) hc1 rfl (fun _ _ => rfl) ?_; clear hk; intro ad1 cap1 a w hk
   replace hk := S.dropI (I' := [blk b0 93 ([.lit (.slice xd2 (List.length l2) xc2)]), orow xd2 xc2 55 1 c_s_ApiIns_cells l2, orow ad1 cap1 3 1 c_i64 (l3 ++ ([v9] : List Int))]) hk 0 rfl
   refine go hk<|gA<|fun a w hk=>?_
   refine wpList_nil ?_
   refine q8 _ _ ?_
   refine rg1 hk<|gD<|gM<|fun a w hk=>?_
   refine wpList_nil ?_
   exact q5 (kl1, (l3 ++ ([v9] : List Int)), l2, v1, v10, (IntKind.wrap .i64 (v11 + 1)), ad1, cap1, xd2, xc2) _ _ (Nat.lt_succ_self _) ⟨(S.pick hk (js := [1, 1, 2]) rfl).sub ⟨rfl, rfl, rfl, rfl, rfl, trivial⟩, h⟩
  ·intro K' q11
   refine rg hk fun _ q14=>gM<|gM<|fun a w hk=>?_
   refine lf hk (f_len (R := r_ApiStep_cells) (f := ApiStep.cells) (l := v1) r_ApiStep_cells_eq underlying22 hk h0 rfl) fun a w hk=>?_
   refine go hk<|gL<|ge q14 fun a w hk=>wc hk h (fun h hb=>?_) fun h hb=>?_
   ·refine rg1 hk<|gM<|gM<|gM<|fun a w hk=>?_
    obtain ⟨hc2, h⟩ := chk h
    refine lf (y := .ref (ApiStep.cells (List.getD v1 (Int.toNat v11) default))) hk (f_indexAddr (R := r_ApiStep_cells) (f := ApiStep.cells) (l := v1) (sz := 2) r_ApiStep_cells_eq (fun _ => rfl) hk h0 rfl rfl underlying22 (by kernel_rfl) hc2) fun a w hk=>?_
    refine lf hk (f_load hk h0 rfl underlying29 rfl rfl rfl rfl) fun a w hk=>?_
    obtain ⟨t1, hr_t1, h⟩ := bnd h
    refine l_callH (I1 := (OCM.items b0 xd2 xc2 (⟨l2⟩ : OCM))) (I2 := [orow xd3 xc3 3 1 c_i64 l3]) (js := [2, 2]) hk rfl rfl rfl rfl rfl func151 rfl (by kernel_rfl) (hzb (⟨l2⟩ : OCM) (List.getD v1 (Int.toNat v11) default) _ hr_t1 b0 xd2 xc2) ?_; clear hk
    rintro _ _ ⟨zd1, zc1, rfl, rfl⟩ a w hk
    refine go hk<|gA<|fun a w hk=>?_
    refine wpList_nil ?_
    exact q11 _ _ ⟨t1.2.out, v1, t1.1, v10, v11, zd1, zc1, hk.sub ⟨rfl, rfl, rfl, rfl, rfl, rfl, trivial⟩, h⟩
   refine wp_skip ?_
   exact q11 _ _ ⟨l2, v1, (-1), v10, v11, xd2, xc2, (S.pick hk (js := [0, 2, 2]) rfl).sub ⟨rfl, rfl, rfl, rfl, rfl, rfl, trivial⟩, h⟩
 refine wp_exit ?_; (repeat first | refine te ?_ | refine be rfl ?_); refine bx ?_
 refine q3 _ _ ?_
 refine rg hk fun _ q16=>gM<|gA<|ge q16 fun a w hk=>?_
 refine wp_ret ?_
 replace hk := S.freezeR (I' := [blk b0 93 ([.lit (.slice xd2 (List.length l2) xc2)]), orow xd2 xc2 55 1 c_s_ApiIns_cells l2]) r_c_i64_eq hk (j := 0) rfl (t := 6) rfl rfl
 obtain rfl := Option.some.inj h
 replace hk := S.keep (I1 := [blk b0 93 ([.lit (.slice xd2 (List.length l2) xc2)]), orow xd2 xc2 55 1 c_s_ApiIns_cells l2]) (I2 := []) (js := [1, 1]) hk rfl
 exact fretH1 hk rfl (rtmp hk rfl) ⟨xd2, xc2, rfl, rfl⟩
theorem cm_by.bok (zB : OCM → List ApiStep → Option (Int × OCM)) (zI : OCM → ApiStep → List ApiStep → Option (ApiIns × OCM)) (zK : OCM → List ApiArg → Option (List Int × OCM)) (zO : OCM → ApiStep → List ApiStep → Option (ApiIns × OCM)) (zY : OCM → List ApiStep → Int → Option (List Int × OCM)) (zb : OCM → ApiStep → Option (Int × OCM)) (zR : OCM → List ApiStep → Option (ApiIns × OCM)) (zT : OCM → ApiStep → List ApiStep → Option (ApiIns × OCM)) (zE : OCM → ApiStep → List ApiStep → Option (ApiIns × OCM)) (hzB : ZzB zB) (hzI : ZzI zI) (hzK : ZzK zK) (hzO : ZzO zO) (hzY : ZzY zY) (hzb : Zzb zb) (hzR : ZzR zR) (hzT : ZzT zT) (hzE : ZzE zE) (K : Nat) (v0 : OCM) (v1 : ApiStep) (r : Int × OCM) (h : cm_by.b zB zI zK zO zY zb zR zT zE K v0 v1 = some r) :
  ∀ (b0 : Nat) (xd0_0 : Option Addr) (xc0_0 : Nat), OkH prog 151 [.lit (.pointer (some ⟨b0, 0, none⟩)), .agg (ApiStep.cells v1)] (OCM.items b0 xd0_0 xc0_0 v0) (fun y I => ∃ (zxd0_0 : Option Addr) (zxc0_0 : Nat), y = .lit (.int .i64 r.1) ∧ I = OCM.items b0 zxd0_0 zxc0_0 r.2) := by
 intro b0 xd0_0 xc0_0
 refine enterH (xs := [.lit (.pointer (some ⟨b0, 0, none⟩)), .agg (ApiStep.cells v1)]) func151 rfl ntmps151 rfl ?_
 intro M w0 a hk
 replace hk : S M w0 a w0.toWorld 50 [blk b0 93 ([.lit (.slice xd0_0 (List.length v0.out) xc0_0)]), orow xd0_0 xc0_0 55 1 c_s_ApiIns_cells v0.out] [(0, [], .lit (.pointer (some ⟨b0, 0, none⟩))), (1, [], .agg ((ApiStep.cells v1)))] := hk
 unfold cm_by.b at h
 refine wreg fun _ q1 => ?_
 refine l_box (cs := (ApiStep.cells v1)) hk rfl rfl rfl rfl rfl ?_; clear hk; intro bx1 a w hk
 refine go hk<|gA<|ge q1 fun a w hk=>?_
 refine wseq fun _ q2 => ?_
 refine rg hk fun _ q3=>gF 1 underlying29<|gB 0 underlying27<|fun a w hk=>?_
 refine lf hk (f_len (R := r_ApiArg_cells) (f := ApiArg.cells) (l := v1.Args) r_ApiArg_cells_eq underlying27 hk h0 rfl) fun a w hk=>?_
 refine go hk<|gE<|gM<|fun a w hk=>?_
 refine lg (y := .lit (.pointer (some ⟨bx1, 1, none⟩))) hk rfl rfl rfl (fun hc => f_fieldPtr hk hc rfl underlying29 rfl (by kernel_rfl) rfl) fun a w hk=>?_
 refine lg hk rfl rfl rfl (fun hc => f_loadBlk1 hk hc (j := 0) rfl rfl underlying27 rfl rfl) fun a w hk=>?_
 obtain ⟨hc1, h⟩ := chk h
 refine lg (y := .ref (ApiArg.cells (List.getD v1.Args (Int.toNat 0) default))) hk rfl rfl rfl (fun hc => f_indexAddr (R := r_ApiArg_cells) (f := ApiArg.cells) (l := v1.Args) (sz := 11) r_ApiArg_cells_eq (fun _ => rfl) hk hc rfl rfl underlying27 (by kernel_rfl) hc1) fun a w hk=>?_
 refine lg hk rfl rfl rfl (fun hc => f_fieldAddr hk hc rfl underlying38 rfl (by kernel_rfl) rfl) fun a w hk=>?_
 refine lg hk rfl rfl rfl (fun hc => f_load1 hk hc rfl rfl underlying3 rfl) fun a w hk=>?_
 refine lg hk rfl rfl rfl (fun hc => (f_pure (p_eql hk.kn hc rfl rfl))) fun a w hk=>?_
 refine go hk<|gR<|ge q3 fun a w hk=>wc hk h (fun h hb=>?_) fun h hb=>?_
 ·refine rg hk fun _ q4=>gA<|ge q4 fun a w hk=>?_
  refine wp_ret ?_
  obtain rfl := Option.some.inj h
  replace hk := S.keep (I1 := [blk b0 93 ([.lit (.slice xd0_0 (List.length v0.out) xc0_0)]), orow xd0_0 xc0_0 55 1 c_s_ApiIns_cells v0.out]) (I2 := [blk bx1 29 ((ApiStep.cells v1))]) (js := [2, 2]) hk rfl
  exact fretH1 hk rfl (rtmp hk rfl) ⟨xd0_0, xc0_0, rfl, rfl⟩
 refine wp_skip ?_
 refine q2 _ _ ?_
 refine wseq fun _ q5 => ?_
 refine rg hk fun _ q6=>gF 1 underlying29<|gB 0 underlying27<|fun a w hk=>?_
 obtain ⟨hc2, h⟩ := chk h
 refine lf (y := .ref (ApiArg.cells (List.getD v1.Args (Int.toNat 0) default))) hk (f_indexAddr (R := r_ApiArg_cells) (f := ApiArg.cells) (l := v1.Args) (sz := 11) r_ApiArg_cells_eq (fun _ => rfl) hk h0 rfl rfl underlying27 (by kernel_rfl) hc2) fun a w hk=>?_
 refine lf hk (f_load hk h0 rfl underlying38 rfl rfl rfl rfl) fun a w hk=>?_
 refine l_alloc (zs := (ApiArg.cells (⟨0, (⟨0, false, 0, 0, [], []⟩ : ApiValue), (⟨[], [], []⟩ : ApiPred), []⟩ : ApiArg))) [] hk rfl rfl rfl rfl ?_; clear hk; intro bx2 a w hk
 refine st0 (cs' := (ApiArg.cells (List.getD v1.Args (Int.toNat 0) default))) hk rfl (by kernel_rfl) fun w hk => ?_
 refine lend (q6 _ _ ?_)
 refine rg hk fun _ q7=>gF 0 underlying38<|gB 0 underlying3<|gE<|ge q7 fun a w hk=>wc hk h (fun h hb=>?_) fun h hb=>?_
 ·refine rg hk fun _ q8=>gM<|gF 10 underlying38<|gB 0 underlying22<|fun a w hk=>?_
  obtain ⟨t1, hr_t1, h⟩ := bnd h
  refine l_callH (I1 := (OCM.items b0 xd0_0 xc0_0 v0)) (I2 := [blk bx2 38 ((ApiArg.cells (List.getD v1.Args (Int.toNat 0) default))), blk bx1 29 ((ApiStep.cells v1))]) (js := [3, 3]) hk rfl rfl rfl rfl rfl func48 rfl (by kernel_rfl) (hzB v0 ((List.getD v1.Args (Int.toNat 0) default).T) _ hr_t1 b0 xd0_0 xc0_0) ?_; clear hk
  rintro _ _ ⟨zd1, zc1, rfl, rfl⟩ a w hk
  refine go hk<|gA<|ge q8 fun a w hk=>?_
  refine wp_ret ?_
  obtain rfl := Option.some.inj h
  replace hk := S.keep (I1 := [blk b0 93 ([.lit (.slice zd1 (List.length t1.2.out) zc1)]), orow zd1 zc1 55 1 c_s_ApiIns_cells t1.2.out]) (I2 := [blk bx2 38 ((ApiArg.cells (List.getD v1.Args (Int.toNat 0) default))), blk bx1 29 ((ApiStep.cells v1))]) (js := [1, 1]) hk rfl
  exact fretH1 hk rfl (rtmp hk rfl) ⟨zd1, zc1, rfl, rfl⟩
 refine wp_skip ?_
 refine q5 _ _ ?_
 obtain ⟨hc3, h⟩ := chk h
 obtain ⟨t2, hr_t2, h⟩ := bnd h
 obtain ⟨hc4, h⟩ := chk h
 refine wdrawE (.next [true, true, true, true, true, true, true, true, true, true, false, false, false, false, false, false] 10 [true, true, true, true, true, true, true, true, true, true, false, false, false, false, false, false] (.next [true, true, true, true, true, false, false, false, false, false, false, false, false, false, false, false] 11 [true, true, true, true, true, true, true, true, true, true, true, false, false, false, false, false] (.next [true, true, true, true, true, false, false, false, false, false, false, false, false, false, false, false] 12 [true, true, true, true, true, true, true, true, true, true, true, true, false, false, false, false] (.next [true, false, false, false, false, false, false, false, false, false, false, false, false, true, true, false] 15 [true, true, true, true, true, true, true, true, true, true, true, true, true, true, true, false] (.leaf [false, false, false, false, false, false, false, false, false, false, false, false, false, false, false, false]))))) [(29, [], .lit (.pointer (some ⟨b0, 0, none⟩))), (30, [], .lit (.pointer (some ⟨b0, 0, none⟩))), (31, [], .lit (.pointer (some ⟨b0, 0, none⟩))), (32, [], .lit (.pointer (some ⟨b0, 0, none⟩))), (33, [], .lit (.slice xd0_0 (List.length v0.out) xc0_0)), (34, [], .lit (.pointer (some ⟨bx1, 1, none⟩))), (35, [], .row (r_ApiArg_cells v1.Args)), (36, [], .row (r_ApiArg_cells (List.take (Int.toNat 1 - Int.toNat 0) (List.drop (Int.toNat 0) v1.Args)))), (37, [], .row (r_c_str t2)), (38, [], .agg ((ApiIns.cells (⟨22, t2, [], [], (⟨[], [], []⟩ : ApiPred), [], false⟩ : ApiIns)))), (39, [], .agg []), (40, [], .agg []), (41, [], .agg []), (42, [], .agg []), (43, [], .agg []), (50, [], .lit undef)] (by kernel_rfl) (by kernel_rfl) (by kernel_rfl) (by kernel_rfl) hk ?_; clear hk
 refine gnext ?_ rfl rfl rfl rfl rfl ?_
 ·refine gfun (y := .lit (.pointer (some ⟨b0, 0, none⟩))) rfl rfl rfl rfl (fun a w hk => f_move hk h0 rfl) ?_
  refine gfun (y := .lit (.pointer (some ⟨b0, 0, none⟩))) rfl rfl rfl rfl (fun a w hk => f_move hk h0 rfl) ?_
  refine gfun (y := .lit (.pointer (some ⟨b0, 0, none⟩))) rfl rfl rfl rfl (fun a w hk => (f_pure (p_nilCheck hk.kn h0 rfl))) ?_
  refine gfun (y := .lit (.pointer (some ⟨b0, 0, none⟩))) rfl rfl rfl rfl (fun a w hk => f_fieldPtr hk h0 rfl underlying93 rfl (by kernel_rfl) rfl) ?_
  refine gfun (y := .lit (.slice xd0_0 (List.length v0.out) xc0_0)) rfl rfl rfl rfl (fun a w hk => f_loadBlk1 hk h0 (j := 2) rfl rfl underlying48 rfl rfl) ?_
  refine gfun (y := .lit (.pointer (some ⟨bx1, 1, none⟩))) rfl rfl rfl rfl (fun a w hk => f_fieldPtr hk h0 rfl underlying29 rfl (by kernel_rfl) rfl) ?_
  refine gfun (y := .row (r_ApiArg_cells v1.Args)) rfl rfl rfl rfl (fun a w hk => f_loadBlk1 hk h0 (j := 1) rfl rfl underlying27 rfl rfl) ?_
  refine gfun (y := .row (r_ApiArg_cells (List.take (Int.toNat 1 - Int.toNat 0) (List.drop (Int.toNat 0) v1.Args)))) rfl rfl rfl rfl (fun a w hk => f_part (R := r_ApiArg_cells) (f := ApiArg.cells) (l := v1.Args) (sz := 11) r_ApiArg_cells_eq (fun _ => rfl) hk h0 rfl underlying27 (by kernel_rfl) rfl rfl hc3) ?_
  refine gfun (y := .row (r_c_str t2)) rfl rfl rfl rfl (fun a w hk => f_call hk h0 rfl rfl func102 rfl (by kernel_rfl) (code_names.ok K (List.take (Int.toNat 1 - Int.toNat 0) (List.drop (Int.toNat 0) v1.Args)) _ hr_t2)) ?_
  refine gfun (y := .agg ((ApiIns.cells (⟨22, t2, [], [], (⟨[], [], []⟩ : ApiPred), [], false⟩ : ApiIns)))) rfl rfl rfl rfl (fun a w hk => f_buildN [] hk h0 rfl rfl rfl) ?_
  refine gskip rfl rfl ?_
  refine gskip rfl rfl ?_
  refine gskip rfl rfl ?_
  refine gskip rfl rfl ?_
  refine gskip rfl rfl ?_
  refine gskip0 rfl ?_
  exact gend
 ·intro σD a w opsD QD hk hf hQ hX
  refine l_buildSlice (f := ApiIns.cells) (l := ([(⟨22, t2, [], [], (⟨[], [], []⟩ : ApiPred), [], false⟩ : ApiIns)] : List ApiIns)) hk rfl hf rfl underlying55 rfl rfl rfl rfl (fun _ => rfl) rfl ?_; clear hk; intro bx3 a w hk
  replace hk := (S.freezeR (I' := [blk bx2 38 ((ApiArg.cells (List.getD v1.Args (Int.toNat 0) default))), blk bx1 29 ((ApiStep.cells v1)), blk b0 93 ([.lit (.slice xd0_0 (List.length v0.out) xc0_0)]), orow xd0_0 xc0_0 55 1 c_s_ApiIns_cells v0.out]) r_ApiIns_cells_eq hk (j := 0) rfl (t := 39) rfl rfl).squash
  refine hQ _ _ a w ?_ hk; clear hk hQ hf hX
  refine ⟨[(29, [], .lit (.pointer (some ⟨b0, 0, none⟩))), (30, [], .lit (.pointer (some ⟨b0, 0, none⟩))), (31, [], .lit (.pointer (some ⟨b0, 0, none⟩))), (32, [], .lit (.pointer (some ⟨b0, 0, none⟩))), (33, [], .lit (.slice xd0_0 (List.length v0.out) xc0_0)), (34, [], .lit (.pointer (some ⟨bx1, 1, none⟩))), (35, [], .row (r_ApiArg_cells v1.Args)), (36, [], .row (r_ApiArg_cells (List.take (Int.toNat 1 - Int.toNat 0) (List.drop (Int.toNat 0) v1.Args)))), (37, [], .row (r_c_str t2)), (38, [], .agg ((ApiIns.cells (⟨22, t2, [], [], (⟨[], [], []⟩ : ApiPred), [], false⟩ : ApiIns)))), (39, [], .row (r_ApiIns_cells ([(⟨22, t2, [], [], (⟨[], [], []⟩ : ApiPred), [], false⟩ : ApiIns)] : List ApiIns))), (40, [], .agg []), (41, [], .agg []), (42, [], .agg []), (43, [], .agg []), (50, [], .lit undef)], And.intro rfl (And.intro rfl (And.intro rfl (And.intro rfl (And.intro rfl (And.intro rfl (And.intro rfl (And.intro rfl (And.intro rfl (And.intro rfl (trivial)))))))))), rfl, ?_⟩
  refine gnext ?_ rfl rfl rfl rfl rfl ?_
  ·refine gfun (y := .lit (.pointer (some ⟨b0, 0, none⟩))) rfl rfl rfl rfl (fun a w hk => f_move hk h0 rfl) ?_
   refine gfun (y := .lit (.pointer (some ⟨b0, 0, none⟩))) rfl rfl rfl rfl (fun a w hk => f_move hk h0 rfl) ?_
   refine gfun (y := .lit (.pointer (some ⟨b0, 0, none⟩))) rfl rfl rfl rfl (fun a w hk => (f_pure (p_nilCheck hk.kn h0 rfl))) ?_
   refine gfun (y := .lit (.pointer (some ⟨b0, 0, none⟩))) rfl rfl rfl rfl (fun a w hk => f_fieldPtr hk h0 rfl underlying93 rfl (by kernel_rfl) rfl) ?_
   refine gfun (y := .lit (.slice xd0_0 (List.length v0.out) xc0_0)) rfl rfl rfl rfl (fun a w hk => f_loadBlk1 hk h0 (j := 2) rfl rfl underlying48 rfl rfl) ?_
   refine gskip rfl rfl ?_
   refine gskip rfl rfl ?_
   refine gskip rfl rfl ?_
   refine gskip rfl rfl ?_
   refine gskip rfl rfl ?_
   refine gskip rfl rfl ?_
   refine gskip rfl rfl ?_
   refine gskip rfl rfl ?_
   refine gskip rfl rfl ?_
   refine gskip rfl rfl ?_
   refine gskip0 rfl ?_
   exact gend
  ·intro σD a w opsD QD hk hf hQ hX
   refine l_buildSlice (f := c_s_ApiIns_cells) (l := ([([(⟨22, t2, [], [], (⟨[], [], []⟩ : ApiPred), [], false⟩ : ApiIns)] : List ApiIns)] : List (List ApiIns))) hk rfl hf rfl underlying48 rfl rfl rfl rfl (fun _ => rfl) rfl ?_; clear hk; intro bx4 a w hk
   refine hQ _ _ a w ?_ hk; clear hk hQ hf hX
   refine ⟨[(29, [], .lit (.pointer (some ⟨b0, 0, none⟩))), (30, [], .lit (.pointer (some ⟨b0, 0, none⟩))), (31, [], .lit (.pointer (some ⟨b0, 0, none⟩))), (32, [], .lit (.pointer (some ⟨b0, 0, none⟩))), (33, [], .lit (.slice xd0_0 (List.length v0.out) xc0_0)), (34, [], .lit (.pointer (some ⟨bx1, 1, none⟩))), (35, [], .row (r_ApiArg_cells v1.Args)), (36, [], .row (r_ApiArg_cells (List.take (Int.toNat 1 - Int.toNat 0) (List.drop (Int.toNat 0) v1.Args)))), (37, [], .row (r_c_str t2)), (38, [], .agg ((ApiIns.cells (⟨22, t2, [], [], (⟨[], [], []⟩ : ApiPred), [], false⟩ : ApiIns)))), (39, [], .row (r_ApiIns_cells ([(⟨22, t2, [], [], (⟨[], [], []⟩ : ApiPred), [], false⟩ : ApiIns)] : List ApiIns))), (40, [], .lit (.slice (some ⟨bx4, 0, none⟩) (List.length ([([(⟨22, t2, [], [], (⟨[], [], []⟩ : ApiPred), [], false⟩ : ApiIns)] : List ApiIns)] : List (List ApiIns))) 1)), (41, [], .agg []), (42, [], .agg []), (43, [], .agg []), (50, [], .lit undef)], And.intro rfl (And.intro rfl (And.intro rfl (And.intro rfl (And.intro rfl (And.intro rfl (And.intro rfl (And.intro rfl (And.intro rfl (And.intro rfl (And.intro rfl (trivial))))))))))), rfl, ?_⟩
   refine gnext ?_ rfl rfl rfl rfl rfl ?_
   ·refine gfun (y := .lit (.pointer (some ⟨b0, 0, none⟩))) rfl rfl rfl rfl (fun a w hk => f_move hk h0 rfl) ?_
    refine gfun (y := .lit (.pointer (some ⟨b0, 0, none⟩))) rfl rfl rfl rfl (fun a w hk => f_move hk h0 rfl) ?_
    refine gfun (y := .lit (.pointer (some ⟨b0, 0, none⟩))) rfl rfl rfl rfl (fun a w hk => (f_pure (p_nilCheck hk.kn h0 rfl))) ?_
    refine gfun (y := .lit (.pointer (some ⟨b0, 0, none⟩))) rfl rfl rfl rfl (fun a w hk => f_fieldPtr hk h0 rfl underlying93 rfl (by kernel_rfl) rfl) ?_
    refine gfun (y := .lit (.slice xd0_0 (List.length v0.out) xc0_0)) rfl rfl rfl rfl (fun a w hk => f_loadBlk1 hk h0 (j := 3) rfl rfl underlying48 rfl rfl) ?_
    refine gskip rfl rfl ?_
    refine gskip rfl rfl ?_
    refine gskip rfl rfl ?_
    refine gskip rfl rfl ?_
    refine gskip rfl rfl ?_
    refine gskip rfl rfl ?_
    refine gskip rfl rfl ?_
    refine gskip rfl rfl ?_
    refine gskip rfl rfl ?_
    refine gskip rfl rfl ?_
    refine gskip0 rfl ?_
    exact gend
   ·intro σD a w opsD QD hk hf hQ hX
    refine l_append (l2 := ([([(⟨22, t2, [], [], (⟨[], [], []⟩ : ApiPred), [], false⟩ : ApiIns)] : List ApiIns)] : List (List ApiIns))) (l3 := (v0.out ++ ([([(⟨22, t2, [], [], (⟨[], [], []⟩ : ApiPred), [], false⟩ : ApiIns)] : List ApiIns)] : List (List ApiIns)))) (I' := fun ad1 cap1 => [orow (some ⟨bx4, 0, none⟩) 1 55 1 c_s_ApiIns_cells ([([(⟨22, t2, [], [], (⟨[], [], []⟩ : ApiPred), [], false⟩ : ApiIns)] : List ApiIns)] : List (List ApiIns)), blk bx2 38 ((ApiArg.cells (List.getD v1.Args (Int.toNat 0) default))), blk bx1 29 ((ApiStep.cells v1)), blk b0 93 ([.lit (.slice xd0_0 (List.length v0.out) xc0_0)]), orow ad1 cap1 55 1 c_s_ApiIns_cells (v0.out ++ ([([(⟨22, t2, [], [], (⟨[], [], []⟩ : ApiPred), [], false⟩ : ApiIns)] : List ApiIns)] : List (List ApiIns)))]) (j := 4) hk rfl rfl hf rfl (own_src hk (j := 0) rfl rfl (fun _ => rfl) underlying48) underlying48 (by kernel_rfl) hc4 rfl (fun _ _ => rfl) ?_; clear hk; intro ad1 cap1 a w hk
    replace hk := S.dropI (I' := [blk bx2 38 ((ApiArg.cells (List.getD v1.Args (Int.toNat 0) default))), blk bx1 29 ((ApiStep.cells v1)), blk b0 93 ([.lit (.slice xd0_0 (List.length v0.out) xc0_0)]), orow ad1 cap1 55 1 c_s_ApiIns_cells (v0.out ++ ([([(⟨22, t2, [], [], (⟨[], [], []⟩ : ApiPred), [], false⟩ : ApiIns)] : List ApiIns)] : List (List ApiIns)))]) hk 0 rfl
    refine hQ _ _ a w ?_ hk; clear hk hQ hf hX
    refine ⟨[(29, [], .lit (.pointer (some ⟨b0, 0, none⟩))), (30, [], .lit (.pointer (some ⟨b0, 0, none⟩))), (31, [], .lit (.pointer (some ⟨b0, 0, none⟩))), (32, [], .lit (.pointer (some ⟨b0, 0, none⟩))), (33, [], .lit (.slice xd0_0 (List.length v0.out) xc0_0)), (34, [], .lit (.pointer (some ⟨bx1, 1, none⟩))), (35, [], .row (r_ApiArg_cells v1.Args)), (36, [], .row (r_ApiArg_cells (List.take (Int.toNat 1 - Int.toNat 0) (List.drop (Int.toNat 0) v1.Args)))), (37, [], .row (r_c_str t2)), (38, [], .agg ((ApiIns.cells (⟨22, t2, [], [], (⟨[], [], []⟩ : ApiPred), [], false⟩ : ApiIns)))), (39, [], .row (r_ApiIns_cells ([(⟨22, t2, [], [], (⟨[], [], []⟩ : ApiPred), [], false⟩ : ApiIns)] : List ApiIns))), (40, [], .lit (.slice (some ⟨bx4, 0, none⟩) (List.length ([([(⟨22, t2, [], [], (⟨[], [], []⟩ : ApiPred), [], false⟩ : ApiIns)] : List ApiIns)] : List (List ApiIns))) 1)), (41, [], .lit (.slice ad1 (List.length (v0.out ++ ([([(⟨22, t2, [], [], (⟨[], [], []⟩ : ApiPred), [], false⟩ : ApiIns)] : List ApiIns)] : List (List ApiIns)))) cap1)), (42, [], .lit (.pointer (some ⟨b0, 0, none⟩))), (43, [], .lit (.pointer (some ⟨b0, 0, none⟩))), (50, [], .lit undef)], And.intro rfl (And.intro rfl (And.intro rfl (And.intro rfl (And.intro rfl (And.intro rfl (And.intro rfl (And.intro rfl (And.intro rfl (And.intro rfl (And.intro rfl (And.intro rfl (trivial)))))))))))), rfl, ?_⟩
    refine gnext0 ?_ rfl rfl rfl ?_
    ·refine gfun (y := .lit (.pointer (some ⟨b0, 0, none⟩))) rfl rfl rfl rfl (fun a w hk => f_move hk h0 rfl) ?_
     refine gskip rfl rfl ?_
     refine gskip rfl rfl ?_
     refine gskip rfl rfl ?_
     refine gskip rfl rfl ?_
     refine gskip rfl rfl ?_
     refine gskip rfl rfl ?_
     refine gskip rfl rfl ?_
     refine gskip rfl rfl ?_
     refine gskip rfl rfl ?_
     refine gskip rfl rfl ?_
     refine gskip rfl rfl ?_
     refine gskip rfl rfl ?_
     refine gfun (y := .lit (.pointer (some ⟨b0, 0, none⟩))) rfl rfl rfl rfl (fun a w hk => (f_pure (p_nilCheck hk.kn h0 rfl))) ?_
     refine gfun (y := .lit (.pointer (some ⟨b0, 0, none⟩))) rfl rfl rfl rfl (fun a w hk => f_fieldPtr hk h0 rfl underlying93 rfl (by kernel_rfl) rfl) ?_
     refine gskip0 rfl ?_
     exact gend
    ·intro σD a w opsD QD hk hQ hX
     refine st2 (cs' := [.lit (.slice ad1 (List.length (v0.out ++ ([([(⟨22, t2, [], [], (⟨[], [], []⟩ : ApiPred), [], false⟩ : ApiIns)] : List ApiIns)] : List (List ApiIns)))) cap1)]) hk rfl (by kernel_rfl) fun w hk => ?_
     refine hQ _ a w ?_ hk; clear hk hQ hX
     refine ⟨[(29, [], .lit (.pointer (some ⟨b0, 0, none⟩))), (30, [], .lit (.pointer (some ⟨b0, 0, none⟩))), (31, [], .lit (.pointer (some ⟨b0, 0, none⟩))), (32, [], .lit (.pointer (some ⟨b0, 0, none⟩))), (33, [], .lit (.slice xd0_0 (List.length v0.out) xc0_0)), (34, [], .lit (.pointer (some ⟨bx1, 1, none⟩))), (35, [], .row (r_ApiArg_cells v1.Args)), (36, [], .row (r_ApiArg_cells (List.take (Int.toNat 1 - Int.toNat 0) (List.drop (Int.toNat 0) v1.Args)))), (37, [], .row (r_c_str t2)), (38, [], .agg ((ApiIns.cells (⟨22, t2, [], [], (⟨[], [], []⟩ : ApiPred), [], false⟩ : ApiIns)))), (39, [], .row (r_ApiIns_cells ([(⟨22, t2, [], [], (⟨[], [], []⟩ : ApiPred), [], false⟩ : ApiIns)] : List ApiIns))), (40, [], .lit (.slice (some ⟨bx4, 0, none⟩) (List.length ([([(⟨22, t2, [], [], (⟨[], [], []⟩ : ApiPred), [], false⟩ : ApiIns)] : List ApiIns)] : List (List ApiIns))) 1)), (41, [], .lit (.slice ad1 (List.length (v0.out ++ ([([(⟨22, t2, [], [], (⟨[], [], []⟩ : ApiPred), [], false⟩ : ApiIns)] : List ApiIns)] : List (List ApiIns)))) cap1)), (42, [], .lit (.pointer (some ⟨b0, 0, none⟩))), (43, [], .lit (.pointer (some ⟨b0, 0, none⟩))), (50, [], .lit undef)], And.intro rfl (And.intro rfl (And.intro rfl (And.intro rfl (And.intro rfl (And.intro rfl (And.intro rfl (And.intro rfl (And.intro rfl (And.intro rfl (And.intro rfl (And.intro rfl (And.intro rfl (And.intro rfl (And.intro rfl (trivial))))))))))))))), rfl, ?_⟩
     refine glast ?_ ?_
     ·refine gskip rfl rfl ?_
      refine gskip rfl rfl ?_
      refine gskip rfl rfl ?_
      refine gskip rfl rfl ?_
      refine gskip rfl rfl ?_
      refine gskip rfl rfl ?_
      refine gskip rfl rfl ?_
      refine gskip rfl rfl ?_
      refine gskip rfl rfl ?_
      refine gskip rfl rfl ?_
      refine gskip rfl rfl ?_
      refine gskip rfl rfl ?_
      refine gskip rfl rfl ?_
      refine gskip rfl rfl ?_
      refine gskip rfl rfl ?_
      refine gskip0 rfl ?_
      exact gend
     ·intro a w hk; simp only [stD, cond_true] at hk
      refine rg hk fun _ q10=>gM<|gP (p_nilCheck · h0 rfl)<|gF 0 underlying93<|gB 2 underlying48<|gP (p_len underlying48 · h0 rfl)<|gP (p_sub · h0 rfl rfl)<|gA<|ge q10 fun a w hk=>?_
      refine wp_ret ?_
      obtain rfl := Option.some.inj h
      replace hk := S.keep (I1 := [blk b0 93 ([.lit (.slice ad1 (List.length (v0.out ++ ([([(⟨22, t2, [], [], (⟨[], [], []⟩ : ApiPred), [], false⟩ : ApiIns)] : List ApiIns)] : List (List ApiIns)))) cap1)]), orow ad1 cap1 55 1 c_s_ApiIns_cells (v0.out ++ ([([(⟨22, t2, [], [], (⟨[], [], []⟩ : ApiPred), [], false⟩ : ApiIns)] : List ApiIns)] : List (List ApiIns)))]) (I2 := [blk bx2 38 ((ApiArg.cells (List.getD v1.Args (Int.toNat 0) default))), blk bx1 29 ((ApiStep.cells v1))]) (js := [3, 3]) hk rfl
      exact fretH1 hk rfl (rtmp hk rfl) ⟨ad1, cap1, rfl, rfl⟩
end Go.Proofs.Ytbjbgodcenopnaa
namespace Go.Proofs.Ytbjbgodcenopnaa
open FW _root_.Go.Proofs.Try
set_option linter.unusedVariables false
set_option maxRecDepth 20000
set_option maxHeartbeats 10000000
theorem cm_order.bok (zB : OCM → List ApiStep → Option (Int × OCM)) (zI : OCM → ApiStep → List ApiStep → Option (ApiIns × OCM)) (zK : OCM → List ApiArg → Option (List Int × OCM)) (zO : OCM → ApiStep → List ApiStep → Option (ApiIns × OCM)) (zY : OCM → List ApiStep → Int → Option (List Int × OCM)) (zb : OCM → ApiStep → Option (Int × OCM)) (zR : OCM → List ApiStep → Option (ApiIns × OCM)) (zT : OCM → ApiStep → List ApiStep → Option (ApiIns × OCM)) (zE : OCM → ApiStep → List ApiStep → Option (ApiIns × OCM)) (hzB : ZzB zB) (hzI : ZzI zI) (hzK : ZzK zK) (hzO : ZzO zO) (hzY : ZzY zY) (hzb : Zzb zb) (hzR : ZzR zR) (hzT : ZzT zT) (hzE : ZzE zE) (K : Nat) (v0 : OCM) (v1 : List ApiStep) (r : ApiIns × OCM) (h : cm_order.b zB zI zK zO zY zb zR zT zE K v0 v1 = some r) :
  ∀ (b0 : Nat) (xd0_0 : Option Addr) (xc0_0 : Nat), OkH prog 132 [.lit (.pointer (some ⟨b0, 0, none⟩)), .row (r_ApiStep_cells v1)] (OCM.items b0 xd0_0 xc0_0 v0) (fun y I => ∃ (zxd0_0 : Option Addr) (zxc0_0 : Nat), y = .agg (ApiIns.cells r.1) ∧ I = OCM.items b0 zxd0_0 zxc0_0 r.2) := by
 intro b0 xd0_0 xc0_0
 refine enterH (xs := [.lit (.pointer (some ⟨b0, 0, none⟩)), .row (r_ApiStep_cells v1)]) func132 rfl ntmps132 rfl ?_
 intro M w0 a hk
 replace hk : S M w0 a w0.toWorld 63 [blk b0 93 ([.lit (.slice xd0_0 (List.length v0.out) xc0_0)]), orow xd0_0 xc0_0 55 1 c_s_ApiIns_cells v0.out] [(0, [], .lit (.pointer (some ⟨b0, 0, none⟩))), (1, [], .row (r_ApiStep_cells v1))] := hk
 unfold cm_order.b at h
 refine wreg fun _ q1 => ?_
 refine l_alloc (zs := (ApiIns.cells (⟨0, [], [], [], (⟨[], [], []⟩ : ApiPred), [], false⟩ : ApiIns))) [] hk rfl rfl rfl rfl ?_; clear hk; intro bx1 a w hk
 refine lend (q1 _ _ ?_)
 refine rg hk fun _ q2=>gM<|gM<|gM<|fun a w hk=>?_
 refine lf hk (f_len (R := r_ApiStep_cells) (f := ApiStep.cells) (l := v1) r_ApiStep_cells_eq underlying22 hk h0 rfl) fun a w hk=>?_
 refine go hk<|gP (p_max · h0 rfl rfl)<|fun a w hk=>?_
 obtain ⟨t1, hr_t1, h⟩ := bnd h
 refine l_callH (I1 := (OCM.items b0 xd0_0 xc0_0 v0)) (I2 := [blk bx1 59 ((ApiIns.cells (⟨0, [], [], [], (⟨[], [], []⟩ : ApiPred), [], false⟩ : ApiIns)))]) (js := [2, 2]) hk rfl rfl rfl rfl rfl func131 rfl (by kernel_rfl) (hzY v0 v1 (if (List.length v1 : Int) < 1 then 1 else (List.length v1 : Int)) _ hr_t1 b0 xd0_0 xc0_0) ?_; clear hk
 rintro _ _ ⟨zd1, zc1, rfl, rfl⟩ a w hk
 refine lf (y := .agg (([.lit (.int .i64 36), .row (r_c_str []), .lit (.slice none 0 0), .row (r_ApiValue_cells [])] : List AV) ++ (ApiPred.cells (⟨[], [], []⟩ : ApiPred)) ++ ([.row (r_c_i64 t1.1), .lit (.bool false)] : List AV))) hk (f_buildN [2] hk h0 rfl rfl rfl) fun a w hk=>?_
 refine l_alloc (zs := (ApiIns.cells (⟨0, [], [], [], (⟨[], [], []⟩ : ApiPred), [], false⟩ : ApiIns))) [] hk rfl rfl rfl rfl ?_; clear hk; intro bx2 a w hk
 refine st0 (cs' := ([.lit (.int .i64 36), .row (r_c_str []), .lit (.slice none 0 0), .row (r_ApiValue_cells [])] : List AV) ++ (ApiPred.cells (⟨[], [], []⟩ : ApiPred)) ++ ([.row (r_c_i64 t1.1), .lit (.bool false)] : List AV)) hk rfl (by kernel_rfl) fun w hk => ?_
 replace hk := hk.nilRow 2 1 c_i64 (fun _ => rfl)
 refine lend (q2 _ _ ?_)
 refine wseq fun _ q3 => ?_
 refine rg hk fun _ q4=>gF 7 underlying59<|gB 1 underlying54<|fun a w hk=>?_
 refine lf hk (f_len (R := r_c_i64) (f := c_i64) (l := t1.1) r_c_i64_eq underlying54 hk h0 rfl) fun a w hk=>?_
 refine go hk<|gM<|ge q4 fun a w hk=>?_
 refine wp_block ?_
 refine wloop (T := Nat × List Int × Int × List (List UInt8) × List ApiValue × ApiPred × List Int × Bool × List (List ApiIns) × List ApiStep × Int × Int × Option Addr × Nat × Option Addr × Nat) (fun x a w => match x with | (kl1, l5, y4_0, y4_1, y4_3, y4_4, y4_5, y4_6, l2, v1, v18, v19, xd5, xc5, xd2, xc2) => S M w0 a w 63 [orow xd5 xc5 2 1 c_i64 l5, blk bx2 59 (([.lit (.int .i64 y4_0), .row (r_c_str y4_1), .lit (.slice xd5 (List.length l5) xc5), .row (r_ApiValue_cells y4_3)] : List AV) ++ (ApiPred.cells y4_4) ++ ([.row (r_c_i64 y4_5), .lit (.bool y4_6)] : List AV)), blk b0 93 ([.lit (.slice xd2 (List.length l2) xc2)]), orow xd2 xc2 55 1 c_s_ApiIns_cells l2, blk bx1 59 ((ApiIns.cells (⟨0, [], [], [], (⟨[], [], []⟩ : ApiPred), [], false⟩ : ApiIns)))] [(1, [], .row (r_ApiStep_cells v1)), (4, [], .lit (.pointer (some ⟨bx1, 0, none⟩))), (5, [], .lit (.pointer (some ⟨bx2, 0, none⟩))), (18, [], .lit (.int .i64 v18)), (19, [], .lit (.int .i64 v19))] ∧ cm_order.l1 zB zI zK zO zY zb zR zT zE K kl1 l5 y4_0 y4_1 y4_3 y4_4 y4_5 y4_6 l2 v1 v18 v19 = some r) (fun x => x.1) (K, ([] : List Int), 36, [], [], (⟨[], [], []⟩ : ApiPred), t1.1, false, t1.2.out, v1, (List.length t1.1 : Int), 0, none, 0, zd1, zc1) ⟨hk.sub ⟨rfl, rfl, rfl, rfl, rfl, trivial⟩, h⟩ ?_
 clear hk h
 rintro ⟨kl1, l5, y4_0, y4_1, y4_3, y4_4, y4_5, y4_6, l2, v1, v18, v19, xd5, xc5, xd2, xc2⟩ a w ⟨hk, h⟩ K' q5
 cases kl1 with
 | zero => simp [cm_order.l1] at h
 | succ kl1 =>
 rw [cm_order.l1.eq_2] at h
 refine rg hk fun _ q6=>gL<|ge q6 fun a w hk=>?_
 refine wseq fun _ q7 => ?_
 refine wc hk h (fun h hb=>?_) fun h hb=>?_
 ·refine wp_skip ?_
  refine q7 _ _ ?_
  refine wseq fun _ q8 => ?_
  refine wp_block ?_
  refine rg hk fun _ q9=>gM<|gA<|ge q9 fun a w hk=>?_
  refine rg hk fun _ q10=>gA<|ge q10 fun a w hk=>?_
  refine wseqJ (fun a w => ∃ (v1 : List ApiStep) (v7 : Int) (v18 : Int) (v19 : Int), S M w0 a w 63 [orow xd5 xc5 2 1 c_i64 l5, blk bx2 59 (([.lit (.int .i64 y4_0), .row (r_c_str y4_1), .lit (.slice xd5 (List.length l5) xc5), .row (r_ApiValue_cells y4_3)] : List AV) ++ (ApiPred.cells y4_4) ++ ([.row (r_c_i64 y4_5), .lit (.bool y4_6)] : List AV)), blk b0 93 ([.lit (.slice xd2 (List.length l2) xc2)]), orow xd2 xc2 55 1 c_s_ApiIns_cells l2, blk bx1 59 ((ApiIns.cells (⟨0, [], [], [], (⟨[], [], []⟩ : ApiPred), [], false⟩ : ApiIns)))] [(1, [], .row (r_ApiStep_cells v1)), (4, [], .lit (.pointer (some ⟨bx1, 0, none⟩))), (5, [], .lit (.pointer (some ⟨bx2, 0, none⟩))), (7, [], .lit (.int .i64 v7)), (18, [], .lit (.int .i64 v18)), (19, [], .lit (.int .i64 v19))] ∧ cm_order.j1 zB zI zK zO zY zb zR zT zE (cm_order.l1 zB zI zK zO zY zb zR zT zE K kl1) K l2 l5 y4_0 y4_1 y4_3 y4_4 y4_5 y4_6 v1 v7 v18 v19 = some r) ?_ ?_
  ·clear hk h
   rintro a w ⟨v1, v7, v18, v19, hk, h⟩
   unfold cm_order.j1 at h
   refine rg1 hk<|gF 2 underlying59<|gB 1 underlying57<|gM<|fun a w hk=>?_
   refine l_buildSlice (f := c_i64) (l := ([v7] : List Int)) hk rfl rfl rfl underlying57 rfl rfl rfl rfl (fun _ => rfl) rfl ?_; clear hk; intro bx3 a w hk
   obtain ⟨hc1, h⟩ := chk h
   refine l_append (l2 := ([v7] : List Int)) (l3 := (l5 ++ ([v7] : List Int))) (I' := fun ad1 cap1 => [orow (some ⟨bx3, 0, none⟩) 1 2 1 c_i64 ([v7] : List Int), orow ad1 cap1 2 1 c_i64 (l5 ++ ([v7] : List Int)), blk bx2 59 (([.lit (.int .i64 y4_0), .row (r_c_str y4_1), .lit (.slice xd5 (List.length l5) xc5), .row (r_ApiValue_cells y4_3)] : List AV) ++ (ApiPred.cells y4_4) ++ ([.row (r_c_i64 y4_5), .lit (.bool y4_6)] : List AV)), blk b0 93 ([.lit (.slice xd2 (List.length l2) xc2)]), orow xd2 xc2 55 1 c_s_ApiIns_cells l2, blk bx1 59 ((ApiIns.cells (⟨0, [], [], [], (⟨[], [], []⟩ : ApiPred), [], false⟩ : ApiIns)))]) (j := 1) hk rfl rfl rfl rfl (own_src hk (j := 0) rfl rfl (fun _ => rfl) underlying57) underlying57 (by kernel_rfl) hc1 rfl (fun _ _ => rfl) ?_; clear hk; intro ad1 cap1 a w hk
   replace hk := S.dropI (I' := [orow ad1 cap1 2 1 c_i64 (l5 ++ ([v7] : List Int)), blk bx2 59 (([.lit (.int .i64 y4_0), .row (r_c_str y4_1), .lit (.slice xd5 (List.length l5) xc5), .row (r_ApiValue_cells y4_3)] : List AV) ++ (ApiPred.cells y4_4) ++ ([.row (r_c_i64 y4_5), .lit (.bool y4_6)] : List AV)), blk b0 93 ([.lit (.slice xd2 (List.length l2) xc2)]), orow xd2 xc2 55 1 c_s_ApiIns_cells l2, blk bx1 59 ((ApiIns.cells (⟨0, [], [], [], (⟨[], [], []⟩ : ApiPred), [], false⟩ : ApiIns)))]) hk 0 rfl
   refine go hk<|gF 2 underlying59<|fun a w hk=>?_
   refine st1 (cs' := ([.lit (.int .i64 y4_0), .row (r_c_str y4_1), .lit (.slice ad1 (List.length (l5 ++ ([v7] : List Int))) cap1), .row (r_ApiValue_cells y4_3)] : List AV) ++ (ApiPred.cells y4_4) ++ ([.row (r_c_i64 y4_5), .lit (.bool y4_6)] : List AV)) hk rfl (by kernel_rfl) fun w hk => ?_
   refine wpList_nil ?_
   refine q8 _ _ ?_
   refine rg1 hk<|gD<|gM<|fun a w hk=>?_
   refine wpList_nil ?_
   exact q5 (kl1, (l5 ++ ([v7] : List Int)), y4_0, y4_1, y4_3, y4_4, y4_5, y4_6, l2, v1, v18, (IntKind.wrap .i64 (v19 + 1)), ad1, cap1, xd2, xc2) _ _ (Nat.lt_succ_self _) ⟨hk.sub ⟨rfl, rfl, rfl, rfl, rfl, trivial⟩, h⟩
  ·intro K' q11
   refine rg hk fun _ q14=>gM<|gM<|fun a w hk=>?_
   refine lf hk (f_len (R := r_ApiStep_cells) (f := ApiStep.cells) (l := v1) r_ApiStep_cells_eq underlying22 hk h0 rfl) fun a w hk=>?_
   refine go hk<|gL<|ge q14 fun a w hk=>wc hk h (fun h hb=>?_) fun h hb=>?_
   ·refine rg hk fun _ q15=>gM<|gM<|fun a w hk=>?_
    obtain ⟨hc2, h⟩ := chk h
    refine lf (y := .ref (ApiStep.cells (List.getD v1 (Int.toNat v19) default))) hk (f_indexAddr (R := r_ApiStep_cells) (f := ApiStep.cells) (l := v1) (sz := 2) r_ApiStep_cells_eq (fun _ => rfl) hk h0 rfl rfl underlying22 (by kernel_rfl) hc2) fun a w hk=>?_
    refine lf hk (f_fieldAddr hk h0 rfl underlying29 rfl (by kernel_rfl) rfl) fun a w hk=>?_
    refine lf hk (f_load1 hk h0 rfl rfl underlying27 rfl) fun a w hk=>?_
    refine go hk<|gA<|ge q15 fun a w hk=>?_
    refine rg hk fun _ q16=>gM<|fun a w hk=>?_
    refine lf hk (f_len (R := r_ApiArg_cells) (f := ApiArg.cells) (l := (List.getD v1 (Int.toNat v19) default).Args) r_ApiArg_cells_eq underlying27 hk h0 rfl) fun a w hk=>?_
    refine go hk<|gP (p_gtr · h0 rfl rfl)<|gM<|gm<|fun a w hk=>?_
    refine go hk<|gm<|fun a w hk=>?_
    refine lg hk rfl rfl rfl (fun hc => f_len (R := r_ApiArg_cells) (f := ApiArg.cells) (l := (List.getD v1 (Int.toNat v19) default).Args) r_ApiArg_cells_eq underlying27 hk hc rfl) fun a w hk=>?_
    refine lg hk rfl rfl rfl (fun hc => (f_pure (p_sub hk.kn hc rfl rfl))) fun a w hk=>?_
    obtain ⟨hc3, h⟩ := chk h
    refine lg (y := .ref (ApiArg.cells (List.getD ((List.getD v1 (Int.toNat v19) default).Args) (Int.toNat (IntKind.wrap .i64 ((List.length ((List.getD v1 (Int.toNat v19) default).Args) : Int) - 1))) default))) hk rfl rfl rfl (fun hc => f_indexAddr (R := r_ApiArg_cells) (f := ApiArg.cells) (l := (List.getD v1 (Int.toNat v19) default).Args) (sz := 11) r_ApiArg_cells_eq (fun _ => rfl) hk hc rfl rfl underlying27 (by kernel_rfl) hc3) fun a w hk=>?_
    refine lg hk rfl rfl rfl (fun hc => f_fieldAddr hk hc rfl underlying38 rfl (by kernel_rfl) rfl) fun a w hk=>?_
    refine lg hk rfl rfl rfl (fun hc => f_load1 hk hc rfl rfl underlying3 rfl) fun a w hk=>?_
    refine lg hk rfl rfl rfl (fun hc => (f_pure (p_eql hk.kn hc rfl rfl))) fun a w hk=>?_
    refine go hk<|gN<|gM<|gm<|fun a w hk=>?_
    refine go hk<|gm<|fun a w hk=>?_
    refine lg hk rfl rfl rfl (fun hc => f_len (R := r_ApiArg_cells) (f := ApiArg.cells) (l := (List.getD v1 (Int.toNat v19) default).Args) r_ApiArg_cells_eq underlying27 hk hc rfl) fun a w hk=>?_
    refine lg hk rfl rfl rfl (fun hc => (f_pure (p_sub hk.kn hc rfl rfl))) fun a w hk=>?_
    obtain ⟨hc4, h⟩ := chk h
    refine lg (y := .ref (ApiArg.cells (List.getD ((List.getD v1 (Int.toNat v19) default).Args) (Int.toNat (IntKind.wrap .i64 ((List.length ((List.getD v1 (Int.toNat v19) default).Args) : Int) - 1))) default))) hk rfl rfl rfl (fun hc => f_indexAddr (R := r_ApiArg_cells) (f := ApiArg.cells) (l := (List.getD v1 (Int.toNat v19) default).Args) (sz := 11) r_ApiArg_cells_eq (fun _ => rfl) hk hc rfl rfl underlying27 (by kernel_rfl) hc4) fun a w hk=>?_
    refine lg hk rfl rfl rfl (fun hc => f_fieldAddr hk hc rfl underlying38 rfl (by kernel_rfl) rfl) fun a w hk=>?_
    refine lg hk rfl rfl rfl (fun hc => f_fieldAddr hk hc rfl underlying33 rfl (by kernel_rfl) rfl) fun a w hk=>?_
    refine lg hk rfl rfl rfl (fun hc => f_load1 hk hc rfl rfl underlying9 rfl) fun a w hk=>?_
    refine lg hk rfl rfl rfl (fun hc => (f_pure (p_seql hk.kn hc rfl rfl))) fun a w hk=>?_
    refine go hk<|gN<|ge q16 fun a w hk=>wc hk h (fun h hb=>?_) fun h hb=>?_
    ·refine rg1 hk<|gA<|fun a w hk=>?_
     refine wpList_nil ?_
     exact q11 _ _ ⟨v1, 1, v18, v19, hk.sub ⟨rfl, rfl, rfl, rfl, rfl, rfl, trivial⟩, h⟩
    refine wp_skip ?_
    exact q11 _ _ ⟨v1, 0, v18, v19, hk.sub ⟨rfl, rfl, rfl, rfl, rfl, rfl, trivial⟩, h⟩
   refine wp_skip ?_
   exact q11 _ _ ⟨v1, 0, v18, v19, hk.sub ⟨rfl, rfl, rfl, rfl, rfl, rfl, trivial⟩, h⟩
 refine wp_exit ?_; (repeat first | refine te ?_ | refine be rfl ?_); refine bx ?_
 refine q3 _ _ ?_
 refine wreg fun _ q18 => ?_
 replace hk := S.freezeBlk (I1 := [blk bx2 59 (([.lit (.int .i64 y4_0), .row (r_c_str y4_1), .lit (.slice xd5 (List.length l5) xc5), .row (r_ApiValue_cells y4_3)] : List AV) ++ (ApiPred.cells y4_4) ++ ([.row (r_c_i64 y4_5), .lit (.bool y4_6)] : List AV)), blk b0 93 ([.lit (.slice xd2 (List.length l2) xc2)]), orow xd2 xc2 55 1 c_s_ApiIns_cells l2, blk bx1 59 ((ApiIns.cells (⟨0, [], [], [], (⟨[], [], []⟩ : ApiPred), [], false⟩ : ApiIns)))]) (cs' := (ApiIns.cells (⟨y4_0, y4_1, l5, y4_3, y4_4, y4_5, y4_6⟩ : ApiIns))) (I' := [blk bx2 59 ((ApiIns.cells (⟨y4_0, y4_1, l5, y4_3, y4_4, y4_5, y4_6⟩ : ApiIns))), blk b0 93 ([.lit (.slice xd2 (List.length l2) xc2)]), orow xd2 xc2 55 1 c_s_ApiIns_cells l2, blk bx1 59 ((ApiIns.cells (⟨0, [], [], [], (⟨[], [], []⟩ : ApiPred), [], false⟩ : ApiIns)))]) r_c_i64_eq hk 0 0 2 rfl rfl rfl rfl rfl rfl
 refine lf hk (f_loadBlk hk h0 (j := 0) rfl rfl underlying59 rfl rfl rfl rfl) fun a w hk=>?_
 refine st3 (cs' := (ApiIns.cells (⟨y4_0, y4_1, l5, y4_3, y4_4, y4_5, y4_6⟩ : ApiIns))) hk rfl (by kernel_rfl) fun w hk => ?_
 refine lend (q18 _ _ ?_)
 refine wp_ret ?_
 obtain rfl := Option.some.inj h
 have hr_0 := rres_keep (I1 := [blk b0 93 ([.lit (.slice xd2 (List.length l2) xc2)]), orow xd2 xc2 55 1 c_s_ApiIns_cells l2]) (I2 := [blk bx2 59 ((ApiIns.cells (⟨y4_0, y4_1, l5, y4_3, y4_4, y4_5, y4_6⟩ : ApiIns))), blk bx1 59 ((ApiIns.cells (⟨y4_0, y4_1, l5, y4_3, y4_4, y4_5, y4_6⟩ : ApiIns)))]) (js := [2, 2]) rfl (rcell (tt := 4) hk rfl (j := 3) rfl underlying59 rfl (by kernel_rfl))
 replace hk := S.keep (I1 := [blk b0 93 ([.lit (.slice xd2 (List.length l2) xc2)]), orow xd2 xc2 55 1 c_s_ApiIns_cells l2]) (I2 := [blk bx2 59 ((ApiIns.cells (⟨y4_0, y4_1, l5, y4_3, y4_4, y4_5, y4_6⟩ : ApiIns))), blk bx1 59 ((ApiIns.cells (⟨y4_0, y4_1, l5, y4_3, y4_4, y4_5, y4_6⟩ : ApiIns)))]) (js := [2, 2]) hk rfl
 exact fretH1 hk rfl hr_0 ⟨xd2, xc2, rfl, rfl⟩
end Go.Proofs.Ytbjbgodcenopnaa
namespace Go.Proofs.Ytbjbgodcenopnaa
open FW _root_.Go.Proofs.Try
set_option linter.unusedVariables false
set_option maxRecDepth 20000
set_option maxHeartbeats 10000000
theorem cm_repeat.bok (zB : OCM → List ApiStep → Option (Int × OCM)) (zI : OCM → ApiStep → List ApiStep → Option (ApiIns × OCM)) (zK : OCM → List ApiArg → Option (List Int × OCM)) (zO : OCM → ApiStep → List ApiStep → Option (ApiIns × OCM)) (zY : OCM → List ApiStep → Int → Option (List Int × OCM)) (zb : OCM → ApiStep → Option (Int × OCM)) (zR : OCM → List ApiStep → Option (ApiIns × OCM)) (zT : OCM → ApiStep → List ApiStep → Option (ApiIns × OCM)) (zE : OCM → ApiStep → List ApiStep → Option (ApiIns × OCM)) (hzB : ZzB zB) (hzI : ZzI zI) (hzK : ZzK zK) (hzO : ZzO zO) (hzY : ZzY zY) (hzb : Zzb zb) (hzR : ZzR zR) (hzT : ZzT zT) (hzE : ZzE zE) (K : Nat) (v0 : OCM) (v1 : ApiStep) (v2 : List ApiStep) (r : ApiIns × OCM) (h : cm_repeat.b zB zI zK zO zY zb zR zT zE K v0 v1 v2 = some r) :
  ∀ (b0 : Nat) (xd0_0 : Option Addr) (xc0_0 : Nat), OkH prog 133 [.lit (.pointer (some ⟨b0, 0, none⟩)), .agg (ApiStep.cells v1), .row (r_ApiStep_cells v2)] (OCM.items b0 xd0_0 xc0_0 v0) (fun y I => ∃ (zxd0_0 : Option Addr) (zxc0_0 : Nat), y = .agg (ApiIns.cells r.1) ∧ I = OCM.items b0 zxd0_0 zxc0_0 r.2) := by
 intro b0 xd0_0 xc0_0
 refine enterH (xs := [.lit (.pointer (some ⟨b0, 0, none⟩)), .agg (ApiStep.cells v1), .row (r_ApiStep_cells v2)]) func133 rfl ntmps133 rfl ?_
 intro M w0 a hk
 replace hk : S M w0 a w0.toWorld 54 [blk b0 93 ([.lit (.slice xd0_0 (List.length v0.out) xc0_0)]), orow xd0_0 xc0_0 55 1 c_s_ApiIns_cells v0.out] [(0, [], .lit (.pointer (some ⟨b0, 0, none⟩))), (1, [], .agg ((ApiStep.cells v1))), (2, [], .row (r_ApiStep_cells v2))] := hk
 unfold cm_repeat.b at h
 refine wreg fun _ q1 => ?_
 refine l_box (cs := (ApiStep.cells v1)) hk rfl rfl rfl rfl rfl ?_; clear hk; intro bx1 a w hk
 refine l_alloc (zs := (ApiIns.cells (⟨0, [], [], [], (⟨[], [], []⟩ : ApiPred), [], false⟩ : ApiIns))) [] hk rfl rfl rfl rfl ?_; clear hk; intro bx2 a w hk
 refine lend (q1 _ _ ?_)
 refine wreg fun _ q2 => ?_
 refine l_buildSlice (f := c_i64) (l := ([(-1)] : List Int)) hk rfl rfl rfl underlying57 rfl rfl rfl rfl (fun _ => rfl) rfl ?_; clear hk; intro bx3 a w hk
 refine go hk<|gM<|gF 1 underlying29<|gB 2 underlying27<|fun a w hk=>?_
 obtain ⟨hc1, h⟩ := chk h
 refine lf (y := .ref (ApiArg.cells (List.getD v1.Args (Int.toNat 0) default))) hk (f_indexAddr (R := r_ApiArg_cells) (f := ApiArg.cells) (l := v1.Args) (sz := 11) r_ApiArg_cells_eq (fun _ => rfl) hk h0 rfl rfl underlying27 (by kernel_rfl) hc1) fun a w hk=>?_
 refine lf hk (f_fieldAddr hk h0 rfl underlying38 rfl (by kernel_rfl) rfl) fun a w hk=>?_
 refine lf hk (f_load1 hk h0 rfl rfl underlying22 rfl) fun a w hk=>?_
 obtain ⟨t1, hr_t1, h⟩ := bnd h
 refine l_callH (I1 := (OCM.items b0 xd0_0 xc0_0 v0)) (I2 := [orow (some ⟨bx3, 0, none⟩) 1 2 1 c_i64 ([(-1)] : List Int), blk bx2 59 ((ApiIns.cells (⟨0, [], [], [], (⟨[], [], []⟩ : ApiPred), [], false⟩ : ApiIns))), blk bx1 29 ((ApiStep.cells v1))]) (js := [4, 4]) hk rfl rfl rfl rfl rfl func48 rfl (by kernel_rfl) (hzB v0 ((List.getD v1.Args (Int.toNat 0) default).T) _ hr_t1 b0 xd0_0 xc0_0) ?_; clear hk
 rintro _ _ ⟨zd1, zc1, rfl, rfl⟩ a w hk
 refine l_buildSlice (f := c_i64) (l := ([t1.1, (-1)] : List Int)) hk rfl rfl rfl underlying54 rfl rfl rfl rfl (fun _ => rfl) rfl ?_; clear hk; intro bx4 a w hk
 refine lf (y := .agg (([.lit (.int .i64 42), .row (r_c_str []), .lit (.slice (some ⟨bx3, 0, none⟩) (List.length ([(-1)] : List Int)) 1), .row (r_ApiValue_cells [])] : List AV) ++ (ApiPred.cells (⟨[], [], []⟩ : ApiPred)) ++ ([.lit (.slice (some ⟨bx4, 0, none⟩) (List.length ([t1.1, (-1)] : List Int)) 2), .lit (.bool false)] : List AV))) hk (f_buildN [] hk h0 rfl rfl rfl) fun a w hk=>?_
 refine l_alloc (zs := (ApiIns.cells (⟨0, [], [], [], (⟨[], [], []⟩ : ApiPred), [], false⟩ : ApiIns))) [] hk rfl rfl rfl rfl ?_; clear hk; intro bx5 a w hk
 refine st0 (cs' := ([.lit (.int .i64 42), .row (r_c_str []), .lit (.slice (some ⟨bx3, 0, none⟩) (List.length ([(-1)] : List Int)) 1), .row (r_ApiValue_cells [])] : List AV) ++ (ApiPred.cells (⟨[], [], []⟩ : ApiPred)) ++ ([.lit (.slice (some ⟨bx4, 0, none⟩) (List.length ([t1.1, (-1)] : List Int)) 2), .lit (.bool false)] : List AV)) hk rfl (by kernel_rfl) fun w hk => ?_
 refine lend (q2 _ _ ?_)
 refine wseq fun _ q3 => ?_
 refine rg hk fun _ q4=>gM<|fun a w hk=>?_
 refine lf hk (f_len (R := r_ApiStep_cells) (f := ApiStep.cells) (l := v2) r_ApiStep_cells_eq underlying22 hk h0 rfl) fun a w hk=>?_
 refine go hk<|gM<|ge q4 fun a w hk=>?_
 refine wp_block ?_
 refine wloop (T := Nat × Int × List (List UInt8) × List ApiValue × ApiPred × Bool × List Int × List (List ApiIns) × List Int × List ApiStep × Int × Int × Option Addr × Nat × Option Addr × Nat × Option Addr × Nat) (fun x a w => match x with | (kl1, y7_0, y7_1, y7_3, y7_4, y7_6, l6, l2, l5, v20, v21, v22, xd6, xc6, xd2, xc2, xd5, xc5) => S M w0 a w 54 [blk bx5 59 (([.lit (.int .i64 y7_0), .row (r_c_str y7_1), .lit (.slice xd5 (List.length l5) xc5), .row (r_ApiValue_cells y7_3)] : List AV) ++ (ApiPred.cells y7_4) ++ ([.lit (.slice xd6 (List.length l6) xc6), .lit (.bool y7_6)] : List AV)), orow xd6 xc6 3 1 c_i64 l6, blk b0 93 ([.lit (.slice xd2 (List.length l2) xc2)]), orow xd2 xc2 55 1 c_s_ApiIns_cells l2, orow xd5 xc5 2 1 c_i64 l5, blk bx2 59 ((ApiIns.cells (⟨0, [], [], [], (⟨[], [], []⟩ : ApiPred), [], false⟩ : ApiIns)))] [(0, [], .lit (.pointer (some ⟨b0, 0, none⟩))), (6, [], .lit (.pointer (some ⟨bx2, 0, none⟩))), (7, [], .lit (.pointer (some ⟨bx5, 0, none⟩))), (20, [], .row (r_ApiStep_cells v20)), (21, [], .lit (.int .i64 v21)), (22, [], .lit (.int .i64 v22))] ∧ cm_repeat.l1 zB zI zK zO zY zb zR zT zE K kl1 y7_0 y7_1 y7_3 y7_4 y7_6 l6 l2 l5 v20 v21 v22 = some r) (fun x => x.1) (K, 42, [], [], (⟨[], [], []⟩ : ApiPred), false, ([t1.1, (-1)] : List Int), t1.2.out, ([(-1)] : List Int), v2, (List.length v2 : Int), 0, (some ⟨bx4, 0, none⟩), 2, zd1, zc1, (some ⟨bx3, 0, none⟩), 1) ⟨(hk.drop 6).sub ⟨rfl, rfl, rfl, rfl, rfl, rfl, trivial⟩, h⟩ ?_
 clear hk h
 rintro ⟨kl1, y7_0, y7_1, y7_3, y7_4, y7_6, l6, l2, l5, v20, v21, v22, xd6, xc6, xd2, xc2, xd5, xc5⟩ a w ⟨hk, h⟩ K' q5
 cases kl1 with
 | zero => simp [cm_repeat.l1] at h
 | succ kl1 =>
 rw [cm_repeat.l1.eq_2] at h
 refine rg hk fun _ q6=>gL<|ge q6 fun a w hk=>?_
 refine wseq fun _ q7 => ?_
 refine wc hk h (fun h hb=>?_) fun h hb=>?_
 ·refine wp_skip ?_
  refine q7 _ _ ?_
  refine wseqJ (fun a w => ∃ (y7_0 : Int) (y7_1 : List (List UInt8)) (y7_3 : List ApiValue) (y7_4 : ApiPred) (y7_6 : Bool) (l6 : List Int) (l2 : List (List ApiIns)) (l5 : List Int) (v20 : List ApiStep) (v21 : Int) (v22 : Int) (xd6 : Option Addr) (xc6 : Nat) (xd2 : Option Addr) (xc2 : Nat) (xd5 : Option Addr) (xc5 : Nat), S M w0 a w 54 [blk bx5 59 (([.lit (.int .i64 y7_0), .row (r_c_str y7_1), .lit (.slice xd5 (List.length l5) xc5), .row (r_ApiValue_cells y7_3)] : List AV) ++ (ApiPred.cells y7_4) ++ ([.lit (.slice xd6 (List.length l6) xc6), .lit (.bool y7_6)] : List AV)), orow xd6 xc6 3 1 c_i64 l6, blk b0 93 ([.lit (.slice xd2 (List.length l2) xc2)]), orow xd2 xc2 55 1 c_s_ApiIns_cells l2, orow xd5 xc5 2 1 c_i64 l5, blk bx2 59 ((ApiIns.cells (⟨0, [], [], [], (⟨[], [], []⟩ : ApiPred), [], false⟩ : ApiIns)))] [(0, [], .lit (.pointer (some ⟨b0, 0, none⟩))), (6, [], .lit (.pointer (some ⟨bx2, 0, none⟩))), (7, [], .lit (.pointer (some ⟨bx5, 0, none⟩))), (20, [], .row (r_ApiStep_cells v20)), (21, [], .lit (.int .i64 v21)), (22, [], .lit (.int .i64 v22))] ∧ cm_repeat.j1 zB zI zK zO zY zb zR zT zE (cm_repeat.l1 zB zI zK zO zY zb zR zT zE K kl1) K y7_0 y7_1 y7_3 y7_4 y7_6 l6 l2 l5 v20 v21 v22 = some r) ?_ ?_
  ·clear hk h
   rintro a w ⟨y7_0, y7_1, y7_3, y7_4, y7_6, l6, l2, l5, v20, v21, v22, xd6, xc6, xd2, xc2, xd5, xc5, hk, h⟩
   unfold cm_repeat.j1 at h
   refine rg1 hk<|gD<|gM<|fun a w hk=>?_
   refine wpList_nil ?_
   exact q5 (kl1, y7_0, y7_1, y7_3, y7_4, y7_6, l6, l2, l5, v20, v21, (IntKind.wrap .i64 (v22 + 1)), xd6, xc6, xd2, xc2, xd5, xc5) _ _ (Nat.lt_succ_self _) ⟨hk.sub ⟨rfl, rfl, rfl, rfl, rfl, rfl, trivial⟩, h⟩
  ·intro K' q8
   refine wp_block ?_
   refine wreg fun _ q10 => ?_
   obtain ⟨hc2, h⟩ := chk h
   refine lf (y := .ref (ApiStep.cells (List.getD v20 (Int.toNat v22) default))) hk (f_indexAddr (R := r_ApiStep_cells) (f := ApiStep.cells) (l := v20) (sz := 2) r_ApiStep_cells_eq (fun _ => rfl) hk h0 rfl rfl underlying22 (by kernel_rfl) hc2) fun a w hk=>?_
   refine lf hk (f_load hk h0 rfl underlying29 rfl rfl rfl rfl) fun a w hk=>?_
   refine l_alloc (zs := (ApiStep.cells (⟨[], []⟩ : ApiStep))) [] hk rfl rfl rfl rfl ?_; clear hk; intro bx6 a w hk
   refine st0 (cs' := (ApiStep.cells (List.getD v20 (Int.toNat v22) default))) hk rfl (by kernel_rfl) fun w hk => ?_
   refine lend (q10 _ _ ?_)
   refine rg hk fun _ q11=>gF 0 underlying29<|gB 0 underlying9<|ge q11 fun a w hk=>?_
   refine wp_block ?_
   refine rg hk fun _ q12=>gS<|gA<|ge q12 fun a w hk=>wc hk h (fun h hb=>?_) fun h hb=>?_
   ·obtain ⟨hc3, h⟩ := chk h
    obtain ⟨hc4, h⟩ := chk h
    refine wdrawE1 (.next [true, true, true, true, true, true, true, true, true, false] 9 [true, true, true, true, true, true, true, true, true, false] (.leaf [false, false, false, false, false, false, false, false, false, false])) [(31, [], .lit (.pointer (some ⟨bx5, 2, none⟩))), (32, [], .lit (.slice xd5 (List.length l5) xc5)), (33, [], .lit (.pointer (some ⟨bx6, 1, none⟩))), (34, [], .row (r_ApiArg_cells ((List.getD v20 (Int.toNat v22) default).Args))), (35, [], .ref (ApiArg.cells (List.getD ((List.getD v20 (Int.toNat v22) default).Args) (Int.toNat 0) default))), (36, [], .ref (List.drop 1 (ApiArg.cells (List.getD ((List.getD v20 (Int.toNat v22) default).Args) (Int.toNat 0) default)))), (37, [], .ref (List.drop 2 (List.drop 1 (ApiArg.cells (List.getD ((List.getD v20 (Int.toNat v22) default).Args) (Int.toNat 0) default))))), (38, [], .lit (.int .i64 (((List.getD ((List.getD v20 (Int.toNat v22) default).Args) (Int.toNat 0) default).V).N))), (39, [], elA xd5 1 0), (54, [], .lit undef)] (by kernel_rfl) (by kernel_rfl) (by kernel_rfl) (by kernel_rfl) hk ?_; clear hk
    refine gnext0 ?_ rfl rfl rfl ?_
    ·refine gfun (y := .lit (.pointer (some ⟨bx5, 2, none⟩))) rfl rfl rfl rfl (fun a w hk => f_fieldPtr hk h0 rfl underlying59 rfl (by kernel_rfl) rfl) ?_
     refine gfun (y := .lit (.slice xd5 (List.length l5) xc5)) rfl rfl rfl rfl (fun a w hk => f_loadBlk1 hk h0 (j := 1) rfl rfl underlying57 rfl rfl) ?_
     refine gfun (y := .lit (.pointer (some ⟨bx6, 1, none⟩))) rfl rfl rfl rfl (fun a w hk => f_fieldPtr hk h0 rfl underlying29 rfl (by kernel_rfl) rfl) ?_
     refine gfun (y := .row (r_ApiArg_cells ((List.getD v20 (Int.toNat v22) default).Args))) rfl rfl rfl rfl (fun a w hk => f_loadBlk1 hk h0 (j := 0) rfl rfl underlying27 rfl rfl) ?_
     refine gfun (y := .ref (ApiArg.cells (List.getD ((List.getD v20 (Int.toNat v22) default).Args) (Int.toNat 0) default))) rfl rfl rfl rfl (fun a w hk => f_indexAddr (R := r_ApiArg_cells) (f := ApiArg.cells) (l := (List.getD v20 (Int.toNat v22) default).Args) (sz := 11) r_ApiArg_cells_eq (fun _ => rfl) hk h0 rfl rfl underlying27 (by kernel_rfl) hc3) ?_
     refine gfun (y := .ref (List.drop 1 (ApiArg.cells (List.getD ((List.getD v20 (Int.toNat v22) default).Args) (Int.toNat 0) default)))) rfl rfl rfl rfl (fun a w hk => f_fieldAddr hk h0 rfl underlying38 rfl (by kernel_rfl) rfl) ?_
     refine gfun (y := .ref (List.drop 2 (List.drop 1 (ApiArg.cells (List.getD ((List.getD v20 (Int.toNat v22) default).Args) (Int.toNat 0) default))))) rfl rfl rfl rfl (fun a w hk => f_fieldAddr hk h0 rfl underlying33 rfl (by kernel_rfl) rfl) ?_
     refine gfun (y := .lit (.int .i64 (((List.getD ((List.getD v20 (Int.toNat v22) default).Args) (Int.toNat 0) default).V).N))) rfl rfl rfl rfl (fun a w hk => f_load1 hk h0 rfl rfl underlying2 rfl) ?_
     refine gfun (y := elA xd5 1 0) rfl rfl rfl rfl (fun a w hk => f_idxOwn (f := c_i64) (l := l5) hk h0 (j := 5) rfl rfl (by first | rfl | simp only [List.length_set]) rfl underlying57 (by kernel_rfl) hc4) ?_
     refine gskip0 rfl ?_
     exact gend
    ·intro σD a w opsD QD hk hQ hX
     refine l_storeOwn1 (f := c_i64) (l := l5) (v := ((List.getD ((List.getD v20 (Int.toNat v22) default).Args) (Int.toNat 0) default).V).N) (I' := [blk bx6 29 ((ApiStep.cells (List.getD v20 (Int.toNat v22) default))), blk bx5 59 (([.lit (.int .i64 y7_0), .row (r_c_str y7_1), .lit (.slice xd5 (List.length l5) xc5), .row (r_ApiValue_cells y7_3)] : List AV) ++ (ApiPred.cells y7_4) ++ ([.lit (.slice xd6 (List.length l6) xc6), .lit (.bool y7_6)] : List AV)), orow xd6 xc6 3 1 c_i64 l6, blk b0 93 ([.lit (.slice xd2 (List.length l2) xc2)]), orow xd2 xc2 55 1 c_s_ApiIns_cells l2, orow xd5 xc5 2 1 c_i64 (List.set l5 (Int.toNat 0) (((List.getD ((List.getD v20 (Int.toNat v22) default).Args) (Int.toNat 0) default).V).N)), blk bx2 59 ((ApiIns.cells (⟨0, [], [], [], (⟨[], [], []⟩ : ApiPred), [], false⟩ : ApiIns)))]) (j := 5) hk rfl rfl hc4 rfl rfl rfl rfl (by kernel_rfl) rfl fun w hk => ?_
     refine hQ _ a w ?_ hk; clear hk hQ hX
     refine ⟨[(31, [], .lit (.pointer (some ⟨bx5, 2, none⟩))), (32, [], .lit (.slice xd5 (List.length l5) xc5)), (33, [], .lit (.pointer (some ⟨bx6, 1, none⟩))), (34, [], .row (r_ApiArg_cells ((List.getD v20 (Int.toNat v22) default).Args))), (35, [], .ref (ApiArg.cells (List.getD ((List.getD v20 (Int.toNat v22) default).Args) (Int.toNat 0) default))), (36, [], .ref (List.drop 1 (ApiArg.cells (List.getD ((List.getD v20 (Int.toNat v22) default).Args) (Int.toNat 0) default)))), (37, [], .ref (List.drop 2 (List.drop 1 (ApiArg.cells (List.getD ((List.getD v20 (Int.toNat v22) default).Args) (Int.toNat 0) default))))), (38, [], .lit (.int .i64 (((List.getD ((List.getD v20 (Int.toNat v22) default).Args) (Int.toNat 0) default).V).N))), (39, [], elA xd5 1 0), (54, [], .lit undef)], And.intro rfl (And.intro rfl (And.intro rfl (And.intro rfl (And.intro rfl (And.intro rfl (And.intro rfl (And.intro rfl (And.intro rfl (trivial))))))))), rfl, ?_⟩
     refine glast ?_ ?_
     ·refine gskip rfl rfl ?_
      refine gskip rfl rfl ?_
      refine gskip rfl rfl ?_
      refine gskip rfl rfl ?_
      refine gskip rfl rfl ?_
      refine gskip rfl rfl ?_
      refine gskip rfl rfl ?_
      refine gskip rfl rfl ?_
      refine gskip rfl rfl ?_
      refine gskip0 rfl ?_
      exact gend
     ·intro a w hk; simp only [stD, cond_true] at hk
      replace hk := S.cast (I' := [blk bx6 29 ((ApiStep.cells (List.getD v20 (Int.toNat v22) default))), blk bx5 59 (([.lit (.int .i64 y7_0), .row (r_c_str y7_1), .lit (.slice xd5 (List.length (List.set l5 (Int.toNat 0) (((List.getD ((List.getD v20 (Int.toNat v22) default).Args) (Int.toNat 0) default).V).N))) xc5), .row (r_ApiValue_cells y7_3)] : List AV) ++ (ApiPred.cells y7_4) ++ ([.lit (.slice xd6 (List.length l6) xc6), .lit (.bool y7_6)] : List AV)), orow xd6 xc6 3 1 c_i64 l6, blk b0 93 ([.lit (.slice xd2 (List.length l2) xc2)]), orow xd2 xc2 55 1 c_s_ApiIns_cells l2, orow xd5 xc5 2 1 c_i64 (List.set l5 (Int.toNat 0) (((List.getD ((List.getD v20 (Int.toNat v22) default).Args) (Int.toNat 0) default).V).N)), blk bx2 59 ((ApiIns.cells (⟨0, [], [], [], (⟨[], [], []⟩ : ApiPred), [], false⟩ : ApiIns)))]) hk (by first | rfl | simp only [List.length_set]) rfl
      exact q8 _ _ ⟨y7_0, y7_1, y7_3, y7_4, y7_6, l6, l2, (List.set l5 (Int.toNat 0) (((List.getD ((List.getD v20 (Int.toNat v22) default).Args) (Int.toNat 0) default).V).N)), v20, v21, v22, xd6, xc6, xd2, xc2, xd5, xc5, (hk.drop 0).sub ⟨rfl, rfl, rfl, rfl, rfl, rfl, trivial⟩, h⟩
   refine rg hk fun _ q14=>gS<|gA<|ge q14 fun a w hk=>wc hk h (fun h hb=>?_) fun h hb=>?_
   ·obtain ⟨hc5, h⟩ := chk h
    obtain ⟨t2, hr_t2, h⟩ := bnd h
    obtain ⟨hc6, h⟩ := chk h
    refine wdrawE1 (.next [true, true, true, true, true, true, true, true, false, false, false] 8 [true, true, true, true, true, true, true, true, false, false, false] (.next [true, true, false, false, false, false, false, false, false, true, false] 10 [true, true, true, true, true, true, true, true, true, true, false] (.leaf [false, false, false, false, false, false, false, false, false, false, false]))) [(42, [], .lit (.pointer (some ⟨bx5, 7, none⟩))), (43, [], .lit (.slice xd6 (List.length l6) xc6)), (44, [], .lit (.pointer (some ⟨b0, 0, none⟩))), (45, [], .lit (.pointer (some ⟨bx6, 1, none⟩))), (46, [], .row (r_ApiArg_cells ((List.getD v20 (Int.toNat v22) default).Args))), (47, [], .ref (ApiArg.cells (List.getD ((List.getD v20 (Int.toNat v22) default).Args) (Int.toNat 0) default))), (48, [], .ref (List.drop 10 (ApiArg.cells (List.getD ((List.getD v20 (Int.toNat v22) default).Args) (Int.toNat 0) default)))), (49, [], .row (r_ApiStep_cells ((List.getD ((List.getD v20 (Int.toNat v22) default).Args) (Int.toNat 0) default).T))), (50, [], .agg []), (51, [], .agg []), (54, [], .lit undef)] (by kernel_rfl) (by kernel_rfl) (by kernel_rfl) (by kernel_rfl) hk ?_; clear hk
    refine gnext ?_ rfl rfl rfl rfl rfl ?_
    ·refine gfun (y := .lit (.pointer (some ⟨bx5, 7, none⟩))) rfl rfl rfl rfl (fun a w hk => f_fieldPtr hk h0 rfl underlying59 rfl (by kernel_rfl) rfl) ?_
     refine gfun (y := .lit (.slice xd6 (List.length l6) xc6)) rfl rfl rfl rfl (fun a w hk => f_loadBlk1 hk h0 (j := 1) rfl rfl underlying54 rfl rfl) ?_
     refine gfun (y := .lit (.pointer (some ⟨b0, 0, none⟩))) rfl rfl rfl rfl (fun a w hk => f_move hk h0 rfl) ?_
     refine gfun (y := .lit (.pointer (some ⟨bx6, 1, none⟩))) rfl rfl rfl rfl (fun a w hk => f_fieldPtr hk h0 rfl underlying29 rfl (by kernel_rfl) rfl) ?_
     refine gfun (y := .row (r_ApiArg_cells ((List.getD v20 (Int.toNat v22) default).Args))) rfl rfl rfl rfl (fun a w hk => f_loadBlk1 hk h0 (j := 0) rfl rfl underlying27 rfl rfl) ?_
     refine gfun (y := .ref (ApiArg.cells (List.getD ((List.getD v20 (Int.toNat v22) default).Args) (Int.toNat 0) default))) rfl rfl rfl rfl (fun a w hk => f_indexAddr (R := r_ApiArg_cells) (f := ApiArg.cells) (l := (List.getD v20 (Int.toNat v22) default).Args) (sz := 11) r_ApiArg_cells_eq (fun _ => rfl) hk h0 rfl rfl underlying27 (by kernel_rfl) hc5) ?_
     refine gfun (y := .ref (List.drop 10 (ApiArg.cells (List.getD ((List.getD v20 (Int.toNat v22) default).Args) (Int.toNat 0) default)))) rfl rfl rfl rfl (fun a w hk => f_fieldAddr hk h0 rfl underlying38 rfl (by kernel_rfl) rfl) ?_
     refine gfun (y := .row (r_ApiStep_cells ((List.getD ((List.getD v20 (Int.toNat v22) default).Args) (Int.toNat 0) default).T))) rfl rfl rfl rfl (fun a w hk => f_load1 hk h0 rfl rfl underlying22 rfl) ?_
     refine gskip rfl rfl ?_
     refine gskip rfl rfl ?_
     refine gskip0 rfl ?_
     exact gend
    ·intro σD a w opsD QD hk hf hQ hX
     refine l_callH (I1 := (OCM.items b0 xd2 xc2 (⟨l2⟩ : OCM))) (I2 := [blk bx6 29 ((ApiStep.cells (List.getD v20 (Int.toNat v22) default))), blk bx5 59 (([.lit (.int .i64 y7_0), .row (r_c_str y7_1), .lit (.slice xd5 (List.length l5) xc5), .row (r_ApiValue_cells y7_3)] : List AV) ++ (ApiPred.cells y7_4) ++ ([.lit (.slice xd6 (List.length l6) xc6), .lit (.bool y7_6)] : List AV)), orow xd6 xc6 3 1 c_i64 l6, orow xd5 xc5 2 1 c_i64 l5, blk bx2 59 ((ApiIns.cells (⟨0, [], [], [], (⟨[], [], []⟩ : ApiPred), [], false⟩ : ApiIns)))]) (js := [4, 4]) hk rfl rfl hf rfl rfl func48 rfl (by kernel_rfl) (hzB (⟨l2⟩ : OCM) ((List.getD ((List.getD v20 (Int.toNat v22) default).Args) (Int.toNat 0) default).T) _ hr_t2 b0 xd2 xc2) ?_; clear hk
     rintro _ _ ⟨zd2, zc2, rfl, rfl⟩ a w hk
     refine hQ _ _ a w ?_ hk; clear hk hQ hf hX
     refine ⟨[(42, [], .lit (.pointer (some ⟨bx5, 7, none⟩))), (43, [], .lit (.slice xd6 (List.length l6) xc6)), (44, [], .lit (.pointer (some ⟨b0, 0, none⟩))), (45, [], .lit (.pointer (some ⟨bx6, 1, none⟩))), (46, [], .row (r_ApiArg_cells ((List.getD v20 (Int.toNat v22) default).Args))), (47, [], .ref (ApiArg.cells (List.getD ((List.getD v20 (Int.toNat v22) default).Args) (Int.toNat 0) default))), (48, [], .ref (List.drop 10 (ApiArg.cells (List.getD ((List.getD v20 (Int.toNat v22) default).Args) (Int.toNat 0) default)))), (49, [], .row (r_ApiStep_cells ((List.getD ((List.getD v20 (Int.toNat v22) default).Args) (Int.toNat 0) default).T))), (50, [], .lit (.int .i64 t2.1)), (51, [], elA xd6 1 1), (54, [], .lit undef)], And.intro rfl (And.intro rfl (And.intro rfl (And.intro rfl (And.intro rfl (And.intro rfl (And.intro rfl (And.intro rfl (trivial)))))))), rfl, ?_⟩
     refine gnext0 ?_ rfl rfl rfl ?_
     ·refine gfun (y := .lit (.pointer (some ⟨bx5, 7, none⟩))) rfl rfl rfl rfl (fun a w hk => f_fieldPtr hk h0 rfl underlying59 rfl (by kernel_rfl) rfl) ?_
      refine gfun (y := .lit (.slice xd6 (List.length l6) xc6)) rfl rfl rfl rfl (fun a w hk => f_loadBlk1 hk h0 (j := 3) rfl rfl underlying54 rfl rfl) ?_
      refine gskip rfl rfl ?_
      refine gskip rfl rfl ?_
      refine gskip rfl rfl ?_
      refine gskip rfl rfl ?_
      refine gskip rfl rfl ?_
      refine gskip rfl rfl ?_
      refine gskip rfl rfl ?_
      refine gfun (y := elA xd6 1 1) rfl rfl rfl rfl (fun a w hk => f_idxOwn (f := c_i64) (l := l6) hk h0 (j := 4) rfl rfl (by first | rfl | simp only [List.length_set]) rfl underlying54 (by kernel_rfl) hc6) ?_
      refine gskip0 rfl ?_
      exact gend
     ·intro σD a w opsD QD hk hQ hX
      refine l_storeOwn1 (f := c_i64) (l := l6) (v := t2.1) (I' := [blk b0 93 ([.lit (.slice zd2 (List.length t2.2.out) zc2)]), orow zd2 zc2 55 1 c_s_ApiIns_cells t2.2.out, blk bx6 29 ((ApiStep.cells (List.getD v20 (Int.toNat v22) default))), blk bx5 59 (([.lit (.int .i64 y7_0), .row (r_c_str y7_1), .lit (.slice xd5 (List.length l5) xc5), .row (r_ApiValue_cells y7_3)] : List AV) ++ (ApiPred.cells y7_4) ++ ([.lit (.slice xd6 (List.length l6) xc6), .lit (.bool y7_6)] : List AV)), orow xd6 xc6 3 1 c_i64 (List.set l6 (Int.toNat 1) t2.1), orow xd5 xc5 2 1 c_i64 l5, blk bx2 59 ((ApiIns.cells (⟨0, [], [], [], (⟨[], [], []⟩ : ApiPred), [], false⟩ : ApiIns)))]) (j := 4) hk rfl rfl hc6 rfl rfl rfl rfl (by kernel_rfl) rfl fun w hk => ?_
      refine hQ _ a w ?_ hk; clear hk hQ hX
      refine ⟨[(42, [], .lit (.pointer (some ⟨bx5, 7, none⟩))), (43, [], .lit (.slice xd6 (List.length l6) xc6)), (44, [], .lit (.pointer (some ⟨b0, 0, none⟩))), (45, [], .lit (.pointer (some ⟨bx6, 1, none⟩))), (46, [], .row (r_ApiArg_cells ((List.getD v20 (Int.toNat v22) default).Args))), (47, [], .ref (ApiArg.cells (List.getD ((List.getD v20 (Int.toNat v22) default).Args) (Int.toNat 0) default))), (48, [], .ref (List.drop 10 (ApiArg.cells (List.getD ((List.getD v20 (Int.toNat v22) default).Args) (Int.toNat 0) default)))), (49, [], .row (r_ApiStep_cells ((List.getD ((List.getD v20 (Int.toNat v22) default).Args) (Int.toNat 0) default).T))), (50, [], .lit (.int .i64 t2.1)), (51, [], elA xd6 1 1), (54, [], .lit undef)], And.intro rfl (And.intro rfl (And.intro rfl (And.intro rfl (And.intro rfl (And.intro rfl (And.intro rfl (And.intro rfl (And.intro rfl (And.intro rfl (trivial)))))))))), rfl, ?_⟩
      refine glast ?_ ?_
      ·refine gskip rfl rfl ?_
       refine gskip rfl rfl ?_
       refine gskip rfl rfl ?_
       refine gskip rfl rfl ?_
       refine gskip rfl rfl ?_
       refine gskip rfl rfl ?_
       refine gskip rfl rfl ?_
       refine gskip rfl rfl ?_
       refine gskip rfl rfl ?_
       refine gskip rfl rfl ?_
       refine gskip0 rfl ?_
       exact gend
      ·intro a w hk; simp only [stD, cond_true] at hk
       replace hk := S.cast (I' := [blk b0 93 ([.lit (.slice zd2 (List.length t2.2.out) zc2)]), orow zd2 zc2 55 1 c_s_ApiIns_cells t2.2.out, blk bx6 29 ((ApiStep.cells (List.getD v20 (Int.toNat v22) default))), blk bx5 59 (([.lit (.int .i64 y7_0), .row (r_c_str y7_1), .lit (.slice xd5 (List.length l5) xc5), .row (r_ApiValue_cells y7_3)] : List AV) ++ (ApiPred.cells y7_4) ++ ([.lit (.slice xd6 (List.length (List.set l6 (Int.toNat 1) t2.1)) xc6), .lit (.bool y7_6)] : List AV)), orow xd6 xc6 3 1 c_i64 (List.set l6 (Int.toNat 1) t2.1), orow xd5 xc5 2 1 c_i64 l5, blk bx2 59 ((ApiIns.cells (⟨0, [], [], [], (⟨[], [], []⟩ : ApiPred), [], false⟩ : ApiIns)))]) hk (by first | rfl | simp only [List.length_set]) rfl
       exact q8 _ _ ⟨y7_0, y7_1, y7_3, y7_4, y7_6, (List.set l6 (Int.toNat 1) t2.1), t2.2.out, l5, v20, v21, v22, xd6, xc6, zd2, zc2, xd5, xc5, (S.pick (hk.drop 2) (js := [5, 5, 3, 3, 5, 5]) rfl).sub ⟨rfl, rfl, rfl, rfl, rfl, rfl, trivial⟩, h⟩
   refine rg1 hk<|gF 8 underlying59<|fun a w hk=>?_
   refine st1 (cs' := ([.lit (.int .i64 y7_0), .row (r_c_str y7_1), .lit (.slice xd5 (List.length l5) xc5), .row (r_ApiValue_cells y7_3)] : List AV) ++ (ApiPred.cells y7_4) ++ ([.lit (.slice xd6 (List.length l6) xc6), .lit (.bool true)] : List AV)) hk rfl (by kernel_rfl) fun w hk => ?_
   refine wpList_nil ?_
   exact q8 _ _ ⟨y7_0, y7_1, y7_3, y7_4, true, l6, l2, l5, v20, v21, v22, xd6, xc6, xd2, xc2, xd5, xc5, (hk.drop 0).sub ⟨rfl, rfl, rfl, rfl, rfl, rfl, trivial⟩, h⟩
 refine wp_exit ?_; (repeat first | refine te ?_ | refine be rfl ?_); refine bx ?_
 refine q3 _ _ ?_
 refine wreg fun _ q17 => ?_
 replace hk := S.freezeBlk (I1 := [blk bx5 59 (([.lit (.int .i64 y7_0), .row (r_c_str y7_1), .lit (.slice xd5 (List.length l5) xc5), .row (r_ApiValue_cells y7_3)] : List AV) ++ (ApiPred.cells y7_4) ++ ([.lit (.slice xd6 (List.length l6) xc6), .lit (.bool y7_6)] : List AV)), orow xd6 xc6 3 1 c_i64 l6, blk b0 93 ([.lit (.slice xd2 (List.length l2) xc2)]), orow xd2 xc2 55 1 c_s_ApiIns_cells l2, blk bx2 59 ((ApiIns.cells (⟨0, [], [], [], (⟨[], [], []⟩ : ApiPred), [], false⟩ : ApiIns)))]) (cs' := ([.lit (.int .i64 y7_0), .row (r_c_str y7_1), .row (r_c_i64 l5), .row (r_ApiValue_cells y7_3)] : List AV) ++ (ApiPred.cells y7_4) ++ ([.lit (.slice xd6 (List.length l6) xc6), .lit (.bool y7_6)] : List AV)) (I' := [blk bx5 59 (([.lit (.int .i64 y7_0), .row (r_c_str y7_1), .row (r_c_i64 l5), .row (r_ApiValue_cells y7_3)] : List AV) ++ (ApiPred.cells y7_4) ++ ([.lit (.slice xd6 (List.length l6) xc6), .lit (.bool y7_6)] : List AV)), orow xd6 xc6 3 1 c_i64 l6, blk b0 93 ([.lit (.slice xd2 (List.length l2) xc2)]), orow xd2 xc2 55 1 c_s_ApiIns_cells l2, blk bx2 59 ((ApiIns.cells (⟨0, [], [], [], (⟨[], [], []⟩ : ApiPred), [], false⟩ : ApiIns)))]) r_c_i64_eq hk 4 0 2 rfl rfl rfl rfl rfl rfl
 replace hk := S.freezeBlk (I1 := [blk bx5 59 (([.lit (.int .i64 y7_0), .row (r_c_str y7_1), .row (r_c_i64 l5), .row (r_ApiValue_cells y7_3)] : List AV) ++ (ApiPred.cells y7_4) ++ ([.lit (.slice xd6 (List.length l6) xc6), .lit (.bool y7_6)] : List AV)), blk b0 93 ([.lit (.slice xd2 (List.length l2) xc2)]), orow xd2 xc2 55 1 c_s_ApiIns_cells l2, blk bx2 59 ((ApiIns.cells (⟨0, [], [], [], (⟨[], [], []⟩ : ApiPred), [], false⟩ : ApiIns)))]) (cs' := (ApiIns.cells (⟨y7_0, y7_1, l5, y7_3, y7_4, l6, y7_6⟩ : ApiIns))) (I' := [blk bx5 59 ((ApiIns.cells (⟨y7_0, y7_1, l5, y7_3, y7_4, l6, y7_6⟩ : ApiIns))), blk b0 93 ([.lit (.slice xd2 (List.length l2) xc2)]), orow xd2 xc2 55 1 c_s_ApiIns_cells l2, blk bx2 59 ((ApiIns.cells (⟨0, [], [], [], (⟨[], [], []⟩ : ApiPred), [], false⟩ : ApiIns)))]) r_c_i64_eq hk 1 0 7 rfl rfl rfl rfl rfl rfl
 refine lf hk (f_loadBlk hk h0 (j := 0) rfl rfl underlying59 rfl rfl rfl rfl) fun a w hk=>?_
 refine st3 (cs' := (ApiIns.cells (⟨y7_0, y7_1, l5, y7_3, y7_4, l6, y7_6⟩ : ApiIns))) hk rfl (by kernel_rfl) fun w hk => ?_
 refine lend (q17 _ _ ?_)
 refine wp_ret ?_
 obtain rfl := Option.some.inj h
 have hr_0 := rres_keep (I1 := [blk b0 93 ([.lit (.slice xd2 (List.length l2) xc2)]), orow xd2 xc2 55 1 c_s_ApiIns_cells l2]) (I2 := [blk bx5 59 ((ApiIns.cells (⟨y7_0, y7_1, l5, y7_3, y7_4, l6, y7_6⟩ : ApiIns))), blk bx2 59 ((ApiIns.cells (⟨y7_0, y7_1, l5, y7_3, y7_4, l6, y7_6⟩ : ApiIns)))]) (js := [2, 2]) rfl (rcell (tt := 6) hk rfl (j := 3) rfl underlying59 rfl (by kernel_rfl))
 replace hk := S.keep (I1 := [blk b0 93 ([.lit (.slice xd2 (List.length l2) xc2)]), orow xd2 xc2 55 1 c_s_ApiIns_cells l2]) (I2 := [blk bx5 59 ((ApiIns.cells (⟨y7_0, y7_1, l5, y7_3, y7_4, l6, y7_6⟩ : ApiIns))), blk bx2 59 ((ApiIns.cells (⟨y7_0, y7_1, l5, y7_3, y7_4, l6, y7_6⟩ : ApiIns)))]) (js := [2, 2]) hk rfl
 exact fretH1 hk rfl hr_0 ⟨xd2, xc2, rfl, rfl⟩
end Go.Proofs.Ytbjbgodcenopnaa
namespace Go.Proofs.Ytbjbgodcenopnaa
open FW _root_.Go.Proofs.Try
set_option linter.unusedVariables false
set_option maxRecDepth 20000
set_option maxHeartbeats 10000000
theorem cm_addE.bok (zB : OCM → List ApiStep → Option (Int × OCM)) (zI : OCM → ApiStep → List ApiStep → Option (ApiIns × OCM)) (zK : OCM → List ApiArg → Option (List Int × OCM)) (zO : OCM → ApiStep → List ApiStep → Option (ApiIns × OCM)) (zY : OCM → List ApiStep → Int → Option (List Int × OCM)) (zb : OCM → ApiStep → Option (Int × OCM)) (zR : OCM → List ApiStep → Option (ApiIns × OCM)) (zT : OCM → ApiStep → List ApiStep → Option (ApiIns × OCM)) (zE : OCM → ApiStep → List ApiStep → Option (ApiIns × OCM)) (hzB : ZzB zB) (hzI : ZzI zI) (hzK : ZzK zK) (hzO : ZzO zO) (hzY : ZzY zY) (hzb : Zzb zb) (hzR : ZzR zR) (hzT : ZzT zT) (hzE : ZzE zE) (K : Nat) (v0 : OCM) (v1 : ApiStep) (v2 : List ApiStep) (r : ApiIns × OCM) (h : cm_addE.b zB zI zK zO zY zb zR zT zE K v0 v1 v2 = some r) :
  ∀ (b0 : Nat) (xd0_0 : Option Addr) (xc0_0 : Nat), OkH prog 134 [.lit (.pointer (some ⟨b0, 0, none⟩)), .agg (ApiStep.cells v1), .row (r_ApiStep_cells v2)] (OCM.items b0 xd0_0 xc0_0 v0) (fun y I => ∃ (zxd0_0 : Option Addr) (zxc0_0 : Nat), y = .agg (ApiIns.cells r.1) ∧ I = OCM.items b0 zxd0_0 zxc0_0 r.2) := by
 intro b0 xd0_0 xc0_0
 refine enterH (xs := [.lit (.pointer (some ⟨b0, 0, none⟩)), .agg (ApiStep.cells v1), .row (r_ApiStep_cells v2)]) func134 rfl ntmps134 rfl ?_
 intro M w0 a hk
 replace hk : S M w0 a w0.toWorld 42 [blk b0 93 ([.lit (.slice xd0_0 (List.length v0.out) xc0_0)]), orow xd0_0 xc0_0 55 1 c_s_ApiIns_cells v0.out] [(0, [], .lit (.pointer (some ⟨b0, 0, none⟩))), (1, [], .agg ((ApiStep.cells v1))), (2, [], .row (r_ApiStep_cells v2))] := hk
 unfold cm_addE.b at h
 refine wreg fun _ q1 => ?_
 refine l_box (cs := (ApiStep.cells v1)) hk rfl rfl rfl rfl rfl ?_; clear hk; intro bx1 a w hk
 refine l_alloc (zs := (ApiIns.cells (⟨0, [], [], [], (⟨[], [], []⟩ : ApiPred), [], false⟩ : ApiIns))) [] hk rfl rfl rfl rfl ?_; clear hk; intro bx2 a w hk
 refine lend (q1 _ _ ?_)
 refine rg hk fun _ q2=>gF 1 underlying29<|gB 1 underlying27<|fun a w hk=>?_
 obtain ⟨t1, hr_t1, h⟩ := bnd h
 refine lf (y := .row (r_c_str t1)) hk (f_call hk h0 rfl rfl func102 rfl (by kernel_rfl) (code_names.ok K v1.Args _ hr_t1)) fun a w hk=>?_
 refine l_buildSlice (f := c_i64) (l := ([(-1), (-1)] : List Int)) hk rfl rfl rfl underlying54 rfl rfl rfl rfl (fun _ => rfl) rfl ?_; clear hk; intro bx3 a w hk
 refine lf (y := .agg (([.lit (.int .i64 5), .row (r_c_str t1), .row (r_c_i64 []), .row (r_ApiValue_cells [])] : List AV) ++ (ApiPred.cells (⟨[], [], []⟩ : ApiPred)) ++ ([.lit (.slice (some ⟨bx3, 0, none⟩) (List.length ([(-1), (-1)] : List Int)) 2), .lit (.bool false)] : List AV))) hk (f_buildN [] hk h0 rfl rfl rfl) fun a w hk=>?_
 refine l_alloc (zs := (ApiIns.cells (⟨0, [], [], [], (⟨[], [], []⟩ : ApiPred), [], false⟩ : ApiIns))) [] hk rfl rfl rfl rfl ?_; clear hk; intro bx4 a w hk
 refine st0 (cs' := ([.lit (.int .i64 5), .row (r_c_str t1), .row (r_c_i64 []), .row (r_ApiValue_cells [])] : List AV) ++ (ApiPred.cells (⟨[], [], []⟩ : ApiPred)) ++ ([.lit (.slice (some ⟨bx3, 0, none⟩) (List.length ([(-1), (-1)] : List Int)) 2), .lit (.bool false)] : List AV)) hk rfl (by kernel_rfl) fun w hk => ?_
 refine lend (q2 _ _ ?_)
 refine wseq fun _ q3 => ?_
 refine rg hk fun _ q4=>gM<|fun a w hk=>?_
 refine lf hk (f_len (R := r_ApiStep_cells) (f := ApiStep.cells) (l := v2) r_ApiStep_cells_eq underlying22 hk h0 rfl) fun a w hk=>?_
 refine go hk<|gM<|ge q4 fun a w hk=>?_
 refine wp_block ?_
 refine wloop (T := Nat × Int × List (List UInt8) × List Int × List ApiValue × ApiPred × Bool × List Int × List (List ApiIns) × List ApiStep × Int × Int × Option Addr × Nat × Option Addr × Nat) (fun x a w => match x with | (kl1, y6_0, y6_1, y6_2, y6_3, y6_4, y6_6, l5, l2, v16, v17, v18, xd5, xc5, xd2, xc2) => S M w0 a w 42 [blk bx4 59 (([.lit (.int .i64 y6_0), .row (r_c_str y6_1), .row (r_c_i64 y6_2), .row (r_ApiValue_cells y6_3)] : List AV) ++ (ApiPred.cells y6_4) ++ ([.lit (.slice xd5 (List.length l5) xc5), .lit (.bool y6_6)] : List AV)), orow xd5 xc5 3 1 c_i64 l5, blk bx2 59 ((ApiIns.cells (⟨0, [], [], [], (⟨[], [], []⟩ : ApiPred), [], false⟩ : ApiIns))), blk b0 93 ([.lit (.slice xd2 (List.length l2) xc2)]), orow xd2 xc2 55 1 c_s_ApiIns_cells l2] [(0, [], .lit (.pointer (some ⟨b0, 0, none⟩))), (6, [], .lit (.pointer (some ⟨bx2, 0, none⟩))), (7, [], .lit (.pointer (some ⟨bx4, 0, none⟩))), (16, [], .row (r_ApiStep_cells v16)), (17, [], .lit (.int .i64 v17)), (18, [], .lit (.int .i64 v18))] ∧ cm_addE.l1 zB zI zK zO zY zb zR zT zE K kl1 y6_0 y6_1 y6_2 y6_3 y6_4 y6_6 l5 l2 v16 v17 v18 = some r) (fun x => x.1) (K, 5, t1, [], [], (⟨[], [], []⟩ : ApiPred), false, ([(-1), (-1)] : List Int), v0.out, v2, (List.length v2 : Int), 0, (some ⟨bx3, 0, none⟩), 2, xd0_0, xc0_0) ⟨(hk.drop 3).sub ⟨rfl, rfl, rfl, rfl, rfl, rfl, trivial⟩, h⟩ ?_
 clear hk h
 rintro ⟨kl1, y6_0, y6_1, y6_2, y6_3, y6_4, y6_6, l5, l2, v16, v17, v18, xd5, xc5, xd2, xc2⟩ a w ⟨hk, h⟩ K' q5
 cases kl1 with
 | zero => simp [cm_addE.l1] at h
 | succ kl1 =>
 rw [cm_addE.l1.eq_2] at h
 refine rg hk fun _ q6=>gL<|ge q6 fun a w hk=>?_
 refine wseq fun _ q7 => ?_
 refine wc hk h (fun h hb=>?_) fun h hb=>?_
 ·refine wp_skip ?_
  refine q7 _ _ ?_
  refine wseqJ (fun a w => ∃ (l2 : List (List ApiIns)) (y6_0 : Int) (y6_1 : List (List UInt8)) (y6_2 : List Int) (y6_3 : List ApiValue) (y6_4 : ApiPred) (y6_6 : Bool) (l5 : List Int) (v16 : List ApiStep) (v17 : Int) (v18 : Int) (xd2 : Option Addr) (xc2 : Nat) (xd5 : Option Addr) (xc5 : Nat), S M w0 a w 42 [blk b0 93 ([.lit (.slice xd2 (List.length l2) xc2)]), orow xd2 xc2 55 1 c_s_ApiIns_cells l2, blk bx4 59 (([.lit (.int .i64 y6_0), .row (r_c_str y6_1), .row (r_c_i64 y6_2), .row (r_ApiValue_cells y6_3)] : List AV) ++ (ApiPred.cells y6_4) ++ ([.lit (.slice xd5 (List.length l5) xc5), .lit (.bool y6_6)] : List AV)), orow xd5 xc5 3 1 c_i64 l5, blk bx2 59 ((ApiIns.cells (⟨0, [], [], [], (⟨[], [], []⟩ : ApiPred), [], false⟩ : ApiIns)))] [(0, [], .lit (.pointer (some ⟨b0, 0, none⟩))), (6, [], .lit (.pointer (some ⟨bx2, 0, none⟩))), (7, [], .lit (.pointer (some ⟨bx4, 0, none⟩))), (16, [], .row (r_ApiStep_cells v16)), (17, [], .lit (.int .i64 v17)), (18, [], .lit (.int .i64 v18))] ∧ cm_addE.j1 zB zI zK zO zY zb zR zT zE (cm_addE.l1 zB zI zK zO zY zb zR zT zE K kl1) K l2 y6_0 y6_1 y6_2 y6_3 y6_4 y6_6 l5 v16 v17 v18 = some r) ?_ ?_
  ·clear hk h
   rintro a w ⟨l2, y6_0, y6_1, y6_2, y6_3, y6_4, y6_6, l5, v16, v17, v18, xd2, xc2, xd5, xc5, hk, h⟩
   unfold cm_addE.j1 at h
   refine rg1 hk<|gD<|gM<|fun a w hk=>?_
   refine wpList_nil ?_
   exact q5 (kl1, y6_0, y6_1, y6_2, y6_3, y6_4, y6_6, l5, l2, v16, v17, (IntKind.wrap .i64 (v18 + 1)), xd5, xc5, xd2, xc2) _ _ (Nat.lt_succ_self _) ⟨(S.pick hk (js := [1, 1, 4, 4, 4]) rfl).sub ⟨rfl, rfl, rfl, rfl, rfl, rfl, trivial⟩, h⟩
  ·intro K' q8
   refine wp_block ?_
   refine wreg fun _ q10 => ?_
   obtain ⟨hc1, h⟩ := chk h
   refine lf (y := .ref (ApiStep.cells (List.getD v16 (Int.toNat v18) default))) hk (f_indexAddr (R := r_ApiStep_cells) (f := ApiStep.cells) (l := v16) (sz := 2) r_ApiStep_cells_eq (fun _ => rfl) hk h0 rfl rfl underlying22 (by kernel_rfl) hc1) fun a w hk=>?_
   refine lf hk (f_load hk h0 rfl underlying29 rfl rfl rfl rfl) fun a w hk=>?_
   refine l_alloc (zs := (ApiStep.cells (⟨[], []⟩ : ApiStep))) [] hk rfl rfl rfl rfl ?_; clear hk; intro bx5 a w hk
   refine st0 (cs' := (ApiStep.cells (List.getD v16 (Int.toNat v18) default))) hk rfl (by kernel_rfl) fun w hk => ?_
   refine lend (q10 _ _ ?_)
   refine rg hk fun _ q11=>gM<|gF 1 underlying29<|gB 0 underlying27<|fun a w hk=>?_
   obtain ⟨hc2, h⟩ := chk h
   refine lf (y := .ref (ApiArg.cells (List.getD ((List.getD v16 (Int.toNat v18) default).Args) (Int.toNat 0) default))) hk (f_indexAddr (R := r_ApiArg_cells) (f := ApiArg.cells) (l := (List.getD v16 (Int.toNat v18) default).Args) (sz := 11) r_ApiArg_cells_eq (fun _ => rfl) hk h0 rfl rfl underlying27 (by kernel_rfl) hc2) fun a w hk=>?_
   refine lf hk (f_fieldAddr hk h0 rfl underlying38 rfl (by kernel_rfl) rfl) fun a w hk=>?_
   refine lf hk (f_load1 hk h0 rfl rfl underlying22 rfl) fun a w hk=>?_
   obtain ⟨t2, hr_t2, h⟩ := bnd h
   refine l_callH (I1 := (OCM.items b0 xd2 xc2 (⟨l2⟩ : OCM))) (I2 := [blk bx5 29 ((ApiStep.cells (List.getD v16 (Int.toNat v18) default))), blk bx4 59 (([.lit (.int .i64 y6_0), .row (r_c_str y6_1), .row (r_c_i64 y6_2), .row (r_ApiValue_cells y6_3)] : List AV) ++ (ApiPred.cells y6_4) ++ ([.lit (.slice xd5 (List.length l5) xc5), .lit (.bool y6_6)] : List AV)), orow xd5 xc5 3 1 c_i64 l5, blk bx2 59 ((ApiIns.cells (⟨0, [], [], [], (⟨[], [], []⟩ : ApiPred), [], false⟩ : ApiIns)))]) (js := [5, 5]) hk rfl rfl rfl rfl rfl func48 rfl (by kernel_rfl) (hzB (⟨l2⟩ : OCM) ((List.getD ((List.getD v16 (Int.toNat v18) default).Args) (Int.toNat 0) default).T) _ hr_t2 b0 xd2 xc2) ?_; clear hk
   rintro _ _ ⟨zd1, zc1, rfl, rfl⟩ a w hk
   refine go hk<|gA<|ge q11 fun a w hk=>?_
   refine rg hk fun _ q12=>gF 0 underlying29<|gB 2 underlying9<|gS<|ge q12 fun a w hk=>wc hk h (fun h hb=>?_) fun h hb=>?_
   ·refine rg1 hk<|gF 7 underlying59<|gB 3 underlying54<|gM<|fun a w hk=>?_
    obtain ⟨hc3, h⟩ := chk h
    refine lf (y := elA xd5 1 0) hk (f_idxOwn (f := c_i64) (l := l5) hk h0 (j := 4) rfl rfl (by first | rfl | simp only [List.length_set]) rfl underlying54 (by kernel_rfl) hc3) fun a w hk=>?_
    refine l_storeOwn1 (f := c_i64) (l := l5) (v := t2.1) (I' := [blk b0 93 ([.lit (.slice zd1 (List.length t2.2.out) zc1)]), orow zd1 zc1 55 1 c_s_ApiIns_cells t2.2.out, blk bx5 29 ((ApiStep.cells (List.getD v16 (Int.toNat v18) default))), blk bx4 59 (([.lit (.int .i64 y6_0), .row (r_c_str y6_1), .row (r_c_i64 y6_2), .row (r_ApiValue_cells y6_3)] : List AV) ++ (ApiPred.cells y6_4) ++ ([.lit (.slice xd5 (List.length l5) xc5), .lit (.bool y6_6)] : List AV)), orow xd5 xc5 3 1 c_i64 (List.set l5 (Int.toNat 0) t2.1), blk bx2 59 ((ApiIns.cells (⟨0, [], [], [], (⟨[], [], []⟩ : ApiPred), [], false⟩ : ApiIns)))]) (j := 4) hk rfl rfl hc3 rfl rfl rfl rfl (by kernel_rfl) rfl fun w hk => ?_
    refine wpList_nil ?_
    replace hk := S.cast (I' := [blk b0 93 ([.lit (.slice zd1 (List.length t2.2.out) zc1)]), orow zd1 zc1 55 1 c_s_ApiIns_cells t2.2.out, blk bx5 29 ((ApiStep.cells (List.getD v16 (Int.toNat v18) default))), blk bx4 59 (([.lit (.int .i64 y6_0), .row (r_c_str y6_1), .row (r_c_i64 y6_2), .row (r_ApiValue_cells y6_3)] : List AV) ++ (ApiPred.cells y6_4) ++ ([.lit (.slice xd5 (List.length (List.set l5 (Int.toNat 0) t2.1)) xc5), .lit (.bool y6_6)] : List AV)), orow xd5 xc5 3 1 c_i64 (List.set l5 (Int.toNat 0) t2.1), blk bx2 59 ((ApiIns.cells (⟨0, [], [], [], (⟨[], [], []⟩ : ApiPred), [], false⟩ : ApiIns)))]) hk (by first | rfl | simp only [List.length_set]) rfl
    exact q8 _ _ ⟨t2.2.out, y6_0, y6_1, y6_2, y6_3, y6_4, y6_6, (List.set l5 (Int.toNat 0) t2.1), v16, v17, v18, zd1, zc1, xd5, xc5, (hk.drop 2).sub ⟨rfl, rfl, rfl, rfl, rfl, rfl, trivial⟩, h⟩
   refine rg1 hk<|gF 7 underlying59<|gB 3 underlying54<|gM<|fun a w hk=>?_
   obtain ⟨hc4, h⟩ := chk h
   refine lf (y := elA xd5 1 1) hk (f_idxOwn (f := c_i64) (l := l5) hk h0 (j := 4) rfl rfl (by first | rfl | simp only [List.length_set]) rfl underlying54 (by kernel_rfl) hc4) fun a w hk=>?_
   refine l_storeOwn1 (f := c_i64) (l := l5) (v := t2.1) (I' := [blk b0 93 ([.lit (.slice zd1 (List.length t2.2.out) zc1)]), orow zd1 zc1 55 1 c_s_ApiIns_cells t2.2.out, blk bx5 29 ((ApiStep.cells (List.getD v16 (Int.toNat v18) default))), blk bx4 59 (([.lit (.int .i64 y6_0), .row (r_c_str y6_1), .row (r_c_i64 y6_2), .row (r_ApiValue_cells y6_3)] : List AV) ++ (ApiPred.cells y6_4) ++ ([.lit (.slice xd5 (List.length l5) xc5), .lit (.bool y6_6)] : List AV)), orow xd5 xc5 3 1 c_i64 (List.set l5 (Int.toNat 1) t2.1), blk bx2 59 ((ApiIns.cells (⟨0, [], [], [], (⟨[], [], []⟩ : ApiPred), [], false⟩ : ApiIns)))]) (j := 4) hk rfl rfl hc4 rfl rfl rfl rfl (by kernel_rfl) rfl fun w hk => ?_
   refine wpList_nil ?_
   replace hk := S.cast (I' := [blk b0 93 ([.lit (.slice zd1 (List.length t2.2.out) zc1)]), orow zd1 zc1 55 1 c_s_ApiIns_cells t2.2.out, blk bx5 29 ((ApiStep.cells (List.getD v16 (Int.toNat v18) default))), blk bx4 59 (([.lit (.int .i64 y6_0), .row (r_c_str y6_1), .row (r_c_i64 y6_2), .row (r_ApiValue_cells y6_3)] : List AV) ++ (ApiPred.cells y6_4) ++ ([.lit (.slice xd5 (List.length (List.set l5 (Int.toNat 1) t2.1)) xc5), .lit (.bool y6_6)] : List AV)), orow xd5 xc5 3 1 c_i64 (List.set l5 (Int.toNat 1) t2.1), blk bx2 59 ((ApiIns.cells (⟨0, [], [], [], (⟨[], [], []⟩ : ApiPred), [], false⟩ : ApiIns)))]) hk (by first | rfl | simp only [List.length_set]) rfl
   exact q8 _ _ ⟨t2.2.out, y6_0, y6_1, y6_2, y6_3, y6_4, y6_6, (List.set l5 (Int.toNat 1) t2.1), v16, v17, v18, zd1, zc1, xd5, xc5, (hk.drop 2).sub ⟨rfl, rfl, rfl, rfl, rfl, rfl, trivial⟩, h⟩
 refine wp_exit ?_; (repeat first | refine te ?_ | refine be rfl ?_); refine bx ?_
 refine q3 _ _ ?_
 refine wreg fun _ q15 => ?_
 replace hk := S.freezeBlk (I1 := [blk bx4 59 (([.lit (.int .i64 y6_0), .row (r_c_str y6_1), .row (r_c_i64 y6_2), .row (r_ApiValue_cells y6_3)] : List AV) ++ (ApiPred.cells y6_4) ++ ([.lit (.slice xd5 (List.length l5) xc5), .lit (.bool y6_6)] : List AV)), blk bx2 59 ((ApiIns.cells (⟨0, [], [], [], (⟨[], [], []⟩ : ApiPred), [], false⟩ : ApiIns))), blk b0 93 ([.lit (.slice xd2 (List.length l2) xc2)]), orow xd2 xc2 55 1 c_s_ApiIns_cells l2]) (cs' := (ApiIns.cells (⟨y6_0, y6_1, y6_2, y6_3, y6_4, l5, y6_6⟩ : ApiIns))) (I' := [blk bx4 59 ((ApiIns.cells (⟨y6_0, y6_1, y6_2, y6_3, y6_4, l5, y6_6⟩ : ApiIns))), blk bx2 59 ((ApiIns.cells (⟨0, [], [], [], (⟨[], [], []⟩ : ApiPred), [], false⟩ : ApiIns))), blk b0 93 ([.lit (.slice xd2 (List.length l2) xc2)]), orow xd2 xc2 55 1 c_s_ApiIns_cells l2]) r_c_i64_eq hk 1 0 7 rfl rfl rfl rfl rfl rfl
 refine lf hk (f_loadBlk hk h0 (j := 0) rfl rfl underlying59 rfl rfl rfl rfl) fun a w hk=>?_
 refine st1 (cs' := (ApiIns.cells (⟨y6_0, y6_1, y6_2, y6_3, y6_4, l5, y6_6⟩ : ApiIns))) hk rfl (by kernel_rfl) fun w hk => ?_
 refine lend (q15 _ _ ?_)
 refine wp_ret ?_
 obtain rfl := Option.some.inj h
 have hr_0 := rres_keep (I1 := [blk b0 93 ([.lit (.slice xd2 (List.length l2) xc2)]), orow xd2 xc2 55 1 c_s_ApiIns_cells l2]) (I2 := [blk bx4 59 ((ApiIns.cells (⟨y6_0, y6_1, y6_2, y6_3, y6_4, l5, y6_6⟩ : ApiIns))), blk bx2 59 ((ApiIns.cells (⟨y6_0, y6_1, y6_2, y6_3, y6_4, l5, y6_6⟩ : ApiIns)))]) (js := [3, 3]) rfl (rcell (tt := 6) hk rfl (j := 1) rfl underlying59 rfl (by kernel_rfl))
 replace hk := S.keep (I1 := [blk b0 93 ([.lit (.slice xd2 (List.length l2) xc2)]), orow xd2 xc2 55 1 c_s_ApiIns_cells l2]) (I2 := [blk bx4 59 ((ApiIns.cells (⟨y6_0, y6_1, y6_2, y6_3, y6_4, l5, y6_6⟩ : ApiIns))), blk bx2 59 ((ApiIns.cells (⟨y6_0, y6_1, y6_2, y6_3, y6_4, l5, y6_6⟩ : ApiIns)))]) (js := [3, 3]) hk rfl
 exact fretH1 hk rfl hr_0 ⟨xd2, xc2, rfl, rfl⟩
theorem cm_body_knot : ∀ K : Nat, (∀ (v0 : OCM) (v1 : List ApiStep) (r : Int × OCM), cm_body.f K v0 v1 = some r → ∀ (b0 : Nat) (xd0_0 : Option Addr) (xc0_0 : Nat), OkH prog 48 [.lit (.pointer (some ⟨b0, 0, none⟩)), .row (r_ApiStep_cells v1)] (OCM.items b0 xd0_0 xc0_0 v0) (fun y I => ∃ (zxd0_0 : Option Addr) (zxc0_0 : Nat), y = .lit (.int .i64 r.1) ∧ I = OCM.items b0 zxd0_0 zxc0_0 r.2)) ∧ (∀ (v0 : OCM) (v1 : ApiStep) (v2 : List ApiStep) (r : ApiIns × OCM), cm_ins.f K v0 v1 v2 = some r → ∀ (b0 : Nat) (xd0_0 : Option Addr) (xc0_0 : Nat), OkH prog 70 [.lit (.pointer (some ⟨b0, 0, none⟩)), .agg (ApiStep.cells v1), .row (r_ApiStep_cells v2)] (OCM.items b0 xd0_0 xc0_0 v0) (fun y I => ∃ (zxd0_0 : Option Addr) (zxc0_0 : Nat), y = .agg (ApiIns.cells r.1) ∧ I = OCM.items b0 zxd0_0 zxc0_0 r.2)) ∧ (∀ (v0 : OCM) (v1 : List ApiArg) (r : List Int × OCM), cm_kids.f K v0 v1 = some r → ∀ (b0 : Nat) (xd0_0 : Option Addr) (xc0_0 : Nat), OkH prog 104 [.lit (.pointer (some ⟨b0, 0, none⟩)), .row (r_ApiArg_cells v1)] (OCM.items b0 xd0_0 xc0_0 v0) (fun y I => ∃ (zxd0_0 : Option Addr) (zxc0_0 : Nat), y = .row (r_c_i64 r.1) ∧ I = OCM.items b0 zxd0_0 zxc0_0 r.2)) ∧ (∀ (v0 : OCM) (v1 : ApiStep) (v2 : List ApiStep) (r : ApiIns × OCM), cm_other.f K v0 v1 v2 = some r → ∀ (b0 : Nat) (xd0_0 : Option Addr) (xc0_0 : Nat), OkH prog 107 [.lit (.pointer (some ⟨b0, 0, none⟩)), .agg (ApiStep.cells v1), .row (r_ApiStep_cells v2)] (OCM.items b0 xd0_0 xc0_0 v0) (fun y I => ∃ (zxd0_0 : Option Addr) (zxc0_0 : Nat), y = .agg (ApiIns.cells r.1) ∧ I = OCM.items b0 zxd0_0 zxc0_0 r.2)) ∧ (∀ (v0 : OCM) (v1 : List ApiStep) (v2 : Int) (r : List Int × OCM), cm_bys.f K v0 v1 v2 = some r → ∀ (b0 : Nat) (xd0_0 : Option Addr) (xc0_0 : Nat), OkH prog 131 [.lit (.pointer (some ⟨b0, 0, none⟩)), .row (r_ApiStep_cells v1), .lit (.int .i64 v2)] (OCM.items b0 xd0_0 xc0_0 v0) (fun y I => ∃ (zxd0_0 : Option Addr) (zxc0_0 : Nat), y = .row (r_c_i64 r.1) ∧ I = OCM.items b0 zxd0_0 zxc0_0 r.2)) ∧ (∀ (v0 : OCM) (v1 : ApiStep) (r : Int × OCM), cm_by.f K v0 v1 = some r → ∀ (b0 : Nat) (xd0_0 : Option Addr) (xc0_0 : Nat), OkH prog 151 [.lit (.pointer (some ⟨b0, 0, none⟩)), .agg (ApiStep.cells v1)] (OCM.items b0 xd0_0 xc0_0 v0) (fun y I => ∃ (zxd0_0 : Option Addr) (zxc0_0 : Nat), y = .lit (.int .i64 r.1) ∧ I = OCM.items b0 zxd0_0 zxc0_0 r.2)) ∧ (∀ (v0 : OCM) (v1 : List ApiStep) (r : ApiIns × OCM), cm_order.f K v0 v1 = some r → ∀ (b0 : Nat) (xd0_0 : Option Addr) (xc0_0 : Nat), OkH prog 132 [.lit (.pointer (some ⟨b0, 0, none⟩)), .row (r_ApiStep_cells v1)] (OCM.items b0 xd0_0 xc0_0 v0) (fun y I => ∃ (zxd0_0 : Option Addr) (zxc0_0 : Nat), y = .agg (ApiIns.cells r.1) ∧ I = OCM.items b0 zxd0_0 zxc0_0 r.2)) ∧ (∀ (v0 : OCM) (v1 : ApiStep) (v2 : List ApiStep) (r : ApiIns × OCM), cm_repeat.f K v0 v1 v2 = some r → ∀ (b0 : Nat) (xd0_0 : Option Addr) (xc0_0 : Nat), OkH prog 133 [.lit (.pointer (some ⟨b0, 0, none⟩)), .agg (ApiStep.cells v1), .row (r_ApiStep_cells v2)] (OCM.items b0 xd0_0 xc0_0 v0) (fun y I => ∃ (zxd0_0 : Option Addr) (zxc0_0 : Nat), y = .agg (ApiIns.cells r.1) ∧ I = OCM.items b0 zxd0_0 zxc0_0 r.2)) ∧ (∀ (v0 : OCM) (v1 : ApiStep) (v2 : List ApiStep) (r : ApiIns × OCM), cm_addE.f K v0 v1 v2 = some r → ∀ (b0 : Nat) (xd0_0 : Option Addr) (xc0_0 : Nat), OkH prog 134 [.lit (.pointer (some ⟨b0, 0, none⟩)), .agg (ApiStep.cells v1), .row (r_ApiStep_cells v2)] (OCM.items b0 xd0_0 xc0_0 v0) (fun y I => ∃ (zxd0_0 : Option Addr) (zxc0_0 : Nat), y = .agg (ApiIns.cells r.1) ∧ I = OCM.items b0 zxd0_0 zxc0_0 r.2))
 | 0 => ⟨fun v0 v1 r h => by simp [cm_body.f] at h, fun v0 v1 v2 r h => by simp [cm_ins.f] at h, fun v0 v1 r h => by simp [cm_kids.f] at h, fun v0 v1 v2 r h => by simp [cm_other.f] at h, fun v0 v1 v2 r h => by simp [cm_bys.f] at h, fun v0 v1 r h => by simp [cm_by.f] at h, fun v0 v1 r h => by simp [cm_order.f] at h, fun v0 v1 v2 r h => by simp [cm_repeat.f] at h, fun v0 v1 v2 r h => by simp [cm_addE.f] at h⟩
 | K + 1 => ⟨fun v0 v1 r h => by rw [cm_body.f] at h; exact cm_body.bok _ _ _ _ _ _ _ _ _ (cm_body_knot K).1 (cm_body_knot K).2.1 (cm_body_knot K).2.2.1 (cm_body_knot K).2.2.2.1 (cm_body_knot K).2.2.2.2.1 (cm_body_knot K).2.2.2.2.2.1 (cm_body_knot K).2.2.2.2.2.2.1 (cm_body_knot K).2.2.2.2.2.2.2.1 (cm_body_knot K).2.2.2.2.2.2.2.2 K v0 v1 r h, fun v0 v1 v2 r h => by rw [cm_ins.f] at h; exact cm_ins.bok _ _ _ _ _ _ _ _ _ (cm_body_knot K).1 (cm_body_knot K).2.1 (cm_body_knot K).2.2.1 (cm_body_knot K).2.2.2.1 (cm_body_knot K).2.2.2.2.1 (cm_body_knot K).2.2.2.2.2.1 (cm_body_knot K).2.2.2.2.2.2.1 (cm_body_knot K).2.2.2.2.2.2.2.1 (cm_body_knot K).2.2.2.2.2.2.2.2 K v0 v1 v2 r h, fun v0 v1 r h => by rw [cm_kids.f] at h; exact cm_kids.bok _ _ _ _ _ _ _ _ _ (cm_body_knot K).1 (cm_body_knot K).2.1 (cm_body_knot K).2.2.1 (cm_body_knot K).2.2.2.1 (cm_body_knot K).2.2.2.2.1 (cm_body_knot K).2.2.2.2.2.1 (cm_body_knot K).2.2.2.2.2.2.1 (cm_body_knot K).2.2.2.2.2.2.2.1 (cm_body_knot K).2.2.2.2.2.2.2.2 K v0 v1 r h, fun v0 v1 v2 r h => by rw [cm_other.f] at h; exact cm_other.bok _ _ _ _ _ _ _ _ _ (cm_body_knot K).1 (cm_body_knot K).2.1 (cm_body_knot K).2.2.1 (cm_body_knot K).2.2.2.1 (cm_body_knot K).2.2.2.2.1 (cm_body_knot K).2.2.2.2.2.1 (cm_body_knot K).2.2.2.2.2.2.1 (cm_body_knot K).2.2.2.2.2.2.2.1 (cm_body_knot K).2.2.2.2.2.2.2.2 K v0 v1 v2 r h, fun v0 v1 v2 r h => by rw [cm_bys.f] at h; exact cm_bys.bok _ _ _ _ _ _ _ _ _ (cm_body_knot K).1 (cm_body_knot K).2.1 (cm_body_knot K).2.2.1 (cm_body_knot K).2.2.2.1 (cm_body_knot K).2.2.2.2.1 (cm_body_knot K).2.2.2.2.2.1 (cm_body_knot K).2.2.2.2.2.2.1 (cm_body_knot K).2.2.2.2.2.2.2.1 (cm_body_knot K).2.2.2.2.2.2.2.2 K v0 v1 v2 r h, fun v0 v1 r h => by rw [cm_by.f] at h; exact cm_by.bok _ _ _ _ _ _ _ _ _ (cm_body_knot K).1 (cm_body_knot K).2.1 (cm_body_knot K).2.2.1 (cm_body_knot K).2.2.2.1 (cm_body_knot K).2.2.2.2.1 (cm_body_knot K).2.2.2.2.2.1 (cm_body_knot K).2.2.2.2.2.2.1 (cm_body_knot K).2.2.2.2.2.2.2.1 (cm_body_knot K).2.2.2.2.2.2.2.2 K v0 v1 r h, fun v0 v1 r h => by rw [cm_order.f] at h; exact cm_order.bok _ _ _ _ _ _ _ _ _ (cm_body_knot K).1 (cm_body_knot K).2.1 (cm_body_knot K).2.2.1 (cm_body_knot K).2.2.2.1 (cm_body_knot K).2.2.2.2.1 (cm_body_knot K).2.2.2.2.2.1 (cm_body_knot K).2.2.2.2.2.2.1 (cm_body_knot K).2.2.2.2.2.2.2.1 (cm_body_knot K).2.2.2.2.2.2.2.2 K v0 v1 r h, fun v0 v1 v2 r h => by rw [cm_repeat.f] at h; exact cm_repeat.bok _ _ _ _ _ _ _ _ _ (cm_body_knot K).1 (cm_body_knot K).2.1 (cm_body_knot K).2.2.1 (cm_body_knot K).2.2.2.1 (cm_body_knot K).2.2.2.2.1 (cm_body_knot K).2.2.2.2.2.1 (cm_body_knot K).2.2.2.2.2.2.1 (cm_body_knot K).2.2.2.2.2.2.2.1 (cm_body_knot K).2.2.2.2.2.2.2.2 K v0 v1 v2 r h, fun v0 v1 v2 r h => by rw [cm_addE.f] at h; exact cm_addE.bok _ _ _ _ _ _ _ _ _ (cm_body_knot K).1 (cm_body_knot K).2.1 (cm_body_knot K).2.2.1 (cm_body_knot K).2.2.2.1 (cm_body_knot K).2.2.2.2.1 (cm_body_knot K).2.2.2.2.2.1 (cm_body_knot K).2.2.2.2.2.2.1 (cm_body_knot K).2.2.2.2.2.2.2.1 (cm_body_knot K).2.2.2.2.2.2.2.2 K v0 v1 v2 r h⟩
theorem cm_body.ok (K : Nat) (v0 : OCM) (v1 : List ApiStep) (r : Int × OCM) (h : cm_body.f K v0 v1 = some r) : ∀ (b0 : Nat) (xd0_0 : Option Addr) (xc0_0 : Nat), OkH prog 48 [.lit (.pointer (some ⟨b0, 0, none⟩)), .row (r_ApiStep_cells v1)] (OCM.items b0 xd0_0 xc0_0 v0) (fun y I => ∃ (zxd0_0 : Option Addr) (zxc0_0 : Nat), y = .lit (.int .i64 r.1) ∧ I = OCM.items b0 zxd0_0 zxc0_0 r.2) := (cm_body_knot K).1 v0 v1 r h
theorem cm_ins.ok (K : Nat) (v0 : OCM) (v1 : ApiStep) (v2 : List ApiStep) (r : ApiIns × OCM) (h : cm_ins.f K v0 v1 v2 = some r) : ∀ (b0 : Nat) (xd0_0 : Option Addr) (xc0_0 : Nat), OkH prog 70 [.lit (.pointer (some ⟨b0, 0, none⟩)), .agg (ApiStep.cells v1), .row (r_ApiStep_cells v2)] (OCM.items b0 xd0_0 xc0_0 v0) (fun y I => ∃ (zxd0_0 : Option Addr) (zxc0_0 : Nat), y = .agg (ApiIns.cells r.1) ∧ I = OCM.items b0 zxd0_0 zxc0_0 r.2) := (cm_body_knot K).2.1 v0 v1 v2 r h
theorem cm_kids.ok (K : Nat) (v0 : OCM) (v1 : List ApiArg) (r : List Int × OCM) (h : cm_kids.f K v0 v1 = some r) : ∀ (b0 : Nat) (xd0_0 : Option Addr) (xc0_0 : Nat), OkH prog 104 [.lit (.pointer (some ⟨b0, 0, none⟩)), .row (r_ApiArg_cells v1)] (OCM.items b0 xd0_0 xc0_0 v0) (fun y I => ∃ (zxd0_0 : Option Addr) (zxc0_0 : Nat), y = .row (r_c_i64 r.1) ∧ I = OCM.items b0 zxd0_0 zxc0_0 r.2) := (cm_body_knot K).2.2.1 v0 v1 r h
theorem cm_other.ok (K : Nat) (v0 : OCM) (v1 : ApiStep) (v2 : List ApiStep) (r : ApiIns × OCM) (h : cm_other.f K v0 v1 v2 = some r) : ∀ (b0 : Nat) (xd0_0 : Option Addr) (xc0_0 : Nat), OkH prog 107 [.lit (.pointer (some ⟨b0, 0, none⟩)), .agg (ApiStep.cells v1), .row (r_ApiStep_cells v2)] (OCM.items b0 xd0_0 xc0_0 v0) (fun y I => ∃ (zxd0_0 : Option Addr) (zxc0_0 : Nat), y = .agg (ApiIns.cells r.1) ∧ I = OCM.items b0 zxd0_0 zxc0_0 r.2) := (cm_body_knot K).2.2.2.1 v0 v1 v2 r h
theorem cm_bys.ok (K : Nat) (v0 : OCM) (v1 : List ApiStep) (v2 : Int) (r : List Int × OCM) (h : cm_bys.f K v0 v1 v2 = some r) : ∀ (b0 : Nat) (xd0_0 : Option Addr) (xc0_0 : Nat), OkH prog 131 [.lit (.pointer (some ⟨b0, 0, none⟩)), .row (r_ApiStep_cells v1), .lit (.int .i64 v2)] (OCM.items b0 xd0_0 xc0_0 v0) (fun y I => ∃ (zxd0_0 : Option Addr) (zxc0_0 : Nat), y = .row (r_c_i64 r.1) ∧ I = OCM.items b0 zxd0_0 zxc0_0 r.2) := (cm_body_knot K).2.2.2.2.1 v0 v1 v2 r h
theorem cm_by.ok (K : Nat) (v0 : OCM) (v1 : ApiStep) (r : Int × OCM) (h : cm_by.f K v0 v1 = some r) : ∀ (b0 : Nat) (xd0_0 : Option Addr) (xc0_0 : Nat), OkH prog 151 [.lit (.pointer (some ⟨b0, 0, none⟩)), .agg (ApiStep.cells v1)] (OCM.items b0 xd0_0 xc0_0 v0) (fun y I => ∃ (zxd0_0 : Option Addr) (zxc0_0 : Nat), y = .lit (.int .i64 r.1) ∧ I = OCM.items b0 zxd0_0 zxc0_0 r.2) := (cm_body_knot K).2.2.2.2.2.1 v0 v1 r h
theorem cm_order.ok (K : Nat) (v0 : OCM) (v1 : List ApiStep) (r : ApiIns × OCM) (h : cm_order.f K v0 v1 = some r) : ∀ (b0 : Nat) (xd0_0 : Option Addr) (xc0_0 : Nat), OkH prog 132 [.lit (.pointer (some ⟨b0, 0, none⟩)), .row (r_ApiStep_cells v1)] (OCM.items b0 xd0_0 xc0_0 v0) (fun y I => ∃ (zxd0_0 : Option Addr) (zxc0_0 : Nat), y = .agg (ApiIns.cells r.1) ∧ I = OCM.items b0 zxd0_0 zxc0_0 r.2) := (cm_body_knot K).2.2.2.2.2.2.1 v0 v1 r h
theorem cm_repeat.ok (K : Nat) (v0 : OCM) (v1 : ApiStep) (v2 : List ApiStep) (r : ApiIns × OCM) (h : cm_repeat.f K v0 v1 v2 = some r) : ∀ (b0 : Nat) (xd0_0 : Option Addr) (xc0_0 : Nat), OkH prog 133 [.lit (.pointer (some ⟨b0, 0, none⟩)), .agg (ApiStep.cells v1), .row (r_ApiStep_cells v2)] (OCM.items b0 xd0_0 xc0_0 v0) (fun y I => ∃ (zxd0_0 : Option Addr) (zxc0_0 : Nat), y = .agg (ApiIns.cells r.1) ∧ I = OCM.items b0 zxd0_0 zxc0_0 r.2) := (cm_body_knot K).2.2.2.2.2.2.2.1 v0 v1 v2 r h
theorem cm_addE.ok (K : Nat) (v0 : OCM) (v1 : ApiStep) (v2 : List ApiStep) (r : ApiIns × OCM) (h : cm_addE.f K v0 v1 v2 = some r) : ∀ (b0 : Nat) (xd0_0 : Option Addr) (xc0_0 : Nat), OkH prog 134 [.lit (.pointer (some ⟨b0, 0, none⟩)), .agg (ApiStep.cells v1), .row (r_ApiStep_cells v2)] (OCM.items b0 xd0_0 xc0_0 v0) (fun y I => ∃ (zxd0_0 : Option Addr) (zxc0_0 : Nat), y = .agg (ApiIns.cells r.1) ∧ I = OCM.items b0 zxd0_0 zxc0_0 r.2) := (cm_body_knot K).2.2.2.2.2.2.2.2 v0 v1 v2 r h
theorem code_Compile.ok (K : Nat) (v0 : List ApiStep) (r : ApiProg × Int) (h : code_Compile.f K v0 = some r) :
  Ok prog 23 [.row (r_ApiStep_cells v0)] (.tup [.agg (ApiProg.cells r.1), .lit (.int .i64 r.2)]) := by
 refine enter (xs := [.row (r_ApiStep_cells v0)]) func23 rfl ntmps23 rfl ?_
 intro M w0 a hk
 unfold code_Compile.f at h
 refine wreg fun _ q1 => ?_
 refine l_alloc (zs := (ApiProg.cells (⟨[]⟩ : ApiProg))) [] hk rfl rfl rfl rfl ?_; clear hk; intro bx1 a w hk
 refine go hk<|gA<|ge q1 fun a w hk=>?_
 refine wseq fun _ q2 => ?_
 refine rg hk fun _ q3=>gM<|fun a w hk=>?_
 obtain ⟨t1, hr_t1, h⟩ := bnd h
 refine lf (y := .lit (.int .i64 t1)) hk (f_call hk h0 rfl rfl func47 rfl (by kernel_rfl) (check_Check.ok K v0 _ hr_t1)) fun a w hk=>?_
 refine go hk<|gA<|ge q3 fun a w hk=>?_
 refine rg hk fun _ q4=>gM<|gP (p_neq · h0 rfl rfl)<|ge q4 fun a w hk=>wc hk h (fun h hb=>?_) fun h hb=>?_
 ·refine wreg fun _ q5 => ?_
  refine lf (y := .agg ((ApiProg.cells (⟨[]⟩ : ApiProg)))) hk (f_buildN [] hk h0 rfl rfl rfl) fun a w hk=>?_
  refine go hk<|gM<|fun a w hk=>?_
  refine st0 (cs' := (ApiProg.cells (⟨[]⟩ : ApiProg))) hk rfl (by kernel_rfl) fun w hk => ?_
  refine go hk<|gA<|ge q5 fun a w hk=>?_
  refine wp_ret ?_
  obtain rfl := Option.some.inj h
  exact fretR2 hk rfl (rcell hk rfl (j := 0) rfl underlying50 rfl (by kernel_rfl)) (rtmp hk rfl)
 refine wp_skip ?_
 refine q2 _ _ ?_
 refine wreg fun _ q6 => ?_
 replace hk := hk.nilRow 55 1 c_s_ApiIns_cells (fun _ => rfl)
 refine lf (y := .agg ([.lit (.slice none (List.length ([] : List (List ApiIns))) 0)])) hk (f_buildN [0] hk h0 rfl rfl rfl) fun a w hk=>?_
 refine l_box (cs := [.lit (.slice none (List.length ([] : List (List ApiIns))) 0)]) hk rfl rfl rfl rfl rfl ?_; clear hk; intro bx2 a w hk
 refine go hk<|gA<|ge q6 fun a w hk=>?_
 refine rg hk fun _ q7=>gM<|gM<|fun a w hk=>?_
 obtain ⟨t2, hr_t2, h⟩ := bnd h
 refine l_callH (I1 := (OCM.items bx2 none 0 (⟨([] : List (List ApiIns))⟩ : OCM))) (I2 := [blk bx1 50 ((ApiProg.cells (⟨[]⟩ : ApiProg)))]) (js := [1, 1]) hk rfl rfl rfl rfl rfl func48 rfl (by kernel_rfl) (cm_body.ok K (⟨([] : List (List ApiIns))⟩ : OCM) v0 _ hr_t2 bx2 none 0) ?_; clear hk
 rintro _ _ ⟨zd1, zc1, rfl, rfl⟩ a w hk
 refine lend (q7 _ _ ?_)
 refine rg hk fun _ q8=>gM<|gP (p_nilCheck · h0 rfl)<|gF 0 underlying93<|gB 0 underlying48<|fun a w hk=>?_
 replace hk := S.freezeR (I' := [blk bx2 93 ([.lit (.slice zd1 (List.length t2.2.out) zc1)]), blk bx1 50 ((ApiProg.cells (⟨[]⟩ : ApiProg)))]) r_c_s_ApiIns_cells_eq hk (j := 1) rfl (t := 20) rfl rfl
 refine lf (y := .agg ((ApiProg.cells (⟨t2.2.out⟩ : ApiProg)))) hk (f_buildN [] hk h0 rfl rfl rfl) fun a w hk=>?_
 refine st1 (cs' := (ApiProg.cells (⟨t2.2.out⟩ : ApiProg))) hk rfl (by kernel_rfl) fun w hk => ?_
 refine go hk<|gA<|ge q8 fun a w hk=>?_
 refine wp_ret ?_
 obtain rfl := Option.some.inj h
 exact fretR2 hk rfl (rcell hk rfl (j := 1) rfl underlying50 rfl (by kernel_rfl)) (rtmp hk rfl)
theorem w15_awake.ok (K : Nat)  (r : Bool) (h : w15_awake.f K = some r) :
  Ok prog 21 [] (.lit (.bool r)) := by
 refine enter (xs := []) func21 rfl ntmps21 rfl ?_
 intro M w0 a hk
 unfold w15_awake.f at h
 refine rg hk fun _ q1=>gA<|ge q1 fun a w hk=>?_
 refine wreg fun _ q2 => ?_
 obtain ⟨t1, hr_t1, h⟩ := bnd h
 refine lf (y := .tup [.row (r_ApiStep_cells t1.1), .lit (.int .i64 t1.2.1), .lit (.int .i64 t1.2.2)]) hk (f_call hk h0 rfl rfl func9 rfl (by kernel_rfl) (r12_Parse.ok K ([103, 46, 86, 40, 41, 46, 111, 117, 116, 40, 39, 97, 39, 41] : List UInt8) _ hr_t1)) fun a w hk=>?_
 refine go hk<|gM<|fun a w hk=>?_
 refine go hk<|gX<|gX<|gX<|gA<|gA<|gA<|ge q2 fun a w hk=>?_
 refine rg hk fun _ q3=>gM<|fun a w hk=>?_
 obtain ⟨t2, hr_t2, h⟩ := bnd h
 refine lf (y := .tup [.agg ((ApiProg.cells t2.1)), .lit (.int .i64 t2.2)]) hk (f_call hk h0 rfl rfl func23 rfl (by kernel_rfl) (code_Compile.ok K t1.1 _ hr_t2)) fun a w hk=>?_
 refine go hk<|gM<|fun a w hk=>?_
 refine go hk<|gX<|gX<|fun a w hk=>?_
 refine l_alloc (zs := (ApiProg.cells (⟨[]⟩ : ApiProg))) [] hk rfl rfl rfl rfl ?_; clear hk; intro bx1 a w hk
 refine st0 (cs' := (ApiProg.cells t2.1)) hk rfl (by kernel_rfl) fun w hk => ?_
 refine go hk<|gA<|ge q3 fun a w hk=>?_
 refine rg hk fun _ q4=>gM<|gE<|gM<|gm<|fun a w hk=>?_
 refine lg hk rfl rfl rfl (fun hc => (f_pure (p_eql hk.kn hc rfl rfl))) fun a w hk=>?_
 refine go hk<|gN<|gM<|fun a w hk=>?_
 refine lg (y := .lit (.pointer (some ⟨bx1, 0, none⟩))) hk rfl rfl rfl (fun hc => f_fieldPtr hk hc rfl underlying50 rfl (by kernel_rfl) rfl) fun a w hk=>?_
 refine lg hk rfl rfl rfl (fun hc => f_loadBlk1 hk hc (j := 0) rfl rfl underlying48 rfl rfl) fun a w hk=>?_
 refine lg hk rfl rfl rfl (fun hc => f_len (R := r_c_s_ApiIns_cells) (f := c_s_ApiIns_cells) (l := t2.1.Bodies) r_c_s_ApiIns_cells_eq underlying48 hk hc rfl) fun a w hk=>?_
 refine lg hk rfl rfl rfl (fun hc => (f_pure (p_eql hk.kn hc rfl rfl))) fun a w hk=>?_
 refine go hk<|gN<|gM<|fun a w hk=>?_
 refine lg (y := .lit (.pointer (some ⟨bx1, 0, none⟩))) hk rfl rfl rfl (fun hc => f_fieldPtr hk hc rfl underlying50 rfl (by kernel_rfl) rfl) fun a w hk=>?_
 refine lg hk rfl rfl rfl (fun hc => f_loadBlk1 hk hc (j := 0) rfl rfl underlying48 rfl rfl) fun a w hk=>?_
 obtain ⟨hc1, h⟩ := chk h
 refine lg (y := .ref (c_s_ApiIns_cells (List.getD t2.1.Bodies (Int.toNat 0) default))) hk rfl rfl rfl (fun hc => f_indexAddr (R := r_c_s_ApiIns_cells) (f := c_s_ApiIns_cells) (l := t2.1.Bodies) (sz := 1) r_c_s_ApiIns_cells_eq (fun _ => rfl) hk hc rfl rfl underlying48 (by kernel_rfl) hc1) fun a w hk=>?_
 refine lg hk rfl rfl rfl (fun hc => f_load1 hk hc rfl rfl underlying55 rfl) fun a w hk=>?_
 refine lg hk rfl rfl rfl (fun hc => f_len (R := r_ApiIns_cells) (f := ApiIns.cells) (l := (List.getD t2.1.Bodies (Int.toNat 0) default)) r_ApiIns_cells_eq underlying55 hk hc rfl) fun a w hk=>?_
 refine lg hk rfl rfl rfl (fun hc => (f_pure (p_eql hk.kn hc rfl rfl))) fun a w hk=>?_
 refine go hk<|gN<|gM<|fun a w hk=>?_
 refine lg (y := .lit (.pointer (some ⟨bx1, 0, none⟩))) hk rfl rfl rfl (fun hc => f_fieldPtr hk hc rfl underlying50 rfl (by kernel_rfl) rfl) fun a w hk=>?_
 refine lg hk rfl rfl rfl (fun hc => f_loadBlk1 hk hc (j := 0) rfl rfl underlying48 rfl rfl) fun a w hk=>?_
 obtain ⟨hc2, h⟩ := chk h
 refine lg (y := .ref (c_s_ApiIns_cells (List.getD t2.1.Bodies (Int.toNat 0) default))) hk rfl rfl rfl (fun hc => f_indexAddr (R := r_c_s_ApiIns_cells) (f := c_s_ApiIns_cells) (l := t2.1.Bodies) (sz := 1) r_c_s_ApiIns_cells_eq (fun _ => rfl) hk hc rfl rfl underlying48 (by kernel_rfl) hc2) fun a w hk=>?_
 refine lg hk rfl rfl rfl (fun hc => f_load1 hk hc rfl rfl underlying55 rfl) fun a w hk=>?_
 obtain ⟨hc3, h⟩ := chk h
 refine lg (y := .ref (ApiIns.cells (List.getD (List.getD t2.1.Bodies (Int.toNat 0) default) (Int.toNat 1) default))) hk rfl rfl rfl (fun hc => f_indexAddr (R := r_ApiIns_cells) (f := ApiIns.cells) (l := (List.getD t2.1.Bodies (Int.toNat 0) default)) (sz := 9) r_ApiIns_cells_eq (fun _ => rfl) hk hc rfl rfl underlying55 (by kernel_rfl) hc3) fun a w hk=>?_
 refine lg hk rfl rfl rfl (fun hc => f_fieldAddr hk hc rfl underlying59 rfl (by kernel_rfl) rfl) fun a w hk=>?_
 refine lg hk rfl rfl rfl (fun hc => f_load1 hk hc rfl rfl underlying3 rfl) fun a w hk=>?_
 refine lg hk rfl rfl rfl (fun hc => (f_pure (p_eql hk.kn hc rfl rfl))) fun a w hk=>?_
 refine go hk<|gN<|gA<|ge q4 fun a w hk=>?_
 refine wp_ret ?_
 obtain rfl := Option.some.inj h
 exact fret1 hk rfl rfl
end Go.Proofs.Ytbjbgodcenopnaa
namespace Go.Proofs.Ytbjbgodcenopnaa
open FW _root_.Go.Proofs.Try
set_option linter.unusedVariables false
set_option maxRecDepth 20000
set_option maxHeartbeats 10000000
theorem offshootref13_Number.ok (K : Nat) (v0 : Int) (r : List UInt8) (h : offshootref13_Number.f K v0 = some r) :
  Ok prog 40 [.lit (.int .i64 v0)] (.lit (.string (B r))) := by
 refine enter (xs := [.lit (.int .i64 v0)]) func40 rfl ntmps40 rfl ?_
 intro M w0 a hk
 unfold offshootref13_Number.f at h
 refine rg hk fun _ q1=>gA<|ge q1 fun a w hk=>?_
 refine rg hk fun _ q2=>gM<|gP (p_conv underlying2 underlying77 · h0 rfl)<|gM<|gL<|gA<|gA<|ge q2 fun a w hk=>?_
 refine wseqJ (fun a w => ∃ (v3 : Int) (v4 : Bool), S M w0 a w 33 [] [(3, [], .lit (.int .u64 v3)), (4, [], .lit (.bool v4))] ∧ offshootref13_Number.j1 K v3 v4 = some r) ?_ ?_
 ·clear hk h
  rintro a w ⟨v3, v4, hk, h⟩
  unfold offshootref13_Number.j1 at h
  refine rg hk fun _ q4=>gA<|ge q4 fun a w hk=>?_
  refine wseq fun _ q5 => ?_
  refine wp_block ?_
  refine wloop (T := Nat × Int × Bool × List UInt8) (fun x a w => match x with | (kl1, v3, v4, v5) => S M w0 a w 33 [] [(3, [], .lit (.int .u64 v3)), (4, [], .lit (.bool v4)), (5, [], .lit (.string (B v5)))] ∧ offshootref13_Number.l1 K kl1 v3 v4 v5 = some r) (fun x => x.1) (K, v3, v4, ([] : List UInt8)) ⟨hk.sub ⟨rfl, rfl, rfl, trivial⟩, h⟩ ?_
  clear hk h
  rintro ⟨kl1, v3, v4, v5⟩ a w ⟨hk, h⟩ K' q6
  cases kl1 with
  | zero => simp [offshootref13_Number.l1] at h
  | succ kl1 =>
  rw [offshootref13_Number.l1.eq_2] at h
  refine wseq fun _ q7 => ?_
  refine rg hk fun _ q8=>gM<|gP (p_gtr · h0 rfl rfl)<|gM<|gm<|fun a w hk=>?_
  refine lg hk rfl rfl rfl (fun hc => (f_pure (p_seql hk.kn hc rfl rfl))) fun a w hk=>?_
  refine go hk<|gR<|ge q8 fun a w hk=>wc hk h (fun h hb=>?_) fun h hb=>?_
  ·refine wp_skip ?_
   refine q7 _ _ ?_
   refine wp_block ?_
   refine rg hk fun _ q9=>gM<|gP (p_rem · h0 rfl rfl (show ¬ (10 : Int) = 0 from by decide))<|gP (p_conv underlying77 underlying5 · h0 rfl)<|gD<|fun a w hk=>?_
   refine l_buildSlice (f := c_u8) (l := ([(IntKind.wrap .u8 (48 + (IntKind.wrap .u8 (Int.tmod v3 10))))] : List Int)) hk rfl rfl rfl underlying75 rfl rfl rfl rfl (fun _ => rfl) rfl ?_; clear hk; intro bx1 a w hk
   refine lf (y := .lit (.string (B (toB ([(IntKind.wrap .u8 (48 + (IntKind.wrap .u8 (Int.tmod v3 10))))] : List Int))))) hk (f_toBown (f := c_u8) rfl hk h0 (j := 0) rfl rfl underlying75 underlying5 underlying9) fun a w hk=>?_
   refine go hk<|gM<|fun a w hk=>?_
   obtain ⟨hc1, h⟩ := chk h
   refine go hk<|gP (p_sadd · h0 rfl rfl hc1)<|gA<|ge q9 fun a w hk=>?_
   refine rg1 hk<|gM<|gP (p_quo · h0 rfl rfl (show ¬ (10 : Int) = 0 from by decide))<|gA<|fun a w hk=>?_
   refine wpList_nil ?_
   exact q6 (kl1, (IntKind.wrap .u64 (Int.tdiv v3 10)), v4, ((toB ([(IntKind.wrap .u8 (48 + (IntKind.wrap .u8 (Int.tmod v3 10))))] : List Int)) ++ v5)) _ _ (Nat.lt_succ_self _) ⟨(hk.drop 0).sub ⟨rfl, rfl, rfl, trivial⟩, h⟩
  refine wp_exit ?_; (repeat first | refine te ?_ | refine be rfl ?_); refine bx ?_
  refine q5 _ _ ?_
  refine wseq fun _ q11 => ?_
  refine rg hk fun _ q12=>gM<|ge q12 fun a w hk=>wc hk h (fun h hb=>?_) fun h hb=>?_
  ·refine rg hk fun _ q13=>gM<|fun a w hk=>?_
   obtain ⟨hc2, h⟩ := chk h
   refine go hk<|gP (p_sadd · h0 rfl rfl hc2)<|gA<|ge q13 fun a w hk=>?_
   refine wp_ret ?_
   obtain rfl := Option.some.inj h
   exact fret1 hk rfl rfl
  refine wp_skip ?_
  refine q11 _ _ ?_
  refine rg hk fun _ q14=>gM<|gA<|ge q14 fun a w hk=>?_
  refine wp_ret ?_
  obtain rfl := Option.some.inj h
  exact fret1 hk rfl rfl
 ·intro K' q3
  refine rg hk fun _ q15=>gM<|ge q15 fun a w hk=>wc hk h (fun h hb=>?_) fun h hb=>?_
  ·refine rg1 hk<|gM<|gP (p_neg · h0 rfl)<|gA<|fun a w hk=>?_
   refine wpList_nil ?_
   exact q3 _ _ ⟨(IntKind.wrap .u64 (0 - (IntKind.wrap .u64 v0))), (decide (v0 < 0)), hk.sub ⟨rfl, rfl, trivial⟩, h⟩
  refine wp_skip ?_
  exact q3 _ _ ⟨(IntKind.wrap .u64 v0), (decide (v0 < 0)), hk.sub ⟨rfl, rfl, trivial⟩, h⟩
theorem r02_Eight.ok (K : Nat) (v0 : Int) (r : List UInt8) (h : r02_Eight.f K v0 = some r) :
  Ok prog 34 [.lit (.int .u64 v0)] (.lit (.string (B r))) := by
 refine enter (xs := [.lit (.int .u64 v0)]) func34 rfl ntmps34 rfl ?_
 intro M w0 a hk
 unfold r02_Eight.f at h
 refine rg hk fun _ q1=>gA<|ge q1 fun a w hk=>?_
 refine rg hk fun _ q2=>gA<|ge q2 fun a w hk=>?_
 refine wseq fun _ q3 => ?_
 refine rg hk fun _ q4=>gA<|ge q4 fun a w hk=>?_
 refine wp_block ?_
 refine wloop (T := Nat × Int × List UInt8 × Int) (fun x a w => match x with | (kl1, v0, v3, v4) => S M w0 a w 19 [] [(0, [], .lit (.int .u64 v0)), (3, [], .lit (.string (B v3))), (4, [], .lit (.int .i64 v4))] ∧ r02_Eight.l1 K kl1 v0 v3 v4 = some r) (fun x => x.1) (K, v0, ([] : List UInt8), 0) ⟨hk.sub ⟨rfl, rfl, rfl, trivial⟩, h⟩ ?_
 clear hk h
 rintro ⟨kl1, v0, v3, v4⟩ a w ⟨hk, h⟩ K' q5
 cases kl1 with
 | zero => simp [r02_Eight.l1] at h
 | succ kl1 =>
 rw [r02_Eight.l1.eq_2] at h
 refine wseq fun _ q6 => ?_
 refine rg hk fun _ q7=>gM<|gL<|ge q7 fun a w hk=>wc hk h (fun h hb=>?_) fun h hb=>?_
 ·refine wp_skip ?_
  refine q6 _ _ ?_
  refine wseq fun _ q8 => ?_
  refine wp_block ?_
  refine rg hk fun _ q9=>gM<|gP (p_rem · h0 rfl rfl (show ¬ (256 : Int) = 0 from by decide))<|gP (p_conv underlying77 underlying5 · h0 rfl)<|fun a w hk=>?_
  refine l_buildSlice (f := c_u8) (l := ([(IntKind.wrap .u8 (Int.tmod v0 256))] : List Int)) hk rfl rfl rfl underlying75 rfl rfl rfl rfl (fun _ => rfl) rfl ?_; clear hk; intro bx1 a w hk
  refine lf (y := .lit (.string (B (toB ([(IntKind.wrap .u8 (Int.tmod v0 256))] : List Int))))) hk (f_toBown (f := c_u8) rfl hk h0 (j := 0) rfl rfl underlying75 underlying5 underlying9) fun a w hk=>?_
  refine go hk<|gM<|fun a w hk=>?_
  obtain ⟨hc1, h⟩ := chk h
  refine go hk<|gP (p_sadd · h0 rfl rfl hc1)<|gA<|ge q9 fun a w hk=>?_
  refine rg1 hk<|gM<|gP (p_quo · h0 rfl rfl (show ¬ (256 : Int) = 0 from by decide))<|gA<|fun a w hk=>?_
  refine wpList_nil ?_
  refine q8 _ _ ?_
  refine rg1 hk<|gM<|gD<|gA<|fun a w hk=>?_
  refine wpList_nil ?_
  exact q5 (kl1, (IntKind.wrap .u64 (Int.tdiv v0 256)), ((toB ([(IntKind.wrap .u8 (Int.tmod v0 256))] : List Int)) ++ v3), (IntKind.wrap .i64 (v4 + 1))) _ _ (Nat.lt_succ_self _) ⟨(hk.drop 0).sub ⟨rfl, rfl, rfl, trivial⟩, h⟩
 refine wp_exit ?_; (repeat first | refine te ?_ | refine be rfl ?_); refine bx ?_
 refine q3 _ _ ?_
 refine rg hk fun _ q12=>gM<|gA<|ge q12 fun a w hk=>?_
 refine wp_ret ?_
 obtain rfl := Option.some.inj h
 exact fret1 hk rfl rfl
theorem offshootref13_hex.ok  (v0 : Int) (r : List UInt8) (h : offshootref13_hex.f v0 = some r) :
  Ok prog 41 [.lit (.int .u8 v0)] (.lit (.string (B r))) := by
 refine enter (xs := [.lit (.int .u8 v0)]) func41 rfl ntmps41 rfl ?_
 intro M w0 a hk
 unfold offshootref13_hex.f at h
 refine rg hk fun _ q1=>gA<|ge q1 fun a w hk=>?_
 refine rg hk fun _ q2=>gA<|ge q2 fun a w hk=>?_
 obtain ⟨hc1, h⟩ := chk h
 obtain ⟨hc2, h⟩ := chk h
 obtain ⟨hc3, h⟩ := chk h
 refine wdraw (by kernel_rfl) (by kernel_rfl) hk ?_; clear hk
 refine dfun (y := .lit (.string (B ([48, 49, 50, 51, 52, 53, 54, 55, 56, 57, 97, 98, 99, 100, 101, 102] : List UInt8)))) rfl rfl rfl rfl (fun a w hk => f_move hk h0 rfl) ?_
 refine dfun (y := .lit (.int .u8 v0)) rfl rfl rfl rfl (fun a w hk => f_move hk h0 rfl) ?_
 refine dfun (y := .lit (.int .u8 (IntKind.wrap .u8 (Int.tdiv v0 16)))) rfl rfl rfl rfl (fun a w hk => (f_pure (p_quo hk.kn h0 rfl rfl (show ¬ (16 : Int) = 0 from by decide)))) ?_
 refine dfun (y := .lit (.int .u8 v0)) rfl rfl rfl rfl (fun a w hk => f_move hk h0 rfl) ?_
 refine dfun (y := .lit (.int .u8 (IntKind.wrap .u8 (Int.tdiv v0 16)))) rfl rfl rfl rfl (fun a w hk => (f_pure (p_quo hk.kn h0 rfl rfl (show ¬ (16 : Int) = 0 from by decide)))) ?_
 refine dfun (y := .lit (.int .u8 (IntKind.wrap .u8 ((IntKind.wrap .u8 (Int.tdiv v0 16)) + 1)))) rfl rfl rfl rfl (fun a w hk => (f_pure (p_add hk.kn h0 rfl rfl))) ?_
 refine dfun (y := .lit (.string (B (List.take (Int.toNat (IntKind.wrap .u8 ((IntKind.wrap .u8 (Int.tdiv v0 16)) + 1)) - Int.toNat (IntKind.wrap .u8 (Int.tdiv v0 16))) (List.drop (Int.toNat (IntKind.wrap .u8 (Int.tdiv v0 16))) ([48, 49, 50, 51, 52, 53, 54, 55, 56, 57, 97, 98, 99, 100, 101, 102] : List UInt8)))))) rfl rfl rfl rfl (fun a w hk => (f_pure (p_slice underlying9 hk.kn h0 rfl rfl rfl hc1))) ?_
 refine dfun (y := .lit (.string (B ([48, 49, 50, 51, 52, 53, 54, 55, 56, 57, 97, 98, 99, 100, 101, 102] : List UInt8)))) rfl rfl rfl rfl (fun a w hk => f_move hk h0 rfl) ?_
 refine dfun (y := .lit (.int .u8 v0)) rfl rfl rfl rfl (fun a w hk => f_move hk h0 rfl) ?_
 refine dfun (y := .lit (.int .u8 (Int.tmod v0 16))) rfl rfl rfl rfl (fun a w hk => (f_pure (p_rem hk.kn h0 rfl rfl (show ¬ (16 : Int) = 0 from by decide)))) ?_
 refine dfun (y := .lit (.int .u8 v0)) rfl rfl rfl rfl (fun a w hk => f_move hk h0 rfl) ?_
 refine dfun (y := .lit (.int .u8 (Int.tmod v0 16))) rfl rfl rfl rfl (fun a w hk => (f_pure (p_rem hk.kn h0 rfl rfl (show ¬ (16 : Int) = 0 from by decide)))) ?_
 refine dfun (y := .lit (.int .u8 (IntKind.wrap .u8 ((Int.tmod v0 16) + 1)))) rfl rfl rfl rfl (fun a w hk => (f_pure (p_add hk.kn h0 rfl rfl))) ?_
 refine dfun (y := .lit (.string (B (List.take (Int.toNat (IntKind.wrap .u8 ((Int.tmod v0 16) + 1)) - Int.toNat (Int.tmod v0 16)) (List.drop (Int.toNat (Int.tmod v0 16)) ([48, 49, 50, 51, 52, 53, 54, 55, 56, 57, 97, 98, 99, 100, 101, 102] : List UInt8)))))) rfl rfl rfl rfl (fun a w hk => (f_pure (p_slice underlying9 hk.kn h0 rfl rfl rfl hc2))) ?_
 refine dfun (y := .lit (.string (B ((List.take (Int.toNat (IntKind.wrap .u8 ((IntKind.wrap .u8 (Int.tdiv v0 16)) + 1)) - Int.toNat (IntKind.wrap .u8 (Int.tdiv v0 16))) (List.drop (Int.toNat (IntKind.wrap .u8 (Int.tdiv v0 16))) ([48, 49, 50, 51, 52, 53, 54, 55, 56, 57, 97, 98, 99, 100, 101, 102] : List UInt8))) ++ (List.take (Int.toNat (IntKind.wrap .u8 ((Int.tmod v0 16) + 1)) - Int.toNat (Int.tmod v0 16)) (List.drop (Int.toNat (Int.tmod v0 16)) ([48, 49, 50, 51, 52, 53, 54, 55, 56, 57, 97, 98, 99, 100, 101, 102] : List UInt8))))))) rfl rfl rfl rfl (fun a w hk => (f_pure (p_sadd hk.kn h0 rfl rfl hc3))) ?_
 refine dfun (y := .lit (.string (B ((List.take (Int.toNat (IntKind.wrap .u8 ((IntKind.wrap .u8 (Int.tdiv v0 16)) + 1)) - Int.toNat (IntKind.wrap .u8 (Int.tdiv v0 16))) (List.drop (Int.toNat (IntKind.wrap .u8 (Int.tdiv v0 16))) ([48, 49, 50, 51, 52, 53, 54, 55, 56, 57, 97, 98, 99, 100, 101, 102] : List UInt8))) ++ (List.take (Int.toNat (IntKind.wrap .u8 ((Int.tmod v0 16) + 1)) - Int.toNat (Int.tmod v0 16)) (List.drop (Int.toNat (Int.tmod v0 16)) ([48, 49, 50, 51, 52, 53, 54, 55, 56, 57, 97, 98, 99, 100, 101, 102] : List UInt8))))))) rfl rfl rfl rfl (fun a w hk => f_assign hk h0 rfl) ?_
 refine dend ?_; intro a w hk
 refine wp_ret ?_
 obtain rfl := Option.some.inj h
 exact fret1 hk rfl rfl
theorem offshootref13_Text.ok (K : Nat) (v0 : List UInt8) (r : List UInt8) (h : offshootref13_Text.f K v0 = some r) :
  Ok prog 42 [.lit (.string (B v0))] (.lit (.string (B r))) := by
 refine enter (xs := [.lit (.string (B v0))]) func42 rfl ntmps42 rfl ?_
 intro M w0 a hk
 unfold offshootref13_Text.f at h
 refine rg hk fun _ q1=>gA<|ge q1 fun a w hk=>?_
 refine rg hk fun _ q2=>gA<|ge q2 fun a w hk=>?_
 refine wseq fun _ q3 => ?_
 refine rg hk fun _ q4=>gA<|ge q4 fun a w hk=>?_
 refine wp_block ?_
 refine wloop (T := Nat × List UInt8 × List UInt8 × Int) (fun x a w => match x with | (kl1, v0, v3, v4) => S M w0 a w 43 [] [(0, [], .lit (.string (B v0))), (3, [], .lit (.string (B v3))), (4, [], .lit (.int .i64 v4))] ∧ offshootref13_Text.l1 K kl1 v0 v3 v4 = some r) (fun x => x.1) (K, v0, ([39] : List UInt8), 0) ⟨hk.sub ⟨rfl, rfl, rfl, trivial⟩, h⟩ ?_
 clear hk h
 rintro ⟨kl1, v0, v3, v4⟩ a w ⟨hk, h⟩ K' q5
 cases kl1 with
 | zero => simp [offshootref13_Text.l1] at h
 | succ kl1 =>
 rw [offshootref13_Text.l1.eq_2] at h
 refine wseq fun _ q6 => ?_
 refine rg hk fun _ q7=>gM<|gM<|gP (p_slen underlying9 · h0 rfl)<|gL<|ge q7 fun a w hk=>wc hk h (fun h hb=>?_) fun h hb=>?_
 ·refine wp_skip ?_
  refine q6 _ _ ?_
  refine wseqJ (fun a w => ∃ (v0 : List UInt8) (v3 : List UInt8) (v4 : Int), S M w0 a w 43 [] [(0, [], .lit (.string (B v0))), (3, [], .lit (.string (B v3))), (4, [], .lit (.int .i64 v4))] ∧ offshootref13_Text.j1 (offshootref13_Text.l1 K kl1) K v0 v3 v4 = some r) ?_ ?_
  ·clear hk h
   rintro a w ⟨v0, v3, v4, hk, h⟩
   unfold offshootref13_Text.j1 at h
   refine rg1 hk<|gM<|gD<|gA<|fun a w hk=>?_
   refine wpList_nil ?_
   exact q5 (kl1, v0, v3, (IntKind.wrap .i64 (v4 + 1))) _ _ (Nat.lt_succ_self _) ⟨hk.sub ⟨rfl, rfl, rfl, trivial⟩, h⟩
  ·intro K' q8
   refine wp_block ?_
   refine rg hk fun _ q10=>gM<|gM<|fun a w hk=>?_
   obtain ⟨hc1, h⟩ := chk h
   refine go hk<|gP (p_index underlying9 · h0 rfl rfl hc1)<|gA<|ge q10 fun a w hk=>?_
   refine wseqJ (fun a w => ∃ (v0 : List UInt8) (v3 : List UInt8) (v4 : Int) (v5 : Int), S M w0 a w 43 [] [(0, [], .lit (.string (B v0))), (3, [], .lit (.string (B v3))), (4, [], .lit (.int .i64 v4)), (5, [], .lit (.int .u8 v5))] ∧ offshootref13_Text.j2 (offshootref13_Text.l1 K kl1) K v0 v3 v4 v5 = some r) ?_ ?_
   ·clear hk h
    rintro a w ⟨v0, v3, v4, v5, hk, h⟩
    unfold offshootref13_Text.j2 at h
    refine rg hk fun _ q12=>gM<|gL<|gM<|gm<|fun a w hk=>?_
    refine lg hk rfl rfl rfl (fun hc => (f_pure (p_gtr hk.kn hc rfl rfl))) fun a w hk=>?_
    refine go hk<|gR<|ge q12 fun a w hk=>wc hk h (fun h hb=>?_) fun h hb=>?_
    ·refine rg1 hk<|gM<|gM<|fun a w hk=>?_
     obtain ⟨t1, hr_t1, h⟩ := bnd h
     refine lf (y := .lit (.string (B t1))) hk (f_call hk h0 rfl rfl func41 rfl (by kernel_rfl) (offshootref13_hex.ok v5 _ hr_t1)) fun a w hk=>?_
     obtain ⟨hc2, h⟩ := chk h
     refine go hk<|gP (p_sadd · h0 rfl rfl hc2)<|fun a w hk=>?_
     obtain ⟨hc3, h⟩ := chk h
     refine go hk<|gP (p_sadd · h0 rfl rfl hc3)<|gA<|fun a w hk=>?_
     refine wpList_nil ?_
     exact q8 _ _ ⟨v0, (v3 ++ (([92, 120] : List UInt8) ++ t1)), v4, hk.sub ⟨rfl, rfl, rfl, trivial⟩, h⟩
    refine rg1 hk<|gM<|gM<|gM<|gM<|gD<|fun a w hk=>?_
    obtain ⟨hc4, h⟩ := chk h
    refine go hk<|gP (p_slice underlying9 · h0 rfl rfl rfl hc4)<|fun a w hk=>?_
    obtain ⟨hc5, h⟩ := chk h
    refine go hk<|gP (p_sadd · h0 rfl rfl hc5)<|gA<|fun a w hk=>?_
    refine wpList_nil ?_
    exact q8 _ _ ⟨v0, (v3 ++ (List.take (Int.toNat (IntKind.wrap .i64 (v4 + 1)) - Int.toNat v4) (List.drop (Int.toNat v4) v0))), v4, hk.sub ⟨rfl, rfl, rfl, trivial⟩, h⟩
   ·intro K' q11
    refine rg hk fun _ q15=>gM<|gE<|gM<|gm<|fun a w hk=>?_
    refine lg hk rfl rfl rfl (fun hc => (f_pure (p_eql hk.kn hc rfl rfl))) fun a w hk=>?_
    refine go hk<|gR<|ge q15 fun a w hk=>wc hk h (fun h hb=>?_) fun h hb=>?_
    ·refine rg1 hk<|gM<|fun a w hk=>?_
     obtain ⟨hc6, h⟩ := chk h
     refine go hk<|gP (p_sadd · h0 rfl rfl hc6)<|gA<|fun a w hk=>?_
     refine wpList_nil ?_
     exact q11 _ _ ⟨v0, (v3 ++ ([92] : List UInt8)), v4, (bt v0 v4), hk.sub ⟨rfl, rfl, rfl, rfl, trivial⟩, h⟩
    refine wp_skip ?_
    exact q11 _ _ ⟨v0, v3, v4, (bt v0 v4), hk.sub ⟨rfl, rfl, rfl, rfl, trivial⟩, h⟩
 refine wp_exit ?_; (repeat first | refine te ?_ | refine be rfl ?_); refine bx ?_
 refine q3 _ _ ?_
 refine rg hk fun _ q17=>gM<|fun a w hk=>?_
 obtain ⟨hc7, h⟩ := chk h
 refine go hk<|gP (p_sadd · h0 rfl rfl hc7)<|gA<|ge q17 fun a w hk=>?_
 refine wp_ret ?_
 obtain rfl := Option.some.inj h
 exact fret1 hk rfl rfl
theorem offshootref13_Values.bok (s_offshootref13_Values : List ApiValue → Option (List UInt8)) (s_offshootref13_Value : ApiValue → Option (List UInt8)) (hs_offshootref13_Values : ∀ (v0 : List ApiValue) (r : List UInt8), s_offshootref13_Values v0 = some r → Ok prog 31 [.row (r_ApiValue_cells v0)] (.lit (.string (B r)))) (hs_offshootref13_Value : ∀ (v0 : ApiValue) (r : List UInt8), s_offshootref13_Value v0 = some r → Ok prog 16 [.agg (ApiValue.cells v0)] (.lit (.string (B r)))) (K : Nat) (v0 : List ApiValue) (r : List UInt8) (h : offshootref13_Values.b s_offshootref13_Values s_offshootref13_Value K v0 = some r) :
  Ok prog 31 [.row (r_ApiValue_cells v0)] (.lit (.string (B r))) := by
 refine enter (xs := [.row (r_ApiValue_cells v0)]) func31 rfl ntmps31 rfl ?_
 intro M w0 a hk
 unfold offshootref13_Values.b at h
 refine rg hk fun _ q1=>gA<|ge q1 fun a w hk=>?_
 refine rg hk fun _ q2=>gA<|ge q2 fun a w hk=>?_
 refine wseq fun _ q3 => ?_
 refine rg hk fun _ q4=>gA<|ge q4 fun a w hk=>?_
 refine wp_block ?_
 refine wloop (T := Nat × List ApiValue × List UInt8 × Int) (fun x a w => match x with | (kl1, v0, v3, v4) => S M w0 a w 23 [] [(0, [], .row (r_ApiValue_cells v0)), (3, [], .lit (.string (B v3))), (4, [], .lit (.int .i64 v4))] ∧ offshootref13_Values.l1 s_offshootref13_Values s_offshootref13_Value K kl1 v0 v3 v4 = some r) (fun x => x.1) (K, v0, ([] : List UInt8), 0) ⟨hk.sub ⟨rfl, rfl, rfl, trivial⟩, h⟩ ?_
 clear hk h
 rintro ⟨kl1, v0, v3, v4⟩ a w ⟨hk, h⟩ K' q5
 cases kl1 with
 | zero => simp [offshootref13_Values.l1] at h
 | succ kl1 =>
 rw [offshootref13_Values.l1.eq_2] at h
 refine wseq fun _ q6 => ?_
 refine rg hk fun _ q7=>gM<|gM<|fun a w hk=>?_
 refine lf hk (f_len (R := r_ApiValue_cells) (f := ApiValue.cells) (l := v0) r_ApiValue_cells_eq underlying31 hk h0 rfl) fun a w hk=>?_
 refine go hk<|gL<|ge q7 fun a w hk=>wc hk h (fun h hb=>?_) fun h hb=>?_
 ·refine wp_skip ?_
  refine q6 _ _ ?_
  refine wseq fun _ q8 => ?_
  refine wp_block ?_
  refine wseqJ (fun a w => ∃ (v0 : List ApiValue) (v3 : List UInt8) (v4 : Int), S M w0 a w 23 [] [(0, [], .row (r_ApiValue_cells v0)), (3, [], .lit (.string (B v3))), (4, [], .lit (.int .i64 v4))] ∧ offshootref13_Values.j1 s_offshootref13_Values s_offshootref13_Value (offshootref13_Values.l1 s_offshootref13_Values s_offshootref13_Value K kl1) K v0 v3 v4 = some r) ?_ ?_
  ·clear hk h
   rintro a w ⟨v0, v3, v4, hk, h⟩
   unfold offshootref13_Values.j1 at h
   refine rg1 hk<|gM<|gM<|gM<|fun a w hk=>?_
   obtain ⟨hc1, h⟩ := chk h
   refine lf (y := .ref (ApiValue.cells (List.getD v0 (Int.toNat v4) default))) hk (f_indexAddr (R := r_ApiValue_cells) (f := ApiValue.cells) (l := v0) (sz := 6) r_ApiValue_cells_eq (fun _ => rfl) hk h0 rfl rfl underlying31 (by kernel_rfl) hc1) fun a w hk=>?_
   refine lf hk (f_load hk h0 rfl underlying33 rfl rfl rfl rfl) fun a w hk=>?_
   obtain ⟨t1, hr_t1, h⟩ := bnd h
   refine lf (y := .lit (.string (B t1))) hk (f_call hk h0 rfl rfl func16 rfl (by kernel_rfl) (hs_offshootref13_Value (List.getD v0 (Int.toNat v4) default) _ hr_t1)) fun a w hk=>?_
   obtain ⟨hc2, h⟩ := chk h
   refine go hk<|gP (p_sadd · h0 rfl rfl hc2)<|gA<|fun a w hk=>?_
   refine wpList_nil ?_
   refine q8 _ _ ?_
   refine rg1 hk<|gM<|gD<|gA<|fun a w hk=>?_
   refine wpList_nil ?_
   exact q5 (kl1, v0, (v3 ++ t1), (IntKind.wrap .i64 (v4 + 1))) _ _ (Nat.lt_succ_self _) ⟨hk.sub ⟨rfl, rfl, rfl, trivial⟩, h⟩
  ·intro K' q9
   refine rg hk fun _ q12=>gM<|gP (p_gtr · h0 rfl rfl)<|ge q12 fun a w hk=>wc hk h (fun h hb=>?_) fun h hb=>?_
   ·refine rg1 hk<|gM<|fun a w hk=>?_
    obtain ⟨hc3, h⟩ := chk h
    refine go hk<|gP (p_sadd · h0 rfl rfl hc3)<|gA<|fun a w hk=>?_
    refine wpList_nil ?_
    exact q9 _ _ ⟨v0, (v3 ++ ([44, 32] : List UInt8)), v4, hk.sub ⟨rfl, rfl, rfl, trivial⟩, h⟩
   refine wp_skip ?_
   exact q9 _ _ ⟨v0, v3, v4, hk.sub ⟨rfl, rfl, rfl, trivial⟩, h⟩
 refine wp_exit ?_; (repeat first | refine te ?_ | refine be rfl ?_); refine bx ?_
 refine q3 _ _ ?_
 refine rg hk fun _ q14=>gM<|gA<|ge q14 fun a w hk=>?_
 refine wp_ret ?_
 obtain rfl := Option.some.inj h
 exact fret1 hk rfl rfl
end Go.Proofs.Ytbjbgodcenopnaa
namespace Go.Proofs.Ytbjbgodcenopnaa
open FW _root_.Go.Proofs.Try
set_option linter.unusedVariables false
set_option maxRecDepth 20000
set_option maxHeartbeats 10000000
theorem offshootref13_Value.bok (s_offshootref13_Values : List ApiValue → Option (List UInt8)) (s_offshootref13_Value : ApiValue → Option (List UInt8)) (hs_offshootref13_Values : ∀ (v0 : List ApiValue) (r : List UInt8), s_offshootref13_Values v0 = some r → Ok prog 31 [.row (r_ApiValue_cells v0)] (.lit (.string (B r)))) (hs_offshootref13_Value : ∀ (v0 : ApiValue) (r : List UInt8), s_offshootref13_Value v0 = some r → Ok prog 16 [.agg (ApiValue.cells v0)] (.lit (.string (B r)))) (K : Nat) (v0 : ApiValue) (r : List UInt8) (h : offshootref13_Value.b s_offshootref13_Values s_offshootref13_Value K v0 = some r) :
  Ok prog 16 [.agg (ApiValue.cells v0)] (.lit (.string (B r))) := by
 refine enter (xs := [.agg (ApiValue.cells v0)]) func16 rfl ntmps16 rfl ?_
 intro M w0 a hk
 unfold offshootref13_Value.b at h
 refine wreg fun _ q1 => ?_
 refine l_box (cs := (ApiValue.cells v0)) hk rfl rfl rfl rfl rfl ?_; clear hk; intro bx1 a w hk
 refine go hk<|gA<|ge q1 fun a w hk=>?_
 refine wseq fun _ q2 => ?_
 refine rg hk fun _ q3=>gF 0 underlying33<|gB 0 underlying3<|ge q3 fun a w hk=>?_
 refine wp_block ?_
 refine rg hk fun _ q4=>gE<|gA<|ge q4 fun a w hk=>wc hk h (fun h hb=>?_) fun h hb=>?_
 ·refine rg hk fun _ q5=>gA<|ge q5 fun a w hk=>?_
  refine wp_ret ?_
  obtain rfl := Option.some.inj h
  exact fret1 hk rfl rfl
 refine rg hk fun _ q6=>gE<|gA<|ge q6 fun a w hk=>wc hk h (fun h hb=>?_) fun h hb=>?_
 ·refine wseq fun _ q7 => ?_
  refine rg hk fun _ q8=>gF 1 underlying33<|gB 0 underlying4<|ge q8 fun a w hk=>wc hk h (fun h hb=>?_) fun h hb=>?_
  ·refine rg hk fun _ q9=>gA<|ge q9 fun a w hk=>?_
   refine wp_ret ?_
   obtain rfl := Option.some.inj h
   exact fret1 hk rfl rfl
  refine wp_skip ?_
  refine q7 _ _ ?_
  refine rg hk fun _ q10=>gA<|ge q10 fun a w hk=>?_
  refine wp_ret ?_
  obtain rfl := Option.some.inj h
  exact fret1 hk rfl rfl
 refine rg hk fun _ q11=>gE<|gA<|ge q11 fun a w hk=>wc hk h (fun h hb=>?_) fun h hb=>?_
 ·refine rg hk fun _ q12=>gF 2 underlying33<|gB 0 underlying2<|fun a w hk=>?_
  obtain ⟨t1, hr_t1, h⟩ := bnd h
  refine lf (y := .lit (.string (B t1))) hk (f_call hk h0 rfl rfl func40 rfl (by kernel_rfl) (offshootref13_Number.ok K v0.N _ hr_t1)) fun a w hk=>?_
  refine go hk<|gA<|ge q12 fun a w hk=>?_
  refine wp_ret ?_
  obtain rfl := Option.some.inj h
  exact fret1 hk rfl rfl
 refine rg hk fun _ q13=>gE<|gA<|ge q13 fun a w hk=>wc hk h (fun h hb=>?_) fun h hb=>?_
 ·refine rg hk fun _ q14=>gF 3 underlying33<|gB 0 underlying30<|fun a w hk=>?_
  obtain ⟨t2, hr_t2, h⟩ := bnd h
  refine lf (y := .lit (.int .u64 t2)) hk (f_call hk h0 rfl rfl func35 rfl (by kernel_rfl) (r01_Canon.ok v0.F _ hr_t2)) fun a w hk=>?_
  obtain ⟨t3, hr_t3, h⟩ := bnd h
  refine lf (y := .lit (.string (B t3))) hk (f_call hk h0 rfl rfl func34 rfl (by kernel_rfl) (r02_Eight.ok K t2 _ hr_t3)) fun a w hk=>?_
  refine go hk<|gA<|gA<|ge q14 fun a w hk=>?_
  refine wseq fun _ q15 => ?_
  refine rg hk fun _ q16=>gA<|ge q16 fun a w hk=>?_
  refine wp_block ?_
  refine wloop (T := Nat × List UInt8 × List UInt8 × Int) (fun x a w => match x with | (kl1, v3, v4, v5) => S M w0 a w 71 [] [(3, [], .lit (.string (B v3))), (4, [], .lit (.string (B v4))), (5, [], .lit (.int .i64 v5))] ∧ offshootref13_Value.l1 s_offshootref13_Values s_offshootref13_Value K kl1 v3 v4 v5 = some r) (fun x => x.1) (K, t3, ([] : List UInt8), 0) ⟨(hk.drop 0).sub ⟨rfl, rfl, rfl, trivial⟩, h⟩ ?_
  clear hk h
  rintro ⟨kl1, v3, v4, v5⟩ a w ⟨hk, h⟩ K' q17
  cases kl1 with
  | zero => simp [offshootref13_Value.l1] at h
  | succ kl1 =>
  rw [offshootref13_Value.l1.eq_2] at h
  refine wseq fun _ q18 => ?_
  refine rg hk fun _ q19=>gM<|gL<|ge q19 fun a w hk=>wc hk h (fun h hb=>?_) fun h hb=>?_
  ·refine wp_skip ?_
   refine q18 _ _ ?_
   refine wseq fun _ q20 => ?_
   refine wp_block ?_
   refine rg1 hk<|gM<|gM<|gM<|fun a w hk=>?_
   obtain ⟨hc1, h⟩ := chk h
   refine go hk<|gP (p_index underlying9 · h0 rfl rfl hc1)<|fun a w hk=>?_
   obtain ⟨t4, hr_t4, h⟩ := bnd h
   refine lf (y := .lit (.string (B t4))) hk (f_call hk h0 rfl rfl func41 rfl (by kernel_rfl) (offshootref13_hex.ok (bt v3 v5) _ hr_t4)) fun a w hk=>?_
   obtain ⟨hc2, h⟩ := chk h
   refine go hk<|gP (p_sadd · h0 rfl rfl hc2)<|gA<|fun a w hk=>?_
   refine wpList_nil ?_
   refine q20 _ _ ?_
   refine rg1 hk<|gM<|gD<|gA<|fun a w hk=>?_
   refine wpList_nil ?_
   exact q17 (kl1, v3, (v4 ++ t4), (IntKind.wrap .i64 (v5 + 1))) _ _ (Nat.lt_succ_self _) ⟨hk.sub ⟨rfl, rfl, rfl, trivial⟩, h⟩
  refine wp_exit ?_; (repeat first | refine te ?_ | refine be rfl ?_); refine bx ?_
  refine q15 _ _ ?_
  refine rg hk fun _ q23=>gM<|fun a w hk=>?_
  obtain ⟨hc3, h⟩ := chk h
  refine go hk<|gP (p_sadd · h0 rfl rfl hc3)<|fun a w hk=>?_
  obtain ⟨hc4, h⟩ := chk h
  refine go hk<|gP (p_sadd · h0 rfl rfl hc4)<|gA<|ge q23 fun a w hk=>?_
  refine wp_ret ?_
  obtain rfl := Option.some.inj h
  exact fret1 hk rfl rfl
 refine rg hk fun _ q24=>gE<|gA<|ge q24 fun a w hk=>wc hk h (fun h hb=>?_) fun h hb=>?_
 ·refine rg hk fun _ q25=>gF 4 underlying33<|gB 0 underlying9<|fun a w hk=>?_
  obtain ⟨t5, hr_t5, h⟩ := bnd h
  refine lf (y := .lit (.string (B t5))) hk (f_call hk h0 rfl rfl func42 rfl (by kernel_rfl) (offshootref13_Text.ok K v0.S _ hr_t5)) fun a w hk=>?_
  refine go hk<|gA<|ge q25 fun a w hk=>?_
  refine wp_ret ?_
  obtain rfl := Option.some.inj h
  exact fret1 hk rfl rfl
 refine rg hk fun _ q26=>gE<|gA<|ge q26 fun a w hk=>wc hk h (fun h hb=>?_) fun h hb=>?_
 ·refine rg hk fun _ q27=>gF 5 underlying33<|gB 0 underlying31<|fun a w hk=>?_
  obtain ⟨t6, hr_t6, h⟩ := bnd h
  refine lf (y := .lit (.string (B t6))) hk (f_call hk h0 rfl rfl func31 rfl (by kernel_rfl) (hs_offshootref13_Values v0.L _ hr_t6)) fun a w hk=>?_
  obtain ⟨hc5, h⟩ := chk h
  refine go hk<|gP (p_sadd · h0 rfl rfl hc5)<|fun a w hk=>?_
  obtain ⟨hc6, h⟩ := chk h
  refine go hk<|gP (p_sadd · h0 rfl rfl hc6)<|gA<|ge q27 fun a w hk=>?_
  refine wp_ret ?_
  obtain rfl := Option.some.inj h
  exact fret1 hk rfl rfl
 refine rg hk fun _ q28=>gE<|gA<|ge q28 fun a w hk=>wc hk h (fun h hb=>?_) fun h hb=>?_
 ·refine rg hk fun _ q29=>gF 5 underlying33<|gB 0 underlying31<|fun a w hk=>?_
  obtain ⟨t7, hr_t7, h⟩ := bnd h
  refine lf (y := .lit (.string (B t7))) hk (f_call hk h0 rfl rfl func31 rfl (by kernel_rfl) (hs_offshootref13_Values v0.L _ hr_t7)) fun a w hk=>?_
  obtain ⟨hc7, h⟩ := chk h
  refine go hk<|gP (p_sadd · h0 rfl rfl hc7)<|fun a w hk=>?_
  obtain ⟨hc8, h⟩ := chk h
  refine go hk<|gP (p_sadd · h0 rfl rfl hc8)<|gA<|ge q29 fun a w hk=>?_
  refine wp_ret ?_
  obtain rfl := Option.some.inj h
  exact fret1 hk rfl rfl
 refine rg hk fun _ q30=>gE<|gA<|ge q30 fun a w hk=>wc hk h (fun h hb=>?_) fun h hb=>?_
 ·refine rg hk fun _ q31=>gF 2 underlying33<|gB 0 underlying2<|fun a w hk=>?_
  obtain ⟨t8, hr_t8, h⟩ := bnd h
  refine lf (y := .lit (.string (B t8))) hk (f_call hk h0 rfl rfl func40 rfl (by kernel_rfl) (offshootref13_Number.ok K v0.N _ hr_t8)) fun a w hk=>?_
  obtain ⟨hc9, h⟩ := chk h
  refine go hk<|gP (p_sadd · h0 rfl rfl hc9)<|fun a w hk=>?_
  obtain ⟨hc10, h⟩ := chk h
  refine go hk<|gP (p_sadd · h0 rfl rfl hc10)<|gA<|ge q31 fun a w hk=>?_
  refine wp_ret ?_
  obtain rfl := Option.some.inj h
  exact fret1 hk rfl rfl
 refine rg hk fun _ q32=>gE<|gA<|ge q32 fun a w hk=>wc hk h (fun h hb=>?_) fun h hb=>?_
 ·refine rg hk fun _ q33=>gF 2 underlying33<|gB 0 underlying2<|fun a w hk=>?_
  obtain ⟨t9, hr_t9, h⟩ := bnd h
  refine lf (y := .lit (.string (B t9))) hk (f_call hk h0 rfl rfl func40 rfl (by kernel_rfl) (offshootref13_Number.ok K v0.N _ hr_t9)) fun a w hk=>?_
  obtain ⟨hc11, h⟩ := chk h
  refine go hk<|gP (p_sadd · h0 rfl rfl hc11)<|fun a w hk=>?_
  obtain ⟨hc12, h⟩ := chk h
  refine go hk<|gP (p_sadd · h0 rfl rfl hc12)<|gA<|ge q33 fun a w hk=>?_
  refine wp_ret ?_
  obtain rfl := Option.some.inj h
  exact fret1 hk rfl rfl
 refine wp_skip ?_
 refine q2 _ _ ?_
 refine rg hk fun _ q34=>gA<|ge q34 fun a w hk=>?_
 refine wp_ret ?_
 obtain rfl := Option.some.inj h
 exact fret1 hk rfl rfl
theorem offshootref13_Values_knot : ∀ K : Nat, (∀ (v0 : List ApiValue) (r : List UInt8), offshootref13_Values.f K v0 = some r → Ok prog 31 [.row (r_ApiValue_cells v0)] (.lit (.string (B r)))) ∧ (∀ (v0 : ApiValue) (r : List UInt8), offshootref13_Value.f K v0 = some r → Ok prog 16 [.agg (ApiValue.cells v0)] (.lit (.string (B r))))
 | 0 => ⟨fun v0 r h => by simp [offshootref13_Values.f] at h, fun v0 r h => by simp [offshootref13_Value.f] at h⟩
 | K + 1 => ⟨fun v0 r h => by rw [offshootref13_Values.f] at h; exact offshootref13_Values.bok _ _ (offshootref13_Values_knot K).1 (offshootref13_Values_knot K).2 K v0 r h, fun v0 r h => by rw [offshootref13_Value.f] at h; exact offshootref13_Value.bok _ _ (offshootref13_Values_knot K).1 (offshootref13_Values_knot K).2 K v0 r h⟩
theorem offshootref13_Values.ok (K : Nat) (v0 : List ApiValue) (r : List UInt8) (h : offshootref13_Values.f K v0 = some r) : Ok prog 31 [.row (r_ApiValue_cells v0)] (.lit (.string (B r))) := (offshootref13_Values_knot K).1 v0 r h
theorem offshootref13_Value.ok (K : Nat) (v0 : ApiValue) (r : List UInt8) (h : offshootref13_Value.f K v0 = some r) : Ok prog 16 [.agg (ApiValue.cells v0)] (.lit (.string (B r))) := (offshootref13_Values_knot K).2 v0 r h
theorem offshootref13_Pred.bok (s_offshootref13_Pred : ApiPred → Option (List UInt8)) (hs_offshootref13_Pred : ∀ (v0 : ApiPred) (r : List UInt8), s_offshootref13_Pred v0 = some r → Ok prog 12 [.agg (ApiPred.cells v0)] (.lit (.string (B r)))) (K : Nat) (v0 : ApiPred) (r : List UInt8) (h : offshootref13_Pred.b s_offshootref13_Pred K v0 = some r) :
  Ok prog 12 [.agg (ApiPred.cells v0)] (.lit (.string (B r))) := by
 refine enter (xs := [.agg (ApiPred.cells v0)]) func12 rfl ntmps12 rfl ?_
 intro M w0 a hk
 unfold offshootref13_Pred.b at h
 refine wreg fun _ q1 => ?_
 refine l_box (cs := (ApiPred.cells v0)) hk rfl rfl rfl rfl rfl ?_; clear hk; intro bx1 a w hk
 refine go hk<|gA<|ge q1 fun a w hk=>?_
 refine wseq fun _ q2 => ?_
 refine rg hk fun _ q3=>gF 0 underlying36<|gB 0 underlying9<|ge q3 fun a w hk=>?_
 refine wp_block ?_
 refine wseqJ (fun a w => ∃ (y1 : ApiPred) (v4 : List UInt8) (v5 : Bool), S M w0 a w 41 [blk bx1 36 ((ApiPred.cells y1))] [(1, [], .lit (.pointer (some ⟨bx1, 0, none⟩))), (4, [], .lit (.string (B v4))), (5, [], .lit (.bool v5))] ∧ offshootref13_Pred.j1 s_offshootref13_Pred K y1 v4 v5 = some r) ?_ ?_
 ·clear hk h
  rintro a w ⟨y1, v4, v5, hk, h⟩
  unfold offshootref13_Pred.j1 at h
  refine wc hk h (fun h hb=>?_) fun h hb=>?_
  ·obtain ⟨hc1, h⟩ := chk h
   obtain ⟨t1, hr_t1, h⟩ := bnd h
   obtain ⟨hc2, h⟩ := chk h
   obtain ⟨hc3, h⟩ := chk h
   obtain ⟨hc4, h⟩ := chk h
   obtain ⟨hc5, h⟩ := chk h
   obtain ⟨t2, hr_t2, h⟩ := bnd h
   obtain ⟨hc6, h⟩ := chk h
   obtain ⟨hc7, h⟩ := chk h
   refine wdraw (by kernel_rfl) (by kernel_rfl) hk ?_; clear hk
   refine dfun (y := .lit (.pointer (some ⟨bx1, 2, none⟩))) rfl rfl rfl rfl (fun a w hk => f_fieldPtr hk h0 rfl underlying36 rfl (by kernel_rfl) rfl) ?_
   refine dfun (y := .row (r_ApiPred_cells y1.Kids)) rfl rfl rfl rfl (fun a w hk => f_loadBlk1 hk h0 (j := 0) rfl rfl underlying34 rfl rfl) ?_
   refine dfun (y := .ref (ApiPred.cells (List.getD y1.Kids (Int.toNat 0) default))) rfl rfl rfl rfl (fun a w hk => f_indexAddr (R := r_ApiPred_cells) (f := ApiPred.cells) (l := y1.Kids) (sz := 3) r_ApiPred_cells_eq (fun _ => rfl) hk h0 rfl rfl underlying34 (by kernel_rfl) hc1) ?_
   refine dfun (y := .agg ((ApiPred.cells (List.getD y1.Kids (Int.toNat 0) default)))) rfl rfl rfl rfl (fun a w hk => f_load hk h0 rfl underlying36 rfl rfl rfl rfl) ?_
   refine dfun (y := .lit (.string (B t1))) rfl rfl rfl rfl (fun a w hk => f_call hk h0 rfl rfl func12 rfl (by kernel_rfl) (hs_offshootref13_Pred (List.getD y1.Kids (Int.toNat 0) default) _ hr_t1)) ?_
   refine dfun (y := .lit (.string (B (t1 ++ ([46] : List UInt8))))) rfl rfl rfl rfl (fun a w hk => (f_pure (p_sadd hk.kn h0 rfl rfl hc2))) ?_
   refine dfun (y := .lit (.pointer (some ⟨bx1, 0, none⟩))) rfl rfl rfl rfl (fun a w hk => f_fieldPtr hk h0 rfl underlying36 rfl (by kernel_rfl) rfl) ?_
   refine dfun (y := .lit (.string (B y1.Op))) rfl rfl rfl rfl (fun a w hk => f_loadBlk1 hk h0 (j := 0) rfl rfl underlying9 rfl rfl) ?_
   refine dfun (y := .lit (.string (B ((t1 ++ ([46] : List UInt8)) ++ y1.Op)))) rfl rfl rfl rfl (fun a w hk => (f_pure (p_sadd hk.kn h0 rfl rfl hc3))) ?_
   refine dfun (y := .lit (.string (B (((t1 ++ ([46] : List UInt8)) ++ y1.Op) ++ ([40] : List UInt8))))) rfl rfl rfl rfl (fun a w hk => (f_pure (p_sadd hk.kn h0 rfl rfl hc4))) ?_
   refine dfun (y := .lit (.pointer (some ⟨bx1, 2, none⟩))) rfl rfl rfl rfl (fun a w hk => f_fieldPtr hk h0 rfl underlying36 rfl (by kernel_rfl) rfl) ?_
   refine dfun (y := .row (r_ApiPred_cells y1.Kids)) rfl rfl rfl rfl (fun a w hk => f_loadBlk1 hk h0 (j := 0) rfl rfl underlying34 rfl rfl) ?_
   refine dfun (y := .ref (ApiPred.cells (List.getD y1.Kids (Int.toNat 1) default))) rfl rfl rfl rfl (fun a w hk => f_indexAddr (R := r_ApiPred_cells) (f := ApiPred.cells) (l := y1.Kids) (sz := 3) r_ApiPred_cells_eq (fun _ => rfl) hk h0 rfl rfl underlying34 (by kernel_rfl) hc5) ?_
   refine dfun (y := .agg ((ApiPred.cells (List.getD y1.Kids (Int.toNat 1) default)))) rfl rfl rfl rfl (fun a w hk => f_load hk h0 rfl underlying36 rfl rfl rfl rfl) ?_
   refine dfun (y := .lit (.string (B t2))) rfl rfl rfl rfl (fun a w hk => f_call hk h0 rfl rfl func12 rfl (by kernel_rfl) (hs_offshootref13_Pred (List.getD y1.Kids (Int.toNat 1) default) _ hr_t2)) ?_
   refine dfun (y := .lit (.string (B ((((t1 ++ ([46] : List UInt8)) ++ y1.Op) ++ ([40] : List UInt8)) ++ t2)))) rfl rfl rfl rfl (fun a w hk => (f_pure (p_sadd hk.kn h0 rfl rfl hc6))) ?_
   refine dfun (y := .lit (.string (B (((((t1 ++ ([46] : List UInt8)) ++ y1.Op) ++ ([40] : List UInt8)) ++ t2) ++ ([41] : List UInt8))))) rfl rfl rfl rfl (fun a w hk => (f_pure (p_sadd hk.kn h0 rfl rfl hc7))) ?_
   refine dfun (y := .lit (.string (B (((((t1 ++ ([46] : List UInt8)) ++ y1.Op) ++ ([40] : List UInt8)) ++ t2) ++ ([41] : List UInt8))))) rfl rfl rfl rfl (fun a w hk => f_assign hk h0 rfl) ?_
   refine dend ?_; intro a w hk
   refine wp_ret ?_
   obtain rfl := Option.some.inj h
   exact fret1 hk rfl rfl
  refine rg hk fun _ q6=>gS<|gA<|ge q6 fun a w hk=>wc hk h (fun h hb=>?_) fun h hb=>?_
  ·refine rg hk fun _ q7=>gF 2 underlying36<|gB 0 underlying34<|fun a w hk=>?_
   obtain ⟨hc8, h⟩ := chk h
   refine lf (y := .ref (ApiPred.cells (List.getD y1.Kids (Int.toNat 0) default))) hk (f_indexAddr (R := r_ApiPred_cells) (f := ApiPred.cells) (l := y1.Kids) (sz := 3) r_ApiPred_cells_eq (fun _ => rfl) hk h0 rfl rfl underlying34 (by kernel_rfl) hc8) fun a w hk=>?_
   refine lf hk (f_load hk h0 rfl underlying36 rfl rfl rfl rfl) fun a w hk=>?_
   obtain ⟨t3, hr_t3, h⟩ := bnd h
   refine lf (y := .lit (.string (B t3))) hk (f_call hk h0 rfl rfl func12 rfl (by kernel_rfl) (hs_offshootref13_Pred (List.getD y1.Kids (Int.toNat 0) default) _ hr_t3)) fun a w hk=>?_
   obtain ⟨hc9, h⟩ := chk h
   refine go hk<|gP (p_sadd · h0 rfl rfl hc9)<|gA<|ge q7 fun a w hk=>?_
   refine wp_ret ?_
   obtain rfl := Option.some.inj h
   exact fret1 hk rfl rfl
  refine wp_skip ?_
  refine q2 _ _ ?_
  obtain ⟨hc10, h⟩ := chk h
  obtain ⟨t4, hr_t4, h⟩ := bnd h
  obtain ⟨hc11, h⟩ := chk h
  obtain ⟨hc12, h⟩ := chk h
  refine wdraw (by kernel_rfl) (by kernel_rfl) hk ?_; clear hk
  refine dfun (y := .lit (.pointer (some ⟨bx1, 0, none⟩))) rfl rfl rfl rfl (fun a w hk => f_fieldPtr hk h0 rfl underlying36 rfl (by kernel_rfl) rfl) ?_
  refine dfun (y := .lit (.string (B y1.Op))) rfl rfl rfl rfl (fun a w hk => f_loadBlk1 hk h0 (j := 0) rfl rfl underlying9 rfl rfl) ?_
  refine dfun (y := .lit (.string (B (y1.Op ++ ([40] : List UInt8))))) rfl rfl rfl rfl (fun a w hk => (f_pure (p_sadd hk.kn h0 rfl rfl hc10))) ?_
  refine dfun (y := .lit (.pointer (some ⟨bx1, 1, none⟩))) rfl rfl rfl rfl (fun a w hk => f_fieldPtr hk h0 rfl underlying36 rfl (by kernel_rfl) rfl) ?_
  refine dfun (y := .row (r_ApiValue_cells y1.L)) rfl rfl rfl rfl (fun a w hk => f_loadBlk1 hk h0 (j := 0) rfl rfl underlying31 rfl rfl) ?_
  refine dfun (y := .lit (.string (B t4))) rfl rfl rfl rfl (fun a w hk => f_call hk h0 rfl rfl func31 rfl (by kernel_rfl) (offshootref13_Values.ok K y1.L _ hr_t4)) ?_
  refine dfun (y := .lit (.string (B ((y1.Op ++ ([40] : List UInt8)) ++ t4)))) rfl rfl rfl rfl (fun a w hk => (f_pure (p_sadd hk.kn h0 rfl rfl hc11))) ?_
  refine dfun (y := .lit (.string (B (((y1.Op ++ ([40] : List UInt8)) ++ t4) ++ ([41] : List UInt8))))) rfl rfl rfl rfl (fun a w hk => (f_pure (p_sadd hk.kn h0 rfl rfl hc12))) ?_
  refine dfun (y := .lit (.string (B (((y1.Op ++ ([40] : List UInt8)) ++ t4) ++ ([41] : List UInt8))))) rfl rfl rfl rfl (fun a w hk => f_assign hk h0 rfl) ?_
  refine dend ?_; intro a w hk
  refine wp_ret ?_
  obtain rfl := Option.some.inj h
  exact fret1 hk rfl rfl
 ·intro K' q4
  refine rg hk fun _ q9=>gS<|gA<|ge q9 fun a w hk=>wc hk h (fun h hb=>?_) fun h hb=>?_
  ·refine wp_skip ?_
   exact q4 _ _ ⟨v0, v0.Op, (decide (v0.Op = ([97, 110, 100] : List UInt8))), hk.sub ⟨rfl, rfl, rfl, trivial⟩, h⟩
  refine rg1 hk<|gS<|gA<|fun a w hk=>?_
  refine wpList_nil ?_
  exact q4 _ _ ⟨v0, v0.Op, (decide (v0.Op = ([111, 114] : List UInt8))), hk.sub ⟨rfl, rfl, rfl, trivial⟩, h⟩
theorem offshootref13_Pred_knot : ∀ K : Nat, (∀ (v0 : ApiPred) (r : List UInt8), offshootref13_Pred.f K v0 = some r → Ok prog 12 [.agg (ApiPred.cells v0)] (.lit (.string (B r))))
 | 0 => fun v0 r h => by simp [offshootref13_Pred.f] at h
 | K + 1 => fun v0 r h => by rw [offshootref13_Pred.f] at h; exact offshootref13_Pred.bok _ (offshootref13_Pred_knot K) K v0 r h
theorem offshootref13_Pred.ok (K : Nat) (v0 : ApiPred) (r : List UInt8) (h : offshootref13_Pred.f K v0 = some r) : Ok prog 12 [.agg (ApiPred.cells v0)] (.lit (.string (B r))) := (offshootref13_Pred_knot K) v0 r h
end Go.Proofs.Ytbjbgodcenopnaa
namespace Go.Proofs.Ytbjbgodcenopnaa
open FW _root_.Go.Proofs.Try
set_option linter.unusedVariables false
set_option maxRecDepth 20000
set_option maxHeartbeats 10000000
theorem offshootref13_Steps.bok (s_offshootref13_Steps : List ApiStep → Option (List UInt8)) (hs_offshootref13_Steps : ∀ (v0 : List ApiStep) (r : List UInt8), s_offshootref13_Steps v0 = some r → Ok prog 22 [.row (r_ApiStep_cells v0)] (.lit (.string (B r)))) (K : Nat) (v0 : List ApiStep) (r : List UInt8) (h : offshootref13_Steps.b s_offshootref13_Steps K v0 = some r) :
  Ok prog 22 [.row (r_ApiStep_cells v0)] (.lit (.string (B r))) := by
 refine enter (xs := [.row (r_ApiStep_cells v0)]) func22 rfl ntmps22 rfl ?_
 intro M w0 a hk
 unfold offshootref13_Steps.b at h
 refine rg hk fun _ q1=>gA<|ge q1 fun a w hk=>?_
 refine rg hk fun _ q2=>gA<|ge q2 fun a w hk=>?_
 refine wseq fun _ q3 => ?_
 refine rg hk fun _ q4=>gA<|ge q4 fun a w hk=>?_
 refine wp_block ?_
 refine wloop (T := Nat × List ApiStep × List UInt8 × Int) (fun x a w => match x with | (kl1, v0, v3, v4) => S M w0 a w 79 [] [(0, [], .row (r_ApiStep_cells v0)), (3, [], .lit (.string (B v3))), (4, [], .lit (.int .i64 v4))] ∧ offshootref13_Steps.l1 s_offshootref13_Steps K kl1 v0 v3 v4 = some r) (fun x => x.1) (K, v0, ([] : List UInt8), 0) ⟨hk.sub ⟨rfl, rfl, rfl, trivial⟩, h⟩ ?_
 clear hk h
 rintro ⟨kl1, v0, v3, v4⟩ a w ⟨hk, h⟩ K' q5
 cases kl1 with
 | zero => simp [offshootref13_Steps.l1] at h
 | succ kl1 =>
 rw [offshootref13_Steps.l1.eq_2] at h
 refine wseq fun _ q6 => ?_
 refine rg hk fun _ q7=>gM<|gM<|fun a w hk=>?_
 refine lf hk (f_len (R := r_ApiStep_cells) (f := ApiStep.cells) (l := v0) r_ApiStep_cells_eq underlying22 hk h0 rfl) fun a w hk=>?_
 refine go hk<|gL<|ge q7 fun a w hk=>wc hk h (fun h hb=>?_) fun h hb=>?_
 ·refine wp_skip ?_
  refine q6 _ _ ?_
  refine wseq fun _ q8 => ?_
  refine wp_block ?_
  refine wseqJ (fun a w => ∃ (v0 : List ApiStep) (v3 : List UInt8) (v4 : Int), S M w0 a w 79 [] [(0, [], .row (r_ApiStep_cells v0)), (3, [], .lit (.string (B v3))), (4, [], .lit (.int .i64 v4))] ∧ offshootref13_Steps.j1 s_offshootref13_Steps (offshootref13_Steps.l1 s_offshootref13_Steps K kl1) K v0 v3 v4 = some r) ?_ ?_
  ·clear hk h
   rintro a w ⟨v0, v3, v4, hk, h⟩
   unfold offshootref13_Steps.j1 at h
   refine rg hk fun _ q10=>gM<|gM<|gM<|fun a w hk=>?_
   obtain ⟨hc1, h⟩ := chk h
   refine lf (y := .ref (ApiStep.cells (List.getD v0 (Int.toNat v4) default))) hk (f_indexAddr (R := r_ApiStep_cells) (f := ApiStep.cells) (l := v0) (sz := 2) r_ApiStep_cells_eq (fun _ => rfl) hk h0 rfl rfl underlying22 (by kernel_rfl) hc1) fun a w hk=>?_
   refine lf hk (f_fieldAddr hk h0 rfl underlying29 rfl (by kernel_rfl) rfl) fun a w hk=>?_
   refine lf hk (f_load1 hk h0 rfl rfl underlying9 rfl) fun a w hk=>?_
   obtain ⟨hc2, h⟩ := chk h
   refine go hk<|gP (p_sadd · h0 rfl rfl hc2)<|fun a w hk=>?_
   obtain ⟨hc3, h⟩ := chk h
   refine go hk<|gP (p_sadd · h0 rfl rfl hc3)<|gA<|ge q10 fun a w hk=>?_
   refine wseq fun _ q11 => ?_
   refine rg hk fun _ q12=>gA<|ge q12 fun a w hk=>?_
   refine wp_block ?_
   refine wloop (T := Nat × List ApiStep × List UInt8 × Int × Int) (fun x a w => match x with | (kl2, v0, v3, v4, v5) => S M w0 a w 79 [] [(0, [], .row (r_ApiStep_cells v0)), (3, [], .lit (.string (B v3))), (4, [], .lit (.int .i64 v4)), (5, [], .lit (.int .i64 v5))] ∧ offshootref13_Steps.l2 s_offshootref13_Steps (offshootref13_Steps.l1 s_offshootref13_Steps K kl1) K kl2 v0 v3 v4 v5 = some r) (fun x => x.1) (K, v0, (v3 ++ (((List.getD v0 (Int.toNat v4) default).Name) ++ ([40] : List UInt8))), v4, 0) ⟨hk.sub ⟨rfl, rfl, rfl, rfl, trivial⟩, h⟩ ?_
   clear hk h
   rintro ⟨kl2, v0, v3, v4, v5⟩ a w ⟨hk, h⟩ K' q13
   cases kl2 with
   | zero => simp [offshootref13_Steps.l2] at h
   | succ kl2 =>
   rw [offshootref13_Steps.l2.eq_2] at h
   refine wseq fun _ q14 => ?_
   refine rg hk fun _ q15=>gM<|gM<|gM<|fun a w hk=>?_
   obtain ⟨hc4, h⟩ := chk h
   refine lf (y := .ref (ApiStep.cells (List.getD v0 (Int.toNat v4) default))) hk (f_indexAddr (R := r_ApiStep_cells) (f := ApiStep.cells) (l := v0) (sz := 2) r_ApiStep_cells_eq (fun _ => rfl) hk h0 rfl rfl underlying22 (by kernel_rfl) hc4) fun a w hk=>?_
   refine lf hk (f_fieldAddr hk h0 rfl underlying29 rfl (by kernel_rfl) rfl) fun a w hk=>?_
   refine lf hk (f_load1 hk h0 rfl rfl underlying27 rfl) fun a w hk=>?_
   refine lf hk (f_len (R := r_ApiArg_cells) (f := ApiArg.cells) (l := (List.getD v0 (Int.toNat v4) default).Args) r_ApiArg_cells_eq underlying27 hk h0 rfl) fun a w hk=>?_
   refine go hk<|gL<|ge q15 fun a w hk=>wc hk h (fun h hb=>?_) fun h hb=>?_
   ·refine wp_skip ?_
    refine q14 _ _ ?_
    refine wseqJ (fun a w => ∃ (v0 : List ApiStep) (v3 : List UInt8) (v4 : Int) (v5 : Int), S M w0 a w 79 [] [(0, [], .row (r_ApiStep_cells v0)), (3, [], .lit (.string (B v3))), (4, [], .lit (.int .i64 v4)), (5, [], .lit (.int .i64 v5))] ∧ offshootref13_Steps.j2 s_offshootref13_Steps (offshootref13_Steps.l1 s_offshootref13_Steps K kl1) (offshootref13_Steps.l2 s_offshootref13_Steps (offshootref13_Steps.l1 s_offshootref13_Steps K kl1) K kl2) K v0 v3 v4 v5 = some r) ?_ ?_
    ·clear hk h
     rintro a w ⟨v0, v3, v4, v5, hk, h⟩
     unfold offshootref13_Steps.j2 at h
     refine rg1 hk<|gM<|gD<|gA<|fun a w hk=>?_
     refine wpList_nil ?_
     exact q13 (kl2, v0, v3, v4, (IntKind.wrap .i64 (v5 + 1))) _ _ (Nat.lt_succ_self _) ⟨hk.sub ⟨rfl, rfl, rfl, rfl, trivial⟩, h⟩
    ·intro K' q16
     refine wp_block ?_
     refine rg hk fun _ q18=>gM<|gM<|fun a w hk=>?_
     obtain ⟨hc5, h⟩ := chk h
     refine lf (y := .ref (ApiStep.cells (List.getD v0 (Int.toNat v4) default))) hk (f_indexAddr (R := r_ApiStep_cells) (f := ApiStep.cells) (l := v0) (sz := 2) r_ApiStep_cells_eq (fun _ => rfl) hk h0 rfl rfl underlying22 (by kernel_rfl) hc5) fun a w hk=>?_
     refine lf hk (f_fieldAddr hk h0 rfl underlying29 rfl (by kernel_rfl) rfl) fun a w hk=>?_
     refine lf hk (f_load1 hk h0 rfl rfl underlying27 rfl) fun a w hk=>?_
     refine go hk<|gM<|fun a w hk=>?_
     obtain ⟨hc6, h⟩ := chk h
     refine lf (y := .ref (ApiArg.cells (List.getD ((List.getD v0 (Int.toNat v4) default).Args) (Int.toNat v5) default))) hk (f_indexAddr (R := r_ApiArg_cells) (f := ApiArg.cells) (l := (List.getD v0 (Int.toNat v4) default).Args) (sz := 11) r_ApiArg_cells_eq (fun _ => rfl) hk h0 rfl rfl underlying27 (by kernel_rfl) hc6) fun a w hk=>?_
     refine lf hk (f_load hk h0 rfl underlying38 rfl rfl rfl rfl) fun a w hk=>?_
     refine l_alloc (zs := (ApiArg.cells (⟨0, (⟨0, false, 0, 0, [], []⟩ : ApiValue), (⟨[], [], []⟩ : ApiPred), []⟩ : ApiArg))) [] hk rfl rfl rfl rfl ?_; clear hk; intro bx1 a w hk
     refine st0 (cs' := (ApiArg.cells (List.getD ((List.getD v0 (Int.toNat v4) default).Args) (Int.toNat v5) default))) hk rfl (by kernel_rfl) fun w hk => ?_
     refine lend (q18 _ _ ?_)
     refine wseqJ (fun a w => ∃ (v0 : List ApiStep) (v3 : List UInt8) (v4 : Int) (v5 : Int), S M w0 a w 79 [blk bx1 38 ((ApiArg.cells (List.getD ((List.getD v0 (Int.toNat v4) default).Args) (Int.toNat v5) default)))] [(0, [], .row (r_ApiStep_cells v0)), (3, [], .lit (.string (B v3))), (4, [], .lit (.int .i64 v4)), (5, [], .lit (.int .i64 v5)), (6, [], .lit (.pointer (some ⟨bx1, 0, none⟩)))] ∧ offshootref13_Steps.j3 s_offshootref13_Steps (offshootref13_Steps.l1 s_offshootref13_Steps K kl1) (offshootref13_Steps.l2 s_offshootref13_Steps (offshootref13_Steps.l1 s_offshootref13_Steps K kl1) K kl2) K v0 v4 v5 v0 v3 v4 v5 = some r) ?_ ?_
     ·clear hk h
      rintro a w ⟨v0, v3, v4, v5, hk, h⟩
      unfold offshootref13_Steps.j3 at h
      refine rg hk fun _ q20=>gF 0 underlying38<|gB 0 underlying3<|ge q20 fun a w hk=>?_
      refine wp_block ?_
      refine rg hk fun _ q21=>gE<|gA<|ge q21 fun a w hk=>wc hk h (fun h hb=>?_) fun h hb=>?_
      ·refine rg1 hk<|gM<|gF 7 underlying38<|fun a w hk=>?_
       refine lf hk (f_loadBlk hk h0 (j := 0) rfl rfl underlying36 rfl rfl rfl rfl) fun a w hk=>?_
       obtain ⟨t1, hr_t1, h⟩ := bnd h
       refine lf (y := .lit (.string (B t1))) hk (f_call hk h0 rfl rfl func12 rfl (by kernel_rfl) (offshootref13_Pred.ok K ((List.getD ((List.getD v0 (Int.toNat v4) default).Args) (Int.toNat v5) default).P) _ hr_t1)) fun a w hk=>?_
       obtain ⟨hc7, h⟩ := chk h
       refine go hk<|gP (p_sadd · h0 rfl rfl hc7)<|gA<|fun a w hk=>?_
       refine wpList_nil ?_
       exact q16 _ _ ⟨v0, (v3 ++ t1), v4, v5, (hk.drop 0).sub ⟨rfl, rfl, rfl, rfl, trivial⟩, h⟩
      refine rg hk fun _ q23=>gE<|gA<|ge q23 fun a w hk=>wc hk h (fun h hb=>?_) fun h hb=>?_
      ·refine rg1 hk<|gM<|gF 10 underlying38<|gB 0 underlying22<|fun a w hk=>?_
       obtain ⟨t2, hr_t2, h⟩ := bnd h
       refine lf (y := .lit (.string (B t2))) hk (f_call hk h0 rfl rfl func22 rfl (by kernel_rfl) (hs_offshootref13_Steps ((List.getD ((List.getD v0 (Int.toNat v4) default).Args) (Int.toNat v5) default).T) _ hr_t2)) fun a w hk=>?_
       obtain ⟨hc8, h⟩ := chk h
       refine go hk<|gP (p_sadd · h0 rfl rfl hc8)<|fun a w hk=>?_
       obtain ⟨hc9, h⟩ := chk h
       refine go hk<|gP (p_sadd · h0 rfl rfl hc9)<|gA<|fun a w hk=>?_
       refine wpList_nil ?_
       exact q16 _ _ ⟨v0, (v3 ++ (([95, 95, 46] : List UInt8) ++ t2)), v4, v5, (hk.drop 0).sub ⟨rfl, rfl, rfl, rfl, trivial⟩, h⟩
      refine rg hk fun _ q25=>gE<|gA<|ge q25 fun a w hk=>wc hk h (fun h hb=>?_) fun h hb=>?_
      ·refine rg1 hk<|gM<|gF 1 underlying38<|gF 5 underlying33<|gB 0 underlying9<|fun a w hk=>?_
       obtain ⟨hc10, h⟩ := chk h
       refine go hk<|gP (p_sadd · h0 rfl rfl hc10)<|gA<|fun a w hk=>?_
       refine wpList_nil ?_
       exact q16 _ _ ⟨v0, (v3 ++ (((List.getD ((List.getD v0 (Int.toNat v4) default).Args) (Int.toNat v5) default).V).S)), v4, v5, (hk.drop 0).sub ⟨rfl, rfl, rfl, rfl, trivial⟩, h⟩
      refine rg1 hk<|gM<|gF 1 underlying38<|fun a w hk=>?_
      refine lf hk (f_loadBlk hk h0 (j := 0) rfl rfl underlying33 rfl rfl rfl rfl) fun a w hk=>?_
      obtain ⟨t3, hr_t3, h⟩ := bnd h
      refine lf (y := .lit (.string (B t3))) hk (f_call hk h0 rfl rfl func16 rfl (by kernel_rfl) (offshootref13_Value.ok K ((List.getD ((List.getD v0 (Int.toNat v4) default).Args) (Int.toNat v5) default).V) _ hr_t3)) fun a w hk=>?_
      obtain ⟨hc11, h⟩ := chk h
      refine go hk<|gP (p_sadd · h0 rfl rfl hc11)<|gA<|fun a w hk=>?_
      refine wpList_nil ?_
      exact q16 _ _ ⟨v0, (v3 ++ t3), v4, v5, (hk.drop 0).sub ⟨rfl, rfl, rfl, rfl, trivial⟩, h⟩
     ·intro K' q19
      refine rg hk fun _ q28=>gM<|gP (p_gtr · h0 rfl rfl)<|ge q28 fun a w hk=>wc hk h (fun h hb=>?_) fun h hb=>?_
      ·refine rg1 hk<|gM<|fun a w hk=>?_
       obtain ⟨hc12, h⟩ := chk h
       refine go hk<|gP (p_sadd · h0 rfl rfl hc12)<|gA<|fun a w hk=>?_
       refine wpList_nil ?_
       exact q19 _ _ ⟨v0, (v3 ++ ([44, 32] : List UInt8)), v4, v5, hk.sub ⟨rfl, rfl, rfl, rfl, rfl, trivial⟩, h⟩
      refine wp_skip ?_
      exact q19 _ _ ⟨v0, v3, v4, v5, hk.sub ⟨rfl, rfl, rfl, rfl, rfl, trivial⟩, h⟩
   refine wp_exit ?_; (repeat first | refine te ?_ | refine be rfl ?_); refine bx ?_
   refine q11 _ _ ?_
   refine rg1 hk<|gM<|fun a w hk=>?_
   obtain ⟨hc13, h⟩ := chk h
   refine go hk<|gP (p_sadd · h0 rfl rfl hc13)<|gA<|fun a w hk=>?_
   refine wpList_nil ?_
   refine q8 _ _ ?_
   refine rg1 hk<|gM<|gD<|gA<|fun a w hk=>?_
   refine wpList_nil ?_
   exact q5 (kl1, v0, (v3 ++ ([41] : List UInt8)), (IntKind.wrap .i64 (v4 + 1))) _ _ (Nat.lt_succ_self _) ⟨hk.sub ⟨rfl, rfl, rfl, trivial⟩, h⟩
  ·intro K' q9
   refine rg hk fun _ q32=>gM<|gP (p_gtr · h0 rfl rfl)<|ge q32 fun a w hk=>wc hk h (fun h hb=>?_) fun h hb=>?_
   ·refine rg1 hk<|gM<|fun a w hk=>?_
    obtain ⟨hc14, h⟩ := chk h
    refine go hk<|gP (p_sadd · h0 rfl rfl hc14)<|gA<|fun a w hk=>?_
    refine wpList_nil ?_
    exact q9 _ _ ⟨v0, (v3 ++ ([46] : List UInt8)), v4, hk.sub ⟨rfl, rfl, rfl, trivial⟩, h⟩
   refine wp_skip ?_
   exact q9 _ _ ⟨v0, v3, v4, hk.sub ⟨rfl, rfl, rfl, trivial⟩, h⟩
 refine wp_exit ?_; (repeat first | refine te ?_ | refine be rfl ?_); refine bx ?_
 refine q3 _ _ ?_
 refine rg hk fun _ q34=>gM<|gA<|ge q34 fun a w hk=>?_
 refine wp_ret ?_
 obtain rfl := Option.some.inj h
 exact fret1 hk rfl rfl
theorem offshootref13_Steps_knot : ∀ K : Nat, (∀ (v0 : List ApiStep) (r : List UInt8), offshootref13_Steps.f K v0 = some r → Ok prog 22 [.row (r_ApiStep_cells v0)] (.lit (.string (B r))))
 | 0 => fun v0 r h => by simp [offshootref13_Steps.f] at h
 | K + 1 => fun v0 r h => by rw [offshootref13_Steps.f] at h; exact offshootref13_Steps.bok _ (offshootref13_Steps_knot K) K v0 r h
theorem offshootref13_Steps.ok (K : Nat) (v0 : List ApiStep) (r : List UInt8) (h : offshootref13_Steps.f K v0 = some r) : Ok prog 22 [.row (r_ApiStep_cells v0)] (.lit (.string (B r))) := (offshootref13_Steps_knot K) v0 r h
theorem r02_Same.bok (s_r02_Same : ApiValue → ApiValue → Option Bool) (hs_r02_Same : ∀ (v0 : ApiValue) (v1 : ApiValue) (r : Bool), s_r02_Same v0 v1 = some r → Ok prog 17 [.agg (ApiValue.cells v0), .agg (ApiValue.cells v1)] (.lit (.bool r))) (K : Nat) (v0 : ApiValue) (v1 : ApiValue) (r : Bool) (h : r02_Same.b s_r02_Same K v0 v1 = some r) :
  Ok prog 17 [.agg (ApiValue.cells v0), .agg (ApiValue.cells v1)] (.lit (.bool r)) := by
 refine enter (xs := [.agg (ApiValue.cells v0), .agg (ApiValue.cells v1)]) func17 rfl ntmps17 rfl ?_
 intro M w0 a hk
 unfold r02_Same.b at h
 refine wreg fun _ q1 => ?_
 refine l_box (cs := (ApiValue.cells v0)) hk rfl rfl rfl rfl rfl ?_; clear hk; intro bx1 a w hk
 refine l_box (cs := (ApiValue.cells v1)) hk rfl rfl rfl rfl rfl ?_; clear hk; intro bx2 a w hk
 refine go hk<|gA<|ge q1 fun a w hk=>?_
 refine wseq fun _ q2 => ?_
 obtain ⟨t1, hr_t1, h⟩ := bndG h
 obtain ⟨t2, hr_t2, h⟩ := bndG h
 refine wdraw (by kernel_rfl) (by kernel_rfl) hk ?_; clear hk
 refine dfun (y := .lit (.pointer (some ⟨bx1, 0, none⟩))) rfl rfl rfl rfl (fun a w hk => f_fieldPtr hk h0 rfl underlying33 rfl (by kernel_rfl) rfl) ?_
 refine dfun (y := .lit (.int .i64 v0.Kind)) rfl rfl rfl rfl (fun a w hk => f_loadBlk1 hk h0 (j := 1) rfl rfl underlying3 rfl rfl) ?_
 refine dfun (y := .lit (.pointer (some ⟨bx2, 0, none⟩))) rfl rfl rfl rfl (fun a w hk => f_fieldPtr hk h0 rfl underlying33 rfl (by kernel_rfl) rfl) ?_
 refine dfun (y := .lit (.int .i64 v1.Kind)) rfl rfl rfl rfl (fun a w hk => f_loadBlk1 hk h0 (j := 0) rfl rfl underlying3 rfl rfl) ?_
 refine dfun (y := .lit (.bool (!decide (v0.Kind = v1.Kind)))) rfl rfl rfl rfl (fun a w hk => (f_pure (p_neq hk.kn h0 rfl rfl))) ?_
 refine dfun (y := .lit (.bool (!decide (v0.Kind = v1.Kind)))) rfl rfl rfl rfl (fun a w hk => f_move hk h0 rfl) ?_
 refine dfunG (y := .lit (.pointer (some ⟨bx1, 1, none⟩))) rfl rfl rfl rfl rfl rfl rfl rfl rfl (fun a w hk hc => f_fieldPtr hk hc rfl underlying33 rfl (by kernel_rfl) rfl) ?_
 refine dfunG (y := .lit (.bool v0.B)) rfl rfl rfl rfl rfl rfl rfl rfl rfl (fun a w hk hc => f_loadBlk1 hk hc (j := 1) rfl rfl underlying4 rfl rfl) ?_
 refine dfunG (y := .lit (.pointer (some ⟨bx2, 1, none⟩))) rfl rfl rfl rfl rfl rfl rfl rfl rfl (fun a w hk hc => f_fieldPtr hk hc rfl underlying33 rfl (by kernel_rfl) rfl) ?_
 refine dfunG (y := .lit (.bool v1.B)) rfl rfl rfl rfl rfl rfl rfl rfl rfl (fun a w hk hc => f_loadBlk1 hk hc (j := 0) rfl rfl underlying4 rfl rfl) ?_
 refine dfunG (y := .lit (.bool (!(v0.B == v1.B)))) rfl rfl rfl rfl rfl rfl rfl rfl rfl (fun a w hk hc => (f_pure (p_bneq underlying4 hk.kn hc rfl rfl))) ?_
 refine dfun (y := .lit (.bool ((!decide (v0.Kind = v1.Kind)) || (!(v0.B == v1.B))))) rfl rfl rfl rfl (fun a w hk => (f_pure (p_pick_or hk.kn h0 rfl rfl))) ?_
 refine dfun (y := .lit (.bool ((!decide (v0.Kind = v1.Kind)) || (!(v0.B == v1.B))))) rfl rfl rfl rfl (fun a w hk => f_move hk h0 rfl) ?_
 refine dfunG (y := .lit (.pointer (some ⟨bx1, 2, none⟩))) rfl rfl rfl rfl rfl rfl rfl rfl rfl (fun a w hk hc => f_fieldPtr hk hc rfl underlying33 rfl (by kernel_rfl) rfl) ?_
 refine dfunG (y := .lit (.int .i64 v0.N)) rfl rfl rfl rfl rfl rfl rfl rfl rfl (fun a w hk hc => f_loadBlk1 hk hc (j := 1) rfl rfl underlying2 rfl rfl) ?_
 refine dfunG (y := .lit (.pointer (some ⟨bx2, 2, none⟩))) rfl rfl rfl rfl rfl rfl rfl rfl rfl (fun a w hk hc => f_fieldPtr hk hc rfl underlying33 rfl (by kernel_rfl) rfl) ?_
 refine dfunG (y := .lit (.int .i64 v1.N)) rfl rfl rfl rfl rfl rfl rfl rfl rfl (fun a w hk hc => f_loadBlk1 hk hc (j := 0) rfl rfl underlying2 rfl rfl) ?_
 refine dfunG (y := .lit (.bool (!decide (v0.N = v1.N)))) rfl rfl rfl rfl rfl rfl rfl rfl rfl (fun a w hk hc => (f_pure (p_neq hk.kn hc rfl rfl))) ?_
 refine dfun (y := .lit (.bool (((!decide (v0.Kind = v1.Kind)) || (!(v0.B == v1.B))) || (!decide (v0.N = v1.N))))) rfl rfl rfl rfl (fun a w hk => (f_pure (p_pick_or hk.kn h0 rfl rfl))) ?_
 refine dfun (y := .lit (.bool (((!decide (v0.Kind = v1.Kind)) || (!(v0.B == v1.B))) || (!decide (v0.N = v1.N))))) rfl rfl rfl rfl (fun a w hk => f_move hk h0 rfl) ?_
 refine dfunG (y := .lit (.pointer (some ⟨bx1, 3, none⟩))) rfl rfl rfl rfl rfl rfl rfl rfl rfl (fun a w hk hc => f_fieldPtr hk hc rfl underlying33 rfl (by kernel_rfl) rfl) ?_
 refine dfunG (y := .lit (.float .f64 v0.F)) rfl rfl rfl rfl rfl rfl rfl rfl rfl (fun a w hk hc => f_loadBlk1 hk hc (j := 1) rfl rfl underlying30 rfl rfl) ?_
 refine dfunG (y := .lit (.int .u64 t1)) rfl rfl rfl rfl rfl rfl rfl rfl rfl (fun a w hk hc => f_call hk hc rfl rfl func35 rfl (by kernel_rfl) (r01_Canon.ok v0.F _ (hr_t1 (asm_out (p := (((!decide (v0.Kind = v1.Kind)) || (!(v0.B == v1.B))) || (!decide (v0.N = v1.N))) = false) hk.kn hc (fun e0 => e0))))) ?_
 refine dfunG (y := .lit (.pointer (some ⟨bx2, 3, none⟩))) rfl rfl rfl rfl rfl rfl rfl rfl rfl (fun a w hk hc => f_fieldPtr hk hc rfl underlying33 rfl (by kernel_rfl) rfl) ?_
 refine dfunG (y := .lit (.float .f64 v1.F)) rfl rfl rfl rfl rfl rfl rfl rfl rfl (fun a w hk hc => f_loadBlk1 hk hc (j := 0) rfl rfl underlying30 rfl rfl) ?_
 refine dfunG (y := .lit (.int .u64 t2)) rfl rfl rfl rfl rfl rfl rfl rfl rfl (fun a w hk hc => f_call hk hc rfl rfl func35 rfl (by kernel_rfl) (r01_Canon.ok v1.F _ (hr_t2 (asm_out (p := (((!decide (v0.Kind = v1.Kind)) || (!(v0.B == v1.B))) || (!decide (v0.N = v1.N))) = false) hk.kn hc (fun e0 => e0))))) ?_
 refine dfunG (y := .lit (.bool (!decide (t1 = t2)))) rfl rfl rfl rfl rfl rfl rfl rfl rfl (fun a w hk hc => (f_pure (p_neq hk.kn hc rfl rfl))) ?_
 refine dfun (y := .lit (.bool ((((!decide (v0.Kind = v1.Kind)) || (!(v0.B == v1.B))) || (!decide (v0.N = v1.N))) || (!decide (t1 = t2))))) rfl rfl rfl rfl (fun a w hk => (f_pure (p_pick_or hk.kn h0 rfl rfl))) ?_
 refine dfun (y := .lit (.bool ((((!decide (v0.Kind = v1.Kind)) || (!(v0.B == v1.B))) || (!decide (v0.N = v1.N))) || (!decide (t1 = t2))))) rfl rfl rfl rfl (fun a w hk => f_move hk h0 rfl) ?_
 refine dfunG (y := .lit (.pointer (some ⟨bx1, 4, none⟩))) rfl rfl rfl rfl rfl rfl rfl rfl rfl (fun a w hk hc => f_fieldPtr hk hc rfl underlying33 rfl (by kernel_rfl) rfl) ?_
 refine dfunG (y := .lit (.string (B v0.S))) rfl rfl rfl rfl rfl rfl rfl rfl rfl (fun a w hk hc => f_loadBlk1 hk hc (j := 1) rfl rfl underlying9 rfl rfl) ?_
 refine dfunG (y := .lit (.pointer (some ⟨bx2, 4, none⟩))) rfl rfl rfl rfl rfl rfl rfl rfl rfl (fun a w hk hc => f_fieldPtr hk hc rfl underlying33 rfl (by kernel_rfl) rfl) ?_
 refine dfunG (y := .lit (.string (B v1.S))) rfl rfl rfl rfl rfl rfl rfl rfl rfl (fun a w hk hc => f_loadBlk1 hk hc (j := 0) rfl rfl underlying9 rfl rfl) ?_
 refine dfunG (y := .lit (.bool (!decide (v0.S = v1.S)))) rfl rfl rfl rfl rfl rfl rfl rfl rfl (fun a w hk hc => (f_pure (p_sneq hk.kn hc rfl rfl))) ?_
 refine dfun (y := .lit (.bool (((((!decide (v0.Kind = v1.Kind)) || (!(v0.B == v1.B))) || (!decide (v0.N = v1.N))) || (!decide (t1 = t2))) || (!decide (v0.S = v1.S))))) rfl rfl rfl rfl (fun a w hk => (f_pure (p_pick_or hk.kn h0 rfl rfl))) ?_
 refine dfun (y := .lit (.bool (((((!decide (v0.Kind = v1.Kind)) || (!(v0.B == v1.B))) || (!decide (v0.N = v1.N))) || (!decide (t1 = t2))) || (!decide (v0.S = v1.S))))) rfl rfl rfl rfl (fun a w hk => f_move hk h0 rfl) ?_
 refine dfunG (y := .lit (.pointer (some ⟨bx1, 5, none⟩))) rfl rfl rfl rfl rfl rfl rfl rfl rfl (fun a w hk hc => f_fieldPtr hk hc rfl underlying33 rfl (by kernel_rfl) rfl) ?_
 refine dfunG (y := .row (r_ApiValue_cells v0.L)) rfl rfl rfl rfl rfl rfl rfl rfl rfl (fun a w hk hc => f_loadBlk1 hk hc (j := 1) rfl rfl underlying31 rfl rfl) ?_
 refine dfunG (y := .lit (.int .i64 (List.length v0.L : Int))) rfl rfl rfl rfl rfl rfl rfl rfl rfl (fun a w hk hc => f_len (R := r_ApiValue_cells) (f := ApiValue.cells) (l := v0.L) r_ApiValue_cells_eq underlying31 hk hc rfl) ?_
 refine dfunG (y := .lit (.pointer (some ⟨bx2, 5, none⟩))) rfl rfl rfl rfl rfl rfl rfl rfl rfl (fun a w hk hc => f_fieldPtr hk hc rfl underlying33 rfl (by kernel_rfl) rfl) ?_
 refine dfunG (y := .row (r_ApiValue_cells v1.L)) rfl rfl rfl rfl rfl rfl rfl rfl rfl (fun a w hk hc => f_loadBlk1 hk hc (j := 0) rfl rfl underlying31 rfl rfl) ?_
 refine dfunG (y := .lit (.int .i64 (List.length v1.L : Int))) rfl rfl rfl rfl rfl rfl rfl rfl rfl (fun a w hk hc => f_len (R := r_ApiValue_cells) (f := ApiValue.cells) (l := v1.L) r_ApiValue_cells_eq underlying31 hk hc rfl) ?_
 refine dfunG (y := .lit (.bool (!decide ((List.length v0.L : Int) = (List.length v1.L : Int))))) rfl rfl rfl rfl rfl rfl rfl rfl rfl (fun a w hk hc => (f_pure (p_neq hk.kn hc rfl rfl))) ?_
 refine dfun (y := .lit (.bool ((((((!decide (v0.Kind = v1.Kind)) || (!(v0.B == v1.B))) || (!decide (v0.N = v1.N))) || (!decide (t1 = t2))) || (!decide (v0.S = v1.S))) || (!decide ((List.length v0.L : Int) = (List.length v1.L : Int)))))) rfl rfl rfl rfl (fun a w hk => (f_pure (p_pick_or hk.kn h0 rfl rfl))) ?_
 refine dend ?_; intro a w hk
 refine wc hk h (fun h hb=>?_) fun h hb=>?_
 ·refine rg hk fun _ q4=>gA<|ge q4 fun a w hk=>?_
  refine wp_ret ?_
  obtain rfl := Option.some.inj h
  exact fret1 hk rfl rfl
 refine wp_skip ?_
 refine q2 _ _ ?_
 refine wseq fun _ q5 => ?_
 refine rg hk fun _ q6=>gA<|ge q6 fun a w hk=>?_
 refine wp_block ?_
 refine wloop (T := Nat × ApiValue × ApiValue × Int) (fun x a w => match x with | (kl1, y2, y1, v5) => S M w0 a w 69 [blk bx2 33 ((ApiValue.cells y2)), blk bx1 33 ((ApiValue.cells y1))] [(2, [], .lit (.pointer (some ⟨bx1, 0, none⟩))), (3, [], .lit (.pointer (some ⟨bx2, 0, none⟩))), (5, [], .lit (.int .i64 v5))] ∧ r02_Same.l1 s_r02_Same K kl1 y2 y1 v5 = some r) (fun x => x.1) (K, v1, v0, 0) ⟨hk.sub ⟨rfl, rfl, rfl, trivial⟩, h⟩ ?_
 clear hk h
 rintro ⟨kl1, y2, y1, v5⟩ a w ⟨hk, h⟩ K' q7
 cases kl1 with
 | zero => simp [r02_Same.l1] at h
 | succ kl1 =>
 rw [r02_Same.l1.eq_2] at h
 refine wseq fun _ q8 => ?_
 refine rg hk fun _ q9=>gM<|gF 5 underlying33<|gB 1 underlying31<|fun a w hk=>?_
 refine lf hk (f_len (R := r_ApiValue_cells) (f := ApiValue.cells) (l := y1.L) r_ApiValue_cells_eq underlying31 hk h0 rfl) fun a w hk=>?_
 refine go hk<|gL<|ge q9 fun a w hk=>wc hk h (fun h hb=>?_) fun h hb=>?_
 ·refine wp_skip ?_
  refine q8 _ _ ?_
  refine wseq fun _ q10 => ?_
  refine wp_block ?_
  obtain ⟨hc1, h⟩ := chk h
  obtain ⟨hc2, h⟩ := chk h
  obtain ⟨t3, hr_t3, h⟩ := bnd h
  refine wdraw (by kernel_rfl) (by kernel_rfl) hk ?_; clear hk
  refine dfun (y := .lit (.pointer (some ⟨bx1, 5, none⟩))) rfl rfl rfl rfl (fun a w hk => f_fieldPtr hk h0 rfl underlying33 rfl (by kernel_rfl) rfl) ?_
  refine dfun (y := .row (r_ApiValue_cells y1.L)) rfl rfl rfl rfl (fun a w hk => f_loadBlk1 hk h0 (j := 1) rfl rfl underlying31 rfl rfl) ?_
  refine dfun (y := .lit (.int .i64 v5)) rfl rfl rfl rfl (fun a w hk => f_move hk h0 rfl) ?_
  refine dfun (y := .ref (ApiValue.cells (List.getD y1.L (Int.toNat v5) default))) rfl rfl rfl rfl (fun a w hk => f_indexAddr (R := r_ApiValue_cells) (f := ApiValue.cells) (l := y1.L) (sz := 6) r_ApiValue_cells_eq (fun _ => rfl) hk h0 rfl rfl underlying31 (by kernel_rfl) hc1) ?_
  refine dfun (y := .agg ((ApiValue.cells (List.getD y1.L (Int.toNat v5) default)))) rfl rfl rfl rfl (fun a w hk => f_load hk h0 rfl underlying33 rfl rfl rfl rfl) ?_
  refine dfun (y := .lit (.pointer (some ⟨bx2, 5, none⟩))) rfl rfl rfl rfl (fun a w hk => f_fieldPtr hk h0 rfl underlying33 rfl (by kernel_rfl) rfl) ?_
  refine dfun (y := .row (r_ApiValue_cells y2.L)) rfl rfl rfl rfl (fun a w hk => f_loadBlk1 hk h0 (j := 0) rfl rfl underlying31 rfl rfl) ?_
  refine dfun (y := .lit (.int .i64 v5)) rfl rfl rfl rfl (fun a w hk => f_move hk h0 rfl) ?_
  refine dfun (y := .ref (ApiValue.cells (List.getD y2.L (Int.toNat v5) default))) rfl rfl rfl rfl (fun a w hk => f_indexAddr (R := r_ApiValue_cells) (f := ApiValue.cells) (l := y2.L) (sz := 6) r_ApiValue_cells_eq (fun _ => rfl) hk h0 rfl rfl underlying31 (by kernel_rfl) hc2) ?_
  refine dfun (y := .agg ((ApiValue.cells (List.getD y2.L (Int.toNat v5) default)))) rfl rfl rfl rfl (fun a w hk => f_load hk h0 rfl underlying33 rfl rfl rfl rfl) ?_
  refine dfun (y := .lit (.bool t3)) rfl rfl rfl rfl (fun a w hk => f_call hk h0 rfl rfl func17 rfl (by kernel_rfl) (hs_r02_Same (List.getD y1.L (Int.toNat v5) default) (List.getD y2.L (Int.toNat v5) default) _ hr_t3)) ?_
  refine dfun (y := .lit (.bool (!t3))) rfl rfl rfl rfl (fun a w hk => (f_pure (p_not hk.kn h0 rfl))) ?_
  refine dend ?_; intro a w hk
  refine wc hk h (fun h hb=>?_) fun h hb=>?_
  ·refine rg hk fun _ q12=>gA<|ge q12 fun a w hk=>?_
   refine wp_ret ?_
   obtain rfl := Option.some.inj h
   exact fret1 hk rfl rfl
  refine wp_skip ?_
  refine q10 _ _ ?_
  refine rg1 hk<|gM<|gD<|gA<|fun a w hk=>?_
  refine wpList_nil ?_
  exact q7 (kl1, y2, y1, (IntKind.wrap .i64 (v5 + 1))) _ _ (Nat.lt_succ_self _) ⟨hk.sub ⟨rfl, rfl, rfl, trivial⟩, h⟩
 refine wp_exit ?_; (repeat first | refine te ?_ | refine be rfl ?_); refine bx ?_
 refine q5 _ _ ?_
 refine rg hk fun _ q14=>gA<|ge q14 fun a w hk=>?_
 refine wp_ret ?_
 obtain rfl := Option.some.inj h
 exact fret1 hk rfl rfl
theorem r02_Same_knot : ∀ K : Nat, (∀ (v0 : ApiValue) (v1 : ApiValue) (r : Bool), r02_Same.f K v0 v1 = some r → Ok prog 17 [.agg (ApiValue.cells v0), .agg (ApiValue.cells v1)] (.lit (.bool r)))
 | 0 => fun v0 v1 r h => by simp [r02_Same.f] at h
 | K + 1 => fun v0 v1 r h => by rw [r02_Same.f] at h; exact r02_Same.bok _ (r02_Same_knot K) K v0 v1 r h
theorem r02_Same.ok (K : Nat) (v0 : ApiValue) (v1 : ApiValue) (r : Bool) (h : r02_Same.f K v0 v1 = some r) : Ok prog 17 [.agg (ApiValue.cells v0), .agg (ApiValue.cells v1)] (.lit (.bool r)) := (r02_Same_knot K) v0 v1 r h
end Go.Proofs.Ytbjbgodcenopnaa
namespace Go.Proofs.Ytbjbgodcenopnaa
open FW _root_.Go.Proofs.Try
set_option linter.unusedVariables false
set_option maxRecDepth 20000
set_option maxHeartbeats 10000000
theorem r12_SamePred.bok (s_r12_SamePred : ApiPred → ApiPred → Option Bool) (hs_r12_SamePred : ∀ (v0 : ApiPred) (v1 : ApiPred) (r : Bool), s_r12_SamePred v0 v1 = some r → Ok prog 46 [.agg (ApiPred.cells v0), .agg (ApiPred.cells v1)] (.lit (.bool r))) (K : Nat) (v0 : ApiPred) (v1 : ApiPred) (r : Bool) (h : r12_SamePred.b s_r12_SamePred K v0 v1 = some r) :
  Ok prog 46 [.agg (ApiPred.cells v0), .agg (ApiPred.cells v1)] (.lit (.bool r)) := by
 refine enter (xs := [.agg (ApiPred.cells v0), .agg (ApiPred.cells v1)]) func46 rfl ntmps46 rfl ?_
 intro M w0 a hk
 unfold r12_SamePred.b at h
 refine wreg fun _ q1 => ?_
 refine l_box (cs := (ApiPred.cells v0)) hk rfl rfl rfl rfl rfl ?_; clear hk; intro bx1 a w hk
 refine l_box (cs := (ApiPred.cells v1)) hk rfl rfl rfl rfl rfl ?_; clear hk; intro bx2 a w hk
 refine go hk<|gA<|ge q1 fun a w hk=>?_
 refine wseq fun _ q2 => ?_
 refine rg hk fun _ q3=>gF 0 underlying36<|gB 1 underlying9<|gF 0 underlying36<|gB 0 underlying9<|gP (p_sneq · h0 rfl rfl)<|gM<|fun a w hk=>?_
 refine lg (y := .lit (.pointer (some ⟨bx1, 1, none⟩))) hk rfl rfl rfl (fun hc => f_fieldPtr hk hc rfl underlying36 rfl (by kernel_rfl) rfl) fun a w hk=>?_
 refine lg hk rfl rfl rfl (fun hc => f_loadBlk1 hk hc (j := 1) rfl rfl underlying31 rfl rfl) fun a w hk=>?_
 refine lg hk rfl rfl rfl (fun hc => f_len (R := r_ApiValue_cells) (f := ApiValue.cells) (l := v0.L) r_ApiValue_cells_eq underlying31 hk hc rfl) fun a w hk=>?_
 refine lg (y := .lit (.pointer (some ⟨bx2, 1, none⟩))) hk rfl rfl rfl (fun hc => f_fieldPtr hk hc rfl underlying36 rfl (by kernel_rfl) rfl) fun a w hk=>?_
 refine lg hk rfl rfl rfl (fun hc => f_loadBlk1 hk hc (j := 0) rfl rfl underlying31 rfl rfl) fun a w hk=>?_
 refine lg hk rfl rfl rfl (fun hc => f_len (R := r_ApiValue_cells) (f := ApiValue.cells) (l := v1.L) r_ApiValue_cells_eq underlying31 hk hc rfl) fun a w hk=>?_
 refine lg hk rfl rfl rfl (fun hc => (f_pure (p_neq hk.kn hc rfl rfl))) fun a w hk=>?_
 refine go hk<|gR<|gM<|fun a w hk=>?_
 refine lg (y := .lit (.pointer (some ⟨bx1, 2, none⟩))) hk rfl rfl rfl (fun hc => f_fieldPtr hk hc rfl underlying36 rfl (by kernel_rfl) rfl) fun a w hk=>?_
 refine lg hk rfl rfl rfl (fun hc => f_loadBlk1 hk hc (j := 1) rfl rfl underlying34 rfl rfl) fun a w hk=>?_
 refine lg hk rfl rfl rfl (fun hc => f_len (R := r_ApiPred_cells) (f := ApiPred.cells) (l := v0.Kids) r_ApiPred_cells_eq underlying34 hk hc rfl) fun a w hk=>?_
 refine lg (y := .lit (.pointer (some ⟨bx2, 2, none⟩))) hk rfl rfl rfl (fun hc => f_fieldPtr hk hc rfl underlying36 rfl (by kernel_rfl) rfl) fun a w hk=>?_
 refine lg hk rfl rfl rfl (fun hc => f_loadBlk1 hk hc (j := 0) rfl rfl underlying34 rfl rfl) fun a w hk=>?_
 refine lg hk rfl rfl rfl (fun hc => f_len (R := r_ApiPred_cells) (f := ApiPred.cells) (l := v1.Kids) r_ApiPred_cells_eq underlying34 hk hc rfl) fun a w hk=>?_
 refine lg hk rfl rfl rfl (fun hc => (f_pure (p_neq hk.kn hc rfl rfl))) fun a w hk=>?_
 refine go hk<|gR<|ge q3 fun a w hk=>wc hk h (fun h hb=>?_) fun h hb=>?_
 ·refine rg hk fun _ q4=>gA<|ge q4 fun a w hk=>?_
  refine wp_ret ?_
  obtain rfl := Option.some.inj h
  exact fret1 hk rfl rfl
 refine wp_skip ?_
 refine q2 _ _ ?_
 refine wseq fun _ q5 => ?_
 refine rg hk fun _ q6=>gA<|ge q6 fun a w hk=>?_
 refine wp_block ?_
 refine wloop (T := Nat × ApiPred × ApiPred × Int) (fun x a w => match x with | (kl1, y2, y1, v5) => S M w0 a w 68 [blk bx2 36 ((ApiPred.cells y2)), blk bx1 36 ((ApiPred.cells y1))] [(2, [], .lit (.pointer (some ⟨bx1, 0, none⟩))), (3, [], .lit (.pointer (some ⟨bx2, 0, none⟩))), (5, [], .lit (.int .i64 v5))] ∧ r12_SamePred.l1 s_r12_SamePred K kl1 y2 y1 v5 = some r) (fun x => x.1) (K, v1, v0, 0) ⟨hk.sub ⟨rfl, rfl, rfl, trivial⟩, h⟩ ?_
 clear hk h
 rintro ⟨kl1, y2, y1, v5⟩ a w ⟨hk, h⟩ K' q7
 cases kl1 with
 | zero => simp [r12_SamePred.l1] at h
 | succ kl1 =>
 rw [r12_SamePred.l1.eq_2] at h
 refine wseq fun _ q8 => ?_
 refine rg hk fun _ q9=>gM<|gF 1 underlying36<|gB 1 underlying31<|fun a w hk=>?_
 refine lf hk (f_len (R := r_ApiValue_cells) (f := ApiValue.cells) (l := y1.L) r_ApiValue_cells_eq underlying31 hk h0 rfl) fun a w hk=>?_
 refine go hk<|gL<|ge q9 fun a w hk=>wc hk h (fun h hb=>?_) fun h hb=>?_
 ·refine wp_skip ?_
  refine q8 _ _ ?_
  refine wseq fun _ q10 => ?_
  refine wp_block ?_
  obtain ⟨hc1, h⟩ := chk h
  obtain ⟨hc2, h⟩ := chk h
  obtain ⟨t1, hr_t1, h⟩ := bnd h
  refine wdraw (by kernel_rfl) (by kernel_rfl) hk ?_; clear hk
  refine dfun (y := .lit (.pointer (some ⟨bx1, 1, none⟩))) rfl rfl rfl rfl (fun a w hk => f_fieldPtr hk h0 rfl underlying36 rfl (by kernel_rfl) rfl) ?_
  refine dfun (y := .row (r_ApiValue_cells y1.L)) rfl rfl rfl rfl (fun a w hk => f_loadBlk1 hk h0 (j := 1) rfl rfl underlying31 rfl rfl) ?_
  refine dfun (y := .lit (.int .i64 v5)) rfl rfl rfl rfl (fun a w hk => f_move hk h0 rfl) ?_
  refine dfun (y := .ref (ApiValue.cells (List.getD y1.L (Int.toNat v5) default))) rfl rfl rfl rfl (fun a w hk => f_indexAddr (R := r_ApiValue_cells) (f := ApiValue.cells) (l := y1.L) (sz := 6) r_ApiValue_cells_eq (fun _ => rfl) hk h0 rfl rfl underlying31 (by kernel_rfl) hc1) ?_
  refine dfun (y := .agg ((ApiValue.cells (List.getD y1.L (Int.toNat v5) default)))) rfl rfl rfl rfl (fun a w hk => f_load hk h0 rfl underlying33 rfl rfl rfl rfl) ?_
  refine dfun (y := .lit (.pointer (some ⟨bx2, 1, none⟩))) rfl rfl rfl rfl (fun a w hk => f_fieldPtr hk h0 rfl underlying36 rfl (by kernel_rfl) rfl) ?_
  refine dfun (y := .row (r_ApiValue_cells y2.L)) rfl rfl rfl rfl (fun a w hk => f_loadBlk1 hk h0 (j := 0) rfl rfl underlying31 rfl rfl) ?_
  refine dfun (y := .lit (.int .i64 v5)) rfl rfl rfl rfl (fun a w hk => f_move hk h0 rfl) ?_
  refine dfun (y := .ref (ApiValue.cells (List.getD y2.L (Int.toNat v5) default))) rfl rfl rfl rfl (fun a w hk => f_indexAddr (R := r_ApiValue_cells) (f := ApiValue.cells) (l := y2.L) (sz := 6) r_ApiValue_cells_eq (fun _ => rfl) hk h0 rfl rfl underlying31 (by kernel_rfl) hc2) ?_
  refine dfun (y := .agg ((ApiValue.cells (List.getD y2.L (Int.toNat v5) default)))) rfl rfl rfl rfl (fun a w hk => f_load hk h0 rfl underlying33 rfl rfl rfl rfl) ?_
  refine dfun (y := .lit (.bool t1)) rfl rfl rfl rfl (fun a w hk => f_call hk h0 rfl rfl func17 rfl (by kernel_rfl) (r02_Same.ok K (List.getD y1.L (Int.toNat v5) default) (List.getD y2.L (Int.toNat v5) default) _ hr_t1)) ?_
  refine dfun (y := .lit (.bool (!t1))) rfl rfl rfl rfl (fun a w hk => (f_pure (p_not hk.kn h0 rfl))) ?_
  refine dend ?_; intro a w hk
  refine wc hk h (fun h hb=>?_) fun h hb=>?_
  ·refine rg hk fun _ q12=>gA<|ge q12 fun a w hk=>?_
   refine wp_ret ?_
   obtain rfl := Option.some.inj h
   exact fret1 hk rfl rfl
  refine wp_skip ?_
  refine q10 _ _ ?_
  refine rg1 hk<|gM<|gD<|gA<|fun a w hk=>?_
  refine wpList_nil ?_
  exact q7 (kl1, y2, y1, (IntKind.wrap .i64 (v5 + 1))) _ _ (Nat.lt_succ_self _) ⟨hk.sub ⟨rfl, rfl, rfl, trivial⟩, h⟩
 refine wp_exit ?_; (repeat first | refine te ?_ | refine be rfl ?_); refine bx ?_
 refine q5 _ _ ?_
 refine wseq fun _ q14 => ?_
 refine rg hk fun _ q15=>gA<|ge q15 fun a w hk=>?_
 refine wp_block ?_
 refine wloop (T := Nat × Int) (fun x a w => match x with | (kl2, v6) => S M w0 a w 68 [blk bx2 36 ((ApiPred.cells y2)), blk bx1 36 ((ApiPred.cells y1))] [(2, [], .lit (.pointer (some ⟨bx1, 0, none⟩))), (3, [], .lit (.pointer (some ⟨bx2, 0, none⟩))), (6, [], .lit (.int .i64 v6))] ∧ r12_SamePred.l2 s_r12_SamePred (r12_SamePred.l1 s_r12_SamePred K kl1) K y1 y2 kl2 v6 = some r) (fun x => x.1) (K, 0) ⟨hk.sub ⟨rfl, rfl, rfl, trivial⟩, h⟩ ?_
 clear hk h
 rintro ⟨kl2, v6⟩ a w ⟨hk, h⟩ K' q16
 cases kl2 with
 | zero => simp [r12_SamePred.l2] at h
 | succ kl2 =>
 rw [r12_SamePred.l2.eq_2] at h
 refine wseq fun _ q17 => ?_
 refine rg hk fun _ q18=>gM<|gF 2 underlying36<|gB 1 underlying34<|fun a w hk=>?_
 refine lf hk (f_len (R := r_ApiPred_cells) (f := ApiPred.cells) (l := y1.Kids) r_ApiPred_cells_eq underlying34 hk h0 rfl) fun a w hk=>?_
 refine go hk<|gL<|ge q18 fun a w hk=>wc hk h (fun h hb=>?_) fun h hb=>?_
 ·refine wp_skip ?_
  refine q17 _ _ ?_
  refine wseq fun _ q19 => ?_
  refine wp_block ?_
  obtain ⟨hc3, h⟩ := chk h
  obtain ⟨hc4, h⟩ := chk h
  obtain ⟨t2, hr_t2, h⟩ := bnd h
  refine wdraw (by kernel_rfl) (by kernel_rfl) hk ?_; clear hk
  refine dfun (y := .lit (.pointer (some ⟨bx1, 2, none⟩))) rfl rfl rfl rfl (fun a w hk => f_fieldPtr hk h0 rfl underlying36 rfl (by kernel_rfl) rfl) ?_
  refine dfun (y := .row (r_ApiPred_cells y1.Kids)) rfl rfl rfl rfl (fun a w hk => f_loadBlk1 hk h0 (j := 1) rfl rfl underlying34 rfl rfl) ?_
  refine dfun (y := .lit (.int .i64 v6)) rfl rfl rfl rfl (fun a w hk => f_move hk h0 rfl) ?_
  refine dfun (y := .ref (ApiPred.cells (List.getD y1.Kids (Int.toNat v6) default))) rfl rfl rfl rfl (fun a w hk => f_indexAddr (R := r_ApiPred_cells) (f := ApiPred.cells) (l := y1.Kids) (sz := 3) r_ApiPred_cells_eq (fun _ => rfl) hk h0 rfl rfl underlying34 (by kernel_rfl) hc3) ?_
  refine dfun (y := .agg ((ApiPred.cells (List.getD y1.Kids (Int.toNat v6) default)))) rfl rfl rfl rfl (fun a w hk => f_load hk h0 rfl underlying36 rfl rfl rfl rfl) ?_
  refine dfun (y := .lit (.pointer (some ⟨bx2, 2, none⟩))) rfl rfl rfl rfl (fun a w hk => f_fieldPtr hk h0 rfl underlying36 rfl (by kernel_rfl) rfl) ?_
  refine dfun (y := .row (r_ApiPred_cells y2.Kids)) rfl rfl rfl rfl (fun a w hk => f_loadBlk1 hk h0 (j := 0) rfl rfl underlying34 rfl rfl) ?_
  refine dfun (y := .lit (.int .i64 v6)) rfl rfl rfl rfl (fun a w hk => f_move hk h0 rfl) ?_
  refine dfun (y := .ref (ApiPred.cells (List.getD y2.Kids (Int.toNat v6) default))) rfl rfl rfl rfl (fun a w hk => f_indexAddr (R := r_ApiPred_cells) (f := ApiPred.cells) (l := y2.Kids) (sz := 3) r_ApiPred_cells_eq (fun _ => rfl) hk h0 rfl rfl underlying34 (by kernel_rfl) hc4) ?_
  refine dfun (y := .agg ((ApiPred.cells (List.getD y2.Kids (Int.toNat v6) default)))) rfl rfl rfl rfl (fun a w hk => f_load hk h0 rfl underlying36 rfl rfl rfl rfl) ?_
  refine dfun (y := .lit (.bool t2)) rfl rfl rfl rfl (fun a w hk => f_call hk h0 rfl rfl func46 rfl (by kernel_rfl) (hs_r12_SamePred (List.getD y1.Kids (Int.toNat v6) default) (List.getD y2.Kids (Int.toNat v6) default) _ hr_t2)) ?_
  refine dfun (y := .lit (.bool (!t2))) rfl rfl rfl rfl (fun a w hk => (f_pure (p_not hk.kn h0 rfl))) ?_
  refine dend ?_; intro a w hk
  refine wc hk h (fun h hb=>?_) fun h hb=>?_
  ·refine rg hk fun _ q21=>gA<|ge q21 fun a w hk=>?_
   refine wp_ret ?_
   obtain rfl := Option.some.inj h
   exact fret1 hk rfl rfl
  refine wp_skip ?_
  refine q19 _ _ ?_
  refine rg1 hk<|gM<|gD<|gA<|fun a w hk=>?_
  refine wpList_nil ?_
  exact q16 (kl2, (IntKind.wrap .i64 (v6 + 1))) _ _ (Nat.lt_succ_self _) ⟨hk.sub ⟨rfl, rfl, rfl, trivial⟩, h⟩
 refine wp_exit ?_; (repeat first | refine te ?_ | refine be rfl ?_); refine bx ?_
 refine q14 _ _ ?_
 refine rg hk fun _ q23=>gA<|ge q23 fun a w hk=>?_
 refine wp_ret ?_
 obtain rfl := Option.some.inj h
 exact fret1 hk rfl rfl
theorem r12_SamePred_knot : ∀ K : Nat, (∀ (v0 : ApiPred) (v1 : ApiPred) (r : Bool), r12_SamePred.f K v0 v1 = some r → Ok prog 46 [.agg (ApiPred.cells v0), .agg (ApiPred.cells v1)] (.lit (.bool r)))
 | 0 => fun v0 v1 r h => by simp [r12_SamePred.f] at h
 | K + 1 => fun v0 v1 r h => by rw [r12_SamePred.f] at h; exact r12_SamePred.bok _ (r12_SamePred_knot K) K v0 v1 r h
theorem r12_SamePred.ok (K : Nat) (v0 : ApiPred) (v1 : ApiPred) (r : Bool) (h : r12_SamePred.f K v0 v1 = some r) : Ok prog 46 [.agg (ApiPred.cells v0), .agg (ApiPred.cells v1)] (.lit (.bool r)) := (r12_SamePred_knot K) v0 v1 r h
end Go.Proofs.Ytbjbgodcenopnaa
namespace Go.Proofs.Ytbjbgodcenopnaa
open FW _root_.Go.Proofs.Try
set_option linter.unusedVariables false
set_option maxRecDepth 20000
set_option maxHeartbeats 10000000
theorem offshootref15_sameIns.ok (K : Nat) (v0 : ApiIns) (v1 : ApiIns) (r : Bool) (h : offshootref15_sameIns.f K v0 v1 = some r) :
  Ok prog 49 [.agg (ApiIns.cells v0), .agg (ApiIns.cells v1)] (.lit (.bool r)) := by
 refine enter (xs := [.agg (ApiIns.cells v0), .agg (ApiIns.cells v1)]) func49 rfl ntmps49 rfl ?_
 intro M w0 a hk
 unfold offshootref15_sameIns.f at h
 refine wreg fun _ q1 => ?_
 refine l_box (cs := (ApiIns.cells v0)) hk rfl rfl rfl rfl rfl ?_; clear hk; intro bx1 a w hk
 refine l_box (cs := (ApiIns.cells v1)) hk rfl rfl rfl rfl rfl ?_; clear hk; intro bx2 a w hk
 refine go hk<|gA<|ge q1 fun a w hk=>?_
 refine wseq fun _ q2 => ?_
 refine rg hk fun _ q3=>gF 0 underlying59<|gB 1 underlying3<|gF 0 underlying59<|gB 0 underlying3<|gP (p_neq · h0 rfl rfl)<|gM<|fun a w hk=>?_
 refine lg (y := .lit (.pointer (some ⟨bx1, 8, none⟩))) hk rfl rfl rfl (fun hc => f_fieldPtr hk hc rfl underlying59 rfl (by kernel_rfl) rfl) fun a w hk=>?_
 refine lg hk rfl rfl rfl (fun hc => f_loadBlk1 hk hc (j := 1) rfl rfl underlying4 rfl rfl) fun a w hk=>?_
 refine lg (y := .lit (.pointer (some ⟨bx2, 8, none⟩))) hk rfl rfl rfl (fun hc => f_fieldPtr hk hc rfl underlying59 rfl (by kernel_rfl) rfl) fun a w hk=>?_
 refine lg hk rfl rfl rfl (fun hc => f_loadBlk1 hk hc (j := 0) rfl rfl underlying4 rfl rfl) fun a w hk=>?_
 refine lg hk rfl rfl rfl (fun hc => (f_pure (p_bneq underlying4 hk.kn hc rfl rfl))) fun a w hk=>?_
 refine go hk<|gR<|gM<|fun a w hk=>?_
 refine lg (y := .lit (.pointer (some ⟨bx1, 1, none⟩))) hk rfl rfl rfl (fun hc => f_fieldPtr hk hc rfl underlying59 rfl (by kernel_rfl) rfl) fun a w hk=>?_
 refine lg hk rfl rfl rfl (fun hc => f_loadBlk1 hk hc (j := 1) rfl rfl underlying56 rfl rfl) fun a w hk=>?_
 refine lg hk rfl rfl rfl (fun hc => f_len (R := r_c_str) (f := c_str) (l := v0.S) r_c_str_eq underlying56 hk hc rfl) fun a w hk=>?_
 refine lg (y := .lit (.pointer (some ⟨bx2, 1, none⟩))) hk rfl rfl rfl (fun hc => f_fieldPtr hk hc rfl underlying59 rfl (by kernel_rfl) rfl) fun a w hk=>?_
 refine lg hk rfl rfl rfl (fun hc => f_loadBlk1 hk hc (j := 0) rfl rfl underlying56 rfl rfl) fun a w hk=>?_
 refine lg hk rfl rfl rfl (fun hc => f_len (R := r_c_str) (f := c_str) (l := v1.S) r_c_str_eq underlying56 hk hc rfl) fun a w hk=>?_
 refine lg hk rfl rfl rfl (fun hc => (f_pure (p_neq hk.kn hc rfl rfl))) fun a w hk=>?_
 refine go hk<|gR<|gM<|fun a w hk=>?_
 refine lg (y := .lit (.pointer (some ⟨bx1, 2, none⟩))) hk rfl rfl rfl (fun hc => f_fieldPtr hk hc rfl underlying59 rfl (by kernel_rfl) rfl) fun a w hk=>?_
 refine lg hk rfl rfl rfl (fun hc => f_loadBlk1 hk hc (j := 1) rfl rfl underlying57 rfl rfl) fun a w hk=>?_
 refine lg hk rfl rfl rfl (fun hc => f_len (R := r_c_i64) (f := c_i64) (l := v0.N) r_c_i64_eq underlying57 hk hc rfl) fun a w hk=>?_
 refine lg (y := .lit (.pointer (some ⟨bx2, 2, none⟩))) hk rfl rfl rfl (fun hc => f_fieldPtr hk hc rfl underlying59 rfl (by kernel_rfl) rfl) fun a w hk=>?_
 refine lg hk rfl rfl rfl (fun hc => f_loadBlk1 hk hc (j := 0) rfl rfl underlying57 rfl rfl) fun a w hk=>?_
 refine lg hk rfl rfl rfl (fun hc => f_len (R := r_c_i64) (f := c_i64) (l := v1.N) r_c_i64_eq underlying57 hk hc rfl) fun a w hk=>?_
 refine lg hk rfl rfl rfl (fun hc => (f_pure (p_neq hk.kn hc rfl rfl))) fun a w hk=>?_
 refine go hk<|gR<|gM<|fun a w hk=>?_
 refine lg (y := .lit (.pointer (some ⟨bx1, 3, none⟩))) hk rfl rfl rfl (fun hc => f_fieldPtr hk hc rfl underlying59 rfl (by kernel_rfl) rfl) fun a w hk=>?_
 refine lg hk rfl rfl rfl (fun hc => f_loadBlk1 hk hc (j := 1) rfl rfl underlying31 rfl rfl) fun a w hk=>?_
 refine lg hk rfl rfl rfl (fun hc => f_len (R := r_ApiValue_cells) (f := ApiValue.cells) (l := v0.V) r_ApiValue_cells_eq underlying31 hk hc rfl) fun a w hk=>?_
 refine lg (y := .lit (.pointer (some ⟨bx2, 3, none⟩))) hk rfl rfl rfl (fun hc => f_fieldPtr hk hc rfl underlying59 rfl (by kernel_rfl) rfl) fun a w hk=>?_
 refine lg hk rfl rfl rfl (fun hc => f_loadBlk1 hk hc (j := 0) rfl rfl underlying31 rfl rfl) fun a w hk=>?_
 refine lg hk rfl rfl rfl (fun hc => f_len (R := r_ApiValue_cells) (f := ApiValue.cells) (l := v1.V) r_ApiValue_cells_eq underlying31 hk hc rfl) fun a w hk=>?_
 refine lg hk rfl rfl rfl (fun hc => (f_pure (p_neq hk.kn hc rfl rfl))) fun a w hk=>?_
 refine go hk<|gR<|gM<|fun a w hk=>?_
 refine lg (y := .lit (.pointer (some ⟨bx1, 7, none⟩))) hk rfl rfl rfl (fun hc => f_fieldPtr hk hc rfl underlying59 rfl (by kernel_rfl) rfl) fun a w hk=>?_
 refine lg hk rfl rfl rfl (fun hc => f_loadBlk1 hk hc (j := 1) rfl rfl underlying54 rfl rfl) fun a w hk=>?_
 refine lg hk rfl rfl rfl (fun hc => f_len (R := r_c_i64) (f := c_i64) (l := v0.Kids) r_c_i64_eq underlying54 hk hc rfl) fun a w hk=>?_
 refine lg (y := .lit (.pointer (some ⟨bx2, 7, none⟩))) hk rfl rfl rfl (fun hc => f_fieldPtr hk hc rfl underlying59 rfl (by kernel_rfl) rfl) fun a w hk=>?_
 refine lg hk rfl rfl rfl (fun hc => f_loadBlk1 hk hc (j := 0) rfl rfl underlying54 rfl rfl) fun a w hk=>?_
 refine lg hk rfl rfl rfl (fun hc => f_len (R := r_c_i64) (f := c_i64) (l := v1.Kids) r_c_i64_eq underlying54 hk hc rfl) fun a w hk=>?_
 refine lg hk rfl rfl rfl (fun hc => (f_pure (p_neq hk.kn hc rfl rfl))) fun a w hk=>?_
 refine go hk<|gR<|gM<|fun a w hk=>?_
 refine lg (y := .lit (.pointer (some ⟨bx1, 4, none⟩))) hk rfl rfl rfl (fun hc => f_fieldPtr hk hc rfl underlying59 rfl (by kernel_rfl) rfl) fun a w hk=>?_
 refine lg hk rfl rfl rfl (fun hc => f_loadBlk hk hc (j := 1) rfl rfl underlying36 rfl rfl rfl rfl) fun a w hk=>?_
 refine lg (y := .lit (.pointer (some ⟨bx2, 4, none⟩))) hk rfl rfl rfl (fun hc => f_fieldPtr hk hc rfl underlying59 rfl (by kernel_rfl) rfl) fun a w hk=>?_
 refine lg hk rfl rfl rfl (fun hc => f_loadBlk hk hc (j := 0) rfl rfl underlying36 rfl rfl rfl rfl) fun a w hk=>?_
 obtain ⟨t1, hr_t1, h⟩ := bndG h
 refine lg (y := .lit (.bool t1)) hk rfl rfl rfl (fun hc => f_call hk hc rfl rfl func46 rfl (by kernel_rfl) (r12_SamePred.ok K v0.P v1.P _ (hr_t1 (asm_out (p := ((((((!decide (v0.Op = v1.Op)) || (!(v0.Flag == v1.Flag))) || (!decide ((List.length v0.S : Int) = (List.length v1.S : Int)))) || (!decide ((List.length v0.N : Int) = (List.length v1.N : Int)))) || (!decide ((List.length v0.V : Int) = (List.length v1.V : Int)))) || (!decide ((List.length v0.Kids : Int) = (List.length v1.Kids : Int)))) = false) hk.kn hc (fun e0 => e0))))) fun a w hk=>?_
 refine lg hk rfl rfl rfl (fun hc => (f_pure (p_not hk.kn hc rfl))) fun a w hk=>?_
 refine go hk<|gR<|ge q3 fun a w hk=>wc hk h (fun h hb=>?_) fun h hb=>?_
 ·refine rg hk fun _ q4=>gA<|ge q4 fun a w hk=>?_
  refine wp_ret ?_
  obtain rfl := Option.some.inj h
  exact fret1 hk rfl rfl
 refine wp_skip ?_
 refine q2 _ _ ?_
 refine wseq fun _ q5 => ?_
 refine rg hk fun _ q6=>gA<|ge q6 fun a w hk=>?_
 refine wp_block ?_
 refine wloop (T := Nat × ApiIns × ApiIns × Int) (fun x a w => match x with | (kl1, y2, y1, v5) => S M w0 a w 138 [blk bx2 59 ((ApiIns.cells y2)), blk bx1 59 ((ApiIns.cells y1))] [(2, [], .lit (.pointer (some ⟨bx1, 0, none⟩))), (3, [], .lit (.pointer (some ⟨bx2, 0, none⟩))), (5, [], .lit (.int .i64 v5))] ∧ offshootref15_sameIns.l1 K kl1 y2 y1 v5 = some r) (fun x => x.1) (K, v1, v0, 0) ⟨hk.sub ⟨rfl, rfl, rfl, trivial⟩, h⟩ ?_
 clear hk h
 rintro ⟨kl1, y2, y1, v5⟩ a w ⟨hk, h⟩ K' q7
 cases kl1 with
 | zero => simp [offshootref15_sameIns.l1] at h
 | succ kl1 =>
 rw [offshootref15_sameIns.l1.eq_2] at h
 refine wseq fun _ q8 => ?_
 refine rg hk fun _ q9=>gM<|gF 1 underlying59<|gB 1 underlying56<|fun a w hk=>?_
 refine lf hk (f_len (R := r_c_str) (f := c_str) (l := y1.S) r_c_str_eq underlying56 hk h0 rfl) fun a w hk=>?_
 refine go hk<|gL<|ge q9 fun a w hk=>wc hk h (fun h hb=>?_) fun h hb=>?_
 ·refine wp_skip ?_
  refine q8 _ _ ?_
  refine wseq fun _ q10 => ?_
  refine wp_block ?_
  obtain ⟨hc1, h⟩ := chk h
  obtain ⟨hc2, h⟩ := chk h
  refine wdraw (by kernel_rfl) (by kernel_rfl) hk ?_; clear hk
  refine dfun (y := .lit (.pointer (some ⟨bx1, 1, none⟩))) rfl rfl rfl rfl (fun a w hk => f_fieldPtr hk h0 rfl underlying59 rfl (by kernel_rfl) rfl) ?_
  refine dfun (y := .row (r_c_str y1.S)) rfl rfl rfl rfl (fun a w hk => f_loadBlk1 hk h0 (j := 1) rfl rfl underlying56 rfl rfl) ?_
  refine dfun (y := .lit (.int .i64 v5)) rfl rfl rfl rfl (fun a w hk => f_move hk h0 rfl) ?_
  refine dfun (y := .ref (c_str (List.getD y1.S (Int.toNat v5) default))) rfl rfl rfl rfl (fun a w hk => f_indexAddr (R := r_c_str) (f := c_str) (l := y1.S) (sz := 1) r_c_str_eq (fun _ => rfl) hk h0 rfl rfl underlying56 (by kernel_rfl) hc1) ?_
  refine dfun (y := .lit (.string (B (List.getD y1.S (Int.toNat v5) default)))) rfl rfl rfl rfl (fun a w hk => f_load1 hk h0 rfl rfl underlying9 rfl) ?_
  refine dfun (y := .lit (.pointer (some ⟨bx2, 1, none⟩))) rfl rfl rfl rfl (fun a w hk => f_fieldPtr hk h0 rfl underlying59 rfl (by kernel_rfl) rfl) ?_
  refine dfun (y := .row (r_c_str y2.S)) rfl rfl rfl rfl (fun a w hk => f_loadBlk1 hk h0 (j := 0) rfl rfl underlying56 rfl rfl) ?_
  refine dfun (y := .lit (.int .i64 v5)) rfl rfl rfl rfl (fun a w hk => f_move hk h0 rfl) ?_
  refine dfun (y := .ref (c_str (List.getD y2.S (Int.toNat v5) default))) rfl rfl rfl rfl (fun a w hk => f_indexAddr (R := r_c_str) (f := c_str) (l := y2.S) (sz := 1) r_c_str_eq (fun _ => rfl) hk h0 rfl rfl underlying56 (by kernel_rfl) hc2) ?_
  refine dfun (y := .lit (.string (B (List.getD y2.S (Int.toNat v5) default)))) rfl rfl rfl rfl (fun a w hk => f_load1 hk h0 rfl rfl underlying9 rfl) ?_
  refine dfun (y := .lit (.bool (!decide ((List.getD y1.S (Int.toNat v5) default) = (List.getD y2.S (Int.toNat v5) default))))) rfl rfl rfl rfl (fun a w hk => (f_pure (p_sneq hk.kn h0 rfl rfl))) ?_
  refine dend ?_; intro a w hk
  refine wc hk h (fun h hb=>?_) fun h hb=>?_
  ·refine rg hk fun _ q12=>gA<|ge q12 fun a w hk=>?_
   refine wp_ret ?_
   obtain rfl := Option.some.inj h
   exact fret1 hk rfl rfl
  refine wp_skip ?_
  refine q10 _ _ ?_
  refine rg1 hk<|gM<|gD<|gA<|fun a w hk=>?_
  refine wpList_nil ?_
  exact q7 (kl1, y2, y1, (IntKind.wrap .i64 (v5 + 1))) _ _ (Nat.lt_succ_self _) ⟨hk.sub ⟨rfl, rfl, rfl, trivial⟩, h⟩
 refine wp_exit ?_; (repeat first | refine te ?_ | refine be rfl ?_); refine bx ?_
 refine q5 _ _ ?_
 refine wseq fun _ q14 => ?_
 refine rg hk fun _ q15=>gA<|ge q15 fun a w hk=>?_
 refine wp_block ?_
 refine wloop (T := Nat × Int) (fun x a w => match x with | (kl2, v6) => S M w0 a w 138 [blk bx2 59 ((ApiIns.cells y2)), blk bx1 59 ((ApiIns.cells y1))] [(2, [], .lit (.pointer (some ⟨bx1, 0, none⟩))), (3, [], .lit (.pointer (some ⟨bx2, 0, none⟩))), (6, [], .lit (.int .i64 v6))] ∧ offshootref15_sameIns.l2 (offshootref15_sameIns.l1 K kl1) K y1 y2 kl2 v6 = some r) (fun x => x.1) (K, 0) ⟨hk.sub ⟨rfl, rfl, rfl, trivial⟩, h⟩ ?_
 clear hk h
 rintro ⟨kl2, v6⟩ a w ⟨hk, h⟩ K' q16
 cases kl2 with
 | zero => simp [offshootref15_sameIns.l2] at h
 | succ kl2 =>
 rw [offshootref15_sameIns.l2.eq_2] at h
 refine wseq fun _ q17 => ?_
 refine rg hk fun _ q18=>gM<|gF 2 underlying59<|gB 1 underlying57<|fun a w hk=>?_
 refine lf hk (f_len (R := r_c_i64) (f := c_i64) (l := y1.N) r_c_i64_eq underlying57 hk h0 rfl) fun a w hk=>?_
 refine go hk<|gL<|ge q18 fun a w hk=>wc hk h (fun h hb=>?_) fun h hb=>?_
 ·refine wp_skip ?_
  refine q17 _ _ ?_
  refine wseq fun _ q19 => ?_
  refine wp_block ?_
  obtain ⟨hc3, h⟩ := chk h
  obtain ⟨hc4, h⟩ := chk h
  refine wdraw (by kernel_rfl) (by kernel_rfl) hk ?_; clear hk
  refine dfun (y := .lit (.pointer (some ⟨bx1, 2, none⟩))) rfl rfl rfl rfl (fun a w hk => f_fieldPtr hk h0 rfl underlying59 rfl (by kernel_rfl) rfl) ?_
  refine dfun (y := .row (r_c_i64 y1.N)) rfl rfl rfl rfl (fun a w hk => f_loadBlk1 hk h0 (j := 1) rfl rfl underlying57 rfl rfl) ?_
  refine dfun (y := .lit (.int .i64 v6)) rfl rfl rfl rfl (fun a w hk => f_move hk h0 rfl) ?_
  refine dfun (y := .ref (c_i64 (List.getD y1.N (Int.toNat v6) default))) rfl rfl rfl rfl (fun a w hk => f_indexAddr (R := r_c_i64) (f := c_i64) (l := y1.N) (sz := 1) r_c_i64_eq (fun _ => rfl) hk h0 rfl rfl underlying57 (by kernel_rfl) hc3) ?_
  refine dfun (y := .lit (.int .i64 (List.getD y1.N (Int.toNat v6) default))) rfl rfl rfl rfl (fun a w hk => f_load1 hk h0 rfl rfl underlying2 rfl) ?_
  refine dfun (y := .lit (.pointer (some ⟨bx2, 2, none⟩))) rfl rfl rfl rfl (fun a w hk => f_fieldPtr hk h0 rfl underlying59 rfl (by kernel_rfl) rfl) ?_
  refine dfun (y := .row (r_c_i64 y2.N)) rfl rfl rfl rfl (fun a w hk => f_loadBlk1 hk h0 (j := 0) rfl rfl underlying57 rfl rfl) ?_
  refine dfun (y := .lit (.int .i64 v6)) rfl rfl rfl rfl (fun a w hk => f_move hk h0 rfl) ?_
  refine dfun (y := .ref (c_i64 (List.getD y2.N (Int.toNat v6) default))) rfl rfl rfl rfl (fun a w hk => f_indexAddr (R := r_c_i64) (f := c_i64) (l := y2.N) (sz := 1) r_c_i64_eq (fun _ => rfl) hk h0 rfl rfl underlying57 (by kernel_rfl) hc4) ?_
  refine dfun (y := .lit (.int .i64 (List.getD y2.N (Int.toNat v6) default))) rfl rfl rfl rfl (fun a w hk => f_load1 hk h0 rfl rfl underlying2 rfl) ?_
  refine dfun (y := .lit (.bool (!decide ((List.getD y1.N (Int.toNat v6) default) = (List.getD y2.N (Int.toNat v6) default))))) rfl rfl rfl rfl (fun a w hk => (f_pure (p_neq hk.kn h0 rfl rfl))) ?_
  refine dend ?_; intro a w hk
  refine wc hk h (fun h hb=>?_) fun h hb=>?_
  ·refine rg hk fun _ q21=>gA<|ge q21 fun a w hk=>?_
   refine wp_ret ?_
   obtain rfl := Option.some.inj h
   exact fret1 hk rfl rfl
  refine wp_skip ?_
  refine q19 _ _ ?_
  refine rg1 hk<|gM<|gD<|gA<|fun a w hk=>?_
  refine wpList_nil ?_
  exact q16 (kl2, (IntKind.wrap .i64 (v6 + 1))) _ _ (Nat.lt_succ_self _) ⟨hk.sub ⟨rfl, rfl, rfl, trivial⟩, h⟩
 refine wp_exit ?_; (repeat first | refine te ?_ | refine be rfl ?_); refine bx ?_
 refine q14 _ _ ?_
 refine wseq fun _ q23 => ?_
 refine rg hk fun _ q24=>gA<|ge q24 fun a w hk=>?_
 refine wp_block ?_
 refine wloop (T := Nat × Int) (fun x a w => match x with | (kl3, v7) => S M w0 a w 138 [blk bx2 59 ((ApiIns.cells y2)), blk bx1 59 ((ApiIns.cells y1))] [(2, [], .lit (.pointer (some ⟨bx1, 0, none⟩))), (3, [], .lit (.pointer (some ⟨bx2, 0, none⟩))), (7, [], .lit (.int .i64 v7))] ∧ offshootref15_sameIns.l3 (offshootref15_sameIns.l1 K kl1) (offshootref15_sameIns.l2 (offshootref15_sameIns.l1 K kl1) K y1 y2 kl2) K y1 y2 kl3 v7 = some r) (fun x => x.1) (K, 0) ⟨hk.sub ⟨rfl, rfl, rfl, trivial⟩, h⟩ ?_
 clear hk h
 rintro ⟨kl3, v7⟩ a w ⟨hk, h⟩ K' q25
 cases kl3 with
 | zero => simp [offshootref15_sameIns.l3] at h
 | succ kl3 =>
 rw [offshootref15_sameIns.l3.eq_2] at h
 refine wseq fun _ q26 => ?_
 refine rg hk fun _ q27=>gM<|gF 3 underlying59<|gB 1 underlying31<|fun a w hk=>?_
 refine lf hk (f_len (R := r_ApiValue_cells) (f := ApiValue.cells) (l := y1.V) r_ApiValue_cells_eq underlying31 hk h0 rfl) fun a w hk=>?_
 refine go hk<|gL<|ge q27 fun a w hk=>wc hk h (fun h hb=>?_) fun h hb=>?_
 ·refine wp_skip ?_
  refine q26 _ _ ?_
  refine wseq fun _ q28 => ?_
  refine wp_block ?_
  obtain ⟨hc5, h⟩ := chk h
  obtain ⟨hc6, h⟩ := chk h
  obtain ⟨t2, hr_t2, h⟩ := bnd h
  refine wdraw (by kernel_rfl) (by kernel_rfl) hk ?_; clear hk
  refine dfun (y := .lit (.pointer (some ⟨bx1, 3, none⟩))) rfl rfl rfl rfl (fun a w hk => f_fieldPtr hk h0 rfl underlying59 rfl (by kernel_rfl) rfl) ?_
  refine dfun (y := .row (r_ApiValue_cells y1.V)) rfl rfl rfl rfl (fun a w hk => f_loadBlk1 hk h0 (j := 1) rfl rfl underlying31 rfl rfl) ?_
  refine dfun (y := .lit (.int .i64 v7)) rfl rfl rfl rfl (fun a w hk => f_move hk h0 rfl) ?_
  refine dfun (y := .ref (ApiValue.cells (List.getD y1.V (Int.toNat v7) default))) rfl rfl rfl rfl (fun a w hk => f_indexAddr (R := r_ApiValue_cells) (f := ApiValue.cells) (l := y1.V) (sz := 6) r_ApiValue_cells_eq (fun _ => rfl) hk h0 rfl rfl underlying31 (by kernel_rfl) hc5) ?_
  refine dfun (y := .agg ((ApiValue.cells (List.getD y1.V (Int.toNat v7) default)))) rfl rfl rfl rfl (fun a w hk => f_load hk h0 rfl underlying33 rfl rfl rfl rfl) ?_
  refine dfun (y := .lit (.pointer (some ⟨bx2, 3, none⟩))) rfl rfl rfl rfl (fun a w hk => f_fieldPtr hk h0 rfl underlying59 rfl (by kernel_rfl) rfl) ?_
  refine dfun (y := .row (r_ApiValue_cells y2.V)) rfl rfl rfl rfl (fun a w hk => f_loadBlk1 hk h0 (j := 0) rfl rfl underlying31 rfl rfl) ?_
  refine dfun (y := .lit (.int .i64 v7)) rfl rfl rfl rfl (fun a w hk => f_move hk h0 rfl) ?_
  refine dfun (y := .ref (ApiValue.cells (List.getD y2.V (Int.toNat v7) default))) rfl rfl rfl rfl (fun a w hk => f_indexAddr (R := r_ApiValue_cells) (f := ApiValue.cells) (l := y2.V) (sz := 6) r_ApiValue_cells_eq (fun _ => rfl) hk h0 rfl rfl underlying31 (by kernel_rfl) hc6) ?_
  refine dfun (y := .agg ((ApiValue.cells (List.getD y2.V (Int.toNat v7) default)))) rfl rfl rfl rfl (fun a w hk => f_load hk h0 rfl underlying33 rfl rfl rfl rfl) ?_
  refine dfun (y := .lit (.bool t2)) rfl rfl rfl rfl (fun a w hk => f_call hk h0 rfl rfl func17 rfl (by kernel_rfl) (r02_Same.ok K (List.getD y1.V (Int.toNat v7) default) (List.getD y2.V (Int.toNat v7) default) _ hr_t2)) ?_
  refine dfun (y := .lit (.bool (!t2))) rfl rfl rfl rfl (fun a w hk => (f_pure (p_not hk.kn h0 rfl))) ?_
  refine dend ?_; intro a w hk
  refine wc hk h (fun h hb=>?_) fun h hb=>?_
  ·refine rg hk fun _ q30=>gA<|ge q30 fun a w hk=>?_
   refine wp_ret ?_
   obtain rfl := Option.some.inj h
   exact fret1 hk rfl rfl
  refine wp_skip ?_
  refine q28 _ _ ?_
  refine rg1 hk<|gM<|gD<|gA<|fun a w hk=>?_
  refine wpList_nil ?_
  exact q25 (kl3, (IntKind.wrap .i64 (v7 + 1))) _ _ (Nat.lt_succ_self _) ⟨hk.sub ⟨rfl, rfl, rfl, trivial⟩, h⟩
 refine wp_exit ?_; (repeat first | refine te ?_ | refine be rfl ?_); refine bx ?_
 refine q23 _ _ ?_
 refine wseq fun _ q32 => ?_
 refine rg hk fun _ q33=>gA<|ge q33 fun a w hk=>?_
 refine wp_block ?_
 refine wloop (T := Nat × Int) (fun x a w => match x with | (kl4, v8) => S M w0 a w 138 [blk bx2 59 ((ApiIns.cells y2)), blk bx1 59 ((ApiIns.cells y1))] [(2, [], .lit (.pointer (some ⟨bx1, 0, none⟩))), (3, [], .lit (.pointer (some ⟨bx2, 0, none⟩))), (8, [], .lit (.int .i64 v8))] ∧ offshootref15_sameIns.l4 (offshootref15_sameIns.l1 K kl1) (offshootref15_sameIns.l2 (offshootref15_sameIns.l1 K kl1) K y1 y2 kl2) (offshootref15_sameIns.l3 (offshootref15_sameIns.l1 K kl1) (offshootref15_sameIns.l2 (offshootref15_sameIns.l1 K kl1) K y1 y2 kl2) K y1 y2 kl3) K y1 y2 kl4 v8 = some r) (fun x => x.1) (K, 0) ⟨hk.sub ⟨rfl, rfl, rfl, trivial⟩, h⟩ ?_
 clear hk h
 rintro ⟨kl4, v8⟩ a w ⟨hk, h⟩ K' q34
 cases kl4 with
 | zero => simp [offshootref15_sameIns.l4] at h
 | succ kl4 =>
 rw [offshootref15_sameIns.l4.eq_2] at h
 refine wseq fun _ q35 => ?_
 refine rg hk fun _ q36=>gM<|gF 7 underlying59<|gB 1 underlying54<|fun a w hk=>?_
 refine lf hk (f_len (R := r_c_i64) (f := c_i64) (l := y1.Kids) r_c_i64_eq underlying54 hk h0 rfl) fun a w hk=>?_
 refine go hk<|gL<|ge q36 fun a w hk=>wc hk h (fun h hb=>?_) fun h hb=>?_
 ·refine wp_skip ?_
  refine q35 _ _ ?_
  refine wseq fun _ q37 => ?_
  refine wp_block ?_
  obtain ⟨hc7, h⟩ := chk h
  obtain ⟨hc8, h⟩ := chk h
  refine wdraw (by kernel_rfl) (by kernel_rfl) hk ?_; clear hk
  refine dfun (y := .lit (.pointer (some ⟨bx1, 7, none⟩))) rfl rfl rfl rfl (fun a w hk => f_fieldPtr hk h0 rfl underlying59 rfl (by kernel_rfl) rfl) ?_
  refine dfun (y := .row (r_c_i64 y1.Kids)) rfl rfl rfl rfl (fun a w hk => f_loadBlk1 hk h0 (j := 1) rfl rfl underlying54 rfl rfl) ?_
  refine dfun (y := .lit (.int .i64 v8)) rfl rfl rfl rfl (fun a w hk => f_move hk h0 rfl) ?_
  refine dfun (y := .ref (c_i64 (List.getD y1.Kids (Int.toNat v8) default))) rfl rfl rfl rfl (fun a w hk => f_indexAddr (R := r_c_i64) (f := c_i64) (l := y1.Kids) (sz := 1) r_c_i64_eq (fun _ => rfl) hk h0 rfl rfl underlying54 (by kernel_rfl) hc7) ?_
  refine dfun (y := .lit (.int .i64 (List.getD y1.Kids (Int.toNat v8) default))) rfl rfl rfl rfl (fun a w hk => f_load1 hk h0 rfl rfl underlying3 rfl) ?_
  refine dfun (y := .lit (.pointer (some ⟨bx2, 7, none⟩))) rfl rfl rfl rfl (fun a w hk => f_fieldPtr hk h0 rfl underlying59 rfl (by kernel_rfl) rfl) ?_
  refine dfun (y := .row (r_c_i64 y2.Kids)) rfl rfl rfl rfl (fun a w hk => f_loadBlk1 hk h0 (j := 0) rfl rfl underlying54 rfl rfl) ?_
  refine dfun (y := .lit (.int .i64 v8)) rfl rfl rfl rfl (fun a w hk => f_move hk h0 rfl) ?_
  refine dfun (y := .ref (c_i64 (List.getD y2.Kids (Int.toNat v8) default))) rfl rfl rfl rfl (fun a w hk => f_indexAddr (R := r_c_i64) (f := c_i64) (l := y2.Kids) (sz := 1) r_c_i64_eq (fun _ => rfl) hk h0 rfl rfl underlying54 (by kernel_rfl) hc8) ?_
  refine dfun (y := .lit (.int .i64 (List.getD y2.Kids (Int.toNat v8) default))) rfl rfl rfl rfl (fun a w hk => f_load1 hk h0 rfl rfl underlying3 rfl) ?_
  refine dfun (y := .lit (.bool (!decide ((List.getD y1.Kids (Int.toNat v8) default) = (List.getD y2.Kids (Int.toNat v8) default))))) rfl rfl rfl rfl (fun a w hk => (f_pure (p_neq hk.kn h0 rfl rfl))) ?_
  refine dend ?_; intro a w hk
  refine wc hk h (fun h hb=>?_) fun h hb=>?_
  ·refine rg hk fun _ q39=>gA<|ge q39 fun a w hk=>?_
   refine wp_ret ?_
   obtain rfl := Option.some.inj h
   exact fret1 hk rfl rfl
  refine wp_skip ?_
  refine q37 _ _ ?_
  refine rg1 hk<|gM<|gD<|gA<|fun a w hk=>?_
  refine wpList_nil ?_
  exact q34 (kl4, (IntKind.wrap .i64 (v8 + 1))) _ _ (Nat.lt_succ_self _) ⟨hk.sub ⟨rfl, rfl, rfl, trivial⟩, h⟩
 refine wp_exit ?_; (repeat first | refine te ?_ | refine be rfl ?_); refine bx ?_
 refine q32 _ _ ?_
 refine rg hk fun _ q41=>gA<|ge q41 fun a w hk=>?_
 refine wp_ret ?_
 obtain rfl := Option.some.inj h
 exact fret1 hk rfl rfl
end Go.Proofs.Ytbjbgodcenopnaa
namespace Go.Proofs.Ytbjbgodcenopnaa
open FW _root_.Go.Proofs.Try
set_option linter.unusedVariables false
set_option maxRecDepth 20000
set_option maxHeartbeats 10000000
theorem offshootref15_Same.ok (K : Nat) (v0 : ApiProg) (v1 : ApiProg) (r : Bool) (h : offshootref15_Same.f K v0 v1 = some r) :
  Ok prog 24 [.agg (ApiProg.cells v0), .agg (ApiProg.cells v1)] (.lit (.bool r)) := by
 refine enter (xs := [.agg (ApiProg.cells v0), .agg (ApiProg.cells v1)]) func24 rfl ntmps24 rfl ?_
 intro M w0 a hk
 unfold offshootref15_Same.f at h
 refine wreg fun _ q1 => ?_
 refine l_box (cs := (ApiProg.cells v0)) hk rfl rfl rfl rfl rfl ?_; clear hk; intro bx1 a w hk
 refine l_box (cs := (ApiProg.cells v1)) hk rfl rfl rfl rfl rfl ?_; clear hk; intro bx2 a w hk
 refine go hk<|gA<|ge q1 fun a w hk=>?_
 refine wseq fun _ q2 => ?_
 refine rg hk fun _ q3=>gF 0 underlying50<|gB 1 underlying48<|fun a w hk=>?_
 refine lf hk (f_len (R := r_c_s_ApiIns_cells) (f := c_s_ApiIns_cells) (l := v0.Bodies) r_c_s_ApiIns_cells_eq underlying48 hk h0 rfl) fun a w hk=>?_
 refine go hk<|gF 0 underlying50<|gB 0 underlying48<|fun a w hk=>?_
 refine lf hk (f_len (R := r_c_s_ApiIns_cells) (f := c_s_ApiIns_cells) (l := v1.Bodies) r_c_s_ApiIns_cells_eq underlying48 hk h0 rfl) fun a w hk=>?_
 refine go hk<|gP (p_neq · h0 rfl rfl)<|ge q3 fun a w hk=>wc hk h (fun h hb=>?_) fun h hb=>?_
 ·refine rg hk fun _ q4=>gA<|ge q4 fun a w hk=>?_
  refine wp_ret ?_
  obtain rfl := Option.some.inj h
  exact fret1 hk rfl rfl
 refine wp_skip ?_
 refine q2 _ _ ?_
 refine wseq fun _ q5 => ?_
 refine rg hk fun _ q6=>gA<|ge q6 fun a w hk=>?_
 refine wp_block ?_
 refine wloop (T := Nat × ApiProg × ApiProg × Int) (fun x a w => match x with | (kl1, y2, y1, v5) => S M w0 a w 62 [blk bx2 50 ((ApiProg.cells y2)), blk bx1 50 ((ApiProg.cells y1))] [(2, [], .lit (.pointer (some ⟨bx1, 0, none⟩))), (3, [], .lit (.pointer (some ⟨bx2, 0, none⟩))), (5, [], .lit (.int .i64 v5))] ∧ offshootref15_Same.l1 K kl1 y2 y1 v5 = some r) (fun x => x.1) (K, v1, v0, 0) ⟨hk.sub ⟨rfl, rfl, rfl, trivial⟩, h⟩ ?_
 clear hk h
 rintro ⟨kl1, y2, y1, v5⟩ a w ⟨hk, h⟩ K' q7
 cases kl1 with
 | zero => simp [offshootref15_Same.l1] at h
 | succ kl1 =>
 rw [offshootref15_Same.l1.eq_2] at h
 refine wseq fun _ q8 => ?_
 refine rg hk fun _ q9=>gM<|gF 0 underlying50<|gB 1 underlying48<|fun a w hk=>?_
 refine lf hk (f_len (R := r_c_s_ApiIns_cells) (f := c_s_ApiIns_cells) (l := y1.Bodies) r_c_s_ApiIns_cells_eq underlying48 hk h0 rfl) fun a w hk=>?_
 refine go hk<|gL<|ge q9 fun a w hk=>wc hk h (fun h hb=>?_) fun h hb=>?_
 ·refine wp_skip ?_
  refine q8 _ _ ?_
  refine wseq fun _ q10 => ?_
  refine wp_block ?_
  refine wseq fun _ q11 => ?_
  obtain ⟨hc1, h⟩ := chk h
  obtain ⟨hc2, h⟩ := chk h
  refine wdraw (by kernel_rfl) (by kernel_rfl) hk ?_; clear hk
  refine dfun (y := .lit (.pointer (some ⟨bx1, 0, none⟩))) rfl rfl rfl rfl (fun a w hk => f_fieldPtr hk h0 rfl underlying50 rfl (by kernel_rfl) rfl) ?_
  refine dfun (y := .row (r_c_s_ApiIns_cells y1.Bodies)) rfl rfl rfl rfl (fun a w hk => f_loadBlk1 hk h0 (j := 1) rfl rfl underlying48 rfl rfl) ?_
  refine dfun (y := .lit (.int .i64 v5)) rfl rfl rfl rfl (fun a w hk => f_move hk h0 rfl) ?_
  refine dfun (y := .ref (c_s_ApiIns_cells (List.getD y1.Bodies (Int.toNat v5) default))) rfl rfl rfl rfl (fun a w hk => f_indexAddr (R := r_c_s_ApiIns_cells) (f := c_s_ApiIns_cells) (l := y1.Bodies) (sz := 1) r_c_s_ApiIns_cells_eq (fun _ => rfl) hk h0 rfl rfl underlying48 (by kernel_rfl) hc1) ?_
  refine dfun (y := .row (r_ApiIns_cells (List.getD y1.Bodies (Int.toNat v5) default))) rfl rfl rfl rfl (fun a w hk => f_load1 hk h0 rfl rfl underlying55 rfl) ?_
  refine dfun (y := .lit (.int .i64 (List.length (List.getD y1.Bodies (Int.toNat v5) default) : Int))) rfl rfl rfl rfl (fun a w hk => f_len (R := r_ApiIns_cells) (f := ApiIns.cells) (l := (List.getD y1.Bodies (Int.toNat v5) default)) r_ApiIns_cells_eq underlying55 hk h0 rfl) ?_
  refine dfun (y := .lit (.pointer (some ⟨bx2, 0, none⟩))) rfl rfl rfl rfl (fun a w hk => f_fieldPtr hk h0 rfl underlying50 rfl (by kernel_rfl) rfl) ?_
  refine dfun (y := .row (r_c_s_ApiIns_cells y2.Bodies)) rfl rfl rfl rfl (fun a w hk => f_loadBlk1 hk h0 (j := 0) rfl rfl underlying48 rfl rfl) ?_
  refine dfun (y := .lit (.int .i64 v5)) rfl rfl rfl rfl (fun a w hk => f_move hk h0 rfl) ?_
  refine dfun (y := .ref (c_s_ApiIns_cells (List.getD y2.Bodies (Int.toNat v5) default))) rfl rfl rfl rfl (fun a w hk => f_indexAddr (R := r_c_s_ApiIns_cells) (f := c_s_ApiIns_cells) (l := y2.Bodies) (sz := 1) r_c_s_ApiIns_cells_eq (fun _ => rfl) hk h0 rfl rfl underlying48 (by kernel_rfl) hc2) ?_
  refine dfun (y := .row (r_ApiIns_cells (List.getD y2.Bodies (Int.toNat v5) default))) rfl rfl rfl rfl (fun a w hk => f_load1 hk h0 rfl rfl underlying55 rfl) ?_
  refine dfun (y := .lit (.int .i64 (List.length (List.getD y2.Bodies (Int.toNat v5) default) : Int))) rfl rfl rfl rfl (fun a w hk => f_len (R := r_ApiIns_cells) (f := ApiIns.cells) (l := (List.getD y2.Bodies (Int.toNat v5) default)) r_ApiIns_cells_eq underlying55 hk h0 rfl) ?_
  refine dfun (y := .lit (.bool (!decide ((List.length (List.getD y1.Bodies (Int.toNat v5) default) : Int) = (List.length (List.getD y2.Bodies (Int.toNat v5) default) : Int))))) rfl rfl rfl rfl (fun a w hk => (f_pure (p_neq hk.kn h0 rfl rfl))) ?_
  refine dend ?_; intro a w hk
  refine wc hk h (fun h hb=>?_) fun h hb=>?_
  ·refine rg hk fun _ q13=>gA<|ge q13 fun a w hk=>?_
   refine wp_ret ?_
   obtain rfl := Option.some.inj h
   exact fret1 hk rfl rfl
  refine wp_skip ?_
  refine q11 _ _ ?_
  refine rg hk fun _ q14=>gA<|ge q14 fun a w hk=>?_
  refine wp_block ?_
  refine wloop (T := Nat × Int × Int) (fun x a w => match x with | (kl2, v5, v6) => S M w0 a w 62 [blk bx2 50 ((ApiProg.cells y2)), blk bx1 50 ((ApiProg.cells y1))] [(2, [], .lit (.pointer (some ⟨bx1, 0, none⟩))), (3, [], .lit (.pointer (some ⟨bx2, 0, none⟩))), (5, [], .lit (.int .i64 v5)), (6, [], .lit (.int .i64 v6))] ∧ offshootref15_Same.l2 (offshootref15_Same.l1 K kl1) K y1 y2 kl2 v5 v6 = some r) (fun x => x.1) (K, v5, 0) ⟨hk.sub ⟨rfl, rfl, rfl, rfl, trivial⟩, h⟩ ?_
  clear hk h
  rintro ⟨kl2, v5, v6⟩ a w ⟨hk, h⟩ K' q15
  cases kl2 with
  | zero => simp [offshootref15_Same.l2] at h
  | succ kl2 =>
  rw [offshootref15_Same.l2.eq_2] at h
  refine wseq fun _ q16 => ?_
  refine rg hk fun _ q17=>gM<|gF 0 underlying50<|gB 1 underlying48<|gM<|fun a w hk=>?_
  obtain ⟨hc3, h⟩ := chk h
  refine lf (y := .ref (c_s_ApiIns_cells (List.getD y1.Bodies (Int.toNat v5) default))) hk (f_indexAddr (R := r_c_s_ApiIns_cells) (f := c_s_ApiIns_cells) (l := y1.Bodies) (sz := 1) r_c_s_ApiIns_cells_eq (fun _ => rfl) hk h0 rfl rfl underlying48 (by kernel_rfl) hc3) fun a w hk=>?_
  refine lf hk (f_load1 hk h0 rfl rfl underlying55 rfl) fun a w hk=>?_
  refine lf hk (f_len (R := r_ApiIns_cells) (f := ApiIns.cells) (l := (List.getD y1.Bodies (Int.toNat v5) default)) r_ApiIns_cells_eq underlying55 hk h0 rfl) fun a w hk=>?_
  refine go hk<|gL<|ge q17 fun a w hk=>wc hk h (fun h hb=>?_) fun h hb=>?_
  ·refine wp_skip ?_
   refine q16 _ _ ?_
   refine wseq fun _ q18 => ?_
   refine wp_block ?_
   obtain ⟨hc4, h⟩ := chk h
   obtain ⟨hc5, h⟩ := chk h
   obtain ⟨hc6, h⟩ := chk h
   obtain ⟨hc7, h⟩ := chk h
   obtain ⟨t1, hr_t1, h⟩ := bnd h
   refine wdraw (by kernel_rfl) (by kernel_rfl) hk ?_; clear hk
   refine dfun (y := .lit (.pointer (some ⟨bx1, 0, none⟩))) rfl rfl rfl rfl (fun a w hk => f_fieldPtr hk h0 rfl underlying50 rfl (by kernel_rfl) rfl) ?_
   refine dfun (y := .row (r_c_s_ApiIns_cells y1.Bodies)) rfl rfl rfl rfl (fun a w hk => f_loadBlk1 hk h0 (j := 1) rfl rfl underlying48 rfl rfl) ?_
   refine dfun (y := .lit (.int .i64 v5)) rfl rfl rfl rfl (fun a w hk => f_move hk h0 rfl) ?_
   refine dfun (y := .ref (c_s_ApiIns_cells (List.getD y1.Bodies (Int.toNat v5) default))) rfl rfl rfl rfl (fun a w hk => f_indexAddr (R := r_c_s_ApiIns_cells) (f := c_s_ApiIns_cells) (l := y1.Bodies) (sz := 1) r_c_s_ApiIns_cells_eq (fun _ => rfl) hk h0 rfl rfl underlying48 (by kernel_rfl) hc4) ?_
   refine dfun (y := .row (r_ApiIns_cells (List.getD y1.Bodies (Int.toNat v5) default))) rfl rfl rfl rfl (fun a w hk => f_load1 hk h0 rfl rfl underlying55 rfl) ?_
   refine dfun (y := .lit (.int .i64 v6)) rfl rfl rfl rfl (fun a w hk => f_move hk h0 rfl) ?_
   refine dfun (y := .ref (ApiIns.cells (List.getD (List.getD y1.Bodies (Int.toNat v5) default) (Int.toNat v6) default))) rfl rfl rfl rfl (fun a w hk => f_indexAddr (R := r_ApiIns_cells) (f := ApiIns.cells) (l := (List.getD y1.Bodies (Int.toNat v5) default)) (sz := 9) r_ApiIns_cells_eq (fun _ => rfl) hk h0 rfl rfl underlying55 (by kernel_rfl) hc5) ?_
   refine dfun (y := .agg ((ApiIns.cells (List.getD (List.getD y1.Bodies (Int.toNat v5) default) (Int.toNat v6) default)))) rfl rfl rfl rfl (fun a w hk => f_load hk h0 rfl underlying59 rfl rfl rfl rfl) ?_
   refine dfun (y := .lit (.pointer (some ⟨bx2, 0, none⟩))) rfl rfl rfl rfl (fun a w hk => f_fieldPtr hk h0 rfl underlying50 rfl (by kernel_rfl) rfl) ?_
   refine dfun (y := .row (r_c_s_ApiIns_cells y2.Bodies)) rfl rfl rfl rfl (fun a w hk => f_loadBlk1 hk h0 (j := 0) rfl rfl underlying48 rfl rfl) ?_
   refine dfun (y := .lit (.int .i64 v5)) rfl rfl rfl rfl (fun a w hk => f_move hk h0 rfl) ?_
   refine dfun (y := .ref (c_s_ApiIns_cells (List.getD y2.Bodies (Int.toNat v5) default))) rfl rfl rfl rfl (fun a w hk => f_indexAddr (R := r_c_s_ApiIns_cells) (f := c_s_ApiIns_cells) (l := y2.Bodies) (sz := 1) r_c_s_ApiIns_cells_eq (fun _ => rfl) hk h0 rfl rfl underlying48 (by kernel_rfl) hc6) ?_
   refine dfun (y := .row (r_ApiIns_cells (List.getD y2.Bodies (Int.toNat v5) default))) rfl rfl rfl rfl (fun a w hk => f_load1 hk h0 rfl rfl underlying55 rfl) ?_
   refine dfun (y := .lit (.int .i64 v6)) rfl rfl rfl rfl (fun a w hk => f_move hk h0 rfl) ?_
   refine dfun (y := .ref (ApiIns.cells (List.getD (List.getD y2.Bodies (Int.toNat v5) default) (Int.toNat v6) default))) rfl rfl rfl rfl (fun a w hk => f_indexAddr (R := r_ApiIns_cells) (f := ApiIns.cells) (l := (List.getD y2.Bodies (Int.toNat v5) default)) (sz := 9) r_ApiIns_cells_eq (fun _ => rfl) hk h0 rfl rfl underlying55 (by kernel_rfl) hc7) ?_
   refine dfun (y := .agg ((ApiIns.cells (List.getD (List.getD y2.Bodies (Int.toNat v5) default) (Int.toNat v6) default)))) rfl rfl rfl rfl (fun a w hk => f_load hk h0 rfl underlying59 rfl rfl rfl rfl) ?_
   refine dfun (y := .lit (.bool t1)) rfl rfl rfl rfl (fun a w hk => f_call hk h0 rfl rfl func49 rfl (by kernel_rfl) (offshootref15_sameIns.ok K (List.getD (List.getD y1.Bodies (Int.toNat v5) default) (Int.toNat v6) default) (List.getD (List.getD y2.Bodies (Int.toNat v5) default) (Int.toNat v6) default) _ hr_t1)) ?_
   refine dfun (y := .lit (.bool (!t1))) rfl rfl rfl rfl (fun a w hk => (f_pure (p_not hk.kn h0 rfl))) ?_
   refine dend ?_; intro a w hk
   refine wc hk h (fun h hb=>?_) fun h hb=>?_
   ·refine rg hk fun _ q20=>gA<|ge q20 fun a w hk=>?_
    refine wp_ret ?_
    obtain rfl := Option.some.inj h
    exact fret1 hk rfl rfl
   refine wp_skip ?_
   refine q18 _ _ ?_
   refine rg1 hk<|gM<|gD<|gA<|fun a w hk=>?_
   refine wpList_nil ?_
   exact q15 (kl2, v5, (IntKind.wrap .i64 (v6 + 1))) _ _ (Nat.lt_succ_self _) ⟨hk.sub ⟨rfl, rfl, rfl, rfl, trivial⟩, h⟩
  refine wp_exit ?_; (repeat first | refine te ?_ | refine be rfl ?_); refine bx ?_
  refine q10 _ _ ?_
  refine rg1 hk<|gM<|gD<|gA<|fun a w hk=>?_
  refine wpList_nil ?_
  exact q7 (kl1, y2, y1, (IntKind.wrap .i64 (v5 + 1))) _ _ (Nat.lt_succ_self _) ⟨hk.sub ⟨rfl, rfl, rfl, trivial⟩, h⟩
 refine wp_exit ?_; (repeat first | refine te ?_ | refine be rfl ?_); refine bx ?_
 refine q5 _ _ ?_
 refine rg hk fun _ q23=>gA<|ge q23 fun a w hk=>?_
 refine wp_ret ?_
 obtain rfl := Option.some.inj h
 exact fret1 hk rfl rfl
theorem w15_CodePrints.ok (K : Nat) (v0 : List UInt8) (r : Bool) (h : w15_CodePrints.f K v0 = some r) :
  Ok prog 7 [.lit (.string (B v0))] (.lit (.bool r)) := by
 refine enter (xs := [.lit (.string (B v0))]) func7 rfl ntmps7 rfl ?_
 intro M w0 a hk
 unfold w15_CodePrints.f at h
 refine rg hk fun _ q1=>gA<|ge q1 fun a w hk=>?_
 refine rg hk fun _ q2=>gM<|fun a w hk=>?_
 obtain ⟨t1, hr_t1, h⟩ := bnd h
 refine lf (y := .tup [.row (r_ApiStep_cells t1.1), .lit (.int .i64 t1.2.1), .lit (.int .i64 t1.2.2)]) hk (f_call hk h0 rfl rfl func9 rfl (by kernel_rfl) (r12_Parse.ok K v0 _ hr_t1)) fun a w hk=>?_
 refine go hk<|gM<|fun a w hk=>?_
 refine go hk<|gX<|gX<|gX<|gA<|gA<|gA<|ge q2 fun a w hk=>?_
 refine wseq fun _ q3 => ?_
 refine wreg fun _ q4 => ?_
 obtain ⟨t2, hr_t2, h⟩ := bnd h
 refine lf (y := .lit (.bool t2)) hk (f_call hk h0 rfl rfl func21 rfl (by kernel_rfl) (w15_awake.ok K  _ hr_t2)) fun a w hk=>?_
 refine go hk<|gP (p_not · h0 rfl)<|gM<|gm<|fun a w hk=>?_
 refine lg hk rfl rfl rfl (fun hc => (f_pure (p_neq hk.kn hc rfl rfl))) fun a w hk=>?_
 refine go hk<|gR<|ge q4 fun a w hk=>wc hk h (fun h hb=>?_) fun h hb=>?_
 ·refine wreg fun _ q5 => ?_
  obtain ⟨t3, hr_t3, h⟩ := bnd h
  refine lf (y := .lit (.bool t3)) hk (f_call hk h0 rfl rfl func21 rfl (by kernel_rfl) (w15_awake.ok K  _ hr_t3)) fun a w hk=>?_
  refine go hk<|gA<|ge q5 fun a w hk=>?_
  refine wp_ret ?_
  obtain rfl := Option.some.inj h
  exact fret1 hk rfl rfl
 refine wp_skip ?_
 refine q3 _ _ ?_
 refine rg hk fun _ q6=>gM<|fun a w hk=>?_
 obtain ⟨t4, hr_t4, h⟩ := bnd h
 refine lf (y := .lit (.string (B t4))) hk (f_call hk h0 rfl rfl func22 rfl (by kernel_rfl) (offshootref13_Steps.ok K t1.1 _ hr_t4)) fun a w hk=>?_
 obtain ⟨hc1, h⟩ := chk h
 refine go hk<|gP (p_sadd · h0 rfl rfl hc1)<|fun a w hk=>?_
 obtain ⟨t5, hr_t5, h⟩ := bnd h
 refine lf (y := .tup [.row (r_ApiStep_cells t5.1), .lit (.int .i64 t5.2.1), .lit (.int .i64 t5.2.2)]) hk (f_call hk h0 rfl rfl func9 rfl (by kernel_rfl) (r12_Parse.ok K (([103, 46] : List UInt8) ++ t4) _ hr_t5)) fun a w hk=>?_
 refine go hk<|gM<|fun a w hk=>?_
 refine go hk<|gX<|gX<|gX<|gA<|gA<|gA<|ge q6 fun a w hk=>?_
 refine rg hk fun _ q7=>gM<|fun a w hk=>?_
 obtain ⟨t6, hr_t6, h⟩ := bnd h
 refine lf (y := .tup [.agg ((ApiProg.cells t6.1)), .lit (.int .i64 t6.2)]) hk (f_call hk h0 rfl rfl func23 rfl (by kernel_rfl) (code_Compile.ok K t1.1 _ hr_t6)) fun a w hk=>?_
 refine go hk<|gM<|fun a w hk=>?_
 refine go hk<|gX<|gX<|fun a w hk=>?_
 refine l_alloc (zs := (ApiProg.cells (⟨[]⟩ : ApiProg))) [] hk rfl rfl rfl rfl ?_; clear hk; intro bx1 a w hk
 refine st0 (cs' := (ApiProg.cells t6.1)) hk rfl (by kernel_rfl) fun w hk => ?_
 refine go hk<|gA<|ge q7 fun a w hk=>?_
 refine rg hk fun _ q8=>gM<|fun a w hk=>?_
 obtain ⟨t7, hr_t7, h⟩ := bnd h
 refine lf (y := .tup [.agg ((ApiProg.cells t7.1)), .lit (.int .i64 t7.2)]) hk (f_call hk h0 rfl rfl func23 rfl (by kernel_rfl) (code_Compile.ok K t5.1 _ hr_t7)) fun a w hk=>?_
 refine go hk<|gM<|fun a w hk=>?_
 refine go hk<|gX<|gX<|fun a w hk=>?_
 refine l_alloc (zs := (ApiProg.cells (⟨[]⟩ : ApiProg))) [] hk rfl rfl rfl rfl ?_; clear hk; intro bx2 a w hk
 refine st0 (cs' := (ApiProg.cells t7.1)) hk rfl (by kernel_rfl) fun w hk => ?_
 refine go hk<|gA<|ge q8 fun a w hk=>?_
 refine rg hk fun _ q9=>gM<|gP (p_neq · h0 rfl rfl)<|gM<|gm<|fun a w hk=>?_
 refine go hk<|gm<|fun a w hk=>?_
 refine lg hk rfl rfl rfl (fun hc => (f_pure (p_eql hk.kn hc rfl rfl))) fun a w hk=>?_
 refine go hk<|gm<|fun a w hk=>?_
 refine lg hk rfl rfl rfl (fun hc => f_loadBlk hk hc (j := 1) rfl rfl underlying50 rfl rfl rfl rfl) fun a w hk=>?_
 refine lg hk rfl rfl rfl (fun hc => f_loadBlk hk hc (j := 0) rfl rfl underlying50 rfl rfl rfl rfl) fun a w hk=>?_
 obtain ⟨t8, hr_t8, h⟩ := bndG h
 refine lg (y := .lit (.bool t8)) hk rfl rfl rfl (fun hc => f_call hk hc rfl rfl func24 rfl (by kernel_rfl) (offshootref15_Same.ok K t6.1 t7.1 _ (hr_t8 (asm_out (p := (decide (t6.2 = t7.2)) = true ∧ (!decide (t5.2.2 = 0)) = false) hk.kn hc (fun e0 => fun e1 => ⟨e0, e1⟩))))) fun a w hk=>?_
 refine lg hk rfl rfl rfl (fun hc => (f_pure (p_pick_and hk.kn hc rfl rfl))) fun a w hk=>?_
 refine go hk<|gR<|gA<|ge q9 fun a w hk=>?_
 refine wp_ret ?_
 obtain rfl := Option.some.inj h
 exact fret1 hk rfl rfl
end Go.Proofs.Ytbjbgodcenopnaa
namespace Go.Proofs.Ytbjbgodcenopnaa
set_option linter.unusedVariables false
def Sat {α : Type} (x : Option α) (P : α → Prop) : Prop := ∃ r, x = some r ∧ P r
section
variable {α β : Type} {x : Option α} {P Q : α → Prop}
theorem Sat.some {r : α} (h : P r) : Sat (some r) P := ⟨r, rfl, h⟩
theorem Sat.mono (h : Sat x P) (h' : ∀ r, P r → Q r) : Sat x Q := let ⟨r, h1, h2⟩ := h; ⟨r, h1, h' r h2⟩
theorem Sat.chk {p : Prop} [Decidable p] (hp : p) (h : Sat x P) : Sat (if p then x else none) P := by rw [if_pos hp]; exact h
theorem Sat.ite {b : Bool} {y : Option α} (h1 : b = true → Sat x P) (h2 : b = false → Sat y P) : Sat (if b = true then x else y) P := by
  cases b with
  | true => rw [if_pos rfl]; exact h1 rfl
  | false => rw [if_neg (by simp)]; exact h2 rfl
theorem Sat.bind {F : β → Option α} {y : Option β} {R : β → Prop} (h : Sat y R) (h' : ∀ r, R r → Sat (F r) P) : Sat (Option.bind y F) P := by
  obtain ⟨r, rfl, hr⟩ := h
  exact h' r hr
theorem Sat.bindE {F : β → Option α} {y : Option β} {r : β} (h : y = Option.some r) (h' : Sat (F r) P) : Sat (Option.bind y F) P := by subst h; exact h'
theorem Sat.eq {r : α} (h : x = Option.some r) (hr : P r) : Sat x P := ⟨r, h, hr⟩
theorem Sat.get {r : α} (h : Sat x (fun y => y = r)) : x = Option.some r := by obtain ⟨y, h1, rfl⟩ := h; exact h1
end
theorem W_in {x : Int} (h0 : -9223372036854775808 ≤ x) (h1 : x ≤ 9223372036854775807) : IntKind.wrap .i64 x = x := IntWalk.i64_in x ⟨h0, h1⟩
theorem W_u8 {x : Int} (h0 : 0 ≤ x) (h1 : x < 256) : IntKind.wrap .u8 x = x := by rw [IntKind.wrap_u8]; omega
theorem W_u64 {x : Int} (h0 : 0 ≤ x) (h1 : x < 18446744073709551616) : IntKind.wrap .u64 x = x := by rw [IntKind.wrap_u64]; omega
theorem bt_zero (l : List UInt8) (c : UInt8) : FW.bt (c :: l) 0 = (c.toNat : Int) := by simp [FW.bt]
theorem bt_at {l : List UInt8} {i : Int} {c : UInt8} {r : List UInt8} (h : l.drop i.toNat = c :: r) : FW.bt l i = (c.toNat : Int) := by
  unfold FW.bt
  have : l[i.toNat]? = some c := by
    have := List.getElem?_drop (xs := l) (i := i.toNat) (j := 0)
    rw [h] at this
    simpa using this.symm
  rw [List.getD_eq_getElem?_getD, this]; rfl
theorem drop_lt {l : List UInt8} {i : Int} {c : UInt8} {r : List UInt8} (h0 : 0 ≤ i) (h : l.drop i.toNat = c :: r) : i < (l.length : Int) ∧ l.drop (i + 1).toNat = r ∧ (l.length : Int) = i + 1 + r.length := by
  have hl : i.toNat < l.length := by
    rcases Nat.lt_or_ge i.toNat l.length with h' | h'
    · exact h'
    · rw [List.drop_of_length_le h'] at h; cases h
  have h2 : l.drop (i.toNat + 1) = r := by
    rw [← List.drop_drop, h]; rfl
  have h3 := congrArg List.length h
  simp only [List.length_drop, List.length_cons] at h3
  refine ⟨by omega, ?_, by omega⟩
  rw [show (i + 1).toNat = i.toNat + 1 from by omega]; exact h2
theorem drop_nil {l : List UInt8} {i : Int} (h0 : 0 ≤ i) (h : l.drop i.toNat = []) : (l.length : Int) ≤ i := by
  have := congrArg List.length h
  simp only [List.length_drop, List.length_nil] at this
  omega
theorem u8_range (c : UInt8) : 0 ≤ (c.toNat : Int) ∧ (c.toNat : Int) < 256 := by have := c.toNat_lt; omega
theorem u8_eq (c : UInt8) (n : Nat) (hn : n < 256) : ((c.toNat : Int) = (n : Int)) ↔ c = UInt8.ofNat n := by
  constructor
  · intro h
    have : c.toNat = n := by omega
    rw [← this]; simp
  · rintro rfl
    simp; omega
end Go.Proofs.Ytbjbgodcenopnaa

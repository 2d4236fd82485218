/- Written by a program of this session (gen.py): the contracts of functions of the program. -/
import Derived.Test.YtbjbgodcenopnaaCbP11
namespace Go.Proofs.Ytbjbgodcenopnaa
set_option linter.unusedVariables false
set_option maxRecDepth 20000
set_option maxHeartbeats 10000000
theorem check_fits.ok (K : Nat) (v0 : ApiStep) (v1 : List UInt8) (r : Bool) (h : check_fits.f K v0 v1 = some r) :
  FW.Ok Try.prog 97 [.agg (ApiStep.cells v0), .lit (.string (FW.B v1))] (.lit (.bool r)) := by
 refine FW.enter (xs := [.agg (ApiStep.cells v0), .lit (.string (FW.B v1))]) Try.func97 rfl Try.ntmps97 rfl ?_
 intro M w0 a hk
 unfold check_fits.f at h
 refine FW.wreg fun _ q1 => ?_
 refine FW.l_box (cs := (ApiStep.cells v0)) hk rfl rfl rfl rfl rfl ?_; clear hk; intro bx1 a w hk
 refine FW.l_box (cs := [.lit (.string (FW.B v1))]) hk rfl rfl rfl rfl rfl ?_; clear hk; intro bx2 a w hk
 refine FW.sA hk fun a w hk => ?_
 refine FW.lend (q1 _ _ ?_)
 refine FW.wseq fun _ q2 => ?_
 refine FW.wreg fun _ q3 => ?_
 refine FW.lf (y := .lit (.string (FW.B v1))) hk (FW.f_loadBlk1 hk FW.h0 (j := 0) rfl rfl Try.underlying9 rfl rfl) fun a w hk => ?_
 refine FW.lf (y := .lit (.int .i64 (List.length v1 : Int))) hk ((FW.f_pure (FW.p_slen Try.underlying9 hk.kn FW.h0 rfl))) fun a w hk => ?_
 refine FW.sEq hk fun a w hk => ?_
 refine FW.sM hk fun a w hk => ?_
 refine FW.lg (y := .lit (.string (FW.B v1))) hk rfl rfl rfl (fun hc => FW.f_loadBlk1 hk hc (j := 0) rfl rfl Try.underlying9 rfl rfl) fun a w hk => ?_
 obtain ⟨hc1, h⟩ := FW.chk h
 refine FW.lg (y := .lit (.int .u8 (FW.bt v1 1))) hk rfl rfl rfl (fun hc => (FW.f_pure (FW.p_index Try.underlying9 hk.kn hc rfl rfl hc1))) fun a w hk => ?_
 refine FW.lg (y := .lit (.bool (decide ((FW.bt v1 1) = 42)))) hk rfl rfl rfl (fun hc => (FW.f_pure (FW.p_eql hk.kn hc rfl rfl))) fun a w hk => ?_
 refine FW.sAn hk fun a w hk => ?_
 refine FW.lend (q3 _ _ ?_)
 refine FW.wcondF (b := ((decide ((List.length v1 : Int) = 2)) && (decide ((FW.bt v1 1) = 42)))) hk h rfl (fun h hb => ?_) (fun h hb => ?_)
 ·skip
  refine FW.wreg fun _ q4 => ?_
  refine FW.sFp 1 hk Try.underlying29 fun a w hk => ?_
  refine FW.lf (y := .row (r_ApiArg_cells v0.Args)) hk (FW.f_loadBlk1 hk FW.h0 (j := 1) rfl rfl Try.underlying27 rfl rfl) fun a w hk => ?_
  refine FW.lf (y := .lit (.func (.func 123) #[] #[.pointer (some ⟨bx2, 0, none⟩), .pointer (some ⟨bx1, 0, none⟩)])) hk (FW.f_makeFunc hk FW.h0 rfl) fun a w hk => ?_
  obtain ⟨t1, hr_t1, h⟩ := FW.bnd h
  refine FW.l_callH (I1 := (OVarcstr_9.items bx2 (⟨v1⟩ : OVarcstr_9)) ++ (OVarApiStep.items bx1 v0)) (I2 := []) (js := [1, 1]) hk rfl rfl rfl rfl rfl Try.func122 rfl (by kernel_rfl) (cF_fits.ok K v0.Args (⟨v1⟩ : OVarcstr_9) v0 _ hr_t1 bx2 bx1) ?_; clear hk
  rintro _ _ ⟨rfl, rfl⟩ a w hk
  refine FW.lf (y := .lit (.bool (!t1))) hk ((FW.f_pure (FW.p_not hk.kn FW.h0 rfl))) fun a w hk => ?_
  refine FW.sA hk fun a w hk => ?_
  refine FW.lend (q4 _ _ ?_)
  refine wp_ret ?_
  (repeat first | refine FW.then_ret ?_ | refine FW.block_ret ?_)
  obtain rfl := Option.some.inj h
  exact FW.fret1 hk rfl rfl
 refine wp_skip ?_
 (repeat first | refine FW.tn ?_ | refine FW.bn ?_); refine q2 _ _ ?_
 refine FW.wseq fun _ q5 => ?_
 refine FW.wreg fun _ q6 => ?_
 refine FW.lf (y := .lit (.string (FW.B v1))) hk (FW.f_loadBlk1 hk FW.h0 (j := 0) rfl rfl Try.underlying9 rfl rfl) fun a w hk => ?_
 refine FW.lf (y := .lit (.int .i64 (List.length v1 : Int))) hk ((FW.f_pure (FW.p_slen Try.underlying9 hk.kn FW.h0 rfl))) fun a w hk => ?_
 refine FW.sFp 1 hk Try.underlying29 fun a w hk => ?_
 refine FW.lf (y := .row (r_ApiArg_cells v0.Args)) hk (FW.f_loadBlk1 hk FW.h0 (j := 1) rfl rfl Try.underlying27 rfl rfl) fun a w hk => ?_
 refine FW.lf (y := .lit (.int .i64 (List.length v0.Args : Int))) hk (FW.f_len (R := r_ApiArg_cells) (f := ApiArg.cells) (l := v0.Args) r_ApiArg_cells_eq Try.underlying27 hk FW.h0 rfl) fun a w hk => ?_
 refine FW.lf (y := .lit (.bool (!decide ((List.length v1 : Int) = (List.length v0.Args : Int))))) hk ((FW.f_pure (FW.p_neq hk.kn FW.h0 rfl rfl))) fun a w hk => ?_
 refine FW.lend (q6 _ _ ?_)
 refine FW.wcondF (b := (!decide ((List.length v1 : Int) = (List.length v0.Args : Int)))) hk h rfl (fun h hb => ?_) (fun h hb => ?_)
 ·skip
  refine FW.wreg fun _ q7 => ?_
  refine FW.sA hk fun a w hk => ?_
  refine FW.lend (q7 _ _ ?_)
  refine wp_ret ?_
  (repeat first | refine FW.then_ret ?_ | refine FW.block_ret ?_)
  obtain rfl := Option.some.inj h
  exact FW.fret1 hk rfl rfl
 refine wp_skip ?_
 (repeat first | refine FW.tn ?_ | refine FW.bn ?_); refine q5 _ _ ?_
 refine FW.wseq fun _ q8 => ?_
 refine FW.wreg fun _ q9 => ?_
 refine FW.sFp 1 hk Try.underlying29 fun a w hk => ?_
 refine FW.lf (y := .row (r_ApiArg_cells v0.Args)) hk (FW.f_loadBlk1 hk FW.h0 (j := 1) rfl rfl Try.underlying27 rfl rfl) fun a w hk => ?_
 refine FW.lf (y := .lit (.int .i64 (List.length v0.Args : Int))) hk (FW.f_len (R := r_ApiArg_cells) (f := ApiArg.cells) (l := v0.Args) r_ApiArg_cells_eq Try.underlying27 hk FW.h0 rfl) fun a w hk => ?_
 refine FW.sM hk fun a w hk => ?_
 refine FW.lend (q9 _ _ ?_)
 refine wp_block ?_
 refine FW.wloop (T := Nat × List UInt8 × ApiStep × List ApiArg × Int × Int) (fun x a w => match x with | (kl1, y2, y1, v27, v28, v29) => FW.S M w0 a w 43 [FW.blk bx2 9 ([.lit (.string (FW.B y2))]), FW.blk bx1 29 ((ApiStep.cells y1))] [(2, [], .lit (.pointer (some ⟨bx1, 0, none⟩))), (3, [], .lit (.pointer (some ⟨bx2, 0, none⟩))), (27, [], .row (r_ApiArg_cells v27)), (28, [], .lit (.int .i64 v28)), (29, [], .lit (.int .i64 v29))] ∧ check_fits.l1 K kl1 y2 y1 v27 v28 v29 = some r) (fun x => x.1) (K, v1, v0, v0.Args, (List.length v0.Args : Int), 0) ⟨hk.sub ⟨rfl, rfl, rfl, rfl, rfl, trivial⟩, h⟩ ?_
 clear hk h
 rintro ⟨kl1, y2, y1, v27, v28, v29⟩ a w ⟨hk, h⟩ K' q10
 cases kl1 with
 | zero => simp [check_fits.l1] at h
 | succ kl1 =>
 rw [check_fits.l1.eq_2] at h
 refine FW.wreg fun _ q11 => ?_
 refine FW.sLt hk fun a w hk => ?_
 refine FW.lend (q11 _ _ ?_)
 refine FW.wseq fun _ q12 => ?_
 refine FW.wcondF (b := (decide (v29 < v28))) hk h rfl (fun h hb => ?_) (fun h hb => ?_)
 ·skip
  refine wp_skip ?_
  (repeat first | refine FW.tn ?_ | refine FW.bn ?_); refine q12 _ _ ?_
  refine FW.wseq fun _ q13 => ?_
  refine wp_block ?_
  refine FW.wreg fun _ q14 => ?_
  refine FW.sM hk fun a w hk => ?_
  obtain ⟨hc2, h⟩ := FW.chk h
  refine FW.lf (y := .ref (ApiArg.cells (List.getD v27 (Int.toNat v29) default))) hk (FW.f_indexAddr (R := r_ApiArg_cells) (f := ApiArg.cells) (l := v27) (sz := 11) r_ApiArg_cells_eq (fun _ => rfl) hk FW.h0 rfl rfl Try.underlying27 (by kernel_rfl) hc2) fun a w hk => ?_
  refine FW.lf (y := .agg ((ApiArg.cells (List.getD v27 (Int.toNat v29) default)))) hk (FW.f_load hk FW.h0 rfl Try.underlying38 rfl rfl rfl rfl) fun a w hk => ?_
  refine FW.l_alloc (zs := (ApiArg.cells (⟨0, (⟨0, false, 0, 0, [], []⟩ : ApiValue), (⟨[], [], []⟩ : ApiPred), []⟩ : ApiArg))) [] hk rfl rfl rfl rfl ?_; clear hk; intro bx3 a w hk
  refine FW.sA hk fun a w hk => ?_
  refine FW.st0 (cs' := (ApiArg.cells (List.getD v27 (Int.toNat v29) default))) hk rfl (by kernel_rfl) fun w hk => ?_
  refine FW.lend (q14 _ _ ?_)
  obtain ⟨hc3, h⟩ := FW.chk h
  obtain ⟨t2, hr_t2, h⟩ := FW.bnd h
  refine FW.wdraw (by kernel_rfl) (by kernel_rfl) hk ?_; clear hk
  refine FW.dfun (y := .agg ((ApiArg.cells (List.getD v27 (Int.toNat v29) default)))) rfl rfl rfl rfl (fun a w hk => FW.f_loadBlk hk FW.h0 (j := 0) rfl rfl Try.underlying38 rfl rfl rfl rfl) ?_
  refine FW.dfun (y := .lit (.string (FW.B y2))) rfl rfl rfl rfl (fun a w hk => FW.f_loadBlk1 hk FW.h0 (j := 1) rfl rfl Try.underlying9 rfl rfl) ?_
  refine FW.dfun (y := .lit (.int .i64 v29)) rfl rfl rfl rfl (fun a w hk => FW.f_move hk FW.h0 rfl) ?_
  refine FW.dfun (y := .lit (.int .u8 (FW.bt y2 v29))) rfl rfl rfl rfl (fun a w hk => (FW.f_pure (FW.p_index Try.underlying9 hk.kn FW.h0 rfl rfl hc3))) ?_
  refine FW.dfun (y := .lit (.pointer (some ⟨bx1, 0, none⟩))) rfl rfl rfl rfl (fun a w hk => FW.f_fieldPtr hk FW.h0 rfl Try.underlying29 rfl (by kernel_rfl) rfl) ?_
  refine FW.dfun (y := .lit (.string (FW.B y1.Name))) rfl rfl rfl rfl (fun a w hk => FW.f_loadBlk1 hk FW.h0 (j := 2) rfl rfl Try.underlying9 rfl rfl) ?_
  refine FW.dfun (y := .lit (.bool t2)) rfl rfl rfl rfl (fun a w hk => FW.f_call hk FW.h0 rfl rfl Try.func124 rfl (by kernel_rfl) (check_is.ok K (List.getD v27 (Int.toNat v29) default) (FW.bt y2 v29) y1.Name _ hr_t2)) ?_
  refine FW.dfun (y := .lit (.bool (!t2))) rfl rfl rfl rfl (fun a w hk => (FW.f_pure (FW.p_not hk.kn FW.h0 rfl))) ?_
  refine FW.dend ?_; intro a w hk
  refine FW.wcondF (b := (!t2)) hk h rfl (fun h hb => ?_) (fun h hb => ?_)
  ·skip
   refine FW.wreg fun _ q16 => ?_
   refine FW.sA hk fun a w hk => ?_
   refine FW.lend (q16 _ _ ?_)
   refine wp_ret ?_
   (repeat first | refine FW.then_ret ?_ | refine FW.block_ret ?_)
   obtain rfl := Option.some.inj h
   exact FW.fret1 hk rfl rfl
  refine wp_skip ?_
  (repeat first | refine FW.tn ?_ | refine FW.bn ?_); refine q13 _ _ ?_
  refine FW.wreg1 ?_
  refine FW.sAd hk fun a w hk => ?_
  refine FW.sM hk fun a w hk => ?_
  refine wpList_nil ?_
  (repeat first | refine FW.tn ?_ | refine FW.bn ?_); exact q10 (kl1, y2, y1, v27, v28, (IntKind.wrap .i64 (v29 + 1))) _ _ (Nat.lt_succ_self _) ⟨(hk.drop 0).sub ⟨rfl, rfl, rfl, rfl, rfl, trivial⟩, h⟩
 refine wp_exit ?_; (repeat first | refine FW.then_exit ?_ | refine FW.block_exit_ne rfl ?_); refine FW.block_exit ?_
 (repeat first | refine FW.tn ?_ | refine FW.bn ?_); refine q8 _ _ ?_
 refine FW.wreg fun _ q18 => ?_
 refine FW.sA hk fun a w hk => ?_
 refine FW.lend (q18 _ _ ?_)
 refine wp_ret ?_
 (repeat first | refine FW.then_ret ?_ | refine FW.block_ret ?_)
 obtain rfl := Option.some.inj h
 exact FW.fret1 hk rfl rfl

theorem check_steps_1.ok (K : Nat) (v0 : List UInt8) (v1 : OVarApiStep) (r : Bool) (h : check_steps_1.f K v0 v1 = some r) :
  ∀ (b1 : Nat), FW.OkH Try.prog 96 [.lit (.string (FW.B v0)), .lit (.pointer (some ⟨b1, 0, none⟩))] (OVarApiStep.items b1 v1) (fun y I => y = .lit (.bool r) ∧ I = OVarApiStep.items b1 v1) := by
 intro b1
 refine FW.enterH (xs := [.lit (.string (FW.B v0)), .lit (.pointer (some ⟨b1, 0, none⟩))]) Try.func96 rfl Try.ntmps96 rfl ?_
 intro M w0 a hk
 replace hk : FW.S M w0 a w0.toWorld 7 [FW.blk b1 29 ((ApiStep.cells v1))] [(0, [], .lit (.string (FW.B v0))), (1, [], .lit (.pointer (some ⟨b1, 0, none⟩)))] := hk
 unfold check_steps_1.f at h
 refine FW.wreg fun _ q1 => ?_
 refine FW.sA hk fun a w hk => ?_
 refine FW.lend (q1 _ _ ?_)
 refine FW.wreg fun _ q2 => ?_
 refine FW.lf (y := .agg ((ApiStep.cells v1))) hk (FW.f_loadBlk hk FW.h0 (j := 0) rfl rfl Try.underlying29 rfl rfl rfl rfl) fun a w hk => ?_
 refine FW.sM hk fun a w hk => ?_
 obtain ⟨t1, hr_t1, h⟩ := FW.bnd h
 refine FW.lf (y := .lit (.bool t1)) hk (FW.f_call hk FW.h0 rfl rfl Try.func97 rfl (by kernel_rfl) (check_fits.ok K v1 v0 _ hr_t1)) fun a w hk => ?_
 refine FW.sA hk fun a w hk => ?_
 refine FW.lend (q2 _ _ ?_)
 refine wp_ret ?_
 (repeat first | refine FW.then_ret ?_ | refine FW.block_ret ?_)
 obtain rfl := Option.some.inj h
 replace hk := FW.S.keep (I1 := [FW.blk b1 29 ((ApiStep.cells v1))]) (I2 := []) (js := [0]) hk rfl
 exact FW.fretH1 hk rfl (FW.rtmp hk rfl) ⟨rfl, rfl⟩

theorem iF_steps.ok (K : Nat) (v0 : List (List UInt8)) (v1c0 : OVarApiStep) (r : Int) (h : iF_steps.f K v0 v1c0 = some r) :
  ∀ (b1c0 : Nat), FW.OkH Try.prog 121 [.row (r_c_str v0), .lit (.func (.func 96) #[] #[.pointer (some ⟨b1c0, 0, none⟩)])] (OVarApiStep.items b1c0 v1c0) (fun y I => y = .lit (.int .i64 r) ∧ I = OVarApiStep.items b1c0 v1c0) := by
 intro b1c0
 refine FW.enterH (xs := [.row (r_c_str v0), .lit (.func (.func 96) #[] #[.pointer (some ⟨b1c0, 0, none⟩)])]) Try.func121 rfl Try.ntmps121 rfl ?_
 intro M w0 a hk
 replace hk : FW.S M w0 a w0.toWorld 19 [FW.blk b1c0 29 ((ApiStep.cells v1c0))] [(0, [], .row (r_c_str v0)), (1, [], .lit (.func (.func 96) #[] #[.pointer (some ⟨b1c0, 0, none⟩)]))] := hk
 unfold iF_steps.f at h
 refine FW.wreg fun _ q1 => ?_
 refine FW.sA hk fun a w hk => ?_
 refine FW.lend (q1 _ _ ?_)
 refine FW.wseq fun _ q2 => ?_
 refine FW.wreg fun _ q3 => ?_
 refine FW.sM hk fun a w hk => ?_
 refine FW.lf (y := .lit (.int .i64 (List.length v0 : Int))) hk (FW.f_len (R := r_c_str) (f := c_str) (l := v0) r_c_str_eq Try.underlying56 hk FW.h0 rfl) fun a w hk => ?_
 refine FW.sM hk fun a w hk => ?_
 refine FW.lend (q3 _ _ ?_)
 refine wp_block ?_
 refine FW.wloop (T := Nat × List (List UInt8) × Int × Int) (fun x a w => match x with | (kl1, v0, v7, v8) => FW.S M w0 a w 19 [FW.blk b1c0 29 ((ApiStep.cells v1c0))] [(0, [], .row (r_c_str v0)), (1, [], .lit (.func (.func 96) #[] #[.pointer (some ⟨b1c0, 0, none⟩)])), (7, [], .lit (.int .i64 v7)), (8, [], .lit (.int .i64 v8))] ∧ iF_steps.l1 K v1c0 kl1 v0 v7 v8 = some r) (fun x => x.1) (K, v0, (List.length v0 : Int), 0) ⟨hk.sub ⟨rfl, rfl, rfl, rfl, trivial⟩, h⟩ ?_
 clear hk h
 rintro ⟨kl1, v0, v7, v8⟩ a w ⟨hk, h⟩ K' q4
 cases kl1 with
 | zero => simp [iF_steps.l1] at h
 | succ kl1 =>
 rw [iF_steps.l1.eq_2] at h
 refine FW.wreg fun _ q5 => ?_
 refine FW.sLt hk fun a w hk => ?_
 refine FW.lend (q5 _ _ ?_)
 refine FW.wseq fun _ q6 => ?_
 refine FW.wcondF (b := (decide (v8 < v7))) hk h rfl (fun h hb => ?_) (fun h hb => ?_)
 ·skip
  refine wp_skip ?_
  (repeat first | refine FW.tn ?_ | refine FW.bn ?_); refine q6 _ _ ?_
  refine FW.wseq fun _ q7 => ?_
  refine wp_block ?_
  refine FW.wreg fun _ q8 => ?_
  refine FW.sM hk fun a w hk => ?_
  refine FW.sA hk fun a w hk => ?_
  refine FW.lend (q8 _ _ ?_)
  refine FW.wreg fun _ q9 => ?_
  refine FW.sM hk fun a w hk => ?_
  refine FW.sM hk fun a w hk => ?_
  refine FW.sM hk fun a w hk => ?_
  obtain ⟨hc1, h⟩ := FW.chk h
  refine FW.lf (y := .ref (c_str (List.getD v0 (Int.toNat v8) default))) hk (FW.f_indexAddr (R := r_c_str) (f := c_str) (l := v0) (sz := 1) r_c_str_eq (fun _ => rfl) hk FW.h0 rfl rfl Try.underlying56 (by kernel_rfl) hc1) fun a w hk => ?_
  refine FW.lf (y := .lit (.string (FW.B (List.getD v0 (Int.toNat v8) default)))) hk (FW.f_load1 hk FW.h0 rfl rfl Try.underlying9 rfl) fun a w hk => ?_
  obtain ⟨t1, hr_t1, h⟩ := FW.bnd h
  refine FW.l_callHC (I1 := (OVarApiStep.items b1c0 v1c0)) (I2 := []) (js := [0]) hk rfl rfl rfl rfl rfl Try.func96 rfl (by kernel_rfl) (check_steps_1.ok K (List.getD v0 (Int.toNat v8) default) v1c0 _ hr_t1 b1c0) ?_; clear hk
  rintro _ _ ⟨rfl, rfl⟩ a w hk
  refine FW.lend (q9 _ _ ?_)
  refine FW.wcondF (b := t1) hk h rfl (fun h hb => ?_) (fun h hb => ?_)
  ·skip
   refine FW.wreg fun _ q10 => ?_
   refine FW.sM hk fun a w hk => ?_
   refine FW.sA hk fun a w hk => ?_
   refine FW.lend (q10 _ _ ?_)
   refine wp_ret ?_
   (repeat first | refine FW.then_ret ?_ | refine FW.block_ret ?_)
   obtain rfl := Option.some.inj h
   replace hk := FW.S.keep (I1 := [FW.blk b1c0 29 ((ApiStep.cells v1c0))]) (I2 := []) (js := [0]) hk rfl
   exact FW.fretH1 hk rfl (FW.rtmp hk rfl) ⟨rfl, rfl⟩
  refine wp_skip ?_
  (repeat first | refine FW.tn ?_ | refine FW.bn ?_); refine q7 _ _ ?_
  refine FW.wreg1 ?_
  refine FW.sAd hk fun a w hk => ?_
  refine FW.sM hk fun a w hk => ?_
  refine wpList_nil ?_
  (repeat first | refine FW.tn ?_ | refine FW.bn ?_); exact q4 (kl1, v0, v7, (IntKind.wrap .i64 (v8 + 1))) _ _ (Nat.lt_succ_self _) ⟨hk.sub ⟨rfl, rfl, rfl, rfl, trivial⟩, h⟩
 refine wp_exit ?_; (repeat first | refine FW.then_exit ?_ | refine FW.block_exit_ne rfl ?_); refine FW.block_exit ?_
 (repeat first | refine FW.tn ?_ | refine FW.bn ?_); refine q2 _ _ ?_
 refine FW.wreg fun _ q12 => ?_
 refine FW.sA hk fun a w hk => ?_
 refine FW.lend (q12 _ _ ?_)
 refine wp_ret ?_
 (repeat first | refine FW.then_ret ?_ | refine FW.block_ret ?_)
 obtain rfl := Option.some.inj h
 replace hk := FW.S.keep (I1 := [FW.blk b1c0 29 ((ApiStep.cells v1c0))]) (I2 := []) (js := [0]) hk rfl
 exact FW.fretH1 hk rfl (FW.rtmp hk rfl) ⟨rfl, rfl⟩

theorem cF_steps.ok (K : Nat) (v0 : List (List UInt8)) (v1c0 : OVarApiStep) (r : Bool) (h : cF_steps.f K v0 v1c0 = some r) :
  ∀ (b1c0 : Nat), FW.OkH Try.prog 95 [.row (r_c_str v0), .lit (.func (.func 96) #[] #[.pointer (some ⟨b1c0, 0, none⟩)])] (OVarApiStep.items b1c0 v1c0) (fun y I => y = .lit (.bool r) ∧ I = OVarApiStep.items b1c0 v1c0) := by
 intro b1c0
 refine FW.enterH (xs := [.row (r_c_str v0), .lit (.func (.func 96) #[] #[.pointer (some ⟨b1c0, 0, none⟩)])]) Try.func95 rfl Try.ntmps95 rfl ?_
 intro M w0 a hk
 replace hk : FW.S M w0 a w0.toWorld 9 [FW.blk b1c0 29 ((ApiStep.cells v1c0))] [(0, [], .row (r_c_str v0)), (1, [], .lit (.func (.func 96) #[] #[.pointer (some ⟨b1c0, 0, none⟩)]))] := hk
 unfold cF_steps.f at h
 refine FW.wreg fun _ q1 => ?_
 refine FW.sA hk fun a w hk => ?_
 refine FW.lend (q1 _ _ ?_)
 refine FW.wreg fun _ q2 => ?_
 refine FW.sM hk fun a w hk => ?_
 refine FW.sM hk fun a w hk => ?_
 obtain ⟨t1, hr_t1, h⟩ := FW.bnd h
 refine FW.l_callH (I1 := (OVarApiStep.items b1c0 v1c0)) (I2 := []) (js := [0]) hk rfl rfl rfl rfl rfl Try.func121 rfl (by kernel_rfl) (iF_steps.ok K v0 v1c0 _ hr_t1 b1c0) ?_; clear hk
 rintro _ _ ⟨rfl, rfl⟩ a w hk
 refine FW.lf (y := .lit (.bool (decide (0 ≤ t1)))) hk ((FW.f_pure (FW.p_geq hk.kn FW.h0 rfl rfl))) fun a w hk => ?_
 refine FW.sA hk fun a w hk => ?_
 refine FW.lend (q2 _ _ ?_)
 refine wp_ret ?_
 (repeat first | refine FW.then_ret ?_ | refine FW.block_ret ?_)
 obtain rfl := Option.some.inj h
 replace hk := FW.S.keep (I1 := [FW.blk b1c0 29 ((ApiStep.cells v1c0))]) (I2 := []) (js := [0]) hk rfl
 exact FW.fretH1 hk rfl (FW.rtmp hk rfl) ⟨rfl, rfl⟩

theorem check_after.ok  (v0 : List UInt8) (r : List (List UInt8)) (h : check_after.f v0 = some r) :
  FW.Ok Try.prog 125 [.lit (.string (FW.B v0))] (FW.nrow (r_c_str r)) := by
 refine FW.enter (xs := [.lit (.string (FW.B v0))]) Try.func125 rfl Try.ntmps125 rfl ?_
 intro M w0 a hk
 unfold check_after.f at h
 refine FW.wreg fun _ q1 => ?_
 refine FW.sA hk fun a w hk => ?_
 refine FW.lend (q1 _ _ ?_)
 refine FW.wseq fun _ q2 => ?_
 refine FW.wreg fun _ q3 => ?_
 refine FW.sM hk fun a w hk => ?_
 refine FW.lend (q3 _ _ ?_)
 refine wp_block ?_
 refine FW.wreg fun _ q4 => ?_
 refine FW.sSe hk fun a w hk => ?_
 refine FW.sA hk fun a w hk => ?_
 refine FW.lend (q4 _ _ ?_)
 refine FW.wcondF (b := (decide (v0 = ([98, 121] : List UInt8)))) hk h rfl (fun h hb => ?_) (fun h hb => ?_)
 ·skip
  refine FW.wreg fun _ q5 => ?_
  refine FW.l_buildSlice (f := c_str) (l := ([([111, 114, 100, 101, 114] : List UInt8), ([103, 114, 111, 117, 112] : List UInt8), ([103, 114, 111, 117, 112, 67, 111, 117, 110, 116] : List UInt8), ([100, 101, 100, 117, 112] : List UInt8), ([98, 121] : List UInt8)] : List (List UInt8))) hk rfl rfl rfl Try.underlying56 rfl rfl rfl rfl (fun _ => rfl) rfl ?_; clear hk; intro bx1 a w hk
  replace hk := (FW.S.freezeR (I' := []) r_c_str_eq hk (j := 0) rfl (t := 6) rfl rfl).squash
  refine FW.sA hk fun a w hk => ?_
  refine FW.lend (q5 _ _ ?_)
  refine wp_ret ?_
  (repeat first | refine FW.then_ret ?_ | refine FW.block_ret ?_)
  obtain rfl := Option.some.inj h
  exact FW.fret1 hk rfl rfl
 refine FW.wseqJ (fun a w => ∃ (v3 : List UInt8) (v7 : Bool), FW.S M w0 a w 16 [] [(3, [], .lit (.string (FW.B v3))), (7, [], .lit (.bool v7))] ∧ check_after.j1 v3 v7 = some r) ?_ ?_
 ·clear hk h
  rintro a w ⟨v3, v7, hk, h⟩
  unfold check_after.j1 at h
  refine FW.wcondF (b := v7) hk h rfl (fun h hb => ?_) (fun h hb => ?_)
  ·skip
   refine FW.wreg fun _ q7 => ?_
   refine FW.l_buildSlice (f := c_str) (l := ([([114, 101, 112, 101, 97, 116] : List UInt8), ([116, 105, 109, 101, 115] : List UInt8), ([117, 110, 116, 105, 108] : List UInt8), ([101, 109, 105, 116] : List UInt8)] : List (List UInt8))) hk rfl rfl rfl Try.underlying56 rfl rfl rfl rfl (fun _ => rfl) rfl ?_; clear hk; intro bx2 a w hk
   replace hk := (FW.S.freezeR (I' := []) r_c_str_eq hk (j := 0) rfl (t := 11) rfl rfl).squash
   refine FW.sA hk fun a w hk => ?_
   refine FW.lend (q7 _ _ ?_)
   refine wp_ret ?_
   (repeat first | refine FW.then_ret ?_ | refine FW.block_ret ?_)
   obtain rfl := Option.some.inj h
   exact FW.fret1 hk rfl rfl
  refine FW.wseqJ (fun a w => ∃ (v12 : Bool), FW.S M w0 a w 16 [] [(12, [], .lit (.bool v12))] ∧ check_after.j2 v12 = some r) ?_ ?_
  ·clear hk h
   rintro a w ⟨v12, hk, h⟩
   unfold check_after.j2 at h
   refine FW.wcondF (b := v12) hk h rfl (fun h hb => ?_) (fun h hb => ?_)
   ·skip
    refine FW.wreg fun _ q9 => ?_
    refine FW.l_buildSlice (f := c_str) (l := ([([97, 100, 100, 69] : List UInt8), ([116, 111] : List UInt8), ([102, 114, 111, 109] : List UInt8)] : List (List UInt8))) hk rfl rfl rfl Try.underlying56 rfl rfl rfl rfl (fun _ => rfl) rfl ?_; clear hk; intro bx3 a w hk
    replace hk := (FW.S.freezeR (I' := []) r_c_str_eq hk (j := 0) rfl (t := 15) rfl rfl).squash
    refine FW.sA hk fun a w hk => ?_
    refine FW.lend (q9 _ _ ?_)
    refine wp_ret ?_
    (repeat first | refine FW.then_ret ?_ | refine FW.block_ret ?_)
    obtain rfl := Option.some.inj h
    exact FW.fret1 hk rfl rfl
   refine wp_skip ?_
   (repeat first | refine FW.tn ?_ | refine FW.bn ?_); refine q2 _ _ ?_
   refine FW.wreg fun _ q10 => ?_
   refine FW.sA hk fun a w hk => ?_
   refine FW.lend (q10 _ _ ?_)
   refine wp_ret ?_
   (repeat first | refine FW.then_ret ?_ | refine FW.block_ret ?_)
   obtain rfl := Option.some.inj h
   exact FW.fret1 hk rfl rfl
  ·intro K' q8
   refine FW.wreg fun _ q11 => ?_
   refine FW.sSe hk fun a w hk => ?_
   refine FW.sA hk fun a w hk => ?_
   refine FW.lend (q11 _ _ ?_)
   refine FW.wcondF (b := (decide (v3 = ([116, 111] : List UInt8)))) hk h rfl (fun h hb => ?_) (fun h hb => ?_)
   ·skip
    refine wp_skip ?_
    (repeat first | refine FW.tn ?_ | refine FW.bn ?_); exact q8 _ _ ⟨(decide (v3 = ([116, 111] : List UInt8))), hk.sub ⟨rfl, trivial⟩, h⟩
   refine FW.wreg1 ?_
   refine FW.sSe hk fun a w hk => ?_
   refine FW.sA hk fun a w hk => ?_
   refine wpList_nil ?_
   (repeat first | refine FW.tn ?_ | refine FW.bn ?_); exact q8 _ _ ⟨(decide (v3 = ([102, 114, 111, 109] : List UInt8))), hk.sub ⟨rfl, trivial⟩, h⟩
 ·intro K' q6
  refine FW.wreg fun _ q13 => ?_
  refine FW.sSe hk fun a w hk => ?_
  refine FW.sA hk fun a w hk => ?_
  refine FW.lend (q13 _ _ ?_)
  refine FW.wcondF (b := (decide (v0 = ([116, 105, 109, 101, 115] : List UInt8)))) hk h rfl (fun h hb => ?_) (fun h hb => ?_)
  ·skip
   refine wp_skip ?_
   (repeat first | refine FW.tn ?_ | refine FW.bn ?_); exact q6 _ _ ⟨v0, (decide (v0 = ([116, 105, 109, 101, 115] : List UInt8))), hk.sub ⟨rfl, rfl, trivial⟩, h⟩
  refine FW.wreg fun _ q14 => ?_
  refine FW.sSe hk fun a w hk => ?_
  refine FW.sA hk fun a w hk => ?_
  refine FW.lend (q14 _ _ ?_)
  refine FW.wcondF (b := (decide (v0 = ([117, 110, 116, 105, 108] : List UInt8)))) hk h rfl (fun h hb => ?_) (fun h hb => ?_)
  ·skip
   refine wp_skip ?_
   (repeat first | refine FW.tn ?_ | refine FW.bn ?_); exact q6 _ _ ⟨v0, (decide (v0 = ([117, 110, 116, 105, 108] : List UInt8))), hk.sub ⟨rfl, rfl, trivial⟩, h⟩
  refine FW.wreg1 ?_
  refine FW.sSe hk fun a w hk => ?_
  refine FW.sA hk fun a w hk => ?_
  refine wpList_nil ?_
  (repeat first | refine FW.tn ?_ | refine FW.bn ?_); exact q6 _ _ ⟨v0, (decide (v0 = ([101, 109, 105, 116] : List UInt8))), hk.sub ⟨rfl, rfl, trivial⟩, h⟩

theorem slices_Index_string_string.ok (K : Nat) (v0 : List (List UInt8)) (v1 : List UInt8) (r : Int) (h : slices_Index_string_string.f K v0 v1 = some r) :
  FW.Ok Try.prog 150 [.row (r_c_str v0), .lit (.string (FW.B v1))] (.lit (.int .i64 r)) := by
 refine FW.enter (xs := [.row (r_c_str v0), .lit (.string (FW.B v1))]) Try.func150 rfl Try.ntmps150 rfl ?_
 intro M w0 a hk
 unfold slices_Index_string_string.f at h
 refine FW.wreg fun _ q1 => ?_
 refine FW.sA hk fun a w hk => ?_
 refine FW.lend (q1 _ _ ?_)
 refine FW.wseq fun _ q2 => ?_
 refine FW.wreg fun _ q3 => ?_
 refine FW.sM hk fun a w hk => ?_
 refine FW.lf (y := .lit (.int .i64 (List.length v0 : Int))) hk (FW.f_len (R := r_c_str) (f := c_str) (l := v0) r_c_str_eq Try.underlying56 hk FW.h0 rfl) fun a w hk => ?_
 refine FW.sM hk fun a w hk => ?_
 refine FW.lend (q3 _ _ ?_)
 refine wp_block ?_
 refine FW.wloop (T := Nat × List (List UInt8) × List UInt8 × Int × Int) (fun x a w => match x with | (kl1, v0, v1, v7, v8) => FW.S M w0 a w 19 [] [(0, [], .row (r_c_str v0)), (1, [], .lit (.string (FW.B v1))), (7, [], .lit (.int .i64 v7)), (8, [], .lit (.int .i64 v8))] ∧ slices_Index_string_string.l1 K kl1 v0 v1 v7 v8 = some r) (fun x => x.1) (K, v0, v1, (List.length v0 : Int), 0) ⟨hk.sub ⟨rfl, rfl, rfl, rfl, trivial⟩, h⟩ ?_
 clear hk h
 rintro ⟨kl1, v0, v1, v7, v8⟩ a w ⟨hk, h⟩ K' q4
 cases kl1 with
 | zero => simp [slices_Index_string_string.l1] at h
 | succ kl1 =>
 rw [slices_Index_string_string.l1.eq_2] at h
 refine FW.wreg fun _ q5 => ?_
 refine FW.sLt hk fun a w hk => ?_
 refine FW.lend (q5 _ _ ?_)
 refine FW.wseq fun _ q6 => ?_
 refine FW.wcondF (b := (decide (v8 < v7))) hk h rfl (fun h hb => ?_) (fun h hb => ?_)
 ·skip
  refine wp_skip ?_
  (repeat first | refine FW.tn ?_ | refine FW.bn ?_); refine q6 _ _ ?_
  refine FW.wseq fun _ q7 => ?_
  refine wp_block ?_
  refine FW.wreg fun _ q8 => ?_
  refine FW.sM hk fun a w hk => ?_
  refine FW.sA hk fun a w hk => ?_
  refine FW.lend (q8 _ _ ?_)
  refine FW.wreg fun _ q9 => ?_
  refine FW.sM hk fun a w hk => ?_
  refine FW.sM hk fun a w hk => ?_
  refine FW.sM hk fun a w hk => ?_
  obtain ⟨hc1, h⟩ := FW.chk h
  refine FW.lf (y := .ref (c_str (List.getD v0 (Int.toNat v8) default))) hk (FW.f_indexAddr (R := r_c_str) (f := c_str) (l := v0) (sz := 1) r_c_str_eq (fun _ => rfl) hk FW.h0 rfl rfl Try.underlying56 (by kernel_rfl) hc1) fun a w hk => ?_
  refine FW.lf (y := .lit (.string (FW.B (List.getD v0 (Int.toNat v8) default)))) hk (FW.f_load1 hk FW.h0 rfl rfl Try.underlying9 rfl) fun a w hk => ?_
  refine FW.sSe hk fun a w hk => ?_
  refine FW.lend (q9 _ _ ?_)
  refine FW.wcondF (b := (decide (v1 = (List.getD v0 (Int.toNat v8) default)))) hk h rfl (fun h hb => ?_) (fun h hb => ?_)
  ·skip
   refine FW.wreg fun _ q10 => ?_
   refine FW.sM hk fun a w hk => ?_
   refine FW.sA hk fun a w hk => ?_
   refine FW.lend (q10 _ _ ?_)
   refine wp_ret ?_
   (repeat first | refine FW.then_ret ?_ | refine FW.block_ret ?_)
   obtain rfl := Option.some.inj h
   exact FW.fret1 hk rfl rfl
  refine wp_skip ?_
  (repeat first | refine FW.tn ?_ | refine FW.bn ?_); refine q7 _ _ ?_
  refine FW.wreg1 ?_
  refine FW.sAd hk fun a w hk => ?_
  refine FW.sM hk fun a w hk => ?_
  refine wpList_nil ?_
  (repeat first | refine FW.tn ?_ | refine FW.bn ?_); exact q4 (kl1, v0, v1, v7, (IntKind.wrap .i64 (v8 + 1))) _ _ (Nat.lt_succ_self _) ⟨hk.sub ⟨rfl, rfl, rfl, rfl, trivial⟩, h⟩
 refine wp_exit ?_; (repeat first | refine FW.then_exit ?_ | refine FW.block_exit_ne rfl ?_); refine FW.block_exit ?_
 (repeat first | refine FW.tn ?_ | refine FW.bn ?_); refine q2 _ _ ?_
 refine FW.wreg fun _ q12 => ?_
 refine FW.sA hk fun a w hk => ?_
 refine FW.lend (q12 _ _ ?_)
 refine wp_ret ?_
 (repeat first | refine FW.then_ret ?_ | refine FW.block_ret ?_)
 obtain rfl := Option.some.inj h
 exact FW.fret1 hk rfl rfl

theorem slices_Contains_string_string.ok (K : Nat) (v0 : List (List UInt8)) (v1 : List UInt8) (r : Bool) (h : slices_Contains_string_string.f K v0 v1 = some r) :
  FW.Ok Try.prog 126 [.row (r_c_str v0), .lit (.string (FW.B v1))] (.lit (.bool r)) := by
 refine FW.enter (xs := [.row (r_c_str v0), .lit (.string (FW.B v1))]) Try.func126 rfl Try.ntmps126 rfl ?_
 intro M w0 a hk
 unfold slices_Contains_string_string.f at h
 refine FW.wreg fun _ q1 => ?_
 refine FW.sA hk fun a w hk => ?_
 refine FW.lend (q1 _ _ ?_)
 refine FW.wreg fun _ q2 => ?_
 refine FW.sM hk fun a w hk => ?_
 refine FW.sM hk fun a w hk => ?_
 obtain ⟨t1, hr_t1, h⟩ := FW.bnd h
 refine FW.lf (y := .lit (.int .i64 t1)) hk (FW.f_call hk FW.h0 rfl rfl Try.func150 rfl (by kernel_rfl) (slices_Index_string_string.ok K v0 v1 _ hr_t1)) fun a w hk => ?_
 refine FW.lf (y := .lit (.bool (decide (0 ≤ t1)))) hk ((FW.f_pure (FW.p_geq hk.kn FW.h0 rfl rfl))) fun a w hk => ?_
 refine FW.sA hk fun a w hk => ?_
 refine FW.lend (q2 _ _ ?_)
 refine wp_ret ?_
 (repeat first | refine FW.then_ret ?_ | refine FW.block_ret ?_)
 obtain rfl := Option.some.inj h
 exact FW.fret1 hk rfl rfl

theorem check_run.ok (K : Nat) (v0 : List ApiStep) (v1 : Int) (v2 : List UInt8) (r : Int × List UInt8) (h : check_run.f K v0 v1 v2 = some r) :
  FW.Ok Try.prog 127 [.row (r_ApiStep_cells v0), .lit (.int .i64 v1), .lit (.string (FW.B v2))] (.tup [.lit (.int .i64 r.1), .lit (.string (FW.B r.2))]) := by
 refine FW.enter (xs := [.row (r_ApiStep_cells v0), .lit (.int .i64 v1), .lit (.string (FW.B v2))]) Try.func127 rfl Try.ntmps127 rfl ?_
 intro M w0 a hk
 unfold check_run.f at h
 refine FW.wreg fun _ q1 => ?_
 refine FW.sA hk fun a w hk => ?_
 refine FW.sA hk fun a w hk => ?_
 refine FW.lend (q1 _ _ ?_)
 refine FW.wreg fun _ q2 => ?_
 refine FW.sA hk fun a w hk => ?_
 refine FW.lend (q2 _ _ ?_)
 refine FW.wseq fun _ q3 => ?_
 refine wp_block ?_
 refine FW.wloop (T := Nat × List ApiStep × Int × List UInt8 × Int) (fun x a w => match x with | (kl1, v0, v1, v2, v8) => FW.S M w0 a w 36 [] [(0, [], .row (r_ApiStep_cells v0)), (1, [], .lit (.int .i64 v1)), (2, [], .lit (.string (FW.B v2))), (8, [], .lit (.int .i64 v8))] ∧ check_run.l1 K kl1 v0 v1 v2 v8 = some r) (fun x => x.1) (K, v0, v1, v2, 0) ⟨hk.sub ⟨rfl, rfl, rfl, rfl, trivial⟩, h⟩ ?_
 clear hk h
 rintro ⟨kl1, v0, v1, v2, v8⟩ a w ⟨hk, h⟩ K' q4
 cases kl1 with
 | zero => simp [check_run.l1] at h
 | succ kl1 =>
 rw [check_run.l1.eq_2] at h
 refine FW.wseq fun _ q5 => ?_
 refine FW.wreg fun _ q6 => ?_
 refine FW.sM hk fun a w hk => ?_
 refine FW.lf (y := .lit (.bool (decide (0 ≤ v1)))) hk ((FW.f_pure (FW.p_geq hk.kn FW.h0 rfl rfl))) fun a w hk => ?_
 refine FW.lend (q6 _ _ ?_)
 refine FW.wcondF (b := (decide (0 ≤ v1))) hk h rfl (fun h hb => ?_) (fun h hb => ?_)
 ·skip
  refine wp_skip ?_
  (repeat first | refine FW.tn ?_ | refine FW.bn ?_); refine q5 _ _ ?_
  refine FW.wseq fun _ q7 => ?_
  refine wp_block ?_
  refine FW.wseqJ (fun a w => ∃ (v0 : List ApiStep) (v1 : Int) (v2 : List UInt8) (v8 : Int), FW.S M w0 a w 36 [] [(0, [], .row (r_ApiStep_cells v0)), (1, [], .lit (.int .i64 v1)), (2, [], .lit (.string (FW.B v2))), (8, [], .lit (.int .i64 v8))] ∧ check_run.j1 (check_run.l1 K kl1) K v0 v1 v2 v8 = some r) ?_ ?_
  ·clear hk h
   rintro a w ⟨v0, v1, v2, v8, hk, h⟩
   unfold check_run.j1 at h
   refine FW.wreg fun _ q9 => ?_
   refine FW.sM hk fun a w hk => ?_
   refine FW.sM hk fun a w hk => ?_
   obtain ⟨hc1, h⟩ := FW.chk h
   refine FW.lf (y := .ref (ApiStep.cells (List.getD v0 (Int.toNat v1) default))) hk (FW.f_indexAddr (R := r_ApiStep_cells) (f := ApiStep.cells) (l := v0) (sz := 2) r_ApiStep_cells_eq (fun _ => rfl) hk FW.h0 rfl rfl Try.underlying22 (by kernel_rfl) hc1) fun a w hk => ?_
   refine FW.lf (y := .ref (List.drop 0 (ApiStep.cells (List.getD v0 (Int.toNat v1) default)))) hk (FW.f_fieldAddr hk FW.h0 rfl Try.underlying29 rfl (by kernel_rfl) rfl) fun a w hk => ?_
   refine FW.lf (y := .lit (.string (FW.B ((List.getD v0 (Int.toNat v1) default).Name)))) hk (FW.f_load1 hk FW.h0 rfl rfl Try.underlying9 rfl) fun a w hk => ?_
   obtain ⟨t1, hr_t1, h⟩ := FW.bnd h
   refine FW.lf (y := FW.nrow (r_c_str t1)) hk (FW.f_call hk FW.h0 rfl rfl Try.func125 rfl (by kernel_rfl) (check_after.ok ((List.getD v0 (Int.toNat v1) default).Name) _ hr_t1)) fun a w hk => ?_
   refine FW.lf (y := .lit (.bool (List.isEmpty t1))) hk (FW.f_nrowEq hk FW.h0 rfl rfl Try.underlying56 (FW.empty_map rfl)) fun a w hk => ?_
   replace hk := hk.as (i := 27) (y := .row (r_c_str t1)) rfl (fun v hv => FW.nrow_row hv)
   refine FW.lend (q9 _ _ ?_)
   refine FW.wcondF (b := (List.isEmpty t1)) hk h rfl (fun h hb => ?_) (fun h hb => ?_)
   ·skip
    obtain ⟨hc2, h⟩ := FW.chk h
    refine FW.wdraw (by kernel_rfl) (by kernel_rfl) hk ?_; clear hk
    refine FW.dfun (y := .lit (.int .i64 v8)) rfl rfl rfl rfl (fun a w hk => FW.f_move hk FW.h0 rfl) ?_
    refine FW.dfun (y := .row (r_ApiStep_cells v0)) rfl rfl rfl rfl (fun a w hk => FW.f_move hk FW.h0 rfl) ?_
    refine FW.dfun (y := .lit (.int .i64 v1)) rfl rfl rfl rfl (fun a w hk => FW.f_move hk FW.h0 rfl) ?_
    refine FW.dfun (y := .ref (ApiStep.cells (List.getD v0 (Int.toNat v1) default))) rfl rfl rfl rfl (fun a w hk => FW.f_indexAddr (R := r_ApiStep_cells) (f := ApiStep.cells) (l := v0) (sz := 2) r_ApiStep_cells_eq (fun _ => rfl) hk FW.h0 rfl rfl Try.underlying22 (by kernel_rfl) hc2) ?_
    refine FW.dfun (y := .ref (List.drop 0 (ApiStep.cells (List.getD v0 (Int.toNat v1) default)))) rfl rfl rfl rfl (fun a w hk => FW.f_fieldAddr hk FW.h0 rfl Try.underlying29 rfl (by kernel_rfl) rfl) ?_
    refine FW.dfun (y := .lit (.string (FW.B ((List.getD v0 (Int.toNat v1) default).Name)))) rfl rfl rfl rfl (fun a w hk => FW.f_load1 hk FW.h0 rfl rfl Try.underlying9 rfl) ?_
    refine FW.dfun (y := .lit (.int .i64 v8)) rfl rfl rfl rfl (fun a w hk => FW.f_assign hk FW.h0 rfl) ?_
    refine FW.dfun (y := .lit (.string (FW.B ((List.getD v0 (Int.toNat v1) default).Name)))) rfl rfl rfl rfl (fun a w hk => FW.f_assign hk FW.h0 rfl) ?_
    refine FW.dend ?_; intro a w hk
    refine wp_ret ?_
    (repeat first | refine FW.then_ret ?_ | refine FW.block_ret ?_)
    obtain rfl := Option.some.inj h
    exact FW.fret2 hk rfl rfl rfl
   refine wp_skip ?_
   (repeat first | refine FW.tn ?_ | refine FW.bn ?_); refine q7 _ _ ?_
   refine FW.wreg1 ?_
   refine FW.sM hk fun a w hk => ?_
   refine FW.lf (y := .lit (.int .i64 (IntKind.wrap .i64 (v1 - 1)))) hk ((FW.f_pure (FW.p_sub hk.kn FW.h0 rfl rfl))) fun a w hk => ?_
   refine FW.sA hk fun a w hk => ?_
   refine wpList_nil ?_
   (repeat first | refine FW.tn ?_ | refine FW.bn ?_); exact q4 (kl1, v0, (IntKind.wrap .i64 (v1 - 1)), v2, v8) _ _ (Nat.lt_succ_self _) ⟨hk.sub ⟨rfl, rfl, rfl, rfl, trivial⟩, h⟩
  ·intro K' q8
   refine FW.wreg fun _ q12 => ?_
   refine FW.sM hk fun a w hk => ?_
   refine FW.sM hk fun a w hk => ?_
   obtain ⟨hc3, h⟩ := FW.chk h
   refine FW.lf (y := .ref (ApiStep.cells (List.getD v0 (Int.toNat v1) default))) hk (FW.f_indexAddr (R := r_ApiStep_cells) (f := ApiStep.cells) (l := v0) (sz := 2) r_ApiStep_cells_eq (fun _ => rfl) hk FW.h0 rfl rfl Try.underlying22 (by kernel_rfl) hc3) fun a w hk => ?_
   refine FW.lf (y := .ref (List.drop 0 (ApiStep.cells (List.getD v0 (Int.toNat v1) default)))) hk (FW.f_fieldAddr hk FW.h0 rfl Try.underlying29 rfl (by kernel_rfl) rfl) fun a w hk => ?_
   refine FW.lf (y := .lit (.string (FW.B ((List.getD v0 (Int.toNat v1) default).Name)))) hk (FW.f_load1 hk FW.h0 rfl rfl Try.underlying9 rfl) fun a w hk => ?_
   refine FW.sM hk fun a w hk => ?_
   refine FW.sSe hk fun a w hk => ?_
   refine FW.lend (q12 _ _ ?_)
   refine FW.wcondF (b := (decide (((List.getD v0 (Int.toNat v1) default).Name) = v2))) hk h rfl (fun h hb => ?_) (fun h hb => ?_)
   ·skip
    refine FW.wreg1 ?_
    refine FW.sM hk fun a w hk => ?_
    refine FW.sAd hk fun a w hk => ?_
    refine FW.sA hk fun a w hk => ?_
    refine wpList_nil ?_
    (repeat first | refine FW.tn ?_ | refine FW.bn ?_); exact q8 _ _ ⟨v0, v1, v2, (IntKind.wrap .i64 (v8 + 1)), hk.sub ⟨rfl, rfl, rfl, rfl, trivial⟩, h⟩
   refine wp_skip ?_
   (repeat first | refine FW.tn ?_ | refine FW.bn ?_); exact q8 _ _ ⟨v0, v1, v2, v8, hk.sub ⟨rfl, rfl, rfl, rfl, trivial⟩, h⟩
 refine wp_exit ?_; (repeat first | refine FW.then_exit ?_ | refine FW.block_exit_ne rfl ?_); refine FW.block_exit ?_
 (repeat first | refine FW.tn ?_ | refine FW.bn ?_); refine q3 _ _ ?_
 refine FW.wreg fun _ q14 => ?_
 refine FW.sM hk fun a w hk => ?_
 refine FW.sA hk fun a w hk => ?_
 refine FW.sA hk fun a w hk => ?_
 refine FW.lend (q14 _ _ ?_)
 refine wp_ret ?_
 (repeat first | refine FW.then_ret ?_ | refine FW.block_ret ?_)
 obtain rfl := Option.some.inj h
 exact FW.fret2 hk rfl rfl rfl

theorem check_most.ok  (v0 : List UInt8) (v1 : List UInt8) (r : Int) (h : check_most.f v0 v1 = some r) :
  FW.Ok Try.prog 128 [.lit (.string (FW.B v0)), .lit (.string (FW.B v1))] (.lit (.int .i64 r)) := by
 refine FW.enter (xs := [.lit (.string (FW.B v0)), .lit (.string (FW.B v1))]) Try.func128 rfl Try.ntmps128 rfl ?_
 intro M w0 a hk
 unfold check_most.f at h
 refine FW.wreg fun _ q1 => ?_
 refine FW.sA hk fun a w hk => ?_
 refine FW.lend (q1 _ _ ?_)
 refine FW.wseq fun _ q2 => ?_
 refine wp_block ?_
 refine FW.wreg fun _ q3 => ?_
 refine FW.sM hk fun a w hk => ?_
 refine FW.sSe hk fun a w hk => ?_
 refine FW.sM hk fun a w hk => ?_
 refine FW.lg (y := .lit (.string (FW.B v1))) hk rfl rfl rfl (fun hc => FW.f_move hk hc rfl) fun a w hk => ?_
 refine FW.lg (y := .lit (.bool (decide (v1 = ([111, 114, 100, 101, 114] : List UInt8))))) hk rfl rfl rfl (fun hc => (FW.f_pure (FW.p_seql hk.kn hc rfl rfl))) fun a w hk => ?_
 refine FW.sAn hk fun a w hk => ?_
 refine FW.sA hk fun a w hk => ?_
 refine FW.lend (q3 _ _ ?_)
 refine FW.wcondF (b := ((decide (v0 = ([98, 121] : List UInt8))) && (decide (v1 = ([111, 114, 100, 101, 114] : List UInt8))))) hk h rfl (fun h hb => ?_) (fun h hb => ?_)
 ·skip
  refine FW.wreg fun _ q4 => ?_
  refine FW.sA hk fun a w hk => ?_
  refine FW.lend (q4 _ _ ?_)
  refine wp_ret ?_
  (repeat first | refine FW.then_ret ?_ | refine FW.block_ret ?_)
  obtain rfl := Option.some.inj h
  exact FW.fret1 hk rfl rfl
 refine FW.wreg fun _ q5 => ?_
 refine FW.sM hk fun a w hk => ?_
 refine FW.sSe hk fun a w hk => ?_
 refine FW.sM hk fun a w hk => ?_
 refine FW.lg (y := .lit (.string (FW.B v1))) hk rfl rfl rfl (fun hc => FW.f_move hk hc rfl) fun a w hk => ?_
 refine FW.lg (y := .lit (.bool (decide (v1 = ([103, 114, 111, 117, 112] : List UInt8))))) hk rfl rfl rfl (fun hc => (FW.f_pure (FW.p_seql hk.kn hc rfl rfl))) fun a w hk => ?_
 refine FW.sAn hk fun a w hk => ?_
 refine FW.sA hk fun a w hk => ?_
 refine FW.lend (q5 _ _ ?_)
 refine FW.wcondF (b := ((decide (v0 = ([98, 121] : List UInt8))) && (decide (v1 = ([103, 114, 111, 117, 112] : List UInt8))))) hk h rfl (fun h hb => ?_) (fun h hb => ?_)
 ·skip
  refine FW.wreg fun _ q6 => ?_
  refine FW.sA hk fun a w hk => ?_
  refine FW.lend (q6 _ _ ?_)
  refine wp_ret ?_
  (repeat first | refine FW.then_ret ?_ | refine FW.block_ret ?_)
  obtain rfl := Option.some.inj h
  exact FW.fret1 hk rfl rfl
 refine wp_skip ?_
 (repeat first | refine FW.tn ?_ | refine FW.bn ?_); refine q2 _ _ ?_
 refine FW.wreg fun _ q7 => ?_
 refine FW.sA hk fun a w hk => ?_
 refine FW.lend (q7 _ _ ?_)
 refine wp_ret ?_
 (repeat first | refine FW.then_ret ?_ | refine FW.block_ret ?_)
 obtain rfl := Option.some.inj h
 exact FW.fret1 hk rfl rfl
end Go.Proofs.Ytbjbgodcenopnaa

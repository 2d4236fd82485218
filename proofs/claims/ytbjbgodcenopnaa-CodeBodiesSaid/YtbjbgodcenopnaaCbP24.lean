/- Written by a program of this session (gen.py): the contracts of functions of the program. -/
import Derived.Test.YtbjbgodcenopnaaCbP23
namespace Go.Proofs.Ytbjbgodcenopnaa
set_option linter.unusedVariables false
set_option maxRecDepth 20000
set_option maxHeartbeats 10000000
theorem w15_CodeBodies.ok (K : Nat) (v0 : List UInt8) (r : Bool) (h : w15_CodeBodies.f K v0 = some r) :
  FW.Ok Try.prog 8 [.lit (.string (FW.B v0))] (.lit (.bool r)) := by
 refine FW.enter (xs := [.lit (.string (FW.B v0))]) Try.func8 rfl Try.ntmps8 rfl ?_
 intro M w0 a hk
 unfold w15_CodeBodies.f at h
 refine FW.wreg fun _ q1 => ?_
 refine FW.sA hk fun a w hk => ?_
 refine FW.lend (q1 _ _ ?_)
 refine FW.wreg fun _ q2 => ?_
 refine FW.sM hk fun a w hk => ?_
 obtain ⟨t1, hr_t1, h⟩ := FW.bnd h
 refine FW.lf (y := .tup [.row (r_ApiStep_cells t1.1), .lit (.int .i64 t1.2.1), .lit (.int .i64 t1.2.2)]) hk (FW.f_call hk FW.h0 rfl rfl Try.func9 rfl (by kernel_rfl) (r12_Parse.ok K v0 _ hr_t1)) fun a w hk => ?_
 refine FW.sM hk fun a w hk => ?_
 refine FW.lf (y := .row (r_ApiStep_cells t1.1)) hk (FW.f_extract hk FW.h0 rfl rfl) fun a w hk => ?_
 refine FW.lf (y := .lit (.int .i64 t1.2.1)) hk (FW.f_extract hk FW.h0 rfl rfl) fun a w hk => ?_
 refine FW.lf (y := .lit (.int .i64 t1.2.2)) hk (FW.f_extract hk FW.h0 rfl rfl) fun a w hk => ?_
 refine FW.sA hk fun a w hk => ?_
 refine FW.sA hk fun a w hk => ?_
 refine FW.sA hk fun a w hk => ?_
 refine FW.lend (q2 _ _ ?_)
 refine FW.wseq fun _ q3 => ?_
 refine FW.wreg fun _ q4 => ?_
 obtain ⟨t2, hr_t2, h⟩ := FW.bnd h
 refine FW.lf (y := .lit (.bool t2)) hk (FW.f_call hk FW.h0 rfl rfl Try.func21 rfl (by kernel_rfl) (w15_awake.ok K  _ hr_t2)) fun a w hk => ?_
 refine FW.lf (y := .lit (.bool (!t2))) hk ((FW.f_pure (FW.p_not hk.kn FW.h0 rfl))) fun a w hk => ?_
 refine FW.sM hk fun a w hk => ?_
 refine FW.lg (y := .lit (.int .i64 t1.2.2)) hk rfl rfl rfl (fun hc => FW.f_move hk hc rfl) fun a w hk => ?_
 refine FW.lg (y := .lit (.bool (!decide (t1.2.2 = 0)))) hk rfl rfl rfl (fun hc => (FW.f_pure (FW.p_neq hk.kn hc rfl rfl))) fun a w hk => ?_
 refine FW.sOr hk fun a w hk => ?_
 refine FW.lend (q4 _ _ ?_)
 refine FW.wcondF (b := ((!t2) || (!decide (t1.2.2 = 0)))) hk h rfl (fun h hb => ?_) (fun h hb => ?_)
 ·skip
  refine FW.wreg fun _ q5 => ?_
  obtain ⟨t3, hr_t3, h⟩ := FW.bnd h
  refine FW.lf (y := .lit (.bool t3)) hk (FW.f_call hk FW.h0 rfl rfl Try.func21 rfl (by kernel_rfl) (w15_awake.ok K  _ hr_t3)) fun a w hk => ?_
  refine FW.sA hk fun a w hk => ?_
  refine FW.lend (q5 _ _ ?_)
  refine wp_ret ?_
  (repeat first | refine FW.then_ret ?_ | refine FW.block_ret ?_)
  obtain rfl := Option.some.inj h
  exact FW.fret1 hk rfl rfl
 refine wp_skip ?_
 (repeat first | refine FW.tn ?_ | refine FW.bn ?_); refine q3 _ _ ?_
 refine FW.wreg fun _ q6 => ?_
 refine FW.sM hk fun a w hk => ?_
 obtain ⟨t4, hr_t4, h⟩ := FW.bnd h
 refine FW.lf (y := .tup [.agg ((ApiProg.cells t4.1)), .lit (.int .i64 t4.2)]) hk (FW.f_call hk FW.h0 rfl rfl Try.func23 rfl (by kernel_rfl) (code_Compile.ok K t1.1 _ hr_t4)) fun a w hk => ?_
 refine FW.sM hk fun a w hk => ?_
 refine FW.lf (y := .agg ((ApiProg.cells t4.1))) hk (FW.f_extract hk FW.h0 rfl rfl) fun a w hk => ?_
 refine FW.lf (y := .lit (.int .i64 t4.2)) hk (FW.f_extract hk FW.h0 rfl rfl) fun a w hk => ?_
 refine FW.l_alloc (zs := (ApiProg.cells (⟨[]⟩ : ApiProg))) [] hk rfl rfl rfl rfl ?_; clear hk; intro bx1 a w hk
 refine FW.st0 (cs' := (ApiProg.cells t4.1)) hk rfl (by kernel_rfl) fun w hk => ?_
 refine FW.sA hk fun a w hk => ?_
 refine FW.lend (q6 _ _ ?_)
 refine FW.wseq fun _ q7 => ?_
 refine FW.wreg fun _ q8 => ?_
 refine FW.sM hk fun a w hk => ?_
 refine FW.lf (y := .lit (.bool (!decide (t4.2 = 0)))) hk ((FW.f_pure (FW.p_neq hk.kn FW.h0 rfl rfl))) fun a w hk => ?_
 refine FW.sM hk fun a w hk => ?_
 refine FW.lg (y := .lit (.pointer (some ⟨bx1, 0, none⟩))) hk rfl rfl rfl (fun hc => FW.f_fieldPtr hk hc rfl Try.underlying50 rfl (by kernel_rfl) rfl) fun a w hk => ?_
 refine FW.lg (y := .row (r_c_s_ApiIns_cells t4.1.Bodies)) hk rfl rfl rfl (fun hc => FW.f_loadBlk1 hk hc (j := 0) rfl rfl Try.underlying48 rfl rfl) fun a w hk => ?_
 refine FW.lg (y := .lit (.int .i64 (List.length t4.1.Bodies : Int))) hk rfl rfl rfl (fun hc => FW.f_len (R := r_c_s_ApiIns_cells) (f := c_s_ApiIns_cells) (l := t4.1.Bodies) r_c_s_ApiIns_cells_eq Try.underlying48 hk hc rfl) fun a w hk => ?_
 refine FW.lg (y := .lit (.bool (decide ((List.length t4.1.Bodies : Int) = 0)))) hk rfl rfl rfl (fun hc => (FW.f_pure (FW.p_eql hk.kn hc rfl rfl))) fun a w hk => ?_
 refine FW.sOr hk fun a w hk => ?_
 refine FW.sM hk fun a w hk => ?_
 refine FW.lg (y := .lit (.pointer (some ⟨bx1, 0, none⟩))) hk rfl rfl rfl (fun hc => FW.f_fieldPtr hk hc rfl Try.underlying50 rfl (by kernel_rfl) rfl) fun a w hk => ?_
 refine FW.lg (y := .row (r_c_s_ApiIns_cells t4.1.Bodies)) hk rfl rfl rfl (fun hc => FW.f_loadBlk1 hk hc (j := 0) rfl rfl Try.underlying48 rfl rfl) fun a w hk => ?_
 refine FW.lg (y := .lit (.int .i64 (List.length t4.1.Bodies : Int))) hk rfl rfl rfl (fun hc => FW.f_len (R := r_c_s_ApiIns_cells) (f := c_s_ApiIns_cells) (l := t4.1.Bodies) r_c_s_ApiIns_cells_eq Try.underlying48 hk hc rfl) fun a w hk => ?_
 refine FW.lg (y := .lit (.bool (decide (1000 < (List.length t4.1.Bodies : Int))))) hk rfl rfl rfl (fun hc => (FW.f_pure (FW.p_gtr hk.kn hc rfl rfl))) fun a w hk => ?_
 refine FW.sOr hk fun a w hk => ?_
 refine FW.lend (q8 _ _ ?_)
 refine FW.wcondF (b := (((!decide (t4.2 = 0)) || (decide ((List.length t4.1.Bodies : Int) = 0))) || (decide (1000 < (List.length t4.1.Bodies : Int))))) hk h rfl (fun h hb => ?_) (fun h hb => ?_)
 ·skip
  refine FW.wreg fun _ q9 => ?_
  refine FW.sM hk fun a w hk => ?_
  refine FW.lf (y := .lit (.bool (!decide (t4.2 = 0)))) hk ((FW.f_pure (FW.p_neq hk.kn FW.h0 rfl rfl))) fun a w hk => ?_
  refine FW.sM hk fun a w hk => ?_
  refine FW.lg (y := .lit (.pointer (some ⟨bx1, 0, none⟩))) hk rfl rfl rfl (fun hc => FW.f_fieldPtr hk hc rfl Try.underlying50 rfl (by kernel_rfl) rfl) fun a w hk => ?_
  refine FW.lg (y := .row (r_c_s_ApiIns_cells t4.1.Bodies)) hk rfl rfl rfl (fun hc => FW.f_loadBlk1 hk hc (j := 0) rfl rfl Try.underlying48 rfl rfl) fun a w hk => ?_
  refine FW.lg (y := .lit (.int .i64 (List.length t4.1.Bodies : Int))) hk rfl rfl rfl (fun hc => FW.f_len (R := r_c_s_ApiIns_cells) (f := c_s_ApiIns_cells) (l := t4.1.Bodies) r_c_s_ApiIns_cells_eq Try.underlying48 hk hc rfl) fun a w hk => ?_
  refine FW.lg (y := .lit (.bool (decide ((List.length t4.1.Bodies : Int) = 0)))) hk rfl rfl rfl (fun hc => (FW.f_pure (FW.p_eql hk.kn hc rfl rfl))) fun a w hk => ?_
  refine FW.sAn hk fun a w hk => ?_
  refine FW.sA hk fun a w hk => ?_
  refine FW.lend (q9 _ _ ?_)
  refine wp_ret ?_
  (repeat first | refine FW.then_ret ?_ | refine FW.block_ret ?_)
  obtain rfl := Option.some.inj h
  exact FW.fret1 hk rfl rfl
 refine wp_skip ?_
 (repeat first | refine FW.tn ?_ | refine FW.bn ?_); refine q7 _ _ ?_
 refine FW.wreg fun _ q10 => ?_
 refine FW.sFp 0 hk Try.underlying50 fun a w hk => ?_
 refine FW.lf (y := .row (r_c_s_ApiIns_cells t4.1.Bodies)) hk (FW.f_loadBlk1 hk FW.h0 (j := 0) rfl rfl Try.underlying48 rfl rfl) fun a w hk => ?_
 refine FW.lf (y := .lit (.int .i64 (List.length t4.1.Bodies : Int))) hk (FW.f_len (R := r_c_s_ApiIns_cells) (f := c_s_ApiIns_cells) (l := t4.1.Bodies) r_c_s_ApiIns_cells_eq Try.underlying48 hk FW.h0 rfl) fun a w hk => ?_
 obtain ⟨hc1, h⟩ := FW.chk h
 refine FW.l_makeSliceN (zv := (.int .i64 0)) (f := c_i64) (z := (0 : Int)) (sz := 1) (by decide) (fun _ => rfl) hk rfl rfl rfl rfl Try.underlying54 (by kernel_rfl) (fun _ _ => FW.repL_cons (FW.rep_lit rfl) FW.repL_nil) (by kernel_rfl) hc1 ?_; clear hk; intro bx2 a w hk
 refine FW.sA hk fun a w hk => ?_
 refine FW.lend (q10 _ _ ?_)
 refine FW.wseq fun _ q11 => ?_
 refine FW.wreg fun _ q12 => ?_
 refine FW.sA hk fun a w hk => ?_
 refine FW.lend (q12 _ _ ?_)
 refine wp_block ?_
 refine FW.wloop (T := Nat × List Int × ApiProg × List ApiStep × Int × Option Addr × Nat) (fun x a w => match x with | (kl1, l2, y1, v3, v9, xd2, xc2) => FW.S M w0 a w 159 [FW.orow xd2 xc2 3 1 c_i64 l2, FW.blk bx1 50 ((ApiProg.cells y1))] [(3, [], .row (r_ApiStep_cells v3)), (6, [], .lit (.pointer (some ⟨bx1, 0, none⟩))), (8, [], .lit (.slice xd2 (List.length l2) xc2)), (9, [], .lit (.int .i64 v9))] ∧ w15_CodeBodies.l1 K kl1 l2 y1 v3 v9 = some r) (fun x => x.1) (K, (List.replicate (Int.toNat (List.length t4.1.Bodies : Int)) (0 : Int)), t4.1, t1.1, 0, (some ⟨bx2, 0, none⟩), (Int.toNat (List.length t4.1.Bodies : Int))) ⟨hk.sub ⟨rfl, rfl, rfl, rfl, trivial⟩, h⟩ ?_
 clear hk h
 rintro ⟨kl1, l2, y1, v3, v9, xd2, xc2⟩ a w ⟨hk, h⟩ K' q13
 cases kl1 with
 | zero => simp [w15_CodeBodies.l1] at h
 | succ kl1 =>
 rw [w15_CodeBodies.l1.eq_2] at h
 refine FW.wseq fun _ q14 => ?_
 refine FW.wreg fun _ q15 => ?_
 refine FW.sM hk fun a w hk => ?_
 refine FW.sFp 0 hk Try.underlying50 fun a w hk => ?_
 refine FW.lf (y := .row (r_c_s_ApiIns_cells y1.Bodies)) hk (FW.f_loadBlk1 hk FW.h0 (j := 1) rfl rfl Try.underlying48 rfl rfl) fun a w hk => ?_
 refine FW.lf (y := .lit (.int .i64 (List.length y1.Bodies : Int))) hk (FW.f_len (R := r_c_s_ApiIns_cells) (f := c_s_ApiIns_cells) (l := y1.Bodies) r_c_s_ApiIns_cells_eq Try.underlying48 hk FW.h0 rfl) fun a w hk => ?_
 refine FW.sLt hk fun a w hk => ?_
 refine FW.lend (q15 _ _ ?_)
 refine FW.wcondF (b := (decide (v9 < (List.length y1.Bodies : Int)))) hk h rfl (fun h hb => ?_) (fun h hb => ?_)
 ·skip
  refine wp_skip ?_
  (repeat first | refine FW.tn ?_ | refine FW.bn ?_); refine q14 _ _ ?_
  refine FW.wseq fun _ q16 => ?_
  refine wp_block ?_
  refine FW.wreg fun _ q17 => ?_
  refine FW.sA hk fun a w hk => ?_
  refine FW.lend (q17 _ _ ?_)
  refine wp_block ?_
  refine FW.wloop (T := Nat × List Int × List ApiStep × Int × Int × Option Addr × Nat) (fun x a w => match x with | (kl2, l2, v3, v9, v10, xd2, xc2) => FW.S M w0 a w 159 [FW.orow xd2 xc2 3 1 c_i64 l2, FW.blk bx1 50 ((ApiProg.cells y1))] [(3, [], .row (r_ApiStep_cells v3)), (6, [], .lit (.pointer (some ⟨bx1, 0, none⟩))), (8, [], .lit (.slice xd2 (List.length l2) xc2)), (9, [], .lit (.int .i64 v9)), (10, [], .lit (.int .i64 v10))] ∧ w15_CodeBodies.l2 (w15_CodeBodies.l1 K kl1) K y1 kl2 l2 v3 v9 v10 = some r) (fun x => x.1) (K, l2, v3, v9, 0, xd2, xc2) ⟨hk.sub ⟨rfl, rfl, rfl, rfl, rfl, trivial⟩, h⟩ ?_
  clear hk h
  rintro ⟨kl2, l2, v3, v9, v10, xd2, xc2⟩ a w ⟨hk, h⟩ K' q18
  cases kl2 with
  | zero => simp [w15_CodeBodies.l2] at h
  | succ kl2 =>
  rw [w15_CodeBodies.l2.eq_2] at h
  refine FW.wseq fun _ q19 => ?_
  refine FW.wreg fun _ q20 => ?_
  refine FW.sM hk fun a w hk => ?_
  refine FW.sFp 0 hk Try.underlying50 fun a w hk => ?_
  refine FW.lf (y := .row (r_c_s_ApiIns_cells y1.Bodies)) hk (FW.f_loadBlk1 hk FW.h0 (j := 1) rfl rfl Try.underlying48 rfl rfl) fun a w hk => ?_
  refine FW.sM hk fun a w hk => ?_
  obtain ⟨hc2, h⟩ := FW.chk h
  refine FW.lf (y := .ref (c_s_ApiIns_cells (List.getD y1.Bodies (Int.toNat v9) default))) hk (FW.f_indexAddr (R := r_c_s_ApiIns_cells) (f := c_s_ApiIns_cells) (l := y1.Bodies) (sz := 1) r_c_s_ApiIns_cells_eq (fun _ => rfl) hk FW.h0 rfl rfl Try.underlying48 (by kernel_rfl) hc2) fun a w hk => ?_
  refine FW.lf (y := .row (r_ApiIns_cells (List.getD y1.Bodies (Int.toNat v9) default))) hk (FW.f_load1 hk FW.h0 rfl rfl Try.underlying55 rfl) fun a w hk => ?_
  refine FW.lf (y := .lit (.int .i64 (List.length (List.getD y1.Bodies (Int.toNat v9) default) : Int))) hk (FW.f_len (R := r_ApiIns_cells) (f := ApiIns.cells) (l := (List.getD y1.Bodies (Int.toNat v9) default)) r_ApiIns_cells_eq Try.underlying55 hk FW.h0 rfl) fun a w hk => ?_
  refine FW.sLt hk fun a w hk => ?_
  refine FW.lend (q20 _ _ ?_)
  refine FW.wcondF (b := (decide (v10 < (List.length (List.getD y1.Bodies (Int.toNat v9) default) : Int)))) hk h rfl (fun h hb => ?_) (fun h hb => ?_)
  ·skip
   refine wp_skip ?_
   (repeat first | refine FW.tn ?_ | refine FW.bn ?_); refine q19 _ _ ?_
   refine FW.wseq fun _ q21 => ?_
   refine wp_block ?_
   refine FW.wreg fun _ q22 => ?_
   refine FW.sFp 0 hk Try.underlying50 fun a w hk => ?_
   refine FW.lf (y := .row (r_c_s_ApiIns_cells y1.Bodies)) hk (FW.f_loadBlk1 hk FW.h0 (j := 1) rfl rfl Try.underlying48 rfl rfl) fun a w hk => ?_
   refine FW.sM hk fun a w hk => ?_
   obtain ⟨hc3, h⟩ := FW.chk h
   refine FW.lf (y := .ref (c_s_ApiIns_cells (List.getD y1.Bodies (Int.toNat v9) default))) hk (FW.f_indexAddr (R := r_c_s_ApiIns_cells) (f := c_s_ApiIns_cells) (l := y1.Bodies) (sz := 1) r_c_s_ApiIns_cells_eq (fun _ => rfl) hk FW.h0 rfl rfl Try.underlying48 (by kernel_rfl) hc3) fun a w hk => ?_
   refine FW.lf (y := .row (r_ApiIns_cells (List.getD y1.Bodies (Int.toNat v9) default))) hk (FW.f_load1 hk FW.h0 rfl rfl Try.underlying55 rfl) fun a w hk => ?_
   refine FW.sM hk fun a w hk => ?_
   obtain ⟨hc4, h⟩ := FW.chk h
   refine FW.lf (y := .ref (ApiIns.cells (List.getD (List.getD y1.Bodies (Int.toNat v9) default) (Int.toNat v10) default))) hk (FW.f_indexAddr (R := r_ApiIns_cells) (f := ApiIns.cells) (l := (List.getD y1.Bodies (Int.toNat v9) default)) (sz := 9) r_ApiIns_cells_eq (fun _ => rfl) hk FW.h0 rfl rfl Try.underlying55 (by kernel_rfl) hc4) fun a w hk => ?_
   refine FW.lf (y := .ref (List.drop 7 (ApiIns.cells (List.getD (List.getD y1.Bodies (Int.toNat v9) default) (Int.toNat v10) default)))) hk (FW.f_fieldAddr hk FW.h0 rfl Try.underlying59 rfl (by kernel_rfl) rfl) fun a w hk => ?_
   refine FW.lf (y := .row (r_c_i64 ((List.getD (List.getD y1.Bodies (Int.toNat v9) default) (Int.toNat v10) default).Kids))) hk (FW.f_load1 hk FW.h0 rfl rfl Try.underlying54 rfl) fun a w hk => ?_
   refine FW.sA hk fun a w hk => ?_
   refine FW.lend (q22 _ _ ?_)
   refine FW.wreg fun _ q23 => ?_
   refine FW.sA hk fun a w hk => ?_
   refine FW.lend (q23 _ _ ?_)
   refine wp_block ?_
   refine FW.wloop (T := Nat × List Int × List ApiStep × Int × Int × List Int × Int × Option Addr × Nat) (fun x a w => match x with | (kl3, l2, v3, v9, v10, v11, v12, xd2, xc2) => FW.S M w0 a w 159 [FW.orow xd2 xc2 3 1 c_i64 l2, FW.blk bx1 50 ((ApiProg.cells y1))] [(3, [], .row (r_ApiStep_cells v3)), (6, [], .lit (.pointer (some ⟨bx1, 0, none⟩))), (8, [], .lit (.slice xd2 (List.length l2) xc2)), (9, [], .lit (.int .i64 v9)), (10, [], .lit (.int .i64 v10)), (11, [], .row (r_c_i64 v11)), (12, [], .lit (.int .i64 v12))] ∧ w15_CodeBodies.l3 (w15_CodeBodies.l1 K kl1) (w15_CodeBodies.l2 (w15_CodeBodies.l1 K kl1) K y1 kl2) K y1 kl3 l2 v3 v9 v10 v11 v12 = some r) (fun x => x.1) (K, l2, v3, v9, v10, (List.getD (List.getD y1.Bodies (Int.toNat v9) default) (Int.toNat v10) default).Kids, 0, xd2, xc2) ⟨hk.sub ⟨rfl, rfl, rfl, rfl, rfl, rfl, rfl, trivial⟩, h⟩ ?_
   clear hk h
   rintro ⟨kl3, l2, v3, v9, v10, v11, v12, xd2, xc2⟩ a w ⟨hk, h⟩ K' q24
   cases kl3 with
   | zero => simp [w15_CodeBodies.l3] at h
   | succ kl3 =>
   rw [w15_CodeBodies.l3.eq_2] at h
   refine FW.wseq fun _ q25 => ?_
   refine FW.wreg fun _ q26 => ?_
   refine FW.sM hk fun a w hk => ?_
   refine FW.sM hk fun a w hk => ?_
   refine FW.lf (y := .lit (.int .i64 (List.length v11 : Int))) hk (FW.f_len (R := r_c_i64) (f := c_i64) (l := v11) r_c_i64_eq Try.underlying54 hk FW.h0 rfl) fun a w hk => ?_
   refine FW.sLt hk fun a w hk => ?_
   refine FW.lend (q26 _ _ ?_)
   refine FW.wcondF (b := (decide (v12 < (List.length v11 : Int)))) hk h rfl (fun h hb => ?_) (fun h hb => ?_)
   ·skip
    refine wp_skip ?_
    (repeat first | refine FW.tn ?_ | refine FW.bn ?_); refine q25 _ _ ?_
    refine FW.wseqJ (fun a w => ∃ (l2 : List Int) (v3 : List ApiStep) (v9 : Int) (v10 : Int) (v11 : List Int) (v12 : Int) (xd2 : Option Addr) (xc2 : Nat), FW.S M w0 a w 159 [FW.orow xd2 xc2 3 1 c_i64 l2, FW.blk bx1 50 ((ApiProg.cells y1))] [(3, [], .row (r_ApiStep_cells v3)), (6, [], .lit (.pointer (some ⟨bx1, 0, none⟩))), (8, [], .lit (.slice xd2 (List.length l2) xc2)), (9, [], .lit (.int .i64 v9)), (10, [], .lit (.int .i64 v10)), (11, [], .row (r_c_i64 v11)), (12, [], .lit (.int .i64 v12))] ∧ w15_CodeBodies.j1 (w15_CodeBodies.l1 K kl1) (w15_CodeBodies.l2 (w15_CodeBodies.l1 K kl1) K y1 kl2) (w15_CodeBodies.l3 (w15_CodeBodies.l1 K kl1) (w15_CodeBodies.l2 (w15_CodeBodies.l1 K kl1) K y1 kl2) K y1 kl3) K y1 l2 v3 v9 v10 v11 v12 = some r) ?_ ?_
    ·clear hk h
     rintro a w ⟨l2, v3, v9, v10, v11, v12, xd2, xc2, hk, h⟩
     unfold w15_CodeBodies.j1 at h
     refine FW.wreg1 ?_
     refine FW.sM hk fun a w hk => ?_
     refine FW.sAd hk fun a w hk => ?_
     refine FW.sA hk fun a w hk => ?_
     refine wpList_nil ?_
     (repeat first | refine FW.tn ?_ | refine FW.bn ?_); exact q24 (kl3, l2, v3, v9, v10, v11, (IntKind.wrap .i64 (v12 + 1)), xd2, xc2) _ _ (Nat.lt_succ_self _) ⟨hk.sub ⟨rfl, rfl, rfl, rfl, rfl, rfl, rfl, trivial⟩, h⟩
    ·intro K' q27
     refine wp_block ?_
     refine FW.wseq fun _ q29 => ?_
     refine FW.wreg fun _ q30 => ?_
     refine FW.sM hk fun a w hk => ?_
     refine FW.sM hk fun a w hk => ?_
     obtain ⟨hc5, h⟩ := FW.chk h
     refine FW.lf (y := .ref (c_i64 (List.getD v11 (Int.toNat v12) default))) hk (FW.f_indexAddr (R := r_c_i64) (f := c_i64) (l := v11) (sz := 1) r_c_i64_eq (fun _ => rfl) hk FW.h0 rfl rfl Try.underlying54 (by kernel_rfl) hc5) fun a w hk => ?_
     refine FW.lf (y := .lit (.int .i64 (List.getD v11 (Int.toNat v12) default))) hk (FW.f_load1 hk FW.h0 rfl rfl Try.underlying3 rfl) fun a w hk => ?_
     refine FW.sEq hk fun a w hk => ?_
     refine FW.lend (q30 _ _ ?_)
     refine FW.wcondF (b := (decide ((List.getD v11 (Int.toNat v12) default) = (-1)))) hk h rfl (fun h hb => ?_) (fun h hb => ?_)
     ·skip
      refine wp_exit ?_; (repeat first | refine FW.then_exit ?_ | refine FW.block_exit_ne rfl ?_); refine FW.block_exit ?_
      (repeat first | refine FW.tn ?_ | refine FW.bn ?_); exact q27 _ _ ⟨l2, v3, v9, v10, v11, v12, xd2, xc2, hk.sub ⟨rfl, rfl, rfl, rfl, rfl, rfl, rfl, trivial⟩, h⟩
     refine wp_skip ?_
     (repeat first | refine FW.tn ?_ | refine FW.bn ?_); refine q29 _ _ ?_
     refine FW.wseq fun _ q31 => ?_
     refine FW.wreg fun _ q32 => ?_
     refine FW.sM hk fun a w hk => ?_
     refine FW.sM hk fun a w hk => ?_
     obtain ⟨hc6, h⟩ := FW.chk h
     refine FW.lf (y := .ref (c_i64 (List.getD v11 (Int.toNat v12) default))) hk (FW.f_indexAddr (R := r_c_i64) (f := c_i64) (l := v11) (sz := 1) r_c_i64_eq (fun _ => rfl) hk FW.h0 rfl rfl Try.underlying54 (by kernel_rfl) hc6) fun a w hk => ?_
     refine FW.lf (y := .lit (.int .i64 (List.getD v11 (Int.toNat v12) default))) hk (FW.f_load1 hk FW.h0 rfl rfl Try.underlying3 rfl) fun a w hk => ?_
     refine FW.sM hk fun a w hk => ?_
     refine FW.lf (y := .lit (.bool (decide ((List.getD v11 (Int.toNat v12) default) ≤ v9)))) hk ((FW.f_pure (FW.p_leq hk.kn FW.h0 rfl rfl))) fun a w hk => ?_
     refine FW.sM hk fun a w hk => ?_
     refine FW.lg (y := .row (r_c_i64 v11)) hk rfl rfl rfl (fun hc => FW.f_move hk hc rfl) fun a w hk => ?_
     refine FW.lg (y := .lit (.int .i64 v12)) hk rfl rfl rfl (fun hc => FW.f_move hk hc rfl) fun a w hk => ?_
     obtain ⟨hc7, h⟩ := FW.chk h
     refine FW.lg (y := .ref (c_i64 (List.getD v11 (Int.toNat v12) default))) hk rfl rfl rfl (fun hc => FW.f_indexAddr (R := r_c_i64) (f := c_i64) (l := v11) (sz := 1) r_c_i64_eq (fun _ => rfl) hk hc rfl rfl Try.underlying54 (by kernel_rfl) hc7) fun a w hk => ?_
     refine FW.lg (y := .lit (.int .i64 (List.getD v11 (Int.toNat v12) default))) hk rfl rfl rfl (fun hc => FW.f_load1 hk hc rfl rfl Try.underlying3 rfl) fun a w hk => ?_
     refine FW.lg (y := .lit (.slice xd2 (List.length l2) xc2)) hk rfl rfl rfl (fun hc => FW.f_move hk hc rfl) fun a w hk => ?_
     refine FW.lg (y := .lit (.int .i64 (List.length l2 : Int))) hk rfl rfl rfl (fun hc => (FW.f_pure (FW.p_len Try.underlying54 hk.kn hc rfl))) fun a w hk => ?_
     refine FW.lg (y := .lit (.bool (decide ((List.length l2 : Int) ≤ (List.getD v11 (Int.toNat v12) default))))) hk rfl rfl rfl (fun hc => (FW.f_pure (FW.p_geq hk.kn hc rfl rfl))) fun a w hk => ?_
     refine FW.sOr hk fun a w hk => ?_
     refine FW.lend (q32 _ _ ?_)
     refine FW.wcondF (b := ((decide ((List.getD v11 (Int.toNat v12) default) ≤ v9)) || (decide ((List.length l2 : Int) ≤ (List.getD v11 (Int.toNat v12) default))))) hk h rfl (fun h hb => ?_) (fun h hb => ?_)
     ·skip
      refine FW.wreg fun _ q33 => ?_
      refine FW.sA hk fun a w hk => ?_
      refine FW.lend (q33 _ _ ?_)
      refine wp_ret ?_
      (repeat first | refine FW.then_ret ?_ | refine FW.block_ret ?_)
      obtain rfl := Option.some.inj h
      exact FW.fret1 hk rfl rfl
     refine wp_skip ?_
     (repeat first | refine FW.tn ?_ | refine FW.bn ?_); refine q31 _ _ ?_
     refine FW.wreg1 ?_
     refine FW.sM hk fun a w hk => ?_
     refine FW.sM hk fun a w hk => ?_
     refine FW.sM hk fun a w hk => ?_
     obtain ⟨hc8, h⟩ := FW.chk h
     refine FW.lf (y := .ref (c_i64 (List.getD v11 (Int.toNat v12) default))) hk (FW.f_indexAddr (R := r_c_i64) (f := c_i64) (l := v11) (sz := 1) r_c_i64_eq (fun _ => rfl) hk FW.h0 rfl rfl Try.underlying54 (by kernel_rfl) hc8) fun a w hk => ?_
     refine FW.lf (y := .lit (.int .i64 (List.getD v11 (Int.toNat v12) default))) hk (FW.f_load1 hk FW.h0 rfl rfl Try.underlying3 rfl) fun a w hk => ?_
     obtain ⟨hc9, h⟩ := FW.chk h
     refine FW.lf (y := FW.elA xd2 1 (List.getD v11 (Int.toNat v12) default)) hk (FW.f_idxOwn (f := c_i64) (l := l2) hk FW.h0 (j := 0) rfl rfl (by first | rfl | simp only [List.length_set]) rfl Try.underlying54 (by kernel_rfl) hc9) fun a w hk => ?_
     refine FW.lf (y := .lit (.int .i64 (List.getD l2 (Int.toNat (List.getD v11 (Int.toNat v12) default)) default))) hk (FW.f_loadOwn1 (f := c_i64) (l := l2) hk FW.h0 (j := 0) rfl rfl hc9 rfl Try.underlying3 rfl) fun a w hk => ?_
     refine FW.sAd hk fun a w hk => ?_
     obtain ⟨hc10, h⟩ := FW.chk h
     refine FW.lf (y := FW.elA xd2 1 (List.getD v11 (Int.toNat v12) default)) hk (FW.f_idxOwn (f := c_i64) (l := l2) hk FW.h0 (j := 0) rfl rfl (by first | rfl | simp only [List.length_set]) rfl Try.underlying54 (by kernel_rfl) hc10) fun a w hk => ?_
     refine FW.l_storeOwn1 (f := c_i64) (l := l2) (v := (IntKind.wrap .i64 ((List.getD l2 (Int.toNat (List.getD v11 (Int.toNat v12) default)) default) + 1))) (I' := [FW.orow xd2 xc2 3 1 c_i64 (List.set l2 (Int.toNat (List.getD v11 (Int.toNat v12) default)) (IntKind.wrap .i64 ((List.getD l2 (Int.toNat (List.getD v11 (Int.toNat v12) default)) default) + 1))), FW.blk bx1 50 ((ApiProg.cells y1))]) (j := 0) hk rfl rfl hc10 rfl rfl rfl rfl (by kernel_rfl) rfl fun w hk => ?_
     refine wpList_nil ?_
     replace hk := hk.as (i := 8) (y := .lit (.slice xd2 (List.length (List.set l2 (Int.toNat (List.getD v11 (Int.toNat v12) default)) (IntKind.wrap .i64 ((List.getD l2 (Int.toNat (List.getD v11 (Int.toNat v12) default)) default) + 1)))) xc2)) rfl (fun v hv => by simpa only [List.length_set] using hv)
     (repeat first | refine FW.tn ?_ | refine FW.bn ?_); exact q27 _ _ ⟨(List.set l2 (Int.toNat (List.getD v11 (Int.toNat v12) default)) (IntKind.wrap .i64 ((List.getD l2 (Int.toNat (List.getD v11 (Int.toNat v12) default)) default) + 1))), v3, v9, v10, v11, v12, xd2, xc2, hk.sub ⟨rfl, rfl, rfl, rfl, rfl, rfl, rfl, trivial⟩, h⟩
   refine wp_exit ?_; (repeat first | refine FW.then_exit ?_ | refine FW.block_exit_ne rfl ?_); refine FW.block_exit ?_
   (repeat first | refine FW.tn ?_ | refine FW.bn ?_); refine q21 _ _ ?_
   refine FW.wreg1 ?_
   refine FW.sM hk fun a w hk => ?_
   refine FW.sAd hk fun a w hk => ?_
   refine FW.sA hk fun a w hk => ?_
   refine wpList_nil ?_
   (repeat first | refine FW.tn ?_ | refine FW.bn ?_); exact q18 (kl2, l2, v3, v9, (IntKind.wrap .i64 (v10 + 1)), xd2, xc2) _ _ (Nat.lt_succ_self _) ⟨hk.sub ⟨rfl, rfl, rfl, rfl, rfl, trivial⟩, h⟩
  refine wp_exit ?_; (repeat first | refine FW.then_exit ?_ | refine FW.block_exit_ne rfl ?_); refine FW.block_exit ?_
  (repeat first | refine FW.tn ?_ | refine FW.bn ?_); refine q16 _ _ ?_
  refine FW.wreg1 ?_
  refine FW.sM hk fun a w hk => ?_
  refine FW.sAd hk fun a w hk => ?_
  refine FW.sA hk fun a w hk => ?_
  refine wpList_nil ?_
  (repeat first | refine FW.tn ?_ | refine FW.bn ?_); exact q13 (kl1, l2, y1, v3, (IntKind.wrap .i64 (v9 + 1)), xd2, xc2) _ _ (Nat.lt_succ_self _) ⟨hk.sub ⟨rfl, rfl, rfl, rfl, trivial⟩, h⟩
 refine wp_exit ?_; (repeat first | refine FW.then_exit ?_ | refine FW.block_exit_ne rfl ?_); refine FW.block_exit ?_
 (repeat first | refine FW.tn ?_ | refine FW.bn ?_); refine q11 _ _ ?_
 refine FW.wseq fun _ q37 => ?_
 refine FW.wreg fun _ q38 => ?_
 refine FW.sA hk fun a w hk => ?_
 refine FW.lend (q38 _ _ ?_)
 refine wp_block ?_
 refine FW.wloop (T := Nat × List ApiStep × Int) (fun x a w => match x with | (kl4, v3, v13) => FW.S M w0 a w 159 [FW.orow xd2 xc2 3 1 c_i64 l2, FW.blk bx1 50 ((ApiProg.cells y1))] [(3, [], .row (r_ApiStep_cells v3)), (6, [], .lit (.pointer (some ⟨bx1, 0, none⟩))), (8, [], .lit (.slice xd2 (List.length l2) xc2)), (13, [], .lit (.int .i64 v13))] ∧ w15_CodeBodies.l4 (w15_CodeBodies.l1 K kl1) K l2 y1 kl4 v3 v13 = some r) (fun x => x.1) (K, v3, 1) ⟨hk.sub ⟨rfl, rfl, rfl, rfl, trivial⟩, h⟩ ?_
 clear hk h
 rintro ⟨kl4, v3, v13⟩ a w ⟨hk, h⟩ K' q39
 cases kl4 with
 | zero => simp [w15_CodeBodies.l4] at h
 | succ kl4 =>
 rw [w15_CodeBodies.l4.eq_2] at h
 refine FW.wseq fun _ q40 => ?_
 refine FW.wreg fun _ q41 => ?_
 refine FW.sM hk fun a w hk => ?_
 refine FW.sM hk fun a w hk => ?_
 refine FW.lf (y := .lit (.int .i64 (List.length l2 : Int))) hk ((FW.f_pure (FW.p_len Try.underlying54 hk.kn FW.h0 rfl))) fun a w hk => ?_
 refine FW.sLt hk fun a w hk => ?_
 refine FW.lend (q41 _ _ ?_)
 refine FW.wcondF (b := (decide (v13 < (List.length l2 : Int)))) hk h rfl (fun h hb => ?_) (fun h hb => ?_)
 ·skip
  refine wp_skip ?_
  (repeat first | refine FW.tn ?_ | refine FW.bn ?_); refine q40 _ _ ?_
  refine FW.wseq fun _ q42 => ?_
  refine wp_block ?_
  refine FW.wreg fun _ q43 => ?_
  refine FW.sM hk fun a w hk => ?_
  refine FW.sM hk fun a w hk => ?_
  obtain ⟨hc11, h⟩ := FW.chk h
  refine FW.lf (y := FW.elA xd2 1 v13) hk (FW.f_idxOwn (f := c_i64) (l := l2) hk FW.h0 (j := 0) rfl rfl (by first | rfl | simp only [List.length_set]) rfl Try.underlying54 (by kernel_rfl) hc11) fun a w hk => ?_
  refine FW.lf (y := .lit (.int .i64 (List.getD l2 (Int.toNat v13) default))) hk (FW.f_loadOwn1 (f := c_i64) (l := l2) hk FW.h0 (j := 0) rfl rfl hc11 rfl Try.underlying3 rfl) fun a w hk => ?_
  refine FW.lf (y := .lit (.bool (!decide ((List.getD l2 (Int.toNat v13) default) = 1)))) hk ((FW.f_pure (FW.p_neq hk.kn FW.h0 rfl rfl))) fun a w hk => ?_
  refine FW.lend (q43 _ _ ?_)
  refine FW.wcondF (b := (!decide ((List.getD l2 (Int.toNat v13) default) = 1))) hk h rfl (fun h hb => ?_) (fun h hb => ?_)
  ·skip
   refine FW.wreg fun _ q44 => ?_
   refine FW.sA hk fun a w hk => ?_
   refine FW.lend (q44 _ _ ?_)
   refine wp_ret ?_
   (repeat first | refine FW.then_ret ?_ | refine FW.block_ret ?_)
   obtain rfl := Option.some.inj h
   exact FW.fret1 hk rfl rfl
  refine wp_skip ?_
  (repeat first | refine FW.tn ?_ | refine FW.bn ?_); refine q42 _ _ ?_
  refine FW.wreg1 ?_
  refine FW.sM hk fun a w hk => ?_
  refine FW.sAd hk fun a w hk => ?_
  refine FW.sA hk fun a w hk => ?_
  refine wpList_nil ?_
  (repeat first | refine FW.tn ?_ | refine FW.bn ?_); exact q39 (kl4, v3, (IntKind.wrap .i64 (v13 + 1))) _ _ (Nat.lt_succ_self _) ⟨hk.sub ⟨rfl, rfl, rfl, rfl, trivial⟩, h⟩
 refine wp_exit ?_; (repeat first | refine FW.then_exit ?_ | refine FW.block_exit_ne rfl ?_); refine FW.block_exit ?_
 (repeat first | refine FW.tn ?_ | refine FW.bn ?_); refine q37 _ _ ?_
 refine FW.wreg fun _ q46 => ?_
 refine FW.sA hk fun a w hk => ?_
 refine FW.lend (q46 _ _ ?_)
 refine FW.wseq fun _ q47 => ?_
 refine FW.wreg fun _ q48 => ?_
 refine FW.sA hk fun a w hk => ?_
 refine FW.lend (q48 _ _ ?_)
 refine wp_block ?_
 refine FW.wloop (T := Nat × List ApiStep × Int × Int) (fun x a w => match x with | (kl5, v3, v14, v15) => FW.S M w0 a w 159 [FW.blk bx1 50 ((ApiProg.cells y1))] [(3, [], .row (r_ApiStep_cells v3)), (6, [], .lit (.pointer (some ⟨bx1, 0, none⟩))), (14, [], .lit (.int .i64 v14)), (15, [], .lit (.int .i64 v15))] ∧ w15_CodeBodies.l5 (w15_CodeBodies.l1 K kl1) (w15_CodeBodies.l4 (w15_CodeBodies.l1 K kl1) K l2 y1 kl4) K y1 kl5 v3 v14 v15 = some r) (fun x => x.1) (K, v3, 0, 0) ⟨(hk.drop 0).sub ⟨rfl, rfl, rfl, rfl, trivial⟩, h⟩ ?_
 clear hk h
 rintro ⟨kl5, v3, v14, v15⟩ a w ⟨hk, h⟩ K' q49
 cases kl5 with
 | zero => simp [w15_CodeBodies.l5] at h
 | succ kl5 =>
 rw [w15_CodeBodies.l5.eq_2] at h
 refine FW.wseq fun _ q50 => ?_
 refine FW.wreg fun _ q51 => ?_
 refine FW.sM hk fun a w hk => ?_
 refine FW.sM hk fun a w hk => ?_
 refine FW.lf (y := .lit (.int .i64 (List.length v3 : Int))) hk (FW.f_len (R := r_ApiStep_cells) (f := ApiStep.cells) (l := v3) r_ApiStep_cells_eq Try.underlying22 hk FW.h0 rfl) fun a w hk => ?_
 refine FW.sLt hk fun a w hk => ?_
 refine FW.lend (q51 _ _ ?_)
 refine FW.wcondF (b := (decide (v15 < (List.length v3 : Int)))) hk h rfl (fun h hb => ?_) (fun h hb => ?_)
 ·skip
  refine wp_skip ?_
  (repeat first | refine FW.tn ?_ | refine FW.bn ?_); refine q50 _ _ ?_
  refine FW.wseqJ (fun a w => ∃ (v3 : List ApiStep) (v14 : Int) (v15 : Int), FW.S M w0 a w 159 [FW.blk bx1 50 ((ApiProg.cells y1))] [(3, [], .row (r_ApiStep_cells v3)), (6, [], .lit (.pointer (some ⟨bx1, 0, none⟩))), (14, [], .lit (.int .i64 v14)), (15, [], .lit (.int .i64 v15))] ∧ w15_CodeBodies.j2 (w15_CodeBodies.l1 K kl1) (w15_CodeBodies.l4 (w15_CodeBodies.l1 K kl1) K l2 y1 kl4) (w15_CodeBodies.l5 (w15_CodeBodies.l1 K kl1) (w15_CodeBodies.l4 (w15_CodeBodies.l1 K kl1) K l2 y1 kl4) K y1 kl5) K y1 v3 v14 v15 = some r) ?_ ?_
  ·clear hk h
   rintro a w ⟨v3, v14, v15, hk, h⟩
   unfold w15_CodeBodies.j2 at h
   refine FW.wreg1 ?_
   refine FW.sM hk fun a w hk => ?_
   refine FW.sAd hk fun a w hk => ?_
   refine FW.sA hk fun a w hk => ?_
   refine wpList_nil ?_
   (repeat first | refine FW.tn ?_ | refine FW.bn ?_); exact q49 (kl5, v3, v14, (IntKind.wrap .i64 (v15 + 1))) _ _ (Nat.lt_succ_self _) ⟨hk.sub ⟨rfl, rfl, rfl, rfl, trivial⟩, h⟩
  ·intro K' q52
   refine wp_block ?_
   refine FW.wreg fun _ q54 => ?_
   refine FW.sM hk fun a w hk => ?_
   refine FW.sM hk fun a w hk => ?_
   obtain ⟨hc12, h⟩ := FW.chk h
   refine FW.lf (y := .ref (ApiStep.cells (List.getD v3 (Int.toNat v15) default))) hk (FW.f_indexAddr (R := r_ApiStep_cells) (f := ApiStep.cells) (l := v3) (sz := 2) r_ApiStep_cells_eq (fun _ => rfl) hk FW.h0 rfl rfl Try.underlying22 (by kernel_rfl) hc12) fun a w hk => ?_
   refine FW.lf (y := .ref (List.drop 0 (ApiStep.cells (List.getD v3 (Int.toNat v15) default)))) hk (FW.f_fieldAddr hk FW.h0 rfl Try.underlying29 rfl (by kernel_rfl) rfl) fun a w hk => ?_
   refine FW.lf (y := .lit (.string (FW.B ((List.getD v3 (Int.toNat v15) default).Name)))) hk (FW.f_load1 hk FW.h0 rfl rfl Try.underlying9 rfl) fun a w hk => ?_
   refine FW.lend (q54 _ _ ?_)
   refine wp_block ?_
   refine FW.wseqJ (fun a w => ∃ (v3 : List ApiStep) (v14 : Int) (v15 : Int) (v145 : Bool), FW.S M w0 a w 159 [FW.blk bx1 50 ((ApiProg.cells y1))] [(3, [], .row (r_ApiStep_cells v3)), (6, [], .lit (.pointer (some ⟨bx1, 0, none⟩))), (14, [], .lit (.int .i64 v14)), (15, [], .lit (.int .i64 v15)), (145, [], .lit (.bool v145))] ∧ w15_CodeBodies.j3 (w15_CodeBodies.l1 K kl1) (w15_CodeBodies.l4 (w15_CodeBodies.l1 K kl1) K l2 y1 kl4) (w15_CodeBodies.l5 (w15_CodeBodies.l1 K kl1) (w15_CodeBodies.l4 (w15_CodeBodies.l1 K kl1) K l2 y1 kl4) K y1 kl5) K y1 v3 v14 v15 v145 = some r) ?_ ?_
   ·clear hk h
    rintro a w ⟨v3, v14, v15, v145, hk, h⟩
    unfold w15_CodeBodies.j3 at h
    refine FW.wcondF (b := v145) hk h rfl (fun h hb => ?_) (fun h hb => ?_)
    ·skip
     refine wp_skip ?_
     (repeat first | refine FW.tn ?_ | refine FW.bn ?_); exact q52 _ _ ⟨v3, v14, v15, hk.sub ⟨rfl, rfl, rfl, rfl, trivial⟩, h⟩
    refine FW.wreg1 ?_
    refine FW.sM hk fun a w hk => ?_
    refine FW.sAd hk fun a w hk => ?_
    refine FW.sA hk fun a w hk => ?_
    refine wpList_nil ?_
    (repeat first | refine FW.tn ?_ | refine FW.bn ?_); exact q52 _ _ ⟨v3, (IntKind.wrap .i64 (v14 + 1)), v15, hk.sub ⟨rfl, rfl, rfl, rfl, trivial⟩, h⟩
   ·intro K' q55
    refine FW.wreg fun _ q57 => ?_
    refine FW.sSe hk fun a w hk => ?_
    refine FW.sA hk fun a w hk => ?_
    refine FW.lend (q57 _ _ ?_)
    refine FW.wcondF (b := (decide (((List.getD v3 (Int.toNat v15) default).Name) = ([98, 121] : List UInt8)))) hk h rfl (fun h hb => ?_) (fun h hb => ?_)
    ·skip
     refine wp_skip ?_
     (repeat first | refine FW.tn ?_ | refine FW.bn ?_); exact q55 _ _ ⟨v3, v14, v15, (decide (((List.getD v3 (Int.toNat v15) default).Name) = ([98, 121] : List UInt8))), hk.sub ⟨rfl, rfl, rfl, rfl, rfl, trivial⟩, h⟩
    refine FW.wreg fun _ q58 => ?_
    refine FW.sSe hk fun a w hk => ?_
    refine FW.sA hk fun a w hk => ?_
    refine FW.lend (q58 _ _ ?_)
    refine FW.wcondF (b := (decide (((List.getD v3 (Int.toNat v15) default).Name) = ([116, 105, 109, 101, 115] : List UInt8)))) hk h rfl (fun h hb => ?_) (fun h hb => ?_)
    ·skip
     refine wp_skip ?_
     (repeat first | refine FW.tn ?_ | refine FW.bn ?_); exact q55 _ _ ⟨v3, v14, v15, (decide (((List.getD v3 (Int.toNat v15) default).Name) = ([116, 105, 109, 101, 115] : List UInt8))), hk.sub ⟨rfl, rfl, rfl, rfl, rfl, trivial⟩, h⟩
    refine FW.wreg fun _ q59 => ?_
    refine FW.sSe hk fun a w hk => ?_
    refine FW.sA hk fun a w hk => ?_
    refine FW.lend (q59 _ _ ?_)
    refine FW.wcondF (b := (decide (((List.getD v3 (Int.toNat v15) default).Name) = ([117, 110, 116, 105, 108] : List UInt8)))) hk h rfl (fun h hb => ?_) (fun h hb => ?_)
    ·skip
     refine wp_skip ?_
     (repeat first | refine FW.tn ?_ | refine FW.bn ?_); exact q55 _ _ ⟨v3, v14, v15, (decide (((List.getD v3 (Int.toNat v15) default).Name) = ([117, 110, 116, 105, 108] : List UInt8))), hk.sub ⟨rfl, rfl, rfl, rfl, rfl, trivial⟩, h⟩
    refine FW.wreg fun _ q60 => ?_
    refine FW.sSe hk fun a w hk => ?_
    refine FW.sA hk fun a w hk => ?_
    refine FW.lend (q60 _ _ ?_)
    refine FW.wcondF (b := (decide (((List.getD v3 (Int.toNat v15) default).Name) = ([101, 109, 105, 116] : List UInt8)))) hk h rfl (fun h hb => ?_) (fun h hb => ?_)
    ·skip
     refine wp_skip ?_
     (repeat first | refine FW.tn ?_ | refine FW.bn ?_); exact q55 _ _ ⟨v3, v14, v15, (decide (((List.getD v3 (Int.toNat v15) default).Name) = ([101, 109, 105, 116] : List UInt8))), hk.sub ⟨rfl, rfl, rfl, rfl, rfl, trivial⟩, h⟩
    refine FW.wreg fun _ q61 => ?_
    refine FW.sSe hk fun a w hk => ?_
    refine FW.sA hk fun a w hk => ?_
    refine FW.lend (q61 _ _ ?_)
    refine FW.wcondF (b := (decide (((List.getD v3 (Int.toNat v15) default).Name) = ([116, 111] : List UInt8)))) hk h rfl (fun h hb => ?_) (fun h hb => ?_)
    ·skip
     refine wp_skip ?_
     (repeat first | refine FW.tn ?_ | refine FW.bn ?_); exact q55 _ _ ⟨v3, v14, v15, (decide (((List.getD v3 (Int.toNat v15) default).Name) = ([116, 111] : List UInt8))), hk.sub ⟨rfl, rfl, rfl, rfl, rfl, trivial⟩, h⟩
    refine FW.wreg1 ?_
    refine FW.sSe hk fun a w hk => ?_
    refine FW.sA hk fun a w hk => ?_
    refine wpList_nil ?_
    (repeat first | refine FW.tn ?_ | refine FW.bn ?_); exact q55 _ _ ⟨v3, v14, v15, (decide (((List.getD v3 (Int.toNat v15) default).Name) = ([102, 114, 111, 109] : List UInt8))), hk.sub ⟨rfl, rfl, rfl, rfl, rfl, trivial⟩, h⟩
 refine wp_exit ?_; (repeat first | refine FW.then_exit ?_ | refine FW.block_exit_ne rfl ?_); refine FW.block_exit ?_
 (repeat first | refine FW.tn ?_ | refine FW.bn ?_); refine q47 _ _ ?_
 refine FW.wreg fun _ q63 => ?_
 refine FW.sFp 0 hk Try.underlying50 fun a w hk => ?_
 refine FW.lf (y := .row (r_c_s_ApiIns_cells y1.Bodies)) hk (FW.f_loadBlk1 hk FW.h0 (j := 0) rfl rfl Try.underlying48 rfl rfl) fun a w hk => ?_
 obtain ⟨hc13, h⟩ := FW.chk h
 refine FW.lf (y := .ref (c_s_ApiIns_cells (List.getD y1.Bodies (Int.toNat 0) default))) hk (FW.f_indexAddr (R := r_c_s_ApiIns_cells) (f := c_s_ApiIns_cells) (l := y1.Bodies) (sz := 1) r_c_s_ApiIns_cells_eq (fun _ => rfl) hk FW.h0 rfl rfl Try.underlying48 (by kernel_rfl) hc13) fun a w hk => ?_
 refine FW.lf (y := .row (r_ApiIns_cells (List.getD y1.Bodies (Int.toNat 0) default))) hk (FW.f_load1 hk FW.h0 rfl rfl Try.underlying55 rfl) fun a w hk => ?_
 refine FW.lf (y := .lit (.int .i64 (List.length (List.getD y1.Bodies (Int.toNat 0) default) : Int))) hk (FW.f_len (R := r_ApiIns_cells) (f := ApiIns.cells) (l := (List.getD y1.Bodies (Int.toNat 0) default)) r_ApiIns_cells_eq Try.underlying55 hk FW.h0 rfl) fun a w hk => ?_
 refine FW.sM hk fun a w hk => ?_
 refine FW.sEq hk fun a w hk => ?_
 refine FW.sA hk fun a w hk => ?_
 refine FW.lend (q63 _ _ ?_)
 refine wp_ret ?_
 (repeat first | refine FW.then_ret ?_ | refine FW.block_ret ?_)
 obtain rfl := Option.some.inj h
 exact FW.fret1 hk rfl rfl
end Go.Proofs.Ytbjbgodcenopnaa

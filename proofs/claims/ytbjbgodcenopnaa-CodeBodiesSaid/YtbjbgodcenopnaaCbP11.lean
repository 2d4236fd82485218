/- Written by a program of this session (gen.py): the contracts of functions of the program. -/
import Derived.Test.YtbjbgodcenopnaaCbP10
namespace Go.Proofs.Ytbjbgodcenopnaa
set_option linter.unusedVariables false
set_option maxRecDepth 20000
set_option maxHeartbeats 10000000
theorem graph_Name.ok (K : Nat) (v0 : List UInt8) (r : Bool) (h : graph_Name.f K v0 = some r) :
  FW.Ok Try.prog 149 [.lit (.string (FW.B v0))] (.lit (.bool r)) := by
 refine FW.enter (xs := [.lit (.string (FW.B v0))]) Try.func149 rfl Try.ntmps149 rfl ?_
 intro M w0 a hk
 unfold graph_Name.f at h
 refine FW.wreg fun _ q1 => ?_
 refine FW.sA hk fun a w hk => ?_
 refine FW.lend (q1 _ _ ?_)
 refine FW.wseq fun _ q2 => ?_
 refine FW.wreg fun _ q3 => ?_
 refine FW.sM hk fun a w hk => ?_
 refine FW.lf (y := .row (r_c_u8 (FW.bytesI v0))) hk (FW.f_bytes hk FW.h0 Try.underlying9 Try.underlying75 Try.underlying5 rfl) fun a w hk => ?_
 refine FW.lf (y := .lit (.int .i64 (List.length (FW.bytesI v0) : Int))) hk (FW.f_len (R := r_c_u8) (f := c_u8) (l := (FW.bytesI v0)) r_c_u8_eq Try.underlying75 hk FW.h0 rfl) fun a w hk => ?_
 refine FW.sM hk fun a w hk => ?_
 refine FW.lend (q3 _ _ ?_)
 refine wp_block ?_
 refine FW.wloop (T := Nat × List UInt8 × List Int × Int × Int) (fun x a w => match x with | (kl1, v0, v7, v8, v9) => FW.S M w0 a w 54 [] [(0, [], .lit (.string (FW.B v0))), (7, [], .row (r_c_u8 v7)), (8, [], .lit (.int .i64 v8)), (9, [], .lit (.int .i64 v9))] ∧ graph_Name.l1 K kl1 v0 v7 v8 v9 = some r) (fun x => x.1) (K, v0, (FW.bytesI v0), (List.length (FW.bytesI v0) : Int), 0) ⟨hk.sub ⟨rfl, rfl, rfl, rfl, trivial⟩, h⟩ ?_
 clear hk h
 rintro ⟨kl1, v0, v7, v8, v9⟩ a w ⟨hk, h⟩ K' q4
 cases kl1 with
 | zero => simp [graph_Name.l1] at h
 | succ kl1 =>
 rw [graph_Name.l1.eq_2] at h
 refine FW.wreg fun _ q5 => ?_
 refine FW.sLt hk fun a w hk => ?_
 refine FW.lend (q5 _ _ ?_)
 refine FW.wseq fun _ q6 => ?_
 refine FW.wcondF (b := (decide (v9 < v8))) hk h rfl (fun h hb => ?_) (fun h hb => ?_)
 ·skip
  refine wp_skip ?_
  (repeat first | refine FW.tn ?_ | refine FW.bn ?_); refine q6 _ _ ?_
  refine FW.wseq fun _ q7 => ?_
  refine wp_block ?_
  refine FW.wreg fun _ q8 => ?_
  refine FW.sM hk fun a w hk => ?_
  obtain ⟨hc1, h⟩ := FW.chk h
  refine FW.lf (y := .ref (c_u8 (List.getD v7 (Int.toNat v9) default))) hk (FW.f_indexAddr (R := r_c_u8) (f := c_u8) (l := v7) (sz := 1) r_c_u8_eq (fun _ => rfl) hk FW.h0 rfl rfl Try.underlying75 (by kernel_rfl) hc1) fun a w hk => ?_
  refine FW.lf (y := .lit (.int .u8 (List.getD v7 (Int.toNat v9) default))) hk (FW.f_load1 hk FW.h0 rfl rfl Try.underlying5 rfl) fun a w hk => ?_
  refine FW.sA hk fun a w hk => ?_
  refine FW.sA hk fun a w hk => ?_
  refine FW.lend (q8 _ _ ?_)
  refine FW.wreg fun _ q9 => ?_
  refine FW.sM hk fun a w hk => ?_
  refine FW.sEq hk fun a w hk => ?_
  refine FW.sM hk fun a w hk => ?_
  refine FW.lg (y := .lit (.int .u8 (List.getD v7 (Int.toNat v9) default))) hk rfl rfl rfl (fun hc => FW.f_move hk hc rfl) fun a w hk => ?_
  refine FW.lg (y := .lit (.bool (decide (97 ≤ (List.getD v7 (Int.toNat v9) default))))) hk rfl rfl rfl (fun hc => (FW.f_pure (FW.p_geq hk.kn hc rfl rfl))) fun a w hk => ?_
  refine FW.lg (y := .lit (.bool (decide (97 ≤ (List.getD v7 (Int.toNat v9) default))))) hk rfl rfl rfl (fun hc => FW.f_move hk hc rfl) fun a w hk => ?_
  refine FW.lg (y := .lit (.int .u8 (List.getD v7 (Int.toNat v9) default))) hk rfl rfl rfl (fun hc => FW.f_move hk hc rfl) fun a w hk => ?_
  refine FW.lg (y := .lit (.bool (decide ((List.getD v7 (Int.toNat v9) default) ≤ 122)))) hk rfl rfl rfl (fun hc => (FW.f_pure (FW.p_leq hk.kn hc rfl rfl))) fun a w hk => ?_
  refine FW.lg (y := .lit (.bool ((decide (97 ≤ (List.getD v7 (Int.toNat v9) default))) && (decide ((List.getD v7 (Int.toNat v9) default) ≤ 122))))) hk rfl rfl rfl (fun hc => (FW.f_pure (FW.p_pick_and hk.kn hc rfl rfl))) fun a w hk => ?_
  refine FW.sOr hk fun a w hk => ?_
  refine FW.sM hk fun a w hk => ?_
  refine FW.lg (y := .lit (.int .u8 (List.getD v7 (Int.toNat v9) default))) hk rfl rfl rfl (fun hc => FW.f_move hk hc rfl) fun a w hk => ?_
  refine FW.lg (y := .lit (.bool (decide (65 ≤ (List.getD v7 (Int.toNat v9) default))))) hk rfl rfl rfl (fun hc => (FW.f_pure (FW.p_geq hk.kn hc rfl rfl))) fun a w hk => ?_
  refine FW.lg (y := .lit (.bool (decide (65 ≤ (List.getD v7 (Int.toNat v9) default))))) hk rfl rfl rfl (fun hc => FW.f_move hk hc rfl) fun a w hk => ?_
  refine FW.lg (y := .lit (.int .u8 (List.getD v7 (Int.toNat v9) default))) hk rfl rfl rfl (fun hc => FW.f_move hk hc rfl) fun a w hk => ?_
  refine FW.lg (y := .lit (.bool (decide ((List.getD v7 (Int.toNat v9) default) ≤ 90)))) hk rfl rfl rfl (fun hc => (FW.f_pure (FW.p_leq hk.kn hc rfl rfl))) fun a w hk => ?_
  refine FW.lg (y := .lit (.bool ((decide (65 ≤ (List.getD v7 (Int.toNat v9) default))) && (decide ((List.getD v7 (Int.toNat v9) default) ≤ 90))))) hk rfl rfl rfl (fun hc => (FW.f_pure (FW.p_pick_and hk.kn hc rfl rfl))) fun a w hk => ?_
  refine FW.sOr hk fun a w hk => ?_
  refine FW.sA hk fun a w hk => ?_
  refine FW.lend (q9 _ _ ?_)
  refine FW.wreg fun _ q10 => ?_
  refine FW.sM hk fun a w hk => ?_
  refine FW.lf (y := .lit (.bool (!(((decide ((List.getD v7 (Int.toNat v9) default) = 95)) || ((decide (97 ≤ (List.getD v7 (Int.toNat v9) default))) && (decide ((List.getD v7 (Int.toNat v9) default) ≤ 122)))) || ((decide (65 ≤ (List.getD v7 (Int.toNat v9) default))) && (decide ((List.getD v7 (Int.toNat v9) default) ≤ 90))))))) hk ((FW.f_pure (FW.p_not hk.kn FW.h0 rfl))) fun a w hk => ?_
  refine FW.sM hk fun a w hk => ?_
  refine FW.lg (y := .lit (.int .i64 v9)) hk rfl rfl rfl (fun hc => FW.f_move hk hc rfl) fun a w hk => ?_
  refine FW.lg (y := .lit (.bool (decide (v9 = 0)))) hk rfl rfl rfl (fun hc => (FW.f_pure (FW.p_eql hk.kn hc rfl rfl))) fun a w hk => ?_
  refine FW.lg (y := .lit (.bool (decide (v9 = 0)))) hk rfl rfl rfl (fun hc => FW.f_move hk hc rfl) fun a w hk => ?_
  refine FW.lg (y := .lit (.int .u8 (List.getD v7 (Int.toNat v9) default))) hk rfl rfl rfl (fun hc => FW.f_move hk hc rfl) fun a w hk => ?_
  refine FW.lg (y := .lit (.bool (decide ((List.getD v7 (Int.toNat v9) default) < 48)))) hk rfl rfl rfl (fun hc => (FW.f_pure (FW.p_lss hk.kn hc rfl rfl))) fun a w hk => ?_
  refine FW.lg (y := .lit (.bool ((decide (v9 = 0)) || (decide ((List.getD v7 (Int.toNat v9) default) < 48))))) hk rfl rfl rfl (fun hc => (FW.f_pure (FW.p_pick_or hk.kn hc rfl rfl))) fun a w hk => ?_
  refine FW.lg (y := .lit (.bool ((decide (v9 = 0)) || (decide ((List.getD v7 (Int.toNat v9) default) < 48))))) hk rfl rfl rfl (fun hc => FW.f_move hk hc rfl) fun a w hk => ?_
  refine FW.lg (y := .lit (.int .u8 (List.getD v7 (Int.toNat v9) default))) hk rfl rfl rfl (fun hc => FW.f_move hk hc rfl) fun a w hk => ?_
  refine FW.lg (y := .lit (.bool (decide (57 < (List.getD v7 (Int.toNat v9) default))))) hk rfl rfl rfl (fun hc => (FW.f_pure (FW.p_gtr hk.kn hc rfl rfl))) fun a w hk => ?_
  refine FW.lg (y := .lit (.bool (((decide (v9 = 0)) || (decide ((List.getD v7 (Int.toNat v9) default) < 48))) || (decide (57 < (List.getD v7 (Int.toNat v9) default)))))) hk rfl rfl rfl (fun hc => (FW.f_pure (FW.p_pick_or hk.kn hc rfl rfl))) fun a w hk => ?_
  refine FW.sAn hk fun a w hk => ?_
  refine FW.lend (q10 _ _ ?_)
  refine FW.wcondF (b := ((!(((decide ((List.getD v7 (Int.toNat v9) default) = 95)) || ((decide (97 ≤ (List.getD v7 (Int.toNat v9) default))) && (decide ((List.getD v7 (Int.toNat v9) default) ≤ 122)))) || ((decide (65 ≤ (List.getD v7 (Int.toNat v9) default))) && (decide ((List.getD v7 (Int.toNat v9) default) ≤ 90))))) && (((decide (v9 = 0)) || (decide ((List.getD v7 (Int.toNat v9) default) < 48))) || (decide (57 < (List.getD v7 (Int.toNat v9) default)))))) hk h rfl (fun h hb => ?_) (fun h hb => ?_)
  ·skip
   refine FW.wreg fun _ q11 => ?_
   refine FW.sA hk fun a w hk => ?_
   refine FW.lend (q11 _ _ ?_)
   refine wp_ret ?_
   (repeat first | refine FW.then_ret ?_ | refine FW.block_ret ?_)
   obtain rfl := Option.some.inj h
   exact FW.fret1 hk rfl rfl
  refine wp_skip ?_
  (repeat first | refine FW.tn ?_ | refine FW.bn ?_); refine q7 _ _ ?_
  refine FW.wreg1 ?_
  refine FW.sAd hk fun a w hk => ?_
  refine FW.sM hk fun a w hk => ?_
  refine wpList_nil ?_
  (repeat first | refine FW.tn ?_ | refine FW.bn ?_); exact q4 (kl1, v0, v7, v8, (IntKind.wrap .i64 (v9 + 1))) _ _ (Nat.lt_succ_self _) ⟨hk.sub ⟨rfl, rfl, rfl, rfl, trivial⟩, h⟩
 refine wp_exit ?_; (repeat first | refine FW.then_exit ?_ | refine FW.block_exit_ne rfl ?_); refine FW.block_exit ?_
 (repeat first | refine FW.tn ?_ | refine FW.bn ?_); refine q2 _ _ ?_
 refine FW.wreg fun _ q13 => ?_
 refine FW.sM hk fun a w hk => ?_
 refine FW.lf (y := .lit (.bool (!decide (v0 = ([] : List UInt8))))) hk ((FW.f_pure (FW.p_sneq hk.kn FW.h0 rfl rfl))) fun a w hk => ?_
 refine FW.sM hk fun a w hk => ?_
 refine FW.lg (y := .lit (.string (FW.B v0))) hk rfl rfl rfl (fun hc => FW.f_move hk hc rfl) fun a w hk => ?_
 refine FW.lg (y := .lit (.int .i64 (List.length v0 : Int))) hk rfl rfl rfl (fun hc => (FW.f_pure (FW.p_slen Try.underlying9 hk.kn hc rfl))) fun a w hk => ?_
 refine FW.lg (y := .lit (.bool (decide ((List.length v0 : Int) ≤ 16)))) hk rfl rfl rfl (fun hc => (FW.f_pure (FW.p_leq hk.kn hc rfl rfl))) fun a w hk => ?_
 refine FW.sAn hk fun a w hk => ?_
 refine FW.sA hk fun a w hk => ?_
 refine FW.lend (q13 _ _ ?_)
 refine wp_ret ?_
 (repeat first | refine FW.then_ret ?_ | refine FW.block_ret ?_)
 obtain rfl := Option.some.inj h
 exact FW.fret1 hk rfl rfl

theorem check_is.ok (K : Nat) (v0 : ApiArg) (v1 : Int) (v2 : List UInt8) (r : Bool) (h : check_is.f K v0 v1 v2 = some r) :
  FW.Ok Try.prog 124 [.agg (ApiArg.cells v0), .lit (.int .u8 v1), .lit (.string (FW.B v2))] (.lit (.bool r)) := by
 refine FW.enter (xs := [.agg (ApiArg.cells v0), .lit (.int .u8 v1), .lit (.string (FW.B v2))]) Try.func124 rfl Try.ntmps124 rfl ?_
 intro M w0 a hk
 unfold check_is.f at h
 refine FW.wreg fun _ q1 => ?_
 refine FW.l_box (cs := (ApiArg.cells v0)) hk rfl rfl rfl rfl rfl ?_; clear hk; intro bx1 a w hk
 refine FW.sA hk fun a w hk => ?_
 refine FW.lend (q1 _ _ ?_)
 refine FW.wreg fun _ q2 => ?_
 refine FW.sFp 0 hk Try.underlying38 fun a w hk => ?_
 refine FW.lf (y := .lit (.int .i64 v0.Kind)) hk (FW.f_loadBlk1 hk FW.h0 (j := 0) rfl rfl Try.underlying3 rfl rfl) fun a w hk => ?_
 refine FW.sEq hk fun a w hk => ?_
 refine FW.sA hk fun a w hk => ?_
 refine FW.lend (q2 _ _ ?_)
 refine FW.wreg fun _ q3 => ?_
 refine FW.sM hk fun a w hk => ?_
 refine FW.sM hk fun a w hk => ?_
 refine FW.lg (y := .lit (.pointer (some ⟨bx1, 1, none⟩))) hk rfl rfl rfl (fun hc => FW.f_fieldPtr hk hc rfl Try.underlying38 rfl (by kernel_rfl) rfl) fun a w hk => ?_
 refine FW.lg (y := .lit (.pointer (some ⟨bx1, 1, none⟩))) hk rfl rfl rfl (fun hc => FW.f_fieldPtr hk hc rfl Try.underlying33 rfl (by kernel_rfl) rfl) fun a w hk => ?_
 refine FW.lg (y := .lit (.int .i64 v0.V.Kind)) hk rfl rfl rfl (fun hc => FW.f_loadBlk1 hk hc (j := 0) rfl rfl Try.underlying3 rfl rfl) fun a w hk => ?_
 refine FW.lg (y := .lit (.bool (decide (v0.V.Kind = 4)))) hk rfl rfl rfl (fun hc => (FW.f_pure (FW.p_eql hk.kn hc rfl rfl))) fun a w hk => ?_
 refine FW.sAn hk fun a w hk => ?_
 refine FW.sM hk fun a w hk => ?_
 refine FW.lg (y := .lit (.pointer (some ⟨bx1, 1, none⟩))) hk rfl rfl rfl (fun hc => FW.f_fieldPtr hk hc rfl Try.underlying38 rfl (by kernel_rfl) rfl) fun a w hk => ?_
 refine FW.lg (y := .lit (.pointer (some ⟨bx1, 5, none⟩))) hk rfl rfl rfl (fun hc => FW.f_fieldPtr hk hc rfl Try.underlying33 rfl (by kernel_rfl) rfl) fun a w hk => ?_
 refine FW.lg (y := .lit (.string (FW.B v0.V.S))) hk rfl rfl rfl (fun hc => FW.f_loadBlk1 hk hc (j := 0) rfl rfl Try.underlying9 rfl rfl) fun a w hk => ?_
 obtain ⟨t1, hr_t1, h⟩ := FW.bndG h
 refine FW.lg (y := .lit (.bool t1)) hk rfl rfl rfl (fun hc => FW.f_call hk hc rfl rfl Try.func149 rfl (by kernel_rfl) (graph_Name.ok K v0.V.S _ (hr_t1 (FW.asm_out (p := ((decide (v0.Kind = 1)) && (decide (v0.V.Kind = 4))) = true) hk.kn hc (fun e0 => e0))))) fun a w hk => ?_
 refine FW.sAn hk fun a w hk => ?_
 refine FW.sA hk fun a w hk => ?_
 refine FW.lend (q3 _ _ ?_)
 refine FW.wseq fun _ q4 => ?_
 refine FW.wreg fun _ q5 => ?_
 refine FW.sM hk fun a w hk => ?_
 refine FW.lend (q5 _ _ ?_)
 refine wp_block ?_
 refine FW.wreg fun _ q6 => ?_
 refine FW.sEq hk fun a w hk => ?_
 refine FW.sA hk fun a w hk => ?_
 refine FW.lend (q6 _ _ ?_)
 refine FW.wcondF (b := (decide (v1 = 118))) hk h rfl (fun h hb => ?_) (fun h hb => ?_)
 ·skip
  refine FW.wreg fun _ q7 => ?_
  refine FW.sM hk fun a w hk => ?_
  refine FW.sA hk fun a w hk => ?_
  refine FW.lend (q7 _ _ ?_)
  refine wp_ret ?_
  (repeat first | refine FW.then_ret ?_ | refine FW.block_ret ?_)
  obtain rfl := Option.some.inj h
  exact FW.fret1 hk rfl rfl
 refine FW.wreg fun _ q8 => ?_
 refine FW.sEq hk fun a w hk => ?_
 refine FW.sA hk fun a w hk => ?_
 refine FW.lend (q8 _ _ ?_)
 refine FW.wcondF (b := (decide (v1 = 110))) hk h rfl (fun h hb => ?_) (fun h hb => ?_)
 ·skip
  refine FW.wreg fun _ q9 => ?_
  refine FW.sM hk fun a w hk => ?_
  refine FW.sA hk fun a w hk => ?_
  refine FW.lend (q9 _ _ ?_)
  refine wp_ret ?_
  (repeat first | refine FW.then_ret ?_ | refine FW.block_ret ?_)
  obtain rfl := Option.some.inj h
  exact FW.fret1 hk rfl rfl
 refine FW.wreg fun _ q10 => ?_
 refine FW.sEq hk fun a w hk => ?_
 refine FW.sA hk fun a w hk => ?_
 refine FW.lend (q10 _ _ ?_)
 refine FW.wcondF (b := (decide (v1 = 105))) hk h rfl (fun h hb => ?_) (fun h hb => ?_)
 ·skip
  refine FW.wreg fun _ q11 => ?_
  refine FW.sM hk fun a w hk => ?_
  refine FW.sM hk fun a w hk => ?_
  refine FW.lg (y := .lit (.pointer (some ⟨bx1, 1, none⟩))) hk rfl rfl rfl (fun hc => FW.f_fieldPtr hk hc rfl Try.underlying38 rfl (by kernel_rfl) rfl) fun a w hk => ?_
  refine FW.lg (y := .lit (.pointer (some ⟨bx1, 1, none⟩))) hk rfl rfl rfl (fun hc => FW.f_fieldPtr hk hc rfl Try.underlying33 rfl (by kernel_rfl) rfl) fun a w hk => ?_
  refine FW.lg (y := .lit (.int .i64 v0.V.Kind)) hk rfl rfl rfl (fun hc => FW.f_loadBlk1 hk hc (j := 0) rfl rfl Try.underlying3 rfl rfl) fun a w hk => ?_
  refine FW.lg (y := .lit (.bool (decide (v0.V.Kind = 2)))) hk rfl rfl rfl (fun hc => (FW.f_pure (FW.p_eql hk.kn hc rfl rfl))) fun a w hk => ?_
  refine FW.sAn hk fun a w hk => ?_
  refine FW.sM hk fun a w hk => ?_
  refine FW.lg (y := .lit (.pointer (some ⟨bx1, 1, none⟩))) hk rfl rfl rfl (fun hc => FW.f_fieldPtr hk hc rfl Try.underlying38 rfl (by kernel_rfl) rfl) fun a w hk => ?_
  refine FW.lg (y := .lit (.pointer (some ⟨bx1, 3, none⟩))) hk rfl rfl rfl (fun hc => FW.f_fieldPtr hk hc rfl Try.underlying33 rfl (by kernel_rfl) rfl) fun a w hk => ?_
  refine FW.lg (y := .lit (.int .i64 v0.V.N)) hk rfl rfl rfl (fun hc => FW.f_loadBlk1 hk hc (j := 0) rfl rfl Try.underlying2 rfl rfl) fun a w hk => ?_
  refine FW.lg (y := .lit (.bool (decide (1 ≤ v0.V.N)))) hk rfl rfl rfl (fun hc => (FW.f_pure (FW.p_geq hk.kn hc rfl rfl))) fun a w hk => ?_
  refine FW.sAn hk fun a w hk => ?_
  refine FW.sA hk fun a w hk => ?_
  refine FW.lend (q11 _ _ ?_)
  refine wp_ret ?_
  (repeat first | refine FW.then_ret ?_ | refine FW.block_ret ?_)
  obtain rfl := Option.some.inj h
  exact FW.fret1 hk rfl rfl
 refine FW.wreg fun _ q12 => ?_
 refine FW.sEq hk fun a w hk => ?_
 refine FW.sA hk fun a w hk => ?_
 refine FW.lend (q12 _ _ ?_)
 refine FW.wcondF (b := (decide (v1 = 107))) hk h rfl (fun h hb => ?_) (fun h hb => ?_)
 ·skip
  refine FW.wreg fun _ q13 => ?_
  refine FW.sM hk fun a w hk => ?_
  refine FW.sM hk fun a w hk => ?_
  refine FW.lg (y := .lit (.pointer (some ⟨bx1, 1, none⟩))) hk rfl rfl rfl (fun hc => FW.f_fieldPtr hk hc rfl Try.underlying38 rfl (by kernel_rfl) rfl) fun a w hk => ?_
  refine FW.lg (y := .lit (.pointer (some ⟨bx1, 1, none⟩))) hk rfl rfl rfl (fun hc => FW.f_fieldPtr hk hc rfl Try.underlying33 rfl (by kernel_rfl) rfl) fun a w hk => ?_
  refine FW.lg (y := .lit (.int .i64 v0.V.Kind)) hk rfl rfl rfl (fun hc => FW.f_loadBlk1 hk hc (j := 0) rfl rfl Try.underlying3 rfl rfl) fun a w hk => ?_
  refine FW.lg (y := .lit (.bool (decide (v0.V.Kind = 2)))) hk rfl rfl rfl (fun hc => (FW.f_pure (FW.p_eql hk.kn hc rfl rfl))) fun a w hk => ?_
  refine FW.sAn hk fun a w hk => ?_
  refine FW.sM hk fun a w hk => ?_
  refine FW.lg (y := .lit (.pointer (some ⟨bx1, 1, none⟩))) hk rfl rfl rfl (fun hc => FW.f_fieldPtr hk hc rfl Try.underlying38 rfl (by kernel_rfl) rfl) fun a w hk => ?_
  refine FW.lg (y := .lit (.pointer (some ⟨bx1, 3, none⟩))) hk rfl rfl rfl (fun hc => FW.f_fieldPtr hk hc rfl Try.underlying33 rfl (by kernel_rfl) rfl) fun a w hk => ?_
  refine FW.lg (y := .lit (.int .i64 v0.V.N)) hk rfl rfl rfl (fun hc => FW.f_loadBlk1 hk hc (j := 0) rfl rfl Try.underlying2 rfl rfl) fun a w hk => ?_
  refine FW.lg (y := .lit (.bool (decide (0 ≤ v0.V.N)))) hk rfl rfl rfl (fun hc => (FW.f_pure (FW.p_geq hk.kn hc rfl rfl))) fun a w hk => ?_
  refine FW.sAn hk fun a w hk => ?_
  refine FW.sA hk fun a w hk => ?_
  refine FW.lend (q13 _ _ ?_)
  refine wp_ret ?_
  (repeat first | refine FW.then_ret ?_ | refine FW.block_ret ?_)
  obtain rfl := Option.some.inj h
  exact FW.fret1 hk rfl rfl
 refine FW.wreg fun _ q14 => ?_
 refine FW.sEq hk fun a w hk => ?_
 refine FW.sA hk fun a w hk => ?_
 refine FW.lend (q14 _ _ ?_)
 refine FW.wcondF (b := (decide (v1 = 113))) hk h rfl (fun h hb => ?_) (fun h hb => ?_)
 ·skip
  refine FW.wreg fun _ q15 => ?_
  refine FW.sM hk fun a w hk => ?_
  refine FW.sM hk fun a w hk => ?_
  refine FW.lg (y := .lit (.pointer (some ⟨bx1, 0, none⟩))) hk rfl rfl rfl (fun hc => FW.f_fieldPtr hk hc rfl Try.underlying38 rfl (by kernel_rfl) rfl) fun a w hk => ?_
  refine FW.lg (y := .lit (.int .i64 v0.Kind)) hk rfl rfl rfl (fun hc => FW.f_loadBlk1 hk hc (j := 0) rfl rfl Try.underlying3 rfl rfl) fun a w hk => ?_
  refine FW.lg (y := .lit (.bool (decide (v0.Kind = 2)))) hk rfl rfl rfl (fun hc => (FW.f_pure (FW.p_eql hk.kn hc rfl rfl))) fun a w hk => ?_
  refine FW.sOr hk fun a w hk => ?_
  refine FW.sA hk fun a w hk => ?_
  refine FW.lend (q15 _ _ ?_)
  refine wp_ret ?_
  (repeat first | refine FW.then_ret ?_ | refine FW.block_ret ?_)
  obtain rfl := Option.some.inj h
  exact FW.fret1 hk rfl rfl
 refine FW.wreg fun _ q16 => ?_
 refine FW.sEq hk fun a w hk => ?_
 refine FW.sA hk fun a w hk => ?_
 refine FW.lend (q16 _ _ ?_)
 refine FW.wcondF (b := (decide (v1 = 116))) hk h rfl (fun h hb => ?_) (fun h hb => ?_)
 ·skip
  refine FW.wreg fun _ q17 => ?_
  refine FW.sFp 0 hk Try.underlying38 fun a w hk => ?_
  refine FW.lf (y := .lit (.int .i64 v0.Kind)) hk (FW.f_loadBlk1 hk FW.h0 (j := 0) rfl rfl Try.underlying3 rfl rfl) fun a w hk => ?_
  refine FW.sEq hk fun a w hk => ?_
  refine FW.sA hk fun a w hk => ?_
  refine FW.lend (q17 _ _ ?_)
  refine wp_ret ?_
  (repeat first | refine FW.then_ret ?_ | refine FW.block_ret ?_)
  obtain rfl := Option.some.inj h
  exact FW.fret1 hk rfl rfl
 refine FW.wreg fun _ q18 => ?_
 refine FW.sEq hk fun a w hk => ?_
 refine FW.sA hk fun a w hk => ?_
 refine FW.lend (q18 _ _ ?_)
 refine FW.wcondF (b := (decide (v1 = 98))) hk h rfl (fun h hb => ?_) (fun h hb => ?_)
 ·skip
  refine FW.wreg fun _ q19 => ?_
  refine FW.sM hk fun a w hk => ?_
  refine FW.sM hk fun a w hk => ?_
  refine FW.lg (y := .lit (.pointer (some ⟨bx1, 0, none⟩))) hk rfl rfl rfl (fun hc => FW.f_fieldPtr hk hc rfl Try.underlying38 rfl (by kernel_rfl) rfl) fun a w hk => ?_
  refine FW.lg (y := .lit (.int .i64 v0.Kind)) hk rfl rfl rfl (fun hc => FW.f_loadBlk1 hk hc (j := 0) rfl rfl Try.underlying3 rfl rfl) fun a w hk => ?_
  refine FW.lg (y := .lit (.bool (decide (v0.Kind = 3)))) hk rfl rfl rfl (fun hc => (FW.f_pure (FW.p_eql hk.kn hc rfl rfl))) fun a w hk => ?_
  refine FW.sOr hk fun a w hk => ?_
  refine FW.sA hk fun a w hk => ?_
  refine FW.lend (q19 _ _ ?_)
  refine wp_ret ?_
  (repeat first | refine FW.then_ret ?_ | refine FW.block_ret ?_)
  obtain rfl := Option.some.inj h
  exact FW.fret1 hk rfl rfl
 refine wp_skip ?_
 (repeat first | refine FW.tn ?_ | refine FW.bn ?_); refine q4 _ _ ?_
 refine FW.wseq fun _ q20 => ?_
 refine FW.wreg fun _ q21 => ?_
 refine FW.sFp 0 hk Try.underlying38 fun a w hk => ?_
 refine FW.lf (y := .lit (.int .i64 v0.Kind)) hk (FW.f_loadBlk1 hk FW.h0 (j := 0) rfl rfl Try.underlying3 rfl rfl) fun a w hk => ?_
 refine FW.lf (y := .lit (.bool (!decide (v0.Kind = 4)))) hk ((FW.f_pure (FW.p_neq hk.kn FW.h0 rfl rfl))) fun a w hk => ?_
 refine FW.lend (q21 _ _ ?_)
 refine FW.wcondF (b := (!decide (v0.Kind = 4))) hk h rfl (fun h hb => ?_) (fun h hb => ?_)
 ·skip
  refine FW.wreg fun _ q22 => ?_
  refine FW.sA hk fun a w hk => ?_
  refine FW.lend (q22 _ _ ?_)
  refine wp_ret ?_
  (repeat first | refine FW.then_ret ?_ | refine FW.block_ret ?_)
  obtain rfl := Option.some.inj h
  exact FW.fret1 hk rfl rfl
 refine wp_skip ?_
 (repeat first | refine FW.tn ?_ | refine FW.bn ?_); refine q20 _ _ ?_
 refine FW.wseq fun _ q23 => ?_
 refine FW.wreg fun _ q24 => ?_
 refine FW.sM hk fun a w hk => ?_
 refine FW.sSe hk fun a w hk => ?_
 refine FW.lend (q24 _ _ ?_)
 refine FW.wcondF (b := (decide (v2 = ([98, 121] : List UInt8)))) hk h rfl (fun h hb => ?_) (fun h hb => ?_)
 ·skip
  refine FW.wreg fun _ q25 => ?_
  refine FW.sFp 1 hk Try.underlying38 fun a w hk => ?_
  refine FW.sFp 5 hk Try.underlying33 fun a w hk => ?_
  refine FW.lf (y := .lit (.string (FW.B v0.V.S))) hk (FW.f_loadBlk1 hk FW.h0 (j := 0) rfl rfl Try.underlying9 rfl rfl) fun a w hk => ?_
  refine FW.sSe hk fun a w hk => ?_
  refine FW.sM hk fun a w hk => ?_
  refine FW.lg (y := .lit (.pointer (some ⟨bx1, 1, none⟩))) hk rfl rfl rfl (fun hc => FW.f_fieldPtr hk hc rfl Try.underlying38 rfl (by kernel_rfl) rfl) fun a w hk => ?_
  refine FW.lg (y := .lit (.pointer (some ⟨bx1, 5, none⟩))) hk rfl rfl rfl (fun hc => FW.f_fieldPtr hk hc rfl Try.underlying33 rfl (by kernel_rfl) rfl) fun a w hk => ?_
  refine FW.lg (y := .lit (.string (FW.B v0.V.S))) hk rfl rfl rfl (fun hc => FW.f_loadBlk1 hk hc (j := 0) rfl rfl Try.underlying9 rfl rfl) fun a w hk => ?_
  refine FW.lg (y := .lit (.bool (decide (v0.V.S = ([100, 101, 115, 99] : List UInt8))))) hk rfl rfl rfl (fun hc => (FW.f_pure (FW.p_seql hk.kn hc rfl rfl))) fun a w hk => ?_
  refine FW.sOr hk fun a w hk => ?_
  refine FW.sA hk fun a w hk => ?_
  refine FW.lend (q25 _ _ ?_)
  refine wp_ret ?_
  (repeat first | refine FW.then_ret ?_ | refine FW.block_ret ?_)
  obtain rfl := Option.some.inj h
  exact FW.fret1 hk rfl rfl
 refine wp_skip ?_
 (repeat first | refine FW.tn ?_ | refine FW.bn ?_); refine q23 _ _ ?_
 refine FW.wreg fun _ q26 => ?_
 refine FW.sFp 1 hk Try.underlying38 fun a w hk => ?_
 refine FW.sFp 5 hk Try.underlying33 fun a w hk => ?_
 refine FW.lf (y := .lit (.string (FW.B v0.V.S))) hk (FW.f_loadBlk1 hk FW.h0 (j := 0) rfl rfl Try.underlying9 rfl rfl) fun a w hk => ?_
 refine FW.sSe hk fun a w hk => ?_
 refine FW.sM hk fun a w hk => ?_
 refine FW.lg (y := .lit (.pointer (some ⟨bx1, 1, none⟩))) hk rfl rfl rfl (fun hc => FW.f_fieldPtr hk hc rfl Try.underlying38 rfl (by kernel_rfl) rfl) fun a w hk => ?_
 refine FW.lg (y := .lit (.pointer (some ⟨bx1, 5, none⟩))) hk rfl rfl rfl (fun hc => FW.f_fieldPtr hk hc rfl Try.underlying33 rfl (by kernel_rfl) rfl) fun a w hk => ?_
 refine FW.lg (y := .lit (.string (FW.B v0.V.S))) hk rfl rfl rfl (fun hc => FW.f_loadBlk1 hk hc (j := 0) rfl rfl Try.underlying9 rfl rfl) fun a w hk => ?_
 refine FW.lg (y := .lit (.bool (decide (v0.V.S = ([108, 105, 115, 116] : List UInt8))))) hk rfl rfl rfl (fun hc => (FW.f_pure (FW.p_seql hk.kn hc rfl rfl))) fun a w hk => ?_
 refine FW.sOr hk fun a w hk => ?_
 refine FW.sA hk fun a w hk => ?_
 refine FW.lend (q26 _ _ ?_)
 refine wp_ret ?_
 (repeat first | refine FW.then_ret ?_ | refine FW.block_ret ?_)
 obtain rfl := Option.some.inj h
 exact FW.fret1 hk rfl rfl

theorem check_fits_1.ok (K : Nat) (v0 : ApiArg) (v1 : OVarcstr_9) (v2 : OVarApiStep) (r : Bool) (h : check_fits_1.f K v0 v1 v2 = some r) :
  ∀ (b1 : Nat) (b2 : Nat), FW.OkH Try.prog 123 [.agg (ApiArg.cells v0), .lit (.pointer (some ⟨b1, 0, none⟩)), .lit (.pointer (some ⟨b2, 0, none⟩))] ((OVarcstr_9.items b1 v1) ++ (OVarApiStep.items b2 v2)) (fun y I => y = .lit (.bool r) ∧ I = (OVarcstr_9.items b1 v1) ++ (OVarApiStep.items b2 v2)) := by
 intro b1 b2
 refine FW.enterH (xs := [.agg (ApiArg.cells v0), .lit (.pointer (some ⟨b1, 0, none⟩)), .lit (.pointer (some ⟨b2, 0, none⟩))]) Try.func123 rfl Try.ntmps123 rfl ?_
 intro M w0 a hk
 replace hk : FW.S M w0 a w0.toWorld 12 [FW.blk b1 9 ([.lit (.string (FW.B v1.v))]), FW.blk b2 29 ((ApiStep.cells v2))] [(0, [], .agg ((ApiArg.cells v0))), (1, [], .lit (.pointer (some ⟨b1, 0, none⟩))), (2, [], .lit (.pointer (some ⟨b2, 0, none⟩)))] := hk
 unfold check_fits_1.f at h
 refine FW.wreg fun _ q1 => ?_
 refine FW.l_box (cs := (ApiArg.cells v0)) hk rfl rfl rfl rfl rfl ?_; clear hk; intro bx1 a w hk
 refine FW.sA hk fun a w hk => ?_
 refine FW.lend (q1 _ _ ?_)
 obtain ⟨hc1, h⟩ := FW.chk h
 obtain ⟨t1, hr_t1, h⟩ := FW.bnd h
 refine FW.wdraw (by kernel_rfl) (by kernel_rfl) hk ?_; clear hk
 refine FW.dfun (y := .agg ((ApiArg.cells v0))) rfl rfl rfl rfl (fun a w hk => FW.f_loadBlk hk FW.h0 (j := 0) rfl rfl Try.underlying38 rfl rfl rfl rfl) ?_
 refine FW.dfun (y := .lit (.string (FW.B v1.v))) rfl rfl rfl rfl (fun a w hk => FW.f_loadBlk1 hk FW.h0 (j := 1) rfl rfl Try.underlying9 rfl rfl) ?_
 refine FW.dfun (y := .lit (.int .u8 (FW.bt v1.v 0))) rfl rfl rfl rfl (fun a w hk => (FW.f_pure (FW.p_index Try.underlying9 hk.kn FW.h0 rfl rfl hc1))) ?_
 refine FW.dfun (y := .lit (.pointer (some ⟨b2, 0, none⟩))) rfl rfl rfl rfl (fun a w hk => FW.f_fieldPtr hk FW.h0 rfl Try.underlying29 rfl (by kernel_rfl) rfl) ?_
 refine FW.dfun (y := .lit (.string (FW.B v2.Name))) rfl rfl rfl rfl (fun a w hk => FW.f_loadBlk1 hk FW.h0 (j := 2) rfl rfl Try.underlying9 rfl rfl) ?_
 refine FW.dfun (y := .lit (.bool t1)) rfl rfl rfl rfl (fun a w hk => FW.f_call hk FW.h0 rfl rfl Try.func124 rfl (by kernel_rfl) (check_is.ok K v0 (FW.bt v1.v 0) v2.Name _ hr_t1)) ?_
 refine FW.dfun (y := .lit (.bool (!t1))) rfl rfl rfl rfl (fun a w hk => (FW.f_pure (FW.p_not hk.kn FW.h0 rfl))) ?_
 refine FW.dfun (y := .lit (.bool (!t1))) rfl rfl rfl rfl (fun a w hk => FW.f_assign hk FW.h0 rfl) ?_
 refine FW.dend ?_; intro a w hk
 refine wp_ret ?_
 (repeat first | refine FW.then_ret ?_ | refine FW.block_ret ?_)
 obtain rfl := Option.some.inj h
 replace hk := FW.S.keep (I1 := [FW.blk b1 9 ([.lit (.string (FW.B v1.v))]), FW.blk b2 29 ((ApiStep.cells v2))]) (I2 := [FW.blk bx1 38 ((ApiArg.cells v0))]) (js := [2, 2]) hk rfl
 exact FW.fretH1 hk rfl (FW.rtmp hk rfl) ⟨rfl, rfl⟩

theorem iF_fits.ok (K : Nat) (v0 : List ApiArg) (v1c0 : OVarcstr_9) (v1c1 : OVarApiStep) (r : Int) (h : iF_fits.f K v0 v1c0 v1c1 = some r) :
  ∀ (b1c0 : Nat) (b1c1 : Nat), FW.OkH Try.prog 148 [.row (r_ApiArg_cells v0), .lit (.func (.func 123) #[] #[.pointer (some ⟨b1c0, 0, none⟩), .pointer (some ⟨b1c1, 0, none⟩)])] ((OVarcstr_9.items b1c0 v1c0) ++ (OVarApiStep.items b1c1 v1c1)) (fun y I => y = .lit (.int .i64 r) ∧ I = (OVarcstr_9.items b1c0 v1c0) ++ (OVarApiStep.items b1c1 v1c1)) := by
 intro b1c0 b1c1
 refine FW.enterH (xs := [.row (r_ApiArg_cells v0), .lit (.func (.func 123) #[] #[.pointer (some ⟨b1c0, 0, none⟩), .pointer (some ⟨b1c1, 0, none⟩)])]) Try.func148 rfl Try.ntmps148 rfl ?_
 intro M w0 a hk
 replace hk : FW.S M w0 a w0.toWorld 19 [FW.blk b1c0 9 ([.lit (.string (FW.B v1c0.v))]), FW.blk b1c1 29 ((ApiStep.cells v1c1))] [(0, [], .row (r_ApiArg_cells v0)), (1, [], .lit (.func (.func 123) #[] #[.pointer (some ⟨b1c0, 0, none⟩), .pointer (some ⟨b1c1, 0, none⟩)]))] := hk
 unfold iF_fits.f at h
 refine FW.wreg fun _ q1 => ?_
 refine FW.sA hk fun a w hk => ?_
 refine FW.lend (q1 _ _ ?_)
 refine FW.wseq fun _ q2 => ?_
 refine FW.wreg fun _ q3 => ?_
 refine FW.sM hk fun a w hk => ?_
 refine FW.lf (y := .lit (.int .i64 (List.length v0 : Int))) hk (FW.f_len (R := r_ApiArg_cells) (f := ApiArg.cells) (l := v0) r_ApiArg_cells_eq Try.underlying27 hk FW.h0 rfl) fun a w hk => ?_
 refine FW.sM hk fun a w hk => ?_
 refine FW.lend (q3 _ _ ?_)
 refine wp_block ?_
 refine FW.wloop (T := Nat × List ApiArg × Int × Int) (fun x a w => match x with | (kl1, v0, v7, v8) => FW.S M w0 a w 19 [FW.blk b1c0 9 ([.lit (.string (FW.B v1c0.v))]), FW.blk b1c1 29 ((ApiStep.cells v1c1))] [(0, [], .row (r_ApiArg_cells v0)), (1, [], .lit (.func (.func 123) #[] #[.pointer (some ⟨b1c0, 0, none⟩), .pointer (some ⟨b1c1, 0, none⟩)])), (7, [], .lit (.int .i64 v7)), (8, [], .lit (.int .i64 v8))] ∧ iF_fits.l1 K v1c0 v1c1 kl1 v0 v7 v8 = some r) (fun x => x.1) (K, v0, (List.length v0 : Int), 0) ⟨hk.sub ⟨rfl, rfl, rfl, rfl, trivial⟩, h⟩ ?_
 clear hk h
 rintro ⟨kl1, v0, v7, v8⟩ a w ⟨hk, h⟩ K' q4
 cases kl1 with
 | zero => simp [iF_fits.l1] at h
 | succ kl1 =>
 rw [iF_fits.l1.eq_2] at h
 refine FW.wreg fun _ q5 => ?_
 refine FW.sLt hk fun a w hk => ?_
 refine FW.lend (q5 _ _ ?_)
 refine FW.wseq fun _ q6 => ?_
 refine FW.wcondF (b := (decide (v8 < v7))) hk h rfl (fun h hb => ?_) (fun h hb => ?_)
 ·skip
  refine wp_skip ?_
  (repeat first | refine FW.tn ?_ | refine FW.bn ?_); refine q6 _ _ ?_
  refine FW.wseq fun _ q7 => ?_
  refine wp_block ?_
  refine FW.wreg fun _ q8 => ?_
  refine FW.sM hk fun a w hk => ?_
  refine FW.sA hk fun a w hk => ?_
  refine FW.lend (q8 _ _ ?_)
  refine FW.wreg fun _ q9 => ?_
  refine FW.sM hk fun a w hk => ?_
  refine FW.sM hk fun a w hk => ?_
  refine FW.sM hk fun a w hk => ?_
  obtain ⟨hc1, h⟩ := FW.chk h
  refine FW.lf (y := .ref (ApiArg.cells (List.getD v0 (Int.toNat v8) default))) hk (FW.f_indexAddr (R := r_ApiArg_cells) (f := ApiArg.cells) (l := v0) (sz := 11) r_ApiArg_cells_eq (fun _ => rfl) hk FW.h0 rfl rfl Try.underlying27 (by kernel_rfl) hc1) fun a w hk => ?_
  refine FW.lf (y := .agg ((ApiArg.cells (List.getD v0 (Int.toNat v8) default)))) hk (FW.f_load hk FW.h0 rfl Try.underlying38 rfl rfl rfl rfl) fun a w hk => ?_
  obtain ⟨t1, hr_t1, h⟩ := FW.bnd h
  refine FW.l_callHC (I1 := (OVarcstr_9.items b1c0 v1c0) ++ (OVarApiStep.items b1c1 v1c1)) (I2 := []) (js := [1, 1]) hk rfl rfl rfl rfl rfl Try.func123 rfl (by kernel_rfl) (check_fits_1.ok K (List.getD v0 (Int.toNat v8) default) v1c0 v1c1 _ hr_t1 b1c0 b1c1) ?_; clear hk
  rintro _ _ ⟨rfl, rfl⟩ a w hk
  refine FW.lend (q9 _ _ ?_)
  refine FW.wcondF (b := t1) hk h rfl (fun h hb => ?_) (fun h hb => ?_)
  ·skip
   refine FW.wreg fun _ q10 => ?_
   refine FW.sM hk fun a w hk => ?_
   refine FW.sA hk fun a w hk => ?_
   refine FW.lend (q10 _ _ ?_)
   refine wp_ret ?_
   (repeat first | refine FW.then_ret ?_ | refine FW.block_ret ?_)
   obtain rfl := Option.some.inj h
   replace hk := FW.S.keep (I1 := [FW.blk b1c0 9 ([.lit (.string (FW.B v1c0.v))]), FW.blk b1c1 29 ((ApiStep.cells v1c1))]) (I2 := []) (js := [1, 1]) hk rfl
   exact FW.fretH1 hk rfl (FW.rtmp hk rfl) ⟨rfl, rfl⟩
  refine wp_skip ?_
  (repeat first | refine FW.tn ?_ | refine FW.bn ?_); refine q7 _ _ ?_
  refine FW.wreg1 ?_
  refine FW.sAd hk fun a w hk => ?_
  refine FW.sM hk fun a w hk => ?_
  refine wpList_nil ?_
  (repeat first | refine FW.tn ?_ | refine FW.bn ?_); exact q4 (kl1, v0, v7, (IntKind.wrap .i64 (v8 + 1))) _ _ (Nat.lt_succ_self _) ⟨hk.sub ⟨rfl, rfl, rfl, rfl, trivial⟩, h⟩
 refine wp_exit ?_; (repeat first | refine FW.then_exit ?_ | refine FW.block_exit_ne rfl ?_); refine FW.block_exit ?_
 (repeat first | refine FW.tn ?_ | refine FW.bn ?_); refine q2 _ _ ?_
 refine FW.wreg fun _ q12 => ?_
 refine FW.sA hk fun a w hk => ?_
 refine FW.lend (q12 _ _ ?_)
 refine wp_ret ?_
 (repeat first | refine FW.then_ret ?_ | refine FW.block_ret ?_)
 obtain rfl := Option.some.inj h
 replace hk := FW.S.keep (I1 := [FW.blk b1c0 9 ([.lit (.string (FW.B v1c0.v))]), FW.blk b1c1 29 ((ApiStep.cells v1c1))]) (I2 := []) (js := [1, 1]) hk rfl
 exact FW.fretH1 hk rfl (FW.rtmp hk rfl) ⟨rfl, rfl⟩

theorem cF_fits.ok (K : Nat) (v0 : List ApiArg) (v1c0 : OVarcstr_9) (v1c1 : OVarApiStep) (r : Bool) (h : cF_fits.f K v0 v1c0 v1c1 = some r) :
  ∀ (b1c0 : Nat) (b1c1 : Nat), FW.OkH Try.prog 122 [.row (r_ApiArg_cells v0), .lit (.func (.func 123) #[] #[.pointer (some ⟨b1c0, 0, none⟩), .pointer (some ⟨b1c1, 0, none⟩)])] ((OVarcstr_9.items b1c0 v1c0) ++ (OVarApiStep.items b1c1 v1c1)) (fun y I => y = .lit (.bool r) ∧ I = (OVarcstr_9.items b1c0 v1c0) ++ (OVarApiStep.items b1c1 v1c1)) := by
 intro b1c0 b1c1
 refine FW.enterH (xs := [.row (r_ApiArg_cells v0), .lit (.func (.func 123) #[] #[.pointer (some ⟨b1c0, 0, none⟩), .pointer (some ⟨b1c1, 0, none⟩)])]) Try.func122 rfl Try.ntmps122 rfl ?_
 intro M w0 a hk
 replace hk : FW.S M w0 a w0.toWorld 9 [FW.blk b1c0 9 ([.lit (.string (FW.B v1c0.v))]), FW.blk b1c1 29 ((ApiStep.cells v1c1))] [(0, [], .row (r_ApiArg_cells v0)), (1, [], .lit (.func (.func 123) #[] #[.pointer (some ⟨b1c0, 0, none⟩), .pointer (some ⟨b1c1, 0, none⟩)]))] := hk
 unfold cF_fits.f at h
 refine FW.wreg fun _ q1 => ?_
 refine FW.sA hk fun a w hk => ?_
 refine FW.lend (q1 _ _ ?_)
 refine FW.wreg fun _ q2 => ?_
 refine FW.sM hk fun a w hk => ?_
 refine FW.sM hk fun a w hk => ?_
 obtain ⟨t1, hr_t1, h⟩ := FW.bnd h
 refine FW.l_callH (I1 := (OVarcstr_9.items b1c0 v1c0) ++ (OVarApiStep.items b1c1 v1c1)) (I2 := []) (js := [1, 1]) hk rfl rfl rfl rfl rfl Try.func148 rfl (by kernel_rfl) (iF_fits.ok K v0 v1c0 v1c1 _ hr_t1 b1c0 b1c1) ?_; clear hk
 rintro _ _ ⟨rfl, rfl⟩ a w hk
 refine FW.lf (y := .lit (.bool (decide (0 ≤ t1)))) hk ((FW.f_pure (FW.p_geq hk.kn FW.h0 rfl rfl))) fun a w hk => ?_
 refine FW.sA hk fun a w hk => ?_
 refine FW.lend (q2 _ _ ?_)
 refine wp_ret ?_
 (repeat first | refine FW.then_ret ?_ | refine FW.block_ret ?_)
 obtain rfl := Option.some.inj h
 replace hk := FW.S.keep (I1 := [FW.blk b1c0 9 ([.lit (.string (FW.B v1c0.v))]), FW.blk b1c1 29 ((ApiStep.cells v1c1))]) (I2 := []) (js := [1, 1]) hk rfl
 exact FW.fretH1 hk rfl (FW.rtmp hk rfl) ⟨rfl, rfl⟩
end Go.Proofs.Ytbjbgodcenopnaa

/- Written by a program of this session (gen.py): the contracts of functions of the program. -/
import Derived.Test.YtbjbgodcenopnaaCbP1
namespace Go.Proofs.Ytbjbgodcenopnaa
set_option linter.unusedVariables false
set_option maxRecDepth 20000
set_option maxHeartbeats 10000000
theorem r11_one.ok (K : Nat) (v0 : List UInt8) (r : ApiWord × Int) (h : r11_one.f K v0 = some r) :
  FW.Ok Try.prog 50 [.lit (.string (FW.B v0))] (.tup [.agg (ApiWord.cells r.1), .lit (.int .i64 r.2)]) := by
 refine FW.enter (xs := [.lit (.string (FW.B v0))]) Try.func50 rfl Try.ntmps50 rfl ?_
 intro M w0 a hk
 unfold r11_one.f at h
 refine FW.wreg fun _ q1 => ?_
 refine FW.l_alloc (zs := (ApiWord.cells (⟨0, [], 0, 0, 0⟩ : ApiWord))) [] hk rfl rfl rfl rfl ?_; clear hk; intro bx1 a w hk
 refine FW.sA hk fun a w hk => ?_
 refine FW.lend (q1 _ _ ?_)
 refine FW.wreg fun _ q2 => ?_
 refine FW.sM hk fun a w hk => ?_
 obtain ⟨hc1, h⟩ := FW.chk h
 refine FW.lf (y := .lit (.int .u8 (FW.bt v0 0))) hk ((FW.f_pure (FW.p_index Try.underlying9 hk.kn FW.h0 rfl rfl hc1))) fun a w hk => ?_
 refine FW.sA hk fun a w hk => ?_
 refine FW.lend (q2 _ _ ?_)
 refine FW.wseq fun _ q3 => ?_
 refine wp_block ?_
 refine FW.wreg fun _ q4 => ?_
 refine FW.sM hk fun a w hk => ?_
 refine FW.sEq hk fun a w hk => ?_
 refine FW.sM hk fun a w hk => ?_
 refine FW.lg (y := .lit (.string (FW.B v0))) hk rfl rfl rfl (fun hc => FW.f_move hk hc rfl) fun a w hk => ?_
 refine FW.lg (y := .lit (.int .i64 (List.length v0 : Int))) hk rfl rfl rfl (fun hc => (FW.f_pure (FW.p_slen Try.underlying9 hk.kn hc rfl))) fun a w hk => ?_
 refine FW.lg (y := .lit (.bool (decide (1 < (List.length v0 : Int))))) hk rfl rfl rfl (fun hc => (FW.f_pure (FW.p_gtr hk.kn hc rfl rfl))) fun a w hk => ?_
 refine FW.sAn hk fun a w hk => ?_
 refine FW.sM hk fun a w hk => ?_
 refine FW.lg (y := .lit (.string (FW.B v0))) hk rfl rfl rfl (fun hc => FW.f_move hk hc rfl) fun a w hk => ?_
 obtain ⟨hc2, h⟩ := FW.chk h
 refine FW.lg (y := .lit (.int .u8 (FW.bt v0 1))) hk rfl rfl rfl (fun hc => (FW.f_pure (FW.p_index Try.underlying9 hk.kn hc rfl rfl hc2))) fun a w hk => ?_
 refine FW.lg (y := .lit (.bool (decide ((FW.bt v0 1) = 39)))) hk rfl rfl rfl (fun hc => (FW.f_pure (FW.p_eql hk.kn hc rfl rfl))) fun a w hk => ?_
 refine FW.sAn hk fun a w hk => ?_
 refine FW.sA hk fun a w hk => ?_
 refine FW.lend (q4 _ _ ?_)
 refine FW.wcondF (b := (((decide ((FW.bt v0 0) = 102)) && (decide (1 < (List.length v0 : Int)))) && (decide ((FW.bt v0 1) = 39)))) hk h rfl (fun h hb => ?_) (fun h hb => ?_)
 ·skip
  refine FW.wreg fun _ q5 => ?_
  refine FW.sM hk fun a w hk => ?_
  obtain ⟨hc3, h⟩ := FW.chk h
  refine FW.lf (y := .lit (.string (FW.B (List.drop (Int.toNat 1) v0)))) hk ((FW.f_pure (FW.p_slice_lo Try.underlying9 hk.kn FW.h0 rfl rfl hc3))) fun a w hk => ?_
  obtain ⟨t1, hr_t1, h⟩ := FW.bnd h
  refine FW.lf (y := .tup [.lit (.string (FW.B t1.1)), .lit (.int .i64 t1.2)]) hk (FW.f_call hk FW.h0 rfl rfl Try.func71 rfl (by kernel_rfl) (r11_Quoted.ok K (List.drop (Int.toNat 1) v0) _ hr_t1)) fun a w hk => ?_
  refine FW.sM hk fun a w hk => ?_
  refine FW.lf (y := .lit (.string (FW.B t1.1))) hk (FW.f_extract hk FW.h0 rfl rfl) fun a w hk => ?_
  refine FW.lf (y := .lit (.int .i64 t1.2)) hk (FW.f_extract hk FW.h0 rfl rfl) fun a w hk => ?_
  refine FW.sA hk fun a w hk => ?_
  refine FW.sA hk fun a w hk => ?_
  refine FW.lend (q5 _ _ ?_)
  refine FW.wreg fun _ q6 => ?_
  refine FW.sA hk fun a w hk => ?_
  refine FW.lend (q6 _ _ ?_)
  refine FW.wreg fun _ q7 => ?_
  refine FW.sM hk fun a w hk => ?_
  refine FW.lf (y := .lit (.bool (decide (0 < t1.2)))) hk ((FW.f_pure (FW.p_gtr hk.kn FW.h0 rfl rfl))) fun a w hk => ?_
  refine FW.sM hk fun a w hk => ?_
  refine FW.lg (y := .lit (.string (FW.B t1.1))) hk rfl rfl rfl (fun hc => FW.f_move hk hc rfl) fun a w hk => ?_
  refine FW.lg (y := .lit (.int .i64 (List.length t1.1 : Int))) hk rfl rfl rfl (fun hc => (FW.f_pure (FW.p_slen Try.underlying9 hk.kn hc rfl))) fun a w hk => ?_
  refine FW.lg (y := .lit (.bool (decide ((List.length t1.1 : Int) = 16)))) hk rfl rfl rfl (fun hc => (FW.f_pure (FW.p_eql hk.kn hc rfl rfl))) fun a w hk => ?_
  refine FW.sAn hk fun a w hk => ?_
  refine FW.sA hk fun a w hk => ?_
  refine FW.lend (q7 _ _ ?_)
  refine FW.wseq fun _ q8 => ?_
  refine FW.wreg fun _ q9 => ?_
  refine FW.sA hk fun a w hk => ?_
  refine FW.lend (q9 _ _ ?_)
  refine wp_block ?_
  refine FW.wloop (T := Nat × List UInt8 × Int × Int × Bool × Int) (fun x a w => match x with | (kl1, v5, v6, v7, v8, v9) => FW.S M w0 a w 189 [FW.blk bx1 66 ((ApiWord.cells (⟨0, [], 0, 0, 0⟩ : ApiWord)))] [(2, [], .lit (.pointer (some ⟨bx1, 0, none⟩))), (5, [], .lit (.string (FW.B v5))), (6, [], .lit (.int .i64 v6)), (7, [], .lit (.int .u64 v7)), (8, [], .lit (.bool v8)), (9, [], .lit (.int .i64 v9))] ∧ r11_one.l1 K kl1 v5 v6 v7 v8 v9 = some r) (fun x => x.1) (K, t1.1, t1.2, 0, ((decide (0 < t1.2)) && (decide ((List.length t1.1 : Int) = 16))), 0) ⟨hk.sub ⟨rfl, rfl, rfl, rfl, rfl, rfl, trivial⟩, h⟩ ?_
  clear hk h
  rintro ⟨kl1, v5, v6, v7, v8, v9⟩ a w ⟨hk, h⟩ K' q10
  cases kl1 with
  | zero => simp [r11_one.l1] at h
  | succ kl1 =>
  rw [r11_one.l1.eq_2] at h
  refine FW.wseq fun _ q11 => ?_
  refine FW.wreg fun _ q12 => ?_
  refine FW.sM hk fun a w hk => ?_
  refine FW.sM hk fun a w hk => ?_
  refine FW.lf (y := .lit (.int .i64 (List.length v5 : Int))) hk ((FW.f_pure (FW.p_slen Try.underlying9 hk.kn FW.h0 rfl))) fun a w hk => ?_
  refine FW.sLt hk fun a w hk => ?_
  refine FW.sM hk fun a w hk => ?_
  refine FW.lg (y := .lit (.bool v8)) hk rfl rfl rfl (fun hc => FW.f_move hk hc rfl) fun a w hk => ?_
  refine FW.sAn hk fun a w hk => ?_
  refine FW.lend (q12 _ _ ?_)
  refine FW.wcondF (b := ((decide (v9 < (List.length v5 : Int))) && v8)) hk h rfl (fun h hb => ?_) (fun h hb => ?_)
  ·skip
   refine wp_skip ?_
   (repeat first | refine FW.tn ?_ | refine FW.bn ?_); refine q11 _ _ ?_
   refine FW.wseq fun _ q13 => ?_
   refine wp_block ?_
   refine FW.wreg fun _ q14 => ?_
   refine FW.sM hk fun a w hk => ?_
   refine FW.sM hk fun a w hk => ?_
   obtain ⟨hc4, h⟩ := FW.chk h
   refine FW.lf (y := .lit (.int .u8 (FW.bt v5 v9))) hk ((FW.f_pure (FW.p_index Try.underlying9 hk.kn FW.h0 rfl rfl hc4))) fun a w hk => ?_
   obtain ⟨t2, hr_t2, h⟩ := FW.bnd h
   refine FW.lf (y := .lit (.int .i64 t2)) hk (FW.f_call hk FW.h0 rfl rfl Try.func72 rfl (by kernel_rfl) (r11_digit.ok (FW.bt v5 v9) _ hr_t2)) fun a w hk => ?_
   refine FW.sLt hk fun a w hk => ?_
   refine FW.sA hk fun a w hk => ?_
   refine FW.lend (q14 _ _ ?_)
   refine FW.wreg1 ?_
   refine FW.sM hk fun a w hk => ?_
   refine FW.lf (y := .lit (.int .u64 (IntKind.wrap .u64 (v7 * 16)))) hk ((FW.f_pure (FW.p_mul hk.kn FW.h0 rfl rfl))) fun a w hk => ?_
   refine FW.sM hk fun a w hk => ?_
   refine FW.sM hk fun a w hk => ?_
   obtain ⟨hc5, h⟩ := FW.chk h
   refine FW.lf (y := .lit (.int .u8 (FW.bt v5 v9))) hk ((FW.f_pure (FW.p_index Try.underlying9 hk.kn FW.h0 rfl rfl hc5))) fun a w hk => ?_
   obtain ⟨t3, hr_t3, h⟩ := FW.bnd h
   refine FW.lf (y := .lit (.int .i64 t3)) hk (FW.f_call hk FW.h0 rfl rfl Try.func72 rfl (by kernel_rfl) (r11_digit.ok (FW.bt v5 v9) _ hr_t3)) fun a w hk => ?_
   refine FW.lf (y := .lit (.int .u64 (IntKind.wrap .u64 t3))) hk ((FW.f_pure (FW.p_conv Try.underlying3 Try.underlying77 hk.kn FW.h0 rfl))) fun a w hk => ?_
   refine FW.sAd hk fun a w hk => ?_
   refine FW.sA hk fun a w hk => ?_
   refine wpList_nil ?_
   (repeat first | refine FW.tn ?_ | refine FW.bn ?_); refine q13 _ _ ?_
   refine FW.wreg1 ?_
   refine FW.sM hk fun a w hk => ?_
   refine FW.sAd hk fun a w hk => ?_
   refine FW.sA hk fun a w hk => ?_
   refine wpList_nil ?_
   (repeat first | refine FW.tn ?_ | refine FW.bn ?_); exact q10 (kl1, v5, v6, (IntKind.wrap .u64 ((IntKind.wrap .u64 (v7 * 16)) + (IntKind.wrap .u64 t3))), (decide (t2 < 16)), (IntKind.wrap .i64 (v9 + 1))) _ _ (Nat.lt_succ_self _) ⟨hk.sub ⟨rfl, rfl, rfl, rfl, rfl, rfl, trivial⟩, h⟩
  refine wp_exit ?_; (repeat first | refine FW.then_exit ?_ | refine FW.block_exit_ne rfl ?_); refine FW.block_exit ?_
  (repeat first | refine FW.tn ?_ | refine FW.bn ?_); refine q8 _ _ ?_
  refine FW.wreg fun _ q17 => ?_
  refine FW.sM hk fun a w hk => ?_
  refine FW.lf (y := .lit (.float .f64 (Int.toNat v7))) hk (FW.f_frombits hk FW.h0 rfl rfl Try.func73 (by kernel_rfl) (by kernel_rfl) (by kernel_rfl) (by kernel_rfl)) fun a w hk => ?_
  refine FW.sA hk fun a w hk => ?_
  refine FW.lend (q17 _ _ ?_)
  refine FW.wseq fun _ q18 => ?_
  refine FW.wreg fun _ q19 => ?_
  refine FW.sM hk fun a w hk => ?_
  refine FW.lf (y := .lit (.bool (!v8))) hk ((FW.f_pure (FW.p_not hk.kn FW.h0 rfl))) fun a w hk => ?_
  refine FW.sM hk fun a w hk => ?_
  refine FW.lg (y := .lit (.float .f64 (Int.toNat v7))) hk rfl rfl rfl (fun hc => FW.f_move hk hc rfl) fun a w hk => ?_
  obtain ⟨t4, hr_t4, h⟩ := FW.bndG h
  refine FW.lg (y := .lit (.int .u64 t4)) hk rfl rfl rfl (fun hc => FW.f_call hk hc rfl rfl Try.func35 rfl (by kernel_rfl) (r01_Canon.ok (Int.toNat v7) _ (hr_t4 (FW.asm_out (p := (!v8) = false) hk.kn hc (fun e0 => e0))))) fun a w hk => ?_
  refine FW.lg (y := .lit (.int .u64 v7)) hk rfl rfl rfl (fun hc => FW.f_move hk hc rfl) fun a w hk => ?_
  refine FW.lg (y := .lit (.bool (!decide (t4 = v7)))) hk rfl rfl rfl (fun hc => (FW.f_pure (FW.p_neq hk.kn hc rfl rfl))) fun a w hk => ?_
  refine FW.sOr hk fun a w hk => ?_
  refine FW.lend (q19 _ _ ?_)
  refine FW.wcondF (b := ((!v8) || (!decide (t4 = v7)))) hk h rfl (fun h hb => ?_) (fun h hb => ?_)
  ·skip
   refine FW.wreg fun _ q20 => ?_
   refine FW.lf (y := .agg ((ApiWord.cells (⟨0, [], 0, 0, 0⟩ : ApiWord)))) hk (FW.f_build hk FW.h0 rfl rfl) fun a w hk => ?_
   refine FW.st0 (cs' := (ApiWord.cells (⟨0, [], 0, 0, 0⟩ : ApiWord))) hk rfl (by kernel_rfl) fun w hk => ?_
   refine FW.sA hk fun a w hk => ?_
   refine FW.lend (q20 _ _ ?_)
   refine wp_ret ?_
   (repeat first | refine FW.then_ret ?_ | refine FW.block_ret ?_)
   obtain rfl := Option.some.inj h
   exact FW.fretR2 hk rfl (FW.rcell hk rfl (j := 0) rfl Try.underlying66 rfl (by kernel_rfl)) (FW.rtmp hk rfl)
  refine wp_skip ?_
  (repeat first | refine FW.tn ?_ | refine FW.bn ?_); refine q18 _ _ ?_
  refine FW.wreg fun _ q21 => ?_
  refine FW.sM hk fun a w hk => ?_
  refine FW.lf (y := .agg ((ApiWord.cells (⟨3, [], 0, (Int.toNat v7), 0⟩ : ApiWord)))) hk (FW.f_build hk FW.h0 rfl rfl) fun a w hk => ?_
  refine FW.sM hk fun a w hk => ?_
  refine FW.sAd hk fun a w hk => ?_
  refine FW.st0 (cs' := (ApiWord.cells (⟨3, [], 0, (Int.toNat v7), 0⟩ : ApiWord))) hk rfl (by kernel_rfl) fun w hk => ?_
  refine FW.sA hk fun a w hk => ?_
  refine FW.lend (q21 _ _ ?_)
  refine wp_ret ?_
  (repeat first | refine FW.then_ret ?_ | refine FW.block_ret ?_)
  obtain rfl := Option.some.inj h
  exact FW.fretR2 hk rfl (FW.rcell hk rfl (j := 0) rfl Try.underlying66 rfl (by kernel_rfl)) (FW.rtmp hk rfl)
 refine FW.wreg fun _ q22 => ?_
 refine FW.sM hk fun a w hk => ?_
 refine FW.sEq hk fun a w hk => ?_
 refine FW.sA hk fun a w hk => ?_
 refine FW.lend (q22 _ _ ?_)
 refine FW.wcondF (b := (decide ((FW.bt v0 0) = 39))) hk h rfl (fun h hb => ?_) (fun h hb => ?_)
 ·skip
  refine FW.wreg fun _ q23 => ?_
  refine FW.sM hk fun a w hk => ?_
  obtain ⟨t5, hr_t5, h⟩ := FW.bnd h
  refine FW.lf (y := .tup [.lit (.string (FW.B t5.1)), .lit (.int .i64 t5.2)]) hk (FW.f_call hk FW.h0 rfl rfl Try.func71 rfl (by kernel_rfl) (r11_Quoted.ok K v0 _ hr_t5)) fun a w hk => ?_
  refine FW.sM hk fun a w hk => ?_
  refine FW.lf (y := .lit (.string (FW.B t5.1))) hk (FW.f_extract hk FW.h0 rfl rfl) fun a w hk => ?_
  refine FW.lf (y := .lit (.int .i64 t5.2)) hk (FW.f_extract hk FW.h0 rfl rfl) fun a w hk => ?_
  refine FW.sA hk fun a w hk => ?_
  refine FW.sA hk fun a w hk => ?_
  refine FW.lend (q23 _ _ ?_)
  refine FW.wseq fun _ q24 => ?_
  refine FW.wreg fun _ q25 => ?_
  refine FW.sM hk fun a w hk => ?_
  refine FW.lf (y := .lit (.int .i64 (List.length t5.1 : Int))) hk ((FW.f_pure (FW.p_slen Try.underlying9 hk.kn FW.h0 rfl))) fun a w hk => ?_
  refine FW.lf (y := .lit (.bool (decide (500 < (List.length t5.1 : Int))))) hk ((FW.f_pure (FW.p_gtr hk.kn FW.h0 rfl rfl))) fun a w hk => ?_
  refine FW.lend (q25 _ _ ?_)
  refine FW.wcondF (b := (decide (500 < (List.length t5.1 : Int)))) hk h rfl (fun h hb => ?_) (fun h hb => ?_)
  ·skip
   refine FW.wreg fun _ q26 => ?_
   refine FW.lf (y := .agg ((ApiWord.cells (⟨0, [], 0, 0, 0⟩ : ApiWord)))) hk (FW.f_build hk FW.h0 rfl rfl) fun a w hk => ?_
   refine FW.st0 (cs' := (ApiWord.cells (⟨0, [], 0, 0, 0⟩ : ApiWord))) hk rfl (by kernel_rfl) fun w hk => ?_
   refine FW.sA hk fun a w hk => ?_
   refine FW.lend (q26 _ _ ?_)
   refine wp_ret ?_
   (repeat first | refine FW.then_ret ?_ | refine FW.block_ret ?_)
   obtain rfl := Option.some.inj h
   exact FW.fretR2 hk rfl (FW.rcell hk rfl (j := 0) rfl Try.underlying66 rfl (by kernel_rfl)) (FW.rtmp hk rfl)
  refine wp_skip ?_
  (repeat first | refine FW.tn ?_ | refine FW.bn ?_); refine q24 _ _ ?_
  refine FW.wreg fun _ q27 => ?_
  refine FW.sM hk fun a w hk => ?_
  refine FW.lf (y := .agg ((ApiWord.cells (⟨4, t5.1, 0, 0, 0⟩ : ApiWord)))) hk (FW.f_build hk FW.h0 rfl rfl) fun a w hk => ?_
  refine FW.sM hk fun a w hk => ?_
  refine FW.st0 (cs' := (ApiWord.cells (⟨4, t5.1, 0, 0, 0⟩ : ApiWord))) hk rfl (by kernel_rfl) fun w hk => ?_
  refine FW.sA hk fun a w hk => ?_
  refine FW.lend (q27 _ _ ?_)
  refine wp_ret ?_
  (repeat first | refine FW.then_ret ?_ | refine FW.block_ret ?_)
  obtain rfl := Option.some.inj h
  exact FW.fretR2 hk rfl (FW.rcell hk rfl (j := 0) rfl Try.underlying66 rfl (by kernel_rfl)) (FW.rtmp hk rfl)
 refine FW.wreg fun _ q28 => ?_
 refine FW.sM hk fun a w hk => ?_
 refine FW.sEq hk fun a w hk => ?_
 refine FW.sM hk fun a w hk => ?_
 refine FW.lg (y := .lit (.int .u8 (FW.bt v0 0))) hk rfl rfl rfl (fun hc => FW.f_move hk hc rfl) fun a w hk => ?_
 refine FW.lg (y := .lit (.bool (decide (48 ≤ (FW.bt v0 0))))) hk rfl rfl rfl (fun hc => (FW.f_pure (FW.p_geq hk.kn hc rfl rfl))) fun a w hk => ?_
 refine FW.lg (y := .lit (.bool (decide (48 ≤ (FW.bt v0 0))))) hk rfl rfl rfl (fun hc => FW.f_move hk hc rfl) fun a w hk => ?_
 refine FW.lg (y := .lit (.int .u8 (FW.bt v0 0))) hk rfl rfl rfl (fun hc => FW.f_move hk hc rfl) fun a w hk => ?_
 refine FW.lg (y := .lit (.bool (decide ((FW.bt v0 0) ≤ 57)))) hk rfl rfl rfl (fun hc => (FW.f_pure (FW.p_leq hk.kn hc rfl rfl))) fun a w hk => ?_
 refine FW.lg (y := .lit (.bool ((decide (48 ≤ (FW.bt v0 0))) && (decide ((FW.bt v0 0) ≤ 57))))) hk rfl rfl rfl (fun hc => (FW.f_pure (FW.p_pick_and hk.kn hc rfl rfl))) fun a w hk => ?_
 refine FW.sOr hk fun a w hk => ?_
 refine FW.sA hk fun a w hk => ?_
 refine FW.lend (q28 _ _ ?_)
 refine FW.wcondF (b := ((decide ((FW.bt v0 0) = 45)) || ((decide (48 ≤ (FW.bt v0 0))) && (decide ((FW.bt v0 0) ≤ 57))))) hk h rfl (fun h hb => ?_) (fun h hb => ?_)
 ·skip
  refine FW.wreg fun _ q29 => ?_
  refine FW.sA hk fun a w hk => ?_
  refine FW.lend (q29 _ _ ?_)
  refine FW.wseq fun _ q30 => ?_
  refine wp_block ?_
  refine FW.wloop (T := Nat × List UInt8 × Int) (fun x a w => match x with | (kl2, v0, v13) => FW.S M w0 a w 189 [FW.blk bx1 66 ((ApiWord.cells (⟨0, [], 0, 0, 0⟩ : ApiWord)))] [(0, [], .lit (.string (FW.B v0))), (2, [], .lit (.pointer (some ⟨bx1, 0, none⟩))), (13, [], .lit (.int .i64 v13))] ∧ r11_one.l2 K kl2 v0 v13 = some r) (fun x => x.1) (K, v0, 1) ⟨hk.sub ⟨rfl, rfl, rfl, trivial⟩, h⟩ ?_
  clear hk h
  rintro ⟨kl2, v0, v13⟩ a w ⟨hk, h⟩ K' q31
  cases kl2 with
  | zero => simp [r11_one.l2] at h
  | succ kl2 =>
  rw [r11_one.l2.eq_2] at h
  refine FW.wseq fun _ q32 => ?_
  refine FW.wreg fun _ q33 => ?_
  refine FW.sM hk fun a w hk => ?_
  refine FW.sM hk fun a w hk => ?_
  refine FW.lf (y := .lit (.int .i64 (List.length v0 : Int))) hk ((FW.f_pure (FW.p_slen Try.underlying9 hk.kn FW.h0 rfl))) fun a w hk => ?_
  refine FW.sLt hk fun a w hk => ?_
  refine FW.sM hk fun a w hk => ?_
  refine FW.lg (y := .lit (.string (FW.B v0))) hk rfl rfl rfl (fun hc => FW.f_move hk hc rfl) fun a w hk => ?_
  refine FW.lg (y := .lit (.int .i64 v13)) hk rfl rfl rfl (fun hc => FW.f_move hk hc rfl) fun a w hk => ?_
  obtain ⟨hc6, h⟩ := FW.chk h
  refine FW.lg (y := .lit (.int .u8 (FW.bt v0 v13))) hk rfl rfl rfl (fun hc => (FW.f_pure (FW.p_index Try.underlying9 hk.kn hc rfl rfl hc6))) fun a w hk => ?_
  refine FW.lg (y := .lit (.bool (decide (48 ≤ (FW.bt v0 v13))))) hk rfl rfl rfl (fun hc => (FW.f_pure (FW.p_geq hk.kn hc rfl rfl))) fun a w hk => ?_
  refine FW.sAn hk fun a w hk => ?_
  refine FW.sM hk fun a w hk => ?_
  refine FW.lg (y := .lit (.string (FW.B v0))) hk rfl rfl rfl (fun hc => FW.f_move hk hc rfl) fun a w hk => ?_
  refine FW.lg (y := .lit (.int .i64 v13)) hk rfl rfl rfl (fun hc => FW.f_move hk hc rfl) fun a w hk => ?_
  obtain ⟨hc7, h⟩ := FW.chk h
  refine FW.lg (y := .lit (.int .u8 (FW.bt v0 v13))) hk rfl rfl rfl (fun hc => (FW.f_pure (FW.p_index Try.underlying9 hk.kn hc rfl rfl hc7))) fun a w hk => ?_
  refine FW.lg (y := .lit (.bool (decide ((FW.bt v0 v13) ≤ 57)))) hk rfl rfl rfl (fun hc => (FW.f_pure (FW.p_leq hk.kn hc rfl rfl))) fun a w hk => ?_
  refine FW.sAn hk fun a w hk => ?_
  refine FW.lend (q33 _ _ ?_)
  refine FW.wcondF (b := (((decide (v13 < (List.length v0 : Int))) && (decide (48 ≤ (FW.bt v0 v13)))) && (decide ((FW.bt v0 v13) ≤ 57)))) hk h rfl (fun h hb => ?_) (fun h hb => ?_)
  ·skip
   refine wp_skip ?_
   (repeat first | refine FW.tn ?_ | refine FW.bn ?_); refine q32 _ _ ?_
   refine wp_block ?_
   refine FW.wreg1 ?_
   refine FW.sM hk fun a w hk => ?_
   refine FW.sAd hk fun a w hk => ?_
   refine FW.sA hk fun a w hk => ?_
   refine wpList_nil ?_
   (repeat first | refine FW.tn ?_ | refine FW.bn ?_); exact q31 (kl2, v0, (IntKind.wrap .i64 (v13 + 1))) _ _ (Nat.lt_succ_self _) ⟨hk.sub ⟨rfl, rfl, rfl, trivial⟩, h⟩
  refine wp_exit ?_; (repeat first | refine FW.then_exit ?_ | refine FW.block_exit_ne rfl ?_); refine FW.block_exit ?_
  (repeat first | refine FW.tn ?_ | refine FW.bn ?_); refine q30 _ _ ?_
  refine FW.wreg fun _ q35 => ?_
  refine FW.sM hk fun a w hk => ?_
  refine FW.sM hk fun a w hk => ?_
  obtain ⟨hc8, h⟩ := FW.chk h
  refine FW.lf (y := .lit (.string (FW.B (List.take (Int.toNat v13) v0)))) hk ((FW.f_pure (FW.p_slice_hi Try.underlying9 hk.kn FW.h0 rfl rfl hc8))) fun a w hk => ?_
  obtain ⟨t6, hr_t6, h⟩ := FW.bnd h
  refine FW.lf (y := .tup [.lit (.int .i64 t6.1), .lit (.bool t6.2)]) hk (FW.f_call hk FW.h0 rfl rfl Try.func74 rfl (by kernel_rfl) (r11_Int.ok K (List.take (Int.toNat v13) v0) _ hr_t6)) fun a w hk => ?_
  refine FW.sM hk fun a w hk => ?_
  refine FW.lf (y := .lit (.int .i64 t6.1)) hk (FW.f_extract hk FW.h0 rfl rfl) fun a w hk => ?_
  refine FW.lf (y := .lit (.bool t6.2)) hk (FW.f_extract hk FW.h0 rfl rfl) fun a w hk => ?_
  refine FW.sA hk fun a w hk => ?_
  refine FW.sA hk fun a w hk => ?_
  refine FW.lend (q35 _ _ ?_)
  refine FW.wseq fun _ q36 => ?_
  refine FW.wreg fun _ q37 => ?_
  refine FW.sM hk fun a w hk => ?_
  refine FW.lf (y := .lit (.bool (!t6.2))) hk ((FW.f_pure (FW.p_not hk.kn FW.h0 rfl))) fun a w hk => ?_
  refine FW.lend (q37 _ _ ?_)
  refine FW.wcondF (b := (!t6.2)) hk h rfl (fun h hb => ?_) (fun h hb => ?_)
  ·skip
   refine FW.wreg fun _ q38 => ?_
   refine FW.lf (y := .agg ((ApiWord.cells (⟨0, [], 0, 0, 0⟩ : ApiWord)))) hk (FW.f_build hk FW.h0 rfl rfl) fun a w hk => ?_
   refine FW.st0 (cs' := (ApiWord.cells (⟨0, [], 0, 0, 0⟩ : ApiWord))) hk rfl (by kernel_rfl) fun w hk => ?_
   refine FW.sA hk fun a w hk => ?_
   refine FW.lend (q38 _ _ ?_)
   refine wp_ret ?_
   (repeat first | refine FW.then_ret ?_ | refine FW.block_ret ?_)
   obtain rfl := Option.some.inj h
   exact FW.fretR2 hk rfl (FW.rcell hk rfl (j := 0) rfl Try.underlying66 rfl (by kernel_rfl)) (FW.rtmp hk rfl)
  refine wp_skip ?_
  (repeat first | refine FW.tn ?_ | refine FW.bn ?_); refine q36 _ _ ?_
  refine FW.wreg fun _ q39 => ?_
  refine FW.sM hk fun a w hk => ?_
  refine FW.lf (y := .agg ((ApiWord.cells (⟨2, [], t6.1, 0, 0⟩ : ApiWord)))) hk (FW.f_build hk FW.h0 rfl rfl) fun a w hk => ?_
  refine FW.sM hk fun a w hk => ?_
  refine FW.st0 (cs' := (ApiWord.cells (⟨2, [], t6.1, 0, 0⟩ : ApiWord))) hk rfl (by kernel_rfl) fun w hk => ?_
  refine FW.sA hk fun a w hk => ?_
  refine FW.lend (q39 _ _ ?_)
  refine wp_ret ?_
  (repeat first | refine FW.then_ret ?_ | refine FW.block_ret ?_)
  obtain rfl := Option.some.inj h
  exact FW.fretR2 hk rfl (FW.rcell hk rfl (j := 0) rfl Try.underlying66 rfl (by kernel_rfl)) (FW.rtmp hk rfl)
 refine FW.wreg fun _ q40 => ?_
 refine FW.sM hk fun a w hk => ?_
 obtain ⟨t7, hr_t7, h⟩ := FW.bnd h
 refine FW.lf (y := .lit (.bool t7)) hk (FW.f_call hk FW.h0 rfl rfl Try.func75 rfl (by kernel_rfl) (r11_letter.ok (FW.bt v0 0) _ hr_t7)) fun a w hk => ?_
 refine FW.sA hk fun a w hk => ?_
 refine FW.lend (q40 _ _ ?_)
 refine FW.wcondF (b := t7) hk h rfl (fun h hb => ?_) (fun h hb => ?_)
 ·skip
  refine FW.wreg fun _ q41 => ?_
  refine FW.sA hk fun a w hk => ?_
  refine FW.lend (q41 _ _ ?_)
  refine FW.wseq fun _ q42 => ?_
  refine wp_block ?_
  refine FW.wloop (T := Nat × List UInt8 × Int) (fun x a w => match x with | (kl3, v0, v16) => FW.S M w0 a w 189 [FW.blk bx1 66 ((ApiWord.cells (⟨0, [], 0, 0, 0⟩ : ApiWord)))] [(0, [], .lit (.string (FW.B v0))), (2, [], .lit (.pointer (some ⟨bx1, 0, none⟩))), (16, [], .lit (.int .i64 v16))] ∧ r11_one.l3 K kl3 v0 v16 = some r) (fun x => x.1) (K, v0, 1) ⟨hk.sub ⟨rfl, rfl, rfl, trivial⟩, h⟩ ?_
  clear hk h
  rintro ⟨kl3, v0, v16⟩ a w ⟨hk, h⟩ K' q43
  cases kl3 with
  | zero => simp [r11_one.l3] at h
  | succ kl3 =>
  rw [r11_one.l3.eq_2] at h
  refine FW.wseq fun _ q44 => ?_
  refine FW.wreg fun _ q45 => ?_
  refine FW.sM hk fun a w hk => ?_
  refine FW.sM hk fun a w hk => ?_
  refine FW.lf (y := .lit (.int .i64 (List.length v0 : Int))) hk ((FW.f_pure (FW.p_slen Try.underlying9 hk.kn FW.h0 rfl))) fun a w hk => ?_
  refine FW.sLt hk fun a w hk => ?_
  refine FW.sM hk fun a w hk => ?_
  refine FW.lg (y := .lit (.string (FW.B v0))) hk rfl rfl rfl (fun hc => FW.f_move hk hc rfl) fun a w hk => ?_
  refine FW.lg (y := .lit (.int .i64 v16)) hk rfl rfl rfl (fun hc => FW.f_move hk hc rfl) fun a w hk => ?_
  obtain ⟨hc9, h⟩ := FW.chk h
  refine FW.lg (y := .lit (.int .u8 (FW.bt v0 v16))) hk rfl rfl rfl (fun hc => (FW.f_pure (FW.p_index Try.underlying9 hk.kn hc rfl rfl hc9))) fun a w hk => ?_
  obtain ⟨t8, hr_t8, h⟩ := FW.bndG h
  refine FW.lg (y := .lit (.bool t8)) hk rfl rfl rfl (fun hc => FW.f_call hk hc rfl rfl Try.func75 rfl (by kernel_rfl) (r11_letter.ok (FW.bt v0 v16) _ (hr_t8 (FW.asm_out (p := (decide (v16 < (List.length v0 : Int))) = true) hk.kn hc (fun e0 => e0))))) fun a w hk => ?_
  refine FW.sAn hk fun a w hk => ?_
  refine FW.lend (q45 _ _ ?_)
  refine FW.wcondF (b := ((decide (v16 < (List.length v0 : Int))) && t8)) hk h rfl (fun h hb => ?_) (fun h hb => ?_)
  ·skip
   refine wp_skip ?_
   (repeat first | refine FW.tn ?_ | refine FW.bn ?_); refine q44 _ _ ?_
   refine wp_block ?_
   refine FW.wreg1 ?_
   refine FW.sM hk fun a w hk => ?_
   refine FW.sAd hk fun a w hk => ?_
   refine FW.sA hk fun a w hk => ?_
   refine wpList_nil ?_
   (repeat first | refine FW.tn ?_ | refine FW.bn ?_); exact q43 (kl3, v0, (IntKind.wrap .i64 (v16 + 1))) _ _ (Nat.lt_succ_self _) ⟨hk.sub ⟨rfl, rfl, rfl, trivial⟩, h⟩
  refine wp_exit ?_; (repeat first | refine FW.then_exit ?_ | refine FW.block_exit_ne rfl ?_); refine FW.block_exit ?_
  (repeat first | refine FW.tn ?_ | refine FW.bn ?_); refine q42 _ _ ?_
  refine FW.wseq fun _ q47 => ?_
  refine FW.wreg fun _ q48 => ?_
  refine FW.sM hk fun a w hk => ?_
  refine FW.lf (y := .lit (.bool (decide (16 < v16)))) hk ((FW.f_pure (FW.p_gtr hk.kn FW.h0 rfl rfl))) fun a w hk => ?_
  refine FW.lend (q48 _ _ ?_)
  refine FW.wcondF (b := (decide (16 < v16))) hk h rfl (fun h hb => ?_) (fun h hb => ?_)
  ·skip
   refine FW.wreg fun _ q49 => ?_
   refine FW.lf (y := .agg ((ApiWord.cells (⟨0, [], 0, 0, 0⟩ : ApiWord)))) hk (FW.f_build hk FW.h0 rfl rfl) fun a w hk => ?_
   refine FW.st0 (cs' := (ApiWord.cells (⟨0, [], 0, 0, 0⟩ : ApiWord))) hk rfl (by kernel_rfl) fun w hk => ?_
   refine FW.sA hk fun a w hk => ?_
   refine FW.lend (q49 _ _ ?_)
   refine wp_ret ?_
   (repeat first | refine FW.then_ret ?_ | refine FW.block_ret ?_)
   obtain rfl := Option.some.inj h
   exact FW.fretR2 hk rfl (FW.rcell hk rfl (j := 0) rfl Try.underlying66 rfl (by kernel_rfl)) (FW.rtmp hk rfl)
  refine wp_skip ?_
  (repeat first | refine FW.tn ?_ | refine FW.bn ?_); refine q47 _ _ ?_
  refine FW.wreg fun _ q50 => ?_
  refine FW.sM hk fun a w hk => ?_
  refine FW.sM hk fun a w hk => ?_
  obtain ⟨hc10, h⟩ := FW.chk h
  refine FW.lf (y := .lit (.string (FW.B (List.take (Int.toNat v16) v0)))) hk ((FW.f_pure (FW.p_slice_hi Try.underlying9 hk.kn FW.h0 rfl rfl hc10))) fun a w hk => ?_
  refine FW.lf (y := .agg ((ApiWord.cells (⟨1, (List.take (Int.toNat v16) v0), 0, 0, 0⟩ : ApiWord)))) hk (FW.f_build hk FW.h0 rfl rfl) fun a w hk => ?_
  refine FW.sM hk fun a w hk => ?_
  refine FW.st0 (cs' := (ApiWord.cells (⟨1, (List.take (Int.toNat v16) v0), 0, 0, 0⟩ : ApiWord))) hk rfl (by kernel_rfl) fun w hk => ?_
  refine FW.sA hk fun a w hk => ?_
  refine FW.lend (q50 _ _ ?_)
  refine wp_ret ?_
  (repeat first | refine FW.then_ret ?_ | refine FW.block_ret ?_)
  obtain rfl := Option.some.inj h
  exact FW.fretR2 hk rfl (FW.rcell hk rfl (j := 0) rfl Try.underlying66 rfl (by kernel_rfl)) (FW.rtmp hk rfl)
 refine FW.wreg fun _ q51 => ?_
 refine FW.sM hk fun a w hk => ?_
 refine FW.sEq hk fun a w hk => ?_
 refine FW.sM hk fun a w hk => ?_
 refine FW.lg (y := .lit (.int .u8 (FW.bt v0 0))) hk rfl rfl rfl (fun hc => FW.f_move hk hc rfl) fun a w hk => ?_
 refine FW.lg (y := .lit (.bool (decide ((FW.bt v0 0) = 40)))) hk rfl rfl rfl (fun hc => (FW.f_pure (FW.p_eql hk.kn hc rfl rfl))) fun a w hk => ?_
 refine FW.sOr hk fun a w hk => ?_
 refine FW.sM hk fun a w hk => ?_
 refine FW.lg (y := .lit (.int .u8 (FW.bt v0 0))) hk rfl rfl rfl (fun hc => FW.f_move hk hc rfl) fun a w hk => ?_
 refine FW.lg (y := .lit (.bool (decide ((FW.bt v0 0) = 41)))) hk rfl rfl rfl (fun hc => (FW.f_pure (FW.p_eql hk.kn hc rfl rfl))) fun a w hk => ?_
 refine FW.sOr hk fun a w hk => ?_
 refine FW.sM hk fun a w hk => ?_
 refine FW.lg (y := .lit (.int .u8 (FW.bt v0 0))) hk rfl rfl rfl (fun hc => FW.f_move hk hc rfl) fun a w hk => ?_
 refine FW.lg (y := .lit (.bool (decide ((FW.bt v0 0) = 44)))) hk rfl rfl rfl (fun hc => (FW.f_pure (FW.p_eql hk.kn hc rfl rfl))) fun a w hk => ?_
 refine FW.sOr hk fun a w hk => ?_
 refine FW.sM hk fun a w hk => ?_
 refine FW.lg (y := .lit (.int .u8 (FW.bt v0 0))) hk rfl rfl rfl (fun hc => FW.f_move hk hc rfl) fun a w hk => ?_
 refine FW.lg (y := .lit (.bool (decide ((FW.bt v0 0) = 91)))) hk rfl rfl rfl (fun hc => (FW.f_pure (FW.p_eql hk.kn hc rfl rfl))) fun a w hk => ?_
 refine FW.sOr hk fun a w hk => ?_
 refine FW.sM hk fun a w hk => ?_
 refine FW.lg (y := .lit (.int .u8 (FW.bt v0 0))) hk rfl rfl rfl (fun hc => FW.f_move hk hc rfl) fun a w hk => ?_
 refine FW.lg (y := .lit (.bool (decide ((FW.bt v0 0) = 93)))) hk rfl rfl rfl (fun hc => (FW.f_pure (FW.p_eql hk.kn hc rfl rfl))) fun a w hk => ?_
 refine FW.sOr hk fun a w hk => ?_
 refine FW.sA hk fun a w hk => ?_
 refine FW.lend (q51 _ _ ?_)
 refine FW.wcondF (b := ((((((decide ((FW.bt v0 0) = 46)) || (decide ((FW.bt v0 0) = 40))) || (decide ((FW.bt v0 0) = 41))) || (decide ((FW.bt v0 0) = 44))) || (decide ((FW.bt v0 0) = 91))) || (decide ((FW.bt v0 0) = 93)))) hk h rfl (fun h hb => ?_) (fun h hb => ?_)
 ·skip
  refine FW.wreg fun _ q52 => ?_
  refine FW.sM hk fun a w hk => ?_
  obtain ⟨hc11, h⟩ := FW.chk h
  refine FW.lf (y := .lit (.string (FW.B (List.take (Int.toNat 1) v0)))) hk ((FW.f_pure (FW.p_slice_hi Try.underlying9 hk.kn FW.h0 rfl rfl hc11))) fun a w hk => ?_
  refine FW.lf (y := .agg ((ApiWord.cells (⟨5, (List.take (Int.toNat 1) v0), 0, 0, 0⟩ : ApiWord)))) hk (FW.f_build hk FW.h0 rfl rfl) fun a w hk => ?_
  refine FW.st0 (cs' := (ApiWord.cells (⟨5, (List.take (Int.toNat 1) v0), 0, 0, 0⟩ : ApiWord))) hk rfl (by kernel_rfl) fun w hk => ?_
  refine FW.sA hk fun a w hk => ?_
  refine FW.lend (q52 _ _ ?_)
  refine wp_ret ?_
  (repeat first | refine FW.then_ret ?_ | refine FW.block_ret ?_)
  obtain rfl := Option.some.inj h
  exact FW.fretR2 hk rfl (FW.rcell hk rfl (j := 0) rfl Try.underlying66 rfl (by kernel_rfl)) (FW.rtmp hk rfl)
 refine wp_skip ?_
 (repeat first | refine FW.tn ?_ | refine FW.bn ?_); refine q3 _ _ ?_
 refine FW.wreg fun _ q53 => ?_
 refine FW.lf (y := .agg ((ApiWord.cells (⟨0, [], 0, 0, 0⟩ : ApiWord)))) hk (FW.f_build hk FW.h0 rfl rfl) fun a w hk => ?_
 refine FW.st0 (cs' := (ApiWord.cells (⟨0, [], 0, 0, 0⟩ : ApiWord))) hk rfl (by kernel_rfl) fun w hk => ?_
 refine FW.sA hk fun a w hk => ?_
 refine FW.lend (q53 _ _ ?_)
 refine wp_ret ?_
 (repeat first | refine FW.then_ret ?_ | refine FW.block_ret ?_)
 obtain rfl := Option.some.inj h
 exact FW.fretR2 hk rfl (FW.rcell hk rfl (j := 0) rfl Try.underlying66 rfl (by kernel_rfl)) (FW.rtmp hk rfl)
end Go.Proofs.Ytbjbgodcenopnaa

/- Written by a program of this session (gen.py): the contracts of functions of the program. -/
import Derived.Test.YtbjbgodcenopnaaCbP0
namespace Go.Proofs.Ytbjbgodcenopnaa
set_option linter.unusedVariables false
set_option maxRecDepth 20000
set_option maxHeartbeats 10000000
theorem r11_Int.ok (K : Nat) (v0 : List UInt8) (r : Int × Bool) (h : r11_Int.f K v0 = some r) :
  FW.Ok Try.prog 74 [.lit (.string (FW.B v0))] (.tup [.lit (.int .i64 r.1), .lit (.bool r.2)]) := by
 refine FW.enter (xs := [.lit (.string (FW.B v0))]) Try.func74 rfl Try.ntmps74 rfl ?_
 intro M w0 a hk
 unfold r11_Int.f at h
 refine FW.wreg fun _ q1 => ?_
 refine FW.sA hk fun a w hk => ?_
 refine FW.sA hk fun a w hk => ?_
 refine FW.lend (q1 _ _ ?_)
 refine FW.wreg fun _ q2 => ?_
 refine FW.sM hk fun a w hk => ?_
 refine FW.lf (y := .lit (.bool (!decide (v0 = ([] : List UInt8))))) hk ((FW.f_pure (FW.p_sneq hk.kn FW.h0 rfl rfl))) fun a w hk => ?_
 refine FW.sM hk fun a w hk => ?_
 refine FW.lg (y := .lit (.string (FW.B v0))) hk rfl rfl rfl (fun hc => FW.f_move hk hc rfl) fun a w hk => ?_
 obtain ⟨hc1, h⟩ := FW.chk h
 refine FW.lg (y := .lit (.int .u8 (FW.bt v0 0))) hk rfl rfl rfl (fun hc => (FW.f_pure (FW.p_index Try.underlying9 hk.kn hc rfl rfl hc1))) fun a w hk => ?_
 refine FW.lg (y := .lit (.bool (decide ((FW.bt v0 0) = 45)))) hk rfl rfl rfl (fun hc => (FW.f_pure (FW.p_eql hk.kn hc rfl rfl))) fun a w hk => ?_
 refine FW.sAn hk fun a w hk => ?_
 refine FW.sA hk fun a w hk => ?_
 refine FW.lend (q2 _ _ ?_)
 refine FW.wreg fun _ q3 => ?_
 refine FW.sM hk fun a w hk => ?_
 refine FW.sA hk fun a w hk => ?_
 refine FW.lend (q3 _ _ ?_)
 refine FW.wseqJ (fun a w => ∃ (v4 : Bool) (v5 : List UInt8), FW.S M w0 a w 79 [] [(4, [], .lit (.bool v4)), (5, [], .lit (.string (FW.B v5)))] ∧ r11_Int.j1 K v4 v5 = some r) ?_ ?_
 ·clear hk h
  rintro a w ⟨v4, v5, hk, h⟩
  unfold r11_Int.j1 at h
  refine FW.wseq fun _ q5 => ?_
  refine FW.wreg fun _ q6 => ?_
  refine FW.sM hk fun a w hk => ?_
  refine FW.sSe hk fun a w hk => ?_
  refine FW.sM hk fun a w hk => ?_
  refine FW.lg (y := .lit (.string (FW.B v5))) hk rfl rfl rfl (fun hc => FW.f_move hk hc rfl) fun a w hk => ?_
  refine FW.lg (y := .lit (.int .i64 (List.length v5 : Int))) hk rfl rfl rfl (fun hc => (FW.f_pure (FW.p_slen Try.underlying9 hk.kn hc rfl))) fun a w hk => ?_
  refine FW.lg (y := .lit (.bool (decide (19 < (List.length v5 : Int))))) hk rfl rfl rfl (fun hc => (FW.f_pure (FW.p_gtr hk.kn hc rfl rfl))) fun a w hk => ?_
  refine FW.sOr hk fun a w hk => ?_
  refine FW.sM hk fun a w hk => ?_
  refine FW.lg (y := .lit (.string (FW.B v5))) hk rfl rfl rfl (fun hc => FW.f_move hk hc rfl) fun a w hk => ?_
  obtain ⟨hc2, h⟩ := FW.chk h
  refine FW.lg (y := .lit (.int .u8 (FW.bt v5 0))) hk rfl rfl rfl (fun hc => (FW.f_pure (FW.p_index Try.underlying9 hk.kn hc rfl rfl hc2))) fun a w hk => ?_
  refine FW.lg (y := .lit (.bool (decide ((FW.bt v5 0) = 48)))) hk rfl rfl rfl (fun hc => (FW.f_pure (FW.p_eql hk.kn hc rfl rfl))) fun a w hk => ?_
  refine FW.lg (y := .lit (.bool (decide ((FW.bt v5 0) = 48)))) hk rfl rfl rfl (fun hc => FW.f_move hk hc rfl) fun a w hk => ?_
  refine FW.lg (y := .lit (.string (FW.B v5))) hk rfl rfl rfl (fun hc => FW.f_move hk hc rfl) fun a w hk => ?_
  refine FW.lg (y := .lit (.int .i64 (List.length v5 : Int))) hk rfl rfl rfl (fun hc => (FW.f_pure (FW.p_slen Try.underlying9 hk.kn hc rfl))) fun a w hk => ?_
  refine FW.lg (y := .lit (.bool (decide (1 < (List.length v5 : Int))))) hk rfl rfl rfl (fun hc => (FW.f_pure (FW.p_gtr hk.kn hc rfl rfl))) fun a w hk => ?_
  refine FW.lg (y := .lit (.bool (decide (1 < (List.length v5 : Int))))) hk rfl rfl rfl (fun hc => FW.f_move hk hc rfl) fun a w hk => ?_
  refine FW.lg (y := .lit (.bool v4)) hk rfl rfl rfl (fun hc => FW.f_move hk hc rfl) fun a w hk => ?_
  refine FW.lg (y := .lit (.bool ((decide (1 < (List.length v5 : Int))) || v4))) hk rfl rfl rfl (fun hc => (FW.f_pure (FW.p_pick_or hk.kn hc rfl rfl))) fun a w hk => ?_
  refine FW.lg (y := .lit (.bool ((decide ((FW.bt v5 0) = 48)) && ((decide (1 < (List.length v5 : Int))) || v4)))) hk rfl rfl rfl (fun hc => (FW.f_pure (FW.p_pick_and hk.kn hc rfl rfl))) fun a w hk => ?_
  refine FW.sOr hk fun a w hk => ?_
  refine FW.lend (q6 _ _ ?_)
  refine FW.wcondF (b := (((decide (v5 = ([] : List UInt8))) || (decide (19 < (List.length v5 : Int)))) || ((decide ((FW.bt v5 0) = 48)) && ((decide (1 < (List.length v5 : Int))) || v4)))) hk h rfl (fun h hb => ?_) (fun h hb => ?_)
  ·skip
   refine FW.wreg fun _ q7 => ?_
   refine FW.sA hk fun a w hk => ?_
   refine FW.sA hk fun a w hk => ?_
   refine FW.lend (q7 _ _ ?_)
   refine wp_ret ?_
   (repeat first | refine FW.then_ret ?_ | refine FW.block_ret ?_)
   obtain rfl := Option.some.inj h
   exact FW.fret2 hk rfl rfl rfl
  refine wp_skip ?_
  (repeat first | refine FW.tn ?_ | refine FW.bn ?_); refine q5 _ _ ?_
  refine FW.wreg fun _ q8 => ?_
  refine FW.sA hk fun a w hk => ?_
  refine FW.lend (q8 _ _ ?_)
  refine FW.wseq fun _ q9 => ?_
  refine FW.wreg fun _ q10 => ?_
  refine FW.sA hk fun a w hk => ?_
  refine FW.lend (q10 _ _ ?_)
  refine wp_block ?_
  refine FW.wloop (T := Nat × Bool × List UInt8 × Int × Int) (fun x a w => match x with | (kl1, v4, v5, v6, v7) => FW.S M w0 a w 79 [] [(4, [], .lit (.bool v4)), (5, [], .lit (.string (FW.B v5))), (6, [], .lit (.int .u64 v6)), (7, [], .lit (.int .i64 v7))] ∧ r11_Int.l1 K kl1 v4 v5 v6 v7 = some r) (fun x => x.1) (K, v4, v5, 0, 0) ⟨hk.sub ⟨rfl, rfl, rfl, rfl, trivial⟩, h⟩ ?_
  clear hk h
  rintro ⟨kl1, v4, v5, v6, v7⟩ a w ⟨hk, h⟩ K' q11
  cases kl1 with
  | zero => simp [r11_Int.l1] at h
  | succ kl1 =>
  rw [r11_Int.l1.eq_2] at h
  refine FW.wseq fun _ q12 => ?_
  refine FW.wreg fun _ q13 => ?_
  refine FW.sM hk fun a w hk => ?_
  refine FW.sM hk fun a w hk => ?_
  refine FW.lf (y := .lit (.int .i64 (List.length v5 : Int))) hk ((FW.f_pure (FW.p_slen Try.underlying9 hk.kn FW.h0 rfl))) fun a w hk => ?_
  refine FW.sLt hk fun a w hk => ?_
  refine FW.lend (q13 _ _ ?_)
  refine FW.wcondF (b := (decide (v7 < (List.length v5 : Int)))) hk h rfl (fun h hb => ?_) (fun h hb => ?_)
  ·skip
   refine wp_skip ?_
   (repeat first | refine FW.tn ?_ | refine FW.bn ?_); refine q12 _ _ ?_
   refine FW.wseq fun _ q14 => ?_
   refine wp_block ?_
   refine FW.wseq fun _ q15 => ?_
   refine FW.wreg fun _ q16 => ?_
   refine FW.sM hk fun a w hk => ?_
   refine FW.sM hk fun a w hk => ?_
   obtain ⟨hc3, h⟩ := FW.chk h
   refine FW.lf (y := .lit (.int .u8 (FW.bt v5 v7))) hk ((FW.f_pure (FW.p_index Try.underlying9 hk.kn FW.h0 rfl rfl hc3))) fun a w hk => ?_
   refine FW.sLt hk fun a w hk => ?_
   refine FW.sM hk fun a w hk => ?_
   refine FW.lg (y := .lit (.string (FW.B v5))) hk rfl rfl rfl (fun hc => FW.f_move hk hc rfl) fun a w hk => ?_
   refine FW.lg (y := .lit (.int .i64 v7)) hk rfl rfl rfl (fun hc => FW.f_move hk hc rfl) fun a w hk => ?_
   obtain ⟨hc4, h⟩ := FW.chk h
   refine FW.lg (y := .lit (.int .u8 (FW.bt v5 v7))) hk rfl rfl rfl (fun hc => (FW.f_pure (FW.p_index Try.underlying9 hk.kn hc rfl rfl hc4))) fun a w hk => ?_
   refine FW.lg (y := .lit (.bool (decide (57 < (FW.bt v5 v7))))) hk rfl rfl rfl (fun hc => (FW.f_pure (FW.p_gtr hk.kn hc rfl rfl))) fun a w hk => ?_
   refine FW.sOr hk fun a w hk => ?_
   refine FW.lend (q16 _ _ ?_)
   refine FW.wcondF (b := ((decide ((FW.bt v5 v7) < 48)) || (decide (57 < (FW.bt v5 v7))))) hk h rfl (fun h hb => ?_) (fun h hb => ?_)
   ·skip
    refine FW.wreg fun _ q17 => ?_
    refine FW.sA hk fun a w hk => ?_
    refine FW.sA hk fun a w hk => ?_
    refine FW.lend (q17 _ _ ?_)
    refine wp_ret ?_
    (repeat first | refine FW.then_ret ?_ | refine FW.block_ret ?_)
    obtain rfl := Option.some.inj h
    exact FW.fret2 hk rfl rfl rfl
   refine wp_skip ?_
   (repeat first | refine FW.tn ?_ | refine FW.bn ?_); refine q15 _ _ ?_
   refine FW.wreg1 ?_
   refine FW.sM hk fun a w hk => ?_
   refine FW.lf (y := .lit (.int .u64 (IntKind.wrap .u64 (v6 * 10)))) hk ((FW.f_pure (FW.p_mul hk.kn FW.h0 rfl rfl))) fun a w hk => ?_
   refine FW.sM hk fun a w hk => ?_
   refine FW.sM hk fun a w hk => ?_
   obtain ⟨hc5, h⟩ := FW.chk h
   refine FW.lf (y := .lit (.int .u8 (FW.bt v5 v7))) hk ((FW.f_pure (FW.p_index Try.underlying9 hk.kn FW.h0 rfl rfl hc5))) fun a w hk => ?_
   refine FW.lf (y := .lit (.int .u64 (IntKind.wrap .u64 (FW.bt v5 v7)))) hk ((FW.f_pure (FW.p_conv Try.underlying5 Try.underlying77 hk.kn FW.h0 rfl))) fun a w hk => ?_
   refine FW.sAd hk fun a w hk => ?_
   refine FW.lf (y := .lit (.int .u64 (IntKind.wrap .u64 ((IntKind.wrap .u64 ((IntKind.wrap .u64 (v6 * 10)) + (IntKind.wrap .u64 (FW.bt v5 v7)))) - 48)))) hk ((FW.f_pure (FW.p_sub hk.kn FW.h0 rfl rfl))) fun a w hk => ?_
   refine FW.sA hk fun a w hk => ?_
   refine wpList_nil ?_
   (repeat first | refine FW.tn ?_ | refine FW.bn ?_); refine q14 _ _ ?_
   refine FW.wreg1 ?_
   refine FW.sM hk fun a w hk => ?_
   refine FW.sAd hk fun a w hk => ?_
   refine FW.sA hk fun a w hk => ?_
   refine wpList_nil ?_
   (repeat first | refine FW.tn ?_ | refine FW.bn ?_); exact q11 (kl1, v4, v5, (IntKind.wrap .u64 ((IntKind.wrap .u64 ((IntKind.wrap .u64 (v6 * 10)) + (IntKind.wrap .u64 (FW.bt v5 v7)))) - 48)), (IntKind.wrap .i64 (v7 + 1))) _ _ (Nat.lt_succ_self _) ⟨hk.sub ⟨rfl, rfl, rfl, rfl, trivial⟩, h⟩
  refine wp_exit ?_; (repeat first | refine FW.then_exit ?_ | refine FW.block_exit_ne rfl ?_); refine FW.block_exit ?_
  (repeat first | refine FW.tn ?_ | refine FW.bn ?_); refine q9 _ _ ?_
  refine FW.wseq fun _ q20 => ?_
  refine FW.wreg fun _ q21 => ?_
  refine FW.sM hk fun a w hk => ?_
  refine FW.sM hk fun a w hk => ?_
  refine FW.lg (y := .lit (.int .u64 v6)) hk rfl rfl rfl (fun hc => FW.f_move hk hc rfl) fun a w hk => ?_
  refine FW.lg (y := .lit (.bool (decide (v6 ≤ 9223372036854775808)))) hk rfl rfl rfl (fun hc => (FW.f_pure (FW.p_leq hk.kn hc rfl rfl))) fun a w hk => ?_
  refine FW.sAn hk fun a w hk => ?_
  refine FW.lend (q21 _ _ ?_)
  refine FW.wcondF (b := (v4 && (decide (v6 ≤ 9223372036854775808)))) hk h rfl (fun h hb => ?_) (fun h hb => ?_)
  ·skip
   refine FW.wreg fun _ q22 => ?_
   refine FW.sM hk fun a w hk => ?_
   refine FW.lf (y := .lit (.int .u64 (IntKind.wrap .u64 (0 - v6)))) hk ((FW.f_pure (FW.p_neg hk.kn FW.h0 rfl))) fun a w hk => ?_
   refine FW.lf (y := .lit (.int .i64 (IntKind.wrap .i64 (IntKind.wrap .u64 (0 - v6))))) hk ((FW.f_pure (FW.p_conv Try.underlying77 Try.underlying2 hk.kn FW.h0 rfl))) fun a w hk => ?_
   refine FW.sA hk fun a w hk => ?_
   refine FW.sA hk fun a w hk => ?_
   refine FW.lend (q22 _ _ ?_)
   refine wp_ret ?_
   (repeat first | refine FW.then_ret ?_ | refine FW.block_ret ?_)
   obtain rfl := Option.some.inj h
   exact FW.fret2 hk rfl rfl rfl
  refine wp_skip ?_
  (repeat first | refine FW.tn ?_ | refine FW.bn ?_); refine q20 _ _ ?_
  refine FW.wseq fun _ q23 => ?_
  refine FW.wreg fun _ q24 => ?_
  refine FW.sM hk fun a w hk => ?_
  refine FW.lf (y := .lit (.bool (!v4))) hk ((FW.f_pure (FW.p_not hk.kn FW.h0 rfl))) fun a w hk => ?_
  refine FW.sM hk fun a w hk => ?_
  refine FW.lg (y := .lit (.int .u64 v6)) hk rfl rfl rfl (fun hc => FW.f_move hk hc rfl) fun a w hk => ?_
  refine FW.lg (y := .lit (.bool (decide (v6 < 9223372036854775808)))) hk rfl rfl rfl (fun hc => (FW.f_pure (FW.p_lss hk.kn hc rfl rfl))) fun a w hk => ?_
  refine FW.sAn hk fun a w hk => ?_
  refine FW.lend (q24 _ _ ?_)
  refine FW.wcondF (b := ((!v4) && (decide (v6 < 9223372036854775808)))) hk h rfl (fun h hb => ?_) (fun h hb => ?_)
  ·skip
   refine FW.wreg fun _ q25 => ?_
   refine FW.sM hk fun a w hk => ?_
   refine FW.lf (y := .lit (.int .i64 (IntKind.wrap .i64 v6))) hk ((FW.f_pure (FW.p_conv Try.underlying77 Try.underlying2 hk.kn FW.h0 rfl))) fun a w hk => ?_
   refine FW.sA hk fun a w hk => ?_
   refine FW.sA hk fun a w hk => ?_
   refine FW.lend (q25 _ _ ?_)
   refine wp_ret ?_
   (repeat first | refine FW.then_ret ?_ | refine FW.block_ret ?_)
   obtain rfl := Option.some.inj h
   exact FW.fret2 hk rfl rfl rfl
  refine wp_skip ?_
  (repeat first | refine FW.tn ?_ | refine FW.bn ?_); refine q23 _ _ ?_
  refine FW.wreg fun _ q26 => ?_
  refine FW.sA hk fun a w hk => ?_
  refine FW.sA hk fun a w hk => ?_
  refine FW.lend (q26 _ _ ?_)
  refine wp_ret ?_
  (repeat first | refine FW.then_ret ?_ | refine FW.block_ret ?_)
  obtain rfl := Option.some.inj h
  exact FW.fret2 hk rfl rfl rfl
 ·intro K' q4
  refine FW.wreg fun _ q27 => ?_
  refine FW.sM hk fun a w hk => ?_
  refine FW.lend (q27 _ _ ?_)
  refine FW.wcondF (b := ((!decide (v0 = ([] : List UInt8))) && (decide ((FW.bt v0 0) = 45)))) hk h rfl (fun h hb => ?_) (fun h hb => ?_)
  ·skip
   refine FW.wreg1 ?_
   refine FW.sM hk fun a w hk => ?_
   obtain ⟨hc6, h⟩ := FW.chk h
   refine FW.lf (y := .lit (.string (FW.B (List.drop (Int.toNat 1) v0)))) hk ((FW.f_pure (FW.p_slice_lo Try.underlying9 hk.kn FW.h0 rfl rfl hc6))) fun a w hk => ?_
   refine FW.sA hk fun a w hk => ?_
   refine wpList_nil ?_
   (repeat first | refine FW.tn ?_ | refine FW.bn ?_); exact q4 _ _ ⟨((!decide (v0 = ([] : List UInt8))) && (decide ((FW.bt v0 0) = 45))), (List.drop (Int.toNat 1) v0), hk.sub ⟨rfl, rfl, trivial⟩, h⟩
  refine wp_skip ?_
  (repeat first | refine FW.tn ?_ | refine FW.bn ?_); exact q4 _ _ ⟨((!decide (v0 = ([] : List UInt8))) && (decide ((FW.bt v0 0) = 45))), v0, hk.sub ⟨rfl, rfl, trivial⟩, h⟩

theorem r11_letter.ok  (v0 : Int) (r : Bool) (h : r11_letter.f v0 = some r) :
  FW.Ok Try.prog 75 [.lit (.int .u8 v0)] (.lit (.bool r)) := by
 refine FW.enter (xs := [.lit (.int .u8 v0)]) Try.func75 rfl Try.ntmps75 rfl ?_
 intro M w0 a hk
 unfold r11_letter.f at h
 refine FW.wreg fun _ q1 => ?_
 refine FW.sA hk fun a w hk => ?_
 refine FW.lend (q1 _ _ ?_)
 refine FW.wreg fun _ q2 => ?_
 refine FW.sM hk fun a w hk => ?_
 refine FW.sEq hk fun a w hk => ?_
 refine FW.sM hk fun a w hk => ?_
 refine FW.lg (y := .lit (.int .u8 v0)) hk rfl rfl rfl (fun hc => FW.f_move hk hc rfl) fun a w hk => ?_
 refine FW.lg (y := .lit (.bool (decide (97 ≤ v0)))) hk rfl rfl rfl (fun hc => (FW.f_pure (FW.p_geq hk.kn hc rfl rfl))) fun a w hk => ?_
 refine FW.lg (y := .lit (.bool (decide (97 ≤ v0)))) hk rfl rfl rfl (fun hc => FW.f_move hk hc rfl) fun a w hk => ?_
 refine FW.lg (y := .lit (.int .u8 v0)) hk rfl rfl rfl (fun hc => FW.f_move hk hc rfl) fun a w hk => ?_
 refine FW.lg (y := .lit (.bool (decide (v0 ≤ 122)))) hk rfl rfl rfl (fun hc => (FW.f_pure (FW.p_leq hk.kn hc rfl rfl))) fun a w hk => ?_
 refine FW.lg (y := .lit (.bool ((decide (97 ≤ v0)) && (decide (v0 ≤ 122))))) hk rfl rfl rfl (fun hc => (FW.f_pure (FW.p_pick_and hk.kn hc rfl rfl))) fun a w hk => ?_
 refine FW.sOr hk fun a w hk => ?_
 refine FW.sM hk fun a w hk => ?_
 refine FW.lg (y := .lit (.int .u8 v0)) hk rfl rfl rfl (fun hc => FW.f_move hk hc rfl) fun a w hk => ?_
 refine FW.lg (y := .lit (.bool (decide (65 ≤ v0)))) hk rfl rfl rfl (fun hc => (FW.f_pure (FW.p_geq hk.kn hc rfl rfl))) fun a w hk => ?_
 refine FW.lg (y := .lit (.bool (decide (65 ≤ v0)))) hk rfl rfl rfl (fun hc => FW.f_move hk hc rfl) fun a w hk => ?_
 refine FW.lg (y := .lit (.int .u8 v0)) hk rfl rfl rfl (fun hc => FW.f_move hk hc rfl) fun a w hk => ?_
 refine FW.lg (y := .lit (.bool (decide (v0 ≤ 90)))) hk rfl rfl rfl (fun hc => (FW.f_pure (FW.p_leq hk.kn hc rfl rfl))) fun a w hk => ?_
 refine FW.lg (y := .lit (.bool ((decide (65 ≤ v0)) && (decide (v0 ≤ 90))))) hk rfl rfl rfl (fun hc => (FW.f_pure (FW.p_pick_and hk.kn hc rfl rfl))) fun a w hk => ?_
 refine FW.sOr hk fun a w hk => ?_
 refine FW.sM hk fun a w hk => ?_
 refine FW.lg (y := .lit (.int .u8 v0)) hk rfl rfl rfl (fun hc => FW.f_move hk hc rfl) fun a w hk => ?_
 refine FW.lg (y := .lit (.bool (decide (48 ≤ v0)))) hk rfl rfl rfl (fun hc => (FW.f_pure (FW.p_geq hk.kn hc rfl rfl))) fun a w hk => ?_
 refine FW.lg (y := .lit (.bool (decide (48 ≤ v0)))) hk rfl rfl rfl (fun hc => FW.f_move hk hc rfl) fun a w hk => ?_
 refine FW.lg (y := .lit (.int .u8 v0)) hk rfl rfl rfl (fun hc => FW.f_move hk hc rfl) fun a w hk => ?_
 refine FW.lg (y := .lit (.bool (decide (v0 ≤ 57)))) hk rfl rfl rfl (fun hc => (FW.f_pure (FW.p_leq hk.kn hc rfl rfl))) fun a w hk => ?_
 refine FW.lg (y := .lit (.bool ((decide (48 ≤ v0)) && (decide (v0 ≤ 57))))) hk rfl rfl rfl (fun hc => (FW.f_pure (FW.p_pick_and hk.kn hc rfl rfl))) fun a w hk => ?_
 refine FW.sOr hk fun a w hk => ?_
 refine FW.sA hk fun a w hk => ?_
 refine FW.lend (q2 _ _ ?_)
 refine wp_ret ?_
 (repeat first | refine FW.then_ret ?_ | refine FW.block_ret ?_)
 obtain rfl := Option.some.inj h
 exact FW.fret1 hk rfl rfl
end Go.Proofs.Ytbjbgodcenopnaa

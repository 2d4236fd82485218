/- Written by a program of this session (gen.py): the contracts of functions of the program. -/
import Derived.KernelRfl
import Derived.Test.YtbjbgodcenopnaaProg
import Derived.Test.YtbjbgodcenopnaaAvDraw2
import Derived.Test.YtbjbgodcenopnaaHob
import Derived.Test.YtbjbgodcenopnaaFv
import Derived.Test.YtbjbgodcenopnaaCbD
namespace Go.Proofs.Ytbjbgodcenopnaa
set_option linter.unusedVariables false
set_option maxRecDepth 20000
set_option maxHeartbeats 10000000
theorem r11_digit.ok  (v0 : Int) (r : Int) (h : r11_digit.f v0 = some r) :
  FW.Ok Try.prog 72 [.lit (.int .u8 v0)] (.lit (.int .i64 r)) := by
 refine FW.enter (xs := [.lit (.int .u8 v0)]) Try.func72 rfl Try.ntmps72 rfl ?_
 intro M w0 a hk
 unfold r11_digit.f at h
 refine FW.wreg fun _ q1 => ?_
 refine FW.sA hk fun a w hk => ?_
 refine FW.lend (q1 _ _ ?_)
 refine FW.wseq fun _ q2 => ?_
 refine FW.wreg fun _ q3 => ?_
 refine FW.sM hk fun a w hk => ?_
 refine FW.lf (y := .lit (.bool (decide (48 ≤ v0)))) hk ((FW.f_pure (FW.p_geq hk.kn FW.h0 rfl rfl))) fun a w hk => ?_
 refine FW.sM hk fun a w hk => ?_
 refine FW.lg (y := .lit (.int .u8 v0)) hk rfl rfl rfl (fun hc => FW.f_move hk hc rfl) fun a w hk => ?_
 refine FW.lg (y := .lit (.bool (decide (v0 ≤ 57)))) hk rfl rfl rfl (fun hc => (FW.f_pure (FW.p_leq hk.kn hc rfl rfl))) fun a w hk => ?_
 refine FW.sAn hk fun a w hk => ?_
 refine FW.lend (q3 _ _ ?_)
 refine FW.wcondF (b := ((decide (48 ≤ v0)) && (decide (v0 ≤ 57)))) hk h rfl (fun h hb => ?_) (fun h hb => ?_)
 ·skip
  refine FW.wreg fun _ q4 => ?_
  refine FW.sM hk fun a w hk => ?_
  refine FW.lf (y := .lit (.int .i64 (IntKind.wrap .i64 v0))) hk ((FW.f_pure (FW.p_conv Try.underlying5 Try.underlying3 hk.kn FW.h0 rfl))) fun a w hk => ?_
  refine FW.lf (y := .lit (.int .i64 (IntKind.wrap .i64 ((IntKind.wrap .i64 v0) - 48)))) hk ((FW.f_pure (FW.p_sub hk.kn FW.h0 rfl rfl))) fun a w hk => ?_
  refine FW.sA hk fun a w hk => ?_
  refine FW.lend (q4 _ _ ?_)
  refine wp_ret ?_
  (repeat first | refine FW.then_ret ?_ | refine FW.block_ret ?_)
  obtain rfl := Option.some.inj h
  exact FW.fret1 hk rfl rfl
 refine wp_skip ?_
 (repeat first | refine FW.tn ?_ | refine FW.bn ?_); refine q2 _ _ ?_
 refine FW.wseq fun _ q5 => ?_
 refine FW.wreg fun _ q6 => ?_
 refine FW.sM hk fun a w hk => ?_
 refine FW.lf (y := .lit (.bool (decide (97 ≤ v0)))) hk ((FW.f_pure (FW.p_geq hk.kn FW.h0 rfl rfl))) fun a w hk => ?_
 refine FW.sM hk fun a w hk => ?_
 refine FW.lg (y := .lit (.int .u8 v0)) hk rfl rfl rfl (fun hc => FW.f_move hk hc rfl) fun a w hk => ?_
 refine FW.lg (y := .lit (.bool (decide (v0 ≤ 102)))) hk rfl rfl rfl (fun hc => (FW.f_pure (FW.p_leq hk.kn hc rfl rfl))) fun a w hk => ?_
 refine FW.sAn hk fun a w hk => ?_
 refine FW.lend (q6 _ _ ?_)
 refine FW.wcondF (b := ((decide (97 ≤ v0)) && (decide (v0 ≤ 102)))) hk h rfl (fun h hb => ?_) (fun h hb => ?_)
 ·skip
  refine FW.wreg fun _ q7 => ?_
  refine FW.sM hk fun a w hk => ?_
  refine FW.lf (y := .lit (.int .i64 (IntKind.wrap .i64 v0))) hk ((FW.f_pure (FW.p_conv Try.underlying5 Try.underlying3 hk.kn FW.h0 rfl))) fun a w hk => ?_
  refine FW.lf (y := .lit (.int .i64 (IntKind.wrap .i64 ((IntKind.wrap .i64 v0) - 97)))) hk ((FW.f_pure (FW.p_sub hk.kn FW.h0 rfl rfl))) fun a w hk => ?_
  refine FW.sAd hk fun a w hk => ?_
  refine FW.sA hk fun a w hk => ?_
  refine FW.lend (q7 _ _ ?_)
  refine wp_ret ?_
  (repeat first | refine FW.then_ret ?_ | refine FW.block_ret ?_)
  obtain rfl := Option.some.inj h
  exact FW.fret1 hk rfl rfl
 refine wp_skip ?_
 (repeat first | refine FW.tn ?_ | refine FW.bn ?_); refine q5 _ _ ?_
 refine FW.wreg fun _ q8 => ?_
 refine FW.sA hk fun a w hk => ?_
 refine FW.lend (q8 _ _ ?_)
 refine wp_ret ?_
 (repeat first | refine FW.then_ret ?_ | refine FW.block_ret ?_)
 obtain rfl := Option.some.inj h
 exact FW.fret1 hk rfl rfl

theorem r11_Quoted.ok (K : Nat) (v0 : List UInt8) (r : List UInt8 × Int) (h : r11_Quoted.f K v0 = some r) :
  FW.Ok Try.prog 71 [.lit (.string (FW.B v0))] (.tup [.lit (.string (FW.B r.1)), .lit (.int .i64 r.2)]) := by
 refine FW.enter (xs := [.lit (.string (FW.B v0))]) Try.func71 rfl Try.ntmps71 rfl ?_
 intro M w0 a hk
 unfold r11_Quoted.f at h
 refine FW.wreg fun _ q1 => ?_
 refine FW.sA hk fun a w hk => ?_
 refine FW.sA hk fun a w hk => ?_
 refine FW.lend (q1 _ _ ?_)
 refine FW.wreg fun _ q2 => ?_
 refine FW.l_buildSlice0 (f := c_u8) hk rfl rfl Try.underlying75 rfl (fun _ => rfl) ?_; clear hk; intro bx1 a w hk
 refine FW.sA hk fun a w hk => ?_
 refine FW.lend (q2 _ _ ?_)
 refine FW.wseq fun _ q3 => ?_
 refine FW.wreg fun _ q4 => ?_
 refine FW.sM hk fun a w hk => ?_
 refine FW.sSe hk fun a w hk => ?_
 refine FW.sM hk fun a w hk => ?_
 refine FW.lg (y := .lit (.string (FW.B v0))) hk rfl rfl rfl (fun hc => FW.f_move hk hc rfl) fun a w hk => ?_
 obtain ⟨hc1, h⟩ := FW.chk h
 refine FW.lg (y := .lit (.int .u8 (FW.bt v0 0))) hk rfl rfl rfl (fun hc => (FW.f_pure (FW.p_index Try.underlying9 hk.kn hc rfl rfl hc1))) fun a w hk => ?_
 refine FW.lg (y := .lit (.bool (!decide ((FW.bt v0 0) = 39)))) hk rfl rfl rfl (fun hc => (FW.f_pure (FW.p_neq hk.kn hc rfl rfl))) fun a w hk => ?_
 refine FW.sOr hk fun a w hk => ?_
 refine FW.lend (q4 _ _ ?_)
 refine FW.wcondF (b := ((decide (v0 = ([] : List UInt8))) || (!decide ((FW.bt v0 0) = 39)))) hk h rfl (fun h hb => ?_) (fun h hb => ?_)
 ·skip
  refine FW.wreg fun _ q5 => ?_
  refine FW.sA hk fun a w hk => ?_
  refine FW.sA hk fun a w hk => ?_
  refine FW.lend (q5 _ _ ?_)
  refine wp_ret ?_
  (repeat first | refine FW.then_ret ?_ | refine FW.block_ret ?_)
  obtain rfl := Option.some.inj h
  exact FW.fret2 hk rfl rfl rfl
 refine wp_skip ?_
 (repeat first | refine FW.tn ?_ | refine FW.bn ?_); refine q3 _ _ ?_
 refine FW.wseq fun _ q6 => ?_
 refine FW.wreg fun _ q7 => ?_
 refine FW.sA hk fun a w hk => ?_
 refine FW.lend (q7 _ _ ?_)
 refine wp_block ?_
 refine FW.wloop (T := Nat × List Int × List UInt8 × Int × Option Addr × Nat) (fun x a w => match x with | (kl1, l1, v0, v5, xd1, xc1) => FW.S M w0 a w 116 [FW.orow xd1 xc1 5 1 c_u8 l1] [(0, [], .lit (.string (FW.B v0))), (4, [], .lit (.slice xd1 (List.length l1) xc1)), (5, [], .lit (.int .i64 v5))] ∧ r11_Quoted.l1 K kl1 l1 v0 v5 = some r) (fun x => x.1) (K, ([] : List Int), v0, 1, (some ⟨bx1, 0, none⟩), 0) ⟨hk.sub ⟨rfl, rfl, rfl, trivial⟩, h⟩ ?_
 clear hk h
 rintro ⟨kl1, l1, v0, v5, xd1, xc1⟩ a w ⟨hk, h⟩ K' q8
 cases kl1 with
 | zero => simp [r11_Quoted.l1] at h
 | succ kl1 =>
 rw [r11_Quoted.l1.eq_2] at h
 refine FW.wseq fun _ q9 => ?_
 refine FW.wreg fun _ q10 => ?_
 refine FW.sM hk fun a w hk => ?_
 refine FW.sM hk fun a w hk => ?_
 refine FW.lf (y := .lit (.int .i64 (List.length v0 : Int))) hk ((FW.f_pure (FW.p_slen Try.underlying9 hk.kn FW.h0 rfl))) fun a w hk => ?_
 refine FW.sLt hk fun a w hk => ?_
 refine FW.lend (q10 _ _ ?_)
 refine FW.wcondF (b := (decide (v5 < (List.length v0 : Int)))) hk h rfl (fun h hb => ?_) (fun h hb => ?_)
 ·skip
  refine wp_skip ?_
  (repeat first | refine FW.tn ?_ | refine FW.bn ?_); refine q9 _ _ ?_
  refine wp_block ?_
  refine FW.wreg fun _ q11 => ?_
  refine FW.sM hk fun a w hk => ?_
  refine FW.sM hk fun a w hk => ?_
  obtain ⟨hc2, h⟩ := FW.chk h
  refine FW.lf (y := .lit (.int .u8 (FW.bt v0 v5))) hk ((FW.f_pure (FW.p_index Try.underlying9 hk.kn FW.h0 rfl rfl hc2))) fun a w hk => ?_
  refine FW.sA hk fun a w hk => ?_
  refine FW.lend (q11 _ _ ?_)
  refine FW.wseq fun _ q12 => ?_
  refine FW.wreg fun _ q13 => ?_
  refine FW.sM hk fun a w hk => ?_
  refine FW.sEq hk fun a w hk => ?_
  refine FW.lend (q13 _ _ ?_)
  refine FW.wcondF (b := (decide ((FW.bt v0 v5) = 39))) hk h rfl (fun h hb => ?_) (fun h hb => ?_)
  ·skip
   refine FW.wreg fun _ q14 => ?_
   refine FW.sM hk fun a w hk => ?_
   refine FW.lf (y := .lit (.string (FW.B (FW.toB l1)))) hk (FW.f_toBown (f := c_u8) rfl hk FW.h0 (j := 0) rfl rfl Try.underlying75 Try.underlying5 Try.underlying9) fun a w hk => ?_
   refine FW.sM hk fun a w hk => ?_
   refine FW.sAd hk fun a w hk => ?_
   refine FW.sA hk fun a w hk => ?_
   refine FW.sA hk fun a w hk => ?_
   refine FW.lend (q14 _ _ ?_)
   refine wp_ret ?_
   (repeat first | refine FW.then_ret ?_ | refine FW.block_ret ?_)
   obtain rfl := Option.some.inj h
   exact FW.fret2 hk rfl rfl rfl
  refine wp_skip ?_
  (repeat first | refine FW.tn ?_ | refine FW.bn ?_); refine q12 _ _ ?_
  refine FW.wseq fun _ q15 => ?_
  refine FW.wreg fun _ q16 => ?_
  refine FW.sM hk fun a w hk => ?_
  refine FW.sLt hk fun a w hk => ?_
  refine FW.sM hk fun a w hk => ?_
  refine FW.lg (y := .lit (.int .u8 (FW.bt v0 v5))) hk rfl rfl rfl (fun hc => FW.f_move hk hc rfl) fun a w hk => ?_
  refine FW.lg (y := .lit (.bool (decide (126 < (FW.bt v0 v5))))) hk rfl rfl rfl (fun hc => (FW.f_pure (FW.p_gtr hk.kn hc rfl rfl))) fun a w hk => ?_
  refine FW.sOr hk fun a w hk => ?_
  refine FW.lend (q16 _ _ ?_)
  refine FW.wcondF (b := ((decide ((FW.bt v0 v5) < 32)) || (decide (126 < (FW.bt v0 v5))))) hk h rfl (fun h hb => ?_) (fun h hb => ?_)
  ·skip
   refine FW.wreg fun _ q17 => ?_
   refine FW.sA hk fun a w hk => ?_
   refine FW.sA hk fun a w hk => ?_
   refine FW.lend (q17 _ _ ?_)
   refine wp_ret ?_
   (repeat first | refine FW.then_ret ?_ | refine FW.block_ret ?_)
   obtain rfl := Option.some.inj h
   exact FW.fret2 hk rfl rfl rfl
  refine wp_skip ?_
  (repeat first | refine FW.tn ?_ | refine FW.bn ?_); refine q15 _ _ ?_
  refine FW.wseq fun _ q18 => ?_
  refine FW.wreg fun _ q19 => ?_
  refine FW.sM hk fun a w hk => ?_
  refine FW.lf (y := .lit (.bool (!decide ((FW.bt v0 v5) = 92)))) hk ((FW.f_pure (FW.p_neq hk.kn FW.h0 rfl rfl))) fun a w hk => ?_
  refine FW.lend (q19 _ _ ?_)
  refine FW.wcondF (b := (!decide ((FW.bt v0 v5) = 92))) hk h rfl (fun h hb => ?_) (fun h hb => ?_)
  ·skip
   refine FW.wreg fun _ q20 => ?_
   refine FW.sM hk fun a w hk => ?_
   refine FW.sM hk fun a w hk => ?_
   refine FW.l_buildSlice (f := c_u8) (l := ([(FW.bt v0 v5)] : List Int)) hk rfl rfl rfl Try.underlying75 rfl rfl rfl rfl (fun _ => rfl) rfl ?_; clear hk; intro bx2 a w hk
   obtain ⟨hc3, h⟩ := FW.chk h
   refine FW.l_append (l2 := ([(FW.bt v0 v5)] : List Int)) (l3 := (l1 ++ ([(FW.bt v0 v5)] : List Int))) (I' := fun ad1 cap1 => [FW.orow (some ⟨bx2, 0, none⟩) 1 5 1 c_u8 ([(FW.bt v0 v5)] : List Int), FW.orow ad1 cap1 5 1 c_u8 (l1 ++ ([(FW.bt v0 v5)] : List Int))]) (j := 1) hk rfl rfl rfl rfl (FW.own_src hk (j := 0) rfl rfl (fun _ => rfl) Try.underlying75) Try.underlying75 (by kernel_rfl) hc3 rfl (fun _ _ => rfl) ?_; clear hk; intro ad1 cap1 a w hk
   replace hk := FW.S.dropI (I' := [FW.orow ad1 cap1 5 1 c_u8 (l1 ++ ([(FW.bt v0 v5)] : List Int))]) hk 0 rfl
   refine FW.sM hk fun a w hk => ?_
   refine FW.sAd hk fun a w hk => ?_
   refine FW.sA hk fun a w hk => ?_
   refine FW.sA hk fun a w hk => ?_
   refine FW.lend (q20 _ _ ?_)
   refine wp_exit ?_; (repeat first | refine FW.then_exit ?_ | refine FW.block_exit_ne rfl ?_); refine FW.block_exit ?_
   (repeat first | refine FW.tn ?_ | refine FW.bn ?_); exact q8 (kl1, (l1 ++ ([(FW.bt v0 v5)] : List Int)), v0, (IntKind.wrap .i64 (v5 + 1)), ad1, cap1) _ _ (Nat.lt_succ_self _) ⟨hk.sub ⟨rfl, rfl, rfl, trivial⟩, h⟩
  refine wp_skip ?_
  (repeat first | refine FW.tn ?_ | refine FW.bn ?_); refine q18 _ _ ?_
  refine FW.wseq fun _ q21 => ?_
  refine FW.wreg fun _ q22 => ?_
  refine FW.sM hk fun a w hk => ?_
  refine FW.sAd hk fun a w hk => ?_
  refine FW.sM hk fun a w hk => ?_
  refine FW.lf (y := .lit (.int .i64 (List.length v0 : Int))) hk ((FW.f_pure (FW.p_slen Try.underlying9 hk.kn FW.h0 rfl))) fun a w hk => ?_
  refine FW.sLt hk fun a w hk => ?_
  refine FW.sM hk fun a w hk => ?_
  refine FW.lg (y := .lit (.string (FW.B v0))) hk rfl rfl rfl (fun hc => FW.f_move hk hc rfl) fun a w hk => ?_
  refine FW.lg (y := .lit (.int .i64 v5)) hk rfl rfl rfl (fun hc => FW.f_move hk hc rfl) fun a w hk => ?_
  refine FW.lg (y := .lit (.int .i64 (IntKind.wrap .i64 (v5 + 1)))) hk rfl rfl rfl (fun hc => (FW.f_pure (FW.p_add hk.kn hc rfl rfl))) fun a w hk => ?_
  obtain ⟨hc4, h⟩ := FW.chk h
  refine FW.lg (y := .lit (.int .u8 (FW.bt v0 (IntKind.wrap .i64 (v5 + 1))))) hk rfl rfl rfl (fun hc => (FW.f_pure (FW.p_index Try.underlying9 hk.kn hc rfl rfl hc4))) fun a w hk => ?_
  refine FW.lg (y := .lit (.bool (decide ((FW.bt v0 (IntKind.wrap .i64 (v5 + 1))) = 39)))) hk rfl rfl rfl (fun hc => (FW.f_pure (FW.p_eql hk.kn hc rfl rfl))) fun a w hk => ?_
  refine FW.lg (y := .lit (.bool (decide ((FW.bt v0 (IntKind.wrap .i64 (v5 + 1))) = 39)))) hk rfl rfl rfl (fun hc => FW.f_move hk hc rfl) fun a w hk => ?_
  refine FW.lg (y := .lit (.string (FW.B v0))) hk rfl rfl rfl (fun hc => FW.f_move hk hc rfl) fun a w hk => ?_
  refine FW.lg (y := .lit (.int .i64 v5)) hk rfl rfl rfl (fun hc => FW.f_move hk hc rfl) fun a w hk => ?_
  refine FW.lg (y := .lit (.int .i64 (IntKind.wrap .i64 (v5 + 1)))) hk rfl rfl rfl (fun hc => (FW.f_pure (FW.p_add hk.kn hc rfl rfl))) fun a w hk => ?_
  obtain ⟨hc5, h⟩ := FW.chk h
  refine FW.lg (y := .lit (.int .u8 (FW.bt v0 (IntKind.wrap .i64 (v5 + 1))))) hk rfl rfl rfl (fun hc => (FW.f_pure (FW.p_index Try.underlying9 hk.kn hc rfl rfl hc5))) fun a w hk => ?_
  refine FW.lg (y := .lit (.bool (decide ((FW.bt v0 (IntKind.wrap .i64 (v5 + 1))) = 92)))) hk rfl rfl rfl (fun hc => (FW.f_pure (FW.p_eql hk.kn hc rfl rfl))) fun a w hk => ?_
  refine FW.lg (y := .lit (.bool ((decide ((FW.bt v0 (IntKind.wrap .i64 (v5 + 1))) = 39)) || (decide ((FW.bt v0 (IntKind.wrap .i64 (v5 + 1))) = 92))))) hk rfl rfl rfl (fun hc => (FW.f_pure (FW.p_pick_or hk.kn hc rfl rfl))) fun a w hk => ?_
  refine FW.sAn hk fun a w hk => ?_
  refine FW.lend (q22 _ _ ?_)
  refine FW.wcondF (b := ((decide ((IntKind.wrap .i64 (v5 + 1)) < (List.length v0 : Int))) && ((decide ((FW.bt v0 (IntKind.wrap .i64 (v5 + 1))) = 39)) || (decide ((FW.bt v0 (IntKind.wrap .i64 (v5 + 1))) = 92))))) hk h rfl (fun h hb => ?_) (fun h hb => ?_)
  ·skip
   refine FW.wreg fun _ q23 => ?_
   refine FW.sM hk fun a w hk => ?_
   refine FW.sM hk fun a w hk => ?_
   refine FW.sM hk fun a w hk => ?_
   refine FW.sAd hk fun a w hk => ?_
   obtain ⟨hc6, h⟩ := FW.chk h
   refine FW.lf (y := .lit (.int .u8 (FW.bt v0 (IntKind.wrap .i64 (v5 + 1))))) hk ((FW.f_pure (FW.p_index Try.underlying9 hk.kn FW.h0 rfl rfl hc6))) fun a w hk => ?_
   refine FW.l_buildSlice (f := c_u8) (l := ([(FW.bt v0 (IntKind.wrap .i64 (v5 + 1)))] : List Int)) hk rfl rfl rfl Try.underlying75 rfl rfl rfl rfl (fun _ => rfl) rfl ?_; clear hk; intro bx3 a w hk
   obtain ⟨hc7, h⟩ := FW.chk h
   refine FW.l_append (l2 := ([(FW.bt v0 (IntKind.wrap .i64 (v5 + 1)))] : List Int)) (l3 := (l1 ++ ([(FW.bt v0 (IntKind.wrap .i64 (v5 + 1)))] : List Int))) (I' := fun ad2 cap2 => [FW.orow (some ⟨bx3, 0, none⟩) 1 5 1 c_u8 ([(FW.bt v0 (IntKind.wrap .i64 (v5 + 1)))] : List Int), FW.orow ad2 cap2 5 1 c_u8 (l1 ++ ([(FW.bt v0 (IntKind.wrap .i64 (v5 + 1)))] : List Int))]) (j := 1) hk rfl rfl rfl rfl (FW.own_src hk (j := 0) rfl rfl (fun _ => rfl) Try.underlying75) Try.underlying75 (by kernel_rfl) hc7 rfl (fun _ _ => rfl) ?_; clear hk; intro ad2 cap2 a w hk
   replace hk := FW.S.dropI (I' := [FW.orow ad2 cap2 5 1 c_u8 (l1 ++ ([(FW.bt v0 (IntKind.wrap .i64 (v5 + 1)))] : List Int))]) hk 0 rfl
   refine FW.sM hk fun a w hk => ?_
   refine FW.sAd hk fun a w hk => ?_
   refine FW.sA hk fun a w hk => ?_
   refine FW.sA hk fun a w hk => ?_
   refine FW.lend (q23 _ _ ?_)
   refine wp_exit ?_; (repeat first | refine FW.then_exit ?_ | refine FW.block_exit_ne rfl ?_); refine FW.block_exit ?_
   (repeat first | refine FW.tn ?_ | refine FW.bn ?_); exact q8 (kl1, (l1 ++ ([(FW.bt v0 (IntKind.wrap .i64 (v5 + 1)))] : List Int)), v0, (IntKind.wrap .i64 (v5 + 2)), ad2, cap2) _ _ (Nat.lt_succ_self _) ⟨hk.sub ⟨rfl, rfl, rfl, trivial⟩, h⟩
  refine wp_skip ?_
  (repeat first | refine FW.tn ?_ | refine FW.bn ?_); refine q21 _ _ ?_
  refine FW.wseq fun _ q24 => ?_
  refine FW.wreg fun _ q25 => ?_
  refine FW.sM hk fun a w hk => ?_
  refine FW.sAd hk fun a w hk => ?_
  refine FW.sM hk fun a w hk => ?_
  refine FW.lf (y := .lit (.int .i64 (List.length v0 : Int))) hk ((FW.f_pure (FW.p_slen Try.underlying9 hk.kn FW.h0 rfl))) fun a w hk => ?_
  refine FW.lf (y := .lit (.bool (decide ((List.length v0 : Int) ≤ (IntKind.wrap .i64 (v5 + 3)))))) hk ((FW.f_pure (FW.p_geq hk.kn FW.h0 rfl rfl))) fun a w hk => ?_
  refine FW.sM hk fun a w hk => ?_
  refine FW.lg (y := .lit (.string (FW.B v0))) hk rfl rfl rfl (fun hc => FW.f_move hk hc rfl) fun a w hk => ?_
  refine FW.lg (y := .lit (.int .i64 v5)) hk rfl rfl rfl (fun hc => FW.f_move hk hc rfl) fun a w hk => ?_
  refine FW.lg (y := .lit (.int .i64 (IntKind.wrap .i64 (v5 + 1)))) hk rfl rfl rfl (fun hc => (FW.f_pure (FW.p_add hk.kn hc rfl rfl))) fun a w hk => ?_
  obtain ⟨hc8, h⟩ := FW.chk h
  refine FW.lg (y := .lit (.int .u8 (FW.bt v0 (IntKind.wrap .i64 (v5 + 1))))) hk rfl rfl rfl (fun hc => (FW.f_pure (FW.p_index Try.underlying9 hk.kn hc rfl rfl hc8))) fun a w hk => ?_
  refine FW.lg (y := .lit (.bool (!decide ((FW.bt v0 (IntKind.wrap .i64 (v5 + 1))) = 120)))) hk rfl rfl rfl (fun hc => (FW.f_pure (FW.p_neq hk.kn hc rfl rfl))) fun a w hk => ?_
  refine FW.sOr hk fun a w hk => ?_
  refine FW.sM hk fun a w hk => ?_
  refine FW.lg (y := .lit (.string (FW.B v0))) hk rfl rfl rfl (fun hc => FW.f_move hk hc rfl) fun a w hk => ?_
  refine FW.lg (y := .lit (.int .i64 v5)) hk rfl rfl rfl (fun hc => FW.f_move hk hc rfl) fun a w hk => ?_
  refine FW.lg (y := .lit (.int .i64 (IntKind.wrap .i64 (v5 + 2)))) hk rfl rfl rfl (fun hc => (FW.f_pure (FW.p_add hk.kn hc rfl rfl))) fun a w hk => ?_
  obtain ⟨hc9, h⟩ := FW.chk h
  refine FW.lg (y := .lit (.int .u8 (FW.bt v0 (IntKind.wrap .i64 (v5 + 2))))) hk rfl rfl rfl (fun hc => (FW.f_pure (FW.p_index Try.underlying9 hk.kn hc rfl rfl hc9))) fun a w hk => ?_
  obtain ⟨t1, hr_t1, h⟩ := FW.bndG h
  refine FW.lg (y := .lit (.int .i64 t1)) hk rfl rfl rfl (fun hc => FW.f_call hk hc rfl rfl Try.func72 rfl (by kernel_rfl) (r11_digit.ok (FW.bt v0 (IntKind.wrap .i64 (v5 + 2))) _ (hr_t1 (FW.asm_out (p := ((decide ((List.length v0 : Int) ≤ (IntKind.wrap .i64 (v5 + 3)))) || (!decide ((FW.bt v0 (IntKind.wrap .i64 (v5 + 1))) = 120))) = false) hk.kn hc (fun e0 => e0))))) fun a w hk => ?_
  refine FW.lg (y := .lit (.bool (decide (15 < t1)))) hk rfl rfl rfl (fun hc => (FW.f_pure (FW.p_gtr hk.kn hc rfl rfl))) fun a w hk => ?_
  refine FW.sOr hk fun a w hk => ?_
  refine FW.sM hk fun a w hk => ?_
  refine FW.lg (y := .lit (.string (FW.B v0))) hk rfl rfl rfl (fun hc => FW.f_move hk hc rfl) fun a w hk => ?_
  refine FW.lg (y := .lit (.int .i64 v5)) hk rfl rfl rfl (fun hc => FW.f_move hk hc rfl) fun a w hk => ?_
  refine FW.lg (y := .lit (.int .i64 (IntKind.wrap .i64 (v5 + 3)))) hk rfl rfl rfl (fun hc => (FW.f_pure (FW.p_add hk.kn hc rfl rfl))) fun a w hk => ?_
  obtain ⟨hc10, h⟩ := FW.chk h
  refine FW.lg (y := .lit (.int .u8 (FW.bt v0 (IntKind.wrap .i64 (v5 + 3))))) hk rfl rfl rfl (fun hc => (FW.f_pure (FW.p_index Try.underlying9 hk.kn hc rfl rfl hc10))) fun a w hk => ?_
  obtain ⟨t2, hr_t2, h⟩ := FW.bndG h
  refine FW.lg (y := .lit (.int .i64 t2)) hk rfl rfl rfl (fun hc => FW.f_call hk hc rfl rfl Try.func72 rfl (by kernel_rfl) (r11_digit.ok (FW.bt v0 (IntKind.wrap .i64 (v5 + 3))) _ (hr_t2 (FW.asm_out (p := (((decide ((List.length v0 : Int) ≤ (IntKind.wrap .i64 (v5 + 3)))) || (!decide ((FW.bt v0 (IntKind.wrap .i64 (v5 + 1))) = 120))) || (decide (15 < t1))) = false) hk.kn hc (fun e0 => e0))))) fun a w hk => ?_
  refine FW.lg (y := .lit (.bool (decide (15 < t2)))) hk rfl rfl rfl (fun hc => (FW.f_pure (FW.p_gtr hk.kn hc rfl rfl))) fun a w hk => ?_
  refine FW.sOr hk fun a w hk => ?_
  refine FW.lend (q25 _ _ ?_)
  refine FW.wcondF (b := ((((decide ((List.length v0 : Int) ≤ (IntKind.wrap .i64 (v5 + 3)))) || (!decide ((FW.bt v0 (IntKind.wrap .i64 (v5 + 1))) = 120))) || (decide (15 < t1))) || (decide (15 < t2)))) hk h rfl (fun h hb => ?_) (fun h hb => ?_)
  ·skip
   refine FW.wreg fun _ q26 => ?_
   refine FW.sA hk fun a w hk => ?_
   refine FW.sA hk fun a w hk => ?_
   refine FW.lend (q26 _ _ ?_)
   refine wp_ret ?_
   (repeat first | refine FW.then_ret ?_ | refine FW.block_ret ?_)
   obtain rfl := Option.some.inj h
   exact FW.fret2 hk rfl rfl rfl
  refine wp_skip ?_
  (repeat first | refine FW.tn ?_ | refine FW.bn ?_); refine q24 _ _ ?_
  obtain ⟨hc11, h⟩ := FW.chk h
  obtain ⟨t3, hr_t3, h⟩ := FW.bnd h
  obtain ⟨hc12, h⟩ := FW.chk h
  obtain ⟨t4, hr_t4, h⟩ := FW.bnd h
  obtain ⟨hc13, h⟩ := FW.chk h
  refine FW.wdrawE1 (.next [true, true, true, true, true, true, true, true, true, true, true, true, true, true, false, false, true, true, false, false] 14 [true, true, true, true, true, true, true, true, true, true, true, true, true, true, false, false, true, true, false, false] (.next [true, false, false, false, false, false, false, false, false, false, false, false, false, false, false, false, true, true, false, false] 15 [true, true, true, true, true, true, true, true, true, true, true, true, true, true, true, false, true, true, false, false] (.leaf [false, false, false, false, false, false, false, false, false, false, false, false, false, false, false, false, true, true, true, true]))) [(98, [], .lit (.slice xd1 (List.length l1) xc1)), (99, [], .lit (.string (FW.B v0))), (100, [], .lit (.int .i64 v5)), (101, [], .lit (.int .i64 (IntKind.wrap .i64 (v5 + 2)))), (102, [], .lit (.int .u8 (FW.bt v0 (IntKind.wrap .i64 (v5 + 2))))), (103, [], .lit (.int .i64 t3)), (104, [], .lit (.int .i64 (IntKind.wrap .i64 (16 * t3)))), (105, [], .lit (.string (FW.B v0))), (106, [], .lit (.int .i64 v5)), (107, [], .lit (.int .i64 (IntKind.wrap .i64 (v5 + 3)))), (108, [], .lit (.int .u8 (FW.bt v0 (IntKind.wrap .i64 (v5 + 3))))), (109, [], .lit (.int .i64 t4)), (110, [], .lit (.int .i64 (IntKind.wrap .i64 ((IntKind.wrap .i64 (16 * t3)) + t4)))), (111, [], .lit (.int .u8 (IntKind.wrap .u8 (IntKind.wrap .i64 ((IntKind.wrap .i64 (16 * t3)) + t4))))), (112, [], .agg []), (113, [], .agg []), (114, [], .lit (.int .i64 v5)), (115, [], .lit (.int .i64 (IntKind.wrap .i64 (v5 + 4)))), (4, [], .agg []), (5, [], .agg [])] (by kernel_rfl) (by kernel_rfl) (by kernel_rfl) (by kernel_rfl) hk ?_; clear hk
  refine FW.gnext ?_ rfl rfl rfl rfl rfl ?_
  ·skip
   refine FW.gfun (y := .lit (.slice xd1 (List.length l1) xc1)) rfl rfl rfl rfl (fun a w hk => FW.f_move hk FW.h0 rfl) ?_
   refine FW.gfun (y := .lit (.string (FW.B v0))) rfl rfl rfl rfl (fun a w hk => FW.f_move hk FW.h0 rfl) ?_
   refine FW.gfun (y := .lit (.int .i64 v5)) rfl rfl rfl rfl (fun a w hk => FW.f_move hk FW.h0 rfl) ?_
   refine FW.gfun (y := .lit (.int .i64 (IntKind.wrap .i64 (v5 + 2)))) rfl rfl rfl rfl (fun a w hk => (FW.f_pure (FW.p_add hk.kn FW.h0 rfl rfl))) ?_
   refine FW.gfun (y := .lit (.int .u8 (FW.bt v0 (IntKind.wrap .i64 (v5 + 2))))) rfl rfl rfl rfl (fun a w hk => (FW.f_pure (FW.p_index Try.underlying9 hk.kn FW.h0 rfl rfl hc11))) ?_
   refine FW.gfun (y := .lit (.int .i64 t3)) rfl rfl rfl rfl (fun a w hk => FW.f_call hk FW.h0 rfl rfl Try.func72 rfl (by kernel_rfl) (r11_digit.ok (FW.bt v0 (IntKind.wrap .i64 (v5 + 2))) _ hr_t3)) ?_
   refine FW.gfun (y := .lit (.int .i64 (IntKind.wrap .i64 (16 * t3)))) rfl rfl rfl rfl (fun a w hk => (FW.f_pure (FW.p_mul hk.kn FW.h0 rfl rfl))) ?_
   refine FW.gfun (y := .lit (.string (FW.B v0))) rfl rfl rfl rfl (fun a w hk => FW.f_move hk FW.h0 rfl) ?_
   refine FW.gfun (y := .lit (.int .i64 v5)) rfl rfl rfl rfl (fun a w hk => FW.f_move hk FW.h0 rfl) ?_
   refine FW.gfun (y := .lit (.int .i64 (IntKind.wrap .i64 (v5 + 3)))) rfl rfl rfl rfl (fun a w hk => (FW.f_pure (FW.p_add hk.kn FW.h0 rfl rfl))) ?_
   refine FW.gfun (y := .lit (.int .u8 (FW.bt v0 (IntKind.wrap .i64 (v5 + 3))))) rfl rfl rfl rfl (fun a w hk => (FW.f_pure (FW.p_index Try.underlying9 hk.kn FW.h0 rfl rfl hc12))) ?_
   refine FW.gfun (y := .lit (.int .i64 t4)) rfl rfl rfl rfl (fun a w hk => FW.f_call hk FW.h0 rfl rfl Try.func72 rfl (by kernel_rfl) (r11_digit.ok (FW.bt v0 (IntKind.wrap .i64 (v5 + 3))) _ hr_t4)) ?_
   refine FW.gfun (y := .lit (.int .i64 (IntKind.wrap .i64 ((IntKind.wrap .i64 (16 * t3)) + t4)))) rfl rfl rfl rfl (fun a w hk => (FW.f_pure (FW.p_add hk.kn FW.h0 rfl rfl))) ?_
   refine FW.gfun (y := .lit (.int .u8 (IntKind.wrap .u8 (IntKind.wrap .i64 ((IntKind.wrap .i64 (16 * t3)) + t4))))) rfl rfl rfl rfl (fun a w hk => (FW.f_pure (FW.p_conv Try.underlying3 Try.underlying5 hk.kn FW.h0 rfl))) ?_
   refine FW.gskip rfl rfl ?_
   refine FW.gskip rfl rfl ?_
   refine FW.gfun (y := .lit (.int .i64 v5)) rfl rfl rfl rfl (fun a w hk => FW.f_move hk FW.h0 rfl) ?_
   refine FW.gfun (y := .lit (.int .i64 (IntKind.wrap .i64 (v5 + 4)))) rfl rfl rfl rfl (fun a w hk => (FW.f_pure (FW.p_add hk.kn FW.h0 rfl rfl))) ?_
   refine FW.gskip rfl rfl ?_
   refine FW.gskip rfl rfl ?_
   exact FW.gend
  ·skip
   intro σD a w opsD QD hk hf hQ hX
   refine FW.l_buildSlice (f := c_u8) (l := ([(IntKind.wrap .u8 (IntKind.wrap .i64 ((IntKind.wrap .i64 (16 * t3)) + t4)))] : List Int)) hk rfl hf rfl Try.underlying75 rfl rfl rfl rfl (fun _ => rfl) rfl ?_; clear hk; intro bx4 a w hk
   refine hQ _ _ a w ?_ hk; clear hk hQ hf hX
   refine ⟨[(98, [], .lit (.slice xd1 (List.length l1) xc1)), (99, [], .lit (.string (FW.B v0))), (100, [], .lit (.int .i64 v5)), (101, [], .lit (.int .i64 (IntKind.wrap .i64 (v5 + 2)))), (102, [], .lit (.int .u8 (FW.bt v0 (IntKind.wrap .i64 (v5 + 2))))), (103, [], .lit (.int .i64 t3)), (104, [], .lit (.int .i64 (IntKind.wrap .i64 (16 * t3)))), (105, [], .lit (.string (FW.B v0))), (106, [], .lit (.int .i64 v5)), (107, [], .lit (.int .i64 (IntKind.wrap .i64 (v5 + 3)))), (108, [], .lit (.int .u8 (FW.bt v0 (IntKind.wrap .i64 (v5 + 3))))), (109, [], .lit (.int .i64 t4)), (110, [], .lit (.int .i64 (IntKind.wrap .i64 ((IntKind.wrap .i64 (16 * t3)) + t4)))), (111, [], .lit (.int .u8 (IntKind.wrap .u8 (IntKind.wrap .i64 ((IntKind.wrap .i64 (16 * t3)) + t4))))), (112, [], .lit (.slice (some ⟨bx4, 0, none⟩) (List.length ([(IntKind.wrap .u8 (IntKind.wrap .i64 ((IntKind.wrap .i64 (16 * t3)) + t4)))] : List Int)) 1)), (113, [], .agg []), (114, [], .lit (.int .i64 v5)), (115, [], .lit (.int .i64 (IntKind.wrap .i64 (v5 + 4)))), (4, [], .agg []), (5, [], .agg [])], And.intro rfl (And.intro rfl (And.intro rfl (And.intro rfl (And.intro rfl (And.intro rfl (And.intro rfl (And.intro rfl (And.intro rfl (And.intro rfl (And.intro rfl (And.intro rfl (And.intro rfl (And.intro rfl (And.intro rfl (And.intro rfl (trivial)))))))))))))))), rfl, ?_⟩
   refine FW.gnext ?_ rfl rfl rfl rfl rfl ?_
   ·skip
    refine FW.gfun (y := .lit (.slice xd1 (List.length l1) xc1)) rfl rfl rfl rfl (fun a w hk => FW.f_move hk FW.h0 rfl) ?_
    refine FW.gskip rfl rfl ?_
    refine FW.gskip rfl rfl ?_
    refine FW.gskip rfl rfl ?_
    refine FW.gskip rfl rfl ?_
    refine FW.gskip rfl rfl ?_
    refine FW.gskip rfl rfl ?_
    refine FW.gskip rfl rfl ?_
    refine FW.gskip rfl rfl ?_
    refine FW.gskip rfl rfl ?_
    refine FW.gskip rfl rfl ?_
    refine FW.gskip rfl rfl ?_
    refine FW.gskip rfl rfl ?_
    refine FW.gskip rfl rfl ?_
    refine FW.gskip rfl rfl ?_
    refine FW.gskip rfl rfl ?_
    refine FW.gfun (y := .lit (.int .i64 v5)) rfl rfl rfl rfl (fun a w hk => FW.f_move hk FW.h0 rfl) ?_
    refine FW.gfun (y := .lit (.int .i64 (IntKind.wrap .i64 (v5 + 4)))) rfl rfl rfl rfl (fun a w hk => (FW.f_pure (FW.p_add hk.kn FW.h0 rfl rfl))) ?_
    refine FW.gskip rfl rfl ?_
    refine FW.gskip rfl rfl ?_
    exact FW.gend
   ·skip
    intro σD a w opsD QD hk hf hQ hX
    refine FW.l_append (l2 := ([(IntKind.wrap .u8 (IntKind.wrap .i64 ((IntKind.wrap .i64 (16 * t3)) + t4)))] : List Int)) (l3 := (l1 ++ ([(IntKind.wrap .u8 (IntKind.wrap .i64 ((IntKind.wrap .i64 (16 * t3)) + t4)))] : List Int))) (I' := fun ad3 cap3 => [FW.orow (some ⟨bx4, 0, none⟩) 1 5 1 c_u8 ([(IntKind.wrap .u8 (IntKind.wrap .i64 ((IntKind.wrap .i64 (16 * t3)) + t4)))] : List Int), FW.orow ad3 cap3 5 1 c_u8 (l1 ++ ([(IntKind.wrap .u8 (IntKind.wrap .i64 ((IntKind.wrap .i64 (16 * t3)) + t4)))] : List Int))]) (j := 1) hk rfl rfl hf rfl (FW.own_src hk (j := 0) rfl rfl (fun _ => rfl) Try.underlying75) Try.underlying75 (by kernel_rfl) hc13 rfl (fun _ _ => rfl) ?_; clear hk; intro ad3 cap3 a w hk
    replace hk := FW.S.dropI (I' := [FW.orow ad3 cap3 5 1 c_u8 (l1 ++ ([(IntKind.wrap .u8 (IntKind.wrap .i64 ((IntKind.wrap .i64 (16 * t3)) + t4)))] : List Int))]) hk 0 rfl
    refine hQ _ _ a w ?_ hk; clear hk hQ hf hX
    refine ⟨[(98, [], .lit (.slice xd1 (List.length l1) xc1)), (99, [], .lit (.string (FW.B v0))), (100, [], .lit (.int .i64 v5)), (101, [], .lit (.int .i64 (IntKind.wrap .i64 (v5 + 2)))), (102, [], .lit (.int .u8 (FW.bt v0 (IntKind.wrap .i64 (v5 + 2))))), (103, [], .lit (.int .i64 t3)), (104, [], .lit (.int .i64 (IntKind.wrap .i64 (16 * t3)))), (105, [], .lit (.string (FW.B v0))), (106, [], .lit (.int .i64 v5)), (107, [], .lit (.int .i64 (IntKind.wrap .i64 (v5 + 3)))), (108, [], .lit (.int .u8 (FW.bt v0 (IntKind.wrap .i64 (v5 + 3))))), (109, [], .lit (.int .i64 t4)), (110, [], .lit (.int .i64 (IntKind.wrap .i64 ((IntKind.wrap .i64 (16 * t3)) + t4)))), (111, [], .lit (.int .u8 (IntKind.wrap .u8 (IntKind.wrap .i64 ((IntKind.wrap .i64 (16 * t3)) + t4))))), (112, [], .lit (.slice (some ⟨bx4, 0, none⟩) (List.length ([(IntKind.wrap .u8 (IntKind.wrap .i64 ((IntKind.wrap .i64 (16 * t3)) + t4)))] : List Int)) 1)), (113, [], .lit (.slice ad3 (List.length (l1 ++ ([(IntKind.wrap .u8 (IntKind.wrap .i64 ((IntKind.wrap .i64 (16 * t3)) + t4)))] : List Int))) cap3)), (114, [], .lit (.int .i64 v5)), (115, [], .lit (.int .i64 (IntKind.wrap .i64 (v5 + 4)))), (4, [], .lit (.slice ad3 (List.length (l1 ++ ([(IntKind.wrap .u8 (IntKind.wrap .i64 ((IntKind.wrap .i64 (16 * t3)) + t4)))] : List Int))) cap3)), (5, [], .lit (.int .i64 (IntKind.wrap .i64 (v5 + 4))))], And.intro rfl (And.intro rfl (And.intro rfl (And.intro rfl (And.intro rfl (And.intro rfl (And.intro rfl (And.intro rfl (And.intro rfl (And.intro rfl (And.intro rfl (And.intro rfl (And.intro rfl (And.intro rfl (And.intro rfl (And.intro rfl (And.intro rfl (trivial))))))))))))))))), rfl, ?_⟩
    refine FW.glast ?_ ?_
    ·skip
     refine FW.gskip rfl rfl ?_
     refine FW.gskip rfl rfl ?_
     refine FW.gskip rfl rfl ?_
     refine FW.gskip rfl rfl ?_
     refine FW.gskip rfl rfl ?_
     refine FW.gskip rfl rfl ?_
     refine FW.gskip rfl rfl ?_
     refine FW.gskip rfl rfl ?_
     refine FW.gskip rfl rfl ?_
     refine FW.gskip rfl rfl ?_
     refine FW.gskip rfl rfl ?_
     refine FW.gskip rfl rfl ?_
     refine FW.gskip rfl rfl ?_
     refine FW.gskip rfl rfl ?_
     refine FW.gskip rfl rfl ?_
     refine FW.gskip rfl rfl ?_
     refine FW.gfun (y := .lit (.int .i64 v5)) rfl rfl rfl rfl (fun a w hk => FW.f_move hk FW.h0 rfl) ?_
     refine FW.gfun (y := .lit (.int .i64 (IntKind.wrap .i64 (v5 + 4)))) rfl rfl rfl rfl (fun a w hk => (FW.f_pure (FW.p_add hk.kn FW.h0 rfl rfl))) ?_
     refine FW.gfun (y := .lit (.slice ad3 (List.length (l1 ++ ([(IntKind.wrap .u8 (IntKind.wrap .i64 ((IntKind.wrap .i64 (16 * t3)) + t4)))] : List Int))) cap3)) rfl rfl rfl rfl (fun a w hk => FW.f_assign hk FW.h0 rfl) ?_
     refine FW.gfun (y := .lit (.int .i64 (IntKind.wrap .i64 (v5 + 4)))) rfl rfl rfl rfl (fun a w hk => FW.f_assign hk FW.h0 rfl) ?_
     exact FW.gend
    ·skip
     intro a w hk; simp only [FW.stD, cond_true] at hk
     (repeat first | refine FW.tn ?_ | refine FW.bn ?_); exact q8 (kl1, (l1 ++ ([(IntKind.wrap .u8 (IntKind.wrap .i64 ((IntKind.wrap .i64 (16 * t3)) + t4)))] : List Int)), v0, (IntKind.wrap .i64 (v5 + 4)), ad3, cap3) _ _ (Nat.lt_succ_self _) ⟨hk.sub ⟨rfl, rfl, rfl, trivial⟩, h⟩
 refine wp_exit ?_; (repeat first | refine FW.then_exit ?_ | refine FW.block_exit_ne rfl ?_); refine FW.block_exit ?_
 (repeat first | refine FW.tn ?_ | refine FW.bn ?_); refine q6 _ _ ?_
 refine FW.wreg fun _ q28 => ?_
 refine FW.sA hk fun a w hk => ?_
 refine FW.sA hk fun a w hk => ?_
 refine FW.lend (q28 _ _ ?_)
 refine wp_ret ?_
 (repeat first | refine FW.then_ret ?_ | refine FW.block_ret ?_)
 obtain rfl := Option.some.inj h
 exact FW.fret2 hk rfl rfl rfl

theorem r01_Canon.ok  (v0 : Nat) (r : Int) (h : r01_Canon.f v0 = some r) :
  FW.Ok Try.prog 35 [.lit (.float .f64 v0)] (.lit (.int .u64 r)) := by
 refine FW.enter (xs := [.lit (.float .f64 v0)]) Try.func35 rfl Try.ntmps35 rfl ?_
 intro M w0 a hk
 unfold r01_Canon.f at h
 refine FW.wreg fun _ q1 => ?_
 refine FW.sA hk fun a w hk => ?_
 refine FW.lend (q1 _ _ ?_)
 refine FW.wseq fun _ q2 => ?_
 refine FW.wreg fun _ q3 => ?_
 refine FW.sM hk fun a w hk => ?_
 refine FW.sM hk fun a w hk => ?_
 refine FW.lf (y := .lit (.bool (FW.fneq v0 v0))) hk ((FW.f_pure (FW.p_fneq hk.kn FW.h0 rfl rfl))) fun a w hk => ?_
 refine FW.lend (q3 _ _ ?_)
 refine FW.wcondF (b := (FW.fneq v0 v0)) hk h rfl (fun h hb => ?_) (fun h hb => ?_)
 ·skip
  refine FW.wreg fun _ q4 => ?_
  refine FW.sA hk fun a w hk => ?_
  refine FW.lend (q4 _ _ ?_)
  refine wp_ret ?_
  (repeat first | refine FW.then_ret ?_ | refine FW.block_ret ?_)
  obtain rfl := Option.some.inj h
  exact FW.fret1 hk rfl rfl
 refine wp_skip ?_
 (repeat first | refine FW.tn ?_ | refine FW.bn ?_); refine q2 _ _ ?_
 refine FW.wreg fun _ q5 => ?_
 refine FW.sM hk fun a w hk => ?_
 refine FW.lf (y := .lit (.int .u64 ((v0 : Nat) : Int))) hk (FW.f_bits hk FW.h0 rfl rfl Try.func57 (by kernel_rfl) (by kernel_rfl) (by kernel_rfl) (by kernel_rfl)) fun a w hk => ?_
 refine FW.sA hk fun a w hk => ?_
 refine FW.lend (q5 _ _ ?_)
 refine wp_ret ?_
 (repeat first | refine FW.then_ret ?_ | refine FW.block_ret ?_)
 obtain rfl := Option.some.inj h
 exact FW.fret1 hk rfl rfl
end Go.Proofs.Ytbjbgodcenopnaa

/- Written by a program of this session (gen.py): the contracts of functions of the program. -/
import Derived.Test.YtbjbgodcenopnaaCbP2
namespace Go.Proofs.Ytbjbgodcenopnaa
set_option linter.unusedVariables false
set_option maxRecDepth 20000
set_option maxHeartbeats 10000000
theorem r11_Words.ok (K : Nat) (v0 : List UInt8) (r : List ApiWord × Int × Int) (h : r11_Words.f K v0 = some r) :
  FW.Ok Try.prog 25 [.lit (.string (FW.B v0))] (.tup [.row (r_ApiWord_cells r.1), .lit (.int .i64 r.2.1), .lit (.int .i64 r.2.2)]) := by
 refine FW.enter (xs := [.lit (.string (FW.B v0))]) Try.func25 rfl Try.ntmps25 rfl ?_
 intro M w0 a hk
 unfold r11_Words.f at h
 refine FW.wreg fun _ q1 => ?_
 refine FW.lf (y := .row (r_ApiWord_cells [])) hk (FW.f_assignNil) fun a w hk => ?_
 refine FW.sA hk fun a w hk => ?_
 refine FW.sA hk fun a w hk => ?_
 refine FW.lend (q1 _ _ ?_)
 refine FW.wseq fun _ q2 => ?_
 refine FW.wreg fun _ q3 => ?_
 refine FW.sM hk fun a w hk => ?_
 refine FW.lf (y := .lit (.int .i64 (List.length v0 : Int))) hk ((FW.f_pure (FW.p_slen Try.underlying9 hk.kn FW.h0 rfl))) fun a w hk => ?_
 refine FW.lf (y := .lit (.bool (decide (3000 < (List.length v0 : Int))))) hk ((FW.f_pure (FW.p_gtr hk.kn FW.h0 rfl rfl))) fun a w hk => ?_
 refine FW.lend (q3 _ _ ?_)
 refine FW.wcondF (b := (decide (3000 < (List.length v0 : Int)))) hk h rfl (fun h hb => ?_) (fun h hb => ?_)
 ·skip
  refine FW.wreg fun _ q4 => ?_
  refine FW.lf (y := .row (r_ApiWord_cells [])) hk (FW.f_assignNil) fun a w hk => ?_
  refine FW.sA hk fun a w hk => ?_
  refine FW.sA hk fun a w hk => ?_
  refine FW.lend (q4 _ _ ?_)
  refine wp_ret ?_
  (repeat first | refine FW.then_ret ?_ | refine FW.block_ret ?_)
  obtain rfl := Option.some.inj h
  exact FW.fret3 hk rfl rfl rfl rfl
 refine wp_skip ?_
 (repeat first | refine FW.tn ?_ | refine FW.bn ?_); refine q2 _ _ ?_
 refine FW.wreg fun _ q5 => ?_
 refine FW.l_buildSlice0 (f := ApiWord.cells) hk rfl rfl Try.underlying60 rfl (fun _ => rfl) ?_; clear hk; intro bx1 a w hk
 refine FW.sA hk fun a w hk => ?_
 refine FW.lend (q5 _ _ ?_)
 refine FW.wseq fun _ q6 => ?_
 refine FW.wreg fun _ q7 => ?_
 refine FW.sA hk fun a w hk => ?_
 refine FW.lend (q7 _ _ ?_)
 refine wp_block ?_
 refine FW.wloop (T := Nat × List ApiWord × List UInt8 × Int × Option Addr × Nat) (fun x a w => match x with | (kl1, l1, v0, v6, xd1, xc1) => FW.S M w0 a w 52 [FW.orow xd1 xc1 66 5 ApiWord.cells l1] [(0, [], .lit (.string (FW.B v0))), (5, [], .lit (.slice xd1 (List.length l1) xc1)), (6, [], .lit (.int .i64 v6))] ∧ r11_Words.l1 K kl1 l1 v0 v6 = some r) (fun x => x.1) (K, ([] : List ApiWord), v0, 0, (some ⟨bx1, 0, none⟩), 0) ⟨hk.sub ⟨rfl, rfl, rfl, trivial⟩, h⟩ ?_
 clear hk h
 rintro ⟨kl1, l1, v0, v6, xd1, xc1⟩ a w ⟨hk, h⟩ K' q8
 cases kl1 with
 | zero => simp [r11_Words.l1] at h
 | succ kl1 =>
 rw [r11_Words.l1.eq_2] at h
 refine FW.wseq fun _ q9 => ?_
 refine FW.wreg fun _ q10 => ?_
 refine FW.sM hk fun a w hk => ?_
 refine FW.sM hk fun a w hk => ?_
 refine FW.lf (y := .lit (.int .i64 (List.length v0 : Int))) hk ((FW.f_pure (FW.p_slen Try.underlying9 hk.kn FW.h0 rfl))) fun a w hk => ?_
 refine FW.sLt hk fun a w hk => ?_
 refine FW.lend (q10 _ _ ?_)
 refine FW.wcondF (b := (decide (v6 < (List.length v0 : Int)))) hk h rfl (fun h hb => ?_) (fun h hb => ?_)
 ·skip
  refine wp_skip ?_
  (repeat first | refine FW.tn ?_ | refine FW.bn ?_); refine q9 _ _ ?_
  refine wp_block ?_
  refine FW.wseq fun _ q11 => ?_
  refine FW.wreg fun _ q12 => ?_
  refine FW.sM hk fun a w hk => ?_
  refine FW.sM hk fun a w hk => ?_
  obtain ⟨hc1, h⟩ := FW.chk h
  refine FW.lf (y := .lit (.int .u8 (FW.bt v0 v6))) hk ((FW.f_pure (FW.p_index Try.underlying9 hk.kn FW.h0 rfl rfl hc1))) fun a w hk => ?_
  refine FW.sEq hk fun a w hk => ?_
  refine FW.lend (q12 _ _ ?_)
  refine FW.wcondF (b := (decide ((FW.bt v0 v6) = 32))) hk h rfl (fun h hb => ?_) (fun h hb => ?_)
  ·skip
   refine FW.wreg fun _ q13 => ?_
   refine FW.sM hk fun a w hk => ?_
   refine FW.sAd hk fun a w hk => ?_
   refine FW.sA hk fun a w hk => ?_
   refine FW.lend (q13 _ _ ?_)
   refine wp_exit ?_; (repeat first | refine FW.then_exit ?_ | refine FW.block_exit_ne rfl ?_); refine FW.block_exit ?_
   (repeat first | refine FW.tn ?_ | refine FW.bn ?_); exact q8 (kl1, l1, v0, (IntKind.wrap .i64 (v6 + 1)), xd1, xc1) _ _ (Nat.lt_succ_self _) ⟨hk.sub ⟨rfl, rfl, rfl, trivial⟩, h⟩
  refine wp_skip ?_
  (repeat first | refine FW.tn ?_ | refine FW.bn ?_); refine q11 _ _ ?_
  refine FW.wreg fun _ q14 => ?_
  refine FW.sM hk fun a w hk => ?_
  refine FW.sM hk fun a w hk => ?_
  obtain ⟨hc2, h⟩ := FW.chk h
  refine FW.lf (y := .lit (.string (FW.B (List.drop (Int.toNat v6) v0)))) hk ((FW.f_pure (FW.p_slice_lo Try.underlying9 hk.kn FW.h0 rfl rfl hc2))) fun a w hk => ?_
  obtain ⟨t1, hr_t1, h⟩ := FW.bnd h
  refine FW.lf (y := .tup [.agg ((ApiWord.cells t1.1)), .lit (.int .i64 t1.2)]) hk (FW.f_call hk FW.h0 rfl rfl Try.func50 rfl (by kernel_rfl) (r11_one.ok K (List.drop (Int.toNat v6) v0) _ hr_t1)) fun a w hk => ?_
  refine FW.sM hk fun a w hk => ?_
  refine FW.lf (y := .agg ((ApiWord.cells t1.1))) hk (FW.f_extract hk FW.h0 rfl rfl) fun a w hk => ?_
  refine FW.lf (y := .lit (.int .i64 t1.2)) hk (FW.f_extract hk FW.h0 rfl rfl) fun a w hk => ?_
  refine FW.l_alloc (zs := (ApiWord.cells (⟨0, [], 0, 0, 0⟩ : ApiWord))) [] hk rfl rfl rfl rfl ?_; clear hk; intro bx2 a w hk
  refine FW.st0 (cs' := (ApiWord.cells t1.1)) hk rfl (by kernel_rfl) fun w hk => ?_
  refine FW.sA hk fun a w hk => ?_
  refine FW.lend (q14 _ _ ?_)
  refine FW.wseq fun _ q15 => ?_
  refine FW.wreg fun _ q16 => ?_
  refine FW.sM hk fun a w hk => ?_
  refine FW.sEq hk fun a w hk => ?_
  refine FW.lend (q16 _ _ ?_)
  refine FW.wcondF (b := (decide (t1.2 = 0))) hk h rfl (fun h hb => ?_) (fun h hb => ?_)
  ·skip
   refine FW.wreg fun _ q17 => ?_
   refine FW.sM hk fun a w hk => ?_
   refine FW.lf (y := .row (r_ApiWord_cells [])) hk (FW.f_assignNil) fun a w hk => ?_
   refine FW.sA hk fun a w hk => ?_
   refine FW.sA hk fun a w hk => ?_
   refine FW.lend (q17 _ _ ?_)
   refine wp_ret ?_
   (repeat first | refine FW.then_ret ?_ | refine FW.block_ret ?_)
   obtain rfl := Option.some.inj h
   exact FW.fret3 hk rfl rfl rfl rfl
  refine wp_skip ?_
  (repeat first | refine FW.tn ?_ | refine FW.bn ?_); refine q15 _ _ ?_
  refine FW.wseq fun _ q18 => ?_
  refine FW.wreg fun _ q19 => ?_
  refine FW.sM hk fun a w hk => ?_
  refine FW.lf (y := .lit (.int .i64 (List.length l1 : Int))) hk ((FW.f_pure (FW.p_len Try.underlying60 hk.kn FW.h0 rfl))) fun a w hk => ?_
  refine FW.sEq hk fun a w hk => ?_
  refine FW.lend (q19 _ _ ?_)
  refine FW.wcondF (b := (decide ((List.length l1 : Int) = 1500))) hk h rfl (fun h hb => ?_) (fun h hb => ?_)
  ·skip
   refine FW.wreg fun _ q20 => ?_
   refine FW.sM hk fun a w hk => ?_
   refine FW.lf (y := .row (r_ApiWord_cells [])) hk (FW.f_assignNil) fun a w hk => ?_
   refine FW.sA hk fun a w hk => ?_
   refine FW.sA hk fun a w hk => ?_
   refine FW.lend (q20 _ _ ?_)
   refine wp_ret ?_
   (repeat first | refine FW.then_ret ?_ | refine FW.block_ret ?_)
   obtain rfl := Option.some.inj h
   exact FW.fret3 hk rfl rfl rfl rfl
  refine wp_skip ?_
  (repeat first | refine FW.tn ?_ | refine FW.bn ?_); refine q18 _ _ ?_
  refine FW.wreg fun _ q21 => ?_
  refine FW.sM hk fun a w hk => ?_
  refine FW.sFp 4 hk Try.underlying66 fun a w hk => ?_
  refine FW.st0 (cs' := (ApiWord.cells (⟨t1.1.Kind, t1.1.S, t1.1.N, t1.1.F, v6⟩ : ApiWord))) hk rfl (by kernel_rfl) fun w hk => ?_
  refine FW.lend (q21 _ _ ?_)
  refine FW.wreg1 ?_
  refine FW.sM hk fun a w hk => ?_
  refine FW.lf (y := .agg ((ApiWord.cells (⟨t1.1.Kind, t1.1.S, t1.1.N, t1.1.F, v6⟩ : ApiWord)))) hk (FW.f_loadBlk hk FW.h0 (j := 0) rfl rfl Try.underlying66 rfl rfl rfl rfl) fun a w hk => ?_
  refine FW.l_buildSlice (f := ApiWord.cells) (l := ([(⟨t1.1.Kind, t1.1.S, t1.1.N, t1.1.F, v6⟩ : ApiWord)] : List ApiWord)) hk rfl rfl rfl Try.underlying60 rfl rfl rfl rfl (fun _ => rfl) rfl ?_; clear hk; intro bx3 a w hk
  obtain ⟨hc3, h⟩ := FW.chk h
  refine FW.l_append (l2 := ([(⟨t1.1.Kind, t1.1.S, t1.1.N, t1.1.F, v6⟩ : ApiWord)] : List ApiWord)) (l3 := (l1 ++ ([(⟨t1.1.Kind, t1.1.S, t1.1.N, t1.1.F, v6⟩ : ApiWord)] : List ApiWord))) (I' := fun ad1 cap1 => [FW.orow (some ⟨bx3, 0, none⟩) 1 66 5 ApiWord.cells ([(⟨t1.1.Kind, t1.1.S, t1.1.N, t1.1.F, v6⟩ : ApiWord)] : List ApiWord), FW.blk bx2 66 ((ApiWord.cells (⟨t1.1.Kind, t1.1.S, t1.1.N, t1.1.F, v6⟩ : ApiWord))), FW.orow ad1 cap1 66 5 ApiWord.cells (l1 ++ ([(⟨t1.1.Kind, t1.1.S, t1.1.N, t1.1.F, v6⟩ : ApiWord)] : List ApiWord))]) (j := 2) hk rfl rfl rfl rfl (FW.own_src hk (j := 0) rfl rfl (fun _ => rfl) Try.underlying60) Try.underlying60 (by kernel_rfl) hc3 rfl (fun _ _ => rfl) ?_; clear hk; intro ad1 cap1 a w hk
  replace hk := FW.S.dropI (I' := [FW.blk bx2 66 ((ApiWord.cells (⟨t1.1.Kind, t1.1.S, t1.1.N, t1.1.F, v6⟩ : ApiWord))), FW.orow ad1 cap1 66 5 ApiWord.cells (l1 ++ ([(⟨t1.1.Kind, t1.1.S, t1.1.N, t1.1.F, v6⟩ : ApiWord)] : List ApiWord))]) hk 0 rfl
  refine FW.sM hk fun a w hk => ?_
  refine FW.sM hk fun a w hk => ?_
  refine FW.sAd hk fun a w hk => ?_
  refine FW.sA hk fun a w hk => ?_
  refine FW.sA hk fun a w hk => ?_
  refine wpList_nil ?_
  (repeat first | refine FW.tn ?_ | refine FW.bn ?_); exact q8 (kl1, (l1 ++ ([(⟨t1.1.Kind, t1.1.S, t1.1.N, t1.1.F, v6⟩ : ApiWord)] : List ApiWord)), v0, (IntKind.wrap .i64 (v6 + t1.2)), ad1, cap1) _ _ (Nat.lt_succ_self _) ⟨(hk.drop 0).sub ⟨rfl, rfl, rfl, trivial⟩, h⟩
 refine wp_exit ?_; (repeat first | refine FW.then_exit ?_ | refine FW.block_exit_ne rfl ?_); refine FW.block_exit ?_
 (repeat first | refine FW.tn ?_ | refine FW.bn ?_); refine q6 _ _ ?_
 refine FW.wreg fun _ q23 => ?_
 refine FW.sM hk fun a w hk => ?_
 refine FW.sM hk fun a w hk => ?_
 refine FW.lf (y := .lit (.int .i64 (List.length v0 : Int))) hk ((FW.f_pure (FW.p_slen Try.underlying9 hk.kn FW.h0 rfl))) fun a w hk => ?_
 refine FW.lf (y := .agg ((ApiWord.cells (⟨0, [], 0, 0, (List.length v0 : Int)⟩ : ApiWord)))) hk (FW.f_build hk FW.h0 rfl rfl) fun a w hk => ?_
 refine FW.l_buildSlice (f := ApiWord.cells) (l := ([(⟨0, [], 0, 0, (List.length v0 : Int)⟩ : ApiWord)] : List ApiWord)) hk rfl rfl rfl Try.underlying60 rfl rfl rfl rfl (fun _ => rfl) rfl ?_; clear hk; intro bx4 a w hk
 obtain ⟨hc4, h⟩ := FW.chk h
 refine FW.l_append (l2 := ([(⟨0, [], 0, 0, (List.length v0 : Int)⟩ : ApiWord)] : List ApiWord)) (l3 := (l1 ++ ([(⟨0, [], 0, 0, (List.length v0 : Int)⟩ : ApiWord)] : List ApiWord))) (I' := fun ad2 cap2 => [FW.orow (some ⟨bx4, 0, none⟩) 1 66 5 ApiWord.cells ([(⟨0, [], 0, 0, (List.length v0 : Int)⟩ : ApiWord)] : List ApiWord), FW.orow ad2 cap2 66 5 ApiWord.cells (l1 ++ ([(⟨0, [], 0, 0, (List.length v0 : Int)⟩ : ApiWord)] : List ApiWord))]) (j := 1) hk rfl rfl rfl rfl (FW.own_src hk (j := 0) rfl rfl (fun _ => rfl) Try.underlying60) Try.underlying60 (by kernel_rfl) hc4 rfl (fun _ _ => rfl) ?_; clear hk; intro ad2 cap2 a w hk
 replace hk := FW.S.dropI (I' := [FW.orow ad2 cap2 66 5 ApiWord.cells (l1 ++ ([(⟨0, [], 0, 0, (List.length v0 : Int)⟩ : ApiWord)] : List ApiWord))]) hk 0 rfl
 refine FW.sA hk fun a w hk => ?_
 refine FW.sA hk fun a w hk => ?_
 refine FW.sA hk fun a w hk => ?_
 refine FW.lend (q23 _ _ ?_)
 refine wp_ret ?_
 (repeat first | refine FW.then_ret ?_ | refine FW.block_ret ?_)
 replace hk := FW.S.freezeR (I' := []) r_ApiWord_cells_eq hk (j := 0) rfl (t := 2) rfl rfl
 obtain rfl := Option.some.inj h
 exact FW.fret3 hk rfl rfl rfl rfl

theorem p12_is.ok  (v0 : St12) (v1 : List UInt8) (r : Bool) (h : p12_is.f v0 v1 = some r) :
  FW.Ok Try.prog 51 [.agg (St12.cells v0), .lit (.string (FW.B v1))] (.lit (.bool r)) := by
 refine FW.enter (xs := [.agg (St12.cells v0), .lit (.string (FW.B v1))]) Try.func51 rfl Try.ntmps51 rfl ?_
 intro M w0 a hk
 unfold p12_is.f at h
 refine FW.wreg fun _ q1 => ?_
 refine FW.l_box (cs := (St12.cells v0)) hk rfl rfl rfl rfl rfl ?_; clear hk; intro bx1 a w hk
 refine FW.sA hk fun a w hk => ?_
 refine FW.lend (q1 _ _ ?_)
 refine FW.wreg fun _ q2 => ?_
 refine FW.sFp 5 hk Try.underlying64 fun a w hk => ?_
 refine FW.lf (y := .lit (.int .i64 v0.E)) hk (FW.f_loadBlk1 hk FW.h0 (j := 0) rfl rfl Try.underlying23 rfl rfl) fun a w hk => ?_
 refine FW.sEq hk fun a w hk => ?_
 refine FW.sM hk fun a w hk => ?_
 refine FW.lg (y := .lit (.pointer (some ⟨bx1, 0, none⟩))) hk rfl rfl rfl (fun hc => FW.f_fieldPtr hk hc rfl Try.underlying64 rfl (by kernel_rfl) rfl) fun a w hk => ?_
 refine FW.lg (y := .row (r_ApiWord_cells v0.L)) hk rfl rfl rfl (fun hc => FW.f_loadBlk1 hk hc (j := 0) rfl rfl Try.underlying60 rfl rfl) fun a w hk => ?_
 refine FW.lg (y := .lit (.pointer (some ⟨bx1, 1, none⟩))) hk rfl rfl rfl (fun hc => FW.f_fieldPtr hk hc rfl Try.underlying64 rfl (by kernel_rfl) rfl) fun a w hk => ?_
 refine FW.lg (y := .lit (.int .i64 v0.I)) hk rfl rfl rfl (fun hc => FW.f_loadBlk1 hk hc (j := 0) rfl rfl Try.underlying3 rfl rfl) fun a w hk => ?_
 obtain ⟨hc1, h⟩ := FW.chk h
 refine FW.lg (y := .ref (ApiWord.cells (List.getD v0.L (Int.toNat v0.I) default))) hk rfl rfl rfl (fun hc => FW.f_indexAddr (R := r_ApiWord_cells) (f := ApiWord.cells) (l := v0.L) (sz := 5) r_ApiWord_cells_eq (fun _ => rfl) hk hc rfl rfl Try.underlying60 (by kernel_rfl) hc1) fun a w hk => ?_
 refine FW.lg (y := .ref (List.drop 0 (ApiWord.cells (List.getD v0.L (Int.toNat v0.I) default)))) hk rfl rfl rfl (fun hc => FW.f_fieldAddr hk hc rfl Try.underlying66 rfl (by kernel_rfl) rfl) fun a w hk => ?_
 refine FW.lg (y := .lit (.int .i64 ((List.getD v0.L (Int.toNat v0.I) default).Kind))) hk rfl rfl rfl (fun hc => FW.f_load1 hk hc rfl rfl Try.underlying3 rfl) fun a w hk => ?_
 refine FW.lg (y := .lit (.bool (decide (((List.getD v0.L (Int.toNat v0.I) default).Kind) = 5)))) hk rfl rfl rfl (fun hc => (FW.f_pure (FW.p_eql hk.kn hc rfl rfl))) fun a w hk => ?_
 refine FW.sAn hk fun a w hk => ?_
 refine FW.sM hk fun a w hk => ?_
 refine FW.lg (y := .lit (.pointer (some ⟨bx1, 0, none⟩))) hk rfl rfl rfl (fun hc => FW.f_fieldPtr hk hc rfl Try.underlying64 rfl (by kernel_rfl) rfl) fun a w hk => ?_
 refine FW.lg (y := .row (r_ApiWord_cells v0.L)) hk rfl rfl rfl (fun hc => FW.f_loadBlk1 hk hc (j := 0) rfl rfl Try.underlying60 rfl rfl) fun a w hk => ?_
 refine FW.lg (y := .lit (.pointer (some ⟨bx1, 1, none⟩))) hk rfl rfl rfl (fun hc => FW.f_fieldPtr hk hc rfl Try.underlying64 rfl (by kernel_rfl) rfl) fun a w hk => ?_
 refine FW.lg (y := .lit (.int .i64 v0.I)) hk rfl rfl rfl (fun hc => FW.f_loadBlk1 hk hc (j := 0) rfl rfl Try.underlying3 rfl rfl) fun a w hk => ?_
 obtain ⟨hc2, h⟩ := FW.chk h
 refine FW.lg (y := .ref (ApiWord.cells (List.getD v0.L (Int.toNat v0.I) default))) hk rfl rfl rfl (fun hc => FW.f_indexAddr (R := r_ApiWord_cells) (f := ApiWord.cells) (l := v0.L) (sz := 5) r_ApiWord_cells_eq (fun _ => rfl) hk hc rfl rfl Try.underlying60 (by kernel_rfl) hc2) fun a w hk => ?_
 refine FW.lg (y := .ref (List.drop 1 (ApiWord.cells (List.getD v0.L (Int.toNat v0.I) default)))) hk rfl rfl rfl (fun hc => FW.f_fieldAddr hk hc rfl Try.underlying66 rfl (by kernel_rfl) rfl) fun a w hk => ?_
 refine FW.lg (y := .lit (.string (FW.B ((List.getD v0.L (Int.toNat v0.I) default).S)))) hk rfl rfl rfl (fun hc => FW.f_load1 hk hc rfl rfl Try.underlying9 rfl) fun a w hk => ?_
 refine FW.lg (y := .lit (.string (FW.B v1))) hk rfl rfl rfl (fun hc => FW.f_move hk hc rfl) fun a w hk => ?_
 refine FW.lg (y := .lit (.bool (decide (((List.getD v0.L (Int.toNat v0.I) default).S) = v1)))) hk rfl rfl rfl (fun hc => (FW.f_pure (FW.p_seql hk.kn hc rfl rfl))) fun a w hk => ?_
 refine FW.sAn hk fun a w hk => ?_
 refine FW.sA hk fun a w hk => ?_
 refine FW.lend (q2 _ _ ?_)
 refine wp_ret ?_
 (repeat first | refine FW.then_ret ?_ | refine FW.block_ret ?_)
 obtain rfl := Option.some.inj h
 exact FW.fret1 hk rfl rfl

theorem p12_fail.ok  (v0 : St12) (v1 : Int) (r : St12) (h : p12_fail.f v0 v1 = some r) :
  FW.Ok Try.prog 28 [.agg (St12.cells v0), .lit (.int .i64 v1)] (.agg (St12.cells r)) := by
 refine FW.enter (xs := [.agg (St12.cells v0), .lit (.int .i64 v1)]) Try.func28 rfl Try.ntmps28 rfl ?_
 intro M w0 a hk
 unfold p12_fail.f at h
 refine FW.wreg fun _ q1 => ?_
 refine FW.l_box (cs := (St12.cells v0)) hk rfl rfl rfl rfl rfl ?_; clear hk; intro bx1 a w hk
 refine FW.l_alloc (zs := (St12.cells (⟨[], 0, 0, 0, 0, 0⟩ : St12))) [] hk rfl rfl rfl rfl ?_; clear hk; intro bx2 a w hk
 refine FW.lend (q1 _ _ ?_)
 refine FW.wseqJ (fun a w => ∃ (y1 : St12), FW.S M w0 a w 19 [FW.blk bx2 64 ((St12.cells (⟨[], 0, 0, 0, 0, 0⟩ : St12))), FW.blk bx1 64 ((St12.cells y1))] [(2, [], .lit (.pointer (some ⟨bx1, 0, none⟩))), (4, [], .lit (.pointer (some ⟨bx2, 0, none⟩)))] ∧ p12_fail.j1 y1 = some r) ?_ ?_
 ·clear hk h
  rintro a w ⟨y1, hk, h⟩
  unfold p12_fail.j1 at h
  refine FW.wreg fun _ q3 => ?_
  refine FW.lf (y := .agg ((St12.cells y1))) hk (FW.f_loadBlk hk FW.h0 (j := 1) rfl rfl Try.underlying64 rfl rfl rfl rfl) fun a w hk => ?_
  refine FW.st0 (cs' := (St12.cells y1)) hk rfl (by kernel_rfl) fun w hk => ?_
  refine FW.lend (q3 _ _ ?_)
  refine wp_ret ?_
  (repeat first | refine FW.then_ret ?_ | refine FW.block_ret ?_)
  obtain rfl := Option.some.inj h
  exact FW.fretR1 hk rfl (FW.rcell hk rfl (j := 0) rfl Try.underlying64 rfl (by kernel_rfl))
 ·intro K' q2
  refine FW.wreg fun _ q4 => ?_
  refine FW.sFp 5 hk Try.underlying64 fun a w hk => ?_
  refine FW.lf (y := .lit (.int .i64 v0.E)) hk (FW.f_loadBlk1 hk FW.h0 (j := 1) rfl rfl Try.underlying23 rfl rfl) fun a w hk => ?_
  refine FW.sEq hk fun a w hk => ?_
  refine FW.lend (q4 _ _ ?_)
  refine FW.wcondF (b := (decide (v0.E = 0))) hk h rfl (fun h hb => ?_) (fun h hb => ?_)
  ·skip
   refine FW.wreg1 ?_
   refine FW.sFp 0 hk Try.underlying64 fun a w hk => ?_
   refine FW.lf (y := .row (r_ApiWord_cells v0.L)) hk (FW.f_loadBlk1 hk FW.h0 (j := 1) rfl rfl Try.underlying60 rfl rfl) fun a w hk => ?_
   refine FW.sFp 1 hk Try.underlying64 fun a w hk => ?_
   refine FW.lf (y := .lit (.int .i64 v0.I)) hk (FW.f_loadBlk1 hk FW.h0 (j := 1) rfl rfl Try.underlying3 rfl rfl) fun a w hk => ?_
   obtain ⟨hc1, h⟩ := FW.chk h
   refine FW.lf (y := .ref (ApiWord.cells (List.getD v0.L (Int.toNat v0.I) default))) hk (FW.f_indexAddr (R := r_ApiWord_cells) (f := ApiWord.cells) (l := v0.L) (sz := 5) r_ApiWord_cells_eq (fun _ => rfl) hk FW.h0 rfl rfl Try.underlying60 (by kernel_rfl) hc1) fun a w hk => ?_
   refine FW.lf (y := .ref (List.drop 4 (ApiWord.cells (List.getD v0.L (Int.toNat v0.I) default)))) hk (FW.f_fieldAddr hk FW.h0 rfl Try.underlying66 rfl (by kernel_rfl) rfl) fun a w hk => ?_
   refine FW.lf (y := .lit (.int .i64 ((List.getD v0.L (Int.toNat v0.I) default).At))) hk (FW.f_load1 hk FW.h0 rfl rfl Try.underlying3 rfl) fun a w hk => ?_
   refine FW.sM hk fun a w hk => ?_
   refine FW.sFp 4 hk Try.underlying64 fun a w hk => ?_
   refine FW.st1 (cs' := (St12.cells (⟨v0.L, v0.I, v0.Deep, v0.Steps, (List.getD v0.L (Int.toNat v0.I) default).At, v0.E⟩ : St12))) hk rfl (by kernel_rfl) fun w hk => ?_
   refine FW.sFp 5 hk Try.underlying64 fun a w hk => ?_
   refine FW.st1 (cs' := (St12.cells (⟨v0.L, v0.I, v0.Deep, v0.Steps, (List.getD v0.L (Int.toNat v0.I) default).At, v1⟩ : St12))) hk rfl (by kernel_rfl) fun w hk => ?_
   refine wpList_nil ?_
   (repeat first | refine FW.tn ?_ | refine FW.bn ?_); exact q2 _ _ ⟨(⟨v0.L, v0.I, v0.Deep, v0.Steps, (List.getD v0.L (Int.toNat v0.I) default).At, v1⟩ : St12), hk.sub ⟨rfl, rfl, trivial⟩, h⟩
  refine wp_skip ?_
  (repeat first | refine FW.tn ?_ | refine FW.bn ?_); exact q2 _ _ ⟨v0, hk.sub ⟨rfl, rfl, trivial⟩, h⟩

theorem p12_sign.ok  (v0 : St12) (v1 : List UInt8) (r : St12) (h : p12_sign.f v0 v1 = some r) :
  FW.Ok Try.prog 26 [.agg (St12.cells v0), .lit (.string (FW.B v1))] (.agg (St12.cells r)) := by
 refine FW.enter (xs := [.agg (St12.cells v0), .lit (.string (FW.B v1))]) Try.func26 rfl Try.ntmps26 rfl ?_
 intro M w0 a hk
 unfold p12_sign.f at h
 refine FW.wreg fun _ q1 => ?_
 refine FW.l_box (cs := (St12.cells v0)) hk rfl rfl rfl rfl rfl ?_; clear hk; intro bx1 a w hk
 refine FW.l_alloc (zs := (St12.cells (⟨[], 0, 0, 0, 0, 0⟩ : St12))) [] hk rfl rfl rfl rfl ?_; clear hk; intro bx2 a w hk
 refine FW.lend (q1 _ _ ?_)
 refine FW.wseq fun _ q2 => ?_
 refine FW.wreg fun _ q3 => ?_
 refine FW.sFp 5 hk Try.underlying64 fun a w hk => ?_
 refine FW.lf (y := .lit (.int .i64 v0.E)) hk (FW.f_loadBlk1 hk FW.h0 (j := 1) rfl rfl Try.underlying23 rfl rfl) fun a w hk => ?_
 refine FW.lf (y := .lit (.bool (!decide (v0.E = 0)))) hk ((FW.f_pure (FW.p_neq hk.kn FW.h0 rfl rfl))) fun a w hk => ?_
 refine FW.lend (q3 _ _ ?_)
 refine FW.wcondF (b := (!decide (v0.E = 0))) hk h rfl (fun h hb => ?_) (fun h hb => ?_)
 ·skip
  refine FW.wreg fun _ q4 => ?_
  refine FW.lf (y := .agg ((St12.cells v0))) hk (FW.f_loadBlk hk FW.h0 (j := 1) rfl rfl Try.underlying64 rfl rfl rfl rfl) fun a w hk => ?_
  refine FW.st0 (cs' := (St12.cells v0)) hk rfl (by kernel_rfl) fun w hk => ?_
  refine FW.lend (q4 _ _ ?_)
  refine wp_ret ?_
  (repeat first | refine FW.then_ret ?_ | refine FW.block_ret ?_)
  obtain rfl := Option.some.inj h
  exact FW.fretR1 hk rfl (FW.rcell hk rfl (j := 0) rfl Try.underlying64 rfl (by kernel_rfl))
 refine wp_skip ?_
 (repeat first | refine FW.tn ?_ | refine FW.bn ?_); refine q2 _ _ ?_
 refine FW.wseq fun _ q5 => ?_
 refine FW.wreg fun _ q6 => ?_
 refine FW.lf (y := .agg ((St12.cells v0))) hk (FW.f_loadBlk hk FW.h0 (j := 1) rfl rfl Try.underlying64 rfl rfl rfl rfl) fun a w hk => ?_
 refine FW.sM hk fun a w hk => ?_
 obtain ⟨t1, hr_t1, h⟩ := FW.bnd h
 refine FW.lf (y := .lit (.bool t1)) hk (FW.f_call hk FW.h0 rfl rfl Try.func51 rfl (by kernel_rfl) (p12_is.ok v0 v1 _ hr_t1)) fun a w hk => ?_
 refine FW.lf (y := .lit (.bool (!t1))) hk ((FW.f_pure (FW.p_not hk.kn FW.h0 rfl))) fun a w hk => ?_
 refine FW.lend (q6 _ _ ?_)
 refine FW.wcondF (b := (!t1)) hk h rfl (fun h hb => ?_) (fun h hb => ?_)
 ·skip
  refine FW.wreg fun _ q7 => ?_
  refine FW.lf (y := .agg ((St12.cells v0))) hk (FW.f_loadBlk hk FW.h0 (j := 1) rfl rfl Try.underlying64 rfl rfl rfl rfl) fun a w hk => ?_
  obtain ⟨t2, hr_t2, h⟩ := FW.bnd h
  refine FW.lf (y := .agg ((St12.cells t2))) hk (FW.f_call hk FW.h0 rfl rfl Try.func28 rfl (by kernel_rfl) (p12_fail.ok v0 120 _ hr_t2)) fun a w hk => ?_
  refine FW.st0 (cs' := (St12.cells t2)) hk rfl (by kernel_rfl) fun w hk => ?_
  refine FW.lend (q7 _ _ ?_)
  refine wp_ret ?_
  (repeat first | refine FW.then_ret ?_ | refine FW.block_ret ?_)
  obtain rfl := Option.some.inj h
  exact FW.fretR1 hk rfl (FW.rcell hk rfl (j := 0) rfl Try.underlying64 rfl (by kernel_rfl))
 refine wp_skip ?_
 (repeat first | refine FW.tn ?_ | refine FW.bn ?_); refine q5 _ _ ?_
 refine FW.wreg fun _ q8 => ?_
 refine FW.sFp 1 hk Try.underlying64 fun a w hk => ?_
 refine FW.lf (y := .lit (.int .i64 v0.I)) hk (FW.f_loadBlk1 hk FW.h0 (j := 1) rfl rfl Try.underlying3 rfl rfl) fun a w hk => ?_
 refine FW.sAd hk fun a w hk => ?_
 refine FW.sFp 1 hk Try.underlying64 fun a w hk => ?_
 refine FW.st1 (cs' := (St12.cells (⟨v0.L, (IntKind.wrap .i64 (v0.I + 1)), v0.Deep, v0.Steps, v0.At, v0.E⟩ : St12))) hk rfl (by kernel_rfl) fun w hk => ?_
 refine FW.lend (q8 _ _ ?_)
 refine FW.wreg fun _ q9 => ?_
 refine FW.lf (y := .agg ((St12.cells (⟨v0.L, (IntKind.wrap .i64 (v0.I + 1)), v0.Deep, v0.Steps, v0.At, v0.E⟩ : St12)))) hk (FW.f_loadBlk hk FW.h0 (j := 1) rfl rfl Try.underlying64 rfl rfl rfl rfl) fun a w hk => ?_
 refine FW.st0 (cs' := (St12.cells (⟨v0.L, (IntKind.wrap .i64 (v0.I + 1)), v0.Deep, v0.Steps, v0.At, v0.E⟩ : St12))) hk rfl (by kernel_rfl) fun w hk => ?_
 refine FW.lend (q9 _ _ ?_)
 refine wp_ret ?_
 (repeat first | refine FW.then_ret ?_ | refine FW.block_ret ?_)
 obtain rfl := Option.some.inj h
 exact FW.fretR1 hk rfl (FW.rcell hk rfl (j := 0) rfl Try.underlying64 rfl (by kernel_rfl))

theorem p12_into.ok  (v0 : St12) (r : St12) (h : p12_into.f v0 = some r) :
  FW.Ok Try.prog 79 [.agg (St12.cells v0)] (.agg (St12.cells r)) := by
 refine FW.enter (xs := [.agg (St12.cells v0)]) Try.func79 rfl Try.ntmps79 rfl ?_
 intro M w0 a hk
 unfold p12_into.f at h
 refine FW.wreg fun _ q1 => ?_
 refine FW.l_box (cs := (St12.cells v0)) hk rfl rfl rfl rfl rfl ?_; clear hk; intro bx1 a w hk
 refine FW.l_alloc (zs := (St12.cells (⟨[], 0, 0, 0, 0, 0⟩ : St12))) [] hk rfl rfl rfl rfl ?_; clear hk; intro bx2 a w hk
 refine FW.lend (q1 _ _ ?_)
 refine FW.wseq fun _ q2 => ?_
 refine FW.wreg fun _ q3 => ?_
 refine FW.sFp 5 hk Try.underlying64 fun a w hk => ?_
 refine FW.lf (y := .lit (.int .i64 v0.E)) hk (FW.f_loadBlk1 hk FW.h0 (j := 1) rfl rfl Try.underlying23 rfl rfl) fun a w hk => ?_
 refine FW.lf (y := .lit (.bool (!decide (v0.E = 0)))) hk ((FW.f_pure (FW.p_neq hk.kn FW.h0 rfl rfl))) fun a w hk => ?_
 refine FW.lend (q3 _ _ ?_)
 refine FW.wcondF (b := (!decide (v0.E = 0))) hk h rfl (fun h hb => ?_) (fun h hb => ?_)
 ·skip
  refine FW.wreg fun _ q4 => ?_
  refine FW.lf (y := .agg ((St12.cells v0))) hk (FW.f_loadBlk hk FW.h0 (j := 1) rfl rfl Try.underlying64 rfl rfl rfl rfl) fun a w hk => ?_
  refine FW.st0 (cs' := (St12.cells v0)) hk rfl (by kernel_rfl) fun w hk => ?_
  refine FW.lend (q4 _ _ ?_)
  refine wp_ret ?_
  (repeat first | refine FW.then_ret ?_ | refine FW.block_ret ?_)
  obtain rfl := Option.some.inj h
  exact FW.fretR1 hk rfl (FW.rcell hk rfl (j := 0) rfl Try.underlying64 rfl (by kernel_rfl))
 refine wp_skip ?_
 (repeat first | refine FW.tn ?_ | refine FW.bn ?_); refine q2 _ _ ?_
 refine FW.wseq fun _ q5 => ?_
 refine FW.wreg fun _ q6 => ?_
 refine FW.sFp 2 hk Try.underlying64 fun a w hk => ?_
 refine FW.lf (y := .lit (.int .i64 v0.Deep)) hk (FW.f_loadBlk1 hk FW.h0 (j := 1) rfl rfl Try.underlying3 rfl rfl) fun a w hk => ?_
 refine FW.lf (y := .lit (.bool (decide (12 ≤ v0.Deep)))) hk ((FW.f_pure (FW.p_geq hk.kn FW.h0 rfl rfl))) fun a w hk => ?_
 refine FW.lend (q6 _ _ ?_)
 refine FW.wcondF (b := (decide (12 ≤ v0.Deep))) hk h rfl (fun h hb => ?_) (fun h hb => ?_)
 ·skip
  refine FW.wreg fun _ q7 => ?_
  refine FW.lf (y := .agg ((St12.cells v0))) hk (FW.f_loadBlk hk FW.h0 (j := 1) rfl rfl Try.underlying64 rfl rfl rfl rfl) fun a w hk => ?_
  obtain ⟨t1, hr_t1, h⟩ := FW.bnd h
  refine FW.lf (y := .agg ((St12.cells t1))) hk (FW.f_call hk FW.h0 rfl rfl Try.func28 rfl (by kernel_rfl) (p12_fail.ok v0 3 _ hr_t1)) fun a w hk => ?_
  refine FW.st0 (cs' := (St12.cells t1)) hk rfl (by kernel_rfl) fun w hk => ?_
  refine FW.lend (q7 _ _ ?_)
  refine wp_ret ?_
  (repeat first | refine FW.then_ret ?_ | refine FW.block_ret ?_)
  obtain rfl := Option.some.inj h
  exact FW.fretR1 hk rfl (FW.rcell hk rfl (j := 0) rfl Try.underlying64 rfl (by kernel_rfl))
 refine wp_skip ?_
 (repeat first | refine FW.tn ?_ | refine FW.bn ?_); refine q5 _ _ ?_
 refine FW.wreg fun _ q8 => ?_
 refine FW.sFp 2 hk Try.underlying64 fun a w hk => ?_
 refine FW.lf (y := .lit (.int .i64 v0.Deep)) hk (FW.f_loadBlk1 hk FW.h0 (j := 1) rfl rfl Try.underlying3 rfl rfl) fun a w hk => ?_
 refine FW.sAd hk fun a w hk => ?_
 refine FW.sFp 2 hk Try.underlying64 fun a w hk => ?_
 refine FW.st1 (cs' := (St12.cells (⟨v0.L, v0.I, (IntKind.wrap .i64 (v0.Deep + 1)), v0.Steps, v0.At, v0.E⟩ : St12))) hk rfl (by kernel_rfl) fun w hk => ?_
 refine FW.lend (q8 _ _ ?_)
 refine FW.wreg fun _ q9 => ?_
 refine FW.lf (y := .agg ((St12.cells (⟨v0.L, v0.I, (IntKind.wrap .i64 (v0.Deep + 1)), v0.Steps, v0.At, v0.E⟩ : St12)))) hk (FW.f_loadBlk hk FW.h0 (j := 1) rfl rfl Try.underlying64 rfl rfl rfl rfl) fun a w hk => ?_
 refine FW.st0 (cs' := (St12.cells (⟨v0.L, v0.I, (IntKind.wrap .i64 (v0.Deep + 1)), v0.Steps, v0.At, v0.E⟩ : St12))) hk rfl (by kernel_rfl) fun w hk => ?_
 refine FW.lend (q9 _ _ ?_)
 refine wp_ret ?_
 (repeat first | refine FW.then_ret ?_ | refine FW.block_ret ?_)
 obtain rfl := Option.some.inj h
 exact FW.fretR1 hk rfl (FW.rcell hk rfl (j := 0) rfl Try.underlying64 rfl (by kernel_rfl))
end Go.Proofs.Ytbjbgodcenopnaa

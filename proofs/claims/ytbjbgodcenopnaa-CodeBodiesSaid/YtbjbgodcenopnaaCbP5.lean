/- Written by a program of this session (gen.py): the contracts of functions of the program. -/
import Derived.Test.YtbjbgodcenopnaaCbP4
namespace Go.Proofs.Ytbjbgodcenopnaa
set_option linter.unusedVariables false
set_option maxRecDepth 20000
set_option maxHeartbeats 10000000
theorem p12_values.bok (zv : St12 → Option (St12 × ApiValue × Bool)) (zvs : St12 → List UInt8 → Option (St12 × List ApiValue)) (hzv : Zzv zv) (hzvs : Zzvs zvs) (K : Nat) (v0 : St12) (v1 : List UInt8) (r : St12 × List ApiValue) (h : p12_values.b zv zvs K v0 v1 = some r) :
  FW.Ok Try.prog 108 [.agg (St12.cells v0), .lit (.string (FW.B v1))] (.tup [.agg (St12.cells r.1), .row (r_ApiValue_cells r.2)]) := by
 refine FW.enter (xs := [.agg (St12.cells v0), .lit (.string (FW.B v1))]) Try.func108 rfl Try.ntmps108 rfl ?_
 intro M w0 a hk
 unfold p12_values.b at h
 refine FW.wreg fun _ q1 => ?_
 refine FW.l_box (cs := (St12.cells v0)) hk rfl rfl rfl rfl rfl ?_; clear hk; intro bx1 a w hk
 refine FW.l_alloc (zs := (St12.cells (⟨[], 0, 0, 0, 0, 0⟩ : St12))) [] hk rfl rfl rfl rfl ?_; clear hk; intro bx2 a w hk
 refine FW.lf (y := .row (r_ApiValue_cells [])) hk (FW.f_assignNil) fun a w hk => ?_
 refine FW.lend (q1 _ _ ?_)
 refine FW.wreg fun _ q2 => ?_
 refine FW.l_buildSlice0 (f := ApiValue.cells) hk rfl rfl Try.underlying31 rfl (fun _ => rfl) ?_; clear hk; intro bx3 a w hk
 refine FW.sA hk fun a w hk => ?_
 refine FW.lend (q2 _ _ ?_)
 refine FW.wseq fun _ q3 => ?_
 refine wp_block ?_
 refine FW.wloop (T := Nat × List ApiValue × St12 × List UInt8 × Option Addr × Nat) (fun x a w => match x with | (kl1, l3, y1, v1, xd3, xc3) => FW.S M w0 a w 49 [FW.orow xd3 xc3 33 6 ApiValue.cells l3, FW.blk bx2 64 ((St12.cells (⟨[], 0, 0, 0, 0, 0⟩ : St12))), FW.blk bx1 64 ((St12.cells y1))] [(1, [], .lit (.string (FW.B v1))), (2, [], .lit (.pointer (some ⟨bx1, 0, none⟩))), (4, [], .lit (.pointer (some ⟨bx2, 0, none⟩))), (6, [], .lit (.slice xd3 (List.length l3) xc3))] ∧ p12_values.l1 zv zvs K kl1 l3 y1 v1 = some r) (fun x => x.1) (K, ([] : List ApiValue), v0, v1, (some ⟨bx3, 0, none⟩), 0) ⟨hk.sub ⟨rfl, rfl, rfl, rfl, trivial⟩, h⟩ ?_
 clear hk h
 rintro ⟨kl1, l3, y1, v1, xd3, xc3⟩ a w ⟨hk, h⟩ K' q4
 cases kl1 with
 | zero => simp [p12_values.l1] at h
 | succ kl1 =>
 rw [p12_values.l1.eq_2] at h
 refine FW.wseq fun _ q5 => ?_
 refine FW.wreg fun _ q6 => ?_
 refine FW.sFp 5 hk Try.underlying64 fun a w hk => ?_
 refine FW.lf (y := .lit (.int .i64 y1.E)) hk (FW.f_loadBlk1 hk FW.h0 (j := 2) rfl rfl Try.underlying23 rfl rfl) fun a w hk => ?_
 refine FW.sEq hk fun a w hk => ?_
 refine FW.sM hk fun a w hk => ?_
 refine FW.lg (y := .agg ((St12.cells y1))) hk rfl rfl rfl (fun hc => FW.f_loadBlk hk hc (j := 2) rfl rfl Try.underlying64 rfl rfl rfl rfl) fun a w hk => ?_
 refine FW.lg (y := .lit (.string (FW.B v1))) hk rfl rfl rfl (fun hc => FW.f_move hk hc rfl) fun a w hk => ?_
 obtain ⟨t1, hr_t1, h⟩ := FW.bndG h
 refine FW.lg (y := .lit (.bool t1)) hk rfl rfl rfl (fun hc => FW.f_call hk hc rfl rfl Try.func51 rfl (by kernel_rfl) (p12_is.ok y1 v1 _ (hr_t1 (FW.asm_out (p := (decide (y1.E = 0)) = true) hk.kn hc (fun e0 => e0))))) fun a w hk => ?_
 refine FW.lg (y := .lit (.bool (!t1))) hk rfl rfl rfl (fun hc => (FW.f_pure (FW.p_not hk.kn hc rfl))) fun a w hk => ?_
 refine FW.sAn hk fun a w hk => ?_
 refine FW.lend (q6 _ _ ?_)
 refine FW.wcondF (b := ((decide (y1.E = 0)) && (!t1))) hk h rfl (fun h hb => ?_) (fun h hb => ?_)
 ·skip
  refine wp_skip ?_
  (repeat first | refine FW.tn ?_ | refine FW.bn ?_); refine q5 _ _ ?_
  refine wp_block ?_
  refine FW.wseqJ (fun a w => ∃ (y1 : St12) (v1 : List UInt8), FW.S M w0 a w 49 [FW.orow xd3 xc3 33 6 ApiValue.cells l3, FW.blk bx2 64 ((St12.cells (⟨[], 0, 0, 0, 0, 0⟩ : St12))), FW.blk bx1 64 ((St12.cells y1))] [(1, [], .lit (.string (FW.B v1))), (2, [], .lit (.pointer (some ⟨bx1, 0, none⟩))), (4, [], .lit (.pointer (some ⟨bx2, 0, none⟩))), (6, [], .lit (.slice xd3 (List.length l3) xc3))] ∧ p12_values.j1 zv zvs (p12_values.l1 zv zvs K kl1) K l3 y1 v1 = some r) ?_ ?_
  ·clear hk h
   rintro a w ⟨y1, v1, hk, h⟩
   unfold p12_values.j1 at h
   refine FW.wseqJ (fun a w => ∃ (y1 : St12) (v1 : List UInt8), FW.S M w0 a w 49 [FW.orow xd3 xc3 33 6 ApiValue.cells l3, FW.blk bx2 64 ((St12.cells (⟨[], 0, 0, 0, 0, 0⟩ : St12))), FW.blk bx1 64 ((St12.cells y1))] [(1, [], .lit (.string (FW.B v1))), (2, [], .lit (.pointer (some ⟨bx1, 0, none⟩))), (4, [], .lit (.pointer (some ⟨bx2, 0, none⟩))), (6, [], .lit (.slice xd3 (List.length l3) xc3))] ∧ p12_values.j2 zv zvs (p12_values.l1 zv zvs K kl1) K l3 y1 v1 = some r) ?_ ?_
   ·clear hk h
    rintro a w ⟨y1, v1, hk, h⟩
    unfold p12_values.j2 at h
    refine FW.wreg fun _ q9 => ?_
    refine FW.lf (y := .agg ((St12.cells y1))) hk (FW.f_loadBlk hk FW.h0 (j := 2) rfl rfl Try.underlying64 rfl rfl rfl rfl) fun a w hk => ?_
    obtain ⟨t2, hr_t2, h⟩ := FW.bnd h
    refine FW.lf (y := .tup [.agg ((St12.cells t2.1)), .agg ((ApiValue.cells t2.2.1)), .lit (.bool t2.2.2)]) hk (FW.f_call hk FW.h0 rfl rfl Try.func76 rfl (by kernel_rfl) (hzv y1 _ hr_t2)) fun a w hk => ?_
    refine FW.sM hk fun a w hk => ?_
    refine FW.lf (y := .agg ((St12.cells t2.1))) hk (FW.f_extract hk FW.h0 rfl rfl) fun a w hk => ?_
    refine FW.lf (y := .agg ((ApiValue.cells t2.2.1))) hk (FW.f_extract hk FW.h0 rfl rfl) fun a w hk => ?_
    refine FW.lf (y := .lit (.bool t2.2.2)) hk (FW.f_extract hk FW.h0 rfl rfl) fun a w hk => ?_
    refine FW.l_alloc (zs := (St12.cells (⟨[], 0, 0, 0, 0, 0⟩ : St12))) [] hk rfl rfl rfl rfl ?_; clear hk; intro bx4 a w hk
    refine FW.l_alloc (zs := (ApiValue.cells (⟨0, false, 0, 0, [], []⟩ : ApiValue))) [] hk rfl rfl rfl rfl ?_; clear hk; intro bx5 a w hk
    refine FW.st1 (cs' := (St12.cells t2.1)) hk rfl (by kernel_rfl) fun w hk => ?_
    refine FW.st0 (cs' := (ApiValue.cells t2.2.1)) hk rfl (by kernel_rfl) fun w hk => ?_
    refine FW.sA hk fun a w hk => ?_
    refine FW.lend (q9 _ _ ?_)
    refine FW.wreg fun _ q10 => ?_
    refine FW.lf (y := .agg ((St12.cells t2.1))) hk (FW.f_loadBlk hk FW.h0 (j := 1) rfl rfl Try.underlying64 rfl rfl rfl rfl) fun a w hk => ?_
    refine FW.st4 (cs' := (St12.cells t2.1)) hk rfl (by kernel_rfl) fun w hk => ?_
    refine FW.lend (q10 _ _ ?_)
    refine FW.wseqJ (fun a w => ∃ (y5 : ApiValue) (y1 : St12) (v1 : List UInt8), FW.S M w0 a w 49 [FW.blk bx5 33 ((ApiValue.cells y5)), FW.orow xd3 xc3 33 6 ApiValue.cells l3, FW.blk bx2 64 ((St12.cells (⟨[], 0, 0, 0, 0, 0⟩ : St12))), FW.blk bx1 64 ((St12.cells y1))] [(1, [], .lit (.string (FW.B v1))), (2, [], .lit (.pointer (some ⟨bx1, 0, none⟩))), (4, [], .lit (.pointer (some ⟨bx2, 0, none⟩))), (6, [], .lit (.slice xd3 (List.length l3) xc3)), (8, [], .lit (.pointer (some ⟨bx5, 0, none⟩)))] ∧ p12_values.j3 zv zvs (p12_values.l1 zv zvs K kl1) K l3 y5 y1 v1 = some r) ?_ ?_
    ·clear hk h
     rintro a w ⟨y5, y1, v1, hk, h⟩
     unfold p12_values.j3 at h
     refine FW.wreg1 ?_
     refine FW.sM hk fun a w hk => ?_
     refine FW.lf (y := .agg ((ApiValue.cells y5))) hk (FW.f_loadBlk hk FW.h0 (j := 0) rfl rfl Try.underlying33 rfl rfl rfl rfl) fun a w hk => ?_
     refine FW.l_buildSlice (f := ApiValue.cells) (l := ([y5] : List ApiValue)) hk rfl rfl rfl Try.underlying31 rfl rfl rfl rfl (fun _ => rfl) rfl ?_; clear hk; intro bx6 a w hk
     obtain ⟨hc1, h⟩ := FW.chk h
     refine FW.l_append (l2 := ([y5] : List ApiValue)) (l3 := (l3 ++ ([y5] : List ApiValue))) (I' := fun ad1 cap1 => [FW.orow (some ⟨bx6, 0, none⟩) 1 33 6 ApiValue.cells ([y5] : List ApiValue), FW.blk bx5 33 ((ApiValue.cells y5)), FW.orow ad1 cap1 33 6 ApiValue.cells (l3 ++ ([y5] : List ApiValue)), FW.blk bx2 64 ((St12.cells (⟨[], 0, 0, 0, 0, 0⟩ : St12))), FW.blk bx1 64 ((St12.cells y1))]) (j := 2) hk rfl rfl rfl rfl (FW.own_src hk (j := 0) rfl rfl (fun _ => rfl) Try.underlying31) Try.underlying31 (by kernel_rfl) hc1 rfl (fun _ _ => rfl) ?_; clear hk; intro ad1 cap1 a w hk
     replace hk := FW.S.dropI (I' := [FW.blk bx5 33 ((ApiValue.cells y5)), FW.orow ad1 cap1 33 6 ApiValue.cells (l3 ++ ([y5] : List ApiValue)), FW.blk bx2 64 ((St12.cells (⟨[], 0, 0, 0, 0, 0⟩ : St12))), FW.blk bx1 64 ((St12.cells y1))]) hk 0 rfl
     refine FW.sA hk fun a w hk => ?_
     refine wpList_nil ?_
     (repeat first | refine FW.tn ?_ | refine FW.bn ?_); exact q4 (kl1, (l3 ++ ([y5] : List ApiValue)), y1, v1, ad1, cap1) _ _ (Nat.lt_succ_self _) ⟨(hk.drop 0).sub ⟨rfl, rfl, rfl, rfl, trivial⟩, h⟩
    ·intro K' q11
     refine FW.wreg fun _ q13 => ?_
     refine FW.sM hk fun a w hk => ?_
     refine FW.lf (y := .lit (.bool (!t2.2.2))) hk ((FW.f_pure (FW.p_not hk.kn FW.h0 rfl))) fun a w hk => ?_
     refine FW.lend (q13 _ _ ?_)
     refine FW.wcondF (b := (!t2.2.2)) hk h rfl (fun h hb => ?_) (fun h hb => ?_)
     ·skip
      refine FW.wreg1 ?_
      refine FW.lf (y := .agg ((St12.cells t2.1))) hk (FW.f_loadBlk hk FW.h0 (j := 4) rfl rfl Try.underlying64 rfl rfl rfl rfl) fun a w hk => ?_
      obtain ⟨t3, hr_t3, h⟩ := FW.bnd h
      refine FW.lf (y := .agg ((St12.cells t3))) hk (FW.f_call hk FW.h0 rfl rfl Try.func28 rfl (by kernel_rfl) (p12_fail.ok t2.1 120 _ hr_t3)) fun a w hk => ?_
      refine FW.st4 (cs' := (St12.cells t3)) hk rfl (by kernel_rfl) fun w hk => ?_
      refine wpList_nil ?_
      (repeat first | refine FW.tn ?_ | refine FW.bn ?_); exact q11 _ _ ⟨t2.2.1, t3, v1, (hk.drop 1).sub ⟨rfl, rfl, rfl, rfl, rfl, trivial⟩, h⟩
     refine wp_skip ?_
     (repeat first | refine FW.tn ?_ | refine FW.bn ?_); exact q11 _ _ ⟨t2.2.1, t2.1, v1, (hk.drop 1).sub ⟨rfl, rfl, rfl, rfl, rfl, trivial⟩, h⟩
   ·intro K' q8
    refine FW.wreg fun _ q15 => ?_
    refine FW.sM hk fun a w hk => ?_
    refine FW.lf (y := .lit (.int .i64 (List.length l3 : Int))) hk ((FW.f_pure (FW.p_len Try.underlying31 hk.kn FW.h0 rfl))) fun a w hk => ?_
    refine FW.lf (y := .lit (.bool (decide (12 ≤ (List.length l3 : Int))))) hk ((FW.f_pure (FW.p_geq hk.kn FW.h0 rfl rfl))) fun a w hk => ?_
    refine FW.lend (q15 _ _ ?_)
    refine FW.wcondF (b := (decide (12 ≤ (List.length l3 : Int)))) hk h rfl (fun h hb => ?_) (fun h hb => ?_)
    ·skip
     refine FW.wreg1 ?_
     refine FW.lf (y := .agg ((St12.cells y1))) hk (FW.f_loadBlk hk FW.h0 (j := 2) rfl rfl Try.underlying64 rfl rfl rfl rfl) fun a w hk => ?_
     obtain ⟨t4, hr_t4, h⟩ := FW.bnd h
     refine FW.lf (y := .agg ((St12.cells t4))) hk (FW.f_call hk FW.h0 rfl rfl Try.func28 rfl (by kernel_rfl) (p12_fail.ok y1 3 _ hr_t4)) fun a w hk => ?_
     refine FW.st2 (cs' := (St12.cells t4)) hk rfl (by kernel_rfl) fun w hk => ?_
     refine wpList_nil ?_
     (repeat first | refine FW.tn ?_ | refine FW.bn ?_); exact q8 _ _ ⟨t4, v1, hk.sub ⟨rfl, rfl, rfl, rfl, trivial⟩, h⟩
    refine wp_skip ?_
    (repeat first | refine FW.tn ?_ | refine FW.bn ?_); exact q8 _ _ ⟨y1, v1, hk.sub ⟨rfl, rfl, rfl, rfl, trivial⟩, h⟩
  ·intro K' q7
   refine FW.wreg fun _ q17 => ?_
   refine FW.sM hk fun a w hk => ?_
   refine FW.lf (y := .lit (.int .i64 (List.length l3 : Int))) hk ((FW.f_pure (FW.p_len Try.underlying31 hk.kn FW.h0 rfl))) fun a w hk => ?_
   refine FW.lf (y := .lit (.bool (decide (0 < (List.length l3 : Int))))) hk ((FW.f_pure (FW.p_gtr hk.kn FW.h0 rfl rfl))) fun a w hk => ?_
   refine FW.lend (q17 _ _ ?_)
   refine FW.wcondF (b := (decide (0 < (List.length l3 : Int)))) hk h rfl (fun h hb => ?_) (fun h hb => ?_)
   ·skip
    refine FW.wreg1 ?_
    refine FW.lf (y := .agg ((St12.cells y1))) hk (FW.f_loadBlk hk FW.h0 (j := 2) rfl rfl Try.underlying64 rfl rfl rfl rfl) fun a w hk => ?_
    obtain ⟨t5, hr_t5, h⟩ := FW.bnd h
    refine FW.lf (y := .agg ((St12.cells t5))) hk (FW.f_call hk FW.h0 rfl rfl Try.func26 rfl (by kernel_rfl) (p12_sign.ok y1 ([44] : List UInt8) _ hr_t5)) fun a w hk => ?_
    refine FW.st2 (cs' := (St12.cells t5)) hk rfl (by kernel_rfl) fun w hk => ?_
    refine wpList_nil ?_
    (repeat first | refine FW.tn ?_ | refine FW.bn ?_); exact q7 _ _ ⟨t5, v1, hk.sub ⟨rfl, rfl, rfl, rfl, trivial⟩, h⟩
   refine wp_skip ?_
   (repeat first | refine FW.tn ?_ | refine FW.bn ?_); exact q7 _ _ ⟨y1, v1, hk.sub ⟨rfl, rfl, rfl, rfl, trivial⟩, h⟩
 refine wp_exit ?_; (repeat first | refine FW.then_exit ?_ | refine FW.block_exit_ne rfl ?_); refine FW.block_exit ?_
 (repeat first | refine FW.tn ?_ | refine FW.bn ?_); refine q3 _ _ ?_
 refine FW.wreg fun _ q19 => ?_
 refine FW.lf (y := .agg ((St12.cells y1))) hk (FW.f_loadBlk hk FW.h0 (j := 2) rfl rfl Try.underlying64 rfl rfl rfl rfl) fun a w hk => ?_
 refine FW.sM hk fun a w hk => ?_
 obtain ⟨t6, hr_t6, h⟩ := FW.bnd h
 refine FW.lf (y := .agg ((St12.cells t6))) hk (FW.f_call hk FW.h0 rfl rfl Try.func26 rfl (by kernel_rfl) (p12_sign.ok y1 v1 _ hr_t6)) fun a w hk => ?_
 refine FW.sM hk fun a w hk => ?_
 refine FW.st1 (cs' := (St12.cells t6)) hk rfl (by kernel_rfl) fun w hk => ?_
 refine FW.sA hk fun a w hk => ?_
 refine FW.lend (q19 _ _ ?_)
 refine wp_ret ?_
 (repeat first | refine FW.then_ret ?_ | refine FW.block_ret ?_)
 replace hk := FW.S.freezeR (I' := [FW.blk bx2 64 ((St12.cells t6)), FW.blk bx1 64 ((St12.cells y1))]) r_ApiValue_cells_eq hk (j := 0) rfl (t := 5) rfl rfl
 obtain rfl := Option.some.inj h
 exact FW.fretR2 hk rfl (FW.rcell hk rfl (j := 0) rfl Try.underlying64 rfl (by kernel_rfl)) (FW.rtmp hk rfl)

theorem p12_value_knot : ∀ K : Nat, (∀ (v0 : St12) (r : St12 × ApiValue × Bool), p12_value.f K v0 = some r → FW.Ok Try.prog 76 [.agg (St12.cells v0)] (.tup [.agg (St12.cells r.1), .agg (ApiValue.cells r.2.1), .lit (.bool r.2.2)])) ∧ (∀ (v0 : St12) (v1 : List UInt8) (r : St12 × List ApiValue), p12_values.f K v0 v1 = some r → FW.Ok Try.prog 108 [.agg (St12.cells v0), .lit (.string (FW.B v1))] (.tup [.agg (St12.cells r.1), .row (r_ApiValue_cells r.2)]))
 | 0 => ⟨fun v0 r h => by simp [p12_value.f] at h, fun v0 v1 r h => by simp [p12_values.f] at h⟩
 | K + 1 => ⟨fun v0 r h => by rw [p12_value.f] at h; exact p12_value.bok _ _ (p12_value_knot K).1 (p12_value_knot K).2 K v0 r h, fun v0 v1 r h => by rw [p12_values.f] at h; exact p12_values.bok _ _ (p12_value_knot K).1 (p12_value_knot K).2 K v0 v1 r h⟩

theorem p12_value.ok (K : Nat) (v0 : St12) (r : St12 × ApiValue × Bool) (h : p12_value.f K v0 = some r) : FW.Ok Try.prog 76 [.agg (St12.cells v0)] (.tup [.agg (St12.cells r.1), .agg (ApiValue.cells r.2.1), .lit (.bool r.2.2)]) := (p12_value_knot K).1 v0 r h

theorem p12_values.ok (K : Nat) (v0 : St12) (v1 : List UInt8) (r : St12 × List ApiValue) (h : p12_values.f K v0 v1 = some r) : FW.Ok Try.prog 108 [.agg (St12.cells v0), .lit (.string (FW.B v1))] (.tup [.agg (St12.cells r.1), .row (r_ApiValue_cells r.2)]) := (p12_value_knot K).2 v0 v1 r h

theorem r12_Preds.ok (K : Nat) (v0 : List UInt8) (r : Int × Bool) (h : r12_Preds.f K v0 = some r) :
  FW.Ok Try.prog 77 [.lit (.string (FW.B v0))] (.tup [.lit (.int .i64 r.1), .lit (.bool r.2)]) := by
 refine FW.enter (xs := [.lit (.string (FW.B v0))]) Try.func77 rfl Try.ntmps77 rfl ?_
 intro M w0 a hk
 unfold r12_Preds.f at h
 refine FW.wreg fun _ q1 => ?_
 refine FW.sA hk fun a w hk => ?_
 refine FW.sA hk fun a w hk => ?_
 refine FW.lend (q1 _ _ ?_)
 refine FW.wreg fun _ q2 => ?_
 refine FW.l_buildSlice (f := c_str) (l := ([([101, 113] : List UInt8), ([110, 101, 113] : List UInt8), ([108, 116] : List UInt8), ([108, 116, 101] : List UInt8), ([103, 116] : List UInt8), ([103, 116, 101] : List UInt8), ([115, 116, 97, 114, 116, 105, 110, 103, 87, 105, 116, 104] : List UInt8), ([101, 110, 100, 105, 110, 103, 87, 105, 116, 104] : List UInt8), ([99, 111, 110, 116, 97, 105, 110, 105, 110, 103] : List UInt8)] : List (List UInt8))) hk rfl rfl rfl Try.underlying56 rfl rfl rfl rfl (fun _ => rfl) rfl ?_; clear hk; intro bx1 a w hk
 replace hk := (FW.S.freezeR (I' := []) r_c_str_eq hk (j := 0) rfl (t := 6) rfl rfl).squash
 refine FW.sA hk fun a w hk => ?_
 refine FW.lend (q2 _ _ ?_)
 refine FW.wseq fun _ q3 => ?_
 refine FW.wreg fun _ q4 => ?_
 refine FW.sA hk fun a w hk => ?_
 refine FW.lend (q4 _ _ ?_)
 refine wp_block ?_
 refine FW.wloop (T := Nat × List UInt8 × List (List UInt8) × Int) (fun x a w => match x with | (kl1, v0, v4, v5) => FW.S M w0 a w 35 [] [(0, [], .lit (.string (FW.B v0))), (4, [], .row (r_c_str v4)), (5, [], .lit (.int .i64 v5))] ∧ r12_Preds.l1 K kl1 v0 v4 v5 = some r) (fun x => x.1) (K, v0, ([([101, 113] : List UInt8), ([110, 101, 113] : List UInt8), ([108, 116] : List UInt8), ([108, 116, 101] : List UInt8), ([103, 116] : List UInt8), ([103, 116, 101] : List UInt8), ([115, 116, 97, 114, 116, 105, 110, 103, 87, 105, 116, 104] : List UInt8), ([101, 110, 100, 105, 110, 103, 87, 105, 116, 104] : List UInt8), ([99, 111, 110, 116, 97, 105, 110, 105, 110, 103] : List UInt8)] : List (List UInt8)), 0) ⟨hk.sub ⟨rfl, rfl, rfl, trivial⟩, h⟩ ?_
 clear hk h
 rintro ⟨kl1, v0, v4, v5⟩ a w ⟨hk, h⟩ K' q5
 cases kl1 with
 | zero => simp [r12_Preds.l1] at h
 | succ kl1 =>
 rw [r12_Preds.l1.eq_2] at h
 refine FW.wseq fun _ q6 => ?_
 refine FW.wreg fun _ q7 => ?_
 refine FW.sM hk fun a w hk => ?_
 refine FW.sM hk fun a w hk => ?_
 refine FW.lf (y := .lit (.int .i64 (List.length v4 : Int))) hk (FW.f_len (R := r_c_str) (f := c_str) (l := v4) r_c_str_eq Try.underlying56 hk FW.h0 rfl) fun a w hk => ?_
 refine FW.sLt hk fun a w hk => ?_
 refine FW.lend (q7 _ _ ?_)
 refine FW.wcondF (b := (decide (v5 < (List.length v4 : Int)))) hk h rfl (fun h hb => ?_) (fun h hb => ?_)
 ·skip
  refine wp_skip ?_
  (repeat first | refine FW.tn ?_ | refine FW.bn ?_); refine q6 _ _ ?_
  refine FW.wseq fun _ q8 => ?_
  refine wp_block ?_
  refine FW.wreg fun _ q9 => ?_
  refine FW.sM hk fun a w hk => ?_
  refine FW.sM hk fun a w hk => ?_
  obtain ⟨hc1, h⟩ := FW.chk h
  refine FW.lf (y := .ref (c_str (List.getD v4 (Int.toNat v5) default))) hk (FW.f_indexAddr (R := r_c_str) (f := c_str) (l := v4) (sz := 1) r_c_str_eq (fun _ => rfl) hk FW.h0 rfl rfl Try.underlying56 (by kernel_rfl) hc1) fun a w hk => ?_
  refine FW.lf (y := .lit (.string (FW.B (List.getD v4 (Int.toNat v5) default)))) hk (FW.f_load1 hk FW.h0 rfl rfl Try.underlying9 rfl) fun a w hk => ?_
  refine FW.sM hk fun a w hk => ?_
  refine FW.sSe hk fun a w hk => ?_
  refine FW.lend (q9 _ _ ?_)
  refine FW.wcondF (b := (decide ((List.getD v4 (Int.toNat v5) default) = v0))) hk h rfl (fun h hb => ?_) (fun h hb => ?_)
  ·skip
   refine FW.wreg fun _ q10 => ?_
   refine FW.sA hk fun a w hk => ?_
   refine FW.sA hk fun a w hk => ?_
   refine FW.lend (q10 _ _ ?_)
   refine wp_ret ?_
   (repeat first | refine FW.then_ret ?_ | refine FW.block_ret ?_)
   obtain rfl := Option.some.inj h
   exact FW.fret2 hk rfl rfl rfl
  refine wp_skip ?_
  (repeat first | refine FW.tn ?_ | refine FW.bn ?_); refine q8 _ _ ?_
  refine FW.wreg1 ?_
  refine FW.sM hk fun a w hk => ?_
  refine FW.sAd hk fun a w hk => ?_
  refine FW.sA hk fun a w hk => ?_
  refine wpList_nil ?_
  (repeat first | refine FW.tn ?_ | refine FW.bn ?_); exact q5 (kl1, v0, v4, (IntKind.wrap .i64 (v5 + 1))) _ _ (Nat.lt_succ_self _) ⟨hk.sub ⟨rfl, rfl, rfl, trivial⟩, h⟩
 refine wp_exit ?_; (repeat first | refine FW.then_exit ?_ | refine FW.block_exit_ne rfl ?_); refine FW.block_exit ?_
 (repeat first | refine FW.tn ?_ | refine FW.bn ?_); refine q3 _ _ ?_
 refine FW.wseq fun _ q12 => ?_
 refine FW.wreg fun _ q13 => ?_
 refine FW.sM hk fun a w hk => ?_
 refine FW.sSe hk fun a w hk => ?_
 refine FW.sM hk fun a w hk => ?_
 refine FW.lg (y := .lit (.string (FW.B v0))) hk rfl rfl rfl (fun hc => FW.f_move hk hc rfl) fun a w hk => ?_
 refine FW.lg (y := .lit (.bool (decide (v0 = ([105, 110, 115, 105, 100, 101] : List UInt8))))) hk rfl rfl rfl (fun hc => (FW.f_pure (FW.p_seql hk.kn hc rfl rfl))) fun a w hk => ?_
 refine FW.sOr hk fun a w hk => ?_
 refine FW.sM hk fun a w hk => ?_
 refine FW.lg (y := .lit (.string (FW.B v0))) hk rfl rfl rfl (fun hc => FW.f_move hk hc rfl) fun a w hk => ?_
 refine FW.lg (y := .lit (.bool (decide (v0 = ([111, 117, 116, 115, 105, 100, 101] : List UInt8))))) hk rfl rfl rfl (fun hc => (FW.f_pure (FW.p_seql hk.kn hc rfl rfl))) fun a w hk => ?_
 refine FW.sOr hk fun a w hk => ?_
 refine FW.lend (q13 _ _ ?_)
 refine FW.wcondF (b := (((decide (v0 = ([98, 101, 116, 119, 101, 101, 110] : List UInt8))) || (decide (v0 = ([105, 110, 115, 105, 100, 101] : List UInt8)))) || (decide (v0 = ([111, 117, 116, 115, 105, 100, 101] : List UInt8))))) hk h rfl (fun h hb => ?_) (fun h hb => ?_)
 ·skip
  refine FW.wreg fun _ q14 => ?_
  refine FW.sA hk fun a w hk => ?_
  refine FW.sA hk fun a w hk => ?_
  refine FW.lend (q14 _ _ ?_)
  refine wp_ret ?_
  (repeat first | refine FW.then_ret ?_ | refine FW.block_ret ?_)
  obtain rfl := Option.some.inj h
  exact FW.fret2 hk rfl rfl rfl
 refine wp_skip ?_
 (repeat first | refine FW.tn ?_ | refine FW.bn ?_); refine q12 _ _ ?_
 refine FW.wreg fun _ q15 => ?_
 refine FW.sM hk fun a w hk => ?_
 refine FW.sSe hk fun a w hk => ?_
 refine FW.sM hk fun a w hk => ?_
 refine FW.lg (y := .lit (.string (FW.B v0))) hk rfl rfl rfl (fun hc => FW.f_move hk hc rfl) fun a w hk => ?_
 refine FW.lg (y := .lit (.bool (decide (v0 = ([119, 105, 116, 104, 111, 117, 116] : List UInt8))))) hk rfl rfl rfl (fun hc => (FW.f_pure (FW.p_seql hk.kn hc rfl rfl))) fun a w hk => ?_
 refine FW.sOr hk fun a w hk => ?_
 refine FW.sA hk fun a w hk => ?_
 refine FW.sA hk fun a w hk => ?_
 refine FW.lend (q15 _ _ ?_)
 refine wp_ret ?_
 (repeat first | refine FW.then_ret ?_ | refine FW.block_ret ?_)
 obtain rfl := Option.some.inj h
 exact FW.fret2 hk rfl rfl rfl
end Go.Proofs.Ytbjbgodcenopnaa

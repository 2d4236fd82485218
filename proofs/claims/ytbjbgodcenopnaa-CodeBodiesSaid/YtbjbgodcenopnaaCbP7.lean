/- Written by a program of this session (gen.py): the contracts of functions of the program. -/
import Derived.Test.YtbjbgodcenopnaaCbP6
namespace Go.Proofs.Ytbjbgodcenopnaa
set_option linter.unusedVariables false
set_option maxRecDepth 20000
set_option maxHeartbeats 10000000
theorem p12_pred_knot : ∀ K : Nat, (∀ (v0 : St12) (r : St12 × ApiPred), p12_pred.f K v0 = some r → FW.Ok Try.prog 78 [.agg (St12.cells v0)] (.tup [.agg (St12.cells r.1), .agg (ApiPred.cells r.2)]))
 | 0 => fun v0 r h => by simp [p12_pred.f] at h
 | K + 1 => fun v0 r h => by rw [p12_pred.f] at h; exact p12_pred.bok _ (p12_pred_knot K) K v0 r h

theorem p12_pred.ok (K : Nat) (v0 : St12) (r : St12 × ApiPred) (h : p12_pred.f K v0 = some r) : FW.Ok Try.prog 78 [.agg (St12.cells v0)] (.tup [.agg (St12.cells r.1), .agg (ApiPred.cells r.2)]) := (p12_pred_knot K) v0 r h

abbrev Zzst (zst : St12 → Option (St12 × List ApiStep)) : Prop := ∀ (v0 : St12) (r : St12 × List ApiStep), zst v0 = some r → FW.Ok Try.prog 27 [.agg (St12.cells v0)] (.tup [.agg (St12.cells r.1), .row (r_ApiStep_cells r.2)])
abbrev Zzar (zar : St12 → Option (St12 × ApiArg)) : Prop := ∀ (v0 : St12) (r : St12 × ApiArg), zar v0 = some r → FW.Ok Try.prog 52 [.agg (St12.cells v0)] (.tup [.agg (St12.cells r.1), .agg (ApiArg.cells r.2)])
theorem p12_steps.bok (zst : St12 → Option (St12 × List ApiStep)) (zar : St12 → Option (St12 × ApiArg)) (hzst : Zzst zst) (hzar : Zzar zar) (K : Nat) (v0 : St12) (r : St12 × List ApiStep) (h : p12_steps.b zst zar K v0 = some r) :
  FW.Ok Try.prog 27 [.agg (St12.cells v0)] (.tup [.agg (St12.cells r.1), .row (r_ApiStep_cells r.2)]) := by
 refine FW.enter (xs := [.agg (St12.cells v0)]) Try.func27 rfl Try.ntmps27 rfl ?_
 intro M w0 a hk
 unfold p12_steps.b at h
 refine FW.wreg fun _ q1 => ?_
 refine FW.l_box (cs := (St12.cells v0)) hk rfl rfl rfl rfl rfl ?_; clear hk; intro bx1 a w hk
 refine FW.l_alloc (zs := (St12.cells (⟨[], 0, 0, 0, 0, 0⟩ : St12))) [] hk rfl rfl rfl rfl ?_; clear hk; intro bx2 a w hk
 refine FW.lf (y := .row (r_ApiStep_cells [])) hk (FW.f_assignNil) fun a w hk => ?_
 refine FW.lend (q1 _ _ ?_)
 refine FW.wreg fun _ q2 => ?_
 refine FW.l_buildSlice0 (f := ApiStep.cells) hk rfl rfl Try.underlying22 rfl (fun _ => rfl) ?_; clear hk; intro bx3 a w hk
 refine FW.sA hk fun a w hk => ?_
 refine FW.lend (q2 _ _ ?_)
 refine FW.wseqJ (fun a w => ∃ (l3 : List ApiStep) (y1 : St12) (xd3 : Option Addr) (xc3 : Nat), FW.S M w0 a w 95 [FW.orow xd3 xc3 29 2 ApiStep.cells l3, FW.blk bx2 64 ((St12.cells (⟨[], 0, 0, 0, 0, 0⟩ : St12))), FW.blk bx1 64 ((St12.cells y1))] [(1, [], .lit (.pointer (some ⟨bx1, 0, none⟩))), (2, [], .lit (.pointer (some ⟨bx2, 0, none⟩))), (4, [], .lit (.slice xd3 (List.length l3) xc3))] ∧ p12_steps.j1 zst zar K l3 y1 = some r) ?_ ?_
 ·clear hk h
  rintro a w ⟨l3, y1, xd3, xc3, hk, h⟩
  unfold p12_steps.j1 at h
  refine FW.wreg fun _ q4 => ?_
  refine FW.lf (y := .agg ((St12.cells y1))) hk (FW.f_loadBlk hk FW.h0 (j := 2) rfl rfl Try.underlying64 rfl rfl rfl rfl) fun a w hk => ?_
  refine FW.sM hk fun a w hk => ?_
  refine FW.st1 (cs' := (St12.cells y1)) hk rfl (by kernel_rfl) fun w hk => ?_
  refine FW.sA hk fun a w hk => ?_
  refine FW.lend (q4 _ _ ?_)
  refine wp_ret ?_
  (repeat first | refine FW.then_ret ?_ | refine FW.block_ret ?_)
  replace hk := FW.S.freezeR (I' := [FW.blk bx2 64 ((St12.cells y1)), FW.blk bx1 64 ((St12.cells y1))]) r_ApiStep_cells_eq hk (j := 0) rfl (t := 3) rfl rfl
  obtain rfl := Option.some.inj h
  exact FW.fretR2 hk rfl (FW.rcell hk rfl (j := 0) rfl Try.underlying64 rfl (by kernel_rfl)) (FW.rtmp hk rfl)
 ·intro K' q3
  refine wp_block ?_
  refine FW.wloop (T := Nat × List ApiStep × St12 × Option Addr × Nat) (fun x a w => match x with | (kl1, l3, y1, xd3, xc3) => FW.S M w0 a w 95 [FW.orow xd3 xc3 29 2 ApiStep.cells l3, FW.blk bx2 64 ((St12.cells (⟨[], 0, 0, 0, 0, 0⟩ : St12))), FW.blk bx1 64 ((St12.cells y1))] [(1, [], .lit (.pointer (some ⟨bx1, 0, none⟩))), (2, [], .lit (.pointer (some ⟨bx2, 0, none⟩))), (4, [], .lit (.slice xd3 (List.length l3) xc3))] ∧ p12_steps.l1 zst zar K kl1 l3 y1 = some r) (fun x => x.1) (K, ([] : List ApiStep), v0, (some ⟨bx3, 0, none⟩), 0) ⟨hk.sub ⟨rfl, rfl, rfl, trivial⟩, h⟩ ?_
  clear hk h
  rintro ⟨kl1, l3, y1, xd3, xc3⟩ a w ⟨hk, h⟩ K' q5
  cases kl1 with
  | zero => simp [p12_steps.l1] at h
  | succ kl1 =>
  rw [p12_steps.l1.eq_2] at h
  refine FW.wseq fun _ q6 => ?_
  refine FW.wreg fun _ q7 => ?_
  refine FW.sFp 5 hk Try.underlying64 fun a w hk => ?_
  refine FW.lf (y := .lit (.int .i64 y1.E)) hk (FW.f_loadBlk1 hk FW.h0 (j := 2) rfl rfl Try.underlying23 rfl rfl) fun a w hk => ?_
  refine FW.sEq hk fun a w hk => ?_
  refine FW.lend (q7 _ _ ?_)
  refine FW.wcondF (b := (decide (y1.E = 0))) hk h rfl (fun h hb => ?_) (fun h hb => ?_)
  ·skip
   refine wp_skip ?_
   (repeat first | refine FW.tn ?_ | refine FW.bn ?_); refine q6 _ _ ?_
   refine wp_block ?_
   refine FW.wseq fun _ q8 => ?_
   refine FW.wreg fun _ q9 => ?_
   refine FW.sFp 3 hk Try.underlying64 fun a w hk => ?_
   refine FW.lf (y := .lit (.int .i64 y1.Steps)) hk (FW.f_loadBlk1 hk FW.h0 (j := 2) rfl rfl Try.underlying3 rfl rfl) fun a w hk => ?_
   refine FW.lf (y := .lit (.bool (decide (150 ≤ y1.Steps)))) hk ((FW.f_pure (FW.p_geq hk.kn FW.h0 rfl rfl))) fun a w hk => ?_
   refine FW.lend (q9 _ _ ?_)
   refine FW.wcondF (b := (decide (150 ≤ y1.Steps))) hk h rfl (fun h hb => ?_) (fun h hb => ?_)
   ·skip
    refine FW.wreg fun _ q10 => ?_
    refine FW.lf (y := .agg ((St12.cells y1))) hk (FW.f_loadBlk hk FW.h0 (j := 2) rfl rfl Try.underlying64 rfl rfl rfl rfl) fun a w hk => ?_
    obtain ⟨t1, hr_t1, h⟩ := FW.bnd h
    refine FW.lf (y := .agg ((St12.cells t1))) hk (FW.f_call hk FW.h0 rfl rfl Try.func28 rfl (by kernel_rfl) (p12_fail.ok y1 3 _ hr_t1)) fun a w hk => ?_
    refine FW.st1 (cs' := (St12.cells t1)) hk rfl (by kernel_rfl) fun w hk => ?_
    refine FW.lf (y := .row (r_ApiStep_cells [])) hk (FW.f_assignNil) fun a w hk => ?_
    refine FW.lend (q10 _ _ ?_)
    refine wp_ret ?_
    (repeat first | refine FW.then_ret ?_ | refine FW.block_ret ?_)
    obtain rfl := Option.some.inj h
    exact FW.fretR2 hk rfl (FW.rcell hk rfl (j := 1) rfl Try.underlying64 rfl (by kernel_rfl)) (FW.rtmp hk rfl)
   refine wp_skip ?_
   (repeat first | refine FW.tn ?_ | refine FW.bn ?_); refine q8 _ _ ?_
   refine FW.wreg fun _ q11 => ?_
   refine FW.sFp 3 hk Try.underlying64 fun a w hk => ?_
   refine FW.lf (y := .lit (.int .i64 y1.Steps)) hk (FW.f_loadBlk1 hk FW.h0 (j := 2) rfl rfl Try.underlying3 rfl rfl) fun a w hk => ?_
   refine FW.sAd hk fun a w hk => ?_
   refine FW.sFp 3 hk Try.underlying64 fun a w hk => ?_
   refine FW.st2 (cs' := (St12.cells (⟨y1.L, y1.I, y1.Deep, (IntKind.wrap .i64 (y1.Steps + 1)), y1.At, y1.E⟩ : St12))) hk rfl (by kernel_rfl) fun w hk => ?_
   refine FW.lend (q11 _ _ ?_)
   refine FW.wseq fun _ q12 => ?_
   refine FW.wreg fun _ q13 => ?_
   refine FW.sFp 0 hk Try.underlying64 fun a w hk => ?_
   refine FW.lf (y := .row (r_ApiWord_cells y1.L)) hk (FW.f_loadBlk1 hk FW.h0 (j := 2) rfl rfl Try.underlying60 rfl rfl) fun a w hk => ?_
   refine FW.sFp 1 hk Try.underlying64 fun a w hk => ?_
   refine FW.lf (y := .lit (.int .i64 y1.I)) hk (FW.f_loadBlk1 hk FW.h0 (j := 2) rfl rfl Try.underlying3 rfl rfl) fun a w hk => ?_
   obtain ⟨hc1, h⟩ := FW.chk h
   refine FW.lf (y := .ref (ApiWord.cells (List.getD y1.L (Int.toNat y1.I) default))) hk (FW.f_indexAddr (R := r_ApiWord_cells) (f := ApiWord.cells) (l := y1.L) (sz := 5) r_ApiWord_cells_eq (fun _ => rfl) hk FW.h0 rfl rfl Try.underlying60 (by kernel_rfl) hc1) fun a w hk => ?_
   refine FW.lf (y := .ref (List.drop 0 (ApiWord.cells (List.getD y1.L (Int.toNat y1.I) default)))) hk (FW.f_fieldAddr hk FW.h0 rfl Try.underlying66 rfl (by kernel_rfl) rfl) fun a w hk => ?_
   refine FW.lf (y := .lit (.int .i64 ((List.getD y1.L (Int.toNat y1.I) default).Kind))) hk (FW.f_load1 hk FW.h0 rfl rfl Try.underlying3 rfl) fun a w hk => ?_
   refine FW.lf (y := .lit (.bool (!decide (((List.getD y1.L (Int.toNat y1.I) default).Kind) = 1)))) hk ((FW.f_pure (FW.p_neq hk.kn FW.h0 rfl rfl))) fun a w hk => ?_
   refine FW.lend (q13 _ _ ?_)
   refine FW.wcondF (b := (!decide (((List.getD y1.L (Int.toNat y1.I) default).Kind) = 1))) hk h rfl (fun h hb => ?_) (fun h hb => ?_)
   ·skip
    refine FW.wreg fun _ q14 => ?_
    refine FW.lf (y := .agg ((St12.cells (⟨y1.L, y1.I, y1.Deep, (IntKind.wrap .i64 (y1.Steps + 1)), y1.At, y1.E⟩ : St12)))) hk (FW.f_loadBlk hk FW.h0 (j := 2) rfl rfl Try.underlying64 rfl rfl rfl rfl) fun a w hk => ?_
    obtain ⟨t2, hr_t2, h⟩ := FW.bnd h
    refine FW.lf (y := .agg ((St12.cells t2))) hk (FW.f_call hk FW.h0 rfl rfl Try.func28 rfl (by kernel_rfl) (p12_fail.ok (⟨y1.L, y1.I, y1.Deep, (IntKind.wrap .i64 (y1.Steps + 1)), y1.At, y1.E⟩ : St12) 120 _ hr_t2)) fun a w hk => ?_
    refine FW.st1 (cs' := (St12.cells t2)) hk rfl (by kernel_rfl) fun w hk => ?_
    refine FW.lf (y := .row (r_ApiStep_cells [])) hk (FW.f_assignNil) fun a w hk => ?_
    refine FW.lend (q14 _ _ ?_)
    refine wp_ret ?_
    (repeat first | refine FW.then_ret ?_ | refine FW.block_ret ?_)
    obtain rfl := Option.some.inj h
    exact FW.fretR2 hk rfl (FW.rcell hk rfl (j := 1) rfl Try.underlying64 rfl (by kernel_rfl)) (FW.rtmp hk rfl)
   refine wp_skip ?_
   (repeat first | refine FW.tn ?_ | refine FW.bn ?_); refine q12 _ _ ?_
   refine FW.wreg fun _ q15 => ?_
   refine FW.sFp 0 hk Try.underlying64 fun a w hk => ?_
   refine FW.lf (y := .row (r_ApiWord_cells y1.L)) hk (FW.f_loadBlk1 hk FW.h0 (j := 2) rfl rfl Try.underlying60 rfl rfl) fun a w hk => ?_
   refine FW.sFp 1 hk Try.underlying64 fun a w hk => ?_
   refine FW.lf (y := .lit (.int .i64 y1.I)) hk (FW.f_loadBlk1 hk FW.h0 (j := 2) rfl rfl Try.underlying3 rfl rfl) fun a w hk => ?_
   obtain ⟨hc2, h⟩ := FW.chk h
   refine FW.lf (y := .ref (ApiWord.cells (List.getD y1.L (Int.toNat y1.I) default))) hk (FW.f_indexAddr (R := r_ApiWord_cells) (f := ApiWord.cells) (l := y1.L) (sz := 5) r_ApiWord_cells_eq (fun _ => rfl) hk FW.h0 rfl rfl Try.underlying60 (by kernel_rfl) hc2) fun a w hk => ?_
   refine FW.lf (y := .ref (List.drop 1 (ApiWord.cells (List.getD y1.L (Int.toNat y1.I) default)))) hk (FW.f_fieldAddr hk FW.h0 rfl Try.underlying66 rfl (by kernel_rfl) rfl) fun a w hk => ?_
   refine FW.lf (y := .lit (.string (FW.B ((List.getD y1.L (Int.toNat y1.I) default).S)))) hk (FW.f_load1 hk FW.h0 rfl rfl Try.underlying9 rfl) fun a w hk => ?_
   refine FW.lf (y := .agg ([.lit (.string (FW.B ((List.getD y1.L (Int.toNat y1.I) default).S))), .lit (.slice none 0 0)])) hk (FW.f_buildN [1] hk FW.h0 rfl rfl rfl) fun a w hk => ?_
   refine FW.l_alloc (zs := (ApiStep.cells (⟨[], []⟩ : ApiStep))) [] hk rfl rfl rfl rfl ?_; clear hk; intro bx4 a w hk
   refine FW.st0 (cs' := [.lit (.string (FW.B ((List.getD y1.L (Int.toNat y1.I) default).S))), .lit (.slice none 0 0)]) hk rfl (by kernel_rfl) fun w hk => ?_
   replace hk := hk.nilRow 38 11 ApiArg.cells (fun _ => rfl)
   refine FW.lend (q15 _ _ ?_)
   refine FW.wreg fun _ q16 => ?_
   refine FW.sFp 1 hk Try.underlying64 fun a w hk => ?_
   refine FW.lf (y := .lit (.int .i64 y1.I)) hk (FW.f_loadBlk1 hk FW.h0 (j := 4) rfl rfl Try.underlying3 rfl rfl) fun a w hk => ?_
   refine FW.sAd hk fun a w hk => ?_
   refine FW.sFp 1 hk Try.underlying64 fun a w hk => ?_
   refine FW.st4 (cs' := (St12.cells (⟨y1.L, (IntKind.wrap .i64 (y1.I + 1)), y1.Deep, (IntKind.wrap .i64 (y1.Steps + 1)), y1.At, y1.E⟩ : St12))) hk rfl (by kernel_rfl) fun w hk => ?_
   refine FW.lend (q16 _ _ ?_)
   refine FW.wreg fun _ q17 => ?_
   refine FW.lf (y := .agg ((St12.cells (⟨y1.L, (IntKind.wrap .i64 (y1.I + 1)), y1.Deep, (IntKind.wrap .i64 (y1.Steps + 1)), y1.At, y1.E⟩ : St12)))) hk (FW.f_loadBlk hk FW.h0 (j := 4) rfl rfl Try.underlying64 rfl rfl rfl rfl) fun a w hk => ?_
   obtain ⟨t3, hr_t3, h⟩ := FW.bnd h
   refine FW.lf (y := .agg ((St12.cells t3))) hk (FW.f_call hk FW.h0 rfl rfl Try.func26 rfl (by kernel_rfl) (p12_sign.ok (⟨y1.L, (IntKind.wrap .i64 (y1.I + 1)), y1.Deep, (IntKind.wrap .i64 (y1.Steps + 1)), y1.At, y1.E⟩ : St12) ([40] : List UInt8) _ hr_t3)) fun a w hk => ?_
   refine FW.st4 (cs' := (St12.cells t3)) hk rfl (by kernel_rfl) fun w hk => ?_
   refine FW.lend (q17 _ _ ?_)
   refine FW.wseq fun _ q18 => ?_
   refine wp_block ?_
   refine FW.wloop (T := Nat × List ApiArg × List UInt8 × St12 × Option Addr × Nat) (fun x a w => match x with | (kl2, l5, y4_0, y1, xd5, xc5) => FW.S M w0 a w 95 [FW.orow xd5 xc5 38 11 ApiArg.cells l5, FW.blk bx4 29 ([.lit (.string (FW.B y4_0)), .lit (.slice xd5 (List.length l5) xc5)]), FW.orow xd3 xc3 29 2 ApiStep.cells l3, FW.blk bx2 64 ((St12.cells (⟨[], 0, 0, 0, 0, 0⟩ : St12))), FW.blk bx1 64 ((St12.cells y1))] [(1, [], .lit (.pointer (some ⟨bx1, 0, none⟩))), (2, [], .lit (.pointer (some ⟨bx2, 0, none⟩))), (4, [], .lit (.slice xd3 (List.length l3) xc3)), (5, [], .lit (.pointer (some ⟨bx4, 0, none⟩)))] ∧ p12_steps.l2 zst zar (p12_steps.l1 zst zar K kl1) K l3 kl2 l5 y4_0 y1 = some r) (fun x => x.1) (K, ([] : List ApiArg), (List.getD y1.L (Int.toNat y1.I) default).S, t3, none, 0) ⟨hk.sub ⟨rfl, rfl, rfl, rfl, trivial⟩, h⟩ ?_
   clear hk h
   rintro ⟨kl2, l5, y4_0, y1, xd5, xc5⟩ a w ⟨hk, h⟩ K' q19
   cases kl2 with
   | zero => simp [p12_steps.l2] at h
   | succ kl2 =>
   rw [p12_steps.l2.eq_2] at h
   refine FW.wseq fun _ q20 => ?_
   refine FW.wreg fun _ q21 => ?_
   refine FW.sFp 5 hk Try.underlying64 fun a w hk => ?_
   refine FW.lf (y := .lit (.int .i64 y1.E)) hk (FW.f_loadBlk1 hk FW.h0 (j := 4) rfl rfl Try.underlying23 rfl rfl) fun a w hk => ?_
   refine FW.sEq hk fun a w hk => ?_
   refine FW.sM hk fun a w hk => ?_
   refine FW.lg (y := .agg ((St12.cells y1))) hk rfl rfl rfl (fun hc => FW.f_loadBlk hk hc (j := 4) rfl rfl Try.underlying64 rfl rfl rfl rfl) fun a w hk => ?_
   obtain ⟨t4, hr_t4, h⟩ := FW.bndG h
   refine FW.lg (y := .lit (.bool t4)) hk rfl rfl rfl (fun hc => FW.f_call hk hc rfl rfl Try.func51 rfl (by kernel_rfl) (p12_is.ok y1 ([41] : List UInt8) _ (hr_t4 (FW.asm_out (p := (decide (y1.E = 0)) = true) hk.kn hc (fun e0 => e0))))) fun a w hk => ?_
   refine FW.lg (y := .lit (.bool (!t4))) hk rfl rfl rfl (fun hc => (FW.f_pure (FW.p_not hk.kn hc rfl))) fun a w hk => ?_
   refine FW.sAn hk fun a w hk => ?_
   refine FW.lend (q21 _ _ ?_)
   refine FW.wcondF (b := ((decide (y1.E = 0)) && (!t4))) hk h rfl (fun h hb => ?_) (fun h hb => ?_)
   ·skip
    refine wp_skip ?_
    (repeat first | refine FW.tn ?_ | refine FW.bn ?_); refine q20 _ _ ?_
    refine wp_block ?_
    refine FW.wseqJ (fun a w => ∃ (y1 : St12), FW.S M w0 a w 95 [FW.orow xd5 xc5 38 11 ApiArg.cells l5, FW.blk bx4 29 ([.lit (.string (FW.B y4_0)), .lit (.slice xd5 (List.length l5) xc5)]), FW.orow xd3 xc3 29 2 ApiStep.cells l3, FW.blk bx2 64 ((St12.cells (⟨[], 0, 0, 0, 0, 0⟩ : St12))), FW.blk bx1 64 ((St12.cells y1))] [(1, [], .lit (.pointer (some ⟨bx1, 0, none⟩))), (2, [], .lit (.pointer (some ⟨bx2, 0, none⟩))), (4, [], .lit (.slice xd3 (List.length l3) xc3)), (5, [], .lit (.pointer (some ⟨bx4, 0, none⟩)))] ∧ p12_steps.j2 zst zar (p12_steps.l1 zst zar K kl1) (p12_steps.l2 zst zar (p12_steps.l1 zst zar K kl1) K l3 kl2) K l3 l5 y4_0 y1 = some r) ?_ ?_
    ·clear hk h
     rintro a w ⟨y1, hk, h⟩
     unfold p12_steps.j2 at h
     refine FW.wseqJ (fun a w => ∃ (y1 : St12), FW.S M w0 a w 95 [FW.orow xd5 xc5 38 11 ApiArg.cells l5, FW.blk bx4 29 ([.lit (.string (FW.B y4_0)), .lit (.slice xd5 (List.length l5) xc5)]), FW.orow xd3 xc3 29 2 ApiStep.cells l3, FW.blk bx2 64 ((St12.cells (⟨[], 0, 0, 0, 0, 0⟩ : St12))), FW.blk bx1 64 ((St12.cells y1))] [(1, [], .lit (.pointer (some ⟨bx1, 0, none⟩))), (2, [], .lit (.pointer (some ⟨bx2, 0, none⟩))), (4, [], .lit (.slice xd3 (List.length l3) xc3)), (5, [], .lit (.pointer (some ⟨bx4, 0, none⟩)))] ∧ p12_steps.j3 zst zar (p12_steps.l1 zst zar K kl1) (p12_steps.l2 zst zar (p12_steps.l1 zst zar K kl1) K l3 kl2) K l3 l5 y4_0 y1 = some r) ?_ ?_
     ·clear hk h
      rintro a w ⟨y1, hk, h⟩
      unfold p12_steps.j3 at h
      refine FW.wreg fun _ q24 => ?_
      refine FW.sFp 5 hk Try.underlying64 fun a w hk => ?_
      refine FW.lf (y := .lit (.int .i64 y1.E)) hk (FW.f_loadBlk1 hk FW.h0 (j := 4) rfl rfl Try.underlying23 rfl rfl) fun a w hk => ?_
      refine FW.sEq hk fun a w hk => ?_
      refine FW.lend (q24 _ _ ?_)
      refine FW.wcondF (b := (decide (y1.E = 0))) hk h rfl (fun h hb => ?_) (fun h hb => ?_)
      ·skip
       refine FW.wreg fun _ q25 => ?_
       refine FW.lf (y := .agg ((St12.cells y1))) hk (FW.f_loadBlk hk FW.h0 (j := 4) rfl rfl Try.underlying64 rfl rfl rfl rfl) fun a w hk => ?_
       obtain ⟨t5, hr_t5, h⟩ := FW.bnd h
       refine FW.lf (y := .tup [.agg ((St12.cells t5.1)), .agg ((ApiArg.cells t5.2))]) hk (FW.f_call hk FW.h0 rfl rfl Try.func52 rfl (by kernel_rfl) (hzar y1 _ hr_t5)) fun a w hk => ?_
       refine FW.sM hk fun a w hk => ?_
       refine FW.lf (y := .agg ((St12.cells t5.1))) hk (FW.f_extract hk FW.h0 rfl rfl) fun a w hk => ?_
       refine FW.lf (y := .agg ((ApiArg.cells t5.2))) hk (FW.f_extract hk FW.h0 rfl rfl) fun a w hk => ?_
       refine FW.l_alloc (zs := (St12.cells (⟨[], 0, 0, 0, 0, 0⟩ : St12))) [] hk rfl rfl rfl rfl ?_; clear hk; intro bx5 a w hk
       refine FW.l_alloc (zs := (ApiArg.cells (⟨0, (⟨0, false, 0, 0, [], []⟩ : ApiValue), (⟨[], [], []⟩ : ApiPred), []⟩ : ApiArg))) [] hk rfl rfl rfl rfl ?_; clear hk; intro bx6 a w hk
       refine FW.st1 (cs' := (St12.cells t5.1)) hk rfl (by kernel_rfl) fun w hk => ?_
       refine FW.st0 (cs' := (ApiArg.cells t5.2)) hk rfl (by kernel_rfl) fun w hk => ?_
       refine FW.lend (q25 _ _ ?_)
       obtain ⟨hc3, h⟩ := FW.chk h
       refine FW.wdrawE1 (.next [true, true, true, true, false, false, false, false, false] 4 [true, true, true, true, false, false, false, false, false] (.next [true, true, true, false, false, false, false, false, false] 5 [true, true, true, true, true, false, false, false, false] (.next [true, false, false, false, false, false, false, false, false] 6 [true, true, true, true, true, true, false, false, false] (.next [false, false, false, false, false, false, false, true, false] 8 [true, true, true, true, true, true, true, true, false] (.leaf [false, false, false, false, false, false, false, false, false]))))) [(73, [], .agg ((St12.cells t5.1))), (74, [], .lit (.pointer (some ⟨bx4, 1, none⟩))), (75, [], .lit (.slice xd5 (List.length l5) xc5)), (76, [], .agg ((ApiArg.cells t5.2))), (77, [], .agg []), (78, [], .agg []), (95, [], .lit undef), (79, [], .agg []), (95, [], .lit undef)] (by kernel_rfl) (by kernel_rfl) (by kernel_rfl) (by kernel_rfl) hk ?_; clear hk
       refine FW.gnext ?_ rfl rfl rfl rfl rfl ?_
       ·skip
        refine FW.gfun (y := .agg ((St12.cells t5.1))) rfl rfl rfl rfl (fun a w hk => FW.f_loadBlk hk FW.h0 (j := 1) rfl rfl Try.underlying64 rfl rfl rfl rfl) ?_
        refine FW.gfun (y := .lit (.pointer (some ⟨bx4, 1, none⟩))) rfl rfl rfl rfl (fun a w hk => FW.f_fieldPtr hk FW.h0 rfl Try.underlying29 rfl (by kernel_rfl) rfl) ?_
        refine FW.gfun (y := .lit (.slice xd5 (List.length l5) xc5)) rfl rfl rfl rfl (fun a w hk => FW.f_loadBlk1 hk FW.h0 (j := 3) rfl rfl Try.underlying27 rfl rfl) ?_
        refine FW.gfun (y := .agg ((ApiArg.cells t5.2))) rfl rfl rfl rfl (fun a w hk => FW.f_loadBlk hk FW.h0 (j := 0) rfl rfl Try.underlying38 rfl rfl rfl rfl) ?_
        refine FW.gskip rfl rfl ?_
        refine FW.gskip rfl rfl ?_
        refine FW.gskip0 rfl ?_
        refine FW.gskip rfl rfl ?_
        refine FW.gskip0 rfl ?_
        exact FW.gend
       ·skip
        intro σD a w opsD QD hk hf hQ hX
        refine FW.l_buildSlice (f := ApiArg.cells) (l := ([t5.2] : List ApiArg)) hk rfl hf rfl Try.underlying27 rfl rfl rfl rfl (fun _ => rfl) rfl ?_; clear hk; intro bx7 a w hk
        refine hQ _ _ a w ?_ hk; clear hk hQ hf hX
        refine ⟨[(73, [], .agg ((St12.cells t5.1))), (74, [], .lit (.pointer (some ⟨bx4, 1, none⟩))), (75, [], .lit (.slice xd5 (List.length l5) xc5)), (76, [], .agg ((ApiArg.cells t5.2))), (77, [], .lit (.slice (some ⟨bx7, 0, none⟩) (List.length ([t5.2] : List ApiArg)) 1)), (78, [], .agg []), (95, [], .lit undef), (79, [], .agg []), (95, [], .lit undef)], And.intro rfl (And.intro rfl (And.intro rfl (And.intro rfl (trivial)))), rfl, ?_⟩
        refine FW.gnext ?_ rfl rfl rfl rfl rfl ?_
        ·skip
         refine FW.gfun (y := .agg ((St12.cells t5.1))) rfl rfl rfl rfl (fun a w hk => FW.f_loadBlk hk FW.h0 (j := 2) rfl rfl Try.underlying64 rfl rfl rfl rfl) ?_
         refine FW.gfun (y := .lit (.pointer (some ⟨bx4, 1, none⟩))) rfl rfl rfl rfl (fun a w hk => FW.f_fieldPtr hk FW.h0 rfl Try.underlying29 rfl (by kernel_rfl) rfl) ?_
         refine FW.gfun (y := .lit (.slice xd5 (List.length l5) xc5)) rfl rfl rfl rfl (fun a w hk => FW.f_loadBlk1 hk FW.h0 (j := 4) rfl rfl Try.underlying27 rfl rfl) ?_
         refine FW.gskip rfl rfl ?_
         refine FW.gskip rfl rfl ?_
         refine FW.gskip rfl rfl ?_
         refine FW.gskip0 rfl ?_
         refine FW.gskip rfl rfl ?_
         refine FW.gskip0 rfl ?_
         exact FW.gend
        ·skip
         intro σD a w opsD QD hk hf hQ hX
         refine FW.l_append (l2 := ([t5.2] : List ApiArg)) (l3 := (l5 ++ ([t5.2] : List ApiArg))) (I' := fun ad1 cap1 => [FW.orow (some ⟨bx7, 0, none⟩) 1 38 11 ApiArg.cells ([t5.2] : List ApiArg), FW.blk bx6 38 ((ApiArg.cells t5.2)), FW.blk bx5 64 ((St12.cells t5.1)), FW.orow ad1 cap1 38 11 ApiArg.cells (l5 ++ ([t5.2] : List ApiArg)), FW.blk bx4 29 ([.lit (.string (FW.B y4_0)), .lit (.slice xd5 (List.length l5) xc5)]), FW.orow xd3 xc3 29 2 ApiStep.cells l3, FW.blk bx2 64 ((St12.cells (⟨[], 0, 0, 0, 0, 0⟩ : St12))), FW.blk bx1 64 ((St12.cells y1))]) (j := 3) hk rfl rfl hf rfl (FW.own_src hk (j := 0) rfl rfl (fun _ => rfl) Try.underlying27) Try.underlying27 (by kernel_rfl) hc3 rfl (fun _ _ => rfl) ?_; clear hk; intro ad1 cap1 a w hk
         replace hk := FW.S.dropI (I' := [FW.blk bx6 38 ((ApiArg.cells t5.2)), FW.blk bx5 64 ((St12.cells t5.1)), FW.orow ad1 cap1 38 11 ApiArg.cells (l5 ++ ([t5.2] : List ApiArg)), FW.blk bx4 29 ([.lit (.string (FW.B y4_0)), .lit (.slice xd5 (List.length l5) xc5)]), FW.orow xd3 xc3 29 2 ApiStep.cells l3, FW.blk bx2 64 ((St12.cells (⟨[], 0, 0, 0, 0, 0⟩ : St12))), FW.blk bx1 64 ((St12.cells y1))]) hk 0 rfl
         refine hQ _ _ a w ?_ hk; clear hk hQ hf hX
         refine ⟨[(73, [], .agg ((St12.cells t5.1))), (74, [], .lit (.pointer (some ⟨bx4, 1, none⟩))), (75, [], .lit (.slice xd5 (List.length l5) xc5)), (76, [], .agg ((ApiArg.cells t5.2))), (77, [], .lit (.slice (some ⟨bx7, 0, none⟩) (List.length ([t5.2] : List ApiArg)) 1)), (78, [], .lit (.slice ad1 (List.length (l5 ++ ([t5.2] : List ApiArg))) cap1)), (95, [], .lit undef), (79, [], .agg []), (95, [], .lit undef)], And.intro rfl (And.intro rfl (And.intro rfl (And.intro rfl (And.intro rfl (trivial))))), rfl, ?_⟩
         refine FW.gnext0 ?_ rfl rfl rfl ?_
         ·skip
          refine FW.gfun (y := .agg ((St12.cells t5.1))) rfl rfl rfl rfl (fun a w hk => FW.f_loadBlk hk FW.h0 (j := 1) rfl rfl Try.underlying64 rfl rfl rfl rfl) ?_
          refine FW.gskip rfl rfl ?_
          refine FW.gskip rfl rfl ?_
          refine FW.gskip rfl rfl ?_
          refine FW.gskip rfl rfl ?_
          refine FW.gskip rfl rfl ?_
          refine FW.gskip0 rfl ?_
          refine FW.gskip rfl rfl ?_
          refine FW.gskip0 rfl ?_
          exact FW.gend
         ·skip
          intro σD a w opsD QD hk hQ hX
          refine FW.st6 (cs' := (St12.cells t5.1)) hk rfl (by kernel_rfl) fun w hk => ?_
          refine hQ _ a w ?_ hk; clear hk hQ hX
          refine ⟨[(73, [], .agg ((St12.cells t5.1))), (74, [], .lit (.pointer (some ⟨bx4, 1, none⟩))), (75, [], .lit (.slice xd5 (List.length l5) xc5)), (76, [], .agg ((ApiArg.cells t5.2))), (77, [], .lit (.slice (some ⟨bx7, 0, none⟩) (List.length ([t5.2] : List ApiArg)) 1)), (78, [], .lit (.slice ad1 (List.length (l5 ++ ([t5.2] : List ApiArg))) cap1)), (95, [], .lit undef), (79, [], .lit (.pointer (some ⟨bx4, 1, none⟩))), (95, [], .lit undef)], And.intro rfl (And.intro rfl (And.intro rfl (And.intro rfl (And.intro rfl (And.intro rfl (trivial)))))), rfl, ?_⟩
          refine FW.gnext0 ?_ rfl rfl rfl ?_
          ·skip
           refine FW.gskip rfl rfl ?_
           refine FW.gskip rfl rfl ?_
           refine FW.gskip rfl rfl ?_
           refine FW.gskip rfl rfl ?_
           refine FW.gskip rfl rfl ?_
           refine FW.gskip rfl rfl ?_
           refine FW.gskip0 rfl ?_
           refine FW.gfun (y := .lit (.pointer (some ⟨bx4, 1, none⟩))) rfl rfl rfl rfl (fun a w hk => FW.f_fieldPtr hk FW.h0 rfl Try.underlying29 rfl (by kernel_rfl) rfl) ?_
           refine FW.gskip0 rfl ?_
           exact FW.gend
          ·skip
           intro σD a w opsD QD hk hQ hX
           refine FW.st3 (cs' := [.lit (.string (FW.B y4_0)), .lit (.slice ad1 (List.length (l5 ++ ([t5.2] : List ApiArg))) cap1)]) hk rfl (by kernel_rfl) fun w hk => ?_
           refine hQ _ a w ?_ hk; clear hk hQ hX
           refine ⟨[(73, [], .agg ((St12.cells t5.1))), (74, [], .lit (.pointer (some ⟨bx4, 1, none⟩))), (75, [], .lit (.slice xd5 (List.length l5) xc5)), (76, [], .agg ((ApiArg.cells t5.2))), (77, [], .lit (.slice (some ⟨bx7, 0, none⟩) (List.length ([t5.2] : List ApiArg)) 1)), (78, [], .lit (.slice ad1 (List.length (l5 ++ ([t5.2] : List ApiArg))) cap1)), (95, [], .lit undef), (79, [], .lit (.pointer (some ⟨bx4, 1, none⟩))), (95, [], .lit undef)], And.intro rfl (And.intro rfl (And.intro rfl (And.intro rfl (And.intro rfl (And.intro rfl (And.intro rfl (And.intro rfl (trivial)))))))), rfl, ?_⟩
           refine FW.glast ?_ ?_
           ·skip
            refine FW.gskip rfl rfl ?_
            refine FW.gskip rfl rfl ?_
            refine FW.gskip rfl rfl ?_
            refine FW.gskip rfl rfl ?_
            refine FW.gskip rfl rfl ?_
            refine FW.gskip rfl rfl ?_
            refine FW.gskip0 rfl ?_
            refine FW.gskip rfl rfl ?_
            refine FW.gskip0 rfl ?_
            exact FW.gend
           ·skip
            intro a w hk; simp only [FW.stD, cond_true] at hk
            (repeat first | refine FW.tn ?_ | refine FW.bn ?_); exact q19 (kl2, (l5 ++ ([t5.2] : List ApiArg)), y4_0, t5.1, ad1, cap1) _ _ (Nat.lt_succ_self _) ⟨((hk.drop 1).drop 0).sub ⟨rfl, rfl, rfl, rfl, trivial⟩, h⟩
      refine wp_skip ?_
      (repeat first | refine FW.tn ?_ | refine FW.bn ?_); exact q19 (kl2, l5, y4_0, y1, xd5, xc5) _ _ (Nat.lt_succ_self _) ⟨hk.sub ⟨rfl, rfl, rfl, rfl, trivial⟩, h⟩
     ·intro K' q23
      refine FW.wreg fun _ q27 => ?_
      refine FW.sFp 1 hk Try.underlying29 fun a w hk => ?_
      refine FW.lf (y := .lit (.slice xd5 (List.length l5) xc5)) hk (FW.f_loadBlk1 hk FW.h0 (j := 1) rfl rfl Try.underlying27 rfl rfl) fun a w hk => ?_
      refine FW.lf (y := .lit (.int .i64 (List.length l5 : Int))) hk ((FW.f_pure (FW.p_len Try.underlying27 hk.kn FW.h0 rfl))) fun a w hk => ?_
      refine FW.lf (y := .lit (.bool (decide (12 ≤ (List.length l5 : Int))))) hk ((FW.f_pure (FW.p_geq hk.kn FW.h0 rfl rfl))) fun a w hk => ?_
      refine FW.lend (q27 _ _ ?_)
      refine FW.wcondF (b := (decide (12 ≤ (List.length l5 : Int)))) hk h rfl (fun h hb => ?_) (fun h hb => ?_)
      ·skip
       refine FW.wreg1 ?_
       refine FW.lf (y := .agg ((St12.cells y1))) hk (FW.f_loadBlk hk FW.h0 (j := 4) rfl rfl Try.underlying64 rfl rfl rfl rfl) fun a w hk => ?_
       obtain ⟨t6, hr_t6, h⟩ := FW.bnd h
       refine FW.lf (y := .agg ((St12.cells t6))) hk (FW.f_call hk FW.h0 rfl rfl Try.func28 rfl (by kernel_rfl) (p12_fail.ok y1 3 _ hr_t6)) fun a w hk => ?_
       refine FW.st4 (cs' := (St12.cells t6)) hk rfl (by kernel_rfl) fun w hk => ?_
       refine wpList_nil ?_
       (repeat first | refine FW.tn ?_ | refine FW.bn ?_); exact q23 _ _ ⟨t6, hk.sub ⟨rfl, rfl, rfl, rfl, trivial⟩, h⟩
      refine wp_skip ?_
      (repeat first | refine FW.tn ?_ | refine FW.bn ?_); exact q23 _ _ ⟨y1, hk.sub ⟨rfl, rfl, rfl, rfl, trivial⟩, h⟩
    ·intro K' q22
     refine FW.wreg fun _ q29 => ?_
     refine FW.sFp 1 hk Try.underlying29 fun a w hk => ?_
     refine FW.lf (y := .lit (.slice xd5 (List.length l5) xc5)) hk (FW.f_loadBlk1 hk FW.h0 (j := 1) rfl rfl Try.underlying27 rfl rfl) fun a w hk => ?_
     refine FW.lf (y := .lit (.int .i64 (List.length l5 : Int))) hk ((FW.f_pure (FW.p_len Try.underlying27 hk.kn FW.h0 rfl))) fun a w hk => ?_
     refine FW.lf (y := .lit (.bool (decide (0 < (List.length l5 : Int))))) hk ((FW.f_pure (FW.p_gtr hk.kn FW.h0 rfl rfl))) fun a w hk => ?_
     refine FW.lend (q29 _ _ ?_)
     refine FW.wcondF (b := (decide (0 < (List.length l5 : Int)))) hk h rfl (fun h hb => ?_) (fun h hb => ?_)
     ·skip
      refine FW.wreg1 ?_
      refine FW.lf (y := .agg ((St12.cells y1))) hk (FW.f_loadBlk hk FW.h0 (j := 4) rfl rfl Try.underlying64 rfl rfl rfl rfl) fun a w hk => ?_
      obtain ⟨t7, hr_t7, h⟩ := FW.bnd h
      refine FW.lf (y := .agg ((St12.cells t7))) hk (FW.f_call hk FW.h0 rfl rfl Try.func26 rfl (by kernel_rfl) (p12_sign.ok y1 ([44] : List UInt8) _ hr_t7)) fun a w hk => ?_
      refine FW.st4 (cs' := (St12.cells t7)) hk rfl (by kernel_rfl) fun w hk => ?_
      refine wpList_nil ?_
      (repeat first | refine FW.tn ?_ | refine FW.bn ?_); exact q22 _ _ ⟨t7, hk.sub ⟨rfl, rfl, rfl, rfl, trivial⟩, h⟩
     refine wp_skip ?_
     (repeat first | refine FW.tn ?_ | refine FW.bn ?_); exact q22 _ _ ⟨y1, hk.sub ⟨rfl, rfl, rfl, rfl, trivial⟩, h⟩
   refine wp_exit ?_; (repeat first | refine FW.then_exit ?_ | refine FW.block_exit_ne rfl ?_); refine FW.block_exit ?_
   (repeat first | refine FW.tn ?_ | refine FW.bn ?_); refine q18 _ _ ?_
   refine FW.wreg fun _ q31 => ?_
   refine FW.lf (y := .agg ((St12.cells y1))) hk (FW.f_loadBlk hk FW.h0 (j := 4) rfl rfl Try.underlying64 rfl rfl rfl rfl) fun a w hk => ?_
   obtain ⟨t8, hr_t8, h⟩ := FW.bnd h
   refine FW.lf (y := .agg ((St12.cells t8))) hk (FW.f_call hk FW.h0 rfl rfl Try.func26 rfl (by kernel_rfl) (p12_sign.ok y1 ([41] : List UInt8) _ hr_t8)) fun a w hk => ?_
   refine FW.st4 (cs' := (St12.cells t8)) hk rfl (by kernel_rfl) fun w hk => ?_
   refine FW.lend (q31 _ _ ?_)
   refine FW.wreg fun _ q32 => ?_
   refine FW.sM hk fun a w hk => ?_
   replace hk := FW.S.freezeBlk (I1 := [FW.blk bx4 29 ([.lit (.string (FW.B y4_0)), .lit (.slice xd5 (List.length l5) xc5)]), FW.orow xd3 xc3 29 2 ApiStep.cells l3, FW.blk bx2 64 ((St12.cells (⟨[], 0, 0, 0, 0, 0⟩ : St12))), FW.blk bx1 64 ((St12.cells t8))]) (cs' := (ApiStep.cells (⟨y4_0, l5⟩ : ApiStep))) (I' := [FW.blk bx4 29 ((ApiStep.cells (⟨y4_0, l5⟩ : ApiStep))), FW.orow xd3 xc3 29 2 ApiStep.cells l3, FW.blk bx2 64 ((St12.cells (⟨[], 0, 0, 0, 0, 0⟩ : St12))), FW.blk bx1 64 ((St12.cells t8))]) r_ApiArg_cells_eq hk 0 0 1 rfl rfl rfl rfl rfl rfl
   refine FW.lf (y := .agg ((ApiStep.cells (⟨y4_0, l5⟩ : ApiStep)))) hk (FW.f_loadBlk hk FW.h0 (j := 0) rfl rfl Try.underlying29 rfl rfl rfl rfl) fun a w hk => ?_
   refine FW.l_buildSlice (f := ApiStep.cells) (l := ([(⟨y4_0, l5⟩ : ApiStep)] : List ApiStep)) hk rfl rfl rfl Try.underlying22 rfl rfl rfl rfl (fun _ => rfl) rfl ?_; clear hk; intro bx8 a w hk
   obtain ⟨hc4, h⟩ := FW.chk h
   refine FW.l_append (l2 := ([(⟨y4_0, l5⟩ : ApiStep)] : List ApiStep)) (l3 := (l3 ++ ([(⟨y4_0, l5⟩ : ApiStep)] : List ApiStep))) (I' := fun ad2 cap2 => [FW.orow (some ⟨bx8, 0, none⟩) 1 29 2 ApiStep.cells ([(⟨y4_0, l5⟩ : ApiStep)] : List ApiStep), FW.blk bx4 29 ((ApiStep.cells (⟨y4_0, l5⟩ : ApiStep))), FW.orow ad2 cap2 29 2 ApiStep.cells (l3 ++ ([(⟨y4_0, l5⟩ : ApiStep)] : List ApiStep)), FW.blk bx2 64 ((St12.cells (⟨[], 0, 0, 0, 0, 0⟩ : St12))), FW.blk bx1 64 ((St12.cells t8))]) (j := 2) hk rfl rfl rfl rfl (FW.own_src hk (j := 0) rfl rfl (fun _ => rfl) Try.underlying22) Try.underlying22 (by kernel_rfl) hc4 rfl (fun _ _ => rfl) ?_; clear hk; intro ad2 cap2 a w hk
   replace hk := FW.S.dropI (I' := [FW.blk bx4 29 ((ApiStep.cells (⟨y4_0, l5⟩ : ApiStep))), FW.orow ad2 cap2 29 2 ApiStep.cells (l3 ++ ([(⟨y4_0, l5⟩ : ApiStep)] : List ApiStep)), FW.blk bx2 64 ((St12.cells (⟨[], 0, 0, 0, 0, 0⟩ : St12))), FW.blk bx1 64 ((St12.cells t8))]) hk 0 rfl
   refine FW.sA hk fun a w hk => ?_
   refine FW.lend (q32 _ _ ?_)
   refine FW.wseq fun _ q33 => ?_
   refine FW.wreg fun _ q34 => ?_
   refine FW.lf (y := .agg ((St12.cells t8))) hk (FW.f_loadBlk hk FW.h0 (j := 3) rfl rfl Try.underlying64 rfl rfl rfl rfl) fun a w hk => ?_
   obtain ⟨t9, hr_t9, h⟩ := FW.bnd h
   refine FW.lf (y := .lit (.bool t9)) hk (FW.f_call hk FW.h0 rfl rfl Try.func51 rfl (by kernel_rfl) (p12_is.ok t8 ([46] : List UInt8) _ hr_t9)) fun a w hk => ?_
   refine FW.lf (y := .lit (.bool (!t9))) hk ((FW.f_pure (FW.p_not hk.kn FW.h0 rfl))) fun a w hk => ?_
   refine FW.lend (q34 _ _ ?_)
   refine FW.wcondF (b := (!t9)) hk h rfl (fun h hb => ?_) (fun h hb => ?_)
   ·skip
    refine wp_exit ?_; (repeat first | refine FW.then_exit ?_ | refine FW.block_exit_ne rfl ?_); refine FW.block_exit ?_
    (repeat first | refine FW.tn ?_ | refine FW.bn ?_); exact q3 _ _ ⟨(l3 ++ ([(⟨y4_0, l5⟩ : ApiStep)] : List ApiStep)), t8, ad2, cap2, (hk.drop 0).sub ⟨rfl, rfl, rfl, trivial⟩, h⟩
   refine wp_skip ?_
   (repeat first | refine FW.tn ?_ | refine FW.bn ?_); refine q33 _ _ ?_
   refine FW.wreg1 ?_
   refine FW.sFp 1 hk Try.underlying64 fun a w hk => ?_
   refine FW.lf (y := .lit (.int .i64 t8.I)) hk (FW.f_loadBlk1 hk FW.h0 (j := 3) rfl rfl Try.underlying3 rfl rfl) fun a w hk => ?_
   refine FW.sAd hk fun a w hk => ?_
   refine FW.sFp 1 hk Try.underlying64 fun a w hk => ?_
   refine FW.st3 (cs' := (St12.cells (⟨t8.L, (IntKind.wrap .i64 (t8.I + 1)), t8.Deep, t8.Steps, t8.At, t8.E⟩ : St12))) hk rfl (by kernel_rfl) fun w hk => ?_
   refine wpList_nil ?_
   (repeat first | refine FW.tn ?_ | refine FW.bn ?_); exact q5 (kl1, (l3 ++ ([(⟨y4_0, l5⟩ : ApiStep)] : List ApiStep)), (⟨t8.L, (IntKind.wrap .i64 (t8.I + 1)), t8.Deep, t8.Steps, t8.At, t8.E⟩ : St12), ad2, cap2) _ _ (Nat.lt_succ_self _) ⟨(hk.drop 0).sub ⟨rfl, rfl, rfl, trivial⟩, h⟩
  refine wp_exit ?_; (repeat first | refine FW.then_exit ?_ | refine FW.block_exit_ne rfl ?_); refine FW.block_exit ?_
  (repeat first | refine FW.tn ?_ | refine FW.bn ?_); exact q3 _ _ ⟨l3, y1, xd3, xc3, hk.sub ⟨rfl, rfl, rfl, trivial⟩, h⟩
end Go.Proofs.Ytbjbgodcenopnaa

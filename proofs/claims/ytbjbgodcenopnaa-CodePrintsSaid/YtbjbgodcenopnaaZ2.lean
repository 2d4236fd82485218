/- Put together by pack.py (my own program) of texts of mine: CpP7, CpP8, CpP9, CpP10, CpP11, CpP12, CpP13, CpP14, CpP15, CpP16, CpP17, CpP18. -/
import Derived.Test.YtbjbgodcenopnaaZ1
namespace Go.Proofs.Ytbjbgodcenopnaa
open FW _root_.Go.Proofs.Try
set_option linter.unusedVariables false
set_option maxRecDepth 20000
set_option maxHeartbeats 10000000
theorem p12_pred_knot : ∀ K : Nat, (∀ (v0 : St12) (r : St12 × ApiPred), p12_pred.f K v0 = some r → Ok prog 78 [.agg (St12.cells v0)] (.tup [.agg (St12.cells r.1), .agg (ApiPred.cells r.2)]))
 | 0 => fun v0 r h => by simp [p12_pred.f] at h
 | K + 1 => fun v0 r h => by rw [p12_pred.f] at h; exact p12_pred.bok _ (p12_pred_knot K) K v0 r h
theorem p12_pred.ok (K : Nat) (v0 : St12) (r : St12 × ApiPred) (h : p12_pred.f K v0 = some r) : Ok prog 78 [.agg (St12.cells v0)] (.tup [.agg (St12.cells r.1), .agg (ApiPred.cells r.2)]) := (p12_pred_knot K) v0 r h
abbrev Zzst (zst : St12 → Option (St12 × List ApiStep)) : Prop := ∀ (v0 : St12) (r : St12 × List ApiStep), zst v0 = some r → Ok prog 27 [.agg (St12.cells v0)] (.tup [.agg (St12.cells r.1), .row (r_ApiStep_cells r.2)])
abbrev Zzar (zar : St12 → Option (St12 × ApiArg)) : Prop := ∀ (v0 : St12) (r : St12 × ApiArg), zar v0 = some r → Ok prog 52 [.agg (St12.cells v0)] (.tup [.agg (St12.cells r.1), .agg (ApiArg.cells r.2)])
theorem p12_steps.bok (zst : St12 → Option (St12 × List ApiStep)) (zar : St12 → Option (St12 × ApiArg)) (hzst : Zzst zst) (hzar : Zzar zar) (K : Nat) (v0 : St12) (r : St12 × List ApiStep) (h : p12_steps.b zst zar K v0 = some r) :
  Ok prog 27 [.agg (St12.cells v0)] (.tup [.agg (St12.cells r.1), .row (r_ApiStep_cells r.2)]) := by
 refine enter (xs := [.agg (St12.cells v0)]) func27 rfl ntmps27 rfl ?_
 intro M w0 a hk
 unfold p12_steps.b at h
 refine wreg fun _ q1 => ?_
 refine l_box (cs := (St12.cells v0)) hk rfl rfl rfl rfl rfl ?_; clear hk; intro bx1 a w hk
 refine l_alloc (zs := (St12.cells (⟨[], 0, 0, 0, 0, 0⟩ : St12))) [] hk rfl rfl rfl rfl ?_; clear hk; intro bx2 a w hk
 refine lf (y := .row (r_ApiStep_cells [])) hk (f_assignNil) fun a w hk=>?_
 refine lend (q1 _ _ ?_)
 refine wreg fun _ q2 => ?_
 refine l_buildSlice0 (f := ApiStep.cells) hk rfl rfl underlying22 rfl (fun _ => rfl) ?_; clear hk; intro bx3 a w hk
 refine go hk<|gA<|ge q2 fun a w hk=>?_
 refine wseqJ (fun a w => ∃ (l3 : List ApiStep) (y1 : St12) (xd3 : Option Addr) (xc3 : Nat), S M w0 a w 95 [orow xd3 xc3 29 2 ApiStep.cells l3, blk bx2 64 ((St12.cells (⟨[], 0, 0, 0, 0, 0⟩ : St12))), blk bx1 64 ((St12.cells y1))] [(1, [], .lit (.pointer (some ⟨bx1, 0, none⟩))), (2, [], .lit (.pointer (some ⟨bx2, 0, none⟩))), (4, [], .lit (.slice xd3 (List.length l3) xc3))] ∧ p12_steps.j1 zst zar K l3 y1 = some r) ?_ ?_
 ·clear hk h
  rintro a w ⟨l3, y1, xd3, xc3, hk, h⟩
  unfold p12_steps.j1 at h
  refine wreg fun _ q4 => ?_
  refine lf hk (f_loadBlk hk h0 (j := 2) rfl rfl underlying64 rfl rfl rfl rfl) fun a w hk=>?_
  refine go hk<|gM<|fun a w hk=>?_
  refine st1 (cs' := (St12.cells y1)) hk rfl (by kernel_rfl) fun w hk => ?_
  refine go hk<|gA<|ge q4 fun a w hk=>?_
  refine wp_ret ?_
  replace hk := S.freezeR (I' := [blk bx2 64 ((St12.cells y1)), blk bx1 64 ((St12.cells y1))]) r_ApiStep_cells_eq hk (j := 0) rfl (t := 3) rfl rfl
  obtain rfl := Option.some.inj h
  exact fretR2 hk rfl (rcell hk rfl (j := 0) rfl underlying64 rfl (by kernel_rfl)) (rtmp hk rfl)
 ·intro K' q3
  refine wp_block ?_
  refine wloop (T := Nat × List ApiStep × St12 × Option Addr × Nat) (fun x a w => match x with | (kl1, l3, y1, xd3, xc3) => S M w0 a w 95 [orow xd3 xc3 29 2 ApiStep.cells l3, blk bx2 64 ((St12.cells (⟨[], 0, 0, 0, 0, 0⟩ : St12))), blk bx1 64 ((St12.cells y1))] [(1, [], .lit (.pointer (some ⟨bx1, 0, none⟩))), (2, [], .lit (.pointer (some ⟨bx2, 0, none⟩))), (4, [], .lit (.slice xd3 (List.length l3) xc3))] ∧ p12_steps.l1 zst zar K kl1 l3 y1 = some r) (fun x => x.1) (K, ([] : List ApiStep), v0, (some ⟨bx3, 0, none⟩), 0) ⟨hk.sub ⟨rfl, rfl, rfl, trivial⟩, h⟩ ?_
  clear hk h
  rintro ⟨kl1, l3, y1, xd3, xc3⟩ a w ⟨hk, h⟩ K' q5
  cases kl1 with
  | zero => simp [p12_steps.l1] at h
  | succ kl1 =>
  rw [p12_steps.l1.eq_2] at h
  refine wseq fun _ q6 => ?_
  refine rg hk fun _ q7=>gF 5 underlying64<|gB 2 underlying23<|gE<|ge q7 fun a w hk=>wc hk h (fun h hb=>?_) fun h hb=>?_
  ·refine wp_skip ?_
   refine q6 _ _ ?_
   refine wp_block ?_
   refine wseq fun _ q8 => ?_
   refine rg hk fun _ q9=>gF 3 underlying64<|gB 2 underlying3<|gP (p_geq · h0 rfl rfl)<|ge q9 fun a w hk=>wc hk h (fun h hb=>?_) fun h hb=>?_
   ·refine wreg fun _ q10 => ?_
    refine lf hk (f_loadBlk hk h0 (j := 2) rfl rfl underlying64 rfl rfl rfl rfl) fun a w hk=>?_
    obtain ⟨t1, hr_t1, h⟩ := bnd h
    refine lf (y := .agg ((St12.cells t1))) hk (f_call hk h0 rfl rfl func28 rfl (by kernel_rfl) (p12_fail.ok y1 3 _ hr_t1)) fun a w hk=>?_
    refine st1 (cs' := (St12.cells t1)) hk rfl (by kernel_rfl) fun w hk => ?_
    refine lf (y := .row (r_ApiStep_cells [])) hk (f_assignNil) fun a w hk=>?_
    refine lend (q10 _ _ ?_)
    refine wp_ret ?_
    obtain rfl := Option.some.inj h
    exact fretR2 hk rfl (rcell hk rfl (j := 1) rfl underlying64 rfl (by kernel_rfl)) (rtmp hk rfl)
   refine wp_skip ?_
   refine q8 _ _ ?_
   refine rg hk fun _ q11=>gF 3 underlying64<|gB 2 underlying3<|gD<|gF 3 underlying64<|fun a w hk=>?_
   refine st2 (cs' := (St12.cells (⟨y1.L, y1.I, y1.Deep, (IntKind.wrap .i64 (y1.Steps + 1)), y1.At, y1.E⟩ : St12))) hk rfl (by kernel_rfl) fun w hk => ?_
   refine lend (q11 _ _ ?_)
   refine wseq fun _ q12 => ?_
   refine rg hk fun _ q13=>gF 0 underlying64<|gB 2 underlying60<|gF 1 underlying64<|gB 2 underlying3<|fun a w hk=>?_
   obtain ⟨hc1, h⟩ := chk h
   refine lf (y := .ref (ApiWord.cells (List.getD y1.L (Int.toNat y1.I) default))) hk (f_indexAddr (R := r_ApiWord_cells) (f := ApiWord.cells) (l := y1.L) (sz := 5) r_ApiWord_cells_eq (fun _ => rfl) hk h0 rfl rfl underlying60 (by kernel_rfl) hc1) fun a w hk=>?_
   refine lf hk (f_fieldAddr hk h0 rfl underlying66 rfl (by kernel_rfl) rfl) fun a w hk=>?_
   refine lf hk (f_load1 hk h0 rfl rfl underlying3 rfl) fun a w hk=>?_
   refine go hk<|gP (p_neq · h0 rfl rfl)<|ge q13 fun a w hk=>wc hk h (fun h hb=>?_) fun h hb=>?_
   ·refine wreg fun _ q14 => ?_
    refine lf hk (f_loadBlk hk h0 (j := 2) rfl rfl underlying64 rfl rfl rfl rfl) fun a w hk=>?_
    obtain ⟨t2, hr_t2, h⟩ := bnd h
    refine lf (y := .agg ((St12.cells t2))) hk (f_call hk h0 rfl rfl func28 rfl (by kernel_rfl) (p12_fail.ok (⟨y1.L, y1.I, y1.Deep, (IntKind.wrap .i64 (y1.Steps + 1)), y1.At, y1.E⟩ : St12) 120 _ hr_t2)) fun a w hk=>?_
    refine st1 (cs' := (St12.cells t2)) hk rfl (by kernel_rfl) fun w hk => ?_
    refine lf (y := .row (r_ApiStep_cells [])) hk (f_assignNil) fun a w hk=>?_
    refine lend (q14 _ _ ?_)
    refine wp_ret ?_
    obtain rfl := Option.some.inj h
    exact fretR2 hk rfl (rcell hk rfl (j := 1) rfl underlying64 rfl (by kernel_rfl)) (rtmp hk rfl)
   refine wp_skip ?_
   refine q12 _ _ ?_
   refine rg hk fun _ q15=>gF 0 underlying64<|gB 2 underlying60<|gF 1 underlying64<|gB 2 underlying3<|fun a w hk=>?_
   obtain ⟨hc2, h⟩ := chk h
   refine lf (y := .ref (ApiWord.cells (List.getD y1.L (Int.toNat y1.I) default))) hk (f_indexAddr (R := r_ApiWord_cells) (f := ApiWord.cells) (l := y1.L) (sz := 5) r_ApiWord_cells_eq (fun _ => rfl) hk h0 rfl rfl underlying60 (by kernel_rfl) hc2) fun a w hk=>?_
   refine lf hk (f_fieldAddr hk h0 rfl underlying66 rfl (by kernel_rfl) rfl) fun a w hk=>?_
   refine lf hk (f_load1 hk h0 rfl rfl underlying9 rfl) fun a w hk=>?_
   refine lf (y := .agg ([.lit (.string (B ((List.getD y1.L (Int.toNat y1.I) default).S))), .lit (.slice none 0 0)])) hk (f_buildN [1] hk h0 rfl rfl rfl) fun a w hk=>?_
   refine l_alloc (zs := (ApiStep.cells (⟨[], []⟩ : ApiStep))) [] hk rfl rfl rfl rfl ?_; clear hk; intro bx4 a w hk
   refine st0 (cs' := [.lit (.string (B ((List.getD y1.L (Int.toNat y1.I) default).S))), .lit (.slice none 0 0)]) hk rfl (by kernel_rfl) fun w hk => ?_
   replace hk := hk.nilRow 38 11 ApiArg.cells (fun _ => rfl)
   refine lend (q15 _ _ ?_)
   refine rg hk fun _ q16=>gF 1 underlying64<|gB 4 underlying3<|gD<|gF 1 underlying64<|fun a w hk=>?_
   refine st4 (cs' := (St12.cells (⟨y1.L, (IntKind.wrap .i64 (y1.I + 1)), y1.Deep, (IntKind.wrap .i64 (y1.Steps + 1)), y1.At, y1.E⟩ : St12))) hk rfl (by kernel_rfl) fun w hk => ?_
   refine lend (q16 _ _ ?_)
   refine wreg fun _ q17 => ?_
   refine lf hk (f_loadBlk hk h0 (j := 4) rfl rfl underlying64 rfl rfl rfl rfl) fun a w hk=>?_
   obtain ⟨t3, hr_t3, h⟩ := bnd h
   refine lf (y := .agg ((St12.cells t3))) hk (f_call hk h0 rfl rfl func26 rfl (by kernel_rfl) (p12_sign.ok (⟨y1.L, (IntKind.wrap .i64 (y1.I + 1)), y1.Deep, (IntKind.wrap .i64 (y1.Steps + 1)), y1.At, y1.E⟩ : St12) ([40] : List UInt8) _ hr_t3)) fun a w hk=>?_
   refine st4 (cs' := (St12.cells t3)) hk rfl (by kernel_rfl) fun w hk => ?_
   refine lend (q17 _ _ ?_)
   refine wseq fun _ q18 => ?_
   refine wp_block ?_
   refine wloop (T := Nat × List ApiArg × List UInt8 × St12 × Option Addr × Nat) (fun x a w => match x with | (kl2, l5, y4_0, y1, xd5, xc5) => S M w0 a w 95 [orow xd5 xc5 38 11 ApiArg.cells l5, blk bx4 29 ([.lit (.string (B y4_0)), .lit (.slice xd5 (List.length l5) xc5)]), orow xd3 xc3 29 2 ApiStep.cells l3, blk bx2 64 ((St12.cells (⟨[], 0, 0, 0, 0, 0⟩ : St12))), blk bx1 64 ((St12.cells y1))] [(1, [], .lit (.pointer (some ⟨bx1, 0, none⟩))), (2, [], .lit (.pointer (some ⟨bx2, 0, none⟩))), (4, [], .lit (.slice xd3 (List.length l3) xc3)), (5, [], .lit (.pointer (some ⟨bx4, 0, none⟩)))] ∧ p12_steps.l2 zst zar (p12_steps.l1 zst zar K kl1) K l3 kl2 l5 y4_0 y1 = some r) (fun x => x.1) (K, ([] : List ApiArg), (List.getD y1.L (Int.toNat y1.I) default).S, t3, none, 0) ⟨hk.sub ⟨rfl, rfl, rfl, rfl, trivial⟩, h⟩ ?_
   clear hk h
   rintro ⟨kl2, l5, y4_0, y1, xd5, xc5⟩ a w ⟨hk, h⟩ K' q19
   cases kl2 with
   | zero => simp [p12_steps.l2] at h
   | succ kl2 =>
   rw [p12_steps.l2.eq_2] at h
   refine wseq fun _ q20 => ?_
   refine rg hk fun _ q21=>gF 5 underlying64<|gB 4 underlying23<|gE<|gM<|fun a w hk=>?_
   refine lg hk rfl rfl rfl (fun hc => f_loadBlk hk hc (j := 4) rfl rfl underlying64 rfl rfl rfl rfl) fun a w hk=>?_
   obtain ⟨t4, hr_t4, h⟩ := bndG h
   refine lg (y := .lit (.bool t4)) hk rfl rfl rfl (fun hc => f_call hk hc rfl rfl func51 rfl (by kernel_rfl) (p12_is.ok y1 ([41] : List UInt8) _ (hr_t4 (asm_out (p := (decide (y1.E = 0)) = true) hk.kn hc (fun e0 => e0))))) fun a w hk=>?_
   refine lg hk rfl rfl rfl (fun hc => (f_pure (p_not hk.kn hc rfl))) fun a w hk=>?_
   refine go hk<|gN<|ge q21 fun a w hk=>wc hk h (fun h hb=>?_) fun h hb=>?_
   ·refine wp_skip ?_
    refine q20 _ _ ?_
    refine wp_block ?_
    refine wseqJ (fun a w => ∃ (y1 : St12), S M w0 a w 95 [orow xd5 xc5 38 11 ApiArg.cells l5, blk bx4 29 ([.lit (.string (B y4_0)), .lit (.slice xd5 (List.length l5) xc5)]), orow xd3 xc3 29 2 ApiStep.cells l3, blk bx2 64 ((St12.cells (⟨[], 0, 0, 0, 0, 0⟩ : St12))), blk bx1 64 ((St12.cells y1))] [(1, [], .lit (.pointer (some ⟨bx1, 0, none⟩))), (2, [], .lit (.pointer (some ⟨bx2, 0, none⟩))), (4, [], .lit (.slice xd3 (List.length l3) xc3)), (5, [], .lit (.pointer (some ⟨bx4, 0, none⟩)))] ∧ p12_steps.j2 zst zar (p12_steps.l1 zst zar K kl1) (p12_steps.l2 zst zar (p12_steps.l1 zst zar K kl1) K l3 kl2) K l3 l5 y4_0 y1 = some r) ?_ ?_
    ·clear hk h
     rintro a w ⟨y1, hk, h⟩
     unfold p12_steps.j2 at h
     refine wseqJ (fun a w => ∃ (y1 : St12), S M w0 a w 95 [orow xd5 xc5 38 11 ApiArg.cells l5, blk bx4 29 ([.lit (.string (B y4_0)), .lit (.slice xd5 (List.length l5) xc5)]), orow xd3 xc3 29 2 ApiStep.cells l3, blk bx2 64 ((St12.cells (⟨[], 0, 0, 0, 0, 0⟩ : St12))), blk bx1 64 ((St12.cells y1))] [(1, [], .lit (.pointer (some ⟨bx1, 0, none⟩))), (2, [], .lit (.pointer (some ⟨bx2, 0, none⟩))), (4, [], .lit (.slice xd3 (List.length l3) xc3)), (5, [], .lit (.pointer (some ⟨bx4, 0, none⟩)))] ∧ p12_steps.j3 zst zar (p12_steps.l1 zst zar K kl1) (p12_steps.l2 zst zar (p12_steps.l1 zst zar K kl1) K l3 kl2) K l3 l5 y4_0 y1 = some r) ?_ ?_
     ·clear hk h
      rintro a w ⟨y1, hk, h⟩
      unfold p12_steps.j3 at h
      refine rg hk fun _ q24=>gF 5 underlying64<|gB 4 underlying23<|gE<|ge q24 fun a w hk=>wc hk h (fun h hb=>?_) fun h hb=>?_
      ·refine wreg fun _ q25 => ?_
       refine lf hk (f_loadBlk hk h0 (j := 4) rfl rfl underlying64 rfl rfl rfl rfl) fun a w hk=>?_
       obtain ⟨t5, hr_t5, h⟩ := bnd h
       refine lf (y := .tup [.agg ((St12.cells t5.1)), .agg ((ApiArg.cells t5.2))]) hk (f_call hk h0 rfl rfl func52 rfl (by kernel_rfl) (hzar y1 _ hr_t5)) fun a w hk=>?_
       refine go hk<|gM<|fun a w hk=>?_
       refine go hk<|gX<|gX<|fun a w hk=>?_
       refine l_alloc (zs := (St12.cells (⟨[], 0, 0, 0, 0, 0⟩ : St12))) [] hk rfl rfl rfl rfl ?_; clear hk; intro bx5 a w hk
       refine l_alloc (zs := (ApiArg.cells (⟨0, (⟨0, false, 0, 0, [], []⟩ : ApiValue), (⟨[], [], []⟩ : ApiPred), []⟩ : ApiArg))) [] hk rfl rfl rfl rfl ?_; clear hk; intro bx6 a w hk
       refine st1 (cs' := (St12.cells t5.1)) hk rfl (by kernel_rfl) fun w hk => ?_
       refine st0 (cs' := (ApiArg.cells t5.2)) hk rfl (by kernel_rfl) fun w hk => ?_
       refine lend (q25 _ _ ?_)
       obtain ⟨hc3, h⟩ := chk h
       refine wdrawE1 (.next [true, true, true, true, false, false, false, false, false] 4 [true, true, true, true, false, false, false, false, false] (.next [true, true, true, false, false, false, false, false, false] 5 [true, true, true, true, true, false, false, false, false] (.next [true, false, false, false, false, false, false, false, false] 6 [true, true, true, true, true, true, false, false, false] (.next [false, false, false, false, false, false, false, true, false] 8 [true, true, true, true, true, true, true, true, false] (.leaf [false, false, false, false, false, false, false, false, false]))))) [(73, [], .agg ((St12.cells t5.1))), (74, [], .lit (.pointer (some ⟨bx4, 1, none⟩))), (75, [], .lit (.slice xd5 (List.length l5) xc5)), (76, [], .agg ((ApiArg.cells t5.2))), (77, [], .agg []), (78, [], .agg []), (95, [], .lit undef), (79, [], .agg []), (95, [], .lit undef)] (by kernel_rfl) (by kernel_rfl) (by kernel_rfl) (by kernel_rfl) hk ?_; clear hk
       refine gnext ?_ rfl rfl rfl rfl rfl ?_
       ·refine gfun (y := .agg ((St12.cells t5.1))) rfl rfl rfl rfl (fun a w hk => f_loadBlk hk h0 (j := 1) rfl rfl underlying64 rfl rfl rfl rfl) ?_
        refine gfun (y := .lit (.pointer (some ⟨bx4, 1, none⟩))) rfl rfl rfl rfl (fun a w hk => f_fieldPtr hk h0 rfl underlying29 rfl (by kernel_rfl) rfl) ?_
        refine gfun (y := .lit (.slice xd5 (List.length l5) xc5)) rfl rfl rfl rfl (fun a w hk => f_loadBlk1 hk h0 (j := 3) rfl rfl underlying27 rfl rfl) ?_
        refine gfun (y := .agg ((ApiArg.cells t5.2))) rfl rfl rfl rfl (fun a w hk => f_loadBlk hk h0 (j := 0) rfl rfl underlying38 rfl rfl rfl rfl) ?_
        refine gskip rfl rfl ?_
        refine gskip rfl rfl ?_
        refine gskip0 rfl ?_
        refine gskip rfl rfl ?_
        refine gskip0 rfl ?_
        exact gend
       ·intro σD a w opsD QD hk hf hQ hX
        refine l_buildSlice (f := ApiArg.cells) (l := ([t5.2] : List ApiArg)) hk rfl hf rfl underlying27 rfl rfl rfl rfl (fun _ => rfl) rfl ?_; clear hk; intro bx7 a w hk
        refine hQ _ _ a w ?_ hk; clear hk hQ hf hX
        refine ⟨[(73, [], .agg ((St12.cells t5.1))), (74, [], .lit (.pointer (some ⟨bx4, 1, none⟩))), (75, [], .lit (.slice xd5 (List.length l5) xc5)), (76, [], .agg ((ApiArg.cells t5.2))), (77, [], .lit (.slice (some ⟨bx7, 0, none⟩) (List.length ([t5.2] : List ApiArg)) 1)), (78, [], .agg []), (95, [], .lit undef), (79, [], .agg []), (95, [], .lit undef)], And.intro rfl (And.intro rfl (And.intro rfl (And.intro rfl (trivial)))), rfl, ?_⟩
        refine gnext ?_ rfl rfl rfl rfl rfl ?_
        ·refine gfun (y := .agg ((St12.cells t5.1))) rfl rfl rfl rfl (fun a w hk => f_loadBlk hk h0 (j := 2) rfl rfl underlying64 rfl rfl rfl rfl) ?_
         refine gfun (y := .lit (.pointer (some ⟨bx4, 1, none⟩))) rfl rfl rfl rfl (fun a w hk => f_fieldPtr hk h0 rfl underlying29 rfl (by kernel_rfl) rfl) ?_
         refine gfun (y := .lit (.slice xd5 (List.length l5) xc5)) rfl rfl rfl rfl (fun a w hk => f_loadBlk1 hk h0 (j := 4) rfl rfl underlying27 rfl rfl) ?_
         refine gskip rfl rfl ?_
         refine gskip rfl rfl ?_
         refine gskip rfl rfl ?_
         refine gskip0 rfl ?_
         refine gskip rfl rfl ?_
         refine gskip0 rfl ?_
         exact gend
        ·intro σD a w opsD QD hk hf hQ hX
         refine l_append (l2 := ([t5.2] : List ApiArg)) (l3 := (l5 ++ ([t5.2] : List ApiArg))) (I' := fun ad1 cap1 => [orow (some ⟨bx7, 0, none⟩) 1 38 11 ApiArg.cells ([t5.2] : List ApiArg), blk bx6 38 ((ApiArg.cells t5.2)), blk bx5 64 ((St12.cells t5.1)), orow ad1 cap1 38 11 ApiArg.cells (l5 ++ ([t5.2] : List ApiArg)), blk bx4 29 ([.lit (.string (B y4_0)), .lit (.slice xd5 (List.length l5) xc5)]), orow xd3 xc3 29 2 ApiStep.cells l3, blk bx2 64 ((St12.cells (⟨[], 0, 0, 0, 0, 0⟩ : St12))), blk bx1 64 ((St12.cells y1))]) (j := 3) hk rfl rfl hf rfl (own_src hk (j := 0) rfl rfl (fun _ => rfl) underlying27) underlying27 (by kernel_rfl) hc3 rfl (fun _ _ => rfl) ?_; clear hk; intro ad1 cap1 a w hk
         replace hk := S.dropI (I' := [blk bx6 38 ((ApiArg.cells t5.2)), blk bx5 64 ((St12.cells t5.1)), orow ad1 cap1 38 11 ApiArg.cells (l5 ++ ([t5.2] : List ApiArg)), blk bx4 29 ([.lit (.string (B y4_0)), .lit (.slice xd5 (List.length l5) xc5)]), orow xd3 xc3 29 2 ApiStep.cells l3, blk bx2 64 ((St12.cells (⟨[], 0, 0, 0, 0, 0⟩ : St12))), blk bx1 64 ((St12.cells y1))]) hk 0 rfl
         refine hQ _ _ a w ?_ hk; clear hk hQ hf hX
         refine ⟨[(73, [], .agg ((St12.cells t5.1))), (74, [], .lit (.pointer (some ⟨bx4, 1, none⟩))), (75, [], .lit (.slice xd5 (List.length l5) xc5)), (76, [], .agg ((ApiArg.cells t5.2))), (77, [], .lit (.slice (some ⟨bx7, 0, none⟩) (List.length ([t5.2] : List ApiArg)) 1)), (78, [], .lit (.slice ad1 (List.length (l5 ++ ([t5.2] : List ApiArg))) cap1)), (95, [], .lit undef), (79, [], .agg []), (95, [], .lit undef)], And.intro rfl (And.intro rfl (And.intro rfl (And.intro rfl (And.intro rfl (trivial))))), rfl, ?_⟩
         refine gnext0 ?_ rfl rfl rfl ?_
         ·refine gfun (y := .agg ((St12.cells t5.1))) rfl rfl rfl rfl (fun a w hk => f_loadBlk hk h0 (j := 1) rfl rfl underlying64 rfl rfl rfl rfl) ?_
          refine gskip rfl rfl ?_
          refine gskip rfl rfl ?_
          refine gskip rfl rfl ?_
          refine gskip rfl rfl ?_
          refine gskip rfl rfl ?_
          refine gskip0 rfl ?_
          refine gskip rfl rfl ?_
          refine gskip0 rfl ?_
          exact gend
         ·intro σD a w opsD QD hk hQ hX
          refine st6 (cs' := (St12.cells t5.1)) hk rfl (by kernel_rfl) fun w hk => ?_
          refine hQ _ a w ?_ hk; clear hk hQ hX
          refine ⟨[(73, [], .agg ((St12.cells t5.1))), (74, [], .lit (.pointer (some ⟨bx4, 1, none⟩))), (75, [], .lit (.slice xd5 (List.length l5) xc5)), (76, [], .agg ((ApiArg.cells t5.2))), (77, [], .lit (.slice (some ⟨bx7, 0, none⟩) (List.length ([t5.2] : List ApiArg)) 1)), (78, [], .lit (.slice ad1 (List.length (l5 ++ ([t5.2] : List ApiArg))) cap1)), (95, [], .lit undef), (79, [], .lit (.pointer (some ⟨bx4, 1, none⟩))), (95, [], .lit undef)], And.intro rfl (And.intro rfl (And.intro rfl (And.intro rfl (And.intro rfl (And.intro rfl (trivial)))))), rfl, ?_⟩
          refine gnext0 ?_ rfl rfl rfl ?_
          ·refine gskip rfl rfl ?_
           refine gskip rfl rfl ?_
           refine gskip rfl rfl ?_
           refine gskip rfl rfl ?_
           refine gskip rfl rfl ?_
           refine gskip rfl rfl ?_
           refine gskip0 rfl ?_
           refine gfun (y := .lit (.pointer (some ⟨bx4, 1, none⟩))) rfl rfl rfl rfl (fun a w hk => f_fieldPtr hk h0 rfl underlying29 rfl (by kernel_rfl) rfl) ?_
           refine gskip0 rfl ?_
           exact gend
          ·intro σD a w opsD QD hk hQ hX
           refine st3 (cs' := [.lit (.string (B y4_0)), .lit (.slice ad1 (List.length (l5 ++ ([t5.2] : List ApiArg))) cap1)]) hk rfl (by kernel_rfl) fun w hk => ?_
           refine hQ _ a w ?_ hk; clear hk hQ hX
           refine ⟨[(73, [], .agg ((St12.cells t5.1))), (74, [], .lit (.pointer (some ⟨bx4, 1, none⟩))), (75, [], .lit (.slice xd5 (List.length l5) xc5)), (76, [], .agg ((ApiArg.cells t5.2))), (77, [], .lit (.slice (some ⟨bx7, 0, none⟩) (List.length ([t5.2] : List ApiArg)) 1)), (78, [], .lit (.slice ad1 (List.length (l5 ++ ([t5.2] : List ApiArg))) cap1)), (95, [], .lit undef), (79, [], .lit (.pointer (some ⟨bx4, 1, none⟩))), (95, [], .lit undef)], And.intro rfl (And.intro rfl (And.intro rfl (And.intro rfl (And.intro rfl (And.intro rfl (And.intro rfl (And.intro rfl (trivial)))))))), rfl, ?_⟩
           refine glast ?_ ?_
           ·refine gskip rfl rfl ?_
            refine gskip rfl rfl ?_
            refine gskip rfl rfl ?_
            refine gskip rfl rfl ?_
            refine gskip rfl rfl ?_
            refine gskip rfl rfl ?_
            refine gskip0 rfl ?_
            refine gskip rfl rfl ?_
            refine gskip0 rfl ?_
            exact gend
           ·intro a w hk; simp only [stD, cond_true] at hk
            exact q19 (kl2, (l5 ++ ([t5.2] : List ApiArg)), y4_0, t5.1, ad1, cap1) _ _ (Nat.lt_succ_self _) ⟨((hk.drop 1).drop 0).sub ⟨rfl, rfl, rfl, rfl, trivial⟩, h⟩
      refine wp_skip ?_
      exact q19 (kl2, l5, y4_0, y1, xd5, xc5) _ _ (Nat.lt_succ_self _) ⟨hk.sub ⟨rfl, rfl, rfl, rfl, trivial⟩, h⟩
     ·intro K' q23
      refine rg hk fun _ q27=>gF 1 underlying29<|gB 1 underlying27<|gP (p_len underlying27 · h0 rfl)<|gP (p_geq · h0 rfl rfl)<|ge q27 fun a w hk=>wc hk h (fun h hb=>?_) fun h hb=>?_
      ·refine wreg1 ?_
       refine lf hk (f_loadBlk hk h0 (j := 4) rfl rfl underlying64 rfl rfl rfl rfl) fun a w hk=>?_
       obtain ⟨t6, hr_t6, h⟩ := bnd h
       refine lf (y := .agg ((St12.cells t6))) hk (f_call hk h0 rfl rfl func28 rfl (by kernel_rfl) (p12_fail.ok y1 3 _ hr_t6)) fun a w hk=>?_
       refine st4 (cs' := (St12.cells t6)) hk rfl (by kernel_rfl) fun w hk => ?_
       refine wpList_nil ?_
       exact q23 _ _ ⟨t6, hk.sub ⟨rfl, rfl, rfl, rfl, trivial⟩, h⟩
      refine wp_skip ?_
      exact q23 _ _ ⟨y1, hk.sub ⟨rfl, rfl, rfl, rfl, trivial⟩, h⟩
    ·intro K' q22
     refine rg hk fun _ q29=>gF 1 underlying29<|gB 1 underlying27<|gP (p_len underlying27 · h0 rfl)<|gP (p_gtr · h0 rfl rfl)<|ge q29 fun a w hk=>wc hk h (fun h hb=>?_) fun h hb=>?_
     ·refine wreg1 ?_
      refine lf hk (f_loadBlk hk h0 (j := 4) rfl rfl underlying64 rfl rfl rfl rfl) fun a w hk=>?_
      obtain ⟨t7, hr_t7, h⟩ := bnd h
      refine lf (y := .agg ((St12.cells t7))) hk (f_call hk h0 rfl rfl func26 rfl (by kernel_rfl) (p12_sign.ok y1 ([44] : List UInt8) _ hr_t7)) fun a w hk=>?_
      refine st4 (cs' := (St12.cells t7)) hk rfl (by kernel_rfl) fun w hk => ?_
      refine wpList_nil ?_
      exact q22 _ _ ⟨t7, hk.sub ⟨rfl, rfl, rfl, rfl, trivial⟩, h⟩
     refine wp_skip ?_
     exact q22 _ _ ⟨y1, hk.sub ⟨rfl, rfl, rfl, rfl, trivial⟩, h⟩
   refine wp_exit ?_; (repeat first | refine te ?_ | refine be rfl ?_); refine bx ?_
   refine q18 _ _ ?_
   refine wreg fun _ q31 => ?_
   refine lf hk (f_loadBlk hk h0 (j := 4) rfl rfl underlying64 rfl rfl rfl rfl) fun a w hk=>?_
   obtain ⟨t8, hr_t8, h⟩ := bnd h
   refine lf (y := .agg ((St12.cells t8))) hk (f_call hk h0 rfl rfl func26 rfl (by kernel_rfl) (p12_sign.ok y1 ([41] : List UInt8) _ hr_t8)) fun a w hk=>?_
   refine st4 (cs' := (St12.cells t8)) hk rfl (by kernel_rfl) fun w hk => ?_
   refine lend (q31 _ _ ?_)
   refine rg hk fun _ q32=>gM<|fun a w hk=>?_
   replace hk := S.freezeBlk (I1 := [blk bx4 29 ([.lit (.string (B y4_0)), .lit (.slice xd5 (List.length l5) xc5)]), orow xd3 xc3 29 2 ApiStep.cells l3, blk bx2 64 ((St12.cells (⟨[], 0, 0, 0, 0, 0⟩ : St12))), blk bx1 64 ((St12.cells t8))]) (cs' := (ApiStep.cells (⟨y4_0, l5⟩ : ApiStep))) (I' := [blk bx4 29 ((ApiStep.cells (⟨y4_0, l5⟩ : ApiStep))), orow xd3 xc3 29 2 ApiStep.cells l3, blk bx2 64 ((St12.cells (⟨[], 0, 0, 0, 0, 0⟩ : St12))), blk bx1 64 ((St12.cells t8))]) r_ApiArg_cells_eq hk 0 0 1 rfl rfl rfl rfl rfl rfl
   refine lf hk (f_loadBlk hk h0 (j := 0) rfl rfl underlying29 rfl rfl rfl rfl) fun a w hk=>?_
   refine l_buildSlice (f := ApiStep.cells) (l := ([(⟨y4_0, l5⟩ : ApiStep)] : List ApiStep)) hk rfl rfl rfl underlying22 rfl rfl rfl rfl (fun _ => rfl) rfl ?_; clear hk; intro bx8 a w hk
   obtain ⟨hc4, h⟩ := chk h
   refine l_append (l2 := ([(⟨y4_0, l5⟩ : ApiStep)] : List ApiStep)) (l3 := (l3 ++ ([(⟨y4_0, l5⟩ : ApiStep)] : List ApiStep))) (I' := fun ad2 cap2 => [orow (some ⟨bx8, 0, none⟩) 1 29 2 ApiStep.cells ([(⟨y4_0, l5⟩ : ApiStep)] : List ApiStep), blk bx4 29 ((ApiStep.cells (⟨y4_0, l5⟩ : ApiStep))), orow ad2 cap2 29 2 ApiStep.cells (l3 ++ ([(⟨y4_0, l5⟩ : ApiStep)] : List ApiStep)), blk bx2 64 ((St12.cells (⟨[], 0, 0, 0, 0, 0⟩ : St12))), blk bx1 64 ((St12.cells t8))]) (j := 2) hk rfl rfl rfl rfl (own_src hk (j := 0) rfl rfl (fun _ => rfl) underlying22) underlying22 (by kernel_rfl) hc4 rfl (fun _ _ => rfl) ?_; clear hk; intro ad2 cap2 a w hk
   replace hk := S.dropI (I' := [blk bx4 29 ((ApiStep.cells (⟨y4_0, l5⟩ : ApiStep))), orow ad2 cap2 29 2 ApiStep.cells (l3 ++ ([(⟨y4_0, l5⟩ : ApiStep)] : List ApiStep)), blk bx2 64 ((St12.cells (⟨[], 0, 0, 0, 0, 0⟩ : St12))), blk bx1 64 ((St12.cells t8))]) hk 0 rfl
   refine go hk<|gA<|ge q32 fun a w hk=>?_
   refine wseq fun _ q33 => ?_
   refine wreg fun _ q34 => ?_
   refine lf hk (f_loadBlk hk h0 (j := 3) rfl rfl underlying64 rfl rfl rfl rfl) fun a w hk=>?_
   obtain ⟨t9, hr_t9, h⟩ := bnd h
   refine lf (y := .lit (.bool t9)) hk (f_call hk h0 rfl rfl func51 rfl (by kernel_rfl) (p12_is.ok t8 ([46] : List UInt8) _ hr_t9)) fun a w hk=>?_
   refine go hk<|gP (p_not · h0 rfl)<|ge q34 fun a w hk=>wc hk h (fun h hb=>?_) fun h hb=>?_
   ·refine wp_exit ?_; (repeat first | refine te ?_ | refine be rfl ?_); refine bx ?_
    exact q3 _ _ ⟨(l3 ++ ([(⟨y4_0, l5⟩ : ApiStep)] : List ApiStep)), t8, ad2, cap2, (hk.drop 0).sub ⟨rfl, rfl, rfl, trivial⟩, h⟩
   refine wp_skip ?_
   refine q33 _ _ ?_
   refine rg1 hk<|gF 1 underlying64<|gB 3 underlying3<|gD<|gF 1 underlying64<|fun a w hk=>?_
   refine st3 (cs' := (St12.cells (⟨t8.L, (IntKind.wrap .i64 (t8.I + 1)), t8.Deep, t8.Steps, t8.At, t8.E⟩ : St12))) hk rfl (by kernel_rfl) fun w hk => ?_
   refine wpList_nil ?_
   exact q5 (kl1, (l3 ++ ([(⟨y4_0, l5⟩ : ApiStep)] : List ApiStep)), (⟨t8.L, (IntKind.wrap .i64 (t8.I + 1)), t8.Deep, t8.Steps, t8.At, t8.E⟩ : St12), ad2, cap2) _ _ (Nat.lt_succ_self _) ⟨(hk.drop 0).sub ⟨rfl, rfl, rfl, trivial⟩, h⟩
  refine wp_exit ?_; (repeat first | refine te ?_ | refine be rfl ?_); refine bx ?_
  exact q3 _ _ ⟨l3, y1, xd3, xc3, hk.sub ⟨rfl, rfl, rfl, trivial⟩, h⟩
end Go.Proofs.Ytbjbgodcenopnaa
namespace Go.Proofs.Ytbjbgodcenopnaa
open FW _root_.Go.Proofs.Try
set_option linter.unusedVariables false
set_option maxRecDepth 20000
set_option maxHeartbeats 10000000
theorem p12_arg.bok (zst : St12 → Option (St12 × List ApiStep)) (zar : St12 → Option (St12 × ApiArg)) (hzst : Zzst zst) (hzar : Zzar zar) (K : Nat) (v0 : St12) (r : St12 × ApiArg) (h : p12_arg.b zst zar K v0 = some r) :
  Ok prog 52 [.agg (St12.cells v0)] (.tup [.agg (St12.cells r.1), .agg (ApiArg.cells r.2)]) := by
 refine enter (xs := [.agg (St12.cells v0)]) func52 rfl ntmps52 rfl ?_
 intro M w0 a hk
 unfold p12_arg.b at h
 refine wreg fun _ q1 => ?_
 refine l_box (cs := (St12.cells v0)) hk rfl rfl rfl rfl rfl ?_; clear hk; intro bx1 a w hk
 refine l_alloc (zs := (St12.cells (⟨[], 0, 0, 0, 0, 0⟩ : St12))) [] hk rfl rfl rfl rfl ?_; clear hk; intro bx2 a w hk
 refine l_alloc (zs := (ApiArg.cells (⟨0, (⟨0, false, 0, 0, [], []⟩ : ApiValue), (⟨[], [], []⟩ : ApiPred), []⟩ : ApiArg))) [] hk rfl rfl rfl rfl ?_; clear hk; intro bx3 a w hk
 refine lend (q1 _ _ ?_)
 refine wreg fun _ q2 => ?_
 refine lf hk (f_loadBlk hk h0 (j := 2) rfl rfl underlying64 rfl rfl rfl rfl) fun a w hk=>?_
 obtain ⟨t1, hr_t1, h⟩ := bnd h
 refine lf (y := .tup [.agg ((St12.cells t1.1)), .agg ((ApiValue.cells t1.2.1)), .lit (.bool t1.2.2)]) hk (f_call hk h0 rfl rfl func76 rfl (by kernel_rfl) (p12_value.ok K v0 _ hr_t1)) fun a w hk=>?_
 refine go hk<|gM<|fun a w hk=>?_
 refine go hk<|gX<|gX<|gX<|fun a w hk=>?_
 refine l_alloc (zs := (St12.cells (⟨[], 0, 0, 0, 0, 0⟩ : St12))) [] hk rfl rfl rfl rfl ?_; clear hk; intro bx4 a w hk
 refine l_alloc (zs := (ApiValue.cells (⟨0, false, 0, 0, [], []⟩ : ApiValue))) [] hk rfl rfl rfl rfl ?_; clear hk; intro bx5 a w hk
 refine st1 (cs' := (St12.cells t1.1)) hk rfl (by kernel_rfl) fun w hk => ?_
 refine st0 (cs' := (ApiValue.cells t1.2.1)) hk rfl (by kernel_rfl) fun w hk => ?_
 refine go hk<|gA<|ge q2 fun a w hk=>?_
 refine wseq fun _ q3 => ?_
 refine rg hk fun _ q4=>gM<|gM<|fun a w hk=>?_
 refine lg (y := .lit (.pointer (some ⟨bx4, 5, none⟩))) hk rfl rfl rfl (fun hc => f_fieldPtr hk hc rfl underlying64 rfl (by kernel_rfl) rfl) fun a w hk=>?_
 refine lg hk rfl rfl rfl (fun hc => f_loadBlk1 hk hc (j := 1) rfl rfl underlying23 rfl rfl) fun a w hk=>?_
 refine lg hk rfl rfl rfl (fun hc => (f_pure (p_neq hk.kn hc rfl rfl))) fun a w hk=>?_
 refine go hk<|gR<|ge q4 fun a w hk=>wc hk h (fun h hb=>?_) fun h hb=>?_
 ·refine wdrawE (.next [true, true, true, false, false] 3 [true, true, true, false, false] (.next [false, true, true, false, false] 4 [true, true, true, true, false] (.leaf [false, false, false, false, false]))) [(28, [], .agg ((St12.cells t1.1))), (29, [], .agg ((ApiValue.cells t1.2.1))), (30, [], .agg ((ApiArg.cells (⟨1, t1.2.1, (⟨[], [], []⟩ : ApiPred), []⟩ : ApiArg)))), (122, [], .lit undef), (122, [], .lit undef)] (by kernel_rfl) (by kernel_rfl) (by kernel_rfl) (by kernel_rfl) hk ?_; clear hk
  refine gnext0 ?_ rfl rfl rfl ?_
  ·refine gfun (y := .agg ((St12.cells t1.1))) rfl rfl rfl rfl (fun a w hk => f_loadBlk hk h0 (j := 1) rfl rfl underlying64 rfl rfl rfl rfl) ?_
   refine gfun (y := .agg ((ApiValue.cells t1.2.1))) rfl rfl rfl rfl (fun a w hk => f_loadBlk hk h0 (j := 0) rfl rfl underlying33 rfl rfl rfl rfl) ?_
   refine gfun (y := .agg ((ApiArg.cells (⟨1, t1.2.1, (⟨[], [], []⟩ : ApiPred), []⟩ : ApiArg)))) rfl rfl rfl rfl (fun a w hk => f_buildN [] hk h0 rfl rfl rfl) ?_
   refine gskip0 rfl ?_
   refine gskip0 rfl ?_
   exact gend
  ·intro σD a w opsD QD hk hQ hX
   refine st3 (cs' := (St12.cells t1.1)) hk rfl (by kernel_rfl) fun w hk => ?_
   refine hQ _ a w ?_ hk; clear hk hQ hX
   refine ⟨[(28, [], .agg ((St12.cells t1.1))), (29, [], .agg ((ApiValue.cells t1.2.1))), (30, [], .agg ((ApiArg.cells (⟨1, t1.2.1, (⟨[], [], []⟩ : ApiPred), []⟩ : ApiArg)))), (122, [], .lit undef), (122, [], .lit undef)], And.intro rfl (And.intro rfl (And.intro rfl (trivial))), rfl, ?_⟩
   refine gnext0 ?_ rfl rfl rfl ?_
   ·refine gskip rfl rfl ?_
    refine gfun (y := .agg ((ApiValue.cells t1.2.1))) rfl rfl rfl rfl (fun a w hk => f_loadBlk hk h0 (j := 0) rfl rfl underlying33 rfl rfl rfl rfl) ?_
    refine gfun (y := .agg ((ApiArg.cells (⟨1, t1.2.1, (⟨[], [], []⟩ : ApiPred), []⟩ : ApiArg)))) rfl rfl rfl rfl (fun a w hk => f_buildN [] hk h0 rfl rfl rfl) ?_
    refine gskip0 rfl ?_
    refine gskip0 rfl ?_
    exact gend
   ·intro σD a w opsD QD hk hQ hX
    refine st2 (cs' := (ApiArg.cells (⟨1, t1.2.1, (⟨[], [], []⟩ : ApiPred), []⟩ : ApiArg))) hk rfl (by kernel_rfl) fun w hk => ?_
    refine hQ _ a w ?_ hk; clear hk hQ hX
    refine ⟨[(28, [], .agg ((St12.cells t1.1))), (29, [], .agg ((ApiValue.cells t1.2.1))), (30, [], .agg ((ApiArg.cells (⟨1, t1.2.1, (⟨[], [], []⟩ : ApiPred), []⟩ : ApiArg)))), (122, [], .lit undef), (122, [], .lit undef)], And.intro rfl (And.intro rfl (And.intro rfl (And.intro rfl (trivial)))), rfl, ?_⟩
    refine glast ?_ ?_
    ·refine gskip rfl rfl ?_
     refine gskip rfl rfl ?_
     refine gskip rfl rfl ?_
     refine gskip0 rfl ?_
     refine gskip0 rfl ?_
     exact gend
    ·intro a w hk; simp only [stD, cond_true] at hk
     refine wp_ret ?_
     obtain rfl := Option.some.inj h
     exact fretR2 hk rfl (rcell hk rfl (j := 3) rfl underlying64 rfl (by kernel_rfl)) (rcell hk rfl (j := 2) rfl underlying38 rfl (by kernel_rfl))
 refine wp_skip ?_
 refine q3 _ _ ?_
 refine rg hk fun _ q6=>gF 0 underlying64<|gB 4 underlying60<|gF 1 underlying64<|gB 4 underlying3<|fun a w hk=>?_
 obtain ⟨hc1, h⟩ := chk h
 refine lf (y := .ref (ApiWord.cells (List.getD v0.L (Int.toNat v0.I) default))) hk (f_indexAddr (R := r_ApiWord_cells) (f := ApiWord.cells) (l := v0.L) (sz := 5) r_ApiWord_cells_eq (fun _ => rfl) hk h0 rfl rfl underlying60 (by kernel_rfl) hc1) fun a w hk=>?_
 refine lf hk (f_load hk h0 rfl underlying66 rfl rfl rfl rfl) fun a w hk=>?_
 refine l_alloc (zs := (ApiWord.cells (⟨0, [], 0, 0, 0⟩ : ApiWord))) [] hk rfl rfl rfl rfl ?_; clear hk; intro bx6 a w hk
 refine st0 (cs' := (ApiWord.cells (List.getD v0.L (Int.toNat v0.I) default))) hk rfl (by kernel_rfl) fun w hk => ?_
 refine lend (q6 _ _ ?_)
 refine wseqJ (fun a w => ∃ (y6 : ApiWord) (y1 : St12), S M w0 a w 122 [blk bx6 66 ((ApiWord.cells y6)), blk bx3 38 ((ApiArg.cells (⟨0, (⟨0, false, 0, 0, [], []⟩ : ApiValue), (⟨[], [], []⟩ : ApiPred), []⟩ : ApiArg))), blk bx2 64 ((St12.cells (⟨[], 0, 0, 0, 0, 0⟩ : St12))), blk bx1 64 ((St12.cells y1))] [(1, [], .lit (.pointer (some ⟨bx1, 0, none⟩))), (2, [], .lit (.pointer (some ⟨bx2, 0, none⟩))), (3, [], .lit (.pointer (some ⟨bx3, 0, none⟩))), (7, [], .lit (.pointer (some ⟨bx6, 0, none⟩)))] ∧ p12_arg.j1 zst zar K y6 y1 = some r) ?_ ?_
 ·clear hk h
  rintro a w ⟨y6, y1, hk, h⟩
  unfold p12_arg.j1 at h
  refine rg hk fun _ q8=>gF 2 underlying64<|gB 3 underlying3<|gA<|ge q8 fun a w hk=>?_
  refine wreg fun _ q9 => ?_
  refine lf hk (f_loadBlk hk h0 (j := 3) rfl rfl underlying64 rfl rfl rfl rfl) fun a w hk=>?_
  obtain ⟨t2, hr_t2, h⟩ := bnd h
  refine lf (y := .agg ((St12.cells t2))) hk (f_call hk h0 rfl rfl func79 rfl (by kernel_rfl) (p12_into.ok y1 _ hr_t2)) fun a w hk=>?_
  refine st3 (cs' := (St12.cells t2)) hk rfl (by kernel_rfl) fun w hk => ?_
  refine lend (q9 _ _ ?_)
  refine wseqJ (fun a w => ∃ (y1 : St12) (v14 : Int), S M w0 a w 122 [blk bx3 38 ((ApiArg.cells (⟨0, (⟨0, false, 0, 0, [], []⟩ : ApiValue), (⟨[], [], []⟩ : ApiPred), []⟩ : ApiArg))), blk bx2 64 ((St12.cells (⟨[], 0, 0, 0, 0, 0⟩ : St12))), blk bx1 64 ((St12.cells y1))] [(1, [], .lit (.pointer (some ⟨bx1, 0, none⟩))), (2, [], .lit (.pointer (some ⟨bx2, 0, none⟩))), (3, [], .lit (.pointer (some ⟨bx3, 0, none⟩))), (14, [], .lit (.int .i64 v14))] ∧ p12_arg.j2 zst zar K y1 v14 = some r) ?_ ?_
  ·clear hk h
   rintro a w ⟨y1, v14, hk, h⟩
   unfold p12_arg.j2 at h
   refine wreg fun _ q11 => ?_
   refine lf hk (f_loadBlk hk h0 (j := 2) rfl rfl underlying64 rfl rfl rfl rfl) fun a w hk=>?_
   obtain ⟨t3, hr_t3, h⟩ := bnd h
   refine lf (y := .tup [.agg ((St12.cells t3.1)), .row (r_ApiStep_cells t3.2)]) hk (f_call hk h0 rfl rfl func27 rfl (by kernel_rfl) (hzst y1 _ hr_t3)) fun a w hk=>?_
   refine go hk<|gM<|fun a w hk=>?_
   refine go hk<|gX<|gX<|fun a w hk=>?_
   refine st2 (cs' := (St12.cells t3.1)) hk rfl (by kernel_rfl) fun w hk => ?_
   refine go hk<|gA<|ge q11 fun a w hk=>?_
   refine rg hk fun _ q12=>gM<|gF 2 underlying64<|fun a w hk=>?_
   refine st2 (cs' := (St12.cells (⟨t3.1.L, t3.1.I, v14, t3.1.Steps, t3.1.At, t3.1.E⟩ : St12))) hk rfl (by kernel_rfl) fun w hk => ?_
   refine lend (q12 _ _ ?_)
   refine wreg fun _ q13 => ?_
   refine lf hk (f_loadBlk hk h0 (j := 2) rfl rfl underlying64 rfl rfl rfl rfl) fun a w hk=>?_
   refine go hk<|gM<|fun a w hk=>?_
   refine lf (y := .agg ((ApiArg.cells (⟨3, (⟨0, false, 0, 0, [], []⟩ : ApiValue), (⟨[], [], []⟩ : ApiPred), t3.2⟩ : ApiArg)))) hk (f_buildN [] hk h0 rfl rfl rfl) fun a w hk=>?_
   refine st1 (cs' := (St12.cells (⟨t3.1.L, t3.1.I, v14, t3.1.Steps, t3.1.At, t3.1.E⟩ : St12))) hk rfl (by kernel_rfl) fun w hk => ?_
   refine st0 (cs' := (ApiArg.cells (⟨3, (⟨0, false, 0, 0, [], []⟩ : ApiValue), (⟨[], [], []⟩ : ApiPred), t3.2⟩ : ApiArg))) hk rfl (by kernel_rfl) fun w hk => ?_
   refine lend (q13 _ _ ?_)
   refine wp_ret ?_
   obtain rfl := Option.some.inj h
   exact fretR2 hk rfl (rcell hk rfl (j := 1) rfl underlying64 rfl (by kernel_rfl)) (rcell hk rfl (j := 0) rfl underlying38 rfl (by kernel_rfl))
  ·intro K' q10
   refine rg hk fun _ q14=>gF 5 underlying64<|gB 3 underlying23<|gE<|gM<|fun a w hk=>?_
   refine lg (y := .lit (.pointer (some ⟨bx6, 0, none⟩))) hk rfl rfl rfl (fun hc => f_fieldPtr hk hc rfl underlying66 rfl (by kernel_rfl) rfl) fun a w hk=>?_
   refine lg hk rfl rfl rfl (fun hc => f_loadBlk1 hk hc (j := 0) rfl rfl underlying3 rfl rfl) fun a w hk=>?_
   refine lg hk rfl rfl rfl (fun hc => (f_pure (p_eql hk.kn hc rfl rfl))) fun a w hk=>?_
   refine go hk<|gN<|gM<|fun a w hk=>?_
   refine lg (y := .lit (.pointer (some ⟨bx6, 1, none⟩))) hk rfl rfl rfl (fun hc => f_fieldPtr hk hc rfl underlying66 rfl (by kernel_rfl) rfl) fun a w hk=>?_
   refine lg hk rfl rfl rfl (fun hc => f_loadBlk1 hk hc (j := 0) rfl rfl underlying9 rfl rfl) fun a w hk=>?_
   refine lg hk rfl rfl rfl (fun hc => (f_pure (p_seql hk.kn hc rfl rfl))) fun a w hk=>?_
   refine go hk<|gN<|ge q14 fun a w hk=>wc hk h (fun h hb=>?_) fun h hb=>?_
   ·refine rg hk fun _ q15=>gF 1 underlying64<|gB 3 underlying3<|gD<|gF 1 underlying64<|fun a w hk=>?_
    refine st3 (cs' := (St12.cells (⟨t2.L, (IntKind.wrap .i64 (t2.I + 1)), t2.Deep, t2.Steps, t2.At, t2.E⟩ : St12))) hk rfl (by kernel_rfl) fun w hk => ?_
    refine lend (q15 _ _ ?_)
    refine wreg1 ?_
    refine lf hk (f_loadBlk hk h0 (j := 3) rfl rfl underlying64 rfl rfl rfl rfl) fun a w hk=>?_
    obtain ⟨t4, hr_t4, h⟩ := bnd h
    refine lf (y := .agg ((St12.cells t4))) hk (f_call hk h0 rfl rfl func26 rfl (by kernel_rfl) (p12_sign.ok (⟨t2.L, (IntKind.wrap .i64 (t2.I + 1)), t2.Deep, t2.Steps, t2.At, t2.E⟩ : St12) ([46] : List UInt8) _ hr_t4)) fun a w hk=>?_
    refine st3 (cs' := (St12.cells t4)) hk rfl (by kernel_rfl) fun w hk => ?_
    refine wpList_nil ?_
    exact q10 _ _ ⟨t4, y1.Deep, (hk.drop 0).sub ⟨rfl, rfl, rfl, rfl, trivial⟩, h⟩
   refine wp_skip ?_
   exact q10 _ _ ⟨t2, y1.Deep, (hk.drop 0).sub ⟨rfl, rfl, rfl, rfl, trivial⟩, h⟩
 ·intro K' q7
  refine rg hk fun _ q17=>gF 0 underlying66<|gB 0 underlying3<|gE<|ge q17 fun a w hk=>wc hk h (fun h hb=>?_) fun h hb=>?_
  ·refine rg hk fun _ q18=>gF 0 underlying64<|gB 5 underlying60<|gF 1 underlying64<|gB 5 underlying3<|gD<|fun a w hk=>?_
   obtain ⟨hc2, h⟩ := chk h
   refine lf (y := .ref (ApiWord.cells (List.getD v0.L (Int.toNat (IntKind.wrap .i64 (v0.I + 1))) default))) hk (f_indexAddr (R := r_ApiWord_cells) (f := ApiWord.cells) (l := v0.L) (sz := 5) r_ApiWord_cells_eq (fun _ => rfl) hk h0 rfl rfl underlying60 (by kernel_rfl) hc2) fun a w hk=>?_
   refine lf hk (f_load hk h0 rfl underlying66 rfl rfl rfl rfl) fun a w hk=>?_
   refine l_alloc (zs := (ApiWord.cells (⟨0, [], 0, 0, 0⟩ : ApiWord))) [] hk rfl rfl rfl rfl ?_; clear hk; intro bx7 a w hk
   refine st0 (cs' := (ApiWord.cells (List.getD v0.L (Int.toNat (IntKind.wrap .i64 (v0.I + 1))) default))) hk rfl (by kernel_rfl) fun w hk => ?_
   refine lend (q18 _ _ ?_)
   refine rg hk fun _ q19=>gF 0 underlying66<|gB 0 underlying3<|gE<|gM<|fun a w hk=>?_
   refine lg (y := .lit (.pointer (some ⟨bx7, 1, none⟩))) hk rfl rfl rfl (fun hc => f_fieldPtr hk hc rfl underlying66 rfl (by kernel_rfl) rfl) fun a w hk=>?_
   refine lg hk rfl rfl rfl (fun hc => f_loadBlk1 hk hc (j := 0) rfl rfl underlying9 rfl rfl) fun a w hk=>?_
   refine lg hk rfl rfl rfl (fun hc => (f_pure (p_seql hk.kn hc rfl rfl))) fun a w hk=>?_
   refine go hk<|gN<|gA<|ge q19 fun a w hk=>?_
   refine wseq fun _ q20 => ?_
   refine rg hk fun _ q21=>gF 1 underlying66<|gB 1 underlying9<|fun a w hk=>?_
   obtain ⟨t5, hr_t5, h⟩ := bnd h
   refine lf (y := .tup [.lit (.int .i64 t5.1), .lit (.bool t5.2)]) hk (f_call hk h0 rfl rfl func77 rfl (by kernel_rfl) (r12_Preds.ok K ((List.getD v0.L (Int.toNat v0.I) default).S) _ hr_t5)) fun a w hk=>?_
   refine go hk<|gM<|fun a w hk=>?_
   refine go hk<|gX<|gX<|gA<|gA<|ge q21 fun a w hk=>?_
   refine rg hk fun _ q22=>gM<|gM<|gm<|fun a w hk=>?_
   refine go hk<|gN<|ge q22 fun a w hk=>wc hk h (fun h hb=>?_) fun h hb=>?_
   ·refine wreg fun _ q23 => ?_
    refine lf hk (f_loadBlk hk h0 (j := 6) rfl rfl underlying64 rfl rfl rfl rfl) fun a w hk=>?_
    obtain ⟨t6, hr_t6, h⟩ := bnd h
    refine lf (y := .tup [.agg ((St12.cells t6.1)), .agg ((ApiPred.cells t6.2))]) hk (f_call hk h0 rfl rfl func78 rfl (by kernel_rfl) (p12_pred.ok K v0 _ hr_t6)) fun a w hk=>?_
    refine go hk<|gM<|fun a w hk=>?_
    refine go hk<|gX<|gX<|fun a w hk=>?_
    refine l_alloc (zs := (St12.cells (⟨[], 0, 0, 0, 0, 0⟩ : St12))) [] hk rfl rfl rfl rfl ?_; clear hk; intro bx8 a w hk
    refine l_alloc (zs := (ApiPred.cells (⟨[], [], []⟩ : ApiPred))) [] hk rfl rfl rfl rfl ?_; clear hk; intro bx9 a w hk
    refine st1 (cs' := (St12.cells t6.1)) hk rfl (by kernel_rfl) fun w hk => ?_
    refine st0 (cs' := (ApiPred.cells t6.2)) hk rfl (by kernel_rfl) fun w hk => ?_
    refine lend (q23 _ _ ?_)
    refine wdrawE (.next [true, true, true, false, false] 3 [true, true, true, false, false] (.next [false, true, true, false, false] 4 [true, true, true, true, false] (.leaf [false, false, false, false, false]))) [(70, [], .agg ((St12.cells t6.1))), (71, [], .agg ((ApiPred.cells t6.2))), (72, [], .agg ((ApiArg.cells (⟨2, (⟨0, false, 0, 0, [], []⟩ : ApiValue), t6.2, []⟩ : ApiArg)))), (122, [], .lit undef), (122, [], .lit undef)] (by kernel_rfl) (by kernel_rfl) (by kernel_rfl) (by kernel_rfl) hk ?_; clear hk
    refine gnext0 ?_ rfl rfl rfl ?_
    ·refine gfun (y := .agg ((St12.cells t6.1))) rfl rfl rfl rfl (fun a w hk => f_loadBlk hk h0 (j := 1) rfl rfl underlying64 rfl rfl rfl rfl) ?_
     refine gfun (y := .agg ((ApiPred.cells t6.2))) rfl rfl rfl rfl (fun a w hk => f_loadBlk hk h0 (j := 0) rfl rfl underlying36 rfl rfl rfl rfl) ?_
     refine gfun (y := .agg ((ApiArg.cells (⟨2, (⟨0, false, 0, 0, [], []⟩ : ApiValue), t6.2, []⟩ : ApiArg)))) rfl rfl rfl rfl (fun a w hk => f_buildN [] hk h0 rfl rfl rfl) ?_
     refine gskip0 rfl ?_
     refine gskip0 rfl ?_
     exact gend
    ·intro σD a w opsD QD hk hQ hX
     refine l_store (I' := [blk bx9 36 ((ApiPred.cells t6.2)), blk bx8 64 ((St12.cells t6.1)), blk bx7 66 ((ApiWord.cells (List.getD v0.L (Int.toNat (IntKind.wrap .i64 (v0.I + 1))) default))), blk bx6 66 ((ApiWord.cells (List.getD v0.L (Int.toNat v0.I) default))), blk bx5 33 ((ApiValue.cells t1.2.1)), blk bx4 64 ((St12.cells t1.1)), blk bx3 38 ((ApiArg.cells (⟨0, (⟨0, false, 0, 0, [], []⟩ : ApiValue), (⟨[], [], []⟩ : ApiPred), []⟩ : ApiArg))), blk bx2 64 ((St12.cells t6.1)), blk bx1 64 ((St12.cells v0))]) (cs' := (St12.cells t6.1)) (j := 7) hk rfl rfl rfl rfl rfl (by kernel_rfl) rfl rfl fun w hk => ?_
     refine hQ _ a w ?_ hk; clear hk hQ hX
     refine ⟨[(70, [], .agg ((St12.cells t6.1))), (71, [], .agg ((ApiPred.cells t6.2))), (72, [], .agg ((ApiArg.cells (⟨2, (⟨0, false, 0, 0, [], []⟩ : ApiValue), t6.2, []⟩ : ApiArg)))), (122, [], .lit undef), (122, [], .lit undef)], And.intro rfl (And.intro rfl (And.intro rfl (trivial))), rfl, ?_⟩
     refine gnext0 ?_ rfl rfl rfl ?_
     ·refine gskip rfl rfl ?_
      refine gfun (y := .agg ((ApiPred.cells t6.2))) rfl rfl rfl rfl (fun a w hk => f_loadBlk hk h0 (j := 0) rfl rfl underlying36 rfl rfl rfl rfl) ?_
      refine gfun (y := .agg ((ApiArg.cells (⟨2, (⟨0, false, 0, 0, [], []⟩ : ApiValue), t6.2, []⟩ : ApiArg)))) rfl rfl rfl rfl (fun a w hk => f_buildN [] hk h0 rfl rfl rfl) ?_
      refine gskip0 rfl ?_
      refine gskip0 rfl ?_
      exact gend
     ·intro σD a w opsD QD hk hQ hX
      refine st6 (cs' := (ApiArg.cells (⟨2, (⟨0, false, 0, 0, [], []⟩ : ApiValue), t6.2, []⟩ : ApiArg))) hk rfl (by kernel_rfl) fun w hk => ?_
      refine hQ _ a w ?_ hk; clear hk hQ hX
      refine ⟨[(70, [], .agg ((St12.cells t6.1))), (71, [], .agg ((ApiPred.cells t6.2))), (72, [], .agg ((ApiArg.cells (⟨2, (⟨0, false, 0, 0, [], []⟩ : ApiValue), t6.2, []⟩ : ApiArg)))), (122, [], .lit undef), (122, [], .lit undef)], And.intro rfl (And.intro rfl (And.intro rfl (And.intro rfl (trivial)))), rfl, ?_⟩
      refine glast ?_ ?_
      ·refine gskip rfl rfl ?_
       refine gskip rfl rfl ?_
       refine gskip rfl rfl ?_
       refine gskip0 rfl ?_
       refine gskip0 rfl ?_
       exact gend
      ·intro a w hk; simp only [stD, cond_true] at hk
       refine wp_ret ?_
       obtain rfl := Option.some.inj h
       exact fretR2 hk rfl (rcell hk rfl (j := 7) rfl underlying64 rfl (by kernel_rfl)) (rcell hk rfl (j := 6) rfl underlying38 rfl (by kernel_rfl))
   refine wp_skip ?_
   refine q20 _ _ ?_
   refine rg hk fun _ q25=>gM<|gP (p_not · h0 rfl)<|gM<|fun a w hk=>?_
   refine lg (y := .lit (.pointer (some ⟨bx6, 1, none⟩))) hk rfl rfl rfl (fun hc => f_fieldPtr hk hc rfl underlying66 rfl (by kernel_rfl) rfl) fun a w hk=>?_
   refine lg hk rfl rfl rfl (fun hc => f_loadBlk1 hk hc (j := 1) rfl rfl underlying9 rfl rfl) fun a w hk=>?_
   refine lg hk rfl rfl rfl (fun hc => (f_pure (p_sneq hk.kn hc rfl rfl))) fun a w hk=>?_
   refine go hk<|gN<|ge q25 fun a w hk=>wc hk h (fun h hb=>?_) fun h hb=>?_
   ·refine rg hk fun _ q26=>gF 1 underlying64<|gB 6 underlying3<|gD<|gF 1 underlying64<|fun a w hk=>?_
    refine st6 (cs' := (St12.cells (⟨v0.L, (IntKind.wrap .i64 (v0.I + 1)), v0.Deep, v0.Steps, v0.At, v0.E⟩ : St12))) hk rfl (by kernel_rfl) fun w hk => ?_
    refine lend (q26 _ _ ?_)
    refine wdrawE (.next [true, true, true, true, true, false, false] 5 [true, true, true, true, true, false, false] (.next [false, true, true, true, true, false, false] 6 [true, true, true, true, true, true, false] (.leaf [false, false, false, false, false, false, false]))) [(84, [], .agg ((St12.cells (⟨v0.L, (IntKind.wrap .i64 (v0.I + 1)), v0.Deep, v0.Steps, v0.At, v0.E⟩ : St12)))), (85, [], .lit (.pointer (some ⟨bx6, 1, none⟩))), (86, [], .lit (.string (B ((List.getD v0.L (Int.toNat v0.I) default).S)))), (87, [], .agg ((ApiValue.cells (⟨4, false, 0, 0, (List.getD v0.L (Int.toNat v0.I) default).S, []⟩ : ApiValue)))), (88, [], .agg ((ApiArg.cells (⟨4, (⟨4, false, 0, 0, (List.getD v0.L (Int.toNat v0.I) default).S, []⟩ : ApiValue), (⟨[], [], []⟩ : ApiPred), []⟩ : ApiArg)))), (122, [], .lit undef), (122, [], .lit undef)] (by kernel_rfl) (by kernel_rfl) (by kernel_rfl) (by kernel_rfl) hk ?_; clear hk
    refine gnext0 ?_ rfl rfl rfl ?_
    ·refine gfun (y := .agg ((St12.cells (⟨v0.L, (IntKind.wrap .i64 (v0.I + 1)), v0.Deep, v0.Steps, v0.At, v0.E⟩ : St12)))) rfl rfl rfl rfl (fun a w hk => f_loadBlk hk h0 (j := 6) rfl rfl underlying64 rfl rfl rfl rfl) ?_
     refine gfun (y := .lit (.pointer (some ⟨bx6, 1, none⟩))) rfl rfl rfl rfl (fun a w hk => f_fieldPtr hk h0 rfl underlying66 rfl (by kernel_rfl) rfl) ?_
     refine gfun (y := .lit (.string (B ((List.getD v0.L (Int.toNat v0.I) default).S)))) rfl rfl rfl rfl (fun a w hk => f_loadBlk1 hk h0 (j := 1) rfl rfl underlying9 rfl rfl) ?_
     refine gfun (y := .agg ((ApiValue.cells (⟨4, false, 0, 0, (List.getD v0.L (Int.toNat v0.I) default).S, []⟩ : ApiValue)))) rfl rfl rfl rfl (fun a w hk => f_buildN [] hk h0 rfl rfl rfl) ?_
     refine gfun (y := .agg ((ApiArg.cells (⟨4, (⟨4, false, 0, 0, (List.getD v0.L (Int.toNat v0.I) default).S, []⟩ : ApiValue), (⟨[], [], []⟩ : ApiPred), []⟩ : ApiArg)))) rfl rfl rfl rfl (fun a w hk => f_buildN [] hk h0 rfl rfl rfl) ?_
     refine gskip0 rfl ?_
     refine gskip0 rfl ?_
     exact gend
    ·intro σD a w opsD QD hk hQ hX
     refine st5 (cs' := (St12.cells (⟨v0.L, (IntKind.wrap .i64 (v0.I + 1)), v0.Deep, v0.Steps, v0.At, v0.E⟩ : St12))) hk rfl (by kernel_rfl) fun w hk => ?_
     refine hQ _ a w ?_ hk; clear hk hQ hX
     refine ⟨[(84, [], .agg ((St12.cells (⟨v0.L, (IntKind.wrap .i64 (v0.I + 1)), v0.Deep, v0.Steps, v0.At, v0.E⟩ : St12)))), (85, [], .lit (.pointer (some ⟨bx6, 1, none⟩))), (86, [], .lit (.string (B ((List.getD v0.L (Int.toNat v0.I) default).S)))), (87, [], .agg ((ApiValue.cells (⟨4, false, 0, 0, (List.getD v0.L (Int.toNat v0.I) default).S, []⟩ : ApiValue)))), (88, [], .agg ((ApiArg.cells (⟨4, (⟨4, false, 0, 0, (List.getD v0.L (Int.toNat v0.I) default).S, []⟩ : ApiValue), (⟨[], [], []⟩ : ApiPred), []⟩ : ApiArg)))), (122, [], .lit undef), (122, [], .lit undef)], And.intro rfl (And.intro rfl (And.intro rfl (And.intro rfl (And.intro rfl (trivial))))), rfl, ?_⟩
     refine gnext0 ?_ rfl rfl rfl ?_
     ·refine gskip rfl rfl ?_
      refine gfun (y := .lit (.pointer (some ⟨bx6, 1, none⟩))) rfl rfl rfl rfl (fun a w hk => f_fieldPtr hk h0 rfl underlying66 rfl (by kernel_rfl) rfl) ?_
      refine gfun (y := .lit (.string (B ((List.getD v0.L (Int.toNat v0.I) default).S)))) rfl rfl rfl rfl (fun a w hk => f_loadBlk1 hk h0 (j := 1) rfl rfl underlying9 rfl rfl) ?_
      refine gfun (y := .agg ((ApiValue.cells (⟨4, false, 0, 0, (List.getD v0.L (Int.toNat v0.I) default).S, []⟩ : ApiValue)))) rfl rfl rfl rfl (fun a w hk => f_buildN [] hk h0 rfl rfl rfl) ?_
      refine gfun (y := .agg ((ApiArg.cells (⟨4, (⟨4, false, 0, 0, (List.getD v0.L (Int.toNat v0.I) default).S, []⟩ : ApiValue), (⟨[], [], []⟩ : ApiPred), []⟩ : ApiArg)))) rfl rfl rfl rfl (fun a w hk => f_buildN [] hk h0 rfl rfl rfl) ?_
      refine gskip0 rfl ?_
      refine gskip0 rfl ?_
      exact gend
     ·intro σD a w opsD QD hk hQ hX
      refine st4 (cs' := (ApiArg.cells (⟨4, (⟨4, false, 0, 0, (List.getD v0.L (Int.toNat v0.I) default).S, []⟩ : ApiValue), (⟨[], [], []⟩ : ApiPred), []⟩ : ApiArg))) hk rfl (by kernel_rfl) fun w hk => ?_
      refine hQ _ a w ?_ hk; clear hk hQ hX
      refine ⟨[(84, [], .agg ((St12.cells (⟨v0.L, (IntKind.wrap .i64 (v0.I + 1)), v0.Deep, v0.Steps, v0.At, v0.E⟩ : St12)))), (85, [], .lit (.pointer (some ⟨bx6, 1, none⟩))), (86, [], .lit (.string (B ((List.getD v0.L (Int.toNat v0.I) default).S)))), (87, [], .agg ((ApiValue.cells (⟨4, false, 0, 0, (List.getD v0.L (Int.toNat v0.I) default).S, []⟩ : ApiValue)))), (88, [], .agg ((ApiArg.cells (⟨4, (⟨4, false, 0, 0, (List.getD v0.L (Int.toNat v0.I) default).S, []⟩ : ApiValue), (⟨[], [], []⟩ : ApiPred), []⟩ : ApiArg)))), (122, [], .lit undef), (122, [], .lit undef)], And.intro rfl (And.intro rfl (And.intro rfl (And.intro rfl (And.intro rfl (And.intro rfl (trivial)))))), rfl, ?_⟩
      refine glast ?_ ?_
      ·refine gskip rfl rfl ?_
       refine gskip rfl rfl ?_
       refine gskip rfl rfl ?_
       refine gskip rfl rfl ?_
       refine gskip rfl rfl ?_
       refine gskip0 rfl ?_
       refine gskip0 rfl ?_
       exact gend
      ·intro a w hk; simp only [stD, cond_true] at hk
       refine wp_ret ?_
       obtain rfl := Option.some.inj h
       exact fretR2 hk rfl (rcell hk rfl (j := 5) rfl underlying64 rfl (by kernel_rfl)) (rcell hk rfl (j := 4) rfl underlying38 rfl (by kernel_rfl))
   refine wp_skip ?_
   exact q7 _ _ ⟨(List.getD v0.L (Int.toNat v0.I) default), v0, (((hk.drop 3).drop 2).drop 0).sub ⟨rfl, rfl, rfl, rfl, trivial⟩, h⟩
  refine wp_skip ?_
  exact q7 _ _ ⟨(List.getD v0.L (Int.toNat v0.I) default), v0, ((hk.drop 2).drop 1).sub ⟨rfl, rfl, rfl, rfl, trivial⟩, h⟩
theorem p12_steps_knot : ∀ K : Nat, (∀ (v0 : St12) (r : St12 × List ApiStep), p12_steps.f K v0 = some r → Ok prog 27 [.agg (St12.cells v0)] (.tup [.agg (St12.cells r.1), .row (r_ApiStep_cells r.2)])) ∧ (∀ (v0 : St12) (r : St12 × ApiArg), p12_arg.f K v0 = some r → Ok prog 52 [.agg (St12.cells v0)] (.tup [.agg (St12.cells r.1), .agg (ApiArg.cells r.2)]))
 | 0 => ⟨fun v0 r h => by simp [p12_steps.f] at h, fun v0 r h => by simp [p12_arg.f] at h⟩
 | K + 1 => ⟨fun v0 r h => by rw [p12_steps.f] at h; exact p12_steps.bok _ _ (p12_steps_knot K).1 (p12_steps_knot K).2 K v0 r h, fun v0 r h => by rw [p12_arg.f] at h; exact p12_arg.bok _ _ (p12_steps_knot K).1 (p12_steps_knot K).2 K v0 r h⟩
theorem p12_steps.ok (K : Nat) (v0 : St12) (r : St12 × List ApiStep) (h : p12_steps.f K v0 = some r) : Ok prog 27 [.agg (St12.cells v0)] (.tup [.agg (St12.cells r.1), .row (r_ApiStep_cells r.2)]) := (p12_steps_knot K).1 v0 r h
theorem p12_arg.ok (K : Nat) (v0 : St12) (r : St12 × ApiArg) (h : p12_arg.f K v0 = some r) : Ok prog 52 [.agg (St12.cells v0)] (.tup [.agg (St12.cells r.1), .agg (ApiArg.cells r.2)]) := (p12_steps_knot K).2 v0 r h
end Go.Proofs.Ytbjbgodcenopnaa
namespace Go.Proofs.Ytbjbgodcenopnaa
open FW _root_.Go.Proofs.Try
set_option linter.unusedVariables false
set_option maxRecDepth 20000
set_option maxHeartbeats 10000000
theorem r12_Parse.ok (K : Nat) (v0 : List UInt8) (r : List ApiStep × Int × Int) (h : r12_Parse.f K v0 = some r) :
  Ok prog 9 [.lit (.string (B v0))] (.tup [.row (r_ApiStep_cells r.1), .lit (.int .i64 r.2.1), .lit (.int .i64 r.2.2)]) := by
 refine enter (xs := [.lit (.string (B v0))]) func9 rfl ntmps9 rfl ?_
 intro M w0 a hk
 unfold r12_Parse.f at h
 refine wreg fun _ q1 => ?_
 refine lf (y := .row (r_ApiStep_cells [])) hk (f_assignNil) fun a w hk=>?_
 refine go hk<|gA<|gA<|ge q1 fun a w hk=>?_
 refine rg hk fun _ q2=>gM<|fun a w hk=>?_
 obtain ⟨t1, hr_t1, h⟩ := bnd h
 refine lf (y := .tup [.row (r_ApiWord_cells t1.1), .lit (.int .i64 t1.2.1), .lit (.int .i64 t1.2.2)]) hk (f_call hk h0 rfl rfl func25 rfl (by kernel_rfl) (r11_Words.ok K v0 _ hr_t1)) fun a w hk=>?_
 refine go hk<|gM<|fun a w hk=>?_
 refine go hk<|gX<|gX<|gX<|gA<|gA<|gA<|ge q2 fun a w hk=>?_
 refine wseq fun _ q3 => ?_
 refine rg hk fun _ q4=>gM<|gP (p_neq · h0 rfl rfl)<|ge q4 fun a w hk=>wc hk h (fun h hb=>?_) fun h hb=>?_
 ·refine rg hk fun _ q5=>gM<|gM<|fun a w hk=>?_
  refine lf (y := .row (r_ApiStep_cells [])) hk (f_assignNil) fun a w hk=>?_
  refine go hk<|gA<|gA<|ge q5 fun a w hk=>?_
  refine wp_ret ?_
  obtain rfl := Option.some.inj h
  exact fret3 hk rfl rfl rfl rfl
 refine wp_skip ?_
 refine q3 _ _ ?_
 refine rg hk fun _ q6=>gM<|fun a w hk=>?_
 refine lf (y := .agg ((St12.cells (⟨t1.1, 0, 0, 0, 0, 0⟩ : St12)))) hk (f_buildN [] hk h0 rfl rfl rfl) fun a w hk=>?_
 refine l_alloc (zs := (St12.cells (⟨[], 0, 0, 0, 0, 0⟩ : St12))) [] hk rfl rfl rfl rfl ?_; clear hk; intro bx1 a w hk
 refine st0 (cs' := (St12.cells (⟨t1.1, 0, 0, 0, 0, 0⟩ : St12))) hk rfl (by kernel_rfl) fun w hk => ?_
 refine lend (q6 _ _ ?_)
 refine wseq fun _ q7 => ?_
 refine rg hk fun _ q8=>gM<|fun a w hk=>?_
 obtain ⟨hc1, h⟩ := chk h
 refine lf (y := .ref (ApiWord.cells (List.getD t1.1 (Int.toNat 0) default))) hk (f_indexAddr (R := r_ApiWord_cells) (f := ApiWord.cells) (l := t1.1) (sz := 5) r_ApiWord_cells_eq (fun _ => rfl) hk h0 rfl rfl underlying60 (by kernel_rfl) hc1) fun a w hk=>?_
 refine lf hk (f_fieldAddr hk h0 rfl underlying66 rfl (by kernel_rfl) rfl) fun a w hk=>?_
 refine lf hk (f_load1 hk h0 rfl rfl underlying3 rfl) fun a w hk=>?_
 refine go hk<|gP (p_neq · h0 rfl rfl)<|gM<|gm<|fun a w hk=>?_
 obtain ⟨hc2, h⟩ := chk h
 refine lg (y := .ref (ApiWord.cells (List.getD t1.1 (Int.toNat 0) default))) hk rfl rfl rfl (fun hc => f_indexAddr (R := r_ApiWord_cells) (f := ApiWord.cells) (l := t1.1) (sz := 5) r_ApiWord_cells_eq (fun _ => rfl) hk hc rfl rfl underlying60 (by kernel_rfl) hc2) fun a w hk=>?_
 refine lg hk rfl rfl rfl (fun hc => f_fieldAddr hk hc rfl underlying66 rfl (by kernel_rfl) rfl) fun a w hk=>?_
 refine lg hk rfl rfl rfl (fun hc => f_load1 hk hc rfl rfl underlying9 rfl) fun a w hk=>?_
 refine lg hk rfl rfl rfl (fun hc => (f_pure (p_sneq hk.kn hc rfl rfl))) fun a w hk=>?_
 refine go hk<|gR<|ge q8 fun a w hk=>wc hk h (fun h hb=>?_) fun h hb=>?_
 ·obtain ⟨hc3, h⟩ := chk h
  refine wdraw (by kernel_rfl) (by kernel_rfl) hk ?_; clear hk
  refine dfun (y := .row (r_ApiWord_cells t1.1)) rfl rfl rfl rfl (fun a w hk => f_move hk h0 rfl) ?_
  refine dfun (y := .ref (ApiWord.cells (List.getD t1.1 (Int.toNat 0) default))) rfl rfl rfl rfl (fun a w hk => f_indexAddr (R := r_ApiWord_cells) (f := ApiWord.cells) (l := t1.1) (sz := 5) r_ApiWord_cells_eq (fun _ => rfl) hk h0 rfl rfl underlying60 (by kernel_rfl) hc3) ?_
  refine dfun (y := .ref (List.drop 4 (ApiWord.cells (List.getD t1.1 (Int.toNat 0) default)))) rfl rfl rfl rfl (fun a w hk => f_fieldAddr hk h0 rfl underlying66 rfl (by kernel_rfl) rfl) ?_
  refine dfun (y := .lit (.int .i64 ((List.getD t1.1 (Int.toNat 0) default).At))) rfl rfl rfl rfl (fun a w hk => f_load1 hk h0 rfl rfl underlying3 rfl) ?_
  refine dfun (y := .row (r_ApiStep_cells [])) rfl rfl rfl rfl (fun a w hk => f_assignNil) ?_
  refine dfun (y := .lit (.int .i64 ((List.getD t1.1 (Int.toNat 0) default).At))) rfl rfl rfl rfl (fun a w hk => f_assign hk h0 rfl) ?_
  refine dfun (y := .lit (.int .i64 120)) rfl rfl rfl rfl (fun a w hk => f_assign hk h0 rfl) ?_
  refine dend ?_; intro a w hk
  refine wp_ret ?_
  obtain rfl := Option.some.inj h
  exact fret3 hk rfl rfl rfl rfl
 refine wp_skip ?_
 refine q7 _ _ ?_
 refine rg hk fun _ q10=>gF 1 underlying64<|fun a w hk=>?_
 refine st0 (cs' := (St12.cells (⟨t1.1, 1, 0, 0, 0, 0⟩ : St12))) hk rfl (by kernel_rfl) fun w hk => ?_
 refine lend (q10 _ _ ?_)
 refine wreg fun _ q11 => ?_
 refine lf hk (f_loadBlk hk h0 (j := 0) rfl rfl underlying64 rfl rfl rfl rfl) fun a w hk=>?_
 obtain ⟨t2, hr_t2, h⟩ := bnd h
 refine lf (y := .agg ((St12.cells t2))) hk (f_call hk h0 rfl rfl func26 rfl (by kernel_rfl) (p12_sign.ok (⟨t1.1, 1, 0, 0, 0, 0⟩ : St12) ([46] : List UInt8) _ hr_t2)) fun a w hk=>?_
 obtain ⟨t3, hr_t3, h⟩ := bnd h
 refine lf (y := .tup [.agg ((St12.cells t3.1)), .row (r_ApiStep_cells t3.2)]) hk (f_call hk h0 rfl rfl func27 rfl (by kernel_rfl) (p12_steps.ok K t2 _ hr_t3)) fun a w hk=>?_
 refine go hk<|gM<|fun a w hk=>?_
 refine go hk<|gX<|gX<|fun a w hk=>?_
 refine st0 (cs' := (St12.cells t3.1)) hk rfl (by kernel_rfl) fun w hk => ?_
 refine go hk<|gA<|ge q11 fun a w hk=>?_
 refine wseqJ (fun a w => ∃ (y1 : St12) (v9 : List ApiStep), S M w0 a w 68 [blk bx1 64 ((St12.cells y1))] [(8, [], .lit (.pointer (some ⟨bx1, 0, none⟩))), (9, [], .row (r_ApiStep_cells v9))] ∧ r12_Parse.j1 K y1 v9 = some r) ?_ ?_
 ·clear hk h
  rintro a w ⟨y1, v9, hk, h⟩
  unfold r12_Parse.j1 at h
  refine wseq fun _ q13 => ?_
  refine rg hk fun _ q14=>gF 5 underlying64<|gB 0 underlying23<|gP (p_neq · h0 rfl rfl)<|ge q14 fun a w hk=>wc hk h (fun h hb=>?_) fun h hb=>?_
  ·refine wdraw (by kernel_rfl) (by kernel_rfl) hk ?_; clear hk
   refine dfun (y := .lit (.pointer (some ⟨bx1, 4, none⟩))) rfl rfl rfl rfl (fun a w hk => f_fieldPtr hk h0 rfl underlying64 rfl (by kernel_rfl) rfl) ?_
   refine dfun (y := .lit (.int .i64 y1.At)) rfl rfl rfl rfl (fun a w hk => f_loadBlk1 hk h0 (j := 0) rfl rfl underlying3 rfl rfl) ?_
   refine dfun (y := .lit (.pointer (some ⟨bx1, 5, none⟩))) rfl rfl rfl rfl (fun a w hk => f_fieldPtr hk h0 rfl underlying64 rfl (by kernel_rfl) rfl) ?_
   refine dfun (y := .lit (.int .i64 y1.E)) rfl rfl rfl rfl (fun a w hk => f_loadBlk1 hk h0 (j := 0) rfl rfl underlying23 rfl rfl) ?_
   refine dfun (y := .row (r_ApiStep_cells [])) rfl rfl rfl rfl (fun a w hk => f_assignNil) ?_
   refine dfun (y := .lit (.int .i64 y1.At)) rfl rfl rfl rfl (fun a w hk => f_assign hk h0 rfl) ?_
   refine dfun (y := .lit (.int .i64 y1.E)) rfl rfl rfl rfl (fun a w hk => f_assign hk h0 rfl) ?_
   refine dend ?_; intro a w hk
   refine wp_ret ?_
   obtain rfl := Option.some.inj h
   exact fret3 hk rfl rfl rfl rfl
  refine wp_skip ?_
  refine q13 _ _ ?_
  refine rg hk fun _ q16=>gM<|gA<|gA<|gA<|ge q16 fun a w hk=>?_
  refine wp_ret ?_
  obtain rfl := Option.some.inj h
  exact fret3 hk rfl rfl rfl rfl
 ·intro K' q12
  refine rg hk fun _ q17=>gF 5 underlying64<|gB 0 underlying23<|gE<|gM<|fun a w hk=>?_
  refine lg (y := .lit (.pointer (some ⟨bx1, 0, none⟩))) hk rfl rfl rfl (fun hc => f_fieldPtr hk hc rfl underlying64 rfl (by kernel_rfl) rfl) fun a w hk=>?_
  refine lg hk rfl rfl rfl (fun hc => f_loadBlk1 hk hc (j := 0) rfl rfl underlying60 rfl rfl) fun a w hk=>?_
  refine lg (y := .lit (.pointer (some ⟨bx1, 1, none⟩))) hk rfl rfl rfl (fun hc => f_fieldPtr hk hc rfl underlying64 rfl (by kernel_rfl) rfl) fun a w hk=>?_
  refine lg hk rfl rfl rfl (fun hc => f_loadBlk1 hk hc (j := 0) rfl rfl underlying3 rfl rfl) fun a w hk=>?_
  obtain ⟨hc4, h⟩ := chk h
  refine lg (y := .ref (ApiWord.cells (List.getD t3.1.L (Int.toNat t3.1.I) default))) hk rfl rfl rfl (fun hc => f_indexAddr (R := r_ApiWord_cells) (f := ApiWord.cells) (l := t3.1.L) (sz := 5) r_ApiWord_cells_eq (fun _ => rfl) hk hc rfl rfl underlying60 (by kernel_rfl) hc4) fun a w hk=>?_
  refine lg hk rfl rfl rfl (fun hc => f_fieldAddr hk hc rfl underlying66 rfl (by kernel_rfl) rfl) fun a w hk=>?_
  refine lg hk rfl rfl rfl (fun hc => f_load1 hk hc rfl rfl underlying3 rfl) fun a w hk=>?_
  refine lg hk rfl rfl rfl (fun hc => (f_pure (p_neq hk.kn hc rfl rfl))) fun a w hk=>?_
  refine go hk<|gN<|ge q17 fun a w hk=>wc hk h (fun h hb=>?_) fun h hb=>?_
  ·refine wreg1 ?_
   refine lf hk (f_loadBlk hk h0 (j := 0) rfl rfl underlying64 rfl rfl rfl rfl) fun a w hk=>?_
   obtain ⟨t4, hr_t4, h⟩ := bnd h
   refine lf (y := .agg ((St12.cells t4))) hk (f_call hk h0 rfl rfl func28 rfl (by kernel_rfl) (p12_fail.ok t3.1 120 _ hr_t4)) fun a w hk=>?_
   refine st0 (cs' := (St12.cells t4)) hk rfl (by kernel_rfl) fun w hk => ?_
   refine wpList_nil ?_
   exact q12 _ _ ⟨t4, t3.2, hk.sub ⟨rfl, rfl, trivial⟩, h⟩
  refine wp_skip ?_
  exact q12 _ _ ⟨t3.1, t3.2, hk.sub ⟨rfl, rfl, trivial⟩, h⟩
end Go.Proofs.Ytbjbgodcenopnaa
namespace Go.Proofs.Ytbjbgodcenopnaa
open FW _root_.Go.Proofs.Try
set_option linter.unusedVariables false
set_option maxRecDepth 20000
set_option maxHeartbeats 10000000
theorem check_forms.ok  (v0 : List UInt8) (r : List (List UInt8)) (h : check_forms.f v0 = some r) :
  Ok prog 94 [.lit (.string (B v0))] (nrow (r_c_str r)) := by
 refine enter (xs := [.lit (.string (B v0))]) func94 rfl ntmps94 rfl ?_
 intro M w0 a hk
 unfold check_forms.f at h
 refine rg hk fun _ q1=>gA<|ge q1 fun a w hk=>?_
 refine wseq fun _ q2 => ?_
 refine rg hk fun _ q3=>gM<|ge q3 fun a w hk=>?_
 refine wp_block ?_
 refine wseqJ (fun a w => ∃ (v3 : List UInt8) (v4 : Bool), S M w0 a w 98 [] [(3, [], .lit (.string (B v3))), (4, [], .lit (.bool v4))] ∧ check_forms.j1 v3 v4 = some r) ?_ ?_
 ·clear hk h
  rintro a w ⟨v3, v4, hk, h⟩
  unfold check_forms.j1 at h
  refine wc hk h (fun h hb=>?_) fun h hb=>?_
  ·refine wreg fun _ q5 => ?_
   refine l_buildSlice (f := c_str) (l := ([([105, 42] : List UInt8)] : List (List UInt8))) hk rfl rfl rfl underlying56 rfl rfl rfl rfl (fun _ => rfl) rfl ?_; clear hk; intro bx1 a w hk
   replace hk := (S.freezeR (I' := []) r_c_str_eq hk (j := 0) rfl (t := 8) rfl rfl).squash
   refine go hk<|gA<|ge q5 fun a w hk=>?_
   refine wp_ret ?_
   obtain rfl := Option.some.inj h
   exact fret1 hk rfl rfl
  refine rg hk fun _ q6=>gS<|gA<|ge q6 fun a w hk=>wc hk h (fun h hb=>?_) fun h hb=>?_
  ·refine wreg fun _ q7 => ?_
   refine l_buildSlice (f := c_str) (l := ([([118, 42] : List UInt8)] : List (List UInt8))) hk rfl rfl rfl underlying56 rfl rfl rfl rfl (fun _ => rfl) rfl ?_; clear hk; intro bx2 a w hk
   replace hk := (S.freezeR (I' := []) r_c_str_eq hk (j := 0) rfl (t := 11) rfl rfl).squash
   refine go hk<|gA<|ge q7 fun a w hk=>?_
   refine wp_ret ?_
   obtain rfl := Option.some.inj h
   exact fret1 hk rfl rfl
  refine wseqJ (fun a w => ∃ (v3 : List UInt8) (v12 : Bool), S M w0 a w 98 [] [(3, [], .lit (.string (B v3))), (12, [], .lit (.bool v12))] ∧ check_forms.j2 v3 v12 = some r) ?_ ?_
  ·clear hk h
   rintro a w ⟨v3, v12, hk, h⟩
   unfold check_forms.j2 at h
   refine wc hk h (fun h hb=>?_) fun h hb=>?_
   ·refine wreg fun _ q9 => ?_
    refine l_buildSlice (f := c_str) (l := ([([110] : List UInt8)] : List (List UInt8))) hk rfl rfl rfl underlying56 rfl rfl rfl rfl (fun _ => rfl) rfl ?_; clear hk; intro bx3 a w hk
    replace hk := (S.freezeR (I' := []) r_c_str_eq hk (j := 0) rfl (t := 18) rfl rfl).squash
    refine go hk<|gA<|ge q9 fun a w hk=>?_
    refine wp_ret ?_
    obtain rfl := Option.some.inj h
    exact fret1 hk rfl rfl
   refine rg hk fun _ q10=>gS<|gA<|ge q10 fun a w hk=>wc hk h (fun h hb=>?_) fun h hb=>?_
   ·refine wreg fun _ q11 => ?_
    refine l_buildSlice (f := c_str) (l := ([([110] : List UInt8), ([110, 113] : List UInt8)] : List (List UInt8))) hk rfl rfl rfl underlying56 rfl rfl rfl rfl (fun _ => rfl) rfl ?_; clear hk; intro bx4 a w hk
    replace hk := (S.freezeR (I' := []) r_c_str_eq hk (j := 0) rfl (t := 21) rfl rfl).squash
    refine go hk<|gA<|ge q11 fun a w hk=>?_
    refine wp_ret ?_
    obtain rfl := Option.some.inj h
    exact fret1 hk rfl rfl
   refine wseqJ (fun a w => ∃ (v3 : List UInt8) (v22 : Bool), S M w0 a w 98 [] [(3, [], .lit (.string (B v3))), (22, [], .lit (.bool v22))] ∧ check_forms.j3 v3 v22 = some r) ?_ ?_
   ·clear hk h
    rintro a w ⟨v3, v22, hk, h⟩
    unfold check_forms.j3 at h
    refine wc hk h (fun h hb=>?_) fun h hb=>?_
    ·refine wreg fun _ q13 => ?_
     refine l_buildSlice (f := c_str) (l := ([([110, 42] : List UInt8)] : List (List UInt8))) hk rfl rfl rfl underlying56 rfl rfl rfl rfl (fun _ => rfl) rfl ?_; clear hk; intro bx5 a w hk
     replace hk := (S.freezeR (I' := []) r_c_str_eq hk (j := 0) rfl (t := 31) rfl rfl).squash
     refine go hk<|gA<|ge q13 fun a w hk=>?_
     refine wp_ret ?_
     obtain rfl := Option.some.inj h
     exact fret1 hk rfl rfl
    refine rg hk fun _ q14=>gS<|gA<|ge q14 fun a w hk=>wc hk h (fun h hb=>?_) fun h hb=>?_
    ·refine wreg fun _ q15 => ?_
     refine l_buildSlice (f := c_str) (l := ([([113] : List UInt8)] : List (List UInt8))) hk rfl rfl rfl underlying56 rfl rfl rfl rfl (fun _ => rfl) rfl ?_; clear hk; intro bx6 a w hk
     replace hk := (S.freezeR (I' := []) r_c_str_eq hk (j := 0) rfl (t := 34) rfl rfl).squash
     refine go hk<|gA<|ge q15 fun a w hk=>?_
     refine wp_ret ?_
     obtain rfl := Option.some.inj h
     exact fret1 hk rfl rfl
    refine wseqJ (fun a w => ∃ (v3 : List UInt8) (v35 : Bool), S M w0 a w 98 [] [(3, [], .lit (.string (B v3))), (35, [], .lit (.bool v35))] ∧ check_forms.j4 v3 v35 = some r) ?_ ?_
    ·clear hk h
     rintro a w ⟨v3, v35, hk, h⟩
     unfold check_forms.j4 at h
     refine wc hk h (fun h hb=>?_) fun h hb=>?_
     ·refine wreg fun _ q17 => ?_
      refine l_buildSlice (f := c_str) (l := ([([116] : List UInt8)] : List (List UInt8))) hk rfl rfl rfl underlying56 rfl rfl rfl rfl (fun _ => rfl) rfl ?_; clear hk; intro bx7 a w hk
      replace hk := (S.freezeR (I' := []) r_c_str_eq hk (j := 0) rfl (t := 44) rfl rfl).squash
      refine go hk<|gA<|ge q17 fun a w hk=>?_
      refine wp_ret ?_
      obtain rfl := Option.some.inj h
      exact fret1 hk rfl rfl
     refine wseqJ (fun a w => ∃ (v3 : List UInt8) (v45 : Bool), S M w0 a w 98 [] [(3, [], .lit (.string (B v3))), (45, [], .lit (.bool v45))] ∧ check_forms.j5 v3 v45 = some r) ?_ ?_
     ·clear hk h
      rintro a w ⟨v3, v45, hk, h⟩
      unfold check_forms.j5 at h
      refine wc hk h (fun h hb=>?_) fun h hb=>?_
      ·refine wreg fun _ q19 => ?_
       refine l_buildSlice (f := c_str) (l := ([([116, 42] : List UInt8)] : List (List UInt8))) hk rfl rfl rfl underlying56 rfl rfl rfl rfl (fun _ => rfl) rfl ?_; clear hk; intro bx8 a w hk
       replace hk := (S.freezeR (I' := []) r_c_str_eq hk (j := 0) rfl (t := 50) rfl rfl).squash
       refine go hk<|gA<|ge q19 fun a w hk=>?_
       refine wp_ret ?_
       obtain rfl := Option.some.inj h
       exact fret1 hk rfl rfl
      refine rg hk fun _ q20=>gS<|gA<|ge q20 fun a w hk=>wc hk h (fun h hb=>?_) fun h hb=>?_
      ·refine wreg fun _ q21 => ?_
       refine l_buildSlice (f := c_str) (l := ([([116, 116, 116] : List UInt8)] : List (List UInt8))) hk rfl rfl rfl underlying56 rfl rfl rfl rfl (fun _ => rfl) rfl ?_; clear hk; intro bx9 a w hk
       replace hk := (S.freezeR (I' := []) r_c_str_eq hk (j := 0) rfl (t := 53) rfl rfl).squash
       refine go hk<|gA<|ge q21 fun a w hk=>?_
       refine wp_ret ?_
       obtain rfl := Option.some.inj h
       exact fret1 hk rfl rfl
      refine wseqJ (fun a w => ∃ (v3 : List UInt8) (v54 : Bool), S M w0 a w 98 [] [(3, [], .lit (.string (B v3))), (54, [], .lit (.bool v54))] ∧ check_forms.j6 v3 v54 = some r) ?_ ?_
      ·clear hk h
       rintro a w ⟨v3, v54, hk, h⟩
       unfold check_forms.j6 at h
       refine wc hk h (fun h hb=>?_) fun h hb=>?_
       ·refine wreg fun _ q23 => ?_
        refine l_buildSlice (f := c_str) (l := ([([107] : List UInt8)] : List (List UInt8))) hk rfl rfl rfl underlying56 rfl rfl rfl rfl (fun _ => rfl) rfl ?_; clear hk; intro bx10 a w hk
        replace hk := (S.freezeR (I' := []) r_c_str_eq hk (j := 0) rfl (t := 59) rfl rfl).squash
        refine go hk<|gA<|ge q23 fun a w hk=>?_
        refine wp_ret ?_
        obtain rfl := Option.some.inj h
        exact fret1 hk rfl rfl
       refine rg hk fun _ q24=>gS<|gA<|ge q24 fun a w hk=>wc hk h (fun h hb=>?_) fun h hb=>?_
       ·refine wreg fun _ q25 => ?_
        refine l_buildSlice (f := c_str) (l := ([([107, 107] : List UInt8)] : List (List UInt8))) hk rfl rfl rfl underlying56 rfl rfl rfl rfl (fun _ => rfl) rfl ?_; clear hk; intro bx11 a w hk
        replace hk := (S.freezeR (I' := []) r_c_str_eq hk (j := 0) rfl (t := 62) rfl rfl).squash
        refine go hk<|gA<|ge q25 fun a w hk=>?_
        refine wp_ret ?_
        obtain rfl := Option.some.inj h
        exact fret1 hk rfl rfl
       refine wseqJ (fun a w => ∃ (v3 : List UInt8) (v63 : Bool), S M w0 a w 98 [] [(3, [], .lit (.string (B v3))), (63, [], .lit (.bool v63))] ∧ check_forms.j7 v3 v63 = some r) ?_ ?_
       ·clear hk h
        rintro a w ⟨v3, v63, hk, h⟩
        unfold check_forms.j7 at h
        refine wc hk h (fun h hb=>?_) fun h hb=>?_
        ·refine wreg fun _ q27 => ?_
         refine l_buildSlice (f := c_str) (l := ([([118] : List UInt8)] : List (List UInt8))) hk rfl rfl rfl underlying56 rfl rfl rfl rfl (fun _ => rfl) rfl ?_; clear hk; intro bx12 a w hk
         replace hk := (S.freezeR (I' := []) r_c_str_eq hk (j := 0) rfl (t := 67) rfl rfl).squash
         refine go hk<|gA<|ge q27 fun a w hk=>?_
         refine wp_ret ?_
         obtain rfl := Option.some.inj h
         exact fret1 hk rfl rfl
        refine rg hk fun _ q28=>gS<|gA<|ge q28 fun a w hk=>wc hk h (fun h hb=>?_) fun h hb=>?_
        ·refine wreg fun _ q29 => ?_
         refine l_buildSlice (f := c_str) (l := ([([110, 118] : List UInt8), ([119, 110, 118] : List UInt8)] : List (List UInt8))) hk rfl rfl rfl underlying56 rfl rfl rfl rfl (fun _ => rfl) rfl ?_; clear hk; intro bx13 a w hk
         replace hk := (S.freezeR (I' := []) r_c_str_eq hk (j := 0) rfl (t := 70) rfl rfl).squash
         refine go hk<|gA<|ge q29 fun a w hk=>?_
         refine wp_ret ?_
         obtain rfl := Option.some.inj h
         exact fret1 hk rfl rfl
        refine rg hk fun _ q30=>gS<|gA<|ge q30 fun a w hk=>wc hk h (fun h hb=>?_) fun h hb=>?_
        ·refine wreg fun _ q31 => ?_
         refine l_buildSlice (f := c_str) (l := ([([] : List UInt8), ([98] : List UInt8), ([119] : List UInt8), ([98, 119] : List UInt8)] : List (List UInt8))) hk rfl rfl rfl underlying56 rfl rfl rfl rfl (fun _ => rfl) rfl ?_; clear hk; intro bx14 a w hk
         replace hk := (S.freezeR (I' := []) r_c_str_eq hk (j := 0) rfl (t := 73) rfl rfl).squash
         refine go hk<|gA<|ge q31 fun a w hk=>?_
         refine wp_ret ?_
         obtain rfl := Option.some.inj h
         exact fret1 hk rfl rfl
        refine wseqJ (fun a w => ∃ (v74 : Bool), S M w0 a w 98 [] [(74, [], .lit (.bool v74))] ∧ check_forms.j8 v74 = some r) ?_ ?_
        ·clear hk h
         rintro a w ⟨v74, hk, h⟩
         unfold check_forms.j8 at h
         refine wc hk h (fun h hb=>?_) fun h hb=>?_
         ·refine wreg fun _ q33 => ?_
          refine l_buildSlice (f := c_str) (l := ([([] : List UInt8)] : List (List UInt8))) hk rfl rfl rfl underlying56 rfl rfl rfl rfl (fun _ => rfl) rfl ?_; clear hk; intro bx15 a w hk
          replace hk := (S.freezeR (I' := []) r_c_str_eq hk (j := 0) rfl (t := 97) rfl rfl).squash
          refine go hk<|gA<|ge q33 fun a w hk=>?_
          refine wp_ret ?_
          obtain rfl := Option.some.inj h
          exact fret1 hk rfl rfl
         refine wp_skip ?_
         refine q2 _ _ ?_
         refine rg hk fun _ q34=>gA<|ge q34 fun a w hk=>?_
         refine wp_ret ?_
         obtain rfl := Option.some.inj h
         exact fret1 hk rfl rfl
        ·intro K' q32
         refine rg hk fun _ q35=>gS<|gA<|ge q35 fun a w hk=>wc hk h (fun h hb=>?_) fun h hb=>?_
         ·refine wp_skip ?_
          exact q32 _ _ ⟨(decide (v3 = ([100, 101, 100, 117, 112] : List UInt8))), hk.sub ⟨rfl, trivial⟩, h⟩
         refine rg hk fun _ q36=>gS<|gA<|ge q36 fun a w hk=>wc hk h (fun h hb=>?_) fun h hb=>?_
         ·refine wp_skip ?_
          exact q32 _ _ ⟨(decide (v3 = ([115, 105, 109, 112, 108, 101, 80, 97, 116, 104] : List UInt8))), hk.sub ⟨rfl, trivial⟩, h⟩
         refine rg hk fun _ q37=>gS<|gA<|ge q37 fun a w hk=>wc hk h (fun h hb=>?_) fun h hb=>?_
         ·refine wp_skip ?_
          exact q32 _ _ ⟨(decide (v3 = ([111, 117, 116, 86] : List UInt8))), hk.sub ⟨rfl, trivial⟩, h⟩
         refine rg hk fun _ q38=>gS<|gA<|ge q38 fun a w hk=>wc hk h (fun h hb=>?_) fun h hb=>?_
         ·refine wp_skip ?_
          exact q32 _ _ ⟨(decide (v3 = ([105, 110, 86] : List UInt8))), hk.sub ⟨rfl, trivial⟩, h⟩
         refine rg hk fun _ q39=>gS<|gA<|ge q39 fun a w hk=>wc hk h (fun h hb=>?_) fun h hb=>?_
         ·refine wp_skip ?_
          exact q32 _ _ ⟨(decide (v3 = ([98, 111, 116, 104, 86] : List UInt8))), hk.sub ⟨rfl, trivial⟩, h⟩
         refine rg hk fun _ q40=>gS<|gA<|ge q40 fun a w hk=>wc hk h (fun h hb=>?_) fun h hb=>?_
         ·refine wp_skip ?_
          exact q32 _ _ ⟨(decide (v3 = ([105, 100] : List UInt8))), hk.sub ⟨rfl, trivial⟩, h⟩
         refine rg hk fun _ q41=>gS<|gA<|ge q41 fun a w hk=>wc hk h (fun h hb=>?_) fun h hb=>?_
         ·refine wp_skip ?_
          exact q32 _ _ ⟨(decide (v3 = ([108, 97, 98, 101, 108] : List UInt8))), hk.sub ⟨rfl, trivial⟩, h⟩
         refine rg hk fun _ q42=>gS<|gA<|ge q42 fun a w hk=>wc hk h (fun h hb=>?_) fun h hb=>?_
         ·refine wp_skip ?_
          exact q32 _ _ ⟨(decide (v3 = ([105, 100, 101, 110, 116, 105, 116, 121] : List UInt8))), hk.sub ⟨rfl, trivial⟩, h⟩
         refine rg hk fun _ q43=>gS<|gA<|ge q43 fun a w hk=>wc hk h (fun h hb=>?_) fun h hb=>?_
         ·refine wp_skip ?_
          exact q32 _ _ ⟨(decide (v3 = ([112, 97, 116, 104] : List UInt8))), hk.sub ⟨rfl, trivial⟩, h⟩
         refine rg hk fun _ q44=>gS<|gA<|ge q44 fun a w hk=>wc hk h (fun h hb=>?_) fun h hb=>?_
         ·refine wp_skip ?_
          exact q32 _ _ ⟨(decide (v3 = ([102, 111, 108, 100] : List UInt8))), hk.sub ⟨rfl, trivial⟩, h⟩
         refine rg hk fun _ q45=>gS<|gA<|ge q45 fun a w hk=>wc hk h (fun h hb=>?_) fun h hb=>?_
         ·refine wp_skip ?_
          exact q32 _ _ ⟨(decide (v3 = ([117, 110, 102, 111, 108, 100] : List UInt8))), hk.sub ⟨rfl, trivial⟩, h⟩
         refine rg hk fun _ q46=>gS<|gA<|ge q46 fun a w hk=>wc hk h (fun h hb=>?_) fun h hb=>?_
         ·refine wp_skip ?_
          exact q32 _ _ ⟨(decide (v3 = ([99, 111, 117, 110, 116] : List UInt8))), hk.sub ⟨rfl, trivial⟩, h⟩
         refine rg hk fun _ q47=>gS<|gA<|ge q47 fun a w hk=>wc hk h (fun h hb=>?_) fun h hb=>?_
         ·refine wp_skip ?_
          exact q32 _ _ ⟨(decide (v3 = ([115, 117, 109] : List UInt8))), hk.sub ⟨rfl, trivial⟩, h⟩
         refine rg hk fun _ q48=>gS<|gA<|ge q48 fun a w hk=>wc hk h (fun h hb=>?_) fun h hb=>?_
         ·refine wp_skip ?_
          exact q32 _ _ ⟨(decide (v3 = ([109, 105, 110] : List UInt8))), hk.sub ⟨rfl, trivial⟩, h⟩
         refine rg hk fun _ q49=>gS<|gA<|ge q49 fun a w hk=>wc hk h (fun h hb=>?_) fun h hb=>?_
         ·refine wp_skip ?_
          exact q32 _ _ ⟨(decide (v3 = ([109, 97, 120] : List UInt8))), hk.sub ⟨rfl, trivial⟩, h⟩
         refine rg hk fun _ q50=>gS<|gA<|ge q50 fun a w hk=>wc hk h (fun h hb=>?_) fun h hb=>?_
         ·refine wp_skip ?_
          exact q32 _ _ ⟨(decide (v3 = ([109, 101, 97, 110] : List UInt8))), hk.sub ⟨rfl, trivial⟩, h⟩
         refine rg hk fun _ q51=>gS<|gA<|ge q51 fun a w hk=>wc hk h (fun h hb=>?_) fun h hb=>?_
         ·refine wp_skip ?_
          exact q32 _ _ ⟨(decide (v3 = ([103, 114, 111, 117, 112] : List UInt8))), hk.sub ⟨rfl, trivial⟩, h⟩
         refine rg hk fun _ q52=>gS<|gA<|ge q52 fun a w hk=>wc hk h (fun h hb=>?_) fun h hb=>?_
         ·refine wp_skip ?_
          exact q32 _ _ ⟨(decide (v3 = ([103, 114, 111, 117, 112, 67, 111, 117, 110, 116] : List UInt8))), hk.sub ⟨rfl, trivial⟩, h⟩
         refine rg hk fun _ q53=>gS<|gA<|ge q53 fun a w hk=>wc hk h (fun h hb=>?_) fun h hb=>?_
         ·refine wp_skip ?_
          exact q32 _ _ ⟨(decide (v3 = ([111, 114, 100, 101, 114] : List UInt8))), hk.sub ⟨rfl, trivial⟩, h⟩
         refine rg hk fun _ q54=>gS<|gA<|ge q54 fun a w hk=>wc hk h (fun h hb=>?_) fun h hb=>?_
         ·refine wp_skip ?_
          exact q32 _ _ ⟨(decide (v3 = ([98, 97, 114, 114, 105, 101, 114] : List UInt8))), hk.sub ⟨rfl, trivial⟩, h⟩
         refine rg hk fun _ q55=>gS<|gA<|ge q55 fun a w hk=>wc hk h (fun h hb=>?_) fun h hb=>?_
         ·refine wp_skip ?_
          exact q32 _ _ ⟨(decide (v3 = ([101, 109, 105, 116] : List UInt8))), hk.sub ⟨rfl, trivial⟩, h⟩
         refine rg1 hk<|gS<|gA<|fun a w hk=>?_
         refine wpList_nil ?_
         exact q32 _ _ ⟨(decide (v3 = ([100, 114, 111, 112] : List UInt8))), hk.sub ⟨rfl, trivial⟩, h⟩
       ·intro K' q26
        refine rg hk fun _ q57=>gS<|gA<|ge q57 fun a w hk=>wc hk h (fun h hb=>?_) fun h hb=>?_
        ·refine wp_skip ?_
         exact q26 _ _ ⟨v3, (decide (v3 = ([99, 111, 110, 115, 116, 97, 110, 116] : List UInt8))), hk.sub ⟨rfl, rfl, trivial⟩, h⟩
        refine rg hk fun _ q58=>gS<|gA<|ge q58 fun a w hk=>wc hk h (fun h hb=>?_) fun h hb=>?_
        ·refine wp_skip ?_
         exact q26 _ _ ⟨v3, (decide (v3 = ([97, 100, 100] : List UInt8))), hk.sub ⟨rfl, rfl, trivial⟩, h⟩
        refine rg1 hk<|gS<|gA<|fun a w hk=>?_
        refine wpList_nil ?_
        exact q26 _ _ ⟨v3, (decide (v3 = ([109, 117, 108] : List UInt8))), hk.sub ⟨rfl, rfl, trivial⟩, h⟩
      ·intro K' q22
       refine rg hk fun _ q60=>gS<|gA<|ge q60 fun a w hk=>wc hk h (fun h hb=>?_) fun h hb=>?_
       ·refine wp_skip ?_
        exact q22 _ _ ⟨v3, (decide (v3 = ([108, 105, 109, 105, 116] : List UInt8))), hk.sub ⟨rfl, rfl, trivial⟩, h⟩
       refine rg hk fun _ q61=>gS<|gA<|ge q61 fun a w hk=>wc hk h (fun h hb=>?_) fun h hb=>?_
       ·refine wp_skip ?_
        exact q22 _ _ ⟨v3, (decide (v3 = ([115, 107, 105, 112] : List UInt8))), hk.sub ⟨rfl, rfl, trivial⟩, h⟩
       refine rg hk fun _ q62=>gS<|gA<|ge q62 fun a w hk=>wc hk h (fun h hb=>?_) fun h hb=>?_
       ·refine wp_skip ?_
        exact q22 _ _ ⟨v3, (decide (v3 = ([116, 97, 105, 108] : List UInt8))), hk.sub ⟨rfl, rfl, trivial⟩, h⟩
       refine rg1 hk<|gS<|gA<|fun a w hk=>?_
       refine wpList_nil ?_
       exact q22 _ _ ⟨v3, (decide (v3 = ([116, 105, 109, 101, 115] : List UInt8))), hk.sub ⟨rfl, rfl, trivial⟩, h⟩
     ·intro K' q18
      refine rg hk fun _ q64=>gS<|gA<|ge q64 fun a w hk=>wc hk h (fun h hb=>?_) fun h hb=>?_
      ·refine wp_skip ?_
       exact q18 _ _ ⟨v3, (decide (v3 = ([97, 110, 100] : List UInt8))), hk.sub ⟨rfl, rfl, trivial⟩, h⟩
      refine rg hk fun _ q65=>gS<|gA<|ge q65 fun a w hk=>wc hk h (fun h hb=>?_) fun h hb=>?_
      ·refine wp_skip ?_
       exact q18 _ _ ⟨v3, (decide (v3 = ([111, 114] : List UInt8))), hk.sub ⟨rfl, rfl, trivial⟩, h⟩
      refine rg hk fun _ q66=>gS<|gA<|ge q66 fun a w hk=>wc hk h (fun h hb=>?_) fun h hb=>?_
      ·refine wp_skip ?_
       exact q18 _ _ ⟨v3, (decide (v3 = ([117, 110, 105, 111, 110] : List UInt8))), hk.sub ⟨rfl, rfl, trivial⟩, h⟩
      refine rg1 hk<|gS<|gA<|fun a w hk=>?_
      refine wpList_nil ?_
      exact q18 _ _ ⟨v3, (decide (v3 = ([99, 111, 97, 108, 101, 115, 99, 101] : List UInt8))), hk.sub ⟨rfl, rfl, trivial⟩, h⟩
    ·intro K' q16
     refine rg hk fun _ q68=>gS<|gA<|ge q68 fun a w hk=>wc hk h (fun h hb=>?_) fun h hb=>?_
     ·refine wp_skip ?_
      exact q16 _ _ ⟨v3, (decide (v3 = ([119, 104, 101, 114, 101] : List UInt8))), hk.sub ⟨rfl, rfl, trivial⟩, h⟩
     refine rg hk fun _ q69=>gS<|gA<|ge q69 fun a w hk=>wc hk h (fun h hb=>?_) fun h hb=>?_
     ·refine wp_skip ?_
      exact q16 _ _ ⟨v3, (decide (v3 = ([110, 111, 116] : List UInt8))), hk.sub ⟨rfl, rfl, trivial⟩, h⟩
     refine rg hk fun _ q70=>gS<|gA<|ge q70 fun a w hk=>wc hk h (fun h hb=>?_) fun h hb=>?_
     ·refine wp_skip ?_
      exact q16 _ _ ⟨v3, (decide (v3 = ([111, 112, 116, 105, 111, 110, 97, 108] : List UInt8))), hk.sub ⟨rfl, rfl, trivial⟩, h⟩
     refine rg hk fun _ q71=>gS<|gA<|ge q71 fun a w hk=>wc hk h (fun h hb=>?_) fun h hb=>?_
     ·refine wp_skip ?_
      exact q16 _ _ ⟨v3, (decide (v3 = ([114, 101, 112, 101, 97, 116] : List UInt8))), hk.sub ⟨rfl, rfl, trivial⟩, h⟩
     refine rg hk fun _ q72=>gS<|gA<|ge q72 fun a w hk=>wc hk h (fun h hb=>?_) fun h hb=>?_
     ·refine wp_skip ?_
      exact q16 _ _ ⟨v3, (decide (v3 = ([108, 111, 99, 97, 108] : List UInt8))), hk.sub ⟨rfl, rfl, trivial⟩, h⟩
     refine rg hk fun _ q73=>gS<|gA<|ge q73 fun a w hk=>wc hk h (fun h hb=>?_) fun h hb=>?_
     ·refine wp_skip ?_
      exact q16 _ _ ⟨v3, (decide (v3 = ([117, 110, 116, 105, 108] : List UInt8))), hk.sub ⟨rfl, rfl, trivial⟩, h⟩
     refine rg hk fun _ q74=>gS<|gA<|ge q74 fun a w hk=>wc hk h (fun h hb=>?_) fun h hb=>?_
     ·refine wp_skip ?_
      exact q16 _ _ ⟨v3, (decide (v3 = ([116, 111] : List UInt8))), hk.sub ⟨rfl, rfl, trivial⟩, h⟩
     refine rg1 hk<|gS<|gA<|fun a w hk=>?_
     refine wpList_nil ?_
     exact q16 _ _ ⟨v3, (decide (v3 = ([102, 114, 111, 109] : List UInt8))), hk.sub ⟨rfl, rfl, trivial⟩, h⟩
   ·intro K' q12
    refine rg hk fun _ q76=>gS<|gA<|ge q76 fun a w hk=>wc hk h (fun h hb=>?_) fun h hb=>?_
    ·refine wp_skip ?_
     exact q12 _ _ ⟨v3, (decide (v3 = ([104, 97, 115, 76, 97, 98, 101, 108] : List UInt8))), hk.sub ⟨rfl, rfl, trivial⟩, h⟩
    refine rg hk fun _ q77=>gS<|gA<|ge q77 fun a w hk=>wc hk h (fun h hb=>?_) fun h hb=>?_
    ·refine wp_skip ?_
     exact q12 _ _ ⟨v3, (decide (v3 = ([111, 117, 116] : List UInt8))), hk.sub ⟨rfl, rfl, trivial⟩, h⟩
    refine rg hk fun _ q78=>gS<|gA<|ge q78 fun a w hk=>wc hk h (fun h hb=>?_) fun h hb=>?_
    ·refine wp_skip ?_
     exact q12 _ _ ⟨v3, (decide (v3 = ([105, 110] : List UInt8))), hk.sub ⟨rfl, rfl, trivial⟩, h⟩
    refine rg hk fun _ q79=>gS<|gA<|ge q79 fun a w hk=>wc hk h (fun h hb=>?_) fun h hb=>?_
    ·refine wp_skip ?_
     exact q12 _ _ ⟨v3, (decide (v3 = ([98, 111, 116, 104] : List UInt8))), hk.sub ⟨rfl, rfl, trivial⟩, h⟩
    refine rg hk fun _ q80=>gS<|gA<|ge q80 fun a w hk=>wc hk h (fun h hb=>?_) fun h hb=>?_
    ·refine wp_skip ?_
     exact q12 _ _ ⟨v3, (decide (v3 = ([111, 117, 116, 69] : List UInt8))), hk.sub ⟨rfl, rfl, trivial⟩, h⟩
    refine rg hk fun _ q81=>gS<|gA<|ge q81 fun a w hk=>wc hk h (fun h hb=>?_) fun h hb=>?_
    ·refine wp_skip ?_
     exact q12 _ _ ⟨v3, (decide (v3 = ([105, 110, 69] : List UInt8))), hk.sub ⟨rfl, rfl, trivial⟩, h⟩
    refine rg hk fun _ q82=>gS<|gA<|ge q82 fun a w hk=>wc hk h (fun h hb=>?_) fun h hb=>?_
    ·refine wp_skip ?_
     exact q12 _ _ ⟨v3, (decide (v3 = ([98, 111, 116, 104, 69] : List UInt8))), hk.sub ⟨rfl, rfl, trivial⟩, h⟩
    refine rg1 hk<|gS<|gA<|fun a w hk=>?_
    refine wpList_nil ?_
    exact q12 _ _ ⟨v3, (decide (v3 = ([118, 97, 108, 117, 101, 115] : List UInt8))), hk.sub ⟨rfl, rfl, trivial⟩, h⟩
  ·intro K' q8
   refine rg hk fun _ q84=>gS<|gA<|ge q84 fun a w hk=>wc hk h (fun h hb=>?_) fun h hb=>?_
   ·refine wp_skip ?_
    exact q8 _ _ ⟨v3, (decide (v3 = ([97, 100, 100, 86] : List UInt8))), hk.sub ⟨rfl, rfl, trivial⟩, h⟩
   refine rg hk fun _ q85=>gS<|gA<|ge q85 fun a w hk=>wc hk h (fun h hb=>?_) fun h hb=>?_
   ·refine wp_skip ?_
    exact q8 _ _ ⟨v3, (decide (v3 = ([97, 100, 100, 69] : List UInt8))), hk.sub ⟨rfl, rfl, trivial⟩, h⟩
   refine rg hk fun _ q86=>gS<|gA<|ge q86 fun a w hk=>wc hk h (fun h hb=>?_) fun h hb=>?_
   ·refine wp_skip ?_
    exact q8 _ _ ⟨v3, (decide (v3 = ([104, 97, 115, 78, 111, 116] : List UInt8))), hk.sub ⟨rfl, rfl, trivial⟩, h⟩
   refine rg hk fun _ q87=>gS<|gA<|ge q87 fun a w hk=>wc hk h (fun h hb=>?_) fun h hb=>?_
   ·refine wp_skip ?_
    exact q8 _ _ ⟨v3, (decide (v3 = ([97, 115] : List UInt8))), hk.sub ⟨rfl, rfl, trivial⟩, h⟩
   refine rg1 hk<|gS<|gA<|fun a w hk=>?_
   refine wpList_nil ?_
   exact q8 _ _ ⟨v3, (decide (v3 = ([115, 101, 108, 101, 99, 116] : List UInt8))), hk.sub ⟨rfl, rfl, trivial⟩, h⟩
 ·intro K' q4
  refine rg hk fun _ q89=>gS<|gA<|ge q89 fun a w hk=>wc hk h (fun h hb=>?_) fun h hb=>?_
  ·refine wp_skip ?_
   exact q4 _ _ ⟨v0, (decide (v0 = ([86] : List UInt8))), hk.sub ⟨rfl, rfl, trivial⟩, h⟩
  refine rg hk fun _ q90=>gS<|gA<|ge q90 fun a w hk=>wc hk h (fun h hb=>?_) fun h hb=>?_
  ·refine wp_skip ?_
   exact q4 _ _ ⟨v0, (decide (v0 = ([69] : List UInt8))), hk.sub ⟨rfl, rfl, trivial⟩, h⟩
  refine rg1 hk<|gS<|gA<|fun a w hk=>?_
  refine wpList_nil ?_
  exact q4 _ _ ⟨v0, (decide (v0 = ([104, 97, 115, 73, 100] : List UInt8))), hk.sub ⟨rfl, rfl, trivial⟩, h⟩
end Go.Proofs.Ytbjbgodcenopnaa
namespace Go.Proofs.Ytbjbgodcenopnaa
open FW _root_.Go.Proofs.Try
set_option linter.unusedVariables false
set_option maxRecDepth 20000
set_option maxHeartbeats 10000000
theorem graph_Name.ok (K : Nat) (v0 : List UInt8) (r : Bool) (h : graph_Name.f K v0 = some r) :
  Ok prog 149 [.lit (.string (B v0))] (.lit (.bool r)) := by
 refine enter (xs := [.lit (.string (B v0))]) func149 rfl ntmps149 rfl ?_
 intro M w0 a hk
 unfold graph_Name.f at h
 refine rg hk fun _ q1=>gA<|ge q1 fun a w hk=>?_
 refine wseq fun _ q2 => ?_
 refine rg hk fun _ q3=>gM<|fun a w hk=>?_
 refine lf (y := .row (r_c_u8 (bytesI v0))) hk (f_bytes hk h0 underlying9 underlying75 underlying5 rfl) fun a w hk=>?_
 refine lf hk (f_len (R := r_c_u8) (f := c_u8) (l := (bytesI v0)) r_c_u8_eq underlying75 hk h0 rfl) fun a w hk=>?_
 refine go hk<|gM<|ge q3 fun a w hk=>?_
 refine wp_block ?_
 refine wloop (T := Nat × List UInt8 × List Int × Int × Int) (fun x a w => match x with | (kl1, v0, v7, v8, v9) => S M w0 a w 54 [] [(0, [], .lit (.string (B v0))), (7, [], .row (r_c_u8 v7)), (8, [], .lit (.int .i64 v8)), (9, [], .lit (.int .i64 v9))] ∧ graph_Name.l1 K kl1 v0 v7 v8 v9 = some r) (fun x => x.1) (K, v0, (bytesI v0), (List.length (bytesI v0) : Int), 0) ⟨hk.sub ⟨rfl, rfl, rfl, rfl, trivial⟩, h⟩ ?_
 clear hk h
 rintro ⟨kl1, v0, v7, v8, v9⟩ a w ⟨hk, h⟩ K' q4
 cases kl1 with
 | zero => simp [graph_Name.l1] at h
 | succ kl1 =>
 rw [graph_Name.l1.eq_2] at h
 refine rg hk fun _ q5=>gL<|ge q5 fun a w hk=>?_
 refine wseq fun _ q6 => ?_
 refine wc hk h (fun h hb=>?_) fun h hb=>?_
 ·refine wp_skip ?_
  refine q6 _ _ ?_
  refine wseq fun _ q7 => ?_
  refine wp_block ?_
  refine rg hk fun _ q8=>gM<|fun a w hk=>?_
  obtain ⟨hc1, h⟩ := chk h
  refine lf (y := .ref (c_u8 (List.getD v7 (Int.toNat v9) default))) hk (f_indexAddr (R := r_c_u8) (f := c_u8) (l := v7) (sz := 1) r_c_u8_eq (fun _ => rfl) hk h0 rfl rfl underlying75 (by kernel_rfl) hc1) fun a w hk=>?_
  refine lf hk (f_load1 hk h0 rfl rfl underlying5 rfl) fun a w hk=>?_
  refine go hk<|gA<|gA<|ge q8 fun a w hk=>?_
  refine rg hk fun _ q9=>gM<|gE<|gM<|gm<|fun a w hk=>?_
  refine lg hk rfl rfl rfl (fun hc => (f_pure (p_geq hk.kn hc rfl rfl))) fun a w hk=>?_
  refine go hk<|gm<|fun a w hk=>?_
  refine go hk<|gm<|fun a w hk=>?_
  refine lg hk rfl rfl rfl (fun hc => (f_pure (p_leq hk.kn hc rfl rfl))) fun a w hk=>?_
  refine lg hk rfl rfl rfl (fun hc => (f_pure (p_pick_and hk.kn hc rfl rfl))) fun a w hk=>?_
  refine go hk<|gR<|gM<|gm<|fun a w hk=>?_
  refine lg hk rfl rfl rfl (fun hc => (f_pure (p_geq hk.kn hc rfl rfl))) fun a w hk=>?_
  refine go hk<|gm<|fun a w hk=>?_
  refine go hk<|gm<|fun a w hk=>?_
  refine lg hk rfl rfl rfl (fun hc => (f_pure (p_leq hk.kn hc rfl rfl))) fun a w hk=>?_
  refine lg hk rfl rfl rfl (fun hc => (f_pure (p_pick_and hk.kn hc rfl rfl))) fun a w hk=>?_
  refine go hk<|gR<|gA<|ge q9 fun a w hk=>?_
  refine rg hk fun _ q10=>gM<|gP (p_not · h0 rfl)<|gM<|gm<|fun a w hk=>?_
  refine lg hk rfl rfl rfl (fun hc => (f_pure (p_eql hk.kn hc rfl rfl))) fun a w hk=>?_
  refine go hk<|gm<|fun a w hk=>?_
  refine go hk<|gm<|fun a w hk=>?_
  refine lg hk rfl rfl rfl (fun hc => (f_pure (p_lss hk.kn hc rfl rfl))) fun a w hk=>?_
  refine lg hk rfl rfl rfl (fun hc => (f_pure (p_pick_or hk.kn hc rfl rfl))) fun a w hk=>?_
  refine go hk<|gm<|fun a w hk=>?_
  refine go hk<|gm<|fun a w hk=>?_
  refine lg hk rfl rfl rfl (fun hc => (f_pure (p_gtr hk.kn hc rfl rfl))) fun a w hk=>?_
  refine lg hk rfl rfl rfl (fun hc => (f_pure (p_pick_or hk.kn hc rfl rfl))) fun a w hk=>?_
  refine go hk<|gN<|ge q10 fun a w hk=>wc hk h (fun h hb=>?_) fun h hb=>?_
  ·refine rg hk fun _ q11=>gA<|ge q11 fun a w hk=>?_
   refine wp_ret ?_
   obtain rfl := Option.some.inj h
   exact fret1 hk rfl rfl
  refine wp_skip ?_
  refine q7 _ _ ?_
  refine rg1 hk<|gD<|gM<|fun a w hk=>?_
  refine wpList_nil ?_
  exact q4 (kl1, v0, v7, v8, (IntKind.wrap .i64 (v9 + 1))) _ _ (Nat.lt_succ_self _) ⟨hk.sub ⟨rfl, rfl, rfl, rfl, trivial⟩, h⟩
 refine wp_exit ?_; (repeat first | refine te ?_ | refine be rfl ?_); refine bx ?_
 refine q2 _ _ ?_
 refine rg hk fun _ q13=>gM<|gP (p_sneq · h0 rfl rfl)<|gM<|gm<|fun a w hk=>?_
 refine lg hk rfl rfl rfl (fun hc => (f_pure (p_slen underlying9 hk.kn hc rfl))) fun a w hk=>?_
 refine lg hk rfl rfl rfl (fun hc => (f_pure (p_leq hk.kn hc rfl rfl))) fun a w hk=>?_
 refine go hk<|gN<|gA<|ge q13 fun a w hk=>?_
 refine wp_ret ?_
 obtain rfl := Option.some.inj h
 exact fret1 hk rfl rfl
theorem check_is.ok (K : Nat) (v0 : ApiArg) (v1 : Int) (v2 : List UInt8) (r : Bool) (h : check_is.f K v0 v1 v2 = some r) :
  Ok prog 124 [.agg (ApiArg.cells v0), .lit (.int .u8 v1), .lit (.string (B v2))] (.lit (.bool r)) := by
 refine enter (xs := [.agg (ApiArg.cells v0), .lit (.int .u8 v1), .lit (.string (B v2))]) func124 rfl ntmps124 rfl ?_
 intro M w0 a hk
 unfold check_is.f at h
 refine wreg fun _ q1 => ?_
 refine l_box (cs := (ApiArg.cells v0)) hk rfl rfl rfl rfl rfl ?_; clear hk; intro bx1 a w hk
 refine go hk<|gA<|ge q1 fun a w hk=>?_
 refine rg hk fun _ q2=>gF 0 underlying38<|gB 0 underlying3<|gE<|gA<|ge q2 fun a w hk=>?_
 refine rg hk fun _ q3=>gM<|gM<|fun a w hk=>?_
 refine lg (y := .lit (.pointer (some ⟨bx1, 1, none⟩))) hk rfl rfl rfl (fun hc => f_fieldPtr hk hc rfl underlying38 rfl (by kernel_rfl) rfl) fun a w hk=>?_
 refine lg (y := .lit (.pointer (some ⟨bx1, 1, none⟩))) hk rfl rfl rfl (fun hc => f_fieldPtr hk hc rfl underlying33 rfl (by kernel_rfl) rfl) fun a w hk=>?_
 refine lg hk rfl rfl rfl (fun hc => f_loadBlk1 hk hc (j := 0) rfl rfl underlying3 rfl rfl) fun a w hk=>?_
 refine lg hk rfl rfl rfl (fun hc => (f_pure (p_eql hk.kn hc rfl rfl))) fun a w hk=>?_
 refine go hk<|gN<|gM<|fun a w hk=>?_
 refine lg (y := .lit (.pointer (some ⟨bx1, 1, none⟩))) hk rfl rfl rfl (fun hc => f_fieldPtr hk hc rfl underlying38 rfl (by kernel_rfl) rfl) fun a w hk=>?_
 refine lg (y := .lit (.pointer (some ⟨bx1, 5, none⟩))) hk rfl rfl rfl (fun hc => f_fieldPtr hk hc rfl underlying33 rfl (by kernel_rfl) rfl) fun a w hk=>?_
 refine lg hk rfl rfl rfl (fun hc => f_loadBlk1 hk hc (j := 0) rfl rfl underlying9 rfl rfl) fun a w hk=>?_
 obtain ⟨t1, hr_t1, h⟩ := bndG h
 refine lg (y := .lit (.bool t1)) hk rfl rfl rfl (fun hc => f_call hk hc rfl rfl func149 rfl (by kernel_rfl) (graph_Name.ok K v0.V.S _ (hr_t1 (asm_out (p := ((decide (v0.Kind = 1)) && (decide (v0.V.Kind = 4))) = true) hk.kn hc (fun e0 => e0))))) fun a w hk=>?_
 refine go hk<|gN<|gA<|ge q3 fun a w hk=>?_
 refine wseq fun _ q4 => ?_
 refine rg hk fun _ q5=>gM<|ge q5 fun a w hk=>?_
 refine wp_block ?_
 refine rg hk fun _ q6=>gE<|gA<|ge q6 fun a w hk=>wc hk h (fun h hb=>?_) fun h hb=>?_
 ·refine rg hk fun _ q7=>gM<|gA<|ge q7 fun a w hk=>?_
  refine wp_ret ?_
  obtain rfl := Option.some.inj h
  exact fret1 hk rfl rfl
 refine rg hk fun _ q8=>gE<|gA<|ge q8 fun a w hk=>wc hk h (fun h hb=>?_) fun h hb=>?_
 ·refine rg hk fun _ q9=>gM<|gA<|ge q9 fun a w hk=>?_
  refine wp_ret ?_
  obtain rfl := Option.some.inj h
  exact fret1 hk rfl rfl
 refine rg hk fun _ q10=>gE<|gA<|ge q10 fun a w hk=>wc hk h (fun h hb=>?_) fun h hb=>?_
 ·refine rg hk fun _ q11=>gM<|gM<|fun a w hk=>?_
  refine lg (y := .lit (.pointer (some ⟨bx1, 1, none⟩))) hk rfl rfl rfl (fun hc => f_fieldPtr hk hc rfl underlying38 rfl (by kernel_rfl) rfl) fun a w hk=>?_
  refine lg (y := .lit (.pointer (some ⟨bx1, 1, none⟩))) hk rfl rfl rfl (fun hc => f_fieldPtr hk hc rfl underlying33 rfl (by kernel_rfl) rfl) fun a w hk=>?_
  refine lg hk rfl rfl rfl (fun hc => f_loadBlk1 hk hc (j := 0) rfl rfl underlying3 rfl rfl) fun a w hk=>?_
  refine lg hk rfl rfl rfl (fun hc => (f_pure (p_eql hk.kn hc rfl rfl))) fun a w hk=>?_
  refine go hk<|gN<|gM<|fun a w hk=>?_
  refine lg (y := .lit (.pointer (some ⟨bx1, 1, none⟩))) hk rfl rfl rfl (fun hc => f_fieldPtr hk hc rfl underlying38 rfl (by kernel_rfl) rfl) fun a w hk=>?_
  refine lg (y := .lit (.pointer (some ⟨bx1, 3, none⟩))) hk rfl rfl rfl (fun hc => f_fieldPtr hk hc rfl underlying33 rfl (by kernel_rfl) rfl) fun a w hk=>?_
  refine lg hk rfl rfl rfl (fun hc => f_loadBlk1 hk hc (j := 0) rfl rfl underlying2 rfl rfl) fun a w hk=>?_
  refine lg hk rfl rfl rfl (fun hc => (f_pure (p_geq hk.kn hc rfl rfl))) fun a w hk=>?_
  refine go hk<|gN<|gA<|ge q11 fun a w hk=>?_
  refine wp_ret ?_
  obtain rfl := Option.some.inj h
  exact fret1 hk rfl rfl
 refine rg hk fun _ q12=>gE<|gA<|ge q12 fun a w hk=>wc hk h (fun h hb=>?_) fun h hb=>?_
 ·refine rg hk fun _ q13=>gM<|gM<|fun a w hk=>?_
  refine lg (y := .lit (.pointer (some ⟨bx1, 1, none⟩))) hk rfl rfl rfl (fun hc => f_fieldPtr hk hc rfl underlying38 rfl (by kernel_rfl) rfl) fun a w hk=>?_
  refine lg (y := .lit (.pointer (some ⟨bx1, 1, none⟩))) hk rfl rfl rfl (fun hc => f_fieldPtr hk hc rfl underlying33 rfl (by kernel_rfl) rfl) fun a w hk=>?_
  refine lg hk rfl rfl rfl (fun hc => f_loadBlk1 hk hc (j := 0) rfl rfl underlying3 rfl rfl) fun a w hk=>?_
  refine lg hk rfl rfl rfl (fun hc => (f_pure (p_eql hk.kn hc rfl rfl))) fun a w hk=>?_
  refine go hk<|gN<|gM<|fun a w hk=>?_
  refine lg (y := .lit (.pointer (some ⟨bx1, 1, none⟩))) hk rfl rfl rfl (fun hc => f_fieldPtr hk hc rfl underlying38 rfl (by kernel_rfl) rfl) fun a w hk=>?_
  refine lg (y := .lit (.pointer (some ⟨bx1, 3, none⟩))) hk rfl rfl rfl (fun hc => f_fieldPtr hk hc rfl underlying33 rfl (by kernel_rfl) rfl) fun a w hk=>?_
  refine lg hk rfl rfl rfl (fun hc => f_loadBlk1 hk hc (j := 0) rfl rfl underlying2 rfl rfl) fun a w hk=>?_
  refine lg hk rfl rfl rfl (fun hc => (f_pure (p_geq hk.kn hc rfl rfl))) fun a w hk=>?_
  refine go hk<|gN<|gA<|ge q13 fun a w hk=>?_
  refine wp_ret ?_
  obtain rfl := Option.some.inj h
  exact fret1 hk rfl rfl
 refine rg hk fun _ q14=>gE<|gA<|ge q14 fun a w hk=>wc hk h (fun h hb=>?_) fun h hb=>?_
 ·refine rg hk fun _ q15=>gM<|gM<|fun a w hk=>?_
  refine lg (y := .lit (.pointer (some ⟨bx1, 0, none⟩))) hk rfl rfl rfl (fun hc => f_fieldPtr hk hc rfl underlying38 rfl (by kernel_rfl) rfl) fun a w hk=>?_
  refine lg hk rfl rfl rfl (fun hc => f_loadBlk1 hk hc (j := 0) rfl rfl underlying3 rfl rfl) fun a w hk=>?_
  refine lg hk rfl rfl rfl (fun hc => (f_pure (p_eql hk.kn hc rfl rfl))) fun a w hk=>?_
  refine go hk<|gR<|gA<|ge q15 fun a w hk=>?_
  refine wp_ret ?_
  obtain rfl := Option.some.inj h
  exact fret1 hk rfl rfl
 refine rg hk fun _ q16=>gE<|gA<|ge q16 fun a w hk=>wc hk h (fun h hb=>?_) fun h hb=>?_
 ·refine rg hk fun _ q17=>gF 0 underlying38<|gB 0 underlying3<|gE<|gA<|ge q17 fun a w hk=>?_
  refine wp_ret ?_
  obtain rfl := Option.some.inj h
  exact fret1 hk rfl rfl
 refine rg hk fun _ q18=>gE<|gA<|ge q18 fun a w hk=>wc hk h (fun h hb=>?_) fun h hb=>?_
 ·refine rg hk fun _ q19=>gM<|gM<|fun a w hk=>?_
  refine lg (y := .lit (.pointer (some ⟨bx1, 0, none⟩))) hk rfl rfl rfl (fun hc => f_fieldPtr hk hc rfl underlying38 rfl (by kernel_rfl) rfl) fun a w hk=>?_
  refine lg hk rfl rfl rfl (fun hc => f_loadBlk1 hk hc (j := 0) rfl rfl underlying3 rfl rfl) fun a w hk=>?_
  refine lg hk rfl rfl rfl (fun hc => (f_pure (p_eql hk.kn hc rfl rfl))) fun a w hk=>?_
  refine go hk<|gR<|gA<|ge q19 fun a w hk=>?_
  refine wp_ret ?_
  obtain rfl := Option.some.inj h
  exact fret1 hk rfl rfl
 refine wp_skip ?_
 refine q4 _ _ ?_
 refine wseq fun _ q20 => ?_
 refine rg hk fun _ q21=>gF 0 underlying38<|gB 0 underlying3<|gP (p_neq · h0 rfl rfl)<|ge q21 fun a w hk=>wc hk h (fun h hb=>?_) fun h hb=>?_
 ·refine rg hk fun _ q22=>gA<|ge q22 fun a w hk=>?_
  refine wp_ret ?_
  obtain rfl := Option.some.inj h
  exact fret1 hk rfl rfl
 refine wp_skip ?_
 refine q20 _ _ ?_
 refine wseq fun _ q23 => ?_
 refine rg hk fun _ q24=>gM<|gS<|ge q24 fun a w hk=>wc hk h (fun h hb=>?_) fun h hb=>?_
 ·refine rg hk fun _ q25=>gF 1 underlying38<|gF 5 underlying33<|gB 0 underlying9<|gS<|gM<|fun a w hk=>?_
  refine lg (y := .lit (.pointer (some ⟨bx1, 1, none⟩))) hk rfl rfl rfl (fun hc => f_fieldPtr hk hc rfl underlying38 rfl (by kernel_rfl) rfl) fun a w hk=>?_
  refine lg (y := .lit (.pointer (some ⟨bx1, 5, none⟩))) hk rfl rfl rfl (fun hc => f_fieldPtr hk hc rfl underlying33 rfl (by kernel_rfl) rfl) fun a w hk=>?_
  refine lg hk rfl rfl rfl (fun hc => f_loadBlk1 hk hc (j := 0) rfl rfl underlying9 rfl rfl) fun a w hk=>?_
  refine lg hk rfl rfl rfl (fun hc => (f_pure (p_seql hk.kn hc rfl rfl))) fun a w hk=>?_
  refine go hk<|gR<|gA<|ge q25 fun a w hk=>?_
  refine wp_ret ?_
  obtain rfl := Option.some.inj h
  exact fret1 hk rfl rfl
 refine wp_skip ?_
 refine q23 _ _ ?_
 refine rg hk fun _ q26=>gF 1 underlying38<|gF 5 underlying33<|gB 0 underlying9<|gS<|gM<|fun a w hk=>?_
 refine lg (y := .lit (.pointer (some ⟨bx1, 1, none⟩))) hk rfl rfl rfl (fun hc => f_fieldPtr hk hc rfl underlying38 rfl (by kernel_rfl) rfl) fun a w hk=>?_
 refine lg (y := .lit (.pointer (some ⟨bx1, 5, none⟩))) hk rfl rfl rfl (fun hc => f_fieldPtr hk hc rfl underlying33 rfl (by kernel_rfl) rfl) fun a w hk=>?_
 refine lg hk rfl rfl rfl (fun hc => f_loadBlk1 hk hc (j := 0) rfl rfl underlying9 rfl rfl) fun a w hk=>?_
 refine lg hk rfl rfl rfl (fun hc => (f_pure (p_seql hk.kn hc rfl rfl))) fun a w hk=>?_
 refine go hk<|gR<|gA<|ge q26 fun a w hk=>?_
 refine wp_ret ?_
 obtain rfl := Option.some.inj h
 exact fret1 hk rfl rfl
theorem check_fits_1.ok (K : Nat) (v0 : ApiArg) (v1 : OVarcstr_9) (v2 : OVarApiStep) (r : Bool) (h : check_fits_1.f K v0 v1 v2 = some r) :
  ∀ (b1 : Nat) (b2 : Nat), OkH prog 123 [.agg (ApiArg.cells v0), .lit (.pointer (some ⟨b1, 0, none⟩)), .lit (.pointer (some ⟨b2, 0, none⟩))] ((OVarcstr_9.items b1 v1) ++ (OVarApiStep.items b2 v2)) (fun y I => y = .lit (.bool r) ∧ I = (OVarcstr_9.items b1 v1) ++ (OVarApiStep.items b2 v2)) := by
 intro b1 b2
 refine enterH (xs := [.agg (ApiArg.cells v0), .lit (.pointer (some ⟨b1, 0, none⟩)), .lit (.pointer (some ⟨b2, 0, none⟩))]) func123 rfl ntmps123 rfl ?_
 intro M w0 a hk
 replace hk : S M w0 a w0.toWorld 12 [blk b1 9 ([.lit (.string (B v1.v))]), blk b2 29 ((ApiStep.cells v2))] [(0, [], .agg ((ApiArg.cells v0))), (1, [], .lit (.pointer (some ⟨b1, 0, none⟩))), (2, [], .lit (.pointer (some ⟨b2, 0, none⟩)))] := hk
 unfold check_fits_1.f at h
 refine wreg fun _ q1 => ?_
 refine l_box (cs := (ApiArg.cells v0)) hk rfl rfl rfl rfl rfl ?_; clear hk; intro bx1 a w hk
 refine go hk<|gA<|ge q1 fun a w hk=>?_
 obtain ⟨hc1, h⟩ := chk h
 obtain ⟨t1, hr_t1, h⟩ := bnd h
 refine wdraw (by kernel_rfl) (by kernel_rfl) hk ?_; clear hk
 refine dfun (y := .agg ((ApiArg.cells v0))) rfl rfl rfl rfl (fun a w hk => f_loadBlk hk h0 (j := 0) rfl rfl underlying38 rfl rfl rfl rfl) ?_
 refine dfun (y := .lit (.string (B v1.v))) rfl rfl rfl rfl (fun a w hk => f_loadBlk1 hk h0 (j := 1) rfl rfl underlying9 rfl rfl) ?_
 refine dfun (y := .lit (.int .u8 (bt v1.v 0))) rfl rfl rfl rfl (fun a w hk => (f_pure (p_index underlying9 hk.kn h0 rfl rfl hc1))) ?_
 refine dfun (y := .lit (.pointer (some ⟨b2, 0, none⟩))) rfl rfl rfl rfl (fun a w hk => f_fieldPtr hk h0 rfl underlying29 rfl (by kernel_rfl) rfl) ?_
 refine dfun (y := .lit (.string (B v2.Name))) rfl rfl rfl rfl (fun a w hk => f_loadBlk1 hk h0 (j := 2) rfl rfl underlying9 rfl rfl) ?_
 refine dfun (y := .lit (.bool t1)) rfl rfl rfl rfl (fun a w hk => f_call hk h0 rfl rfl func124 rfl (by kernel_rfl) (check_is.ok K v0 (bt v1.v 0) v2.Name _ hr_t1)) ?_
 refine dfun (y := .lit (.bool (!t1))) rfl rfl rfl rfl (fun a w hk => (f_pure (p_not hk.kn h0 rfl))) ?_
 refine dfun (y := .lit (.bool (!t1))) rfl rfl rfl rfl (fun a w hk => f_assign hk h0 rfl) ?_
 refine dend ?_; intro a w hk
 refine wp_ret ?_
 obtain rfl := Option.some.inj h
 replace hk := S.keep (I1 := [blk b1 9 ([.lit (.string (B v1.v))]), blk b2 29 ((ApiStep.cells v2))]) (I2 := [blk bx1 38 ((ApiArg.cells v0))]) (js := [2, 2]) hk rfl
 exact fretH1 hk rfl (rtmp hk rfl) ⟨rfl, rfl⟩
theorem iF_fits.ok (K : Nat) (v0 : List ApiArg) (v1c0 : OVarcstr_9) (v1c1 : OVarApiStep) (r : Int) (h : iF_fits.f K v0 v1c0 v1c1 = some r) :
  ∀ (b1c0 : Nat) (b1c1 : Nat), OkH prog 148 [.row (r_ApiArg_cells v0), .lit (.func (.func 123) #[] #[.pointer (some ⟨b1c0, 0, none⟩), .pointer (some ⟨b1c1, 0, none⟩)])] ((OVarcstr_9.items b1c0 v1c0) ++ (OVarApiStep.items b1c1 v1c1)) (fun y I => y = .lit (.int .i64 r) ∧ I = (OVarcstr_9.items b1c0 v1c0) ++ (OVarApiStep.items b1c1 v1c1)) := by
 intro b1c0 b1c1
 refine enterH (xs := [.row (r_ApiArg_cells v0), .lit (.func (.func 123) #[] #[.pointer (some ⟨b1c0, 0, none⟩), .pointer (some ⟨b1c1, 0, none⟩)])]) func148 rfl ntmps148 rfl ?_
 intro M w0 a hk
 replace hk : S M w0 a w0.toWorld 19 [blk b1c0 9 ([.lit (.string (B v1c0.v))]), blk b1c1 29 ((ApiStep.cells v1c1))] [(0, [], .row (r_ApiArg_cells v0)), (1, [], .lit (.func (.func 123) #[] #[.pointer (some ⟨b1c0, 0, none⟩), .pointer (some ⟨b1c1, 0, none⟩)]))] := hk
 unfold iF_fits.f at h
 refine rg hk fun _ q1=>gA<|ge q1 fun a w hk=>?_
 refine wseq fun _ q2 => ?_
 refine rg hk fun _ q3=>gM<|fun a w hk=>?_
 refine lf hk (f_len (R := r_ApiArg_cells) (f := ApiArg.cells) (l := v0) r_ApiArg_cells_eq underlying27 hk h0 rfl) fun a w hk=>?_
 refine go hk<|gM<|ge q3 fun a w hk=>?_
 refine wp_block ?_
 refine wloop (T := Nat × List ApiArg × Int × Int) (fun x a w => match x with | (kl1, v0, v7, v8) => S M w0 a w 19 [blk b1c0 9 ([.lit (.string (B v1c0.v))]), blk b1c1 29 ((ApiStep.cells v1c1))] [(0, [], .row (r_ApiArg_cells v0)), (1, [], .lit (.func (.func 123) #[] #[.pointer (some ⟨b1c0, 0, none⟩), .pointer (some ⟨b1c1, 0, none⟩)])), (7, [], .lit (.int .i64 v7)), (8, [], .lit (.int .i64 v8))] ∧ iF_fits.l1 K v1c0 v1c1 kl1 v0 v7 v8 = some r) (fun x => x.1) (K, v0, (List.length v0 : Int), 0) ⟨hk.sub ⟨rfl, rfl, rfl, rfl, trivial⟩, h⟩ ?_
 clear hk h
 rintro ⟨kl1, v0, v7, v8⟩ a w ⟨hk, h⟩ K' q4
 cases kl1 with
 | zero => simp [iF_fits.l1] at h
 | succ kl1 =>
 rw [iF_fits.l1.eq_2] at h
 refine rg hk fun _ q5=>gL<|ge q5 fun a w hk=>?_
 refine wseq fun _ q6 => ?_
 refine wc hk h (fun h hb=>?_) fun h hb=>?_
 ·refine wp_skip ?_
  refine q6 _ _ ?_
  refine wseq fun _ q7 => ?_
  refine wp_block ?_
  refine rg hk fun _ q8=>gM<|gA<|ge q8 fun a w hk=>?_
  refine rg hk fun _ q9=>gM<|gM<|gM<|fun a w hk=>?_
  obtain ⟨hc1, h⟩ := chk h
  refine lf (y := .ref (ApiArg.cells (List.getD v0 (Int.toNat v8) default))) hk (f_indexAddr (R := r_ApiArg_cells) (f := ApiArg.cells) (l := v0) (sz := 11) r_ApiArg_cells_eq (fun _ => rfl) hk h0 rfl rfl underlying27 (by kernel_rfl) hc1) fun a w hk=>?_
  refine lf hk (f_load hk h0 rfl underlying38 rfl rfl rfl rfl) fun a w hk=>?_
  obtain ⟨t1, hr_t1, h⟩ := bnd h
  refine l_callHC (I1 := (OVarcstr_9.items b1c0 v1c0) ++ (OVarApiStep.items b1c1 v1c1)) (I2 := []) (js := [1, 1]) hk rfl rfl rfl rfl rfl func123 rfl (by kernel_rfl) (check_fits_1.ok K (List.getD v0 (Int.toNat v8) default) v1c0 v1c1 _ hr_t1 b1c0 b1c1) ?_; clear hk
  rintro _ _ ⟨rfl, rfl⟩ a w hk
  refine lend (q9 _ _ ?_)
  refine wc hk h (fun h hb=>?_) fun h hb=>?_
  ·refine rg hk fun _ q10=>gM<|gA<|ge q10 fun a w hk=>?_
   refine wp_ret ?_
   obtain rfl := Option.some.inj h
   replace hk := S.keep (I1 := [blk b1c0 9 ([.lit (.string (B v1c0.v))]), blk b1c1 29 ((ApiStep.cells v1c1))]) (I2 := []) (js := [1, 1]) hk rfl
   exact fretH1 hk rfl (rtmp hk rfl) ⟨rfl, rfl⟩
  refine wp_skip ?_
  refine q7 _ _ ?_
  refine rg1 hk<|gD<|gM<|fun a w hk=>?_
  refine wpList_nil ?_
  exact q4 (kl1, v0, v7, (IntKind.wrap .i64 (v8 + 1))) _ _ (Nat.lt_succ_self _) ⟨hk.sub ⟨rfl, rfl, rfl, rfl, trivial⟩, h⟩
 refine wp_exit ?_; (repeat first | refine te ?_ | refine be rfl ?_); refine bx ?_
 refine q2 _ _ ?_
 refine rg hk fun _ q12=>gA<|ge q12 fun a w hk=>?_
 refine wp_ret ?_
 obtain rfl := Option.some.inj h
 replace hk := S.keep (I1 := [blk b1c0 9 ([.lit (.string (B v1c0.v))]), blk b1c1 29 ((ApiStep.cells v1c1))]) (I2 := []) (js := [1, 1]) hk rfl
 exact fretH1 hk rfl (rtmp hk rfl) ⟨rfl, rfl⟩
theorem cF_fits.ok (K : Nat) (v0 : List ApiArg) (v1c0 : OVarcstr_9) (v1c1 : OVarApiStep) (r : Bool) (h : cF_fits.f K v0 v1c0 v1c1 = some r) :
  ∀ (b1c0 : Nat) (b1c1 : Nat), OkH prog 122 [.row (r_ApiArg_cells v0), .lit (.func (.func 123) #[] #[.pointer (some ⟨b1c0, 0, none⟩), .pointer (some ⟨b1c1, 0, none⟩)])] ((OVarcstr_9.items b1c0 v1c0) ++ (OVarApiStep.items b1c1 v1c1)) (fun y I => y = .lit (.bool r) ∧ I = (OVarcstr_9.items b1c0 v1c0) ++ (OVarApiStep.items b1c1 v1c1)) := by
 intro b1c0 b1c1
 refine enterH (xs := [.row (r_ApiArg_cells v0), .lit (.func (.func 123) #[] #[.pointer (some ⟨b1c0, 0, none⟩), .pointer (some ⟨b1c1, 0, none⟩)])]) func122 rfl ntmps122 rfl ?_
 intro M w0 a hk
 replace hk : S M w0 a w0.toWorld 9 [blk b1c0 9 ([.lit (.string (B v1c0.v))]), blk b1c1 29 ((ApiStep.cells v1c1))] [(0, [], .row (r_ApiArg_cells v0)), (1, [], .lit (.func (.func 123) #[] #[.pointer (some ⟨b1c0, 0, none⟩), .pointer (some ⟨b1c1, 0, none⟩)]))] := hk
 unfold cF_fits.f at h
 refine rg hk fun _ q1=>gA<|ge q1 fun a w hk=>?_
 refine rg hk fun _ q2=>gM<|gM<|fun a w hk=>?_
 obtain ⟨t1, hr_t1, h⟩ := bnd h
 refine l_callH (I1 := (OVarcstr_9.items b1c0 v1c0) ++ (OVarApiStep.items b1c1 v1c1)) (I2 := []) (js := [1, 1]) hk rfl rfl rfl rfl rfl func148 rfl (by kernel_rfl) (iF_fits.ok K v0 v1c0 v1c1 _ hr_t1 b1c0 b1c1) ?_; clear hk
 rintro _ _ ⟨rfl, rfl⟩ a w hk
 refine go hk<|gP (p_geq · h0 rfl rfl)<|gA<|ge q2 fun a w hk=>?_
 refine wp_ret ?_
 obtain rfl := Option.some.inj h
 replace hk := S.keep (I1 := [blk b1c0 9 ([.lit (.string (B v1c0.v))]), blk b1c1 29 ((ApiStep.cells v1c1))]) (I2 := []) (js := [1, 1]) hk rfl
 exact fretH1 hk rfl (rtmp hk rfl) ⟨rfl, rfl⟩
end Go.Proofs.Ytbjbgodcenopnaa
namespace Go.Proofs.Ytbjbgodcenopnaa
open FW _root_.Go.Proofs.Try
set_option linter.unusedVariables false
set_option maxRecDepth 20000
set_option maxHeartbeats 10000000
theorem check_fits.ok (K : Nat) (v0 : ApiStep) (v1 : List UInt8) (r : Bool) (h : check_fits.f K v0 v1 = some r) :
  Ok prog 97 [.agg (ApiStep.cells v0), .lit (.string (B v1))] (.lit (.bool r)) := by
 refine enter (xs := [.agg (ApiStep.cells v0), .lit (.string (B v1))]) func97 rfl ntmps97 rfl ?_
 intro M w0 a hk
 unfold check_fits.f at h
 refine wreg fun _ q1 => ?_
 refine l_box (cs := (ApiStep.cells v0)) hk rfl rfl rfl rfl rfl ?_; clear hk; intro bx1 a w hk
 refine l_box (cs := [.lit (.string (B v1))]) hk rfl rfl rfl rfl rfl ?_; clear hk; intro bx2 a w hk
 refine go hk<|gA<|ge q1 fun a w hk=>?_
 refine wseq fun _ q2 => ?_
 refine rg hk fun _ q3=>gB 0 underlying9<|gP (p_slen underlying9 · h0 rfl)<|gE<|gM<|fun a w hk=>?_
 refine lg hk rfl rfl rfl (fun hc => f_loadBlk1 hk hc (j := 0) rfl rfl underlying9 rfl rfl) fun a w hk=>?_
 obtain ⟨hc1, h⟩ := chk h
 refine lg hk rfl rfl rfl (fun hc => (f_pure (p_index underlying9 hk.kn hc rfl rfl hc1))) fun a w hk=>?_
 refine lg hk rfl rfl rfl (fun hc => (f_pure (p_eql hk.kn hc rfl rfl))) fun a w hk=>?_
 refine go hk<|gN<|ge q3 fun a w hk=>wc hk h (fun h hb=>?_) fun h hb=>?_
 ·refine rg hk fun _ q4=>gF 1 underlying29<|gB 1 underlying27<|fun a w hk=>?_
  refine lf (y := .lit (.func (.func 123) #[] #[.pointer (some ⟨bx2, 0, none⟩), .pointer (some ⟨bx1, 0, none⟩)])) hk (f_makeFunc hk h0 rfl) fun a w hk=>?_
  obtain ⟨t1, hr_t1, h⟩ := bnd h
  refine l_callH (I1 := (OVarcstr_9.items bx2 (⟨v1⟩ : OVarcstr_9)) ++ (OVarApiStep.items bx1 v0)) (I2 := []) (js := [1, 1]) hk rfl rfl rfl rfl rfl func122 rfl (by kernel_rfl) (cF_fits.ok K v0.Args (⟨v1⟩ : OVarcstr_9) v0 _ hr_t1 bx2 bx1) ?_; clear hk
  rintro _ _ ⟨rfl, rfl⟩ a w hk
  refine go hk<|gP (p_not · h0 rfl)<|gA<|ge q4 fun a w hk=>?_
  refine wp_ret ?_
  obtain rfl := Option.some.inj h
  exact fret1 hk rfl rfl
 refine wp_skip ?_
 refine q2 _ _ ?_
 refine wseq fun _ q5 => ?_
 refine rg hk fun _ q6=>gB 0 underlying9<|gP (p_slen underlying9 · h0 rfl)<|gF 1 underlying29<|gB 1 underlying27<|fun a w hk=>?_
 refine lf hk (f_len (R := r_ApiArg_cells) (f := ApiArg.cells) (l := v0.Args) r_ApiArg_cells_eq underlying27 hk h0 rfl) fun a w hk=>?_
 refine go hk<|gP (p_neq · h0 rfl rfl)<|ge q6 fun a w hk=>wc hk h (fun h hb=>?_) fun h hb=>?_
 ·refine rg hk fun _ q7=>gA<|ge q7 fun a w hk=>?_
  refine wp_ret ?_
  obtain rfl := Option.some.inj h
  exact fret1 hk rfl rfl
 refine wp_skip ?_
 refine q5 _ _ ?_
 refine wseq fun _ q8 => ?_
 refine rg hk fun _ q9=>gF 1 underlying29<|gB 1 underlying27<|fun a w hk=>?_
 refine lf hk (f_len (R := r_ApiArg_cells) (f := ApiArg.cells) (l := v0.Args) r_ApiArg_cells_eq underlying27 hk h0 rfl) fun a w hk=>?_
 refine go hk<|gM<|ge q9 fun a w hk=>?_
 refine wp_block ?_
 refine wloop (T := Nat × List UInt8 × ApiStep × List ApiArg × Int × Int) (fun x a w => match x with | (kl1, y2, y1, v27, v28, v29) => S M w0 a w 43 [blk bx2 9 ([.lit (.string (B y2))]), blk bx1 29 ((ApiStep.cells y1))] [(2, [], .lit (.pointer (some ⟨bx1, 0, none⟩))), (3, [], .lit (.pointer (some ⟨bx2, 0, none⟩))), (27, [], .row (r_ApiArg_cells v27)), (28, [], .lit (.int .i64 v28)), (29, [], .lit (.int .i64 v29))] ∧ check_fits.l1 K kl1 y2 y1 v27 v28 v29 = some r) (fun x => x.1) (K, v1, v0, v0.Args, (List.length v0.Args : Int), 0) ⟨hk.sub ⟨rfl, rfl, rfl, rfl, rfl, trivial⟩, h⟩ ?_
 clear hk h
 rintro ⟨kl1, y2, y1, v27, v28, v29⟩ a w ⟨hk, h⟩ K' q10
 cases kl1 with
 | zero => simp [check_fits.l1] at h
 | succ kl1 =>
 rw [check_fits.l1.eq_2] at h
 refine rg hk fun _ q11=>gL<|ge q11 fun a w hk=>?_
 refine wseq fun _ q12 => ?_
 refine wc hk h (fun h hb=>?_) fun h hb=>?_
 ·refine wp_skip ?_
  refine q12 _ _ ?_
  refine wseq fun _ q13 => ?_
  refine wp_block ?_
  refine rg hk fun _ q14=>gM<|fun a w hk=>?_
  obtain ⟨hc2, h⟩ := chk h
  refine lf (y := .ref (ApiArg.cells (List.getD v27 (Int.toNat v29) default))) hk (f_indexAddr (R := r_ApiArg_cells) (f := ApiArg.cells) (l := v27) (sz := 11) r_ApiArg_cells_eq (fun _ => rfl) hk h0 rfl rfl underlying27 (by kernel_rfl) hc2) fun a w hk=>?_
  refine lf hk (f_load hk h0 rfl underlying38 rfl rfl rfl rfl) fun a w hk=>?_
  refine l_alloc (zs := (ApiArg.cells (⟨0, (⟨0, false, 0, 0, [], []⟩ : ApiValue), (⟨[], [], []⟩ : ApiPred), []⟩ : ApiArg))) [] hk rfl rfl rfl rfl ?_; clear hk; intro bx3 a w hk
  refine go hk<|gA<|fun a w hk=>?_
  refine st0 (cs' := (ApiArg.cells (List.getD v27 (Int.toNat v29) default))) hk rfl (by kernel_rfl) fun w hk => ?_
  refine lend (q14 _ _ ?_)
  obtain ⟨hc3, h⟩ := chk h
  obtain ⟨t2, hr_t2, h⟩ := bnd h
  refine wdraw (by kernel_rfl) (by kernel_rfl) hk ?_; clear hk
  refine dfun (y := .agg ((ApiArg.cells (List.getD v27 (Int.toNat v29) default)))) rfl rfl rfl rfl (fun a w hk => f_loadBlk hk h0 (j := 0) rfl rfl underlying38 rfl rfl rfl rfl) ?_
  refine dfun (y := .lit (.string (B y2))) rfl rfl rfl rfl (fun a w hk => f_loadBlk1 hk h0 (j := 1) rfl rfl underlying9 rfl rfl) ?_
  refine dfun (y := .lit (.int .i64 v29)) rfl rfl rfl rfl (fun a w hk => f_move hk h0 rfl) ?_
  refine dfun (y := .lit (.int .u8 (bt y2 v29))) rfl rfl rfl rfl (fun a w hk => (f_pure (p_index underlying9 hk.kn h0 rfl rfl hc3))) ?_
  refine dfun (y := .lit (.pointer (some ⟨bx1, 0, none⟩))) rfl rfl rfl rfl (fun a w hk => f_fieldPtr hk h0 rfl underlying29 rfl (by kernel_rfl) rfl) ?_
  refine dfun (y := .lit (.string (B y1.Name))) rfl rfl rfl rfl (fun a w hk => f_loadBlk1 hk h0 (j := 2) rfl rfl underlying9 rfl rfl) ?_
  refine dfun (y := .lit (.bool t2)) rfl rfl rfl rfl (fun a w hk => f_call hk h0 rfl rfl func124 rfl (by kernel_rfl) (check_is.ok K (List.getD v27 (Int.toNat v29) default) (bt y2 v29) y1.Name _ hr_t2)) ?_
  refine dfun (y := .lit (.bool (!t2))) rfl rfl rfl rfl (fun a w hk => (f_pure (p_not hk.kn h0 rfl))) ?_
  refine dend ?_; intro a w hk
  refine wc hk h (fun h hb=>?_) fun h hb=>?_
  ·refine rg hk fun _ q16=>gA<|ge q16 fun a w hk=>?_
   refine wp_ret ?_
   obtain rfl := Option.some.inj h
   exact fret1 hk rfl rfl
  refine wp_skip ?_
  refine q13 _ _ ?_
  refine rg1 hk<|gD<|gM<|fun a w hk=>?_
  refine wpList_nil ?_
  exact q10 (kl1, y2, y1, v27, v28, (IntKind.wrap .i64 (v29 + 1))) _ _ (Nat.lt_succ_self _) ⟨(hk.drop 0).sub ⟨rfl, rfl, rfl, rfl, rfl, trivial⟩, h⟩
 refine wp_exit ?_; (repeat first | refine te ?_ | refine be rfl ?_); refine bx ?_
 refine q8 _ _ ?_
 refine rg hk fun _ q18=>gA<|ge q18 fun a w hk=>?_
 refine wp_ret ?_
 obtain rfl := Option.some.inj h
 exact fret1 hk rfl rfl
theorem check_steps_1.ok (K : Nat) (v0 : List UInt8) (v1 : OVarApiStep) (r : Bool) (h : check_steps_1.f K v0 v1 = some r) :
  ∀ (b1 : Nat), OkH prog 96 [.lit (.string (B v0)), .lit (.pointer (some ⟨b1, 0, none⟩))] (OVarApiStep.items b1 v1) (fun y I => y = .lit (.bool r) ∧ I = OVarApiStep.items b1 v1) := by
 intro b1
 refine enterH (xs := [.lit (.string (B v0)), .lit (.pointer (some ⟨b1, 0, none⟩))]) func96 rfl ntmps96 rfl ?_
 intro M w0 a hk
 replace hk : S M w0 a w0.toWorld 7 [blk b1 29 ((ApiStep.cells v1))] [(0, [], .lit (.string (B v0))), (1, [], .lit (.pointer (some ⟨b1, 0, none⟩)))] := hk
 unfold check_steps_1.f at h
 refine rg hk fun _ q1=>gA<|ge q1 fun a w hk=>?_
 refine wreg fun _ q2 => ?_
 refine lf hk (f_loadBlk hk h0 (j := 0) rfl rfl underlying29 rfl rfl rfl rfl) fun a w hk=>?_
 refine go hk<|gM<|fun a w hk=>?_
 obtain ⟨t1, hr_t1, h⟩ := bnd h
 refine lf (y := .lit (.bool t1)) hk (f_call hk h0 rfl rfl func97 rfl (by kernel_rfl) (check_fits.ok K v1 v0 _ hr_t1)) fun a w hk=>?_
 refine go hk<|gA<|ge q2 fun a w hk=>?_
 refine wp_ret ?_
 obtain rfl := Option.some.inj h
 replace hk := S.keep (I1 := [blk b1 29 ((ApiStep.cells v1))]) (I2 := []) (js := [0]) hk rfl
 exact fretH1 hk rfl (rtmp hk rfl) ⟨rfl, rfl⟩
theorem iF_steps.ok (K : Nat) (v0 : List (List UInt8)) (v1c0 : OVarApiStep) (r : Int) (h : iF_steps.f K v0 v1c0 = some r) :
  ∀ (b1c0 : Nat), OkH prog 121 [.row (r_c_str v0), .lit (.func (.func 96) #[] #[.pointer (some ⟨b1c0, 0, none⟩)])] (OVarApiStep.items b1c0 v1c0) (fun y I => y = .lit (.int .i64 r) ∧ I = OVarApiStep.items b1c0 v1c0) := by
 intro b1c0
 refine enterH (xs := [.row (r_c_str v0), .lit (.func (.func 96) #[] #[.pointer (some ⟨b1c0, 0, none⟩)])]) func121 rfl ntmps121 rfl ?_
 intro M w0 a hk
 replace hk : S M w0 a w0.toWorld 19 [blk b1c0 29 ((ApiStep.cells v1c0))] [(0, [], .row (r_c_str v0)), (1, [], .lit (.func (.func 96) #[] #[.pointer (some ⟨b1c0, 0, none⟩)]))] := hk
 unfold iF_steps.f at h
 refine rg hk fun _ q1=>gA<|ge q1 fun a w hk=>?_
 refine wseq fun _ q2 => ?_
 refine rg hk fun _ q3=>gM<|fun a w hk=>?_
 refine lf hk (f_len (R := r_c_str) (f := c_str) (l := v0) r_c_str_eq underlying56 hk h0 rfl) fun a w hk=>?_
 refine go hk<|gM<|ge q3 fun a w hk=>?_
 refine wp_block ?_
 refine wloop (T := Nat × List (List UInt8) × Int × Int) (fun x a w => match x with | (kl1, v0, v7, v8) => S M w0 a w 19 [blk b1c0 29 ((ApiStep.cells v1c0))] [(0, [], .row (r_c_str v0)), (1, [], .lit (.func (.func 96) #[] #[.pointer (some ⟨b1c0, 0, none⟩)])), (7, [], .lit (.int .i64 v7)), (8, [], .lit (.int .i64 v8))] ∧ iF_steps.l1 K v1c0 kl1 v0 v7 v8 = some r) (fun x => x.1) (K, v0, (List.length v0 : Int), 0) ⟨hk.sub ⟨rfl, rfl, rfl, rfl, trivial⟩, h⟩ ?_
 clear hk h
 rintro ⟨kl1, v0, v7, v8⟩ a w ⟨hk, h⟩ K' q4
 cases kl1 with
 | zero => simp [iF_steps.l1] at h
 | succ kl1 =>
 rw [iF_steps.l1.eq_2] at h
 refine rg hk fun _ q5=>gL<|ge q5 fun a w hk=>?_
 refine wseq fun _ q6 => ?_
 refine wc hk h (fun h hb=>?_) fun h hb=>?_
 ·refine wp_skip ?_
  refine q6 _ _ ?_
  refine wseq fun _ q7 => ?_
  refine wp_block ?_
  refine rg hk fun _ q8=>gM<|gA<|ge q8 fun a w hk=>?_
  refine rg hk fun _ q9=>gM<|gM<|gM<|fun a w hk=>?_
  obtain ⟨hc1, h⟩ := chk h
  refine lf (y := .ref (c_str (List.getD v0 (Int.toNat v8) default))) hk (f_indexAddr (R := r_c_str) (f := c_str) (l := v0) (sz := 1) r_c_str_eq (fun _ => rfl) hk h0 rfl rfl underlying56 (by kernel_rfl) hc1) fun a w hk=>?_
  refine lf hk (f_load1 hk h0 rfl rfl underlying9 rfl) fun a w hk=>?_
  obtain ⟨t1, hr_t1, h⟩ := bnd h
  refine l_callHC (I1 := (OVarApiStep.items b1c0 v1c0)) (I2 := []) (js := [0]) hk rfl rfl rfl rfl rfl func96 rfl (by kernel_rfl) (check_steps_1.ok K (List.getD v0 (Int.toNat v8) default) v1c0 _ hr_t1 b1c0) ?_; clear hk
  rintro _ _ ⟨rfl, rfl⟩ a w hk
  refine lend (q9 _ _ ?_)
  refine wc hk h (fun h hb=>?_) fun h hb=>?_
  ·refine rg hk fun _ q10=>gM<|gA<|ge q10 fun a w hk=>?_
   refine wp_ret ?_
   obtain rfl := Option.some.inj h
   replace hk := S.keep (I1 := [blk b1c0 29 ((ApiStep.cells v1c0))]) (I2 := []) (js := [0]) hk rfl
   exact fretH1 hk rfl (rtmp hk rfl) ⟨rfl, rfl⟩
  refine wp_skip ?_
  refine q7 _ _ ?_
  refine rg1 hk<|gD<|gM<|fun a w hk=>?_
  refine wpList_nil ?_
  exact q4 (kl1, v0, v7, (IntKind.wrap .i64 (v8 + 1))) _ _ (Nat.lt_succ_self _) ⟨hk.sub ⟨rfl, rfl, rfl, rfl, trivial⟩, h⟩
 refine wp_exit ?_; (repeat first | refine te ?_ | refine be rfl ?_); refine bx ?_
 refine q2 _ _ ?_
 refine rg hk fun _ q12=>gA<|ge q12 fun a w hk=>?_
 refine wp_ret ?_
 obtain rfl := Option.some.inj h
 replace hk := S.keep (I1 := [blk b1c0 29 ((ApiStep.cells v1c0))]) (I2 := []) (js := [0]) hk rfl
 exact fretH1 hk rfl (rtmp hk rfl) ⟨rfl, rfl⟩
theorem cF_steps.ok (K : Nat) (v0 : List (List UInt8)) (v1c0 : OVarApiStep) (r : Bool) (h : cF_steps.f K v0 v1c0 = some r) :
  ∀ (b1c0 : Nat), OkH prog 95 [.row (r_c_str v0), .lit (.func (.func 96) #[] #[.pointer (some ⟨b1c0, 0, none⟩)])] (OVarApiStep.items b1c0 v1c0) (fun y I => y = .lit (.bool r) ∧ I = OVarApiStep.items b1c0 v1c0) := by
 intro b1c0
 refine enterH (xs := [.row (r_c_str v0), .lit (.func (.func 96) #[] #[.pointer (some ⟨b1c0, 0, none⟩)])]) func95 rfl ntmps95 rfl ?_
 intro M w0 a hk
 replace hk : S M w0 a w0.toWorld 9 [blk b1c0 29 ((ApiStep.cells v1c0))] [(0, [], .row (r_c_str v0)), (1, [], .lit (.func (.func 96) #[] #[.pointer (some ⟨b1c0, 0, none⟩)]))] := hk
 unfold cF_steps.f at h
 refine rg hk fun _ q1=>gA<|ge q1 fun a w hk=>?_
 refine rg hk fun _ q2=>gM<|gM<|fun a w hk=>?_
 obtain ⟨t1, hr_t1, h⟩ := bnd h
 refine l_callH (I1 := (OVarApiStep.items b1c0 v1c0)) (I2 := []) (js := [0]) hk rfl rfl rfl rfl rfl func121 rfl (by kernel_rfl) (iF_steps.ok K v0 v1c0 _ hr_t1 b1c0) ?_; clear hk
 rintro _ _ ⟨rfl, rfl⟩ a w hk
 refine go hk<|gP (p_geq · h0 rfl rfl)<|gA<|ge q2 fun a w hk=>?_
 refine wp_ret ?_
 obtain rfl := Option.some.inj h
 replace hk := S.keep (I1 := [blk b1c0 29 ((ApiStep.cells v1c0))]) (I2 := []) (js := [0]) hk rfl
 exact fretH1 hk rfl (rtmp hk rfl) ⟨rfl, rfl⟩
theorem check_after.ok  (v0 : List UInt8) (r : List (List UInt8)) (h : check_after.f v0 = some r) :
  Ok prog 125 [.lit (.string (B v0))] (nrow (r_c_str r)) := by
 refine enter (xs := [.lit (.string (B v0))]) func125 rfl ntmps125 rfl ?_
 intro M w0 a hk
 unfold check_after.f at h
 refine rg hk fun _ q1=>gA<|ge q1 fun a w hk=>?_
 refine wseq fun _ q2 => ?_
 refine rg hk fun _ q3=>gM<|ge q3 fun a w hk=>?_
 refine wp_block ?_
 refine rg hk fun _ q4=>gS<|gA<|ge q4 fun a w hk=>wc hk h (fun h hb=>?_) fun h hb=>?_
 ·refine wreg fun _ q5 => ?_
  refine l_buildSlice (f := c_str) (l := ([([111, 114, 100, 101, 114] : List UInt8), ([103, 114, 111, 117, 112] : List UInt8), ([103, 114, 111, 117, 112, 67, 111, 117, 110, 116] : List UInt8), ([100, 101, 100, 117, 112] : List UInt8), ([98, 121] : List UInt8)] : List (List UInt8))) hk rfl rfl rfl underlying56 rfl rfl rfl rfl (fun _ => rfl) rfl ?_; clear hk; intro bx1 a w hk
  replace hk := (S.freezeR (I' := []) r_c_str_eq hk (j := 0) rfl (t := 6) rfl rfl).squash
  refine go hk<|gA<|ge q5 fun a w hk=>?_
  refine wp_ret ?_
  obtain rfl := Option.some.inj h
  exact fret1 hk rfl rfl
 refine wseqJ (fun a w => ∃ (v3 : List UInt8) (v7 : Bool), S M w0 a w 16 [] [(3, [], .lit (.string (B v3))), (7, [], .lit (.bool v7))] ∧ check_after.j1 v3 v7 = some r) ?_ ?_
 ·clear hk h
  rintro a w ⟨v3, v7, hk, h⟩
  unfold check_after.j1 at h
  refine wc hk h (fun h hb=>?_) fun h hb=>?_
  ·refine wreg fun _ q7 => ?_
   refine l_buildSlice (f := c_str) (l := ([([114, 101, 112, 101, 97, 116] : List UInt8), ([116, 105, 109, 101, 115] : List UInt8), ([117, 110, 116, 105, 108] : List UInt8), ([101, 109, 105, 116] : List UInt8)] : List (List UInt8))) hk rfl rfl rfl underlying56 rfl rfl rfl rfl (fun _ => rfl) rfl ?_; clear hk; intro bx2 a w hk
   replace hk := (S.freezeR (I' := []) r_c_str_eq hk (j := 0) rfl (t := 11) rfl rfl).squash
   refine go hk<|gA<|ge q7 fun a w hk=>?_
   refine wp_ret ?_
   obtain rfl := Option.some.inj h
   exact fret1 hk rfl rfl
  refine wseqJ (fun a w => ∃ (v12 : Bool), S M w0 a w 16 [] [(12, [], .lit (.bool v12))] ∧ check_after.j2 v12 = some r) ?_ ?_
  ·clear hk h
   rintro a w ⟨v12, hk, h⟩
   unfold check_after.j2 at h
   refine wc hk h (fun h hb=>?_) fun h hb=>?_
   ·refine wreg fun _ q9 => ?_
    refine l_buildSlice (f := c_str) (l := ([([97, 100, 100, 69] : List UInt8), ([116, 111] : List UInt8), ([102, 114, 111, 109] : List UInt8)] : List (List UInt8))) hk rfl rfl rfl underlying56 rfl rfl rfl rfl (fun _ => rfl) rfl ?_; clear hk; intro bx3 a w hk
    replace hk := (S.freezeR (I' := []) r_c_str_eq hk (j := 0) rfl (t := 15) rfl rfl).squash
    refine go hk<|gA<|ge q9 fun a w hk=>?_
    refine wp_ret ?_
    obtain rfl := Option.some.inj h
    exact fret1 hk rfl rfl
   refine wp_skip ?_
   refine q2 _ _ ?_
   refine rg hk fun _ q10=>gA<|ge q10 fun a w hk=>?_
   refine wp_ret ?_
   obtain rfl := Option.some.inj h
   exact fret1 hk rfl rfl
  ·intro K' q8
   refine rg hk fun _ q11=>gS<|gA<|ge q11 fun a w hk=>wc hk h (fun h hb=>?_) fun h hb=>?_
   ·refine wp_skip ?_
    exact q8 _ _ ⟨(decide (v3 = ([116, 111] : List UInt8))), hk.sub ⟨rfl, trivial⟩, h⟩
   refine rg1 hk<|gS<|gA<|fun a w hk=>?_
   refine wpList_nil ?_
   exact q8 _ _ ⟨(decide (v3 = ([102, 114, 111, 109] : List UInt8))), hk.sub ⟨rfl, trivial⟩, h⟩
 ·intro K' q6
  refine rg hk fun _ q13=>gS<|gA<|ge q13 fun a w hk=>wc hk h (fun h hb=>?_) fun h hb=>?_
  ·refine wp_skip ?_
   exact q6 _ _ ⟨v0, (decide (v0 = ([116, 105, 109, 101, 115] : List UInt8))), hk.sub ⟨rfl, rfl, trivial⟩, h⟩
  refine rg hk fun _ q14=>gS<|gA<|ge q14 fun a w hk=>wc hk h (fun h hb=>?_) fun h hb=>?_
  ·refine wp_skip ?_
   exact q6 _ _ ⟨v0, (decide (v0 = ([117, 110, 116, 105, 108] : List UInt8))), hk.sub ⟨rfl, rfl, trivial⟩, h⟩
  refine rg1 hk<|gS<|gA<|fun a w hk=>?_
  refine wpList_nil ?_
  exact q6 _ _ ⟨v0, (decide (v0 = ([101, 109, 105, 116] : List UInt8))), hk.sub ⟨rfl, rfl, trivial⟩, h⟩
theorem slices_Index_string_string.ok (K : Nat) (v0 : List (List UInt8)) (v1 : List UInt8) (r : Int) (h : slices_Index_string_string.f K v0 v1 = some r) :
  Ok prog 150 [.row (r_c_str v0), .lit (.string (B v1))] (.lit (.int .i64 r)) := by
 refine enter (xs := [.row (r_c_str v0), .lit (.string (B v1))]) func150 rfl ntmps150 rfl ?_
 intro M w0 a hk
 unfold slices_Index_string_string.f at h
 refine rg hk fun _ q1=>gA<|ge q1 fun a w hk=>?_
 refine wseq fun _ q2 => ?_
 refine rg hk fun _ q3=>gM<|fun a w hk=>?_
 refine lf hk (f_len (R := r_c_str) (f := c_str) (l := v0) r_c_str_eq underlying56 hk h0 rfl) fun a w hk=>?_
 refine go hk<|gM<|ge q3 fun a w hk=>?_
 refine wp_block ?_
 refine wloop (T := Nat × List (List UInt8) × List UInt8 × Int × Int) (fun x a w => match x with | (kl1, v0, v1, v7, v8) => S M w0 a w 19 [] [(0, [], .row (r_c_str v0)), (1, [], .lit (.string (B v1))), (7, [], .lit (.int .i64 v7)), (8, [], .lit (.int .i64 v8))] ∧ slices_Index_string_string.l1 K kl1 v0 v1 v7 v8 = some r) (fun x => x.1) (K, v0, v1, (List.length v0 : Int), 0) ⟨hk.sub ⟨rfl, rfl, rfl, rfl, trivial⟩, h⟩ ?_
 clear hk h
 rintro ⟨kl1, v0, v1, v7, v8⟩ a w ⟨hk, h⟩ K' q4
 cases kl1 with
 | zero => simp [slices_Index_string_string.l1] at h
 | succ kl1 =>
 rw [slices_Index_string_string.l1.eq_2] at h
 refine rg hk fun _ q5=>gL<|ge q5 fun a w hk=>?_
 refine wseq fun _ q6 => ?_
 refine wc hk h (fun h hb=>?_) fun h hb=>?_
 ·refine wp_skip ?_
  refine q6 _ _ ?_
  refine wseq fun _ q7 => ?_
  refine wp_block ?_
  refine rg hk fun _ q8=>gM<|gA<|ge q8 fun a w hk=>?_
  refine rg hk fun _ q9=>gM<|gM<|gM<|fun a w hk=>?_
  obtain ⟨hc1, h⟩ := chk h
  refine lf (y := .ref (c_str (List.getD v0 (Int.toNat v8) default))) hk (f_indexAddr (R := r_c_str) (f := c_str) (l := v0) (sz := 1) r_c_str_eq (fun _ => rfl) hk h0 rfl rfl underlying56 (by kernel_rfl) hc1) fun a w hk=>?_
  refine lf hk (f_load1 hk h0 rfl rfl underlying9 rfl) fun a w hk=>?_
  refine go hk<|gS<|ge q9 fun a w hk=>wc hk h (fun h hb=>?_) fun h hb=>?_
  ·refine rg hk fun _ q10=>gM<|gA<|ge q10 fun a w hk=>?_
   refine wp_ret ?_
   obtain rfl := Option.some.inj h
   exact fret1 hk rfl rfl
  refine wp_skip ?_
  refine q7 _ _ ?_
  refine rg1 hk<|gD<|gM<|fun a w hk=>?_
  refine wpList_nil ?_
  exact q4 (kl1, v0, v1, v7, (IntKind.wrap .i64 (v8 + 1))) _ _ (Nat.lt_succ_self _) ⟨hk.sub ⟨rfl, rfl, rfl, rfl, trivial⟩, h⟩
 refine wp_exit ?_; (repeat first | refine te ?_ | refine be rfl ?_); refine bx ?_
 refine q2 _ _ ?_
 refine rg hk fun _ q12=>gA<|ge q12 fun a w hk=>?_
 refine wp_ret ?_
 obtain rfl := Option.some.inj h
 exact fret1 hk rfl rfl
theorem slices_Contains_string_string.ok (K : Nat) (v0 : List (List UInt8)) (v1 : List UInt8) (r : Bool) (h : slices_Contains_string_string.f K v0 v1 = some r) :
  Ok prog 126 [.row (r_c_str v0), .lit (.string (B v1))] (.lit (.bool r)) := by
 refine enter (xs := [.row (r_c_str v0), .lit (.string (B v1))]) func126 rfl ntmps126 rfl ?_
 intro M w0 a hk
 unfold slices_Contains_string_string.f at h
 refine rg hk fun _ q1=>gA<|ge q1 fun a w hk=>?_
 refine rg hk fun _ q2=>gM<|gM<|fun a w hk=>?_
 obtain ⟨t1, hr_t1, h⟩ := bnd h
 refine lf (y := .lit (.int .i64 t1)) hk (f_call hk h0 rfl rfl func150 rfl (by kernel_rfl) (slices_Index_string_string.ok K v0 v1 _ hr_t1)) fun a w hk=>?_
 refine go hk<|gP (p_geq · h0 rfl rfl)<|gA<|ge q2 fun a w hk=>?_
 refine wp_ret ?_
 obtain rfl := Option.some.inj h
 exact fret1 hk rfl rfl
theorem check_run.ok (K : Nat) (v0 : List ApiStep) (v1 : Int) (v2 : List UInt8) (r : Int × List UInt8) (h : check_run.f K v0 v1 v2 = some r) :
  Ok prog 127 [.row (r_ApiStep_cells v0), .lit (.int .i64 v1), .lit (.string (B v2))] (.tup [.lit (.int .i64 r.1), .lit (.string (B r.2))]) := by
 refine enter (xs := [.row (r_ApiStep_cells v0), .lit (.int .i64 v1), .lit (.string (B v2))]) func127 rfl ntmps127 rfl ?_
 intro M w0 a hk
 unfold check_run.f at h
 refine rg hk fun _ q1=>gA<|gA<|ge q1 fun a w hk=>?_
 refine rg hk fun _ q2=>gA<|ge q2 fun a w hk=>?_
 refine wseq fun _ q3 => ?_
 refine wp_block ?_
 refine wloop (T := Nat × List ApiStep × Int × List UInt8 × Int) (fun x a w => match x with | (kl1, v0, v1, v2, v8) => S M w0 a w 36 [] [(0, [], .row (r_ApiStep_cells v0)), (1, [], .lit (.int .i64 v1)), (2, [], .lit (.string (B v2))), (8, [], .lit (.int .i64 v8))] ∧ check_run.l1 K kl1 v0 v1 v2 v8 = some r) (fun x => x.1) (K, v0, v1, v2, 0) ⟨hk.sub ⟨rfl, rfl, rfl, rfl, trivial⟩, h⟩ ?_
 clear hk h
 rintro ⟨kl1, v0, v1, v2, v8⟩ a w ⟨hk, h⟩ K' q4
 cases kl1 with
 | zero => simp [check_run.l1] at h
 | succ kl1 =>
 rw [check_run.l1.eq_2] at h
 refine wseq fun _ q5 => ?_
 refine rg hk fun _ q6=>gM<|gP (p_geq · h0 rfl rfl)<|ge q6 fun a w hk=>wc hk h (fun h hb=>?_) fun h hb=>?_
 ·refine wp_skip ?_
  refine q5 _ _ ?_
  refine wseq fun _ q7 => ?_
  refine wp_block ?_
  refine wseqJ (fun a w => ∃ (v0 : List ApiStep) (v1 : Int) (v2 : List UInt8) (v8 : Int), S M w0 a w 36 [] [(0, [], .row (r_ApiStep_cells v0)), (1, [], .lit (.int .i64 v1)), (2, [], .lit (.string (B v2))), (8, [], .lit (.int .i64 v8))] ∧ check_run.j1 (check_run.l1 K kl1) K v0 v1 v2 v8 = some r) ?_ ?_
  ·clear hk h
   rintro a w ⟨v0, v1, v2, v8, hk, h⟩
   unfold check_run.j1 at h
   refine rg hk fun _ q9=>gM<|gM<|fun a w hk=>?_
   obtain ⟨hc1, h⟩ := chk h
   refine lf (y := .ref (ApiStep.cells (List.getD v0 (Int.toNat v1) default))) hk (f_indexAddr (R := r_ApiStep_cells) (f := ApiStep.cells) (l := v0) (sz := 2) r_ApiStep_cells_eq (fun _ => rfl) hk h0 rfl rfl underlying22 (by kernel_rfl) hc1) fun a w hk=>?_
   refine lf hk (f_fieldAddr hk h0 rfl underlying29 rfl (by kernel_rfl) rfl) fun a w hk=>?_
   refine lf hk (f_load1 hk h0 rfl rfl underlying9 rfl) fun a w hk=>?_
   obtain ⟨t1, hr_t1, h⟩ := bnd h
   refine lf (y := nrow (r_c_str t1)) hk (f_call hk h0 rfl rfl func125 rfl (by kernel_rfl) (check_after.ok ((List.getD v0 (Int.toNat v1) default).Name) _ hr_t1)) fun a w hk=>?_
   refine lf (y := .lit (.bool (List.isEmpty t1))) hk (f_nrowEq hk h0 rfl rfl underlying56 (empty_map rfl)) fun a w hk=>?_
   replace hk := hk.as (i := 27) (y := .row (r_c_str t1)) rfl (fun v hv => nrow_row hv)
   refine lend (q9 _ _ ?_)
   refine wc hk h (fun h hb=>?_) fun h hb=>?_
   ·obtain ⟨hc2, h⟩ := chk h
    refine wdraw (by kernel_rfl) (by kernel_rfl) hk ?_; clear hk
    refine dfun (y := .lit (.int .i64 v8)) rfl rfl rfl rfl (fun a w hk => f_move hk h0 rfl) ?_
    refine dfun (y := .row (r_ApiStep_cells v0)) rfl rfl rfl rfl (fun a w hk => f_move hk h0 rfl) ?_
    refine dfun (y := .lit (.int .i64 v1)) rfl rfl rfl rfl (fun a w hk => f_move hk h0 rfl) ?_
    refine dfun (y := .ref (ApiStep.cells (List.getD v0 (Int.toNat v1) default))) rfl rfl rfl rfl (fun a w hk => f_indexAddr (R := r_ApiStep_cells) (f := ApiStep.cells) (l := v0) (sz := 2) r_ApiStep_cells_eq (fun _ => rfl) hk h0 rfl rfl underlying22 (by kernel_rfl) hc2) ?_
    refine dfun (y := .ref (List.drop 0 (ApiStep.cells (List.getD v0 (Int.toNat v1) default)))) rfl rfl rfl rfl (fun a w hk => f_fieldAddr hk h0 rfl underlying29 rfl (by kernel_rfl) rfl) ?_
    refine dfun (y := .lit (.string (B ((List.getD v0 (Int.toNat v1) default).Name)))) rfl rfl rfl rfl (fun a w hk => f_load1 hk h0 rfl rfl underlying9 rfl) ?_
    refine dfun (y := .lit (.int .i64 v8)) rfl rfl rfl rfl (fun a w hk => f_assign hk h0 rfl) ?_
    refine dfun (y := .lit (.string (B ((List.getD v0 (Int.toNat v1) default).Name)))) rfl rfl rfl rfl (fun a w hk => f_assign hk h0 rfl) ?_
    refine dend ?_; intro a w hk
    refine wp_ret ?_
    obtain rfl := Option.some.inj h
    exact fret2 hk rfl rfl rfl
   refine wp_skip ?_
   refine q7 _ _ ?_
   refine rg1 hk<|gM<|gP (p_sub · h0 rfl rfl)<|gA<|fun a w hk=>?_
   refine wpList_nil ?_
   exact q4 (kl1, v0, (IntKind.wrap .i64 (v1 - 1)), v2, v8) _ _ (Nat.lt_succ_self _) ⟨hk.sub ⟨rfl, rfl, rfl, rfl, trivial⟩, h⟩
  ·intro K' q8
   refine rg hk fun _ q12=>gM<|gM<|fun a w hk=>?_
   obtain ⟨hc3, h⟩ := chk h
   refine lf (y := .ref (ApiStep.cells (List.getD v0 (Int.toNat v1) default))) hk (f_indexAddr (R := r_ApiStep_cells) (f := ApiStep.cells) (l := v0) (sz := 2) r_ApiStep_cells_eq (fun _ => rfl) hk h0 rfl rfl underlying22 (by kernel_rfl) hc3) fun a w hk=>?_
   refine lf hk (f_fieldAddr hk h0 rfl underlying29 rfl (by kernel_rfl) rfl) fun a w hk=>?_
   refine lf hk (f_load1 hk h0 rfl rfl underlying9 rfl) fun a w hk=>?_
   refine go hk<|gM<|gS<|ge q12 fun a w hk=>wc hk h (fun h hb=>?_) fun h hb=>?_
   ·refine rg1 hk<|gM<|gD<|gA<|fun a w hk=>?_
    refine wpList_nil ?_
    exact q8 _ _ ⟨v0, v1, v2, (IntKind.wrap .i64 (v8 + 1)), hk.sub ⟨rfl, rfl, rfl, rfl, trivial⟩, h⟩
   refine wp_skip ?_
   exact q8 _ _ ⟨v0, v1, v2, v8, hk.sub ⟨rfl, rfl, rfl, rfl, trivial⟩, h⟩
 refine wp_exit ?_; (repeat first | refine te ?_ | refine be rfl ?_); refine bx ?_
 refine q3 _ _ ?_
 refine rg hk fun _ q14=>gM<|gA<|gA<|ge q14 fun a w hk=>?_
 refine wp_ret ?_
 obtain rfl := Option.some.inj h
 exact fret2 hk rfl rfl rfl
theorem check_most.ok  (v0 : List UInt8) (v1 : List UInt8) (r : Int) (h : check_most.f v0 v1 = some r) :
  Ok prog 128 [.lit (.string (B v0)), .lit (.string (B v1))] (.lit (.int .i64 r)) := by
 refine enter (xs := [.lit (.string (B v0)), .lit (.string (B v1))]) func128 rfl ntmps128 rfl ?_
 intro M w0 a hk
 unfold check_most.f at h
 refine rg hk fun _ q1=>gA<|ge q1 fun a w hk=>?_
 refine wseq fun _ q2 => ?_
 refine wp_block ?_
 refine rg hk fun _ q3=>gM<|gS<|gM<|gm<|fun a w hk=>?_
 refine lg hk rfl rfl rfl (fun hc => (f_pure (p_seql hk.kn hc rfl rfl))) fun a w hk=>?_
 refine go hk<|gN<|gA<|ge q3 fun a w hk=>wc hk h (fun h hb=>?_) fun h hb=>?_
 ·refine rg hk fun _ q4=>gA<|ge q4 fun a w hk=>?_
  refine wp_ret ?_
  obtain rfl := Option.some.inj h
  exact fret1 hk rfl rfl
 refine rg hk fun _ q5=>gM<|gS<|gM<|gm<|fun a w hk=>?_
 refine lg hk rfl rfl rfl (fun hc => (f_pure (p_seql hk.kn hc rfl rfl))) fun a w hk=>?_
 refine go hk<|gN<|gA<|ge q5 fun a w hk=>wc hk h (fun h hb=>?_) fun h hb=>?_
 ·refine rg hk fun _ q6=>gA<|ge q6 fun a w hk=>?_
  refine wp_ret ?_
  obtain rfl := Option.some.inj h
  exact fret1 hk rfl rfl
 refine wp_skip ?_
 refine q2 _ _ ?_
 refine rg hk fun _ q7=>gA<|ge q7 fun a w hk=>?_
 refine wp_ret ?_
 obtain rfl := Option.some.inj h
 exact fret1 hk rfl rfl
end Go.Proofs.Ytbjbgodcenopnaa
namespace Go.Proofs.Ytbjbgodcenopnaa
open FW _root_.Go.Proofs.Try
set_option linter.unusedVariables false
set_option maxRecDepth 20000
set_option maxHeartbeats 10000000
theorem check_place.ok (K : Nat) (v0 : List ApiStep) (v1 : Int) (v2 : Bool) (r : Int) (h : check_place.f K v0 v1 v2 = some r) :
  Ok prog 98 [.row (r_ApiStep_cells v0), .lit (.int .i64 v1), .lit (.bool v2)] (.lit (.int .i64 r)) := by
 refine enter (xs := [.row (r_ApiStep_cells v0), .lit (.int .i64 v1), .lit (.bool v2)]) func98 rfl ntmps98 rfl ?_
 intro M w0 a hk
 unfold check_place.f at h
 refine rg hk fun _ q1=>gA<|ge q1 fun a w hk=>?_
 refine rg hk fun _ q2=>gM<|gM<|fun a w hk=>?_
 obtain ⟨hc1, h⟩ := chk h
 refine lf (y := .ref (ApiStep.cells (List.getD v0 (Int.toNat v1) default))) hk (f_indexAddr (R := r_ApiStep_cells) (f := ApiStep.cells) (l := v0) (sz := 2) r_ApiStep_cells_eq (fun _ => rfl) hk h0 rfl rfl underlying22 (by kernel_rfl) hc1) fun a w hk=>?_
 refine lf hk (f_load hk h0 rfl underlying29 rfl rfl rfl rfl) fun a w hk=>?_
 refine l_alloc (zs := (ApiStep.cells (⟨[], []⟩ : ApiStep))) [] hk rfl rfl rfl rfl ?_; clear hk; intro bx1 a w hk
 refine st0 (cs' := (ApiStep.cells (List.getD v0 (Int.toNat v1) default))) hk rfl (by kernel_rfl) fun w hk => ?_
 refine lend (q2 _ _ ?_)
 refine rg hk fun _ q3=>gF 0 underlying29<|gB 0 underlying9<|gS<|gM<|fun a w hk=>?_
 refine lg (y := .lit (.pointer (some ⟨bx1, 0, none⟩))) hk rfl rfl rfl (fun hc => f_fieldPtr hk hc rfl underlying29 rfl (by kernel_rfl) rfl) fun a w hk=>?_
 refine lg hk rfl rfl rfl (fun hc => f_loadBlk1 hk hc (j := 0) rfl rfl underlying9 rfl rfl) fun a w hk=>?_
 refine lg hk rfl rfl rfl (fun hc => (f_pure (p_seql hk.kn hc rfl rfl))) fun a w hk=>?_
 refine go hk<|gR<|gM<|fun a w hk=>?_
 refine lg (y := .lit (.pointer (some ⟨bx1, 0, none⟩))) hk rfl rfl rfl (fun hc => f_fieldPtr hk hc rfl underlying29 rfl (by kernel_rfl) rfl) fun a w hk=>?_
 refine lg hk rfl rfl rfl (fun hc => f_loadBlk1 hk hc (j := 0) rfl rfl underlying9 rfl rfl) fun a w hk=>?_
 refine lg hk rfl rfl rfl (fun hc => (f_pure (p_seql hk.kn hc rfl rfl))) fun a w hk=>?_
 refine go hk<|gR<|gM<|fun a w hk=>?_
 refine lg (y := .lit (.pointer (some ⟨bx1, 0, none⟩))) hk rfl rfl rfl (fun hc => f_fieldPtr hk hc rfl underlying29 rfl (by kernel_rfl) rfl) fun a w hk=>?_
 refine lg hk rfl rfl rfl (fun hc => f_loadBlk1 hk hc (j := 0) rfl rfl underlying9 rfl rfl) fun a w hk=>?_
 refine lg hk rfl rfl rfl (fun hc => (f_pure (p_seql hk.kn hc rfl rfl))) fun a w hk=>?_
 refine go hk<|gR<|gA<|ge q3 fun a w hk=>?_
 refine wseq fun _ q4 => ?_
 refine rg hk fun _ q5=>gM<|gM<|gm<|fun a w hk=>?_
 refine lg hk rfl rfl rfl (fun hc => (f_pure (p_eql hk.kn hc rfl rfl))) fun a w hk=>?_
 refine go hk<|gN<|gM<|gm<|fun a w hk=>?_
 refine lg hk rfl rfl rfl (fun hc => (f_pure (p_not hk.kn hc rfl))) fun a w hk=>?_
 refine go hk<|gN<|ge q5 fun a w hk=>wc hk h (fun h hb=>?_) fun h hb=>?_
 ·refine rg hk fun _ q6=>gA<|ge q6 fun a w hk=>?_
  refine wp_ret ?_
  obtain rfl := Option.some.inj h
  exact fret1 hk rfl rfl
 refine wp_skip ?_
 refine q4 _ _ ?_
 refine wseqJ (fun a w => ∃ (y1 : ApiStep) (v0 : List ApiStep) (v1 : Int), S M w0 a w 148 [blk bx1 29 ((ApiStep.cells y1))] [(0, [], .row (r_ApiStep_cells v0)), (1, [], .lit (.int .i64 v1)), (7, [], .lit (.pointer (some ⟨bx1, 0, none⟩)))] ∧ check_place.j1 K y1 v0 v1 = some r) ?_ ?_
 ·clear hk h
  rintro a w ⟨y1, v0, v1, hk, h⟩
  unfold check_place.j1 at h
  refine rg hk fun _ q8=>gM<|gD<|gM<|fun a w hk=>?_
  refine lf hk (f_len (R := r_ApiStep_cells) (f := ApiStep.cells) (l := v0) r_ApiStep_cells_eq underlying22 hk h0 rfl) fun a w hk=>?_
  refine go hk<|gE<|gM<|gm<|fun a w hk=>?_
  refine go hk<|gm<|fun a w hk=>?_
  refine lg hk rfl rfl rfl (fun hc => (f_pure (p_add hk.kn hc rfl rfl))) fun a w hk=>?_
  obtain ⟨hc2, h⟩ := chk h
  refine lg (y := .ref (ApiStep.cells (List.getD v0 (Int.toNat (IntKind.wrap .i64 (v1 + 1))) default))) hk rfl rfl rfl (fun hc => f_indexAddr (R := r_ApiStep_cells) (f := ApiStep.cells) (l := v0) (sz := 2) r_ApiStep_cells_eq (fun _ => rfl) hk hc rfl rfl underlying22 (by kernel_rfl) hc2) fun a w hk=>?_
  refine lg hk rfl rfl rfl (fun hc => f_fieldAddr hk hc rfl underlying29 rfl (by kernel_rfl) rfl) fun a w hk=>?_
  refine lg hk rfl rfl rfl (fun hc => f_load1 hk hc rfl rfl underlying9 rfl) fun a w hk=>?_
  obtain ⟨t1, hr_t1, h⟩ := bndG h
  refine lg (y := nrow (r_c_str t1)) hk rfl rfl rfl (fun hc => f_call hk hc rfl rfl func125 rfl (by kernel_rfl) (check_after.ok ((List.getD v0 (Int.toNat (IntKind.wrap .i64 (v1 + 1))) default).Name) _ (hr_t1 (asm_out (p := (decide ((IntKind.wrap .i64 (v1 + 1)) = (List.length v0 : Int))) = false) hk.kn hc (fun e0 => e0))))) fun a w hk=>?_
  refine lg (y := .lit (.bool (List.isEmpty t1))) hk rfl rfl rfl (fun hc => f_nrowEq hk hc rfl rfl underlying56 (empty_map rfl)) fun a w hk=>?_
  refine go hk<|gR<|gA<|ge q8 fun a w hk=>?_
  refine wseq fun _ q9 => ?_
  refine rg hk fun _ q10=>gF 0 underlying29<|gB 0 underlying9<|gS<|gM<|gm<|fun a w hk=>?_
  refine go hk<|gm<|fun a w hk=>?_
  refine go hk<|gm<|fun a w hk=>?_
  refine go hk<|gm<|fun a w hk=>?_
  refine lg hk rfl rfl rfl (fun hc => (f_pure (p_add hk.kn hc rfl rfl))) fun a w hk=>?_
  obtain ⟨hc3, h⟩ := chk h
  refine lg (y := .ref (ApiStep.cells (List.getD v0 (Int.toNat (IntKind.wrap .i64 (v1 + 1))) default))) hk rfl rfl rfl (fun hc => f_indexAddr (R := r_ApiStep_cells) (f := ApiStep.cells) (l := v0) (sz := 2) r_ApiStep_cells_eq (fun _ => rfl) hk hc rfl rfl underlying22 (by kernel_rfl) hc3) fun a w hk=>?_
  refine lg hk rfl rfl rfl (fun hc => f_fieldAddr hk hc rfl underlying29 rfl (by kernel_rfl) rfl) fun a w hk=>?_
  refine lg hk rfl rfl rfl (fun hc => f_load1 hk hc rfl rfl underlying9 rfl) fun a w hk=>?_
  refine lg hk rfl rfl rfl (fun hc => (f_pure (p_sneq hk.kn hc rfl rfl))) fun a w hk=>?_
  refine go hk<|gm<|fun a w hk=>?_
  refine go hk<|gm<|fun a w hk=>?_
  refine go hk<|gm<|fun a w hk=>?_
  refine lg hk rfl rfl rfl (fun hc => (f_pure (p_add hk.kn hc rfl rfl))) fun a w hk=>?_
  obtain ⟨hc4, h⟩ := chk h
  refine lg (y := .ref (ApiStep.cells (List.getD v0 (Int.toNat (IntKind.wrap .i64 (v1 + 1))) default))) hk rfl rfl rfl (fun hc => f_indexAddr (R := r_ApiStep_cells) (f := ApiStep.cells) (l := v0) (sz := 2) r_ApiStep_cells_eq (fun _ => rfl) hk hc rfl rfl underlying22 (by kernel_rfl) hc4) fun a w hk=>?_
  refine lg hk rfl rfl rfl (fun hc => f_fieldAddr hk hc rfl underlying29 rfl (by kernel_rfl) rfl) fun a w hk=>?_
  refine lg hk rfl rfl rfl (fun hc => f_load1 hk hc rfl rfl underlying9 rfl) fun a w hk=>?_
  refine lg hk rfl rfl rfl (fun hc => (f_pure (p_sneq hk.kn hc rfl rfl))) fun a w hk=>?_
  refine lg hk rfl rfl rfl (fun hc => (f_pure (p_pick_and hk.kn hc rfl rfl))) fun a w hk=>?_
  refine lg hk rfl rfl rfl (fun hc => (f_pure (p_pick_or hk.kn hc rfl rfl))) fun a w hk=>?_
  refine go hk<|gN<|gM<|fun a w hk=>?_
  refine lg (y := .lit (.pointer (some ⟨bx1, 0, none⟩))) hk rfl rfl rfl (fun hc => f_fieldPtr hk hc rfl underlying29 rfl (by kernel_rfl) rfl) fun a w hk=>?_
  refine lg hk rfl rfl rfl (fun hc => f_loadBlk1 hk hc (j := 0) rfl rfl underlying9 rfl rfl) fun a w hk=>?_
  refine lg hk rfl rfl rfl (fun hc => (f_pure (p_seql hk.kn hc rfl rfl))) fun a w hk=>?_
  refine go hk<|gm<|fun a w hk=>?_
  refine go hk<|gm<|fun a w hk=>?_
  refine lg hk rfl rfl rfl (fun hc => (f_pure (p_pick_and hk.kn hc rfl rfl))) fun a w hk=>?_
  refine go hk<|gR<|ge q10 fun a w hk=>wc hk h (fun h hb=>?_) fun h hb=>?_
  ·refine rg hk fun _ q11=>gA<|ge q11 fun a w hk=>?_
   refine wp_ret ?_
   obtain rfl := Option.some.inj h
   exact fret1 hk rfl rfl
  refine wp_skip ?_
  refine q9 _ _ ?_
  refine rg hk fun _ q12=>gA<|ge q12 fun a w hk=>?_
  refine wp_ret ?_
  obtain rfl := Option.some.inj h
  exact fret1 hk rfl rfl
 ·intro K' q7
  refine rg hk fun _ q13=>gF 0 underlying29<|gB 0 underlying9<|fun a w hk=>?_
  obtain ⟨t2, hr_t2, h⟩ := bnd h
  refine lf (y := nrow (r_c_str t2)) hk (f_call hk h0 rfl rfl func125 rfl (by kernel_rfl) (check_after.ok ((List.getD v0 (Int.toNat v1) default).Name) _ hr_t2)) fun a w hk=>?_
  refine go hk<|gA<|ge q13 fun a w hk=>?_
  refine rg hk fun _ q14=>gM<|fun a w hk=>?_
  refine lf (y := .lit (.bool (!(List.isEmpty t2)))) hk (f_nrowNe hk h0 rfl rfl underlying56 (nempty_map rfl)) fun a w hk=>?_
  replace hk := hk.as (i := 9) (y := .row (r_c_str t2)) rfl (fun v hv => nrow_row hv)
  replace hk := hk.as (i := 46) (y := .row (r_c_str t2)) rfl (fun v hv => nrow_row hv)
  replace hk := hk.as (i := 47) (y := .row (r_c_str t2)) rfl (fun v hv => nrow_row hv)
  refine lend (q14 _ _ ?_)
  refine wc hk h (fun h hb=>?_) fun h hb=>?_
  ·refine wseq fun _ q15 => ?_
   refine rg hk fun _ q16=>gM<|gE<|gM<|gm<|fun a w hk=>?_
   refine go hk<|gm<|fun a w hk=>?_
   refine go hk<|gm<|fun a w hk=>?_
   refine lg hk rfl rfl rfl (fun hc => (f_pure (p_sub hk.kn hc rfl rfl))) fun a w hk=>?_
   obtain ⟨hc5, h⟩ := chk h
   refine lg (y := .ref (ApiStep.cells (List.getD v0 (Int.toNat (IntKind.wrap .i64 (v1 - 1))) default))) hk rfl rfl rfl (fun hc => f_indexAddr (R := r_ApiStep_cells) (f := ApiStep.cells) (l := v0) (sz := 2) r_ApiStep_cells_eq (fun _ => rfl) hk hc rfl rfl underlying22 (by kernel_rfl) hc5) fun a w hk=>?_
   refine lg hk rfl rfl rfl (fun hc => f_fieldAddr hk hc rfl underlying29 rfl (by kernel_rfl) rfl) fun a w hk=>?_
   refine lg hk rfl rfl rfl (fun hc => f_load1 hk hc rfl rfl underlying9 rfl) fun a w hk=>?_
   obtain ⟨t3, hr_t3, h⟩ := bndG h
   refine lg (y := .lit (.bool t3)) hk rfl rfl rfl (fun hc => f_call hk hc rfl rfl func126 rfl (by kernel_rfl) (slices_Contains_string_string.ok K t2 ((List.getD v0 (Int.toNat (IntKind.wrap .i64 (v1 - 1))) default).Name) _ (hr_t3 (asm_out (p := (decide (v1 = 0)) = false) hk.kn hc (fun e0 => e0))))) fun a w hk=>?_
   refine lg hk rfl rfl rfl (fun hc => (f_pure (p_not hk.kn hc rfl))) fun a w hk=>?_
   refine go hk<|gR<|ge q16 fun a w hk=>wc hk h (fun h hb=>?_) fun h hb=>?_
   ·refine rg hk fun _ q17=>gA<|ge q17 fun a w hk=>?_
    refine wp_ret ?_
    obtain rfl := Option.some.inj h
    exact fret1 hk rfl rfl
   refine wp_skip ?_
   refine q15 _ _ ?_
   refine rg hk fun _ q18=>gM<|gM<|gF 0 underlying29<|gB 0 underlying9<|fun a w hk=>?_
   obtain ⟨t4, hr_t4, h⟩ := bnd h
   refine lf (y := .tup [.lit (.int .i64 t4.1), .lit (.string (B t4.2))]) hk (f_call hk h0 rfl rfl func127 rfl (by kernel_rfl) (check_run.ok K v0 v1 ((List.getD v0 (Int.toNat v1) default).Name) _ hr_t4)) fun a w hk=>?_
   refine go hk<|gM<|fun a w hk=>?_
   refine go hk<|gX<|gX<|gA<|gA<|ge q18 fun a w hk=>?_
   refine wseq fun _ q19 => ?_
   refine rg hk fun _ q20=>gM<|gF 0 underlying29<|gB 0 underlying9<|gM<|fun a w hk=>?_
   obtain ⟨t5, hr_t5, h⟩ := bnd h
   refine lf (y := .lit (.int .i64 t5)) hk (f_call hk h0 rfl rfl func128 rfl (by kernel_rfl) (check_most.ok ((List.getD v0 (Int.toNat v1) default).Name) t4.2 _ hr_t5)) fun a w hk=>?_
   refine go hk<|gP (p_gtr · h0 rfl rfl)<|ge q20 fun a w hk=>wc hk h (fun h hb=>?_) fun h hb=>?_
   ·refine rg hk fun _ q21=>gA<|ge q21 fun a w hk=>?_
    refine wp_ret ?_
    obtain rfl := Option.some.inj h
    exact fret1 hk rfl rfl
   refine wp_skip ?_
   refine q19 _ _ ?_
   refine rg hk fun _ q22=>gF 0 underlying29<|gB 0 underlying9<|gS<|gM<|gm<|fun a w hk=>?_
   refine lg hk rfl rfl rfl (fun hc => (f_pure (p_sneq hk.kn hc rfl rfl))) fun a w hk=>?_
   refine go hk<|gN<|gM<|fun a w hk=>?_
   refine lg (y := .lit (.pointer (some ⟨bx1, 1, none⟩))) hk rfl rfl rfl (fun hc => f_fieldPtr hk hc rfl underlying29 rfl (by kernel_rfl) rfl) fun a w hk=>?_
   refine lg hk rfl rfl rfl (fun hc => f_loadBlk1 hk hc (j := 0) rfl rfl underlying27 rfl rfl) fun a w hk=>?_
   refine lg hk rfl rfl rfl (fun hc => f_len (R := r_ApiArg_cells) (f := ApiArg.cells) (l := (List.getD v0 (Int.toNat v1) default).Args) r_ApiArg_cells_eq underlying27 hk hc rfl) fun a w hk=>?_
   refine lg hk rfl rfl rfl (fun hc => (f_pure (p_gtr hk.kn hc rfl rfl))) fun a w hk=>?_
   refine go hk<|gN<|gM<|fun a w hk=>?_
   refine lg (y := .lit (.pointer (some ⟨bx1, 1, none⟩))) hk rfl rfl rfl (fun hc => f_fieldPtr hk hc rfl underlying29 rfl (by kernel_rfl) rfl) fun a w hk=>?_
   refine lg hk rfl rfl rfl (fun hc => f_loadBlk1 hk hc (j := 0) rfl rfl underlying27 rfl rfl) fun a w hk=>?_
   refine lg (y := .lit (.pointer (some ⟨bx1, 1, none⟩))) hk rfl rfl rfl (fun hc => f_fieldPtr hk hc rfl underlying29 rfl (by kernel_rfl) rfl) fun a w hk=>?_
   refine lg hk rfl rfl rfl (fun hc => f_loadBlk1 hk hc (j := 0) rfl rfl underlying27 rfl rfl) fun a w hk=>?_
   refine lg hk rfl rfl rfl (fun hc => f_len (R := r_ApiArg_cells) (f := ApiArg.cells) (l := (List.getD v0 (Int.toNat v1) default).Args) r_ApiArg_cells_eq underlying27 hk hc rfl) fun a w hk=>?_
   refine lg hk rfl rfl rfl (fun hc => (f_pure (p_sub hk.kn hc rfl rfl))) fun a w hk=>?_
   obtain ⟨hc6, h⟩ := chk h
   refine lg (y := .ref (ApiArg.cells (List.getD ((List.getD v0 (Int.toNat v1) default).Args) (Int.toNat (IntKind.wrap .i64 ((List.length ((List.getD v0 (Int.toNat v1) default).Args) : Int) - 1))) default))) hk rfl rfl rfl (fun hc => f_indexAddr (R := r_ApiArg_cells) (f := ApiArg.cells) (l := (List.getD v0 (Int.toNat v1) default).Args) (sz := 11) r_ApiArg_cells_eq (fun _ => rfl) hk hc rfl rfl underlying27 (by kernel_rfl) hc6) fun a w hk=>?_
   refine lg hk rfl rfl rfl (fun hc => f_fieldAddr hk hc rfl underlying38 rfl (by kernel_rfl) rfl) fun a w hk=>?_
   refine lg hk rfl rfl rfl (fun hc => f_load1 hk hc rfl rfl underlying3 rfl) fun a w hk=>?_
   refine lg hk rfl rfl rfl (fun hc => (f_pure (p_eql hk.kn hc rfl rfl))) fun a w hk=>?_
   refine go hk<|gN<|ge q22 fun a w hk=>wc hk h (fun h hb=>?_) fun h hb=>?_
   ·refine rg hk fun _ q23=>gA<|ge q23 fun a w hk=>?_
    refine wp_ret ?_
    obtain rfl := Option.some.inj h
    exact fret1 hk rfl rfl
   refine wp_skip ?_
   exact q7 _ _ ⟨(List.getD v0 (Int.toNat v1) default), v0, v1, hk.sub ⟨rfl, rfl, rfl, trivial⟩, h⟩
  refine wp_skip ?_
  exact q7 _ _ ⟨(List.getD v0 (Int.toNat v1) default), v0, v1, hk.sub ⟨rfl, rfl, rfl, trivial⟩, h⟩
end Go.Proofs.Ytbjbgodcenopnaa
namespace Go.Proofs.Ytbjbgodcenopnaa
open FW _root_.Go.Proofs.Try
set_option linter.unusedVariables false
set_option maxRecDepth 20000
set_option maxHeartbeats 10000000
abbrev Zzcs (zcs : List ApiStep → Bool → Option Int) : Prop := ∀ (v0 : List ApiStep) (v1 : Bool) (r : Int), zcs v0 v1 = some r → Ok prog 68 [.row (r_ApiStep_cells v0), .lit (.bool v1)] (.lit (.int .i64 r))
theorem check_steps.bok (zcs : List ApiStep → Bool → Option Int) (hzcs : Zzcs zcs) (K : Nat) (v0 : List ApiStep) (v1 : Bool) (r : Int) (h : check_steps.b zcs K v0 v1 = some r) :
  Ok prog 68 [.row (r_ApiStep_cells v0), .lit (.bool v1)] (.lit (.int .i64 r)) := by
 refine enter (xs := [.row (r_ApiStep_cells v0), .lit (.bool v1)]) func68 rfl ntmps68 rfl ?_
 intro M w0 a hk
 unfold check_steps.b at h
 refine rg hk fun _ q1=>gA<|ge q1 fun a w hk=>?_
 refine wseq fun _ q2 => ?_
 refine rg hk fun _ q3=>gM<|fun a w hk=>?_
 refine lf hk (f_len (R := r_ApiStep_cells) (f := ApiStep.cells) (l := v0) r_ApiStep_cells_eq underlying22 hk h0 rfl) fun a w hk=>?_
 refine go hk<|gM<|ge q3 fun a w hk=>?_
 refine wp_block ?_
 refine wloop (T := Nat × List ApiStep × Bool × List ApiStep × Int × Int) (fun x a w => match x with | (kl1, v0, v1, v12, v13, v14) => S M w0 a w 82 [] [(0, [], .row (r_ApiStep_cells v0)), (1, [], .lit (.bool v1)), (12, [], .row (r_ApiStep_cells v12)), (13, [], .lit (.int .i64 v13)), (14, [], .lit (.int .i64 v14))] ∧ check_steps.l1 zcs K kl1 v0 v1 v12 v13 v14 = some r) (fun x => x.1) (K, v0, v1, v0, (List.length v0 : Int), 0) ⟨hk.sub ⟨rfl, rfl, rfl, rfl, rfl, trivial⟩, h⟩ ?_
 clear hk h
 rintro ⟨kl1, v0, v1, v12, v13, v14⟩ a w ⟨hk, h⟩ K' q4
 cases kl1 with
 | zero => simp [check_steps.l1] at h
 | succ kl1 =>
 rw [check_steps.l1.eq_2] at h
 refine rg hk fun _ q5=>gL<|ge q5 fun a w hk=>?_
 refine wseq fun _ q6 => ?_
 refine wc hk h (fun h hb=>?_) fun h hb=>?_
 ·refine wp_skip ?_
  refine q6 _ _ ?_
  refine wseq fun _ q7 => ?_
  refine wp_block ?_
  refine rg hk fun _ q8=>gM<|fun a w hk=>?_
  obtain ⟨hc1, h⟩ := chk h
  refine lf (y := .ref (ApiStep.cells (List.getD v12 (Int.toNat v14) default))) hk (f_indexAddr (R := r_ApiStep_cells) (f := ApiStep.cells) (l := v12) (sz := 2) r_ApiStep_cells_eq (fun _ => rfl) hk h0 rfl rfl underlying22 (by kernel_rfl) hc1) fun a w hk=>?_
  refine lf hk (f_load hk h0 rfl underlying29 rfl rfl rfl rfl) fun a w hk=>?_
  refine l_alloc (zs := (ApiStep.cells (⟨[], []⟩ : ApiStep))) [] hk rfl rfl rfl rfl ?_; clear hk; intro bx1 a w hk
  refine go hk<|gA<|fun a w hk=>?_
  refine st0 (cs' := (ApiStep.cells (List.getD v12 (Int.toNat v14) default))) hk rfl (by kernel_rfl) fun w hk => ?_
  refine lend (q8 _ _ ?_)
  refine rg hk fun _ q9=>gF 0 underlying29<|gB 0 underlying9<|fun a w hk=>?_
  obtain ⟨t1, hr_t1, h⟩ := bnd h
  refine lf (y := nrow (r_c_str t1)) hk (f_call hk h0 rfl rfl func94 rfl (by kernel_rfl) (check_forms.ok ((List.getD v12 (Int.toNat v14) default).Name) _ hr_t1)) fun a w hk=>?_
  refine go hk<|gA<|ge q9 fun a w hk=>?_
  refine wseq fun _ q10 => ?_
  refine rg hk fun _ q11=>gM<|fun a w hk=>?_
  refine lf (y := .lit (.bool (List.isEmpty t1))) hk (f_nrowEq hk h0 rfl rfl underlying56 (empty_map rfl)) fun a w hk=>?_
  replace hk := hk.as (i := 7) (y := .row (r_c_str t1)) rfl (fun v hv => nrow_row hv)
  replace hk := hk.as (i := 21) (y := .row (r_c_str t1)) rfl (fun v hv => nrow_row hv)
  replace hk := hk.as (i := 22) (y := .row (r_c_str t1)) rfl (fun v hv => nrow_row hv)
  refine lend (q11 _ _ ?_)
  refine wc hk h (fun h hb=>?_) fun h hb=>?_
  ·refine rg hk fun _ q12=>gA<|ge q12 fun a w hk=>?_
   refine wp_ret ?_
   obtain rfl := Option.some.inj h
   exact fret1 hk rfl rfl
  refine wp_skip ?_
  refine q10 _ _ ?_
  refine wseq fun _ q13 => ?_
  refine rg hk fun _ q14=>gM<|fun a w hk=>?_
  refine lf (y := .lit (.func (.func 96) #[] #[.pointer (some ⟨bx1, 0, none⟩)])) hk (f_makeFunc hk h0 rfl) fun a w hk=>?_
  obtain ⟨t2, hr_t2, h⟩ := bnd h
  refine l_callH (I1 := (OVarApiStep.items bx1 (List.getD v12 (Int.toNat v14) default))) (I2 := []) (js := [0]) hk rfl rfl rfl rfl rfl func95 rfl (by kernel_rfl) (cF_steps.ok K t1 (List.getD v12 (Int.toNat v14) default) _ hr_t2 bx1) ?_; clear hk
  rintro _ _ ⟨rfl, rfl⟩ a w hk
  refine go hk<|gP (p_not · h0 rfl)<|ge q14 fun a w hk=>wc hk h (fun h hb=>?_) fun h hb=>?_
  ·refine rg hk fun _ q15=>gA<|ge q15 fun a w hk=>?_
   refine wp_ret ?_
   obtain rfl := Option.some.inj h
   exact fret1 hk rfl rfl
  refine wp_skip ?_
  refine q13 _ _ ?_
  refine wseq fun _ q16 => ?_
  refine rg hk fun _ q17=>gF 0 underlying29<|gB 0 underlying9<|gS<|gM<|fun a w hk=>?_
  refine lg (y := .lit (.pointer (some ⟨bx1, 0, none⟩))) hk rfl rfl rfl (fun hc => f_fieldPtr hk hc rfl underlying29 rfl (by kernel_rfl) rfl) fun a w hk=>?_
  refine lg hk rfl rfl rfl (fun hc => f_loadBlk1 hk hc (j := 0) rfl rfl underlying9 rfl rfl) fun a w hk=>?_
  refine lg hk rfl rfl rfl (fun hc => (f_pure (p_seql hk.kn hc rfl rfl))) fun a w hk=>?_
  refine go hk<|gR<|gM<|fun a w hk=>?_
  refine lg (y := .lit (.pointer (some ⟨bx1, 0, none⟩))) hk rfl rfl rfl (fun hc => f_fieldPtr hk hc rfl underlying29 rfl (by kernel_rfl) rfl) fun a w hk=>?_
  refine lg hk rfl rfl rfl (fun hc => f_loadBlk1 hk hc (j := 0) rfl rfl underlying9 rfl rfl) fun a w hk=>?_
  refine lg hk rfl rfl rfl (fun hc => (f_pure (p_seql hk.kn hc rfl rfl))) fun a w hk=>?_
  refine go hk<|gR<|gM<|fun a w hk=>?_
  refine lg (y := .lit (.pointer (some ⟨bx1, 0, none⟩))) hk rfl rfl rfl (fun hc => f_fieldPtr hk hc rfl underlying29 rfl (by kernel_rfl) rfl) fun a w hk=>?_
  refine lg hk rfl rfl rfl (fun hc => f_loadBlk1 hk hc (j := 0) rfl rfl underlying9 rfl rfl) fun a w hk=>?_
  refine lg hk rfl rfl rfl (fun hc => (f_pure (p_seql hk.kn hc rfl rfl))) fun a w hk=>?_
  refine go hk<|gR<|gM<|fun a w hk=>?_
  refine lg (y := .lit (.pointer (some ⟨bx1, 0, none⟩))) hk rfl rfl rfl (fun hc => f_fieldPtr hk hc rfl underlying29 rfl (by kernel_rfl) rfl) fun a w hk=>?_
  refine lg hk rfl rfl rfl (fun hc => f_loadBlk1 hk hc (j := 0) rfl rfl underlying9 rfl rfl) fun a w hk=>?_
  refine lg hk rfl rfl rfl (fun hc => (f_pure (p_seql hk.kn hc rfl rfl))) fun a w hk=>?_
  refine go hk<|gR<|gM<|fun a w hk=>?_
  refine lg (y := .lit (.pointer (some ⟨bx1, 1, none⟩))) hk rfl rfl rfl (fun hc => f_fieldPtr hk hc rfl underlying29 rfl (by kernel_rfl) rfl) fun a w hk=>?_
  refine lg hk rfl rfl rfl (fun hc => f_loadBlk1 hk hc (j := 0) rfl rfl underlying27 rfl rfl) fun a w hk=>?_
  refine lg hk rfl rfl rfl (fun hc => f_len (R := r_ApiArg_cells) (f := ApiArg.cells) (l := (List.getD v12 (Int.toNat v14) default).Args) r_ApiArg_cells_eq underlying27 hk hc rfl) fun a w hk=>?_
  refine lg hk rfl rfl rfl (fun hc => (f_pure (p_eql hk.kn hc rfl rfl))) fun a w hk=>?_
  refine go hk<|gN<|ge q17 fun a w hk=>wc hk h (fun h hb=>?_) fun h hb=>?_
  ·refine rg hk fun _ q18=>gA<|ge q18 fun a w hk=>?_
   refine wp_ret ?_
   obtain rfl := Option.some.inj h
   exact fret1 hk rfl rfl
  refine wp_skip ?_
  refine q16 _ _ ?_
  refine wseq fun _ q19 => ?_
  refine rg hk fun _ q20=>gM<|gM<|gM<|fun a w hk=>?_
  obtain ⟨t3, hr_t3, h⟩ := bnd h
  refine lf (y := .lit (.int .i64 t3)) hk (f_call hk h0 rfl rfl func98 rfl (by kernel_rfl) (check_place.ok K v0 v14 v1 _ hr_t3)) fun a w hk=>?_
  refine go hk<|gA<|ge q20 fun a w hk=>?_
  refine rg hk fun _ q21=>gM<|gP (p_neq · h0 rfl rfl)<|ge q21 fun a w hk=>wc hk h (fun h hb=>?_) fun h hb=>?_
  ·refine rg hk fun _ q22=>gM<|gA<|ge q22 fun a w hk=>?_
   refine wp_ret ?_
   obtain rfl := Option.some.inj h
   exact fret1 hk rfl rfl
  refine wp_skip ?_
  refine q19 _ _ ?_
  refine rg hk fun _ q23=>gF 1 underlying29<|gB 0 underlying27<|fun a w hk=>?_
  refine lf hk (f_len (R := r_ApiArg_cells) (f := ApiArg.cells) (l := (List.getD v12 (Int.toNat v14) default).Args) r_ApiArg_cells_eq underlying27 hk h0 rfl) fun a w hk=>?_
  refine go hk<|gM<|ge q23 fun a w hk=>?_
  refine wp_block ?_
  refine wloop (T := Nat × List ApiStep × Bool × List ApiStep × Int × Int × List ApiArg × Int × Int) (fun x a w => match x with | (kl2, v0, v1, v12, v13, v14, v65, v66, v67) => S M w0 a w 82 [] [(0, [], .row (r_ApiStep_cells v0)), (1, [], .lit (.bool v1)), (12, [], .row (r_ApiStep_cells v12)), (13, [], .lit (.int .i64 v13)), (14, [], .lit (.int .i64 v14)), (65, [], .row (r_ApiArg_cells v65)), (66, [], .lit (.int .i64 v66)), (67, [], .lit (.int .i64 v67))] ∧ check_steps.l2 zcs (check_steps.l1 zcs K kl1) K kl2 v0 v1 v12 v13 v14 v65 v66 v67 = some r) (fun x => x.1) (K, v0, v1, v12, v13, v14, (List.getD v12 (Int.toNat v14) default).Args, (List.length ((List.getD v12 (Int.toNat v14) default).Args) : Int), 0) ⟨(hk.drop 0).sub ⟨rfl, rfl, rfl, rfl, rfl, rfl, rfl, rfl, trivial⟩, h⟩ ?_
  clear hk h
  rintro ⟨kl2, v0, v1, v12, v13, v14, v65, v66, v67⟩ a w ⟨hk, h⟩ K' q24
  cases kl2 with
  | zero => simp [check_steps.l2] at h
  | succ kl2 =>
  rw [check_steps.l2.eq_2] at h
  refine rg hk fun _ q25=>gL<|ge q25 fun a w hk=>?_
  refine wseq fun _ q26 => ?_
  refine wc hk h (fun h hb=>?_) fun h hb=>?_
  ·refine wp_skip ?_
   refine q26 _ _ ?_
   refine wseqJ (fun a w => ∃ (v0 : List ApiStep) (v1 : Bool) (v12 : List ApiStep) (v13 : Int) (v14 : Int) (v65 : List ApiArg) (v66 : Int) (v67 : Int), S M w0 a w 82 [] [(0, [], .row (r_ApiStep_cells v0)), (1, [], .lit (.bool v1)), (12, [], .row (r_ApiStep_cells v12)), (13, [], .lit (.int .i64 v13)), (14, [], .lit (.int .i64 v14)), (65, [], .row (r_ApiArg_cells v65)), (66, [], .lit (.int .i64 v66)), (67, [], .lit (.int .i64 v67))] ∧ check_steps.j1 zcs (check_steps.l1 zcs K kl1) (check_steps.l2 zcs (check_steps.l1 zcs K kl1) K kl2) K v0 v1 v12 v13 v14 v65 v66 v67 = some r) ?_ ?_
   ·clear hk h
    rintro a w ⟨v0, v1, v12, v13, v14, v65, v66, v67, hk, h⟩
    unfold check_steps.j1 at h
    refine rg1 hk<|gD<|gM<|fun a w hk=>?_
    refine wpList_nil ?_
    exact q24 (kl2, v0, v1, v12, v13, v14, v65, v66, (IntKind.wrap .i64 (v67 + 1))) _ _ (Nat.lt_succ_self _) ⟨hk.sub ⟨rfl, rfl, rfl, rfl, rfl, rfl, rfl, rfl, trivial⟩, h⟩
   ·intro K' q27
    refine wp_block ?_
    refine wreg fun _ q29 => ?_
    obtain ⟨hc2, h⟩ := chk h
    refine lf (y := .ref (ApiArg.cells (List.getD v65 (Int.toNat v67) default))) hk (f_indexAddr (R := r_ApiArg_cells) (f := ApiArg.cells) (l := v65) (sz := 11) r_ApiArg_cells_eq (fun _ => rfl) hk h0 rfl rfl underlying27 (by kernel_rfl) hc2) fun a w hk=>?_
    refine lf hk (f_load hk h0 rfl underlying38 rfl rfl rfl rfl) fun a w hk=>?_
    refine l_alloc (zs := (ApiArg.cells (⟨0, (⟨0, false, 0, 0, [], []⟩ : ApiValue), (⟨[], [], []⟩ : ApiPred), []⟩ : ApiArg))) [] hk rfl rfl rfl rfl ?_; clear hk; intro bx2 a w hk
    refine st0 (cs' := (ApiArg.cells (List.getD v65 (Int.toNat v67) default))) hk rfl (by kernel_rfl) fun w hk => ?_
    refine lend (q29 _ _ ?_)
    refine wseq fun _ q30 => ?_
    refine rg hk fun _ q31=>gF 0 underlying38<|gB 0 underlying3<|gP (p_neq · h0 rfl rfl)<|ge q31 fun a w hk=>wc hk h (fun h hb=>?_) fun h hb=>?_
    ·refine wp_exit ?_; (repeat first | refine te ?_ | refine be rfl ?_); refine bx ?_
     exact q27 _ _ ⟨v0, v1, v12, v13, v14, v65, v66, v67, (hk.drop 0).sub ⟨rfl, rfl, rfl, rfl, rfl, rfl, rfl, rfl, trivial⟩, h⟩
    refine wp_skip ?_
    refine q30 _ _ ?_
    refine rg hk fun _ q32=>gF 10 underlying38<|gB 0 underlying22<|fun a w hk=>?_
    obtain ⟨t4, hr_t4, h⟩ := bnd h
    refine lf (y := .lit (.int .i64 t4)) hk (f_call hk h0 rfl rfl func68 rfl (by kernel_rfl) (hzcs ((List.getD v65 (Int.toNat v67) default).T) false _ hr_t4)) fun a w hk=>?_
    refine go hk<|gA<|ge q32 fun a w hk=>?_
    refine rg hk fun _ q33=>gM<|gP (p_neq · h0 rfl rfl)<|ge q33 fun a w hk=>wc hk h (fun h hb=>?_) fun h hb=>?_
    ·refine rg hk fun _ q34=>gM<|gA<|ge q34 fun a w hk=>?_
     refine wp_ret ?_
     obtain rfl := Option.some.inj h
     exact fret1 hk rfl rfl
    refine wp_skip ?_
    exact q27 _ _ ⟨v0, v1, v12, v13, v14, v65, v66, v67, (hk.drop 0).sub ⟨rfl, rfl, rfl, rfl, rfl, rfl, rfl, rfl, trivial⟩, h⟩
  refine wp_exit ?_; (repeat first | refine te ?_ | refine be rfl ?_); refine bx ?_
  refine q7 _ _ ?_
  refine rg1 hk<|gD<|gM<|fun a w hk=>?_
  refine wpList_nil ?_
  exact q4 (kl1, v0, v1, v12, v13, (IntKind.wrap .i64 (v14 + 1))) _ _ (Nat.lt_succ_self _) ⟨hk.sub ⟨rfl, rfl, rfl, rfl, rfl, trivial⟩, h⟩
 refine wp_exit ?_; (repeat first | refine te ?_ | refine be rfl ?_); refine bx ?_
 refine q2 _ _ ?_
 refine rg hk fun _ q36=>gA<|ge q36 fun a w hk=>?_
 refine wp_ret ?_
 obtain rfl := Option.some.inj h
 exact fret1 hk rfl rfl
theorem check_steps_knot : ∀ K : Nat, (∀ (v0 : List ApiStep) (v1 : Bool) (r : Int), check_steps.f K v0 v1 = some r → Ok prog 68 [.row (r_ApiStep_cells v0), .lit (.bool v1)] (.lit (.int .i64 r)))
 | 0 => fun v0 v1 r h => by simp [check_steps.f] at h
 | K + 1 => fun v0 v1 r h => by rw [check_steps.f] at h; exact check_steps.bok _ (check_steps_knot K) K v0 v1 r h
theorem check_steps.ok (K : Nat) (v0 : List ApiStep) (v1 : Bool) (r : Int) (h : check_steps.f K v0 v1 = some r) : Ok prog 68 [.row (r_ApiStep_cells v0), .lit (.bool v1)] (.lit (.int .i64 r)) := (check_steps_knot K) v0 v1 r h
theorem check_Check.ok (K : Nat) (v0 : List ApiStep) (r : Int) (h : check_Check.f K v0 = some r) :
  Ok prog 47 [.row (r_ApiStep_cells v0)] (.lit (.int .i64 r)) := by
 refine enter (xs := [.row (r_ApiStep_cells v0)]) func47 rfl ntmps47 rfl ?_
 intro M w0 a hk
 unfold check_Check.f at h
 refine rg hk fun _ q1=>gA<|ge q1 fun a w hk=>?_
 refine wseq fun _ q2 => ?_
 refine rg hk fun _ q3=>gM<|fun a w hk=>?_
 refine lf hk (f_len (R := r_ApiStep_cells) (f := ApiStep.cells) (l := v0) r_ApiStep_cells_eq underlying22 hk h0 rfl) fun a w hk=>?_
 refine go hk<|gE<|ge q3 fun a w hk=>wc hk h (fun h hb=>?_) fun h hb=>?_
 ·refine rg hk fun _ q4=>gA<|ge q4 fun a w hk=>?_
  refine wp_ret ?_
  obtain rfl := Option.some.inj h
  exact fret1 hk rfl rfl
 refine wp_skip ?_
 refine q2 _ _ ?_
 refine rg hk fun _ q5=>gM<|fun a w hk=>?_
 obtain ⟨t1, hr_t1, h⟩ := bnd h
 refine lf (y := .lit (.int .i64 t1)) hk (f_call hk h0 rfl rfl func68 rfl (by kernel_rfl) (check_steps.ok K v0 true _ hr_t1)) fun a w hk=>?_
 refine go hk<|gA<|ge q5 fun a w hk=>?_
 refine wp_ret ?_
 obtain rfl := Option.some.inj h
 exact fret1 hk rfl rfl
theorem code_modifies.ok  (v0 : List UInt8) (r : Bool) (h : code_modifies.f v0 = some r) :
  Ok prog 69 [.lit (.string (B v0))] (.lit (.bool r)) := by
 refine enter (xs := [.lit (.string (B v0))]) func69 rfl ntmps69 rfl ?_
 intro M w0 a hk
 unfold code_modifies.f at h
 refine rg hk fun _ q1=>gA<|ge q1 fun a w hk=>?_
 refine wseq fun _ q2 => ?_
 refine rg hk fun _ q3=>gM<|ge q3 fun a w hk=>?_
 refine wp_block ?_
 refine wseqJ (fun a w => ∃ (v4 : Bool), S M w0 a w 11 [] [(4, [], .lit (.bool v4))] ∧ code_modifies.j1 v4 = some r) ?_ ?_
 ·clear hk h
  rintro a w ⟨v4, hk, h⟩
  unfold code_modifies.j1 at h
  refine wc hk h (fun h hb=>?_) fun h hb=>?_
  ·refine rg hk fun _ q5=>gA<|ge q5 fun a w hk=>?_
   refine wp_ret ?_
   obtain rfl := Option.some.inj h
   exact fret1 hk rfl rfl
  refine wp_skip ?_
  refine q2 _ _ ?_
  refine rg hk fun _ q6=>gA<|ge q6 fun a w hk=>?_
  refine wp_ret ?_
  obtain rfl := Option.some.inj h
  exact fret1 hk rfl rfl
 ·intro K' q4
  refine rg hk fun _ q7=>gS<|gA<|ge q7 fun a w hk=>wc hk h (fun h hb=>?_) fun h hb=>?_
  ·refine wp_skip ?_
   exact q4 _ _ ⟨(decide (v0 = ([98, 121] : List UInt8))), hk.sub ⟨rfl, trivial⟩, h⟩
  refine rg hk fun _ q8=>gS<|gA<|ge q8 fun a w hk=>wc hk h (fun h hb=>?_) fun h hb=>?_
  ·refine wp_skip ?_
   exact q4 _ _ ⟨(decide (v0 = ([116, 105, 109, 101, 115] : List UInt8))), hk.sub ⟨rfl, trivial⟩, h⟩
  refine rg hk fun _ q9=>gS<|gA<|ge q9 fun a w hk=>wc hk h (fun h hb=>?_) fun h hb=>?_
  ·refine wp_skip ?_
   exact q4 _ _ ⟨(decide (v0 = ([117, 110, 116, 105, 108] : List UInt8))), hk.sub ⟨rfl, trivial⟩, h⟩
  refine rg hk fun _ q10=>gS<|gA<|ge q10 fun a w hk=>wc hk h (fun h hb=>?_) fun h hb=>?_
  ·refine wp_skip ?_
   exact q4 _ _ ⟨(decide (v0 = ([101, 109, 105, 116] : List UInt8))), hk.sub ⟨rfl, trivial⟩, h⟩
  refine rg hk fun _ q11=>gS<|gA<|ge q11 fun a w hk=>wc hk h (fun h hb=>?_) fun h hb=>?_
  ·refine wp_skip ?_
   exact q4 _ _ ⟨(decide (v0 = ([116, 111] : List UInt8))), hk.sub ⟨rfl, trivial⟩, h⟩
  refine rg1 hk<|gS<|gA<|fun a w hk=>?_
  refine wpList_nil ?_
  exact q4 _ _ ⟨(decide (v0 = ([102, 114, 111, 109] : List UInt8))), hk.sub ⟨rfl, trivial⟩, h⟩
end Go.Proofs.Ytbjbgodcenopnaa
namespace Go.Proofs.Ytbjbgodcenopnaa
open FW _root_.Go.Proofs.Try
set_option linter.unusedVariables false
set_option maxRecDepth 20000
set_option maxHeartbeats 10000000
theorem code_simple.ok  (v0 : List UInt8) (r : Int) (h : code_simple.f v0 = some r) :
  Ok prog 99 [.lit (.string (B v0))] (.lit (.int .i64 r)) := by
 refine enter (xs := [.lit (.string (B v0))]) func99 rfl ntmps99 rfl ?_
 intro M w0 a hk
 unfold code_simple.f at h
 refine rg hk fun _ q1=>gA<|ge q1 fun a w hk=>?_
 refine wseq fun _ q2 => ?_
 refine rg hk fun _ q3=>gM<|ge q3 fun a w hk=>?_
 refine wp_block ?_
 refine rg hk fun _ q4=>gS<|gA<|ge q4 fun a w hk=>wc hk h (fun h hb=>?_) fun h hb=>?_
 ·refine rg hk fun _ q5=>gA<|ge q5 fun a w hk=>?_
  refine wp_ret ?_
  obtain rfl := Option.some.inj h
  exact fret1 hk rfl rfl
 refine rg hk fun _ q6=>gS<|gA<|ge q6 fun a w hk=>wc hk h (fun h hb=>?_) fun h hb=>?_
 ·refine rg hk fun _ q7=>gA<|ge q7 fun a w hk=>?_
  refine wp_ret ?_
  obtain rfl := Option.some.inj h
  exact fret1 hk rfl rfl
 refine rg hk fun _ q8=>gS<|gA<|ge q8 fun a w hk=>wc hk h (fun h hb=>?_) fun h hb=>?_
 ·refine rg hk fun _ q9=>gA<|ge q9 fun a w hk=>?_
  refine wp_ret ?_
  obtain rfl := Option.some.inj h
  exact fret1 hk rfl rfl
 refine rg hk fun _ q10=>gS<|gA<|ge q10 fun a w hk=>wc hk h (fun h hb=>?_) fun h hb=>?_
 ·refine rg hk fun _ q11=>gA<|ge q11 fun a w hk=>?_
  refine wp_ret ?_
  obtain rfl := Option.some.inj h
  exact fret1 hk rfl rfl
 refine rg hk fun _ q12=>gS<|gA<|ge q12 fun a w hk=>wc hk h (fun h hb=>?_) fun h hb=>?_
 ·refine rg hk fun _ q13=>gA<|ge q13 fun a w hk=>?_
  refine wp_ret ?_
  obtain rfl := Option.some.inj h
  exact fret1 hk rfl rfl
 refine rg hk fun _ q14=>gS<|gA<|ge q14 fun a w hk=>wc hk h (fun h hb=>?_) fun h hb=>?_
 ·refine rg hk fun _ q15=>gA<|ge q15 fun a w hk=>?_
  refine wp_ret ?_
  obtain rfl := Option.some.inj h
  exact fret1 hk rfl rfl
 refine rg hk fun _ q16=>gS<|gA<|ge q16 fun a w hk=>wc hk h (fun h hb=>?_) fun h hb=>?_
 ·refine rg hk fun _ q17=>gA<|ge q17 fun a w hk=>?_
  refine wp_ret ?_
  obtain rfl := Option.some.inj h
  exact fret1 hk rfl rfl
 refine rg hk fun _ q18=>gS<|gA<|ge q18 fun a w hk=>wc hk h (fun h hb=>?_) fun h hb=>?_
 ·refine rg hk fun _ q19=>gA<|ge q19 fun a w hk=>?_
  refine wp_ret ?_
  obtain rfl := Option.some.inj h
  exact fret1 hk rfl rfl
 refine rg hk fun _ q20=>gS<|gA<|ge q20 fun a w hk=>wc hk h (fun h hb=>?_) fun h hb=>?_
 ·refine rg hk fun _ q21=>gA<|ge q21 fun a w hk=>?_
  refine wp_ret ?_
  obtain rfl := Option.some.inj h
  exact fret1 hk rfl rfl
 refine rg hk fun _ q22=>gS<|gA<|ge q22 fun a w hk=>wc hk h (fun h hb=>?_) fun h hb=>?_
 ·refine rg hk fun _ q23=>gA<|ge q23 fun a w hk=>?_
  refine wp_ret ?_
  obtain rfl := Option.some.inj h
  exact fret1 hk rfl rfl
 refine rg hk fun _ q24=>gS<|gA<|ge q24 fun a w hk=>wc hk h (fun h hb=>?_) fun h hb=>?_
 ·refine rg hk fun _ q25=>gA<|ge q25 fun a w hk=>?_
  refine wp_ret ?_
  obtain rfl := Option.some.inj h
  exact fret1 hk rfl rfl
 refine rg hk fun _ q26=>gS<|gA<|ge q26 fun a w hk=>wc hk h (fun h hb=>?_) fun h hb=>?_
 ·refine rg hk fun _ q27=>gA<|ge q27 fun a w hk=>?_
  refine wp_ret ?_
  obtain rfl := Option.some.inj h
  exact fret1 hk rfl rfl
 refine rg hk fun _ q28=>gS<|gA<|ge q28 fun a w hk=>wc hk h (fun h hb=>?_) fun h hb=>?_
 ·refine rg hk fun _ q29=>gA<|ge q29 fun a w hk=>?_
  refine wp_ret ?_
  obtain rfl := Option.some.inj h
  exact fret1 hk rfl rfl
 refine rg hk fun _ q30=>gS<|gA<|ge q30 fun a w hk=>wc hk h (fun h hb=>?_) fun h hb=>?_
 ·refine rg hk fun _ q31=>gA<|ge q31 fun a w hk=>?_
  refine wp_ret ?_
  obtain rfl := Option.some.inj h
  exact fret1 hk rfl rfl
 refine rg hk fun _ q32=>gS<|gA<|ge q32 fun a w hk=>wc hk h (fun h hb=>?_) fun h hb=>?_
 ·refine rg hk fun _ q33=>gA<|ge q33 fun a w hk=>?_
  refine wp_ret ?_
  obtain rfl := Option.some.inj h
  exact fret1 hk rfl rfl
 refine rg hk fun _ q34=>gS<|gA<|ge q34 fun a w hk=>wc hk h (fun h hb=>?_) fun h hb=>?_
 ·refine rg hk fun _ q35=>gA<|ge q35 fun a w hk=>?_
  refine wp_ret ?_
  obtain rfl := Option.some.inj h
  exact fret1 hk rfl rfl
 refine rg hk fun _ q36=>gS<|gA<|ge q36 fun a w hk=>wc hk h (fun h hb=>?_) fun h hb=>?_
 ·refine rg hk fun _ q37=>gA<|ge q37 fun a w hk=>?_
  refine wp_ret ?_
  obtain rfl := Option.some.inj h
  exact fret1 hk rfl rfl
 refine rg hk fun _ q38=>gS<|gA<|ge q38 fun a w hk=>wc hk h (fun h hb=>?_) fun h hb=>?_
 ·refine rg hk fun _ q39=>gA<|ge q39 fun a w hk=>?_
  refine wp_ret ?_
  obtain rfl := Option.some.inj h
  exact fret1 hk rfl rfl
 refine rg hk fun _ q40=>gS<|gA<|ge q40 fun a w hk=>wc hk h (fun h hb=>?_) fun h hb=>?_
 ·refine rg hk fun _ q41=>gA<|ge q41 fun a w hk=>?_
  refine wp_ret ?_
  obtain rfl := Option.some.inj h
  exact fret1 hk rfl rfl
 refine rg hk fun _ q42=>gS<|gA<|ge q42 fun a w hk=>wc hk h (fun h hb=>?_) fun h hb=>?_
 ·refine rg hk fun _ q43=>gA<|ge q43 fun a w hk=>?_
  refine wp_ret ?_
  obtain rfl := Option.some.inj h
  exact fret1 hk rfl rfl
 refine rg hk fun _ q44=>gS<|gA<|ge q44 fun a w hk=>wc hk h (fun h hb=>?_) fun h hb=>?_
 ·refine rg hk fun _ q45=>gA<|ge q45 fun a w hk=>?_
  refine wp_ret ?_
  obtain rfl := Option.some.inj h
  exact fret1 hk rfl rfl
 refine rg hk fun _ q46=>gS<|gA<|ge q46 fun a w hk=>wc hk h (fun h hb=>?_) fun h hb=>?_
 ·refine rg hk fun _ q47=>gA<|ge q47 fun a w hk=>?_
  refine wp_ret ?_
  obtain rfl := Option.some.inj h
  exact fret1 hk rfl rfl
 refine rg hk fun _ q48=>gS<|gA<|ge q48 fun a w hk=>wc hk h (fun h hb=>?_) fun h hb=>?_
 ·refine rg hk fun _ q49=>gA<|ge q49 fun a w hk=>?_
  refine wp_ret ?_
  obtain rfl := Option.some.inj h
  exact fret1 hk rfl rfl
 refine wp_skip ?_
 refine q2 _ _ ?_
 refine rg hk fun _ q50=>gA<|ge q50 fun a w hk=>?_
 refine wp_ret ?_
 obtain rfl := Option.some.inj h
 exact fret1 hk rfl rfl
theorem code_numbers.ok (K : Nat) (v0 : List ApiArg) (r : List Int) (h : code_numbers.f K v0 = some r) :
  Ok prog 100 [.row (r_ApiArg_cells v0)] (.row (r_c_i64 r)) := by
 refine enter (xs := [.row (r_ApiArg_cells v0)]) func100 rfl ntmps100 rfl ?_
 intro M w0 a hk
 unfold code_numbers.f at h
 refine wreg fun _ q1 => ?_
 refine lf (y := .row (r_c_i64 [])) hk (f_assignNil) fun a w hk=>?_
 refine lend (q1 _ _ ?_)
 refine rg hk fun _ q2=>gA<|fun a w hk=>?_
 replace hk := hk.nilRow 2 1 c_i64 (fun _ => rfl)
 refine lend (q2 _ _ ?_)
 refine wseq fun _ q3 => ?_
 refine rg hk fun _ q4=>gM<|fun a w hk=>?_
 refine lf hk (f_len (R := r_ApiArg_cells) (f := ApiArg.cells) (l := v0) r_ApiArg_cells_eq underlying27 hk h0 rfl) fun a w hk=>?_
 refine go hk<|gM<|ge q4 fun a w hk=>?_
 refine wp_block ?_
 refine wloop (T := Nat × List Int × List ApiArg × Int × Int × Option Addr × Nat) (fun x a w => match x with | (kl1, l1, v6, v7, v8, xd1, xc1) => S M w0 a w 20 [orow xd1 xc1 2 1 c_i64 l1] [(3, [], .lit (.slice xd1 (List.length l1) xc1)), (6, [], .row (r_ApiArg_cells v6)), (7, [], .lit (.int .i64 v7)), (8, [], .lit (.int .i64 v8))] ∧ code_numbers.l1 K kl1 l1 v6 v7 v8 = some r) (fun x => x.1) (K, ([] : List Int), v0, (List.length v0 : Int), 0, none, 0) ⟨hk.sub ⟨rfl, rfl, rfl, rfl, trivial⟩, h⟩ ?_
 clear hk h
 rintro ⟨kl1, l1, v6, v7, v8, xd1, xc1⟩ a w ⟨hk, h⟩ K' q5
 cases kl1 with
 | zero => simp [code_numbers.l1] at h
 | succ kl1 =>
 rw [code_numbers.l1.eq_2] at h
 refine rg hk fun _ q6=>gL<|ge q6 fun a w hk=>?_
 refine wseq fun _ q7 => ?_
 refine wc hk h (fun h hb=>?_) fun h hb=>?_
 ·refine wp_skip ?_
  refine q7 _ _ ?_
  refine wseq fun _ q8 => ?_
  refine wp_block ?_
  refine wreg fun _ q9 => ?_
  obtain ⟨hc1, h⟩ := chk h
  refine lf (y := .ref (ApiArg.cells (List.getD v6 (Int.toNat v8) default))) hk (f_indexAddr (R := r_ApiArg_cells) (f := ApiArg.cells) (l := v6) (sz := 11) r_ApiArg_cells_eq (fun _ => rfl) hk h0 rfl rfl underlying27 (by kernel_rfl) hc1) fun a w hk=>?_
  refine lf hk (f_load hk h0 rfl underlying38 rfl rfl rfl rfl) fun a w hk=>?_
  refine l_alloc (zs := (ApiArg.cells (⟨0, (⟨0, false, 0, 0, [], []⟩ : ApiValue), (⟨[], [], []⟩ : ApiPred), []⟩ : ApiArg))) [] hk rfl rfl rfl rfl ?_; clear hk; intro bx1 a w hk
  refine st0 (cs' := (ApiArg.cells (List.getD v6 (Int.toNat v8) default))) hk rfl (by kernel_rfl) fun w hk => ?_
  refine lend (q9 _ _ ?_)
  refine rg1 hk<|gM<|gF 1 underlying38<|gF 3 underlying33<|gB 0 underlying2<|fun a w hk=>?_
  refine l_buildSlice (f := c_i64) (l := ([((List.getD v6 (Int.toNat v8) default).V).N] : List Int)) hk rfl rfl rfl underlying57 rfl rfl rfl rfl (fun _ => rfl) rfl ?_; clear hk; intro bx2 a w hk
  obtain ⟨hc2, h⟩ := chk h
  refine l_append (l2 := ([((List.getD v6 (Int.toNat v8) default).V).N] : List Int)) (l3 := (l1 ++ ([((List.getD v6 (Int.toNat v8) default).V).N] : List Int))) (I' := fun ad1 cap1 => [orow (some ⟨bx2, 0, none⟩) 1 2 1 c_i64 ([((List.getD v6 (Int.toNat v8) default).V).N] : List Int), blk bx1 38 ((ApiArg.cells (List.getD v6 (Int.toNat v8) default))), orow ad1 cap1 2 1 c_i64 (l1 ++ ([((List.getD v6 (Int.toNat v8) default).V).N] : List Int))]) (j := 2) hk rfl rfl rfl rfl (own_src hk (j := 0) rfl rfl (fun _ => rfl) underlying57) underlying57 (by kernel_rfl) hc2 rfl (fun _ _ => rfl) ?_; clear hk; intro ad1 cap1 a w hk
  replace hk := S.dropI (I' := [blk bx1 38 ((ApiArg.cells (List.getD v6 (Int.toNat v8) default))), orow ad1 cap1 2 1 c_i64 (l1 ++ ([((List.getD v6 (Int.toNat v8) default).V).N] : List Int))]) hk 0 rfl
  refine go hk<|gA<|fun a w hk=>?_
  refine wpList_nil ?_
  refine q8 _ _ ?_
  refine rg1 hk<|gD<|gM<|fun a w hk=>?_
  refine wpList_nil ?_
  exact q5 (kl1, (l1 ++ ([((List.getD v6 (Int.toNat v8) default).V).N] : List Int)), v6, v7, (IntKind.wrap .i64 (v8 + 1)), ad1, cap1) _ _ (Nat.lt_succ_self _) ⟨(hk.drop 0).sub ⟨rfl, rfl, rfl, rfl, trivial⟩, h⟩
 refine wp_exit ?_; (repeat first | refine te ?_ | refine be rfl ?_); refine bx ?_
 refine q3 _ _ ?_
 refine rg hk fun _ q12=>gM<|gA<|ge q12 fun a w hk=>?_
 refine wp_ret ?_
 replace hk := S.freezeR (I' := []) r_c_i64_eq hk (j := 0) rfl (t := 2) rfl rfl
 obtain rfl := Option.some.inj h
 exact fret1 hk rfl rfl
theorem val_Copy.bok (s_val_Copy : ApiValue → Option ApiValue) (hs_val_Copy : ∀ (v0 : ApiValue) (r : ApiValue), s_val_Copy v0 = some r → Ok prog 129 [.agg (ApiValue.cells v0)] (.agg (ApiValue.cells r))) (K : Nat) (v0 : ApiValue) (r : ApiValue) (h : val_Copy.b s_val_Copy K v0 = some r) :
  Ok prog 129 [.agg (ApiValue.cells v0)] (.agg (ApiValue.cells r)) := by
 refine enter (xs := [.agg (ApiValue.cells v0)]) func129 rfl ntmps129 rfl ?_
 intro M w0 a hk
 unfold val_Copy.b at h
 refine wreg fun _ q1 => ?_
 refine l_box (cs := (ApiValue.cells v0)) hk rfl rfl rfl rfl rfl ?_; clear hk; intro bx1 a w hk
 refine l_alloc (zs := (ApiValue.cells (⟨0, false, 0, 0, [], []⟩ : ApiValue))) [] hk rfl rfl rfl rfl ?_; clear hk; intro bx2 a w hk
 refine lend (q1 _ _ ?_)
 refine wseqJ (fun a w => ∃ (y1 : ApiValue), S M w0 a w 30 [blk bx2 33 ((ApiValue.cells (⟨0, false, 0, 0, [], []⟩ : ApiValue))), blk bx1 33 ((ApiValue.cells y1))] [(1, [], .lit (.pointer (some ⟨bx1, 0, none⟩))), (2, [], .lit (.pointer (some ⟨bx2, 0, none⟩)))] ∧ val_Copy.j1 s_val_Copy K y1 = some r) ?_ ?_
 ·clear hk h
  rintro a w ⟨y1, hk, h⟩
  unfold val_Copy.j1 at h
  refine wreg fun _ q3 => ?_
  refine lf hk (f_loadBlk hk h0 (j := 1) rfl rfl underlying33 rfl rfl rfl rfl) fun a w hk=>?_
  refine st0 (cs' := (ApiValue.cells y1)) hk rfl (by kernel_rfl) fun w hk => ?_
  refine lend (q3 _ _ ?_)
  refine wp_ret ?_
  obtain rfl := Option.some.inj h
  exact fretR1 hk rfl (rcell hk rfl (j := 0) rfl underlying33 rfl (by kernel_rfl))
 ·intro K' q2
  refine rg hk fun _ q4=>gF 5 underlying33<|gB 1 underlying31<|fun a w hk=>?_
  refine l_nilAny hk rfl rfl rfl rfl underlying31 ?_; clear hk; intro bn1 a w hbn1 hk
  refine lend (q4 _ _ ?_)
  cases bn1 with
  | false =>
   replace h := val_Copy.nil s_val_Copy K v0 r (hbn1 rfl) h
   refine wcondX hk rfl ?_
   refine wp_skip ?_
   exact q2 _ _ ⟨v0, hk.sub ⟨rfl, rfl, trivial⟩, h⟩
  | true =>
   refine wcondT hk rfl ?_
   refine rg hk fun _ q5=>gF 5 underlying33<|gB 1 underlying31<|fun a w hk=>?_
   refine lf hk (f_len (R := r_ApiValue_cells) (f := ApiValue.cells) (l := v0.L) r_ApiValue_cells_eq underlying31 hk h0 rfl) fun a w hk=>?_
   obtain ⟨hc1, h⟩ := chk h
   refine l_makeSliceN (zv := (.agg #[.int .i64 0, .bool false, .int .i64 0, .float .f64 0, .string ⟨#[]⟩, .slice none 0 0])) (f := ApiValue.cells) (z := (default : ApiValue)) (sz := 6) (by decide) (fun _ => rfl) hk rfl rfl rfl rfl underlying31 (by kernel_rfl) (fun _ _ => (repL_cons (rep_lit rfl) (repL_cons (rep_lit rfl) (repL_cons (rep_lit rfl) (repL_cons (rep_lit rfl) (repL_cons (rep_lit rfl) (repL_cons rep_nil repL_nil))))))) (by kernel_rfl) hc1 ?_; clear hk; intro bx3 a w hk
   refine go hk<|gA<|ge q5 fun a w hk=>?_
   refine wseq fun _ q6 => ?_
   refine rg hk fun _ q7=>gF 5 underlying33<|gB 2 underlying31<|fun a w hk=>?_
   refine lf hk (f_len (R := r_ApiValue_cells) (f := ApiValue.cells) (l := v0.L) r_ApiValue_cells_eq underlying31 hk h0 rfl) fun a w hk=>?_
   refine go hk<|gM<|ge q7 fun a w hk=>?_
   refine wp_block ?_
   refine wloop (T := Nat × List ApiValue × ApiValue × List ApiValue × Int × Int × Option Addr × Nat) (fun x a w => match x with | (kl1, l3, y1, v14, v15, v16, xd3, xc3) => S M w0 a w 30 [orow xd3 xc3 33 6 ApiValue.cells l3, blk bx2 33 ((ApiValue.cells (⟨0, false, 0, 0, [], []⟩ : ApiValue))), blk bx1 33 ((ApiValue.cells y1))] [(1, [], .lit (.pointer (some ⟨bx1, 0, none⟩))), (2, [], .lit (.pointer (some ⟨bx2, 0, none⟩))), (3, [], .lit (.slice xd3 (List.length l3) xc3)), (14, [], .row (r_ApiValue_cells v14)), (15, [], .lit (.int .i64 v15)), (16, [], .lit (.int .i64 v16))] ∧ val_Copy.l1 s_val_Copy K kl1 l3 y1 v14 v15 v16 = some r) (fun x => x.1) (K, (List.replicate (Int.toNat (List.length v0.L : Int)) (default : ApiValue)), v0, v0.L, (List.length v0.L : Int), 0, (some ⟨bx3, 0, none⟩), (Int.toNat (List.length v0.L : Int))) ⟨hk.sub ⟨rfl, rfl, rfl, rfl, rfl, rfl, trivial⟩, h⟩ ?_
   clear hk h
   rintro ⟨kl1, l3, y1, v14, v15, v16, xd3, xc3⟩ a w ⟨hk, h⟩ K' q8
   cases kl1 with
   | zero => simp [val_Copy.l1] at h
   | succ kl1 =>
   rw [val_Copy.l1.eq_2] at h
   refine rg hk fun _ q9=>gL<|ge q9 fun a w hk=>?_
   refine wseq fun _ q10 => ?_
   refine wc hk h (fun h hb=>?_) fun h hb=>?_
   ·refine wp_skip ?_
    refine q10 _ _ ?_
    refine wseq fun _ q11 => ?_
    refine wp_block ?_
    refine rg hk fun _ q12=>gM<|fun a w hk=>?_
    obtain ⟨hc2, h⟩ := chk h
    refine lf (y := .ref (ApiValue.cells (List.getD v14 (Int.toNat v16) default))) hk (f_indexAddr (R := r_ApiValue_cells) (f := ApiValue.cells) (l := v14) (sz := 6) r_ApiValue_cells_eq (fun _ => rfl) hk h0 rfl rfl underlying31 (by kernel_rfl) hc2) fun a w hk=>?_
    refine lf hk (f_load hk h0 rfl underlying33 rfl rfl rfl rfl) fun a w hk=>?_
    refine l_alloc (zs := (ApiValue.cells (⟨0, false, 0, 0, [], []⟩ : ApiValue))) [] hk rfl rfl rfl rfl ?_; clear hk; intro bx4 a w hk
    refine go hk<|gA<|fun a w hk=>?_
    refine st0 (cs' := (ApiValue.cells (List.getD v14 (Int.toNat v16) default))) hk rfl (by kernel_rfl) fun w hk => ?_
    refine lend (q12 _ _ ?_)
    refine rg1 hk<|gM<|gM<|fun a w hk=>?_
    refine lf hk (f_loadBlk hk h0 (j := 0) rfl rfl underlying33 rfl rfl rfl rfl) fun a w hk=>?_
    obtain ⟨t1, hr_t1, h⟩ := bnd h
    refine lf (y := .agg ((ApiValue.cells t1))) hk (f_call hk h0 rfl rfl func129 rfl (by kernel_rfl) (hs_val_Copy (List.getD v14 (Int.toNat v16) default) _ hr_t1)) fun a w hk=>?_
    obtain ⟨hc3, h⟩ := chk h
    refine lf (y := elA xd3 6 v16) hk (f_idxOwn (f := ApiValue.cells) (l := l3) hk h0 (j := 1) rfl rfl (by first | rfl | simp only [List.length_set]) rfl underlying31 (by kernel_rfl) hc3) fun a w hk=>?_
    refine l_storeOwn (f := ApiValue.cells) (l := l3) (v := t1) (I' := [blk bx4 33 ((ApiValue.cells (List.getD v14 (Int.toNat v16) default))), orow xd3 xc3 33 6 ApiValue.cells (List.set l3 (Int.toNat v16) t1), blk bx2 33 ((ApiValue.cells (⟨0, false, 0, 0, [], []⟩ : ApiValue))), blk bx1 33 ((ApiValue.cells y1))]) (j := 1) hk rfl rfl hc3 rfl rfl rfl (by kernel_rfl) rfl fun w hk => ?_
    refine wpList_nil ?_
    refine q11 _ _ ?_
    refine rg1 hk<|gD<|gM<|fun a w hk=>?_
    refine wpList_nil ?_
    replace hk := hk.as (i := 3) (y := .lit (.slice xd3 (List.length (List.set l3 (Int.toNat v16) t1)) xc3)) rfl (fun v hv => by simpa only [List.length_set] using hv)
    exact q8 (kl1, (List.set l3 (Int.toNat v16) t1), y1, v14, v15, (IntKind.wrap .i64 (v16 + 1)), xd3, xc3) _ _ (Nat.lt_succ_self _) ⟨(hk.drop 0).sub ⟨rfl, rfl, rfl, rfl, rfl, rfl, trivial⟩, h⟩
   refine wp_exit ?_; (repeat first | refine te ?_ | refine be rfl ?_); refine bx ?_
   refine q6 _ _ ?_
   refine rg1 hk<|gM<|gF 5 underlying33<|fun a w hk=>?_
   replace hk := S.freezeR (I' := [blk bx2 33 ((ApiValue.cells (⟨0, false, 0, 0, [], []⟩ : ApiValue))), blk bx1 33 ((ApiValue.cells y1))]) r_ApiValue_cells_eq hk (j := 0) rfl (t := 27) rfl rfl
   refine st1 (cs' := (ApiValue.cells (⟨y1.Kind, y1.B, y1.N, y1.F, y1.S, l3⟩ : ApiValue))) hk rfl (by kernel_rfl) fun w hk => ?_
   refine wpList_nil ?_
   exact q2 _ _ ⟨(⟨y1.Kind, y1.B, y1.N, y1.F, y1.S, l3⟩ : ApiValue), hk.sub ⟨rfl, rfl, trivial⟩, h⟩
theorem val_Copy_knot : ∀ K : Nat, (∀ (v0 : ApiValue) (r : ApiValue), val_Copy.f K v0 = some r → Ok prog 129 [.agg (ApiValue.cells v0)] (.agg (ApiValue.cells r)))
 | 0 => fun v0 r h => by simp [val_Copy.f] at h
 | K + 1 => fun v0 r h => by rw [val_Copy.f] at h; exact val_Copy.bok _ (val_Copy_knot K) K v0 r h
theorem val_Copy.ok (K : Nat) (v0 : ApiValue) (r : ApiValue) (h : val_Copy.f K v0 = some r) : Ok prog 129 [.agg (ApiValue.cells v0)] (.agg (ApiValue.cells r)) := (val_Copy_knot K) v0 r h
theorem code_values.ok (K : Nat) (v0 : List ApiArg) (r : List ApiValue) (h : code_values.f K v0 = some r) :
  Ok prog 101 [.row (r_ApiArg_cells v0)] (.row (r_ApiValue_cells r)) := by
 refine enter (xs := [.row (r_ApiArg_cells v0)]) func101 rfl ntmps101 rfl ?_
 intro M w0 a hk
 unfold code_values.f at h
 refine wreg fun _ q1 => ?_
 refine lf (y := .row (r_ApiValue_cells [])) hk (f_assignNil) fun a w hk=>?_
 refine lend (q1 _ _ ?_)
 refine rg hk fun _ q2=>gA<|fun a w hk=>?_
 replace hk := hk.nilRow 33 6 ApiValue.cells (fun _ => rfl)
 refine lend (q2 _ _ ?_)
 refine wseq fun _ q3 => ?_
 refine rg hk fun _ q4=>gM<|fun a w hk=>?_
 refine lf hk (f_len (R := r_ApiArg_cells) (f := ApiArg.cells) (l := v0) r_ApiArg_cells_eq underlying27 hk h0 rfl) fun a w hk=>?_
 refine go hk<|gM<|ge q4 fun a w hk=>?_
 refine wp_block ?_
 refine wloop (T := Nat × List ApiValue × List ApiArg × Int × Int × Option Addr × Nat) (fun x a w => match x with | (kl1, l1, v6, v7, v8, xd1, xc1) => S M w0 a w 20 [orow xd1 xc1 33 6 ApiValue.cells l1] [(3, [], .lit (.slice xd1 (List.length l1) xc1)), (6, [], .row (r_ApiArg_cells v6)), (7, [], .lit (.int .i64 v7)), (8, [], .lit (.int .i64 v8))] ∧ code_values.l1 K kl1 l1 v6 v7 v8 = some r) (fun x => x.1) (K, ([] : List ApiValue), v0, (List.length v0 : Int), 0, none, 0) ⟨hk.sub ⟨rfl, rfl, rfl, rfl, trivial⟩, h⟩ ?_
 clear hk h
 rintro ⟨kl1, l1, v6, v7, v8, xd1, xc1⟩ a w ⟨hk, h⟩ K' q5
 cases kl1 with
 | zero => simp [code_values.l1] at h
 | succ kl1 =>
 rw [code_values.l1.eq_2] at h
 refine rg hk fun _ q6=>gL<|ge q6 fun a w hk=>?_
 refine wseq fun _ q7 => ?_
 refine wc hk h (fun h hb=>?_) fun h hb=>?_
 ·refine wp_skip ?_
  refine q7 _ _ ?_
  refine wseq fun _ q8 => ?_
  refine wp_block ?_
  refine wreg fun _ q9 => ?_
  obtain ⟨hc1, h⟩ := chk h
  refine lf (y := .ref (ApiArg.cells (List.getD v6 (Int.toNat v8) default))) hk (f_indexAddr (R := r_ApiArg_cells) (f := ApiArg.cells) (l := v6) (sz := 11) r_ApiArg_cells_eq (fun _ => rfl) hk h0 rfl rfl underlying27 (by kernel_rfl) hc1) fun a w hk=>?_
  refine lf hk (f_load hk h0 rfl underlying38 rfl rfl rfl rfl) fun a w hk=>?_
  refine l_alloc (zs := (ApiArg.cells (⟨0, (⟨0, false, 0, 0, [], []⟩ : ApiValue), (⟨[], [], []⟩ : ApiPred), []⟩ : ApiArg))) [] hk rfl rfl rfl rfl ?_; clear hk; intro bx1 a w hk
  refine st0 (cs' := (ApiArg.cells (List.getD v6 (Int.toNat v8) default))) hk rfl (by kernel_rfl) fun w hk => ?_
  refine lend (q9 _ _ ?_)
  refine rg1 hk<|gM<|gF 1 underlying38<|fun a w hk=>?_
  refine lf hk (f_loadBlk hk h0 (j := 0) rfl rfl underlying33 rfl rfl rfl rfl) fun a w hk=>?_
  obtain ⟨t1, hr_t1, h⟩ := bnd h
  refine lf (y := .agg ((ApiValue.cells t1))) hk (f_call hk h0 rfl rfl func129 rfl (by kernel_rfl) (val_Copy.ok K ((List.getD v6 (Int.toNat v8) default).V) _ hr_t1)) fun a w hk=>?_
  refine l_buildSlice (f := ApiValue.cells) (l := ([t1] : List ApiValue)) hk rfl rfl rfl underlying31 rfl rfl rfl rfl (fun _ => rfl) rfl ?_; clear hk; intro bx2 a w hk
  obtain ⟨hc2, h⟩ := chk h
  refine l_append (l2 := ([t1] : List ApiValue)) (l3 := (l1 ++ ([t1] : List ApiValue))) (I' := fun ad1 cap1 => [orow (some ⟨bx2, 0, none⟩) 1 33 6 ApiValue.cells ([t1] : List ApiValue), blk bx1 38 ((ApiArg.cells (List.getD v6 (Int.toNat v8) default))), orow ad1 cap1 33 6 ApiValue.cells (l1 ++ ([t1] : List ApiValue))]) (j := 2) hk rfl rfl rfl rfl (own_src hk (j := 0) rfl rfl (fun _ => rfl) underlying31) underlying31 (by kernel_rfl) hc2 rfl (fun _ _ => rfl) ?_; clear hk; intro ad1 cap1 a w hk
  replace hk := S.dropI (I' := [blk bx1 38 ((ApiArg.cells (List.getD v6 (Int.toNat v8) default))), orow ad1 cap1 33 6 ApiValue.cells (l1 ++ ([t1] : List ApiValue))]) hk 0 rfl
  refine go hk<|gA<|fun a w hk=>?_
  refine wpList_nil ?_
  refine q8 _ _ ?_
  refine rg1 hk<|gD<|gM<|fun a w hk=>?_
  refine wpList_nil ?_
  exact q5 (kl1, (l1 ++ ([t1] : List ApiValue)), v6, v7, (IntKind.wrap .i64 (v8 + 1)), ad1, cap1) _ _ (Nat.lt_succ_self _) ⟨(hk.drop 0).sub ⟨rfl, rfl, rfl, rfl, trivial⟩, h⟩
 refine wp_exit ?_; (repeat first | refine te ?_ | refine be rfl ?_); refine bx ?_
 refine q3 _ _ ?_
 refine rg hk fun _ q12=>gM<|gA<|ge q12 fun a w hk=>?_
 refine wp_ret ?_
 replace hk := S.freezeR (I' := []) r_ApiValue_cells_eq hk (j := 0) rfl (t := 2) rfl rfl
 obtain rfl := Option.some.inj h
 exact fret1 hk rfl rfl
theorem code_names.ok (K : Nat) (v0 : List ApiArg) (r : List (List UInt8)) (h : code_names.f K v0 = some r) :
  Ok prog 102 [.row (r_ApiArg_cells v0)] (.row (r_c_str r)) := by
 refine enter (xs := [.row (r_ApiArg_cells v0)]) func102 rfl ntmps102 rfl ?_
 intro M w0 a hk
 unfold code_names.f at h
 refine wreg fun _ q1 => ?_
 refine lf (y := .row (r_c_str [])) hk (f_assignNil) fun a w hk=>?_
 refine lend (q1 _ _ ?_)
 refine rg hk fun _ q2=>gA<|fun a w hk=>?_
 replace hk := hk.nilRow 9 1 c_str (fun _ => rfl)
 refine lend (q2 _ _ ?_)
 refine wseq fun _ q3 => ?_
 refine rg hk fun _ q4=>gM<|fun a w hk=>?_
 refine lf hk (f_len (R := r_ApiArg_cells) (f := ApiArg.cells) (l := v0) r_ApiArg_cells_eq underlying27 hk h0 rfl) fun a w hk=>?_
 refine go hk<|gM<|ge q4 fun a w hk=>?_
 refine wp_block ?_
 refine wloop (T := Nat × List (List UInt8) × List ApiArg × Int × Int × Option Addr × Nat) (fun x a w => match x with | (kl1, l1, v6, v7, v8, xd1, xc1) => S M w0 a w 20 [orow xd1 xc1 9 1 c_str l1] [(3, [], .lit (.slice xd1 (List.length l1) xc1)), (6, [], .row (r_ApiArg_cells v6)), (7, [], .lit (.int .i64 v7)), (8, [], .lit (.int .i64 v8))] ∧ code_names.l1 K kl1 l1 v6 v7 v8 = some r) (fun x => x.1) (K, ([] : List (List UInt8)), v0, (List.length v0 : Int), 0, none, 0) ⟨hk.sub ⟨rfl, rfl, rfl, rfl, trivial⟩, h⟩ ?_
 clear hk h
 rintro ⟨kl1, l1, v6, v7, v8, xd1, xc1⟩ a w ⟨hk, h⟩ K' q5
 cases kl1 with
 | zero => simp [code_names.l1] at h
 | succ kl1 =>
 rw [code_names.l1.eq_2] at h
 refine rg hk fun _ q6=>gL<|ge q6 fun a w hk=>?_
 refine wseq fun _ q7 => ?_
 refine wc hk h (fun h hb=>?_) fun h hb=>?_
 ·refine wp_skip ?_
  refine q7 _ _ ?_
  refine wseq fun _ q8 => ?_
  refine wp_block ?_
  refine wreg fun _ q9 => ?_
  obtain ⟨hc1, h⟩ := chk h
  refine lf (y := .ref (ApiArg.cells (List.getD v6 (Int.toNat v8) default))) hk (f_indexAddr (R := r_ApiArg_cells) (f := ApiArg.cells) (l := v6) (sz := 11) r_ApiArg_cells_eq (fun _ => rfl) hk h0 rfl rfl underlying27 (by kernel_rfl) hc1) fun a w hk=>?_
  refine lf hk (f_load hk h0 rfl underlying38 rfl rfl rfl rfl) fun a w hk=>?_
  refine l_alloc (zs := (ApiArg.cells (⟨0, (⟨0, false, 0, 0, [], []⟩ : ApiValue), (⟨[], [], []⟩ : ApiPred), []⟩ : ApiArg))) [] hk rfl rfl rfl rfl ?_; clear hk; intro bx1 a w hk
  refine st0 (cs' := (ApiArg.cells (List.getD v6 (Int.toNat v8) default))) hk rfl (by kernel_rfl) fun w hk => ?_
  refine lend (q9 _ _ ?_)
  refine rg1 hk<|gM<|gF 1 underlying38<|gF 5 underlying33<|gB 0 underlying9<|fun a w hk=>?_
  refine l_buildSlice (f := c_str) (l := ([((List.getD v6 (Int.toNat v8) default).V).S] : List (List UInt8))) hk rfl rfl rfl underlying56 rfl rfl rfl rfl (fun _ => rfl) rfl ?_; clear hk; intro bx2 a w hk
  obtain ⟨hc2, h⟩ := chk h
  refine l_append (l2 := ([((List.getD v6 (Int.toNat v8) default).V).S] : List (List UInt8))) (l3 := (l1 ++ ([((List.getD v6 (Int.toNat v8) default).V).S] : List (List UInt8)))) (I' := fun ad1 cap1 => [orow (some ⟨bx2, 0, none⟩) 1 9 1 c_str ([((List.getD v6 (Int.toNat v8) default).V).S] : List (List UInt8)), blk bx1 38 ((ApiArg.cells (List.getD v6 (Int.toNat v8) default))), orow ad1 cap1 9 1 c_str (l1 ++ ([((List.getD v6 (Int.toNat v8) default).V).S] : List (List UInt8)))]) (j := 2) hk rfl rfl rfl rfl (own_src hk (j := 0) rfl rfl (fun _ => rfl) underlying56) underlying56 (by kernel_rfl) hc2 rfl (fun _ _ => rfl) ?_; clear hk; intro ad1 cap1 a w hk
  replace hk := S.dropI (I' := [blk bx1 38 ((ApiArg.cells (List.getD v6 (Int.toNat v8) default))), orow ad1 cap1 9 1 c_str (l1 ++ ([((List.getD v6 (Int.toNat v8) default).V).S] : List (List UInt8)))]) hk 0 rfl
  refine go hk<|gA<|fun a w hk=>?_
  refine wpList_nil ?_
  refine q8 _ _ ?_
  refine rg1 hk<|gD<|gM<|fun a w hk=>?_
  refine wpList_nil ?_
  exact q5 (kl1, (l1 ++ ([((List.getD v6 (Int.toNat v8) default).V).S] : List (List UInt8))), v6, v7, (IntKind.wrap .i64 (v8 + 1)), ad1, cap1) _ _ (Nat.lt_succ_self _) ⟨(hk.drop 0).sub ⟨rfl, rfl, rfl, rfl, trivial⟩, h⟩
 refine wp_exit ?_; (repeat first | refine te ?_ | refine be rfl ?_); refine bx ?_
 refine q3 _ _ ?_
 refine rg hk fun _ q12=>gM<|gA<|ge q12 fun a w hk=>?_
 refine wp_ret ?_
 replace hk := S.freezeR (I' := []) r_c_str_eq hk (j := 0) rfl (t := 2) rfl rfl
 obtain rfl := Option.some.inj h
 exact fret1 hk rfl rfl
end Go.Proofs.Ytbjbgodcenopnaa
namespace Go.Proofs.Ytbjbgodcenopnaa
open FW _root_.Go.Proofs.Try
set_option linter.unusedVariables false
set_option maxRecDepth 20000
set_option maxHeartbeats 10000000
theorem code_nested.ok  (v0 : List UInt8) (r : Int) (h : code_nested.f v0 = some r) :
  Ok prog 103 [.lit (.string (B v0))] (.lit (.int .i64 r)) := by
 refine enter (xs := [.lit (.string (B v0))]) func103 rfl ntmps103 rfl ?_
 intro M w0 a hk
 unfold code_nested.f at h
 refine rg hk fun _ q1=>gA<|ge q1 fun a w hk=>?_
 refine wseq fun _ q2 => ?_
 refine rg hk fun _ q3=>gM<|ge q3 fun a w hk=>?_
 refine wp_block ?_
 refine rg hk fun _ q4=>gS<|gA<|ge q4 fun a w hk=>wc hk h (fun h hb=>?_) fun h hb=>?_
 ·refine rg hk fun _ q5=>gA<|ge q5 fun a w hk=>?_
  refine wp_ret ?_
  obtain rfl := Option.some.inj h
  exact fret1 hk rfl rfl
 refine rg hk fun _ q6=>gS<|gA<|ge q6 fun a w hk=>wc hk h (fun h hb=>?_) fun h hb=>?_
 ·refine rg hk fun _ q7=>gA<|ge q7 fun a w hk=>?_
  refine wp_ret ?_
  obtain rfl := Option.some.inj h
  exact fret1 hk rfl rfl
 refine rg hk fun _ q8=>gS<|gA<|ge q8 fun a w hk=>wc hk h (fun h hb=>?_) fun h hb=>?_
 ·refine rg hk fun _ q9=>gA<|ge q9 fun a w hk=>?_
  refine wp_ret ?_
  obtain rfl := Option.some.inj h
  exact fret1 hk rfl rfl
 refine rg hk fun _ q10=>gS<|gA<|ge q10 fun a w hk=>wc hk h (fun h hb=>?_) fun h hb=>?_
 ·refine rg hk fun _ q11=>gA<|ge q11 fun a w hk=>?_
  refine wp_ret ?_
  obtain rfl := Option.some.inj h
  exact fret1 hk rfl rfl
 refine rg hk fun _ q12=>gS<|gA<|ge q12 fun a w hk=>wc hk h (fun h hb=>?_) fun h hb=>?_
 ·refine rg hk fun _ q13=>gA<|ge q13 fun a w hk=>?_
  refine wp_ret ?_
  obtain rfl := Option.some.inj h
  exact fret1 hk rfl rfl
 refine rg hk fun _ q14=>gS<|gA<|ge q14 fun a w hk=>wc hk h (fun h hb=>?_) fun h hb=>?_
 ·refine rg hk fun _ q15=>gA<|ge q15 fun a w hk=>?_
  refine wp_ret ?_
  obtain rfl := Option.some.inj h
  exact fret1 hk rfl rfl
 refine rg hk fun _ q16=>gS<|gA<|ge q16 fun a w hk=>wc hk h (fun h hb=>?_) fun h hb=>?_
 ·refine rg hk fun _ q17=>gA<|ge q17 fun a w hk=>?_
  refine wp_ret ?_
  obtain rfl := Option.some.inj h
  exact fret1 hk rfl rfl
 refine rg hk fun _ q18=>gS<|gA<|ge q18 fun a w hk=>wc hk h (fun h hb=>?_) fun h hb=>?_
 ·refine rg hk fun _ q19=>gA<|ge q19 fun a w hk=>?_
  refine wp_ret ?_
  obtain rfl := Option.some.inj h
  exact fret1 hk rfl rfl
 refine rg hk fun _ q20=>gS<|gA<|ge q20 fun a w hk=>wc hk h (fun h hb=>?_) fun h hb=>?_
 ·refine rg hk fun _ q21=>gA<|ge q21 fun a w hk=>?_
  refine wp_ret ?_
  obtain rfl := Option.some.inj h
  exact fret1 hk rfl rfl
 refine wp_skip ?_
 refine q2 _ _ ?_
 refine rg hk fun _ q22=>gA<|ge q22 fun a w hk=>?_
 refine wp_ret ?_
 obtain rfl := Option.some.inj h
 exact fret1 hk rfl rfl
theorem code_walk.ok  (v0 : List UInt8) (r : List Int × Bool) (h : code_walk.f v0 = some r) :
  Ok prog 105 [.lit (.string (B v0))] (.tup [.row (r_c_i64 r.1), .lit (.bool r.2)]) := by
 refine enter (xs := [.lit (.string (B v0))]) func105 rfl ntmps105 rfl ?_
 intro M w0 a hk
 unfold code_walk.f at h
 refine wreg fun _ q1 => ?_
 refine lf (y := .row (r_c_i64 [])) hk (f_assignNil) fun a w hk=>?_
 refine go hk<|gA<|ge q1 fun a w hk=>?_
 refine wseq fun _ q2 => ?_
 refine rg hk fun _ q3=>gM<|ge q3 fun a w hk=>?_
 refine wp_block ?_
 refine rg hk fun _ q4=>gS<|gA<|ge q4 fun a w hk=>wc hk h (fun h hb=>?_) fun h hb=>?_
 ·refine wreg fun _ q5 => ?_
  refine l_buildSlice (f := c_i64) (l := ([1, 0] : List Int)) hk rfl rfl rfl underlying57 rfl rfl rfl rfl (fun _ => rfl) rfl ?_; clear hk; intro bx1 a w hk
  replace hk := (S.freezeR (I' := []) r_c_i64_eq hk (j := 0) rfl (t := 7) rfl rfl).squash
  refine go hk<|gA<|gA<|ge q5 fun a w hk=>?_
  refine wp_ret ?_
  obtain rfl := Option.some.inj h
  exact fret2 hk rfl rfl rfl
 refine rg hk fun _ q6=>gS<|gA<|ge q6 fun a w hk=>wc hk h (fun h hb=>?_) fun h hb=>?_
 ·refine wreg fun _ q7 => ?_
  refine l_buildSlice (f := c_i64) (l := ([2, 0] : List Int)) hk rfl rfl rfl underlying57 rfl rfl rfl rfl (fun _ => rfl) rfl ?_; clear hk; intro bx2 a w hk
  replace hk := (S.freezeR (I' := []) r_c_i64_eq hk (j := 0) rfl (t := 10) rfl rfl).squash
  refine go hk<|gA<|gA<|ge q7 fun a w hk=>?_
  refine wp_ret ?_
  obtain rfl := Option.some.inj h
  exact fret2 hk rfl rfl rfl
 refine rg hk fun _ q8=>gS<|gA<|ge q8 fun a w hk=>wc hk h (fun h hb=>?_) fun h hb=>?_
 ·refine wreg fun _ q9 => ?_
  refine l_buildSlice (f := c_i64) (l := ([3, 0] : List Int)) hk rfl rfl rfl underlying57 rfl rfl rfl rfl (fun _ => rfl) rfl ?_; clear hk; intro bx3 a w hk
  replace hk := (S.freezeR (I' := []) r_c_i64_eq hk (j := 0) rfl (t := 13) rfl rfl).squash
  refine go hk<|gA<|gA<|ge q9 fun a w hk=>?_
  refine wp_ret ?_
  obtain rfl := Option.some.inj h
  exact fret2 hk rfl rfl rfl
 refine rg hk fun _ q10=>gS<|gA<|ge q10 fun a w hk=>wc hk h (fun h hb=>?_) fun h hb=>?_
 ·refine wreg fun _ q11 => ?_
  refine l_buildSlice (f := c_i64) (l := ([1, 1] : List Int)) hk rfl rfl rfl underlying57 rfl rfl rfl rfl (fun _ => rfl) rfl ?_; clear hk; intro bx4 a w hk
  replace hk := (S.freezeR (I' := []) r_c_i64_eq hk (j := 0) rfl (t := 16) rfl rfl).squash
  refine go hk<|gA<|gA<|ge q11 fun a w hk=>?_
  refine wp_ret ?_
  obtain rfl := Option.some.inj h
  exact fret2 hk rfl rfl rfl
 refine rg hk fun _ q12=>gS<|gA<|ge q12 fun a w hk=>wc hk h (fun h hb=>?_) fun h hb=>?_
 ·refine wreg fun _ q13 => ?_
  refine l_buildSlice (f := c_i64) (l := ([2, 1] : List Int)) hk rfl rfl rfl underlying57 rfl rfl rfl rfl (fun _ => rfl) rfl ?_; clear hk; intro bx5 a w hk
  replace hk := (S.freezeR (I' := []) r_c_i64_eq hk (j := 0) rfl (t := 19) rfl rfl).squash
  refine go hk<|gA<|gA<|ge q13 fun a w hk=>?_
  refine wp_ret ?_
  obtain rfl := Option.some.inj h
  exact fret2 hk rfl rfl rfl
 refine rg hk fun _ q14=>gS<|gA<|ge q14 fun a w hk=>wc hk h (fun h hb=>?_) fun h hb=>?_
 ·refine wreg fun _ q15 => ?_
  refine l_buildSlice (f := c_i64) (l := ([3, 1] : List Int)) hk rfl rfl rfl underlying57 rfl rfl rfl rfl (fun _ => rfl) rfl ?_; clear hk; intro bx6 a w hk
  replace hk := (S.freezeR (I' := []) r_c_i64_eq hk (j := 0) rfl (t := 22) rfl rfl).squash
  refine go hk<|gA<|gA<|ge q15 fun a w hk=>?_
  refine wp_ret ?_
  obtain rfl := Option.some.inj h
  exact fret2 hk rfl rfl rfl
 refine wp_skip ?_
 refine q2 _ _ ?_
 refine wreg fun _ q16 => ?_
 refine lf (y := .row (r_c_i64 [])) hk (f_assignNil) fun a w hk=>?_
 refine go hk<|gA<|ge q16 fun a w hk=>?_
 refine wp_ret ?_
 obtain rfl := Option.some.inj h
 exact fret2 hk rfl rfl rfl
theorem code_reduce.ok  (v0 : List UInt8) (r : Int) (h : code_reduce.f v0 = some r) :
  Ok prog 106 [.lit (.string (B v0))] (.lit (.int .i64 r)) := by
 refine enter (xs := [.lit (.string (B v0))]) func106 rfl ntmps106 rfl ?_
 intro M w0 a hk
 unfold code_reduce.f at h
 refine rg hk fun _ q1=>gA<|ge q1 fun a w hk=>?_
 refine wseq fun _ q2 => ?_
 refine rg hk fun _ q3=>gM<|ge q3 fun a w hk=>?_
 refine wp_block ?_
 refine rg hk fun _ q4=>gS<|gA<|ge q4 fun a w hk=>wc hk h (fun h hb=>?_) fun h hb=>?_
 ·refine rg hk fun _ q5=>gA<|ge q5 fun a w hk=>?_
  refine wp_ret ?_
  obtain rfl := Option.some.inj h
  exact fret1 hk rfl rfl
 refine rg hk fun _ q6=>gS<|gA<|ge q6 fun a w hk=>wc hk h (fun h hb=>?_) fun h hb=>?_
 ·refine rg hk fun _ q7=>gA<|ge q7 fun a w hk=>?_
  refine wp_ret ?_
  obtain rfl := Option.some.inj h
  exact fret1 hk rfl rfl
 refine rg hk fun _ q8=>gS<|gA<|ge q8 fun a w hk=>wc hk h (fun h hb=>?_) fun h hb=>?_
 ·refine rg hk fun _ q9=>gA<|ge q9 fun a w hk=>?_
  refine wp_ret ?_
  obtain rfl := Option.some.inj h
  exact fret1 hk rfl rfl
 refine rg hk fun _ q10=>gS<|gA<|ge q10 fun a w hk=>wc hk h (fun h hb=>?_) fun h hb=>?_
 ·refine rg hk fun _ q11=>gA<|ge q11 fun a w hk=>?_
  refine wp_ret ?_
  obtain rfl := Option.some.inj h
  exact fret1 hk rfl rfl
 refine rg hk fun _ q12=>gS<|gA<|ge q12 fun a w hk=>wc hk h (fun h hb=>?_) fun h hb=>?_
 ·refine rg hk fun _ q13=>gA<|ge q13 fun a w hk=>?_
  refine wp_ret ?_
  obtain rfl := Option.some.inj h
  exact fret1 hk rfl rfl
 refine wp_skip ?_
 refine q2 _ _ ?_
 refine rg hk fun _ q14=>gA<|ge q14 fun a w hk=>?_
 refine wp_ret ?_
 obtain rfl := Option.some.inj h
 exact fret1 hk rfl rfl
theorem code_pred.ok (K : Nat) (v0 : ApiArg) (r : ApiPred) (h : code_pred.f K v0 = some r) :
  Ok prog 130 [.agg (ApiArg.cells v0)] (.agg (ApiPred.cells r)) := by
 refine enter (xs := [.agg (ApiArg.cells v0)]) func130 rfl ntmps130 rfl ?_
 intro M w0 a hk
 unfold code_pred.f at h
 refine wreg fun _ q1 => ?_
 refine l_box (cs := (ApiArg.cells v0)) hk rfl rfl rfl rfl rfl ?_; clear hk; intro bx1 a w hk
 refine l_alloc (zs := (ApiPred.cells (⟨[], [], []⟩ : ApiPred))) [] hk rfl rfl rfl rfl ?_; clear hk; intro bx2 a w hk
 refine lend (q1 _ _ ?_)
 refine wseq fun _ q2 => ?_
 refine rg hk fun _ q3=>gF 0 underlying38<|gB 1 underlying3<|gE<|ge q3 fun a w hk=>wc hk h (fun h hb=>?_) fun h hb=>?_
 ·refine rg hk fun _ q4=>gF 1 underlying38<|fun a w hk=>?_
  refine lf hk (f_loadBlk hk h0 (j := 1) rfl rfl underlying33 rfl rfl rfl rfl) fun a w hk=>?_
  obtain ⟨t1, hr_t1, h⟩ := bnd h
  refine lf (y := .agg ((ApiValue.cells t1))) hk (f_call hk h0 rfl rfl func129 rfl (by kernel_rfl) (val_Copy.ok K v0.V _ hr_t1)) fun a w hk=>?_
  refine l_buildSlice (f := ApiValue.cells) (l := ([t1] : List ApiValue)) hk rfl rfl rfl underlying31 rfl rfl rfl rfl (fun _ => rfl) rfl ?_; clear hk; intro bx3 a w hk
  replace hk := (S.freezeR (I' := [blk bx2 36 ((ApiPred.cells (⟨[], [], []⟩ : ApiPred))), blk bx1 38 ((ApiArg.cells v0))]) r_ApiValue_cells_eq hk (j := 0) rfl (t := 9) rfl rfl).squash
  refine lf (y := .agg ((ApiPred.cells (⟨([101, 113] : List UInt8), ([t1] : List ApiValue), []⟩ : ApiPred)))) hk (f_buildN [] hk h0 rfl rfl rfl) fun a w hk=>?_
  refine st0 (cs' := (ApiPred.cells (⟨([101, 113] : List UInt8), ([t1] : List ApiValue), []⟩ : ApiPred))) hk rfl (by kernel_rfl) fun w hk => ?_
  refine lend (q4 _ _ ?_)
  refine wp_ret ?_
  obtain rfl := Option.some.inj h
  exact fretR1 hk rfl (rcell hk rfl (j := 0) rfl underlying36 rfl (by kernel_rfl))
 refine wp_skip ?_
 refine q2 _ _ ?_
 refine rg hk fun _ q5=>gF 7 underlying38<|fun a w hk=>?_
 refine lf hk (f_loadBlk hk h0 (j := 1) rfl rfl underlying36 rfl rfl rfl rfl) fun a w hk=>?_
 refine st0 (cs' := (ApiPred.cells v0.P)) hk rfl (by kernel_rfl) fun w hk => ?_
 refine lend (q5 _ _ ?_)
 refine wp_ret ?_
 obtain rfl := Option.some.inj h
 exact fretR1 hk rfl (rcell hk rfl (j := 0) rfl underlying36 rfl (by kernel_rfl))
end Go.Proofs.Ytbjbgodcenopnaa
namespace Go.Proofs.Ytbjbgodcenopnaa
open FW _root_.Go.Proofs.Try
set_option linter.unusedVariables false
set_option maxRecDepth 20000
set_option maxHeartbeats 10000000
abbrev ZzB (zB : OCM → List ApiStep → Option (Int × OCM)) : Prop := ∀ (v0 : OCM) (v1 : List ApiStep) (r : Int × OCM), zB v0 v1 = some r → ∀ (b0 : Nat) (xd0_0 : Option Addr) (xc0_0 : Nat), OkH prog 48 [.lit (.pointer (some ⟨b0, 0, none⟩)), .row (r_ApiStep_cells v1)] (OCM.items b0 xd0_0 xc0_0 v0) (fun y I => ∃ (zxd0_0 : Option Addr) (zxc0_0 : Nat), y = .lit (.int .i64 r.1) ∧ I = OCM.items b0 zxd0_0 zxc0_0 r.2)
abbrev ZzI (zI : OCM → ApiStep → List ApiStep → Option (ApiIns × OCM)) : Prop := ∀ (v0 : OCM) (v1 : ApiStep) (v2 : List ApiStep) (r : ApiIns × OCM), zI v0 v1 v2 = some r → ∀ (b0 : Nat) (xd0_0 : Option Addr) (xc0_0 : Nat), OkH prog 70 [.lit (.pointer (some ⟨b0, 0, none⟩)), .agg (ApiStep.cells v1), .row (r_ApiStep_cells v2)] (OCM.items b0 xd0_0 xc0_0 v0) (fun y I => ∃ (zxd0_0 : Option Addr) (zxc0_0 : Nat), y = .agg (ApiIns.cells r.1) ∧ I = OCM.items b0 zxd0_0 zxc0_0 r.2)
abbrev ZzK (zK : OCM → List ApiArg → Option (List Int × OCM)) : Prop := ∀ (v0 : OCM) (v1 : List ApiArg) (r : List Int × OCM), zK v0 v1 = some r → ∀ (b0 : Nat) (xd0_0 : Option Addr) (xc0_0 : Nat), OkH prog 104 [.lit (.pointer (some ⟨b0, 0, none⟩)), .row (r_ApiArg_cells v1)] (OCM.items b0 xd0_0 xc0_0 v0) (fun y I => ∃ (zxd0_0 : Option Addr) (zxc0_0 : Nat), y = .row (r_c_i64 r.1) ∧ I = OCM.items b0 zxd0_0 zxc0_0 r.2)
abbrev ZzO (zO : OCM → ApiStep → List ApiStep → Option (ApiIns × OCM)) : Prop := ∀ (v0 : OCM) (v1 : ApiStep) (v2 : List ApiStep) (r : ApiIns × OCM), zO v0 v1 v2 = some r → ∀ (b0 : Nat) (xd0_0 : Option Addr) (xc0_0 : Nat), OkH prog 107 [.lit (.pointer (some ⟨b0, 0, none⟩)), .agg (ApiStep.cells v1), .row (r_ApiStep_cells v2)] (OCM.items b0 xd0_0 xc0_0 v0) (fun y I => ∃ (zxd0_0 : Option Addr) (zxc0_0 : Nat), y = .agg (ApiIns.cells r.1) ∧ I = OCM.items b0 zxd0_0 zxc0_0 r.2)
abbrev ZzY (zY : OCM → List ApiStep → Int → Option (List Int × OCM)) : Prop := ∀ (v0 : OCM) (v1 : List ApiStep) (v2 : Int) (r : List Int × OCM), zY v0 v1 v2 = some r → ∀ (b0 : Nat) (xd0_0 : Option Addr) (xc0_0 : Nat), OkH prog 131 [.lit (.pointer (some ⟨b0, 0, none⟩)), .row (r_ApiStep_cells v1), .lit (.int .i64 v2)] (OCM.items b0 xd0_0 xc0_0 v0) (fun y I => ∃ (zxd0_0 : Option Addr) (zxc0_0 : Nat), y = .row (r_c_i64 r.1) ∧ I = OCM.items b0 zxd0_0 zxc0_0 r.2)
abbrev Zzb (zb : OCM → ApiStep → Option (Int × OCM)) : Prop := ∀ (v0 : OCM) (v1 : ApiStep) (r : Int × OCM), zb v0 v1 = some r → ∀ (b0 : Nat) (xd0_0 : Option Addr) (xc0_0 : Nat), OkH prog 151 [.lit (.pointer (some ⟨b0, 0, none⟩)), .agg (ApiStep.cells v1)] (OCM.items b0 xd0_0 xc0_0 v0) (fun y I => ∃ (zxd0_0 : Option Addr) (zxc0_0 : Nat), y = .lit (.int .i64 r.1) ∧ I = OCM.items b0 zxd0_0 zxc0_0 r.2)
abbrev ZzR (zR : OCM → List ApiStep → Option (ApiIns × OCM)) : Prop := ∀ (v0 : OCM) (v1 : List ApiStep) (r : ApiIns × OCM), zR v0 v1 = some r → ∀ (b0 : Nat) (xd0_0 : Option Addr) (xc0_0 : Nat), OkH prog 132 [.lit (.pointer (some ⟨b0, 0, none⟩)), .row (r_ApiStep_cells v1)] (OCM.items b0 xd0_0 xc0_0 v0) (fun y I => ∃ (zxd0_0 : Option Addr) (zxc0_0 : Nat), y = .agg (ApiIns.cells r.1) ∧ I = OCM.items b0 zxd0_0 zxc0_0 r.2)
abbrev ZzT (zT : OCM → ApiStep → List ApiStep → Option (ApiIns × OCM)) : Prop := ∀ (v0 : OCM) (v1 : ApiStep) (v2 : List ApiStep) (r : ApiIns × OCM), zT v0 v1 v2 = some r → ∀ (b0 : Nat) (xd0_0 : Option Addr) (xc0_0 : Nat), OkH prog 133 [.lit (.pointer (some ⟨b0, 0, none⟩)), .agg (ApiStep.cells v1), .row (r_ApiStep_cells v2)] (OCM.items b0 xd0_0 xc0_0 v0) (fun y I => ∃ (zxd0_0 : Option Addr) (zxc0_0 : Nat), y = .agg (ApiIns.cells r.1) ∧ I = OCM.items b0 zxd0_0 zxc0_0 r.2)
abbrev ZzE (zE : OCM → ApiStep → List ApiStep → Option (ApiIns × OCM)) : Prop := ∀ (v0 : OCM) (v1 : ApiStep) (v2 : List ApiStep) (r : ApiIns × OCM), zE v0 v1 v2 = some r → ∀ (b0 : Nat) (xd0_0 : Option Addr) (xc0_0 : Nat), OkH prog 134 [.lit (.pointer (some ⟨b0, 0, none⟩)), .agg (ApiStep.cells v1), .row (r_ApiStep_cells v2)] (OCM.items b0 xd0_0 xc0_0 v0) (fun y I => ∃ (zxd0_0 : Option Addr) (zxc0_0 : Nat), y = .agg (ApiIns.cells r.1) ∧ I = OCM.items b0 zxd0_0 zxc0_0 r.2)
theorem cm_body.bok (zB : OCM → List ApiStep → Option (Int × OCM)) (zI : OCM → ApiStep → List ApiStep → Option (ApiIns × OCM)) (zK : OCM → List ApiArg → Option (List Int × OCM)) (zO : OCM → ApiStep → List ApiStep → Option (ApiIns × OCM)) (zY : OCM → List ApiStep → Int → Option (List Int × OCM)) (zb : OCM → ApiStep → Option (Int × OCM)) (zR : OCM → List ApiStep → Option (ApiIns × OCM)) (zT : OCM → ApiStep → List ApiStep → Option (ApiIns × OCM)) (zE : OCM → ApiStep → List ApiStep → Option (ApiIns × OCM)) (hzB : ZzB zB) (hzI : ZzI zI) (hzK : ZzK zK) (hzO : ZzO zO) (hzY : ZzY zY) (hzb : Zzb zb) (hzR : ZzR zR) (hzT : ZzT zT) (hzE : ZzE zE) (K : Nat) (v0 : OCM) (v1 : List ApiStep) (r : Int × OCM) (h : cm_body.b zB zI zK zO zY zb zR zT zE K v0 v1 = some r) :
  ∀ (b0 : Nat) (xd0_0 : Option Addr) (xc0_0 : Nat), OkH prog 48 [.lit (.pointer (some ⟨b0, 0, none⟩)), .row (r_ApiStep_cells v1)] (OCM.items b0 xd0_0 xc0_0 v0) (fun y I => ∃ (zxd0_0 : Option Addr) (zxc0_0 : Nat), y = .lit (.int .i64 r.1) ∧ I = OCM.items b0 zxd0_0 zxc0_0 r.2) := by
 intro b0 xd0_0 xc0_0
 refine enterH (xs := [.lit (.pointer (some ⟨b0, 0, none⟩)), .row (r_ApiStep_cells v1)]) func48 rfl ntmps48 rfl ?_
 intro M w0 a hk
 replace hk : S M w0 a w0.toWorld 72 [blk b0 93 ([.lit (.slice xd0_0 (List.length v0.out) xc0_0)]), orow xd0_0 xc0_0 55 1 c_s_ApiIns_cells v0.out] [(0, [], .lit (.pointer (some ⟨b0, 0, none⟩))), (1, [], .row (r_ApiStep_cells v1))] := hk
 unfold cm_body.b at h
 refine rg hk fun _ q1=>gA<|ge q1 fun a w hk=>?_
 refine rg hk fun _ q2=>gM<|gP (p_nilCheck · h0 rfl)<|gF 0 underlying93<|gB 0 underlying48<|gP (p_len underlying48 · h0 rfl)<|gA<|ge q2 fun a w hk=>?_
 refine rg hk fun _ q3=>gM<|gM<|gP (p_nilCheck · h0 rfl)<|gF 0 underlying93<|gB 0 underlying48<|fun a w hk=>?_
 refine l_buildSlice (f := fun _ : Unit => [AV.lit (.slice none 0 0)]) (l := [()]) hk rfl rfl rfl underlying48 rfl rfl rfl rfl (fun _ => rfl) rfl ?_; clear hk; intro bx1 a w hk
 replace hk := S.rowNil (f := c_s_ApiIns_cells) (z := []) hk rfl (fun _ => rfl)
 obtain ⟨hc1, h⟩ := chk h
 refine l_append (l2 := ([[]] : List (List ApiIns))) (l3 := (v0.out ++ ([[]] : List (List ApiIns)))) (I' := fun ad1 cap1 => [orow (some ⟨bx1, 0, none⟩) 1 55 1 c_s_ApiIns_cells ([[]] : List (List ApiIns)), blk b0 93 ([.lit (.slice xd0_0 (List.length v0.out) xc0_0)]), orow ad1 cap1 55 1 c_s_ApiIns_cells (v0.out ++ ([[]] : List (List ApiIns)))]) (j := 2) hk rfl rfl rfl rfl (own_src hk (j := 0) rfl rfl (fun _ => rfl) underlying48) underlying48 (by kernel_rfl) hc1 rfl (fun _ _ => rfl) ?_; clear hk; intro ad1 cap1 a w hk
 replace hk := S.dropI (I' := [blk b0 93 ([.lit (.slice xd0_0 (List.length v0.out) xc0_0)]), orow ad1 cap1 55 1 c_s_ApiIns_cells (v0.out ++ ([[]] : List (List ApiIns)))]) hk 0 rfl
 refine go hk<|gP (p_nilCheck · h0 rfl)<|gF 0 underlying93<|fun a w hk=>?_
 refine st0 (cs' := [.lit (.slice ad1 (List.length (v0.out ++ ([[]] : List (List ApiIns)))) cap1)]) hk rfl (by kernel_rfl) fun w hk => ?_
 refine lend (q3 _ _ ?_)
 refine rg hk fun _ q4=>gA<|fun a w hk=>?_
 replace hk := hk.nilRow 59 9 ApiIns.cells (fun _ => rfl)
 refine lend (q4 _ _ ?_)
 refine wseq fun _ q5 => ?_
 refine rg hk fun _ q6=>gA<|ge q6 fun a w hk=>?_
 refine wp_block ?_
 refine wloop (T := Nat × List ApiIns × List (List ApiIns) × List ApiStep × Int × Int × Option Addr × Nat × Option Addr × Nat) (fun x a w => match x with | (kl1, l4, l2, v1, v5, v7, xd4, xc4, xd2, xc2) => S M w0 a w 72 [orow xd4 xc4 59 9 ApiIns.cells l4, blk b0 93 ([.lit (.slice xd2 (List.length l2) xc2)]), orow xd2 xc2 55 1 c_s_ApiIns_cells l2] [(0, [], .lit (.pointer (some ⟨b0, 0, none⟩))), (1, [], .row (r_ApiStep_cells v1)), (5, [], .lit (.int .i64 v5)), (6, [], .lit (.slice xd4 (List.length l4) xc4)), (7, [], .lit (.int .i64 v7))] ∧ cm_body.l1 zB zI zK zO zY zb zR zT zE K kl1 l4 l2 v1 v5 v7 = some r) (fun x => x.1) (K, ([] : List ApiIns), (v0.out ++ ([[]] : List (List ApiIns))), v1, (List.length v0.out : Int), 0, none, 0, ad1, cap1) ⟨hk.sub ⟨rfl, rfl, rfl, rfl, rfl, trivial⟩, h⟩ ?_
 clear hk h
 rintro ⟨kl1, l4, l2, v1, v5, v7, xd4, xc4, xd2, xc2⟩ a w ⟨hk, h⟩ K' q7
 cases kl1 with
 | zero => simp [cm_body.l1] at h
 | succ kl1 =>
 rw [cm_body.l1.eq_2] at h
 refine wseq fun _ q8 => ?_
 refine rg hk fun _ q9=>gM<|gM<|fun a w hk=>?_
 refine lf hk (f_len (R := r_ApiStep_cells) (f := ApiStep.cells) (l := v1) r_ApiStep_cells_eq underlying22 hk h0 rfl) fun a w hk=>?_
 refine go hk<|gL<|ge q9 fun a w hk=>wc hk h (fun h hb=>?_) fun h hb=>?_
 ·refine wp_skip ?_
  refine q8 _ _ ?_
  refine wp_block ?_
  refine rg hk fun _ q10=>gA<|ge q10 fun a w hk=>?_
  refine wseq fun _ q11 => ?_
  refine wp_block ?_
  refine wloop (T := Nat × List ApiStep × Int × Int × Int) (fun x a w => match x with | (kl2, v1, v5, v7, v8) => S M w0 a w 72 [orow xd4 xc4 59 9 ApiIns.cells l4, blk b0 93 ([.lit (.slice xd2 (List.length l2) xc2)]), orow xd2 xc2 55 1 c_s_ApiIns_cells l2] [(0, [], .lit (.pointer (some ⟨b0, 0, none⟩))), (1, [], .row (r_ApiStep_cells v1)), (5, [], .lit (.int .i64 v5)), (6, [], .lit (.slice xd4 (List.length l4) xc4)), (7, [], .lit (.int .i64 v7)), (8, [], .lit (.int .i64 v8))] ∧ cm_body.l2 zB zI zK zO zY zb zR zT zE (cm_body.l1 zB zI zK zO zY zb zR zT zE K kl1) K l2 l4 kl2 v1 v5 v7 v8 = some r) (fun x => x.1) (K, v1, v5, v7, 1) ⟨hk.sub ⟨rfl, rfl, rfl, rfl, rfl, rfl, trivial⟩, h⟩ ?_
  clear hk h
  rintro ⟨kl2, v1, v5, v7, v8⟩ a w ⟨hk, h⟩ K' q12
  cases kl2 with
  | zero => simp [cm_body.l2] at h
  | succ kl2 =>
  rw [cm_body.l2.eq_2] at h
  refine wseq fun _ q13 => ?_
  refine rg hk fun _ q14=>gM<|gM<|gD<|gM<|fun a w hk=>?_
  refine lf hk (f_len (R := r_ApiStep_cells) (f := ApiStep.cells) (l := v1) r_ApiStep_cells_eq underlying22 hk h0 rfl) fun a w hk=>?_
  refine go hk<|gL<|gM<|gm<|fun a w hk=>?_
  refine go hk<|gm<|fun a w hk=>?_
  refine go hk<|gm<|fun a w hk=>?_
  refine lg hk rfl rfl rfl (fun hc => (f_pure (p_add hk.kn hc rfl rfl))) fun a w hk=>?_
  obtain ⟨hc2, h⟩ := chk h
  refine lg (y := .ref (ApiStep.cells (List.getD v1 (Int.toNat (IntKind.wrap .i64 (v7 + v8))) default))) hk rfl rfl rfl (fun hc => f_indexAddr (R := r_ApiStep_cells) (f := ApiStep.cells) (l := v1) (sz := 2) r_ApiStep_cells_eq (fun _ => rfl) hk hc rfl rfl underlying22 (by kernel_rfl) hc2) fun a w hk=>?_
  refine lg hk rfl rfl rfl (fun hc => f_fieldAddr hk hc rfl underlying29 rfl (by kernel_rfl) rfl) fun a w hk=>?_
  refine lg hk rfl rfl rfl (fun hc => f_load1 hk hc rfl rfl underlying9 rfl) fun a w hk=>?_
  obtain ⟨t1, hr_t1, h⟩ := bndG h
  refine lg (y := .lit (.bool t1)) hk rfl rfl rfl (fun hc => f_call hk hc rfl rfl func69 rfl (by kernel_rfl) (code_modifies.ok ((List.getD v1 (Int.toNat (IntKind.wrap .i64 (v7 + v8))) default).Name) _ (hr_t1 (asm_out (p := (decide ((IntKind.wrap .i64 (v7 + v8)) < (List.length v1 : Int))) = true) hk.kn hc (fun e0 => e0))))) fun a w hk=>?_
  refine go hk<|gN<|ge q14 fun a w hk=>wc hk h (fun h hb=>?_) fun h hb=>?_
  ·refine wp_skip ?_
   refine q13 _ _ ?_
   refine wp_block ?_
   refine rg1 hk<|gM<|gD<|gA<|fun a w hk=>?_
   refine wpList_nil ?_
   exact q12 (kl2, v1, v5, v7, (IntKind.wrap .i64 (v8 + 1))) _ _ (Nat.lt_succ_self _) ⟨hk.sub ⟨rfl, rfl, rfl, rfl, rfl, rfl, trivial⟩, h⟩
  refine wp_exit ?_; (repeat first | refine te ?_ | refine be rfl ?_); refine bx ?_
  refine q11 _ _ ?_
  obtain ⟨hc3, h⟩ := chk h
  obtain ⟨hc4, h⟩ := chk h
  obtain ⟨t2, hr_t2, h⟩ := bnd h
  obtain ⟨hc5, h⟩ := chk h
  refine wdrawE (.next [true, true, true, true, true, true, true, true, true, true, true, true, true, false, false, false, false] 13 [true, true, true, true, true, true, true, true, true, true, true, true, true, false, false, false, false] (.next [true, false, false, false, false, false, false, false, false, false, false, false, false, false, false, false, false] 14 [true, true, true, true, true, true, true, true, true, true, true, true, true, true, false, false, false] (.next [true, false, false, false, false, false, false, false, false, false, false, false, false, false, false, false, false] 15 [true, true, true, true, true, true, true, true, true, true, true, true, true, true, true, false, false] (.leaf [false, false, false, false, false, false, false, false, false, false, false, false, false, false, false, false, true])))) [(45, [], .lit (.slice xd4 (List.length l4) xc4)), (46, [], .lit (.pointer (some ⟨b0, 0, none⟩))), (47, [], .row (r_ApiStep_cells v1)), (48, [], .lit (.int .i64 v7)), (49, [], .ref (ApiStep.cells (List.getD v1 (Int.toNat v7) default))), (50, [], .agg ((ApiStep.cells (List.getD v1 (Int.toNat v7) default)))), (51, [], .row (r_ApiStep_cells v1)), (52, [], .lit (.int .i64 v7)), (53, [], .lit (.int .i64 (IntKind.wrap .i64 (v7 + 1)))), (54, [], .lit (.int .i64 v7)), (55, [], .lit (.int .i64 v8)), (56, [], .lit (.int .i64 (IntKind.wrap .i64 (v7 + v8)))), (57, [], .row (r_ApiStep_cells (List.take (Int.toNat (IntKind.wrap .i64 (v7 + v8)) - Int.toNat (IntKind.wrap .i64 (v7 + 1))) (List.drop (Int.toNat (IntKind.wrap .i64 (v7 + 1))) v1)))), (58, [], .agg []), (59, [], .agg []), (60, [], .agg []), (6, [], .agg [])] (by kernel_rfl) (by kernel_rfl) (by kernel_rfl) (by kernel_rfl) hk ?_; clear hk
  refine gnext ?_ rfl rfl rfl rfl rfl ?_
  ·refine gfun (y := .lit (.slice xd4 (List.length l4) xc4)) rfl rfl rfl rfl (fun a w hk => f_move hk h0 rfl) ?_
   refine gfun (y := .lit (.pointer (some ⟨b0, 0, none⟩))) rfl rfl rfl rfl (fun a w hk => f_move hk h0 rfl) ?_
   refine gfun (y := .row (r_ApiStep_cells v1)) rfl rfl rfl rfl (fun a w hk => f_move hk h0 rfl) ?_
   refine gfun (y := .lit (.int .i64 v7)) rfl rfl rfl rfl (fun a w hk => f_move hk h0 rfl) ?_
   refine gfun (y := .ref (ApiStep.cells (List.getD v1 (Int.toNat v7) default))) rfl rfl rfl rfl (fun a w hk => f_indexAddr (R := r_ApiStep_cells) (f := ApiStep.cells) (l := v1) (sz := 2) r_ApiStep_cells_eq (fun _ => rfl) hk h0 rfl rfl underlying22 (by kernel_rfl) hc3) ?_
   refine gfun (y := .agg ((ApiStep.cells (List.getD v1 (Int.toNat v7) default)))) rfl rfl rfl rfl (fun a w hk => f_load hk h0 rfl underlying29 rfl rfl rfl rfl) ?_
   refine gfun (y := .row (r_ApiStep_cells v1)) rfl rfl rfl rfl (fun a w hk => f_move hk h0 rfl) ?_
   refine gfun (y := .lit (.int .i64 v7)) rfl rfl rfl rfl (fun a w hk => f_move hk h0 rfl) ?_
   refine gfun (y := .lit (.int .i64 (IntKind.wrap .i64 (v7 + 1)))) rfl rfl rfl rfl (fun a w hk => (f_pure (p_add hk.kn h0 rfl rfl))) ?_
   refine gfun (y := .lit (.int .i64 v7)) rfl rfl rfl rfl (fun a w hk => f_move hk h0 rfl) ?_
   refine gfun (y := .lit (.int .i64 v8)) rfl rfl rfl rfl (fun a w hk => f_move hk h0 rfl) ?_
   refine gfun (y := .lit (.int .i64 (IntKind.wrap .i64 (v7 + v8)))) rfl rfl rfl rfl (fun a w hk => (f_pure (p_add hk.kn h0 rfl rfl))) ?_
   refine gfun (y := .row (r_ApiStep_cells (List.take (Int.toNat (IntKind.wrap .i64 (v7 + v8)) - Int.toNat (IntKind.wrap .i64 (v7 + 1))) (List.drop (Int.toNat (IntKind.wrap .i64 (v7 + 1))) v1)))) rfl rfl rfl rfl (fun a w hk => f_part (R := r_ApiStep_cells) (f := ApiStep.cells) (l := v1) (sz := 2) r_ApiStep_cells_eq (fun _ => rfl) hk h0 rfl underlying22 (by kernel_rfl) rfl rfl hc4) ?_
   refine gskip rfl rfl ?_
   refine gskip rfl rfl ?_
   refine gskip rfl rfl ?_
   refine gskip rfl rfl ?_
   exact gend
  ·intro σD a w opsD QD hk hf hQ hX
   refine l_callH (I1 := (OCM.items b0 xd2 xc2 (⟨l2⟩ : OCM))) (I2 := [orow xd4 xc4 59 9 ApiIns.cells l4]) (js := [2, 2]) hk rfl rfl hf rfl rfl func70 rfl (by kernel_rfl) (hzI (⟨l2⟩ : OCM) (List.getD v1 (Int.toNat v7) default) (List.take (Int.toNat (IntKind.wrap .i64 (v7 + v8)) - Int.toNat (IntKind.wrap .i64 (v7 + 1))) (List.drop (Int.toNat (IntKind.wrap .i64 (v7 + 1))) v1)) _ hr_t2 b0 xd2 xc2) ?_; clear hk
   rintro _ _ ⟨zd1, zc1, rfl, rfl⟩ a w hk
   refine hQ _ _ a w ?_ hk; clear hk hQ hf hX
   refine ⟨[(45, [], .lit (.slice xd4 (List.length l4) xc4)), (46, [], .lit (.pointer (some ⟨b0, 0, none⟩))), (47, [], .row (r_ApiStep_cells v1)), (48, [], .lit (.int .i64 v7)), (49, [], .ref (ApiStep.cells (List.getD v1 (Int.toNat v7) default))), (50, [], .agg ((ApiStep.cells (List.getD v1 (Int.toNat v7) default)))), (51, [], .row (r_ApiStep_cells v1)), (52, [], .lit (.int .i64 v7)), (53, [], .lit (.int .i64 (IntKind.wrap .i64 (v7 + 1)))), (54, [], .lit (.int .i64 v7)), (55, [], .lit (.int .i64 v8)), (56, [], .lit (.int .i64 (IntKind.wrap .i64 (v7 + v8)))), (57, [], .row (r_ApiStep_cells (List.take (Int.toNat (IntKind.wrap .i64 (v7 + v8)) - Int.toNat (IntKind.wrap .i64 (v7 + 1))) (List.drop (Int.toNat (IntKind.wrap .i64 (v7 + 1))) v1)))), (58, [], .agg ((ApiIns.cells t2.1))), (59, [], .agg []), (60, [], .agg []), (6, [], .agg [])], And.intro rfl (And.intro rfl (And.intro rfl (And.intro rfl (And.intro rfl (And.intro rfl (And.intro rfl (And.intro rfl (And.intro rfl (And.intro rfl (And.intro rfl (And.intro rfl (And.intro rfl (trivial))))))))))))), rfl, ?_⟩
   refine gnext ?_ rfl rfl rfl rfl rfl ?_
   ·refine gfun (y := .lit (.slice xd4 (List.length l4) xc4)) rfl rfl rfl rfl (fun a w hk => f_move hk h0 rfl) ?_
    refine gskip rfl rfl ?_
    refine gskip rfl rfl ?_
    refine gskip rfl rfl ?_
    refine gskip rfl rfl ?_
    refine gskip rfl rfl ?_
    refine gskip rfl rfl ?_
    refine gskip rfl rfl ?_
    refine gskip rfl rfl ?_
    refine gskip rfl rfl ?_
    refine gskip rfl rfl ?_
    refine gskip rfl rfl ?_
    refine gskip rfl rfl ?_
    refine gskip rfl rfl ?_
    refine gskip rfl rfl ?_
    refine gskip rfl rfl ?_
    refine gskip rfl rfl ?_
    exact gend
   ·intro σD a w opsD QD hk hf hQ hX
    refine l_buildSlice (f := ApiIns.cells) (l := ([t2.1] : List ApiIns)) hk rfl hf rfl underlying55 rfl rfl rfl rfl (fun _ => rfl) rfl ?_; clear hk; intro bx2 a w hk
    refine hQ _ _ a w ?_ hk; clear hk hQ hf hX
    refine ⟨[(45, [], .lit (.slice xd4 (List.length l4) xc4)), (46, [], .lit (.pointer (some ⟨b0, 0, none⟩))), (47, [], .row (r_ApiStep_cells v1)), (48, [], .lit (.int .i64 v7)), (49, [], .ref (ApiStep.cells (List.getD v1 (Int.toNat v7) default))), (50, [], .agg ((ApiStep.cells (List.getD v1 (Int.toNat v7) default)))), (51, [], .row (r_ApiStep_cells v1)), (52, [], .lit (.int .i64 v7)), (53, [], .lit (.int .i64 (IntKind.wrap .i64 (v7 + 1)))), (54, [], .lit (.int .i64 v7)), (55, [], .lit (.int .i64 v8)), (56, [], .lit (.int .i64 (IntKind.wrap .i64 (v7 + v8)))), (57, [], .row (r_ApiStep_cells (List.take (Int.toNat (IntKind.wrap .i64 (v7 + v8)) - Int.toNat (IntKind.wrap .i64 (v7 + 1))) (List.drop (Int.toNat (IntKind.wrap .i64 (v7 + 1))) v1)))), (58, [], .agg ((ApiIns.cells t2.1))), (59, [], .lit (.slice (some ⟨bx2, 0, none⟩) (List.length ([t2.1] : List ApiIns)) 1)), (60, [], .agg []), (6, [], .agg [])], And.intro rfl (And.intro rfl (And.intro rfl (And.intro rfl (And.intro rfl (And.intro rfl (And.intro rfl (And.intro rfl (And.intro rfl (And.intro rfl (And.intro rfl (And.intro rfl (And.intro rfl (And.intro rfl (trivial)))))))))))))), rfl, ?_⟩
    refine gnext ?_ rfl rfl rfl rfl rfl ?_
    ·refine gfun (y := .lit (.slice xd4 (List.length l4) xc4)) rfl rfl rfl rfl (fun a w hk => f_move hk h0 rfl) ?_
     refine gskip rfl rfl ?_
     refine gskip rfl rfl ?_
     refine gskip rfl rfl ?_
     refine gskip rfl rfl ?_
     refine gskip rfl rfl ?_
     refine gskip rfl rfl ?_
     refine gskip rfl rfl ?_
     refine gskip rfl rfl ?_
     refine gskip rfl rfl ?_
     refine gskip rfl rfl ?_
     refine gskip rfl rfl ?_
     refine gskip rfl rfl ?_
     refine gskip rfl rfl ?_
     refine gskip rfl rfl ?_
     refine gskip rfl rfl ?_
     refine gskip rfl rfl ?_
     exact gend
    ·intro σD a w opsD QD hk hf hQ hX
     refine l_append (l2 := ([t2.1] : List ApiIns)) (l3 := (l4 ++ ([t2.1] : List ApiIns))) (I' := fun ad2 cap2 => [orow (some ⟨bx2, 0, none⟩) 1 59 9 ApiIns.cells ([t2.1] : List ApiIns), blk b0 93 ([.lit (.slice zd1 (List.length t2.2.out) zc1)]), orow zd1 zc1 55 1 c_s_ApiIns_cells t2.2.out, orow ad2 cap2 59 9 ApiIns.cells (l4 ++ ([t2.1] : List ApiIns))]) (j := 3) hk rfl rfl hf rfl (own_src hk (j := 0) rfl rfl (fun _ => rfl) underlying55) underlying55 (by kernel_rfl) hc5 rfl (fun _ _ => rfl) ?_; clear hk; intro ad2 cap2 a w hk
     replace hk := S.dropI (I' := [blk b0 93 ([.lit (.slice zd1 (List.length t2.2.out) zc1)]), orow zd1 zc1 55 1 c_s_ApiIns_cells t2.2.out, orow ad2 cap2 59 9 ApiIns.cells (l4 ++ ([t2.1] : List ApiIns))]) hk 0 rfl
     refine hQ _ _ a w ?_ hk; clear hk hQ hf hX
     refine ⟨[(45, [], .lit (.slice xd4 (List.length l4) xc4)), (46, [], .lit (.pointer (some ⟨b0, 0, none⟩))), (47, [], .row (r_ApiStep_cells v1)), (48, [], .lit (.int .i64 v7)), (49, [], .ref (ApiStep.cells (List.getD v1 (Int.toNat v7) default))), (50, [], .agg ((ApiStep.cells (List.getD v1 (Int.toNat v7) default)))), (51, [], .row (r_ApiStep_cells v1)), (52, [], .lit (.int .i64 v7)), (53, [], .lit (.int .i64 (IntKind.wrap .i64 (v7 + 1)))), (54, [], .lit (.int .i64 v7)), (55, [], .lit (.int .i64 v8)), (56, [], .lit (.int .i64 (IntKind.wrap .i64 (v7 + v8)))), (57, [], .row (r_ApiStep_cells (List.take (Int.toNat (IntKind.wrap .i64 (v7 + v8)) - Int.toNat (IntKind.wrap .i64 (v7 + 1))) (List.drop (Int.toNat (IntKind.wrap .i64 (v7 + 1))) v1)))), (58, [], .agg ((ApiIns.cells t2.1))), (59, [], .lit (.slice (some ⟨bx2, 0, none⟩) (List.length ([t2.1] : List ApiIns)) 1)), (60, [], .lit (.slice ad2 (List.length (l4 ++ ([t2.1] : List ApiIns))) cap2)), (6, [], .lit (.slice ad2 (List.length (l4 ++ ([t2.1] : List ApiIns))) cap2))], And.intro rfl (And.intro rfl (And.intro rfl (And.intro rfl (And.intro rfl (And.intro rfl (And.intro rfl (And.intro rfl (And.intro rfl (And.intro rfl (And.intro rfl (And.intro rfl (And.intro rfl (And.intro rfl (And.intro rfl (trivial))))))))))))))), rfl, ?_⟩
     refine glast ?_ ?_
     ·refine gskip rfl rfl ?_
      refine gskip rfl rfl ?_
      refine gskip rfl rfl ?_
      refine gskip rfl rfl ?_
      refine gskip rfl rfl ?_
      refine gskip rfl rfl ?_
      refine gskip rfl rfl ?_
      refine gskip rfl rfl ?_
      refine gskip rfl rfl ?_
      refine gskip rfl rfl ?_
      refine gskip rfl rfl ?_
      refine gskip rfl rfl ?_
      refine gskip rfl rfl ?_
      refine gskip rfl rfl ?_
      refine gskip rfl rfl ?_
      refine gskip rfl rfl ?_
      refine gfun (y := .lit (.slice ad2 (List.length (l4 ++ ([t2.1] : List ApiIns))) cap2)) rfl rfl rfl rfl (fun a w hk => f_assign hk h0 rfl) ?_
      exact gend
     ·intro a w hk; simp only [stD, cond_true] at hk
      refine rg1 hk<|gM<|gM<|gD<|gA<|fun a w hk=>?_
      refine wpList_nil ?_
      exact q7 (kl1, (l4 ++ ([t2.1] : List ApiIns)), t2.2.out, v1, v5, (IntKind.wrap .i64 (v7 + v8)), ad2, cap2, zd1, zc1) _ _ (Nat.lt_succ_self _) ⟨(S.pick hk (js := [1, 1, 2]) rfl).sub ⟨rfl, rfl, rfl, rfl, rfl, trivial⟩, h⟩
 refine wp_exit ?_; (repeat first | refine te ?_ | refine be rfl ?_); refine bx ?_
 refine q5 _ _ ?_
 refine rg hk fun _ q18=>gM<|gP (p_nilCheck · h0 rfl)<|gF 0 underlying93<|gB 1 underlying48<|gM<|gM<|fun a w hk=>?_
 obtain ⟨hc6, h⟩ := chk h
 refine lf (y := elA xd2 1 v5) hk (f_idxOwn (f := c_s_ApiIns_cells) (l := l2) hk h0 (j := 2) rfl rfl (by first | rfl | simp only [List.length_set]) rfl underlying48 (by kernel_rfl) hc6) fun a w hk=>?_
 replace hk := S.freezeR (I' := [blk b0 93 ([.lit (.slice xd2 (List.length l2) xc2)]), orow xd2 xc2 55 1 c_s_ApiIns_cells l2]) r_ApiIns_cells_eq hk (j := 0) rfl (t := 69) rfl rfl
 refine l_storeOwn (f := c_s_ApiIns_cells) (l := l2) (v := l4) (I' := [blk b0 93 ([.lit (.slice xd2 (List.length l2) xc2)]), orow xd2 xc2 55 1 c_s_ApiIns_cells (List.set l2 (Int.toNat v5) l4)]) (j := 1) hk rfl rfl hc6 rfl rfl rfl (by kernel_rfl) rfl fun w hk => ?_
 refine lend (q18 _ _ ?_)
 refine rg hk fun _ q19=>gM<|gA<|ge q19 fun a w hk=>?_
 refine wp_ret ?_
 replace hk := S.cast (I' := [blk b0 93 ([.lit (.slice xd2 (List.length (List.set l2 (Int.toNat v5) l4)) xc2)]), orow xd2 xc2 55 1 c_s_ApiIns_cells (List.set l2 (Int.toNat v5) l4)]) hk (by first | rfl | simp only [List.length_set]) rfl
 obtain rfl := Option.some.inj h
 replace hk := S.keep (I1 := [blk b0 93 ([.lit (.slice xd2 (List.length (List.set l2 (Int.toNat v5) l4)) xc2)]), orow xd2 xc2 55 1 c_s_ApiIns_cells (List.set l2 (Int.toNat v5) l4)]) (I2 := []) (js := [1, 1]) hk rfl
 exact fretH1 hk rfl (rtmp hk rfl) ⟨xd2, xc2, rfl, rfl⟩
end Go.Proofs.Ytbjbgodcenopnaa
namespace Go.Proofs.Ytbjbgodcenopnaa
open FW _root_.Go.Proofs.Try
set_option linter.unusedVariables false
set_option maxRecDepth 20000
set_option maxHeartbeats 10000000
theorem cm_ins.bok (zB : OCM → List ApiStep → Option (Int × OCM)) (zI : OCM → ApiStep → List ApiStep → Option (ApiIns × OCM)) (zK : OCM → List ApiArg → Option (List Int × OCM)) (zO : OCM → ApiStep → List ApiStep → Option (ApiIns × OCM)) (zY : OCM → List ApiStep → Int → Option (List Int × OCM)) (zb : OCM → ApiStep → Option (Int × OCM)) (zR : OCM → List ApiStep → Option (ApiIns × OCM)) (zT : OCM → ApiStep → List ApiStep → Option (ApiIns × OCM)) (zE : OCM → ApiStep → List ApiStep → Option (ApiIns × OCM)) (hzB : ZzB zB) (hzI : ZzI zI) (hzK : ZzK zK) (hzO : ZzO zO) (hzY : ZzY zY) (hzb : Zzb zb) (hzR : ZzR zR) (hzT : ZzT zT) (hzE : ZzE zE) (K : Nat) (v0 : OCM) (v1 : ApiStep) (v2 : List ApiStep) (r : ApiIns × OCM) (h : cm_ins.b zB zI zK zO zY zb zR zT zE K v0 v1 v2 = some r) :
  ∀ (b0 : Nat) (xd0_0 : Option Addr) (xc0_0 : Nat), OkH prog 70 [.lit (.pointer (some ⟨b0, 0, none⟩)), .agg (ApiStep.cells v1), .row (r_ApiStep_cells v2)] (OCM.items b0 xd0_0 xc0_0 v0) (fun y I => ∃ (zxd0_0 : Option Addr) (zxc0_0 : Nat), y = .agg (ApiIns.cells r.1) ∧ I = OCM.items b0 zxd0_0 zxc0_0 r.2) := by
 intro b0 xd0_0 xc0_0
 refine enterH (xs := [.lit (.pointer (some ⟨b0, 0, none⟩)), .agg (ApiStep.cells v1), .row (r_ApiStep_cells v2)]) func70 rfl ntmps70 rfl ?_
 intro M w0 a hk
 replace hk : S M w0 a w0.toWorld 79 [blk b0 93 ([.lit (.slice xd0_0 (List.length v0.out) xc0_0)]), orow xd0_0 xc0_0 55 1 c_s_ApiIns_cells v0.out] [(0, [], .lit (.pointer (some ⟨b0, 0, none⟩))), (1, [], .agg ((ApiStep.cells v1))), (2, [], .row (r_ApiStep_cells v2))] := hk
 unfold cm_ins.b at h
 refine wreg fun _ q1 => ?_
 refine l_box (cs := (ApiStep.cells v1)) hk rfl rfl rfl rfl rfl ?_; clear hk; intro bx1 a w hk
 refine l_alloc (zs := (ApiIns.cells (⟨0, [], [], [], (⟨[], [], []⟩ : ApiPred), [], false⟩ : ApiIns))) [] hk rfl rfl rfl rfl ?_; clear hk; intro bx2 a w hk
 refine lend (q1 _ _ ?_)
 refine wseq fun _ q2 => ?_
 refine rg hk fun _ q3=>gF 0 underlying29<|gB 1 underlying9<|fun a w hk=>?_
 obtain ⟨t1, hr_t1, h⟩ := bnd h
 refine lf (y := .lit (.int .i64 t1)) hk (f_call hk h0 rfl rfl func99 rfl (by kernel_rfl) (code_simple.ok v1.Name _ hr_t1)) fun a w hk=>?_
 refine go hk<|gA<|ge q3 fun a w hk=>?_
 refine rg hk fun _ q4=>gM<|gP (p_neq · h0 rfl rfl)<|ge q4 fun a w hk=>wc hk h (fun h hb=>?_) fun h hb=>?_
 ·refine rg hk fun _ q5=>gM<|fun a w hk=>?_
  refine lf (y := .agg ((ApiIns.cells (⟨t1, [], [], [], (⟨[], [], []⟩ : ApiPred), [], false⟩ : ApiIns)))) hk (f_buildN [] hk h0 rfl rfl rfl) fun a w hk=>?_
  refine l_alloc (zs := (ApiIns.cells (⟨0, [], [], [], (⟨[], [], []⟩ : ApiPred), [], false⟩ : ApiIns))) [] hk rfl rfl rfl rfl ?_; clear hk; intro bx3 a w hk
  refine st0 (cs' := (ApiIns.cells (⟨t1, [], [], [], (⟨[], [], []⟩ : ApiPred), [], false⟩ : ApiIns))) hk rfl (by kernel_rfl) fun w hk => ?_
  refine lend (q5 _ _ ?_)
  refine wseqJ (fun a w => ∃ (y5 : ApiIns), S M w0 a w 79 [blk bx3 59 ((ApiIns.cells y5)), blk bx2 59 ((ApiIns.cells (⟨0, [], [], [], (⟨[], [], []⟩ : ApiPred), [], false⟩ : ApiIns))), blk b0 93 ([.lit (.slice xd0_0 (List.length v0.out) xc0_0)]), orow xd0_0 xc0_0 55 1 c_s_ApiIns_cells v0.out] [(6, [], .lit (.pointer (some ⟨bx2, 0, none⟩))), (8, [], .lit (.pointer (some ⟨bx3, 0, none⟩)))] ∧ cm_ins.j1 zB zI zK zO zY zb zR zT zE K v0 y5 = some r) ?_ ?_
  ·clear hk h
   rintro a w ⟨y5, hk, h⟩
   unfold cm_ins.j1 at h
   refine wreg fun _ q7 => ?_
   refine lf hk (f_loadBlk hk h0 (j := 0) rfl rfl underlying59 rfl rfl rfl rfl) fun a w hk=>?_
   refine st1 (cs' := (ApiIns.cells y5)) hk rfl (by kernel_rfl) fun w hk => ?_
   refine lend (q7 _ _ ?_)
   refine wp_ret ?_
   obtain rfl := Option.some.inj h
   have hr_0 := rres_keep (I1 := [blk b0 93 ([.lit (.slice xd0_0 (List.length v0.out) xc0_0)]), orow xd0_0 xc0_0 55 1 c_s_ApiIns_cells v0.out]) (I2 := [blk bx3 59 ((ApiIns.cells y5)), blk bx2 59 ((ApiIns.cells y5))]) (js := [3, 3]) rfl (rcell (tt := 6) hk rfl (j := 1) rfl underlying59 rfl (by kernel_rfl))
   replace hk := S.keep (I1 := [blk b0 93 ([.lit (.slice xd0_0 (List.length v0.out) xc0_0)]), orow xd0_0 xc0_0 55 1 c_s_ApiIns_cells v0.out]) (I2 := [blk bx3 59 ((ApiIns.cells y5)), blk bx2 59 ((ApiIns.cells y5))]) (js := [3, 3]) hk rfl
   exact fretH1 hk rfl hr_0 ⟨xd0_0, xc0_0, rfl, rfl⟩
  ·intro K' q6
   refine rg hk fun _ q8=>gM<|ge q8 fun a w hk=>?_
   refine wp_block ?_
   refine wseqJ (fun a w => ∃ (y5 : ApiIns) (y3 : ApiStep) (v20 : Int) (v25 : Bool), S M w0 a w 79 [blk bx3 59 ((ApiIns.cells y5)), blk bx2 59 ((ApiIns.cells (⟨0, [], [], [], (⟨[], [], []⟩ : ApiPred), [], false⟩ : ApiIns))), blk bx1 29 ((ApiStep.cells y3)), blk b0 93 ([.lit (.slice xd0_0 (List.length v0.out) xc0_0)]), orow xd0_0 xc0_0 55 1 c_s_ApiIns_cells v0.out] [(4, [], .lit (.pointer (some ⟨bx1, 0, none⟩))), (6, [], .lit (.pointer (some ⟨bx2, 0, none⟩))), (8, [], .lit (.pointer (some ⟨bx3, 0, none⟩))), (20, [], .lit (.int .i64 v20)), (25, [], .lit (.bool v25))] ∧ cm_ins.j2 zB zI zK zO zY zb zR zT zE K v0 y5 y3 v20 v25 = some r) ?_ ?_
   ·clear hk h
    rintro a w ⟨y5, y3, v20, v25, hk, h⟩
    unfold cm_ins.j2 at h
    refine wc hk h (fun h hb=>?_) fun h hb=>?_
    ·refine rg1 hk<|gF 1 underlying29<|gB 2 underlying27<|fun a w hk=>?_
     obtain ⟨t2, hr_t2, h⟩ := bnd h
     refine lf (y := .row (r_c_i64 t2)) hk (f_call hk h0 rfl rfl func100 rfl (by kernel_rfl) (code_numbers.ok K y3.Args _ hr_t2)) fun a w hk=>?_
     refine go hk<|gF 2 underlying59<|fun a w hk=>?_
     refine st0 (cs' := (ApiIns.cells (⟨y5.Op, y5.S, t2, y5.V, y5.P, y5.Kids, y5.Flag⟩ : ApiIns))) hk rfl (by kernel_rfl) fun w hk => ?_
     refine wpList_nil ?_
     exact q6 _ _ ⟨(⟨y5.Op, y5.S, t2, y5.V, y5.P, y5.Kids, y5.Flag⟩ : ApiIns), (hk.drop 2).sub ⟨rfl, rfl, trivial⟩, h⟩
    refine wseqJ (fun a w => ∃ (v34 : Bool), S M w0 a w 79 [blk bx3 59 ((ApiIns.cells y5)), blk bx2 59 ((ApiIns.cells (⟨0, [], [], [], (⟨[], [], []⟩ : ApiPred), [], false⟩ : ApiIns))), blk bx1 29 ((ApiStep.cells y3)), blk b0 93 ([.lit (.slice xd0_0 (List.length v0.out) xc0_0)]), orow xd0_0 xc0_0 55 1 c_s_ApiIns_cells v0.out] [(4, [], .lit (.pointer (some ⟨bx1, 0, none⟩))), (6, [], .lit (.pointer (some ⟨bx2, 0, none⟩))), (8, [], .lit (.pointer (some ⟨bx3, 0, none⟩))), (34, [], .lit (.bool v34))] ∧ cm_ins.j3 zB zI zK zO zY zb zR zT zE K v0 y3 y5 v34 = some r) ?_ ?_
    ·clear hk h
     rintro a w ⟨v34, hk, h⟩
     unfold cm_ins.j3 at h
     refine wc hk h (fun h hb=>?_) fun h hb=>?_
     ·refine rg1 hk<|gF 1 underlying29<|gB 2 underlying27<|fun a w hk=>?_
      obtain ⟨t3, hr_t3, h⟩ := bnd h
      refine lf (y := .row (r_ApiValue_cells t3)) hk (f_call hk h0 rfl rfl func101 rfl (by kernel_rfl) (code_values.ok K y3.Args _ hr_t3)) fun a w hk=>?_
      refine go hk<|gF 3 underlying59<|fun a w hk=>?_
      refine st0 (cs' := (ApiIns.cells (⟨y5.Op, y5.S, y5.N, t3, y5.P, y5.Kids, y5.Flag⟩ : ApiIns))) hk rfl (by kernel_rfl) fun w hk => ?_
      refine wpList_nil ?_
      exact q6 _ _ ⟨(⟨y5.Op, y5.S, y5.N, t3, y5.P, y5.Kids, y5.Flag⟩ : ApiIns), (hk.drop 2).sub ⟨rfl, rfl, trivial⟩, h⟩
     refine rg1 hk<|gF 1 underlying29<|gB 2 underlying27<|fun a w hk=>?_
     obtain ⟨t4, hr_t4, h⟩ := bnd h
     refine lf (y := .row (r_c_str t4)) hk (f_call hk h0 rfl rfl func102 rfl (by kernel_rfl) (code_names.ok K y3.Args _ hr_t4)) fun a w hk=>?_
     refine go hk<|gF 1 underlying59<|fun a w hk=>?_
     refine st0 (cs' := (ApiIns.cells (⟨y5.Op, t4, y5.N, y5.V, y5.P, y5.Kids, y5.Flag⟩ : ApiIns))) hk rfl (by kernel_rfl) fun w hk => ?_
     refine wpList_nil ?_
     exact q6 _ _ ⟨(⟨y5.Op, t4, y5.N, y5.V, y5.P, y5.Kids, y5.Flag⟩ : ApiIns), (hk.drop 2).sub ⟨rfl, rfl, trivial⟩, h⟩
    ·intro K' q11
     refine rg hk fun _ q14=>gE<|gA<|ge q14 fun a w hk=>wc hk h (fun h hb=>?_) fun h hb=>?_
     ·refine wp_skip ?_
      exact q11 _ _ ⟨(decide (v20 = 3)), hk.sub ⟨rfl, rfl, rfl, rfl, trivial⟩, h⟩
     refine rg hk fun _ q15=>gE<|gA<|ge q15 fun a w hk=>wc hk h (fun h hb=>?_) fun h hb=>?_
     ·refine wp_skip ?_
      exact q11 _ _ ⟨(decide (v20 = 25)), hk.sub ⟨rfl, rfl, rfl, rfl, trivial⟩, h⟩
     refine rg hk fun _ q16=>gE<|gA<|ge q16 fun a w hk=>wc hk h (fun h hb=>?_) fun h hb=>?_
     ·refine wp_skip ?_
      exact q11 _ _ ⟨(decide (v20 = 29)), hk.sub ⟨rfl, rfl, rfl, rfl, trivial⟩, h⟩
     refine rg1 hk<|gE<|gA<|fun a w hk=>?_
     refine wpList_nil ?_
     exact q11 _ _ ⟨(decide (v20 = 30)), hk.sub ⟨rfl, rfl, rfl, rfl, trivial⟩, h⟩
   ·intro K' q9
    refine rg hk fun _ q18=>gE<|gA<|ge q18 fun a w hk=>wc hk h (fun h hb=>?_) fun h hb=>?_
    ·refine wp_skip ?_
     exact q9 _ _ ⟨(⟨t1, [], [], [], (⟨[], [], []⟩ : ApiPred), [], false⟩ : ApiIns), v1, t1, (decide (t1 = 1)), hk.sub ⟨rfl, rfl, rfl, rfl, rfl, trivial⟩, h⟩
    refine rg hk fun _ q19=>gE<|gA<|ge q19 fun a w hk=>wc hk h (fun h hb=>?_) fun h hb=>?_
    ·refine wp_skip ?_
     exact q9 _ _ ⟨(⟨t1, [], [], [], (⟨[], [], []⟩ : ApiPred), [], false⟩ : ApiIns), v1, t1, (decide (t1 = 2)), hk.sub ⟨rfl, rfl, rfl, rfl, rfl, trivial⟩, h⟩
    refine rg hk fun _ q20=>gE<|gA<|ge q20 fun a w hk=>wc hk h (fun h hb=>?_) fun h hb=>?_
    ·refine wp_skip ?_
     exact q9 _ _ ⟨(⟨t1, [], [], [], (⟨[], [], []⟩ : ApiPred), [], false⟩ : ApiIns), v1, t1, (decide (t1 = 10)), hk.sub ⟨rfl, rfl, rfl, rfl, rfl, trivial⟩, h⟩
    refine rg1 hk<|gE<|gA<|fun a w hk=>?_
    refine wpList_nil ?_
    exact q9 _ _ ⟨(⟨t1, [], [], [], (⟨[], [], []⟩ : ApiPred), [], false⟩ : ApiIns), v1, t1, (decide (t1 = 18)), hk.sub ⟨rfl, rfl, rfl, rfl, rfl, trivial⟩, h⟩
 refine wp_skip ?_
 refine q2 _ _ ?_
 refine wseq fun _ q22 => ?_
 refine rg hk fun _ q23=>gF 0 underlying29<|gB 1 underlying9<|fun a w hk=>?_
 obtain ⟨t5, hr_t5, h⟩ := bnd h
 refine lf (y := .lit (.int .i64 t5)) hk (f_call hk h0 rfl rfl func103 rfl (by kernel_rfl) (code_nested.ok v1.Name _ hr_t5)) fun a w hk=>?_
 refine go hk<|gA<|ge q23 fun a w hk=>?_
 refine rg hk fun _ q24=>gM<|gP (p_neq · h0 rfl rfl)<|ge q24 fun a w hk=>wc hk h (fun h hb=>?_) fun h hb=>?_
 ·refine rg hk fun _ q25=>gM<|gM<|gF 1 underlying29<|gB 1 underlying27<|fun a w hk=>?_
  obtain ⟨t6, hr_t6, h⟩ := bnd h
  refine l_callH (I1 := (OCM.items b0 xd0_0 xc0_0 v0)) (I2 := [blk bx2 59 ((ApiIns.cells (⟨0, [], [], [], (⟨[], [], []⟩ : ApiPred), [], false⟩ : ApiIns))), blk bx1 29 ((ApiStep.cells v1))]) (js := [3, 3]) hk rfl rfl rfl rfl rfl func104 rfl (by kernel_rfl) (hzK v0 v1.Args _ hr_t6 b0 xd0_0 xc0_0) ?_; clear hk
  rintro _ _ ⟨zd1, zc1, rfl, rfl⟩ a w hk
  refine lf (y := .agg ((ApiIns.cells (⟨t5, [], [], [], (⟨[], [], []⟩ : ApiPred), t6.1, false⟩ : ApiIns)))) hk (f_buildN [] hk h0 rfl rfl rfl) fun a w hk=>?_
  refine st2 (cs' := (ApiIns.cells (⟨t5, [], [], [], (⟨[], [], []⟩ : ApiPred), t6.1, false⟩ : ApiIns))) hk rfl (by kernel_rfl) fun w hk => ?_
  refine lend (q25 _ _ ?_)
  refine wp_ret ?_
  obtain rfl := Option.some.inj h
  have hr_0 := rres_keep (I1 := [blk b0 93 ([.lit (.slice zd1 (List.length t6.2.out) zc1)]), orow zd1 zc1 55 1 c_s_ApiIns_cells t6.2.out]) (I2 := [blk bx2 59 ((ApiIns.cells (⟨t5, [], [], [], (⟨[], [], []⟩ : ApiPred), t6.1, false⟩ : ApiIns))), blk bx1 29 ((ApiStep.cells v1))]) (js := [1, 1]) rfl (rcell (tt := 6) hk rfl (j := 2) rfl underlying59 rfl (by kernel_rfl))
  replace hk := S.keep (I1 := [blk b0 93 ([.lit (.slice zd1 (List.length t6.2.out) zc1)]), orow zd1 zc1 55 1 c_s_ApiIns_cells t6.2.out]) (I2 := [blk bx2 59 ((ApiIns.cells (⟨t5, [], [], [], (⟨[], [], []⟩ : ApiPred), t6.1, false⟩ : ApiIns))), blk bx1 29 ((ApiStep.cells v1))]) (js := [1, 1]) hk rfl
  exact fretH1 hk rfl hr_0 ⟨zd1, zc1, rfl, rfl⟩
 refine wp_skip ?_
 refine q22 _ _ ?_
 refine wseq fun _ q26 => ?_
 refine rg hk fun _ q27=>gF 0 underlying29<|gB 1 underlying9<|fun a w hk=>?_
 obtain ⟨t7, hr_t7, h⟩ := bnd h
 refine lf (y := .tup [.row (r_c_i64 t7.1), .lit (.bool t7.2)]) hk (f_call hk h0 rfl rfl func105 rfl (by kernel_rfl) (code_walk.ok v1.Name _ hr_t7)) fun a w hk=>?_
 refine go hk<|gM<|fun a w hk=>?_
 refine go hk<|gX<|gX<|gA<|gA<|ge q27 fun a w hk=>?_
 refine rg hk fun _ q28=>gM<|ge q28 fun a w hk=>wc hk h (fun h hb=>?_) fun h hb=>?_
 ·refine rg hk fun _ q29=>gM<|gF 1 underlying29<|gB 1 underlying27<|fun a w hk=>?_
  obtain ⟨t8, hr_t8, h⟩ := bnd h
  refine lf (y := .row (r_c_str t8)) hk (f_call hk h0 rfl rfl func102 rfl (by kernel_rfl) (code_names.ok K v1.Args _ hr_t8)) fun a w hk=>?_
  refine lf (y := .agg ((ApiIns.cells (⟨20, t8, t7.1, [], (⟨[], [], []⟩ : ApiPred), [], false⟩ : ApiIns)))) hk (f_buildN [] hk h0 rfl rfl rfl) fun a w hk=>?_
  refine st0 (cs' := (ApiIns.cells (⟨20, t8, t7.1, [], (⟨[], [], []⟩ : ApiPred), [], false⟩ : ApiIns))) hk rfl (by kernel_rfl) fun w hk => ?_
  refine lend (q29 _ _ ?_)
  refine wp_ret ?_
  obtain rfl := Option.some.inj h
  have hr_0 := rres_keep (I1 := [blk b0 93 ([.lit (.slice xd0_0 (List.length v0.out) xc0_0)]), orow xd0_0 xc0_0 55 1 c_s_ApiIns_cells v0.out]) (I2 := [blk bx2 59 ((ApiIns.cells (⟨20, t8, t7.1, [], (⟨[], [], []⟩ : ApiPred), [], false⟩ : ApiIns))), blk bx1 29 ((ApiStep.cells v1))]) (js := [3, 3]) rfl (rcell (tt := 6) hk rfl (j := 0) rfl underlying59 rfl (by kernel_rfl))
  replace hk := S.keep (I1 := [blk b0 93 ([.lit (.slice xd0_0 (List.length v0.out) xc0_0)]), orow xd0_0 xc0_0 55 1 c_s_ApiIns_cells v0.out]) (I2 := [blk bx2 59 ((ApiIns.cells (⟨20, t8, t7.1, [], (⟨[], [], []⟩ : ApiPred), [], false⟩ : ApiIns))), blk bx1 29 ((ApiStep.cells v1))]) (js := [3, 3]) hk rfl
  exact fretH1 hk rfl hr_0 ⟨xd0_0, xc0_0, rfl, rfl⟩
 refine wp_skip ?_
 refine q26 _ _ ?_
 refine wseq fun _ q30 => ?_
 refine rg hk fun _ q31=>gF 0 underlying29<|gB 1 underlying9<|fun a w hk=>?_
 obtain ⟨t9, hr_t9, h⟩ := bnd h
 refine lf (y := .lit (.int .i64 t9)) hk (f_call hk h0 rfl rfl func106 rfl (by kernel_rfl) (code_reduce.ok v1.Name _ hr_t9)) fun a w hk=>?_
 refine go hk<|gA<|ge q31 fun a w hk=>?_
 refine rg hk fun _ q32=>gM<|gP (p_neq · h0 rfl rfl)<|ge q32 fun a w hk=>wc hk h (fun h hb=>?_) fun h hb=>?_
 ·refine rg hk fun _ q33=>gM<|fun a w hk=>?_
  refine l_buildSlice (f := c_i64) (l := ([t9] : List Int)) hk rfl rfl rfl underlying57 rfl rfl rfl rfl (fun _ => rfl) rfl ?_; clear hk; intro bx4 a w hk
  replace hk := (S.freezeR (I' := [blk bx2 59 ((ApiIns.cells (⟨0, [], [], [], (⟨[], [], []⟩ : ApiPred), [], false⟩ : ApiIns))), blk bx1 29 ((ApiStep.cells v1)), blk b0 93 ([.lit (.slice xd0_0 (List.length v0.out) xc0_0)]), orow xd0_0 xc0_0 55 1 c_s_ApiIns_cells v0.out]) r_c_i64_eq hk (j := 0) rfl (t := 73) rfl rfl).squash
  refine lf (y := .agg ((ApiIns.cells (⟨33, [], ([t9] : List Int), [], (⟨[], [], []⟩ : ApiPred), [], false⟩ : ApiIns)))) hk (f_buildN [] hk h0 rfl rfl rfl) fun a w hk=>?_
  refine st0 (cs' := (ApiIns.cells (⟨33, [], ([t9] : List Int), [], (⟨[], [], []⟩ : ApiPred), [], false⟩ : ApiIns))) hk rfl (by kernel_rfl) fun w hk => ?_
  refine lend (q33 _ _ ?_)
  refine wp_ret ?_
  obtain rfl := Option.some.inj h
  have hr_0 := rres_keep (I1 := [blk b0 93 ([.lit (.slice xd0_0 (List.length v0.out) xc0_0)]), orow xd0_0 xc0_0 55 1 c_s_ApiIns_cells v0.out]) (I2 := [blk bx2 59 ((ApiIns.cells (⟨33, [], ([t9] : List Int), [], (⟨[], [], []⟩ : ApiPred), [], false⟩ : ApiIns))), blk bx1 29 ((ApiStep.cells v1))]) (js := [3, 3]) rfl (rcell (tt := 6) hk rfl (j := 0) rfl underlying59 rfl (by kernel_rfl))
  replace hk := S.keep (I1 := [blk b0 93 ([.lit (.slice xd0_0 (List.length v0.out) xc0_0)]), orow xd0_0 xc0_0 55 1 c_s_ApiIns_cells v0.out]) (I2 := [blk bx2 59 ((ApiIns.cells (⟨33, [], ([t9] : List Int), [], (⟨[], [], []⟩ : ApiPred), [], false⟩ : ApiIns))), blk bx1 29 ((ApiStep.cells v1))]) (js := [3, 3]) hk rfl
  exact fretH1 hk rfl hr_0 ⟨xd0_0, xc0_0, rfl, rfl⟩
 refine wp_skip ?_
 refine q30 _ _ ?_
 refine rg hk fun _ q34=>gM<|fun a w hk=>?_
 refine lf hk (f_loadBlk hk h0 (j := 1) rfl rfl underlying29 rfl rfl rfl rfl) fun a w hk=>?_
 refine go hk<|gM<|fun a w hk=>?_
 obtain ⟨t10, hr_t10, h⟩ := bnd h
 refine l_callH (I1 := (OCM.items b0 xd0_0 xc0_0 v0)) (I2 := [blk bx2 59 ((ApiIns.cells (⟨0, [], [], [], (⟨[], [], []⟩ : ApiPred), [], false⟩ : ApiIns))), blk bx1 29 ((ApiStep.cells v1))]) (js := [3, 3]) hk rfl rfl rfl rfl rfl func107 rfl (by kernel_rfl) (hzO v0 v1 v2 _ hr_t10 b0 xd0_0 xc0_0) ?_; clear hk
 rintro _ _ ⟨zd2, zc2, rfl, rfl⟩ a w hk
 refine st2 (cs' := (ApiIns.cells t10.1)) hk rfl (by kernel_rfl) fun w hk => ?_
 refine lend (q34 _ _ ?_)
 refine wp_ret ?_
 obtain rfl := Option.some.inj h
 have hr_0 := rres_keep (I1 := [blk b0 93 ([.lit (.slice zd2 (List.length t10.2.out) zc2)]), orow zd2 zc2 55 1 c_s_ApiIns_cells t10.2.out]) (I2 := [blk bx2 59 ((ApiIns.cells t10.1)), blk bx1 29 ((ApiStep.cells v1))]) (js := [1, 1]) rfl (rcell (tt := 6) hk rfl (j := 2) rfl underlying59 rfl (by kernel_rfl))
 replace hk := S.keep (I1 := [blk b0 93 ([.lit (.slice zd2 (List.length t10.2.out) zc2)]), orow zd2 zc2 55 1 c_s_ApiIns_cells t10.2.out]) (I2 := [blk bx2 59 ((ApiIns.cells t10.1)), blk bx1 29 ((ApiStep.cells v1))]) (js := [1, 1]) hk rfl
 exact fretH1 hk rfl hr_0 ⟨zd2, zc2, rfl, rfl⟩
theorem cm_kids.bok (zB : OCM → List ApiStep → Option (Int × OCM)) (zI : OCM → ApiStep → List ApiStep → Option (ApiIns × OCM)) (zK : OCM → List ApiArg → Option (List Int × OCM)) (zO : OCM → ApiStep → List ApiStep → Option (ApiIns × OCM)) (zY : OCM → List ApiStep → Int → Option (List Int × OCM)) (zb : OCM → ApiStep → Option (Int × OCM)) (zR : OCM → List ApiStep → Option (ApiIns × OCM)) (zT : OCM → ApiStep → List ApiStep → Option (ApiIns × OCM)) (zE : OCM → ApiStep → List ApiStep → Option (ApiIns × OCM)) (hzB : ZzB zB) (hzI : ZzI zI) (hzK : ZzK zK) (hzO : ZzO zO) (hzY : ZzY zY) (hzb : Zzb zb) (hzR : ZzR zR) (hzT : ZzT zT) (hzE : ZzE zE) (K : Nat) (v0 : OCM) (v1 : List ApiArg) (r : List Int × OCM) (h : cm_kids.b zB zI zK zO zY zb zR zT zE K v0 v1 = some r) :
  ∀ (b0 : Nat) (xd0_0 : Option Addr) (xc0_0 : Nat), OkH prog 104 [.lit (.pointer (some ⟨b0, 0, none⟩)), .row (r_ApiArg_cells v1)] (OCM.items b0 xd0_0 xc0_0 v0) (fun y I => ∃ (zxd0_0 : Option Addr) (zxc0_0 : Nat), y = .row (r_c_i64 r.1) ∧ I = OCM.items b0 zxd0_0 zxc0_0 r.2) := by
 intro b0 xd0_0 xc0_0
 refine enterH (xs := [.lit (.pointer (some ⟨b0, 0, none⟩)), .row (r_ApiArg_cells v1)]) func104 rfl ntmps104 rfl ?_
 intro M w0 a hk
 replace hk : S M w0 a w0.toWorld 23 [blk b0 93 ([.lit (.slice xd0_0 (List.length v0.out) xc0_0)]), orow xd0_0 xc0_0 55 1 c_s_ApiIns_cells v0.out] [(0, [], .lit (.pointer (some ⟨b0, 0, none⟩))), (1, [], .row (r_ApiArg_cells v1))] := hk
 unfold cm_kids.b at h
 refine wreg fun _ q1 => ?_
 refine lf (y := .row (r_c_i64 [])) hk (f_assignNil) fun a w hk=>?_
 refine lend (q1 _ _ ?_)
 refine rg hk fun _ q2=>gA<|fun a w hk=>?_
 replace hk := hk.nilRow 3 1 c_i64 (fun _ => rfl)
 refine lend (q2 _ _ ?_)
 refine wseq fun _ q3 => ?_
 refine rg hk fun _ q4=>gM<|fun a w hk=>?_
 refine lf hk (f_len (R := r_ApiArg_cells) (f := ApiArg.cells) (l := v1) r_ApiArg_cells_eq underlying27 hk h0 rfl) fun a w hk=>?_
 refine go hk<|gM<|ge q4 fun a w hk=>?_
 refine wp_block ?_
 refine wloop (T := Nat × List Int × List (List ApiIns) × List ApiArg × Int × Int × Option Addr × Nat × Option Addr × Nat) (fun x a w => match x with | (kl1, l3, l2, v8, v9, v10, xd3, xc3, xd2, xc2) => S M w0 a w 23 [orow xd3 xc3 3 1 c_i64 l3, blk b0 93 ([.lit (.slice xd2 (List.length l2) xc2)]), orow xd2 xc2 55 1 c_s_ApiIns_cells l2] [(0, [], .lit (.pointer (some ⟨b0, 0, none⟩))), (5, [], .lit (.slice xd3 (List.length l3) xc3)), (8, [], .row (r_ApiArg_cells v8)), (9, [], .lit (.int .i64 v9)), (10, [], .lit (.int .i64 v10))] ∧ cm_kids.l1 zB zI zK zO zY zb zR zT zE K kl1 l3 l2 v8 v9 v10 = some r) (fun x => x.1) (K, ([] : List Int), v0.out, v1, (List.length v1 : Int), 0, none, 0, xd0_0, xc0_0) ⟨hk.sub ⟨rfl, rfl, rfl, rfl, rfl, trivial⟩, h⟩ ?_
 clear hk h
 rintro ⟨kl1, l3, l2, v8, v9, v10, xd3, xc3, xd2, xc2⟩ a w ⟨hk, h⟩ K' q5
 cases kl1 with
 | zero => simp [cm_kids.l1] at h
 | succ kl1 =>
 rw [cm_kids.l1.eq_2] at h
 refine rg hk fun _ q6=>gL<|ge q6 fun a w hk=>?_
 refine wseq fun _ q7 => ?_
 refine wc hk h (fun h hb=>?_) fun h hb=>?_
 ·refine wp_skip ?_
  refine q7 _ _ ?_
  refine wseq fun _ q8 => ?_
  refine wp_block ?_
  refine wreg fun _ q9 => ?_
  obtain ⟨hc1, h⟩ := chk h
  refine lf (y := .ref (ApiArg.cells (List.getD v8 (Int.toNat v10) default))) hk (f_indexAddr (R := r_ApiArg_cells) (f := ApiArg.cells) (l := v8) (sz := 11) r_ApiArg_cells_eq (fun _ => rfl) hk h0 rfl rfl underlying27 (by kernel_rfl) hc1) fun a w hk=>?_
  refine lf hk (f_load hk h0 rfl underlying38 rfl rfl rfl rfl) fun a w hk=>?_
  refine l_alloc (zs := (ApiArg.cells (⟨0, (⟨0, false, 0, 0, [], []⟩ : ApiValue), (⟨[], [], []⟩ : ApiPred), []⟩ : ApiArg))) [] hk rfl rfl rfl rfl ?_; clear hk; intro bx1 a w hk
  refine st0 (cs' := (ApiArg.cells (List.getD v8 (Int.toNat v10) default))) hk rfl (by kernel_rfl) fun w hk => ?_
  refine lend (q9 _ _ ?_)
  refine rg1 hk<|gM<|gM<|gF 10 underlying38<|gB 0 underlying22<|fun a w hk=>?_
  obtain ⟨t1, hr_t1, h⟩ := bnd h
  refine l_callH (I1 := (OCM.items b0 xd2 xc2 (⟨l2⟩ : OCM))) (I2 := [blk bx1 38 ((ApiArg.cells (List.getD v8 (Int.toNat v10) default))), orow xd3 xc3 3 1 c_i64 l3]) (js := [3, 3]) hk rfl rfl rfl rfl rfl func48 rfl (by kernel_rfl) (hzB (⟨l2⟩ : OCM) ((List.getD v8 (Int.toNat v10) default).T) _ hr_t1 b0 xd2 xc2) ?_; clear hk
  rintro _ _ ⟨zd1, zc1, rfl, rfl⟩ a w hk
  refine l_buildSlice (f := c_i64) (l := ([t1.1] : List Int)) hk rfl rfl rfl underlying54 rfl rfl rfl rfl (fun _ => rfl) rfl ?_; clear hk; intro bx2 a w hk
  obtain ⟨hc2, h⟩ := chk h
  refine l_append (l2 := ([t1.1] : List Int)) (l3 := (l3 ++ ([t1.1] : List Int))) (I' := fun ad1 cap1 => [orow (some ⟨bx2, 0, none⟩) 1 3 1 c_i64 ([t1.1] : List Int), blk b0 93 ([.lit (.slice zd1 (List.length t1.2.out) zc1)]), orow zd1 zc1 55 1 c_s_ApiIns_cells t1.2.out, blk bx1 38 ((ApiArg.cells (List.getD v8 (Int.toNat v10) default))), orow ad1 cap1 3 1 c_i64 (l3 ++ ([t1.1] : List Int))]) (j := 4) hk rfl rfl rfl rfl (own_src hk (j := 0) rfl rfl (fun _ => rfl) underlying54) underlying54 (by kernel_rfl) hc2 rfl (fun _ _ => rfl) ?_; clear hk; intro ad1 cap1 a w hk
  replace hk := S.dropI (I' := [blk b0 93 ([.lit (.slice zd1 (List.length t1.2.out) zc1)]), orow zd1 zc1 55 1 c_s_ApiIns_cells t1.2.out, blk bx1 38 ((ApiArg.cells (List.getD v8 (Int.toNat v10) default))), orow ad1 cap1 3 1 c_i64 (l3 ++ ([t1.1] : List Int))]) hk 0 rfl
  refine go hk<|gA<|fun a w hk=>?_
  refine wpList_nil ?_
  refine q8 _ _ ?_
  refine rg1 hk<|gD<|gM<|fun a w hk=>?_
  refine wpList_nil ?_
  exact q5 (kl1, (l3 ++ ([t1.1] : List Int)), t1.2.out, v8, v9, (IntKind.wrap .i64 (v10 + 1)), ad1, cap1, zd1, zc1) _ _ (Nat.lt_succ_self _) ⟨(S.pick (hk.drop 2) (js := [1, 1, 2]) rfl).sub ⟨rfl, rfl, rfl, rfl, rfl, trivial⟩, h⟩
 refine wp_exit ?_; (repeat first | refine te ?_ | refine be rfl ?_); refine bx ?_
 refine q3 _ _ ?_
 refine rg hk fun _ q12=>gM<|gA<|ge q12 fun a w hk=>?_
 refine wp_ret ?_
 replace hk := S.freezeR (I' := [blk b0 93 ([.lit (.slice xd2 (List.length l2) xc2)]), orow xd2 xc2 55 1 c_s_ApiIns_cells l2]) r_c_i64_eq hk (j := 0) rfl (t := 4) rfl rfl
 obtain rfl := Option.some.inj h
 replace hk := S.keep (I1 := [blk b0 93 ([.lit (.slice xd2 (List.length l2) xc2)]), orow xd2 xc2 55 1 c_s_ApiIns_cells l2]) (I2 := []) (js := [1, 1]) hk rfl
 exact fretH1 hk rfl (rtmp hk rfl) ⟨xd2, xc2, rfl, rfl⟩
end Go.Proofs.Ytbjbgodcenopnaa

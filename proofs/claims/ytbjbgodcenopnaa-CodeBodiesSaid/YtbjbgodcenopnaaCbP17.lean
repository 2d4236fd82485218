/- Written by a program of this session (gen.py): the contracts of functions of the program. -/
import Derived.Test.YtbjbgodcenopnaaCbP16
namespace Go.Proofs.Ytbjbgodcenopnaa
set_option linter.unusedVariables false
set_option maxRecDepth 20000
set_option maxHeartbeats 10000000
abbrev ZzB (zB : OCM → List ApiStep → Option (Int × OCM)) : Prop := ∀ (v0 : OCM) (v1 : List ApiStep) (r : Int × OCM), zB v0 v1 = some r → ∀ (b0 : Nat) (xd0_0 : Option Addr) (xc0_0 : Nat), FW.OkH Try.prog 48 [.lit (.pointer (some ⟨b0, 0, none⟩)), .row (r_ApiStep_cells v1)] (OCM.items b0 xd0_0 xc0_0 v0) (fun y I => ∃ (zxd0_0 : Option Addr) (zxc0_0 : Nat), y = .lit (.int .i64 r.1) ∧ I = OCM.items b0 zxd0_0 zxc0_0 r.2)
abbrev ZzI (zI : OCM → ApiStep → List ApiStep → Option (ApiIns × OCM)) : Prop := ∀ (v0 : OCM) (v1 : ApiStep) (v2 : List ApiStep) (r : ApiIns × OCM), zI v0 v1 v2 = some r → ∀ (b0 : Nat) (xd0_0 : Option Addr) (xc0_0 : Nat), FW.OkH Try.prog 70 [.lit (.pointer (some ⟨b0, 0, none⟩)), .agg (ApiStep.cells v1), .row (r_ApiStep_cells v2)] (OCM.items b0 xd0_0 xc0_0 v0) (fun y I => ∃ (zxd0_0 : Option Addr) (zxc0_0 : Nat), y = .agg (ApiIns.cells r.1) ∧ I = OCM.items b0 zxd0_0 zxc0_0 r.2)
abbrev ZzK (zK : OCM → List ApiArg → Option (List Int × OCM)) : Prop := ∀ (v0 : OCM) (v1 : List ApiArg) (r : List Int × OCM), zK v0 v1 = some r → ∀ (b0 : Nat) (xd0_0 : Option Addr) (xc0_0 : Nat), FW.OkH Try.prog 104 [.lit (.pointer (some ⟨b0, 0, none⟩)), .row (r_ApiArg_cells v1)] (OCM.items b0 xd0_0 xc0_0 v0) (fun y I => ∃ (zxd0_0 : Option Addr) (zxc0_0 : Nat), y = .row (r_c_i64 r.1) ∧ I = OCM.items b0 zxd0_0 zxc0_0 r.2)
abbrev ZzO (zO : OCM → ApiStep → List ApiStep → Option (ApiIns × OCM)) : Prop := ∀ (v0 : OCM) (v1 : ApiStep) (v2 : List ApiStep) (r : ApiIns × OCM), zO v0 v1 v2 = some r → ∀ (b0 : Nat) (xd0_0 : Option Addr) (xc0_0 : Nat), FW.OkH Try.prog 107 [.lit (.pointer (some ⟨b0, 0, none⟩)), .agg (ApiStep.cells v1), .row (r_ApiStep_cells v2)] (OCM.items b0 xd0_0 xc0_0 v0) (fun y I => ∃ (zxd0_0 : Option Addr) (zxc0_0 : Nat), y = .agg (ApiIns.cells r.1) ∧ I = OCM.items b0 zxd0_0 zxc0_0 r.2)
abbrev ZzY (zY : OCM → List ApiStep → Int → Option (List Int × OCM)) : Prop := ∀ (v0 : OCM) (v1 : List ApiStep) (v2 : Int) (r : List Int × OCM), zY v0 v1 v2 = some r → ∀ (b0 : Nat) (xd0_0 : Option Addr) (xc0_0 : Nat), FW.OkH Try.prog 131 [.lit (.pointer (some ⟨b0, 0, none⟩)), .row (r_ApiStep_cells v1), .lit (.int .i64 v2)] (OCM.items b0 xd0_0 xc0_0 v0) (fun y I => ∃ (zxd0_0 : Option Addr) (zxc0_0 : Nat), y = .row (r_c_i64 r.1) ∧ I = OCM.items b0 zxd0_0 zxc0_0 r.2)
abbrev Zzb (zb : OCM → ApiStep → Option (Int × OCM)) : Prop := ∀ (v0 : OCM) (v1 : ApiStep) (r : Int × OCM), zb v0 v1 = some r → ∀ (b0 : Nat) (xd0_0 : Option Addr) (xc0_0 : Nat), FW.OkH Try.prog 151 [.lit (.pointer (some ⟨b0, 0, none⟩)), .agg (ApiStep.cells v1)] (OCM.items b0 xd0_0 xc0_0 v0) (fun y I => ∃ (zxd0_0 : Option Addr) (zxc0_0 : Nat), y = .lit (.int .i64 r.1) ∧ I = OCM.items b0 zxd0_0 zxc0_0 r.2)
abbrev ZzR (zR : OCM → List ApiStep → Option (ApiIns × OCM)) : Prop := ∀ (v0 : OCM) (v1 : List ApiStep) (r : ApiIns × OCM), zR v0 v1 = some r → ∀ (b0 : Nat) (xd0_0 : Option Addr) (xc0_0 : Nat), FW.OkH Try.prog 132 [.lit (.pointer (some ⟨b0, 0, none⟩)), .row (r_ApiStep_cells v1)] (OCM.items b0 xd0_0 xc0_0 v0) (fun y I => ∃ (zxd0_0 : Option Addr) (zxc0_0 : Nat), y = .agg (ApiIns.cells r.1) ∧ I = OCM.items b0 zxd0_0 zxc0_0 r.2)
abbrev ZzT (zT : OCM → ApiStep → List ApiStep → Option (ApiIns × OCM)) : Prop := ∀ (v0 : OCM) (v1 : ApiStep) (v2 : List ApiStep) (r : ApiIns × OCM), zT v0 v1 v2 = some r → ∀ (b0 : Nat) (xd0_0 : Option Addr) (xc0_0 : Nat), FW.OkH Try.prog 133 [.lit (.pointer (some ⟨b0, 0, none⟩)), .agg (ApiStep.cells v1), .row (r_ApiStep_cells v2)] (OCM.items b0 xd0_0 xc0_0 v0) (fun y I => ∃ (zxd0_0 : Option Addr) (zxc0_0 : Nat), y = .agg (ApiIns.cells r.1) ∧ I = OCM.items b0 zxd0_0 zxc0_0 r.2)
abbrev ZzE (zE : OCM → ApiStep → List ApiStep → Option (ApiIns × OCM)) : Prop := ∀ (v0 : OCM) (v1 : ApiStep) (v2 : List ApiStep) (r : ApiIns × OCM), zE v0 v1 v2 = some r → ∀ (b0 : Nat) (xd0_0 : Option Addr) (xc0_0 : Nat), FW.OkH Try.prog 134 [.lit (.pointer (some ⟨b0, 0, none⟩)), .agg (ApiStep.cells v1), .row (r_ApiStep_cells v2)] (OCM.items b0 xd0_0 xc0_0 v0) (fun y I => ∃ (zxd0_0 : Option Addr) (zxc0_0 : Nat), y = .agg (ApiIns.cells r.1) ∧ I = OCM.items b0 zxd0_0 zxc0_0 r.2)
theorem cm_body.bok (zB : OCM → List ApiStep → Option (Int × OCM)) (zI : OCM → ApiStep → List ApiStep → Option (ApiIns × OCM)) (zK : OCM → List ApiArg → Option (List Int × OCM)) (zO : OCM → ApiStep → List ApiStep → Option (ApiIns × OCM)) (zY : OCM → List ApiStep → Int → Option (List Int × OCM)) (zb : OCM → ApiStep → Option (Int × OCM)) (zR : OCM → List ApiStep → Option (ApiIns × OCM)) (zT : OCM → ApiStep → List ApiStep → Option (ApiIns × OCM)) (zE : OCM → ApiStep → List ApiStep → Option (ApiIns × OCM)) (hzB : ZzB zB) (hzI : ZzI zI) (hzK : ZzK zK) (hzO : ZzO zO) (hzY : ZzY zY) (hzb : Zzb zb) (hzR : ZzR zR) (hzT : ZzT zT) (hzE : ZzE zE) (K : Nat) (v0 : OCM) (v1 : List ApiStep) (r : Int × OCM) (h : cm_body.b zB zI zK zO zY zb zR zT zE K v0 v1 = some r) :
  ∀ (b0 : Nat) (xd0_0 : Option Addr) (xc0_0 : Nat), FW.OkH Try.prog 48 [.lit (.pointer (some ⟨b0, 0, none⟩)), .row (r_ApiStep_cells v1)] (OCM.items b0 xd0_0 xc0_0 v0) (fun y I => ∃ (zxd0_0 : Option Addr) (zxc0_0 : Nat), y = .lit (.int .i64 r.1) ∧ I = OCM.items b0 zxd0_0 zxc0_0 r.2) := by
 intro b0 xd0_0 xc0_0
 refine FW.enterH (xs := [.lit (.pointer (some ⟨b0, 0, none⟩)), .row (r_ApiStep_cells v1)]) Try.func48 rfl Try.ntmps48 rfl ?_
 intro M w0 a hk
 replace hk : FW.S M w0 a w0.toWorld 72 [FW.blk b0 93 ([.lit (.slice xd0_0 (List.length v0.out) xc0_0)]), FW.orow xd0_0 xc0_0 55 1 c_s_ApiIns_cells v0.out] [(0, [], .lit (.pointer (some ⟨b0, 0, none⟩))), (1, [], .row (r_ApiStep_cells v1))] := hk
 unfold cm_body.b at h
 refine FW.wreg fun _ q1 => ?_
 refine FW.sA hk fun a w hk => ?_
 refine FW.lend (q1 _ _ ?_)
 refine FW.wreg fun _ q2 => ?_
 refine FW.sM hk fun a w hk => ?_
 refine FW.lf (y := .lit (.pointer (some ⟨b0, 0, none⟩))) hk ((FW.f_pure (FW.p_nilCheck hk.kn FW.h0 rfl))) fun a w hk => ?_
 refine FW.sFp 0 hk Try.underlying93 fun a w hk => ?_
 refine FW.lf (y := .lit (.slice xd0_0 (List.length v0.out) xc0_0)) hk (FW.f_loadBlk1 hk FW.h0 (j := 0) rfl rfl Try.underlying48 rfl rfl) fun a w hk => ?_
 refine FW.lf (y := .lit (.int .i64 (List.length v0.out : Int))) hk ((FW.f_pure (FW.p_len Try.underlying48 hk.kn FW.h0 rfl))) fun a w hk => ?_
 refine FW.sA hk fun a w hk => ?_
 refine FW.lend (q2 _ _ ?_)
 refine FW.wreg fun _ q3 => ?_
 refine FW.sM hk fun a w hk => ?_
 refine FW.sM hk fun a w hk => ?_
 refine FW.lf (y := .lit (.pointer (some ⟨b0, 0, none⟩))) hk ((FW.f_pure (FW.p_nilCheck hk.kn FW.h0 rfl))) fun a w hk => ?_
 refine FW.sFp 0 hk Try.underlying93 fun a w hk => ?_
 refine FW.lf (y := .lit (.slice xd0_0 (List.length v0.out) xc0_0)) hk (FW.f_loadBlk1 hk FW.h0 (j := 0) rfl rfl Try.underlying48 rfl rfl) fun a w hk => ?_
 refine FW.l_buildSlice (f := fun _ : Unit => [FW.AV.lit (.slice none 0 0)]) (l := [()]) hk rfl rfl rfl Try.underlying48 rfl rfl rfl rfl (fun _ => rfl) rfl ?_; clear hk; intro bx1 a w hk
 replace hk := FW.S.rowNil (f := c_s_ApiIns_cells) (z := []) hk rfl (fun _ => rfl)
 obtain ⟨hc1, h⟩ := FW.chk h
 refine FW.l_append (l2 := ([[]] : List (List ApiIns))) (l3 := (v0.out ++ ([[]] : List (List ApiIns)))) (I' := fun ad1 cap1 => [FW.orow (some ⟨bx1, 0, none⟩) 1 55 1 c_s_ApiIns_cells ([[]] : List (List ApiIns)), FW.blk b0 93 ([.lit (.slice xd0_0 (List.length v0.out) xc0_0)]), FW.orow ad1 cap1 55 1 c_s_ApiIns_cells (v0.out ++ ([[]] : List (List ApiIns)))]) (j := 2) hk rfl rfl rfl rfl (FW.own_src hk (j := 0) rfl rfl (fun _ => rfl) Try.underlying48) Try.underlying48 (by kernel_rfl) hc1 rfl (fun _ _ => rfl) ?_; clear hk; intro ad1 cap1 a w hk
 replace hk := FW.S.dropI (I' := [FW.blk b0 93 ([.lit (.slice xd0_0 (List.length v0.out) xc0_0)]), FW.orow ad1 cap1 55 1 c_s_ApiIns_cells (v0.out ++ ([[]] : List (List ApiIns)))]) hk 0 rfl
 refine FW.lf (y := .lit (.pointer (some ⟨b0, 0, none⟩))) hk ((FW.f_pure (FW.p_nilCheck hk.kn FW.h0 rfl))) fun a w hk => ?_
 refine FW.sFp 0 hk Try.underlying93 fun a w hk => ?_
 refine FW.st0 (cs' := [.lit (.slice ad1 (List.length (v0.out ++ ([[]] : List (List ApiIns)))) cap1)]) hk rfl (by kernel_rfl) fun w hk => ?_
 refine FW.lend (q3 _ _ ?_)
 refine FW.wreg fun _ q4 => ?_
 refine FW.sA hk fun a w hk => ?_
 replace hk := hk.nilRow 59 9 ApiIns.cells (fun _ => rfl)
 refine FW.lend (q4 _ _ ?_)
 refine FW.wseq fun _ q5 => ?_
 refine FW.wreg fun _ q6 => ?_
 refine FW.sA hk fun a w hk => ?_
 refine FW.lend (q6 _ _ ?_)
 refine wp_block ?_
 refine FW.wloop (T := Nat × List ApiIns × List (List ApiIns) × List ApiStep × Int × Int × Option Addr × Nat × Option Addr × Nat) (fun x a w => match x with | (kl1, l4, l2, v1, v5, v7, xd4, xc4, xd2, xc2) => FW.S M w0 a w 72 [FW.orow xd4 xc4 59 9 ApiIns.cells l4, FW.blk b0 93 ([.lit (.slice xd2 (List.length l2) xc2)]), FW.orow xd2 xc2 55 1 c_s_ApiIns_cells l2] [(0, [], .lit (.pointer (some ⟨b0, 0, none⟩))), (1, [], .row (r_ApiStep_cells v1)), (5, [], .lit (.int .i64 v5)), (6, [], .lit (.slice xd4 (List.length l4) xc4)), (7, [], .lit (.int .i64 v7))] ∧ cm_body.l1 zB zI zK zO zY zb zR zT zE K kl1 l4 l2 v1 v5 v7 = some r) (fun x => x.1) (K, ([] : List ApiIns), (v0.out ++ ([[]] : List (List ApiIns))), v1, (List.length v0.out : Int), 0, none, 0, ad1, cap1) ⟨hk.sub ⟨rfl, rfl, rfl, rfl, rfl, trivial⟩, h⟩ ?_
 clear hk h
 rintro ⟨kl1, l4, l2, v1, v5, v7, xd4, xc4, xd2, xc2⟩ a w ⟨hk, h⟩ K' q7
 cases kl1 with
 | zero => simp [cm_body.l1] at h
 | succ kl1 =>
 rw [cm_body.l1.eq_2] at h
 refine FW.wseq fun _ q8 => ?_
 refine FW.wreg fun _ q9 => ?_
 refine FW.sM hk fun a w hk => ?_
 refine FW.sM hk fun a w hk => ?_
 refine FW.lf (y := .lit (.int .i64 (List.length v1 : Int))) hk (FW.f_len (R := r_ApiStep_cells) (f := ApiStep.cells) (l := v1) r_ApiStep_cells_eq Try.underlying22 hk FW.h0 rfl) fun a w hk => ?_
 refine FW.sLt hk fun a w hk => ?_
 refine FW.lend (q9 _ _ ?_)
 refine FW.wcondF (b := (decide (v7 < (List.length v1 : Int)))) hk h rfl (fun h hb => ?_) (fun h hb => ?_)
 ·skip
  refine wp_skip ?_
  (repeat first | refine FW.tn ?_ | refine FW.bn ?_); refine q8 _ _ ?_
  refine wp_block ?_
  refine FW.wreg fun _ q10 => ?_
  refine FW.sA hk fun a w hk => ?_
  refine FW.lend (q10 _ _ ?_)
  refine FW.wseq fun _ q11 => ?_
  refine wp_block ?_
  refine FW.wloop (T := Nat × List ApiStep × Int × Int × Int) (fun x a w => match x with | (kl2, v1, v5, v7, v8) => FW.S M w0 a w 72 [FW.orow xd4 xc4 59 9 ApiIns.cells l4, FW.blk b0 93 ([.lit (.slice xd2 (List.length l2) xc2)]), FW.orow xd2 xc2 55 1 c_s_ApiIns_cells l2] [(0, [], .lit (.pointer (some ⟨b0, 0, none⟩))), (1, [], .row (r_ApiStep_cells v1)), (5, [], .lit (.int .i64 v5)), (6, [], .lit (.slice xd4 (List.length l4) xc4)), (7, [], .lit (.int .i64 v7)), (8, [], .lit (.int .i64 v8))] ∧ cm_body.l2 zB zI zK zO zY zb zR zT zE (cm_body.l1 zB zI zK zO zY zb zR zT zE K kl1) K l2 l4 kl2 v1 v5 v7 v8 = some r) (fun x => x.1) (K, v1, v5, v7, 1) ⟨hk.sub ⟨rfl, rfl, rfl, rfl, rfl, rfl, trivial⟩, h⟩ ?_
  clear hk h
  rintro ⟨kl2, v1, v5, v7, v8⟩ a w ⟨hk, h⟩ K' q12
  cases kl2 with
  | zero => simp [cm_body.l2] at h
  | succ kl2 =>
  rw [cm_body.l2.eq_2] at h
  refine FW.wseq fun _ q13 => ?_
  refine FW.wreg fun _ q14 => ?_
  refine FW.sM hk fun a w hk => ?_
  refine FW.sM hk fun a w hk => ?_
  refine FW.sAd hk fun a w hk => ?_
  refine FW.sM hk fun a w hk => ?_
  refine FW.lf (y := .lit (.int .i64 (List.length v1 : Int))) hk (FW.f_len (R := r_ApiStep_cells) (f := ApiStep.cells) (l := v1) r_ApiStep_cells_eq Try.underlying22 hk FW.h0 rfl) fun a w hk => ?_
  refine FW.sLt hk fun a w hk => ?_
  refine FW.sM hk fun a w hk => ?_
  refine FW.lg (y := .row (r_ApiStep_cells v1)) hk rfl rfl rfl (fun hc => FW.f_move hk hc rfl) fun a w hk => ?_
  refine FW.lg (y := .lit (.int .i64 v7)) hk rfl rfl rfl (fun hc => FW.f_move hk hc rfl) fun a w hk => ?_
  refine FW.lg (y := .lit (.int .i64 v8)) hk rfl rfl rfl (fun hc => FW.f_move hk hc rfl) fun a w hk => ?_
  refine FW.lg (y := .lit (.int .i64 (IntKind.wrap .i64 (v7 + v8)))) hk rfl rfl rfl (fun hc => (FW.f_pure (FW.p_add hk.kn hc rfl rfl))) fun a w hk => ?_
  obtain ⟨hc2, h⟩ := FW.chk h
  refine FW.lg (y := .ref (ApiStep.cells (List.getD v1 (Int.toNat (IntKind.wrap .i64 (v7 + v8))) default))) hk rfl rfl rfl (fun hc => FW.f_indexAddr (R := r_ApiStep_cells) (f := ApiStep.cells) (l := v1) (sz := 2) r_ApiStep_cells_eq (fun _ => rfl) hk hc rfl rfl Try.underlying22 (by kernel_rfl) hc2) fun a w hk => ?_
  refine FW.lg (y := .ref (List.drop 0 (ApiStep.cells (List.getD v1 (Int.toNat (IntKind.wrap .i64 (v7 + v8))) default)))) hk rfl rfl rfl (fun hc => FW.f_fieldAddr hk hc rfl Try.underlying29 rfl (by kernel_rfl) rfl) fun a w hk => ?_
  refine FW.lg (y := .lit (.string (FW.B ((List.getD v1 (Int.toNat (IntKind.wrap .i64 (v7 + v8))) default).Name)))) hk rfl rfl rfl (fun hc => FW.f_load1 hk hc rfl rfl Try.underlying9 rfl) fun a w hk => ?_
  obtain ⟨t1, hr_t1, h⟩ := FW.bndG h
  refine FW.lg (y := .lit (.bool t1)) hk rfl rfl rfl (fun hc => FW.f_call hk hc rfl rfl Try.func69 rfl (by kernel_rfl) (code_modifies.ok ((List.getD v1 (Int.toNat (IntKind.wrap .i64 (v7 + v8))) default).Name) _ (hr_t1 (FW.asm_out (p := (decide ((IntKind.wrap .i64 (v7 + v8)) < (List.length v1 : Int))) = true) hk.kn hc (fun e0 => e0))))) fun a w hk => ?_
  refine FW.sAn hk fun a w hk => ?_
  refine FW.lend (q14 _ _ ?_)
  refine FW.wcondF (b := ((decide ((IntKind.wrap .i64 (v7 + v8)) < (List.length v1 : Int))) && t1)) hk h rfl (fun h hb => ?_) (fun h hb => ?_)
  ·skip
   refine wp_skip ?_
   (repeat first | refine FW.tn ?_ | refine FW.bn ?_); refine q13 _ _ ?_
   refine wp_block ?_
   refine FW.wreg1 ?_
   refine FW.sM hk fun a w hk => ?_
   refine FW.sAd hk fun a w hk => ?_
   refine FW.sA hk fun a w hk => ?_
   refine wpList_nil ?_
   (repeat first | refine FW.tn ?_ | refine FW.bn ?_); exact q12 (kl2, v1, v5, v7, (IntKind.wrap .i64 (v8 + 1))) _ _ (Nat.lt_succ_self _) ⟨hk.sub ⟨rfl, rfl, rfl, rfl, rfl, rfl, trivial⟩, h⟩
  refine wp_exit ?_; (repeat first | refine FW.then_exit ?_ | refine FW.block_exit_ne rfl ?_); refine FW.block_exit ?_
  (repeat first | refine FW.tn ?_ | refine FW.bn ?_); refine q11 _ _ ?_
  obtain ⟨hc3, h⟩ := FW.chk h
  obtain ⟨hc4, h⟩ := FW.chk h
  obtain ⟨t2, hr_t2, h⟩ := FW.bnd h
  obtain ⟨hc5, h⟩ := FW.chk h
  refine FW.wdrawE (.next [true, true, true, true, true, true, true, true, true, true, true, true, true, false, false, false, false] 13 [true, true, true, true, true, true, true, true, true, true, true, true, true, false, false, false, false] (.next [true, false, false, false, false, false, false, false, false, false, false, false, false, false, false, false, false] 14 [true, true, true, true, true, true, true, true, true, true, true, true, true, true, false, false, false] (.next [true, false, false, false, false, false, false, false, false, false, false, false, false, false, false, false, false] 15 [true, true, true, true, true, true, true, true, true, true, true, true, true, true, true, false, false] (.leaf [false, false, false, false, false, false, false, false, false, false, false, false, false, false, false, false, true])))) [(45, [], .lit (.slice xd4 (List.length l4) xc4)), (46, [], .lit (.pointer (some ⟨b0, 0, none⟩))), (47, [], .row (r_ApiStep_cells v1)), (48, [], .lit (.int .i64 v7)), (49, [], .ref (ApiStep.cells (List.getD v1 (Int.toNat v7) default))), (50, [], .agg ((ApiStep.cells (List.getD v1 (Int.toNat v7) default)))), (51, [], .row (r_ApiStep_cells v1)), (52, [], .lit (.int .i64 v7)), (53, [], .lit (.int .i64 (IntKind.wrap .i64 (v7 + 1)))), (54, [], .lit (.int .i64 v7)), (55, [], .lit (.int .i64 v8)), (56, [], .lit (.int .i64 (IntKind.wrap .i64 (v7 + v8)))), (57, [], .row (r_ApiStep_cells (List.take (Int.toNat (IntKind.wrap .i64 (v7 + v8)) - Int.toNat (IntKind.wrap .i64 (v7 + 1))) (List.drop (Int.toNat (IntKind.wrap .i64 (v7 + 1))) v1)))), (58, [], .agg []), (59, [], .agg []), (60, [], .agg []), (6, [], .agg [])] (by kernel_rfl) (by kernel_rfl) (by kernel_rfl) (by kernel_rfl) hk ?_; clear hk
  refine FW.gnext ?_ rfl rfl rfl rfl rfl ?_
  ·skip
   refine FW.gfun (y := .lit (.slice xd4 (List.length l4) xc4)) rfl rfl rfl rfl (fun a w hk => FW.f_move hk FW.h0 rfl) ?_
   refine FW.gfun (y := .lit (.pointer (some ⟨b0, 0, none⟩))) rfl rfl rfl rfl (fun a w hk => FW.f_move hk FW.h0 rfl) ?_
   refine FW.gfun (y := .row (r_ApiStep_cells v1)) rfl rfl rfl rfl (fun a w hk => FW.f_move hk FW.h0 rfl) ?_
   refine FW.gfun (y := .lit (.int .i64 v7)) rfl rfl rfl rfl (fun a w hk => FW.f_move hk FW.h0 rfl) ?_
   refine FW.gfun (y := .ref (ApiStep.cells (List.getD v1 (Int.toNat v7) default))) rfl rfl rfl rfl (fun a w hk => FW.f_indexAddr (R := r_ApiStep_cells) (f := ApiStep.cells) (l := v1) (sz := 2) r_ApiStep_cells_eq (fun _ => rfl) hk FW.h0 rfl rfl Try.underlying22 (by kernel_rfl) hc3) ?_
   refine FW.gfun (y := .agg ((ApiStep.cells (List.getD v1 (Int.toNat v7) default)))) rfl rfl rfl rfl (fun a w hk => FW.f_load hk FW.h0 rfl Try.underlying29 rfl rfl rfl rfl) ?_
   refine FW.gfun (y := .row (r_ApiStep_cells v1)) rfl rfl rfl rfl (fun a w hk => FW.f_move hk FW.h0 rfl) ?_
   refine FW.gfun (y := .lit (.int .i64 v7)) rfl rfl rfl rfl (fun a w hk => FW.f_move hk FW.h0 rfl) ?_
   refine FW.gfun (y := .lit (.int .i64 (IntKind.wrap .i64 (v7 + 1)))) rfl rfl rfl rfl (fun a w hk => (FW.f_pure (FW.p_add hk.kn FW.h0 rfl rfl))) ?_
   refine FW.gfun (y := .lit (.int .i64 v7)) rfl rfl rfl rfl (fun a w hk => FW.f_move hk FW.h0 rfl) ?_
   refine FW.gfun (y := .lit (.int .i64 v8)) rfl rfl rfl rfl (fun a w hk => FW.f_move hk FW.h0 rfl) ?_
   refine FW.gfun (y := .lit (.int .i64 (IntKind.wrap .i64 (v7 + v8)))) rfl rfl rfl rfl (fun a w hk => (FW.f_pure (FW.p_add hk.kn FW.h0 rfl rfl))) ?_
   refine FW.gfun (y := .row (r_ApiStep_cells (List.take (Int.toNat (IntKind.wrap .i64 (v7 + v8)) - Int.toNat (IntKind.wrap .i64 (v7 + 1))) (List.drop (Int.toNat (IntKind.wrap .i64 (v7 + 1))) v1)))) rfl rfl rfl rfl (fun a w hk => FW.f_part (R := r_ApiStep_cells) (f := ApiStep.cells) (l := v1) (sz := 2) r_ApiStep_cells_eq (fun _ => rfl) hk FW.h0 rfl Try.underlying22 (by kernel_rfl) rfl rfl hc4) ?_
   refine FW.gskip rfl rfl ?_
   refine FW.gskip rfl rfl ?_
   refine FW.gskip rfl rfl ?_
   refine FW.gskip rfl rfl ?_
   exact FW.gend
  ·skip
   intro σD a w opsD QD hk hf hQ hX
   refine FW.l_callH (I1 := (OCM.items b0 xd2 xc2 (⟨l2⟩ : OCM))) (I2 := [FW.orow xd4 xc4 59 9 ApiIns.cells l4]) (js := [2, 2]) hk rfl rfl hf rfl rfl Try.func70 rfl (by kernel_rfl) (hzI (⟨l2⟩ : OCM) (List.getD v1 (Int.toNat v7) default) (List.take (Int.toNat (IntKind.wrap .i64 (v7 + v8)) - Int.toNat (IntKind.wrap .i64 (v7 + 1))) (List.drop (Int.toNat (IntKind.wrap .i64 (v7 + 1))) v1)) _ hr_t2 b0 xd2 xc2) ?_; clear hk
   rintro _ _ ⟨zd1, zc1, rfl, rfl⟩ a w hk
   refine hQ _ _ a w ?_ hk; clear hk hQ hf hX
   refine ⟨[(45, [], .lit (.slice xd4 (List.length l4) xc4)), (46, [], .lit (.pointer (some ⟨b0, 0, none⟩))), (47, [], .row (r_ApiStep_cells v1)), (48, [], .lit (.int .i64 v7)), (49, [], .ref (ApiStep.cells (List.getD v1 (Int.toNat v7) default))), (50, [], .agg ((ApiStep.cells (List.getD v1 (Int.toNat v7) default)))), (51, [], .row (r_ApiStep_cells v1)), (52, [], .lit (.int .i64 v7)), (53, [], .lit (.int .i64 (IntKind.wrap .i64 (v7 + 1)))), (54, [], .lit (.int .i64 v7)), (55, [], .lit (.int .i64 v8)), (56, [], .lit (.int .i64 (IntKind.wrap .i64 (v7 + v8)))), (57, [], .row (r_ApiStep_cells (List.take (Int.toNat (IntKind.wrap .i64 (v7 + v8)) - Int.toNat (IntKind.wrap .i64 (v7 + 1))) (List.drop (Int.toNat (IntKind.wrap .i64 (v7 + 1))) v1)))), (58, [], .agg ((ApiIns.cells t2.1))), (59, [], .agg []), (60, [], .agg []), (6, [], .agg [])], And.intro rfl (And.intro rfl (And.intro rfl (And.intro rfl (And.intro rfl (And.intro rfl (And.intro rfl (And.intro rfl (And.intro rfl (And.intro rfl (And.intro rfl (And.intro rfl (And.intro rfl (trivial))))))))))))), rfl, ?_⟩
   refine FW.gnext ?_ rfl rfl rfl rfl rfl ?_
   ·skip
    refine FW.gfun (y := .lit (.slice xd4 (List.length l4) xc4)) rfl rfl rfl rfl (fun a w hk => FW.f_move hk FW.h0 rfl) ?_
    refine FW.gskip rfl rfl ?_
    refine FW.gskip rfl rfl ?_
    refine FW.gskip rfl rfl ?_
    refine FW.gskip rfl rfl ?_
    refine FW.gskip rfl rfl ?_
    refine FW.gskip rfl rfl ?_
    refine FW.gskip rfl rfl ?_
    refine FW.gskip rfl rfl ?_
    refine FW.gskip rfl rfl ?_
    refine FW.gskip rfl rfl ?_
    refine FW.gskip rfl rfl ?_
    refine FW.gskip rfl rfl ?_
    refine FW.gskip rfl rfl ?_
    refine FW.gskip rfl rfl ?_
    refine FW.gskip rfl rfl ?_
    refine FW.gskip rfl rfl ?_
    exact FW.gend
   ·skip
    intro σD a w opsD QD hk hf hQ hX
    refine FW.l_buildSlice (f := ApiIns.cells) (l := ([t2.1] : List ApiIns)) hk rfl hf rfl Try.underlying55 rfl rfl rfl rfl (fun _ => rfl) rfl ?_; clear hk; intro bx2 a w hk
    refine hQ _ _ a w ?_ hk; clear hk hQ hf hX
    refine ⟨[(45, [], .lit (.slice xd4 (List.length l4) xc4)), (46, [], .lit (.pointer (some ⟨b0, 0, none⟩))), (47, [], .row (r_ApiStep_cells v1)), (48, [], .lit (.int .i64 v7)), (49, [], .ref (ApiStep.cells (List.getD v1 (Int.toNat v7) default))), (50, [], .agg ((ApiStep.cells (List.getD v1 (Int.toNat v7) default)))), (51, [], .row (r_ApiStep_cells v1)), (52, [], .lit (.int .i64 v7)), (53, [], .lit (.int .i64 (IntKind.wrap .i64 (v7 + 1)))), (54, [], .lit (.int .i64 v7)), (55, [], .lit (.int .i64 v8)), (56, [], .lit (.int .i64 (IntKind.wrap .i64 (v7 + v8)))), (57, [], .row (r_ApiStep_cells (List.take (Int.toNat (IntKind.wrap .i64 (v7 + v8)) - Int.toNat (IntKind.wrap .i64 (v7 + 1))) (List.drop (Int.toNat (IntKind.wrap .i64 (v7 + 1))) v1)))), (58, [], .agg ((ApiIns.cells t2.1))), (59, [], .lit (.slice (some ⟨bx2, 0, none⟩) (List.length ([t2.1] : List ApiIns)) 1)), (60, [], .agg []), (6, [], .agg [])], And.intro rfl (And.intro rfl (And.intro rfl (And.intro rfl (And.intro rfl (And.intro rfl (And.intro rfl (And.intro rfl (And.intro rfl (And.intro rfl (And.intro rfl (And.intro rfl (And.intro rfl (And.intro rfl (trivial)))))))))))))), rfl, ?_⟩
    refine FW.gnext ?_ rfl rfl rfl rfl rfl ?_
    ·skip
     refine FW.gfun (y := .lit (.slice xd4 (List.length l4) xc4)) rfl rfl rfl rfl (fun a w hk => FW.f_move hk FW.h0 rfl) ?_
     refine FW.gskip rfl rfl ?_
     refine FW.gskip rfl rfl ?_
     refine FW.gskip rfl rfl ?_
     refine FW.gskip rfl rfl ?_
     refine FW.gskip rfl rfl ?_
     refine FW.gskip rfl rfl ?_
     refine FW.gskip rfl rfl ?_
     refine FW.gskip rfl rfl ?_
     refine FW.gskip rfl rfl ?_
     refine FW.gskip rfl rfl ?_
     refine FW.gskip rfl rfl ?_
     refine FW.gskip rfl rfl ?_
     refine FW.gskip rfl rfl ?_
     refine FW.gskip rfl rfl ?_
     refine FW.gskip rfl rfl ?_
     refine FW.gskip rfl rfl ?_
     exact FW.gend
    ·skip
     intro σD a w opsD QD hk hf hQ hX
     refine FW.l_append (l2 := ([t2.1] : List ApiIns)) (l3 := (l4 ++ ([t2.1] : List ApiIns))) (I' := fun ad2 cap2 => [FW.orow (some ⟨bx2, 0, none⟩) 1 59 9 ApiIns.cells ([t2.1] : List ApiIns), FW.blk b0 93 ([.lit (.slice zd1 (List.length t2.2.out) zc1)]), FW.orow zd1 zc1 55 1 c_s_ApiIns_cells t2.2.out, FW.orow ad2 cap2 59 9 ApiIns.cells (l4 ++ ([t2.1] : List ApiIns))]) (j := 3) hk rfl rfl hf rfl (FW.own_src hk (j := 0) rfl rfl (fun _ => rfl) Try.underlying55) Try.underlying55 (by kernel_rfl) hc5 rfl (fun _ _ => rfl) ?_; clear hk; intro ad2 cap2 a w hk
     replace hk := FW.S.dropI (I' := [FW.blk b0 93 ([.lit (.slice zd1 (List.length t2.2.out) zc1)]), FW.orow zd1 zc1 55 1 c_s_ApiIns_cells t2.2.out, FW.orow ad2 cap2 59 9 ApiIns.cells (l4 ++ ([t2.1] : List ApiIns))]) hk 0 rfl
     refine hQ _ _ a w ?_ hk; clear hk hQ hf hX
     refine ⟨[(45, [], .lit (.slice xd4 (List.length l4) xc4)), (46, [], .lit (.pointer (some ⟨b0, 0, none⟩))), (47, [], .row (r_ApiStep_cells v1)), (48, [], .lit (.int .i64 v7)), (49, [], .ref (ApiStep.cells (List.getD v1 (Int.toNat v7) default))), (50, [], .agg ((ApiStep.cells (List.getD v1 (Int.toNat v7) default)))), (51, [], .row (r_ApiStep_cells v1)), (52, [], .lit (.int .i64 v7)), (53, [], .lit (.int .i64 (IntKind.wrap .i64 (v7 + 1)))), (54, [], .lit (.int .i64 v7)), (55, [], .lit (.int .i64 v8)), (56, [], .lit (.int .i64 (IntKind.wrap .i64 (v7 + v8)))), (57, [], .row (r_ApiStep_cells (List.take (Int.toNat (IntKind.wrap .i64 (v7 + v8)) - Int.toNat (IntKind.wrap .i64 (v7 + 1))) (List.drop (Int.toNat (IntKind.wrap .i64 (v7 + 1))) v1)))), (58, [], .agg ((ApiIns.cells t2.1))), (59, [], .lit (.slice (some ⟨bx2, 0, none⟩) (List.length ([t2.1] : List ApiIns)) 1)), (60, [], .lit (.slice ad2 (List.length (l4 ++ ([t2.1] : List ApiIns))) cap2)), (6, [], .lit (.slice ad2 (List.length (l4 ++ ([t2.1] : List ApiIns))) cap2))], And.intro rfl (And.intro rfl (And.intro rfl (And.intro rfl (And.intro rfl (And.intro rfl (And.intro rfl (And.intro rfl (And.intro rfl (And.intro rfl (And.intro rfl (And.intro rfl (And.intro rfl (And.intro rfl (And.intro rfl (trivial))))))))))))))), rfl, ?_⟩
     refine FW.glast ?_ ?_
     ·skip
      refine FW.gskip rfl rfl ?_
      refine FW.gskip rfl rfl ?_
      refine FW.gskip rfl rfl ?_
      refine FW.gskip rfl rfl ?_
      refine FW.gskip rfl rfl ?_
      refine FW.gskip rfl rfl ?_
      refine FW.gskip rfl rfl ?_
      refine FW.gskip rfl rfl ?_
      refine FW.gskip rfl rfl ?_
      refine FW.gskip rfl rfl ?_
      refine FW.gskip rfl rfl ?_
      refine FW.gskip rfl rfl ?_
      refine FW.gskip rfl rfl ?_
      refine FW.gskip rfl rfl ?_
      refine FW.gskip rfl rfl ?_
      refine FW.gskip rfl rfl ?_
      refine FW.gfun (y := .lit (.slice ad2 (List.length (l4 ++ ([t2.1] : List ApiIns))) cap2)) rfl rfl rfl rfl (fun a w hk => FW.f_assign hk FW.h0 rfl) ?_
      exact FW.gend
     ·skip
      intro a w hk; simp only [FW.stD, cond_true] at hk
      refine FW.wreg1 ?_
      refine FW.sM hk fun a w hk => ?_
      refine FW.sM hk fun a w hk => ?_
      refine FW.sAd hk fun a w hk => ?_
      refine FW.sA hk fun a w hk => ?_
      refine wpList_nil ?_
      (repeat first | refine FW.tn ?_ | refine FW.bn ?_); exact q7 (kl1, (l4 ++ ([t2.1] : List ApiIns)), t2.2.out, v1, v5, (IntKind.wrap .i64 (v7 + v8)), ad2, cap2, zd1, zc1) _ _ (Nat.lt_succ_self _) ⟨(FW.S.pick hk (js := [1, 1, 2]) rfl).sub ⟨rfl, rfl, rfl, rfl, rfl, trivial⟩, h⟩
 refine wp_exit ?_; (repeat first | refine FW.then_exit ?_ | refine FW.block_exit_ne rfl ?_); refine FW.block_exit ?_
 (repeat first | refine FW.tn ?_ | refine FW.bn ?_); refine q5 _ _ ?_
 refine FW.wreg fun _ q18 => ?_
 refine FW.sM hk fun a w hk => ?_
 refine FW.lf (y := .lit (.pointer (some ⟨b0, 0, none⟩))) hk ((FW.f_pure (FW.p_nilCheck hk.kn FW.h0 rfl))) fun a w hk => ?_
 refine FW.sFp 0 hk Try.underlying93 fun a w hk => ?_
 refine FW.lf (y := .lit (.slice xd2 (List.length l2) xc2)) hk (FW.f_loadBlk1 hk FW.h0 (j := 1) rfl rfl Try.underlying48 rfl rfl) fun a w hk => ?_
 refine FW.sM hk fun a w hk => ?_
 refine FW.sM hk fun a w hk => ?_
 obtain ⟨hc6, h⟩ := FW.chk h
 refine FW.lf (y := FW.elA xd2 1 v5) hk (FW.f_idxOwn (f := c_s_ApiIns_cells) (l := l2) hk FW.h0 (j := 2) rfl rfl (by first | rfl | simp only [List.length_set]) rfl Try.underlying48 (by kernel_rfl) hc6) fun a w hk => ?_
 replace hk := FW.S.freezeR (I' := [FW.blk b0 93 ([.lit (.slice xd2 (List.length l2) xc2)]), FW.orow xd2 xc2 55 1 c_s_ApiIns_cells l2]) r_ApiIns_cells_eq hk (j := 0) rfl (t := 69) rfl rfl
 refine FW.l_storeOwn (f := c_s_ApiIns_cells) (l := l2) (v := l4) (I' := [FW.blk b0 93 ([.lit (.slice xd2 (List.length l2) xc2)]), FW.orow xd2 xc2 55 1 c_s_ApiIns_cells (List.set l2 (Int.toNat v5) l4)]) (j := 1) hk rfl rfl hc6 rfl rfl rfl (by kernel_rfl) rfl fun w hk => ?_
 refine FW.lend (q18 _ _ ?_)
 refine FW.wreg fun _ q19 => ?_
 refine FW.sM hk fun a w hk => ?_
 refine FW.sA hk fun a w hk => ?_
 refine FW.lend (q19 _ _ ?_)
 refine wp_ret ?_
 (repeat first | refine FW.then_ret ?_ | refine FW.block_ret ?_)
 replace hk := FW.S.cast (I' := [FW.blk b0 93 ([.lit (.slice xd2 (List.length (List.set l2 (Int.toNat v5) l4)) xc2)]), FW.orow xd2 xc2 55 1 c_s_ApiIns_cells (List.set l2 (Int.toNat v5) l4)]) hk (by first | rfl | simp only [List.length_set]) rfl
 obtain rfl := Option.some.inj h
 replace hk := FW.S.keep (I1 := [FW.blk b0 93 ([.lit (.slice xd2 (List.length (List.set l2 (Int.toNat v5) l4)) xc2)]), FW.orow xd2 xc2 55 1 c_s_ApiIns_cells (List.set l2 (Int.toNat v5) l4)]) (I2 := []) (js := [1, 1]) hk rfl
 exact FW.fretH1 hk rfl (FW.rtmp hk rfl) ⟨xd2, xc2, rfl, rfl⟩
end Go.Proofs.Ytbjbgodcenopnaa

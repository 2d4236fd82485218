/- Written by a program of this session (gen.py): the contracts of functions of the program. -/
import Derived.KernelRfl
import Derived.Test.YtbjbgodcenopnaaProg
import Derived.Test.YtbjbgodcenopnaaAvFun
import Derived.Test.YtbjbgodcenopnaaAvMan
import Derived.Test.YtbjbgodcenopnaaAvMore
import Derived.Test.YtbjbgodcenopnaaAvDraw2
import Derived.Test.YtbjbgodcenopnaaAvRow
import Derived.Test.YtbjbgodcenopnaaAvBld
import Derived.Test.YtbjbgodcenopnaaHcl
import Derived.Test.YtbjbgodcenopnaaAvFl
import Derived.Test.YtbjbgodcenopnaaSvD
import Derived.Test.YtbjbgodcenopnaaSvP13
namespace Go.Proofs.Ytbjbgodcenopnaa
set_option linter.unusedVariables false
set_option maxRecDepth 20000
set_option maxHeartbeats 10000000
theorem show_Steps.bok (s_show_Steps : List ApiStep → Option (List UInt8)) (s_show_join_api_Arg_of_show_arg : List ApiArg → Option (List UInt8)) (s_show_arg : ApiArg → Option (List UInt8)) (hs_show_Steps : ∀ (v0 : List ApiStep) (r : List UInt8), s_show_Steps v0 = some r → FW.Ok Try.prog 53 [.row (r_ApiStep_cells v0)] (.lit (.string (FW.B r)))) (hs_show_join_api_Arg_of_show_arg : ∀ (v0 : List ApiArg) (r : List UInt8), s_show_join_api_Arg_of_show_arg v0 = some r → FW.Ok Try.prog 80 [.row (r_ApiArg_cells v0), .lit (.func (.func 81) #[] #[])] (.lit (.string (FW.B r)))) (hs_show_arg : ∀ (v0 : ApiArg) (r : List UInt8), s_show_arg v0 = some r → FW.Ok Try.prog 81 [.agg (ApiArg.cells v0)] (.lit (.string (FW.B r)))) (K : Nat) (v0 : List ApiStep) (r : List UInt8) (h : show_Steps.b s_show_Steps s_show_join_api_Arg_of_show_arg s_show_arg K v0 = some r) :
  FW.Ok Try.prog 53 [.row (r_ApiStep_cells v0)] (.lit (.string (FW.B r))) := by
 refine FW.enter (xs := [.row (r_ApiStep_cells v0)]) Try.func53 rfl Try.ntmps53 rfl ?_
 intro M w0 a hk
 unfold show_Steps.b at h
 refine FW.wreg ?_; intro K' hK1
 refine FW.lfun (y := .lit (.string (FW.B ([] : List UInt8)))) hk rfl rfl rfl rfl (FW.f_assign hk FW.h0 rfl) ?_; clear hk; intro a w hk
 refine FW.lend (hK1 _ _ ?_); clear hK1 K'
 refine FW.wreg ?_; intro K' hK2
 refine FW.lfun (y := .lit (.slice none 0 0)) hk rfl rfl rfl rfl (FW.f_assign hk FW.h0 rfl) ?_; clear hk; intro a w hk
 replace hk := hk.nilRow 9 1 c_str (fun _ => rfl)
 refine FW.lend (hK2 _ _ ?_); clear hK2 K'
 refine FW.wseq ?_; intro K' hK3
 refine FW.wreg ?_; intro K' hK4
 refine FW.lfun (y := .row (r_ApiStep_cells v0)) hk rfl rfl rfl rfl (FW.f_move hk FW.h0 rfl) ?_; clear hk; intro a w hk
 refine FW.lfun (y := .lit (.int .i64 (List.length v0 : Int))) hk rfl rfl rfl rfl (FW.f_len (R := r_ApiStep_cells) (f := ApiStep.cells) (l := v0) r_ApiStep_cells_eq Try.underlying22 hk FW.h0 rfl) ?_; clear hk; intro a w hk
 refine FW.lfun (y := .lit (.int .i64 0)) hk rfl rfl rfl rfl (FW.f_move hk FW.h0 rfl) ?_; clear hk; intro a w hk
 refine FW.lend (hK4 _ _ ?_); clear hK4 K'
 refine wp_block ?_
 refine FW.wloop (T := Nat × List (List UInt8) × List ApiStep × Int × Int × Option Addr × Nat) (fun x a w => match x with | (kl1, l1, v6, v7, v8, xd1, xc1) => FW.S M w0 a w 26 [FW.orow xd1 xc1 9 1 c_str l1] [(3, [], .lit (.slice xd1 (List.length l1) xc1)), (6, [], .row (r_ApiStep_cells v6)), (7, [], .lit (.int .i64 v7)), (8, [], .lit (.int .i64 v8))] ∧ show_Steps.l1 s_show_Steps s_show_join_api_Arg_of_show_arg s_show_arg K kl1 l1 v6 v7 v8 = some r) (fun x => x.1) (K, ([] : List (List UInt8)), v0, (List.length v0 : Int), 0, none, 0) ⟨hk.sub ⟨rfl, rfl, rfl, rfl, trivial⟩, h⟩ ?_
 clear hk h
 rintro ⟨kl1, l1, v6, v7, v8, xd1, xc1⟩ a w ⟨hk, h⟩ K' hK5
 cases kl1 with
 | zero => simp [show_Steps.l1] at h
 | succ kl1 =>
 rw [show_Steps.l1.eq_2] at h
 refine FW.wreg ?_; intro K' hK6
 refine FW.lfun (y := .lit (.bool (decide (v8 < v7)))) hk rfl rfl rfl rfl ((FW.f_pure (FW.p_lss hk.kn FW.h0 rfl rfl))) ?_; clear hk; intro a w hk
 refine FW.lend (hK6 _ _ ?_); clear hK6 K'
 refine FW.wseq ?_; intro K' hK7
 refine FW.wcondF (b := (decide (v8 < v7))) hk h rfl (fun h hb => ?_) (fun h hb => ?_)
 ·skip
  refine wp_skip ?_
  (repeat first | refine FW.then_normal ?_ | refine FW.block_normal ?_); refine hK7 _ _ ?_
  refine FW.wseq ?_; intro K' hK8
  refine wp_block ?_
  refine FW.wreg ?_; intro K' hK9
  obtain ⟨hc1, h⟩ := FW.chk h
  refine FW.lfun (y := .ref (ApiStep.cells (List.getD v6 (Int.toNat v8) default))) hk rfl rfl rfl rfl (FW.f_indexAddr (R := r_ApiStep_cells) (f := ApiStep.cells) (l := v6) (sz := 2) r_ApiStep_cells_eq (fun _ => rfl) hk FW.h0 rfl rfl Try.underlying22 (by kernel_rfl) hc1) ?_; clear hk; intro a w hk
  refine FW.lfun (y := .agg ((ApiStep.cells (List.getD v6 (Int.toNat v8) default)))) hk rfl rfl rfl rfl (FW.f_load hk FW.h0 rfl Try.underlying29 rfl rfl rfl rfl) ?_; clear hk; intro a w hk
  refine FW.l_alloc (zs := (ApiStep.cells (⟨[], []⟩ : ApiStep))) [] hk rfl rfl rfl rfl ?_; clear hk; intro bx1 a w hk
  refine FW.l_store (I' := [FW.blk bx1 29 ((ApiStep.cells (List.getD v6 (Int.toNat v8) default))), FW.orow xd1 xc1 9 1 c_str l1]) (cs' := (ApiStep.cells (List.getD v6 (Int.toNat v8) default))) (j := 0) hk rfl rfl rfl rfl rfl (by kernel_rfl) rfl rfl ?_; clear hk; intro w hk
  refine FW.lend (hK9 _ _ ?_); clear hK9 K'
  obtain ⟨hc2, h⟩ := FW.chk h
  obtain ⟨t1, hr_t1, h⟩ := FW.bnd h
  obtain ⟨hc3, h⟩ := FW.chk h
  obtain ⟨hc4, h⟩ := FW.chk h
  obtain ⟨hc5, h⟩ := FW.chk h
  refine FW.wdrawE1 (.next [true, true, true, true, true, true, true, true, true, false, false, false] 9 [true, true, true, true, true, true, true, true, true, false, false, false] (.next [true, false, false, false, false, false, false, false, false, false, false, false] 10 [true, true, true, true, true, true, true, true, true, true, false, false] (.leaf [false, false, false, false, false, false, false, false, false, false, false, true]))) [(12, [], .lit (.slice xd1 (List.length l1) xc1)), (13, [], .lit (.pointer (some ⟨bx1, 0, none⟩))), (14, [], .lit (.string (FW.B ((List.getD v6 (Int.toNat v8) default).Name)))), (15, [], .lit (.string (FW.B (((List.getD v6 (Int.toNat v8) default).Name) ++ ([40] : List UInt8))))), (16, [], .lit (.pointer (some ⟨bx1, 1, none⟩))), (17, [], .row (r_ApiArg_cells ((List.getD v6 (Int.toNat v8) default).Args))), (18, [], .lit (.string (FW.B t1))), (19, [], .lit (.string (FW.B ((((List.getD v6 (Int.toNat v8) default).Name) ++ ([40] : List UInt8)) ++ t1)))), (20, [], .lit (.string (FW.B (((((List.getD v6 (Int.toNat v8) default).Name) ++ ([40] : List UInt8)) ++ t1) ++ ([41] : List UInt8))))), (21, [], .agg []), (22, [], .agg []), (3, [], .agg [])] (by kernel_rfl) (by kernel_rfl) (by kernel_rfl) (by kernel_rfl) hk ?_; clear hk
  refine FW.gnext ?_ rfl rfl rfl rfl rfl ?_
  ·skip
   refine FW.gfun (y := .lit (.slice xd1 (List.length l1) xc1)) rfl rfl rfl rfl (fun a w hk => FW.f_move hk FW.h0 rfl) ?_
   refine FW.gfun (y := .lit (.pointer (some ⟨bx1, 0, none⟩))) rfl rfl rfl rfl (fun a w hk => FW.f_fieldPtr hk FW.h0 rfl Try.underlying29 rfl (by kernel_rfl) rfl) ?_
   refine FW.gfun (y := .lit (.string (FW.B ((List.getD v6 (Int.toNat v8) default).Name)))) rfl rfl rfl rfl (fun a w hk => FW.f_loadBlk1 hk FW.h0 (j := 0) rfl rfl Try.underlying9 rfl rfl) ?_
   refine FW.gfun (y := .lit (.string (FW.B (((List.getD v6 (Int.toNat v8) default).Name) ++ ([40] : List UInt8))))) rfl rfl rfl rfl (fun a w hk => (FW.f_pure (FW.p_sadd hk.kn FW.h0 rfl rfl hc2))) ?_
   refine FW.gfun (y := .lit (.pointer (some ⟨bx1, 1, none⟩))) rfl rfl rfl rfl (fun a w hk => FW.f_fieldPtr hk FW.h0 rfl Try.underlying29 rfl (by kernel_rfl) rfl) ?_
   refine FW.gfun (y := .row (r_ApiArg_cells ((List.getD v6 (Int.toNat v8) default).Args))) rfl rfl rfl rfl (fun a w hk => FW.f_loadBlk1 hk FW.h0 (j := 0) rfl rfl Try.underlying27 rfl rfl) ?_
   refine FW.gfun (y := .lit (.string (FW.B t1))) rfl rfl rfl rfl (fun a w hk => FW.f_call hk FW.h0 rfl rfl Try.func80 rfl (by kernel_rfl) (hs_show_join_api_Arg_of_show_arg ((List.getD v6 (Int.toNat v8) default).Args) _ hr_t1)) ?_
   refine FW.gfun (y := .lit (.string (FW.B ((((List.getD v6 (Int.toNat v8) default).Name) ++ ([40] : List UInt8)) ++ t1)))) rfl rfl rfl rfl (fun a w hk => (FW.f_pure (FW.p_sadd hk.kn FW.h0 rfl rfl hc3))) ?_
   refine FW.gfun (y := .lit (.string (FW.B (((((List.getD v6 (Int.toNat v8) default).Name) ++ ([40] : List UInt8)) ++ t1) ++ ([41] : List UInt8))))) rfl rfl rfl rfl (fun a w hk => (FW.f_pure (FW.p_sadd hk.kn FW.h0 rfl rfl hc4))) ?_
   refine FW.gskip rfl rfl ?_
   refine FW.gskip rfl rfl ?_
   refine FW.gskip rfl rfl ?_
   exact FW.gend
  ·skip
   intro σD a w opsD QD hk hf hQ hX
   refine FW.l_buildSlice (f := c_str) (l := ([(((((List.getD v6 (Int.toNat v8) default).Name) ++ ([40] : List UInt8)) ++ t1) ++ ([41] : List UInt8))] : List (List UInt8))) hk rfl hf rfl Try.underlying56 rfl rfl rfl rfl (fun _ => rfl) rfl ?_; clear hk; intro bx2 a w hk
   refine hQ _ _ a w ?_ hk; clear hk hQ hf hX
   refine ⟨[(12, [], .lit (.slice xd1 (List.length l1) xc1)), (13, [], .lit (.pointer (some ⟨bx1, 0, none⟩))), (14, [], .lit (.string (FW.B ((List.getD v6 (Int.toNat v8) default).Name)))), (15, [], .lit (.string (FW.B (((List.getD v6 (Int.toNat v8) default).Name) ++ ([40] : List UInt8))))), (16, [], .lit (.pointer (some ⟨bx1, 1, none⟩))), (17, [], .row (r_ApiArg_cells ((List.getD v6 (Int.toNat v8) default).Args))), (18, [], .lit (.string (FW.B t1))), (19, [], .lit (.string (FW.B ((((List.getD v6 (Int.toNat v8) default).Name) ++ ([40] : List UInt8)) ++ t1)))), (20, [], .lit (.string (FW.B (((((List.getD v6 (Int.toNat v8) default).Name) ++ ([40] : List UInt8)) ++ t1) ++ ([41] : List UInt8))))), (21, [], .lit (.slice (some ⟨bx2, 0, none⟩) (List.length ([(((((List.getD v6 (Int.toNat v8) default).Name) ++ ([40] : List UInt8)) ++ t1) ++ ([41] : List UInt8))] : List (List UInt8))) 1)), (22, [], .agg []), (3, [], .agg [])], And.intro rfl (And.intro rfl (And.intro rfl (And.intro rfl (And.intro rfl (And.intro rfl (And.intro rfl (And.intro rfl (And.intro rfl (trivial))))))))), rfl, ?_⟩
   refine FW.gnext ?_ rfl rfl rfl rfl rfl ?_
   ·skip
    refine FW.gfun (y := .lit (.slice xd1 (List.length l1) xc1)) rfl rfl rfl rfl (fun a w hk => FW.f_move hk FW.h0 rfl) ?_
    refine FW.gskip rfl rfl ?_
    refine FW.gskip rfl rfl ?_
    refine FW.gskip rfl rfl ?_
    refine FW.gskip rfl rfl ?_
    refine FW.gskip rfl rfl ?_
    refine FW.gskip rfl rfl ?_
    refine FW.gskip rfl rfl ?_
    refine FW.gskip rfl rfl ?_
    refine FW.gskip rfl rfl ?_
    refine FW.gskip rfl rfl ?_
    refine FW.gskip rfl rfl ?_
    exact FW.gend
   ·skip
    intro σD a w opsD QD hk hf hQ hX
    refine FW.l_append (l2 := ([(((((List.getD v6 (Int.toNat v8) default).Name) ++ ([40] : List UInt8)) ++ t1) ++ ([41] : List UInt8))] : List (List UInt8))) (l3 := (l1 ++ ([(((((List.getD v6 (Int.toNat v8) default).Name) ++ ([40] : List UInt8)) ++ t1) ++ ([41] : List UInt8))] : List (List UInt8)))) (I' := fun ad1 cap1 => [FW.orow (some ⟨bx2, 0, none⟩) 1 9 1 c_str ([(((((List.getD v6 (Int.toNat v8) default).Name) ++ ([40] : List UInt8)) ++ t1) ++ ([41] : List UInt8))] : List (List UInt8)), FW.blk bx1 29 ((ApiStep.cells (List.getD v6 (Int.toNat v8) default))), FW.orow ad1 cap1 9 1 c_str (l1 ++ ([(((((List.getD v6 (Int.toNat v8) default).Name) ++ ([40] : List UInt8)) ++ t1) ++ ([41] : List UInt8))] : List (List UInt8)))]) (j := 2) hk rfl rfl hf rfl (FW.own_src hk (j := 0) rfl rfl (fun _ => rfl) Try.underlying56) Try.underlying56 (by kernel_rfl) hc5 rfl (fun _ _ => rfl) ?_; clear hk; intro ad1 cap1 a w hk
    replace hk := FW.S.dropI (I' := [FW.blk bx1 29 ((ApiStep.cells (List.getD v6 (Int.toNat v8) default))), FW.orow ad1 cap1 9 1 c_str (l1 ++ ([(((((List.getD v6 (Int.toNat v8) default).Name) ++ ([40] : List UInt8)) ++ t1) ++ ([41] : List UInt8))] : List (List UInt8)))]) hk 0 rfl
    refine hQ _ _ a w ?_ hk; clear hk hQ hf hX
    refine ⟨[(12, [], .lit (.slice xd1 (List.length l1) xc1)), (13, [], .lit (.pointer (some ⟨bx1, 0, none⟩))), (14, [], .lit (.string (FW.B ((List.getD v6 (Int.toNat v8) default).Name)))), (15, [], .lit (.string (FW.B (((List.getD v6 (Int.toNat v8) default).Name) ++ ([40] : List UInt8))))), (16, [], .lit (.pointer (some ⟨bx1, 1, none⟩))), (17, [], .row (r_ApiArg_cells ((List.getD v6 (Int.toNat v8) default).Args))), (18, [], .lit (.string (FW.B t1))), (19, [], .lit (.string (FW.B ((((List.getD v6 (Int.toNat v8) default).Name) ++ ([40] : List UInt8)) ++ t1)))), (20, [], .lit (.string (FW.B (((((List.getD v6 (Int.toNat v8) default).Name) ++ ([40] : List UInt8)) ++ t1) ++ ([41] : List UInt8))))), (21, [], .lit (.slice (some ⟨bx2, 0, none⟩) (List.length ([(((((List.getD v6 (Int.toNat v8) default).Name) ++ ([40] : List UInt8)) ++ t1) ++ ([41] : List UInt8))] : List (List UInt8))) 1)), (22, [], .lit (.slice ad1 (List.length (l1 ++ ([(((((List.getD v6 (Int.toNat v8) default).Name) ++ ([40] : List UInt8)) ++ t1) ++ ([41] : List UInt8))] : List (List UInt8)))) cap1)), (3, [], .lit (.slice ad1 (List.length (l1 ++ ([(((((List.getD v6 (Int.toNat v8) default).Name) ++ ([40] : List UInt8)) ++ t1) ++ ([41] : List UInt8))] : List (List UInt8)))) cap1))], And.intro rfl (And.intro rfl (And.intro rfl (And.intro rfl (And.intro rfl (And.intro rfl (And.intro rfl (And.intro rfl (And.intro rfl (And.intro rfl (trivial)))))))))), rfl, ?_⟩
    refine FW.glast ?_ ?_
    ·skip
     refine FW.gskip rfl rfl ?_
     refine FW.gskip rfl rfl ?_
     refine FW.gskip rfl rfl ?_
     refine FW.gskip rfl rfl ?_
     refine FW.gskip rfl rfl ?_
     refine FW.gskip rfl rfl ?_
     refine FW.gskip rfl rfl ?_
     refine FW.gskip rfl rfl ?_
     refine FW.gskip rfl rfl ?_
     refine FW.gskip rfl rfl ?_
     refine FW.gskip rfl rfl ?_
     refine FW.gfun (y := .lit (.slice ad1 (List.length (l1 ++ ([(((((List.getD v6 (Int.toNat v8) default).Name) ++ ([40] : List UInt8)) ++ t1) ++ ([41] : List UInt8))] : List (List UInt8)))) cap1)) rfl rfl rfl rfl (fun a w hk => FW.f_assign hk FW.h0 rfl) ?_
     exact FW.gend
    ·skip
     intro a w hk; simp only [FW.stD, cond_true] at hk
     (repeat first | refine FW.then_normal ?_ | refine FW.block_normal ?_); refine hK8 _ _ ?_
     refine FW.wreg1 ?_
     refine FW.lfun (y := .lit (.int .i64 (IntKind.wrap .i64 (v8 + 1)))) hk rfl rfl rfl rfl ((FW.f_pure (FW.p_add hk.kn FW.h0 rfl rfl))) ?_; clear hk; intro a w hk
     refine FW.lfun (y := .lit (.int .i64 (IntKind.wrap .i64 (v8 + 1)))) hk rfl rfl rfl rfl (FW.f_move hk FW.h0 rfl) ?_; clear hk; intro a w hk
     refine wpList_nil ?_
     (repeat first | refine FW.then_normal ?_ | refine FW.block_normal ?_); exact hK5 (kl1, (l1 ++ ([(((((List.getD v6 (Int.toNat v8) default).Name) ++ ([40] : List UInt8)) ++ t1) ++ ([41] : List UInt8))] : List (List UInt8))), v6, v7, (IntKind.wrap .i64 (v8 + 1)), ad1, cap1) _ _ (Nat.lt_succ_self _) ⟨(hk.drop 0).sub ⟨rfl, rfl, rfl, rfl, trivial⟩, h⟩
 ·skip
  refine wp_exit ?_; (repeat first | refine FW.then_exit ?_ | refine FW.block_exit_ne rfl ?_); refine FW.block_exit ?_
  (repeat first | refine FW.then_normal ?_ | refine FW.block_normal ?_); refine hK3 _ _ ?_
  refine FW.wreg ?_; intro K' hK12
  refine FW.lfun (y := .lit (.slice xd1 (List.length l1) xc1)) hk rfl rfl rfl rfl (FW.f_move hk FW.h0 rfl) ?_; clear hk; intro a w hk
  replace hk := FW.S.freezeR (I' := []) r_c_str_eq hk (j := 0) rfl (t := 24) rfl rfl
  obtain ⟨t2, hr_t2, h⟩ := FW.bnd h
  refine FW.lfun (y := .lit (.string (FW.B t2))) hk rfl rfl rfl rfl (FW.f_call hk FW.h0 rfl rfl Try.func54 rfl (by kernel_rfl) (strings_Join.ok l1 ([46] : List UInt8) _ hr_t2)) ?_; clear hk; intro a w hk
  refine FW.lfun (y := .lit (.string (FW.B t2))) hk rfl rfl rfl rfl (FW.f_assign hk FW.h0 rfl) ?_; clear hk; intro a w hk
  refine FW.lend (hK12 _ _ ?_); clear hK12 K'
  refine wp_ret ?_
  (repeat first | refine FW.then_ret ?_ | refine FW.block_ret ?_)
  obtain rfl := Option.some.inj h
  exact FW.fret1 hk rfl rfl
theorem show_join_api_Arg_of_show_arg.bok (s_show_Steps : List ApiStep → Option (List UInt8)) (s_show_join_api_Arg_of_show_arg : List ApiArg → Option (List UInt8)) (s_show_arg : ApiArg → Option (List UInt8)) (hs_show_Steps : ∀ (v0 : List ApiStep) (r : List UInt8), s_show_Steps v0 = some r → FW.Ok Try.prog 53 [.row (r_ApiStep_cells v0)] (.lit (.string (FW.B r)))) (hs_show_join_api_Arg_of_show_arg : ∀ (v0 : List ApiArg) (r : List UInt8), s_show_join_api_Arg_of_show_arg v0 = some r → FW.Ok Try.prog 80 [.row (r_ApiArg_cells v0), .lit (.func (.func 81) #[] #[])] (.lit (.string (FW.B r)))) (hs_show_arg : ∀ (v0 : ApiArg) (r : List UInt8), s_show_arg v0 = some r → FW.Ok Try.prog 81 [.agg (ApiArg.cells v0)] (.lit (.string (FW.B r)))) (K : Nat) (v0 : List ApiArg) (r : List UInt8) (h : show_join_api_Arg_of_show_arg.b s_show_Steps s_show_join_api_Arg_of_show_arg s_show_arg K v0 = some r) :
  FW.Ok Try.prog 80 [.row (r_ApiArg_cells v0), .lit (.func (.func 81) #[] #[])] (.lit (.string (FW.B r))) := by
 refine FW.enter (xs := [.row (r_ApiArg_cells v0), .lit (.func (.func 81) #[] #[])]) Try.func80 rfl Try.ntmps80 rfl ?_
 intro M w0 a hk
 unfold show_join_api_Arg_of_show_arg.b at h
 refine FW.wreg ?_; intro K' hK1
 refine FW.lfun (y := .lit (.string (FW.B ([] : List UInt8)))) hk rfl rfl rfl rfl (FW.f_assign hk FW.h0 rfl) ?_; clear hk; intro a w hk
 refine FW.lend (hK1 _ _ ?_); clear hK1 K'
 refine FW.wreg ?_; intro K' hK2
 refine FW.lfun (y := .lit (.slice none 0 0)) hk rfl rfl rfl rfl (FW.f_assign hk FW.h0 rfl) ?_; clear hk; intro a w hk
 replace hk := hk.nilRow 9 1 c_str (fun _ => rfl)
 refine FW.lend (hK2 _ _ ?_); clear hK2 K'
 refine FW.wseq ?_; intro K' hK3
 refine FW.wreg ?_; intro K' hK4
 refine FW.lfun (y := .row (r_ApiArg_cells v0)) hk rfl rfl rfl rfl (FW.f_move hk FW.h0 rfl) ?_; clear hk; intro a w hk
 refine FW.lfun (y := .lit (.int .i64 (List.length v0 : Int))) hk rfl rfl rfl rfl (FW.f_len (R := r_ApiArg_cells) (f := ApiArg.cells) (l := v0) r_ApiArg_cells_eq Try.underlying27 hk FW.h0 rfl) ?_; clear hk; intro a w hk
 refine FW.lfun (y := .lit (.int .i64 0)) hk rfl rfl rfl rfl (FW.f_move hk FW.h0 rfl) ?_; clear hk; intro a w hk
 refine FW.lend (hK4 _ _ ?_); clear hK4 K'
 refine wp_block ?_
 refine FW.wloop (T := Nat × List (List UInt8) × List ApiArg × Int × Int × Option Addr × Nat) (fun x a w => match x with | (kl1, l1, v8, v9, v10, xd1, xc1) => FW.S M w0 a w 23 [FW.orow xd1 xc1 9 1 c_str l1] [(1, [], .lit (.func (.func 81) #[] #[])), (5, [], .lit (.slice xd1 (List.length l1) xc1)), (8, [], .row (r_ApiArg_cells v8)), (9, [], .lit (.int .i64 v9)), (10, [], .lit (.int .i64 v10))] ∧ show_join_api_Arg_of_show_arg.l1 s_show_Steps s_show_join_api_Arg_of_show_arg s_show_arg K kl1 l1 v8 v9 v10 = some r) (fun x => x.1) (K, ([] : List (List UInt8)), v0, (List.length v0 : Int), 0, none, 0) ⟨hk.sub ⟨rfl, rfl, rfl, rfl, rfl, trivial⟩, h⟩ ?_
 clear hk h
 rintro ⟨kl1, l1, v8, v9, v10, xd1, xc1⟩ a w ⟨hk, h⟩ K' hK5
 cases kl1 with
 | zero => simp [show_join_api_Arg_of_show_arg.l1] at h
 | succ kl1 =>
 rw [show_join_api_Arg_of_show_arg.l1.eq_2] at h
 refine FW.wreg ?_; intro K' hK6
 refine FW.lfun (y := .lit (.bool (decide (v10 < v9)))) hk rfl rfl rfl rfl ((FW.f_pure (FW.p_lss hk.kn FW.h0 rfl rfl))) ?_; clear hk; intro a w hk
 refine FW.lend (hK6 _ _ ?_); clear hK6 K'
 refine FW.wseq ?_; intro K' hK7
 refine FW.wcondF (b := (decide (v10 < v9))) hk h rfl (fun h hb => ?_) (fun h hb => ?_)
 ·skip
  refine wp_skip ?_
  (repeat first | refine FW.then_normal ?_ | refine FW.block_normal ?_); refine hK7 _ _ ?_
  refine FW.wseq ?_; intro K' hK8
  refine wp_block ?_
  refine FW.wreg ?_; intro K' hK9
  obtain ⟨hc1, h⟩ := FW.chk h
  refine FW.lfun (y := .ref (ApiArg.cells (List.getD v8 (Int.toNat v10) default))) hk rfl rfl rfl rfl (FW.f_indexAddr (R := r_ApiArg_cells) (f := ApiArg.cells) (l := v8) (sz := 11) r_ApiArg_cells_eq (fun _ => rfl) hk FW.h0 rfl rfl Try.underlying27 (by kernel_rfl) hc1) ?_; clear hk; intro a w hk
  refine FW.lfun (y := .agg ((ApiArg.cells (List.getD v8 (Int.toNat v10) default)))) hk rfl rfl rfl rfl (FW.f_load hk FW.h0 rfl Try.underlying38 rfl rfl rfl rfl) ?_; clear hk; intro a w hk
  refine FW.l_alloc (zs := (ApiArg.cells (⟨0, (⟨0, false, 0, 0, [], []⟩ : ApiValue), (⟨[], [], []⟩ : ApiPred), []⟩ : ApiArg))) [] hk rfl rfl rfl rfl ?_; clear hk; intro bx1 a w hk
  refine FW.l_store (I' := [FW.blk bx1 38 ((ApiArg.cells (List.getD v8 (Int.toNat v10) default))), FW.orow xd1 xc1 9 1 c_str l1]) (cs' := (ApiArg.cells (List.getD v8 (Int.toNat v10) default))) (j := 0) hk rfl rfl rfl rfl rfl (by kernel_rfl) rfl rfl ?_; clear hk; intro w hk
  refine FW.lend (hK9 _ _ ?_); clear hK9 K'
  refine FW.wreg1 ?_
  refine FW.lfun (y := .lit (.slice xd1 (List.length l1) xc1)) hk rfl rfl rfl rfl (FW.f_move hk FW.h0 rfl) ?_; clear hk; intro a w hk
  refine FW.lfun (y := .lit (.func (.func 81) #[] #[])) hk rfl rfl rfl rfl (FW.f_move hk FW.h0 rfl) ?_; clear hk; intro a w hk
  refine FW.lfun (y := .agg ((ApiArg.cells (List.getD v8 (Int.toNat v10) default)))) hk rfl rfl rfl rfl (FW.f_loadBlk hk FW.h0 (j := 0) rfl rfl Try.underlying38 rfl rfl rfl rfl) ?_; clear hk; intro a w hk
  obtain ⟨t1, hr_t1, h⟩ := FW.bnd h
  refine FW.lfun (y := .lit (.string (FW.B t1))) hk rfl rfl rfl rfl (FW.f_call hk FW.h0 rfl rfl Try.func81 rfl (by kernel_rfl) (hs_show_arg (List.getD v8 (Int.toNat v10) default) _ hr_t1)) ?_; clear hk; intro a w hk
  refine FW.l_buildSlice (f := c_str) (l := ([t1] : List (List UInt8))) hk rfl rfl rfl Try.underlying56 rfl rfl rfl rfl (fun _ => rfl) rfl ?_; clear hk; intro bx2 a w hk
  obtain ⟨hc2, h⟩ := FW.chk h
  refine FW.l_append (l2 := ([t1] : List (List UInt8))) (l3 := (l1 ++ ([t1] : List (List UInt8)))) (I' := fun ad1 cap1 => [FW.orow (some ⟨bx2, 0, none⟩) 1 9 1 c_str ([t1] : List (List UInt8)), FW.blk bx1 38 ((ApiArg.cells (List.getD v8 (Int.toNat v10) default))), FW.orow ad1 cap1 9 1 c_str (l1 ++ ([t1] : List (List UInt8)))]) (j := 2) hk rfl rfl rfl rfl (FW.own_src hk (j := 0) rfl rfl (fun _ => rfl) Try.underlying56) Try.underlying56 (by kernel_rfl) hc2 rfl (fun _ _ => rfl) ?_; clear hk; intro ad1 cap1 a w hk
  replace hk := FW.S.dropI (I' := [FW.blk bx1 38 ((ApiArg.cells (List.getD v8 (Int.toNat v10) default))), FW.orow ad1 cap1 9 1 c_str (l1 ++ ([t1] : List (List UInt8)))]) hk 0 rfl
  refine FW.lfun (y := .lit (.slice ad1 (List.length (l1 ++ ([t1] : List (List UInt8)))) cap1)) hk rfl rfl rfl rfl (FW.f_assign hk FW.h0 rfl) ?_; clear hk; intro a w hk
  refine wpList_nil ?_
  (repeat first | refine FW.then_normal ?_ | refine FW.block_normal ?_); refine hK8 _ _ ?_
  refine FW.wreg1 ?_
  refine FW.lfun (y := .lit (.int .i64 (IntKind.wrap .i64 (v10 + 1)))) hk rfl rfl rfl rfl ((FW.f_pure (FW.p_add hk.kn FW.h0 rfl rfl))) ?_; clear hk; intro a w hk
  refine FW.lfun (y := .lit (.int .i64 (IntKind.wrap .i64 (v10 + 1)))) hk rfl rfl rfl rfl (FW.f_move hk FW.h0 rfl) ?_; clear hk; intro a w hk
  refine wpList_nil ?_
  (repeat first | refine FW.then_normal ?_ | refine FW.block_normal ?_); exact hK5 (kl1, (l1 ++ ([t1] : List (List UInt8))), v8, v9, (IntKind.wrap .i64 (v10 + 1)), ad1, cap1) _ _ (Nat.lt_succ_self _) ⟨(hk.drop 0).sub ⟨rfl, rfl, rfl, rfl, rfl, trivial⟩, h⟩
 ·skip
  refine wp_exit ?_; (repeat first | refine FW.then_exit ?_ | refine FW.block_exit_ne rfl ?_); refine FW.block_exit ?_
  (repeat first | refine FW.then_normal ?_ | refine FW.block_normal ?_); refine hK3 _ _ ?_
  refine FW.wreg ?_; intro K' hK12
  refine FW.lfun (y := .lit (.slice xd1 (List.length l1) xc1)) hk rfl rfl rfl rfl (FW.f_move hk FW.h0 rfl) ?_; clear hk; intro a w hk
  replace hk := FW.S.freezeR (I' := []) r_c_str_eq hk (j := 0) rfl (t := 21) rfl rfl
  obtain ⟨t2, hr_t2, h⟩ := FW.bnd h
  refine FW.lfun (y := .lit (.string (FW.B t2))) hk rfl rfl rfl rfl (FW.f_call hk FW.h0 rfl rfl Try.func54 rfl (by kernel_rfl) (strings_Join.ok l1 ([44, 32] : List UInt8) _ hr_t2)) ?_; clear hk; intro a w hk
  refine FW.lfun (y := .lit (.string (FW.B t2))) hk rfl rfl rfl rfl (FW.f_assign hk FW.h0 rfl) ?_; clear hk; intro a w hk
  refine FW.lend (hK12 _ _ ?_); clear hK12 K'
  refine wp_ret ?_
  (repeat first | refine FW.then_ret ?_ | refine FW.block_ret ?_)
  obtain rfl := Option.some.inj h
  exact FW.fret1 hk rfl rfl
theorem show_arg.bok (s_show_Steps : List ApiStep → Option (List UInt8)) (s_show_join_api_Arg_of_show_arg : List ApiArg → Option (List UInt8)) (s_show_arg : ApiArg → Option (List UInt8)) (hs_show_Steps : ∀ (v0 : List ApiStep) (r : List UInt8), s_show_Steps v0 = some r → FW.Ok Try.prog 53 [.row (r_ApiStep_cells v0)] (.lit (.string (FW.B r)))) (hs_show_join_api_Arg_of_show_arg : ∀ (v0 : List ApiArg) (r : List UInt8), s_show_join_api_Arg_of_show_arg v0 = some r → FW.Ok Try.prog 80 [.row (r_ApiArg_cells v0), .lit (.func (.func 81) #[] #[])] (.lit (.string (FW.B r)))) (hs_show_arg : ∀ (v0 : ApiArg) (r : List UInt8), s_show_arg v0 = some r → FW.Ok Try.prog 81 [.agg (ApiArg.cells v0)] (.lit (.string (FW.B r)))) (K : Nat) (v0 : ApiArg) (r : List UInt8) (h : show_arg.b s_show_Steps s_show_join_api_Arg_of_show_arg s_show_arg K v0 = some r) :
  FW.Ok Try.prog 81 [.agg (ApiArg.cells v0)] (.lit (.string (FW.B r))) := by
 refine FW.enter (xs := [.agg (ApiArg.cells v0)]) Try.func81 rfl Try.ntmps81 rfl ?_
 intro M w0 a hk
 unfold show_arg.b at h
 refine FW.wreg ?_; intro K' hK1
 refine FW.l_box (cs := (ApiArg.cells v0)) hk rfl rfl rfl rfl rfl ?_; clear hk; intro bx1 a w hk
 refine FW.lfun (y := .lit (.string (FW.B ([] : List UInt8)))) hk rfl rfl rfl rfl (FW.f_assign hk FW.h0 rfl) ?_; clear hk; intro a w hk
 refine FW.lend (hK1 _ _ ?_); clear hK1 K'
 refine FW.wseq ?_; intro K' hK2
 refine FW.wreg ?_; intro K' hK3
 refine FW.lfun (y := .lit (.pointer (some ⟨bx1, 0, none⟩))) hk rfl rfl rfl rfl (FW.f_fieldPtr hk FW.h0 rfl Try.underlying38 rfl (by kernel_rfl) rfl) ?_; clear hk; intro a w hk
 refine FW.lfun (y := .lit (.int .i64 v0.Kind)) hk rfl rfl rfl rfl (FW.f_loadBlk1 hk FW.h0 (j := 0) rfl rfl Try.underlying3 rfl rfl) ?_; clear hk; intro a w hk
 refine FW.lend (hK3 _ _ ?_); clear hK3 K'
 refine wp_block ?_
 refine FW.wreg ?_; intro K' hK4
 refine FW.lfun (y := .lit (.bool (decide (v0.Kind = 2)))) hk rfl rfl rfl rfl ((FW.f_pure (FW.p_eql hk.kn FW.h0 rfl rfl))) ?_; clear hk; intro a w hk
 refine FW.lfun (y := .lit (.bool (decide (v0.Kind = 2)))) hk rfl rfl rfl rfl (FW.f_assign hk FW.h0 rfl) ?_; clear hk; intro a w hk
 refine FW.lend (hK4 _ _ ?_); clear hK4 K'
 refine FW.wcondF (b := (decide (v0.Kind = 2))) hk h rfl (fun h hb => ?_) (fun h hb => ?_)
 ·skip
  refine FW.wreg ?_; intro K' hK5
  refine FW.lfun (y := .lit (.pointer (some ⟨bx1, 7, none⟩))) hk rfl rfl rfl rfl (FW.f_fieldPtr hk FW.h0 rfl Try.underlying38 rfl (by kernel_rfl) rfl) ?_; clear hk; intro a w hk
  refine FW.lfun (y := .agg ((ApiPred.cells v0.P))) hk rfl rfl rfl rfl (FW.f_loadBlk hk FW.h0 (j := 0) rfl rfl Try.underlying36 rfl rfl rfl rfl) ?_; clear hk; intro a w hk
  obtain ⟨t1, hr_t1, h⟩ := FW.bnd h
  refine FW.lfun (y := .lit (.string (FW.B t1))) hk rfl rfl rfl rfl (FW.f_call hk FW.h0 rfl rfl Try.func11 rfl (by kernel_rfl) (show_Pred.ok K v0.P _ hr_t1)) ?_; clear hk; intro a w hk
  refine FW.lfun (y := .lit (.string (FW.B t1))) hk rfl rfl rfl rfl (FW.f_assign hk FW.h0 rfl) ?_; clear hk; intro a w hk
  refine FW.lend (hK5 _ _ ?_); clear hK5 K'
  refine wp_ret ?_
  (repeat first | refine FW.then_ret ?_ | refine FW.block_ret ?_)
  obtain rfl := Option.some.inj h
  exact FW.fret1 hk rfl rfl
 ·skip
  refine FW.wreg ?_; intro K' hK6
  refine FW.lfun (y := .lit (.bool (decide (v0.Kind = 3)))) hk rfl rfl rfl rfl ((FW.f_pure (FW.p_eql hk.kn FW.h0 rfl rfl))) ?_; clear hk; intro a w hk
  refine FW.lfun (y := .lit (.bool (decide (v0.Kind = 3)))) hk rfl rfl rfl rfl (FW.f_assign hk FW.h0 rfl) ?_; clear hk; intro a w hk
  refine FW.lend (hK6 _ _ ?_); clear hK6 K'
  refine FW.wcondF (b := (decide (v0.Kind = 3))) hk h rfl (fun h hb => ?_) (fun h hb => ?_)
  ·skip
   refine FW.wreg ?_; intro K' hK7
   refine FW.lfun (y := .lit (.pointer (some ⟨bx1, 10, none⟩))) hk rfl rfl rfl rfl (FW.f_fieldPtr hk FW.h0 rfl Try.underlying38 rfl (by kernel_rfl) rfl) ?_; clear hk; intro a w hk
   refine FW.lfun (y := .row (r_ApiStep_cells v0.T)) hk rfl rfl rfl rfl (FW.f_loadBlk1 hk FW.h0 (j := 0) rfl rfl Try.underlying22 rfl rfl) ?_; clear hk; intro a w hk
   obtain ⟨t2, hr_t2, h⟩ := FW.bnd h
   refine FW.lfun (y := .lit (.string (FW.B t2))) hk rfl rfl rfl rfl (FW.f_call hk FW.h0 rfl rfl Try.func53 rfl (by kernel_rfl) (hs_show_Steps v0.T _ hr_t2)) ?_; clear hk; intro a w hk
   obtain ⟨hc1, h⟩ := FW.chk h
   refine FW.lfun (y := .lit (.string (FW.B (([95, 95, 46] : List UInt8) ++ t2)))) hk rfl rfl rfl rfl ((FW.f_pure (FW.p_sadd hk.kn FW.h0 rfl rfl hc1))) ?_; clear hk; intro a w hk
   refine FW.lfun (y := .lit (.string (FW.B (([95, 95, 46] : List UInt8) ++ t2)))) hk rfl rfl rfl rfl (FW.f_assign hk FW.h0 rfl) ?_; clear hk; intro a w hk
   refine FW.lend (hK7 _ _ ?_); clear hK7 K'
   refine wp_ret ?_
   (repeat first | refine FW.then_ret ?_ | refine FW.block_ret ?_)
   obtain rfl := Option.some.inj h
   exact FW.fret1 hk rfl rfl
  ·skip
   refine FW.wreg ?_; intro K' hK8
   refine FW.lfun (y := .lit (.bool (decide (v0.Kind = 4)))) hk rfl rfl rfl rfl ((FW.f_pure (FW.p_eql hk.kn FW.h0 rfl rfl))) ?_; clear hk; intro a w hk
   refine FW.lfun (y := .lit (.bool (decide (v0.Kind = 4)))) hk rfl rfl rfl rfl (FW.f_assign hk FW.h0 rfl) ?_; clear hk; intro a w hk
   refine FW.lend (hK8 _ _ ?_); clear hK8 K'
   refine FW.wcondF (b := (decide (v0.Kind = 4))) hk h rfl (fun h hb => ?_) (fun h hb => ?_)
   ·skip
    refine FW.wreg ?_; intro K' hK9
    refine FW.lfun (y := .lit (.pointer (some ⟨bx1, 1, none⟩))) hk rfl rfl rfl rfl (FW.f_fieldPtr hk FW.h0 rfl Try.underlying38 rfl (by kernel_rfl) rfl) ?_; clear hk; intro a w hk
    refine FW.lfun (y := .lit (.pointer (some ⟨bx1, 5, none⟩))) hk rfl rfl rfl rfl (FW.f_fieldPtr hk FW.h0 rfl Try.underlying33 rfl (by kernel_rfl) rfl) ?_; clear hk; intro a w hk
    refine FW.lfun (y := .lit (.string (FW.B v0.V.S))) hk rfl rfl rfl rfl (FW.f_loadBlk1 hk FW.h0 (j := 0) rfl rfl Try.underlying9 rfl rfl) ?_; clear hk; intro a w hk
    refine FW.lfun (y := .lit (.string (FW.B v0.V.S))) hk rfl rfl rfl rfl (FW.f_assign hk FW.h0 rfl) ?_; clear hk; intro a w hk
    refine FW.lend (hK9 _ _ ?_); clear hK9 K'
    refine wp_ret ?_
    (repeat first | refine FW.then_ret ?_ | refine FW.block_ret ?_)
    obtain rfl := Option.some.inj h
    exact FW.fret1 hk rfl rfl
   ·skip
    refine wp_skip ?_
    (repeat first | refine FW.then_normal ?_ | refine FW.block_normal ?_); refine hK2 _ _ ?_
    refine FW.wreg ?_; intro K' hK10
    refine FW.lfun (y := .lit (.pointer (some ⟨bx1, 1, none⟩))) hk rfl rfl rfl rfl (FW.f_fieldPtr hk FW.h0 rfl Try.underlying38 rfl (by kernel_rfl) rfl) ?_; clear hk; intro a w hk
    refine FW.lfun (y := .agg ((ApiValue.cells v0.V))) hk rfl rfl rfl rfl (FW.f_loadBlk hk FW.h0 (j := 0) rfl rfl Try.underlying33 rfl rfl rfl rfl) ?_; clear hk; intro a w hk
    obtain ⟨t3, hr_t3, h⟩ := FW.bnd h
    refine FW.lfun (y := .lit (.string (FW.B t3))) hk rfl rfl rfl rfl (FW.f_call hk FW.h0 rfl rfl Try.func15 rfl (by kernel_rfl) (show_Value.ok K v0.V _ hr_t3)) ?_; clear hk; intro a w hk
    refine FW.lfun (y := .lit (.string (FW.B t3))) hk rfl rfl rfl rfl (FW.f_assign hk FW.h0 rfl) ?_; clear hk; intro a w hk
    refine FW.lend (hK10 _ _ ?_); clear hK10 K'
    refine wp_ret ?_
    (repeat first | refine FW.then_ret ?_ | refine FW.block_ret ?_)
    obtain rfl := Option.some.inj h
    exact FW.fret1 hk rfl rfl
theorem show_Steps_knot : ∀ K : Nat, (∀ (v0 : List ApiStep) (r : List UInt8), show_Steps.f K v0 = some r → FW.Ok Try.prog 53 [.row (r_ApiStep_cells v0)] (.lit (.string (FW.B r)))) ∧ (∀ (v0 : List ApiArg) (r : List UInt8), show_join_api_Arg_of_show_arg.f K v0 = some r → FW.Ok Try.prog 80 [.row (r_ApiArg_cells v0), .lit (.func (.func 81) #[] #[])] (.lit (.string (FW.B r)))) ∧ (∀ (v0 : ApiArg) (r : List UInt8), show_arg.f K v0 = some r → FW.Ok Try.prog 81 [.agg (ApiArg.cells v0)] (.lit (.string (FW.B r))))
 | 0 => ⟨fun v0 r h => by simp [show_Steps.f] at h, fun v0 r h => by simp [show_join_api_Arg_of_show_arg.f] at h, fun v0 r h => by simp [show_arg.f] at h⟩
 | K + 1 => ⟨fun v0 r h => by rw [show_Steps.f] at h; exact show_Steps.bok _ _ _ (show_Steps_knot K).1 (show_Steps_knot K).2.1 (show_Steps_knot K).2.2 K v0 r h, fun v0 r h => by rw [show_join_api_Arg_of_show_arg.f] at h; exact show_join_api_Arg_of_show_arg.bok _ _ _ (show_Steps_knot K).1 (show_Steps_knot K).2.1 (show_Steps_knot K).2.2 K v0 r h, fun v0 r h => by rw [show_arg.f] at h; exact show_arg.bok _ _ _ (show_Steps_knot K).1 (show_Steps_knot K).2.1 (show_Steps_knot K).2.2 K v0 r h⟩
theorem show_Steps.ok (K : Nat) (v0 : List ApiStep) (r : List UInt8) (h : show_Steps.f K v0 = some r) : FW.Ok Try.prog 53 [.row (r_ApiStep_cells v0)] (.lit (.string (FW.B r))) := (show_Steps_knot K).1 v0 r h
theorem show_join_api_Arg_of_show_arg.ok (K : Nat) (v0 : List ApiArg) (r : List UInt8) (h : show_join_api_Arg_of_show_arg.f K v0 = some r) : FW.Ok Try.prog 80 [.row (r_ApiArg_cells v0), .lit (.func (.func 81) #[] #[])] (.lit (.string (FW.B r))) := (show_Steps_knot K).2.1 v0 r h
theorem show_arg.ok (K : Nat) (v0 : ApiArg) (r : List UInt8) (h : show_arg.f K v0 = some r) : FW.Ok Try.prog 81 [.agg (ApiArg.cells v0)] (.lit (.string (FW.B r))) := (show_Steps_knot K).2.2 v0 r h

theorem show_Query.ok (K : Nat) (v0 : List ApiStep) (r : List UInt8) (h : show_Query.f K v0 = some r) :
  FW.Ok Try.prog 29 [.row (r_ApiStep_cells v0)] (.lit (.string (FW.B r))) := by
 refine FW.enter (xs := [.row (r_ApiStep_cells v0)]) Try.func29 rfl Try.ntmps29 rfl ?_
 intro M w0 a hk
 unfold show_Query.f at h
 refine FW.wreg ?_; intro K' hK1
 refine FW.lfun (y := .lit (.string (FW.B ([] : List UInt8)))) hk rfl rfl rfl rfl (FW.f_assign hk FW.h0 rfl) ?_; clear hk; intro a w hk
 refine FW.lend (hK1 _ _ ?_); clear hK1 K'
 refine FW.wreg ?_; intro K' hK2
 refine FW.lfun (y := .row (r_ApiStep_cells v0)) hk rfl rfl rfl rfl (FW.f_move hk FW.h0 rfl) ?_; clear hk; intro a w hk
 obtain ⟨t1, hr_t1, h⟩ := FW.bnd h
 refine FW.lfun (y := .lit (.string (FW.B t1))) hk rfl rfl rfl rfl (FW.f_call hk FW.h0 rfl rfl Try.func53 rfl (by kernel_rfl) (show_Steps.ok K v0 _ hr_t1)) ?_; clear hk; intro a w hk
 obtain ⟨hc1, h⟩ := FW.chk h
 refine FW.lfun (y := .lit (.string (FW.B (([103, 46] : List UInt8) ++ t1)))) hk rfl rfl rfl rfl ((FW.f_pure (FW.p_sadd hk.kn FW.h0 rfl rfl hc1))) ?_; clear hk; intro a w hk
 refine FW.lfun (y := .lit (.string (FW.B (([103, 46] : List UInt8) ++ t1)))) hk rfl rfl rfl rfl (FW.f_assign hk FW.h0 rfl) ?_; clear hk; intro a w hk
 refine FW.lend (hK2 _ _ ?_); clear hK2 K'
 refine wp_ret ?_
 (repeat first | refine FW.then_ret ?_ | refine FW.block_ret ?_)
 obtain rfl := Option.some.inj h
 exact FW.fret1 hk rfl rfl

theorem offshootlaw13_awake.ok (K : Nat)  (r : Bool) (h : offshootlaw13_awake.f K = some r) :
  FW.Ok Try.prog 10 [] (.lit (.bool r)) := by
 refine FW.enter (xs := []) Try.func10 rfl Try.ntmps10 rfl ?_
 intro M w0 a hk
 unfold offshootlaw13_awake.f at h
 refine FW.wreg ?_; intro K' hK1
 refine FW.lfun (y := .lit (.bool false)) hk rfl rfl rfl rfl (FW.f_assign hk FW.h0 rfl) ?_; clear hk; intro a w hk
 refine FW.lend (hK1 _ _ ?_); clear hK1 K'
 refine FW.wreg ?_; intro K' hK2
 obtain ⟨t1, hr_t1, h⟩ := FW.bnd h
 refine FW.lfun (y := .tup [.row (r_ApiStep_cells t1.1), .lit (.int .i64 t1.2.1), .lit (.int .i64 t1.2.2)]) hk rfl rfl rfl rfl (FW.f_call hk FW.h0 rfl rfl Try.func9 rfl (by kernel_rfl) (offshootref12_Parse.ok K ([103, 46, 86, 40, 41, 46, 104, 97, 115, 40, 39, 97, 39, 44, 103, 116, 40, 49, 41, 46, 97, 110, 100, 40, 108, 116, 40, 53, 41, 41, 41] : List UInt8) _ hr_t1)) ?_; clear hk; intro a w hk
 refine FW.lfun (y := .tup [.row (r_ApiStep_cells t1.1), .lit (.int .i64 t1.2.1), .lit (.int .i64 t1.2.2)]) hk rfl rfl rfl rfl (FW.f_move hk FW.h0 rfl) ?_; clear hk; intro a w hk
 refine FW.lfun (y := .row (r_ApiStep_cells t1.1)) hk rfl rfl rfl rfl (FW.f_extract hk FW.h0 rfl rfl) ?_; clear hk; intro a w hk
 refine FW.lfun (y := .lit (.int .i64 t1.2.1)) hk rfl rfl rfl rfl (FW.f_extract hk FW.h0 rfl rfl) ?_; clear hk; intro a w hk
 refine FW.lfun (y := .lit (.int .i64 t1.2.2)) hk rfl rfl rfl rfl (FW.f_extract hk FW.h0 rfl rfl) ?_; clear hk; intro a w hk
 refine FW.lfun (y := .row (r_ApiStep_cells t1.1)) hk rfl rfl rfl rfl (FW.f_assign hk FW.h0 rfl) ?_; clear hk; intro a w hk
 refine FW.lfun (y := .lit (.int .i64 t1.2.1)) hk rfl rfl rfl rfl (FW.f_assign hk FW.h0 rfl) ?_; clear hk; intro a w hk
 refine FW.lfun (y := .lit (.int .i64 t1.2.2)) hk rfl rfl rfl rfl (FW.f_assign hk FW.h0 rfl) ?_; clear hk; intro a w hk
 refine FW.lend (hK2 _ _ ?_); clear hK2 K'
 refine FW.wreg ?_; intro K' hK3
 refine FW.lfun (y := .lit (.int .i64 t1.2.2)) hk rfl rfl rfl rfl (FW.f_move hk FW.h0 rfl) ?_; clear hk; intro a w hk
 refine FW.lfun (y := .lit (.bool (decide (t1.2.2 = 0)))) hk rfl rfl rfl rfl ((FW.f_pure (FW.p_eql hk.kn FW.h0 rfl rfl))) ?_; clear hk; intro a w hk
 refine FW.lfun (y := .lit (.bool (decide (t1.2.2 = 0)))) hk rfl rfl rfl rfl (FW.f_move hk FW.h0 rfl) ?_; clear hk; intro a w hk
 refine FW.lfunG (y := .row (r_ApiStep_cells t1.1)) hk rfl rfl rfl rfl rfl rfl rfl rfl (fun hc => FW.f_move hk hc rfl) ?_; clear hk; intro a w hk
 obtain ⟨t2, hr_t2, h⟩ := FW.bndG h
 refine FW.lfunG (y := .lit (.string (FW.B t2))) hk rfl rfl rfl rfl rfl rfl rfl rfl (fun hc => FW.f_call hk hc rfl rfl Try.func29 rfl (by kernel_rfl) (show_Query.ok K t1.1 _ (hr_t2 (FW.asm_out (p := (decide (t1.2.2 = 0)) = true) hk.kn hc (fun e0 => e0))))) ?_; clear hk; intro a w hk
 refine FW.lfunG (y := .lit (.bool (decide (t2 = ([103, 46, 86, 40, 41, 46, 104, 97, 115, 40, 39, 97, 39, 44, 32, 103, 116, 40, 49, 41, 46, 97, 110, 100, 40, 108, 116, 40, 53, 41, 41, 41] : List UInt8))))) hk rfl rfl rfl rfl rfl rfl rfl rfl (fun hc => (FW.f_pure (FW.p_seql hk.kn hc rfl rfl))) ?_; clear hk; intro a w hk
 refine FW.lfun (y := .lit (.bool ((decide (t1.2.2 = 0)) && (decide (t2 = ([103, 46, 86, 40, 41, 46, 104, 97, 115, 40, 39, 97, 39, 44, 32, 103, 116, 40, 49, 41, 46, 97, 110, 100, 40, 108, 116, 40, 53, 41, 41, 41] : List UInt8)))))) hk rfl rfl rfl rfl ((FW.f_pure (FW.p_pick_and hk.kn FW.h0 rfl rfl))) ?_; clear hk; intro a w hk
 refine FW.lfun (y := .lit (.bool ((decide (t1.2.2 = 0)) && (decide (t2 = ([103, 46, 86, 40, 41, 46, 104, 97, 115, 40, 39, 97, 39, 44, 32, 103, 116, 40, 49, 41, 46, 97, 110, 100, 40, 108, 116, 40, 53, 41, 41, 41] : List UInt8)))))) hk rfl rfl rfl rfl (FW.f_move hk FW.h0 rfl) ?_; clear hk; intro a w hk
 refine FW.lfunG (y := .agg ((ApiValue.cells (⟨2, false, (-5), 0, [], []⟩ : ApiValue)))) hk rfl rfl rfl rfl rfl rfl rfl rfl (fun hc => FW.f_buildN [] hk hc rfl rfl rfl) ?_; clear hk; intro a w hk
 obtain ⟨t3, hr_t3, h⟩ := FW.bndG h
 refine FW.lfunG (y := .lit (.string (FW.B t3))) hk rfl rfl rfl rfl rfl rfl rfl rfl (fun hc => FW.f_call hk hc rfl rfl Try.func15 rfl (by kernel_rfl) (show_Value.ok K (⟨2, false, (-5), 0, [], []⟩ : ApiValue) _ (hr_t3 (FW.asm_out (p := ((decide (t1.2.2 = 0)) && (decide (t2 = ([103, 46, 86, 40, 41, 46, 104, 97, 115, 40, 39, 97, 39, 44, 32, 103, 116, 40, 49, 41, 46, 97, 110, 100, 40, 108, 116, 40, 53, 41, 41, 41] : List UInt8)))) = true) hk.kn hc (fun e0 => e0))))) ?_; clear hk; intro a w hk
 refine FW.lfunG (y := .lit (.bool (decide (t3 = ([45, 53] : List UInt8))))) hk rfl rfl rfl rfl rfl rfl rfl rfl (fun hc => (FW.f_pure (FW.p_seql hk.kn hc rfl rfl))) ?_; clear hk; intro a w hk
 refine FW.lfun (y := .lit (.bool (((decide (t1.2.2 = 0)) && (decide (t2 = ([103, 46, 86, 40, 41, 46, 104, 97, 115, 40, 39, 97, 39, 44, 32, 103, 116, 40, 49, 41, 46, 97, 110, 100, 40, 108, 116, 40, 53, 41, 41, 41] : List UInt8)))) && (decide (t3 = ([45, 53] : List UInt8)))))) hk rfl rfl rfl rfl ((FW.f_pure (FW.p_pick_and hk.kn FW.h0 rfl rfl))) ?_; clear hk; intro a w hk
 refine FW.lfun (y := .lit (.bool (((decide (t1.2.2 = 0)) && (decide (t2 = ([103, 46, 86, 40, 41, 46, 104, 97, 115, 40, 39, 97, 39, 44, 32, 103, 116, 40, 49, 41, 46, 97, 110, 100, 40, 108, 116, 40, 53, 41, 41, 41] : List UInt8)))) && (decide (t3 = ([45, 53] : List UInt8)))))) hk rfl rfl rfl rfl (FW.f_assign hk FW.h0 rfl) ?_; clear hk; intro a w hk
 refine FW.lend (hK3 _ _ ?_); clear hK3 K'
 refine wp_ret ?_
 (repeat first | refine FW.then_ret ?_ | refine FW.block_ret ?_)
 obtain rfl := Option.some.inj h
 exact FW.fret1 hk rfl rfl

theorem offshootref13_Number.ok (K : Nat) (v0 : Int) (r : List UInt8) (h : offshootref13_Number.f K v0 = some r) :
  FW.Ok Try.prog 40 [.lit (.int .i64 v0)] (.lit (.string (FW.B r))) := by
 refine FW.enter (xs := [.lit (.int .i64 v0)]) Try.func40 rfl Try.ntmps40 rfl ?_
 intro M w0 a hk
 unfold offshootref13_Number.f at h
 refine FW.wreg ?_; intro K' hK1
 refine FW.lfun (y := .lit (.string (FW.B ([] : List UInt8)))) hk rfl rfl rfl rfl (FW.f_assign hk FW.h0 rfl) ?_; clear hk; intro a w hk
 refine FW.lend (hK1 _ _ ?_); clear hK1 K'
 refine FW.wreg ?_; intro K' hK2
 refine FW.lfun (y := .lit (.int .i64 v0)) hk rfl rfl rfl rfl (FW.f_move hk FW.h0 rfl) ?_; clear hk; intro a w hk
 refine FW.lfun (y := .lit (.int .u64 (IntKind.wrap .u64 v0))) hk rfl rfl rfl rfl ((FW.f_pure (FW.p_conv Try.underlying2 Try.underlying77 hk.kn FW.h0 rfl))) ?_; clear hk; intro a w hk
 refine FW.lfun (y := .lit (.int .i64 v0)) hk rfl rfl rfl rfl (FW.f_move hk FW.h0 rfl) ?_; clear hk; intro a w hk
 refine FW.lfun (y := .lit (.bool (decide (v0 < 0)))) hk rfl rfl rfl rfl ((FW.f_pure (FW.p_lss hk.kn FW.h0 rfl rfl))) ?_; clear hk; intro a w hk
 refine FW.lfun (y := .lit (.int .u64 (IntKind.wrap .u64 v0))) hk rfl rfl rfl rfl (FW.f_assign hk FW.h0 rfl) ?_; clear hk; intro a w hk
 refine FW.lfun (y := .lit (.bool (decide (v0 < 0)))) hk rfl rfl rfl rfl (FW.f_assign hk FW.h0 rfl) ?_; clear hk; intro a w hk
 refine FW.lend (hK2 _ _ ?_); clear hK2 K'
 refine FW.wseqJ (fun a w => ∃ (v3 : Int) (v4 : Bool), FW.S M w0 a w 33 [] [(3, [], .lit (.int .u64 v3)), (4, [], .lit (.bool v4))] ∧ offshootref13_Number.j1 K v3 v4 = some r) ?_ ?_
 ·clear hk h
  rintro a w ⟨v3, v4, hk, h⟩
  unfold offshootref13_Number.j1 at h
  refine FW.wreg ?_; intro K' hK4
  refine FW.lfun (y := .lit (.string (FW.B ([] : List UInt8)))) hk rfl rfl rfl rfl (FW.f_assign hk FW.h0 rfl) ?_; clear hk; intro a w hk
  refine FW.lend (hK4 _ _ ?_); clear hK4 K'
  refine FW.wseq ?_; intro K' hK5
  refine wp_block ?_
  refine FW.wloop (T := Nat × Int × Bool × List UInt8) (fun x a w => match x with | (kl1, v3, v4, v5) => FW.S M w0 a w 33 [] [(3, [], .lit (.int .u64 v3)), (4, [], .lit (.bool v4)), (5, [], .lit (.string (FW.B v5)))] ∧ offshootref13_Number.l1 K kl1 v3 v4 v5 = some r) (fun x => x.1) (K, v3, v4, ([] : List UInt8)) ⟨hk.sub ⟨rfl, rfl, rfl, trivial⟩, h⟩ ?_
  clear hk h
  rintro ⟨kl1, v3, v4, v5⟩ a w ⟨hk, h⟩ K' hK6
  cases kl1 with
  | zero => simp [offshootref13_Number.l1] at h
  | succ kl1 =>
  rw [offshootref13_Number.l1.eq_2] at h
  refine FW.wseq ?_; intro K' hK7
  refine FW.wreg ?_; intro K' hK8
  refine FW.lfun (y := .lit (.int .u64 v3)) hk rfl rfl rfl rfl (FW.f_move hk FW.h0 rfl) ?_; clear hk; intro a w hk
  refine FW.lfun (y := .lit (.bool (decide (0 < v3)))) hk rfl rfl rfl rfl ((FW.f_pure (FW.p_gtr hk.kn FW.h0 rfl rfl))) ?_; clear hk; intro a w hk
  refine FW.lfun (y := .lit (.bool (decide (0 < v3)))) hk rfl rfl rfl rfl (FW.f_move hk FW.h0 rfl) ?_; clear hk; intro a w hk
  refine FW.lfunG (y := .lit (.string (FW.B v5))) hk rfl rfl rfl rfl rfl rfl rfl rfl (fun hc => FW.f_move hk hc rfl) ?_; clear hk; intro a w hk
  refine FW.lfunG (y := .lit (.bool (decide (v5 = ([] : List UInt8))))) hk rfl rfl rfl rfl rfl rfl rfl rfl (fun hc => (FW.f_pure (FW.p_seql hk.kn hc rfl rfl))) ?_; clear hk; intro a w hk
  refine FW.lfun (y := .lit (.bool ((decide (0 < v3)) || (decide (v5 = ([] : List UInt8)))))) hk rfl rfl rfl rfl ((FW.f_pure (FW.p_pick_or hk.kn FW.h0 rfl rfl))) ?_; clear hk; intro a w hk
  refine FW.lend (hK8 _ _ ?_); clear hK8 K'
  refine FW.wcondF (b := ((decide (0 < v3)) || (decide (v5 = ([] : List UInt8))))) hk h rfl (fun h hb => ?_) (fun h hb => ?_)
  ·skip
   refine wp_skip ?_
   (repeat first | refine FW.then_normal ?_ | refine FW.block_normal ?_); refine hK7 _ _ ?_
   refine wp_block ?_
   refine FW.wreg ?_; intro K' hK9
   refine FW.lfun (y := .lit (.int .u64 v3)) hk rfl rfl rfl rfl (FW.f_move hk FW.h0 rfl) ?_; clear hk; intro a w hk
   refine FW.lfun (y := .lit (.int .u64 (Int.tmod v3 10))) hk rfl rfl rfl rfl ((FW.f_pure (FW.p_rem hk.kn FW.h0 rfl rfl (show ¬ (10 : Int) = 0 from by decide)))) ?_; clear hk; intro a w hk
   refine FW.lfun (y := .lit (.int .u8 (IntKind.wrap .u8 (Int.tmod v3 10)))) hk rfl rfl rfl rfl ((FW.f_pure (FW.p_conv Try.underlying77 Try.underlying5 hk.kn FW.h0 rfl))) ?_; clear hk; intro a w hk
   refine FW.lfun (y := .lit (.int .u8 (IntKind.wrap .u8 (48 + (IntKind.wrap .u8 (Int.tmod v3 10)))))) hk rfl rfl rfl rfl ((FW.f_pure (FW.p_add hk.kn FW.h0 rfl rfl))) ?_; clear hk; intro a w hk
   refine FW.l_buildSlice (f := c_u8) (l := ([(IntKind.wrap .u8 (48 + (IntKind.wrap .u8 (Int.tmod v3 10))))] : List Int)) hk rfl rfl rfl Try.underlying75 rfl rfl rfl rfl (fun _ => rfl) rfl ?_; clear hk; intro bx1 a w hk
   refine FW.lfun (y := .lit (.string (FW.B (FW.toB ([(IntKind.wrap .u8 (48 + (IntKind.wrap .u8 (Int.tmod v3 10))))] : List Int))))) hk rfl rfl rfl rfl (FW.f_toBown (f := c_u8) rfl hk FW.h0 (j := 0) rfl rfl Try.underlying75 Try.underlying5 Try.underlying9) ?_; clear hk; intro a w hk
   refine FW.lfun (y := .lit (.string (FW.B v5))) hk rfl rfl rfl rfl (FW.f_move hk FW.h0 rfl) ?_; clear hk; intro a w hk
   obtain ⟨hc1, h⟩ := FW.chk h
   refine FW.lfun (y := .lit (.string (FW.B ((FW.toB ([(IntKind.wrap .u8 (48 + (IntKind.wrap .u8 (Int.tmod v3 10))))] : List Int)) ++ v5)))) hk rfl rfl rfl rfl ((FW.f_pure (FW.p_sadd hk.kn FW.h0 rfl rfl hc1))) ?_; clear hk; intro a w hk
   refine FW.lfun (y := .lit (.string (FW.B ((FW.toB ([(IntKind.wrap .u8 (48 + (IntKind.wrap .u8 (Int.tmod v3 10))))] : List Int)) ++ v5)))) hk rfl rfl rfl rfl (FW.f_assign hk FW.h0 rfl) ?_; clear hk; intro a w hk
   refine FW.lend (hK9 _ _ ?_); clear hK9 K'
   refine FW.wreg1 ?_
   refine FW.lfun (y := .lit (.int .u64 v3)) hk rfl rfl rfl rfl (FW.f_move hk FW.h0 rfl) ?_; clear hk; intro a w hk
   refine FW.lfun (y := .lit (.int .u64 (IntKind.wrap .u64 (Int.tdiv v3 10)))) hk rfl rfl rfl rfl ((FW.f_pure (FW.p_quo hk.kn FW.h0 rfl rfl (show ¬ (10 : Int) = 0 from by decide)))) ?_; clear hk; intro a w hk
   refine FW.lfun (y := .lit (.int .u64 (IntKind.wrap .u64 (Int.tdiv v3 10)))) hk rfl rfl rfl rfl (FW.f_assign hk FW.h0 rfl) ?_; clear hk; intro a w hk
   refine wpList_nil ?_
   (repeat first | refine FW.then_normal ?_ | refine FW.block_normal ?_); exact hK6 (kl1, (IntKind.wrap .u64 (Int.tdiv v3 10)), v4, ((FW.toB ([(IntKind.wrap .u8 (48 + (IntKind.wrap .u8 (Int.tmod v3 10))))] : List Int)) ++ v5)) _ _ (Nat.lt_succ_self _) ⟨(hk.drop 0).sub ⟨rfl, rfl, rfl, trivial⟩, h⟩
  ·skip
   refine wp_exit ?_; (repeat first | refine FW.then_exit ?_ | refine FW.block_exit_ne rfl ?_); refine FW.block_exit ?_
   (repeat first | refine FW.then_normal ?_ | refine FW.block_normal ?_); refine hK5 _ _ ?_
   refine FW.wseq ?_; intro K' hK11
   refine FW.wreg ?_; intro K' hK12
   refine FW.lfun (y := .lit (.bool v4)) hk rfl rfl rfl rfl (FW.f_move hk FW.h0 rfl) ?_; clear hk; intro a w hk
   refine FW.lend (hK12 _ _ ?_); clear hK12 K'
   refine FW.wcondF (b := v4) hk h rfl (fun h hb => ?_) (fun h hb => ?_)
   ·skip
    refine FW.wreg ?_; intro K' hK13
    refine FW.lfun (y := .lit (.string (FW.B v5))) hk rfl rfl rfl rfl (FW.f_move hk FW.h0 rfl) ?_; clear hk; intro a w hk
    obtain ⟨hc2, h⟩ := FW.chk h
    refine FW.lfun (y := .lit (.string (FW.B (([45] : List UInt8) ++ v5)))) hk rfl rfl rfl rfl ((FW.f_pure (FW.p_sadd hk.kn FW.h0 rfl rfl hc2))) ?_; clear hk; intro a w hk
    refine FW.lfun (y := .lit (.string (FW.B (([45] : List UInt8) ++ v5)))) hk rfl rfl rfl rfl (FW.f_assign hk FW.h0 rfl) ?_; clear hk; intro a w hk
    refine FW.lend (hK13 _ _ ?_); clear hK13 K'
    refine wp_ret ?_
    (repeat first | refine FW.then_ret ?_ | refine FW.block_ret ?_)
    obtain rfl := Option.some.inj h
    exact FW.fret1 hk rfl rfl
   ·skip
    refine wp_skip ?_
    (repeat first | refine FW.then_normal ?_ | refine FW.block_normal ?_); refine hK11 _ _ ?_
    refine FW.wreg ?_; intro K' hK14
    refine FW.lfun (y := .lit (.string (FW.B v5))) hk rfl rfl rfl rfl (FW.f_move hk FW.h0 rfl) ?_; clear hk; intro a w hk
    refine FW.lfun (y := .lit (.string (FW.B v5))) hk rfl rfl rfl rfl (FW.f_assign hk FW.h0 rfl) ?_; clear hk; intro a w hk
    refine FW.lend (hK14 _ _ ?_); clear hK14 K'
    refine wp_ret ?_
    (repeat first | refine FW.then_ret ?_ | refine FW.block_ret ?_)
    obtain rfl := Option.some.inj h
    exact FW.fret1 hk rfl rfl
 ·intro K' hK3
  refine FW.wreg ?_; intro K' hK15
  refine FW.lfun (y := .lit (.bool (decide (v0 < 0)))) hk rfl rfl rfl rfl (FW.f_move hk FW.h0 rfl) ?_; clear hk; intro a w hk
  refine FW.lend (hK15 _ _ ?_); clear hK15 K'
  refine FW.wcondF (b := (decide (v0 < 0))) hk h rfl (fun h hb => ?_) (fun h hb => ?_)
  ·skip
   refine FW.wreg1 ?_
   refine FW.lfun (y := .lit (.int .u64 (IntKind.wrap .u64 v0))) hk rfl rfl rfl rfl (FW.f_move hk FW.h0 rfl) ?_; clear hk; intro a w hk
   refine FW.lfun (y := .lit (.int .u64 (IntKind.wrap .u64 (0 - (IntKind.wrap .u64 v0))))) hk rfl rfl rfl rfl ((FW.f_pure (FW.p_neg hk.kn FW.h0 rfl))) ?_; clear hk; intro a w hk
   refine FW.lfun (y := .lit (.int .u64 (IntKind.wrap .u64 (0 - (IntKind.wrap .u64 v0))))) hk rfl rfl rfl rfl (FW.f_assign hk FW.h0 rfl) ?_; clear hk; intro a w hk
   refine wpList_nil ?_
   (repeat first | refine FW.then_normal ?_ | refine FW.block_normal ?_); exact hK3 _ _ ⟨(IntKind.wrap .u64 (0 - (IntKind.wrap .u64 v0))), (decide (v0 < 0)), hk.sub ⟨rfl, rfl, trivial⟩, h⟩
  ·skip
   refine wp_skip ?_
   (repeat first | refine FW.then_normal ?_ | refine FW.block_normal ?_); exact hK3 _ _ ⟨(IntKind.wrap .u64 v0), (decide (v0 < 0)), hk.sub ⟨rfl, rfl, trivial⟩, h⟩

theorem offshootref13_hex.ok  (v0 : Int) (r : List UInt8) (h : offshootref13_hex.f v0 = some r) :
  FW.Ok Try.prog 41 [.lit (.int .u8 v0)] (.lit (.string (FW.B r))) := by
 refine FW.enter (xs := [.lit (.int .u8 v0)]) Try.func41 rfl Try.ntmps41 rfl ?_
 intro M w0 a hk
 unfold offshootref13_hex.f at h
 refine FW.wreg ?_; intro K' hK1
 refine FW.lfun (y := .lit (.string (FW.B ([] : List UInt8)))) hk rfl rfl rfl rfl (FW.f_assign hk FW.h0 rfl) ?_; clear hk; intro a w hk
 refine FW.lend (hK1 _ _ ?_); clear hK1 K'
 refine FW.wreg ?_; intro K' hK2
 refine FW.lfun (y := .lit (.string (FW.B ([48, 49, 50, 51, 52, 53, 54, 55, 56, 57, 97, 98, 99, 100, 101, 102] : List UInt8)))) hk rfl rfl rfl rfl (FW.f_assign hk FW.h0 rfl) ?_; clear hk; intro a w hk
 refine FW.lend (hK2 _ _ ?_); clear hK2 K'
 obtain ⟨hc1, h⟩ := FW.chk h
 obtain ⟨hc2, h⟩ := FW.chk h
 obtain ⟨hc3, h⟩ := FW.chk h
 refine FW.wdraw (by kernel_rfl) (by kernel_rfl) hk ?_; clear hk
 refine FW.dfun (y := .lit (.string (FW.B ([48, 49, 50, 51, 52, 53, 54, 55, 56, 57, 97, 98, 99, 100, 101, 102] : List UInt8)))) rfl rfl rfl rfl (fun a w hk => FW.f_move hk FW.h0 rfl) ?_
 refine FW.dfun (y := .lit (.int .u8 v0)) rfl rfl rfl rfl (fun a w hk => FW.f_move hk FW.h0 rfl) ?_
 refine FW.dfun (y := .lit (.int .u8 (IntKind.wrap .u8 (Int.tdiv v0 16)))) rfl rfl rfl rfl (fun a w hk => (FW.f_pure (FW.p_quo hk.kn FW.h0 rfl rfl (show ¬ (16 : Int) = 0 from by decide)))) ?_
 refine FW.dfun (y := .lit (.int .u8 v0)) rfl rfl rfl rfl (fun a w hk => FW.f_move hk FW.h0 rfl) ?_
 refine FW.dfun (y := .lit (.int .u8 (IntKind.wrap .u8 (Int.tdiv v0 16)))) rfl rfl rfl rfl (fun a w hk => (FW.f_pure (FW.p_quo hk.kn FW.h0 rfl rfl (show ¬ (16 : Int) = 0 from by decide)))) ?_
 refine FW.dfun (y := .lit (.int .u8 (IntKind.wrap .u8 ((IntKind.wrap .u8 (Int.tdiv v0 16)) + 1)))) rfl rfl rfl rfl (fun a w hk => (FW.f_pure (FW.p_add hk.kn FW.h0 rfl rfl))) ?_
 refine FW.dfun (y := .lit (.string (FW.B (List.take (Int.toNat (IntKind.wrap .u8 ((IntKind.wrap .u8 (Int.tdiv v0 16)) + 1)) - Int.toNat (IntKind.wrap .u8 (Int.tdiv v0 16))) (List.drop (Int.toNat (IntKind.wrap .u8 (Int.tdiv v0 16))) ([48, 49, 50, 51, 52, 53, 54, 55, 56, 57, 97, 98, 99, 100, 101, 102] : List UInt8)))))) rfl rfl rfl rfl (fun a w hk => (FW.f_pure (FW.p_slice Try.underlying9 hk.kn FW.h0 rfl rfl rfl hc1))) ?_
 refine FW.dfun (y := .lit (.string (FW.B ([48, 49, 50, 51, 52, 53, 54, 55, 56, 57, 97, 98, 99, 100, 101, 102] : List UInt8)))) rfl rfl rfl rfl (fun a w hk => FW.f_move hk FW.h0 rfl) ?_
 refine FW.dfun (y := .lit (.int .u8 v0)) rfl rfl rfl rfl (fun a w hk => FW.f_move hk FW.h0 rfl) ?_
 refine FW.dfun (y := .lit (.int .u8 (Int.tmod v0 16))) rfl rfl rfl rfl (fun a w hk => (FW.f_pure (FW.p_rem hk.kn FW.h0 rfl rfl (show ¬ (16 : Int) = 0 from by decide)))) ?_
 refine FW.dfun (y := .lit (.int .u8 v0)) rfl rfl rfl rfl (fun a w hk => FW.f_move hk FW.h0 rfl) ?_
 refine FW.dfun (y := .lit (.int .u8 (Int.tmod v0 16))) rfl rfl rfl rfl (fun a w hk => (FW.f_pure (FW.p_rem hk.kn FW.h0 rfl rfl (show ¬ (16 : Int) = 0 from by decide)))) ?_
 refine FW.dfun (y := .lit (.int .u8 (IntKind.wrap .u8 ((Int.tmod v0 16) + 1)))) rfl rfl rfl rfl (fun a w hk => (FW.f_pure (FW.p_add hk.kn FW.h0 rfl rfl))) ?_
 refine FW.dfun (y := .lit (.string (FW.B (List.take (Int.toNat (IntKind.wrap .u8 ((Int.tmod v0 16) + 1)) - Int.toNat (Int.tmod v0 16)) (List.drop (Int.toNat (Int.tmod v0 16)) ([48, 49, 50, 51, 52, 53, 54, 55, 56, 57, 97, 98, 99, 100, 101, 102] : List UInt8)))))) rfl rfl rfl rfl (fun a w hk => (FW.f_pure (FW.p_slice Try.underlying9 hk.kn FW.h0 rfl rfl rfl hc2))) ?_
 refine FW.dfun (y := .lit (.string (FW.B ((List.take (Int.toNat (IntKind.wrap .u8 ((IntKind.wrap .u8 (Int.tdiv v0 16)) + 1)) - Int.toNat (IntKind.wrap .u8 (Int.tdiv v0 16))) (List.drop (Int.toNat (IntKind.wrap .u8 (Int.tdiv v0 16))) ([48, 49, 50, 51, 52, 53, 54, 55, 56, 57, 97, 98, 99, 100, 101, 102] : List UInt8))) ++ (List.take (Int.toNat (IntKind.wrap .u8 ((Int.tmod v0 16) + 1)) - Int.toNat (Int.tmod v0 16)) (List.drop (Int.toNat (Int.tmod v0 16)) ([48, 49, 50, 51, 52, 53, 54, 55, 56, 57, 97, 98, 99, 100, 101, 102] : List UInt8))))))) rfl rfl rfl rfl (fun a w hk => (FW.f_pure (FW.p_sadd hk.kn FW.h0 rfl rfl hc3))) ?_
 refine FW.dfun (y := .lit (.string (FW.B ((List.take (Int.toNat (IntKind.wrap .u8 ((IntKind.wrap .u8 (Int.tdiv v0 16)) + 1)) - Int.toNat (IntKind.wrap .u8 (Int.tdiv v0 16))) (List.drop (Int.toNat (IntKind.wrap .u8 (Int.tdiv v0 16))) ([48, 49, 50, 51, 52, 53, 54, 55, 56, 57, 97, 98, 99, 100, 101, 102] : List UInt8))) ++ (List.take (Int.toNat (IntKind.wrap .u8 ((Int.tmod v0 16) + 1)) - Int.toNat (Int.tmod v0 16)) (List.drop (Int.toNat (Int.tmod v0 16)) ([48, 49, 50, 51, 52, 53, 54, 55, 56, 57, 97, 98, 99, 100, 101, 102] : List UInt8))))))) rfl rfl rfl rfl (fun a w hk => FW.f_assign hk FW.h0 rfl) ?_
 refine FW.dend ?_; intro a w hk
 refine wp_ret ?_
 (repeat first | refine FW.then_ret ?_ | refine FW.block_ret ?_)
 obtain rfl := Option.some.inj h
 exact FW.fret1 hk rfl rfl
end Go.Proofs.Ytbjbgodcenopnaa

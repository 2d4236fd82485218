/- Written by a program of this session (gen.py): the contracts of functions of the program. -/
import Derived.KernelRfl
import Derived.Test.YtfmabehmohbahaaProg
import Derived.Test.YtfmabehmohbahaaAvFun
import Derived.Test.YtfmabehmohbahaaAvMan
import Derived.Test.YtfmabehmohbahaaAvMore
import Derived.Test.YtfmabehmohbahaaAvDraw2
import Derived.Test.YtfmabehmohbahaaAvRow
import Derived.Test.YtfmabehmohbahaaAvBld
import Derived.Test.YtfmabehmohbahaaLexD
import Derived.Test.YtfmabehmohbahaaLexP2
namespace Go.Proofs.Ytfmabehmohbahaa
set_option linter.unusedVariables false
set_option maxRecDepth 20000
set_option maxHeartbeats 10000000
theorem show_Steps.bok (s_show_Steps : List ApiStep → Option (List UInt8)) (s_show_join_api_Arg_of_show_arg : List ApiArg → Option (List UInt8)) (s_show_arg : ApiArg → Option (List UInt8)) (hs_show_Steps : ∀ (v0 : List ApiStep) (r : List UInt8), s_show_Steps v0 = some r → FW.Ok Go.Proofs.Try.prog 50 [.row (r_ApiStep_cells v0)] (.lit (.string (FW.B r)))) (hs_show_join_api_Arg_of_show_arg : ∀ (v0 : List ApiArg) (r : List UInt8), s_show_join_api_Arg_of_show_arg v0 = some r → FW.Ok Go.Proofs.Try.prog 68 [.row (r_ApiArg_cells v0), .lit (.func (.func 69) #[] #[])] (.lit (.string (FW.B r)))) (hs_show_arg : ∀ (v0 : ApiArg) (r : List UInt8), s_show_arg v0 = some r → FW.Ok Go.Proofs.Try.prog 69 [.agg (ApiArg.cells v0)] (.lit (.string (FW.B r)))) (K : Nat) (v0 : List ApiStep) (r : List UInt8) (h : show_Steps.b s_show_Steps s_show_join_api_Arg_of_show_arg s_show_arg K v0 = some r) :
    FW.Ok Go.Proofs.Try.prog 50 [.row (r_ApiStep_cells v0)] (.lit (.string (FW.B r))) := by
  refine FW.enter (xs := [.row (r_ApiStep_cells v0)]) Go.Proofs.Try.func50 rfl Go.Proofs.Try.ntmps50 rfl ?_
  intro M w0 a hk
  unfold show_Steps.b at h
  refine FW.wreg ?_; intro K' hK1
  refine FW.lfun (y := .lit (.string (FW.B ([] : List UInt8)))) hk rfl rfl rfl rfl (FW.f_assign hk (FW.holds_nil _) rfl) ?_; clear hk; intro a w hk
  refine FW.lend (hK1 _ _ ?_); clear hK1 K'
  refine FW.wreg ?_; intro K' hK2
  refine FW.lfun (y := .lit (.slice none 0 0)) hk rfl rfl rfl rfl (FW.f_assign hk (FW.holds_nil _) rfl) ?_; clear hk; intro a w hk
  replace hk := hk.nilRow 9 1 c_str (fun _ => rfl)
  refine FW.lend (hK2 _ _ ?_); clear hK2 K'
  refine FW.wseq ?_; intro K' hK3
  refine FW.wreg ?_; intro K' hK4
  refine FW.lfun (y := .row (r_ApiStep_cells v0)) hk rfl rfl rfl rfl (FW.f_move hk (FW.holds_nil _) rfl) ?_; clear hk; intro a w hk
  refine FW.lfun (y := .lit (.int .i64 (List.length v0 : Int))) hk rfl rfl rfl rfl (FW.f_len (R := r_ApiStep_cells) (f := ApiStep.cells) (l := v0) r_ApiStep_cells_eq Go.Proofs.Try.underlying22 hk (FW.holds_nil _) rfl) ?_; clear hk; intro a w hk
  refine FW.lfun (y := .lit (.int .i64 0)) hk rfl rfl rfl rfl (FW.f_move hk (FW.holds_nil _) rfl) ?_; clear hk; intro a w hk
  refine FW.lend (hK4 _ _ ?_); clear hK4 K'
  refine wp_block ?_
  refine FW.wloop (T := Nat × List (List UInt8) × List ApiStep × Int × Int × Option Addr × Nat) (fun x a w => match x with | (kl1, l1, v6, v7, v8, xd1, xc1) => FW.S M w0 a w 26 [FW.orow xd1 xc1 9 1 c_str l1] [(3, [], .lit (.slice xd1 (List.length l1) xc1)), (6, [], .row (r_ApiStep_cells v6)), (7, [], .lit (.int .i64 v7)), (8, [], .lit (.int .i64 v8))] ∧ show_Steps.l1 s_show_Steps s_show_join_api_Arg_of_show_arg s_show_arg K kl1 l1 v6 v7 v8 = some r) (fun x => x.1) (K, ([] : List (List UInt8)), v0, (List.length v0 : Int), 0, none, 0) ⟨hk.sub ⟨rfl, rfl, rfl, rfl, trivial⟩, h⟩ ?_
  clear hk h
  rintro ⟨kl1, l1, v6, v7, v8, xd1, xc1⟩ a w ⟨hk, h⟩ K' hK5
  cases kl1 with
  | zero => simp [show_Steps.l1] at h
  | succ kl1 =>
  rw [show_Steps.l1.eq_2] at h
  refine FW.wreg ?_; intro K' hK6
  refine FW.lfun (y := .lit (.bool (decide (v8 < v7)))) hk rfl rfl rfl rfl ((FW.f_pure (FW.p_lss hk.kn (FW.holds_nil _) rfl rfl))) ?_; clear hk; intro a w hk
  refine FW.lend (hK6 _ _ ?_); clear hK6 K'
  refine FW.wseq ?_; intro K' hK7
  refine FW.wcondF (b := (decide (v8 < v7))) hk h rfl (fun h hb => ?_) (fun h hb => ?_)
  · skip
    refine wp_skip ?_
    (repeat first | refine FW.then_normal ?_ | refine FW.block_normal ?_); refine hK7 _ _ ?_
    refine FW.wseq ?_; intro K' hK8
    refine wp_block ?_
    refine FW.wreg ?_; intro K' hK9
    obtain ⟨hc1, h⟩ := FW.chk h
    refine FW.lfun (y := .ref (ApiStep.cells (List.getD v6 (Int.toNat v8) default))) hk rfl rfl rfl rfl (FW.f_indexAddr (R := r_ApiStep_cells) (f := ApiStep.cells) (l := v6) (sz := 2) r_ApiStep_cells_eq (fun _ => rfl) hk (FW.holds_nil _) rfl rfl Go.Proofs.Try.underlying22 (by kernel_rfl) hc1) ?_; clear hk; intro a w hk
    refine FW.lfun (y := .agg ((ApiStep.cells (List.getD v6 (Int.toNat v8) default)))) hk rfl rfl rfl rfl (FW.f_load hk (FW.holds_nil _) rfl Go.Proofs.Try.underlying29 rfl rfl rfl rfl) ?_; clear hk; intro a w hk
    refine FW.l_alloc (zs := (ApiStep.cells (⟨[], []⟩ : ApiStep))) [] hk rfl rfl rfl rfl ?_; clear hk; intro b1 a w hk
    refine FW.l_store (I' := [FW.blk b1 29 ((ApiStep.cells (List.getD v6 (Int.toNat v8) default))), FW.orow xd1 xc1 9 1 c_str l1]) (cs' := (ApiStep.cells (List.getD v6 (Int.toNat v8) default))) (j := 0) hk rfl rfl rfl rfl rfl (by kernel_rfl) rfl rfl ?_; clear hk; intro w hk
    refine FW.lend (hK9 _ _ ?_); clear hK9 K'
    obtain ⟨hc2, h⟩ := FW.chk h
    obtain ⟨t1, hr_t1, h⟩ := FW.bnd h
    obtain ⟨hc3, h⟩ := FW.chk h
    obtain ⟨hc4, h⟩ := FW.chk h
    obtain ⟨hc5, h⟩ := FW.chk h
    refine FW.wdrawE1 (need := [false, false, false, false, false, false, false, false, false, false, false, true]) [(9, [true, true, true, true, true, true, true, true, true, false, false, false], [true, true, true, true, true, true, true, true, true, false, false, false]), (10, [true, false, false, false, false, false, false, false, false, false, false, false], [true, true, true, true, true, true, true, true, true, true, false, false])] [(12, [], .lit (.slice xd1 (List.length l1) xc1)), (13, [], .lit (.pointer (some ⟨b1, 0, none⟩))), (14, [], .lit (.string (FW.B ((List.getD v6 (Int.toNat v8) default).Name)))), (15, [], .lit (.string (FW.B (((List.getD v6 (Int.toNat v8) default).Name) ++ ([40] : List UInt8))))), (16, [], .lit (.pointer (some ⟨b1, 1, none⟩))), (17, [], .row (r_ApiArg_cells ((List.getD v6 (Int.toNat v8) default).Args))), (18, [], .lit (.string (FW.B t1))), (19, [], .lit (.string (FW.B ((((List.getD v6 (Int.toNat v8) default).Name) ++ ([40] : List UInt8)) ++ t1)))), (20, [], .lit (.string (FW.B (((((List.getD v6 (Int.toNat v8) default).Name) ++ ([40] : List UInt8)) ++ t1) ++ ([41] : List UInt8))))), (21, [], .agg []), (22, [], .agg []), (3, [], .agg [])] (by kernel_rfl) (by kernel_rfl) (by kernel_rfl) (by kernel_rfl) hk ?_; clear hk
    refine FW.gnext ?_ rfl rfl rfl rfl rfl ?_
    · skip
      refine FW.gfun (y := .lit (.slice xd1 (List.length l1) xc1)) rfl rfl rfl rfl (fun a w hk => FW.f_move hk (FW.holds_nil _) rfl) ?_
      refine FW.gfun (y := .lit (.pointer (some ⟨b1, 0, none⟩))) rfl rfl rfl rfl (fun a w hk => FW.f_fieldPtr hk (FW.holds_nil _) rfl Go.Proofs.Try.underlying29 rfl (by kernel_rfl) rfl) ?_
      refine FW.gfun (y := .lit (.string (FW.B ((List.getD v6 (Int.toNat v8) default).Name)))) rfl rfl rfl rfl (fun a w hk => FW.f_loadBlk1 hk (FW.holds_nil _) (j := 0) rfl rfl Go.Proofs.Try.underlying9 rfl rfl) ?_
      refine FW.gfun (y := .lit (.string (FW.B (((List.getD v6 (Int.toNat v8) default).Name) ++ ([40] : List UInt8))))) rfl rfl rfl rfl (fun a w hk => (FW.f_pure (FW.p_sadd hk.kn (FW.holds_nil _) rfl rfl hc2))) ?_
      refine FW.gfun (y := .lit (.pointer (some ⟨b1, 1, none⟩))) rfl rfl rfl rfl (fun a w hk => FW.f_fieldPtr hk (FW.holds_nil _) rfl Go.Proofs.Try.underlying29 rfl (by kernel_rfl) rfl) ?_
      refine FW.gfun (y := .row (r_ApiArg_cells ((List.getD v6 (Int.toNat v8) default).Args))) rfl rfl rfl rfl (fun a w hk => FW.f_loadBlk1 hk (FW.holds_nil _) (j := 0) rfl rfl Go.Proofs.Try.underlying27 rfl rfl) ?_
      refine FW.gfun (y := .lit (.string (FW.B t1))) rfl rfl rfl rfl (fun a w hk => FW.f_call hk (FW.holds_nil _) rfl rfl Go.Proofs.Try.func68 rfl (by kernel_rfl) (hs_show_join_api_Arg_of_show_arg ((List.getD v6 (Int.toNat v8) default).Args) _ hr_t1)) ?_
      refine FW.gfun (y := .lit (.string (FW.B ((((List.getD v6 (Int.toNat v8) default).Name) ++ ([40] : List UInt8)) ++ t1)))) rfl rfl rfl rfl (fun a w hk => (FW.f_pure (FW.p_sadd hk.kn (FW.holds_nil _) rfl rfl hc3))) ?_
      refine FW.gfun (y := .lit (.string (FW.B (((((List.getD v6 (Int.toNat v8) default).Name) ++ ([40] : List UInt8)) ++ t1) ++ ([41] : List UInt8))))) rfl rfl rfl rfl (fun a w hk => (FW.f_pure (FW.p_sadd hk.kn (FW.holds_nil _) rfl rfl hc4))) ?_
      refine FW.gskip rfl rfl ?_
      refine FW.gskip rfl rfl ?_
      refine FW.gskip rfl rfl ?_
      exact FW.gend
    · skip
      intro σD a w opsD QD hk hf hQ
      refine FW.l_buildSlice (f := c_str) (l := ([(((((List.getD v6 (Int.toNat v8) default).Name) ++ ([40] : List UInt8)) ++ t1) ++ ([41] : List UInt8))] : List (List UInt8))) hk rfl hf rfl Go.Proofs.Try.underlying91 rfl rfl rfl rfl (fun _ => rfl) rfl ?_; clear hk; intro b2 a w hk
      refine hQ _ _ a w ?_ hk; clear hk hQ hf
      refine ⟨[(12, [], .lit (.slice xd1 (List.length l1) xc1)), (13, [], .lit (.pointer (some ⟨b1, 0, none⟩))), (14, [], .lit (.string (FW.B ((List.getD v6 (Int.toNat v8) default).Name)))), (15, [], .lit (.string (FW.B (((List.getD v6 (Int.toNat v8) default).Name) ++ ([40] : List UInt8))))), (16, [], .lit (.pointer (some ⟨b1, 1, none⟩))), (17, [], .row (r_ApiArg_cells ((List.getD v6 (Int.toNat v8) default).Args))), (18, [], .lit (.string (FW.B t1))), (19, [], .lit (.string (FW.B ((((List.getD v6 (Int.toNat v8) default).Name) ++ ([40] : List UInt8)) ++ t1)))), (20, [], .lit (.string (FW.B (((((List.getD v6 (Int.toNat v8) default).Name) ++ ([40] : List UInt8)) ++ t1) ++ ([41] : List UInt8))))), (21, [], .lit (.slice (some ⟨b2, 0, none⟩) (List.length ([(((((List.getD v6 (Int.toNat v8) default).Name) ++ ([40] : List UInt8)) ++ t1) ++ ([41] : List UInt8))] : List (List UInt8))) 1)), (22, [], .agg []), (3, [], .agg [])], And.intro rfl (And.intro rfl (And.intro rfl (And.intro rfl (And.intro rfl (And.intro rfl (And.intro rfl (And.intro rfl (And.intro rfl (trivial))))))))), rfl, ?_⟩
      refine FW.gnext ?_ rfl rfl rfl rfl rfl ?_
      · skip
        refine FW.gfun (y := .lit (.slice xd1 (List.length l1) xc1)) rfl rfl rfl rfl (fun a w hk => FW.f_move hk (FW.holds_nil _) rfl) ?_
        refine FW.gskip rfl rfl ?_
        refine FW.gskip rfl rfl ?_
        refine FW.gskip rfl rfl ?_
        refine FW.gskip rfl rfl ?_
        refine FW.gskip rfl rfl ?_
        refine FW.gskip rfl rfl ?_
        refine FW.gskip rfl rfl ?_
        refine FW.gskip rfl rfl ?_
        refine FW.gskip rfl rfl ?_
        refine FW.gskip rfl rfl ?_
        refine FW.gskip rfl rfl ?_
        exact FW.gend
      · skip
        intro σD a w opsD QD hk hf hQ
        refine FW.l_append (l2 := ([(((((List.getD v6 (Int.toNat v8) default).Name) ++ ([40] : List UInt8)) ++ t1) ++ ([41] : List UInt8))] : List (List UInt8))) (l3 := (l1 ++ ([(((((List.getD v6 (Int.toNat v8) default).Name) ++ ([40] : List UInt8)) ++ t1) ++ ([41] : List UInt8))] : List (List UInt8)))) (I' := fun ad1 cap1 => [FW.orow (some ⟨b2, 0, none⟩) 1 9 1 c_str ([(((((List.getD v6 (Int.toNat v8) default).Name) ++ ([40] : List UInt8)) ++ t1) ++ ([41] : List UInt8))] : List (List UInt8)), FW.blk b1 29 ((ApiStep.cells (List.getD v6 (Int.toNat v8) default))), FW.orow ad1 cap1 9 1 c_str (l1 ++ ([(((((List.getD v6 (Int.toNat v8) default).Name) ++ ([40] : List UInt8)) ++ t1) ++ ([41] : List UInt8))] : List (List UInt8)))]) (j := 2) hk rfl rfl hf rfl (FW.own_src hk (j := 0) rfl rfl (fun _ => rfl) Go.Proofs.Try.underlying91) Go.Proofs.Try.underlying91 (by kernel_rfl) hc5 rfl (fun _ _ => rfl) ?_; clear hk; intro ad1 cap1 a w hk
        replace hk := FW.S.dropI (I' := [FW.blk b1 29 ((ApiStep.cells (List.getD v6 (Int.toNat v8) default))), FW.orow ad1 cap1 9 1 c_str (l1 ++ ([(((((List.getD v6 (Int.toNat v8) default).Name) ++ ([40] : List UInt8)) ++ t1) ++ ([41] : List UInt8))] : List (List UInt8)))]) hk 0 rfl
        refine hQ _ _ a w ?_ hk; clear hk hQ hf
        refine ⟨[(12, [], .lit (.slice xd1 (List.length l1) xc1)), (13, [], .lit (.pointer (some ⟨b1, 0, none⟩))), (14, [], .lit (.string (FW.B ((List.getD v6 (Int.toNat v8) default).Name)))), (15, [], .lit (.string (FW.B (((List.getD v6 (Int.toNat v8) default).Name) ++ ([40] : List UInt8))))), (16, [], .lit (.pointer (some ⟨b1, 1, none⟩))), (17, [], .row (r_ApiArg_cells ((List.getD v6 (Int.toNat v8) default).Args))), (18, [], .lit (.string (FW.B t1))), (19, [], .lit (.string (FW.B ((((List.getD v6 (Int.toNat v8) default).Name) ++ ([40] : List UInt8)) ++ t1)))), (20, [], .lit (.string (FW.B (((((List.getD v6 (Int.toNat v8) default).Name) ++ ([40] : List UInt8)) ++ t1) ++ ([41] : List UInt8))))), (21, [], .lit (.slice (some ⟨b2, 0, none⟩) (List.length ([(((((List.getD v6 (Int.toNat v8) default).Name) ++ ([40] : List UInt8)) ++ t1) ++ ([41] : List UInt8))] : List (List UInt8))) 1)), (22, [], .lit (.slice ad1 (List.length (l1 ++ ([(((((List.getD v6 (Int.toNat v8) default).Name) ++ ([40] : List UInt8)) ++ t1) ++ ([41] : List UInt8))] : List (List UInt8)))) cap1)), (3, [], .lit (.slice ad1 (List.length (l1 ++ ([(((((List.getD v6 (Int.toNat v8) default).Name) ++ ([40] : List UInt8)) ++ t1) ++ ([41] : List UInt8))] : List (List UInt8)))) cap1))], And.intro rfl (And.intro rfl (And.intro rfl (And.intro rfl (And.intro rfl (And.intro rfl (And.intro rfl (And.intro rfl (And.intro rfl (And.intro rfl (trivial)))))))))), rfl, ?_⟩
        refine FW.glast ?_ ?_
        · skip
          refine FW.gskip rfl rfl ?_
          refine FW.gskip rfl rfl ?_
          refine FW.gskip rfl rfl ?_
          refine FW.gskip rfl rfl ?_
          refine FW.gskip rfl rfl ?_
          refine FW.gskip rfl rfl ?_
          refine FW.gskip rfl rfl ?_
          refine FW.gskip rfl rfl ?_
          refine FW.gskip rfl rfl ?_
          refine FW.gskip rfl rfl ?_
          refine FW.gskip rfl rfl ?_
          refine FW.gfun (y := .lit (.slice ad1 (List.length (l1 ++ ([(((((List.getD v6 (Int.toNat v8) default).Name) ++ ([40] : List UInt8)) ++ t1) ++ ([41] : List UInt8))] : List (List UInt8)))) cap1)) rfl rfl rfl rfl (fun a w hk => FW.f_assign hk (FW.holds_nil _) rfl) ?_
          exact FW.gend
        · skip
          intro a w hk; simp only [FW.stD, cond_true] at hk
          (repeat first | refine FW.then_normal ?_ | refine FW.block_normal ?_); refine hK8 _ _ ?_
          refine FW.wreg1 ?_
          refine FW.lfun (y := .lit (.int .i64 (IntKind.wrap .i64 (v8 + 1)))) hk rfl rfl rfl rfl ((FW.f_pure (FW.p_add hk.kn (FW.holds_nil _) rfl rfl))) ?_; clear hk; intro a w hk
          refine FW.lfun (y := .lit (.int .i64 (IntKind.wrap .i64 (v8 + 1)))) hk rfl rfl rfl rfl (FW.f_move hk (FW.holds_nil _) rfl) ?_; clear hk; intro a w hk
          refine wpList_nil ?_
          (repeat first | refine FW.then_normal ?_ | refine FW.block_normal ?_); exact hK5 (kl1, (l1 ++ ([(((((List.getD v6 (Int.toNat v8) default).Name) ++ ([40] : List UInt8)) ++ t1) ++ ([41] : List UInt8))] : List (List UInt8))), v6, v7, (IntKind.wrap .i64 (v8 + 1)), ad1, cap1) _ _ (Nat.lt_succ_self _) ⟨(hk.drop 0).sub ⟨rfl, rfl, rfl, rfl, trivial⟩, h⟩
  · skip
    refine wp_exit ?_; (repeat first | refine FW.then_exit ?_ | refine FW.block_exit_ne rfl ?_); refine FW.block_exit ?_
    (repeat first | refine FW.then_normal ?_ | refine FW.block_normal ?_); refine hK3 _ _ ?_
    refine FW.wreg ?_; intro K' hK12
    refine FW.lfun (y := .lit (.slice xd1 (List.length l1) xc1)) hk rfl rfl rfl rfl (FW.f_move hk (FW.holds_nil _) rfl) ?_; clear hk; intro a w hk
    replace hk := FW.S.freezeR (I' := []) r_c_str_eq hk (j := 0) rfl (t := 24) rfl rfl
    obtain ⟨t2, hr_t2, h⟩ := FW.bnd h
    refine FW.lfun (y := .lit (.string (FW.B t2))) hk rfl rfl rfl rfl (FW.f_call hk (FW.holds_nil _) rfl rfl Go.Proofs.Try.func51 rfl (by kernel_rfl) (strings_Join.ok l1 ([46] : List UInt8) _ hr_t2)) ?_; clear hk; intro a w hk
    refine FW.lfun (y := .lit (.string (FW.B t2))) hk rfl rfl rfl rfl (FW.f_assign hk (FW.holds_nil _) rfl) ?_; clear hk; intro a w hk
    refine FW.lend (hK12 _ _ ?_); clear hK12 K'
    refine wp_ret ?_
    (repeat first | refine FW.then_ret ?_ | refine FW.block_ret ?_)
    obtain rfl := Option.some.inj h
    exact FW.fret1 hk rfl rfl
theorem show_join_api_Arg_of_show_arg.bok (s_show_Steps : List ApiStep → Option (List UInt8)) (s_show_join_api_Arg_of_show_arg : List ApiArg → Option (List UInt8)) (s_show_arg : ApiArg → Option (List UInt8)) (hs_show_Steps : ∀ (v0 : List ApiStep) (r : List UInt8), s_show_Steps v0 = some r → FW.Ok Go.Proofs.Try.prog 50 [.row (r_ApiStep_cells v0)] (.lit (.string (FW.B r)))) (hs_show_join_api_Arg_of_show_arg : ∀ (v0 : List ApiArg) (r : List UInt8), s_show_join_api_Arg_of_show_arg v0 = some r → FW.Ok Go.Proofs.Try.prog 68 [.row (r_ApiArg_cells v0), .lit (.func (.func 69) #[] #[])] (.lit (.string (FW.B r)))) (hs_show_arg : ∀ (v0 : ApiArg) (r : List UInt8), s_show_arg v0 = some r → FW.Ok Go.Proofs.Try.prog 69 [.agg (ApiArg.cells v0)] (.lit (.string (FW.B r)))) (K : Nat) (v0 : List ApiArg) (r : List UInt8) (h : show_join_api_Arg_of_show_arg.b s_show_Steps s_show_join_api_Arg_of_show_arg s_show_arg K v0 = some r) :
    FW.Ok Go.Proofs.Try.prog 68 [.row (r_ApiArg_cells v0), .lit (.func (.func 69) #[] #[])] (.lit (.string (FW.B r))) := by
  refine FW.enter (xs := [.row (r_ApiArg_cells v0), .lit (.func (.func 69) #[] #[])]) Go.Proofs.Try.func68 rfl Go.Proofs.Try.ntmps68 rfl ?_
  intro M w0 a hk
  unfold show_join_api_Arg_of_show_arg.b at h
  refine FW.wreg ?_; intro K' hK1
  refine FW.lfun (y := .lit (.string (FW.B ([] : List UInt8)))) hk rfl rfl rfl rfl (FW.f_assign hk (FW.holds_nil _) rfl) ?_; clear hk; intro a w hk
  refine FW.lend (hK1 _ _ ?_); clear hK1 K'
  refine FW.wreg ?_; intro K' hK2
  refine FW.lfun (y := .lit (.slice none 0 0)) hk rfl rfl rfl rfl (FW.f_assign hk (FW.holds_nil _) rfl) ?_; clear hk; intro a w hk
  replace hk := hk.nilRow 9 1 c_str (fun _ => rfl)
  refine FW.lend (hK2 _ _ ?_); clear hK2 K'
  refine FW.wseq ?_; intro K' hK3
  refine FW.wreg ?_; intro K' hK4
  refine FW.lfun (y := .row (r_ApiArg_cells v0)) hk rfl rfl rfl rfl (FW.f_move hk (FW.holds_nil _) rfl) ?_; clear hk; intro a w hk
  refine FW.lfun (y := .lit (.int .i64 (List.length v0 : Int))) hk rfl rfl rfl rfl (FW.f_len (R := r_ApiArg_cells) (f := ApiArg.cells) (l := v0) r_ApiArg_cells_eq Go.Proofs.Try.underlying27 hk (FW.holds_nil _) rfl) ?_; clear hk; intro a w hk
  refine FW.lfun (y := .lit (.int .i64 0)) hk rfl rfl rfl rfl (FW.f_move hk (FW.holds_nil _) rfl) ?_; clear hk; intro a w hk
  refine FW.lend (hK4 _ _ ?_); clear hK4 K'
  refine wp_block ?_
  refine FW.wloop (T := Nat × List (List UInt8) × List ApiArg × Int × Int × Option Addr × Nat) (fun x a w => match x with | (kl1, l1, v8, v9, v10, xd1, xc1) => FW.S M w0 a w 23 [FW.orow xd1 xc1 9 1 c_str l1] [(1, [], .lit (.func (.func 69) #[] #[])), (5, [], .lit (.slice xd1 (List.length l1) xc1)), (8, [], .row (r_ApiArg_cells v8)), (9, [], .lit (.int .i64 v9)), (10, [], .lit (.int .i64 v10))] ∧ show_join_api_Arg_of_show_arg.l1 s_show_Steps s_show_join_api_Arg_of_show_arg s_show_arg K kl1 l1 v8 v9 v10 = some r) (fun x => x.1) (K, ([] : List (List UInt8)), v0, (List.length v0 : Int), 0, none, 0) ⟨hk.sub ⟨rfl, rfl, rfl, rfl, rfl, trivial⟩, h⟩ ?_
  clear hk h
  rintro ⟨kl1, l1, v8, v9, v10, xd1, xc1⟩ a w ⟨hk, h⟩ K' hK5
  cases kl1 with
  | zero => simp [show_join_api_Arg_of_show_arg.l1] at h
  | succ kl1 =>
  rw [show_join_api_Arg_of_show_arg.l1.eq_2] at h
  refine FW.wreg ?_; intro K' hK6
  refine FW.lfun (y := .lit (.bool (decide (v10 < v9)))) hk rfl rfl rfl rfl ((FW.f_pure (FW.p_lss hk.kn (FW.holds_nil _) rfl rfl))) ?_; clear hk; intro a w hk
  refine FW.lend (hK6 _ _ ?_); clear hK6 K'
  refine FW.wseq ?_; intro K' hK7
  refine FW.wcondF (b := (decide (v10 < v9))) hk h rfl (fun h hb => ?_) (fun h hb => ?_)
  · skip
    refine wp_skip ?_
    (repeat first | refine FW.then_normal ?_ | refine FW.block_normal ?_); refine hK7 _ _ ?_
    refine FW.wseq ?_; intro K' hK8
    refine wp_block ?_
    refine FW.wreg ?_; intro K' hK9
    obtain ⟨hc1, h⟩ := FW.chk h
    refine FW.lfun (y := .ref (ApiArg.cells (List.getD v8 (Int.toNat v10) default))) hk rfl rfl rfl rfl (FW.f_indexAddr (R := r_ApiArg_cells) (f := ApiArg.cells) (l := v8) (sz := 11) r_ApiArg_cells_eq (fun _ => rfl) hk (FW.holds_nil _) rfl rfl Go.Proofs.Try.underlying27 (by kernel_rfl) hc1) ?_; clear hk; intro a w hk
    refine FW.lfun (y := .agg ((ApiArg.cells (List.getD v8 (Int.toNat v10) default)))) hk rfl rfl rfl rfl (FW.f_load hk (FW.holds_nil _) rfl Go.Proofs.Try.underlying38 rfl rfl rfl rfl) ?_; clear hk; intro a w hk
    refine FW.l_alloc (zs := (ApiArg.cells (⟨0, (⟨0, false, 0, 0, [], []⟩ : ApiValue), (⟨[], [], []⟩ : ApiPred), []⟩ : ApiArg))) [] hk rfl rfl rfl rfl ?_; clear hk; intro b1 a w hk
    refine FW.l_store (I' := [FW.blk b1 38 ((ApiArg.cells (List.getD v8 (Int.toNat v10) default))), FW.orow xd1 xc1 9 1 c_str l1]) (cs' := (ApiArg.cells (List.getD v8 (Int.toNat v10) default))) (j := 0) hk rfl rfl rfl rfl rfl (by kernel_rfl) rfl rfl ?_; clear hk; intro w hk
    refine FW.lend (hK9 _ _ ?_); clear hK9 K'
    refine FW.wreg1 ?_
    refine FW.lfun (y := .lit (.slice xd1 (List.length l1) xc1)) hk rfl rfl rfl rfl (FW.f_move hk (FW.holds_nil _) rfl) ?_; clear hk; intro a w hk
    refine FW.lfun (y := .lit (.func (.func 69) #[] #[])) hk rfl rfl rfl rfl (FW.f_move hk (FW.holds_nil _) rfl) ?_; clear hk; intro a w hk
    refine FW.lfun (y := .agg ((ApiArg.cells (List.getD v8 (Int.toNat v10) default)))) hk rfl rfl rfl rfl (FW.f_loadBlk hk (FW.holds_nil _) (j := 0) rfl rfl Go.Proofs.Try.underlying38 rfl rfl rfl rfl) ?_; clear hk; intro a w hk
    obtain ⟨t1, hr_t1, h⟩ := FW.bnd h
    refine FW.lfun (y := .lit (.string (FW.B t1))) hk rfl rfl rfl rfl (FW.f_call hk (FW.holds_nil _) rfl rfl Go.Proofs.Try.func69 rfl (by kernel_rfl) (hs_show_arg (List.getD v8 (Int.toNat v10) default) _ hr_t1)) ?_; clear hk; intro a w hk
    refine FW.l_buildSlice (f := c_str) (l := ([t1] : List (List UInt8))) hk rfl rfl rfl Go.Proofs.Try.underlying91 rfl rfl rfl rfl (fun _ => rfl) rfl ?_; clear hk; intro b2 a w hk
    obtain ⟨hc2, h⟩ := FW.chk h
    refine FW.l_append (l2 := ([t1] : List (List UInt8))) (l3 := (l1 ++ ([t1] : List (List UInt8)))) (I' := fun ad1 cap1 => [FW.orow (some ⟨b2, 0, none⟩) 1 9 1 c_str ([t1] : List (List UInt8)), FW.blk b1 38 ((ApiArg.cells (List.getD v8 (Int.toNat v10) default))), FW.orow ad1 cap1 9 1 c_str (l1 ++ ([t1] : List (List UInt8)))]) (j := 2) hk rfl rfl rfl rfl (FW.own_src hk (j := 0) rfl rfl (fun _ => rfl) Go.Proofs.Try.underlying91) Go.Proofs.Try.underlying91 (by kernel_rfl) hc2 rfl (fun _ _ => rfl) ?_; clear hk; intro ad1 cap1 a w hk
    replace hk := FW.S.dropI (I' := [FW.blk b1 38 ((ApiArg.cells (List.getD v8 (Int.toNat v10) default))), FW.orow ad1 cap1 9 1 c_str (l1 ++ ([t1] : List (List UInt8)))]) hk 0 rfl
    refine FW.lfun (y := .lit (.slice ad1 (List.length (l1 ++ ([t1] : List (List UInt8)))) cap1)) hk rfl rfl rfl rfl (FW.f_assign hk (FW.holds_nil _) rfl) ?_; clear hk; intro a w hk
    refine wpList_nil ?_
    (repeat first | refine FW.then_normal ?_ | refine FW.block_normal ?_); refine hK8 _ _ ?_
    refine FW.wreg1 ?_
    refine FW.lfun (y := .lit (.int .i64 (IntKind.wrap .i64 (v10 + 1)))) hk rfl rfl rfl rfl ((FW.f_pure (FW.p_add hk.kn (FW.holds_nil _) rfl rfl))) ?_; clear hk; intro a w hk
    refine FW.lfun (y := .lit (.int .i64 (IntKind.wrap .i64 (v10 + 1)))) hk rfl rfl rfl rfl (FW.f_move hk (FW.holds_nil _) rfl) ?_; clear hk; intro a w hk
    refine wpList_nil ?_
    (repeat first | refine FW.then_normal ?_ | refine FW.block_normal ?_); exact hK5 (kl1, (l1 ++ ([t1] : List (List UInt8))), v8, v9, (IntKind.wrap .i64 (v10 + 1)), ad1, cap1) _ _ (Nat.lt_succ_self _) ⟨(hk.drop 0).sub ⟨rfl, rfl, rfl, rfl, rfl, trivial⟩, h⟩
  · skip
    refine wp_exit ?_; (repeat first | refine FW.then_exit ?_ | refine FW.block_exit_ne rfl ?_); refine FW.block_exit ?_
    (repeat first | refine FW.then_normal ?_ | refine FW.block_normal ?_); refine hK3 _ _ ?_
    refine FW.wreg ?_; intro K' hK12
    refine FW.lfun (y := .lit (.slice xd1 (List.length l1) xc1)) hk rfl rfl rfl rfl (FW.f_move hk (FW.holds_nil _) rfl) ?_; clear hk; intro a w hk
    replace hk := FW.S.freezeR (I' := []) r_c_str_eq hk (j := 0) rfl (t := 21) rfl rfl
    obtain ⟨t2, hr_t2, h⟩ := FW.bnd h
    refine FW.lfun (y := .lit (.string (FW.B t2))) hk rfl rfl rfl rfl (FW.f_call hk (FW.holds_nil _) rfl rfl Go.Proofs.Try.func51 rfl (by kernel_rfl) (strings_Join.ok l1 ([44, 32] : List UInt8) _ hr_t2)) ?_; clear hk; intro a w hk
    refine FW.lfun (y := .lit (.string (FW.B t2))) hk rfl rfl rfl rfl (FW.f_assign hk (FW.holds_nil _) rfl) ?_; clear hk; intro a w hk
    refine FW.lend (hK12 _ _ ?_); clear hK12 K'
    refine wp_ret ?_
    (repeat first | refine FW.then_ret ?_ | refine FW.block_ret ?_)
    obtain rfl := Option.some.inj h
    exact FW.fret1 hk rfl rfl
theorem show_arg.bok (s_show_Steps : List ApiStep → Option (List UInt8)) (s_show_join_api_Arg_of_show_arg : List ApiArg → Option (List UInt8)) (s_show_arg : ApiArg → Option (List UInt8)) (hs_show_Steps : ∀ (v0 : List ApiStep) (r : List UInt8), s_show_Steps v0 = some r → FW.Ok Go.Proofs.Try.prog 50 [.row (r_ApiStep_cells v0)] (.lit (.string (FW.B r)))) (hs_show_join_api_Arg_of_show_arg : ∀ (v0 : List ApiArg) (r : List UInt8), s_show_join_api_Arg_of_show_arg v0 = some r → FW.Ok Go.Proofs.Try.prog 68 [.row (r_ApiArg_cells v0), .lit (.func (.func 69) #[] #[])] (.lit (.string (FW.B r)))) (hs_show_arg : ∀ (v0 : ApiArg) (r : List UInt8), s_show_arg v0 = some r → FW.Ok Go.Proofs.Try.prog 69 [.agg (ApiArg.cells v0)] (.lit (.string (FW.B r)))) (K : Nat) (v0 : ApiArg) (r : List UInt8) (h : show_arg.b s_show_Steps s_show_join_api_Arg_of_show_arg s_show_arg K v0 = some r) :
    FW.Ok Go.Proofs.Try.prog 69 [.agg (ApiArg.cells v0)] (.lit (.string (FW.B r))) := by
  refine FW.enter (xs := [.agg (ApiArg.cells v0)]) Go.Proofs.Try.func69 rfl Go.Proofs.Try.ntmps69 rfl ?_
  intro M w0 a hk
  unfold show_arg.b at h
  refine FW.wreg ?_; intro K' hK1
  refine FW.l_box (cs := (ApiArg.cells v0)) hk rfl rfl rfl rfl rfl ?_; clear hk; intro b1 a w hk
  refine FW.lfun (y := .lit (.string (FW.B ([] : List UInt8)))) hk rfl rfl rfl rfl (FW.f_assign hk (FW.holds_nil _) rfl) ?_; clear hk; intro a w hk
  refine FW.lend (hK1 _ _ ?_); clear hK1 K'
  refine FW.wseq ?_; intro K' hK2
  refine FW.wreg ?_; intro K' hK3
  refine FW.lfun (y := .lit (.pointer (some ⟨b1, 0, none⟩))) hk rfl rfl rfl rfl (FW.f_fieldPtr hk (FW.holds_nil _) rfl Go.Proofs.Try.underlying38 rfl (by kernel_rfl) rfl) ?_; clear hk; intro a w hk
  refine FW.lfun (y := .lit (.int .i64 v0.Kind)) hk rfl rfl rfl rfl (FW.f_loadBlk1 hk (FW.holds_nil _) (j := 0) rfl rfl Go.Proofs.Try.underlying3 rfl rfl) ?_; clear hk; intro a w hk
  refine FW.lend (hK3 _ _ ?_); clear hK3 K'
  refine wp_block ?_
  refine FW.wreg ?_; intro K' hK4
  refine FW.lfun (y := .lit (.bool (decide (v0.Kind = 2)))) hk rfl rfl rfl rfl ((FW.f_pure (FW.p_eql hk.kn (FW.holds_nil _) rfl rfl))) ?_; clear hk; intro a w hk
  refine FW.lfun (y := .lit (.bool (decide (v0.Kind = 2)))) hk rfl rfl rfl rfl (FW.f_assign hk (FW.holds_nil _) rfl) ?_; clear hk; intro a w hk
  refine FW.lend (hK4 _ _ ?_); clear hK4 K'
  refine FW.wcondF (b := (decide (v0.Kind = 2))) hk h rfl (fun h hb => ?_) (fun h hb => ?_)
  · skip
    refine FW.wreg ?_; intro K' hK5
    refine FW.lfun (y := .lit (.pointer (some ⟨b1, 7, none⟩))) hk rfl rfl rfl rfl (FW.f_fieldPtr hk (FW.holds_nil _) rfl Go.Proofs.Try.underlying38 rfl (by kernel_rfl) rfl) ?_; clear hk; intro a w hk
    refine FW.lfun (y := .agg ((ApiPred.cells v0.P))) hk rfl rfl rfl rfl (FW.f_loadBlk hk (FW.holds_nil _) (j := 0) rfl rfl Go.Proofs.Try.underlying36 rfl rfl rfl rfl) ?_; clear hk; intro a w hk
    obtain ⟨t1, hr_t1, h⟩ := FW.bnd h
    refine FW.lfun (y := .lit (.string (FW.B t1))) hk rfl rfl rfl rfl (FW.f_call hk (FW.holds_nil _) rfl rfl Go.Proofs.Try.func11 rfl (by kernel_rfl) (show_Pred.ok K v0.P _ hr_t1)) ?_; clear hk; intro a w hk
    refine FW.lfun (y := .lit (.string (FW.B t1))) hk rfl rfl rfl rfl (FW.f_assign hk (FW.holds_nil _) rfl) ?_; clear hk; intro a w hk
    refine FW.lend (hK5 _ _ ?_); clear hK5 K'
    refine wp_ret ?_
    (repeat first | refine FW.then_ret ?_ | refine FW.block_ret ?_)
    obtain rfl := Option.some.inj h
    exact FW.fret1 hk rfl rfl
  · skip
    refine FW.wreg ?_; intro K' hK6
    refine FW.lfun (y := .lit (.bool (decide (v0.Kind = 3)))) hk rfl rfl rfl rfl ((FW.f_pure (FW.p_eql hk.kn (FW.holds_nil _) rfl rfl))) ?_; clear hk; intro a w hk
    refine FW.lfun (y := .lit (.bool (decide (v0.Kind = 3)))) hk rfl rfl rfl rfl (FW.f_assign hk (FW.holds_nil _) rfl) ?_; clear hk; intro a w hk
    refine FW.lend (hK6 _ _ ?_); clear hK6 K'
    refine FW.wcondF (b := (decide (v0.Kind = 3))) hk h rfl (fun h hb => ?_) (fun h hb => ?_)
    · skip
      refine FW.wreg ?_; intro K' hK7
      refine FW.lfun (y := .lit (.pointer (some ⟨b1, 10, none⟩))) hk rfl rfl rfl rfl (FW.f_fieldPtr hk (FW.holds_nil _) rfl Go.Proofs.Try.underlying38 rfl (by kernel_rfl) rfl) ?_; clear hk; intro a w hk
      refine FW.lfun (y := .row (r_ApiStep_cells v0.T)) hk rfl rfl rfl rfl (FW.f_loadBlk1 hk (FW.holds_nil _) (j := 0) rfl rfl Go.Proofs.Try.underlying22 rfl rfl) ?_; clear hk; intro a w hk
      obtain ⟨t2, hr_t2, h⟩ := FW.bnd h
      refine FW.lfun (y := .lit (.string (FW.B t2))) hk rfl rfl rfl rfl (FW.f_call hk (FW.holds_nil _) rfl rfl Go.Proofs.Try.func50 rfl (by kernel_rfl) (hs_show_Steps v0.T _ hr_t2)) ?_; clear hk; intro a w hk
      obtain ⟨hc1, h⟩ := FW.chk h
      refine FW.lfun (y := .lit (.string (FW.B (([95, 95, 46] : List UInt8) ++ t2)))) hk rfl rfl rfl rfl ((FW.f_pure (FW.p_sadd hk.kn (FW.holds_nil _) rfl rfl hc1))) ?_; clear hk; intro a w hk
      refine FW.lfun (y := .lit (.string (FW.B (([95, 95, 46] : List UInt8) ++ t2)))) hk rfl rfl rfl rfl (FW.f_assign hk (FW.holds_nil _) rfl) ?_; clear hk; intro a w hk
      refine FW.lend (hK7 _ _ ?_); clear hK7 K'
      refine wp_ret ?_
      (repeat first | refine FW.then_ret ?_ | refine FW.block_ret ?_)
      obtain rfl := Option.some.inj h
      exact FW.fret1 hk rfl rfl
    · skip
      refine FW.wreg ?_; intro K' hK8
      refine FW.lfun (y := .lit (.bool (decide (v0.Kind = 4)))) hk rfl rfl rfl rfl ((FW.f_pure (FW.p_eql hk.kn (FW.holds_nil _) rfl rfl))) ?_; clear hk; intro a w hk
      refine FW.lfun (y := .lit (.bool (decide (v0.Kind = 4)))) hk rfl rfl rfl rfl (FW.f_assign hk (FW.holds_nil _) rfl) ?_; clear hk; intro a w hk
      refine FW.lend (hK8 _ _ ?_); clear hK8 K'
      refine FW.wcondF (b := (decide (v0.Kind = 4))) hk h rfl (fun h hb => ?_) (fun h hb => ?_)
      · skip
        refine FW.wreg ?_; intro K' hK9
        refine FW.lfun (y := .lit (.pointer (some ⟨b1, 1, none⟩))) hk rfl rfl rfl rfl (FW.f_fieldPtr hk (FW.holds_nil _) rfl Go.Proofs.Try.underlying38 rfl (by kernel_rfl) rfl) ?_; clear hk; intro a w hk
        refine FW.lfun (y := .lit (.pointer (some ⟨b1, 5, none⟩))) hk rfl rfl rfl rfl (FW.f_fieldPtr hk (FW.holds_nil _) rfl Go.Proofs.Try.underlying33 rfl (by kernel_rfl) rfl) ?_; clear hk; intro a w hk
        refine FW.lfun (y := .lit (.string (FW.B v0.V.S))) hk rfl rfl rfl rfl (FW.f_loadBlk1 hk (FW.holds_nil _) (j := 0) rfl rfl Go.Proofs.Try.underlying9 rfl rfl) ?_; clear hk; intro a w hk
        refine FW.lfun (y := .lit (.string (FW.B v0.V.S))) hk rfl rfl rfl rfl (FW.f_assign hk (FW.holds_nil _) rfl) ?_; clear hk; intro a w hk
        refine FW.lend (hK9 _ _ ?_); clear hK9 K'
        refine wp_ret ?_
        (repeat first | refine FW.then_ret ?_ | refine FW.block_ret ?_)
        obtain rfl := Option.some.inj h
        exact FW.fret1 hk rfl rfl
      · skip
        refine wp_skip ?_
        (repeat first | refine FW.then_normal ?_ | refine FW.block_normal ?_); refine hK2 _ _ ?_
        refine FW.wreg ?_; intro K' hK10
        refine FW.lfun (y := .lit (.pointer (some ⟨b1, 1, none⟩))) hk rfl rfl rfl rfl (FW.f_fieldPtr hk (FW.holds_nil _) rfl Go.Proofs.Try.underlying38 rfl (by kernel_rfl) rfl) ?_; clear hk; intro a w hk
        refine FW.lfun (y := .agg ((ApiValue.cells v0.V))) hk rfl rfl rfl rfl (FW.f_loadBlk hk (FW.holds_nil _) (j := 0) rfl rfl Go.Proofs.Try.underlying33 rfl rfl rfl rfl) ?_; clear hk; intro a w hk
        obtain ⟨t3, hr_t3, h⟩ := FW.bnd h
        refine FW.lfun (y := .lit (.string (FW.B t3))) hk rfl rfl rfl rfl (FW.f_call hk (FW.holds_nil _) rfl rfl Go.Proofs.Try.func15 rfl (by kernel_rfl) (show_Value.ok K v0.V _ hr_t3)) ?_; clear hk; intro a w hk
        refine FW.lfun (y := .lit (.string (FW.B t3))) hk rfl rfl rfl rfl (FW.f_assign hk (FW.holds_nil _) rfl) ?_; clear hk; intro a w hk
        refine FW.lend (hK10 _ _ ?_); clear hK10 K'
        refine wp_ret ?_
        (repeat first | refine FW.then_ret ?_ | refine FW.block_ret ?_)
        obtain rfl := Option.some.inj h
        exact FW.fret1 hk rfl rfl
theorem show_Steps_knot : ∀ K : Nat, (∀ (v0 : List ApiStep) (r : List UInt8), show_Steps.f K v0 = some r → FW.Ok Go.Proofs.Try.prog 50 [.row (r_ApiStep_cells v0)] (.lit (.string (FW.B r)))) ∧ (∀ (v0 : List ApiArg) (r : List UInt8), show_join_api_Arg_of_show_arg.f K v0 = some r → FW.Ok Go.Proofs.Try.prog 68 [.row (r_ApiArg_cells v0), .lit (.func (.func 69) #[] #[])] (.lit (.string (FW.B r)))) ∧ (∀ (v0 : ApiArg) (r : List UInt8), show_arg.f K v0 = some r → FW.Ok Go.Proofs.Try.prog 69 [.agg (ApiArg.cells v0)] (.lit (.string (FW.B r))))
  | 0 => ⟨fun v0 r h => by simp [show_Steps.f] at h, fun v0 r h => by simp [show_join_api_Arg_of_show_arg.f] at h, fun v0 r h => by simp [show_arg.f] at h⟩
  | K + 1 => ⟨fun v0 r h => by rw [show_Steps.f] at h; exact show_Steps.bok _ _ _ (show_Steps_knot K).1 (show_Steps_knot K).2.1 (show_Steps_knot K).2.2 K v0 r h, fun v0 r h => by rw [show_join_api_Arg_of_show_arg.f] at h; exact show_join_api_Arg_of_show_arg.bok _ _ _ (show_Steps_knot K).1 (show_Steps_knot K).2.1 (show_Steps_knot K).2.2 K v0 r h, fun v0 r h => by rw [show_arg.f] at h; exact show_arg.bok _ _ _ (show_Steps_knot K).1 (show_Steps_knot K).2.1 (show_Steps_knot K).2.2 K v0 r h⟩
theorem show_Steps.ok (K : Nat) (v0 : List ApiStep) (r : List UInt8) (h : show_Steps.f K v0 = some r) : FW.Ok Go.Proofs.Try.prog 50 [.row (r_ApiStep_cells v0)] (.lit (.string (FW.B r))) := (show_Steps_knot K).1 v0 r h
theorem show_join_api_Arg_of_show_arg.ok (K : Nat) (v0 : List ApiArg) (r : List UInt8) (h : show_join_api_Arg_of_show_arg.f K v0 = some r) : FW.Ok Go.Proofs.Try.prog 68 [.row (r_ApiArg_cells v0), .lit (.func (.func 69) #[] #[])] (.lit (.string (FW.B r))) := (show_Steps_knot K).2.1 v0 r h
theorem show_arg.ok (K : Nat) (v0 : ApiArg) (r : List UInt8) (h : show_arg.f K v0 = some r) : FW.Ok Go.Proofs.Try.prog 69 [.agg (ApiArg.cells v0)] (.lit (.string (FW.B r))) := (show_Steps_knot K).2.2 v0 r h

theorem show_Query.ok (K : Nat) (v0 : List ApiStep) (r : List UInt8) (h : show_Query.f K v0 = some r) :
    FW.Ok Go.Proofs.Try.prog 31 [.row (r_ApiStep_cells v0)] (.lit (.string (FW.B r))) := by
  refine FW.enter (xs := [.row (r_ApiStep_cells v0)]) Go.Proofs.Try.func31 rfl Go.Proofs.Try.ntmps31 rfl ?_
  intro M w0 a hk
  unfold show_Query.f at h
  refine FW.wreg ?_; intro K' hK1
  refine FW.lfun (y := .lit (.string (FW.B ([] : List UInt8)))) hk rfl rfl rfl rfl (FW.f_assign hk (FW.holds_nil _) rfl) ?_; clear hk; intro a w hk
  refine FW.lend (hK1 _ _ ?_); clear hK1 K'
  refine FW.wreg ?_; intro K' hK2
  refine FW.lfun (y := .row (r_ApiStep_cells v0)) hk rfl rfl rfl rfl (FW.f_move hk (FW.holds_nil _) rfl) ?_; clear hk; intro a w hk
  obtain ⟨t1, hr_t1, h⟩ := FW.bnd h
  refine FW.lfun (y := .lit (.string (FW.B t1))) hk rfl rfl rfl rfl (FW.f_call hk (FW.holds_nil _) rfl rfl Go.Proofs.Try.func50 rfl (by kernel_rfl) (show_Steps.ok K v0 _ hr_t1)) ?_; clear hk; intro a w hk
  obtain ⟨hc1, h⟩ := FW.chk h
  refine FW.lfun (y := .lit (.string (FW.B (([103, 46] : List UInt8) ++ t1)))) hk rfl rfl rfl rfl ((FW.f_pure (FW.p_sadd hk.kn (FW.holds_nil _) rfl rfl hc1))) ?_; clear hk; intro a w hk
  refine FW.lfun (y := .lit (.string (FW.B (([103, 46] : List UInt8) ++ t1)))) hk rfl rfl rfl rfl (FW.f_assign hk (FW.holds_nil _) rfl) ?_; clear hk; intro a w hk
  refine FW.lend (hK2 _ _ ?_); clear hK2 K'
  refine wp_ret ?_
  (repeat first | refine FW.then_ret ?_ | refine FW.block_ret ?_)
  obtain rfl := Option.some.inj h
  exact FW.fret1 hk rfl rfl

theorem offshootlaw13_awake.ok (K : Nat)  (r : Bool) (h : offshootlaw13_awake.f K = some r) :
    FW.Ok Go.Proofs.Try.prog 10 [] (.lit (.bool r)) := by
  refine FW.enter (xs := []) Go.Proofs.Try.func10 rfl Go.Proofs.Try.ntmps10 rfl ?_
  intro M w0 a hk
  unfold offshootlaw13_awake.f at h
  refine FW.wreg ?_; intro K' hK1
  refine FW.lfun (y := .lit (.bool false)) hk rfl rfl rfl rfl (FW.f_assign hk (FW.holds_nil _) rfl) ?_; clear hk; intro a w hk
  refine FW.lend (hK1 _ _ ?_); clear hK1 K'
  refine FW.wreg ?_; intro K' hK2
  obtain ⟨t1, hr_t1, h⟩ := FW.bnd h
  refine FW.lfun (y := .tup [.row (r_ApiStep_cells t1.1), .lit (.int .i64 t1.2.1), .lit (.int .i64 t1.2.2)]) hk rfl rfl rfl rfl (FW.f_call hk (FW.holds_nil _) rfl rfl Go.Proofs.Try.func9 rfl (by kernel_rfl) (offshootref12_Parse.ok K ([103, 46, 86, 40, 41, 46, 104, 97, 115, 40, 39, 97, 39, 44, 103, 116, 40, 49, 41, 46, 97, 110, 100, 40, 108, 116, 40, 53, 41, 41, 41] : List UInt8) _ hr_t1)) ?_; clear hk; intro a w hk
  refine FW.lfun (y := .tup [.row (r_ApiStep_cells t1.1), .lit (.int .i64 t1.2.1), .lit (.int .i64 t1.2.2)]) hk rfl rfl rfl rfl (FW.f_move hk (FW.holds_nil _) rfl) ?_; clear hk; intro a w hk
  refine FW.lfun (y := .row (r_ApiStep_cells t1.1)) hk rfl rfl rfl rfl (FW.f_extract hk (FW.holds_nil _) rfl rfl) ?_; clear hk; intro a w hk
  refine FW.lfun (y := .lit (.int .i64 t1.2.1)) hk rfl rfl rfl rfl (FW.f_extract hk (FW.holds_nil _) rfl rfl) ?_; clear hk; intro a w hk
  refine FW.lfun (y := .lit (.int .i64 t1.2.2)) hk rfl rfl rfl rfl (FW.f_extract hk (FW.holds_nil _) rfl rfl) ?_; clear hk; intro a w hk
  refine FW.lfun (y := .row (r_ApiStep_cells t1.1)) hk rfl rfl rfl rfl (FW.f_assign hk (FW.holds_nil _) rfl) ?_; clear hk; intro a w hk
  refine FW.lfun (y := .lit (.int .i64 t1.2.1)) hk rfl rfl rfl rfl (FW.f_assign hk (FW.holds_nil _) rfl) ?_; clear hk; intro a w hk
  refine FW.lfun (y := .lit (.int .i64 t1.2.2)) hk rfl rfl rfl rfl (FW.f_assign hk (FW.holds_nil _) rfl) ?_; clear hk; intro a w hk
  refine FW.lend (hK2 _ _ ?_); clear hK2 K'
  refine FW.wreg ?_; intro K' hK3
  refine FW.lfun (y := .lit (.int .i64 t1.2.2)) hk rfl rfl rfl rfl (FW.f_move hk (FW.holds_nil _) rfl) ?_; clear hk; intro a w hk
  refine FW.lfun (y := .lit (.bool (decide (t1.2.2 = 0)))) hk rfl rfl rfl rfl ((FW.f_pure (FW.p_eql hk.kn (FW.holds_nil _) rfl rfl))) ?_; clear hk; intro a w hk
  refine FW.lfun (y := .lit (.bool (decide (t1.2.2 = 0)))) hk rfl rfl rfl rfl (FW.f_move hk (FW.holds_nil _) rfl) ?_; clear hk; intro a w hk
  refine FW.lfunG (y := .row (r_ApiStep_cells t1.1)) hk rfl rfl rfl rfl rfl rfl rfl rfl (fun hc => FW.f_move hk hc rfl) ?_; clear hk; intro a w hk
  obtain ⟨t2, hr_t2, h⟩ := FW.bndG h
  refine FW.lfunG (y := .lit (.string (FW.B t2))) hk rfl rfl rfl rfl rfl rfl rfl rfl (fun hc => FW.f_call hk hc rfl rfl Go.Proofs.Try.func31 rfl (by kernel_rfl) (show_Query.ok K t1.1 _ (hr_t2 (FW.asm_out (p := (decide (t1.2.2 = 0)) = true) hk.kn hc (fun e0 => e0))))) ?_; clear hk; intro a w hk
  refine FW.lfunG (y := .lit (.bool (decide (t2 = ([103, 46, 86, 40, 41, 46, 104, 97, 115, 40, 39, 97, 39, 44, 32, 103, 116, 40, 49, 41, 46, 97, 110, 100, 40, 108, 116, 40, 53, 41, 41, 41] : List UInt8))))) hk rfl rfl rfl rfl rfl rfl rfl rfl (fun hc => (FW.f_pure (FW.p_seql hk.kn hc rfl rfl))) ?_; clear hk; intro a w hk
  refine FW.lfun (y := .lit (.bool ((decide (t1.2.2 = 0)) && (decide (t2 = ([103, 46, 86, 40, 41, 46, 104, 97, 115, 40, 39, 97, 39, 44, 32, 103, 116, 40, 49, 41, 46, 97, 110, 100, 40, 108, 116, 40, 53, 41, 41, 41] : List UInt8)))))) hk rfl rfl rfl rfl ((FW.f_pure (FW.p_pick_and hk.kn (FW.holds_nil _) rfl rfl))) ?_; clear hk; intro a w hk
  refine FW.lfun (y := .lit (.bool ((decide (t1.2.2 = 0)) && (decide (t2 = ([103, 46, 86, 40, 41, 46, 104, 97, 115, 40, 39, 97, 39, 44, 32, 103, 116, 40, 49, 41, 46, 97, 110, 100, 40, 108, 116, 40, 53, 41, 41, 41] : List UInt8)))))) hk rfl rfl rfl rfl (FW.f_move hk (FW.holds_nil _) rfl) ?_; clear hk; intro a w hk
  refine FW.lfunG (y := .agg ((ApiValue.cells (⟨2, false, (-5), 0, [], []⟩ : ApiValue)))) hk rfl rfl rfl rfl rfl rfl rfl rfl (fun hc => FW.f_buildN [] hk hc rfl rfl rfl) ?_; clear hk; intro a w hk
  obtain ⟨t3, hr_t3, h⟩ := FW.bndG h
  refine FW.lfunG (y := .lit (.string (FW.B t3))) hk rfl rfl rfl rfl rfl rfl rfl rfl (fun hc => FW.f_call hk hc rfl rfl Go.Proofs.Try.func15 rfl (by kernel_rfl) (show_Value.ok K (⟨2, false, (-5), 0, [], []⟩ : ApiValue) _ (hr_t3 (FW.asm_out (p := ((decide (t1.2.2 = 0)) && (decide (t2 = ([103, 46, 86, 40, 41, 46, 104, 97, 115, 40, 39, 97, 39, 44, 32, 103, 116, 40, 49, 41, 46, 97, 110, 100, 40, 108, 116, 40, 53, 41, 41, 41] : List UInt8)))) = true) hk.kn hc (fun e0 => e0))))) ?_; clear hk; intro a w hk
  refine FW.lfunG (y := .lit (.bool (decide (t3 = ([45, 53] : List UInt8))))) hk rfl rfl rfl rfl rfl rfl rfl rfl (fun hc => (FW.f_pure (FW.p_seql hk.kn hc rfl rfl))) ?_; clear hk; intro a w hk
  refine FW.lfun (y := .lit (.bool (((decide (t1.2.2 = 0)) && (decide (t2 = ([103, 46, 86, 40, 41, 46, 104, 97, 115, 40, 39, 97, 39, 44, 32, 103, 116, 40, 49, 41, 46, 97, 110, 100, 40, 108, 116, 40, 53, 41, 41, 41] : List UInt8)))) && (decide (t3 = ([45, 53] : List UInt8)))))) hk rfl rfl rfl rfl ((FW.f_pure (FW.p_pick_and hk.kn (FW.holds_nil _) rfl rfl))) ?_; clear hk; intro a w hk
  refine FW.lfun (y := .lit (.bool (((decide (t1.2.2 = 0)) && (decide (t2 = ([103, 46, 86, 40, 41, 46, 104, 97, 115, 40, 39, 97, 39, 44, 32, 103, 116, 40, 49, 41, 46, 97, 110, 100, 40, 108, 116, 40, 53, 41, 41, 41] : List UInt8)))) && (decide (t3 = ([45, 53] : List UInt8)))))) hk rfl rfl rfl rfl (FW.f_assign hk (FW.holds_nil _) rfl) ?_; clear hk; intro a w hk
  refine FW.lend (hK3 _ _ ?_); clear hK3 K'
  refine wp_ret ?_
  (repeat first | refine FW.then_ret ?_ | refine FW.block_ret ?_)
  obtain rfl := Option.some.inj h
  exact FW.fret1 hk rfl rfl

theorem offshootref13_Number.ok (K : Nat) (v0 : Int) (r : List UInt8) (h : offshootref13_Number.f K v0 = some r) :
    FW.Ok Go.Proofs.Try.prog 38 [.lit (.int .i64 v0)] (.lit (.string (FW.B r))) := by
  refine FW.enter (xs := [.lit (.int .i64 v0)]) Go.Proofs.Try.func38 rfl Go.Proofs.Try.ntmps38 rfl ?_
  intro M w0 a hk
  unfold offshootref13_Number.f at h
  refine FW.wreg ?_; intro K' hK1
  refine FW.lfun (y := .lit (.string (FW.B ([] : List UInt8)))) hk rfl rfl rfl rfl (FW.f_assign hk (FW.holds_nil _) rfl) ?_; clear hk; intro a w hk
  refine FW.lend (hK1 _ _ ?_); clear hK1 K'
  refine FW.wreg ?_; intro K' hK2
  refine FW.lfun (y := .lit (.int .i64 v0)) hk rfl rfl rfl rfl (FW.f_move hk (FW.holds_nil _) rfl) ?_; clear hk; intro a w hk
  refine FW.lfun (y := .lit (.int .u64 (IntKind.wrap .u64 v0))) hk rfl rfl rfl rfl ((FW.f_pure (FW.p_conv Go.Proofs.Try.underlying2 Go.Proofs.Try.underlying58 hk.kn (FW.holds_nil _) rfl))) ?_; clear hk; intro a w hk
  refine FW.lfun (y := .lit (.int .i64 v0)) hk rfl rfl rfl rfl (FW.f_move hk (FW.holds_nil _) rfl) ?_; clear hk; intro a w hk
  refine FW.lfun (y := .lit (.bool (decide (v0 < 0)))) hk rfl rfl rfl rfl ((FW.f_pure (FW.p_lss hk.kn (FW.holds_nil _) rfl rfl))) ?_; clear hk; intro a w hk
  refine FW.lfun (y := .lit (.int .u64 (IntKind.wrap .u64 v0))) hk rfl rfl rfl rfl (FW.f_assign hk (FW.holds_nil _) rfl) ?_; clear hk; intro a w hk
  refine FW.lfun (y := .lit (.bool (decide (v0 < 0)))) hk rfl rfl rfl rfl (FW.f_assign hk (FW.holds_nil _) rfl) ?_; clear hk; intro a w hk
  refine FW.lend (hK2 _ _ ?_); clear hK2 K'
  refine FW.wseqJ (fun a w => ∃ (v3 : Int) (v4 : Bool), FW.S M w0 a w 33 [] [(3, [], .lit (.int .u64 v3)), (4, [], .lit (.bool v4))] ∧ offshootref13_Number.j1 K v3 v4 = some r) ?_ ?_
  · clear hk h
    rintro a w ⟨v3, v4, hk, h⟩
    unfold offshootref13_Number.j1 at h
    refine FW.wreg ?_; intro K' hK4
    refine FW.lfun (y := .lit (.string (FW.B ([] : List UInt8)))) hk rfl rfl rfl rfl (FW.f_assign hk (FW.holds_nil _) rfl) ?_; clear hk; intro a w hk
    refine FW.lend (hK4 _ _ ?_); clear hK4 K'
    refine FW.wseq ?_; intro K' hK5
    refine wp_block ?_
    refine FW.wloop (T := Nat × Int × Bool × List UInt8) (fun x a w => match x with | (kl1, v3, v4, v5) => FW.S M w0 a w 33 [] [(3, [], .lit (.int .u64 v3)), (4, [], .lit (.bool v4)), (5, [], .lit (.string (FW.B v5)))] ∧ offshootref13_Number.l1 K kl1 v3 v4 v5 = some r) (fun x => x.1) (K, v3, v4, ([] : List UInt8)) ⟨hk.sub ⟨rfl, rfl, rfl, trivial⟩, h⟩ ?_
    clear hk h
    rintro ⟨kl1, v3, v4, v5⟩ a w ⟨hk, h⟩ K' hK6
    cases kl1 with
    | zero => simp [offshootref13_Number.l1] at h
    | succ kl1 =>
    rw [offshootref13_Number.l1.eq_2] at h
    refine FW.wseq ?_; intro K' hK7
    refine FW.wreg ?_; intro K' hK8
    refine FW.lfun (y := .lit (.int .u64 v3)) hk rfl rfl rfl rfl (FW.f_move hk (FW.holds_nil _) rfl) ?_; clear hk; intro a w hk
    refine FW.lfun (y := .lit (.bool (decide (0 < v3)))) hk rfl rfl rfl rfl ((FW.f_pure (FW.p_gtr hk.kn (FW.holds_nil _) rfl rfl))) ?_; clear hk; intro a w hk
    refine FW.lfun (y := .lit (.bool (decide (0 < v3)))) hk rfl rfl rfl rfl (FW.f_move hk (FW.holds_nil _) rfl) ?_; clear hk; intro a w hk
    refine FW.lfunG (y := .lit (.string (FW.B v5))) hk rfl rfl rfl rfl rfl rfl rfl rfl (fun hc => FW.f_move hk hc rfl) ?_; clear hk; intro a w hk
    refine FW.lfunG (y := .lit (.bool (decide (v5 = ([] : List UInt8))))) hk rfl rfl rfl rfl rfl rfl rfl rfl (fun hc => (FW.f_pure (FW.p_seql hk.kn hc rfl rfl))) ?_; clear hk; intro a w hk
    refine FW.lfun (y := .lit (.bool ((decide (0 < v3)) || (decide (v5 = ([] : List UInt8)))))) hk rfl rfl rfl rfl ((FW.f_pure (FW.p_pick_or hk.kn (FW.holds_nil _) rfl rfl))) ?_; clear hk; intro a w hk
    refine FW.lend (hK8 _ _ ?_); clear hK8 K'
    refine FW.wcondF (b := ((decide (0 < v3)) || (decide (v5 = ([] : List UInt8))))) hk h rfl (fun h hb => ?_) (fun h hb => ?_)
    · skip
      refine wp_skip ?_
      (repeat first | refine FW.then_normal ?_ | refine FW.block_normal ?_); refine hK7 _ _ ?_
      refine wp_block ?_
      refine FW.wreg ?_; intro K' hK9
      refine FW.lfun (y := .lit (.int .u64 v3)) hk rfl rfl rfl rfl (FW.f_move hk (FW.holds_nil _) rfl) ?_; clear hk; intro a w hk
      refine FW.lfun (y := .lit (.int .u64 (Int.tmod v3 10))) hk rfl rfl rfl rfl ((FW.f_pure (FW.p_rem hk.kn (FW.holds_nil _) rfl rfl (show ¬ (10 : Int) = 0 from by decide)))) ?_; clear hk; intro a w hk
      refine FW.lfun (y := .lit (.int .u8 (IntKind.wrap .u8 (Int.tmod v3 10)))) hk rfl rfl rfl rfl ((FW.f_pure (FW.p_conv Go.Proofs.Try.underlying58 Go.Proofs.Try.underlying5 hk.kn (FW.holds_nil _) rfl))) ?_; clear hk; intro a w hk
      refine FW.lfun (y := .lit (.int .u8 (IntKind.wrap .u8 (48 + (IntKind.wrap .u8 (Int.tmod v3 10)))))) hk rfl rfl rfl rfl ((FW.f_pure (FW.p_add hk.kn (FW.holds_nil _) rfl rfl))) ?_; clear hk; intro a w hk
      refine FW.l_buildSlice (f := c_u8) (l := ([(IntKind.wrap .u8 (48 + (IntKind.wrap .u8 (Int.tmod v3 10))))] : List Int)) hk rfl rfl rfl Go.Proofs.Try.underlying45 rfl rfl rfl rfl (fun _ => rfl) rfl ?_; clear hk; intro b1 a w hk
      refine FW.lfun (y := .lit (.string (FW.B (FW.toB ([(IntKind.wrap .u8 (48 + (IntKind.wrap .u8 (Int.tmod v3 10))))] : List Int))))) hk rfl rfl rfl rfl (FW.f_toBown (f := c_u8) rfl hk (FW.holds_nil _) (j := 0) rfl rfl Go.Proofs.Try.underlying45 Go.Proofs.Try.underlying5 Go.Proofs.Try.underlying9) ?_; clear hk; intro a w hk
      refine FW.lfun (y := .lit (.string (FW.B v5))) hk rfl rfl rfl rfl (FW.f_move hk (FW.holds_nil _) rfl) ?_; clear hk; intro a w hk
      obtain ⟨hc1, h⟩ := FW.chk h
      refine FW.lfun (y := .lit (.string (FW.B ((FW.toB ([(IntKind.wrap .u8 (48 + (IntKind.wrap .u8 (Int.tmod v3 10))))] : List Int)) ++ v5)))) hk rfl rfl rfl rfl ((FW.f_pure (FW.p_sadd hk.kn (FW.holds_nil _) rfl rfl hc1))) ?_; clear hk; intro a w hk
      refine FW.lfun (y := .lit (.string (FW.B ((FW.toB ([(IntKind.wrap .u8 (48 + (IntKind.wrap .u8 (Int.tmod v3 10))))] : List Int)) ++ v5)))) hk rfl rfl rfl rfl (FW.f_assign hk (FW.holds_nil _) rfl) ?_; clear hk; intro a w hk
      refine FW.lend (hK9 _ _ ?_); clear hK9 K'
      refine FW.wreg1 ?_
      refine FW.lfun (y := .lit (.int .u64 v3)) hk rfl rfl rfl rfl (FW.f_move hk (FW.holds_nil _) rfl) ?_; clear hk; intro a w hk
      refine FW.lfun (y := .lit (.int .u64 (IntKind.wrap .u64 (Int.tdiv v3 10)))) hk rfl rfl rfl rfl ((FW.f_pure (FW.p_quo hk.kn (FW.holds_nil _) rfl rfl (show ¬ (10 : Int) = 0 from by decide)))) ?_; clear hk; intro a w hk
      refine FW.lfun (y := .lit (.int .u64 (IntKind.wrap .u64 (Int.tdiv v3 10)))) hk rfl rfl rfl rfl (FW.f_assign hk (FW.holds_nil _) rfl) ?_; clear hk; intro a w hk
      refine wpList_nil ?_
      (repeat first | refine FW.then_normal ?_ | refine FW.block_normal ?_); exact hK6 (kl1, (IntKind.wrap .u64 (Int.tdiv v3 10)), v4, ((FW.toB ([(IntKind.wrap .u8 (48 + (IntKind.wrap .u8 (Int.tmod v3 10))))] : List Int)) ++ v5)) _ _ (Nat.lt_succ_self _) ⟨(hk.drop 0).sub ⟨rfl, rfl, rfl, trivial⟩, h⟩
    · skip
      refine wp_exit ?_; (repeat first | refine FW.then_exit ?_ | refine FW.block_exit_ne rfl ?_); refine FW.block_exit ?_
      (repeat first | refine FW.then_normal ?_ | refine FW.block_normal ?_); refine hK5 _ _ ?_
      refine FW.wseq ?_; intro K' hK11
      refine FW.wreg ?_; intro K' hK12
      refine FW.lfun (y := .lit (.bool v4)) hk rfl rfl rfl rfl (FW.f_move hk (FW.holds_nil _) rfl) ?_; clear hk; intro a w hk
      refine FW.lend (hK12 _ _ ?_); clear hK12 K'
      refine FW.wcondF (b := v4) hk h rfl (fun h hb => ?_) (fun h hb => ?_)
      · skip
        refine FW.wreg ?_; intro K' hK13
        refine FW.lfun (y := .lit (.string (FW.B v5))) hk rfl rfl rfl rfl (FW.f_move hk (FW.holds_nil _) rfl) ?_; clear hk; intro a w hk
        obtain ⟨hc2, h⟩ := FW.chk h
        refine FW.lfun (y := .lit (.string (FW.B (([45] : List UInt8) ++ v5)))) hk rfl rfl rfl rfl ((FW.f_pure (FW.p_sadd hk.kn (FW.holds_nil _) rfl rfl hc2))) ?_; clear hk; intro a w hk
        refine FW.lfun (y := .lit (.string (FW.B (([45] : List UInt8) ++ v5)))) hk rfl rfl rfl rfl (FW.f_assign hk (FW.holds_nil _) rfl) ?_; clear hk; intro a w hk
        refine FW.lend (hK13 _ _ ?_); clear hK13 K'
        refine wp_ret ?_
        (repeat first | refine FW.then_ret ?_ | refine FW.block_ret ?_)
        obtain rfl := Option.some.inj h
        exact FW.fret1 hk rfl rfl
      · skip
        refine wp_skip ?_
        (repeat first | refine FW.then_normal ?_ | refine FW.block_normal ?_); refine hK11 _ _ ?_
        refine FW.wreg ?_; intro K' hK14
        refine FW.lfun (y := .lit (.string (FW.B v5))) hk rfl rfl rfl rfl (FW.f_move hk (FW.holds_nil _) rfl) ?_; clear hk; intro a w hk
        refine FW.lfun (y := .lit (.string (FW.B v5))) hk rfl rfl rfl rfl (FW.f_assign hk (FW.holds_nil _) rfl) ?_; clear hk; intro a w hk
        refine FW.lend (hK14 _ _ ?_); clear hK14 K'
        refine wp_ret ?_
        (repeat first | refine FW.then_ret ?_ | refine FW.block_ret ?_)
        obtain rfl := Option.some.inj h
        exact FW.fret1 hk rfl rfl
  · intro K' hK3
    refine FW.wreg ?_; intro K' hK15
    refine FW.lfun (y := .lit (.bool (decide (v0 < 0)))) hk rfl rfl rfl rfl (FW.f_move hk (FW.holds_nil _) rfl) ?_; clear hk; intro a w hk
    refine FW.lend (hK15 _ _ ?_); clear hK15 K'
    refine FW.wcondF (b := (decide (v0 < 0))) hk h rfl (fun h hb => ?_) (fun h hb => ?_)
    · skip
      refine FW.wreg1 ?_
      refine FW.lfun (y := .lit (.int .u64 (IntKind.wrap .u64 v0))) hk rfl rfl rfl rfl (FW.f_move hk (FW.holds_nil _) rfl) ?_; clear hk; intro a w hk
      refine FW.lfun (y := .lit (.int .u64 (IntKind.wrap .u64 (0 - (IntKind.wrap .u64 v0))))) hk rfl rfl rfl rfl ((FW.f_pure (FW.p_neg hk.kn (FW.holds_nil _) rfl))) ?_; clear hk; intro a w hk
      refine FW.lfun (y := .lit (.int .u64 (IntKind.wrap .u64 (0 - (IntKind.wrap .u64 v0))))) hk rfl rfl rfl rfl (FW.f_assign hk (FW.holds_nil _) rfl) ?_; clear hk; intro a w hk
      refine wpList_nil ?_
      (repeat first | refine FW.then_normal ?_ | refine FW.block_normal ?_); exact hK3 _ _ ⟨(IntKind.wrap .u64 (0 - (IntKind.wrap .u64 v0))), (decide (v0 < 0)), hk.sub ⟨rfl, rfl, trivial⟩, h⟩
    · skip
      refine wp_skip ?_
      (repeat first | refine FW.then_normal ?_ | refine FW.block_normal ?_); exact hK3 _ _ ⟨(IntKind.wrap .u64 v0), (decide (v0 < 0)), hk.sub ⟨rfl, rfl, trivial⟩, h⟩

theorem offshootref02_Eight.ok (K : Nat) (v0 : Int) (r : List UInt8) (h : offshootref02_Eight.f K v0 = some r) :
    FW.Ok Go.Proofs.Try.prog 36 [.lit (.int .u64 v0)] (.lit (.string (FW.B r))) := by
  refine FW.enter (xs := [.lit (.int .u64 v0)]) Go.Proofs.Try.func36 rfl Go.Proofs.Try.ntmps36 rfl ?_
  intro M w0 a hk
  unfold offshootref02_Eight.f at h
  refine FW.wreg ?_; intro K' hK1
  refine FW.lfun (y := .lit (.string (FW.B ([] : List UInt8)))) hk rfl rfl rfl rfl (FW.f_assign hk (FW.holds_nil _) rfl) ?_; clear hk; intro a w hk
  refine FW.lend (hK1 _ _ ?_); clear hK1 K'
  refine FW.wreg ?_; intro K' hK2
  refine FW.lfun (y := .lit (.string (FW.B ([] : List UInt8)))) hk rfl rfl rfl rfl (FW.f_assign hk (FW.holds_nil _) rfl) ?_; clear hk; intro a w hk
  refine FW.lend (hK2 _ _ ?_); clear hK2 K'
  refine FW.wseq ?_; intro K' hK3
  refine FW.wreg ?_; intro K' hK4
  refine FW.lfun (y := .lit (.int .i64 0)) hk rfl rfl rfl rfl (FW.f_assign hk (FW.holds_nil _) rfl) ?_; clear hk; intro a w hk
  refine FW.lend (hK4 _ _ ?_); clear hK4 K'
  refine wp_block ?_
  refine FW.wloop (T := Nat × Int × List UInt8 × Int) (fun x a w => match x with | (kl1, v0, v3, v4) => FW.S M w0 a w 19 [] [(0, [], .lit (.int .u64 v0)), (3, [], .lit (.string (FW.B v3))), (4, [], .lit (.int .i64 v4))] ∧ offshootref02_Eight.l1 K kl1 v0 v3 v4 = some r) (fun x => x.1) (K, v0, ([] : List UInt8), 0) ⟨hk.sub ⟨rfl, rfl, rfl, trivial⟩, h⟩ ?_
  clear hk h
  rintro ⟨kl1, v0, v3, v4⟩ a w ⟨hk, h⟩ K' hK5
  cases kl1 with
  | zero => simp [offshootref02_Eight.l1] at h
  | succ kl1 =>
  rw [offshootref02_Eight.l1.eq_2] at h
  refine FW.wseq ?_; intro K' hK6
  refine FW.wreg ?_; intro K' hK7
  refine FW.lfun (y := .lit (.int .i64 v4)) hk rfl rfl rfl rfl (FW.f_move hk (FW.holds_nil _) rfl) ?_; clear hk; intro a w hk
  refine FW.lfun (y := .lit (.bool (decide (v4 < 8)))) hk rfl rfl rfl rfl ((FW.f_pure (FW.p_lss hk.kn (FW.holds_nil _) rfl rfl))) ?_; clear hk; intro a w hk
  refine FW.lend (hK7 _ _ ?_); clear hK7 K'
  refine FW.wcondF (b := (decide (v4 < 8))) hk h rfl (fun h hb => ?_) (fun h hb => ?_)
  · skip
    refine wp_skip ?_
    (repeat first | refine FW.then_normal ?_ | refine FW.block_normal ?_); refine hK6 _ _ ?_
    refine FW.wseq ?_; intro K' hK8
    refine wp_block ?_
    refine FW.wreg ?_; intro K' hK9
    refine FW.lfun (y := .lit (.int .u64 v0)) hk rfl rfl rfl rfl (FW.f_move hk (FW.holds_nil _) rfl) ?_; clear hk; intro a w hk
    refine FW.lfun (y := .lit (.int .u64 (Int.tmod v0 256))) hk rfl rfl rfl rfl ((FW.f_pure (FW.p_rem hk.kn (FW.holds_nil _) rfl rfl (show ¬ (256 : Int) = 0 from by decide)))) ?_; clear hk; intro a w hk
    refine FW.lfun (y := .lit (.int .u8 (IntKind.wrap .u8 (Int.tmod v0 256)))) hk rfl rfl rfl rfl ((FW.f_pure (FW.p_conv Go.Proofs.Try.underlying58 Go.Proofs.Try.underlying5 hk.kn (FW.holds_nil _) rfl))) ?_; clear hk; intro a w hk
    refine FW.l_buildSlice (f := c_u8) (l := ([(IntKind.wrap .u8 (Int.tmod v0 256))] : List Int)) hk rfl rfl rfl Go.Proofs.Try.underlying45 rfl rfl rfl rfl (fun _ => rfl) rfl ?_; clear hk; intro b1 a w hk
    refine FW.lfun (y := .lit (.string (FW.B (FW.toB ([(IntKind.wrap .u8 (Int.tmod v0 256))] : List Int))))) hk rfl rfl rfl rfl (FW.f_toBown (f := c_u8) rfl hk (FW.holds_nil _) (j := 0) rfl rfl Go.Proofs.Try.underlying45 Go.Proofs.Try.underlying5 Go.Proofs.Try.underlying9) ?_; clear hk; intro a w hk
    refine FW.lfun (y := .lit (.string (FW.B v3))) hk rfl rfl rfl rfl (FW.f_move hk (FW.holds_nil _) rfl) ?_; clear hk; intro a w hk
    obtain ⟨hc1, h⟩ := FW.chk h
    refine FW.lfun (y := .lit (.string (FW.B ((FW.toB ([(IntKind.wrap .u8 (Int.tmod v0 256))] : List Int)) ++ v3)))) hk rfl rfl rfl rfl ((FW.f_pure (FW.p_sadd hk.kn (FW.holds_nil _) rfl rfl hc1))) ?_; clear hk; intro a w hk
    refine FW.lfun (y := .lit (.string (FW.B ((FW.toB ([(IntKind.wrap .u8 (Int.tmod v0 256))] : List Int)) ++ v3)))) hk rfl rfl rfl rfl (FW.f_assign hk (FW.holds_nil _) rfl) ?_; clear hk; intro a w hk
    refine FW.lend (hK9 _ _ ?_); clear hK9 K'
    refine FW.wreg1 ?_
    refine FW.lfun (y := .lit (.int .u64 v0)) hk rfl rfl rfl rfl (FW.f_move hk (FW.holds_nil _) rfl) ?_; clear hk; intro a w hk
    refine FW.lfun (y := .lit (.int .u64 (IntKind.wrap .u64 (Int.tdiv v0 256)))) hk rfl rfl rfl rfl ((FW.f_pure (FW.p_quo hk.kn (FW.holds_nil _) rfl rfl (show ¬ (256 : Int) = 0 from by decide)))) ?_; clear hk; intro a w hk
    refine FW.lfun (y := .lit (.int .u64 (IntKind.wrap .u64 (Int.tdiv v0 256)))) hk rfl rfl rfl rfl (FW.f_assign hk (FW.holds_nil _) rfl) ?_; clear hk; intro a w hk
    refine wpList_nil ?_
    (repeat first | refine FW.then_normal ?_ | refine FW.block_normal ?_); refine hK8 _ _ ?_
    refine FW.wreg1 ?_
    refine FW.lfun (y := .lit (.int .i64 v4)) hk rfl rfl rfl rfl (FW.f_move hk (FW.holds_nil _) rfl) ?_; clear hk; intro a w hk
    refine FW.lfun (y := .lit (.int .i64 (IntKind.wrap .i64 (v4 + 1)))) hk rfl rfl rfl rfl ((FW.f_pure (FW.p_add hk.kn (FW.holds_nil _) rfl rfl))) ?_; clear hk; intro a w hk
    refine FW.lfun (y := .lit (.int .i64 (IntKind.wrap .i64 (v4 + 1)))) hk rfl rfl rfl rfl (FW.f_assign hk (FW.holds_nil _) rfl) ?_; clear hk; intro a w hk
    refine wpList_nil ?_
    (repeat first | refine FW.then_normal ?_ | refine FW.block_normal ?_); exact hK5 (kl1, (IntKind.wrap .u64 (Int.tdiv v0 256)), ((FW.toB ([(IntKind.wrap .u8 (Int.tmod v0 256))] : List Int)) ++ v3), (IntKind.wrap .i64 (v4 + 1))) _ _ (Nat.lt_succ_self _) ⟨(hk.drop 0).sub ⟨rfl, rfl, rfl, trivial⟩, h⟩
  · skip
    refine wp_exit ?_; (repeat first | refine FW.then_exit ?_ | refine FW.block_exit_ne rfl ?_); refine FW.block_exit ?_
    (repeat first | refine FW.then_normal ?_ | refine FW.block_normal ?_); refine hK3 _ _ ?_
    refine FW.wreg ?_; intro K' hK12
    refine FW.lfun (y := .lit (.string (FW.B v3))) hk rfl rfl rfl rfl (FW.f_move hk (FW.holds_nil _) rfl) ?_; clear hk; intro a w hk
    refine FW.lfun (y := .lit (.string (FW.B v3))) hk rfl rfl rfl rfl (FW.f_assign hk (FW.holds_nil _) rfl) ?_; clear hk; intro a w hk
    refine FW.lend (hK12 _ _ ?_); clear hK12 K'
    refine wp_ret ?_
    (repeat first | refine FW.then_ret ?_ | refine FW.block_ret ?_)
    obtain rfl := Option.some.inj h
    exact FW.fret1 hk rfl rfl

theorem offshootref13_hex.ok  (v0 : Int) (r : List UInt8) (h : offshootref13_hex.f v0 = some r) :
    FW.Ok Go.Proofs.Try.prog 39 [.lit (.int .u8 v0)] (.lit (.string (FW.B r))) := by
  refine FW.enter (xs := [.lit (.int .u8 v0)]) Go.Proofs.Try.func39 rfl Go.Proofs.Try.ntmps39 rfl ?_
  intro M w0 a hk
  unfold offshootref13_hex.f at h
  refine FW.wreg ?_; intro K' hK1
  refine FW.lfun (y := .lit (.string (FW.B ([] : List UInt8)))) hk rfl rfl rfl rfl (FW.f_assign hk (FW.holds_nil _) rfl) ?_; clear hk; intro a w hk
  refine FW.lend (hK1 _ _ ?_); clear hK1 K'
  refine FW.wreg ?_; intro K' hK2
  refine FW.lfun (y := .lit (.string (FW.B ([48, 49, 50, 51, 52, 53, 54, 55, 56, 57, 97, 98, 99, 100, 101, 102] : List UInt8)))) hk rfl rfl rfl rfl (FW.f_assign hk (FW.holds_nil _) rfl) ?_; clear hk; intro a w hk
  refine FW.lend (hK2 _ _ ?_); clear hK2 K'
  obtain ⟨hc1, h⟩ := FW.chk h
  obtain ⟨hc2, h⟩ := FW.chk h
  obtain ⟨hc3, h⟩ := FW.chk h
  refine FW.wdraw (by kernel_rfl) (by kernel_rfl) hk ?_; clear hk
  refine FW.dfun (y := .lit (.string (FW.B ([48, 49, 50, 51, 52, 53, 54, 55, 56, 57, 97, 98, 99, 100, 101, 102] : List UInt8)))) rfl rfl rfl rfl (fun a w hk => FW.f_move hk (FW.holds_nil _) rfl) ?_
  refine FW.dfun (y := .lit (.int .u8 v0)) rfl rfl rfl rfl (fun a w hk => FW.f_move hk (FW.holds_nil _) rfl) ?_
  refine FW.dfun (y := .lit (.int .u8 (IntKind.wrap .u8 (Int.tdiv v0 16)))) rfl rfl rfl rfl (fun a w hk => (FW.f_pure (FW.p_quo hk.kn (FW.holds_nil _) rfl rfl (show ¬ (16 : Int) = 0 from by decide)))) ?_
  refine FW.dfun (y := .lit (.int .u8 v0)) rfl rfl rfl rfl (fun a w hk => FW.f_move hk (FW.holds_nil _) rfl) ?_
  refine FW.dfun (y := .lit (.int .u8 (IntKind.wrap .u8 (Int.tdiv v0 16)))) rfl rfl rfl rfl (fun a w hk => (FW.f_pure (FW.p_quo hk.kn (FW.holds_nil _) rfl rfl (show ¬ (16 : Int) = 0 from by decide)))) ?_
  refine FW.dfun (y := .lit (.int .u8 (IntKind.wrap .u8 ((IntKind.wrap .u8 (Int.tdiv v0 16)) + 1)))) rfl rfl rfl rfl (fun a w hk => (FW.f_pure (FW.p_add hk.kn (FW.holds_nil _) rfl rfl))) ?_
  refine FW.dfun (y := .lit (.string (FW.B (List.take (Int.toNat (IntKind.wrap .u8 ((IntKind.wrap .u8 (Int.tdiv v0 16)) + 1)) - Int.toNat (IntKind.wrap .u8 (Int.tdiv v0 16))) (List.drop (Int.toNat (IntKind.wrap .u8 (Int.tdiv v0 16))) ([48, 49, 50, 51, 52, 53, 54, 55, 56, 57, 97, 98, 99, 100, 101, 102] : List UInt8)))))) rfl rfl rfl rfl (fun a w hk => (FW.f_pure (FW.p_slice Go.Proofs.Try.underlying9 hk.kn (FW.holds_nil _) rfl rfl rfl hc1))) ?_
  refine FW.dfun (y := .lit (.string (FW.B ([48, 49, 50, 51, 52, 53, 54, 55, 56, 57, 97, 98, 99, 100, 101, 102] : List UInt8)))) rfl rfl rfl rfl (fun a w hk => FW.f_move hk (FW.holds_nil _) rfl) ?_
  refine FW.dfun (y := .lit (.int .u8 v0)) rfl rfl rfl rfl (fun a w hk => FW.f_move hk (FW.holds_nil _) rfl) ?_
  refine FW.dfun (y := .lit (.int .u8 (Int.tmod v0 16))) rfl rfl rfl rfl (fun a w hk => (FW.f_pure (FW.p_rem hk.kn (FW.holds_nil _) rfl rfl (show ¬ (16 : Int) = 0 from by decide)))) ?_
  refine FW.dfun (y := .lit (.int .u8 v0)) rfl rfl rfl rfl (fun a w hk => FW.f_move hk (FW.holds_nil _) rfl) ?_
  refine FW.dfun (y := .lit (.int .u8 (Int.tmod v0 16))) rfl rfl rfl rfl (fun a w hk => (FW.f_pure (FW.p_rem hk.kn (FW.holds_nil _) rfl rfl (show ¬ (16 : Int) = 0 from by decide)))) ?_
  refine FW.dfun (y := .lit (.int .u8 (IntKind.wrap .u8 ((Int.tmod v0 16) + 1)))) rfl rfl rfl rfl (fun a w hk => (FW.f_pure (FW.p_add hk.kn (FW.holds_nil _) rfl rfl))) ?_
  refine FW.dfun (y := .lit (.string (FW.B (List.take (Int.toNat (IntKind.wrap .u8 ((Int.tmod v0 16) + 1)) - Int.toNat (Int.tmod v0 16)) (List.drop (Int.toNat (Int.tmod v0 16)) ([48, 49, 50, 51, 52, 53, 54, 55, 56, 57, 97, 98, 99, 100, 101, 102] : List UInt8)))))) rfl rfl rfl rfl (fun a w hk => (FW.f_pure (FW.p_slice Go.Proofs.Try.underlying9 hk.kn (FW.holds_nil _) rfl rfl rfl hc2))) ?_
  refine FW.dfun (y := .lit (.string (FW.B ((List.take (Int.toNat (IntKind.wrap .u8 ((IntKind.wrap .u8 (Int.tdiv v0 16)) + 1)) - Int.toNat (IntKind.wrap .u8 (Int.tdiv v0 16))) (List.drop (Int.toNat (IntKind.wrap .u8 (Int.tdiv v0 16))) ([48, 49, 50, 51, 52, 53, 54, 55, 56, 57, 97, 98, 99, 100, 101, 102] : List UInt8))) ++ (List.take (Int.toNat (IntKind.wrap .u8 ((Int.tmod v0 16) + 1)) - Int.toNat (Int.tmod v0 16)) (List.drop (Int.toNat (Int.tmod v0 16)) ([48, 49, 50, 51, 52, 53, 54, 55, 56, 57, 97, 98, 99, 100, 101, 102] : List UInt8))))))) rfl rfl rfl rfl (fun a w hk => (FW.f_pure (FW.p_sadd hk.kn (FW.holds_nil _) rfl rfl hc3))) ?_
  refine FW.dfun (y := .lit (.string (FW.B ((List.take (Int.toNat (IntKind.wrap .u8 ((IntKind.wrap .u8 (Int.tdiv v0 16)) + 1)) - Int.toNat (IntKind.wrap .u8 (Int.tdiv v0 16))) (List.drop (Int.toNat (IntKind.wrap .u8 (Int.tdiv v0 16))) ([48, 49, 50, 51, 52, 53, 54, 55, 56, 57, 97, 98, 99, 100, 101, 102] : List UInt8))) ++ (List.take (Int.toNat (IntKind.wrap .u8 ((Int.tmod v0 16) + 1)) - Int.toNat (Int.tmod v0 16)) (List.drop (Int.toNat (Int.tmod v0 16)) ([48, 49, 50, 51, 52, 53, 54, 55, 56, 57, 97, 98, 99, 100, 101, 102] : List UInt8))))))) rfl rfl rfl rfl (fun a w hk => FW.f_assign hk (FW.holds_nil _) rfl) ?_
  refine FW.dend ?_; intro a w hk
  refine wp_ret ?_
  (repeat first | refine FW.then_ret ?_ | refine FW.block_ret ?_)
  obtain rfl := Option.some.inj h
  exact FW.fret1 hk rfl rfl

theorem offshootref13_Text.ok (K : Nat) (v0 : List UInt8) (r : List UInt8) (h : offshootref13_Text.f K v0 = some r) :
    FW.Ok Go.Proofs.Try.prog 40 [.lit (.string (FW.B v0))] (.lit (.string (FW.B r))) := by
  refine FW.enter (xs := [.lit (.string (FW.B v0))]) Go.Proofs.Try.func40 rfl Go.Proofs.Try.ntmps40 rfl ?_
  intro M w0 a hk
  unfold offshootref13_Text.f at h
  refine FW.wreg ?_; intro K' hK1
  refine FW.lfun (y := .lit (.string (FW.B ([] : List UInt8)))) hk rfl rfl rfl rfl (FW.f_assign hk (FW.holds_nil _) rfl) ?_; clear hk; intro a w hk
  refine FW.lend (hK1 _ _ ?_); clear hK1 K'
  refine FW.wreg ?_; intro K' hK2
  refine FW.lfun (y := .lit (.string (FW.B ([39] : List UInt8)))) hk rfl rfl rfl rfl (FW.f_assign hk (FW.holds_nil _) rfl) ?_; clear hk; intro a w hk
  refine FW.lend (hK2 _ _ ?_); clear hK2 K'
  refine FW.wseq ?_; intro K' hK3
  refine FW.wreg ?_; intro K' hK4
  refine FW.lfun (y := .lit (.int .i64 0)) hk rfl rfl rfl rfl (FW.f_assign hk (FW.holds_nil _) rfl) ?_; clear hk; intro a w hk
  refine FW.lend (hK4 _ _ ?_); clear hK4 K'
  refine wp_block ?_
  refine FW.wloop (T := Nat × List UInt8 × List UInt8 × Int) (fun x a w => match x with | (kl1, v0, v3, v4) => FW.S M w0 a w 43 [] [(0, [], .lit (.string (FW.B v0))), (3, [], .lit (.string (FW.B v3))), (4, [], .lit (.int .i64 v4))] ∧ offshootref13_Text.l1 K kl1 v0 v3 v4 = some r) (fun x => x.1) (K, v0, ([39] : List UInt8), 0) ⟨hk.sub ⟨rfl, rfl, rfl, trivial⟩, h⟩ ?_
  clear hk h
  rintro ⟨kl1, v0, v3, v4⟩ a w ⟨hk, h⟩ K' hK5
  cases kl1 with
  | zero => simp [offshootref13_Text.l1] at h
  | succ kl1 =>
  rw [offshootref13_Text.l1.eq_2] at h
  refine FW.wseq ?_; intro K' hK6
  refine FW.wreg ?_; intro K' hK7
  refine FW.lfun (y := .lit (.int .i64 v4)) hk rfl rfl rfl rfl (FW.f_move hk (FW.holds_nil _) rfl) ?_; clear hk; intro a w hk
  refine FW.lfun (y := .lit (.string (FW.B v0))) hk rfl rfl rfl rfl (FW.f_move hk (FW.holds_nil _) rfl) ?_; clear hk; intro a w hk
  refine FW.lfun (y := .lit (.int .i64 (List.length v0 : Int))) hk rfl rfl rfl rfl ((FW.f_pure (FW.p_slen Go.Proofs.Try.underlying9 hk.kn (FW.holds_nil _) rfl))) ?_; clear hk; intro a w hk
  refine FW.lfun (y := .lit (.bool (decide (v4 < (List.length v0 : Int))))) hk rfl rfl rfl rfl ((FW.f_pure (FW.p_lss hk.kn (FW.holds_nil _) rfl rfl))) ?_; clear hk; intro a w hk
  refine FW.lend (hK7 _ _ ?_); clear hK7 K'
  refine FW.wcondF (b := (decide (v4 < (List.length v0 : Int)))) hk h rfl (fun h hb => ?_) (fun h hb => ?_)
  · skip
    refine wp_skip ?_
    (repeat first | refine FW.then_normal ?_ | refine FW.block_normal ?_); refine hK6 _ _ ?_
    refine FW.wseqJ (fun a w => ∃ (v0 : List UInt8) (v3 : List UInt8) (v4 : Int), FW.S M w0 a w 43 [] [(0, [], .lit (.string (FW.B v0))), (3, [], .lit (.string (FW.B v3))), (4, [], .lit (.int .i64 v4))] ∧ offshootref13_Text.j1 (offshootref13_Text.l1 K kl1) K v0 v3 v4 = some r) ?_ ?_
    · clear hk h
      rintro a w ⟨v0, v3, v4, hk, h⟩
      unfold offshootref13_Text.j1 at h
      refine FW.wreg1 ?_
      refine FW.lfun (y := .lit (.int .i64 v4)) hk rfl rfl rfl rfl (FW.f_move hk (FW.holds_nil _) rfl) ?_; clear hk; intro a w hk
      refine FW.lfun (y := .lit (.int .i64 (IntKind.wrap .i64 (v4 + 1)))) hk rfl rfl rfl rfl ((FW.f_pure (FW.p_add hk.kn (FW.holds_nil _) rfl rfl))) ?_; clear hk; intro a w hk
      refine FW.lfun (y := .lit (.int .i64 (IntKind.wrap .i64 (v4 + 1)))) hk rfl rfl rfl rfl (FW.f_assign hk (FW.holds_nil _) rfl) ?_; clear hk; intro a w hk
      refine wpList_nil ?_
      (repeat first | refine FW.then_normal ?_ | refine FW.block_normal ?_); exact hK5 (kl1, v0, v3, (IntKind.wrap .i64 (v4 + 1))) _ _ (Nat.lt_succ_self _) ⟨hk.sub ⟨rfl, rfl, rfl, trivial⟩, h⟩
    · intro K' hK8
      refine wp_block ?_
      refine FW.wreg ?_; intro K' hK10
      refine FW.lfun (y := .lit (.string (FW.B v0))) hk rfl rfl rfl rfl (FW.f_move hk (FW.holds_nil _) rfl) ?_; clear hk; intro a w hk
      refine FW.lfun (y := .lit (.int .i64 v4)) hk rfl rfl rfl rfl (FW.f_move hk (FW.holds_nil _) rfl) ?_; clear hk; intro a w hk
      obtain ⟨hc1, h⟩ := FW.chk h
      refine FW.lfun (y := .lit (.int .u8 (FW.bt v0 v4))) hk rfl rfl rfl rfl ((FW.f_pure (FW.p_index Go.Proofs.Try.underlying9 hk.kn (FW.holds_nil _) rfl rfl hc1))) ?_; clear hk; intro a w hk
      refine FW.lfun (y := .lit (.int .u8 (FW.bt v0 v4))) hk rfl rfl rfl rfl (FW.f_assign hk (FW.holds_nil _) rfl) ?_; clear hk; intro a w hk
      refine FW.lend (hK10 _ _ ?_); clear hK10 K'
      refine FW.wseqJ (fun a w => ∃ (v0 : List UInt8) (v3 : List UInt8) (v4 : Int) (v5 : Int), FW.S M w0 a w 43 [] [(0, [], .lit (.string (FW.B v0))), (3, [], .lit (.string (FW.B v3))), (4, [], .lit (.int .i64 v4)), (5, [], .lit (.int .u8 v5))] ∧ offshootref13_Text.j2 (offshootref13_Text.l1 K kl1) K v0 v3 v4 v5 = some r) ?_ ?_
      · clear hk h
        rintro a w ⟨v0, v3, v4, v5, hk, h⟩
        unfold offshootref13_Text.j2 at h
        refine FW.wreg ?_; intro K' hK12
        refine FW.lfun (y := .lit (.int .u8 v5)) hk rfl rfl rfl rfl (FW.f_move hk (FW.holds_nil _) rfl) ?_; clear hk; intro a w hk
        refine FW.lfun (y := .lit (.bool (decide (v5 < 32)))) hk rfl rfl rfl rfl ((FW.f_pure (FW.p_lss hk.kn (FW.holds_nil _) rfl rfl))) ?_; clear hk; intro a w hk
        refine FW.lfun (y := .lit (.bool (decide (v5 < 32)))) hk rfl rfl rfl rfl (FW.f_move hk (FW.holds_nil _) rfl) ?_; clear hk; intro a w hk
        refine FW.lfunG (y := .lit (.int .u8 v5)) hk rfl rfl rfl rfl rfl rfl rfl rfl (fun hc => FW.f_move hk hc rfl) ?_; clear hk; intro a w hk
        refine FW.lfunG (y := .lit (.bool (decide (126 < v5)))) hk rfl rfl rfl rfl rfl rfl rfl rfl (fun hc => (FW.f_pure (FW.p_gtr hk.kn hc rfl rfl))) ?_; clear hk; intro a w hk
        refine FW.lfun (y := .lit (.bool ((decide (v5 < 32)) || (decide (126 < v5))))) hk rfl rfl rfl rfl ((FW.f_pure (FW.p_pick_or hk.kn (FW.holds_nil _) rfl rfl))) ?_; clear hk; intro a w hk
        refine FW.lend (hK12 _ _ ?_); clear hK12 K'
        refine FW.wcondF (b := ((decide (v5 < 32)) || (decide (126 < v5)))) hk h rfl (fun h hb => ?_) (fun h hb => ?_)
        · skip
          refine FW.wreg1 ?_
          refine FW.lfun (y := .lit (.string (FW.B v3))) hk rfl rfl rfl rfl (FW.f_move hk (FW.holds_nil _) rfl) ?_; clear hk; intro a w hk
          refine FW.lfun (y := .lit (.int .u8 v5)) hk rfl rfl rfl rfl (FW.f_move hk (FW.holds_nil _) rfl) ?_; clear hk; intro a w hk
          obtain ⟨t1, hr_t1, h⟩ := FW.bnd h
          refine FW.lfun (y := .lit (.string (FW.B t1))) hk rfl rfl rfl rfl (FW.f_call hk (FW.holds_nil _) rfl rfl Go.Proofs.Try.func39 rfl (by kernel_rfl) (offshootref13_hex.ok v5 _ hr_t1)) ?_; clear hk; intro a w hk
          obtain ⟨hc2, h⟩ := FW.chk h
          refine FW.lfun (y := .lit (.string (FW.B (([92, 120] : List UInt8) ++ t1)))) hk rfl rfl rfl rfl ((FW.f_pure (FW.p_sadd hk.kn (FW.holds_nil _) rfl rfl hc2))) ?_; clear hk; intro a w hk
          obtain ⟨hc3, h⟩ := FW.chk h
          refine FW.lfun (y := .lit (.string (FW.B (v3 ++ (([92, 120] : List UInt8) ++ t1))))) hk rfl rfl rfl rfl ((FW.f_pure (FW.p_sadd hk.kn (FW.holds_nil _) rfl rfl hc3))) ?_; clear hk; intro a w hk
          refine FW.lfun (y := .lit (.string (FW.B (v3 ++ (([92, 120] : List UInt8) ++ t1))))) hk rfl rfl rfl rfl (FW.f_assign hk (FW.holds_nil _) rfl) ?_; clear hk; intro a w hk
          refine wpList_nil ?_
          (repeat first | refine FW.then_normal ?_ | refine FW.block_normal ?_); exact hK8 _ _ ⟨v0, (v3 ++ (([92, 120] : List UInt8) ++ t1)), v4, hk.sub ⟨rfl, rfl, rfl, trivial⟩, h⟩
        · skip
          refine FW.wreg1 ?_
          refine FW.lfun (y := .lit (.string (FW.B v3))) hk rfl rfl rfl rfl (FW.f_move hk (FW.holds_nil _) rfl) ?_; clear hk; intro a w hk
          refine FW.lfun (y := .lit (.string (FW.B v0))) hk rfl rfl rfl rfl (FW.f_move hk (FW.holds_nil _) rfl) ?_; clear hk; intro a w hk
          refine FW.lfun (y := .lit (.int .i64 v4)) hk rfl rfl rfl rfl (FW.f_move hk (FW.holds_nil _) rfl) ?_; clear hk; intro a w hk
          refine FW.lfun (y := .lit (.int .i64 v4)) hk rfl rfl rfl rfl (FW.f_move hk (FW.holds_nil _) rfl) ?_; clear hk; intro a w hk
          refine FW.lfun (y := .lit (.int .i64 (IntKind.wrap .i64 (v4 + 1)))) hk rfl rfl rfl rfl ((FW.f_pure (FW.p_add hk.kn (FW.holds_nil _) rfl rfl))) ?_; clear hk; intro a w hk
          obtain ⟨hc4, h⟩ := FW.chk h
          refine FW.lfun (y := .lit (.string (FW.B (List.take (Int.toNat (IntKind.wrap .i64 (v4 + 1)) - Int.toNat v4) (List.drop (Int.toNat v4) v0))))) hk rfl rfl rfl rfl ((FW.f_pure (FW.p_slice Go.Proofs.Try.underlying9 hk.kn (FW.holds_nil _) rfl rfl rfl hc4))) ?_; clear hk; intro a w hk
          obtain ⟨hc5, h⟩ := FW.chk h
          refine FW.lfun (y := .lit (.string (FW.B (v3 ++ (List.take (Int.toNat (IntKind.wrap .i64 (v4 + 1)) - Int.toNat v4) (List.drop (Int.toNat v4) v0)))))) hk rfl rfl rfl rfl ((FW.f_pure (FW.p_sadd hk.kn (FW.holds_nil _) rfl rfl hc5))) ?_; clear hk; intro a w hk
          refine FW.lfun (y := .lit (.string (FW.B (v3 ++ (List.take (Int.toNat (IntKind.wrap .i64 (v4 + 1)) - Int.toNat v4) (List.drop (Int.toNat v4) v0)))))) hk rfl rfl rfl rfl (FW.f_assign hk (FW.holds_nil _) rfl) ?_; clear hk; intro a w hk
          refine wpList_nil ?_
          (repeat first | refine FW.then_normal ?_ | refine FW.block_normal ?_); exact hK8 _ _ ⟨v0, (v3 ++ (List.take (Int.toNat (IntKind.wrap .i64 (v4 + 1)) - Int.toNat v4) (List.drop (Int.toNat v4) v0))), v4, hk.sub ⟨rfl, rfl, rfl, trivial⟩, h⟩
      · intro K' hK11
        refine FW.wreg ?_; intro K' hK15
        refine FW.lfun (y := .lit (.int .u8 (FW.bt v0 v4))) hk rfl rfl rfl rfl (FW.f_move hk (FW.holds_nil _) rfl) ?_; clear hk; intro a w hk
        refine FW.lfun (y := .lit (.bool (decide ((FW.bt v0 v4) = 39)))) hk rfl rfl rfl rfl ((FW.f_pure (FW.p_eql hk.kn (FW.holds_nil _) rfl rfl))) ?_; clear hk; intro a w hk
        refine FW.lfun (y := .lit (.bool (decide ((FW.bt v0 v4) = 39)))) hk rfl rfl rfl rfl (FW.f_move hk (FW.holds_nil _) rfl) ?_; clear hk; intro a w hk
        refine FW.lfunG (y := .lit (.int .u8 (FW.bt v0 v4))) hk rfl rfl rfl rfl rfl rfl rfl rfl (fun hc => FW.f_move hk hc rfl) ?_; clear hk; intro a w hk
        refine FW.lfunG (y := .lit (.bool (decide ((FW.bt v0 v4) = 92)))) hk rfl rfl rfl rfl rfl rfl rfl rfl (fun hc => (FW.f_pure (FW.p_eql hk.kn hc rfl rfl))) ?_; clear hk; intro a w hk
        refine FW.lfun (y := .lit (.bool ((decide ((FW.bt v0 v4) = 39)) || (decide ((FW.bt v0 v4) = 92))))) hk rfl rfl rfl rfl ((FW.f_pure (FW.p_pick_or hk.kn (FW.holds_nil _) rfl rfl))) ?_; clear hk; intro a w hk
        refine FW.lend (hK15 _ _ ?_); clear hK15 K'
        refine FW.wcondF (b := ((decide ((FW.bt v0 v4) = 39)) || (decide ((FW.bt v0 v4) = 92)))) hk h rfl (fun h hb => ?_) (fun h hb => ?_)
        · skip
          refine FW.wreg1 ?_
          refine FW.lfun (y := .lit (.string (FW.B v3))) hk rfl rfl rfl rfl (FW.f_move hk (FW.holds_nil _) rfl) ?_; clear hk; intro a w hk
          obtain ⟨hc6, h⟩ := FW.chk h
          refine FW.lfun (y := .lit (.string (FW.B (v3 ++ ([92] : List UInt8))))) hk rfl rfl rfl rfl ((FW.f_pure (FW.p_sadd hk.kn (FW.holds_nil _) rfl rfl hc6))) ?_; clear hk; intro a w hk
          refine FW.lfun (y := .lit (.string (FW.B (v3 ++ ([92] : List UInt8))))) hk rfl rfl rfl rfl (FW.f_assign hk (FW.holds_nil _) rfl) ?_; clear hk; intro a w hk
          refine wpList_nil ?_
          (repeat first | refine FW.then_normal ?_ | refine FW.block_normal ?_); exact hK11 _ _ ⟨v0, (v3 ++ ([92] : List UInt8)), v4, (FW.bt v0 v4), hk.sub ⟨rfl, rfl, rfl, rfl, trivial⟩, h⟩
        · skip
          refine wp_skip ?_
          (repeat first | refine FW.then_normal ?_ | refine FW.block_normal ?_); exact hK11 _ _ ⟨v0, v3, v4, (FW.bt v0 v4), hk.sub ⟨rfl, rfl, rfl, rfl, trivial⟩, h⟩
  · skip
    refine wp_exit ?_; (repeat first | refine FW.then_exit ?_ | refine FW.block_exit_ne rfl ?_); refine FW.block_exit ?_
    (repeat first | refine FW.then_normal ?_ | refine FW.block_normal ?_); refine hK3 _ _ ?_
    refine FW.wreg ?_; intro K' hK17
    refine FW.lfun (y := .lit (.string (FW.B v3))) hk rfl rfl rfl rfl (FW.f_move hk (FW.holds_nil _) rfl) ?_; clear hk; intro a w hk
    obtain ⟨hc7, h⟩ := FW.chk h
    refine FW.lfun (y := .lit (.string (FW.B (v3 ++ ([39] : List UInt8))))) hk rfl rfl rfl rfl ((FW.f_pure (FW.p_sadd hk.kn (FW.holds_nil _) rfl rfl hc7))) ?_; clear hk; intro a w hk
    refine FW.lfun (y := .lit (.string (FW.B (v3 ++ ([39] : List UInt8))))) hk rfl rfl rfl rfl (FW.f_assign hk (FW.holds_nil _) rfl) ?_; clear hk; intro a w hk
    refine FW.lend (hK17 _ _ ?_); clear hK17 K'
    refine wp_ret ?_
    (repeat first | refine FW.then_ret ?_ | refine FW.block_ret ?_)
    obtain rfl := Option.some.inj h
    exact FW.fret1 hk rfl rfl

theorem offshootref13_Values.bok (s_offshootref13_Values : List ApiValue → Option (List UInt8)) (s_offshootref13_Value : ApiValue → Option (List UInt8)) (hs_offshootref13_Values : ∀ (v0 : List ApiValue) (r : List UInt8), s_offshootref13_Values v0 = some r → FW.Ok Go.Proofs.Try.prog 33 [.row (r_ApiValue_cells v0)] (.lit (.string (FW.B r)))) (hs_offshootref13_Value : ∀ (v0 : ApiValue) (r : List UInt8), s_offshootref13_Value v0 = some r → FW.Ok Go.Proofs.Try.prog 16 [.agg (ApiValue.cells v0)] (.lit (.string (FW.B r)))) (K : Nat) (v0 : List ApiValue) (r : List UInt8) (h : offshootref13_Values.b s_offshootref13_Values s_offshootref13_Value K v0 = some r) :
    FW.Ok Go.Proofs.Try.prog 33 [.row (r_ApiValue_cells v0)] (.lit (.string (FW.B r))) := by
  refine FW.enter (xs := [.row (r_ApiValue_cells v0)]) Go.Proofs.Try.func33 rfl Go.Proofs.Try.ntmps33 rfl ?_
  intro M w0 a hk
  unfold offshootref13_Values.b at h
  refine FW.wreg ?_; intro K' hK1
  refine FW.lfun (y := .lit (.string (FW.B ([] : List UInt8)))) hk rfl rfl rfl rfl (FW.f_assign hk (FW.holds_nil _) rfl) ?_; clear hk; intro a w hk
  refine FW.lend (hK1 _ _ ?_); clear hK1 K'
  refine FW.wreg ?_; intro K' hK2
  refine FW.lfun (y := .lit (.string (FW.B ([] : List UInt8)))) hk rfl rfl rfl rfl (FW.f_assign hk (FW.holds_nil _) rfl) ?_; clear hk; intro a w hk
  refine FW.lend (hK2 _ _ ?_); clear hK2 K'
  refine FW.wseq ?_; intro K' hK3
  refine FW.wreg ?_; intro K' hK4
  refine FW.lfun (y := .lit (.int .i64 0)) hk rfl rfl rfl rfl (FW.f_assign hk (FW.holds_nil _) rfl) ?_; clear hk; intro a w hk
  refine FW.lend (hK4 _ _ ?_); clear hK4 K'
  refine wp_block ?_
  refine FW.wloop (T := Nat × List ApiValue × List UInt8 × Int) (fun x a w => match x with | (kl1, v0, v3, v4) => FW.S M w0 a w 23 [] [(0, [], .row (r_ApiValue_cells v0)), (3, [], .lit (.string (FW.B v3))), (4, [], .lit (.int .i64 v4))] ∧ offshootref13_Values.l1 s_offshootref13_Values s_offshootref13_Value K kl1 v0 v3 v4 = some r) (fun x => x.1) (K, v0, ([] : List UInt8), 0) ⟨hk.sub ⟨rfl, rfl, rfl, trivial⟩, h⟩ ?_
  clear hk h
  rintro ⟨kl1, v0, v3, v4⟩ a w ⟨hk, h⟩ K' hK5
  cases kl1 with
  | zero => simp [offshootref13_Values.l1] at h
  | succ kl1 =>
  rw [offshootref13_Values.l1.eq_2] at h
  refine FW.wseq ?_; intro K' hK6
  refine FW.wreg ?_; intro K' hK7
  refine FW.lfun (y := .lit (.int .i64 v4)) hk rfl rfl rfl rfl (FW.f_move hk (FW.holds_nil _) rfl) ?_; clear hk; intro a w hk
  refine FW.lfun (y := .row (r_ApiValue_cells v0)) hk rfl rfl rfl rfl (FW.f_move hk (FW.holds_nil _) rfl) ?_; clear hk; intro a w hk
  refine FW.lfun (y := .lit (.int .i64 (List.length v0 : Int))) hk rfl rfl rfl rfl (FW.f_len (R := r_ApiValue_cells) (f := ApiValue.cells) (l := v0) r_ApiValue_cells_eq Go.Proofs.Try.underlying31 hk (FW.holds_nil _) rfl) ?_; clear hk; intro a w hk
  refine FW.lfun (y := .lit (.bool (decide (v4 < (List.length v0 : Int))))) hk rfl rfl rfl rfl ((FW.f_pure (FW.p_lss hk.kn (FW.holds_nil _) rfl rfl))) ?_; clear hk; intro a w hk
  refine FW.lend (hK7 _ _ ?_); clear hK7 K'
  refine FW.wcondF (b := (decide (v4 < (List.length v0 : Int)))) hk h rfl (fun h hb => ?_) (fun h hb => ?_)
  · skip
    refine wp_skip ?_
    (repeat first | refine FW.then_normal ?_ | refine FW.block_normal ?_); refine hK6 _ _ ?_
    refine FW.wseq ?_; intro K' hK8
    refine wp_block ?_
    refine FW.wseqJ (fun a w => ∃ (v0 : List ApiValue) (v3 : List UInt8) (v4 : Int), FW.S M w0 a w 23 [] [(0, [], .row (r_ApiValue_cells v0)), (3, [], .lit (.string (FW.B v3))), (4, [], .lit (.int .i64 v4))] ∧ offshootref13_Values.j1 s_offshootref13_Values s_offshootref13_Value (offshootref13_Values.l1 s_offshootref13_Values s_offshootref13_Value K kl1) K v0 v3 v4 = some r) ?_ ?_
    · clear hk h
      rintro a w ⟨v0, v3, v4, hk, h⟩
      unfold offshootref13_Values.j1 at h
      refine FW.wreg1 ?_
      refine FW.lfun (y := .lit (.string (FW.B v3))) hk rfl rfl rfl rfl (FW.f_move hk (FW.holds_nil _) rfl) ?_; clear hk; intro a w hk
      refine FW.lfun (y := .row (r_ApiValue_cells v0)) hk rfl rfl rfl rfl (FW.f_move hk (FW.holds_nil _) rfl) ?_; clear hk; intro a w hk
      refine FW.lfun (y := .lit (.int .i64 v4)) hk rfl rfl rfl rfl (FW.f_move hk (FW.holds_nil _) rfl) ?_; clear hk; intro a w hk
      obtain ⟨hc1, h⟩ := FW.chk h
      refine FW.lfun (y := .ref (ApiValue.cells (List.getD v0 (Int.toNat v4) default))) hk rfl rfl rfl rfl (FW.f_indexAddr (R := r_ApiValue_cells) (f := ApiValue.cells) (l := v0) (sz := 6) r_ApiValue_cells_eq (fun _ => rfl) hk (FW.holds_nil _) rfl rfl Go.Proofs.Try.underlying31 (by kernel_rfl) hc1) ?_; clear hk; intro a w hk
      refine FW.lfun (y := .agg ((ApiValue.cells (List.getD v0 (Int.toNat v4) default)))) hk rfl rfl rfl rfl (FW.f_load hk (FW.holds_nil _) rfl Go.Proofs.Try.underlying33 rfl rfl rfl rfl) ?_; clear hk; intro a w hk
      obtain ⟨t1, hr_t1, h⟩ := FW.bnd h
      refine FW.lfun (y := .lit (.string (FW.B t1))) hk rfl rfl rfl rfl (FW.f_call hk (FW.holds_nil _) rfl rfl Go.Proofs.Try.func16 rfl (by kernel_rfl) (hs_offshootref13_Value (List.getD v0 (Int.toNat v4) default) _ hr_t1)) ?_; clear hk; intro a w hk
      obtain ⟨hc2, h⟩ := FW.chk h
      refine FW.lfun (y := .lit (.string (FW.B (v3 ++ t1)))) hk rfl rfl rfl rfl ((FW.f_pure (FW.p_sadd hk.kn (FW.holds_nil _) rfl rfl hc2))) ?_; clear hk; intro a w hk
      refine FW.lfun (y := .lit (.string (FW.B (v3 ++ t1)))) hk rfl rfl rfl rfl (FW.f_assign hk (FW.holds_nil _) rfl) ?_; clear hk; intro a w hk
      refine wpList_nil ?_
      (repeat first | refine FW.then_normal ?_ | refine FW.block_normal ?_); refine hK8 _ _ ?_
      refine FW.wreg1 ?_
      refine FW.lfun (y := .lit (.int .i64 v4)) hk rfl rfl rfl rfl (FW.f_move hk (FW.holds_nil _) rfl) ?_; clear hk; intro a w hk
      refine FW.lfun (y := .lit (.int .i64 (IntKind.wrap .i64 (v4 + 1)))) hk rfl rfl rfl rfl ((FW.f_pure (FW.p_add hk.kn (FW.holds_nil _) rfl rfl))) ?_; clear hk; intro a w hk
      refine FW.lfun (y := .lit (.int .i64 (IntKind.wrap .i64 (v4 + 1)))) hk rfl rfl rfl rfl (FW.f_assign hk (FW.holds_nil _) rfl) ?_; clear hk; intro a w hk
      refine wpList_nil ?_
      (repeat first | refine FW.then_normal ?_ | refine FW.block_normal ?_); exact hK5 (kl1, v0, (v3 ++ t1), (IntKind.wrap .i64 (v4 + 1))) _ _ (Nat.lt_succ_self _) ⟨hk.sub ⟨rfl, rfl, rfl, trivial⟩, h⟩
    · intro K' hK9
      refine FW.wreg ?_; intro K' hK12
      refine FW.lfun (y := .lit (.int .i64 v4)) hk rfl rfl rfl rfl (FW.f_move hk (FW.holds_nil _) rfl) ?_; clear hk; intro a w hk
      refine FW.lfun (y := .lit (.bool (decide (0 < v4)))) hk rfl rfl rfl rfl ((FW.f_pure (FW.p_gtr hk.kn (FW.holds_nil _) rfl rfl))) ?_; clear hk; intro a w hk
      refine FW.lend (hK12 _ _ ?_); clear hK12 K'
      refine FW.wcondF (b := (decide (0 < v4))) hk h rfl (fun h hb => ?_) (fun h hb => ?_)
      · skip
        refine FW.wreg1 ?_
        refine FW.lfun (y := .lit (.string (FW.B v3))) hk rfl rfl rfl rfl (FW.f_move hk (FW.holds_nil _) rfl) ?_; clear hk; intro a w hk
        obtain ⟨hc3, h⟩ := FW.chk h
        refine FW.lfun (y := .lit (.string (FW.B (v3 ++ ([44, 32] : List UInt8))))) hk rfl rfl rfl rfl ((FW.f_pure (FW.p_sadd hk.kn (FW.holds_nil _) rfl rfl hc3))) ?_; clear hk; intro a w hk
        refine FW.lfun (y := .lit (.string (FW.B (v3 ++ ([44, 32] : List UInt8))))) hk rfl rfl rfl rfl (FW.f_assign hk (FW.holds_nil _) rfl) ?_; clear hk; intro a w hk
        refine wpList_nil ?_
        (repeat first | refine FW.then_normal ?_ | refine FW.block_normal ?_); exact hK9 _ _ ⟨v0, (v3 ++ ([44, 32] : List UInt8)), v4, hk.sub ⟨rfl, rfl, rfl, trivial⟩, h⟩
      · skip
        refine wp_skip ?_
        (repeat first | refine FW.then_normal ?_ | refine FW.block_normal ?_); exact hK9 _ _ ⟨v0, v3, v4, hk.sub ⟨rfl, rfl, rfl, trivial⟩, h⟩
  · skip
    refine wp_exit ?_; (repeat first | refine FW.then_exit ?_ | refine FW.block_exit_ne rfl ?_); refine FW.block_exit ?_
    (repeat first | refine FW.then_normal ?_ | refine FW.block_normal ?_); refine hK3 _ _ ?_
    refine FW.wreg ?_; intro K' hK14
    refine FW.lfun (y := .lit (.string (FW.B v3))) hk rfl rfl rfl rfl (FW.f_move hk (FW.holds_nil _) rfl) ?_; clear hk; intro a w hk
    refine FW.lfun (y := .lit (.string (FW.B v3))) hk rfl rfl rfl rfl (FW.f_assign hk (FW.holds_nil _) rfl) ?_; clear hk; intro a w hk
    refine FW.lend (hK14 _ _ ?_); clear hK14 K'
    refine wp_ret ?_
    (repeat first | refine FW.then_ret ?_ | refine FW.block_ret ?_)
    obtain rfl := Option.some.inj h
    exact FW.fret1 hk rfl rfl
theorem offshootref13_Value.bok (s_offshootref13_Values : List ApiValue → Option (List UInt8)) (s_offshootref13_Value : ApiValue → Option (List UInt8)) (hs_offshootref13_Values : ∀ (v0 : List ApiValue) (r : List UInt8), s_offshootref13_Values v0 = some r → FW.Ok Go.Proofs.Try.prog 33 [.row (r_ApiValue_cells v0)] (.lit (.string (FW.B r)))) (hs_offshootref13_Value : ∀ (v0 : ApiValue) (r : List UInt8), s_offshootref13_Value v0 = some r → FW.Ok Go.Proofs.Try.prog 16 [.agg (ApiValue.cells v0)] (.lit (.string (FW.B r)))) (K : Nat) (v0 : ApiValue) (r : List UInt8) (h : offshootref13_Value.b s_offshootref13_Values s_offshootref13_Value K v0 = some r) :
    FW.Ok Go.Proofs.Try.prog 16 [.agg (ApiValue.cells v0)] (.lit (.string (FW.B r))) := by
  refine FW.enter (xs := [.agg (ApiValue.cells v0)]) Go.Proofs.Try.func16 rfl Go.Proofs.Try.ntmps16 rfl ?_
  intro M w0 a hk
  unfold offshootref13_Value.b at h
  refine FW.wreg ?_; intro K' hK1
  refine FW.l_box (cs := (ApiValue.cells v0)) hk rfl rfl rfl rfl rfl ?_; clear hk; intro b1 a w hk
  refine FW.lfun (y := .lit (.string (FW.B ([] : List UInt8)))) hk rfl rfl rfl rfl (FW.f_assign hk (FW.holds_nil _) rfl) ?_; clear hk; intro a w hk
  refine FW.lend (hK1 _ _ ?_); clear hK1 K'
  refine FW.wseq ?_; intro K' hK2
  refine FW.wreg ?_; intro K' hK3
  refine FW.lfun (y := .lit (.pointer (some ⟨b1, 0, none⟩))) hk rfl rfl rfl rfl (FW.f_fieldPtr hk (FW.holds_nil _) rfl Go.Proofs.Try.underlying33 rfl (by kernel_rfl) rfl) ?_; clear hk; intro a w hk
  refine FW.lfun (y := .lit (.int .i64 v0.Kind)) hk rfl rfl rfl rfl (FW.f_loadBlk1 hk (FW.holds_nil _) (j := 0) rfl rfl Go.Proofs.Try.underlying3 rfl rfl) ?_; clear hk; intro a w hk
  refine FW.lend (hK3 _ _ ?_); clear hK3 K'
  refine wp_block ?_
  refine FW.wreg ?_; intro K' hK4
  refine FW.lfun (y := .lit (.bool (decide (v0.Kind = 0)))) hk rfl rfl rfl rfl ((FW.f_pure (FW.p_eql hk.kn (FW.holds_nil _) rfl rfl))) ?_; clear hk; intro a w hk
  refine FW.lfun (y := .lit (.bool (decide (v0.Kind = 0)))) hk rfl rfl rfl rfl (FW.f_assign hk (FW.holds_nil _) rfl) ?_; clear hk; intro a w hk
  refine FW.lend (hK4 _ _ ?_); clear hK4 K'
  refine FW.wcondF (b := (decide (v0.Kind = 0))) hk h rfl (fun h hb => ?_) (fun h hb => ?_)
  · skip
    refine FW.wreg ?_; intro K' hK5
    refine FW.lfun (y := .lit (.string (FW.B ([110, 117, 108, 108] : List UInt8)))) hk rfl rfl rfl rfl (FW.f_assign hk (FW.holds_nil _) rfl) ?_; clear hk; intro a w hk
    refine FW.lend (hK5 _ _ ?_); clear hK5 K'
    refine wp_ret ?_
    (repeat first | refine FW.then_ret ?_ | refine FW.block_ret ?_)
    obtain rfl := Option.some.inj h
    exact FW.fret1 hk rfl rfl
  · skip
    refine FW.wreg ?_; intro K' hK6
    refine FW.lfun (y := .lit (.bool (decide (v0.Kind = 1)))) hk rfl rfl rfl rfl ((FW.f_pure (FW.p_eql hk.kn (FW.holds_nil _) rfl rfl))) ?_; clear hk; intro a w hk
    refine FW.lfun (y := .lit (.bool (decide (v0.Kind = 1)))) hk rfl rfl rfl rfl (FW.f_assign hk (FW.holds_nil _) rfl) ?_; clear hk; intro a w hk
    refine FW.lend (hK6 _ _ ?_); clear hK6 K'
    refine FW.wcondF (b := (decide (v0.Kind = 1))) hk h rfl (fun h hb => ?_) (fun h hb => ?_)
    · skip
      refine FW.wseq ?_; intro K' hK7
      refine FW.wreg ?_; intro K' hK8
      refine FW.lfun (y := .lit (.pointer (some ⟨b1, 1, none⟩))) hk rfl rfl rfl rfl (FW.f_fieldPtr hk (FW.holds_nil _) rfl Go.Proofs.Try.underlying33 rfl (by kernel_rfl) rfl) ?_; clear hk; intro a w hk
      refine FW.lfun (y := .lit (.bool v0.B)) hk rfl rfl rfl rfl (FW.f_loadBlk1 hk (FW.holds_nil _) (j := 0) rfl rfl Go.Proofs.Try.underlying4 rfl rfl) ?_; clear hk; intro a w hk
      refine FW.lend (hK8 _ _ ?_); clear hK8 K'
      refine FW.wcondF (b := v0.B) hk h rfl (fun h hb => ?_) (fun h hb => ?_)
      · skip
        refine FW.wreg ?_; intro K' hK9
        refine FW.lfun (y := .lit (.string (FW.B ([116, 114, 117, 101] : List UInt8)))) hk rfl rfl rfl rfl (FW.f_assign hk (FW.holds_nil _) rfl) ?_; clear hk; intro a w hk
        refine FW.lend (hK9 _ _ ?_); clear hK9 K'
        refine wp_ret ?_
        (repeat first | refine FW.then_ret ?_ | refine FW.block_ret ?_)
        obtain rfl := Option.some.inj h
        exact FW.fret1 hk rfl rfl
      · skip
        refine wp_skip ?_
        (repeat first | refine FW.then_normal ?_ | refine FW.block_normal ?_); refine hK7 _ _ ?_
        refine FW.wreg ?_; intro K' hK10
        refine FW.lfun (y := .lit (.string (FW.B ([102, 97, 108, 115, 101] : List UInt8)))) hk rfl rfl rfl rfl (FW.f_assign hk (FW.holds_nil _) rfl) ?_; clear hk; intro a w hk
        refine FW.lend (hK10 _ _ ?_); clear hK10 K'
        refine wp_ret ?_
        (repeat first | refine FW.then_ret ?_ | refine FW.block_ret ?_)
        obtain rfl := Option.some.inj h
        exact FW.fret1 hk rfl rfl
    · skip
      refine FW.wreg ?_; intro K' hK11
      refine FW.lfun (y := .lit (.bool (decide (v0.Kind = 2)))) hk rfl rfl rfl rfl ((FW.f_pure (FW.p_eql hk.kn (FW.holds_nil _) rfl rfl))) ?_; clear hk; intro a w hk
      refine FW.lfun (y := .lit (.bool (decide (v0.Kind = 2)))) hk rfl rfl rfl rfl (FW.f_assign hk (FW.holds_nil _) rfl) ?_; clear hk; intro a w hk
      refine FW.lend (hK11 _ _ ?_); clear hK11 K'
      refine FW.wcondF (b := (decide (v0.Kind = 2))) hk h rfl (fun h hb => ?_) (fun h hb => ?_)
      · skip
        refine FW.wreg ?_; intro K' hK12
        refine FW.lfun (y := .lit (.pointer (some ⟨b1, 2, none⟩))) hk rfl rfl rfl rfl (FW.f_fieldPtr hk (FW.holds_nil _) rfl Go.Proofs.Try.underlying33 rfl (by kernel_rfl) rfl) ?_; clear hk; intro a w hk
        refine FW.lfun (y := .lit (.int .i64 v0.N)) hk rfl rfl rfl rfl (FW.f_loadBlk1 hk (FW.holds_nil _) (j := 0) rfl rfl Go.Proofs.Try.underlying2 rfl rfl) ?_; clear hk; intro a w hk
        obtain ⟨t1, hr_t1, h⟩ := FW.bnd h
        refine FW.lfun (y := .lit (.string (FW.B t1))) hk rfl rfl rfl rfl (FW.f_call hk (FW.holds_nil _) rfl rfl Go.Proofs.Try.func38 rfl (by kernel_rfl) (offshootref13_Number.ok K v0.N _ hr_t1)) ?_; clear hk; intro a w hk
        refine FW.lfun (y := .lit (.string (FW.B t1))) hk rfl rfl rfl rfl (FW.f_assign hk (FW.holds_nil _) rfl) ?_; clear hk; intro a w hk
        refine FW.lend (hK12 _ _ ?_); clear hK12 K'
        refine wp_ret ?_
        (repeat first | refine FW.then_ret ?_ | refine FW.block_ret ?_)
        obtain rfl := Option.some.inj h
        exact FW.fret1 hk rfl rfl
      · skip
        refine FW.wreg ?_; intro K' hK13
        refine FW.lfun (y := .lit (.bool (decide (v0.Kind = 3)))) hk rfl rfl rfl rfl ((FW.f_pure (FW.p_eql hk.kn (FW.holds_nil _) rfl rfl))) ?_; clear hk; intro a w hk
        refine FW.lfun (y := .lit (.bool (decide (v0.Kind = 3)))) hk rfl rfl rfl rfl (FW.f_assign hk (FW.holds_nil _) rfl) ?_; clear hk; intro a w hk
        refine FW.lend (hK13 _ _ ?_); clear hK13 K'
        refine FW.wcondF (b := (decide (v0.Kind = 3))) hk h rfl (fun h hb => ?_) (fun h hb => ?_)
        · skip
          refine FW.wreg ?_; intro K' hK14
          refine FW.lfun (y := .lit (.pointer (some ⟨b1, 3, none⟩))) hk rfl rfl rfl rfl (FW.f_fieldPtr hk (FW.holds_nil _) rfl Go.Proofs.Try.underlying33 rfl (by kernel_rfl) rfl) ?_; clear hk; intro a w hk
          refine FW.lfun (y := .lit (.float .f64 v0.F)) hk rfl rfl rfl rfl (FW.f_loadBlk1 hk (FW.holds_nil _) (j := 0) rfl rfl Go.Proofs.Try.underlying30 rfl rfl) ?_; clear hk; intro a w hk
          obtain ⟨t2, hr_t2, h⟩ := FW.bnd h
          refine FW.lfun (y := .lit (.int .u64 t2)) hk rfl rfl rfl rfl (FW.f_call hk (FW.holds_nil _) rfl rfl Go.Proofs.Try.func26 rfl (by kernel_rfl) (offshootref01_Canon.ok v0.F _ hr_t2)) ?_; clear hk; intro a w hk
          obtain ⟨t3, hr_t3, h⟩ := FW.bnd h
          refine FW.lfun (y := .lit (.string (FW.B t3))) hk rfl rfl rfl rfl (FW.f_call hk (FW.holds_nil _) rfl rfl Go.Proofs.Try.func36 rfl (by kernel_rfl) (offshootref02_Eight.ok K t2 _ hr_t3)) ?_; clear hk; intro a w hk
          refine FW.lfun (y := .lit (.string (FW.B t3))) hk rfl rfl rfl rfl (FW.f_assign hk (FW.holds_nil _) rfl) ?_; clear hk; intro a w hk
          refine FW.lfun (y := .lit (.string (FW.B ([] : List UInt8)))) hk rfl rfl rfl rfl (FW.f_assign hk (FW.holds_nil _) rfl) ?_; clear hk; intro a w hk
          refine FW.lend (hK14 _ _ ?_); clear hK14 K'
          refine FW.wseq ?_; intro K' hK15
          refine FW.wreg ?_; intro K' hK16
          refine FW.lfun (y := .lit (.int .i64 0)) hk rfl rfl rfl rfl (FW.f_assign hk (FW.holds_nil _) rfl) ?_; clear hk; intro a w hk
          refine FW.lend (hK16 _ _ ?_); clear hK16 K'
          refine wp_block ?_
          refine FW.wloop (T := Nat × List UInt8 × List UInt8 × Int) (fun x a w => match x with | (kl1, v3, v4, v5) => FW.S M w0 a w 71 [] [(3, [], .lit (.string (FW.B v3))), (4, [], .lit (.string (FW.B v4))), (5, [], .lit (.int .i64 v5))] ∧ offshootref13_Value.l1 s_offshootref13_Values s_offshootref13_Value K kl1 v3 v4 v5 = some r) (fun x => x.1) (K, t3, ([] : List UInt8), 0) ⟨(hk.drop 0).sub ⟨rfl, rfl, rfl, trivial⟩, h⟩ ?_
          clear hk h
          rintro ⟨kl1, v3, v4, v5⟩ a w ⟨hk, h⟩ K' hK17
          cases kl1 with
          | zero => simp [offshootref13_Value.l1] at h
          | succ kl1 =>
          rw [offshootref13_Value.l1.eq_2] at h
          refine FW.wseq ?_; intro K' hK18
          refine FW.wreg ?_; intro K' hK19
          refine FW.lfun (y := .lit (.int .i64 v5)) hk rfl rfl rfl rfl (FW.f_move hk (FW.holds_nil _) rfl) ?_; clear hk; intro a w hk
          refine FW.lfun (y := .lit (.bool (decide (v5 < 8)))) hk rfl rfl rfl rfl ((FW.f_pure (FW.p_lss hk.kn (FW.holds_nil _) rfl rfl))) ?_; clear hk; intro a w hk
          refine FW.lend (hK19 _ _ ?_); clear hK19 K'
          refine FW.wcondF (b := (decide (v5 < 8))) hk h rfl (fun h hb => ?_) (fun h hb => ?_)
          · skip
            refine wp_skip ?_
            (repeat first | refine FW.then_normal ?_ | refine FW.block_normal ?_); refine hK18 _ _ ?_
            refine FW.wseq ?_; intro K' hK20
            refine wp_block ?_
            refine FW.wreg1 ?_
            refine FW.lfun (y := .lit (.string (FW.B v4))) hk rfl rfl rfl rfl (FW.f_move hk (FW.holds_nil _) rfl) ?_; clear hk; intro a w hk
            refine FW.lfun (y := .lit (.string (FW.B v3))) hk rfl rfl rfl rfl (FW.f_move hk (FW.holds_nil _) rfl) ?_; clear hk; intro a w hk
            refine FW.lfun (y := .lit (.int .i64 v5)) hk rfl rfl rfl rfl (FW.f_move hk (FW.holds_nil _) rfl) ?_; clear hk; intro a w hk
            obtain ⟨hc1, h⟩ := FW.chk h
            refine FW.lfun (y := .lit (.int .u8 (FW.bt v3 v5))) hk rfl rfl rfl rfl ((FW.f_pure (FW.p_index Go.Proofs.Try.underlying9 hk.kn (FW.holds_nil _) rfl rfl hc1))) ?_; clear hk; intro a w hk
            obtain ⟨t4, hr_t4, h⟩ := FW.bnd h
            refine FW.lfun (y := .lit (.string (FW.B t4))) hk rfl rfl rfl rfl (FW.f_call hk (FW.holds_nil _) rfl rfl Go.Proofs.Try.func39 rfl (by kernel_rfl) (offshootref13_hex.ok (FW.bt v3 v5) _ hr_t4)) ?_; clear hk; intro a w hk
            obtain ⟨hc2, h⟩ := FW.chk h
            refine FW.lfun (y := .lit (.string (FW.B (v4 ++ t4)))) hk rfl rfl rfl rfl ((FW.f_pure (FW.p_sadd hk.kn (FW.holds_nil _) rfl rfl hc2))) ?_; clear hk; intro a w hk
            refine FW.lfun (y := .lit (.string (FW.B (v4 ++ t4)))) hk rfl rfl rfl rfl (FW.f_assign hk (FW.holds_nil _) rfl) ?_; clear hk; intro a w hk
            refine wpList_nil ?_
            (repeat first | refine FW.then_normal ?_ | refine FW.block_normal ?_); refine hK20 _ _ ?_
            refine FW.wreg1 ?_
            refine FW.lfun (y := .lit (.int .i64 v5)) hk rfl rfl rfl rfl (FW.f_move hk (FW.holds_nil _) rfl) ?_; clear hk; intro a w hk
            refine FW.lfun (y := .lit (.int .i64 (IntKind.wrap .i64 (v5 + 1)))) hk rfl rfl rfl rfl ((FW.f_pure (FW.p_add hk.kn (FW.holds_nil _) rfl rfl))) ?_; clear hk; intro a w hk
            refine FW.lfun (y := .lit (.int .i64 (IntKind.wrap .i64 (v5 + 1)))) hk rfl rfl rfl rfl (FW.f_assign hk (FW.holds_nil _) rfl) ?_; clear hk; intro a w hk
            refine wpList_nil ?_
            (repeat first | refine FW.then_normal ?_ | refine FW.block_normal ?_); exact hK17 (kl1, v3, (v4 ++ t4), (IntKind.wrap .i64 (v5 + 1))) _ _ (Nat.lt_succ_self _) ⟨hk.sub ⟨rfl, rfl, rfl, trivial⟩, h⟩
          · skip
            refine wp_exit ?_; (repeat first | refine FW.then_exit ?_ | refine FW.block_exit_ne rfl ?_); refine FW.block_exit ?_
            (repeat first | refine FW.then_normal ?_ | refine FW.block_normal ?_); refine hK15 _ _ ?_
            refine FW.wreg ?_; intro K' hK23
            refine FW.lfun (y := .lit (.string (FW.B v4))) hk rfl rfl rfl rfl (FW.f_move hk (FW.holds_nil _) rfl) ?_; clear hk; intro a w hk
            obtain ⟨hc3, h⟩ := FW.chk h
            refine FW.lfun (y := .lit (.string (FW.B (([102, 39] : List UInt8) ++ v4)))) hk rfl rfl rfl rfl ((FW.f_pure (FW.p_sadd hk.kn (FW.holds_nil _) rfl rfl hc3))) ?_; clear hk; intro a w hk
            obtain ⟨hc4, h⟩ := FW.chk h
            refine FW.lfun (y := .lit (.string (FW.B ((([102, 39] : List UInt8) ++ v4) ++ ([39] : List UInt8))))) hk rfl rfl rfl rfl ((FW.f_pure (FW.p_sadd hk.kn (FW.holds_nil _) rfl rfl hc4))) ?_; clear hk; intro a w hk
            refine FW.lfun (y := .lit (.string (FW.B ((([102, 39] : List UInt8) ++ v4) ++ ([39] : List UInt8))))) hk rfl rfl rfl rfl (FW.f_assign hk (FW.holds_nil _) rfl) ?_; clear hk; intro a w hk
            refine FW.lend (hK23 _ _ ?_); clear hK23 K'
            refine wp_ret ?_
            (repeat first | refine FW.then_ret ?_ | refine FW.block_ret ?_)
            obtain rfl := Option.some.inj h
            exact FW.fret1 hk rfl rfl
        · skip
          refine FW.wreg ?_; intro K' hK24
          refine FW.lfun (y := .lit (.bool (decide (v0.Kind = 4)))) hk rfl rfl rfl rfl ((FW.f_pure (FW.p_eql hk.kn (FW.holds_nil _) rfl rfl))) ?_; clear hk; intro a w hk
          refine FW.lfun (y := .lit (.bool (decide (v0.Kind = 4)))) hk rfl rfl rfl rfl (FW.f_assign hk (FW.holds_nil _) rfl) ?_; clear hk; intro a w hk
          refine FW.lend (hK24 _ _ ?_); clear hK24 K'
          refine FW.wcondF (b := (decide (v0.Kind = 4))) hk h rfl (fun h hb => ?_) (fun h hb => ?_)
          · skip
            refine FW.wreg ?_; intro K' hK25
            refine FW.lfun (y := .lit (.pointer (some ⟨b1, 4, none⟩))) hk rfl rfl rfl rfl (FW.f_fieldPtr hk (FW.holds_nil _) rfl Go.Proofs.Try.underlying33 rfl (by kernel_rfl) rfl) ?_; clear hk; intro a w hk
            refine FW.lfun (y := .lit (.string (FW.B v0.S))) hk rfl rfl rfl rfl (FW.f_loadBlk1 hk (FW.holds_nil _) (j := 0) rfl rfl Go.Proofs.Try.underlying9 rfl rfl) ?_; clear hk; intro a w hk
            obtain ⟨t5, hr_t5, h⟩ := FW.bnd h
            refine FW.lfun (y := .lit (.string (FW.B t5))) hk rfl rfl rfl rfl (FW.f_call hk (FW.holds_nil _) rfl rfl Go.Proofs.Try.func40 rfl (by kernel_rfl) (offshootref13_Text.ok K v0.S _ hr_t5)) ?_; clear hk; intro a w hk
            refine FW.lfun (y := .lit (.string (FW.B t5))) hk rfl rfl rfl rfl (FW.f_assign hk (FW.holds_nil _) rfl) ?_; clear hk; intro a w hk
            refine FW.lend (hK25 _ _ ?_); clear hK25 K'
            refine wp_ret ?_
            (repeat first | refine FW.then_ret ?_ | refine FW.block_ret ?_)
            obtain rfl := Option.some.inj h
            exact FW.fret1 hk rfl rfl
          · skip
            refine FW.wreg ?_; intro K' hK26
            refine FW.lfun (y := .lit (.bool (decide (v0.Kind = 5)))) hk rfl rfl rfl rfl ((FW.f_pure (FW.p_eql hk.kn (FW.holds_nil _) rfl rfl))) ?_; clear hk; intro a w hk
            refine FW.lfun (y := .lit (.bool (decide (v0.Kind = 5)))) hk rfl rfl rfl rfl (FW.f_assign hk (FW.holds_nil _) rfl) ?_; clear hk; intro a w hk
            refine FW.lend (hK26 _ _ ?_); clear hK26 K'
            refine FW.wcondF (b := (decide (v0.Kind = 5))) hk h rfl (fun h hb => ?_) (fun h hb => ?_)
            · skip
              refine FW.wreg ?_; intro K' hK27
              refine FW.lfun (y := .lit (.pointer (some ⟨b1, 5, none⟩))) hk rfl rfl rfl rfl (FW.f_fieldPtr hk (FW.holds_nil _) rfl Go.Proofs.Try.underlying33 rfl (by kernel_rfl) rfl) ?_; clear hk; intro a w hk
              refine FW.lfun (y := .row (r_ApiValue_cells v0.L)) hk rfl rfl rfl rfl (FW.f_loadBlk1 hk (FW.holds_nil _) (j := 0) rfl rfl Go.Proofs.Try.underlying31 rfl rfl) ?_; clear hk; intro a w hk
              obtain ⟨t6, hr_t6, h⟩ := FW.bnd h
              refine FW.lfun (y := .lit (.string (FW.B t6))) hk rfl rfl rfl rfl (FW.f_call hk (FW.holds_nil _) rfl rfl Go.Proofs.Try.func33 rfl (by kernel_rfl) (hs_offshootref13_Values v0.L _ hr_t6)) ?_; clear hk; intro a w hk
              obtain ⟨hc5, h⟩ := FW.chk h
              refine FW.lfun (y := .lit (.string (FW.B (([91] : List UInt8) ++ t6)))) hk rfl rfl rfl rfl ((FW.f_pure (FW.p_sadd hk.kn (FW.holds_nil _) rfl rfl hc5))) ?_; clear hk; intro a w hk
              obtain ⟨hc6, h⟩ := FW.chk h
              refine FW.lfun (y := .lit (.string (FW.B ((([91] : List UInt8) ++ t6) ++ ([93] : List UInt8))))) hk rfl rfl rfl rfl ((FW.f_pure (FW.p_sadd hk.kn (FW.holds_nil _) rfl rfl hc6))) ?_; clear hk; intro a w hk
              refine FW.lfun (y := .lit (.string (FW.B ((([91] : List UInt8) ++ t6) ++ ([93] : List UInt8))))) hk rfl rfl rfl rfl (FW.f_assign hk (FW.holds_nil _) rfl) ?_; clear hk; intro a w hk
              refine FW.lend (hK27 _ _ ?_); clear hK27 K'
              refine wp_ret ?_
              (repeat first | refine FW.then_ret ?_ | refine FW.block_ret ?_)
              obtain rfl := Option.some.inj h
              exact FW.fret1 hk rfl rfl
            · skip
              refine FW.wreg ?_; intro K' hK28
              refine FW.lfun (y := .lit (.bool (decide (v0.Kind = 6)))) hk rfl rfl rfl rfl ((FW.f_pure (FW.p_eql hk.kn (FW.holds_nil _) rfl rfl))) ?_; clear hk; intro a w hk
              refine FW.lfun (y := .lit (.bool (decide (v0.Kind = 6)))) hk rfl rfl rfl rfl (FW.f_assign hk (FW.holds_nil _) rfl) ?_; clear hk; intro a w hk
              refine FW.lend (hK28 _ _ ?_); clear hK28 K'
              refine FW.wcondF (b := (decide (v0.Kind = 6))) hk h rfl (fun h hb => ?_) (fun h hb => ?_)
              · skip
                refine FW.wreg ?_; intro K' hK29
                refine FW.lfun (y := .lit (.pointer (some ⟨b1, 5, none⟩))) hk rfl rfl rfl rfl (FW.f_fieldPtr hk (FW.holds_nil _) rfl Go.Proofs.Try.underlying33 rfl (by kernel_rfl) rfl) ?_; clear hk; intro a w hk
                refine FW.lfun (y := .row (r_ApiValue_cells v0.L)) hk rfl rfl rfl rfl (FW.f_loadBlk1 hk (FW.holds_nil _) (j := 0) rfl rfl Go.Proofs.Try.underlying31 rfl rfl) ?_; clear hk; intro a w hk
                obtain ⟨t7, hr_t7, h⟩ := FW.bnd h
                refine FW.lfun (y := .lit (.string (FW.B t7))) hk rfl rfl rfl rfl (FW.f_call hk (FW.holds_nil _) rfl rfl Go.Proofs.Try.func33 rfl (by kernel_rfl) (hs_offshootref13_Values v0.L _ hr_t7)) ?_; clear hk; intro a w hk
                obtain ⟨hc7, h⟩ := FW.chk h
                refine FW.lfun (y := .lit (.string (FW.B (([123] : List UInt8) ++ t7)))) hk rfl rfl rfl rfl ((FW.f_pure (FW.p_sadd hk.kn (FW.holds_nil _) rfl rfl hc7))) ?_; clear hk; intro a w hk
                obtain ⟨hc8, h⟩ := FW.chk h
                refine FW.lfun (y := .lit (.string (FW.B ((([123] : List UInt8) ++ t7) ++ ([125] : List UInt8))))) hk rfl rfl rfl rfl ((FW.f_pure (FW.p_sadd hk.kn (FW.holds_nil _) rfl rfl hc8))) ?_; clear hk; intro a w hk
                refine FW.lfun (y := .lit (.string (FW.B ((([123] : List UInt8) ++ t7) ++ ([125] : List UInt8))))) hk rfl rfl rfl rfl (FW.f_assign hk (FW.holds_nil _) rfl) ?_; clear hk; intro a w hk
                refine FW.lend (hK29 _ _ ?_); clear hK29 K'
                refine wp_ret ?_
                (repeat first | refine FW.then_ret ?_ | refine FW.block_ret ?_)
                obtain rfl := Option.some.inj h
                exact FW.fret1 hk rfl rfl
              · skip
                refine FW.wreg ?_; intro K' hK30
                refine FW.lfun (y := .lit (.bool (decide (v0.Kind = 7)))) hk rfl rfl rfl rfl ((FW.f_pure (FW.p_eql hk.kn (FW.holds_nil _) rfl rfl))) ?_; clear hk; intro a w hk
                refine FW.lfun (y := .lit (.bool (decide (v0.Kind = 7)))) hk rfl rfl rfl rfl (FW.f_assign hk (FW.holds_nil _) rfl) ?_; clear hk; intro a w hk
                refine FW.lend (hK30 _ _ ?_); clear hK30 K'
                refine FW.wcondF (b := (decide (v0.Kind = 7))) hk h rfl (fun h hb => ?_) (fun h hb => ?_)
                · skip
                  refine FW.wreg ?_; intro K' hK31
                  refine FW.lfun (y := .lit (.pointer (some ⟨b1, 2, none⟩))) hk rfl rfl rfl rfl (FW.f_fieldPtr hk (FW.holds_nil _) rfl Go.Proofs.Try.underlying33 rfl (by kernel_rfl) rfl) ?_; clear hk; intro a w hk
                  refine FW.lfun (y := .lit (.int .i64 v0.N)) hk rfl rfl rfl rfl (FW.f_loadBlk1 hk (FW.holds_nil _) (j := 0) rfl rfl Go.Proofs.Try.underlying2 rfl rfl) ?_; clear hk; intro a w hk
                  obtain ⟨t8, hr_t8, h⟩ := FW.bnd h
                  refine FW.lfun (y := .lit (.string (FW.B t8))) hk rfl rfl rfl rfl (FW.f_call hk (FW.holds_nil _) rfl rfl Go.Proofs.Try.func38 rfl (by kernel_rfl) (offshootref13_Number.ok K v0.N _ hr_t8)) ?_; clear hk; intro a w hk
                  obtain ⟨hc9, h⟩ := FW.chk h
                  refine FW.lfun (y := .lit (.string (FW.B (([118, 40] : List UInt8) ++ t8)))) hk rfl rfl rfl rfl ((FW.f_pure (FW.p_sadd hk.kn (FW.holds_nil _) rfl rfl hc9))) ?_; clear hk; intro a w hk
                  obtain ⟨hc10, h⟩ := FW.chk h
                  refine FW.lfun (y := .lit (.string (FW.B ((([118, 40] : List UInt8) ++ t8) ++ ([41] : List UInt8))))) hk rfl rfl rfl rfl ((FW.f_pure (FW.p_sadd hk.kn (FW.holds_nil _) rfl rfl hc10))) ?_; clear hk; intro a w hk
                  refine FW.lfun (y := .lit (.string (FW.B ((([118, 40] : List UInt8) ++ t8) ++ ([41] : List UInt8))))) hk rfl rfl rfl rfl (FW.f_assign hk (FW.holds_nil _) rfl) ?_; clear hk; intro a w hk
                  refine FW.lend (hK31 _ _ ?_); clear hK31 K'
                  refine wp_ret ?_
                  (repeat first | refine FW.then_ret ?_ | refine FW.block_ret ?_)
                  obtain rfl := Option.some.inj h
                  exact FW.fret1 hk rfl rfl
                · skip
                  refine FW.wreg ?_; intro K' hK32
                  refine FW.lfun (y := .lit (.bool (decide (v0.Kind = 8)))) hk rfl rfl rfl rfl ((FW.f_pure (FW.p_eql hk.kn (FW.holds_nil _) rfl rfl))) ?_; clear hk; intro a w hk
                  refine FW.lfun (y := .lit (.bool (decide (v0.Kind = 8)))) hk rfl rfl rfl rfl (FW.f_assign hk (FW.holds_nil _) rfl) ?_; clear hk; intro a w hk
                  refine FW.lend (hK32 _ _ ?_); clear hK32 K'
                  refine FW.wcondF (b := (decide (v0.Kind = 8))) hk h rfl (fun h hb => ?_) (fun h hb => ?_)
                  · skip
                    refine FW.wreg ?_; intro K' hK33
                    refine FW.lfun (y := .lit (.pointer (some ⟨b1, 2, none⟩))) hk rfl rfl rfl rfl (FW.f_fieldPtr hk (FW.holds_nil _) rfl Go.Proofs.Try.underlying33 rfl (by kernel_rfl) rfl) ?_; clear hk; intro a w hk
                    refine FW.lfun (y := .lit (.int .i64 v0.N)) hk rfl rfl rfl rfl (FW.f_loadBlk1 hk (FW.holds_nil _) (j := 0) rfl rfl Go.Proofs.Try.underlying2 rfl rfl) ?_; clear hk; intro a w hk
                    obtain ⟨t9, hr_t9, h⟩ := FW.bnd h
                    refine FW.lfun (y := .lit (.string (FW.B t9))) hk rfl rfl rfl rfl (FW.f_call hk (FW.holds_nil _) rfl rfl Go.Proofs.Try.func38 rfl (by kernel_rfl) (offshootref13_Number.ok K v0.N _ hr_t9)) ?_; clear hk; intro a w hk
                    obtain ⟨hc11, h⟩ := FW.chk h
                    refine FW.lfun (y := .lit (.string (FW.B (([101, 40] : List UInt8) ++ t9)))) hk rfl rfl rfl rfl ((FW.f_pure (FW.p_sadd hk.kn (FW.holds_nil _) rfl rfl hc11))) ?_; clear hk; intro a w hk
                    obtain ⟨hc12, h⟩ := FW.chk h
                    refine FW.lfun (y := .lit (.string (FW.B ((([101, 40] : List UInt8) ++ t9) ++ ([41] : List UInt8))))) hk rfl rfl rfl rfl ((FW.f_pure (FW.p_sadd hk.kn (FW.holds_nil _) rfl rfl hc12))) ?_; clear hk; intro a w hk
                    refine FW.lfun (y := .lit (.string (FW.B ((([101, 40] : List UInt8) ++ t9) ++ ([41] : List UInt8))))) hk rfl rfl rfl rfl (FW.f_assign hk (FW.holds_nil _) rfl) ?_; clear hk; intro a w hk
                    refine FW.lend (hK33 _ _ ?_); clear hK33 K'
                    refine wp_ret ?_
                    (repeat first | refine FW.then_ret ?_ | refine FW.block_ret ?_)
                    obtain rfl := Option.some.inj h
                    exact FW.fret1 hk rfl rfl
                  · skip
                    refine wp_skip ?_
                    (repeat first | refine FW.then_normal ?_ | refine FW.block_normal ?_); refine hK2 _ _ ?_
                    refine FW.wreg ?_; intro K' hK34
                    refine FW.lfun (y := .lit (.string (FW.B ([63] : List UInt8)))) hk rfl rfl rfl rfl (FW.f_assign hk (FW.holds_nil _) rfl) ?_; clear hk; intro a w hk
                    refine FW.lend (hK34 _ _ ?_); clear hK34 K'
                    refine wp_ret ?_
                    (repeat first | refine FW.then_ret ?_ | refine FW.block_ret ?_)
                    obtain rfl := Option.some.inj h
                    exact FW.fret1 hk rfl rfl
theorem offshootref13_Values_knot : ∀ K : Nat, (∀ (v0 : List ApiValue) (r : List UInt8), offshootref13_Values.f K v0 = some r → FW.Ok Go.Proofs.Try.prog 33 [.row (r_ApiValue_cells v0)] (.lit (.string (FW.B r)))) ∧ (∀ (v0 : ApiValue) (r : List UInt8), offshootref13_Value.f K v0 = some r → FW.Ok Go.Proofs.Try.prog 16 [.agg (ApiValue.cells v0)] (.lit (.string (FW.B r))))
  | 0 => ⟨fun v0 r h => by simp [offshootref13_Values.f] at h, fun v0 r h => by simp [offshootref13_Value.f] at h⟩
  | K + 1 => ⟨fun v0 r h => by rw [offshootref13_Values.f] at h; exact offshootref13_Values.bok _ _ (offshootref13_Values_knot K).1 (offshootref13_Values_knot K).2 K v0 r h, fun v0 r h => by rw [offshootref13_Value.f] at h; exact offshootref13_Value.bok _ _ (offshootref13_Values_knot K).1 (offshootref13_Values_knot K).2 K v0 r h⟩
theorem offshootref13_Values.ok (K : Nat) (v0 : List ApiValue) (r : List UInt8) (h : offshootref13_Values.f K v0 = some r) : FW.Ok Go.Proofs.Try.prog 33 [.row (r_ApiValue_cells v0)] (.lit (.string (FW.B r))) := (offshootref13_Values_knot K).1 v0 r h
theorem offshootref13_Value.ok (K : Nat) (v0 : ApiValue) (r : List UInt8) (h : offshootref13_Value.f K v0 = some r) : FW.Ok Go.Proofs.Try.prog 16 [.agg (ApiValue.cells v0)] (.lit (.string (FW.B r))) := (offshootref13_Values_knot K).2 v0 r h

theorem offshootref13_Pred.bok (s_offshootref13_Pred : ApiPred → Option (List UInt8)) (hs_offshootref13_Pred : ∀ (v0 : ApiPred) (r : List UInt8), s_offshootref13_Pred v0 = some r → FW.Ok Go.Proofs.Try.prog 12 [.agg (ApiPred.cells v0)] (.lit (.string (FW.B r)))) (K : Nat) (v0 : ApiPred) (r : List UInt8) (h : offshootref13_Pred.b s_offshootref13_Pred K v0 = some r) :
    FW.Ok Go.Proofs.Try.prog 12 [.agg (ApiPred.cells v0)] (.lit (.string (FW.B r))) := by
  refine FW.enter (xs := [.agg (ApiPred.cells v0)]) Go.Proofs.Try.func12 rfl Go.Proofs.Try.ntmps12 rfl ?_
  intro M w0 a hk
  unfold offshootref13_Pred.b at h
  refine FW.wreg ?_; intro K' hK1
  refine FW.l_box (cs := (ApiPred.cells v0)) hk rfl rfl rfl rfl rfl ?_; clear hk; intro b1 a w hk
  refine FW.lfun (y := .lit (.string (FW.B ([] : List UInt8)))) hk rfl rfl rfl rfl (FW.f_assign hk (FW.holds_nil _) rfl) ?_; clear hk; intro a w hk
  refine FW.lend (hK1 _ _ ?_); clear hK1 K'
  refine FW.wseq ?_; intro K' hK2
  refine FW.wreg ?_; intro K' hK3
  refine FW.lfun (y := .lit (.pointer (some ⟨b1, 0, none⟩))) hk rfl rfl rfl rfl (FW.f_fieldPtr hk (FW.holds_nil _) rfl Go.Proofs.Try.underlying36 rfl (by kernel_rfl) rfl) ?_; clear hk; intro a w hk
  refine FW.lfun (y := .lit (.string (FW.B v0.Op))) hk rfl rfl rfl rfl (FW.f_loadBlk1 hk (FW.holds_nil _) (j := 0) rfl rfl Go.Proofs.Try.underlying9 rfl rfl) ?_; clear hk; intro a w hk
  refine FW.lend (hK3 _ _ ?_); clear hK3 K'
  refine wp_block ?_
  refine FW.wseqJ (fun a w => ∃ (y1 : ApiPred) (v4 : List UInt8) (v5 : Bool), FW.S M w0 a w 41 [FW.blk b1 36 ((ApiPred.cells y1))] [(1, [], .lit (.pointer (some ⟨b1, 0, none⟩))), (4, [], .lit (.string (FW.B v4))), (5, [], .lit (.bool v5))] ∧ offshootref13_Pred.j1 s_offshootref13_Pred K y1 v4 v5 = some r) ?_ ?_
  · clear hk h
    rintro a w ⟨y1, v4, v5, hk, h⟩
    unfold offshootref13_Pred.j1 at h
    refine FW.wcondF (b := v5) hk h rfl (fun h hb => ?_) (fun h hb => ?_)
    · skip
      obtain ⟨hc1, h⟩ := FW.chk h
      obtain ⟨t1, hr_t1, h⟩ := FW.bnd h
      obtain ⟨hc2, h⟩ := FW.chk h
      obtain ⟨hc3, h⟩ := FW.chk h
      obtain ⟨hc4, h⟩ := FW.chk h
      obtain ⟨hc5, h⟩ := FW.chk h
      obtain ⟨t2, hr_t2, h⟩ := FW.bnd h
      obtain ⟨hc6, h⟩ := FW.chk h
      obtain ⟨hc7, h⟩ := FW.chk h
      refine FW.wdraw (by kernel_rfl) (by kernel_rfl) hk ?_; clear hk
      refine FW.dfun (y := .lit (.pointer (some ⟨b1, 2, none⟩))) rfl rfl rfl rfl (fun a w hk => FW.f_fieldPtr hk (FW.holds_nil _) rfl Go.Proofs.Try.underlying36 rfl (by kernel_rfl) rfl) ?_
      refine FW.dfun (y := .row (r_ApiPred_cells y1.Kids)) rfl rfl rfl rfl (fun a w hk => FW.f_loadBlk1 hk (FW.holds_nil _) (j := 0) rfl rfl Go.Proofs.Try.underlying34 rfl rfl) ?_
      refine FW.dfun (y := .ref (ApiPred.cells (List.getD y1.Kids (Int.toNat 0) default))) rfl rfl rfl rfl (fun a w hk => FW.f_indexAddr (R := r_ApiPred_cells) (f := ApiPred.cells) (l := y1.Kids) (sz := 3) r_ApiPred_cells_eq (fun _ => rfl) hk (FW.holds_nil _) rfl rfl Go.Proofs.Try.underlying34 (by kernel_rfl) hc1) ?_
      refine FW.dfun (y := .agg ((ApiPred.cells (List.getD y1.Kids (Int.toNat 0) default)))) rfl rfl rfl rfl (fun a w hk => FW.f_load hk (FW.holds_nil _) rfl Go.Proofs.Try.underlying36 rfl rfl rfl rfl) ?_
      refine FW.dfun (y := .lit (.string (FW.B t1))) rfl rfl rfl rfl (fun a w hk => FW.f_call hk (FW.holds_nil _) rfl rfl Go.Proofs.Try.func12 rfl (by kernel_rfl) (hs_offshootref13_Pred (List.getD y1.Kids (Int.toNat 0) default) _ hr_t1)) ?_
      refine FW.dfun (y := .lit (.string (FW.B (t1 ++ ([46] : List UInt8))))) rfl rfl rfl rfl (fun a w hk => (FW.f_pure (FW.p_sadd hk.kn (FW.holds_nil _) rfl rfl hc2))) ?_
      refine FW.dfun (y := .lit (.pointer (some ⟨b1, 0, none⟩))) rfl rfl rfl rfl (fun a w hk => FW.f_fieldPtr hk (FW.holds_nil _) rfl Go.Proofs.Try.underlying36 rfl (by kernel_rfl) rfl) ?_
      refine FW.dfun (y := .lit (.string (FW.B y1.Op))) rfl rfl rfl rfl (fun a w hk => FW.f_loadBlk1 hk (FW.holds_nil _) (j := 0) rfl rfl Go.Proofs.Try.underlying9 rfl rfl) ?_
      refine FW.dfun (y := .lit (.string (FW.B ((t1 ++ ([46] : List UInt8)) ++ y1.Op)))) rfl rfl rfl rfl (fun a w hk => (FW.f_pure (FW.p_sadd hk.kn (FW.holds_nil _) rfl rfl hc3))) ?_
      refine FW.dfun (y := .lit (.string (FW.B (((t1 ++ ([46] : List UInt8)) ++ y1.Op) ++ ([40] : List UInt8))))) rfl rfl rfl rfl (fun a w hk => (FW.f_pure (FW.p_sadd hk.kn (FW.holds_nil _) rfl rfl hc4))) ?_
      refine FW.dfun (y := .lit (.pointer (some ⟨b1, 2, none⟩))) rfl rfl rfl rfl (fun a w hk => FW.f_fieldPtr hk (FW.holds_nil _) rfl Go.Proofs.Try.underlying36 rfl (by kernel_rfl) rfl) ?_
      refine FW.dfun (y := .row (r_ApiPred_cells y1.Kids)) rfl rfl rfl rfl (fun a w hk => FW.f_loadBlk1 hk (FW.holds_nil _) (j := 0) rfl rfl Go.Proofs.Try.underlying34 rfl rfl) ?_
      refine FW.dfun (y := .ref (ApiPred.cells (List.getD y1.Kids (Int.toNat 1) default))) rfl rfl rfl rfl (fun a w hk => FW.f_indexAddr (R := r_ApiPred_cells) (f := ApiPred.cells) (l := y1.Kids) (sz := 3) r_ApiPred_cells_eq (fun _ => rfl) hk (FW.holds_nil _) rfl rfl Go.Proofs.Try.underlying34 (by kernel_rfl) hc5) ?_
      refine FW.dfun (y := .agg ((ApiPred.cells (List.getD y1.Kids (Int.toNat 1) default)))) rfl rfl rfl rfl (fun a w hk => FW.f_load hk (FW.holds_nil _) rfl Go.Proofs.Try.underlying36 rfl rfl rfl rfl) ?_
      refine FW.dfun (y := .lit (.string (FW.B t2))) rfl rfl rfl rfl (fun a w hk => FW.f_call hk (FW.holds_nil _) rfl rfl Go.Proofs.Try.func12 rfl (by kernel_rfl) (hs_offshootref13_Pred (List.getD y1.Kids (Int.toNat 1) default) _ hr_t2)) ?_
      refine FW.dfun (y := .lit (.string (FW.B ((((t1 ++ ([46] : List UInt8)) ++ y1.Op) ++ ([40] : List UInt8)) ++ t2)))) rfl rfl rfl rfl (fun a w hk => (FW.f_pure (FW.p_sadd hk.kn (FW.holds_nil _) rfl rfl hc6))) ?_
      refine FW.dfun (y := .lit (.string (FW.B (((((t1 ++ ([46] : List UInt8)) ++ y1.Op) ++ ([40] : List UInt8)) ++ t2) ++ ([41] : List UInt8))))) rfl rfl rfl rfl (fun a w hk => (FW.f_pure (FW.p_sadd hk.kn (FW.holds_nil _) rfl rfl hc7))) ?_
      refine FW.dfun (y := .lit (.string (FW.B (((((t1 ++ ([46] : List UInt8)) ++ y1.Op) ++ ([40] : List UInt8)) ++ t2) ++ ([41] : List UInt8))))) rfl rfl rfl rfl (fun a w hk => FW.f_assign hk (FW.holds_nil _) rfl) ?_
      refine FW.dend ?_; intro a w hk
      refine wp_ret ?_
      (repeat first | refine FW.then_ret ?_ | refine FW.block_ret ?_)
      obtain rfl := Option.some.inj h
      exact FW.fret1 hk rfl rfl
    · skip
      refine FW.wreg ?_; intro K' hK6
      refine FW.lfun (y := .lit (.bool (decide (v4 = ([110, 111, 116] : List UInt8))))) hk rfl rfl rfl rfl ((FW.f_pure (FW.p_seql hk.kn (FW.holds_nil _) rfl rfl))) ?_; clear hk; intro a w hk
      refine FW.lfun (y := .lit (.bool (decide (v4 = ([110, 111, 116] : List UInt8))))) hk rfl rfl rfl rfl (FW.f_assign hk (FW.holds_nil _) rfl) ?_; clear hk; intro a w hk
      refine FW.lend (hK6 _ _ ?_); clear hK6 K'
      refine FW.wcondF (b := (decide (v4 = ([110, 111, 116] : List UInt8)))) hk h rfl (fun h hb => ?_) (fun h hb => ?_)
      · skip
        refine FW.wreg ?_; intro K' hK7
        refine FW.lfun (y := .lit (.pointer (some ⟨b1, 2, none⟩))) hk rfl rfl rfl rfl (FW.f_fieldPtr hk (FW.holds_nil _) rfl Go.Proofs.Try.underlying36 rfl (by kernel_rfl) rfl) ?_; clear hk; intro a w hk
        refine FW.lfun (y := .row (r_ApiPred_cells y1.Kids)) hk rfl rfl rfl rfl (FW.f_loadBlk1 hk (FW.holds_nil _) (j := 0) rfl rfl Go.Proofs.Try.underlying34 rfl rfl) ?_; clear hk; intro a w hk
        obtain ⟨hc8, h⟩ := FW.chk h
        refine FW.lfun (y := .ref (ApiPred.cells (List.getD y1.Kids (Int.toNat 0) default))) hk rfl rfl rfl rfl (FW.f_indexAddr (R := r_ApiPred_cells) (f := ApiPred.cells) (l := y1.Kids) (sz := 3) r_ApiPred_cells_eq (fun _ => rfl) hk (FW.holds_nil _) rfl rfl Go.Proofs.Try.underlying34 (by kernel_rfl) hc8) ?_; clear hk; intro a w hk
        refine FW.lfun (y := .agg ((ApiPred.cells (List.getD y1.Kids (Int.toNat 0) default)))) hk rfl rfl rfl rfl (FW.f_load hk (FW.holds_nil _) rfl Go.Proofs.Try.underlying36 rfl rfl rfl rfl) ?_; clear hk; intro a w hk
        obtain ⟨t3, hr_t3, h⟩ := FW.bnd h
        refine FW.lfun (y := .lit (.string (FW.B t3))) hk rfl rfl rfl rfl (FW.f_call hk (FW.holds_nil _) rfl rfl Go.Proofs.Try.func12 rfl (by kernel_rfl) (hs_offshootref13_Pred (List.getD y1.Kids (Int.toNat 0) default) _ hr_t3)) ?_; clear hk; intro a w hk
        obtain ⟨hc9, h⟩ := FW.chk h
        refine FW.lfun (y := .lit (.string (FW.B (t3 ++ ([46, 110, 101, 103, 97, 116, 101, 40, 41] : List UInt8))))) hk rfl rfl rfl rfl ((FW.f_pure (FW.p_sadd hk.kn (FW.holds_nil _) rfl rfl hc9))) ?_; clear hk; intro a w hk
        refine FW.lfun (y := .lit (.string (FW.B (t3 ++ ([46, 110, 101, 103, 97, 116, 101, 40, 41] : List UInt8))))) hk rfl rfl rfl rfl (FW.f_assign hk (FW.holds_nil _) rfl) ?_; clear hk; intro a w hk
        refine FW.lend (hK7 _ _ ?_); clear hK7 K'
        refine wp_ret ?_
        (repeat first | refine FW.then_ret ?_ | refine FW.block_ret ?_)
        obtain rfl := Option.some.inj h
        exact FW.fret1 hk rfl rfl
      · skip
        refine wp_skip ?_
        (repeat first | refine FW.then_normal ?_ | refine FW.block_normal ?_); refine hK2 _ _ ?_
        obtain ⟨hc10, h⟩ := FW.chk h
        obtain ⟨t4, hr_t4, h⟩ := FW.bnd h
        obtain ⟨hc11, h⟩ := FW.chk h
        obtain ⟨hc12, h⟩ := FW.chk h
        refine FW.wdraw (by kernel_rfl) (by kernel_rfl) hk ?_; clear hk
        refine FW.dfun (y := .lit (.pointer (some ⟨b1, 0, none⟩))) rfl rfl rfl rfl (fun a w hk => FW.f_fieldPtr hk (FW.holds_nil _) rfl Go.Proofs.Try.underlying36 rfl (by kernel_rfl) rfl) ?_
        refine FW.dfun (y := .lit (.string (FW.B y1.Op))) rfl rfl rfl rfl (fun a w hk => FW.f_loadBlk1 hk (FW.holds_nil _) (j := 0) rfl rfl Go.Proofs.Try.underlying9 rfl rfl) ?_
        refine FW.dfun (y := .lit (.string (FW.B (y1.Op ++ ([40] : List UInt8))))) rfl rfl rfl rfl (fun a w hk => (FW.f_pure (FW.p_sadd hk.kn (FW.holds_nil _) rfl rfl hc10))) ?_
        refine FW.dfun (y := .lit (.pointer (some ⟨b1, 1, none⟩))) rfl rfl rfl rfl (fun a w hk => FW.f_fieldPtr hk (FW.holds_nil _) rfl Go.Proofs.Try.underlying36 rfl (by kernel_rfl) rfl) ?_
        refine FW.dfun (y := .row (r_ApiValue_cells y1.L)) rfl rfl rfl rfl (fun a w hk => FW.f_loadBlk1 hk (FW.holds_nil _) (j := 0) rfl rfl Go.Proofs.Try.underlying31 rfl rfl) ?_
        refine FW.dfun (y := .lit (.string (FW.B t4))) rfl rfl rfl rfl (fun a w hk => FW.f_call hk (FW.holds_nil _) rfl rfl Go.Proofs.Try.func33 rfl (by kernel_rfl) (offshootref13_Values.ok K y1.L _ hr_t4)) ?_
        refine FW.dfun (y := .lit (.string (FW.B ((y1.Op ++ ([40] : List UInt8)) ++ t4)))) rfl rfl rfl rfl (fun a w hk => (FW.f_pure (FW.p_sadd hk.kn (FW.holds_nil _) rfl rfl hc11))) ?_
        refine FW.dfun (y := .lit (.string (FW.B (((y1.Op ++ ([40] : List UInt8)) ++ t4) ++ ([41] : List UInt8))))) rfl rfl rfl rfl (fun a w hk => (FW.f_pure (FW.p_sadd hk.kn (FW.holds_nil _) rfl rfl hc12))) ?_
        refine FW.dfun (y := .lit (.string (FW.B (((y1.Op ++ ([40] : List UInt8)) ++ t4) ++ ([41] : List UInt8))))) rfl rfl rfl rfl (fun a w hk => FW.f_assign hk (FW.holds_nil _) rfl) ?_
        refine FW.dend ?_; intro a w hk
        refine wp_ret ?_
        (repeat first | refine FW.then_ret ?_ | refine FW.block_ret ?_)
        obtain rfl := Option.some.inj h
        exact FW.fret1 hk rfl rfl
  · intro K' hK4
    refine FW.wreg ?_; intro K' hK9
    refine FW.lfun (y := .lit (.bool (decide (v0.Op = ([97, 110, 100] : List UInt8))))) hk rfl rfl rfl rfl ((FW.f_pure (FW.p_seql hk.kn (FW.holds_nil _) rfl rfl))) ?_; clear hk; intro a w hk
    refine FW.lfun (y := .lit (.bool (decide (v0.Op = ([97, 110, 100] : List UInt8))))) hk rfl rfl rfl rfl (FW.f_assign hk (FW.holds_nil _) rfl) ?_; clear hk; intro a w hk
    refine FW.lend (hK9 _ _ ?_); clear hK9 K'
    refine FW.wcondF (b := (decide (v0.Op = ([97, 110, 100] : List UInt8)))) hk h rfl (fun h hb => ?_) (fun h hb => ?_)
    · skip
      refine wp_skip ?_
      (repeat first | refine FW.then_normal ?_ | refine FW.block_normal ?_); exact hK4 _ _ ⟨v0, v0.Op, (decide (v0.Op = ([97, 110, 100] : List UInt8))), hk.sub ⟨rfl, rfl, rfl, trivial⟩, h⟩
    · skip
      refine FW.wreg1 ?_
      refine FW.lfun (y := .lit (.bool (decide (v0.Op = ([111, 114] : List UInt8))))) hk rfl rfl rfl rfl ((FW.f_pure (FW.p_seql hk.kn (FW.holds_nil _) rfl rfl))) ?_; clear hk; intro a w hk
      refine FW.lfun (y := .lit (.bool (decide (v0.Op = ([111, 114] : List UInt8))))) hk rfl rfl rfl rfl (FW.f_assign hk (FW.holds_nil _) rfl) ?_; clear hk; intro a w hk
      refine wpList_nil ?_
      (repeat first | refine FW.then_normal ?_ | refine FW.block_normal ?_); exact hK4 _ _ ⟨v0, v0.Op, (decide (v0.Op = ([111, 114] : List UInt8))), hk.sub ⟨rfl, rfl, rfl, trivial⟩, h⟩
theorem offshootref13_Pred_knot : ∀ K : Nat, (∀ (v0 : ApiPred) (r : List UInt8), offshootref13_Pred.f K v0 = some r → FW.Ok Go.Proofs.Try.prog 12 [.agg (ApiPred.cells v0)] (.lit (.string (FW.B r))))
  | 0 => fun v0 r h => by simp [offshootref13_Pred.f] at h
  | K + 1 => fun v0 r h => by rw [offshootref13_Pred.f] at h; exact offshootref13_Pred.bok _ (offshootref13_Pred_knot K) K v0 r h
theorem offshootref13_Pred.ok (K : Nat) (v0 : ApiPred) (r : List UInt8) (h : offshootref13_Pred.f K v0 = some r) : FW.Ok Go.Proofs.Try.prog 12 [.agg (ApiPred.cells v0)] (.lit (.string (FW.B r))) := (offshootref13_Pred_knot K) v0 r h

theorem offshootlaw13_ShowPreds.ok (K : Nat) (v0 : List UInt8) (r : Bool) (h : offshootlaw13_ShowPreds.f K v0 = some r) :
    FW.Ok Go.Proofs.Try.prog 3 [.lit (.string (FW.B v0))] (.lit (.bool r)) := by
  refine FW.enter (xs := [.lit (.string (FW.B v0))]) Go.Proofs.Try.func3 rfl Go.Proofs.Try.ntmps3 rfl ?_
  intro M w0 a hk
  unfold offshootlaw13_ShowPreds.f at h
  refine FW.wreg ?_; intro K' hK1
  refine FW.lfun (y := .lit (.bool false)) hk rfl rfl rfl rfl (FW.f_assign hk (FW.holds_nil _) rfl) ?_; clear hk; intro a w hk
  refine FW.lend (hK1 _ _ ?_); clear hK1 K'
  refine FW.wreg ?_; intro K' hK2
  refine FW.lfun (y := .lit (.string (FW.B v0))) hk rfl rfl rfl rfl (FW.f_move hk (FW.holds_nil _) rfl) ?_; clear hk; intro a w hk
  obtain ⟨t1, hr_t1, h⟩ := FW.bnd h
  refine FW.lfun (y := .tup [.row (r_ApiStep_cells t1.1), .lit (.int .i64 t1.2.1), .lit (.int .i64 t1.2.2)]) hk rfl rfl rfl rfl (FW.f_call hk (FW.holds_nil _) rfl rfl Go.Proofs.Try.func9 rfl (by kernel_rfl) (offshootref12_Parse.ok K v0 _ hr_t1)) ?_; clear hk; intro a w hk
  refine FW.lfun (y := .tup [.row (r_ApiStep_cells t1.1), .lit (.int .i64 t1.2.1), .lit (.int .i64 t1.2.2)]) hk rfl rfl rfl rfl (FW.f_move hk (FW.holds_nil _) rfl) ?_; clear hk; intro a w hk
  refine FW.lfun (y := .row (r_ApiStep_cells t1.1)) hk rfl rfl rfl rfl (FW.f_extract hk (FW.holds_nil _) rfl rfl) ?_; clear hk; intro a w hk
  refine FW.lfun (y := .lit (.int .i64 t1.2.1)) hk rfl rfl rfl rfl (FW.f_extract hk (FW.holds_nil _) rfl rfl) ?_; clear hk; intro a w hk
  refine FW.lfun (y := .lit (.int .i64 t1.2.2)) hk rfl rfl rfl rfl (FW.f_extract hk (FW.holds_nil _) rfl rfl) ?_; clear hk; intro a w hk
  refine FW.lfun (y := .row (r_ApiStep_cells t1.1)) hk rfl rfl rfl rfl (FW.f_assign hk (FW.holds_nil _) rfl) ?_; clear hk; intro a w hk
  refine FW.lfun (y := .lit (.int .i64 t1.2.1)) hk rfl rfl rfl rfl (FW.f_assign hk (FW.holds_nil _) rfl) ?_; clear hk; intro a w hk
  refine FW.lfun (y := .lit (.int .i64 t1.2.2)) hk rfl rfl rfl rfl (FW.f_assign hk (FW.holds_nil _) rfl) ?_; clear hk; intro a w hk
  refine FW.lend (hK2 _ _ ?_); clear hK2 K'
  refine FW.wseq ?_; intro K' hK3
  refine FW.wreg ?_; intro K' hK4
  obtain ⟨t2, hr_t2, h⟩ := FW.bnd h
  refine FW.lfun (y := .lit (.bool t2)) hk rfl rfl rfl rfl (FW.f_call hk (FW.holds_nil _) rfl rfl Go.Proofs.Try.func10 rfl (by kernel_rfl) (offshootlaw13_awake.ok K  _ hr_t2)) ?_; clear hk; intro a w hk
  refine FW.lfun (y := .lit (.bool (!t2))) hk rfl rfl rfl rfl ((FW.f_pure (FW.p_not hk.kn (FW.holds_nil _) rfl))) ?_; clear hk; intro a w hk
  refine FW.lfun (y := .lit (.bool (!t2))) hk rfl rfl rfl rfl (FW.f_move hk (FW.holds_nil _) rfl) ?_; clear hk; intro a w hk
  refine FW.lfunG (y := .lit (.int .i64 t1.2.2)) hk rfl rfl rfl rfl rfl rfl rfl rfl (fun hc => FW.f_move hk hc rfl) ?_; clear hk; intro a w hk
  refine FW.lfunG (y := .lit (.bool (!decide (t1.2.2 = 0)))) hk rfl rfl rfl rfl rfl rfl rfl rfl (fun hc => (FW.f_pure (FW.p_neq hk.kn hc rfl rfl))) ?_; clear hk; intro a w hk
  refine FW.lfun (y := .lit (.bool ((!t2) || (!decide (t1.2.2 = 0))))) hk rfl rfl rfl rfl ((FW.f_pure (FW.p_pick_or hk.kn (FW.holds_nil _) rfl rfl))) ?_; clear hk; intro a w hk
  refine FW.lend (hK4 _ _ ?_); clear hK4 K'
  refine FW.wcondF (b := ((!t2) || (!decide (t1.2.2 = 0)))) hk h rfl (fun h hb => ?_) (fun h hb => ?_)
  · skip
    refine FW.wreg ?_; intro K' hK5
    obtain ⟨t3, hr_t3, h⟩ := FW.bnd h
    refine FW.lfun (y := .lit (.bool t3)) hk rfl rfl rfl rfl (FW.f_call hk (FW.holds_nil _) rfl rfl Go.Proofs.Try.func10 rfl (by kernel_rfl) (offshootlaw13_awake.ok K  _ hr_t3)) ?_; clear hk; intro a w hk
    refine FW.lfun (y := .lit (.bool t3)) hk rfl rfl rfl rfl (FW.f_assign hk (FW.holds_nil _) rfl) ?_; clear hk; intro a w hk
    refine FW.lend (hK5 _ _ ?_); clear hK5 K'
    refine wp_ret ?_
    (repeat first | refine FW.then_ret ?_ | refine FW.block_ret ?_)
    obtain rfl := Option.some.inj h
    exact FW.fret1 hk rfl rfl
  · skip
    refine wp_skip ?_
    (repeat first | refine FW.then_normal ?_ | refine FW.block_normal ?_); refine hK3 _ _ ?_
    refine FW.wseq ?_; intro K' hK6
    refine FW.wreg ?_; intro K' hK7
    refine FW.lfun (y := .lit (.int .i64 0)) hk rfl rfl rfl rfl (FW.f_assign hk (FW.holds_nil _) rfl) ?_; clear hk; intro a w hk
    refine FW.lend (hK7 _ _ ?_); clear hK7 K'
    refine wp_block ?_
    refine FW.wloop (T := Nat × List ApiStep × Int) (fun x a w => match x with | (kl1, v3, v6) => FW.S M w0 a w 58 [] [(3, [], .row (r_ApiStep_cells v3)), (6, [], .lit (.int .i64 v6))] ∧ offshootlaw13_ShowPreds.l1 K kl1 v3 v6 = some r) (fun x => x.1) (K, t1.1, 0) ⟨hk.sub ⟨rfl, rfl, trivial⟩, h⟩ ?_
    clear hk h
    rintro ⟨kl1, v3, v6⟩ a w ⟨hk, h⟩ K' hK8
    cases kl1 with
    | zero => simp [offshootlaw13_ShowPreds.l1] at h
    | succ kl1 =>
    rw [offshootlaw13_ShowPreds.l1.eq_2] at h
    refine FW.wseq ?_; intro K' hK9
    refine FW.wreg ?_; intro K' hK10
    refine FW.lfun (y := .lit (.int .i64 v6)) hk rfl rfl rfl rfl (FW.f_move hk (FW.holds_nil _) rfl) ?_; clear hk; intro a w hk
    refine FW.lfun (y := .row (r_ApiStep_cells v3)) hk rfl rfl rfl rfl (FW.f_move hk (FW.holds_nil _) rfl) ?_; clear hk; intro a w hk
    refine FW.lfun (y := .lit (.int .i64 (List.length v3 : Int))) hk rfl rfl rfl rfl (FW.f_len (R := r_ApiStep_cells) (f := ApiStep.cells) (l := v3) r_ApiStep_cells_eq Go.Proofs.Try.underlying22 hk (FW.holds_nil _) rfl) ?_; clear hk; intro a w hk
    refine FW.lfun (y := .lit (.bool (decide (v6 < (List.length v3 : Int))))) hk rfl rfl rfl rfl ((FW.f_pure (FW.p_lss hk.kn (FW.holds_nil _) rfl rfl))) ?_; clear hk; intro a w hk
    refine FW.lend (hK10 _ _ ?_); clear hK10 K'
    refine FW.wcondF (b := (decide (v6 < (List.length v3 : Int)))) hk h rfl (fun h hb => ?_) (fun h hb => ?_)
    · skip
      refine wp_skip ?_
      (repeat first | refine FW.then_normal ?_ | refine FW.block_normal ?_); refine hK9 _ _ ?_
      refine FW.wseq ?_; intro K' hK11
      refine wp_block ?_
      refine FW.wreg ?_; intro K' hK12
      refine FW.lfun (y := .lit (.int .i64 0)) hk rfl rfl rfl rfl (FW.f_assign hk (FW.holds_nil _) rfl) ?_; clear hk; intro a w hk
      refine FW.lend (hK12 _ _ ?_); clear hK12 K'
      refine wp_block ?_
      refine FW.wloop (T := Nat × List ApiStep × Int × Int) (fun x a w => match x with | (kl2, v3, v6, v7) => FW.S M w0 a w 58 [] [(3, [], .row (r_ApiStep_cells v3)), (6, [], .lit (.int .i64 v6)), (7, [], .lit (.int .i64 v7))] ∧ offshootlaw13_ShowPreds.l2 (offshootlaw13_ShowPreds.l1 K kl1) K kl2 v3 v6 v7 = some r) (fun x => x.1) (K, v3, v6, 0) ⟨hk.sub ⟨rfl, rfl, rfl, trivial⟩, h⟩ ?_
      clear hk h
      rintro ⟨kl2, v3, v6, v7⟩ a w ⟨hk, h⟩ K' hK13
      cases kl2 with
      | zero => simp [offshootlaw13_ShowPreds.l2] at h
      | succ kl2 =>
      rw [offshootlaw13_ShowPreds.l2.eq_2] at h
      refine FW.wseq ?_; intro K' hK14
      refine FW.wreg ?_; intro K' hK15
      refine FW.lfun (y := .lit (.int .i64 v7)) hk rfl rfl rfl rfl (FW.f_move hk (FW.holds_nil _) rfl) ?_; clear hk; intro a w hk
      refine FW.lfun (y := .row (r_ApiStep_cells v3)) hk rfl rfl rfl rfl (FW.f_move hk (FW.holds_nil _) rfl) ?_; clear hk; intro a w hk
      refine FW.lfun (y := .lit (.int .i64 v6)) hk rfl rfl rfl rfl (FW.f_move hk (FW.holds_nil _) rfl) ?_; clear hk; intro a w hk
      obtain ⟨hc1, h⟩ := FW.chk h
      refine FW.lfun (y := .ref (ApiStep.cells (List.getD v3 (Int.toNat v6) default))) hk rfl rfl rfl rfl (FW.f_indexAddr (R := r_ApiStep_cells) (f := ApiStep.cells) (l := v3) (sz := 2) r_ApiStep_cells_eq (fun _ => rfl) hk (FW.holds_nil _) rfl rfl Go.Proofs.Try.underlying22 (by kernel_rfl) hc1) ?_; clear hk; intro a w hk
      refine FW.lfun (y := .ref (List.drop 1 (ApiStep.cells (List.getD v3 (Int.toNat v6) default)))) hk rfl rfl rfl rfl (FW.f_fieldAddr hk (FW.holds_nil _) rfl Go.Proofs.Try.underlying29 rfl (by kernel_rfl) rfl) ?_; clear hk; intro a w hk
      refine FW.lfun (y := .row (r_ApiArg_cells ((List.getD v3 (Int.toNat v6) default).Args))) hk rfl rfl rfl rfl (FW.f_load1 hk (FW.holds_nil _) rfl rfl Go.Proofs.Try.underlying27 rfl) ?_; clear hk; intro a w hk
      refine FW.lfun (y := .lit (.int .i64 (List.length ((List.getD v3 (Int.toNat v6) default).Args) : Int))) hk rfl rfl rfl rfl (FW.f_len (R := r_ApiArg_cells) (f := ApiArg.cells) (l := (List.getD v3 (Int.toNat v6) default).Args) r_ApiArg_cells_eq Go.Proofs.Try.underlying27 hk (FW.holds_nil _) rfl) ?_; clear hk; intro a w hk
      refine FW.lfun (y := .lit (.bool (decide (v7 < (List.length ((List.getD v3 (Int.toNat v6) default).Args) : Int))))) hk rfl rfl rfl rfl ((FW.f_pure (FW.p_lss hk.kn (FW.holds_nil _) rfl rfl))) ?_; clear hk; intro a w hk
      refine FW.lend (hK15 _ _ ?_); clear hK15 K'
      refine FW.wcondF (b := (decide (v7 < (List.length ((List.getD v3 (Int.toNat v6) default).Args) : Int)))) hk h rfl (fun h hb => ?_) (fun h hb => ?_)
      · skip
        refine wp_skip ?_
        (repeat first | refine FW.then_normal ?_ | refine FW.block_normal ?_); refine hK14 _ _ ?_
        refine FW.wseq ?_; intro K' hK16
        refine wp_block ?_
        refine FW.wreg ?_; intro K' hK17
        refine FW.lfun (y := .row (r_ApiStep_cells v3)) hk rfl rfl rfl rfl (FW.f_move hk (FW.holds_nil _) rfl) ?_; clear hk; intro a w hk
        refine FW.lfun (y := .lit (.int .i64 v6)) hk rfl rfl rfl rfl (FW.f_move hk (FW.holds_nil _) rfl) ?_; clear hk; intro a w hk
        obtain ⟨hc2, h⟩ := FW.chk h
        refine FW.lfun (y := .ref (ApiStep.cells (List.getD v3 (Int.toNat v6) default))) hk rfl rfl rfl rfl (FW.f_indexAddr (R := r_ApiStep_cells) (f := ApiStep.cells) (l := v3) (sz := 2) r_ApiStep_cells_eq (fun _ => rfl) hk (FW.holds_nil _) rfl rfl Go.Proofs.Try.underlying22 (by kernel_rfl) hc2) ?_; clear hk; intro a w hk
        refine FW.lfun (y := .ref (List.drop 1 (ApiStep.cells (List.getD v3 (Int.toNat v6) default)))) hk rfl rfl rfl rfl (FW.f_fieldAddr hk (FW.holds_nil _) rfl Go.Proofs.Try.underlying29 rfl (by kernel_rfl) rfl) ?_; clear hk; intro a w hk
        refine FW.lfun (y := .row (r_ApiArg_cells ((List.getD v3 (Int.toNat v6) default).Args))) hk rfl rfl rfl rfl (FW.f_load1 hk (FW.holds_nil _) rfl rfl Go.Proofs.Try.underlying27 rfl) ?_; clear hk; intro a w hk
        refine FW.lfun (y := .lit (.int .i64 v7)) hk rfl rfl rfl rfl (FW.f_move hk (FW.holds_nil _) rfl) ?_; clear hk; intro a w hk
        obtain ⟨hc3, h⟩ := FW.chk h
        refine FW.lfun (y := .ref (ApiArg.cells (List.getD ((List.getD v3 (Int.toNat v6) default).Args) (Int.toNat v7) default))) hk rfl rfl rfl rfl (FW.f_indexAddr (R := r_ApiArg_cells) (f := ApiArg.cells) (l := (List.getD v3 (Int.toNat v6) default).Args) (sz := 11) r_ApiArg_cells_eq (fun _ => rfl) hk (FW.holds_nil _) rfl rfl Go.Proofs.Try.underlying27 (by kernel_rfl) hc3) ?_; clear hk; intro a w hk
        refine FW.lfun (y := .agg ((ApiArg.cells (List.getD ((List.getD v3 (Int.toNat v6) default).Args) (Int.toNat v7) default)))) hk rfl rfl rfl rfl (FW.f_load hk (FW.holds_nil _) rfl Go.Proofs.Try.underlying38 rfl rfl rfl rfl) ?_; clear hk; intro a w hk
        refine FW.l_alloc (zs := (ApiArg.cells (⟨0, (⟨0, false, 0, 0, [], []⟩ : ApiValue), (⟨[], [], []⟩ : ApiPred), []⟩ : ApiArg))) [] hk rfl rfl rfl rfl ?_; clear hk; intro b1 a w hk
        refine FW.l_store (I' := [FW.blk b1 38 ((ApiArg.cells (List.getD ((List.getD v3 (Int.toNat v6) default).Args) (Int.toNat v7) default)))]) (cs' := (ApiArg.cells (List.getD ((List.getD v3 (Int.toNat v6) default).Args) (Int.toNat v7) default))) (j := 0) hk rfl rfl rfl rfl rfl (by kernel_rfl) rfl rfl ?_; clear hk; intro w hk
        refine FW.lend (hK17 _ _ ?_); clear hK17 K'
        obtain ⟨t4, hr_t4, h⟩ := FW.bndG h
        obtain ⟨t5, hr_t5, h⟩ := FW.bndG h
        refine FW.wdraw (by kernel_rfl) (by kernel_rfl) hk ?_; clear hk
        refine FW.dfun (y := .lit (.pointer (some ⟨b1, 0, none⟩))) rfl rfl rfl rfl (fun a w hk => FW.f_fieldPtr hk (FW.holds_nil _) rfl Go.Proofs.Try.underlying38 rfl (by kernel_rfl) rfl) ?_
        refine FW.dfun (y := .lit (.int .i64 ((List.getD ((List.getD v3 (Int.toNat v6) default).Args) (Int.toNat v7) default).Kind))) rfl rfl rfl rfl (fun a w hk => FW.f_loadBlk1 hk (FW.holds_nil _) (j := 0) rfl rfl Go.Proofs.Try.underlying3 rfl rfl) ?_
        refine FW.dfun (y := .lit (.bool (decide (((List.getD ((List.getD v3 (Int.toNat v6) default).Args) (Int.toNat v7) default).Kind) = 2)))) rfl rfl rfl rfl (fun a w hk => (FW.f_pure (FW.p_eql hk.kn (FW.holds_nil _) rfl rfl))) ?_
        refine FW.dfun (y := .lit (.bool (decide (((List.getD ((List.getD v3 (Int.toNat v6) default).Args) (Int.toNat v7) default).Kind) = 2)))) rfl rfl rfl rfl (fun a w hk => FW.f_move hk (FW.holds_nil _) rfl) ?_
        refine FW.dfunG (y := .lit (.pointer (some ⟨b1, 7, none⟩))) rfl rfl rfl rfl rfl rfl rfl rfl rfl (fun a w hk hc => FW.f_fieldPtr hk hc rfl Go.Proofs.Try.underlying38 rfl (by kernel_rfl) rfl) ?_
        refine FW.dfunG (y := .agg ((ApiPred.cells ((List.getD ((List.getD v3 (Int.toNat v6) default).Args) (Int.toNat v7) default).P)))) rfl rfl rfl rfl rfl rfl rfl rfl rfl (fun a w hk hc => FW.f_loadBlk hk hc (j := 0) rfl rfl Go.Proofs.Try.underlying36 rfl rfl rfl rfl) ?_
        refine FW.dfunG (y := .lit (.string (FW.B t4))) rfl rfl rfl rfl rfl rfl rfl rfl rfl (fun a w hk hc => FW.f_call hk hc rfl rfl Go.Proofs.Try.func11 rfl (by kernel_rfl) (show_Pred.ok K ((List.getD ((List.getD v3 (Int.toNat v6) default).Args) (Int.toNat v7) default).P) _ (hr_t4 (FW.asm_out (p := (decide (((List.getD ((List.getD v3 (Int.toNat v6) default).Args) (Int.toNat v7) default).Kind) = 2)) = true) hk.kn hc (fun e0 => e0))))) ?_
        refine FW.dfunG (y := .lit (.pointer (some ⟨b1, 7, none⟩))) rfl rfl rfl rfl rfl rfl rfl rfl rfl (fun a w hk hc => FW.f_fieldPtr hk hc rfl Go.Proofs.Try.underlying38 rfl (by kernel_rfl) rfl) ?_
        refine FW.dfunG (y := .agg ((ApiPred.cells ((List.getD ((List.getD v3 (Int.toNat v6) default).Args) (Int.toNat v7) default).P)))) rfl rfl rfl rfl rfl rfl rfl rfl rfl (fun a w hk hc => FW.f_loadBlk hk hc (j := 0) rfl rfl Go.Proofs.Try.underlying36 rfl rfl rfl rfl) ?_
        refine FW.dfunG (y := .lit (.string (FW.B t5))) rfl rfl rfl rfl rfl rfl rfl rfl rfl (fun a w hk hc => FW.f_call hk hc rfl rfl Go.Proofs.Try.func12 rfl (by kernel_rfl) (offshootref13_Pred.ok K ((List.getD ((List.getD v3 (Int.toNat v6) default).Args) (Int.toNat v7) default).P) _ (hr_t5 (FW.asm_out (p := (decide (((List.getD ((List.getD v3 (Int.toNat v6) default).Args) (Int.toNat v7) default).Kind) = 2)) = true) hk.kn hc (fun e0 => e0))))) ?_
        refine FW.dfunG (y := .lit (.bool (!decide (t4 = t5)))) rfl rfl rfl rfl rfl rfl rfl rfl rfl (fun a w hk hc => (FW.f_pure (FW.p_sneq hk.kn hc rfl rfl))) ?_
        refine FW.dfun (y := .lit (.bool ((decide (((List.getD ((List.getD v3 (Int.toNat v6) default).Args) (Int.toNat v7) default).Kind) = 2)) && (!decide (t4 = t5))))) rfl rfl rfl rfl (fun a w hk => (FW.f_pure (FW.p_pick_and hk.kn (FW.holds_nil _) rfl rfl))) ?_
        refine FW.dend ?_; intro a w hk
        refine FW.wcondF (b := ((decide (((List.getD ((List.getD v3 (Int.toNat v6) default).Args) (Int.toNat v7) default).Kind) = 2)) && (!decide (t4 = t5)))) hk h rfl (fun h hb => ?_) (fun h hb => ?_)
        · skip
          refine FW.wreg ?_; intro K' hK19
          refine FW.lfun (y := .lit (.bool false)) hk rfl rfl rfl rfl (FW.f_assign hk (FW.holds_nil _) rfl) ?_; clear hk; intro a w hk
          refine FW.lend (hK19 _ _ ?_); clear hK19 K'
          refine wp_ret ?_
          (repeat first | refine FW.then_ret ?_ | refine FW.block_ret ?_)
          obtain rfl := Option.some.inj h
          exact FW.fret1 hk rfl rfl
        · skip
          refine wp_skip ?_
          (repeat first | refine FW.then_normal ?_ | refine FW.block_normal ?_); refine hK16 _ _ ?_
          refine FW.wreg1 ?_
          refine FW.lfun (y := .lit (.int .i64 v7)) hk rfl rfl rfl rfl (FW.f_move hk (FW.holds_nil _) rfl) ?_; clear hk; intro a w hk
          refine FW.lfun (y := .lit (.int .i64 (IntKind.wrap .i64 (v7 + 1)))) hk rfl rfl rfl rfl ((FW.f_pure (FW.p_add hk.kn (FW.holds_nil _) rfl rfl))) ?_; clear hk; intro a w hk
          refine FW.lfun (y := .lit (.int .i64 (IntKind.wrap .i64 (v7 + 1)))) hk rfl rfl rfl rfl (FW.f_assign hk (FW.holds_nil _) rfl) ?_; clear hk; intro a w hk
          refine wpList_nil ?_
          (repeat first | refine FW.then_normal ?_ | refine FW.block_normal ?_); exact hK13 (kl2, v3, v6, (IntKind.wrap .i64 (v7 + 1))) _ _ (Nat.lt_succ_self _) ⟨(hk.drop 0).sub ⟨rfl, rfl, rfl, trivial⟩, h⟩
      · skip
        refine wp_exit ?_; (repeat first | refine FW.then_exit ?_ | refine FW.block_exit_ne rfl ?_); refine FW.block_exit ?_
        (repeat first | refine FW.then_normal ?_ | refine FW.block_normal ?_); refine hK11 _ _ ?_
        refine FW.wreg1 ?_
        refine FW.lfun (y := .lit (.int .i64 v6)) hk rfl rfl rfl rfl (FW.f_move hk (FW.holds_nil _) rfl) ?_; clear hk; intro a w hk
        refine FW.lfun (y := .lit (.int .i64 (IntKind.wrap .i64 (v6 + 1)))) hk rfl rfl rfl rfl ((FW.f_pure (FW.p_add hk.kn (FW.holds_nil _) rfl rfl))) ?_; clear hk; intro a w hk
        refine FW.lfun (y := .lit (.int .i64 (IntKind.wrap .i64 (v6 + 1)))) hk rfl rfl rfl rfl (FW.f_assign hk (FW.holds_nil _) rfl) ?_; clear hk; intro a w hk
        refine wpList_nil ?_
        (repeat first | refine FW.then_normal ?_ | refine FW.block_normal ?_); exact hK8 (kl1, v3, (IntKind.wrap .i64 (v6 + 1))) _ _ (Nat.lt_succ_self _) ⟨hk.sub ⟨rfl, rfl, trivial⟩, h⟩
    · skip
      refine wp_exit ?_; (repeat first | refine FW.then_exit ?_ | refine FW.block_exit_ne rfl ?_); refine FW.block_exit ?_
      (repeat first | refine FW.then_normal ?_ | refine FW.block_normal ?_); refine hK6 _ _ ?_
      refine FW.wreg ?_; intro K' hK22
      refine FW.lfun (y := .lit (.bool true)) hk rfl rfl rfl rfl (FW.f_assign hk (FW.holds_nil _) rfl) ?_; clear hk; intro a w hk
      refine FW.lend (hK22 _ _ ?_); clear hK22 K'
      refine wp_ret ?_
      (repeat first | refine FW.then_ret ?_ | refine FW.block_ret ?_)
      obtain rfl := Option.some.inj h
      exact FW.fret1 hk rfl rfl
end Go.Proofs.Ytfmabehmohbahaa

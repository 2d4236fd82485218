/- Written by a program of this session (gen.py): the contracts of functions of the program. -/
import Derived.KernelRfl
import Derived.Test.YtbjbgodcenopnaaProg
import Derived.Test.YtbjbgodcenopnaaAvFun
import Derived.Test.YtbjbgodcenopnaaAvMan
import Derived.Test.YtbjbgodcenopnaaAvMore
import Derived.Test.YtbjbgodcenopnaaAvDraw2
import Derived.Test.YtbjbgodcenopnaaAvRow
import Derived.Test.YtbjbgodcenopnaaHrd
import Derived.Test.YtbjbgodcenopnaaPaD
import Derived.Test.YtbjbgodcenopnaaPaP4
namespace Go.Proofs.Ytbjbgodcenopnaa
set_option linter.unusedVariables false
set_option maxRecDepth 20000
set_option maxHeartbeats 10000000
theorem parse_parser_chain.bok (s_parse_parser_chain : OParseParser → Option (Except (Int × Int) (List ApiStep × OParseParser))) (s_parse_parser_step : OParseParser → Option (Except (Int × Int) (ApiStep × OParseParser))) (s_parse_parser_arg : OParseParser → Option (Except (Int × Int) (ApiArg × OParseParser))) (s_parse_parser_child : OParseParser → Option (Except (Int × Int) (List ApiStep × OParseParser))) (hs_parse_parser_chain : ∀ (v0 : OParseParser) (r : Except (Int × Int) (List ApiStep × OParseParser)), s_parse_parser_chain v0 = some r → ∀ (b0 : Nat), FW.OkX Go.Proofs.Try.prog 67 [.lit (.pointer (some ⟨b0, 0, none⟩))] (OParseParser.items b0 v0) (FW.qX r (fun rr => fun y I => y = .row (r_ApiStep_cells rr.1) ∧ I = OParseParser.items b0 rr.2) (fun e pv I => ∃ (o0 : OParseParser), pv = FW.faultV 115 e ∧ I = OParseParser.items b0 o0))) (hs_parse_parser_step : ∀ (v0 : OParseParser) (r : Except (Int × Int) (ApiStep × OParseParser)), s_parse_parser_step v0 = some r → ∀ (b0 : Nat), FW.OkX Go.Proofs.Try.prog 93 [.lit (.pointer (some ⟨b0, 0, none⟩))] (OParseParser.items b0 v0) (FW.qX r (fun rr => fun y I => y = .agg (ApiStep.cells rr.1) ∧ I = OParseParser.items b0 rr.2) (fun e pv I => ∃ (o0 : OParseParser), pv = FW.faultV 115 e ∧ I = OParseParser.items b0 o0))) (hs_parse_parser_arg : ∀ (v0 : OParseParser) (r : Except (Int × Int) (ApiArg × OParseParser)), s_parse_parser_arg v0 = some r → ∀ (b0 : Nat), FW.OkX Go.Proofs.Try.prog 120 [.lit (.pointer (some ⟨b0, 0, none⟩))] (OParseParser.items b0 v0) (FW.qX r (fun rr => fun y I => y = .agg (ApiArg.cells rr.1) ∧ I = OParseParser.items b0 rr.2) (fun e pv I => ∃ (o0 : OParseParser), pv = FW.faultV 115 e ∧ I = OParseParser.items b0 o0))) (hs_parse_parser_child : ∀ (v0 : OParseParser) (r : Except (Int × Int) (List ApiStep × OParseParser)), s_parse_parser_child v0 = some r → ∀ (b0 : Nat), FW.OkX Go.Proofs.Try.prog 147 [.lit (.pointer (some ⟨b0, 0, none⟩))] (OParseParser.items b0 v0) (FW.qX r (fun rr => fun y I => y = .row (r_ApiStep_cells rr.1) ∧ I = OParseParser.items b0 rr.2) (fun e pv I => ∃ (o0 : OParseParser), pv = FW.faultV 115 e ∧ I = OParseParser.items b0 o0))) (K : Nat) (v0 : OParseParser) (r : Except (Int × Int) (List ApiStep × OParseParser)) (h : parse_parser_chain.b s_parse_parser_chain s_parse_parser_step s_parse_parser_arg s_parse_parser_child K v0 = some r) :
    ∀ (b0 : Nat), FW.OkX Go.Proofs.Try.prog 67 [.lit (.pointer (some ⟨b0, 0, none⟩))] (OParseParser.items b0 v0) (FW.qX r (fun rr => fun y I => y = .row (r_ApiStep_cells rr.1) ∧ I = OParseParser.items b0 rr.2) (fun e pv I => ∃ (o0 : OParseParser), pv = FW.faultV 115 e ∧ I = OParseParser.items b0 o0)) := by
  intro b0
  refine FW.enterX (xs := [.lit (.pointer (some ⟨b0, 0, none⟩))]) Go.Proofs.Try.func67 rfl Go.Proofs.Try.ntmps67 rfl ?_
  intro M w0 a hk
  replace hk : FW.S M w0 a w0.toWorld 15 [FW.blk b0 87 ([.row (r_ApiWord_cells v0.l), .lit (.int .i64 v0.i), .lit (.int .i64 v0.deep), .lit (.int .i64 v0.steps)])] [(0, [], .lit (.pointer (some ⟨b0, 0, none⟩)))] := hk
  unfold parse_parser_chain.b at h
  refine FW.wreg ?_; intro K' hK1
  refine FW.lfun (y := .row (r_ApiStep_cells [])) hk rfl rfl rfl rfl (FW.f_assignNil) ?_; clear hk; intro a w hk
  refine FW.lend (hK1 _ _ ?_); clear hK1 K'
  refine FW.wreg ?_; intro K' hK2
  refine FW.lfun (y := .lit (.pointer (some ⟨b0, 0, none⟩))) hk rfl rfl rfl rfl (FW.f_move hk (FW.holds_nil _) rfl) ?_; clear hk; intro a w hk
  rcases FW.bndX h with ⟨e_t1, hr_t1, rfl⟩ | ⟨t1, hr_t1, h⟩
  · skip
    refine FW.l_callXE (I1 := (OParseParser.items b0 v0)) (I2 := []) (js := [0]) hk rfl rfl rfl Go.Proofs.Try.func93 rfl (by kernel_rfl) (hs_parse_parser_step v0 _ hr_t1 b0) ?_; clear hk
    rintro _ _ ⟨vE1, rfl, rfl⟩ w hk
    exact FW.fpan (P := Go.Proofs.Try.prog) (fn := Go.Proofs.Try.f67) (I1 := [FW.blk b0 87 ([.row (r_ApiWord_cells vE1.l), .lit (.int .i64 vE1.i), .lit (.int .i64 vE1.deep), .lit (.int .i64 vE1.steps)])]) (I2 := []) (js := [0]) hk rfl ⟨_, rfl, vE1, rfl, rfl⟩
  refine FW.l_callH (I1 := (OParseParser.items b0 v0)) (I2 := []) (js := [0]) hk rfl rfl rfl rfl rfl Go.Proofs.Try.func93 rfl (by kernel_rfl) (FW.OkX.toH (hs_parse_parser_step v0 _ hr_t1 b0)) ?_; clear hk
  rintro _ _ ⟨rfl, rfl⟩ a w hk
  refine FW.l_buildSlice (f := ApiStep.cells) (l := ([t1.1] : List ApiStep)) hk rfl rfl rfl Go.Proofs.Try.underlying22 rfl rfl rfl rfl (fun _ => rfl) rfl ?_; clear hk; intro bx1 a w hk
  refine FW.lfun (y := .lit (.slice (some ⟨bx1, 0, none⟩) (List.length ([t1.1] : List ApiStep)) 1)) hk rfl rfl rfl rfl (FW.f_assign hk (FW.holds_nil _) rfl) ?_; clear hk; intro a w hk
  refine FW.lend (hK2 _ _ ?_); clear hK2 K'
  refine FW.wseq ?_; intro K' hK3
  refine wp_block ?_
  refine FW.wloop (T := Nat × List ApiStep × List ApiWord × Int × Int × Int × Option Addr × Nat) (fun x a w => match x with | (kl1, l2, y1_0, y1_1, y1_2, y1_3, xd2, xc2) => FW.S M w0 a w 15 [FW.orow xd2 xc2 29 2 ApiStep.cells l2, FW.blk b0 87 ([.row (r_ApiWord_cells y1_0), .lit (.int .i64 y1_1), .lit (.int .i64 y1_2), .lit (.int .i64 y1_3)])] [(0, [], .lit (.pointer (some ⟨b0, 0, none⟩))), (3, [], .lit (.slice xd2 (List.length l2) xc2))] ∧ parse_parser_chain.l1 s_parse_parser_chain s_parse_parser_step s_parse_parser_arg s_parse_parser_child K kl1 l2 y1_0 y1_1 y1_2 y1_3 = some r) (fun x => x.1) (K, ([t1.1] : List ApiStep), t1.2.l, t1.2.i, t1.2.deep, t1.2.steps, (some ⟨bx1, 0, none⟩), 1) ⟨hk.sub ⟨rfl, rfl, trivial⟩, h⟩ ?_
  clear hk h
  rintro ⟨kl1, l2, y1_0, y1_1, y1_2, y1_3, xd2, xc2⟩ a w ⟨hk, h⟩ K' hK4
  cases kl1 with
  | zero => simp [parse_parser_chain.l1] at h
  | succ kl1 =>
  rw [parse_parser_chain.l1.eq_2] at h
  refine FW.wseq ?_; intro K' hK5
  refine FW.wreg ?_; intro K' hK6
  refine FW.lfun (y := .lit (.pointer (some ⟨b0, 0, none⟩))) hk rfl rfl rfl rfl (FW.f_move hk (FW.holds_nil _) rfl) ?_; clear hk; intro a w hk
  obtain ⟨t2, hr_t2, h⟩ := FW.bnd h
  refine FW.l_callH (I1 := (OParseParser.items b0 (⟨y1_0, y1_1, y1_2, y1_3⟩ : OParseParser))) (I2 := [FW.orow xd2 xc2 29 2 ApiStep.cells l2]) (js := [1]) hk rfl rfl rfl rfl rfl Go.Proofs.Try.func92 rfl (by kernel_rfl) (parse_parser_sign.ok (⟨y1_0, y1_1, y1_2, y1_3⟩ : OParseParser) ([46] : List UInt8) _ hr_t2 b0) ?_; clear hk
  rintro _ _ ⟨rfl, rfl⟩ a w hk
  refine FW.lend (hK6 _ _ ?_); clear hK6 K'
  refine FW.wcondF (b := t2.1) hk h rfl (fun h hb => ?_) (fun h hb => ?_)
  · skip
    refine wp_skip ?_
    (repeat first | refine FW.then_normal ?_ | refine FW.block_normal ?_); refine hK5 _ _ ?_
    refine wp_block ?_
    refine FW.wreg1 ?_
    refine FW.lfun (y := .lit (.slice xd2 (List.length l2) xc2)) hk rfl rfl rfl rfl (FW.f_move hk (FW.holds_nil _) rfl) ?_; clear hk; intro a w hk
    refine FW.lfun (y := .lit (.pointer (some ⟨b0, 0, none⟩))) hk rfl rfl rfl rfl (FW.f_move hk (FW.holds_nil _) rfl) ?_; clear hk; intro a w hk
    rcases FW.bndX h with ⟨e_t3, hr_t3, rfl⟩ | ⟨t3, hr_t3, h⟩
    · skip
      refine FW.l_callXE (I1 := (OParseParser.items b0 t2.2)) (I2 := [FW.orow xd2 xc2 29 2 ApiStep.cells l2]) (js := [0]) hk rfl rfl rfl Go.Proofs.Try.func93 rfl (by kernel_rfl) (hs_parse_parser_step t2.2 _ hr_t3 b0) ?_; clear hk
      rintro _ _ ⟨vE2, rfl, rfl⟩ w hk
      exact FW.fpan (P := Go.Proofs.Try.prog) (fn := Go.Proofs.Try.f67) (I1 := [FW.blk b0 87 ([.row (r_ApiWord_cells vE2.l), .lit (.int .i64 vE2.i), .lit (.int .i64 vE2.deep), .lit (.int .i64 vE2.steps)])]) (I2 := [FW.orow xd2 xc2 29 2 ApiStep.cells l2]) (js := [0]) hk rfl ⟨_, rfl, vE2, rfl, rfl⟩
    refine FW.l_callH (I1 := (OParseParser.items b0 t2.2)) (I2 := [FW.orow xd2 xc2 29 2 ApiStep.cells l2]) (js := [0]) hk rfl rfl rfl rfl rfl Go.Proofs.Try.func93 rfl (by kernel_rfl) (FW.OkX.toH (hs_parse_parser_step t2.2 _ hr_t3 b0)) ?_; clear hk
    rintro _ _ ⟨rfl, rfl⟩ a w hk
    refine FW.l_buildSlice (f := ApiStep.cells) (l := ([t3.1] : List ApiStep)) hk rfl rfl rfl Go.Proofs.Try.underlying22 rfl rfl rfl rfl (fun _ => rfl) rfl ?_; clear hk; intro bx2 a w hk
    obtain ⟨hc1, h⟩ := FW.chk h
    refine FW.l_append (l2 := ([t3.1] : List ApiStep)) (l3 := (l2 ++ ([t3.1] : List ApiStep))) (I' := fun ad1 cap1 => [FW.orow (some ⟨bx2, 0, none⟩) 1 29 2 ApiStep.cells ([t3.1] : List ApiStep), FW.blk b0 87 ([.row (r_ApiWord_cells t3.2.l), .lit (.int .i64 t3.2.i), .lit (.int .i64 t3.2.deep), .lit (.int .i64 t3.2.steps)]), FW.orow ad1 cap1 29 2 ApiStep.cells (l2 ++ ([t3.1] : List ApiStep))]) (j := 2) hk rfl rfl rfl rfl (FW.own_src hk (j := 0) rfl rfl (fun _ => rfl) Go.Proofs.Try.underlying22) Go.Proofs.Try.underlying22 (by kernel_rfl) hc1 rfl (fun _ _ => rfl) ?_; clear hk; intro ad1 cap1 a w hk
    replace hk := FW.S.dropI (I' := [FW.blk b0 87 ([.row (r_ApiWord_cells t3.2.l), .lit (.int .i64 t3.2.i), .lit (.int .i64 t3.2.deep), .lit (.int .i64 t3.2.steps)]), FW.orow ad1 cap1 29 2 ApiStep.cells (l2 ++ ([t3.1] : List ApiStep))]) hk 0 rfl
    refine FW.lfun (y := .lit (.slice ad1 (List.length (l2 ++ ([t3.1] : List ApiStep))) cap1)) hk rfl rfl rfl rfl (FW.f_assign hk (FW.holds_nil _) rfl) ?_; clear hk; intro a w hk
    refine wpList_nil ?_
    (repeat first | refine FW.then_normal ?_ | refine FW.block_normal ?_); exact hK4 (kl1, (l2 ++ ([t3.1] : List ApiStep)), t3.2.l, t3.2.i, t3.2.deep, t3.2.steps, ad1, cap1) _ _ (Nat.lt_succ_self _) ⟨(FW.S.pick hk (js := [0, 1]) rfl).sub ⟨rfl, rfl, trivial⟩, h⟩
  · skip
    refine wp_exit ?_; (repeat first | refine FW.then_exit ?_ | refine FW.block_exit_ne rfl ?_); refine FW.block_exit ?_
    (repeat first | refine FW.then_normal ?_ | refine FW.block_normal ?_); refine hK3 _ _ ?_
    refine FW.wreg ?_; intro K' hK8
    refine FW.lfun (y := .lit (.slice xd2 (List.length l2) xc2)) hk rfl rfl rfl rfl (FW.f_move hk (FW.holds_nil _) rfl) ?_; clear hk; intro a w hk
    refine FW.lfun (y := .lit (.slice xd2 (List.length l2) xc2)) hk rfl rfl rfl rfl (FW.f_assign hk (FW.holds_nil _) rfl) ?_; clear hk; intro a w hk
    refine FW.lend (hK8 _ _ ?_); clear hK8 K'
    refine wp_ret ?_
    (repeat first | refine FW.then_ret ?_ | refine FW.block_ret ?_)
    replace hk := FW.S.freezeR (I' := [FW.blk b0 87 ([.row (r_ApiWord_cells t2.2.l), .lit (.int .i64 t2.2.i), .lit (.int .i64 t2.2.deep), .lit (.int .i64 t2.2.steps)])]) r_ApiStep_cells_eq hk (j := 1) rfl (t := 2) rfl rfl
    obtain rfl := Option.some.inj h
    replace hk := FW.S.keep (I1 := [FW.blk b0 87 ([.row (r_ApiWord_cells t2.2.l), .lit (.int .i64 t2.2.i), .lit (.int .i64 t2.2.deep), .lit (.int .i64 t2.2.steps)])]) (I2 := []) (js := [0]) hk rfl
    exact FW.toXq (FW.fretH1 hk rfl (FW.rtmp hk rfl) ⟨rfl, rfl⟩)
theorem parse_parser_step.bok (s_parse_parser_chain : OParseParser → Option (Except (Int × Int) (List ApiStep × OParseParser))) (s_parse_parser_step : OParseParser → Option (Except (Int × Int) (ApiStep × OParseParser))) (s_parse_parser_arg : OParseParser → Option (Except (Int × Int) (ApiArg × OParseParser))) (s_parse_parser_child : OParseParser → Option (Except (Int × Int) (List ApiStep × OParseParser))) (hs_parse_parser_chain : ∀ (v0 : OParseParser) (r : Except (Int × Int) (List ApiStep × OParseParser)), s_parse_parser_chain v0 = some r → ∀ (b0 : Nat), FW.OkX Go.Proofs.Try.prog 67 [.lit (.pointer (some ⟨b0, 0, none⟩))] (OParseParser.items b0 v0) (FW.qX r (fun rr => fun y I => y = .row (r_ApiStep_cells rr.1) ∧ I = OParseParser.items b0 rr.2) (fun e pv I => ∃ (o0 : OParseParser), pv = FW.faultV 115 e ∧ I = OParseParser.items b0 o0))) (hs_parse_parser_step : ∀ (v0 : OParseParser) (r : Except (Int × Int) (ApiStep × OParseParser)), s_parse_parser_step v0 = some r → ∀ (b0 : Nat), FW.OkX Go.Proofs.Try.prog 93 [.lit (.pointer (some ⟨b0, 0, none⟩))] (OParseParser.items b0 v0) (FW.qX r (fun rr => fun y I => y = .agg (ApiStep.cells rr.1) ∧ I = OParseParser.items b0 rr.2) (fun e pv I => ∃ (o0 : OParseParser), pv = FW.faultV 115 e ∧ I = OParseParser.items b0 o0))) (hs_parse_parser_arg : ∀ (v0 : OParseParser) (r : Except (Int × Int) (ApiArg × OParseParser)), s_parse_parser_arg v0 = some r → ∀ (b0 : Nat), FW.OkX Go.Proofs.Try.prog 120 [.lit (.pointer (some ⟨b0, 0, none⟩))] (OParseParser.items b0 v0) (FW.qX r (fun rr => fun y I => y = .agg (ApiArg.cells rr.1) ∧ I = OParseParser.items b0 rr.2) (fun e pv I => ∃ (o0 : OParseParser), pv = FW.faultV 115 e ∧ I = OParseParser.items b0 o0))) (hs_parse_parser_child : ∀ (v0 : OParseParser) (r : Except (Int × Int) (List ApiStep × OParseParser)), s_parse_parser_child v0 = some r → ∀ (b0 : Nat), FW.OkX Go.Proofs.Try.prog 147 [.lit (.pointer (some ⟨b0, 0, none⟩))] (OParseParser.items b0 v0) (FW.qX r (fun rr => fun y I => y = .row (r_ApiStep_cells rr.1) ∧ I = OParseParser.items b0 rr.2) (fun e pv I => ∃ (o0 : OParseParser), pv = FW.faultV 115 e ∧ I = OParseParser.items b0 o0))) (K : Nat) (v0 : OParseParser) (r : Except (Int × Int) (ApiStep × OParseParser)) (h : parse_parser_step.b s_parse_parser_chain s_parse_parser_step s_parse_parser_arg s_parse_parser_child K v0 = some r) :
    ∀ (b0 : Nat), FW.OkX Go.Proofs.Try.prog 93 [.lit (.pointer (some ⟨b0, 0, none⟩))] (OParseParser.items b0 v0) (FW.qX r (fun rr => fun y I => y = .agg (ApiStep.cells rr.1) ∧ I = OParseParser.items b0 rr.2) (fun e pv I => ∃ (o0 : OParseParser), pv = FW.faultV 115 e ∧ I = OParseParser.items b0 o0)) := by
  intro b0
  refine FW.enterX (xs := [.lit (.pointer (some ⟨b0, 0, none⟩))]) Go.Proofs.Try.func93 rfl Go.Proofs.Try.ntmps93 rfl ?_
  intro M w0 a hk
  replace hk : FW.S M w0 a w0.toWorld 46 [FW.blk b0 87 ([.row (r_ApiWord_cells v0.l), .lit (.int .i64 v0.i), .lit (.int .i64 v0.deep), .lit (.int .i64 v0.steps)])] [(0, [], .lit (.pointer (some ⟨b0, 0, none⟩)))] := hk
  unfold parse_parser_step.b at h
  refine FW.wreg ?_; intro K' hK1
  refine FW.l_alloc (zs := (ApiStep.cells (⟨[], []⟩ : ApiStep))) [] hk rfl rfl rfl rfl ?_; clear hk; intro bx1 a w hk
  refine FW.lend (hK1 _ _ ?_); clear hK1 K'
  refine FW.wseqJ (fun a w => ∃ (y1_0 : List ApiWord) (y1_1 : Int) (y1_2 : Int) (y1_3 : Int) (y2 : ApiStep), FW.S M w0 a w 46 [FW.blk b0 87 ([.row (r_ApiWord_cells y1_0), .lit (.int .i64 y1_1), .lit (.int .i64 y1_2), .lit (.int .i64 y1_3)]), FW.blk bx1 29 ((ApiStep.cells y2))] [(0, [], .lit (.pointer (some ⟨b0, 0, none⟩))), (2, [], .lit (.pointer (some ⟨bx1, 0, none⟩)))] ∧ parse_parser_step.j1 s_parse_parser_chain s_parse_parser_step s_parse_parser_arg s_parse_parser_child K y1_0 y1_1 y1_2 y1_3 y2 = some r) ?_ ?_
  · clear hk h
    rintro a w ⟨y1_0, y1_1, y1_2, y1_3, y2, hk, h⟩
    unfold parse_parser_step.j1 at h
    refine FW.wreg ?_; intro K' hK3
    refine FW.lfun (y := .lit (.pointer (some ⟨b0, 0, none⟩))) hk rfl rfl rfl rfl (FW.f_move hk (FW.holds_nil _) rfl) ?_; clear hk; intro a w hk
    rcases FW.bndX h with ⟨e_t1, hr_t1, rfl⟩ | ⟨t1, hr_t1, h⟩
    · skip
      refine FW.l_callXE (I1 := (OParseParser.items b0 (⟨y1_0, y1_1, y1_2, y1_3⟩ : OParseParser))) (I2 := [FW.blk bx1 29 ((ApiStep.cells y2))]) (js := [0]) hk rfl rfl rfl Go.Proofs.Try.func64 rfl (by kernel_rfl) (parse_parser_name.ok (⟨y1_0, y1_1, y1_2, y1_3⟩ : OParseParser) _ hr_t1 b0) ?_; clear hk
      rintro _ _ ⟨vE1, rfl, rfl⟩ w hk
      exact FW.fpan (P := Go.Proofs.Try.prog) (fn := Go.Proofs.Try.f93) (I1 := [FW.blk b0 87 ([.row (r_ApiWord_cells vE1.l), .lit (.int .i64 vE1.i), .lit (.int .i64 vE1.deep), .lit (.int .i64 vE1.steps)])]) (I2 := [FW.blk bx1 29 ((ApiStep.cells y2))]) (js := [0]) hk rfl ⟨_, rfl, vE1, rfl, rfl⟩
    refine FW.l_callH (I1 := (OParseParser.items b0 (⟨y1_0, y1_1, y1_2, y1_3⟩ : OParseParser))) (I2 := [FW.blk bx1 29 ((ApiStep.cells y2))]) (js := [0]) hk rfl rfl rfl rfl rfl Go.Proofs.Try.func64 rfl (by kernel_rfl) (FW.OkX.toH (parse_parser_name.ok (⟨y1_0, y1_1, y1_2, y1_3⟩ : OParseParser) _ hr_t1 b0)) ?_; clear hk
    rintro _ _ ⟨rfl, rfl⟩ a w hk
    refine FW.lfun (y := .agg ([.lit (.string (FW.B t1.1)), .lit (.slice none 0 0)])) hk rfl rfl rfl rfl (FW.f_buildN [1] hk (FW.holds_nil _) rfl rfl rfl) ?_; clear hk; intro a w hk
    refine FW.l_alloc (zs := (ApiStep.cells (⟨[], []⟩ : ApiStep))) [] hk rfl rfl rfl rfl ?_; clear hk; intro bx2 a w hk
    refine FW.l_store (I' := [FW.blk bx2 29 ([.lit (.string (FW.B t1.1)), .lit (.slice none 0 0)]), FW.blk b0 87 ([.row (r_ApiWord_cells t1.2.l), .lit (.int .i64 t1.2.i), .lit (.int .i64 t1.2.deep), .lit (.int .i64 t1.2.steps)]), FW.blk bx1 29 ((ApiStep.cells y2))]) (cs' := [.lit (.string (FW.B t1.1)), .lit (.slice none 0 0)]) (j := 0) hk rfl rfl rfl rfl rfl (by kernel_rfl) rfl rfl ?_; clear hk; intro w hk
    replace hk := hk.nilRow 38 11 ApiArg.cells (fun _ => rfl)
    refine FW.lend (hK3 _ _ ?_); clear hK3 K'
    refine FW.wreg ?_; intro K' hK4
    refine FW.lfun (y := .lit (.pointer (some ⟨b0, 0, none⟩))) hk rfl rfl rfl rfl (FW.f_move hk (FW.holds_nil _) rfl) ?_; clear hk; intro a w hk
    rcases FW.bndX h with ⟨e_t2, hr_t2, rfl⟩ | ⟨t2, hr_t2, h⟩
    · skip
      refine FW.l_callXE (I1 := (OParseParser.items b0 t1.2)) (I2 := [FW.orow none 0 38 11 ApiArg.cells ([] : List ApiArg), FW.blk bx2 29 ([.lit (.string (FW.B t1.1)), .lit (.slice none (List.length ([] : List ApiArg)) 0)]), FW.blk bx1 29 ((ApiStep.cells y2))]) (js := [2]) hk rfl rfl rfl Go.Proofs.Try.func66 rfl (by kernel_rfl) (parse_parser_must.ok t1.2 ([40] : List UInt8) _ hr_t2 b0) ?_; clear hk
      rintro _ _ ⟨vE2, rfl, rfl⟩ w hk
      exact FW.fpan (P := Go.Proofs.Try.prog) (fn := Go.Proofs.Try.f93) (I1 := [FW.blk b0 87 ([.row (r_ApiWord_cells vE2.l), .lit (.int .i64 vE2.i), .lit (.int .i64 vE2.deep), .lit (.int .i64 vE2.steps)])]) (I2 := [FW.orow none 0 38 11 ApiArg.cells ([] : List ApiArg), FW.blk bx2 29 ([.lit (.string (FW.B t1.1)), .lit (.slice none (List.length ([] : List ApiArg)) 0)]), FW.blk bx1 29 ((ApiStep.cells y2))]) (js := [0]) hk rfl ⟨_, rfl, vE2, rfl, rfl⟩
    refine FW.l_callH (I1 := (OParseParser.items b0 t1.2)) (I2 := [FW.orow none 0 38 11 ApiArg.cells ([] : List ApiArg), FW.blk bx2 29 ([.lit (.string (FW.B t1.1)), .lit (.slice none (List.length ([] : List ApiArg)) 0)]), FW.blk bx1 29 ((ApiStep.cells y2))]) (js := [2]) hk rfl rfl rfl rfl rfl Go.Proofs.Try.func66 rfl (by kernel_rfl) (FW.OkX.toH (parse_parser_must.ok t1.2 ([40] : List UInt8) _ hr_t2 b0)) ?_; clear hk
    rintro _ _ ⟨rfl, rfl⟩ a w hk
    refine FW.lend (hK4 _ _ ?_); clear hK4 K'
    refine FW.wseq ?_; intro K' hK5
    refine wp_block ?_
    refine FW.wloop (T := Nat × List ApiWord × Int × Int × Int × List ApiArg × List UInt8 × ApiStep × Option Addr × Nat) (fun x a w => match x with | (kl1, y1_0, y1_1, y1_2, y1_3, l4, y3_0, y2, xd4, xc4) => FW.S M w0 a w 46 [FW.blk b0 87 ([.row (r_ApiWord_cells y1_0), .lit (.int .i64 y1_1), .lit (.int .i64 y1_2), .lit (.int .i64 y1_3)]), FW.orow xd4 xc4 38 11 ApiArg.cells l4, FW.blk bx2 29 ([.lit (.string (FW.B y3_0)), .lit (.slice xd4 (List.length l4) xc4)]), FW.blk bx1 29 ((ApiStep.cells y2))] [(0, [], .lit (.pointer (some ⟨b0, 0, none⟩))), (2, [], .lit (.pointer (some ⟨bx1, 0, none⟩))), (3, [], .lit (.pointer (some ⟨bx2, 0, none⟩)))] ∧ parse_parser_step.l1 s_parse_parser_chain s_parse_parser_step s_parse_parser_arg s_parse_parser_child K kl1 y1_0 y1_1 y1_2 y1_3 l4 y3_0 y2 = some r) (fun x => x.1) (K, t2.l, t2.i, t2.deep, t2.steps, ([] : List ApiArg), t1.1, y2, none, 0) ⟨hk.sub ⟨rfl, rfl, rfl, trivial⟩, h⟩ ?_
    clear hk h
    rintro ⟨kl1, y1_0, y1_1, y1_2, y1_3, l4, y3_0, y2, xd4, xc4⟩ a w ⟨hk, h⟩ K' hK6
    cases kl1 with
    | zero => simp [parse_parser_step.l1] at h
    | succ kl1 =>
    rw [parse_parser_step.l1.eq_2] at h
    refine FW.wseq ?_; intro K' hK7
    refine FW.wreg ?_; intro K' hK8
    refine FW.lfun (y := .lit (.pointer (some ⟨b0, 0, none⟩))) hk rfl rfl rfl rfl (FW.f_move hk (FW.holds_nil _) rfl) ?_; clear hk; intro a w hk
    obtain ⟨t3, hr_t3, h⟩ := FW.bnd h
    refine FW.l_callH (I1 := (OParseParser.items b0 (⟨y1_0, y1_1, y1_2, y1_3⟩ : OParseParser))) (I2 := [FW.orow xd4 xc4 38 11 ApiArg.cells l4, FW.blk bx2 29 ([.lit (.string (FW.B y3_0)), .lit (.slice xd4 (List.length l4) xc4)]), FW.blk bx1 29 ((ApiStep.cells y2))]) (js := [0]) hk rfl rfl rfl rfl rfl Go.Proofs.Try.func92 rfl (by kernel_rfl) (parse_parser_sign.ok (⟨y1_0, y1_1, y1_2, y1_3⟩ : OParseParser) ([41] : List UInt8) _ hr_t3 b0) ?_; clear hk
    rintro _ _ ⟨rfl, rfl⟩ a w hk
    refine FW.lfun (y := .lit (.bool (!t3.1))) hk rfl rfl rfl rfl ((FW.f_pure (FW.p_not hk.kn (FW.holds_nil _) rfl))) ?_; clear hk; intro a w hk
    refine FW.lend (hK8 _ _ ?_); clear hK8 K'
    refine FW.wcondF (b := (!t3.1)) hk h rfl (fun h hb => ?_) (fun h hb => ?_)
    · skip
      refine wp_skip ?_
      (repeat first | refine FW.then_normal ?_ | refine FW.block_normal ?_); refine hK7 _ _ ?_
      refine wp_block ?_
      refine FW.wseqJ (fun a w => ∃ (y1_0 : List ApiWord) (y1_1 : Int) (y1_2 : Int) (y1_3 : Int) (l4 : List ApiArg) (y3_0 : List UInt8) (y2 : ApiStep) (xd4 : Option Addr) (xc4 : Nat), FW.S M w0 a w 46 [FW.blk b0 87 ([.row (r_ApiWord_cells y1_0), .lit (.int .i64 y1_1), .lit (.int .i64 y1_2), .lit (.int .i64 y1_3)]), FW.orow xd4 xc4 38 11 ApiArg.cells l4, FW.blk bx2 29 ([.lit (.string (FW.B y3_0)), .lit (.slice xd4 (List.length l4) xc4)]), FW.blk bx1 29 ((ApiStep.cells y2))] [(0, [], .lit (.pointer (some ⟨b0, 0, none⟩))), (2, [], .lit (.pointer (some ⟨bx1, 0, none⟩))), (3, [], .lit (.pointer (some ⟨bx2, 0, none⟩)))] ∧ parse_parser_step.j2 s_parse_parser_chain s_parse_parser_step s_parse_parser_arg s_parse_parser_child (parse_parser_step.l1 s_parse_parser_chain s_parse_parser_step s_parse_parser_arg s_parse_parser_child K kl1) K y1_0 y1_1 y1_2 y1_3 l4 y3_0 y2 = some r) ?_ ?_
      · clear hk h
        rintro a w ⟨y1_0, y1_1, y1_2, y1_3, l4, y3_0, y2, xd4, xc4, hk, h⟩
        unfold parse_parser_step.j2 at h
        refine FW.wseqJ (fun a w => ∃ (y1_0 : List ApiWord) (y1_1 : Int) (y1_2 : Int) (y1_3 : Int) (l4 : List ApiArg) (y3_0 : List UInt8) (y2 : ApiStep) (xd4 : Option Addr) (xc4 : Nat), FW.S M w0 a w 46 [FW.blk b0 87 ([.row (r_ApiWord_cells y1_0), .lit (.int .i64 y1_1), .lit (.int .i64 y1_2), .lit (.int .i64 y1_3)]), FW.orow xd4 xc4 38 11 ApiArg.cells l4, FW.blk bx2 29 ([.lit (.string (FW.B y3_0)), .lit (.slice xd4 (List.length l4) xc4)]), FW.blk bx1 29 ((ApiStep.cells y2))] [(0, [], .lit (.pointer (some ⟨b0, 0, none⟩))), (2, [], .lit (.pointer (some ⟨bx1, 0, none⟩))), (3, [], .lit (.pointer (some ⟨bx2, 0, none⟩)))] ∧ parse_parser_step.j3 s_parse_parser_chain s_parse_parser_step s_parse_parser_arg s_parse_parser_child (parse_parser_step.l1 s_parse_parser_chain s_parse_parser_step s_parse_parser_arg s_parse_parser_child K kl1) K y1_0 y1_1 y1_2 y1_3 l4 y3_0 y2 = some r) ?_ ?_
        · clear hk h
          rintro a w ⟨y1_0, y1_1, y1_2, y1_3, l4, y3_0, y2, xd4, xc4, hk, h⟩
          unfold parse_parser_step.j3 at h
          rcases FW.bndX h with ⟨e_t4, hr_t4, rfl⟩ | ⟨t4, hr_t4, h⟩
          · skip
            refine FW.wdrawE1 (.next [true, true, true, false, false, false, false, false] 3 [true, true, true, false, false, false, false, false] (.next [true, true, false, false, false, false, false, false] 4 [true, true, true, true, false, false, false, false] (.next [true, true, false, false, false, false, false, false] 5 [true, true, true, true, true, false, false, false] (.next [false, false, false, false, false, false, true, false] 7 [true, true, true, true, true, true, true, false] (.leaf [false, false, false, false, false, false, false, false]))))) [(38, [], .lit (.pointer (some ⟨bx2, 1, none⟩))), (39, [], .lit (.slice xd4 (List.length l4) xc4)), (40, [], .lit (.pointer (some ⟨b0, 0, none⟩))), (41, [], .agg []), (42, [], .agg []), (43, [], .agg []), (44, [], .agg []), (46, [], .lit undef)] (by kernel_rfl) (by kernel_rfl) (by kernel_rfl) (by kernel_rfl) hk ?_; clear hk
            refine FW.gnext ?_ rfl rfl rfl rfl rfl ?_
            · skip
              refine FW.gfun (y := .lit (.pointer (some ⟨bx2, 1, none⟩))) rfl rfl rfl rfl (fun a w hk => FW.f_fieldPtr hk (FW.holds_nil _) rfl Go.Proofs.Try.underlying29 rfl (by kernel_rfl) rfl) ?_
              refine FW.gfun (y := .lit (.slice xd4 (List.length l4) xc4)) rfl rfl rfl rfl (fun a w hk => FW.f_loadBlk1 hk (FW.holds_nil _) (j := 2) rfl rfl Go.Proofs.Try.underlying27 rfl rfl) ?_
              refine FW.gfun (y := .lit (.pointer (some ⟨b0, 0, none⟩))) rfl rfl rfl rfl (fun a w hk => FW.f_move hk (FW.holds_nil _) rfl) ?_
              refine FW.gskip rfl rfl ?_
              refine FW.gskip rfl rfl ?_
              refine FW.gskip rfl rfl ?_
              refine FW.gskip rfl rfl ?_
              refine FW.gskip0 rfl ?_
              exact FW.gend
            · skip
              intro σD a w opsD QD hk hf hQ hX
              refine FW.l_callXE (I1 := (OParseParser.items b0 (⟨y1_0, y1_1, y1_2, y1_3⟩ : OParseParser))) (I2 := [FW.orow xd4 xc4 38 11 ApiArg.cells l4, FW.blk bx2 29 ([.lit (.string (FW.B y3_0)), .lit (.slice xd4 (List.length l4) xc4)]), FW.blk bx1 29 ((ApiStep.cells y2))]) (js := [0]) hk rfl rfl rfl Go.Proofs.Try.func120 rfl (by kernel_rfl) (hs_parse_parser_arg (⟨y1_0, y1_1, y1_2, y1_3⟩ : OParseParser) _ hr_t4 b0) ?_; clear hk
              rintro _ _ ⟨vEt4, rfl, rfl⟩ w hk
              exact hX _ _ _ (fun e => nomatch e) (FW.fpan (P := Go.Proofs.Try.prog) (fn := Go.Proofs.Try.f93) (I1 := [FW.blk b0 87 ([.row (r_ApiWord_cells vEt4.l), .lit (.int .i64 vEt4.i), .lit (.int .i64 vEt4.deep), .lit (.int .i64 vEt4.steps)])]) (I2 := [FW.orow xd4 xc4 38 11 ApiArg.cells l4, FW.blk bx2 29 ([.lit (.string (FW.B y3_0)), .lit (.slice xd4 (List.length l4) xc4)]), FW.blk bx1 29 ((ApiStep.cells y2))]) (js := [0]) hk rfl ⟨_, rfl, vEt4, rfl, rfl⟩)
          obtain ⟨hc1, h⟩ := FW.chk h
          refine FW.wdrawE1 (.next [true, true, true, false, false, false, false, false] 3 [true, true, true, false, false, false, false, false] (.next [true, true, false, false, false, false, false, false] 4 [true, true, true, true, false, false, false, false] (.next [true, true, false, false, false, false, false, false] 5 [true, true, true, true, true, false, false, false] (.next [false, false, false, false, false, false, true, false] 7 [true, true, true, true, true, true, true, false] (.leaf [false, false, false, false, false, false, false, false]))))) [(38, [], .lit (.pointer (some ⟨bx2, 1, none⟩))), (39, [], .lit (.slice xd4 (List.length l4) xc4)), (40, [], .lit (.pointer (some ⟨b0, 0, none⟩))), (41, [], .agg []), (42, [], .agg []), (43, [], .agg []), (44, [], .agg []), (46, [], .lit undef)] (by kernel_rfl) (by kernel_rfl) (by kernel_rfl) (by kernel_rfl) hk ?_; clear hk
          refine FW.gnext ?_ rfl rfl rfl rfl rfl ?_
          · skip
            refine FW.gfun (y := .lit (.pointer (some ⟨bx2, 1, none⟩))) rfl rfl rfl rfl (fun a w hk => FW.f_fieldPtr hk (FW.holds_nil _) rfl Go.Proofs.Try.underlying29 rfl (by kernel_rfl) rfl) ?_
            refine FW.gfun (y := .lit (.slice xd4 (List.length l4) xc4)) rfl rfl rfl rfl (fun a w hk => FW.f_loadBlk1 hk (FW.holds_nil _) (j := 2) rfl rfl Go.Proofs.Try.underlying27 rfl rfl) ?_
            refine FW.gfun (y := .lit (.pointer (some ⟨b0, 0, none⟩))) rfl rfl rfl rfl (fun a w hk => FW.f_move hk (FW.holds_nil _) rfl) ?_
            refine FW.gskip rfl rfl ?_
            refine FW.gskip rfl rfl ?_
            refine FW.gskip rfl rfl ?_
            refine FW.gskip rfl rfl ?_
            refine FW.gskip0 rfl ?_
            exact FW.gend
          · skip
            intro σD a w opsD QD hk hf hQ hX
            refine FW.l_callH (I1 := (OParseParser.items b0 (⟨y1_0, y1_1, y1_2, y1_3⟩ : OParseParser))) (I2 := [FW.orow xd4 xc4 38 11 ApiArg.cells l4, FW.blk bx2 29 ([.lit (.string (FW.B y3_0)), .lit (.slice xd4 (List.length l4) xc4)]), FW.blk bx1 29 ((ApiStep.cells y2))]) (js := [0]) hk rfl rfl hf rfl rfl Go.Proofs.Try.func120 rfl (by kernel_rfl) (FW.OkX.toH (hs_parse_parser_arg (⟨y1_0, y1_1, y1_2, y1_3⟩ : OParseParser) _ hr_t4 b0)) ?_; clear hk
            rintro _ _ ⟨rfl, rfl⟩ a w hk
            refine hQ _ _ a w ?_ hk; clear hk hQ hf hX
            refine ⟨[(38, [], .lit (.pointer (some ⟨bx2, 1, none⟩))), (39, [], .lit (.slice xd4 (List.length l4) xc4)), (40, [], .lit (.pointer (some ⟨b0, 0, none⟩))), (41, [], .agg ((ApiArg.cells t4.1))), (42, [], .agg []), (43, [], .agg []), (44, [], .agg []), (46, [], .lit undef)], And.intro rfl (And.intro rfl (And.intro rfl (trivial))), rfl, ?_⟩
            refine FW.gnext ?_ rfl rfl rfl rfl rfl ?_
            · skip
              refine FW.gfun (y := .lit (.pointer (some ⟨bx2, 1, none⟩))) rfl rfl rfl rfl (fun a w hk => FW.f_fieldPtr hk (FW.holds_nil _) rfl Go.Proofs.Try.underlying29 rfl (by kernel_rfl) rfl) ?_
              refine FW.gfun (y := .lit (.slice xd4 (List.length l4) xc4)) rfl rfl rfl rfl (fun a w hk => FW.f_loadBlk1 hk (FW.holds_nil _) (j := 2) rfl rfl Go.Proofs.Try.underlying27 rfl rfl) ?_
              refine FW.gskip rfl rfl ?_
              refine FW.gskip rfl rfl ?_
              refine FW.gskip rfl rfl ?_
              refine FW.gskip rfl rfl ?_
              refine FW.gskip rfl rfl ?_
              refine FW.gskip0 rfl ?_
              exact FW.gend
            · skip
              intro σD a w opsD QD hk hf hQ hX
              refine FW.l_buildSlice (f := ApiArg.cells) (l := ([t4.1] : List ApiArg)) hk rfl hf rfl Go.Proofs.Try.underlying27 rfl rfl rfl rfl (fun _ => rfl) rfl ?_; clear hk; intro bx3 a w hk
              refine hQ _ _ a w ?_ hk; clear hk hQ hf hX
              refine ⟨[(38, [], .lit (.pointer (some ⟨bx2, 1, none⟩))), (39, [], .lit (.slice xd4 (List.length l4) xc4)), (40, [], .lit (.pointer (some ⟨b0, 0, none⟩))), (41, [], .agg ((ApiArg.cells t4.1))), (42, [], .lit (.slice (some ⟨bx3, 0, none⟩) (List.length ([t4.1] : List ApiArg)) 1)), (43, [], .agg []), (44, [], .agg []), (46, [], .lit undef)], And.intro rfl (And.intro rfl (And.intro rfl (And.intro rfl (trivial)))), rfl, ?_⟩
              refine FW.gnext ?_ rfl rfl rfl rfl rfl ?_
              · skip
                refine FW.gfun (y := .lit (.pointer (some ⟨bx2, 1, none⟩))) rfl rfl rfl rfl (fun a w hk => FW.f_fieldPtr hk (FW.holds_nil _) rfl Go.Proofs.Try.underlying29 rfl (by kernel_rfl) rfl) ?_
                refine FW.gfun (y := .lit (.slice xd4 (List.length l4) xc4)) rfl rfl rfl rfl (fun a w hk => FW.f_loadBlk1 hk (FW.holds_nil _) (j := 3) rfl rfl Go.Proofs.Try.underlying27 rfl rfl) ?_
                refine FW.gskip rfl rfl ?_
                refine FW.gskip rfl rfl ?_
                refine FW.gskip rfl rfl ?_
                refine FW.gskip rfl rfl ?_
                refine FW.gskip rfl rfl ?_
                refine FW.gskip0 rfl ?_
                exact FW.gend
              · skip
                intro σD a w opsD QD hk hf hQ hX
                refine FW.l_append (l2 := ([t4.1] : List ApiArg)) (l3 := (l4 ++ ([t4.1] : List ApiArg))) (I' := fun ad1 cap1 => [FW.orow (some ⟨bx3, 0, none⟩) 1 38 11 ApiArg.cells ([t4.1] : List ApiArg), FW.blk b0 87 ([.row (r_ApiWord_cells t4.2.l), .lit (.int .i64 t4.2.i), .lit (.int .i64 t4.2.deep), .lit (.int .i64 t4.2.steps)]), FW.orow ad1 cap1 38 11 ApiArg.cells (l4 ++ ([t4.1] : List ApiArg)), FW.blk bx2 29 ([.lit (.string (FW.B y3_0)), .lit (.slice xd4 (List.length l4) xc4)]), FW.blk bx1 29 ((ApiStep.cells y2))]) (j := 2) hk rfl rfl hf rfl (FW.own_src hk (j := 0) rfl rfl (fun _ => rfl) Go.Proofs.Try.underlying27) Go.Proofs.Try.underlying27 (by kernel_rfl) hc1 rfl (fun _ _ => rfl) ?_; clear hk; intro ad1 cap1 a w hk
                replace hk := FW.S.dropI (I' := [FW.blk b0 87 ([.row (r_ApiWord_cells t4.2.l), .lit (.int .i64 t4.2.i), .lit (.int .i64 t4.2.deep), .lit (.int .i64 t4.2.steps)]), FW.orow ad1 cap1 38 11 ApiArg.cells (l4 ++ ([t4.1] : List ApiArg)), FW.blk bx2 29 ([.lit (.string (FW.B y3_0)), .lit (.slice xd4 (List.length l4) xc4)]), FW.blk bx1 29 ((ApiStep.cells y2))]) hk 0 rfl
                refine hQ _ _ a w ?_ hk; clear hk hQ hf hX
                refine ⟨[(38, [], .lit (.pointer (some ⟨bx2, 1, none⟩))), (39, [], .lit (.slice xd4 (List.length l4) xc4)), (40, [], .lit (.pointer (some ⟨b0, 0, none⟩))), (41, [], .agg ((ApiArg.cells t4.1))), (42, [], .lit (.slice (some ⟨bx3, 0, none⟩) (List.length ([t4.1] : List ApiArg)) 1)), (43, [], .lit (.slice ad1 (List.length (l4 ++ ([t4.1] : List ApiArg))) cap1)), (44, [], .lit (.pointer (some ⟨bx2, 1, none⟩))), (46, [], .lit undef)], And.intro rfl (And.intro rfl (And.intro rfl (And.intro rfl (And.intro rfl (trivial))))), rfl, ?_⟩
                refine FW.gnext0 ?_ rfl rfl rfl ?_
                · skip
                  refine FW.gskip rfl rfl ?_
                  refine FW.gskip rfl rfl ?_
                  refine FW.gskip rfl rfl ?_
                  refine FW.gskip rfl rfl ?_
                  refine FW.gskip rfl rfl ?_
                  refine FW.gskip rfl rfl ?_
                  refine FW.gfun (y := .lit (.pointer (some ⟨bx2, 1, none⟩))) rfl rfl rfl rfl (fun a w hk => FW.f_fieldPtr hk (FW.holds_nil _) rfl Go.Proofs.Try.underlying29 rfl (by kernel_rfl) rfl) ?_
                  refine FW.gskip0 rfl ?_
                  exact FW.gend
                · skip
                  intro σD a w opsD QD hk hQ hX
                  refine FW.l_store (I' := [FW.blk b0 87 ([.row (r_ApiWord_cells t4.2.l), .lit (.int .i64 t4.2.i), .lit (.int .i64 t4.2.deep), .lit (.int .i64 t4.2.steps)]), FW.orow ad1 cap1 38 11 ApiArg.cells (l4 ++ ([t4.1] : List ApiArg)), FW.blk bx2 29 ([.lit (.string (FW.B y3_0)), .lit (.slice ad1 (List.length (l4 ++ ([t4.1] : List ApiArg))) cap1)]), FW.blk bx1 29 ((ApiStep.cells y2))]) (cs' := [.lit (.string (FW.B y3_0)), .lit (.slice ad1 (List.length (l4 ++ ([t4.1] : List ApiArg))) cap1)]) (j := 2) hk rfl rfl rfl rfl rfl (by kernel_rfl) rfl rfl ?_; clear hk; intro w hk
                  refine hQ _ a w ?_ hk; clear hk hQ hX
                  refine ⟨[(38, [], .lit (.pointer (some ⟨bx2, 1, none⟩))), (39, [], .lit (.slice xd4 (List.length l4) xc4)), (40, [], .lit (.pointer (some ⟨b0, 0, none⟩))), (41, [], .agg ((ApiArg.cells t4.1))), (42, [], .lit (.slice (some ⟨bx3, 0, none⟩) (List.length ([t4.1] : List ApiArg)) 1)), (43, [], .lit (.slice ad1 (List.length (l4 ++ ([t4.1] : List ApiArg))) cap1)), (44, [], .lit (.pointer (some ⟨bx2, 1, none⟩))), (46, [], .lit undef)], And.intro rfl (And.intro rfl (And.intro rfl (And.intro rfl (And.intro rfl (And.intro rfl (And.intro rfl (trivial))))))), rfl, ?_⟩
                  refine FW.glast ?_ ?_
                  · skip
                    refine FW.gskip rfl rfl ?_
                    refine FW.gskip rfl rfl ?_
                    refine FW.gskip rfl rfl ?_
                    refine FW.gskip rfl rfl ?_
                    refine FW.gskip rfl rfl ?_
                    refine FW.gskip rfl rfl ?_
                    refine FW.gskip rfl rfl ?_
                    refine FW.gskip0 rfl ?_
                    exact FW.gend
                  · skip
                    intro a w hk; simp only [FW.stD, cond_true] at hk
                    (repeat first | refine FW.then_normal ?_ | refine FW.block_normal ?_); exact hK6 (kl1, t4.2.l, t4.2.i, t4.2.deep, t4.2.steps, (l4 ++ ([t4.1] : List ApiArg)), y3_0, y2, ad1, cap1) _ _ (Nat.lt_succ_self _) ⟨hk.sub ⟨rfl, rfl, rfl, trivial⟩, h⟩
        · intro K' hK10
          refine FW.wreg ?_; intro K' hK12
          refine FW.lfun (y := .lit (.pointer (some ⟨bx2, 1, none⟩))) hk rfl rfl rfl rfl (FW.f_fieldPtr hk (FW.holds_nil _) rfl Go.Proofs.Try.underlying29 rfl (by kernel_rfl) rfl) ?_; clear hk; intro a w hk
          refine FW.lfun (y := .lit (.slice xd4 (List.length l4) xc4)) hk rfl rfl rfl rfl (FW.f_loadBlk1 hk (FW.holds_nil _) (j := 2) rfl rfl Go.Proofs.Try.underlying27 rfl rfl) ?_; clear hk; intro a w hk
          refine FW.lfun (y := .lit (.int .i64 (List.length l4 : Int))) hk rfl rfl rfl rfl ((FW.f_pure (FW.p_len Go.Proofs.Try.underlying27 hk.kn (FW.holds_nil _) rfl))) ?_; clear hk; intro a w hk
          refine FW.lfun (y := .lit (.bool (decide (12 ≤ (List.length l4 : Int))))) hk rfl rfl rfl rfl ((FW.f_pure (FW.p_geq hk.kn (FW.holds_nil _) rfl rfl))) ?_; clear hk; intro a w hk
          refine FW.lend (hK12 _ _ ?_); clear hK12 K'
          refine FW.wcondF (b := (decide (12 ≤ (List.length l4 : Int)))) hk h rfl (fun h hb => ?_) (fun h hb => ?_)
          · skip
            refine FW.wreg1 ?_
            refine FW.lfun (y := .lit (.pointer (some ⟨b0, 0, none⟩))) hk rfl rfl rfl rfl (FW.f_move hk (FW.holds_nil _) rfl) ?_; clear hk; intro a w hk
            rcases FW.bndX h with ⟨e_t5, hr_t5, rfl⟩ | ⟨t5, hr_t5, h⟩
            · skip
              refine FW.l_callXE (I1 := (OParseParser.items b0 (⟨y1_0, y1_1, y1_2, y1_3⟩ : OParseParser))) (I2 := [FW.orow xd4 xc4 38 11 ApiArg.cells l4, FW.blk bx2 29 ([.lit (.string (FW.B y3_0)), .lit (.slice xd4 (List.length l4) xc4)]), FW.blk bx1 29 ((ApiStep.cells y2))]) (js := [0]) hk rfl rfl rfl Go.Proofs.Try.func65 rfl (by kernel_rfl) (parse_parser_stop.ok (⟨y1_0, y1_1, y1_2, y1_3⟩ : OParseParser) 3 _ hr_t5 b0) ?_; clear hk
              rintro _ _ ⟨vE3, rfl, rfl⟩ w hk
              exact FW.fpan (P := Go.Proofs.Try.prog) (fn := Go.Proofs.Try.f93) (I1 := [FW.blk b0 87 ([.row (r_ApiWord_cells vE3.l), .lit (.int .i64 vE3.i), .lit (.int .i64 vE3.deep), .lit (.int .i64 vE3.steps)])]) (I2 := [FW.orow xd4 xc4 38 11 ApiArg.cells l4, FW.blk bx2 29 ([.lit (.string (FW.B y3_0)), .lit (.slice xd4 (List.length l4) xc4)]), FW.blk bx1 29 ((ApiStep.cells y2))]) (js := [0]) hk rfl ⟨_, rfl, vE3, rfl, rfl⟩
            refine FW.l_callH (I1 := (OParseParser.items b0 (⟨y1_0, y1_1, y1_2, y1_3⟩ : OParseParser))) (I2 := [FW.orow xd4 xc4 38 11 ApiArg.cells l4, FW.blk bx2 29 ([.lit (.string (FW.B y3_0)), .lit (.slice xd4 (List.length l4) xc4)]), FW.blk bx1 29 ((ApiStep.cells y2))]) (js := [0]) hk rfl rfl rfl rfl rfl Go.Proofs.Try.func65 rfl (by kernel_rfl) (FW.OkX.toH (parse_parser_stop.ok (⟨y1_0, y1_1, y1_2, y1_3⟩ : OParseParser) 3 _ hr_t5 b0)) ?_; clear hk
            rintro _ _ ⟨rfl, rfl⟩ a w hk
            refine wpList_nil ?_
            (repeat first | refine FW.then_normal ?_ | refine FW.block_normal ?_); exact hK10 _ _ ⟨t5.l, t5.i, t5.deep, t5.steps, l4, y3_0, y2, xd4, xc4, hk.sub ⟨rfl, rfl, rfl, trivial⟩, h⟩
          · skip
            refine wp_skip ?_
            (repeat first | refine FW.then_normal ?_ | refine FW.block_normal ?_); exact hK10 _ _ ⟨y1_0, y1_1, y1_2, y1_3, l4, y3_0, y2, xd4, xc4, hk.sub ⟨rfl, rfl, rfl, trivial⟩, h⟩
      · intro K' hK9
        refine FW.wreg ?_; intro K' hK14
        refine FW.lfun (y := .lit (.pointer (some ⟨bx2, 1, none⟩))) hk rfl rfl rfl rfl (FW.f_fieldPtr hk (FW.holds_nil _) rfl Go.Proofs.Try.underlying29 rfl (by kernel_rfl) rfl) ?_; clear hk; intro a w hk
        refine FW.lfun (y := .lit (.slice xd4 (List.length l4) xc4)) hk rfl rfl rfl rfl (FW.f_loadBlk1 hk (FW.holds_nil _) (j := 2) rfl rfl Go.Proofs.Try.underlying27 rfl rfl) ?_; clear hk; intro a w hk
        refine FW.lfun (y := .lit (.int .i64 (List.length l4 : Int))) hk rfl rfl rfl rfl ((FW.f_pure (FW.p_len Go.Proofs.Try.underlying27 hk.kn (FW.holds_nil _) rfl))) ?_; clear hk; intro a w hk
        refine FW.lfun (y := .lit (.bool (decide (0 < (List.length l4 : Int))))) hk rfl rfl rfl rfl ((FW.f_pure (FW.p_gtr hk.kn (FW.holds_nil _) rfl rfl))) ?_; clear hk; intro a w hk
        refine FW.lend (hK14 _ _ ?_); clear hK14 K'
        refine FW.wcondF (b := (decide (0 < (List.length l4 : Int)))) hk h rfl (fun h hb => ?_) (fun h hb => ?_)
        · skip
          refine FW.wreg1 ?_
          refine FW.lfun (y := .lit (.pointer (some ⟨b0, 0, none⟩))) hk rfl rfl rfl rfl (FW.f_move hk (FW.holds_nil _) rfl) ?_; clear hk; intro a w hk
          rcases FW.bndX h with ⟨e_t6, hr_t6, rfl⟩ | ⟨t6, hr_t6, h⟩
          · skip
            refine FW.l_callXE (I1 := (OParseParser.items b0 t3.2)) (I2 := [FW.orow xd4 xc4 38 11 ApiArg.cells l4, FW.blk bx2 29 ([.lit (.string (FW.B y3_0)), .lit (.slice xd4 (List.length l4) xc4)]), FW.blk bx1 29 ((ApiStep.cells y2))]) (js := [0]) hk rfl rfl rfl Go.Proofs.Try.func66 rfl (by kernel_rfl) (parse_parser_must.ok t3.2 ([44] : List UInt8) _ hr_t6 b0) ?_; clear hk
            rintro _ _ ⟨vE4, rfl, rfl⟩ w hk
            exact FW.fpan (P := Go.Proofs.Try.prog) (fn := Go.Proofs.Try.f93) (I1 := [FW.blk b0 87 ([.row (r_ApiWord_cells vE4.l), .lit (.int .i64 vE4.i), .lit (.int .i64 vE4.deep), .lit (.int .i64 vE4.steps)])]) (I2 := [FW.orow xd4 xc4 38 11 ApiArg.cells l4, FW.blk bx2 29 ([.lit (.string (FW.B y3_0)), .lit (.slice xd4 (List.length l4) xc4)]), FW.blk bx1 29 ((ApiStep.cells y2))]) (js := [0]) hk rfl ⟨_, rfl, vE4, rfl, rfl⟩
          refine FW.l_callH (I1 := (OParseParser.items b0 t3.2)) (I2 := [FW.orow xd4 xc4 38 11 ApiArg.cells l4, FW.blk bx2 29 ([.lit (.string (FW.B y3_0)), .lit (.slice xd4 (List.length l4) xc4)]), FW.blk bx1 29 ((ApiStep.cells y2))]) (js := [0]) hk rfl rfl rfl rfl rfl Go.Proofs.Try.func66 rfl (by kernel_rfl) (FW.OkX.toH (parse_parser_must.ok t3.2 ([44] : List UInt8) _ hr_t6 b0)) ?_; clear hk
          rintro _ _ ⟨rfl, rfl⟩ a w hk
          refine wpList_nil ?_
          (repeat first | refine FW.then_normal ?_ | refine FW.block_normal ?_); exact hK9 _ _ ⟨t6.l, t6.i, t6.deep, t6.steps, l4, y3_0, y2, xd4, xc4, hk.sub ⟨rfl, rfl, rfl, trivial⟩, h⟩
        · skip
          refine wp_skip ?_
          (repeat first | refine FW.then_normal ?_ | refine FW.block_normal ?_); exact hK9 _ _ ⟨t3.2.l, t3.2.i, t3.2.deep, t3.2.steps, l4, y3_0, y2, xd4, xc4, hk.sub ⟨rfl, rfl, rfl, trivial⟩, h⟩
    · skip
      refine wp_exit ?_; (repeat first | refine FW.then_exit ?_ | refine FW.block_exit_ne rfl ?_); refine FW.block_exit ?_
      (repeat first | refine FW.then_normal ?_ | refine FW.block_normal ?_); refine hK5 _ _ ?_
      refine FW.wreg ?_; intro K' hK16
      replace hk := FW.S.freezeBlk (I1 := [FW.blk b0 87 ([.row (r_ApiWord_cells t3.2.l), .lit (.int .i64 t3.2.i), .lit (.int .i64 t3.2.deep), .lit (.int .i64 t3.2.steps)]), FW.blk bx2 29 ([.lit (.string (FW.B y3_0)), .lit (.slice xd4 (List.length l4) xc4)]), FW.blk bx1 29 ((ApiStep.cells y2))]) (cs' := (ApiStep.cells (⟨y3_0, l4⟩ : ApiStep))) (I' := [FW.blk b0 87 ([.row (r_ApiWord_cells t3.2.l), .lit (.int .i64 t3.2.i), .lit (.int .i64 t3.2.deep), .lit (.int .i64 t3.2.steps)]), FW.blk bx2 29 ((ApiStep.cells (⟨y3_0, l4⟩ : ApiStep))), FW.blk bx1 29 ((ApiStep.cells y2))]) r_ApiArg_cells_eq hk 1 1 1 rfl rfl rfl rfl rfl rfl
      refine FW.lfun (y := .agg ((ApiStep.cells (⟨y3_0, l4⟩ : ApiStep)))) hk rfl rfl rfl rfl (FW.f_loadBlk hk (FW.holds_nil _) (j := 1) rfl rfl Go.Proofs.Try.underlying29 rfl rfl rfl rfl) ?_; clear hk; intro a w hk
      refine FW.l_store (I' := [FW.blk b0 87 ([.row (r_ApiWord_cells t3.2.l), .lit (.int .i64 t3.2.i), .lit (.int .i64 t3.2.deep), .lit (.int .i64 t3.2.steps)]), FW.blk bx2 29 ((ApiStep.cells (⟨y3_0, l4⟩ : ApiStep))), FW.blk bx1 29 ((ApiStep.cells (⟨y3_0, l4⟩ : ApiStep)))]) (cs' := (ApiStep.cells (⟨y3_0, l4⟩ : ApiStep))) (j := 2) hk rfl rfl rfl rfl rfl (by kernel_rfl) rfl rfl ?_; clear hk; intro w hk
      refine FW.lend (hK16 _ _ ?_); clear hK16 K'
      refine wp_ret ?_
      (repeat first | refine FW.then_ret ?_ | refine FW.block_ret ?_)
      obtain rfl := Option.some.inj h
      have hr_0 := FW.rres_keep (I1 := [FW.blk b0 87 ([.row (r_ApiWord_cells t3.2.l), .lit (.int .i64 t3.2.i), .lit (.int .i64 t3.2.deep), .lit (.int .i64 t3.2.steps)])]) (I2 := [FW.blk bx2 29 ((ApiStep.cells (⟨y3_0, l4⟩ : ApiStep))), FW.blk bx1 29 ((ApiStep.cells (⟨y3_0, l4⟩ : ApiStep)))]) (js := [0]) rfl (FW.rcell (tt := 2) hk rfl (j := 2) rfl Go.Proofs.Try.underlying29 rfl (by kernel_rfl))
      replace hk := FW.S.keep (I1 := [FW.blk b0 87 ([.row (r_ApiWord_cells t3.2.l), .lit (.int .i64 t3.2.i), .lit (.int .i64 t3.2.deep), .lit (.int .i64 t3.2.steps)])]) (I2 := [FW.blk bx2 29 ((ApiStep.cells (⟨y3_0, l4⟩ : ApiStep))), FW.blk bx1 29 ((ApiStep.cells (⟨y3_0, l4⟩ : ApiStep)))]) (js := [0]) hk rfl
      exact FW.toXq (FW.fretH1 hk rfl hr_0 ⟨rfl, rfl⟩)
  · intro K' hK2
    refine FW.wreg ?_; intro K' hK17
    refine FW.lfun (y := .lit (.pointer (some ⟨b0, 0, none⟩))) hk rfl rfl rfl rfl (FW.f_move hk (FW.holds_nil _) rfl) ?_; clear hk; intro a w hk
    refine FW.lfun (y := .lit (.pointer (some ⟨b0, 0, none⟩))) hk rfl rfl rfl rfl ((FW.f_pure (FW.p_nilCheck hk.kn (FW.holds_nil _) rfl))) ?_; clear hk; intro a w hk
    refine FW.lfun (y := .lit (.pointer (some ⟨b0, 3, none⟩))) hk rfl rfl rfl rfl (FW.f_fieldPtr hk (FW.holds_nil _) rfl Go.Proofs.Try.underlying87 rfl (by kernel_rfl) rfl) ?_; clear hk; intro a w hk
    refine FW.lfun (y := .lit (.int .i64 v0.steps)) hk rfl rfl rfl rfl (FW.f_loadBlk1 hk (FW.holds_nil _) (j := 1) rfl rfl Go.Proofs.Try.underlying3 rfl rfl) ?_; clear hk; intro a w hk
    refine FW.lfun (y := .lit (.int .i64 (IntKind.wrap .i64 (v0.steps + 1)))) hk rfl rfl rfl rfl ((FW.f_pure (FW.p_add hk.kn (FW.holds_nil _) rfl rfl))) ?_; clear hk; intro a w hk
    refine FW.lfun (y := .lit (.pointer (some ⟨b0, 0, none⟩))) hk rfl rfl rfl rfl ((FW.f_pure (FW.p_nilCheck hk.kn (FW.holds_nil _) rfl))) ?_; clear hk; intro a w hk
    refine FW.lfun (y := .lit (.pointer (some ⟨b0, 3, none⟩))) hk rfl rfl rfl rfl (FW.f_fieldPtr hk (FW.holds_nil _) rfl Go.Proofs.Try.underlying87 rfl (by kernel_rfl) rfl) ?_; clear hk; intro a w hk
    refine FW.l_store (I' := [FW.blk bx1 29 ((ApiStep.cells (⟨[], []⟩ : ApiStep))), FW.blk b0 87 ([.row (r_ApiWord_cells v0.l), .lit (.int .i64 v0.i), .lit (.int .i64 v0.deep), .lit (.int .i64 (IntKind.wrap .i64 (v0.steps + 1)))])]) (cs' := [.row (r_ApiWord_cells v0.l), .lit (.int .i64 v0.i), .lit (.int .i64 v0.deep), .lit (.int .i64 (IntKind.wrap .i64 (v0.steps + 1)))]) (j := 1) hk rfl rfl rfl rfl rfl (by kernel_rfl) rfl rfl ?_; clear hk; intro w hk
    refine FW.lend (hK17 _ _ ?_); clear hK17 K'
    refine FW.wreg ?_; intro K' hK18
    refine FW.lfun (y := .lit (.pointer (some ⟨b0, 0, none⟩))) hk rfl rfl rfl rfl (FW.f_move hk (FW.holds_nil _) rfl) ?_; clear hk; intro a w hk
    refine FW.lfun (y := .lit (.pointer (some ⟨b0, 0, none⟩))) hk rfl rfl rfl rfl ((FW.f_pure (FW.p_nilCheck hk.kn (FW.holds_nil _) rfl))) ?_; clear hk; intro a w hk
    refine FW.lfun (y := .lit (.pointer (some ⟨b0, 3, none⟩))) hk rfl rfl rfl rfl (FW.f_fieldPtr hk (FW.holds_nil _) rfl Go.Proofs.Try.underlying87 rfl (by kernel_rfl) rfl) ?_; clear hk; intro a w hk
    refine FW.lfun (y := .lit (.int .i64 (IntKind.wrap .i64 (v0.steps + 1)))) hk rfl rfl rfl rfl (FW.f_loadBlk1 hk (FW.holds_nil _) (j := 1) rfl rfl Go.Proofs.Try.underlying3 rfl rfl) ?_; clear hk; intro a w hk
    refine FW.lfun (y := .lit (.bool (decide (150 < (IntKind.wrap .i64 (v0.steps + 1)))))) hk rfl rfl rfl rfl ((FW.f_pure (FW.p_gtr hk.kn (FW.holds_nil _) rfl rfl))) ?_; clear hk; intro a w hk
    refine FW.lend (hK18 _ _ ?_); clear hK18 K'
    refine FW.wcondF (b := (decide (150 < (IntKind.wrap .i64 (v0.steps + 1))))) hk h rfl (fun h hb => ?_) (fun h hb => ?_)
    · skip
      refine FW.wreg1 ?_
      refine FW.lfun (y := .lit (.pointer (some ⟨b0, 0, none⟩))) hk rfl rfl rfl rfl (FW.f_move hk (FW.holds_nil _) rfl) ?_; clear hk; intro a w hk
      rcases FW.bndX h with ⟨e_t7, hr_t7, rfl⟩ | ⟨t7, hr_t7, h⟩
      · skip
        refine FW.l_callXE (I1 := (OParseParser.items b0 (⟨v0.l, v0.i, v0.deep, (IntKind.wrap .i64 (v0.steps + 1))⟩ : OParseParser))) (I2 := [FW.blk bx1 29 ((ApiStep.cells (⟨[], []⟩ : ApiStep)))]) (js := [1]) hk rfl rfl rfl Go.Proofs.Try.func65 rfl (by kernel_rfl) (parse_parser_stop.ok (⟨v0.l, v0.i, v0.deep, (IntKind.wrap .i64 (v0.steps + 1))⟩ : OParseParser) 3 _ hr_t7 b0) ?_; clear hk
        rintro _ _ ⟨vE5, rfl, rfl⟩ w hk
        exact FW.fpan (P := Go.Proofs.Try.prog) (fn := Go.Proofs.Try.f93) (I1 := [FW.blk b0 87 ([.row (r_ApiWord_cells vE5.l), .lit (.int .i64 vE5.i), .lit (.int .i64 vE5.deep), .lit (.int .i64 vE5.steps)])]) (I2 := [FW.blk bx1 29 ((ApiStep.cells (⟨[], []⟩ : ApiStep)))]) (js := [0]) hk rfl ⟨_, rfl, vE5, rfl, rfl⟩
      refine FW.l_callH (I1 := (OParseParser.items b0 (⟨v0.l, v0.i, v0.deep, (IntKind.wrap .i64 (v0.steps + 1))⟩ : OParseParser))) (I2 := [FW.blk bx1 29 ((ApiStep.cells (⟨[], []⟩ : ApiStep)))]) (js := [1]) hk rfl rfl rfl rfl rfl Go.Proofs.Try.func65 rfl (by kernel_rfl) (FW.OkX.toH (parse_parser_stop.ok (⟨v0.l, v0.i, v0.deep, (IntKind.wrap .i64 (v0.steps + 1))⟩ : OParseParser) 3 _ hr_t7 b0)) ?_; clear hk
      rintro _ _ ⟨rfl, rfl⟩ a w hk
      refine wpList_nil ?_
      (repeat first | refine FW.then_normal ?_ | refine FW.block_normal ?_); exact hK2 _ _ ⟨t7.l, t7.i, t7.deep, t7.steps, (⟨[], []⟩ : ApiStep), hk.sub ⟨rfl, rfl, trivial⟩, h⟩
    · skip
      refine wp_skip ?_
      (repeat first | refine FW.then_normal ?_ | refine FW.block_normal ?_); exact hK2 _ _ ⟨v0.l, v0.i, v0.deep, (IntKind.wrap .i64 (v0.steps + 1)), (⟨[], []⟩ : ApiStep), (FW.S.pick hk (js := [0, 1]) rfl).sub ⟨rfl, rfl, trivial⟩, h⟩
theorem parse_parser_arg.bok (s_parse_parser_chain : OParseParser → Option (Except (Int × Int) (List ApiStep × OParseParser))) (s_parse_parser_step : OParseParser → Option (Except (Int × Int) (ApiStep × OParseParser))) (s_parse_parser_arg : OParseParser → Option (Except (Int × Int) (ApiArg × OParseParser))) (s_parse_parser_child : OParseParser → Option (Except (Int × Int) (List ApiStep × OParseParser))) (hs_parse_parser_chain : ∀ (v0 : OParseParser) (r : Except (Int × Int) (List ApiStep × OParseParser)), s_parse_parser_chain v0 = some r → ∀ (b0 : Nat), FW.OkX Go.Proofs.Try.prog 67 [.lit (.pointer (some ⟨b0, 0, none⟩))] (OParseParser.items b0 v0) (FW.qX r (fun rr => fun y I => y = .row (r_ApiStep_cells rr.1) ∧ I = OParseParser.items b0 rr.2) (fun e pv I => ∃ (o0 : OParseParser), pv = FW.faultV 115 e ∧ I = OParseParser.items b0 o0))) (hs_parse_parser_step : ∀ (v0 : OParseParser) (r : Except (Int × Int) (ApiStep × OParseParser)), s_parse_parser_step v0 = some r → ∀ (b0 : Nat), FW.OkX Go.Proofs.Try.prog 93 [.lit (.pointer (some ⟨b0, 0, none⟩))] (OParseParser.items b0 v0) (FW.qX r (fun rr => fun y I => y = .agg (ApiStep.cells rr.1) ∧ I = OParseParser.items b0 rr.2) (fun e pv I => ∃ (o0 : OParseParser), pv = FW.faultV 115 e ∧ I = OParseParser.items b0 o0))) (hs_parse_parser_arg : ∀ (v0 : OParseParser) (r : Except (Int × Int) (ApiArg × OParseParser)), s_parse_parser_arg v0 = some r → ∀ (b0 : Nat), FW.OkX Go.Proofs.Try.prog 120 [.lit (.pointer (some ⟨b0, 0, none⟩))] (OParseParser.items b0 v0) (FW.qX r (fun rr => fun y I => y = .agg (ApiArg.cells rr.1) ∧ I = OParseParser.items b0 rr.2) (fun e pv I => ∃ (o0 : OParseParser), pv = FW.faultV 115 e ∧ I = OParseParser.items b0 o0))) (hs_parse_parser_child : ∀ (v0 : OParseParser) (r : Except (Int × Int) (List ApiStep × OParseParser)), s_parse_parser_child v0 = some r → ∀ (b0 : Nat), FW.OkX Go.Proofs.Try.prog 147 [.lit (.pointer (some ⟨b0, 0, none⟩))] (OParseParser.items b0 v0) (FW.qX r (fun rr => fun y I => y = .row (r_ApiStep_cells rr.1) ∧ I = OParseParser.items b0 rr.2) (fun e pv I => ∃ (o0 : OParseParser), pv = FW.faultV 115 e ∧ I = OParseParser.items b0 o0))) (K : Nat) (v0 : OParseParser) (r : Except (Int × Int) (ApiArg × OParseParser)) (h : parse_parser_arg.b s_parse_parser_chain s_parse_parser_step s_parse_parser_arg s_parse_parser_child K v0 = some r) :
    ∀ (b0 : Nat), FW.OkX Go.Proofs.Try.prog 120 [.lit (.pointer (some ⟨b0, 0, none⟩))] (OParseParser.items b0 v0) (FW.qX r (fun rr => fun y I => y = .agg (ApiArg.cells rr.1) ∧ I = OParseParser.items b0 rr.2) (fun e pv I => ∃ (o0 : OParseParser), pv = FW.faultV 115 e ∧ I = OParseParser.items b0 o0)) := by
  intro b0
  refine FW.enterX (xs := [.lit (.pointer (some ⟨b0, 0, none⟩))]) Go.Proofs.Try.func120 rfl Go.Proofs.Try.ntmps120 rfl ?_
  intro M w0 a hk
  replace hk : FW.S M w0 a w0.toWorld 77 [FW.blk b0 87 ([.row (r_ApiWord_cells v0.l), .lit (.int .i64 v0.i), .lit (.int .i64 v0.deep), .lit (.int .i64 v0.steps)])] [(0, [], .lit (.pointer (some ⟨b0, 0, none⟩)))] := hk
  unfold parse_parser_arg.b at h
  refine FW.wreg ?_; intro K' hK1
  refine FW.l_alloc (zs := (ApiArg.cells (⟨0, (⟨0, false, 0, 0, [], []⟩ : ApiValue), (⟨[], [], []⟩ : ApiPred), []⟩ : ApiArg))) [] hk rfl rfl rfl rfl ?_; clear hk; intro bx1 a w hk
  refine FW.lend (hK1 _ _ ?_); clear hK1 K'
  refine FW.wseq ?_; intro K' hK2
  refine FW.wreg ?_; intro K' hK3
  refine FW.lfun (y := .lit (.pointer (some ⟨b0, 0, none⟩))) hk rfl rfl rfl rfl (FW.f_move hk (FW.holds_nil _) rfl) ?_; clear hk; intro a w hk
  rcases FW.bndX h with ⟨e_t1, hr_t1, rfl⟩ | ⟨t1, hr_t1, h⟩
  · skip
    refine FW.l_callXE (I1 := (OParseParser.items b0 v0)) (I2 := [FW.blk bx1 38 ((ApiArg.cells (⟨0, (⟨0, false, 0, 0, [], []⟩ : ApiValue), (⟨[], [], []⟩ : ApiPred), []⟩ : ApiArg)))]) (js := [1]) hk rfl rfl rfl Go.Proofs.Try.func143 rfl (by kernel_rfl) (parse_parser_value.ok K v0 _ hr_t1 b0) ?_; clear hk
    rintro _ _ ⟨vE1, rfl, rfl⟩ w hk
    exact FW.fpan (P := Go.Proofs.Try.prog) (fn := Go.Proofs.Try.f120) (I1 := [FW.blk b0 87 ([.row (r_ApiWord_cells vE1.l), .lit (.int .i64 vE1.i), .lit (.int .i64 vE1.deep), .lit (.int .i64 vE1.steps)])]) (I2 := [FW.blk bx1 38 ((ApiArg.cells (⟨0, (⟨0, false, 0, 0, [], []⟩ : ApiValue), (⟨[], [], []⟩ : ApiPred), []⟩ : ApiArg)))]) (js := [0]) hk rfl ⟨_, rfl, vE1, rfl, rfl⟩
  refine FW.l_callH (I1 := (OParseParser.items b0 v0)) (I2 := [FW.blk bx1 38 ((ApiArg.cells (⟨0, (⟨0, false, 0, 0, [], []⟩ : ApiValue), (⟨[], [], []⟩ : ApiPred), []⟩ : ApiArg)))]) (js := [1]) hk rfl rfl rfl rfl rfl Go.Proofs.Try.func143 rfl (by kernel_rfl) (FW.OkX.toH (parse_parser_value.ok K v0 _ hr_t1 b0)) ?_; clear hk
  rintro _ _ ⟨rfl, rfl⟩ a w hk
  refine FW.lfun (y := .tup [.agg ((ApiValue.cells t1.1)), .lit (.bool t1.2.1)]) hk rfl rfl rfl rfl (FW.f_move hk (FW.holds_nil _) rfl) ?_; clear hk; intro a w hk
  refine FW.lfun (y := .agg ((ApiValue.cells t1.1))) hk rfl rfl rfl rfl (FW.f_extract hk (FW.holds_nil _) rfl rfl) ?_; clear hk; intro a w hk
  refine FW.lfun (y := .lit (.bool t1.2.1)) hk rfl rfl rfl rfl (FW.f_extract hk (FW.holds_nil _) rfl rfl) ?_; clear hk; intro a w hk
  refine FW.l_alloc (zs := (ApiValue.cells (⟨0, false, 0, 0, [], []⟩ : ApiValue))) [] hk rfl rfl rfl rfl ?_; clear hk; intro bx2 a w hk
  refine FW.l_store (I' := [FW.blk bx2 33 ((ApiValue.cells t1.1)), FW.blk b0 87 ([.row (r_ApiWord_cells t1.2.2.l), .lit (.int .i64 t1.2.2.i), .lit (.int .i64 t1.2.2.deep), .lit (.int .i64 t1.2.2.steps)]), FW.blk bx1 38 ((ApiArg.cells (⟨0, (⟨0, false, 0, 0, [], []⟩ : ApiValue), (⟨[], [], []⟩ : ApiPred), []⟩ : ApiArg)))]) (cs' := (ApiValue.cells t1.1)) (j := 0) hk rfl rfl rfl rfl rfl (by kernel_rfl) rfl rfl ?_; clear hk; intro w hk
  refine FW.lfun (y := .lit (.bool t1.2.1)) hk rfl rfl rfl rfl (FW.f_assign hk (FW.holds_nil _) rfl) ?_; clear hk; intro a w hk
  refine FW.lend (hK3 _ _ ?_); clear hK3 K'
  refine FW.wreg ?_; intro K' hK4
  refine FW.lfun (y := .lit (.bool t1.2.1)) hk rfl rfl rfl rfl (FW.f_move hk (FW.holds_nil _) rfl) ?_; clear hk; intro a w hk
  refine FW.lend (hK4 _ _ ?_); clear hK4 K'
  refine FW.wcondF (b := t1.2.1) hk h rfl (fun h hb => ?_) (fun h hb => ?_)
  · skip
    refine FW.wreg ?_; intro K' hK5
    refine FW.lfun (y := .agg ((ApiValue.cells t1.1))) hk rfl rfl rfl rfl (FW.f_loadBlk hk (FW.holds_nil _) (j := 0) rfl rfl Go.Proofs.Try.underlying33 rfl rfl rfl rfl) ?_; clear hk; intro a w hk
    refine FW.lfun (y := .agg ((ApiArg.cells (⟨1, t1.1, (⟨[], [], []⟩ : ApiPred), []⟩ : ApiArg)))) hk rfl rfl rfl rfl (FW.f_buildN [] hk (FW.holds_nil _) rfl rfl rfl) ?_; clear hk; intro a w hk
    refine FW.l_store (I' := [FW.blk bx2 33 ((ApiValue.cells t1.1)), FW.blk b0 87 ([.row (r_ApiWord_cells t1.2.2.l), .lit (.int .i64 t1.2.2.i), .lit (.int .i64 t1.2.2.deep), .lit (.int .i64 t1.2.2.steps)]), FW.blk bx1 38 ((ApiArg.cells (⟨1, t1.1, (⟨[], [], []⟩ : ApiPred), []⟩ : ApiArg)))]) (cs' := (ApiArg.cells (⟨1, t1.1, (⟨[], [], []⟩ : ApiPred), []⟩ : ApiArg))) (j := 2) hk rfl rfl rfl rfl rfl (by kernel_rfl) rfl rfl ?_; clear hk; intro w hk
    refine FW.lend (hK5 _ _ ?_); clear hK5 K'
    refine wp_ret ?_
    (repeat first | refine FW.then_ret ?_ | refine FW.block_ret ?_)
    obtain rfl := Option.some.inj h
    have hr_0 := FW.rres_keep (I1 := [FW.blk b0 87 ([.row (r_ApiWord_cells t1.2.2.l), .lit (.int .i64 t1.2.2.i), .lit (.int .i64 t1.2.2.deep), .lit (.int .i64 t1.2.2.steps)])]) (I2 := [FW.blk bx2 33 ((ApiValue.cells t1.1)), FW.blk bx1 38 ((ApiArg.cells (⟨1, t1.1, (⟨[], [], []⟩ : ApiPred), []⟩ : ApiArg)))]) (js := [1]) rfl (FW.rcell (tt := 2) hk rfl (j := 2) rfl Go.Proofs.Try.underlying38 rfl (by kernel_rfl))
    replace hk := FW.S.keep (I1 := [FW.blk b0 87 ([.row (r_ApiWord_cells t1.2.2.l), .lit (.int .i64 t1.2.2.i), .lit (.int .i64 t1.2.2.deep), .lit (.int .i64 t1.2.2.steps)])]) (I2 := [FW.blk bx2 33 ((ApiValue.cells t1.1)), FW.blk bx1 38 ((ApiArg.cells (⟨1, t1.1, (⟨[], [], []⟩ : ApiPred), []⟩ : ApiArg)))]) (js := [1]) hk rfl
    exact FW.toXq (FW.fretH1 hk rfl hr_0 ⟨rfl, rfl⟩)
  · skip
    refine wp_skip ?_
    (repeat first | refine FW.then_normal ?_ | refine FW.block_normal ?_); refine hK2 _ _ ?_
    obtain ⟨hc1, h⟩ := FW.chk h
    refine FW.wdrawE (.next [true, true, true, true, true, true, true, true, true, true, false, false] 10 [true, true, true, true, true, true, true, true, true, true, false, false] (.next [true, true, true, true, true, true, true, true, true, true, false, false] 11 [true, true, true, true, true, true, true, true, true, true, true, false] (.leaf [false, false, false, false, false, false, false, false, false, false, false, false]))) [(18, [], .lit (.pointer (some ⟨b0, 0, none⟩))), (19, [], .lit (.pointer (some ⟨b0, 0, none⟩))), (20, [], .lit (.pointer (some ⟨b0, 0, none⟩))), (21, [], .row (r_ApiWord_cells t1.2.2.l)), (22, [], .lit (.pointer (some ⟨b0, 0, none⟩))), (23, [], .lit (.pointer (some ⟨b0, 0, none⟩))), (24, [], .lit (.pointer (some ⟨b0, 1, none⟩))), (25, [], .lit (.int .i64 t1.2.2.i)), (26, [], .ref (ApiWord.cells (List.getD t1.2.2.l (Int.toNat t1.2.2.i) default))), (27, [], .agg ((ApiWord.cells (List.getD t1.2.2.l (Int.toNat t1.2.2.i) default)))), (5, [], .agg []), (77, [], .lit undef)] (by kernel_rfl) (by kernel_rfl) (by kernel_rfl) (by kernel_rfl) hk ?_; clear hk
    refine FW.gnext ?_ rfl rfl rfl rfl rfl ?_
    · skip
      refine FW.gfun (y := .lit (.pointer (some ⟨b0, 0, none⟩))) rfl rfl rfl rfl (fun a w hk => FW.f_move hk (FW.holds_nil _) rfl) ?_
      refine FW.gfun (y := .lit (.pointer (some ⟨b0, 0, none⟩))) rfl rfl rfl rfl (fun a w hk => (FW.f_pure (FW.p_nilCheck hk.kn (FW.holds_nil _) rfl))) ?_
      refine FW.gfun (y := .lit (.pointer (some ⟨b0, 0, none⟩))) rfl rfl rfl rfl (fun a w hk => FW.f_fieldPtr hk (FW.holds_nil _) rfl Go.Proofs.Try.underlying87 rfl (by kernel_rfl) rfl) ?_
      refine FW.gfun (y := .row (r_ApiWord_cells t1.2.2.l)) rfl rfl rfl rfl (fun a w hk => FW.f_loadBlk1 hk (FW.holds_nil _) (j := 1) rfl rfl Go.Proofs.Try.underlying60 rfl rfl) ?_
      refine FW.gfun (y := .lit (.pointer (some ⟨b0, 0, none⟩))) rfl rfl rfl rfl (fun a w hk => FW.f_move hk (FW.holds_nil _) rfl) ?_
      refine FW.gfun (y := .lit (.pointer (some ⟨b0, 0, none⟩))) rfl rfl rfl rfl (fun a w hk => (FW.f_pure (FW.p_nilCheck hk.kn (FW.holds_nil _) rfl))) ?_
      refine FW.gfun (y := .lit (.pointer (some ⟨b0, 1, none⟩))) rfl rfl rfl rfl (fun a w hk => FW.f_fieldPtr hk (FW.holds_nil _) rfl Go.Proofs.Try.underlying87 rfl (by kernel_rfl) rfl) ?_
      refine FW.gfun (y := .lit (.int .i64 t1.2.2.i)) rfl rfl rfl rfl (fun a w hk => FW.f_loadBlk1 hk (FW.holds_nil _) (j := 1) rfl rfl Go.Proofs.Try.underlying3 rfl rfl) ?_
      refine FW.gfun (y := .ref (ApiWord.cells (List.getD t1.2.2.l (Int.toNat t1.2.2.i) default))) rfl rfl rfl rfl (fun a w hk => FW.f_indexAddr (R := r_ApiWord_cells) (f := ApiWord.cells) (l := t1.2.2.l) (sz := 5) r_ApiWord_cells_eq (fun _ => rfl) hk (FW.holds_nil _) rfl rfl Go.Proofs.Try.underlying60 (by kernel_rfl) hc1) ?_
      refine FW.gfun (y := .agg ((ApiWord.cells (List.getD t1.2.2.l (Int.toNat t1.2.2.i) default)))) rfl rfl rfl rfl (fun a w hk => FW.f_load hk (FW.holds_nil _) rfl Go.Proofs.Try.underlying66 rfl rfl rfl rfl) ?_
      refine FW.gskip rfl rfl ?_
      refine FW.gskip0 rfl ?_
      exact FW.gend
    · skip
      intro σD a w opsD QD hk hf hQ hX
      refine FW.l_alloc (zs := (ApiWord.cells (⟨0, [], 0, 0, 0⟩ : ApiWord))) [] hk rfl hf rfl rfl ?_; clear hk; intro bx3 a w hk
      refine hQ _ _ a w ?_ hk; clear hk hQ hf hX
      refine ⟨[(18, [], .lit (.pointer (some ⟨b0, 0, none⟩))), (19, [], .lit (.pointer (some ⟨b0, 0, none⟩))), (20, [], .lit (.pointer (some ⟨b0, 0, none⟩))), (21, [], .row (r_ApiWord_cells t1.2.2.l)), (22, [], .lit (.pointer (some ⟨b0, 0, none⟩))), (23, [], .lit (.pointer (some ⟨b0, 0, none⟩))), (24, [], .lit (.pointer (some ⟨b0, 1, none⟩))), (25, [], .lit (.int .i64 t1.2.2.i)), (26, [], .ref (ApiWord.cells (List.getD t1.2.2.l (Int.toNat t1.2.2.i) default))), (27, [], .agg ((ApiWord.cells (List.getD t1.2.2.l (Int.toNat t1.2.2.i) default)))), (5, [], .lit (.pointer (some ⟨bx3, 0, none⟩))), (77, [], .lit undef)], And.intro rfl (And.intro rfl (And.intro rfl (And.intro rfl (And.intro rfl (And.intro rfl (And.intro rfl (And.intro rfl (And.intro rfl (And.intro rfl (trivial)))))))))), rfl, ?_⟩
      refine FW.gnext0 ?_ rfl rfl rfl ?_
      · skip
        refine FW.gfun (y := .lit (.pointer (some ⟨b0, 0, none⟩))) rfl rfl rfl rfl (fun a w hk => FW.f_move hk (FW.holds_nil _) rfl) ?_
        refine FW.gfun (y := .lit (.pointer (some ⟨b0, 0, none⟩))) rfl rfl rfl rfl (fun a w hk => (FW.f_pure (FW.p_nilCheck hk.kn (FW.holds_nil _) rfl))) ?_
        refine FW.gfun (y := .lit (.pointer (some ⟨b0, 0, none⟩))) rfl rfl rfl rfl (fun a w hk => FW.f_fieldPtr hk (FW.holds_nil _) rfl Go.Proofs.Try.underlying87 rfl (by kernel_rfl) rfl) ?_
        refine FW.gfun (y := .row (r_ApiWord_cells t1.2.2.l)) rfl rfl rfl rfl (fun a w hk => FW.f_loadBlk1 hk (FW.holds_nil _) (j := 2) rfl rfl Go.Proofs.Try.underlying60 rfl rfl) ?_
        refine FW.gfun (y := .lit (.pointer (some ⟨b0, 0, none⟩))) rfl rfl rfl rfl (fun a w hk => FW.f_move hk (FW.holds_nil _) rfl) ?_
        refine FW.gfun (y := .lit (.pointer (some ⟨b0, 0, none⟩))) rfl rfl rfl rfl (fun a w hk => (FW.f_pure (FW.p_nilCheck hk.kn (FW.holds_nil _) rfl))) ?_
        refine FW.gfun (y := .lit (.pointer (some ⟨b0, 1, none⟩))) rfl rfl rfl rfl (fun a w hk => FW.f_fieldPtr hk (FW.holds_nil _) rfl Go.Proofs.Try.underlying87 rfl (by kernel_rfl) rfl) ?_
        refine FW.gfun (y := .lit (.int .i64 t1.2.2.i)) rfl rfl rfl rfl (fun a w hk => FW.f_loadBlk1 hk (FW.holds_nil _) (j := 2) rfl rfl Go.Proofs.Try.underlying3 rfl rfl) ?_
        refine FW.gfun (y := .ref (ApiWord.cells (List.getD t1.2.2.l (Int.toNat t1.2.2.i) default))) rfl rfl rfl rfl (fun a w hk => FW.f_indexAddr (R := r_ApiWord_cells) (f := ApiWord.cells) (l := t1.2.2.l) (sz := 5) r_ApiWord_cells_eq (fun _ => rfl) hk (FW.holds_nil _) rfl rfl Go.Proofs.Try.underlying60 (by kernel_rfl) hc1) ?_
        refine FW.gfun (y := .agg ((ApiWord.cells (List.getD t1.2.2.l (Int.toNat t1.2.2.i) default)))) rfl rfl rfl rfl (fun a w hk => FW.f_load hk (FW.holds_nil _) rfl Go.Proofs.Try.underlying66 rfl rfl rfl rfl) ?_
        refine FW.gskip rfl rfl ?_
        refine FW.gskip0 rfl ?_
        exact FW.gend
      · skip
        intro σD a w opsD QD hk hQ hX
        refine FW.l_store (I' := [FW.blk bx3 66 ((ApiWord.cells (List.getD t1.2.2.l (Int.toNat t1.2.2.i) default))), FW.blk bx2 33 ((ApiValue.cells t1.1)), FW.blk b0 87 ([.row (r_ApiWord_cells t1.2.2.l), .lit (.int .i64 t1.2.2.i), .lit (.int .i64 t1.2.2.deep), .lit (.int .i64 t1.2.2.steps)]), FW.blk bx1 38 ((ApiArg.cells (⟨0, (⟨0, false, 0, 0, [], []⟩ : ApiValue), (⟨[], [], []⟩ : ApiPred), []⟩ : ApiArg)))]) (cs' := (ApiWord.cells (List.getD t1.2.2.l (Int.toNat t1.2.2.i) default))) (j := 0) hk rfl rfl rfl rfl rfl (by kernel_rfl) rfl rfl ?_; clear hk; intro w hk
        refine hQ _ a w ?_ hk; clear hk hQ hX
        refine ⟨[(18, [], .lit (.pointer (some ⟨b0, 0, none⟩))), (19, [], .lit (.pointer (some ⟨b0, 0, none⟩))), (20, [], .lit (.pointer (some ⟨b0, 0, none⟩))), (21, [], .row (r_ApiWord_cells t1.2.2.l)), (22, [], .lit (.pointer (some ⟨b0, 0, none⟩))), (23, [], .lit (.pointer (some ⟨b0, 0, none⟩))), (24, [], .lit (.pointer (some ⟨b0, 1, none⟩))), (25, [], .lit (.int .i64 t1.2.2.i)), (26, [], .ref (ApiWord.cells (List.getD t1.2.2.l (Int.toNat t1.2.2.i) default))), (27, [], .agg ((ApiWord.cells (List.getD t1.2.2.l (Int.toNat t1.2.2.i) default)))), (5, [], .lit (.pointer (some ⟨bx3, 0, none⟩))), (77, [], .lit undef)], And.intro rfl (And.intro rfl (And.intro rfl (And.intro rfl (And.intro rfl (And.intro rfl (And.intro rfl (And.intro rfl (And.intro rfl (And.intro rfl (And.intro rfl (trivial))))))))))), rfl, ?_⟩
        refine FW.glast ?_ ?_
        · skip
          refine FW.gskip rfl rfl ?_
          refine FW.gskip rfl rfl ?_
          refine FW.gskip rfl rfl ?_
          refine FW.gskip rfl rfl ?_
          refine FW.gskip rfl rfl ?_
          refine FW.gskip rfl rfl ?_
          refine FW.gskip rfl rfl ?_
          refine FW.gskip rfl rfl ?_
          refine FW.gskip rfl rfl ?_
          refine FW.gskip rfl rfl ?_
          refine FW.gskip rfl rfl ?_
          refine FW.gskip0 rfl ?_
          exact FW.gend
        · skip
          intro a w hk; simp only [FW.stD, cond_true] at hk
          refine FW.wseqJ (fun a w => ∃ (y1_0 : List ApiWord) (y1_1 : Int) (y1_2 : Int) (y1_3 : Int) (y2 : ApiArg), FW.S M w0 a w 77 [FW.blk b0 87 ([.row (r_ApiWord_cells y1_0), .lit (.int .i64 y1_1), .lit (.int .i64 y1_2), .lit (.int .i64 y1_3)]), FW.blk bx1 38 ((ApiArg.cells y2))] [(0, [], .lit (.pointer (some ⟨b0, 0, none⟩))), (2, [], .lit (.pointer (some ⟨bx1, 0, none⟩)))] ∧ parse_parser_arg.j1 s_parse_parser_chain s_parse_parser_step s_parse_parser_arg s_parse_parser_child K y1_0 y1_1 y1_2 y1_3 y2 = some r) ?_ ?_
          · clear hk h
            rintro a w ⟨y1_0, y1_1, y1_2, y1_3, y2, hk, h⟩
            unfold parse_parser_arg.j1 at h
            refine FW.wreg ?_; intro K' hK8
            refine FW.lfun (y := .lit (.pointer (some ⟨b0, 0, none⟩))) hk rfl rfl rfl rfl (FW.f_move hk (FW.holds_nil _) rfl) ?_; clear hk; intro a w hk
            rcases FW.bndX h with ⟨e_t2, hr_t2, rfl⟩ | ⟨t2, hr_t2, h⟩
            · skip
              refine FW.l_callXE (I1 := (OParseParser.items b0 (⟨y1_0, y1_1, y1_2, y1_3⟩ : OParseParser))) (I2 := [FW.blk bx1 38 ((ApiArg.cells y2))]) (js := [0]) hk rfl rfl rfl Go.Proofs.Try.func147 rfl (by kernel_rfl) (hs_parse_parser_child (⟨y1_0, y1_1, y1_2, y1_3⟩ : OParseParser) _ hr_t2 b0) ?_; clear hk
              rintro _ _ ⟨vE2, rfl, rfl⟩ w hk
              exact FW.fpan (P := Go.Proofs.Try.prog) (fn := Go.Proofs.Try.f120) (I1 := [FW.blk b0 87 ([.row (r_ApiWord_cells vE2.l), .lit (.int .i64 vE2.i), .lit (.int .i64 vE2.deep), .lit (.int .i64 vE2.steps)])]) (I2 := [FW.blk bx1 38 ((ApiArg.cells y2))]) (js := [0]) hk rfl ⟨_, rfl, vE2, rfl, rfl⟩
            refine FW.l_callH (I1 := (OParseParser.items b0 (⟨y1_0, y1_1, y1_2, y1_3⟩ : OParseParser))) (I2 := [FW.blk bx1 38 ((ApiArg.cells y2))]) (js := [0]) hk rfl rfl rfl rfl rfl Go.Proofs.Try.func147 rfl (by kernel_rfl) (FW.OkX.toH (hs_parse_parser_child (⟨y1_0, y1_1, y1_2, y1_3⟩ : OParseParser) _ hr_t2 b0)) ?_; clear hk
            rintro _ _ ⟨rfl, rfl⟩ a w hk
            refine FW.lfun (y := .agg ((ApiArg.cells (⟨3, (⟨0, false, 0, 0, [], []⟩ : ApiValue), (⟨[], [], []⟩ : ApiPred), t2.1⟩ : ApiArg)))) hk rfl rfl rfl rfl (FW.f_buildN [] hk (FW.holds_nil _) rfl rfl rfl) ?_; clear hk; intro a w hk
            refine FW.l_store (I' := [FW.blk b0 87 ([.row (r_ApiWord_cells t2.2.l), .lit (.int .i64 t2.2.i), .lit (.int .i64 t2.2.deep), .lit (.int .i64 t2.2.steps)]), FW.blk bx1 38 ((ApiArg.cells (⟨3, (⟨0, false, 0, 0, [], []⟩ : ApiValue), (⟨[], [], []⟩ : ApiPred), t2.1⟩ : ApiArg)))]) (cs' := (ApiArg.cells (⟨3, (⟨0, false, 0, 0, [], []⟩ : ApiValue), (⟨[], [], []⟩ : ApiPred), t2.1⟩ : ApiArg))) (j := 1) hk rfl rfl rfl rfl rfl (by kernel_rfl) rfl rfl ?_; clear hk; intro w hk
            refine FW.lend (hK8 _ _ ?_); clear hK8 K'
            refine wp_ret ?_
            (repeat first | refine FW.then_ret ?_ | refine FW.block_ret ?_)
            obtain rfl := Option.some.inj h
            have hr_0 := FW.rres_keep (I1 := [FW.blk b0 87 ([.row (r_ApiWord_cells t2.2.l), .lit (.int .i64 t2.2.i), .lit (.int .i64 t2.2.deep), .lit (.int .i64 t2.2.steps)])]) (I2 := [FW.blk bx1 38 ((ApiArg.cells (⟨3, (⟨0, false, 0, 0, [], []⟩ : ApiValue), (⟨[], [], []⟩ : ApiPred), t2.1⟩ : ApiArg)))]) (js := [0]) rfl (FW.rcell (tt := 2) hk rfl (j := 1) rfl Go.Proofs.Try.underlying38 rfl (by kernel_rfl))
            replace hk := FW.S.keep (I1 := [FW.blk b0 87 ([.row (r_ApiWord_cells t2.2.l), .lit (.int .i64 t2.2.i), .lit (.int .i64 t2.2.deep), .lit (.int .i64 t2.2.steps)])]) (I2 := [FW.blk bx1 38 ((ApiArg.cells (⟨3, (⟨0, false, 0, 0, [], []⟩ : ApiValue), (⟨[], [], []⟩ : ApiPred), t2.1⟩ : ApiArg)))]) (js := [0]) hk rfl
            exact FW.toXq (FW.fretH1 hk rfl hr_0 ⟨rfl, rfl⟩)
          · intro K' hK7
            refine FW.wreg ?_; intro K' hK9
            refine FW.lfun (y := .lit (.pointer (some ⟨bx3, 0, none⟩))) hk rfl rfl rfl rfl (FW.f_fieldPtr hk (FW.holds_nil _) rfl Go.Proofs.Try.underlying66 rfl (by kernel_rfl) rfl) ?_; clear hk; intro a w hk
            refine FW.lfun (y := .lit (.int .i64 ((List.getD t1.2.2.l (Int.toNat t1.2.2.i) default).Kind))) hk rfl rfl rfl rfl (FW.f_loadBlk1 hk (FW.holds_nil _) (j := 0) rfl rfl Go.Proofs.Try.underlying3 rfl rfl) ?_; clear hk; intro a w hk
            refine FW.lfun (y := .lit (.bool (decide (((List.getD t1.2.2.l (Int.toNat t1.2.2.i) default).Kind) = 1)))) hk rfl rfl rfl rfl ((FW.f_pure (FW.p_eql hk.kn (FW.holds_nil _) rfl rfl))) ?_; clear hk; intro a w hk
            refine FW.lend (hK9 _ _ ?_); clear hK9 K'
            refine FW.wcondF (b := (decide (((List.getD t1.2.2.l (Int.toNat t1.2.2.i) default).Kind) = 1))) hk h rfl (fun h hb => ?_) (fun h hb => ?_)
            · skip
              obtain ⟨hc2, h⟩ := FW.chk h
              refine FW.wdrawE (.next [true, true, true, true, true, true, true, true, true, true, true, false, false] 11 [true, true, true, true, true, true, true, true, true, true, true, false, false] (.next [true, true, true, true, true, true, true, true, true, true, true, false, false] 12 [true, true, true, true, true, true, true, true, true, true, true, true, false] (.leaf [false, false, false, false, false, false, false, false, false, false, false, false, false]))) [(31, [], .lit (.pointer (some ⟨b0, 0, none⟩))), (32, [], .lit (.pointer (some ⟨b0, 0, none⟩))), (33, [], .lit (.pointer (some ⟨b0, 0, none⟩))), (34, [], .row (r_ApiWord_cells t1.2.2.l)), (35, [], .lit (.pointer (some ⟨b0, 0, none⟩))), (36, [], .lit (.pointer (some ⟨b0, 0, none⟩))), (37, [], .lit (.pointer (some ⟨b0, 1, none⟩))), (38, [], .lit (.int .i64 t1.2.2.i)), (39, [], .lit (.int .i64 (IntKind.wrap .i64 (t1.2.2.i + 1)))), (40, [], .ref (ApiWord.cells (List.getD t1.2.2.l (Int.toNat (IntKind.wrap .i64 (t1.2.2.i + 1))) default))), (41, [], .agg ((ApiWord.cells (List.getD t1.2.2.l (Int.toNat (IntKind.wrap .i64 (t1.2.2.i + 1))) default)))), (6, [], .agg []), (77, [], .lit undef)] (by kernel_rfl) (by kernel_rfl) (by kernel_rfl) (by kernel_rfl) hk ?_; clear hk
              refine FW.gnext ?_ rfl rfl rfl rfl rfl ?_
              · skip
                refine FW.gfun (y := .lit (.pointer (some ⟨b0, 0, none⟩))) rfl rfl rfl rfl (fun a w hk => FW.f_move hk (FW.holds_nil _) rfl) ?_
                refine FW.gfun (y := .lit (.pointer (some ⟨b0, 0, none⟩))) rfl rfl rfl rfl (fun a w hk => (FW.f_pure (FW.p_nilCheck hk.kn (FW.holds_nil _) rfl))) ?_
                refine FW.gfun (y := .lit (.pointer (some ⟨b0, 0, none⟩))) rfl rfl rfl rfl (fun a w hk => FW.f_fieldPtr hk (FW.holds_nil _) rfl Go.Proofs.Try.underlying87 rfl (by kernel_rfl) rfl) ?_
                refine FW.gfun (y := .row (r_ApiWord_cells t1.2.2.l)) rfl rfl rfl rfl (fun a w hk => FW.f_loadBlk1 hk (FW.holds_nil _) (j := 2) rfl rfl Go.Proofs.Try.underlying60 rfl rfl) ?_
                refine FW.gfun (y := .lit (.pointer (some ⟨b0, 0, none⟩))) rfl rfl rfl rfl (fun a w hk => FW.f_move hk (FW.holds_nil _) rfl) ?_
                refine FW.gfun (y := .lit (.pointer (some ⟨b0, 0, none⟩))) rfl rfl rfl rfl (fun a w hk => (FW.f_pure (FW.p_nilCheck hk.kn (FW.holds_nil _) rfl))) ?_
                refine FW.gfun (y := .lit (.pointer (some ⟨b0, 1, none⟩))) rfl rfl rfl rfl (fun a w hk => FW.f_fieldPtr hk (FW.holds_nil _) rfl Go.Proofs.Try.underlying87 rfl (by kernel_rfl) rfl) ?_
                refine FW.gfun (y := .lit (.int .i64 t1.2.2.i)) rfl rfl rfl rfl (fun a w hk => FW.f_loadBlk1 hk (FW.holds_nil _) (j := 2) rfl rfl Go.Proofs.Try.underlying3 rfl rfl) ?_
                refine FW.gfun (y := .lit (.int .i64 (IntKind.wrap .i64 (t1.2.2.i + 1)))) rfl rfl rfl rfl (fun a w hk => (FW.f_pure (FW.p_add hk.kn (FW.holds_nil _) rfl rfl))) ?_
                refine FW.gfun (y := .ref (ApiWord.cells (List.getD t1.2.2.l (Int.toNat (IntKind.wrap .i64 (t1.2.2.i + 1))) default))) rfl rfl rfl rfl (fun a w hk => FW.f_indexAddr (R := r_ApiWord_cells) (f := ApiWord.cells) (l := t1.2.2.l) (sz := 5) r_ApiWord_cells_eq (fun _ => rfl) hk (FW.holds_nil _) rfl rfl Go.Proofs.Try.underlying60 (by kernel_rfl) hc2) ?_
                refine FW.gfun (y := .agg ((ApiWord.cells (List.getD t1.2.2.l (Int.toNat (IntKind.wrap .i64 (t1.2.2.i + 1))) default)))) rfl rfl rfl rfl (fun a w hk => FW.f_load hk (FW.holds_nil _) rfl Go.Proofs.Try.underlying66 rfl rfl rfl rfl) ?_
                refine FW.gskip rfl rfl ?_
                refine FW.gskip0 rfl ?_
                exact FW.gend
              · skip
                intro σD a w opsD QD hk hf hQ hX
                refine FW.l_alloc (zs := (ApiWord.cells (⟨0, [], 0, 0, 0⟩ : ApiWord))) [] hk rfl hf rfl rfl ?_; clear hk; intro bx4 a w hk
                refine hQ _ _ a w ?_ hk; clear hk hQ hf hX
                refine ⟨[(31, [], .lit (.pointer (some ⟨b0, 0, none⟩))), (32, [], .lit (.pointer (some ⟨b0, 0, none⟩))), (33, [], .lit (.pointer (some ⟨b0, 0, none⟩))), (34, [], .row (r_ApiWord_cells t1.2.2.l)), (35, [], .lit (.pointer (some ⟨b0, 0, none⟩))), (36, [], .lit (.pointer (some ⟨b0, 0, none⟩))), (37, [], .lit (.pointer (some ⟨b0, 1, none⟩))), (38, [], .lit (.int .i64 t1.2.2.i)), (39, [], .lit (.int .i64 (IntKind.wrap .i64 (t1.2.2.i + 1)))), (40, [], .ref (ApiWord.cells (List.getD t1.2.2.l (Int.toNat (IntKind.wrap .i64 (t1.2.2.i + 1))) default))), (41, [], .agg ((ApiWord.cells (List.getD t1.2.2.l (Int.toNat (IntKind.wrap .i64 (t1.2.2.i + 1))) default)))), (6, [], .lit (.pointer (some ⟨bx4, 0, none⟩))), (77, [], .lit undef)], And.intro rfl (And.intro rfl (And.intro rfl (And.intro rfl (And.intro rfl (And.intro rfl (And.intro rfl (And.intro rfl (And.intro rfl (And.intro rfl (And.intro rfl (trivial))))))))))), rfl, ?_⟩
                refine FW.gnext0 ?_ rfl rfl rfl ?_
                · skip
                  refine FW.gfun (y := .lit (.pointer (some ⟨b0, 0, none⟩))) rfl rfl rfl rfl (fun a w hk => FW.f_move hk (FW.holds_nil _) rfl) ?_
                  refine FW.gfun (y := .lit (.pointer (some ⟨b0, 0, none⟩))) rfl rfl rfl rfl (fun a w hk => (FW.f_pure (FW.p_nilCheck hk.kn (FW.holds_nil _) rfl))) ?_
                  refine FW.gfun (y := .lit (.pointer (some ⟨b0, 0, none⟩))) rfl rfl rfl rfl (fun a w hk => FW.f_fieldPtr hk (FW.holds_nil _) rfl Go.Proofs.Try.underlying87 rfl (by kernel_rfl) rfl) ?_
                  refine FW.gfun (y := .row (r_ApiWord_cells t1.2.2.l)) rfl rfl rfl rfl (fun a w hk => FW.f_loadBlk1 hk (FW.holds_nil _) (j := 3) rfl rfl Go.Proofs.Try.underlying60 rfl rfl) ?_
                  refine FW.gfun (y := .lit (.pointer (some ⟨b0, 0, none⟩))) rfl rfl rfl rfl (fun a w hk => FW.f_move hk (FW.holds_nil _) rfl) ?_
                  refine FW.gfun (y := .lit (.pointer (some ⟨b0, 0, none⟩))) rfl rfl rfl rfl (fun a w hk => (FW.f_pure (FW.p_nilCheck hk.kn (FW.holds_nil _) rfl))) ?_
                  refine FW.gfun (y := .lit (.pointer (some ⟨b0, 1, none⟩))) rfl rfl rfl rfl (fun a w hk => FW.f_fieldPtr hk (FW.holds_nil _) rfl Go.Proofs.Try.underlying87 rfl (by kernel_rfl) rfl) ?_
                  refine FW.gfun (y := .lit (.int .i64 t1.2.2.i)) rfl rfl rfl rfl (fun a w hk => FW.f_loadBlk1 hk (FW.holds_nil _) (j := 3) rfl rfl Go.Proofs.Try.underlying3 rfl rfl) ?_
                  refine FW.gfun (y := .lit (.int .i64 (IntKind.wrap .i64 (t1.2.2.i + 1)))) rfl rfl rfl rfl (fun a w hk => (FW.f_pure (FW.p_add hk.kn (FW.holds_nil _) rfl rfl))) ?_
                  refine FW.gfun (y := .ref (ApiWord.cells (List.getD t1.2.2.l (Int.toNat (IntKind.wrap .i64 (t1.2.2.i + 1))) default))) rfl rfl rfl rfl (fun a w hk => FW.f_indexAddr (R := r_ApiWord_cells) (f := ApiWord.cells) (l := t1.2.2.l) (sz := 5) r_ApiWord_cells_eq (fun _ => rfl) hk (FW.holds_nil _) rfl rfl Go.Proofs.Try.underlying60 (by kernel_rfl) hc2) ?_
                  refine FW.gfun (y := .agg ((ApiWord.cells (List.getD t1.2.2.l (Int.toNat (IntKind.wrap .i64 (t1.2.2.i + 1))) default)))) rfl rfl rfl rfl (fun a w hk => FW.f_load hk (FW.holds_nil _) rfl Go.Proofs.Try.underlying66 rfl rfl rfl rfl) ?_
                  refine FW.gskip rfl rfl ?_
                  refine FW.gskip0 rfl ?_
                  exact FW.gend
                · skip
                  intro σD a w opsD QD hk hQ hX
                  refine FW.l_store (I' := [FW.blk bx4 66 ((ApiWord.cells (List.getD t1.2.2.l (Int.toNat (IntKind.wrap .i64 (t1.2.2.i + 1))) default))), FW.blk bx3 66 ((ApiWord.cells (List.getD t1.2.2.l (Int.toNat t1.2.2.i) default))), FW.blk bx2 33 ((ApiValue.cells t1.1)), FW.blk b0 87 ([.row (r_ApiWord_cells t1.2.2.l), .lit (.int .i64 t1.2.2.i), .lit (.int .i64 t1.2.2.deep), .lit (.int .i64 t1.2.2.steps)]), FW.blk bx1 38 ((ApiArg.cells (⟨0, (⟨0, false, 0, 0, [], []⟩ : ApiValue), (⟨[], [], []⟩ : ApiPred), []⟩ : ApiArg)))]) (cs' := (ApiWord.cells (List.getD t1.2.2.l (Int.toNat (IntKind.wrap .i64 (t1.2.2.i + 1))) default))) (j := 0) hk rfl rfl rfl rfl rfl (by kernel_rfl) rfl rfl ?_; clear hk; intro w hk
                  refine hQ _ a w ?_ hk; clear hk hQ hX
                  refine ⟨[(31, [], .lit (.pointer (some ⟨b0, 0, none⟩))), (32, [], .lit (.pointer (some ⟨b0, 0, none⟩))), (33, [], .lit (.pointer (some ⟨b0, 0, none⟩))), (34, [], .row (r_ApiWord_cells t1.2.2.l)), (35, [], .lit (.pointer (some ⟨b0, 0, none⟩))), (36, [], .lit (.pointer (some ⟨b0, 0, none⟩))), (37, [], .lit (.pointer (some ⟨b0, 1, none⟩))), (38, [], .lit (.int .i64 t1.2.2.i)), (39, [], .lit (.int .i64 (IntKind.wrap .i64 (t1.2.2.i + 1)))), (40, [], .ref (ApiWord.cells (List.getD t1.2.2.l (Int.toNat (IntKind.wrap .i64 (t1.2.2.i + 1))) default))), (41, [], .agg ((ApiWord.cells (List.getD t1.2.2.l (Int.toNat (IntKind.wrap .i64 (t1.2.2.i + 1))) default)))), (6, [], .lit (.pointer (some ⟨bx4, 0, none⟩))), (77, [], .lit undef)], And.intro rfl (And.intro rfl (And.intro rfl (And.intro rfl (And.intro rfl (And.intro rfl (And.intro rfl (And.intro rfl (And.intro rfl (And.intro rfl (And.intro rfl (And.intro rfl (trivial)))))))))))), rfl, ?_⟩
                  refine FW.glast ?_ ?_
                  · skip
                    refine FW.gskip rfl rfl ?_
                    refine FW.gskip rfl rfl ?_
                    refine FW.gskip rfl rfl ?_
                    refine FW.gskip rfl rfl ?_
                    refine FW.gskip rfl rfl ?_
                    refine FW.gskip rfl rfl ?_
                    refine FW.gskip rfl rfl ?_
                    refine FW.gskip rfl rfl ?_
                    refine FW.gskip rfl rfl ?_
                    refine FW.gskip rfl rfl ?_
                    refine FW.gskip rfl rfl ?_
                    refine FW.gskip rfl rfl ?_
                    refine FW.gskip0 rfl ?_
                    exact FW.gend
                  · skip
                    intro a w hk; simp only [FW.stD, cond_true] at hk
                    refine FW.wreg ?_; intro K' hK11
                    refine FW.lfun (y := .lit (.pointer (some ⟨bx4, 0, none⟩))) hk rfl rfl rfl rfl (FW.f_fieldPtr hk (FW.holds_nil _) rfl Go.Proofs.Try.underlying66 rfl (by kernel_rfl) rfl) ?_; clear hk; intro a w hk
                    refine FW.lfun (y := .lit (.int .i64 ((List.getD t1.2.2.l (Int.toNat (IntKind.wrap .i64 (t1.2.2.i + 1))) default).Kind))) hk rfl rfl rfl rfl (FW.f_loadBlk1 hk (FW.holds_nil _) (j := 0) rfl rfl Go.Proofs.Try.underlying3 rfl rfl) ?_; clear hk; intro a w hk
                    refine FW.lfun (y := .lit (.bool (decide (((List.getD t1.2.2.l (Int.toNat (IntKind.wrap .i64 (t1.2.2.i + 1))) default).Kind) = 5)))) hk rfl rfl rfl rfl ((FW.f_pure (FW.p_eql hk.kn (FW.holds_nil _) rfl rfl))) ?_; clear hk; intro a w hk
                    refine FW.lfun (y := .lit (.bool (decide (((List.getD t1.2.2.l (Int.toNat (IntKind.wrap .i64 (t1.2.2.i + 1))) default).Kind) = 5)))) hk rfl rfl rfl rfl (FW.f_move hk (FW.holds_nil _) rfl) ?_; clear hk; intro a w hk
                    refine FW.lfunG (y := .lit (.pointer (some ⟨bx4, 1, none⟩))) hk rfl rfl rfl rfl rfl rfl rfl rfl (fun hc => FW.f_fieldPtr hk hc rfl Go.Proofs.Try.underlying66 rfl (by kernel_rfl) rfl) ?_; clear hk; intro a w hk
                    refine FW.lfunG (y := .lit (.string (FW.B ((List.getD t1.2.2.l (Int.toNat (IntKind.wrap .i64 (t1.2.2.i + 1))) default).S)))) hk rfl rfl rfl rfl rfl rfl rfl rfl (fun hc => FW.f_loadBlk1 hk hc (j := 0) rfl rfl Go.Proofs.Try.underlying9 rfl rfl) ?_; clear hk; intro a w hk
                    refine FW.lfunG (y := .lit (.bool (decide (((List.getD t1.2.2.l (Int.toNat (IntKind.wrap .i64 (t1.2.2.i + 1))) default).S) = ([40] : List UInt8))))) hk rfl rfl rfl rfl rfl rfl rfl rfl (fun hc => (FW.f_pure (FW.p_seql hk.kn hc rfl rfl))) ?_; clear hk; intro a w hk
                    refine FW.lfun (y := .lit (.bool ((decide (((List.getD t1.2.2.l (Int.toNat (IntKind.wrap .i64 (t1.2.2.i + 1))) default).Kind) = 5)) && (decide (((List.getD t1.2.2.l (Int.toNat (IntKind.wrap .i64 (t1.2.2.i + 1))) default).S) = ([40] : List UInt8)))))) hk rfl rfl rfl rfl ((FW.f_pure (FW.p_pick_and hk.kn (FW.holds_nil _) rfl rfl))) ?_; clear hk; intro a w hk
                    refine FW.lfun (y := .lit (.bool ((decide (((List.getD t1.2.2.l (Int.toNat (IntKind.wrap .i64 (t1.2.2.i + 1))) default).Kind) = 5)) && (decide (((List.getD t1.2.2.l (Int.toNat (IntKind.wrap .i64 (t1.2.2.i + 1))) default).S) = ([40] : List UInt8)))))) hk rfl rfl rfl rfl (FW.f_assign hk (FW.holds_nil _) rfl) ?_; clear hk; intro a w hk
                    refine FW.lend (hK11 _ _ ?_); clear hK11 K'
                    refine FW.wseq ?_; intro K' hK12
                    refine FW.wreg ?_; intro K' hK13
                    refine FW.lfun (y := .lit (.pointer (some ⟨bx3, 1, none⟩))) hk rfl rfl rfl rfl (FW.f_fieldPtr hk (FW.holds_nil _) rfl Go.Proofs.Try.underlying66 rfl (by kernel_rfl) rfl) ?_; clear hk; intro a w hk
                    refine FW.lfun (y := .lit (.string (FW.B ((List.getD t1.2.2.l (Int.toNat t1.2.2.i) default).S)))) hk rfl rfl rfl rfl (FW.f_loadBlk1 hk (FW.holds_nil _) (j := 1) rfl rfl Go.Proofs.Try.underlying9 rfl rfl) ?_; clear hk; intro a w hk
                    obtain ⟨t3, hr_t3, h⟩ := FW.bnd h
                    refine FW.lfun (y := .tup [.lit (.int .i64 t3.1), .lit (.bool t3.2)]) hk rfl rfl rfl rfl (FW.f_call hk (FW.holds_nil _) rfl rfl Go.Proofs.Try.func144 rfl (by kernel_rfl) (parse_Preds.ok ((List.getD t1.2.2.l (Int.toNat t1.2.2.i) default).S) _ hr_t3)) ?_; clear hk; intro a w hk
                    refine FW.lfun (y := .tup [.lit (.int .i64 t3.1), .lit (.bool t3.2)]) hk rfl rfl rfl rfl (FW.f_move hk (FW.holds_nil _) rfl) ?_; clear hk; intro a w hk
                    refine FW.lfun (y := .lit (.int .i64 t3.1)) hk rfl rfl rfl rfl (FW.f_extract hk (FW.holds_nil _) rfl rfl) ?_; clear hk; intro a w hk
                    refine FW.lfun (y := .lit (.bool t3.2)) hk rfl rfl rfl rfl (FW.f_extract hk (FW.holds_nil _) rfl rfl) ?_; clear hk; intro a w hk
                    refine FW.lfun (y := .lit (.int .i64 t3.1)) hk rfl rfl rfl rfl (FW.f_assign hk (FW.holds_nil _) rfl) ?_; clear hk; intro a w hk
                    refine FW.lfun (y := .lit (.bool t3.2)) hk rfl rfl rfl rfl (FW.f_assign hk (FW.holds_nil _) rfl) ?_; clear hk; intro a w hk
                    refine FW.lend (hK13 _ _ ?_); clear hK13 K'
                    refine FW.wreg ?_; intro K' hK14
                    refine FW.lfun (y := .lit (.bool t3.2)) hk rfl rfl rfl rfl (FW.f_move hk (FW.holds_nil _) rfl) ?_; clear hk; intro a w hk
                    refine FW.lfun (y := .lit (.bool t3.2)) hk rfl rfl rfl rfl (FW.f_move hk (FW.holds_nil _) rfl) ?_; clear hk; intro a w hk
                    refine FW.lfunG (y := .lit (.bool ((decide (((List.getD t1.2.2.l (Int.toNat (IntKind.wrap .i64 (t1.2.2.i + 1))) default).Kind) = 5)) && (decide (((List.getD t1.2.2.l (Int.toNat (IntKind.wrap .i64 (t1.2.2.i + 1))) default).S) = ([40] : List UInt8)))))) hk rfl rfl rfl rfl rfl rfl rfl rfl (fun hc => FW.f_move hk hc rfl) ?_; clear hk; intro a w hk
                    refine FW.lfun (y := .lit (.bool (t3.2 && ((decide (((List.getD t1.2.2.l (Int.toNat (IntKind.wrap .i64 (t1.2.2.i + 1))) default).Kind) = 5)) && (decide (((List.getD t1.2.2.l (Int.toNat (IntKind.wrap .i64 (t1.2.2.i + 1))) default).S) = ([40] : List UInt8))))))) hk rfl rfl rfl rfl ((FW.f_pure (FW.p_pick_and hk.kn (FW.holds_nil _) rfl rfl))) ?_; clear hk; intro a w hk
                    refine FW.lend (hK14 _ _ ?_); clear hK14 K'
                    refine FW.wcondF (b := (t3.2 && ((decide (((List.getD t1.2.2.l (Int.toNat (IntKind.wrap .i64 (t1.2.2.i + 1))) default).Kind) = 5)) && (decide (((List.getD t1.2.2.l (Int.toNat (IntKind.wrap .i64 (t1.2.2.i + 1))) default).S) = ([40] : List UInt8)))))) hk h rfl (fun h hb => ?_) (fun h hb => ?_)
                    · skip
                      refine FW.wreg ?_; intro K' hK15
                      refine FW.lfun (y := .lit (.pointer (some ⟨b0, 0, none⟩))) hk rfl rfl rfl rfl (FW.f_move hk (FW.holds_nil _) rfl) ?_; clear hk; intro a w hk
                      rcases FW.bndX h with ⟨e_t4, hr_t4, rfl⟩ | ⟨t4, hr_t4, h⟩
                      · skip
                        refine FW.l_callXE (I1 := (OParseParser.items b0 t1.2.2)) (I2 := [FW.blk bx4 66 ((ApiWord.cells (List.getD t1.2.2.l (Int.toNat (IntKind.wrap .i64 (t1.2.2.i + 1))) default))), FW.blk bx3 66 ((ApiWord.cells (List.getD t1.2.2.l (Int.toNat t1.2.2.i) default))), FW.blk bx2 33 ((ApiValue.cells t1.1)), FW.blk bx1 38 ((ApiArg.cells (⟨0, (⟨0, false, 0, 0, [], []⟩ : ApiValue), (⟨[], [], []⟩ : ApiPred), []⟩ : ApiArg)))]) (js := [3]) hk rfl rfl rfl Go.Proofs.Try.func145 rfl (by kernel_rfl) (parse_parser_pred.ok K t1.2.2 _ hr_t4 b0) ?_; clear hk
                        rintro _ _ ⟨vE3, rfl, rfl⟩ w hk
                        exact FW.fpan (P := Go.Proofs.Try.prog) (fn := Go.Proofs.Try.f120) (I1 := [FW.blk b0 87 ([.row (r_ApiWord_cells vE3.l), .lit (.int .i64 vE3.i), .lit (.int .i64 vE3.deep), .lit (.int .i64 vE3.steps)])]) (I2 := [FW.blk bx4 66 ((ApiWord.cells (List.getD t1.2.2.l (Int.toNat (IntKind.wrap .i64 (t1.2.2.i + 1))) default))), FW.blk bx3 66 ((ApiWord.cells (List.getD t1.2.2.l (Int.toNat t1.2.2.i) default))), FW.blk bx2 33 ((ApiValue.cells t1.1)), FW.blk bx1 38 ((ApiArg.cells (⟨0, (⟨0, false, 0, 0, [], []⟩ : ApiValue), (⟨[], [], []⟩ : ApiPred), []⟩ : ApiArg)))]) (js := [0]) hk rfl ⟨_, rfl, vE3, rfl, rfl⟩
                      refine FW.l_callH (I1 := (OParseParser.items b0 t1.2.2)) (I2 := [FW.blk bx4 66 ((ApiWord.cells (List.getD t1.2.2.l (Int.toNat (IntKind.wrap .i64 (t1.2.2.i + 1))) default))), FW.blk bx3 66 ((ApiWord.cells (List.getD t1.2.2.l (Int.toNat t1.2.2.i) default))), FW.blk bx2 33 ((ApiValue.cells t1.1)), FW.blk bx1 38 ((ApiArg.cells (⟨0, (⟨0, false, 0, 0, [], []⟩ : ApiValue), (⟨[], [], []⟩ : ApiPred), []⟩ : ApiArg)))]) (js := [3]) hk rfl rfl rfl rfl rfl Go.Proofs.Try.func145 rfl (by kernel_rfl) (FW.OkX.toH (parse_parser_pred.ok K t1.2.2 _ hr_t4 b0)) ?_; clear hk
                      rintro _ _ ⟨rfl, rfl⟩ a w hk
                      refine FW.lfun (y := .agg ((ApiArg.cells (⟨2, (⟨0, false, 0, 0, [], []⟩ : ApiValue), t4.1, []⟩ : ApiArg)))) hk rfl rfl rfl rfl (FW.f_buildN [] hk (FW.holds_nil _) rfl rfl rfl) ?_; clear hk; intro a w hk
                      refine FW.l_store (I' := [FW.blk b0 87 ([.row (r_ApiWord_cells t4.2.l), .lit (.int .i64 t4.2.i), .lit (.int .i64 t4.2.deep), .lit (.int .i64 t4.2.steps)]), FW.blk bx4 66 ((ApiWord.cells (List.getD t1.2.2.l (Int.toNat (IntKind.wrap .i64 (t1.2.2.i + 1))) default))), FW.blk bx3 66 ((ApiWord.cells (List.getD t1.2.2.l (Int.toNat t1.2.2.i) default))), FW.blk bx2 33 ((ApiValue.cells t1.1)), FW.blk bx1 38 ((ApiArg.cells (⟨2, (⟨0, false, 0, 0, [], []⟩ : ApiValue), t4.1, []⟩ : ApiArg)))]) (cs' := (ApiArg.cells (⟨2, (⟨0, false, 0, 0, [], []⟩ : ApiValue), t4.1, []⟩ : ApiArg))) (j := 4) hk rfl rfl rfl rfl rfl (by kernel_rfl) rfl rfl ?_; clear hk; intro w hk
                      refine FW.lend (hK15 _ _ ?_); clear hK15 K'
                      refine wp_ret ?_
                      (repeat first | refine FW.then_ret ?_ | refine FW.block_ret ?_)
                      obtain rfl := Option.some.inj h
                      have hr_0 := FW.rres_keep (I1 := [FW.blk b0 87 ([.row (r_ApiWord_cells t4.2.l), .lit (.int .i64 t4.2.i), .lit (.int .i64 t4.2.deep), .lit (.int .i64 t4.2.steps)])]) (I2 := [FW.blk bx4 66 ((ApiWord.cells (List.getD t1.2.2.l (Int.toNat (IntKind.wrap .i64 (t1.2.2.i + 1))) default))), FW.blk bx3 66 ((ApiWord.cells (List.getD t1.2.2.l (Int.toNat t1.2.2.i) default))), FW.blk bx2 33 ((ApiValue.cells t1.1)), FW.blk bx1 38 ((ApiArg.cells (⟨2, (⟨0, false, 0, 0, [], []⟩ : ApiValue), t4.1, []⟩ : ApiArg)))]) (js := [0]) rfl (FW.rcell (tt := 2) hk rfl (j := 4) rfl Go.Proofs.Try.underlying38 rfl (by kernel_rfl))
                      replace hk := FW.S.keep (I1 := [FW.blk b0 87 ([.row (r_ApiWord_cells t4.2.l), .lit (.int .i64 t4.2.i), .lit (.int .i64 t4.2.deep), .lit (.int .i64 t4.2.steps)])]) (I2 := [FW.blk bx4 66 ((ApiWord.cells (List.getD t1.2.2.l (Int.toNat (IntKind.wrap .i64 (t1.2.2.i + 1))) default))), FW.blk bx3 66 ((ApiWord.cells (List.getD t1.2.2.l (Int.toNat t1.2.2.i) default))), FW.blk bx2 33 ((ApiValue.cells t1.1)), FW.blk bx1 38 ((ApiArg.cells (⟨2, (⟨0, false, 0, 0, [], []⟩ : ApiValue), t4.1, []⟩ : ApiArg)))]) (js := [0]) hk rfl
                      exact FW.toXq (FW.fretH1 hk rfl hr_0 ⟨rfl, rfl⟩)
                    · skip
                      refine wp_skip ?_
                      (repeat first | refine FW.then_normal ?_ | refine FW.block_normal ?_); refine hK12 _ _ ?_
                      refine FW.wreg ?_; intro K' hK16
                      refine FW.lfun (y := .lit (.bool ((decide (((List.getD t1.2.2.l (Int.toNat (IntKind.wrap .i64 (t1.2.2.i + 1))) default).Kind) = 5)) && (decide (((List.getD t1.2.2.l (Int.toNat (IntKind.wrap .i64 (t1.2.2.i + 1))) default).S) = ([40] : List UInt8)))))) hk rfl rfl rfl rfl (FW.f_move hk (FW.holds_nil _) rfl) ?_; clear hk; intro a w hk
                      refine FW.lfun (y := .lit (.bool (!((decide (((List.getD t1.2.2.l (Int.toNat (IntKind.wrap .i64 (t1.2.2.i + 1))) default).Kind) = 5)) && (decide (((List.getD t1.2.2.l (Int.toNat (IntKind.wrap .i64 (t1.2.2.i + 1))) default).S) = ([40] : List UInt8))))))) hk rfl rfl rfl rfl ((FW.f_pure (FW.p_not hk.kn (FW.holds_nil _) rfl))) ?_; clear hk; intro a w hk
                      refine FW.lfun (y := .lit (.bool (!((decide (((List.getD t1.2.2.l (Int.toNat (IntKind.wrap .i64 (t1.2.2.i + 1))) default).Kind) = 5)) && (decide (((List.getD t1.2.2.l (Int.toNat (IntKind.wrap .i64 (t1.2.2.i + 1))) default).S) = ([40] : List UInt8))))))) hk rfl rfl rfl rfl (FW.f_move hk (FW.holds_nil _) rfl) ?_; clear hk; intro a w hk
                      refine FW.lfunG (y := .lit (.pointer (some ⟨bx3, 1, none⟩))) hk rfl rfl rfl rfl rfl rfl rfl rfl (fun hc => FW.f_fieldPtr hk hc rfl Go.Proofs.Try.underlying66 rfl (by kernel_rfl) rfl) ?_; clear hk; intro a w hk
                      refine FW.lfunG (y := .lit (.string (FW.B ((List.getD t1.2.2.l (Int.toNat t1.2.2.i) default).S)))) hk rfl rfl rfl rfl rfl rfl rfl rfl (fun hc => FW.f_loadBlk1 hk hc (j := 1) rfl rfl Go.Proofs.Try.underlying9 rfl rfl) ?_; clear hk; intro a w hk
                      refine FW.lfunG (y := .lit (.bool (!decide (((List.getD t1.2.2.l (Int.toNat t1.2.2.i) default).S) = ([95, 95] : List UInt8))))) hk rfl rfl rfl rfl rfl rfl rfl rfl (fun hc => (FW.f_pure (FW.p_sneq hk.kn hc rfl rfl))) ?_; clear hk; intro a w hk
                      refine FW.lfun (y := .lit (.bool ((!((decide (((List.getD t1.2.2.l (Int.toNat (IntKind.wrap .i64 (t1.2.2.i + 1))) default).Kind) = 5)) && (decide (((List.getD t1.2.2.l (Int.toNat (IntKind.wrap .i64 (t1.2.2.i + 1))) default).S) = ([40] : List UInt8))))) && (!decide (((List.getD t1.2.2.l (Int.toNat t1.2.2.i) default).S) = ([95, 95] : List UInt8)))))) hk rfl rfl rfl rfl ((FW.f_pure (FW.p_pick_and hk.kn (FW.holds_nil _) rfl rfl))) ?_; clear hk; intro a w hk
                      refine FW.lend (hK16 _ _ ?_); clear hK16 K'
                      refine FW.wcondF (b := ((!((decide (((List.getD t1.2.2.l (Int.toNat (IntKind.wrap .i64 (t1.2.2.i + 1))) default).Kind) = 5)) && (decide (((List.getD t1.2.2.l (Int.toNat (IntKind.wrap .i64 (t1.2.2.i + 1))) default).S) = ([40] : List UInt8))))) && (!decide (((List.getD t1.2.2.l (Int.toNat t1.2.2.i) default).S) = ([95, 95] : List UInt8))))) hk h rfl (fun h hb => ?_) (fun h hb => ?_)
                      · skip
                        refine FW.wreg ?_; intro K' hK17
                        refine FW.lfun (y := .lit (.pointer (some ⟨b0, 0, none⟩))) hk rfl rfl rfl rfl (FW.f_move hk (FW.holds_nil _) rfl) ?_; clear hk; intro a w hk
                        rcases FW.bndX h with ⟨e_t5, hr_t5, rfl⟩ | ⟨t5, hr_t5, h⟩
                        · skip
                          refine FW.l_callXE (I1 := (OParseParser.items b0 t1.2.2)) (I2 := [FW.blk bx4 66 ((ApiWord.cells (List.getD t1.2.2.l (Int.toNat (IntKind.wrap .i64 (t1.2.2.i + 1))) default))), FW.blk bx3 66 ((ApiWord.cells (List.getD t1.2.2.l (Int.toNat t1.2.2.i) default))), FW.blk bx2 33 ((ApiValue.cells t1.1)), FW.blk bx1 38 ((ApiArg.cells (⟨0, (⟨0, false, 0, 0, [], []⟩ : ApiValue), (⟨[], [], []⟩ : ApiPred), []⟩ : ApiArg)))]) (js := [3]) hk rfl rfl rfl Go.Proofs.Try.func64 rfl (by kernel_rfl) (parse_parser_name.ok t1.2.2 _ hr_t5 b0) ?_; clear hk
                          rintro _ _ ⟨vE4, rfl, rfl⟩ w hk
                          exact FW.fpan (P := Go.Proofs.Try.prog) (fn := Go.Proofs.Try.f120) (I1 := [FW.blk b0 87 ([.row (r_ApiWord_cells vE4.l), .lit (.int .i64 vE4.i), .lit (.int .i64 vE4.deep), .lit (.int .i64 vE4.steps)])]) (I2 := [FW.blk bx4 66 ((ApiWord.cells (List.getD t1.2.2.l (Int.toNat (IntKind.wrap .i64 (t1.2.2.i + 1))) default))), FW.blk bx3 66 ((ApiWord.cells (List.getD t1.2.2.l (Int.toNat t1.2.2.i) default))), FW.blk bx2 33 ((ApiValue.cells t1.1)), FW.blk bx1 38 ((ApiArg.cells (⟨0, (⟨0, false, 0, 0, [], []⟩ : ApiValue), (⟨[], [], []⟩ : ApiPred), []⟩ : ApiArg)))]) (js := [0]) hk rfl ⟨_, rfl, vE4, rfl, rfl⟩
                        refine FW.l_callH (I1 := (OParseParser.items b0 t1.2.2)) (I2 := [FW.blk bx4 66 ((ApiWord.cells (List.getD t1.2.2.l (Int.toNat (IntKind.wrap .i64 (t1.2.2.i + 1))) default))), FW.blk bx3 66 ((ApiWord.cells (List.getD t1.2.2.l (Int.toNat t1.2.2.i) default))), FW.blk bx2 33 ((ApiValue.cells t1.1)), FW.blk bx1 38 ((ApiArg.cells (⟨0, (⟨0, false, 0, 0, [], []⟩ : ApiValue), (⟨[], [], []⟩ : ApiPred), []⟩ : ApiArg)))]) (js := [3]) hk rfl rfl rfl rfl rfl Go.Proofs.Try.func64 rfl (by kernel_rfl) (FW.OkX.toH (parse_parser_name.ok t1.2.2 _ hr_t5 b0)) ?_; clear hk
                        rintro _ _ ⟨rfl, rfl⟩ a w hk
                        obtain ⟨t6, hr_t6, h⟩ := FW.bnd h
                        refine FW.lfun (y := .agg ((ApiValue.cells t6))) hk rfl rfl rfl rfl (FW.f_call hk (FW.holds_nil _) rfl rfl Go.Proofs.Try.func146 rfl (by kernel_rfl) (val_Text.ok t5.1 _ hr_t6)) ?_; clear hk; intro a w hk
                        refine FW.lfun (y := .agg ((ApiArg.cells (⟨4, t6, (⟨[], [], []⟩ : ApiPred), []⟩ : ApiArg)))) hk rfl rfl rfl rfl (FW.f_buildN [] hk (FW.holds_nil _) rfl rfl rfl) ?_; clear hk; intro a w hk
                        refine FW.l_store (I' := [FW.blk b0 87 ([.row (r_ApiWord_cells t5.2.l), .lit (.int .i64 t5.2.i), .lit (.int .i64 t5.2.deep), .lit (.int .i64 t5.2.steps)]), FW.blk bx4 66 ((ApiWord.cells (List.getD t1.2.2.l (Int.toNat (IntKind.wrap .i64 (t1.2.2.i + 1))) default))), FW.blk bx3 66 ((ApiWord.cells (List.getD t1.2.2.l (Int.toNat t1.2.2.i) default))), FW.blk bx2 33 ((ApiValue.cells t1.1)), FW.blk bx1 38 ((ApiArg.cells (⟨4, t6, (⟨[], [], []⟩ : ApiPred), []⟩ : ApiArg)))]) (cs' := (ApiArg.cells (⟨4, t6, (⟨[], [], []⟩ : ApiPred), []⟩ : ApiArg))) (j := 4) hk rfl rfl rfl rfl rfl (by kernel_rfl) rfl rfl ?_; clear hk; intro w hk
                        refine FW.lend (hK17 _ _ ?_); clear hK17 K'
                        refine wp_ret ?_
                        (repeat first | refine FW.then_ret ?_ | refine FW.block_ret ?_)
                        obtain rfl := Option.some.inj h
                        have hr_0 := FW.rres_keep (I1 := [FW.blk b0 87 ([.row (r_ApiWord_cells t5.2.l), .lit (.int .i64 t5.2.i), .lit (.int .i64 t5.2.deep), .lit (.int .i64 t5.2.steps)])]) (I2 := [FW.blk bx4 66 ((ApiWord.cells (List.getD t1.2.2.l (Int.toNat (IntKind.wrap .i64 (t1.2.2.i + 1))) default))), FW.blk bx3 66 ((ApiWord.cells (List.getD t1.2.2.l (Int.toNat t1.2.2.i) default))), FW.blk bx2 33 ((ApiValue.cells t1.1)), FW.blk bx1 38 ((ApiArg.cells (⟨4, t6, (⟨[], [], []⟩ : ApiPred), []⟩ : ApiArg)))]) (js := [0]) rfl (FW.rcell (tt := 2) hk rfl (j := 4) rfl Go.Proofs.Try.underlying38 rfl (by kernel_rfl))
                        replace hk := FW.S.keep (I1 := [FW.blk b0 87 ([.row (r_ApiWord_cells t5.2.l), .lit (.int .i64 t5.2.i), .lit (.int .i64 t5.2.deep), .lit (.int .i64 t5.2.steps)])]) (I2 := [FW.blk bx4 66 ((ApiWord.cells (List.getD t1.2.2.l (Int.toNat (IntKind.wrap .i64 (t1.2.2.i + 1))) default))), FW.blk bx3 66 ((ApiWord.cells (List.getD t1.2.2.l (Int.toNat t1.2.2.i) default))), FW.blk bx2 33 ((ApiValue.cells t1.1)), FW.blk bx1 38 ((ApiArg.cells (⟨4, t6, (⟨[], [], []⟩ : ApiPred), []⟩ : ApiArg)))]) (js := [0]) hk rfl
                        exact FW.toXq (FW.fretH1 hk rfl hr_0 ⟨rfl, rfl⟩)
                      · skip
                        refine wp_skip ?_
                        (repeat first | refine FW.then_normal ?_ | refine FW.block_normal ?_); exact hK7 _ _ ⟨t1.2.2.l, t1.2.2.i, t1.2.2.deep, t1.2.2.steps, (⟨0, (⟨0, false, 0, 0, [], []⟩ : ApiValue), (⟨[], [], []⟩ : ApiPred), []⟩ : ApiArg), (((hk.drop 2).drop 1).drop 0).sub ⟨rfl, rfl, trivial⟩, h⟩
            · skip
              refine wp_skip ?_
              (repeat first | refine FW.then_normal ?_ | refine FW.block_normal ?_); exact hK7 _ _ ⟨t1.2.2.l, t1.2.2.i, t1.2.2.deep, t1.2.2.steps, (⟨0, (⟨0, false, 0, 0, [], []⟩ : ApiValue), (⟨[], [], []⟩ : ApiPred), []⟩ : ApiArg), ((hk.drop 1).drop 0).sub ⟨rfl, rfl, trivial⟩, h⟩
theorem parse_parser_child.bok (s_parse_parser_chain : OParseParser → Option (Except (Int × Int) (List ApiStep × OParseParser))) (s_parse_parser_step : OParseParser → Option (Except (Int × Int) (ApiStep × OParseParser))) (s_parse_parser_arg : OParseParser → Option (Except (Int × Int) (ApiArg × OParseParser))) (s_parse_parser_child : OParseParser → Option (Except (Int × Int) (List ApiStep × OParseParser))) (hs_parse_parser_chain : ∀ (v0 : OParseParser) (r : Except (Int × Int) (List ApiStep × OParseParser)), s_parse_parser_chain v0 = some r → ∀ (b0 : Nat), FW.OkX Go.Proofs.Try.prog 67 [.lit (.pointer (some ⟨b0, 0, none⟩))] (OParseParser.items b0 v0) (FW.qX r (fun rr => fun y I => y = .row (r_ApiStep_cells rr.1) ∧ I = OParseParser.items b0 rr.2) (fun e pv I => ∃ (o0 : OParseParser), pv = FW.faultV 115 e ∧ I = OParseParser.items b0 o0))) (hs_parse_parser_step : ∀ (v0 : OParseParser) (r : Except (Int × Int) (ApiStep × OParseParser)), s_parse_parser_step v0 = some r → ∀ (b0 : Nat), FW.OkX Go.Proofs.Try.prog 93 [.lit (.pointer (some ⟨b0, 0, none⟩))] (OParseParser.items b0 v0) (FW.qX r (fun rr => fun y I => y = .agg (ApiStep.cells rr.1) ∧ I = OParseParser.items b0 rr.2) (fun e pv I => ∃ (o0 : OParseParser), pv = FW.faultV 115 e ∧ I = OParseParser.items b0 o0))) (hs_parse_parser_arg : ∀ (v0 : OParseParser) (r : Except (Int × Int) (ApiArg × OParseParser)), s_parse_parser_arg v0 = some r → ∀ (b0 : Nat), FW.OkX Go.Proofs.Try.prog 120 [.lit (.pointer (some ⟨b0, 0, none⟩))] (OParseParser.items b0 v0) (FW.qX r (fun rr => fun y I => y = .agg (ApiArg.cells rr.1) ∧ I = OParseParser.items b0 rr.2) (fun e pv I => ∃ (o0 : OParseParser), pv = FW.faultV 115 e ∧ I = OParseParser.items b0 o0))) (hs_parse_parser_child : ∀ (v0 : OParseParser) (r : Except (Int × Int) (List ApiStep × OParseParser)), s_parse_parser_child v0 = some r → ∀ (b0 : Nat), FW.OkX Go.Proofs.Try.prog 147 [.lit (.pointer (some ⟨b0, 0, none⟩))] (OParseParser.items b0 v0) (FW.qX r (fun rr => fun y I => y = .row (r_ApiStep_cells rr.1) ∧ I = OParseParser.items b0 rr.2) (fun e pv I => ∃ (o0 : OParseParser), pv = FW.faultV 115 e ∧ I = OParseParser.items b0 o0))) (K : Nat) (v0 : OParseParser) (r : Except (Int × Int) (List ApiStep × OParseParser)) (h : parse_parser_child.b s_parse_parser_chain s_parse_parser_step s_parse_parser_arg s_parse_parser_child K v0 = some r) :
    ∀ (b0 : Nat), FW.OkX Go.Proofs.Try.prog 147 [.lit (.pointer (some ⟨b0, 0, none⟩))] (OParseParser.items b0 v0) (FW.qX r (fun rr => fun y I => y = .row (r_ApiStep_cells rr.1) ∧ I = OParseParser.items b0 rr.2) (fun e pv I => ∃ (o0 : OParseParser), pv = FW.faultV 115 e ∧ I = OParseParser.items b0 o0)) := by
  intro b0
  refine FW.enterD (xs := [.lit (.pointer (some ⟨b0, 0, none⟩))]) Go.Proofs.Try.func147 rfl Go.Proofs.Try.ntmps147 rfl ?_
  intro M w0 a hk
  replace hk : FW.S M w0 a w0.toWorld 42 [FW.blk b0 87 ([.row (r_ApiWord_cells v0.l), .lit (.int .i64 v0.i), .lit (.int .i64 v0.deep), .lit (.int .i64 v0.steps)])] [(0, [], .lit (.pointer (some ⟨b0, 0, none⟩)))] := hk
  unfold parse_parser_child.b at h
  replace hk := hk.box0 (t := 84) (b0 := b0) (F := 160)
  refine FW.wreg ?_; intro K' hK1
  refine FW.lfun (y := .row (r_ApiStep_cells [])) hk rfl rfl rfl rfl (FW.f_assignNil) ?_; clear hk; intro a w hk
  refine FW.lend (hK1 _ _ ?_); clear hK1 K'
  refine FW.wreg ?_; intro K' hK2
  refine FW.lfun (y := .lit (.pointer (some ⟨b0, 0, none⟩))) hk rfl rfl rfl rfl (FW.f_move hk (FW.holds_nil _) rfl) ?_; clear hk; intro a w hk
  rcases FW.bndX h with ⟨e_t1, hr_t1, rfl⟩ | ⟨t1, hr_t1, h⟩
  · skip
    refine FW.l_callXE (I1 := (OParseParser.items b0 v0)) (I2 := [FW.boxesI 84 ([] : List Nat) b0 0]) (js := [1]) hk rfl rfl rfl Go.Proofs.Try.func159 rfl (by kernel_rfl) (parse_parser_into.ok v0 _ hr_t1 b0) ?_; clear hk
    rintro _ _ ⟨vE1, rfl, rfl⟩ w hk
    exact FW.leave_pan (P := Go.Proofs.Try.prog) (fn := Go.Proofs.Try.f147) (bs := ([] : List Nat)) (dn := 0) (x := vE1.deep) (I2 := []) (js := [0, 1]) (fun q => OParseParser.items b0 (⟨vE1.l, vE1.i, q, vE1.steps⟩ : OParseParser)) hk rfl Go.Proofs.Try.func160 rfl (by kernel_rfl) (fun x nb => parse_parser_into_1.ok (⟨⟩ : OVarPParseParser) (⟨vE1.l, vE1.i, x, vE1.steps⟩ : OParseParser) _ rfl nb b0) ⟨_, rfl, _, rfl, rfl⟩
  refine FW.l_callH (I1 := (OParseParser.items b0 v0)) (I2 := [FW.boxesI 84 ([] : List Nat) b0 0]) (js := [1]) hk rfl rfl rfl rfl rfl Go.Proofs.Try.func159 rfl (by kernel_rfl) (FW.OkX.toH (parse_parser_into.ok v0 _ hr_t1 b0)) ?_; clear hk
  rintro _ _ ⟨bx1, rfl, rfl⟩ a w hk
  refine FW.l_defer (t := 84) (nb := bx1) (b0 := b0) (dn := 0) (bs := ([] : List Nat)) (F := 160) (I2 := [FW.blk b0 87 ([.row (r_ApiWord_cells t1.l), .lit (.int .i64 t1.i), .lit (.int .i64 t1.deep), .lit (.int .i64 t1.steps)])]) (js := [2, 1]) hk rfl rfl ?_; clear hk; intro a hk
  refine FW.lend (hK2 _ _ ?_); clear hK2 K'
  refine FW.wseqJ (fun a w => ∃ (y1_0 : List ApiWord) (y1_1 : Int) (y1_2 : Int) (y1_3 : Int) (dn2 : Nat) (xb2 : List Nat), FW.S M w0 a w 42 [FW.blk b0 87 ([.row (r_ApiWord_cells y1_0), .lit (.int .i64 y1_1), .lit (.int .i64 y1_2), .lit (.int .i64 y1_3)]), FW.boxesI 84 xb2 b0 dn2] [(0, [], .lit (.pointer (some ⟨b0, 0, none⟩)))] (List.map (FW.dfI 160) xb2) ∧ parse_parser_child.j1 s_parse_parser_chain s_parse_parser_step s_parse_parser_arg s_parse_parser_child K y1_0 y1_1 y1_2 y1_3 dn2 = some r) ?_ ?_
  · clear hk h
    rintro a w ⟨y1_0, y1_1, y1_2, y1_3, dn2, xb2, hk, h⟩
    unfold parse_parser_child.j1 at h
    refine FW.wreg ?_; intro K' hK4
    refine FW.lfun (y := .lit (.pointer (some ⟨b0, 0, none⟩))) hk rfl rfl rfl rfl (FW.f_move hk (FW.holds_nil _) rfl) ?_; clear hk; intro a w hk
    rcases FW.bndX h with ⟨e_t2, hr_t2, rfl⟩ | ⟨t2, hr_t2, h⟩
    · skip
      refine FW.l_callXE (I1 := (OParseParser.items b0 (⟨y1_0, y1_1, y1_2, y1_3⟩ : OParseParser))) (I2 := [FW.boxesI 84 xb2 b0 dn2]) (js := [0]) hk rfl rfl rfl Go.Proofs.Try.func67 rfl (by kernel_rfl) (hs_parse_parser_chain (⟨y1_0, y1_1, y1_2, y1_3⟩ : OParseParser) _ hr_t2 b0) ?_; clear hk
      rintro _ _ ⟨vE2, rfl, rfl⟩ w hk
      exact FW.leave_pan (P := Go.Proofs.Try.prog) (fn := Go.Proofs.Try.f147) (bs := xb2) (dn := dn2) (x := vE2.deep) (I2 := []) (js := [0, 1]) (fun q => OParseParser.items b0 (⟨vE2.l, vE2.i, q, vE2.steps⟩ : OParseParser)) hk rfl Go.Proofs.Try.func160 rfl (by kernel_rfl) (fun x nb => parse_parser_into_1.ok (⟨⟩ : OVarPParseParser) (⟨vE2.l, vE2.i, x, vE2.steps⟩ : OParseParser) _ rfl nb b0) ⟨_, rfl, _, rfl, rfl⟩
    refine FW.l_callH (I1 := (OParseParser.items b0 (⟨y1_0, y1_1, y1_2, y1_3⟩ : OParseParser))) (I2 := [FW.boxesI 84 xb2 b0 dn2]) (js := [0]) hk rfl rfl rfl rfl rfl Go.Proofs.Try.func67 rfl (by kernel_rfl) (FW.OkX.toH (hs_parse_parser_chain (⟨y1_0, y1_1, y1_2, y1_3⟩ : OParseParser) _ hr_t2 b0)) ?_; clear hk
    rintro _ _ ⟨rfl, rfl⟩ a w hk
    refine FW.lfun (y := .row (r_ApiStep_cells t2.1)) hk rfl rfl rfl rfl (FW.f_assign hk (FW.holds_nil _) rfl) ?_; clear hk; intro a w hk
    refine FW.lend (hK4 _ _ ?_); clear hK4 K'
    refine wp_ret ?_
    (repeat first | refine FW.then_ret ?_ | refine FW.block_ret ?_)
    obtain rfl := Option.some.inj h
    refine FW.leave_retq (bs := xb2) (dn := dn2) (z := t2.2.deep) (I2 := []) (js := [0, 1]) (fun q => OParseParser.items b0 (⟨t2.2.l, t2.2.i, q, t2.2.steps⟩ : OParseParser)) hk rfl Go.Proofs.Try.func160 rfl (by kernel_rfl) (fun x nb => parse_parser_into_1.ok (⟨⟩ : OVarPParseParser) (⟨t2.2.l, t2.2.i, x, t2.2.steps⟩ : OParseParser) _ rfl nb b0) ?_; clear hk; intro a w hk
    replace hk := FW.S.keep (I1 := [FW.blk b0 87 ([.row (r_ApiWord_cells t2.2.l), .lit (.int .i64 t2.2.i), .lit (.int .i64 (FW.decrN dn2 t2.2.deep)), .lit (.int .i64 t2.2.steps)])]) (I2 := []) (js := [0]) hk rfl
    exact FW.fretH1 hk rfl (FW.rtmp hk rfl) ⟨rfl, rfl⟩
  · intro K' hK3
    obtain ⟨hc1, h⟩ := FW.chk h
    obtain ⟨hc2, h⟩ := FW.chk h
    refine FW.wdraw (by kernel_rfl) (by kernel_rfl) hk ?_; clear hk
    refine FW.dfun (y := .lit (.pointer (some ⟨b0, 0, none⟩))) rfl rfl rfl rfl (fun a w hk => FW.f_move hk (FW.holds_nil _) rfl) ?_
    refine FW.dfun (y := .lit (.pointer (some ⟨b0, 0, none⟩))) rfl rfl rfl rfl (fun a w hk => (FW.f_pure (FW.p_nilCheck hk.kn (FW.holds_nil _) rfl))) ?_
    refine FW.dfun (y := .lit (.pointer (some ⟨b0, 0, none⟩))) rfl rfl rfl rfl (fun a w hk => FW.f_fieldPtr hk (FW.holds_nil _) rfl Go.Proofs.Try.underlying87 rfl (by kernel_rfl) rfl) ?_
    refine FW.dfun (y := .row (r_ApiWord_cells t1.l)) rfl rfl rfl rfl (fun a w hk => FW.f_loadBlk1 hk (FW.holds_nil _) (j := 1) rfl rfl Go.Proofs.Try.underlying60 rfl rfl) ?_
    refine FW.dfun (y := .lit (.pointer (some ⟨b0, 0, none⟩))) rfl rfl rfl rfl (fun a w hk => FW.f_move hk (FW.holds_nil _) rfl) ?_
    refine FW.dfun (y := .lit (.pointer (some ⟨b0, 0, none⟩))) rfl rfl rfl rfl (fun a w hk => (FW.f_pure (FW.p_nilCheck hk.kn (FW.holds_nil _) rfl))) ?_
    refine FW.dfun (y := .lit (.pointer (some ⟨b0, 1, none⟩))) rfl rfl rfl rfl (fun a w hk => FW.f_fieldPtr hk (FW.holds_nil _) rfl Go.Proofs.Try.underlying87 rfl (by kernel_rfl) rfl) ?_
    refine FW.dfun (y := .lit (.int .i64 t1.i)) rfl rfl rfl rfl (fun a w hk => FW.f_loadBlk1 hk (FW.holds_nil _) (j := 1) rfl rfl Go.Proofs.Try.underlying3 rfl rfl) ?_
    refine FW.dfun (y := .ref (ApiWord.cells (List.getD t1.l (Int.toNat t1.i) default))) rfl rfl rfl rfl (fun a w hk => FW.f_indexAddr (R := r_ApiWord_cells) (f := ApiWord.cells) (l := t1.l) (sz := 5) r_ApiWord_cells_eq (fun _ => rfl) hk (FW.holds_nil _) rfl rfl Go.Proofs.Try.underlying60 (by kernel_rfl) hc1) ?_
    refine FW.dfun (y := .ref (List.drop 0 (ApiWord.cells (List.getD t1.l (Int.toNat t1.i) default)))) rfl rfl rfl rfl (fun a w hk => FW.f_fieldAddr hk (FW.holds_nil _) rfl Go.Proofs.Try.underlying66 rfl (by kernel_rfl) rfl) ?_
    refine FW.dfun (y := .lit (.int .i64 ((List.getD t1.l (Int.toNat t1.i) default).Kind))) rfl rfl rfl rfl (fun a w hk => FW.f_load1 hk (FW.holds_nil _) rfl rfl Go.Proofs.Try.underlying3 rfl) ?_
    refine FW.dfun (y := .lit (.bool (decide (((List.getD t1.l (Int.toNat t1.i) default).Kind) = 1)))) rfl rfl rfl rfl (fun a w hk => (FW.f_pure (FW.p_eql hk.kn (FW.holds_nil _) rfl rfl))) ?_
    refine FW.dfun (y := .lit (.bool (decide (((List.getD t1.l (Int.toNat t1.i) default).Kind) = 1)))) rfl rfl rfl rfl (fun a w hk => FW.f_move hk (FW.holds_nil _) rfl) ?_
    refine FW.dfunG (y := .lit (.pointer (some ⟨b0, 0, none⟩))) rfl rfl rfl rfl rfl rfl rfl rfl rfl (fun a w hk hc => FW.f_move hk hc rfl) ?_
    refine FW.dfunG (y := .lit (.pointer (some ⟨b0, 0, none⟩))) rfl rfl rfl rfl rfl rfl rfl rfl rfl (fun a w hk hc => (FW.f_pure (FW.p_nilCheck hk.kn hc rfl))) ?_
    refine FW.dfunG (y := .lit (.pointer (some ⟨b0, 0, none⟩))) rfl rfl rfl rfl rfl rfl rfl rfl rfl (fun a w hk hc => FW.f_fieldPtr hk hc rfl Go.Proofs.Try.underlying87 rfl (by kernel_rfl) rfl) ?_
    refine FW.dfunG (y := .row (r_ApiWord_cells t1.l)) rfl rfl rfl rfl rfl rfl rfl rfl rfl (fun a w hk hc => FW.f_loadBlk1 hk hc (j := 1) rfl rfl Go.Proofs.Try.underlying60 rfl rfl) ?_
    refine FW.dfunG (y := .lit (.pointer (some ⟨b0, 0, none⟩))) rfl rfl rfl rfl rfl rfl rfl rfl rfl (fun a w hk hc => FW.f_move hk hc rfl) ?_
    refine FW.dfunG (y := .lit (.pointer (some ⟨b0, 0, none⟩))) rfl rfl rfl rfl rfl rfl rfl rfl rfl (fun a w hk hc => (FW.f_pure (FW.p_nilCheck hk.kn hc rfl))) ?_
    refine FW.dfunG (y := .lit (.pointer (some ⟨b0, 1, none⟩))) rfl rfl rfl rfl rfl rfl rfl rfl rfl (fun a w hk hc => FW.f_fieldPtr hk hc rfl Go.Proofs.Try.underlying87 rfl (by kernel_rfl) rfl) ?_
    refine FW.dfunG (y := .lit (.int .i64 t1.i)) rfl rfl rfl rfl rfl rfl rfl rfl rfl (fun a w hk hc => FW.f_loadBlk1 hk hc (j := 1) rfl rfl Go.Proofs.Try.underlying3 rfl rfl) ?_
    refine FW.dfunG (y := .ref (ApiWord.cells (List.getD t1.l (Int.toNat t1.i) default))) rfl rfl rfl rfl rfl rfl rfl rfl rfl (fun a w hk hc => FW.f_indexAddr (R := r_ApiWord_cells) (f := ApiWord.cells) (l := t1.l) (sz := 5) r_ApiWord_cells_eq (fun _ => rfl) hk hc rfl rfl Go.Proofs.Try.underlying60 (by kernel_rfl) hc2) ?_
    refine FW.dfunG (y := .ref (List.drop 1 (ApiWord.cells (List.getD t1.l (Int.toNat t1.i) default)))) rfl rfl rfl rfl rfl rfl rfl rfl rfl (fun a w hk hc => FW.f_fieldAddr hk hc rfl Go.Proofs.Try.underlying66 rfl (by kernel_rfl) rfl) ?_
    refine FW.dfunG (y := .lit (.string (FW.B ((List.getD t1.l (Int.toNat t1.i) default).S)))) rfl rfl rfl rfl rfl rfl rfl rfl rfl (fun a w hk hc => FW.f_load1 hk hc rfl rfl Go.Proofs.Try.underlying9 rfl) ?_
    refine FW.dfunG (y := .lit (.bool (decide (((List.getD t1.l (Int.toNat t1.i) default).S) = ([95, 95] : List UInt8))))) rfl rfl rfl rfl rfl rfl rfl rfl rfl (fun a w hk hc => (FW.f_pure (FW.p_seql hk.kn hc rfl rfl))) ?_
    refine FW.dfun (y := .lit (.bool ((decide (((List.getD t1.l (Int.toNat t1.i) default).Kind) = 1)) && (decide (((List.getD t1.l (Int.toNat t1.i) default).S) = ([95, 95] : List UInt8)))))) rfl rfl rfl rfl (fun a w hk => (FW.f_pure (FW.p_pick_and hk.kn (FW.holds_nil _) rfl rfl))) ?_
    refine FW.dend ?_; intro a w hk
    refine FW.wcondF (b := ((decide (((List.getD t1.l (Int.toNat t1.i) default).Kind) = 1)) && (decide (((List.getD t1.l (Int.toNat t1.i) default).S) = ([95, 95] : List UInt8))))) hk h rfl (fun h hb => ?_) (fun h hb => ?_)
    · skip
      refine FW.wreg ?_; intro K' hK6
      refine FW.lfun (y := .lit (.pointer (some ⟨b0, 0, none⟩))) hk rfl rfl rfl rfl (FW.f_move hk (FW.holds_nil _) rfl) ?_; clear hk; intro a w hk
      refine FW.lfun (y := .lit (.pointer (some ⟨b0, 0, none⟩))) hk rfl rfl rfl rfl ((FW.f_pure (FW.p_nilCheck hk.kn (FW.holds_nil _) rfl))) ?_; clear hk; intro a w hk
      refine FW.lfun (y := .lit (.pointer (some ⟨b0, 1, none⟩))) hk rfl rfl rfl rfl (FW.f_fieldPtr hk (FW.holds_nil _) rfl Go.Proofs.Try.underlying87 rfl (by kernel_rfl) rfl) ?_; clear hk; intro a w hk
      refine FW.lfun (y := .lit (.int .i64 t1.i)) hk rfl rfl rfl rfl (FW.f_loadBlk1 hk (FW.holds_nil _) (j := 1) rfl rfl Go.Proofs.Try.underlying3 rfl rfl) ?_; clear hk; intro a w hk
      refine FW.lfun (y := .lit (.int .i64 (IntKind.wrap .i64 (t1.i + 1)))) hk rfl rfl rfl rfl ((FW.f_pure (FW.p_add hk.kn (FW.holds_nil _) rfl rfl))) ?_; clear hk; intro a w hk
      refine FW.lfun (y := .lit (.pointer (some ⟨b0, 0, none⟩))) hk rfl rfl rfl rfl ((FW.f_pure (FW.p_nilCheck hk.kn (FW.holds_nil _) rfl))) ?_; clear hk; intro a w hk
      refine FW.lfun (y := .lit (.pointer (some ⟨b0, 1, none⟩))) hk rfl rfl rfl rfl (FW.f_fieldPtr hk (FW.holds_nil _) rfl Go.Proofs.Try.underlying87 rfl (by kernel_rfl) rfl) ?_; clear hk; intro a w hk
      refine FW.l_store (I' := [FW.boxesI 84 (bx1 :: ([] : List Nat)) b0 1, FW.blk b0 87 ([.row (r_ApiWord_cells t1.l), .lit (.int .i64 (IntKind.wrap .i64 (t1.i + 1))), .lit (.int .i64 t1.deep), .lit (.int .i64 t1.steps)])]) (cs' := [.row (r_ApiWord_cells t1.l), .lit (.int .i64 (IntKind.wrap .i64 (t1.i + 1))), .lit (.int .i64 t1.deep), .lit (.int .i64 t1.steps)]) (j := 1) hk rfl rfl rfl rfl rfl (by kernel_rfl) rfl rfl ?_; clear hk; intro w hk
      refine FW.lend (hK6 _ _ ?_); clear hK6 K'
      refine FW.wreg1 ?_
      refine FW.lfun (y := .lit (.pointer (some ⟨b0, 0, none⟩))) hk rfl rfl rfl rfl (FW.f_move hk (FW.holds_nil _) rfl) ?_; clear hk; intro a w hk
      rcases FW.bndX h with ⟨e_t3, hr_t3, rfl⟩ | ⟨t3, hr_t3, h⟩
      · skip
        refine FW.l_callXE (I1 := (OParseParser.items b0 (⟨t1.l, (IntKind.wrap .i64 (t1.i + 1)), t1.deep, t1.steps⟩ : OParseParser))) (I2 := [FW.boxesI 84 (bx1 :: ([] : List Nat)) b0 1]) (js := [1]) hk rfl rfl rfl Go.Proofs.Try.func66 rfl (by kernel_rfl) (parse_parser_must.ok (⟨t1.l, (IntKind.wrap .i64 (t1.i + 1)), t1.deep, t1.steps⟩ : OParseParser) ([46] : List UInt8) _ hr_t3 b0) ?_; clear hk
        rintro _ _ ⟨vE3, rfl, rfl⟩ w hk
        exact FW.leave_pan (P := Go.Proofs.Try.prog) (fn := Go.Proofs.Try.f147) (bs := (bx1 :: ([] : List Nat))) (dn := 1) (x := vE3.deep) (I2 := []) (js := [0, 1]) (fun q => OParseParser.items b0 (⟨vE3.l, vE3.i, q, vE3.steps⟩ : OParseParser)) hk rfl Go.Proofs.Try.func160 rfl (by kernel_rfl) (fun x nb => parse_parser_into_1.ok (⟨⟩ : OVarPParseParser) (⟨vE3.l, vE3.i, x, vE3.steps⟩ : OParseParser) _ rfl nb b0) ⟨_, rfl, _, rfl, rfl⟩
      refine FW.l_callH (I1 := (OParseParser.items b0 (⟨t1.l, (IntKind.wrap .i64 (t1.i + 1)), t1.deep, t1.steps⟩ : OParseParser))) (I2 := [FW.boxesI 84 (bx1 :: ([] : List Nat)) b0 1]) (js := [1]) hk rfl rfl rfl rfl rfl Go.Proofs.Try.func66 rfl (by kernel_rfl) (FW.OkX.toH (parse_parser_must.ok (⟨t1.l, (IntKind.wrap .i64 (t1.i + 1)), t1.deep, t1.steps⟩ : OParseParser) ([46] : List UInt8) _ hr_t3 b0)) ?_; clear hk
      rintro _ _ ⟨rfl, rfl⟩ a w hk
      refine wpList_nil ?_
      (repeat first | refine FW.then_normal ?_ | refine FW.block_normal ?_); exact hK3 _ _ ⟨t3.l, t3.i, t3.deep, t3.steps, 1, (bx1 :: ([] : List Nat)), hk.sub ⟨rfl, trivial⟩, h⟩
    · skip
      refine wp_skip ?_
      (repeat first | refine FW.then_normal ?_ | refine FW.block_normal ?_); exact hK3 _ _ ⟨t1.l, t1.i, t1.deep, t1.steps, 1, (bx1 :: ([] : List Nat)), (FW.S.pick hk (js := [0, 1]) rfl).sub ⟨rfl, trivial⟩, h⟩
theorem parse_parser_chain_knot : ∀ K : Nat, (∀ (v0 : OParseParser) (r : Except (Int × Int) (List ApiStep × OParseParser)), parse_parser_chain.f K v0 = some r → ∀ (b0 : Nat), FW.OkX Go.Proofs.Try.prog 67 [.lit (.pointer (some ⟨b0, 0, none⟩))] (OParseParser.items b0 v0) (FW.qX r (fun rr => fun y I => y = .row (r_ApiStep_cells rr.1) ∧ I = OParseParser.items b0 rr.2) (fun e pv I => ∃ (o0 : OParseParser), pv = FW.faultV 115 e ∧ I = OParseParser.items b0 o0))) ∧ (∀ (v0 : OParseParser) (r : Except (Int × Int) (ApiStep × OParseParser)), parse_parser_step.f K v0 = some r → ∀ (b0 : Nat), FW.OkX Go.Proofs.Try.prog 93 [.lit (.pointer (some ⟨b0, 0, none⟩))] (OParseParser.items b0 v0) (FW.qX r (fun rr => fun y I => y = .agg (ApiStep.cells rr.1) ∧ I = OParseParser.items b0 rr.2) (fun e pv I => ∃ (o0 : OParseParser), pv = FW.faultV 115 e ∧ I = OParseParser.items b0 o0))) ∧ (∀ (v0 : OParseParser) (r : Except (Int × Int) (ApiArg × OParseParser)), parse_parser_arg.f K v0 = some r → ∀ (b0 : Nat), FW.OkX Go.Proofs.Try.prog 120 [.lit (.pointer (some ⟨b0, 0, none⟩))] (OParseParser.items b0 v0) (FW.qX r (fun rr => fun y I => y = .agg (ApiArg.cells rr.1) ∧ I = OParseParser.items b0 rr.2) (fun e pv I => ∃ (o0 : OParseParser), pv = FW.faultV 115 e ∧ I = OParseParser.items b0 o0))) ∧ (∀ (v0 : OParseParser) (r : Except (Int × Int) (List ApiStep × OParseParser)), parse_parser_child.f K v0 = some r → ∀ (b0 : Nat), FW.OkX Go.Proofs.Try.prog 147 [.lit (.pointer (some ⟨b0, 0, none⟩))] (OParseParser.items b0 v0) (FW.qX r (fun rr => fun y I => y = .row (r_ApiStep_cells rr.1) ∧ I = OParseParser.items b0 rr.2) (fun e pv I => ∃ (o0 : OParseParser), pv = FW.faultV 115 e ∧ I = OParseParser.items b0 o0)))
  | 0 => ⟨fun v0 r h => by simp [parse_parser_chain.f] at h, fun v0 r h => by simp [parse_parser_step.f] at h, fun v0 r h => by simp [parse_parser_arg.f] at h, fun v0 r h => by simp [parse_parser_child.f] at h⟩
  | K + 1 => ⟨fun v0 r h => by rw [parse_parser_chain.f] at h; exact parse_parser_chain.bok _ _ _ _ (parse_parser_chain_knot K).1 (parse_parser_chain_knot K).2.1 (parse_parser_chain_knot K).2.2.1 (parse_parser_chain_knot K).2.2.2 K v0 r h, fun v0 r h => by rw [parse_parser_step.f] at h; exact parse_parser_step.bok _ _ _ _ (parse_parser_chain_knot K).1 (parse_parser_chain_knot K).2.1 (parse_parser_chain_knot K).2.2.1 (parse_parser_chain_knot K).2.2.2 K v0 r h, fun v0 r h => by rw [parse_parser_arg.f] at h; exact parse_parser_arg.bok _ _ _ _ (parse_parser_chain_knot K).1 (parse_parser_chain_knot K).2.1 (parse_parser_chain_knot K).2.2.1 (parse_parser_chain_knot K).2.2.2 K v0 r h, fun v0 r h => by rw [parse_parser_child.f] at h; exact parse_parser_child.bok _ _ _ _ (parse_parser_chain_knot K).1 (parse_parser_chain_knot K).2.1 (parse_parser_chain_knot K).2.2.1 (parse_parser_chain_knot K).2.2.2 K v0 r h⟩
theorem parse_parser_chain.ok (K : Nat) (v0 : OParseParser) (r : Except (Int × Int) (List ApiStep × OParseParser)) (h : parse_parser_chain.f K v0 = some r) : ∀ (b0 : Nat), FW.OkX Go.Proofs.Try.prog 67 [.lit (.pointer (some ⟨b0, 0, none⟩))] (OParseParser.items b0 v0) (FW.qX r (fun rr => fun y I => y = .row (r_ApiStep_cells rr.1) ∧ I = OParseParser.items b0 rr.2) (fun e pv I => ∃ (o0 : OParseParser), pv = FW.faultV 115 e ∧ I = OParseParser.items b0 o0)) := (parse_parser_chain_knot K).1 v0 r h
theorem parse_parser_step.ok (K : Nat) (v0 : OParseParser) (r : Except (Int × Int) (ApiStep × OParseParser)) (h : parse_parser_step.f K v0 = some r) : ∀ (b0 : Nat), FW.OkX Go.Proofs.Try.prog 93 [.lit (.pointer (some ⟨b0, 0, none⟩))] (OParseParser.items b0 v0) (FW.qX r (fun rr => fun y I => y = .agg (ApiStep.cells rr.1) ∧ I = OParseParser.items b0 rr.2) (fun e pv I => ∃ (o0 : OParseParser), pv = FW.faultV 115 e ∧ I = OParseParser.items b0 o0)) := (parse_parser_chain_knot K).2.1 v0 r h
theorem parse_parser_arg.ok (K : Nat) (v0 : OParseParser) (r : Except (Int × Int) (ApiArg × OParseParser)) (h : parse_parser_arg.f K v0 = some r) : ∀ (b0 : Nat), FW.OkX Go.Proofs.Try.prog 120 [.lit (.pointer (some ⟨b0, 0, none⟩))] (OParseParser.items b0 v0) (FW.qX r (fun rr => fun y I => y = .agg (ApiArg.cells rr.1) ∧ I = OParseParser.items b0 rr.2) (fun e pv I => ∃ (o0 : OParseParser), pv = FW.faultV 115 e ∧ I = OParseParser.items b0 o0)) := (parse_parser_chain_knot K).2.2.1 v0 r h
theorem parse_parser_child.ok (K : Nat) (v0 : OParseParser) (r : Except (Int × Int) (List ApiStep × OParseParser)) (h : parse_parser_child.f K v0 = some r) : ∀ (b0 : Nat), FW.OkX Go.Proofs.Try.prog 147 [.lit (.pointer (some ⟨b0, 0, none⟩))] (OParseParser.items b0 v0) (FW.qX r (fun rr => fun y I => y = .row (r_ApiStep_cells rr.1) ∧ I = OParseParser.items b0 rr.2) (fun e pv I => ∃ (o0 : OParseParser), pv = FW.faultV 115 e ∧ I = OParseParser.items b0 o0)) := (parse_parser_chain_knot K).2.2.2 v0 r h
end Go.Proofs.Ytbjbgodcenopnaa

/- Written by a program of this session (gen.py): the contracts of functions of the program. -/
import Derived.KernelRfl
import Derived.Test.YtbjbgodcenopnaaProg
import Derived.Test.YtbjbgodcenopnaaAvFun
import Derived.Test.YtbjbgodcenopnaaAvMan
import Derived.Test.YtbjbgodcenopnaaAvMore
import Derived.Test.YtbjbgodcenopnaaAvDraw2
import Derived.Test.YtbjbgodcenopnaaAvRow
import Derived.Test.YtbjbgodcenopnaaHrd
import Derived.Test.YtbjbgodcenopnaaPaD
import Derived.Test.YtbjbgodcenopnaaPaP1
namespace Go.Proofs.Ytbjbgodcenopnaa
set_option linter.unusedVariables false
set_option maxRecDepth 20000
set_option maxHeartbeats 10000000
theorem parse_parser_value.bok (s_parse_parser_value : OParseParser → Option (Except (Int × Int) (ApiValue × Bool × OParseParser))) (s_parse_parser_values : OParseParser → List UInt8 → Option (Except (Int × Int) (List ApiValue × OParseParser))) (hs_parse_parser_value : ∀ (v0 : OParseParser) (r : Except (Int × Int) (ApiValue × Bool × OParseParser)), s_parse_parser_value v0 = some r → ∀ (b0 : Nat), FW.OkX Go.Proofs.Try.prog 143 [.lit (.pointer (some ⟨b0, 0, none⟩))] (OParseParser.items b0 v0) (FW.qX r (fun rr => fun y I => y = .tup [.agg (ApiValue.cells rr.1), .lit (.bool rr.2.1)] ∧ I = OParseParser.items b0 rr.2.2) (fun e pv I => ∃ (o0 : OParseParser), pv = FW.faultV 115 e ∧ I = OParseParser.items b0 o0))) (hs_parse_parser_values : ∀ (v0 : OParseParser) (v1 : List UInt8) (r : Except (Int × Int) (List ApiValue × OParseParser)), s_parse_parser_values v0 v1 = some r → ∀ (b0 : Nat), FW.OkX Go.Proofs.Try.prog 158 [.lit (.pointer (some ⟨b0, 0, none⟩)), .lit (.string (FW.B v1))] (OParseParser.items b0 v0) (FW.qX r (fun rr => fun y I => y = .row (r_ApiValue_cells rr.1) ∧ I = OParseParser.items b0 rr.2) (fun e pv I => ∃ (o0 : OParseParser), pv = FW.faultV 115 e ∧ I = OParseParser.items b0 o0))) (K : Nat) (v0 : OParseParser) (r : Except (Int × Int) (ApiValue × Bool × OParseParser)) (h : parse_parser_value.b s_parse_parser_value s_parse_parser_values K v0 = some r) :
    ∀ (b0 : Nat), FW.OkX Go.Proofs.Try.prog 143 [.lit (.pointer (some ⟨b0, 0, none⟩))] (OParseParser.items b0 v0) (FW.qX r (fun rr => fun y I => y = .tup [.agg (ApiValue.cells rr.1), .lit (.bool rr.2.1)] ∧ I = OParseParser.items b0 rr.2.2) (fun e pv I => ∃ (o0 : OParseParser), pv = FW.faultV 115 e ∧ I = OParseParser.items b0 o0)) := by
  intro b0
  refine FW.enterX (xs := [.lit (.pointer (some ⟨b0, 0, none⟩))]) Go.Proofs.Try.func143 rfl Go.Proofs.Try.ntmps143 rfl ?_
  intro M w0 a hk
  replace hk : FW.S M w0 a w0.toWorld 106 [FW.blk b0 87 ([.row (r_ApiWord_cells v0.l), .lit (.int .i64 v0.i), .lit (.int .i64 v0.deep), .lit (.int .i64 v0.steps)])] [(0, [], .lit (.pointer (some ⟨b0, 0, none⟩)))] := hk
  unfold parse_parser_value.b at h
  refine FW.wreg ?_; intro K' hK1
  refine FW.l_alloc (zs := (ApiValue.cells (⟨0, false, 0, 0, [], []⟩ : ApiValue))) [] hk rfl rfl rfl rfl ?_; clear hk; intro bx1 a w hk
  refine FW.lfun (y := .lit (.bool false)) hk rfl rfl rfl rfl (FW.f_assign hk (FW.holds_nil _) rfl) ?_; clear hk; intro a w hk
  refine FW.lend (hK1 _ _ ?_); clear hK1 K'
  obtain ⟨hc1, h⟩ := FW.chk h
  refine FW.wdrawE (.next [true, true, true, true, true, true, true, true, true, true, false, false] 10 [true, true, true, true, true, true, true, true, true, true, false, false] (.next [true, true, true, true, true, true, true, true, true, true, false, false] 11 [true, true, true, true, true, true, true, true, true, true, true, false] (.leaf [false, false, false, false, false, false, false, false, false, false, false, false]))) [(5, [], .lit (.pointer (some ⟨b0, 0, none⟩))), (6, [], .lit (.pointer (some ⟨b0, 0, none⟩))), (7, [], .lit (.pointer (some ⟨b0, 0, none⟩))), (8, [], .row (r_ApiWord_cells v0.l)), (9, [], .lit (.pointer (some ⟨b0, 0, none⟩))), (10, [], .lit (.pointer (some ⟨b0, 0, none⟩))), (11, [], .lit (.pointer (some ⟨b0, 1, none⟩))), (12, [], .lit (.int .i64 v0.i)), (13, [], .ref (ApiWord.cells (List.getD v0.l (Int.toNat v0.i) default))), (14, [], .agg ((ApiWord.cells (List.getD v0.l (Int.toNat v0.i) default)))), (4, [], .agg []), (106, [], .lit undef)] (by kernel_rfl) (by kernel_rfl) (by kernel_rfl) (by kernel_rfl) hk ?_; clear hk
  refine FW.gnext ?_ rfl rfl rfl rfl rfl ?_
  · skip
    refine FW.gfun (y := .lit (.pointer (some ⟨b0, 0, none⟩))) rfl rfl rfl rfl (fun a w hk => FW.f_move hk (FW.holds_nil _) rfl) ?_
    refine FW.gfun (y := .lit (.pointer (some ⟨b0, 0, none⟩))) rfl rfl rfl rfl (fun a w hk => (FW.f_pure (FW.p_nilCheck hk.kn (FW.holds_nil _) rfl))) ?_
    refine FW.gfun (y := .lit (.pointer (some ⟨b0, 0, none⟩))) rfl rfl rfl rfl (fun a w hk => FW.f_fieldPtr hk (FW.holds_nil _) rfl Go.Proofs.Try.underlying87 rfl (by kernel_rfl) rfl) ?_
    refine FW.gfun (y := .row (r_ApiWord_cells v0.l)) rfl rfl rfl rfl (fun a w hk => FW.f_loadBlk1 hk (FW.holds_nil _) (j := 1) rfl rfl Go.Proofs.Try.underlying60 rfl rfl) ?_
    refine FW.gfun (y := .lit (.pointer (some ⟨b0, 0, none⟩))) rfl rfl rfl rfl (fun a w hk => FW.f_move hk (FW.holds_nil _) rfl) ?_
    refine FW.gfun (y := .lit (.pointer (some ⟨b0, 0, none⟩))) rfl rfl rfl rfl (fun a w hk => (FW.f_pure (FW.p_nilCheck hk.kn (FW.holds_nil _) rfl))) ?_
    refine FW.gfun (y := .lit (.pointer (some ⟨b0, 1, none⟩))) rfl rfl rfl rfl (fun a w hk => FW.f_fieldPtr hk (FW.holds_nil _) rfl Go.Proofs.Try.underlying87 rfl (by kernel_rfl) rfl) ?_
    refine FW.gfun (y := .lit (.int .i64 v0.i)) rfl rfl rfl rfl (fun a w hk => FW.f_loadBlk1 hk (FW.holds_nil _) (j := 1) rfl rfl Go.Proofs.Try.underlying3 rfl rfl) ?_
    refine FW.gfun (y := .ref (ApiWord.cells (List.getD v0.l (Int.toNat v0.i) default))) rfl rfl rfl rfl (fun a w hk => FW.f_indexAddr (R := r_ApiWord_cells) (f := ApiWord.cells) (l := v0.l) (sz := 5) r_ApiWord_cells_eq (fun _ => rfl) hk (FW.holds_nil _) rfl rfl Go.Proofs.Try.underlying60 (by kernel_rfl) hc1) ?_
    refine FW.gfun (y := .agg ((ApiWord.cells (List.getD v0.l (Int.toNat v0.i) default)))) rfl rfl rfl rfl (fun a w hk => FW.f_load hk (FW.holds_nil _) rfl Go.Proofs.Try.underlying66 rfl rfl rfl rfl) ?_
    refine FW.gskip rfl rfl ?_
    refine FW.gskip0 rfl ?_
    exact FW.gend
  · skip
    intro σD a w opsD QD hk hf hQ hX
    refine FW.l_alloc (zs := (ApiWord.cells (⟨0, [], 0, 0, 0⟩ : ApiWord))) [] hk rfl hf rfl rfl ?_; clear hk; intro bx2 a w hk
    refine hQ _ _ a w ?_ hk; clear hk hQ hf hX
    refine ⟨[(5, [], .lit (.pointer (some ⟨b0, 0, none⟩))), (6, [], .lit (.pointer (some ⟨b0, 0, none⟩))), (7, [], .lit (.pointer (some ⟨b0, 0, none⟩))), (8, [], .row (r_ApiWord_cells v0.l)), (9, [], .lit (.pointer (some ⟨b0, 0, none⟩))), (10, [], .lit (.pointer (some ⟨b0, 0, none⟩))), (11, [], .lit (.pointer (some ⟨b0, 1, none⟩))), (12, [], .lit (.int .i64 v0.i)), (13, [], .ref (ApiWord.cells (List.getD v0.l (Int.toNat v0.i) default))), (14, [], .agg ((ApiWord.cells (List.getD v0.l (Int.toNat v0.i) default)))), (4, [], .lit (.pointer (some ⟨bx2, 0, none⟩))), (106, [], .lit undef)], And.intro rfl (And.intro rfl (And.intro rfl (And.intro rfl (And.intro rfl (And.intro rfl (And.intro rfl (And.intro rfl (And.intro rfl (And.intro rfl (trivial)))))))))), rfl, ?_⟩
    refine FW.gnext0 ?_ rfl rfl rfl ?_
    · skip
      refine FW.gfun (y := .lit (.pointer (some ⟨b0, 0, none⟩))) rfl rfl rfl rfl (fun a w hk => FW.f_move hk (FW.holds_nil _) rfl) ?_
      refine FW.gfun (y := .lit (.pointer (some ⟨b0, 0, none⟩))) rfl rfl rfl rfl (fun a w hk => (FW.f_pure (FW.p_nilCheck hk.kn (FW.holds_nil _) rfl))) ?_
      refine FW.gfun (y := .lit (.pointer (some ⟨b0, 0, none⟩))) rfl rfl rfl rfl (fun a w hk => FW.f_fieldPtr hk (FW.holds_nil _) rfl Go.Proofs.Try.underlying87 rfl (by kernel_rfl) rfl) ?_
      refine FW.gfun (y := .row (r_ApiWord_cells v0.l)) rfl rfl rfl rfl (fun a w hk => FW.f_loadBlk1 hk (FW.holds_nil _) (j := 2) rfl rfl Go.Proofs.Try.underlying60 rfl rfl) ?_
      refine FW.gfun (y := .lit (.pointer (some ⟨b0, 0, none⟩))) rfl rfl rfl rfl (fun a w hk => FW.f_move hk (FW.holds_nil _) rfl) ?_
      refine FW.gfun (y := .lit (.pointer (some ⟨b0, 0, none⟩))) rfl rfl rfl rfl (fun a w hk => (FW.f_pure (FW.p_nilCheck hk.kn (FW.holds_nil _) rfl))) ?_
      refine FW.gfun (y := .lit (.pointer (some ⟨b0, 1, none⟩))) rfl rfl rfl rfl (fun a w hk => FW.f_fieldPtr hk (FW.holds_nil _) rfl Go.Proofs.Try.underlying87 rfl (by kernel_rfl) rfl) ?_
      refine FW.gfun (y := .lit (.int .i64 v0.i)) rfl rfl rfl rfl (fun a w hk => FW.f_loadBlk1 hk (FW.holds_nil _) (j := 2) rfl rfl Go.Proofs.Try.underlying3 rfl rfl) ?_
      refine FW.gfun (y := .ref (ApiWord.cells (List.getD v0.l (Int.toNat v0.i) default))) rfl rfl rfl rfl (fun a w hk => FW.f_indexAddr (R := r_ApiWord_cells) (f := ApiWord.cells) (l := v0.l) (sz := 5) r_ApiWord_cells_eq (fun _ => rfl) hk (FW.holds_nil _) rfl rfl Go.Proofs.Try.underlying60 (by kernel_rfl) hc1) ?_
      refine FW.gfun (y := .agg ((ApiWord.cells (List.getD v0.l (Int.toNat v0.i) default)))) rfl rfl rfl rfl (fun a w hk => FW.f_load hk (FW.holds_nil _) rfl Go.Proofs.Try.underlying66 rfl rfl rfl rfl) ?_
      refine FW.gskip rfl rfl ?_
      refine FW.gskip0 rfl ?_
      exact FW.gend
    · skip
      intro σD a w opsD QD hk hQ hX
      refine FW.l_store (I' := [FW.blk bx2 66 ((ApiWord.cells (List.getD v0.l (Int.toNat v0.i) default))), FW.blk bx1 33 ((ApiValue.cells (⟨0, false, 0, 0, [], []⟩ : ApiValue))), FW.blk b0 87 ([.row (r_ApiWord_cells v0.l), .lit (.int .i64 v0.i), .lit (.int .i64 v0.deep), .lit (.int .i64 v0.steps)])]) (cs' := (ApiWord.cells (List.getD v0.l (Int.toNat v0.i) default))) (j := 0) hk rfl rfl rfl rfl rfl (by kernel_rfl) rfl rfl ?_; clear hk; intro w hk
      refine hQ _ a w ?_ hk; clear hk hQ hX
      refine ⟨[(5, [], .lit (.pointer (some ⟨b0, 0, none⟩))), (6, [], .lit (.pointer (some ⟨b0, 0, none⟩))), (7, [], .lit (.pointer (some ⟨b0, 0, none⟩))), (8, [], .row (r_ApiWord_cells v0.l)), (9, [], .lit (.pointer (some ⟨b0, 0, none⟩))), (10, [], .lit (.pointer (some ⟨b0, 0, none⟩))), (11, [], .lit (.pointer (some ⟨b0, 1, none⟩))), (12, [], .lit (.int .i64 v0.i)), (13, [], .ref (ApiWord.cells (List.getD v0.l (Int.toNat v0.i) default))), (14, [], .agg ((ApiWord.cells (List.getD v0.l (Int.toNat v0.i) default)))), (4, [], .lit (.pointer (some ⟨bx2, 0, none⟩))), (106, [], .lit undef)], And.intro rfl (And.intro rfl (And.intro rfl (And.intro rfl (And.intro rfl (And.intro rfl (And.intro rfl (And.intro rfl (And.intro rfl (And.intro rfl (And.intro rfl (trivial))))))))))), rfl, ?_⟩
      refine FW.glast ?_ ?_
      · skip
        refine FW.gskip rfl rfl ?_
        refine FW.gskip rfl rfl ?_
        refine FW.gskip rfl rfl ?_
        refine FW.gskip rfl rfl ?_
        refine FW.gskip rfl rfl ?_
        refine FW.gskip rfl rfl ?_
        refine FW.gskip rfl rfl ?_
        refine FW.gskip rfl rfl ?_
        refine FW.gskip rfl rfl ?_
        refine FW.gskip rfl rfl ?_
        refine FW.gskip rfl rfl ?_
        refine FW.gskip0 rfl ?_
        exact FW.gend
      · skip
        intro a w hk; simp only [FW.stD, cond_true] at hk
        refine FW.wseq ?_; intro K' hK3
        refine wp_block ?_
        refine FW.wreg ?_; intro K' hK4
        refine FW.lfun (y := .lit (.pointer (some ⟨bx2, 0, none⟩))) hk rfl rfl rfl rfl (FW.f_fieldPtr hk (FW.holds_nil _) rfl Go.Proofs.Try.underlying66 rfl (by kernel_rfl) rfl) ?_; clear hk; intro a w hk
        refine FW.lfun (y := .lit (.int .i64 ((List.getD v0.l (Int.toNat v0.i) default).Kind))) hk rfl rfl rfl rfl (FW.f_loadBlk1 hk (FW.holds_nil _) (j := 0) rfl rfl Go.Proofs.Try.underlying3 rfl rfl) ?_; clear hk; intro a w hk
        refine FW.lfun (y := .lit (.bool (decide (((List.getD v0.l (Int.toNat v0.i) default).Kind) = 2)))) hk rfl rfl rfl rfl ((FW.f_pure (FW.p_eql hk.kn (FW.holds_nil _) rfl rfl))) ?_; clear hk; intro a w hk
        refine FW.lfun (y := .lit (.bool (decide (((List.getD v0.l (Int.toNat v0.i) default).Kind) = 2)))) hk rfl rfl rfl rfl (FW.f_assign hk (FW.holds_nil _) rfl) ?_; clear hk; intro a w hk
        refine FW.lend (hK4 _ _ ?_); clear hK4 K'
        refine FW.wcondF (b := (decide (((List.getD v0.l (Int.toNat v0.i) default).Kind) = 2))) hk h rfl (fun h hb => ?_) (fun h hb => ?_)
        · skip
          refine FW.wreg ?_; intro K' hK5
          refine FW.lfun (y := .lit (.pointer (some ⟨b0, 0, none⟩))) hk rfl rfl rfl rfl (FW.f_move hk (FW.holds_nil _) rfl) ?_; clear hk; intro a w hk
          refine FW.lfun (y := .lit (.pointer (some ⟨b0, 0, none⟩))) hk rfl rfl rfl rfl ((FW.f_pure (FW.p_nilCheck hk.kn (FW.holds_nil _) rfl))) ?_; clear hk; intro a w hk
          refine FW.lfun (y := .lit (.pointer (some ⟨b0, 1, none⟩))) hk rfl rfl rfl rfl (FW.f_fieldPtr hk (FW.holds_nil _) rfl Go.Proofs.Try.underlying87 rfl (by kernel_rfl) rfl) ?_; clear hk; intro a w hk
          refine FW.lfun (y := .lit (.int .i64 v0.i)) hk rfl rfl rfl rfl (FW.f_loadBlk1 hk (FW.holds_nil _) (j := 2) rfl rfl Go.Proofs.Try.underlying3 rfl rfl) ?_; clear hk; intro a w hk
          refine FW.lfun (y := .lit (.int .i64 (IntKind.wrap .i64 (v0.i + 1)))) hk rfl rfl rfl rfl ((FW.f_pure (FW.p_add hk.kn (FW.holds_nil _) rfl rfl))) ?_; clear hk; intro a w hk
          refine FW.lfun (y := .lit (.pointer (some ⟨b0, 0, none⟩))) hk rfl rfl rfl rfl ((FW.f_pure (FW.p_nilCheck hk.kn (FW.holds_nil _) rfl))) ?_; clear hk; intro a w hk
          refine FW.lfun (y := .lit (.pointer (some ⟨b0, 1, none⟩))) hk rfl rfl rfl rfl (FW.f_fieldPtr hk (FW.holds_nil _) rfl Go.Proofs.Try.underlying87 rfl (by kernel_rfl) rfl) ?_; clear hk; intro a w hk
          refine FW.l_store (I' := [FW.blk bx2 66 ((ApiWord.cells (List.getD v0.l (Int.toNat v0.i) default))), FW.blk bx1 33 ((ApiValue.cells (⟨0, false, 0, 0, [], []⟩ : ApiValue))), FW.blk b0 87 ([.row (r_ApiWord_cells v0.l), .lit (.int .i64 (IntKind.wrap .i64 (v0.i + 1))), .lit (.int .i64 v0.deep), .lit (.int .i64 v0.steps)])]) (cs' := [.row (r_ApiWord_cells v0.l), .lit (.int .i64 (IntKind.wrap .i64 (v0.i + 1))), .lit (.int .i64 v0.deep), .lit (.int .i64 v0.steps)]) (j := 2) hk rfl rfl rfl rfl rfl (by kernel_rfl) rfl rfl ?_; clear hk; intro w hk
          refine FW.lend (hK5 _ _ ?_); clear hK5 K'
          refine FW.wreg ?_; intro K' hK6
          refine FW.lfun (y := .lit (.pointer (some ⟨bx2, 2, none⟩))) hk rfl rfl rfl rfl (FW.f_fieldPtr hk (FW.holds_nil _) rfl Go.Proofs.Try.underlying66 rfl (by kernel_rfl) rfl) ?_; clear hk; intro a w hk
          refine FW.lfun (y := .lit (.int .i64 ((List.getD v0.l (Int.toNat v0.i) default).N))) hk rfl rfl rfl rfl (FW.f_loadBlk1 hk (FW.holds_nil _) (j := 0) rfl rfl Go.Proofs.Try.underlying2 rfl rfl) ?_; clear hk; intro a w hk
          obtain ⟨t1, hr_t1, h⟩ := FW.bnd h
          refine FW.lfun (y := .agg ((ApiValue.cells t1))) hk rfl rfl rfl rfl (FW.f_call hk (FW.holds_nil _) rfl rfl Go.Proofs.Try.func153 rfl (by kernel_rfl) (val_Int.ok ((List.getD v0.l (Int.toNat v0.i) default).N) _ hr_t1)) ?_; clear hk; intro a w hk
          refine FW.l_store (I' := [FW.blk bx2 66 ((ApiWord.cells (List.getD v0.l (Int.toNat v0.i) default))), FW.blk bx1 33 ((ApiValue.cells t1)), FW.blk b0 87 ([.row (r_ApiWord_cells v0.l), .lit (.int .i64 (IntKind.wrap .i64 (v0.i + 1))), .lit (.int .i64 v0.deep), .lit (.int .i64 v0.steps)])]) (cs' := (ApiValue.cells t1)) (j := 1) hk rfl rfl rfl rfl rfl (by kernel_rfl) rfl rfl ?_; clear hk; intro w hk
          refine FW.lfun (y := .lit (.bool true)) hk rfl rfl rfl rfl (FW.f_assign hk (FW.holds_nil _) rfl) ?_; clear hk; intro a w hk
          refine FW.lend (hK6 _ _ ?_); clear hK6 K'
          refine wp_ret ?_
          (repeat first | refine FW.then_ret ?_ | refine FW.block_ret ?_)
          obtain rfl := Option.some.inj h
          have hr_0 := FW.rres_keep (I1 := [FW.blk b0 87 ([.row (r_ApiWord_cells v0.l), .lit (.int .i64 (IntKind.wrap .i64 (v0.i + 1))), .lit (.int .i64 v0.deep), .lit (.int .i64 v0.steps)])]) (I2 := [FW.blk bx2 66 ((ApiWord.cells (List.getD v0.l (Int.toNat v0.i) default))), FW.blk bx1 33 ((ApiValue.cells t1))]) (js := [2]) rfl (FW.rcell (tt := 2) hk rfl (j := 1) rfl Go.Proofs.Try.underlying33 rfl (by kernel_rfl))
          replace hk := FW.S.keep (I1 := [FW.blk b0 87 ([.row (r_ApiWord_cells v0.l), .lit (.int .i64 (IntKind.wrap .i64 (v0.i + 1))), .lit (.int .i64 v0.deep), .lit (.int .i64 v0.steps)])]) (I2 := [FW.blk bx2 66 ((ApiWord.cells (List.getD v0.l (Int.toNat v0.i) default))), FW.blk bx1 33 ((ApiValue.cells t1))]) (js := [2]) hk rfl
          exact FW.toXq (FW.fretH2 hk rfl hr_0 (FW.rtmp hk rfl) ⟨rfl, rfl⟩)
        · skip
          refine FW.wreg ?_; intro K' hK7
          refine FW.lfun (y := .lit (.pointer (some ⟨bx2, 0, none⟩))) hk rfl rfl rfl rfl (FW.f_fieldPtr hk (FW.holds_nil _) rfl Go.Proofs.Try.underlying66 rfl (by kernel_rfl) rfl) ?_; clear hk; intro a w hk
          refine FW.lfun (y := .lit (.int .i64 ((List.getD v0.l (Int.toNat v0.i) default).Kind))) hk rfl rfl rfl rfl (FW.f_loadBlk1 hk (FW.holds_nil _) (j := 0) rfl rfl Go.Proofs.Try.underlying3 rfl rfl) ?_; clear hk; intro a w hk
          refine FW.lfun (y := .lit (.bool (decide (((List.getD v0.l (Int.toNat v0.i) default).Kind) = 3)))) hk rfl rfl rfl rfl ((FW.f_pure (FW.p_eql hk.kn (FW.holds_nil _) rfl rfl))) ?_; clear hk; intro a w hk
          refine FW.lfun (y := .lit (.bool (decide (((List.getD v0.l (Int.toNat v0.i) default).Kind) = 3)))) hk rfl rfl rfl rfl (FW.f_assign hk (FW.holds_nil _) rfl) ?_; clear hk; intro a w hk
          refine FW.lend (hK7 _ _ ?_); clear hK7 K'
          refine FW.wcondF (b := (decide (((List.getD v0.l (Int.toNat v0.i) default).Kind) = 3))) hk h rfl (fun h hb => ?_) (fun h hb => ?_)
          · skip
            refine FW.wreg ?_; intro K' hK8
            refine FW.lfun (y := .lit (.pointer (some ⟨b0, 0, none⟩))) hk rfl rfl rfl rfl (FW.f_move hk (FW.holds_nil _) rfl) ?_; clear hk; intro a w hk
            refine FW.lfun (y := .lit (.pointer (some ⟨b0, 0, none⟩))) hk rfl rfl rfl rfl ((FW.f_pure (FW.p_nilCheck hk.kn (FW.holds_nil _) rfl))) ?_; clear hk; intro a w hk
            refine FW.lfun (y := .lit (.pointer (some ⟨b0, 1, none⟩))) hk rfl rfl rfl rfl (FW.f_fieldPtr hk (FW.holds_nil _) rfl Go.Proofs.Try.underlying87 rfl (by kernel_rfl) rfl) ?_; clear hk; intro a w hk
            refine FW.lfun (y := .lit (.int .i64 v0.i)) hk rfl rfl rfl rfl (FW.f_loadBlk1 hk (FW.holds_nil _) (j := 2) rfl rfl Go.Proofs.Try.underlying3 rfl rfl) ?_; clear hk; intro a w hk
            refine FW.lfun (y := .lit (.int .i64 (IntKind.wrap .i64 (v0.i + 1)))) hk rfl rfl rfl rfl ((FW.f_pure (FW.p_add hk.kn (FW.holds_nil _) rfl rfl))) ?_; clear hk; intro a w hk
            refine FW.lfun (y := .lit (.pointer (some ⟨b0, 0, none⟩))) hk rfl rfl rfl rfl ((FW.f_pure (FW.p_nilCheck hk.kn (FW.holds_nil _) rfl))) ?_; clear hk; intro a w hk
            refine FW.lfun (y := .lit (.pointer (some ⟨b0, 1, none⟩))) hk rfl rfl rfl rfl (FW.f_fieldPtr hk (FW.holds_nil _) rfl Go.Proofs.Try.underlying87 rfl (by kernel_rfl) rfl) ?_; clear hk; intro a w hk
            refine FW.l_store (I' := [FW.blk bx2 66 ((ApiWord.cells (List.getD v0.l (Int.toNat v0.i) default))), FW.blk bx1 33 ((ApiValue.cells (⟨0, false, 0, 0, [], []⟩ : ApiValue))), FW.blk b0 87 ([.row (r_ApiWord_cells v0.l), .lit (.int .i64 (IntKind.wrap .i64 (v0.i + 1))), .lit (.int .i64 v0.deep), .lit (.int .i64 v0.steps)])]) (cs' := [.row (r_ApiWord_cells v0.l), .lit (.int .i64 (IntKind.wrap .i64 (v0.i + 1))), .lit (.int .i64 v0.deep), .lit (.int .i64 v0.steps)]) (j := 2) hk rfl rfl rfl rfl rfl (by kernel_rfl) rfl rfl ?_; clear hk; intro w hk
            refine FW.lend (hK8 _ _ ?_); clear hK8 K'
            refine FW.wreg ?_; intro K' hK9
            refine FW.lfun (y := .lit (.pointer (some ⟨bx2, 3, none⟩))) hk rfl rfl rfl rfl (FW.f_fieldPtr hk (FW.holds_nil _) rfl Go.Proofs.Try.underlying66 rfl (by kernel_rfl) rfl) ?_; clear hk; intro a w hk
            refine FW.lfun (y := .lit (.float .f64 ((List.getD v0.l (Int.toNat v0.i) default).F))) hk rfl rfl rfl rfl (FW.f_loadBlk1 hk (FW.holds_nil _) (j := 0) rfl rfl Go.Proofs.Try.underlying30 rfl rfl) ?_; clear hk; intro a w hk
            obtain ⟨t2, hr_t2, h⟩ := FW.bnd h
            refine FW.lfun (y := .agg ((ApiValue.cells t2))) hk rfl rfl rfl rfl (FW.f_call hk (FW.holds_nil _) rfl rfl Go.Proofs.Try.func154 rfl (by kernel_rfl) (val_Float.ok ((List.getD v0.l (Int.toNat v0.i) default).F) _ hr_t2)) ?_; clear hk; intro a w hk
            refine FW.l_store (I' := [FW.blk bx2 66 ((ApiWord.cells (List.getD v0.l (Int.toNat v0.i) default))), FW.blk bx1 33 ((ApiValue.cells t2)), FW.blk b0 87 ([.row (r_ApiWord_cells v0.l), .lit (.int .i64 (IntKind.wrap .i64 (v0.i + 1))), .lit (.int .i64 v0.deep), .lit (.int .i64 v0.steps)])]) (cs' := (ApiValue.cells t2)) (j := 1) hk rfl rfl rfl rfl rfl (by kernel_rfl) rfl rfl ?_; clear hk; intro w hk
            refine FW.lfun (y := .lit (.bool true)) hk rfl rfl rfl rfl (FW.f_assign hk (FW.holds_nil _) rfl) ?_; clear hk; intro a w hk
            refine FW.lend (hK9 _ _ ?_); clear hK9 K'
            refine wp_ret ?_
            (repeat first | refine FW.then_ret ?_ | refine FW.block_ret ?_)
            obtain rfl := Option.some.inj h
            have hr_0 := FW.rres_keep (I1 := [FW.blk b0 87 ([.row (r_ApiWord_cells v0.l), .lit (.int .i64 (IntKind.wrap .i64 (v0.i + 1))), .lit (.int .i64 v0.deep), .lit (.int .i64 v0.steps)])]) (I2 := [FW.blk bx2 66 ((ApiWord.cells (List.getD v0.l (Int.toNat v0.i) default))), FW.blk bx1 33 ((ApiValue.cells t2))]) (js := [2]) rfl (FW.rcell (tt := 2) hk rfl (j := 1) rfl Go.Proofs.Try.underlying33 rfl (by kernel_rfl))
            replace hk := FW.S.keep (I1 := [FW.blk b0 87 ([.row (r_ApiWord_cells v0.l), .lit (.int .i64 (IntKind.wrap .i64 (v0.i + 1))), .lit (.int .i64 v0.deep), .lit (.int .i64 v0.steps)])]) (I2 := [FW.blk bx2 66 ((ApiWord.cells (List.getD v0.l (Int.toNat v0.i) default))), FW.blk bx1 33 ((ApiValue.cells t2))]) (js := [2]) hk rfl
            exact FW.toXq (FW.fretH2 hk rfl hr_0 (FW.rtmp hk rfl) ⟨rfl, rfl⟩)
          · skip
            refine FW.wreg ?_; intro K' hK10
            refine FW.lfun (y := .lit (.pointer (some ⟨bx2, 0, none⟩))) hk rfl rfl rfl rfl (FW.f_fieldPtr hk (FW.holds_nil _) rfl Go.Proofs.Try.underlying66 rfl (by kernel_rfl) rfl) ?_; clear hk; intro a w hk
            refine FW.lfun (y := .lit (.int .i64 ((List.getD v0.l (Int.toNat v0.i) default).Kind))) hk rfl rfl rfl rfl (FW.f_loadBlk1 hk (FW.holds_nil _) (j := 0) rfl rfl Go.Proofs.Try.underlying3 rfl rfl) ?_; clear hk; intro a w hk
            refine FW.lfun (y := .lit (.bool (decide (((List.getD v0.l (Int.toNat v0.i) default).Kind) = 4)))) hk rfl rfl rfl rfl ((FW.f_pure (FW.p_eql hk.kn (FW.holds_nil _) rfl rfl))) ?_; clear hk; intro a w hk
            refine FW.lfun (y := .lit (.bool (decide (((List.getD v0.l (Int.toNat v0.i) default).Kind) = 4)))) hk rfl rfl rfl rfl (FW.f_assign hk (FW.holds_nil _) rfl) ?_; clear hk; intro a w hk
            refine FW.lend (hK10 _ _ ?_); clear hK10 K'
            refine FW.wcondF (b := (decide (((List.getD v0.l (Int.toNat v0.i) default).Kind) = 4))) hk h rfl (fun h hb => ?_) (fun h hb => ?_)
            · skip
              refine FW.wreg ?_; intro K' hK11
              refine FW.lfun (y := .lit (.pointer (some ⟨b0, 0, none⟩))) hk rfl rfl rfl rfl (FW.f_move hk (FW.holds_nil _) rfl) ?_; clear hk; intro a w hk
              refine FW.lfun (y := .lit (.pointer (some ⟨b0, 0, none⟩))) hk rfl rfl rfl rfl ((FW.f_pure (FW.p_nilCheck hk.kn (FW.holds_nil _) rfl))) ?_; clear hk; intro a w hk
              refine FW.lfun (y := .lit (.pointer (some ⟨b0, 1, none⟩))) hk rfl rfl rfl rfl (FW.f_fieldPtr hk (FW.holds_nil _) rfl Go.Proofs.Try.underlying87 rfl (by kernel_rfl) rfl) ?_; clear hk; intro a w hk
              refine FW.lfun (y := .lit (.int .i64 v0.i)) hk rfl rfl rfl rfl (FW.f_loadBlk1 hk (FW.holds_nil _) (j := 2) rfl rfl Go.Proofs.Try.underlying3 rfl rfl) ?_; clear hk; intro a w hk
              refine FW.lfun (y := .lit (.int .i64 (IntKind.wrap .i64 (v0.i + 1)))) hk rfl rfl rfl rfl ((FW.f_pure (FW.p_add hk.kn (FW.holds_nil _) rfl rfl))) ?_; clear hk; intro a w hk
              refine FW.lfun (y := .lit (.pointer (some ⟨b0, 0, none⟩))) hk rfl rfl rfl rfl ((FW.f_pure (FW.p_nilCheck hk.kn (FW.holds_nil _) rfl))) ?_; clear hk; intro a w hk
              refine FW.lfun (y := .lit (.pointer (some ⟨b0, 1, none⟩))) hk rfl rfl rfl rfl (FW.f_fieldPtr hk (FW.holds_nil _) rfl Go.Proofs.Try.underlying87 rfl (by kernel_rfl) rfl) ?_; clear hk; intro a w hk
              refine FW.l_store (I' := [FW.blk bx2 66 ((ApiWord.cells (List.getD v0.l (Int.toNat v0.i) default))), FW.blk bx1 33 ((ApiValue.cells (⟨0, false, 0, 0, [], []⟩ : ApiValue))), FW.blk b0 87 ([.row (r_ApiWord_cells v0.l), .lit (.int .i64 (IntKind.wrap .i64 (v0.i + 1))), .lit (.int .i64 v0.deep), .lit (.int .i64 v0.steps)])]) (cs' := [.row (r_ApiWord_cells v0.l), .lit (.int .i64 (IntKind.wrap .i64 (v0.i + 1))), .lit (.int .i64 v0.deep), .lit (.int .i64 v0.steps)]) (j := 2) hk rfl rfl rfl rfl rfl (by kernel_rfl) rfl rfl ?_; clear hk; intro w hk
              refine FW.lend (hK11 _ _ ?_); clear hK11 K'
              refine FW.wreg ?_; intro K' hK12
              refine FW.lfun (y := .lit (.pointer (some ⟨bx2, 1, none⟩))) hk rfl rfl rfl rfl (FW.f_fieldPtr hk (FW.holds_nil _) rfl Go.Proofs.Try.underlying66 rfl (by kernel_rfl) rfl) ?_; clear hk; intro a w hk
              refine FW.lfun (y := .lit (.string (FW.B ((List.getD v0.l (Int.toNat v0.i) default).S)))) hk rfl rfl rfl rfl (FW.f_loadBlk1 hk (FW.holds_nil _) (j := 0) rfl rfl Go.Proofs.Try.underlying9 rfl rfl) ?_; clear hk; intro a w hk
              obtain ⟨t3, hr_t3, h⟩ := FW.bnd h
              refine FW.lfun (y := .agg ((ApiValue.cells t3))) hk rfl rfl rfl rfl (FW.f_call hk (FW.holds_nil _) rfl rfl Go.Proofs.Try.func146 rfl (by kernel_rfl) (val_Text.ok ((List.getD v0.l (Int.toNat v0.i) default).S) _ hr_t3)) ?_; clear hk; intro a w hk
              refine FW.l_store (I' := [FW.blk bx2 66 ((ApiWord.cells (List.getD v0.l (Int.toNat v0.i) default))), FW.blk bx1 33 ((ApiValue.cells t3)), FW.blk b0 87 ([.row (r_ApiWord_cells v0.l), .lit (.int .i64 (IntKind.wrap .i64 (v0.i + 1))), .lit (.int .i64 v0.deep), .lit (.int .i64 v0.steps)])]) (cs' := (ApiValue.cells t3)) (j := 1) hk rfl rfl rfl rfl rfl (by kernel_rfl) rfl rfl ?_; clear hk; intro w hk
              refine FW.lfun (y := .lit (.bool true)) hk rfl rfl rfl rfl (FW.f_assign hk (FW.holds_nil _) rfl) ?_; clear hk; intro a w hk
              refine FW.lend (hK12 _ _ ?_); clear hK12 K'
              refine wp_ret ?_
              (repeat first | refine FW.then_ret ?_ | refine FW.block_ret ?_)
              obtain rfl := Option.some.inj h
              have hr_0 := FW.rres_keep (I1 := [FW.blk b0 87 ([.row (r_ApiWord_cells v0.l), .lit (.int .i64 (IntKind.wrap .i64 (v0.i + 1))), .lit (.int .i64 v0.deep), .lit (.int .i64 v0.steps)])]) (I2 := [FW.blk bx2 66 ((ApiWord.cells (List.getD v0.l (Int.toNat v0.i) default))), FW.blk bx1 33 ((ApiValue.cells t3))]) (js := [2]) rfl (FW.rcell (tt := 2) hk rfl (j := 1) rfl Go.Proofs.Try.underlying33 rfl (by kernel_rfl))
              replace hk := FW.S.keep (I1 := [FW.blk b0 87 ([.row (r_ApiWord_cells v0.l), .lit (.int .i64 (IntKind.wrap .i64 (v0.i + 1))), .lit (.int .i64 v0.deep), .lit (.int .i64 v0.steps)])]) (I2 := [FW.blk bx2 66 ((ApiWord.cells (List.getD v0.l (Int.toNat v0.i) default))), FW.blk bx1 33 ((ApiValue.cells t3))]) (js := [2]) hk rfl
              exact FW.toXq (FW.fretH2 hk rfl hr_0 (FW.rtmp hk rfl) ⟨rfl, rfl⟩)
            · skip
              refine FW.wreg ?_; intro K' hK13
              refine FW.lfun (y := .lit (.pointer (some ⟨bx2, 0, none⟩))) hk rfl rfl rfl rfl (FW.f_fieldPtr hk (FW.holds_nil _) rfl Go.Proofs.Try.underlying66 rfl (by kernel_rfl) rfl) ?_; clear hk; intro a w hk
              refine FW.lfun (y := .lit (.int .i64 ((List.getD v0.l (Int.toNat v0.i) default).Kind))) hk rfl rfl rfl rfl (FW.f_loadBlk1 hk (FW.holds_nil _) (j := 0) rfl rfl Go.Proofs.Try.underlying3 rfl rfl) ?_; clear hk; intro a w hk
              refine FW.lfun (y := .lit (.bool (decide (((List.getD v0.l (Int.toNat v0.i) default).Kind) = 1)))) hk rfl rfl rfl rfl ((FW.f_pure (FW.p_eql hk.kn (FW.holds_nil _) rfl rfl))) ?_; clear hk; intro a w hk
              refine FW.lfun (y := .lit (.bool (decide (((List.getD v0.l (Int.toNat v0.i) default).Kind) = 1)))) hk rfl rfl rfl rfl (FW.f_move hk (FW.holds_nil _) rfl) ?_; clear hk; intro a w hk
              refine FW.lfunG (y := .lit (.pointer (some ⟨bx2, 1, none⟩))) hk rfl rfl rfl rfl rfl rfl rfl rfl (fun hc => FW.f_fieldPtr hk hc rfl Go.Proofs.Try.underlying66 rfl (by kernel_rfl) rfl) ?_; clear hk; intro a w hk
              refine FW.lfunG (y := .lit (.string (FW.B ((List.getD v0.l (Int.toNat v0.i) default).S)))) hk rfl rfl rfl rfl rfl rfl rfl rfl (fun hc => FW.f_loadBlk1 hk hc (j := 0) rfl rfl Go.Proofs.Try.underlying9 rfl rfl) ?_; clear hk; intro a w hk
              refine FW.lfunG (y := .lit (.bool (decide (((List.getD v0.l (Int.toNat v0.i) default).S) = ([116, 114, 117, 101] : List UInt8))))) hk rfl rfl rfl rfl rfl rfl rfl rfl (fun hc => (FW.f_pure (FW.p_seql hk.kn hc rfl rfl))) ?_; clear hk; intro a w hk
              refine FW.lfunG (y := .lit (.bool (decide (((List.getD v0.l (Int.toNat v0.i) default).S) = ([116, 114, 117, 101] : List UInt8))))) hk rfl rfl rfl rfl rfl rfl rfl rfl (fun hc => FW.f_move hk hc rfl) ?_; clear hk; intro a w hk
              refine FW.lfunG (y := .lit (.pointer (some ⟨bx2, 1, none⟩))) hk rfl rfl rfl rfl rfl rfl rfl rfl (fun hc => FW.f_fieldPtr hk hc rfl Go.Proofs.Try.underlying66 rfl (by kernel_rfl) rfl) ?_; clear hk; intro a w hk
              refine FW.lfunG (y := .lit (.string (FW.B ((List.getD v0.l (Int.toNat v0.i) default).S)))) hk rfl rfl rfl rfl rfl rfl rfl rfl (fun hc => FW.f_loadBlk1 hk hc (j := 0) rfl rfl Go.Proofs.Try.underlying9 rfl rfl) ?_; clear hk; intro a w hk
              refine FW.lfunG (y := .lit (.bool (decide (((List.getD v0.l (Int.toNat v0.i) default).S) = ([102, 97, 108, 115, 101] : List UInt8))))) hk rfl rfl rfl rfl rfl rfl rfl rfl (fun hc => (FW.f_pure (FW.p_seql hk.kn hc rfl rfl))) ?_; clear hk; intro a w hk
              refine FW.lfunG (y := .lit (.bool ((decide (((List.getD v0.l (Int.toNat v0.i) default).S) = ([116, 114, 117, 101] : List UInt8))) || (decide (((List.getD v0.l (Int.toNat v0.i) default).S) = ([102, 97, 108, 115, 101] : List UInt8)))))) hk rfl rfl rfl rfl rfl rfl rfl rfl (fun hc => (FW.f_pure (FW.p_pick_or hk.kn hc rfl rfl))) ?_; clear hk; intro a w hk
              refine FW.lfun (y := .lit (.bool ((decide (((List.getD v0.l (Int.toNat v0.i) default).Kind) = 1)) && ((decide (((List.getD v0.l (Int.toNat v0.i) default).S) = ([116, 114, 117, 101] : List UInt8))) || (decide (((List.getD v0.l (Int.toNat v0.i) default).S) = ([102, 97, 108, 115, 101] : List UInt8))))))) hk rfl rfl rfl rfl ((FW.f_pure (FW.p_pick_and hk.kn (FW.holds_nil _) rfl rfl))) ?_; clear hk; intro a w hk
              refine FW.lfun (y := .lit (.bool ((decide (((List.getD v0.l (Int.toNat v0.i) default).Kind) = 1)) && ((decide (((List.getD v0.l (Int.toNat v0.i) default).S) = ([116, 114, 117, 101] : List UInt8))) || (decide (((List.getD v0.l (Int.toNat v0.i) default).S) = ([102, 97, 108, 115, 101] : List UInt8))))))) hk rfl rfl rfl rfl (FW.f_assign hk (FW.holds_nil _) rfl) ?_; clear hk; intro a w hk
              refine FW.lend (hK13 _ _ ?_); clear hK13 K'
              refine FW.wcondF (b := ((decide (((List.getD v0.l (Int.toNat v0.i) default).Kind) = 1)) && ((decide (((List.getD v0.l (Int.toNat v0.i) default).S) = ([116, 114, 117, 101] : List UInt8))) || (decide (((List.getD v0.l (Int.toNat v0.i) default).S) = ([102, 97, 108, 115, 101] : List UInt8)))))) hk h rfl (fun h hb => ?_) (fun h hb => ?_)
              · skip
                refine FW.wreg ?_; intro K' hK14
                refine FW.lfun (y := .lit (.pointer (some ⟨b0, 0, none⟩))) hk rfl rfl rfl rfl (FW.f_move hk (FW.holds_nil _) rfl) ?_; clear hk; intro a w hk
                refine FW.lfun (y := .lit (.pointer (some ⟨b0, 0, none⟩))) hk rfl rfl rfl rfl ((FW.f_pure (FW.p_nilCheck hk.kn (FW.holds_nil _) rfl))) ?_; clear hk; intro a w hk
                refine FW.lfun (y := .lit (.pointer (some ⟨b0, 1, none⟩))) hk rfl rfl rfl rfl (FW.f_fieldPtr hk (FW.holds_nil _) rfl Go.Proofs.Try.underlying87 rfl (by kernel_rfl) rfl) ?_; clear hk; intro a w hk
                refine FW.lfun (y := .lit (.int .i64 v0.i)) hk rfl rfl rfl rfl (FW.f_loadBlk1 hk (FW.holds_nil _) (j := 2) rfl rfl Go.Proofs.Try.underlying3 rfl rfl) ?_; clear hk; intro a w hk
                refine FW.lfun (y := .lit (.int .i64 (IntKind.wrap .i64 (v0.i + 1)))) hk rfl rfl rfl rfl ((FW.f_pure (FW.p_add hk.kn (FW.holds_nil _) rfl rfl))) ?_; clear hk; intro a w hk
                refine FW.lfun (y := .lit (.pointer (some ⟨b0, 0, none⟩))) hk rfl rfl rfl rfl ((FW.f_pure (FW.p_nilCheck hk.kn (FW.holds_nil _) rfl))) ?_; clear hk; intro a w hk
                refine FW.lfun (y := .lit (.pointer (some ⟨b0, 1, none⟩))) hk rfl rfl rfl rfl (FW.f_fieldPtr hk (FW.holds_nil _) rfl Go.Proofs.Try.underlying87 rfl (by kernel_rfl) rfl) ?_; clear hk; intro a w hk
                refine FW.l_store (I' := [FW.blk bx2 66 ((ApiWord.cells (List.getD v0.l (Int.toNat v0.i) default))), FW.blk bx1 33 ((ApiValue.cells (⟨0, false, 0, 0, [], []⟩ : ApiValue))), FW.blk b0 87 ([.row (r_ApiWord_cells v0.l), .lit (.int .i64 (IntKind.wrap .i64 (v0.i + 1))), .lit (.int .i64 v0.deep), .lit (.int .i64 v0.steps)])]) (cs' := [.row (r_ApiWord_cells v0.l), .lit (.int .i64 (IntKind.wrap .i64 (v0.i + 1))), .lit (.int .i64 v0.deep), .lit (.int .i64 v0.steps)]) (j := 2) hk rfl rfl rfl rfl rfl (by kernel_rfl) rfl rfl ?_; clear hk; intro w hk
                refine FW.lend (hK14 _ _ ?_); clear hK14 K'
                refine FW.wreg ?_; intro K' hK15
                refine FW.lfun (y := .lit (.pointer (some ⟨bx2, 1, none⟩))) hk rfl rfl rfl rfl (FW.f_fieldPtr hk (FW.holds_nil _) rfl Go.Proofs.Try.underlying66 rfl (by kernel_rfl) rfl) ?_; clear hk; intro a w hk
                refine FW.lfun (y := .lit (.string (FW.B ((List.getD v0.l (Int.toNat v0.i) default).S)))) hk rfl rfl rfl rfl (FW.f_loadBlk1 hk (FW.holds_nil _) (j := 0) rfl rfl Go.Proofs.Try.underlying9 rfl rfl) ?_; clear hk; intro a w hk
                refine FW.lfun (y := .lit (.bool (decide (((List.getD v0.l (Int.toNat v0.i) default).S) = ([116, 114, 117, 101] : List UInt8))))) hk rfl rfl rfl rfl ((FW.f_pure (FW.p_seql hk.kn (FW.holds_nil _) rfl rfl))) ?_; clear hk; intro a w hk
                obtain ⟨t4, hr_t4, h⟩ := FW.bnd h
                refine FW.lfun (y := .agg ((ApiValue.cells t4))) hk rfl rfl rfl rfl (FW.f_call hk (FW.holds_nil _) rfl rfl Go.Proofs.Try.func155 rfl (by kernel_rfl) (val_Yes.ok (decide (((List.getD v0.l (Int.toNat v0.i) default).S) = ([116, 114, 117, 101] : List UInt8))) _ hr_t4)) ?_; clear hk; intro a w hk
                refine FW.l_store (I' := [FW.blk bx2 66 ((ApiWord.cells (List.getD v0.l (Int.toNat v0.i) default))), FW.blk bx1 33 ((ApiValue.cells t4)), FW.blk b0 87 ([.row (r_ApiWord_cells v0.l), .lit (.int .i64 (IntKind.wrap .i64 (v0.i + 1))), .lit (.int .i64 v0.deep), .lit (.int .i64 v0.steps)])]) (cs' := (ApiValue.cells t4)) (j := 1) hk rfl rfl rfl rfl rfl (by kernel_rfl) rfl rfl ?_; clear hk; intro w hk
                refine FW.lfun (y := .lit (.bool true)) hk rfl rfl rfl rfl (FW.f_assign hk (FW.holds_nil _) rfl) ?_; clear hk; intro a w hk
                refine FW.lend (hK15 _ _ ?_); clear hK15 K'
                refine wp_ret ?_
                (repeat first | refine FW.then_ret ?_ | refine FW.block_ret ?_)
                obtain rfl := Option.some.inj h
                have hr_0 := FW.rres_keep (I1 := [FW.blk b0 87 ([.row (r_ApiWord_cells v0.l), .lit (.int .i64 (IntKind.wrap .i64 (v0.i + 1))), .lit (.int .i64 v0.deep), .lit (.int .i64 v0.steps)])]) (I2 := [FW.blk bx2 66 ((ApiWord.cells (List.getD v0.l (Int.toNat v0.i) default))), FW.blk bx1 33 ((ApiValue.cells t4))]) (js := [2]) rfl (FW.rcell (tt := 2) hk rfl (j := 1) rfl Go.Proofs.Try.underlying33 rfl (by kernel_rfl))
                replace hk := FW.S.keep (I1 := [FW.blk b0 87 ([.row (r_ApiWord_cells v0.l), .lit (.int .i64 (IntKind.wrap .i64 (v0.i + 1))), .lit (.int .i64 v0.deep), .lit (.int .i64 v0.steps)])]) (I2 := [FW.blk bx2 66 ((ApiWord.cells (List.getD v0.l (Int.toNat v0.i) default))), FW.blk bx1 33 ((ApiValue.cells t4))]) (js := [2]) hk rfl
                exact FW.toXq (FW.fretH2 hk rfl hr_0 (FW.rtmp hk rfl) ⟨rfl, rfl⟩)
              · skip
                refine FW.wreg ?_; intro K' hK16
                refine FW.lfun (y := .lit (.pointer (some ⟨bx2, 0, none⟩))) hk rfl rfl rfl rfl (FW.f_fieldPtr hk (FW.holds_nil _) rfl Go.Proofs.Try.underlying66 rfl (by kernel_rfl) rfl) ?_; clear hk; intro a w hk
                refine FW.lfun (y := .lit (.int .i64 ((List.getD v0.l (Int.toNat v0.i) default).Kind))) hk rfl rfl rfl rfl (FW.f_loadBlk1 hk (FW.holds_nil _) (j := 0) rfl rfl Go.Proofs.Try.underlying3 rfl rfl) ?_; clear hk; intro a w hk
                refine FW.lfun (y := .lit (.bool (decide (((List.getD v0.l (Int.toNat v0.i) default).Kind) = 1)))) hk rfl rfl rfl rfl ((FW.f_pure (FW.p_eql hk.kn (FW.holds_nil _) rfl rfl))) ?_; clear hk; intro a w hk
                refine FW.lfun (y := .lit (.bool (decide (((List.getD v0.l (Int.toNat v0.i) default).Kind) = 1)))) hk rfl rfl rfl rfl (FW.f_move hk (FW.holds_nil _) rfl) ?_; clear hk; intro a w hk
                refine FW.lfunG (y := .lit (.pointer (some ⟨bx2, 1, none⟩))) hk rfl rfl rfl rfl rfl rfl rfl rfl (fun hc => FW.f_fieldPtr hk hc rfl Go.Proofs.Try.underlying66 rfl (by kernel_rfl) rfl) ?_; clear hk; intro a w hk
                refine FW.lfunG (y := .lit (.string (FW.B ((List.getD v0.l (Int.toNat v0.i) default).S)))) hk rfl rfl rfl rfl rfl rfl rfl rfl (fun hc => FW.f_loadBlk1 hk hc (j := 0) rfl rfl Go.Proofs.Try.underlying9 rfl rfl) ?_; clear hk; intro a w hk
                refine FW.lfunG (y := .lit (.bool (decide (((List.getD v0.l (Int.toNat v0.i) default).S) = ([110, 117, 108, 108] : List UInt8))))) hk rfl rfl rfl rfl rfl rfl rfl rfl (fun hc => (FW.f_pure (FW.p_seql hk.kn hc rfl rfl))) ?_; clear hk; intro a w hk
                refine FW.lfun (y := .lit (.bool ((decide (((List.getD v0.l (Int.toNat v0.i) default).Kind) = 1)) && (decide (((List.getD v0.l (Int.toNat v0.i) default).S) = ([110, 117, 108, 108] : List UInt8)))))) hk rfl rfl rfl rfl ((FW.f_pure (FW.p_pick_and hk.kn (FW.holds_nil _) rfl rfl))) ?_; clear hk; intro a w hk
                refine FW.lfun (y := .lit (.bool ((decide (((List.getD v0.l (Int.toNat v0.i) default).Kind) = 1)) && (decide (((List.getD v0.l (Int.toNat v0.i) default).S) = ([110, 117, 108, 108] : List UInt8)))))) hk rfl rfl rfl rfl (FW.f_assign hk (FW.holds_nil _) rfl) ?_; clear hk; intro a w hk
                refine FW.lend (hK16 _ _ ?_); clear hK16 K'
                refine FW.wcondF (b := ((decide (((List.getD v0.l (Int.toNat v0.i) default).Kind) = 1)) && (decide (((List.getD v0.l (Int.toNat v0.i) default).S) = ([110, 117, 108, 108] : List UInt8))))) hk h rfl (fun h hb => ?_) (fun h hb => ?_)
                · skip
                  refine FW.wreg ?_; intro K' hK17
                  refine FW.lfun (y := .lit (.pointer (some ⟨b0, 0, none⟩))) hk rfl rfl rfl rfl (FW.f_move hk (FW.holds_nil _) rfl) ?_; clear hk; intro a w hk
                  refine FW.lfun (y := .lit (.pointer (some ⟨b0, 0, none⟩))) hk rfl rfl rfl rfl ((FW.f_pure (FW.p_nilCheck hk.kn (FW.holds_nil _) rfl))) ?_; clear hk; intro a w hk
                  refine FW.lfun (y := .lit (.pointer (some ⟨b0, 1, none⟩))) hk rfl rfl rfl rfl (FW.f_fieldPtr hk (FW.holds_nil _) rfl Go.Proofs.Try.underlying87 rfl (by kernel_rfl) rfl) ?_; clear hk; intro a w hk
                  refine FW.lfun (y := .lit (.int .i64 v0.i)) hk rfl rfl rfl rfl (FW.f_loadBlk1 hk (FW.holds_nil _) (j := 2) rfl rfl Go.Proofs.Try.underlying3 rfl rfl) ?_; clear hk; intro a w hk
                  refine FW.lfun (y := .lit (.int .i64 (IntKind.wrap .i64 (v0.i + 1)))) hk rfl rfl rfl rfl ((FW.f_pure (FW.p_add hk.kn (FW.holds_nil _) rfl rfl))) ?_; clear hk; intro a w hk
                  refine FW.lfun (y := .lit (.pointer (some ⟨b0, 0, none⟩))) hk rfl rfl rfl rfl ((FW.f_pure (FW.p_nilCheck hk.kn (FW.holds_nil _) rfl))) ?_; clear hk; intro a w hk
                  refine FW.lfun (y := .lit (.pointer (some ⟨b0, 1, none⟩))) hk rfl rfl rfl rfl (FW.f_fieldPtr hk (FW.holds_nil _) rfl Go.Proofs.Try.underlying87 rfl (by kernel_rfl) rfl) ?_; clear hk; intro a w hk
                  refine FW.l_store (I' := [FW.blk bx2 66 ((ApiWord.cells (List.getD v0.l (Int.toNat v0.i) default))), FW.blk bx1 33 ((ApiValue.cells (⟨0, false, 0, 0, [], []⟩ : ApiValue))), FW.blk b0 87 ([.row (r_ApiWord_cells v0.l), .lit (.int .i64 (IntKind.wrap .i64 (v0.i + 1))), .lit (.int .i64 v0.deep), .lit (.int .i64 v0.steps)])]) (cs' := [.row (r_ApiWord_cells v0.l), .lit (.int .i64 (IntKind.wrap .i64 (v0.i + 1))), .lit (.int .i64 v0.deep), .lit (.int .i64 v0.steps)]) (j := 2) hk rfl rfl rfl rfl rfl (by kernel_rfl) rfl rfl ?_; clear hk; intro w hk
                  refine FW.lend (hK17 _ _ ?_); clear hK17 K'
                  refine FW.wreg ?_; intro K' hK18
                  obtain ⟨t5, hr_t5, h⟩ := FW.bnd h
                  refine FW.lfun (y := .agg ((ApiValue.cells t5))) hk rfl rfl rfl rfl (FW.f_call hk (FW.holds_nil _) rfl rfl Go.Proofs.Try.func156 rfl (by kernel_rfl) (val_None.ok  _ hr_t5)) ?_; clear hk; intro a w hk
                  refine FW.l_store (I' := [FW.blk bx2 66 ((ApiWord.cells (List.getD v0.l (Int.toNat v0.i) default))), FW.blk bx1 33 ((ApiValue.cells t5)), FW.blk b0 87 ([.row (r_ApiWord_cells v0.l), .lit (.int .i64 (IntKind.wrap .i64 (v0.i + 1))), .lit (.int .i64 v0.deep), .lit (.int .i64 v0.steps)])]) (cs' := (ApiValue.cells t5)) (j := 1) hk rfl rfl rfl rfl rfl (by kernel_rfl) rfl rfl ?_; clear hk; intro w hk
                  refine FW.lfun (y := .lit (.bool true)) hk rfl rfl rfl rfl (FW.f_assign hk (FW.holds_nil _) rfl) ?_; clear hk; intro a w hk
                  refine FW.lend (hK18 _ _ ?_); clear hK18 K'
                  refine wp_ret ?_
                  (repeat first | refine FW.then_ret ?_ | refine FW.block_ret ?_)
                  obtain rfl := Option.some.inj h
                  have hr_0 := FW.rres_keep (I1 := [FW.blk b0 87 ([.row (r_ApiWord_cells v0.l), .lit (.int .i64 (IntKind.wrap .i64 (v0.i + 1))), .lit (.int .i64 v0.deep), .lit (.int .i64 v0.steps)])]) (I2 := [FW.blk bx2 66 ((ApiWord.cells (List.getD v0.l (Int.toNat v0.i) default))), FW.blk bx1 33 ((ApiValue.cells t5))]) (js := [2]) rfl (FW.rcell (tt := 2) hk rfl (j := 1) rfl Go.Proofs.Try.underlying33 rfl (by kernel_rfl))
                  replace hk := FW.S.keep (I1 := [FW.blk b0 87 ([.row (r_ApiWord_cells v0.l), .lit (.int .i64 (IntKind.wrap .i64 (v0.i + 1))), .lit (.int .i64 v0.deep), .lit (.int .i64 v0.steps)])]) (I2 := [FW.blk bx2 66 ((ApiWord.cells (List.getD v0.l (Int.toNat v0.i) default))), FW.blk bx1 33 ((ApiValue.cells t5))]) (js := [2]) hk rfl
                  exact FW.toXq (FW.fretH2 hk rfl hr_0 (FW.rtmp hk rfl) ⟨rfl, rfl⟩)
                · skip
                  refine FW.wreg ?_; intro K' hK19
                  refine FW.lfun (y := .lit (.pointer (some ⟨b0, 0, none⟩))) hk rfl rfl rfl rfl (FW.f_move hk (FW.holds_nil _) rfl) ?_; clear hk; intro a w hk
                  obtain ⟨t6, hr_t6, h⟩ := FW.bnd h
                  refine FW.l_callH (I1 := (OParseParser.items b0 v0)) (I2 := [FW.blk bx2 66 ((ApiWord.cells (List.getD v0.l (Int.toNat v0.i) default))), FW.blk bx1 33 ((ApiValue.cells (⟨0, false, 0, 0, [], []⟩ : ApiValue)))]) (js := [2]) hk rfl rfl rfl rfl rfl Go.Proofs.Try.func92 rfl (by kernel_rfl) (parse_parser_sign.ok v0 ([91] : List UInt8) _ hr_t6 b0) ?_; clear hk
                  rintro _ _ ⟨rfl, rfl⟩ a w hk
                  refine FW.lfun (y := .lit (.bool t6.1)) hk rfl rfl rfl rfl (FW.f_assign hk (FW.holds_nil _) rfl) ?_; clear hk; intro a w hk
                  refine FW.lend (hK19 _ _ ?_); clear hK19 K'
                  refine FW.wcondF (b := t6.1) hk h rfl (fun h hb => ?_) (fun h hb => ?_)
                  · skip
                    refine FW.wreg ?_; intro K' hK20
                    refine FW.lfun (y := .lit (.pointer (some ⟨b0, 0, none⟩))) hk rfl rfl rfl rfl (FW.f_move hk (FW.holds_nil _) rfl) ?_; clear hk; intro a w hk
                    rcases FW.bndX h with ⟨e_t7, hr_t7, rfl⟩ | ⟨t7, hr_t7, h⟩
                    · skip
                      refine FW.l_callXE (I1 := (OParseParser.items b0 t6.2)) (I2 := [FW.blk bx2 66 ((ApiWord.cells (List.getD v0.l (Int.toNat v0.i) default))), FW.blk bx1 33 ((ApiValue.cells (⟨0, false, 0, 0, [], []⟩ : ApiValue)))]) (js := [0]) hk rfl rfl rfl Go.Proofs.Try.func158 rfl (by kernel_rfl) (hs_parse_parser_values t6.2 ([93] : List UInt8) _ hr_t7 b0) ?_; clear hk
                      rintro _ _ ⟨vE1, rfl, rfl⟩ w hk
                      exact FW.fpan (P := Go.Proofs.Try.prog) (fn := Go.Proofs.Try.f143) (I1 := [FW.blk b0 87 ([.row (r_ApiWord_cells vE1.l), .lit (.int .i64 vE1.i), .lit (.int .i64 vE1.deep), .lit (.int .i64 vE1.steps)])]) (I2 := [FW.blk bx2 66 ((ApiWord.cells (List.getD v0.l (Int.toNat v0.i) default))), FW.blk bx1 33 ((ApiValue.cells (⟨0, false, 0, 0, [], []⟩ : ApiValue)))]) (js := [0]) hk rfl ⟨_, rfl, vE1, rfl, rfl⟩
                    refine FW.l_callH (I1 := (OParseParser.items b0 t6.2)) (I2 := [FW.blk bx2 66 ((ApiWord.cells (List.getD v0.l (Int.toNat v0.i) default))), FW.blk bx1 33 ((ApiValue.cells (⟨0, false, 0, 0, [], []⟩ : ApiValue)))]) (js := [0]) hk rfl rfl rfl rfl rfl Go.Proofs.Try.func158 rfl (by kernel_rfl) (FW.OkX.toH (hs_parse_parser_values t6.2 ([93] : List UInt8) _ hr_t7 b0)) ?_; clear hk
                    rintro _ _ ⟨rfl, rfl⟩ a w hk
                    obtain ⟨t8, hr_t8, h⟩ := FW.bnd h
                    refine FW.lfun (y := .agg ((ApiValue.cells t8))) hk rfl rfl rfl rfl (FW.f_call hk (FW.holds_nil _) rfl rfl Go.Proofs.Try.func157 rfl (by kernel_rfl) (val_List.ok t7.1 _ hr_t8)) ?_; clear hk; intro a w hk
                    refine FW.l_store (I' := [FW.blk b0 87 ([.row (r_ApiWord_cells t7.2.l), .lit (.int .i64 t7.2.i), .lit (.int .i64 t7.2.deep), .lit (.int .i64 t7.2.steps)]), FW.blk bx2 66 ((ApiWord.cells (List.getD v0.l (Int.toNat v0.i) default))), FW.blk bx1 33 ((ApiValue.cells t8))]) (cs' := (ApiValue.cells t8)) (j := 2) hk rfl rfl rfl rfl rfl (by kernel_rfl) rfl rfl ?_; clear hk; intro w hk
                    refine FW.lfun (y := .lit (.bool true)) hk rfl rfl rfl rfl (FW.f_assign hk (FW.holds_nil _) rfl) ?_; clear hk; intro a w hk
                    refine FW.lend (hK20 _ _ ?_); clear hK20 K'
                    refine wp_ret ?_
                    (repeat first | refine FW.then_ret ?_ | refine FW.block_ret ?_)
                    obtain rfl := Option.some.inj h
                    have hr_0 := FW.rres_keep (I1 := [FW.blk b0 87 ([.row (r_ApiWord_cells t7.2.l), .lit (.int .i64 t7.2.i), .lit (.int .i64 t7.2.deep), .lit (.int .i64 t7.2.steps)])]) (I2 := [FW.blk bx2 66 ((ApiWord.cells (List.getD v0.l (Int.toNat v0.i) default))), FW.blk bx1 33 ((ApiValue.cells t8))]) (js := [0]) rfl (FW.rcell (tt := 2) hk rfl (j := 2) rfl Go.Proofs.Try.underlying33 rfl (by kernel_rfl))
                    replace hk := FW.S.keep (I1 := [FW.blk b0 87 ([.row (r_ApiWord_cells t7.2.l), .lit (.int .i64 t7.2.i), .lit (.int .i64 t7.2.deep), .lit (.int .i64 t7.2.steps)])]) (I2 := [FW.blk bx2 66 ((ApiWord.cells (List.getD v0.l (Int.toNat v0.i) default))), FW.blk bx1 33 ((ApiValue.cells t8))]) (js := [0]) hk rfl
                    exact FW.toXq (FW.fretH2 hk rfl hr_0 (FW.rtmp hk rfl) ⟨rfl, rfl⟩)
                  · skip
                    refine wp_skip ?_
                    (repeat first | refine FW.then_normal ?_ | refine FW.block_normal ?_); refine hK3 _ _ ?_
                    refine FW.wreg ?_; intro K' hK21
                    refine FW.lfun (y := .agg ((ApiValue.cells (⟨0, false, 0, 0, [], []⟩ : ApiValue)))) hk rfl rfl rfl rfl (FW.f_buildN [] hk (FW.holds_nil _) rfl rfl rfl) ?_; clear hk; intro a w hk
                    refine FW.l_store (I' := [FW.blk b0 87 ([.row (r_ApiWord_cells t6.2.l), .lit (.int .i64 t6.2.i), .lit (.int .i64 t6.2.deep), .lit (.int .i64 t6.2.steps)]), FW.blk bx2 66 ((ApiWord.cells (List.getD v0.l (Int.toNat v0.i) default))), FW.blk bx1 33 ((ApiValue.cells (⟨0, false, 0, 0, [], []⟩ : ApiValue)))]) (cs' := (ApiValue.cells (⟨0, false, 0, 0, [], []⟩ : ApiValue))) (j := 2) hk rfl rfl rfl rfl rfl (by kernel_rfl) rfl rfl ?_; clear hk; intro w hk
                    refine FW.lfun (y := .lit (.bool false)) hk rfl rfl rfl rfl (FW.f_assign hk (FW.holds_nil _) rfl) ?_; clear hk; intro a w hk
                    refine FW.lend (hK21 _ _ ?_); clear hK21 K'
                    refine wp_ret ?_
                    (repeat first | refine FW.then_ret ?_ | refine FW.block_ret ?_)
                    obtain rfl := Option.some.inj h
                    have hr_0 := FW.rres_keep (I1 := [FW.blk b0 87 ([.row (r_ApiWord_cells t6.2.l), .lit (.int .i64 t6.2.i), .lit (.int .i64 t6.2.deep), .lit (.int .i64 t6.2.steps)])]) (I2 := [FW.blk bx2 66 ((ApiWord.cells (List.getD v0.l (Int.toNat v0.i) default))), FW.blk bx1 33 ((ApiValue.cells (⟨0, false, 0, 0, [], []⟩ : ApiValue)))]) (js := [0]) rfl (FW.rcell (tt := 2) hk rfl (j := 2) rfl Go.Proofs.Try.underlying33 rfl (by kernel_rfl))
                    replace hk := FW.S.keep (I1 := [FW.blk b0 87 ([.row (r_ApiWord_cells t6.2.l), .lit (.int .i64 t6.2.i), .lit (.int .i64 t6.2.deep), .lit (.int .i64 t6.2.steps)])]) (I2 := [FW.blk bx2 66 ((ApiWord.cells (List.getD v0.l (Int.toNat v0.i) default))), FW.blk bx1 33 ((ApiValue.cells (⟨0, false, 0, 0, [], []⟩ : ApiValue)))]) (js := [0]) hk rfl
                    exact FW.toXq (FW.fretH2 hk rfl hr_0 (FW.rtmp hk rfl) ⟨rfl, rfl⟩)
theorem parse_parser_values.bok (s_parse_parser_value : OParseParser → Option (Except (Int × Int) (ApiValue × Bool × OParseParser))) (s_parse_parser_values : OParseParser → List UInt8 → Option (Except (Int × Int) (List ApiValue × OParseParser))) (hs_parse_parser_value : ∀ (v0 : OParseParser) (r : Except (Int × Int) (ApiValue × Bool × OParseParser)), s_parse_parser_value v0 = some r → ∀ (b0 : Nat), FW.OkX Go.Proofs.Try.prog 143 [.lit (.pointer (some ⟨b0, 0, none⟩))] (OParseParser.items b0 v0) (FW.qX r (fun rr => fun y I => y = .tup [.agg (ApiValue.cells rr.1), .lit (.bool rr.2.1)] ∧ I = OParseParser.items b0 rr.2.2) (fun e pv I => ∃ (o0 : OParseParser), pv = FW.faultV 115 e ∧ I = OParseParser.items b0 o0))) (hs_parse_parser_values : ∀ (v0 : OParseParser) (v1 : List UInt8) (r : Except (Int × Int) (List ApiValue × OParseParser)), s_parse_parser_values v0 v1 = some r → ∀ (b0 : Nat), FW.OkX Go.Proofs.Try.prog 158 [.lit (.pointer (some ⟨b0, 0, none⟩)), .lit (.string (FW.B v1))] (OParseParser.items b0 v0) (FW.qX r (fun rr => fun y I => y = .row (r_ApiValue_cells rr.1) ∧ I = OParseParser.items b0 rr.2) (fun e pv I => ∃ (o0 : OParseParser), pv = FW.faultV 115 e ∧ I = OParseParser.items b0 o0))) (K : Nat) (v0 : OParseParser) (v1 : List UInt8) (r : Except (Int × Int) (List ApiValue × OParseParser)) (h : parse_parser_values.b s_parse_parser_value s_parse_parser_values K v0 v1 = some r) :
    ∀ (b0 : Nat), FW.OkX Go.Proofs.Try.prog 158 [.lit (.pointer (some ⟨b0, 0, none⟩)), .lit (.string (FW.B v1))] (OParseParser.items b0 v0) (FW.qX r (fun rr => fun y I => y = .row (r_ApiValue_cells rr.1) ∧ I = OParseParser.items b0 rr.2) (fun e pv I => ∃ (o0 : OParseParser), pv = FW.faultV 115 e ∧ I = OParseParser.items b0 o0)) := by
  intro b0
  refine FW.enterD (xs := [.lit (.pointer (some ⟨b0, 0, none⟩)), .lit (.string (FW.B v1))]) Go.Proofs.Try.func158 rfl Go.Proofs.Try.ntmps158 rfl ?_
  intro M w0 a hk
  replace hk : FW.S M w0 a w0.toWorld 38 [FW.blk b0 87 ([.row (r_ApiWord_cells v0.l), .lit (.int .i64 v0.i), .lit (.int .i64 v0.deep), .lit (.int .i64 v0.steps)])] [(0, [], .lit (.pointer (some ⟨b0, 0, none⟩))), (1, [], .lit (.string (FW.B v1)))] := hk
  unfold parse_parser_values.b at h
  replace hk := hk.box0 (t := 84) (b0 := b0) (F := 160)
  refine FW.wreg ?_; intro K' hK1
  refine FW.lfun (y := .row (r_ApiValue_cells [])) hk rfl rfl rfl rfl (FW.f_assignNil) ?_; clear hk; intro a w hk
  refine FW.lend (hK1 _ _ ?_); clear hK1 K'
  refine FW.wreg ?_; intro K' hK2
  refine FW.lfun (y := .lit (.pointer (some ⟨b0, 0, none⟩))) hk rfl rfl rfl rfl (FW.f_move hk (FW.holds_nil _) rfl) ?_; clear hk; intro a w hk
  rcases FW.bndX h with ⟨e_t1, hr_t1, rfl⟩ | ⟨t1, hr_t1, h⟩
  · skip
    refine FW.l_callXE (I1 := (OParseParser.items b0 v0)) (I2 := [FW.boxesI 84 ([] : List Nat) b0 0]) (js := [1]) hk rfl rfl rfl Go.Proofs.Try.func159 rfl (by kernel_rfl) (parse_parser_into.ok v0 _ hr_t1 b0) ?_; clear hk
    rintro _ _ ⟨vE1, rfl, rfl⟩ w hk
    exact FW.leave_pan (P := Go.Proofs.Try.prog) (fn := Go.Proofs.Try.f158) (bs := ([] : List Nat)) (dn := 0) (x := vE1.deep) (I2 := []) (js := [0, 1]) (fun q => OParseParser.items b0 (⟨vE1.l, vE1.i, q, vE1.steps⟩ : OParseParser)) hk rfl Go.Proofs.Try.func160 rfl (by kernel_rfl) (fun x nb => parse_parser_into_1.ok (⟨⟩ : OVarPParseParser) (⟨vE1.l, vE1.i, x, vE1.steps⟩ : OParseParser) _ rfl nb b0) ⟨_, rfl, _, rfl, rfl⟩
  refine FW.l_callH (I1 := (OParseParser.items b0 v0)) (I2 := [FW.boxesI 84 ([] : List Nat) b0 0]) (js := [1]) hk rfl rfl rfl rfl rfl Go.Proofs.Try.func159 rfl (by kernel_rfl) (FW.OkX.toH (parse_parser_into.ok v0 _ hr_t1 b0)) ?_; clear hk
  rintro _ _ ⟨bx1, rfl, rfl⟩ a w hk
  refine FW.l_defer (t := 84) (nb := bx1) (b0 := b0) (dn := 0) (bs := ([] : List Nat)) (F := 160) (I2 := [FW.blk b0 87 ([.row (r_ApiWord_cells t1.l), .lit (.int .i64 t1.i), .lit (.int .i64 t1.deep), .lit (.int .i64 t1.steps)])]) (js := [2, 1]) hk rfl rfl ?_; clear hk; intro a hk
  refine FW.lend (hK2 _ _ ?_); clear hK2 K'
  refine FW.wreg ?_; intro K' hK3
  refine FW.lfun (y := .lit (.slice none 0 0)) hk rfl rfl rfl rfl (FW.f_assign hk (FW.holds_nil _) rfl) ?_; clear hk; intro a w hk
  replace hk := hk.nilRow 33 6 ApiValue.cells (fun _ => rfl)
  refine FW.lend (hK3 _ _ ?_); clear hK3 K'
  refine FW.wseq ?_; intro K' hK4
  refine wp_block ?_
  refine FW.wloop (T := Nat × List ApiValue × Nat × List ApiWord × Int × Int × Int × List UInt8 × Option Addr × Nat × List Nat) (fun x a w => match x with | (kl1, l4, dn2, y1_0, y1_1, y1_2, y1_3, v1, xd4, xc4, xb2) => FW.S M w0 a w 38 [FW.orow xd4 xc4 33 6 ApiValue.cells l4, FW.boxesI 84 xb2 b0 dn2, FW.blk b0 87 ([.row (r_ApiWord_cells y1_0), .lit (.int .i64 y1_1), .lit (.int .i64 y1_2), .lit (.int .i64 y1_3)])] [(0, [], .lit (.pointer (some ⟨b0, 0, none⟩))), (1, [], .lit (.string (FW.B v1))), (5, [], .lit (.slice xd4 (List.length l4) xc4))] (List.map (FW.dfI 160) xb2) ∧ parse_parser_values.l1 s_parse_parser_value s_parse_parser_values K kl1 l4 dn2 y1_0 y1_1 y1_2 y1_3 v1 = some r) (fun x => x.1) (K, ([] : List ApiValue), 1, t1.l, t1.i, t1.deep, t1.steps, v1, none, 0, (bx1 :: ([] : List Nat))) ⟨hk.sub ⟨rfl, rfl, rfl, trivial⟩, h⟩ ?_
  clear hk h
  rintro ⟨kl1, l4, dn2, y1_0, y1_1, y1_2, y1_3, v1, xd4, xc4, xb2⟩ a w ⟨hk, h⟩ K' hK5
  cases kl1 with
  | zero => simp [parse_parser_values.l1] at h
  | succ kl1 =>
  rw [parse_parser_values.l1.eq_2] at h
  refine FW.wseq ?_; intro K' hK6
  refine FW.wreg ?_; intro K' hK7
  refine FW.lfun (y := .lit (.pointer (some ⟨b0, 0, none⟩))) hk rfl rfl rfl rfl (FW.f_move hk (FW.holds_nil _) rfl) ?_; clear hk; intro a w hk
  refine FW.lfun (y := .lit (.string (FW.B v1))) hk rfl rfl rfl rfl (FW.f_move hk (FW.holds_nil _) rfl) ?_; clear hk; intro a w hk
  obtain ⟨t2, hr_t2, h⟩ := FW.bnd h
  refine FW.l_callH (I1 := (OParseParser.items b0 (⟨y1_0, y1_1, y1_2, y1_3⟩ : OParseParser))) (I2 := [FW.orow xd4 xc4 33 6 ApiValue.cells l4, FW.boxesI 84 xb2 b0 dn2]) (js := [2]) hk rfl rfl rfl rfl rfl Go.Proofs.Try.func92 rfl (by kernel_rfl) (parse_parser_sign.ok (⟨y1_0, y1_1, y1_2, y1_3⟩ : OParseParser) v1 _ hr_t2 b0) ?_; clear hk
  rintro _ _ ⟨rfl, rfl⟩ a w hk
  refine FW.lfun (y := .lit (.bool (!t2.1))) hk rfl rfl rfl rfl ((FW.f_pure (FW.p_not hk.kn (FW.holds_nil _) rfl))) ?_; clear hk; intro a w hk
  refine FW.lend (hK7 _ _ ?_); clear hK7 K'
  refine FW.wcondF (b := (!t2.1)) hk h rfl (fun h hb => ?_) (fun h hb => ?_)
  · skip
    refine wp_skip ?_
    (repeat first | refine FW.then_normal ?_ | refine FW.block_normal ?_); refine hK6 _ _ ?_
    refine wp_block ?_
    refine FW.wseqJ (fun a w => ∃ (y1_0 : List ApiWord) (y1_1 : Int) (y1_2 : Int) (y1_3 : Int) (l4 : List ApiValue) (dn2 : Nat) (v1 : List UInt8) (xd4 : Option Addr) (xc4 : Nat) (xb2 : List Nat), FW.S M w0 a w 38 [FW.blk b0 87 ([.row (r_ApiWord_cells y1_0), .lit (.int .i64 y1_1), .lit (.int .i64 y1_2), .lit (.int .i64 y1_3)]), FW.orow xd4 xc4 33 6 ApiValue.cells l4, FW.boxesI 84 xb2 b0 dn2] [(0, [], .lit (.pointer (some ⟨b0, 0, none⟩))), (1, [], .lit (.string (FW.B v1))), (5, [], .lit (.slice xd4 (List.length l4) xc4))] (List.map (FW.dfI 160) xb2) ∧ parse_parser_values.j1 s_parse_parser_value s_parse_parser_values (parse_parser_values.l1 s_parse_parser_value s_parse_parser_values K kl1) K y1_0 y1_1 y1_2 y1_3 l4 dn2 v1 = some r) ?_ ?_
    · clear hk h
      rintro a w ⟨y1_0, y1_1, y1_2, y1_3, l4, dn2, v1, xd4, xc4, xb2, hk, h⟩
      unfold parse_parser_values.j1 at h
      refine FW.wseqJ (fun a w => ∃ (y1_0 : List ApiWord) (y1_1 : Int) (y1_2 : Int) (y1_3 : Int) (l4 : List ApiValue) (dn2 : Nat) (v1 : List UInt8) (xd4 : Option Addr) (xc4 : Nat) (xb2 : List Nat), FW.S M w0 a w 38 [FW.blk b0 87 ([.row (r_ApiWord_cells y1_0), .lit (.int .i64 y1_1), .lit (.int .i64 y1_2), .lit (.int .i64 y1_3)]), FW.orow xd4 xc4 33 6 ApiValue.cells l4, FW.boxesI 84 xb2 b0 dn2] [(0, [], .lit (.pointer (some ⟨b0, 0, none⟩))), (1, [], .lit (.string (FW.B v1))), (5, [], .lit (.slice xd4 (List.length l4) xc4))] (List.map (FW.dfI 160) xb2) ∧ parse_parser_values.j2 s_parse_parser_value s_parse_parser_values (parse_parser_values.l1 s_parse_parser_value s_parse_parser_values K kl1) K y1_0 y1_1 y1_2 y1_3 l4 dn2 v1 = some r) ?_ ?_
      · clear hk h
        rintro a w ⟨y1_0, y1_1, y1_2, y1_3, l4, dn2, v1, xd4, xc4, xb2, hk, h⟩
        unfold parse_parser_values.j2 at h
        refine FW.wreg ?_; intro K' hK10
        refine FW.lfun (y := .lit (.pointer (some ⟨b0, 0, none⟩))) hk rfl rfl rfl rfl (FW.f_move hk (FW.holds_nil _) rfl) ?_; clear hk; intro a w hk
        rcases FW.bndX h with ⟨e_t3, hr_t3, rfl⟩ | ⟨t3, hr_t3, h⟩
        · skip
          refine FW.l_callXE (I1 := (OParseParser.items b0 (⟨y1_0, y1_1, y1_2, y1_3⟩ : OParseParser))) (I2 := [FW.orow xd4 xc4 33 6 ApiValue.cells l4, FW.boxesI 84 xb2 b0 dn2]) (js := [0]) hk rfl rfl rfl Go.Proofs.Try.func143 rfl (by kernel_rfl) (hs_parse_parser_value (⟨y1_0, y1_1, y1_2, y1_3⟩ : OParseParser) _ hr_t3 b0) ?_; clear hk
          rintro _ _ ⟨vE2, rfl, rfl⟩ w hk
          exact FW.leave_pan (P := Go.Proofs.Try.prog) (fn := Go.Proofs.Try.f158) (bs := xb2) (dn := dn2) (x := vE2.deep) (I2 := [FW.orow xd4 xc4 33 6 ApiValue.cells l4]) (js := [0, 2]) (fun q => OParseParser.items b0 (⟨vE2.l, vE2.i, q, vE2.steps⟩ : OParseParser)) hk rfl Go.Proofs.Try.func160 rfl (by kernel_rfl) (fun x nb => parse_parser_into_1.ok (⟨⟩ : OVarPParseParser) (⟨vE2.l, vE2.i, x, vE2.steps⟩ : OParseParser) _ rfl nb b0) ⟨_, rfl, _, rfl, rfl⟩
        refine FW.l_callH (I1 := (OParseParser.items b0 (⟨y1_0, y1_1, y1_2, y1_3⟩ : OParseParser))) (I2 := [FW.orow xd4 xc4 33 6 ApiValue.cells l4, FW.boxesI 84 xb2 b0 dn2]) (js := [0]) hk rfl rfl rfl rfl rfl Go.Proofs.Try.func143 rfl (by kernel_rfl) (FW.OkX.toH (hs_parse_parser_value (⟨y1_0, y1_1, y1_2, y1_3⟩ : OParseParser) _ hr_t3 b0)) ?_; clear hk
        rintro _ _ ⟨rfl, rfl⟩ a w hk
        refine FW.lfun (y := .tup [.agg ((ApiValue.cells t3.1)), .lit (.bool t3.2.1)]) hk rfl rfl rfl rfl (FW.f_move hk (FW.holds_nil _) rfl) ?_; clear hk; intro a w hk
        refine FW.lfun (y := .agg ((ApiValue.cells t3.1))) hk rfl rfl rfl rfl (FW.f_extract hk (FW.holds_nil _) rfl rfl) ?_; clear hk; intro a w hk
        refine FW.lfun (y := .lit (.bool t3.2.1)) hk rfl rfl rfl rfl (FW.f_extract hk (FW.holds_nil _) rfl rfl) ?_; clear hk; intro a w hk
        refine FW.l_alloc (zs := (ApiValue.cells (⟨0, false, 0, 0, [], []⟩ : ApiValue))) [] hk rfl rfl rfl rfl ?_; clear hk; intro bx2 a w hk
        refine FW.l_store (I' := [FW.blk bx2 33 ((ApiValue.cells t3.1)), FW.blk b0 87 ([.row (r_ApiWord_cells t3.2.2.l), .lit (.int .i64 t3.2.2.i), .lit (.int .i64 t3.2.2.deep), .lit (.int .i64 t3.2.2.steps)]), FW.orow xd4 xc4 33 6 ApiValue.cells l4, FW.boxesI 84 xb2 b0 dn2]) (cs' := (ApiValue.cells t3.1)) (j := 0) hk rfl rfl rfl rfl rfl (by kernel_rfl) rfl rfl ?_; clear hk; intro w hk
        refine FW.lfun (y := .lit (.bool t3.2.1)) hk rfl rfl rfl rfl (FW.f_assign hk (FW.holds_nil _) rfl) ?_; clear hk; intro a w hk
        refine FW.lend (hK10 _ _ ?_); clear hK10 K'
        refine FW.wseqJ (fun a w => ∃ (y1_0 : List ApiWord) (y1_1 : Int) (y1_2 : Int) (y1_3 : Int) (y5 : ApiValue) (l4 : List ApiValue) (dn2 : Nat) (v1 : List UInt8) (xd4 : Option Addr) (xc4 : Nat) (xb2 : List Nat), FW.S M w0 a w 38 [FW.blk b0 87 ([.row (r_ApiWord_cells y1_0), .lit (.int .i64 y1_1), .lit (.int .i64 y1_2), .lit (.int .i64 y1_3)]), FW.blk bx2 33 ((ApiValue.cells y5)), FW.orow xd4 xc4 33 6 ApiValue.cells l4, FW.boxesI 84 xb2 b0 dn2] [(0, [], .lit (.pointer (some ⟨b0, 0, none⟩))), (1, [], .lit (.string (FW.B v1))), (5, [], .lit (.slice xd4 (List.length l4) xc4)), (6, [], .lit (.pointer (some ⟨bx2, 0, none⟩)))] (List.map (FW.dfI 160) xb2) ∧ parse_parser_values.j3 s_parse_parser_value s_parse_parser_values (parse_parser_values.l1 s_parse_parser_value s_parse_parser_values K kl1) K y1_0 y1_1 y1_2 y1_3 y5 l4 dn2 v1 = some r) ?_ ?_
        · clear hk h
          rintro a w ⟨y1_0, y1_1, y1_2, y1_3, y5, l4, dn2, v1, xd4, xc4, xb2, hk, h⟩
          unfold parse_parser_values.j3 at h
          refine FW.wreg1 ?_
          refine FW.lfun (y := .lit (.slice xd4 (List.length l4) xc4)) hk rfl rfl rfl rfl (FW.f_move hk (FW.holds_nil _) rfl) ?_; clear hk; intro a w hk
          refine FW.lfun (y := .agg ((ApiValue.cells y5))) hk rfl rfl rfl rfl (FW.f_loadBlk hk (FW.holds_nil _) (j := 1) rfl rfl Go.Proofs.Try.underlying33 rfl rfl rfl rfl) ?_; clear hk; intro a w hk
          refine FW.l_buildSlice (f := ApiValue.cells) (l := ([y5] : List ApiValue)) hk rfl rfl rfl Go.Proofs.Try.underlying31 rfl rfl rfl rfl (fun _ => rfl) rfl ?_; clear hk; intro bx3 a w hk
          obtain ⟨hc1, h⟩ := FW.chk h
          refine FW.l_append (l2 := ([y5] : List ApiValue)) (l3 := (l4 ++ ([y5] : List ApiValue))) (I' := fun ad1 cap1 => [FW.orow (some ⟨bx3, 0, none⟩) 1 33 6 ApiValue.cells ([y5] : List ApiValue), FW.blk b0 87 ([.row (r_ApiWord_cells y1_0), .lit (.int .i64 y1_1), .lit (.int .i64 y1_2), .lit (.int .i64 y1_3)]), FW.blk bx2 33 ((ApiValue.cells y5)), FW.orow ad1 cap1 33 6 ApiValue.cells (l4 ++ ([y5] : List ApiValue)), FW.boxesI 84 xb2 b0 dn2]) (j := 3) hk rfl rfl rfl rfl (FW.own_src hk (j := 0) rfl rfl (fun _ => rfl) Go.Proofs.Try.underlying31) Go.Proofs.Try.underlying31 (by kernel_rfl) hc1 rfl (fun _ _ => rfl) ?_; clear hk; intro ad1 cap1 a w hk
          replace hk := FW.S.dropI (I' := [FW.blk b0 87 ([.row (r_ApiWord_cells y1_0), .lit (.int .i64 y1_1), .lit (.int .i64 y1_2), .lit (.int .i64 y1_3)]), FW.blk bx2 33 ((ApiValue.cells y5)), FW.orow ad1 cap1 33 6 ApiValue.cells (l4 ++ ([y5] : List ApiValue)), FW.boxesI 84 xb2 b0 dn2]) hk 0 rfl
          refine FW.lfun (y := .lit (.slice ad1 (List.length (l4 ++ ([y5] : List ApiValue))) cap1)) hk rfl rfl rfl rfl (FW.f_assign hk (FW.holds_nil _) rfl) ?_; clear hk; intro a w hk
          refine wpList_nil ?_
          (repeat first | refine FW.then_normal ?_ | refine FW.block_normal ?_); exact hK5 (kl1, (l4 ++ ([y5] : List ApiValue)), dn2, y1_0, y1_1, y1_2, y1_3, v1, ad1, cap1, xb2) _ _ (Nat.lt_succ_self _) ⟨(FW.S.pick (hk.drop 1) (js := [0, 2, 2]) rfl).sub ⟨rfl, rfl, rfl, trivial⟩, h⟩
        · intro K' hK11
          refine FW.wreg ?_; intro K' hK13
          refine FW.lfun (y := .lit (.bool t3.2.1)) hk rfl rfl rfl rfl (FW.f_move hk (FW.holds_nil _) rfl) ?_; clear hk; intro a w hk
          refine FW.lfun (y := .lit (.bool (!t3.2.1))) hk rfl rfl rfl rfl ((FW.f_pure (FW.p_not hk.kn (FW.holds_nil _) rfl))) ?_; clear hk; intro a w hk
          refine FW.lend (hK13 _ _ ?_); clear hK13 K'
          refine FW.wcondF (b := (!t3.2.1)) hk h rfl (fun h hb => ?_) (fun h hb => ?_)
          · skip
            refine FW.wreg1 ?_
            refine FW.lfun (y := .lit (.pointer (some ⟨b0, 0, none⟩))) hk rfl rfl rfl rfl (FW.f_move hk (FW.holds_nil _) rfl) ?_; clear hk; intro a w hk
            rcases FW.bndX h with ⟨e_t4, hr_t4, rfl⟩ | ⟨t4, hr_t4, h⟩
            · skip
              refine FW.l_callXE (I1 := (OParseParser.items b0 t3.2.2)) (I2 := [FW.blk bx2 33 ((ApiValue.cells t3.1)), FW.orow xd4 xc4 33 6 ApiValue.cells l4, FW.boxesI 84 xb2 b0 dn2]) (js := [1]) hk rfl rfl rfl Go.Proofs.Try.func65 rfl (by kernel_rfl) (parse_parser_stop.ok t3.2.2 120 _ hr_t4 b0) ?_; clear hk
              rintro _ _ ⟨vE3, rfl, rfl⟩ w hk
              exact FW.leave_pan (P := Go.Proofs.Try.prog) (fn := Go.Proofs.Try.f158) (bs := xb2) (dn := dn2) (x := vE3.deep) (I2 := [FW.blk bx2 33 ((ApiValue.cells t3.1)), FW.orow xd4 xc4 33 6 ApiValue.cells l4]) (js := [0, 3]) (fun q => OParseParser.items b0 (⟨vE3.l, vE3.i, q, vE3.steps⟩ : OParseParser)) hk rfl Go.Proofs.Try.func160 rfl (by kernel_rfl) (fun x nb => parse_parser_into_1.ok (⟨⟩ : OVarPParseParser) (⟨vE3.l, vE3.i, x, vE3.steps⟩ : OParseParser) _ rfl nb b0) ⟨_, rfl, _, rfl, rfl⟩
            refine FW.l_callH (I1 := (OParseParser.items b0 t3.2.2)) (I2 := [FW.blk bx2 33 ((ApiValue.cells t3.1)), FW.orow xd4 xc4 33 6 ApiValue.cells l4, FW.boxesI 84 xb2 b0 dn2]) (js := [1]) hk rfl rfl rfl rfl rfl Go.Proofs.Try.func65 rfl (by kernel_rfl) (FW.OkX.toH (parse_parser_stop.ok t3.2.2 120 _ hr_t4 b0)) ?_; clear hk
            rintro _ _ ⟨rfl, rfl⟩ a w hk
            refine wpList_nil ?_
            (repeat first | refine FW.then_normal ?_ | refine FW.block_normal ?_); exact hK11 _ _ ⟨t4.l, t4.i, t4.deep, t4.steps, t3.1, l4, dn2, v1, xd4, xc4, xb2, hk.sub ⟨rfl, rfl, rfl, rfl, trivial⟩, h⟩
          · skip
            refine wp_skip ?_
            (repeat first | refine FW.then_normal ?_ | refine FW.block_normal ?_); exact hK11 _ _ ⟨t3.2.2.l, t3.2.2.i, t3.2.2.deep, t3.2.2.steps, t3.1, l4, dn2, v1, xd4, xc4, xb2, (FW.S.pick hk (js := [3, 3, 2, 3]) rfl).sub ⟨rfl, rfl, rfl, rfl, trivial⟩, h⟩
      · intro K' hK9
        refine FW.wreg ?_; intro K' hK15
        refine FW.lfun (y := .lit (.slice xd4 (List.length l4) xc4)) hk rfl rfl rfl rfl (FW.f_move hk (FW.holds_nil _) rfl) ?_; clear hk; intro a w hk
        refine FW.lfun (y := .lit (.int .i64 (List.length l4 : Int))) hk rfl rfl rfl rfl ((FW.f_pure (FW.p_len Go.Proofs.Try.underlying31 hk.kn (FW.holds_nil _) rfl))) ?_; clear hk; intro a w hk
        refine FW.lfun (y := .lit (.bool (decide (12 ≤ (List.length l4 : Int))))) hk rfl rfl rfl rfl ((FW.f_pure (FW.p_geq hk.kn (FW.holds_nil _) rfl rfl))) ?_; clear hk; intro a w hk
        refine FW.lend (hK15 _ _ ?_); clear hK15 K'
        refine FW.wcondF (b := (decide (12 ≤ (List.length l4 : Int)))) hk h rfl (fun h hb => ?_) (fun h hb => ?_)
        · skip
          refine FW.wreg1 ?_
          refine FW.lfun (y := .lit (.pointer (some ⟨b0, 0, none⟩))) hk rfl rfl rfl rfl (FW.f_move hk (FW.holds_nil _) rfl) ?_; clear hk; intro a w hk
          rcases FW.bndX h with ⟨e_t5, hr_t5, rfl⟩ | ⟨t5, hr_t5, h⟩
          · skip
            refine FW.l_callXE (I1 := (OParseParser.items b0 (⟨y1_0, y1_1, y1_2, y1_3⟩ : OParseParser))) (I2 := [FW.orow xd4 xc4 33 6 ApiValue.cells l4, FW.boxesI 84 xb2 b0 dn2]) (js := [0]) hk rfl rfl rfl Go.Proofs.Try.func65 rfl (by kernel_rfl) (parse_parser_stop.ok (⟨y1_0, y1_1, y1_2, y1_3⟩ : OParseParser) 3 _ hr_t5 b0) ?_; clear hk
            rintro _ _ ⟨vE4, rfl, rfl⟩ w hk
            exact FW.leave_pan (P := Go.Proofs.Try.prog) (fn := Go.Proofs.Try.f158) (bs := xb2) (dn := dn2) (x := vE4.deep) (I2 := [FW.orow xd4 xc4 33 6 ApiValue.cells l4]) (js := [0, 2]) (fun q => OParseParser.items b0 (⟨vE4.l, vE4.i, q, vE4.steps⟩ : OParseParser)) hk rfl Go.Proofs.Try.func160 rfl (by kernel_rfl) (fun x nb => parse_parser_into_1.ok (⟨⟩ : OVarPParseParser) (⟨vE4.l, vE4.i, x, vE4.steps⟩ : OParseParser) _ rfl nb b0) ⟨_, rfl, _, rfl, rfl⟩
          refine FW.l_callH (I1 := (OParseParser.items b0 (⟨y1_0, y1_1, y1_2, y1_3⟩ : OParseParser))) (I2 := [FW.orow xd4 xc4 33 6 ApiValue.cells l4, FW.boxesI 84 xb2 b0 dn2]) (js := [0]) hk rfl rfl rfl rfl rfl Go.Proofs.Try.func65 rfl (by kernel_rfl) (FW.OkX.toH (parse_parser_stop.ok (⟨y1_0, y1_1, y1_2, y1_3⟩ : OParseParser) 3 _ hr_t5 b0)) ?_; clear hk
          rintro _ _ ⟨rfl, rfl⟩ a w hk
          refine wpList_nil ?_
          (repeat first | refine FW.then_normal ?_ | refine FW.block_normal ?_); exact hK9 _ _ ⟨t5.l, t5.i, t5.deep, t5.steps, l4, dn2, v1, xd4, xc4, xb2, hk.sub ⟨rfl, rfl, rfl, trivial⟩, h⟩
        · skip
          refine wp_skip ?_
          (repeat first | refine FW.then_normal ?_ | refine FW.block_normal ?_); exact hK9 _ _ ⟨y1_0, y1_1, y1_2, y1_3, l4, dn2, v1, xd4, xc4, xb2, hk.sub ⟨rfl, rfl, rfl, trivial⟩, h⟩
    · intro K' hK8
      refine FW.wreg ?_; intro K' hK17
      refine FW.lfun (y := .lit (.slice xd4 (List.length l4) xc4)) hk rfl rfl rfl rfl (FW.f_move hk (FW.holds_nil _) rfl) ?_; clear hk; intro a w hk
      refine FW.lfun (y := .lit (.int .i64 (List.length l4 : Int))) hk rfl rfl rfl rfl ((FW.f_pure (FW.p_len Go.Proofs.Try.underlying31 hk.kn (FW.holds_nil _) rfl))) ?_; clear hk; intro a w hk
      refine FW.lfun (y := .lit (.bool (decide (0 < (List.length l4 : Int))))) hk rfl rfl rfl rfl ((FW.f_pure (FW.p_gtr hk.kn (FW.holds_nil _) rfl rfl))) ?_; clear hk; intro a w hk
      refine FW.lend (hK17 _ _ ?_); clear hK17 K'
      refine FW.wcondF (b := (decide (0 < (List.length l4 : Int)))) hk h rfl (fun h hb => ?_) (fun h hb => ?_)
      · skip
        refine FW.wreg1 ?_
        refine FW.lfun (y := .lit (.pointer (some ⟨b0, 0, none⟩))) hk rfl rfl rfl rfl (FW.f_move hk (FW.holds_nil _) rfl) ?_; clear hk; intro a w hk
        rcases FW.bndX h with ⟨e_t6, hr_t6, rfl⟩ | ⟨t6, hr_t6, h⟩
        · skip
          refine FW.l_callXE (I1 := (OParseParser.items b0 t2.2)) (I2 := [FW.orow xd4 xc4 33 6 ApiValue.cells l4, FW.boxesI 84 xb2 b0 dn2]) (js := [0]) hk rfl rfl rfl Go.Proofs.Try.func66 rfl (by kernel_rfl) (parse_parser_must.ok t2.2 ([44] : List UInt8) _ hr_t6 b0) ?_; clear hk
          rintro _ _ ⟨vE5, rfl, rfl⟩ w hk
          exact FW.leave_pan (P := Go.Proofs.Try.prog) (fn := Go.Proofs.Try.f158) (bs := xb2) (dn := dn2) (x := vE5.deep) (I2 := [FW.orow xd4 xc4 33 6 ApiValue.cells l4]) (js := [0, 2]) (fun q => OParseParser.items b0 (⟨vE5.l, vE5.i, q, vE5.steps⟩ : OParseParser)) hk rfl Go.Proofs.Try.func160 rfl (by kernel_rfl) (fun x nb => parse_parser_into_1.ok (⟨⟩ : OVarPParseParser) (⟨vE5.l, vE5.i, x, vE5.steps⟩ : OParseParser) _ rfl nb b0) ⟨_, rfl, _, rfl, rfl⟩
        refine FW.l_callH (I1 := (OParseParser.items b0 t2.2)) (I2 := [FW.orow xd4 xc4 33 6 ApiValue.cells l4, FW.boxesI 84 xb2 b0 dn2]) (js := [0]) hk rfl rfl rfl rfl rfl Go.Proofs.Try.func66 rfl (by kernel_rfl) (FW.OkX.toH (parse_parser_must.ok t2.2 ([44] : List UInt8) _ hr_t6 b0)) ?_; clear hk
        rintro _ _ ⟨rfl, rfl⟩ a w hk
        refine wpList_nil ?_
        (repeat first | refine FW.then_normal ?_ | refine FW.block_normal ?_); exact hK8 _ _ ⟨t6.l, t6.i, t6.deep, t6.steps, l4, dn2, v1, xd4, xc4, xb2, hk.sub ⟨rfl, rfl, rfl, trivial⟩, h⟩
      · skip
        refine wp_skip ?_
        (repeat first | refine FW.then_normal ?_ | refine FW.block_normal ?_); exact hK8 _ _ ⟨t2.2.l, t2.2.i, t2.2.deep, t2.2.steps, l4, dn2, v1, xd4, xc4, xb2, hk.sub ⟨rfl, rfl, rfl, trivial⟩, h⟩
  · skip
    refine wp_exit ?_; (repeat first | refine FW.then_exit ?_ | refine FW.block_exit_ne rfl ?_); refine FW.block_exit ?_
    (repeat first | refine FW.then_normal ?_ | refine FW.block_normal ?_); refine hK4 _ _ ?_
    refine FW.wreg ?_; intro K' hK19
    refine FW.lfun (y := .lit (.slice xd4 (List.length l4) xc4)) hk rfl rfl rfl rfl (FW.f_move hk (FW.holds_nil _) rfl) ?_; clear hk; intro a w hk
    refine FW.lfun (y := .lit (.slice xd4 (List.length l4) xc4)) hk rfl rfl rfl rfl (FW.f_assign hk (FW.holds_nil _) rfl) ?_; clear hk; intro a w hk
    refine FW.lend (hK19 _ _ ?_); clear hK19 K'
    refine wp_ret ?_
    (repeat first | refine FW.then_ret ?_ | refine FW.block_ret ?_)
    replace hk := FW.S.freezeR (I' := [FW.blk b0 87 ([.row (r_ApiWord_cells t2.2.l), .lit (.int .i64 t2.2.i), .lit (.int .i64 t2.2.deep), .lit (.int .i64 t2.2.steps)]), FW.boxesI 84 xb2 b0 dn2]) r_ApiValue_cells_eq hk (j := 1) rfl (t := 4) rfl rfl
    obtain rfl := Option.some.inj h
    refine FW.leave_retq (bs := xb2) (dn := dn2) (z := t2.2.deep) (I2 := []) (js := [0, 1]) (fun q => OParseParser.items b0 (⟨t2.2.l, t2.2.i, q, t2.2.steps⟩ : OParseParser)) hk rfl Go.Proofs.Try.func160 rfl (by kernel_rfl) (fun x nb => parse_parser_into_1.ok (⟨⟩ : OVarPParseParser) (⟨t2.2.l, t2.2.i, x, t2.2.steps⟩ : OParseParser) _ rfl nb b0) ?_; clear hk; intro a w hk
    replace hk := FW.S.keep (I1 := [FW.blk b0 87 ([.row (r_ApiWord_cells t2.2.l), .lit (.int .i64 t2.2.i), .lit (.int .i64 (FW.decrN dn2 t2.2.deep)), .lit (.int .i64 t2.2.steps)])]) (I2 := []) (js := [0]) hk rfl
    exact FW.fretH1 hk rfl (FW.rtmp hk rfl) ⟨rfl, rfl⟩
theorem parse_parser_value_knot : ∀ K : Nat, (∀ (v0 : OParseParser) (r : Except (Int × Int) (ApiValue × Bool × OParseParser)), parse_parser_value.f K v0 = some r → ∀ (b0 : Nat), FW.OkX Go.Proofs.Try.prog 143 [.lit (.pointer (some ⟨b0, 0, none⟩))] (OParseParser.items b0 v0) (FW.qX r (fun rr => fun y I => y = .tup [.agg (ApiValue.cells rr.1), .lit (.bool rr.2.1)] ∧ I = OParseParser.items b0 rr.2.2) (fun e pv I => ∃ (o0 : OParseParser), pv = FW.faultV 115 e ∧ I = OParseParser.items b0 o0))) ∧ (∀ (v0 : OParseParser) (v1 : List UInt8) (r : Except (Int × Int) (List ApiValue × OParseParser)), parse_parser_values.f K v0 v1 = some r → ∀ (b0 : Nat), FW.OkX Go.Proofs.Try.prog 158 [.lit (.pointer (some ⟨b0, 0, none⟩)), .lit (.string (FW.B v1))] (OParseParser.items b0 v0) (FW.qX r (fun rr => fun y I => y = .row (r_ApiValue_cells rr.1) ∧ I = OParseParser.items b0 rr.2) (fun e pv I => ∃ (o0 : OParseParser), pv = FW.faultV 115 e ∧ I = OParseParser.items b0 o0)))
  | 0 => ⟨fun v0 r h => by simp [parse_parser_value.f] at h, fun v0 v1 r h => by simp [parse_parser_values.f] at h⟩
  | K + 1 => ⟨fun v0 r h => by rw [parse_parser_value.f] at h; exact parse_parser_value.bok _ _ (parse_parser_value_knot K).1 (parse_parser_value_knot K).2 K v0 r h, fun v0 v1 r h => by rw [parse_parser_values.f] at h; exact parse_parser_values.bok _ _ (parse_parser_value_knot K).1 (parse_parser_value_knot K).2 K v0 v1 r h⟩
theorem parse_parser_value.ok (K : Nat) (v0 : OParseParser) (r : Except (Int × Int) (ApiValue × Bool × OParseParser)) (h : parse_parser_value.f K v0 = some r) : ∀ (b0 : Nat), FW.OkX Go.Proofs.Try.prog 143 [.lit (.pointer (some ⟨b0, 0, none⟩))] (OParseParser.items b0 v0) (FW.qX r (fun rr => fun y I => y = .tup [.agg (ApiValue.cells rr.1), .lit (.bool rr.2.1)] ∧ I = OParseParser.items b0 rr.2.2) (fun e pv I => ∃ (o0 : OParseParser), pv = FW.faultV 115 e ∧ I = OParseParser.items b0 o0)) := (parse_parser_value_knot K).1 v0 r h
theorem parse_parser_values.ok (K : Nat) (v0 : OParseParser) (v1 : List UInt8) (r : Except (Int × Int) (List ApiValue × OParseParser)) (h : parse_parser_values.f K v0 v1 = some r) : ∀ (b0 : Nat), FW.OkX Go.Proofs.Try.prog 158 [.lit (.pointer (some ⟨b0, 0, none⟩)), .lit (.string (FW.B v1))] (OParseParser.items b0 v0) (FW.qX r (fun rr => fun y I => y = .row (r_ApiValue_cells rr.1) ∧ I = OParseParser.items b0 rr.2) (fun e pv I => ∃ (o0 : OParseParser), pv = FW.faultV 115 e ∧ I = OParseParser.items b0 o0)) := (parse_parser_value_knot K).2 v0 v1 r h
end Go.Proofs.Ytbjbgodcenopnaa

/- Written by a program of this session (gen.py): the contracts of functions of the program. -/
import Derived.KernelRfl
import Derived.Test.YtbjbgodcenopnaaProg
import Derived.Test.YtbjbgodcenopnaaAvFun
import Derived.Test.YtbjbgodcenopnaaAvMan
import Derived.Test.YtbjbgodcenopnaaAvMore
import Derived.Test.YtbjbgodcenopnaaAvDraw2
import Derived.Test.YtbjbgodcenopnaaAvRow
import Derived.Test.YtbjbgodcenopnaaHrd
import Derived.Test.YtbjbgodcenopnaaPaD
import Derived.Test.YtbjbgodcenopnaaPaP0
namespace Go.Proofs.Ytbjbgodcenopnaa
set_option linter.unusedVariables false
set_option maxRecDepth 20000
set_option maxHeartbeats 10000000
theorem val_Text.ok  (v0 : List UInt8) (r : ApiValue) (h : val_Text.f v0 = some r) :
    FW.Ok Go.Proofs.Try.prog 146 [.lit (.string (FW.B v0))] (.agg (ApiValue.cells r)) := by
  refine FW.enter (xs := [.lit (.string (FW.B v0))]) Go.Proofs.Try.func146 rfl Go.Proofs.Try.ntmps146 rfl ?_
  intro M w0 a hk
  unfold val_Text.f at h
  refine FW.wreg ?_; intro K' hK1
  refine FW.l_alloc (zs := (ApiValue.cells (⟨0, false, 0, 0, [], []⟩ : ApiValue))) [] hk rfl rfl rfl rfl ?_; clear hk; intro bx1 a w hk
  refine FW.lend (hK1 _ _ ?_); clear hK1 K'
  refine FW.wreg ?_; intro K' hK2
  refine FW.lfun (y := .lit (.string (FW.B v0))) hk rfl rfl rfl rfl (FW.f_move hk (FW.holds_nil _) rfl) ?_; clear hk; intro a w hk
  refine FW.lfun (y := .agg ((ApiValue.cells (⟨4, false, 0, 0, v0, []⟩ : ApiValue)))) hk rfl rfl rfl rfl (FW.f_buildN [] hk (FW.holds_nil _) rfl rfl rfl) ?_; clear hk; intro a w hk
  refine FW.l_store (I' := [FW.blk bx1 33 ((ApiValue.cells (⟨4, false, 0, 0, v0, []⟩ : ApiValue)))]) (cs' := (ApiValue.cells (⟨4, false, 0, 0, v0, []⟩ : ApiValue))) (j := 0) hk rfl rfl rfl rfl rfl (by kernel_rfl) rfl rfl ?_; clear hk; intro w hk
  refine FW.lend (hK2 _ _ ?_); clear hK2 K'
  refine wp_ret ?_
  (repeat first | refine FW.then_ret ?_ | refine FW.block_ret ?_)
  obtain rfl := Option.some.inj h
  exact FW.fretR1 hk rfl (FW.rcell hk rfl (j := 0) rfl Go.Proofs.Try.underlying33 rfl (by kernel_rfl))

theorem val_Yes.ok  (v0 : Bool) (r : ApiValue) (h : val_Yes.f v0 = some r) :
    FW.Ok Go.Proofs.Try.prog 155 [.lit (.bool v0)] (.agg (ApiValue.cells r)) := by
  refine FW.enter (xs := [.lit (.bool v0)]) Go.Proofs.Try.func155 rfl Go.Proofs.Try.ntmps155 rfl ?_
  intro M w0 a hk
  unfold val_Yes.f at h
  refine FW.wreg ?_; intro K' hK1
  refine FW.l_alloc (zs := (ApiValue.cells (⟨0, false, 0, 0, [], []⟩ : ApiValue))) [] hk rfl rfl rfl rfl ?_; clear hk; intro bx1 a w hk
  refine FW.lend (hK1 _ _ ?_); clear hK1 K'
  refine FW.wreg ?_; intro K' hK2
  refine FW.lfun (y := .lit (.bool v0)) hk rfl rfl rfl rfl (FW.f_move hk (FW.holds_nil _) rfl) ?_; clear hk; intro a w hk
  refine FW.lfun (y := .agg ((ApiValue.cells (⟨1, v0, 0, 0, [], []⟩ : ApiValue)))) hk rfl rfl rfl rfl (FW.f_buildN [] hk (FW.holds_nil _) rfl rfl rfl) ?_; clear hk; intro a w hk
  refine FW.l_store (I' := [FW.blk bx1 33 ((ApiValue.cells (⟨1, v0, 0, 0, [], []⟩ : ApiValue)))]) (cs' := (ApiValue.cells (⟨1, v0, 0, 0, [], []⟩ : ApiValue))) (j := 0) hk rfl rfl rfl rfl rfl (by kernel_rfl) rfl rfl ?_; clear hk; intro w hk
  refine FW.lend (hK2 _ _ ?_); clear hK2 K'
  refine wp_ret ?_
  (repeat first | refine FW.then_ret ?_ | refine FW.block_ret ?_)
  obtain rfl := Option.some.inj h
  exact FW.fretR1 hk rfl (FW.rcell hk rfl (j := 0) rfl Go.Proofs.Try.underlying33 rfl (by kernel_rfl))

theorem val_None.ok   (r : ApiValue) (h : val_None.f = some r) :
    FW.Ok Go.Proofs.Try.prog 156 [] (.agg (ApiValue.cells r)) := by
  refine FW.enter (xs := []) Go.Proofs.Try.func156 rfl Go.Proofs.Try.ntmps156 rfl ?_
  intro M w0 a hk
  unfold val_None.f at h
  refine FW.wreg ?_; intro K' hK1
  refine FW.l_alloc (zs := (ApiValue.cells (⟨0, false, 0, 0, [], []⟩ : ApiValue))) [] hk rfl rfl rfl rfl ?_; clear hk; intro bx1 a w hk
  refine FW.lend (hK1 _ _ ?_); clear hK1 K'
  refine FW.wreg ?_; intro K' hK2
  refine FW.lfun (y := .agg ((ApiValue.cells (⟨0, false, 0, 0, [], []⟩ : ApiValue)))) hk rfl rfl rfl rfl (FW.f_buildN [] hk (FW.holds_nil _) rfl rfl rfl) ?_; clear hk; intro a w hk
  refine FW.l_store (I' := [FW.blk bx1 33 ((ApiValue.cells (⟨0, false, 0, 0, [], []⟩ : ApiValue)))]) (cs' := (ApiValue.cells (⟨0, false, 0, 0, [], []⟩ : ApiValue))) (j := 0) hk rfl rfl rfl rfl rfl (by kernel_rfl) rfl rfl ?_; clear hk; intro w hk
  refine FW.lend (hK2 _ _ ?_); clear hK2 K'
  refine wp_ret ?_
  (repeat first | refine FW.then_ret ?_ | refine FW.block_ret ?_)
  obtain rfl := Option.some.inj h
  exact FW.fretR1 hk rfl (FW.rcell hk rfl (j := 0) rfl Go.Proofs.Try.underlying33 rfl (by kernel_rfl))

theorem parse_parser_into_1.ok  (v0 : OVarPParseParser) (v0_0 : OParseParser) (r : OVarPParseParser × OParseParser) (h : parse_parser_into_1.f v0 v0_0 = some r) :
    ∀ (b0 : Nat) (b0_0 : Nat), FW.OkDH Go.Proofs.Try.prog 160 [.lit (.pointer (some ⟨b0, 0, none⟩))] ((OVarPParseParser.items b0 b0_0 v0) ++ (OParseParser.items b0_0 v0_0)) (fun y I => y = .tup [] ∧ I = (OVarPParseParser.items b0 b0_0 r.1) ++ (OParseParser.items b0_0 r.2)) := by
  intro b0 b0_0
  refine FW.enterDH (xs := [.lit (.pointer (some ⟨b0, 0, none⟩))]) Go.Proofs.Try.func160 rfl Go.Proofs.Try.ntmps160 rfl ?_
  intro M w0 a hk
  replace hk : FW.S M w0 a w0.toWorld 8 [FW.blk b0 84 ([.lit (.pointer (some ⟨b0_0, 0, none⟩))]), FW.blk b0_0 87 ([.row (r_ApiWord_cells v0_0.l), .lit (.int .i64 v0_0.i), .lit (.int .i64 v0_0.deep), .lit (.int .i64 v0_0.steps)])] [(0, [], .lit (.pointer (some ⟨b0, 0, none⟩)))] := hk
  unfold parse_parser_into_1.f at h
  refine FW.wreg1 ?_
  refine FW.lfun (y := .lit (.pointer (some ⟨b0_0, 0, none⟩))) hk rfl rfl rfl rfl (FW.f_loadBlk1 hk (FW.holds_nil _) (j := 0) rfl rfl Go.Proofs.Try.underlying84 rfl rfl) ?_; clear hk; intro a w hk
  refine FW.lfun (y := .lit (.pointer (some ⟨b0_0, 0, none⟩))) hk rfl rfl rfl rfl ((FW.f_pure (FW.p_nilCheck hk.kn (FW.holds_nil _) rfl))) ?_; clear hk; intro a w hk
  refine FW.lfun (y := .lit (.pointer (some ⟨b0_0, 2, none⟩))) hk rfl rfl rfl rfl (FW.f_fieldPtr hk (FW.holds_nil _) rfl Go.Proofs.Try.underlying87 rfl (by kernel_rfl) rfl) ?_; clear hk; intro a w hk
  refine FW.lfun (y := .lit (.int .i64 v0_0.deep)) hk rfl rfl rfl rfl (FW.f_loadBlk1 hk (FW.holds_nil _) (j := 1) rfl rfl Go.Proofs.Try.underlying3 rfl rfl) ?_; clear hk; intro a w hk
  refine FW.lfun (y := .lit (.int .i64 (IntKind.wrap .i64 (v0_0.deep - 1)))) hk rfl rfl rfl rfl ((FW.f_pure (FW.p_sub hk.kn (FW.holds_nil _) rfl rfl))) ?_; clear hk; intro a w hk
  refine FW.lfun (y := .lit (.pointer (some ⟨b0_0, 0, none⟩))) hk rfl rfl rfl rfl ((FW.f_pure (FW.p_nilCheck hk.kn (FW.holds_nil _) rfl))) ?_; clear hk; intro a w hk
  refine FW.lfun (y := .lit (.pointer (some ⟨b0_0, 2, none⟩))) hk rfl rfl rfl rfl (FW.f_fieldPtr hk (FW.holds_nil _) rfl Go.Proofs.Try.underlying87 rfl (by kernel_rfl) rfl) ?_; clear hk; intro a w hk
  refine FW.l_store (I' := [FW.blk b0 84 ([.lit (.pointer (some ⟨b0_0, 0, none⟩))]), FW.blk b0_0 87 ([.row (r_ApiWord_cells v0_0.l), .lit (.int .i64 v0_0.i), .lit (.int .i64 (IntKind.wrap .i64 (v0_0.deep - 1))), .lit (.int .i64 v0_0.steps)])]) (cs' := [.row (r_ApiWord_cells v0_0.l), .lit (.int .i64 v0_0.i), .lit (.int .i64 (IntKind.wrap .i64 (v0_0.deep - 1))), .lit (.int .i64 v0_0.steps)]) (j := 1) hk rfl rfl rfl rfl rfl (by kernel_rfl) rfl rfl ?_; clear hk; intro w hk
  refine wpList_nil ?_
  (repeat first | refine FW.then_normal ?_ | refine FW.block_normal ?_)
  refine FW.fnorm ?_
  obtain rfl := Option.some.inj h
  replace hk := FW.S.keep (I1 := [FW.blk b0 84 ([.lit (.pointer (some ⟨b0_0, 0, none⟩))]), FW.blk b0_0 87 ([.row (r_ApiWord_cells v0_0.l), .lit (.int .i64 v0_0.i), .lit (.int .i64 (IntKind.wrap .i64 (v0_0.deep - 1))), .lit (.int .i64 v0_0.steps)])]) (I2 := []) (js := [1, 1]) hk rfl
  exact FW.fretH0 hk rfl ⟨rfl, rfl⟩

theorem parse_parser_into.ok  (v0 : OParseParser) (r : Except (Int × Int) OParseParser) (h : parse_parser_into.f v0 = some r) :
    ∀ (b0 : Nat), FW.OkX Go.Proofs.Try.prog 159 [.lit (.pointer (some ⟨b0, 0, none⟩))] (OParseParser.items b0 v0) (FW.qX r (fun rr => fun y I => ∃ (bn0 : Nat), y = .lit (.func (.func 160) #[] #[.pointer (some ⟨bn0, 0, none⟩)]) ∧ I = FW.blk bn0 84 [.lit (.pointer (some ⟨b0, 0, none⟩))] :: (OParseParser.items b0 rr)) (fun e pv I => ∃ (o0 : OParseParser), pv = FW.faultV 115 e ∧ I = OParseParser.items b0 o0)) := by
  intro b0
  refine FW.enterX (xs := [.lit (.pointer (some ⟨b0, 0, none⟩))]) Go.Proofs.Try.func159 rfl Go.Proofs.Try.ntmps159 rfl ?_
  intro M w0 a hk
  replace hk : FW.S M w0 a w0.toWorld 18 [FW.blk b0 87 ([.row (r_ApiWord_cells v0.l), .lit (.int .i64 v0.i), .lit (.int .i64 v0.deep), .lit (.int .i64 v0.steps)])] [(0, [], .lit (.pointer (some ⟨b0, 0, none⟩)))] := hk
  unfold parse_parser_into.f at h
  refine FW.wreg ?_; intro K' hK1
  refine FW.l_box (cs := [.lit (.pointer (some ⟨b0, 0, none⟩))]) hk rfl rfl rfl rfl rfl ?_; clear hk; intro bx1 a w hk
  refine FW.lfun (y := .lit .nilFunc) hk rfl rfl rfl rfl (FW.f_assign hk (FW.holds_nil _) rfl) ?_; clear hk; intro a w hk
  refine FW.lend (hK1 _ _ ?_); clear hK1 K'
  refine FW.wseqJ (fun a w => ∃ (y1_0 : List ApiWord) (y1_1 : Int) (y1_2 : Int) (y1_3 : Int), FW.S M w0 a w 18 [FW.blk b0 87 ([.row (r_ApiWord_cells y1_0), .lit (.int .i64 y1_1), .lit (.int .i64 y1_2), .lit (.int .i64 y1_3)]), FW.blk bx1 84 ([.lit (.pointer (some ⟨b0, 0, none⟩))])] [(1, [], .lit (.pointer (some ⟨bx1, 0, none⟩)))] ∧ parse_parser_into.j1 y1_0 y1_1 y1_2 y1_3 = some r) ?_ ?_
  · clear hk h
    rintro a w ⟨y1_0, y1_1, y1_2, y1_3, hk, h⟩
    unfold parse_parser_into.j1 at h
    refine FW.wreg ?_; intro K' hK3
    refine FW.lfun (y := .lit (.pointer (some ⟨b0, 0, none⟩))) hk rfl rfl rfl rfl (FW.f_loadBlk1 hk (FW.holds_nil _) (j := 1) rfl rfl Go.Proofs.Try.underlying84 rfl rfl) ?_; clear hk; intro a w hk
    refine FW.lfun (y := .lit (.pointer (some ⟨b0, 0, none⟩))) hk rfl rfl rfl rfl ((FW.f_pure (FW.p_nilCheck hk.kn (FW.holds_nil _) rfl))) ?_; clear hk; intro a w hk
    refine FW.lfun (y := .lit (.pointer (some ⟨b0, 2, none⟩))) hk rfl rfl rfl rfl (FW.f_fieldPtr hk (FW.holds_nil _) rfl Go.Proofs.Try.underlying87 rfl (by kernel_rfl) rfl) ?_; clear hk; intro a w hk
    refine FW.lfun (y := .lit (.int .i64 y1_2)) hk rfl rfl rfl rfl (FW.f_loadBlk1 hk (FW.holds_nil _) (j := 0) rfl rfl Go.Proofs.Try.underlying3 rfl rfl) ?_; clear hk; intro a w hk
    refine FW.lfun (y := .lit (.int .i64 (IntKind.wrap .i64 (y1_2 + 1)))) hk rfl rfl rfl rfl ((FW.f_pure (FW.p_add hk.kn (FW.holds_nil _) rfl rfl))) ?_; clear hk; intro a w hk
    refine FW.lfun (y := .lit (.pointer (some ⟨b0, 0, none⟩))) hk rfl rfl rfl rfl ((FW.f_pure (FW.p_nilCheck hk.kn (FW.holds_nil _) rfl))) ?_; clear hk; intro a w hk
    refine FW.lfun (y := .lit (.pointer (some ⟨b0, 2, none⟩))) hk rfl rfl rfl rfl (FW.f_fieldPtr hk (FW.holds_nil _) rfl Go.Proofs.Try.underlying87 rfl (by kernel_rfl) rfl) ?_; clear hk; intro a w hk
    refine FW.l_store (I' := [FW.blk b0 87 ([.row (r_ApiWord_cells y1_0), .lit (.int .i64 y1_1), .lit (.int .i64 (IntKind.wrap .i64 (y1_2 + 1))), .lit (.int .i64 y1_3)]), FW.blk bx1 84 ([.lit (.pointer (some ⟨b0, 0, none⟩))])]) (cs' := [.row (r_ApiWord_cells y1_0), .lit (.int .i64 y1_1), .lit (.int .i64 (IntKind.wrap .i64 (y1_2 + 1))), .lit (.int .i64 y1_3)]) (j := 0) hk rfl rfl rfl rfl rfl (by kernel_rfl) rfl rfl ?_; clear hk; intro w hk
    refine FW.lend (hK3 _ _ ?_); clear hK3 K'
    refine FW.wreg ?_; intro K' hK4
    refine FW.lfun (y := .lit (.func (.func 160) #[] #[.pointer (some ⟨bx1, 0, none⟩)])) hk rfl rfl rfl rfl (FW.f_makeFunc hk (FW.holds_nil _) rfl) ?_; clear hk; intro a w hk
    refine FW.lfun (y := .lit (.func (.func 160) #[] #[.pointer (some ⟨bx1, 0, none⟩)])) hk rfl rfl rfl rfl (FW.f_assign hk (FW.holds_nil _) rfl) ?_; clear hk; intro a w hk
    refine FW.lend (hK4 _ _ ?_); clear hK4 K'
    refine wp_ret ?_
    (repeat first | refine FW.then_ret ?_ | refine FW.block_ret ?_)
    obtain rfl := Option.some.inj h
    replace hk := FW.S.keep (I1 := [FW.blk bx1 84 ([.lit (.pointer (some ⟨b0, 0, none⟩))]), FW.blk b0 87 ([.row (r_ApiWord_cells y1_0), .lit (.int .i64 y1_1), .lit (.int .i64 (IntKind.wrap .i64 (y1_2 + 1))), .lit (.int .i64 y1_3)])]) (I2 := []) (js := [0, 1]) hk rfl
    exact FW.toXq (FW.fretH1 hk rfl (FW.rtmp hk rfl) ⟨_, rfl, rfl⟩)
  · intro K' hK2
    refine FW.wreg ?_; intro K' hK5
    refine FW.lfun (y := .lit (.pointer (some ⟨b0, 0, none⟩))) hk rfl rfl rfl rfl (FW.f_loadBlk1 hk (FW.holds_nil _) (j := 0) rfl rfl Go.Proofs.Try.underlying84 rfl rfl) ?_; clear hk; intro a w hk
    refine FW.lfun (y := .lit (.pointer (some ⟨b0, 0, none⟩))) hk rfl rfl rfl rfl ((FW.f_pure (FW.p_nilCheck hk.kn (FW.holds_nil _) rfl))) ?_; clear hk; intro a w hk
    refine FW.lfun (y := .lit (.pointer (some ⟨b0, 2, none⟩))) hk rfl rfl rfl rfl (FW.f_fieldPtr hk (FW.holds_nil _) rfl Go.Proofs.Try.underlying87 rfl (by kernel_rfl) rfl) ?_; clear hk; intro a w hk
    refine FW.lfun (y := .lit (.int .i64 v0.deep)) hk rfl rfl rfl rfl (FW.f_loadBlk1 hk (FW.holds_nil _) (j := 1) rfl rfl Go.Proofs.Try.underlying3 rfl rfl) ?_; clear hk; intro a w hk
    refine FW.lfun (y := .lit (.bool (decide (12 ≤ v0.deep)))) hk rfl rfl rfl rfl ((FW.f_pure (FW.p_geq hk.kn (FW.holds_nil _) rfl rfl))) ?_; clear hk; intro a w hk
    refine FW.lend (hK5 _ _ ?_); clear hK5 K'
    refine FW.wcondF (b := (decide (12 ≤ v0.deep))) hk h rfl (fun h hb => ?_) (fun h hb => ?_)
    · skip
      refine FW.wreg1 ?_
      refine FW.lfun (y := .lit (.pointer (some ⟨b0, 0, none⟩))) hk rfl rfl rfl rfl (FW.f_loadBlk1 hk (FW.holds_nil _) (j := 0) rfl rfl Go.Proofs.Try.underlying84 rfl rfl) ?_; clear hk; intro a w hk
      rcases FW.bndX h with ⟨e_t1, hr_t1, rfl⟩ | ⟨t1, hr_t1, h⟩
      · skip
        refine FW.l_callXE (I1 := (OParseParser.items b0 v0)) (I2 := [FW.blk bx1 84 ([.lit (.pointer (some ⟨b0, 0, none⟩))])]) (js := [1]) hk rfl rfl rfl Go.Proofs.Try.func65 rfl (by kernel_rfl) (parse_parser_stop.ok v0 3 _ hr_t1 b0) ?_; clear hk
        rintro _ _ ⟨vE1, rfl, rfl⟩ w hk
        exact FW.fpan (P := Go.Proofs.Try.prog) (fn := Go.Proofs.Try.f159) (I1 := [FW.blk b0 87 ([.row (r_ApiWord_cells vE1.l), .lit (.int .i64 vE1.i), .lit (.int .i64 vE1.deep), .lit (.int .i64 vE1.steps)])]) (I2 := [FW.blk bx1 84 ([.lit (.pointer (some ⟨b0, 0, none⟩))])]) (js := [0]) hk rfl ⟨_, rfl, vE1, rfl, rfl⟩
      refine FW.l_callH (I1 := (OParseParser.items b0 v0)) (I2 := [FW.blk bx1 84 ([.lit (.pointer (some ⟨b0, 0, none⟩))])]) (js := [1]) hk rfl rfl rfl rfl rfl Go.Proofs.Try.func65 rfl (by kernel_rfl) (FW.OkX.toH (parse_parser_stop.ok v0 3 _ hr_t1 b0)) ?_; clear hk
      rintro _ _ ⟨rfl, rfl⟩ a w hk
      refine wpList_nil ?_
      (repeat first | refine FW.then_normal ?_ | refine FW.block_normal ?_); exact hK2 _ _ ⟨t1.l, t1.i, t1.deep, t1.steps, hk.sub ⟨rfl, trivial⟩, h⟩
    · skip
      refine wp_skip ?_
      (repeat first | refine FW.then_normal ?_ | refine FW.block_normal ?_); exact hK2 _ _ ⟨v0.l, v0.i, v0.deep, v0.steps, (FW.S.pick hk (js := [0, 1]) rfl).sub ⟨rfl, trivial⟩, h⟩

theorem val_List.ok  (v0 : List ApiValue) (r : ApiValue) (h : val_List.f v0 = some r) :
    FW.Ok Go.Proofs.Try.prog 157 [.row (r_ApiValue_cells v0)] (.agg (ApiValue.cells r)) := by
  refine FW.enter (xs := [.row (r_ApiValue_cells v0)]) Go.Proofs.Try.func157 rfl Go.Proofs.Try.ntmps157 rfl ?_
  intro M w0 a hk
  unfold val_List.f at h
  refine FW.wreg ?_; intro K' hK1
  refine FW.l_alloc (zs := (ApiValue.cells (⟨0, false, 0, 0, [], []⟩ : ApiValue))) [] hk rfl rfl rfl rfl ?_; clear hk; intro bx1 a w hk
  refine FW.lend (hK1 _ _ ?_); clear hK1 K'
  refine FW.wreg ?_; intro K' hK2
  refine FW.lfun (y := .row (r_ApiValue_cells v0)) hk rfl rfl rfl rfl (FW.f_move hk (FW.holds_nil _) rfl) ?_; clear hk; intro a w hk
  refine FW.lfun (y := .agg ((ApiValue.cells (⟨5, false, 0, 0, [], v0⟩ : ApiValue)))) hk rfl rfl rfl rfl (FW.f_buildN [] hk (FW.holds_nil _) rfl rfl rfl) ?_; clear hk; intro a w hk
  refine FW.l_store (I' := [FW.blk bx1 33 ((ApiValue.cells (⟨5, false, 0, 0, [], v0⟩ : ApiValue)))]) (cs' := (ApiValue.cells (⟨5, false, 0, 0, [], v0⟩ : ApiValue))) (j := 0) hk rfl rfl rfl rfl rfl (by kernel_rfl) rfl rfl ?_; clear hk; intro w hk
  refine FW.lend (hK2 _ _ ?_); clear hK2 K'
  refine wp_ret ?_
  (repeat first | refine FW.then_ret ?_ | refine FW.block_ret ?_)
  obtain rfl := Option.some.inj h
  exact FW.fretR1 hk rfl (FW.rcell hk rfl (j := 0) rfl Go.Proofs.Try.underlying33 rfl (by kernel_rfl))
end Go.Proofs.Ytbjbgodcenopnaa

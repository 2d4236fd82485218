/- Written by a program of this session (gen.py): the contracts of functions of the program. -/
import Derived.KernelRfl
import Derived.Test.YtbjbgodcenopnaaProg
import Derived.Test.YtbjbgodcenopnaaAvFun
import Derived.Test.YtbjbgodcenopnaaAvMan
import Derived.Test.YtbjbgodcenopnaaAvMore
import Derived.Test.YtbjbgodcenopnaaAvDraw2
import Derived.Test.YtbjbgodcenopnaaAvRow
import Derived.Test.YtbjbgodcenopnaaHrd
import Derived.Test.YtbjbgodcenopnaaPaD
namespace Go.Proofs.Ytbjbgodcenopnaa
set_option linter.unusedVariables false
set_option maxRecDepth 20000
set_option maxHeartbeats 10000000
theorem parse_parser_all_1_idle.ok  (v0 : OVarcsApiStepcells_22) (v1 : OVarci64_3) (v2 : OVarci64_23) (r : OVarcsApiStepcells_22 × OVarci64_3 × OVarci64_23) (h : parse_parser_all_1_idle.f v0 v1 v2 = some r) :
    ∀ (b0 : Nat) (b1 : Nat) (b2 : Nat), FW.OkRH Go.Proofs.Try.prog 63 [.lit (.pointer (some ⟨b0, 0, none⟩)), .lit (.pointer (some ⟨b1, 0, none⟩)), .lit (.pointer (some ⟨b2, 0, none⟩))] ((OVarcsApiStepcells_22.items b0 v0) ++ (OVarci64_3.items b1 v1) ++ (OVarci64_23.items b2 v2)) .returning .returning (fun y I => y = .tup [] ∧ I = (OVarcsApiStepcells_22.items b0 r.1) ++ (OVarci64_3.items b1 r.2.1) ++ (OVarci64_23.items b2 r.2.2)) := by
  intro b0 b1 b2
  refine FW.enterIdle (xs := [.lit (.pointer (some ⟨b0, 0, none⟩)), .lit (.pointer (some ⟨b1, 0, none⟩)), .lit (.pointer (some ⟨b2, 0, none⟩))]) Go.Proofs.Try.func63 rfl Go.Proofs.Try.ntmps63 rfl rfl rfl rfl rfl (fun _ _ => rfl) ?_
  intro M w0 a hk K' hKr
  unfold parse_parser_all_1_idle.f at h
  refine FW.lfun (y := .tup [.agg ((ParseFault.cells (⟨0, 0⟩ : ParseFault))), .lit (.bool false)]) hk rfl rfl rfl rfl (FW.f_tassertN hk (FW.holds_nil _) Go.Proofs.Try.underlying115 rfl rfl (fun _ => rfl)) ?_; clear hk; intro a w hk
  refine FW.lfun (y := .tup [.agg ((ParseFault.cells (⟨0, 0⟩ : ParseFault))), .lit (.bool false)]) hk rfl rfl rfl rfl (FW.f_move hk (FW.holds_nil _) rfl) ?_; clear hk; intro a w hk
  refine FW.lfun (y := .agg ((ParseFault.cells (⟨0, 0⟩ : ParseFault)))) hk rfl rfl rfl rfl (FW.f_extract hk (FW.holds_nil _) rfl rfl) ?_; clear hk; intro a w hk
  refine FW.lfun (y := .lit (.bool false)) hk rfl rfl rfl rfl (FW.f_extract hk (FW.holds_nil _) rfl rfl) ?_; clear hk; intro a w hk
  refine FW.l_alloc (zs := (ParseFault.cells (⟨0, 0⟩ : ParseFault))) [] hk rfl rfl rfl rfl ?_; clear hk; intro bx1 a w hk
  refine FW.l_store (I' := [FW.blk bx1 115 ((ParseFault.cells (⟨0, 0⟩ : ParseFault))), FW.blk b0 22 ([.row (r_ApiStep_cells v0.v)]), FW.blk b1 3 ([.lit (.int .i64 v1.v)]), FW.blk b2 23 ([.lit (.int .i64 v2.v)])]) (cs' := (ParseFault.cells (⟨0, 0⟩ : ParseFault))) (j := 0) hk rfl rfl rfl rfl rfl (by kernel_rfl) rfl rfl ?_; clear hk; intro w hk
  refine FW.lfun (y := .lit (.bool false)) hk rfl rfl rfl rfl (FW.f_assign hk (FW.holds_nil _) rfl) ?_; clear hk; intro a w hk
  refine FW.lend (hKr _ _ ?_); clear hKr K'
  refine FW.wreg ?_; intro K' hK2
  refine FW.lfun (y := .lit (.bool false)) hk rfl rfl rfl rfl (FW.f_move hk (FW.holds_nil _) rfl) ?_; clear hk; intro a w hk
  refine FW.lend (hK2 _ _ ?_); clear hK2 K'
  refine FW.wcondX hk rfl ?_
  refine wp_skip ?_
  (repeat first | refine FW.then_normal ?_ | refine FW.block_normal ?_)
  refine FW.fnorm ?_
  obtain rfl := Option.some.inj h
  replace hk := FW.S.keep (I1 := [FW.blk b0 22 ([.row (r_ApiStep_cells v0.v)]), FW.blk b1 3 ([.lit (.int .i64 v1.v)]), FW.blk b2 23 ([.lit (.int .i64 v2.v)])]) (I2 := [FW.blk bx1 115 ((ParseFault.cells (⟨0, 0⟩ : ParseFault)))]) (js := [3, 3, 3]) hk rfl
  exact FW.fretH0 hk rfl ⟨rfl, rfl⟩

theorem parse_parser_all_1_pan.ok  (e0 : Int × Int) (v0 : OVarcsApiStepcells_22) (v1 : OVarci64_3) (v2 : OVarci64_23) (r : OVarcsApiStepcells_22 × OVarci64_3 × OVarci64_23) (h : parse_parser_all_1_pan.f e0 v0 v1 v2 = some r) :
    ∀ (b0 : Nat) (b1 : Nat) (b2 : Nat), FW.OkRH Go.Proofs.Try.prog 63 [.lit (.pointer (some ⟨b0, 0, none⟩)), .lit (.pointer (some ⟨b1, 0, none⟩)), .lit (.pointer (some ⟨b2, 0, none⟩))] ((OVarcsApiStepcells_22.items b0 v0) ++ (OVarci64_3.items b1 v1) ++ (OVarci64_23.items b2 v2)) (.panicking [FW.pe (FW.faultV 115 e0)]) (.panicking [{ v := (FW.faultV 115 e0), recovered := true }]) (fun y I => y = .tup [] ∧ I = (OVarcsApiStepcells_22.items b0 r.1) ++ (OVarci64_3.items b1 r.2.1) ++ (OVarci64_23.items b2 r.2.2)) := by
  intro b0 b1 b2
  refine FW.enterPan (xs := [.lit (.pointer (some ⟨b0, 0, none⟩)), .lit (.pointer (some ⟨b1, 0, none⟩)), .lit (.pointer (some ⟨b2, 0, none⟩))]) Go.Proofs.Try.func63 rfl Go.Proofs.Try.ntmps63 rfl rfl rfl rfl rfl (fun _ _ => rfl) ?_
  intro M w0 a hk K' hKr
  unfold parse_parser_all_1_pan.f at h
  refine FW.lfun (y := .tup [.agg ((ParseFault.cells (⟨e0.1, e0.2⟩ : ParseFault))), .lit (.bool true)]) hk rfl rfl rfl rfl (FW.f_tassertT hk (FW.holds_nil _) Go.Proofs.Try.underlying115 rfl rfl) ?_; clear hk; intro a w hk
  refine FW.lfun (y := .tup [.agg ((ParseFault.cells (⟨e0.1, e0.2⟩ : ParseFault))), .lit (.bool true)]) hk rfl rfl rfl rfl (FW.f_move hk (FW.holds_nil _) rfl) ?_; clear hk; intro a w hk
  refine FW.lfun (y := .agg ((ParseFault.cells (⟨e0.1, e0.2⟩ : ParseFault)))) hk rfl rfl rfl rfl (FW.f_extract hk (FW.holds_nil _) rfl rfl) ?_; clear hk; intro a w hk
  refine FW.lfun (y := .lit (.bool true)) hk rfl rfl rfl rfl (FW.f_extract hk (FW.holds_nil _) rfl rfl) ?_; clear hk; intro a w hk
  refine FW.l_alloc (zs := (ParseFault.cells (⟨0, 0⟩ : ParseFault))) [] hk rfl rfl rfl rfl ?_; clear hk; intro bx1 a w hk
  refine FW.l_store (I' := [FW.blk bx1 115 ((ParseFault.cells (⟨e0.1, e0.2⟩ : ParseFault))), FW.blk b0 22 ([.row (r_ApiStep_cells v0.v)]), FW.blk b1 3 ([.lit (.int .i64 v1.v)]), FW.blk b2 23 ([.lit (.int .i64 v2.v)])]) (cs' := (ParseFault.cells (⟨e0.1, e0.2⟩ : ParseFault))) (j := 0) hk rfl rfl rfl rfl rfl (by kernel_rfl) rfl rfl ?_; clear hk; intro w hk
  refine FW.lfun (y := .lit (.bool true)) hk rfl rfl rfl rfl (FW.f_assign hk (FW.holds_nil _) rfl) ?_; clear hk; intro a w hk
  refine FW.lend (hKr _ _ ?_); clear hKr K'
  refine FW.wreg ?_; intro K' hK2
  refine FW.lfun (y := .lit (.bool true)) hk rfl rfl rfl rfl (FW.f_move hk (FW.holds_nil _) rfl) ?_; clear hk; intro a w hk
  refine FW.lend (hK2 _ _ ?_); clear hK2 K'
  refine FW.wcondT hk rfl ?_
  refine FW.wdrawE1 (.next [true, true, true, true, false, false, false] 4 [true, true, true, true, false, false, false] (.next [true, true, true, true, false, false, false] 5 [true, true, true, true, true, false, false] (.next [false, false, true, true, false, false, false] 6 [true, true, true, true, true, true, false] (.leaf [false, false, false, false, false, false, false])))) [(11, [], .lit (.pointer (some ⟨bx1, 0, none⟩))), (12, [], .lit (.int .i64 e0.1)), (13, [], .lit (.pointer (some ⟨bx1, 1, none⟩))), (14, [], .lit (.int .i64 e0.2)), (15, [], .lit undef), (15, [], .lit undef), (15, [], .lit undef)] (by kernel_rfl) (by kernel_rfl) (by kernel_rfl) (by kernel_rfl) hk ?_; clear hk
  refine FW.gnext0 ?_ rfl rfl rfl ?_
  · skip
    refine FW.gfun (y := .lit (.pointer (some ⟨bx1, 0, none⟩))) rfl rfl rfl rfl (fun a w hk => FW.f_fieldPtr hk (FW.holds_nil _) rfl Go.Proofs.Try.underlying115 rfl (by kernel_rfl) rfl) ?_
    refine FW.gfun (y := .lit (.int .i64 e0.1)) rfl rfl rfl rfl (fun a w hk => FW.f_loadBlk1 hk (FW.holds_nil _) (j := 0) rfl rfl Go.Proofs.Try.underlying3 rfl rfl) ?_
    refine FW.gfun (y := .lit (.pointer (some ⟨bx1, 1, none⟩))) rfl rfl rfl rfl (fun a w hk => FW.f_fieldPtr hk (FW.holds_nil _) rfl Go.Proofs.Try.underlying115 rfl (by kernel_rfl) rfl) ?_
    refine FW.gfun (y := .lit (.int .i64 e0.2)) rfl rfl rfl rfl (fun a w hk => FW.f_loadBlk1 hk (FW.holds_nil _) (j := 0) rfl rfl Go.Proofs.Try.underlying23 rfl rfl) ?_
    refine FW.gskip0 rfl ?_
    refine FW.gskip0 rfl ?_
    refine FW.gskip0 rfl ?_
    exact FW.gend
  · skip
    intro σD a w opsD QD hk hQ hX
    refine FW.l_storeV (u := .row (r_ApiStep_cells [])) (I' := [FW.blk bx1 115 ((ParseFault.cells (⟨e0.1, e0.2⟩ : ParseFault))), FW.blk b0 22 ([.row (r_ApiStep_cells [])]), FW.blk b1 3 ([.lit (.int .i64 v1.v)]), FW.blk b2 23 ([.lit (.int .i64 v2.v)])]) (cs' := [.row (r_ApiStep_cells [])]) (j := 1) hk rfl rfl (FW.rep_nilc hk rfl) rfl rfl (by kernel_rfl) rfl rfl ?_; clear hk; intro w hk
    refine hQ _ a w ?_ hk; clear hk hQ hX
    refine ⟨[(11, [], .lit (.pointer (some ⟨bx1, 0, none⟩))), (12, [], .lit (.int .i64 e0.1)), (13, [], .lit (.pointer (some ⟨bx1, 1, none⟩))), (14, [], .lit (.int .i64 e0.2)), (15, [], .lit undef), (15, [], .lit undef), (15, [], .lit undef)], And.intro rfl (And.intro rfl (And.intro rfl (And.intro rfl (trivial)))), rfl, ?_⟩
    refine FW.gnext0 ?_ rfl rfl rfl ?_
    · skip
      refine FW.gfun (y := .lit (.pointer (some ⟨bx1, 0, none⟩))) rfl rfl rfl rfl (fun a w hk => FW.f_fieldPtr hk (FW.holds_nil _) rfl Go.Proofs.Try.underlying115 rfl (by kernel_rfl) rfl) ?_
      refine FW.gfun (y := .lit (.int .i64 e0.1)) rfl rfl rfl rfl (fun a w hk => FW.f_loadBlk1 hk (FW.holds_nil _) (j := 0) rfl rfl Go.Proofs.Try.underlying3 rfl rfl) ?_
      refine FW.gfun (y := .lit (.pointer (some ⟨bx1, 1, none⟩))) rfl rfl rfl rfl (fun a w hk => FW.f_fieldPtr hk (FW.holds_nil _) rfl Go.Proofs.Try.underlying115 rfl (by kernel_rfl) rfl) ?_
      refine FW.gfun (y := .lit (.int .i64 e0.2)) rfl rfl rfl rfl (fun a w hk => FW.f_loadBlk1 hk (FW.holds_nil _) (j := 0) rfl rfl Go.Proofs.Try.underlying23 rfl rfl) ?_
      refine FW.gskip0 rfl ?_
      refine FW.gskip0 rfl ?_
      refine FW.gskip0 rfl ?_
      exact FW.gend
    · skip
      intro σD a w opsD QD hk hQ hX
      refine FW.l_store (I' := [FW.blk bx1 115 ((ParseFault.cells (⟨e0.1, e0.2⟩ : ParseFault))), FW.blk b0 22 ([.row (r_ApiStep_cells [])]), FW.blk b1 3 ([.lit (.int .i64 e0.1)]), FW.blk b2 23 ([.lit (.int .i64 v2.v)])]) (cs' := [.lit (.int .i64 e0.1)]) (j := 2) hk rfl rfl rfl rfl rfl (by kernel_rfl) rfl rfl ?_; clear hk; intro w hk
      refine hQ _ a w ?_ hk; clear hk hQ hX
      refine ⟨[(11, [], .lit (.pointer (some ⟨bx1, 0, none⟩))), (12, [], .lit (.int .i64 e0.1)), (13, [], .lit (.pointer (some ⟨bx1, 1, none⟩))), (14, [], .lit (.int .i64 e0.2)), (15, [], .lit undef), (15, [], .lit undef), (15, [], .lit undef)], And.intro rfl (And.intro rfl (And.intro rfl (And.intro rfl (And.intro rfl (trivial))))), rfl, ?_⟩
      refine FW.gnext0 ?_ rfl rfl rfl ?_
      · skip
        refine FW.gskip rfl rfl ?_
        refine FW.gskip rfl rfl ?_
        refine FW.gfun (y := .lit (.pointer (some ⟨bx1, 1, none⟩))) rfl rfl rfl rfl (fun a w hk => FW.f_fieldPtr hk (FW.holds_nil _) rfl Go.Proofs.Try.underlying115 rfl (by kernel_rfl) rfl) ?_
        refine FW.gfun (y := .lit (.int .i64 e0.2)) rfl rfl rfl rfl (fun a w hk => FW.f_loadBlk1 hk (FW.holds_nil _) (j := 0) rfl rfl Go.Proofs.Try.underlying23 rfl rfl) ?_
        refine FW.gskip0 rfl ?_
        refine FW.gskip0 rfl ?_
        refine FW.gskip0 rfl ?_
        exact FW.gend
      · skip
        intro σD a w opsD QD hk hQ hX
        refine FW.l_store (I' := [FW.blk bx1 115 ((ParseFault.cells (⟨e0.1, e0.2⟩ : ParseFault))), FW.blk b0 22 ([.row (r_ApiStep_cells [])]), FW.blk b1 3 ([.lit (.int .i64 e0.1)]), FW.blk b2 23 ([.lit (.int .i64 e0.2)])]) (cs' := [.lit (.int .i64 e0.2)]) (j := 3) hk rfl rfl rfl rfl rfl (by kernel_rfl) rfl rfl ?_; clear hk; intro w hk
        refine hQ _ a w ?_ hk; clear hk hQ hX
        refine ⟨[(11, [], .lit (.pointer (some ⟨bx1, 0, none⟩))), (12, [], .lit (.int .i64 e0.1)), (13, [], .lit (.pointer (some ⟨bx1, 1, none⟩))), (14, [], .lit (.int .i64 e0.2)), (15, [], .lit undef), (15, [], .lit undef), (15, [], .lit undef)], And.intro rfl (And.intro rfl (And.intro rfl (And.intro rfl (And.intro rfl (And.intro rfl (trivial)))))), rfl, ?_⟩
        refine FW.glast ?_ ?_
        · skip
          refine FW.gskip rfl rfl ?_
          refine FW.gskip rfl rfl ?_
          refine FW.gskip rfl rfl ?_
          refine FW.gskip rfl rfl ?_
          refine FW.gskip0 rfl ?_
          refine FW.gskip0 rfl ?_
          refine FW.gskip0 rfl ?_
          exact FW.gend
        · skip
          intro a w hk; simp only [FW.stD, cond_true] at hk
          (repeat first | refine FW.then_normal ?_ | refine FW.block_normal ?_)
          refine FW.fnorm ?_
          obtain rfl := Option.some.inj h
          replace hk := FW.S.keep (I1 := [FW.blk b0 22 ([.row (r_ApiStep_cells [])]), FW.blk b1 3 ([.lit (.int .i64 e0.1)]), FW.blk b2 23 ([.lit (.int .i64 e0.2)])]) (I2 := [FW.blk bx1 115 ((ParseFault.cells (⟨e0.1, e0.2⟩ : ParseFault)))]) (js := [3, 3, 3]) hk rfl
          exact FW.fretH0 hk rfl ⟨rfl, rfl⟩

theorem parse_parser_stop.ok  (v0 : OParseParser) (v1 : Int) (r : Except (Int × Int) OParseParser) (h : parse_parser_stop.f v0 v1 = some r) :
    ∀ (b0 : Nat), FW.OkX Go.Proofs.Try.prog 65 [.lit (.pointer (some ⟨b0, 0, none⟩)), .lit (.int .i64 v1)] (OParseParser.items b0 v0) (FW.qX r (fun rr => fun y I => y = .tup [] ∧ I = OParseParser.items b0 rr) (fun e pv I => ∃ (o0 : OParseParser), pv = FW.faultV 115 e ∧ I = OParseParser.items b0 o0)) := by
  intro b0
  refine FW.enterX (xs := [.lit (.pointer (some ⟨b0, 0, none⟩)), .lit (.int .i64 v1)]) Go.Proofs.Try.func65 rfl Go.Proofs.Try.ntmps65 rfl ?_
  intro M w0 a hk
  replace hk : FW.S M w0 a w0.toWorld 18 [FW.blk b0 87 ([.row (r_ApiWord_cells v0.l), .lit (.int .i64 v0.i), .lit (.int .i64 v0.deep), .lit (.int .i64 v0.steps)])] [(0, [], .lit (.pointer (some ⟨b0, 0, none⟩))), (1, [], .lit (.int .i64 v1))] := hk
  unfold parse_parser_stop.f at h
  obtain ⟨hc1, h⟩ := FW.chk h
  refine FW.wdrawE1 (.next [true, true, true, true, true, true, true, true, true, true, true, true, true, true, false] 14 [true, true, true, true, true, true, true, true, true, true, true, true, true, true, false] (.leaf [false, false, false, false, false, false, false, false, false, false, false, false, false, false, false])) [(4, [], .lit (.pointer (some ⟨b0, 0, none⟩))), (5, [], .lit (.pointer (some ⟨b0, 0, none⟩))), (6, [], .lit (.pointer (some ⟨b0, 0, none⟩))), (7, [], .row (r_ApiWord_cells v0.l)), (8, [], .lit (.pointer (some ⟨b0, 0, none⟩))), (9, [], .lit (.pointer (some ⟨b0, 0, none⟩))), (10, [], .lit (.pointer (some ⟨b0, 1, none⟩))), (11, [], .lit (.int .i64 v0.i)), (12, [], .ref (ApiWord.cells (List.getD v0.l (Int.toNat v0.i) default))), (13, [], .ref (List.drop 4 (ApiWord.cells (List.getD v0.l (Int.toNat v0.i) default)))), (14, [], .lit (.int .i64 ((List.getD v0.l (Int.toNat v0.i) default).At))), (15, [], .lit (.int .i64 v1)), (16, [], .agg ((ParseFault.cells (⟨(List.getD v0.l (Int.toNat v0.i) default).At, v1⟩ : ParseFault)))), (17, [], .lit (FW.faultV 115 ((List.getD v0.l (Int.toNat v0.i) default).At, v1))), (18, [], .lit undef)] (by kernel_rfl) (by kernel_rfl) (by kernel_rfl) (by kernel_rfl) hk ?_; clear hk
  refine FW.gnext0 ?_ rfl rfl rfl ?_
  · skip
    refine FW.gfun (y := .lit (.pointer (some ⟨b0, 0, none⟩))) rfl rfl rfl rfl (fun a w hk => FW.f_move hk (FW.holds_nil _) rfl) ?_
    refine FW.gfun (y := .lit (.pointer (some ⟨b0, 0, none⟩))) rfl rfl rfl rfl (fun a w hk => (FW.f_pure (FW.p_nilCheck hk.kn (FW.holds_nil _) rfl))) ?_
    refine FW.gfun (y := .lit (.pointer (some ⟨b0, 0, none⟩))) rfl rfl rfl rfl (fun a w hk => FW.f_fieldPtr hk (FW.holds_nil _) rfl Go.Proofs.Try.underlying87 rfl (by kernel_rfl) rfl) ?_
    refine FW.gfun (y := .row (r_ApiWord_cells v0.l)) rfl rfl rfl rfl (fun a w hk => FW.f_loadBlk1 hk (FW.holds_nil _) (j := 0) rfl rfl Go.Proofs.Try.underlying60 rfl rfl) ?_
    refine FW.gfun (y := .lit (.pointer (some ⟨b0, 0, none⟩))) rfl rfl rfl rfl (fun a w hk => FW.f_move hk (FW.holds_nil _) rfl) ?_
    refine FW.gfun (y := .lit (.pointer (some ⟨b0, 0, none⟩))) rfl rfl rfl rfl (fun a w hk => (FW.f_pure (FW.p_nilCheck hk.kn (FW.holds_nil _) rfl))) ?_
    refine FW.gfun (y := .lit (.pointer (some ⟨b0, 1, none⟩))) rfl rfl rfl rfl (fun a w hk => FW.f_fieldPtr hk (FW.holds_nil _) rfl Go.Proofs.Try.underlying87 rfl (by kernel_rfl) rfl) ?_
    refine FW.gfun (y := .lit (.int .i64 v0.i)) rfl rfl rfl rfl (fun a w hk => FW.f_loadBlk1 hk (FW.holds_nil _) (j := 0) rfl rfl Go.Proofs.Try.underlying3 rfl rfl) ?_
    refine FW.gfun (y := .ref (ApiWord.cells (List.getD v0.l (Int.toNat v0.i) default))) rfl rfl rfl rfl (fun a w hk => FW.f_indexAddr (R := r_ApiWord_cells) (f := ApiWord.cells) (l := v0.l) (sz := 5) r_ApiWord_cells_eq (fun _ => rfl) hk (FW.holds_nil _) rfl rfl Go.Proofs.Try.underlying60 (by kernel_rfl) hc1) ?_
    refine FW.gfun (y := .ref (List.drop 4 (ApiWord.cells (List.getD v0.l (Int.toNat v0.i) default)))) rfl rfl rfl rfl (fun a w hk => FW.f_fieldAddr hk (FW.holds_nil _) rfl Go.Proofs.Try.underlying66 rfl (by kernel_rfl) rfl) ?_
    refine FW.gfun (y := .lit (.int .i64 ((List.getD v0.l (Int.toNat v0.i) default).At))) rfl rfl rfl rfl (fun a w hk => FW.f_load1 hk (FW.holds_nil _) rfl rfl Go.Proofs.Try.underlying3 rfl) ?_
    refine FW.gfun (y := .lit (.int .i64 v1)) rfl rfl rfl rfl (fun a w hk => FW.f_move hk (FW.holds_nil _) rfl) ?_
    refine FW.gfun (y := .agg ((ParseFault.cells (⟨(List.getD v0.l (Int.toNat v0.i) default).At, v1⟩ : ParseFault)))) rfl rfl rfl rfl (fun a w hk => FW.f_build hk (FW.holds_nil _) rfl rfl) ?_
    refine FW.gfun (y := .lit (FW.faultV 115 ((List.getD v0.l (Int.toNat v0.i) default).At, v1))) rfl rfl rfl rfl (fun a w hk => FW.f_iface2 hk (FW.holds_nil _) Go.Proofs.Try.underlying115 rfl rfl) ?_
    refine FW.gskip0 rfl ?_
    exact FW.gend
  · skip
    intro σD a w opsD QD hk hQ hX
    obtain rfl := Option.some.inj h
    exact FW.l_panic hk rfl (hX _ _ _ (fun e => nomatch e) (FW.fpan (P := Go.Proofs.Try.prog) (fn := Go.Proofs.Try.f65) (I1 := [FW.blk b0 87 ([.row (r_ApiWord_cells v0.l), .lit (.int .i64 v0.i), .lit (.int .i64 v0.deep), .lit (.int .i64 v0.steps)])]) (I2 := []) (js := [0]) hk rfl ⟨_, rfl, v0, rfl, rfl⟩))

theorem parse_parser_name.ok  (v0 : OParseParser) (r : Except (Int × Int) (List UInt8 × OParseParser)) (h : parse_parser_name.f v0 = some r) :
    ∀ (b0 : Nat), FW.OkX Go.Proofs.Try.prog 64 [.lit (.pointer (some ⟨b0, 0, none⟩))] (OParseParser.items b0 v0) (FW.qX r (fun rr => fun y I => y = .lit (.string (FW.B rr.1)) ∧ I = OParseParser.items b0 rr.2) (fun e pv I => ∃ (o0 : OParseParser), pv = FW.faultV 115 e ∧ I = OParseParser.items b0 o0)) := by
  intro b0
  refine FW.enterX (xs := [.lit (.pointer (some ⟨b0, 0, none⟩))]) Go.Proofs.Try.func64 rfl Go.Proofs.Try.ntmps64 rfl ?_
  intro M w0 a hk
  replace hk : FW.S M w0 a w0.toWorld 40 [FW.blk b0 87 ([.row (r_ApiWord_cells v0.l), .lit (.int .i64 v0.i), .lit (.int .i64 v0.deep), .lit (.int .i64 v0.steps)])] [(0, [], .lit (.pointer (some ⟨b0, 0, none⟩)))] := hk
  unfold parse_parser_name.f at h
  refine FW.wreg ?_; intro K' hK1
  refine FW.lfun (y := .lit (.string (FW.B ([] : List UInt8)))) hk rfl rfl rfl rfl (FW.f_assign hk (FW.holds_nil _) rfl) ?_; clear hk; intro a w hk
  refine FW.lend (hK1 _ _ ?_); clear hK1 K'
  obtain ⟨hc1, h⟩ := FW.chk h
  refine FW.wdrawE (.next [true, true, true, true, true, true, true, true, true, true, false, false] 10 [true, true, true, true, true, true, true, true, true, true, false, false] (.next [true, true, true, true, true, true, true, true, true, true, false, false] 11 [true, true, true, true, true, true, true, true, true, true, true, false] (.leaf [false, false, false, false, false, false, false, false, false, false, false, false]))) [(4, [], .lit (.pointer (some ⟨b0, 0, none⟩))), (5, [], .lit (.pointer (some ⟨b0, 0, none⟩))), (6, [], .lit (.pointer (some ⟨b0, 0, none⟩))), (7, [], .row (r_ApiWord_cells v0.l)), (8, [], .lit (.pointer (some ⟨b0, 0, none⟩))), (9, [], .lit (.pointer (some ⟨b0, 0, none⟩))), (10, [], .lit (.pointer (some ⟨b0, 1, none⟩))), (11, [], .lit (.int .i64 v0.i)), (12, [], .ref (ApiWord.cells (List.getD v0.l (Int.toNat v0.i) default))), (13, [], .agg ((ApiWord.cells (List.getD v0.l (Int.toNat v0.i) default)))), (3, [], .agg []), (40, [], .lit undef)] (by kernel_rfl) (by kernel_rfl) (by kernel_rfl) (by kernel_rfl) hk ?_; clear hk
  refine FW.gnext ?_ rfl rfl rfl rfl rfl ?_
  · skip
    refine FW.gfun (y := .lit (.pointer (some ⟨b0, 0, none⟩))) rfl rfl rfl rfl (fun a w hk => FW.f_move hk (FW.holds_nil _) rfl) ?_
    refine FW.gfun (y := .lit (.pointer (some ⟨b0, 0, none⟩))) rfl rfl rfl rfl (fun a w hk => (FW.f_pure (FW.p_nilCheck hk.kn (FW.holds_nil _) rfl))) ?_
    refine FW.gfun (y := .lit (.pointer (some ⟨b0, 0, none⟩))) rfl rfl rfl rfl (fun a w hk => FW.f_fieldPtr hk (FW.holds_nil _) rfl Go.Proofs.Try.underlying87 rfl (by kernel_rfl) rfl) ?_
    refine FW.gfun (y := .row (r_ApiWord_cells v0.l)) rfl rfl rfl rfl (fun a w hk => FW.f_loadBlk1 hk (FW.holds_nil _) (j := 0) rfl rfl Go.Proofs.Try.underlying60 rfl rfl) ?_
    refine FW.gfun (y := .lit (.pointer (some ⟨b0, 0, none⟩))) rfl rfl rfl rfl (fun a w hk => FW.f_move hk (FW.holds_nil _) rfl) ?_
    refine FW.gfun (y := .lit (.pointer (some ⟨b0, 0, none⟩))) rfl rfl rfl rfl (fun a w hk => (FW.f_pure (FW.p_nilCheck hk.kn (FW.holds_nil _) rfl))) ?_
    refine FW.gfun (y := .lit (.pointer (some ⟨b0, 1, none⟩))) rfl rfl rfl rfl (fun a w hk => FW.f_fieldPtr hk (FW.holds_nil _) rfl Go.Proofs.Try.underlying87 rfl (by kernel_rfl) rfl) ?_
    refine FW.gfun (y := .lit (.int .i64 v0.i)) rfl rfl rfl rfl (fun a w hk => FW.f_loadBlk1 hk (FW.holds_nil _) (j := 0) rfl rfl Go.Proofs.Try.underlying3 rfl rfl) ?_
    refine FW.gfun (y := .ref (ApiWord.cells (List.getD v0.l (Int.toNat v0.i) default))) rfl rfl rfl rfl (fun a w hk => FW.f_indexAddr (R := r_ApiWord_cells) (f := ApiWord.cells) (l := v0.l) (sz := 5) r_ApiWord_cells_eq (fun _ => rfl) hk (FW.holds_nil _) rfl rfl Go.Proofs.Try.underlying60 (by kernel_rfl) hc1) ?_
    refine FW.gfun (y := .agg ((ApiWord.cells (List.getD v0.l (Int.toNat v0.i) default)))) rfl rfl rfl rfl (fun a w hk => FW.f_load hk (FW.holds_nil _) rfl Go.Proofs.Try.underlying66 rfl rfl rfl rfl) ?_
    refine FW.gskip rfl rfl ?_
    refine FW.gskip0 rfl ?_
    exact FW.gend
  · skip
    intro σD a w opsD QD hk hf hQ hX
    refine FW.l_alloc (zs := (ApiWord.cells (⟨0, [], 0, 0, 0⟩ : ApiWord))) [] hk rfl hf rfl rfl ?_; clear hk; intro bx1 a w hk
    refine hQ _ _ a w ?_ hk; clear hk hQ hf hX
    refine ⟨[(4, [], .lit (.pointer (some ⟨b0, 0, none⟩))), (5, [], .lit (.pointer (some ⟨b0, 0, none⟩))), (6, [], .lit (.pointer (some ⟨b0, 0, none⟩))), (7, [], .row (r_ApiWord_cells v0.l)), (8, [], .lit (.pointer (some ⟨b0, 0, none⟩))), (9, [], .lit (.pointer (some ⟨b0, 0, none⟩))), (10, [], .lit (.pointer (some ⟨b0, 1, none⟩))), (11, [], .lit (.int .i64 v0.i)), (12, [], .ref (ApiWord.cells (List.getD v0.l (Int.toNat v0.i) default))), (13, [], .agg ((ApiWord.cells (List.getD v0.l (Int.toNat v0.i) default)))), (3, [], .lit (.pointer (some ⟨bx1, 0, none⟩))), (40, [], .lit undef)], And.intro rfl (And.intro rfl (And.intro rfl (And.intro rfl (And.intro rfl (And.intro rfl (And.intro rfl (And.intro rfl (And.intro rfl (And.intro rfl (trivial)))))))))), rfl, ?_⟩
    refine FW.gnext0 ?_ rfl rfl rfl ?_
    · skip
      refine FW.gfun (y := .lit (.pointer (some ⟨b0, 0, none⟩))) rfl rfl rfl rfl (fun a w hk => FW.f_move hk (FW.holds_nil _) rfl) ?_
      refine FW.gfun (y := .lit (.pointer (some ⟨b0, 0, none⟩))) rfl rfl rfl rfl (fun a w hk => (FW.f_pure (FW.p_nilCheck hk.kn (FW.holds_nil _) rfl))) ?_
      refine FW.gfun (y := .lit (.pointer (some ⟨b0, 0, none⟩))) rfl rfl rfl rfl (fun a w hk => FW.f_fieldPtr hk (FW.holds_nil _) rfl Go.Proofs.Try.underlying87 rfl (by kernel_rfl) rfl) ?_
      refine FW.gfun (y := .row (r_ApiWord_cells v0.l)) rfl rfl rfl rfl (fun a w hk => FW.f_loadBlk1 hk (FW.holds_nil _) (j := 1) rfl rfl Go.Proofs.Try.underlying60 rfl rfl) ?_
      refine FW.gfun (y := .lit (.pointer (some ⟨b0, 0, none⟩))) rfl rfl rfl rfl (fun a w hk => FW.f_move hk (FW.holds_nil _) rfl) ?_
      refine FW.gfun (y := .lit (.pointer (some ⟨b0, 0, none⟩))) rfl rfl rfl rfl (fun a w hk => (FW.f_pure (FW.p_nilCheck hk.kn (FW.holds_nil _) rfl))) ?_
      refine FW.gfun (y := .lit (.pointer (some ⟨b0, 1, none⟩))) rfl rfl rfl rfl (fun a w hk => FW.f_fieldPtr hk (FW.holds_nil _) rfl Go.Proofs.Try.underlying87 rfl (by kernel_rfl) rfl) ?_
      refine FW.gfun (y := .lit (.int .i64 v0.i)) rfl rfl rfl rfl (fun a w hk => FW.f_loadBlk1 hk (FW.holds_nil _) (j := 1) rfl rfl Go.Proofs.Try.underlying3 rfl rfl) ?_
      refine FW.gfun (y := .ref (ApiWord.cells (List.getD v0.l (Int.toNat v0.i) default))) rfl rfl rfl rfl (fun a w hk => FW.f_indexAddr (R := r_ApiWord_cells) (f := ApiWord.cells) (l := v0.l) (sz := 5) r_ApiWord_cells_eq (fun _ => rfl) hk (FW.holds_nil _) rfl rfl Go.Proofs.Try.underlying60 (by kernel_rfl) hc1) ?_
      refine FW.gfun (y := .agg ((ApiWord.cells (List.getD v0.l (Int.toNat v0.i) default)))) rfl rfl rfl rfl (fun a w hk => FW.f_load hk (FW.holds_nil _) rfl Go.Proofs.Try.underlying66 rfl rfl rfl rfl) ?_
      refine FW.gskip rfl rfl ?_
      refine FW.gskip0 rfl ?_
      exact FW.gend
    · skip
      intro σD a w opsD QD hk hQ hX
      refine FW.l_store (I' := [FW.blk bx1 66 ((ApiWord.cells (List.getD v0.l (Int.toNat v0.i) default))), FW.blk b0 87 ([.row (r_ApiWord_cells v0.l), .lit (.int .i64 v0.i), .lit (.int .i64 v0.deep), .lit (.int .i64 v0.steps)])]) (cs' := (ApiWord.cells (List.getD v0.l (Int.toNat v0.i) default))) (j := 0) hk rfl rfl rfl rfl rfl (by kernel_rfl) rfl rfl ?_; clear hk; intro w hk
      refine hQ _ a w ?_ hk; clear hk hQ hX
      refine ⟨[(4, [], .lit (.pointer (some ⟨b0, 0, none⟩))), (5, [], .lit (.pointer (some ⟨b0, 0, none⟩))), (6, [], .lit (.pointer (some ⟨b0, 0, none⟩))), (7, [], .row (r_ApiWord_cells v0.l)), (8, [], .lit (.pointer (some ⟨b0, 0, none⟩))), (9, [], .lit (.pointer (some ⟨b0, 0, none⟩))), (10, [], .lit (.pointer (some ⟨b0, 1, none⟩))), (11, [], .lit (.int .i64 v0.i)), (12, [], .ref (ApiWord.cells (List.getD v0.l (Int.toNat v0.i) default))), (13, [], .agg ((ApiWord.cells (List.getD v0.l (Int.toNat v0.i) default)))), (3, [], .lit (.pointer (some ⟨bx1, 0, none⟩))), (40, [], .lit undef)], And.intro rfl (And.intro rfl (And.intro rfl (And.intro rfl (And.intro rfl (And.intro rfl (And.intro rfl (And.intro rfl (And.intro rfl (And.intro rfl (And.intro rfl (trivial))))))))))), rfl, ?_⟩
      refine FW.glast ?_ ?_
      · skip
        refine FW.gskip rfl rfl ?_
        refine FW.gskip rfl rfl ?_
        refine FW.gskip rfl rfl ?_
        refine FW.gskip rfl rfl ?_
        refine FW.gskip rfl rfl ?_
        refine FW.gskip rfl rfl ?_
        refine FW.gskip rfl rfl ?_
        refine FW.gskip rfl rfl ?_
        refine FW.gskip rfl rfl ?_
        refine FW.gskip rfl rfl ?_
        refine FW.gskip rfl rfl ?_
        refine FW.gskip0 rfl ?_
        exact FW.gend
      · skip
        intro a w hk; simp only [FW.stD, cond_true] at hk
        refine FW.wseqJ (fun a w => ∃ (y1_0 : List ApiWord) (y1_1 : Int) (y1_2 : Int) (y1_3 : Int) (y2 : ApiWord), FW.S M w0 a w 40 [FW.blk b0 87 ([.row (r_ApiWord_cells y1_0), .lit (.int .i64 y1_1), .lit (.int .i64 y1_2), .lit (.int .i64 y1_3)]), FW.blk bx1 66 ((ApiWord.cells y2))] [(0, [], .lit (.pointer (some ⟨b0, 0, none⟩))), (3, [], .lit (.pointer (some ⟨bx1, 0, none⟩)))] ∧ parse_parser_name.j1 y1_0 y1_1 y1_2 y1_3 y2 = some r) ?_ ?_
        · clear hk h
          rintro a w ⟨y1_0, y1_1, y1_2, y1_3, y2, hk, h⟩
          unfold parse_parser_name.j1 at h
          refine FW.wreg ?_; intro K' hK4
          refine FW.lfun (y := .lit (.pointer (some ⟨b0, 0, none⟩))) hk rfl rfl rfl rfl (FW.f_move hk (FW.holds_nil _) rfl) ?_; clear hk; intro a w hk
          refine FW.lfun (y := .lit (.pointer (some ⟨b0, 0, none⟩))) hk rfl rfl rfl rfl ((FW.f_pure (FW.p_nilCheck hk.kn (FW.holds_nil _) rfl))) ?_; clear hk; intro a w hk
          refine FW.lfun (y := .lit (.pointer (some ⟨b0, 1, none⟩))) hk rfl rfl rfl rfl (FW.f_fieldPtr hk (FW.holds_nil _) rfl Go.Proofs.Try.underlying87 rfl (by kernel_rfl) rfl) ?_; clear hk; intro a w hk
          refine FW.lfun (y := .lit (.int .i64 y1_1)) hk rfl rfl rfl rfl (FW.f_loadBlk1 hk (FW.holds_nil _) (j := 0) rfl rfl Go.Proofs.Try.underlying3 rfl rfl) ?_; clear hk; intro a w hk
          refine FW.lfun (y := .lit (.int .i64 (IntKind.wrap .i64 (y1_1 + 1)))) hk rfl rfl rfl rfl ((FW.f_pure (FW.p_add hk.kn (FW.holds_nil _) rfl rfl))) ?_; clear hk; intro a w hk
          refine FW.lfun (y := .lit (.pointer (some ⟨b0, 0, none⟩))) hk rfl rfl rfl rfl ((FW.f_pure (FW.p_nilCheck hk.kn (FW.holds_nil _) rfl))) ?_; clear hk; intro a w hk
          refine FW.lfun (y := .lit (.pointer (some ⟨b0, 1, none⟩))) hk rfl rfl rfl rfl (FW.f_fieldPtr hk (FW.holds_nil _) rfl Go.Proofs.Try.underlying87 rfl (by kernel_rfl) rfl) ?_; clear hk; intro a w hk
          refine FW.l_store (I' := [FW.blk b0 87 ([.row (r_ApiWord_cells y1_0), .lit (.int .i64 (IntKind.wrap .i64 (y1_1 + 1))), .lit (.int .i64 y1_2), .lit (.int .i64 y1_3)]), FW.blk bx1 66 ((ApiWord.cells y2))]) (cs' := [.row (r_ApiWord_cells y1_0), .lit (.int .i64 (IntKind.wrap .i64 (y1_1 + 1))), .lit (.int .i64 y1_2), .lit (.int .i64 y1_3)]) (j := 0) hk rfl rfl rfl rfl rfl (by kernel_rfl) rfl rfl ?_; clear hk; intro w hk
          refine FW.lend (hK4 _ _ ?_); clear hK4 K'
          refine FW.wreg ?_; intro K' hK5
          refine FW.lfun (y := .lit (.pointer (some ⟨bx1, 1, none⟩))) hk rfl rfl rfl rfl (FW.f_fieldPtr hk (FW.holds_nil _) rfl Go.Proofs.Try.underlying66 rfl (by kernel_rfl) rfl) ?_; clear hk; intro a w hk
          refine FW.lfun (y := .lit (.string (FW.B y2.S))) hk rfl rfl rfl rfl (FW.f_loadBlk1 hk (FW.holds_nil _) (j := 1) rfl rfl Go.Proofs.Try.underlying9 rfl rfl) ?_; clear hk; intro a w hk
          refine FW.lfun (y := .lit (.string (FW.B y2.S))) hk rfl rfl rfl rfl (FW.f_assign hk (FW.holds_nil _) rfl) ?_; clear hk; intro a w hk
          refine FW.lend (hK5 _ _ ?_); clear hK5 K'
          refine wp_ret ?_
          (repeat first | refine FW.then_ret ?_ | refine FW.block_ret ?_)
          obtain rfl := Option.some.inj h
          replace hk := FW.S.keep (I1 := [FW.blk b0 87 ([.row (r_ApiWord_cells y1_0), .lit (.int .i64 (IntKind.wrap .i64 (y1_1 + 1))), .lit (.int .i64 y1_2), .lit (.int .i64 y1_3)])]) (I2 := [FW.blk bx1 66 ((ApiWord.cells y2))]) (js := [0]) hk rfl
          exact FW.toXq (FW.fretH1 hk rfl (FW.rtmp hk rfl) ⟨rfl, rfl⟩)
        · intro K' hK3
          refine FW.wreg ?_; intro K' hK6
          refine FW.lfun (y := .lit (.pointer (some ⟨bx1, 0, none⟩))) hk rfl rfl rfl rfl (FW.f_fieldPtr hk (FW.holds_nil _) rfl Go.Proofs.Try.underlying66 rfl (by kernel_rfl) rfl) ?_; clear hk; intro a w hk
          refine FW.lfun (y := .lit (.int .i64 ((List.getD v0.l (Int.toNat v0.i) default).Kind))) hk rfl rfl rfl rfl (FW.f_loadBlk1 hk (FW.holds_nil _) (j := 0) rfl rfl Go.Proofs.Try.underlying3 rfl rfl) ?_; clear hk; intro a w hk
          refine FW.lfun (y := .lit (.bool (!decide (((List.getD v0.l (Int.toNat v0.i) default).Kind) = 1)))) hk rfl rfl rfl rfl ((FW.f_pure (FW.p_neq hk.kn (FW.holds_nil _) rfl rfl))) ?_; clear hk; intro a w hk
          refine FW.lfun (y := .lit (.bool (!decide (((List.getD v0.l (Int.toNat v0.i) default).Kind) = 1)))) hk rfl rfl rfl rfl (FW.f_move hk (FW.holds_nil _) rfl) ?_; clear hk; intro a w hk
          refine FW.lfunG (y := .lit (.pointer (some ⟨bx1, 1, none⟩))) hk rfl rfl rfl rfl rfl rfl rfl rfl (fun hc => FW.f_fieldPtr hk hc rfl Go.Proofs.Try.underlying66 rfl (by kernel_rfl) rfl) ?_; clear hk; intro a w hk
          refine FW.lfunG (y := .lit (.string (FW.B ((List.getD v0.l (Int.toNat v0.i) default).S)))) hk rfl rfl rfl rfl rfl rfl rfl rfl (fun hc => FW.f_loadBlk1 hk hc (j := 0) rfl rfl Go.Proofs.Try.underlying9 rfl rfl) ?_; clear hk; intro a w hk
          obtain ⟨hc2, h⟩ := FW.chk h
          refine FW.lfunG (y := .lit (.int .u8 (FW.bt ((List.getD v0.l (Int.toNat v0.i) default).S) 0))) hk rfl rfl rfl rfl rfl rfl rfl rfl (fun hc => (FW.f_pure (FW.p_index Go.Proofs.Try.underlying9 hk.kn hc rfl rfl hc2))) ?_; clear hk; intro a w hk
          refine FW.lfunG (y := .lit (.bool (decide (48 ≤ (FW.bt ((List.getD v0.l (Int.toNat v0.i) default).S) 0))))) hk rfl rfl rfl rfl rfl rfl rfl rfl (fun hc => (FW.f_pure (FW.p_geq hk.kn hc rfl rfl))) ?_; clear hk; intro a w hk
          refine FW.lfunG (y := .lit (.bool (decide (48 ≤ (FW.bt ((List.getD v0.l (Int.toNat v0.i) default).S) 0))))) hk rfl rfl rfl rfl rfl rfl rfl rfl (fun hc => FW.f_move hk hc rfl) ?_; clear hk; intro a w hk
          refine FW.lfunG (y := .lit (.pointer (some ⟨bx1, 1, none⟩))) hk rfl rfl rfl rfl rfl rfl rfl rfl (fun hc => FW.f_fieldPtr hk hc rfl Go.Proofs.Try.underlying66 rfl (by kernel_rfl) rfl) ?_; clear hk; intro a w hk
          refine FW.lfunG (y := .lit (.string (FW.B ((List.getD v0.l (Int.toNat v0.i) default).S)))) hk rfl rfl rfl rfl rfl rfl rfl rfl (fun hc => FW.f_loadBlk1 hk hc (j := 0) rfl rfl Go.Proofs.Try.underlying9 rfl rfl) ?_; clear hk; intro a w hk
          obtain ⟨hc3, h⟩ := FW.chk h
          refine FW.lfunG (y := .lit (.int .u8 (FW.bt ((List.getD v0.l (Int.toNat v0.i) default).S) 0))) hk rfl rfl rfl rfl rfl rfl rfl rfl (fun hc => (FW.f_pure (FW.p_index Go.Proofs.Try.underlying9 hk.kn hc rfl rfl hc3))) ?_; clear hk; intro a w hk
          refine FW.lfunG (y := .lit (.bool (decide ((FW.bt ((List.getD v0.l (Int.toNat v0.i) default).S) 0) ≤ 57)))) hk rfl rfl rfl rfl rfl rfl rfl rfl (fun hc => (FW.f_pure (FW.p_leq hk.kn hc rfl rfl))) ?_; clear hk; intro a w hk
          refine FW.lfunG (y := .lit (.bool ((decide (48 ≤ (FW.bt ((List.getD v0.l (Int.toNat v0.i) default).S) 0))) && (decide ((FW.bt ((List.getD v0.l (Int.toNat v0.i) default).S) 0) ≤ 57))))) hk rfl rfl rfl rfl rfl rfl rfl rfl (fun hc => (FW.f_pure (FW.p_pick_and hk.kn hc rfl rfl))) ?_; clear hk; intro a w hk
          refine FW.lfun (y := .lit (.bool ((!decide (((List.getD v0.l (Int.toNat v0.i) default).Kind) = 1)) || ((decide (48 ≤ (FW.bt ((List.getD v0.l (Int.toNat v0.i) default).S) 0))) && (decide ((FW.bt ((List.getD v0.l (Int.toNat v0.i) default).S) 0) ≤ 57)))))) hk rfl rfl rfl rfl ((FW.f_pure (FW.p_pick_or hk.kn (FW.holds_nil _) rfl rfl))) ?_; clear hk; intro a w hk
          refine FW.lend (hK6 _ _ ?_); clear hK6 K'
          refine FW.wcondF (b := ((!decide (((List.getD v0.l (Int.toNat v0.i) default).Kind) = 1)) || ((decide (48 ≤ (FW.bt ((List.getD v0.l (Int.toNat v0.i) default).S) 0))) && (decide ((FW.bt ((List.getD v0.l (Int.toNat v0.i) default).S) 0) ≤ 57))))) hk h rfl (fun h hb => ?_) (fun h hb => ?_)
          · skip
            refine FW.wreg1 ?_
            refine FW.lfun (y := .lit (.pointer (some ⟨b0, 0, none⟩))) hk rfl rfl rfl rfl (FW.f_move hk (FW.holds_nil _) rfl) ?_; clear hk; intro a w hk
            rcases FW.bndX h with ⟨e_t1, hr_t1, rfl⟩ | ⟨t1, hr_t1, h⟩
            · skip
              refine FW.l_callXE (I1 := (OParseParser.items b0 v0)) (I2 := [FW.blk bx1 66 ((ApiWord.cells (List.getD v0.l (Int.toNat v0.i) default)))]) (js := [1]) hk rfl rfl rfl Go.Proofs.Try.func65 rfl (by kernel_rfl) (parse_parser_stop.ok v0 120 _ hr_t1 b0) ?_; clear hk
              rintro _ _ ⟨vE1, rfl, rfl⟩ w hk
              exact FW.fpan (P := Go.Proofs.Try.prog) (fn := Go.Proofs.Try.f64) (I1 := [FW.blk b0 87 ([.row (r_ApiWord_cells vE1.l), .lit (.int .i64 vE1.i), .lit (.int .i64 vE1.deep), .lit (.int .i64 vE1.steps)])]) (I2 := [FW.blk bx1 66 ((ApiWord.cells (List.getD v0.l (Int.toNat v0.i) default)))]) (js := [0]) hk rfl ⟨_, rfl, vE1, rfl, rfl⟩
            refine FW.l_callH (I1 := (OParseParser.items b0 v0)) (I2 := [FW.blk bx1 66 ((ApiWord.cells (List.getD v0.l (Int.toNat v0.i) default)))]) (js := [1]) hk rfl rfl rfl rfl rfl Go.Proofs.Try.func65 rfl (by kernel_rfl) (FW.OkX.toH (parse_parser_stop.ok v0 120 _ hr_t1 b0)) ?_; clear hk
            rintro _ _ ⟨rfl, rfl⟩ a w hk
            refine wpList_nil ?_
            (repeat first | refine FW.then_normal ?_ | refine FW.block_normal ?_); exact hK3 _ _ ⟨t1.l, t1.i, t1.deep, t1.steps, (List.getD v0.l (Int.toNat v0.i) default), hk.sub ⟨rfl, rfl, trivial⟩, h⟩
          · skip
            refine wp_skip ?_
            (repeat first | refine FW.then_normal ?_ | refine FW.block_normal ?_); exact hK3 _ _ ⟨v0.l, v0.i, v0.deep, v0.steps, (List.getD v0.l (Int.toNat v0.i) default), (FW.S.pick hk (js := [0, 1]) rfl).sub ⟨rfl, rfl, trivial⟩, h⟩

theorem parse_parser_sign.ok  (v0 : OParseParser) (v1 : List UInt8) (r : Bool × OParseParser) (h : parse_parser_sign.f v0 v1 = some r) :
    ∀ (b0 : Nat), FW.OkH Go.Proofs.Try.prog 92 [.lit (.pointer (some ⟨b0, 0, none⟩)), .lit (.string (FW.B v1))] (OParseParser.items b0 v0) (fun y I => y = .lit (.bool r.1) ∧ I = OParseParser.items b0 r.2) := by
  intro b0
  refine FW.enterH (xs := [.lit (.pointer (some ⟨b0, 0, none⟩)), .lit (.string (FW.B v1))]) Go.Proofs.Try.func92 rfl Go.Proofs.Try.ntmps92 rfl ?_
  intro M w0 a hk
  replace hk : FW.S M w0 a w0.toWorld 32 [FW.blk b0 87 ([.row (r_ApiWord_cells v0.l), .lit (.int .i64 v0.i), .lit (.int .i64 v0.deep), .lit (.int .i64 v0.steps)])] [(0, [], .lit (.pointer (some ⟨b0, 0, none⟩))), (1, [], .lit (.string (FW.B v1)))] := hk
  unfold parse_parser_sign.f at h
  refine FW.wreg ?_; intro K' hK1
  refine FW.lfun (y := .lit (.bool false)) hk rfl rfl rfl rfl (FW.f_assign hk (FW.holds_nil _) rfl) ?_; clear hk; intro a w hk
  refine FW.lend (hK1 _ _ ?_); clear hK1 K'
  obtain ⟨hc1, h⟩ := FW.chk h
  refine FW.wdrawE (.next [true, true, true, true, true, true, true, true, true, true, false, false] 10 [true, true, true, true, true, true, true, true, true, true, false, false] (.next [true, true, true, true, true, true, true, true, true, true, false, false] 11 [true, true, true, true, true, true, true, true, true, true, true, false] (.leaf [false, false, false, false, false, false, false, false, false, false, false, false]))) [(6, [], .lit (.pointer (some ⟨b0, 0, none⟩))), (7, [], .lit (.pointer (some ⟨b0, 0, none⟩))), (8, [], .lit (.pointer (some ⟨b0, 0, none⟩))), (9, [], .row (r_ApiWord_cells v0.l)), (10, [], .lit (.pointer (some ⟨b0, 0, none⟩))), (11, [], .lit (.pointer (some ⟨b0, 0, none⟩))), (12, [], .lit (.pointer (some ⟨b0, 1, none⟩))), (13, [], .lit (.int .i64 v0.i)), (14, [], .ref (ApiWord.cells (List.getD v0.l (Int.toNat v0.i) default))), (15, [], .agg ((ApiWord.cells (List.getD v0.l (Int.toNat v0.i) default)))), (5, [], .agg []), (32, [], .lit undef)] (by kernel_rfl) (by kernel_rfl) (by kernel_rfl) (by kernel_rfl) hk ?_; clear hk
  refine FW.gnext ?_ rfl rfl rfl rfl rfl ?_
  · skip
    refine FW.gfun (y := .lit (.pointer (some ⟨b0, 0, none⟩))) rfl rfl rfl rfl (fun a w hk => FW.f_move hk (FW.holds_nil _) rfl) ?_
    refine FW.gfun (y := .lit (.pointer (some ⟨b0, 0, none⟩))) rfl rfl rfl rfl (fun a w hk => (FW.f_pure (FW.p_nilCheck hk.kn (FW.holds_nil _) rfl))) ?_
    refine FW.gfun (y := .lit (.pointer (some ⟨b0, 0, none⟩))) rfl rfl rfl rfl (fun a w hk => FW.f_fieldPtr hk (FW.holds_nil _) rfl Go.Proofs.Try.underlying87 rfl (by kernel_rfl) rfl) ?_
    refine FW.gfun (y := .row (r_ApiWord_cells v0.l)) rfl rfl rfl rfl (fun a w hk => FW.f_loadBlk1 hk (FW.holds_nil _) (j := 0) rfl rfl Go.Proofs.Try.underlying60 rfl rfl) ?_
    refine FW.gfun (y := .lit (.pointer (some ⟨b0, 0, none⟩))) rfl rfl rfl rfl (fun a w hk => FW.f_move hk (FW.holds_nil _) rfl) ?_
    refine FW.gfun (y := .lit (.pointer (some ⟨b0, 0, none⟩))) rfl rfl rfl rfl (fun a w hk => (FW.f_pure (FW.p_nilCheck hk.kn (FW.holds_nil _) rfl))) ?_
    refine FW.gfun (y := .lit (.pointer (some ⟨b0, 1, none⟩))) rfl rfl rfl rfl (fun a w hk => FW.f_fieldPtr hk (FW.holds_nil _) rfl Go.Proofs.Try.underlying87 rfl (by kernel_rfl) rfl) ?_
    refine FW.gfun (y := .lit (.int .i64 v0.i)) rfl rfl rfl rfl (fun a w hk => FW.f_loadBlk1 hk (FW.holds_nil _) (j := 0) rfl rfl Go.Proofs.Try.underlying3 rfl rfl) ?_
    refine FW.gfun (y := .ref (ApiWord.cells (List.getD v0.l (Int.toNat v0.i) default))) rfl rfl rfl rfl (fun a w hk => FW.f_indexAddr (R := r_ApiWord_cells) (f := ApiWord.cells) (l := v0.l) (sz := 5) r_ApiWord_cells_eq (fun _ => rfl) hk (FW.holds_nil _) rfl rfl Go.Proofs.Try.underlying60 (by kernel_rfl) hc1) ?_
    refine FW.gfun (y := .agg ((ApiWord.cells (List.getD v0.l (Int.toNat v0.i) default)))) rfl rfl rfl rfl (fun a w hk => FW.f_load hk (FW.holds_nil _) rfl Go.Proofs.Try.underlying66 rfl rfl rfl rfl) ?_
    refine FW.gskip rfl rfl ?_
    refine FW.gskip0 rfl ?_
    exact FW.gend
  · skip
    intro σD a w opsD QD hk hf hQ hX
    refine FW.l_alloc (zs := (ApiWord.cells (⟨0, [], 0, 0, 0⟩ : ApiWord))) [] hk rfl hf rfl rfl ?_; clear hk; intro bx1 a w hk
    refine hQ _ _ a w ?_ hk; clear hk hQ hf hX
    refine ⟨[(6, [], .lit (.pointer (some ⟨b0, 0, none⟩))), (7, [], .lit (.pointer (some ⟨b0, 0, none⟩))), (8, [], .lit (.pointer (some ⟨b0, 0, none⟩))), (9, [], .row (r_ApiWord_cells v0.l)), (10, [], .lit (.pointer (some ⟨b0, 0, none⟩))), (11, [], .lit (.pointer (some ⟨b0, 0, none⟩))), (12, [], .lit (.pointer (some ⟨b0, 1, none⟩))), (13, [], .lit (.int .i64 v0.i)), (14, [], .ref (ApiWord.cells (List.getD v0.l (Int.toNat v0.i) default))), (15, [], .agg ((ApiWord.cells (List.getD v0.l (Int.toNat v0.i) default)))), (5, [], .lit (.pointer (some ⟨bx1, 0, none⟩))), (32, [], .lit undef)], And.intro rfl (And.intro rfl (And.intro rfl (And.intro rfl (And.intro rfl (And.intro rfl (And.intro rfl (And.intro rfl (And.intro rfl (And.intro rfl (trivial)))))))))), rfl, ?_⟩
    refine FW.gnext0 ?_ rfl rfl rfl ?_
    · skip
      refine FW.gfun (y := .lit (.pointer (some ⟨b0, 0, none⟩))) rfl rfl rfl rfl (fun a w hk => FW.f_move hk (FW.holds_nil _) rfl) ?_
      refine FW.gfun (y := .lit (.pointer (some ⟨b0, 0, none⟩))) rfl rfl rfl rfl (fun a w hk => (FW.f_pure (FW.p_nilCheck hk.kn (FW.holds_nil _) rfl))) ?_
      refine FW.gfun (y := .lit (.pointer (some ⟨b0, 0, none⟩))) rfl rfl rfl rfl (fun a w hk => FW.f_fieldPtr hk (FW.holds_nil _) rfl Go.Proofs.Try.underlying87 rfl (by kernel_rfl) rfl) ?_
      refine FW.gfun (y := .row (r_ApiWord_cells v0.l)) rfl rfl rfl rfl (fun a w hk => FW.f_loadBlk1 hk (FW.holds_nil _) (j := 1) rfl rfl Go.Proofs.Try.underlying60 rfl rfl) ?_
      refine FW.gfun (y := .lit (.pointer (some ⟨b0, 0, none⟩))) rfl rfl rfl rfl (fun a w hk => FW.f_move hk (FW.holds_nil _) rfl) ?_
      refine FW.gfun (y := .lit (.pointer (some ⟨b0, 0, none⟩))) rfl rfl rfl rfl (fun a w hk => (FW.f_pure (FW.p_nilCheck hk.kn (FW.holds_nil _) rfl))) ?_
      refine FW.gfun (y := .lit (.pointer (some ⟨b0, 1, none⟩))) rfl rfl rfl rfl (fun a w hk => FW.f_fieldPtr hk (FW.holds_nil _) rfl Go.Proofs.Try.underlying87 rfl (by kernel_rfl) rfl) ?_
      refine FW.gfun (y := .lit (.int .i64 v0.i)) rfl rfl rfl rfl (fun a w hk => FW.f_loadBlk1 hk (FW.holds_nil _) (j := 1) rfl rfl Go.Proofs.Try.underlying3 rfl rfl) ?_
      refine FW.gfun (y := .ref (ApiWord.cells (List.getD v0.l (Int.toNat v0.i) default))) rfl rfl rfl rfl (fun a w hk => FW.f_indexAddr (R := r_ApiWord_cells) (f := ApiWord.cells) (l := v0.l) (sz := 5) r_ApiWord_cells_eq (fun _ => rfl) hk (FW.holds_nil _) rfl rfl Go.Proofs.Try.underlying60 (by kernel_rfl) hc1) ?_
      refine FW.gfun (y := .agg ((ApiWord.cells (List.getD v0.l (Int.toNat v0.i) default)))) rfl rfl rfl rfl (fun a w hk => FW.f_load hk (FW.holds_nil _) rfl Go.Proofs.Try.underlying66 rfl rfl rfl rfl) ?_
      refine FW.gskip rfl rfl ?_
      refine FW.gskip0 rfl ?_
      exact FW.gend
    · skip
      intro σD a w opsD QD hk hQ hX
      refine FW.l_store (I' := [FW.blk bx1 66 ((ApiWord.cells (List.getD v0.l (Int.toNat v0.i) default))), FW.blk b0 87 ([.row (r_ApiWord_cells v0.l), .lit (.int .i64 v0.i), .lit (.int .i64 v0.deep), .lit (.int .i64 v0.steps)])]) (cs' := (ApiWord.cells (List.getD v0.l (Int.toNat v0.i) default))) (j := 0) hk rfl rfl rfl rfl rfl (by kernel_rfl) rfl rfl ?_; clear hk; intro w hk
      refine hQ _ a w ?_ hk; clear hk hQ hX
      refine ⟨[(6, [], .lit (.pointer (some ⟨b0, 0, none⟩))), (7, [], .lit (.pointer (some ⟨b0, 0, none⟩))), (8, [], .lit (.pointer (some ⟨b0, 0, none⟩))), (9, [], .row (r_ApiWord_cells v0.l)), (10, [], .lit (.pointer (some ⟨b0, 0, none⟩))), (11, [], .lit (.pointer (some ⟨b0, 0, none⟩))), (12, [], .lit (.pointer (some ⟨b0, 1, none⟩))), (13, [], .lit (.int .i64 v0.i)), (14, [], .ref (ApiWord.cells (List.getD v0.l (Int.toNat v0.i) default))), (15, [], .agg ((ApiWord.cells (List.getD v0.l (Int.toNat v0.i) default)))), (5, [], .lit (.pointer (some ⟨bx1, 0, none⟩))), (32, [], .lit undef)], And.intro rfl (And.intro rfl (And.intro rfl (And.intro rfl (And.intro rfl (And.intro rfl (And.intro rfl (And.intro rfl (And.intro rfl (And.intro rfl (And.intro rfl (trivial))))))))))), rfl, ?_⟩
      refine FW.glast ?_ ?_
      · skip
        refine FW.gskip rfl rfl ?_
        refine FW.gskip rfl rfl ?_
        refine FW.gskip rfl rfl ?_
        refine FW.gskip rfl rfl ?_
        refine FW.gskip rfl rfl ?_
        refine FW.gskip rfl rfl ?_
        refine FW.gskip rfl rfl ?_
        refine FW.gskip rfl rfl ?_
        refine FW.gskip rfl rfl ?_
        refine FW.gskip rfl rfl ?_
        refine FW.gskip rfl rfl ?_
        refine FW.gskip0 rfl ?_
        exact FW.gend
      · skip
        intro a w hk; simp only [FW.stD, cond_true] at hk
        refine FW.wseq ?_; intro K' hK3
        refine FW.wreg ?_; intro K' hK4
        refine FW.lfun (y := .lit (.pointer (some ⟨bx1, 0, none⟩))) hk rfl rfl rfl rfl (FW.f_fieldPtr hk (FW.holds_nil _) rfl Go.Proofs.Try.underlying66 rfl (by kernel_rfl) rfl) ?_; clear hk; intro a w hk
        refine FW.lfun (y := .lit (.int .i64 ((List.getD v0.l (Int.toNat v0.i) default).Kind))) hk rfl rfl rfl rfl (FW.f_loadBlk1 hk (FW.holds_nil _) (j := 0) rfl rfl Go.Proofs.Try.underlying3 rfl rfl) ?_; clear hk; intro a w hk
        refine FW.lfun (y := .lit (.bool (!decide (((List.getD v0.l (Int.toNat v0.i) default).Kind) = 5)))) hk rfl rfl rfl rfl ((FW.f_pure (FW.p_neq hk.kn (FW.holds_nil _) rfl rfl))) ?_; clear hk; intro a w hk
        refine FW.lfun (y := .lit (.bool (!decide (((List.getD v0.l (Int.toNat v0.i) default).Kind) = 5)))) hk rfl rfl rfl rfl (FW.f_move hk (FW.holds_nil _) rfl) ?_; clear hk; intro a w hk
        refine FW.lfunG (y := .lit (.pointer (some ⟨bx1, 1, none⟩))) hk rfl rfl rfl rfl rfl rfl rfl rfl (fun hc => FW.f_fieldPtr hk hc rfl Go.Proofs.Try.underlying66 rfl (by kernel_rfl) rfl) ?_; clear hk; intro a w hk
        refine FW.lfunG (y := .lit (.string (FW.B ((List.getD v0.l (Int.toNat v0.i) default).S)))) hk rfl rfl rfl rfl rfl rfl rfl rfl (fun hc => FW.f_loadBlk1 hk hc (j := 0) rfl rfl Go.Proofs.Try.underlying9 rfl rfl) ?_; clear hk; intro a w hk
        refine FW.lfunG (y := .lit (.string (FW.B v1))) hk rfl rfl rfl rfl rfl rfl rfl rfl (fun hc => FW.f_move hk hc rfl) ?_; clear hk; intro a w hk
        refine FW.lfunG (y := .lit (.bool (!decide (((List.getD v0.l (Int.toNat v0.i) default).S) = v1)))) hk rfl rfl rfl rfl rfl rfl rfl rfl (fun hc => (FW.f_pure (FW.p_sneq hk.kn hc rfl rfl))) ?_; clear hk; intro a w hk
        refine FW.lfun (y := .lit (.bool ((!decide (((List.getD v0.l (Int.toNat v0.i) default).Kind) = 5)) || (!decide (((List.getD v0.l (Int.toNat v0.i) default).S) = v1))))) hk rfl rfl rfl rfl ((FW.f_pure (FW.p_pick_or hk.kn (FW.holds_nil _) rfl rfl))) ?_; clear hk; intro a w hk
        refine FW.lend (hK4 _ _ ?_); clear hK4 K'
        refine FW.wcondF (b := ((!decide (((List.getD v0.l (Int.toNat v0.i) default).Kind) = 5)) || (!decide (((List.getD v0.l (Int.toNat v0.i) default).S) = v1)))) hk h rfl (fun h hb => ?_) (fun h hb => ?_)
        · skip
          refine FW.wreg ?_; intro K' hK5
          refine FW.lfun (y := .lit (.bool false)) hk rfl rfl rfl rfl (FW.f_assign hk (FW.holds_nil _) rfl) ?_; clear hk; intro a w hk
          refine FW.lend (hK5 _ _ ?_); clear hK5 K'
          refine wp_ret ?_
          (repeat first | refine FW.then_ret ?_ | refine FW.block_ret ?_)
          obtain rfl := Option.some.inj h
          replace hk := FW.S.keep (I1 := [FW.blk b0 87 ([.row (r_ApiWord_cells v0.l), .lit (.int .i64 v0.i), .lit (.int .i64 v0.deep), .lit (.int .i64 v0.steps)])]) (I2 := [FW.blk bx1 66 ((ApiWord.cells (List.getD v0.l (Int.toNat v0.i) default)))]) (js := [1]) hk rfl
          exact FW.fretH1 hk rfl (FW.rtmp hk rfl) ⟨rfl, rfl⟩
        · skip
          refine wp_skip ?_
          (repeat first | refine FW.then_normal ?_ | refine FW.block_normal ?_); refine hK3 _ _ ?_
          refine FW.wreg ?_; intro K' hK6
          refine FW.lfun (y := .lit (.pointer (some ⟨b0, 0, none⟩))) hk rfl rfl rfl rfl (FW.f_move hk (FW.holds_nil _) rfl) ?_; clear hk; intro a w hk
          refine FW.lfun (y := .lit (.pointer (some ⟨b0, 0, none⟩))) hk rfl rfl rfl rfl ((FW.f_pure (FW.p_nilCheck hk.kn (FW.holds_nil _) rfl))) ?_; clear hk; intro a w hk
          refine FW.lfun (y := .lit (.pointer (some ⟨b0, 1, none⟩))) hk rfl rfl rfl rfl (FW.f_fieldPtr hk (FW.holds_nil _) rfl Go.Proofs.Try.underlying87 rfl (by kernel_rfl) rfl) ?_; clear hk; intro a w hk
          refine FW.lfun (y := .lit (.int .i64 v0.i)) hk rfl rfl rfl rfl (FW.f_loadBlk1 hk (FW.holds_nil _) (j := 1) rfl rfl Go.Proofs.Try.underlying3 rfl rfl) ?_; clear hk; intro a w hk
          refine FW.lfun (y := .lit (.int .i64 (IntKind.wrap .i64 (v0.i + 1)))) hk rfl rfl rfl rfl ((FW.f_pure (FW.p_add hk.kn (FW.holds_nil _) rfl rfl))) ?_; clear hk; intro a w hk
          refine FW.lfun (y := .lit (.pointer (some ⟨b0, 0, none⟩))) hk rfl rfl rfl rfl ((FW.f_pure (FW.p_nilCheck hk.kn (FW.holds_nil _) rfl))) ?_; clear hk; intro a w hk
          refine FW.lfun (y := .lit (.pointer (some ⟨b0, 1, none⟩))) hk rfl rfl rfl rfl (FW.f_fieldPtr hk (FW.holds_nil _) rfl Go.Proofs.Try.underlying87 rfl (by kernel_rfl) rfl) ?_; clear hk; intro a w hk
          refine FW.l_store (I' := [FW.blk bx1 66 ((ApiWord.cells (List.getD v0.l (Int.toNat v0.i) default))), FW.blk b0 87 ([.row (r_ApiWord_cells v0.l), .lit (.int .i64 (IntKind.wrap .i64 (v0.i + 1))), .lit (.int .i64 v0.deep), .lit (.int .i64 v0.steps)])]) (cs' := [.row (r_ApiWord_cells v0.l), .lit (.int .i64 (IntKind.wrap .i64 (v0.i + 1))), .lit (.int .i64 v0.deep), .lit (.int .i64 v0.steps)]) (j := 1) hk rfl rfl rfl rfl rfl (by kernel_rfl) rfl rfl ?_; clear hk; intro w hk
          refine FW.lend (hK6 _ _ ?_); clear hK6 K'
          refine FW.wreg ?_; intro K' hK7
          refine FW.lfun (y := .lit (.bool true)) hk rfl rfl rfl rfl (FW.f_assign hk (FW.holds_nil _) rfl) ?_; clear hk; intro a w hk
          refine FW.lend (hK7 _ _ ?_); clear hK7 K'
          refine wp_ret ?_
          (repeat first | refine FW.then_ret ?_ | refine FW.block_ret ?_)
          obtain rfl := Option.some.inj h
          replace hk := FW.S.keep (I1 := [FW.blk b0 87 ([.row (r_ApiWord_cells v0.l), .lit (.int .i64 (IntKind.wrap .i64 (v0.i + 1))), .lit (.int .i64 v0.deep), .lit (.int .i64 v0.steps)])]) (I2 := [FW.blk bx1 66 ((ApiWord.cells (List.getD v0.l (Int.toNat v0.i) default)))]) (js := [1]) hk rfl
          exact FW.fretH1 hk rfl (FW.rtmp hk rfl) ⟨rfl, rfl⟩

theorem parse_parser_must.ok  (v0 : OParseParser) (v1 : List UInt8) (r : Except (Int × Int) OParseParser) (h : parse_parser_must.f v0 v1 = some r) :
    ∀ (b0 : Nat), FW.OkX Go.Proofs.Try.prog 66 [.lit (.pointer (some ⟨b0, 0, none⟩)), .lit (.string (FW.B v1))] (OParseParser.items b0 v0) (FW.qX r (fun rr => fun y I => y = .tup [] ∧ I = OParseParser.items b0 rr) (fun e pv I => ∃ (o0 : OParseParser), pv = FW.faultV 115 e ∧ I = OParseParser.items b0 o0)) := by
  intro b0
  refine FW.enterX (xs := [.lit (.pointer (some ⟨b0, 0, none⟩)), .lit (.string (FW.B v1))]) Go.Proofs.Try.func66 rfl Go.Proofs.Try.ntmps66 rfl ?_
  intro M w0 a hk
  replace hk : FW.S M w0 a w0.toWorld 10 [FW.blk b0 87 ([.row (r_ApiWord_cells v0.l), .lit (.int .i64 v0.i), .lit (.int .i64 v0.deep), .lit (.int .i64 v0.steps)])] [(0, [], .lit (.pointer (some ⟨b0, 0, none⟩))), (1, [], .lit (.string (FW.B v1)))] := hk
  unfold parse_parser_must.f at h
  refine FW.wreg ?_; intro K' hK1
  refine FW.lfun (y := .lit (.pointer (some ⟨b0, 0, none⟩))) hk rfl rfl rfl rfl (FW.f_move hk (FW.holds_nil _) rfl) ?_; clear hk; intro a w hk
  refine FW.lfun (y := .lit (.string (FW.B v1))) hk rfl rfl rfl rfl (FW.f_move hk (FW.holds_nil _) rfl) ?_; clear hk; intro a w hk
  obtain ⟨t1, hr_t1, h⟩ := FW.bnd h
  refine FW.l_callH (I1 := (OParseParser.items b0 v0)) (I2 := []) (js := [0]) hk rfl rfl rfl rfl rfl Go.Proofs.Try.func92 rfl (by kernel_rfl) (parse_parser_sign.ok v0 v1 _ hr_t1 b0) ?_; clear hk
  rintro _ _ ⟨rfl, rfl⟩ a w hk
  refine FW.lfun (y := .lit (.bool (!t1.1))) hk rfl rfl rfl rfl ((FW.f_pure (FW.p_not hk.kn (FW.holds_nil _) rfl))) ?_; clear hk; intro a w hk
  refine FW.lend (hK1 _ _ ?_); clear hK1 K'
  refine FW.wcondF (b := (!t1.1)) hk h rfl (fun h hb => ?_) (fun h hb => ?_)
  · skip
    refine FW.wreg1 ?_
    refine FW.lfun (y := .lit (.pointer (some ⟨b0, 0, none⟩))) hk rfl rfl rfl rfl (FW.f_move hk (FW.holds_nil _) rfl) ?_; clear hk; intro a w hk
    rcases FW.bndX h with ⟨e_t2, hr_t2, rfl⟩ | ⟨t2, hr_t2, h⟩
    · skip
      refine FW.l_callXE (I1 := (OParseParser.items b0 t1.2)) (I2 := []) (js := [0]) hk rfl rfl rfl Go.Proofs.Try.func65 rfl (by kernel_rfl) (parse_parser_stop.ok t1.2 120 _ hr_t2 b0) ?_; clear hk
      rintro _ _ ⟨vE1, rfl, rfl⟩ w hk
      exact FW.fpan (P := Go.Proofs.Try.prog) (fn := Go.Proofs.Try.f66) (I1 := [FW.blk b0 87 ([.row (r_ApiWord_cells vE1.l), .lit (.int .i64 vE1.i), .lit (.int .i64 vE1.deep), .lit (.int .i64 vE1.steps)])]) (I2 := []) (js := [0]) hk rfl ⟨_, rfl, vE1, rfl, rfl⟩
    refine FW.l_callH (I1 := (OParseParser.items b0 t1.2)) (I2 := []) (js := [0]) hk rfl rfl rfl rfl rfl Go.Proofs.Try.func65 rfl (by kernel_rfl) (FW.OkX.toH (parse_parser_stop.ok t1.2 120 _ hr_t2 b0)) ?_; clear hk
    rintro _ _ ⟨rfl, rfl⟩ a w hk
    refine wpList_nil ?_
    (repeat first | refine FW.then_normal ?_ | refine FW.block_normal ?_)
    refine FW.fnorm ?_
    obtain rfl := Option.some.inj h
    replace hk := FW.S.keep (I1 := [FW.blk b0 87 ([.row (r_ApiWord_cells t2.l), .lit (.int .i64 t2.i), .lit (.int .i64 t2.deep), .lit (.int .i64 t2.steps)])]) (I2 := []) (js := [0]) hk rfl
    exact FW.toXq (FW.fretH0 hk rfl ⟨rfl, rfl⟩)
  · skip
    refine wp_skip ?_
    (repeat first | refine FW.then_normal ?_ | refine FW.block_normal ?_)
    refine FW.fnorm ?_
    obtain rfl := Option.some.inj h
    replace hk := FW.S.keep (I1 := [FW.blk b0 87 ([.row (r_ApiWord_cells t1.2.l), .lit (.int .i64 t1.2.i), .lit (.int .i64 t1.2.deep), .lit (.int .i64 t1.2.steps)])]) (I2 := []) (js := [0]) hk rfl
    exact FW.toXq (FW.fretH0 hk rfl ⟨rfl, rfl⟩)

theorem val_Int.ok  (v0 : Int) (r : ApiValue) (h : val_Int.f v0 = some r) :
    FW.Ok Go.Proofs.Try.prog 153 [.lit (.int .i64 v0)] (.agg (ApiValue.cells r)) := by
  refine FW.enter (xs := [.lit (.int .i64 v0)]) Go.Proofs.Try.func153 rfl Go.Proofs.Try.ntmps153 rfl ?_
  intro M w0 a hk
  unfold val_Int.f at h
  refine FW.wreg ?_; intro K' hK1
  refine FW.l_alloc (zs := (ApiValue.cells (⟨0, false, 0, 0, [], []⟩ : ApiValue))) [] hk rfl rfl rfl rfl ?_; clear hk; intro bx1 a w hk
  refine FW.lend (hK1 _ _ ?_); clear hK1 K'
  refine FW.wreg ?_; intro K' hK2
  refine FW.lfun (y := .lit (.int .i64 v0)) hk rfl rfl rfl rfl (FW.f_move hk (FW.holds_nil _) rfl) ?_; clear hk; intro a w hk
  refine FW.lfun (y := .agg ((ApiValue.cells (⟨2, false, v0, 0, [], []⟩ : ApiValue)))) hk rfl rfl rfl rfl (FW.f_buildN [] hk (FW.holds_nil _) rfl rfl rfl) ?_; clear hk; intro a w hk
  refine FW.l_store (I' := [FW.blk bx1 33 ((ApiValue.cells (⟨2, false, v0, 0, [], []⟩ : ApiValue)))]) (cs' := (ApiValue.cells (⟨2, false, v0, 0, [], []⟩ : ApiValue))) (j := 0) hk rfl rfl rfl rfl rfl (by kernel_rfl) rfl rfl ?_; clear hk; intro w hk
  refine FW.lend (hK2 _ _ ?_); clear hK2 K'
  refine wp_ret ?_
  (repeat first | refine FW.then_ret ?_ | refine FW.block_ret ?_)
  obtain rfl := Option.some.inj h
  exact FW.fretR1 hk rfl (FW.rcell hk rfl (j := 0) rfl Go.Proofs.Try.underlying33 rfl (by kernel_rfl))

theorem num_Canon.ok  (v0 : Nat) (r : Nat) (h : num_Canon.f v0 = some r) :
    FW.Ok Go.Proofs.Try.prog 58 [.lit (.float .f64 v0)] (.lit (.float .f64 r)) := by
  refine FW.enter (xs := [.lit (.float .f64 v0)]) Go.Proofs.Try.func58 rfl Go.Proofs.Try.ntmps58 rfl ?_
  intro M w0 a hk
  unfold num_Canon.f at h
  refine FW.wreg ?_; intro K' hK1
  refine FW.lfun (y := .lit (.float .f64 0)) hk rfl rfl rfl rfl (FW.f_assign hk (FW.holds_nil _) rfl) ?_; clear hk; intro a w hk
  refine FW.lend (hK1 _ _ ?_); clear hK1 K'
  refine FW.wseq ?_; intro K' hK2
  refine FW.wreg ?_; intro K' hK3
  refine FW.lfun (y := .lit (.float .f64 v0)) hk rfl rfl rfl rfl (FW.f_move hk (FW.holds_nil _) rfl) ?_; clear hk; intro a w hk
  refine FW.lfun (y := .lit (.float .f64 v0)) hk rfl rfl rfl rfl (FW.f_move hk (FW.holds_nil _) rfl) ?_; clear hk; intro a w hk
  refine FW.lfun (y := .lit (.bool (FW.fneq v0 v0))) hk rfl rfl rfl rfl ((FW.f_pure (FW.p_fneq hk.kn (FW.holds_nil _) rfl rfl))) ?_; clear hk; intro a w hk
  refine FW.lend (hK3 _ _ ?_); clear hK3 K'
  refine FW.wcondF (b := (FW.fneq v0 v0)) hk h rfl (fun h hb => ?_) (fun h hb => ?_)
  · skip
    refine FW.wreg ?_; intro K' hK4
    refine FW.lfun (y := .lit (.float .f64 (Int.toNat 9221120237041090561))) hk rfl rfl rfl rfl (FW.f_frombits hk (FW.holds_nil _) rfl rfl Go.Proofs.Try.func73 (by kernel_rfl) (by kernel_rfl) (by kernel_rfl) (by kernel_rfl)) ?_; clear hk; intro a w hk
    refine FW.lfun (y := .lit (.float .f64 (Int.toNat 9221120237041090561))) hk rfl rfl rfl rfl (FW.f_assign hk (FW.holds_nil _) rfl) ?_; clear hk; intro a w hk
    refine FW.lend (hK4 _ _ ?_); clear hK4 K'
    refine wp_ret ?_
    (repeat first | refine FW.then_ret ?_ | refine FW.block_ret ?_)
    obtain rfl := Option.some.inj h
    exact FW.fret1 hk rfl rfl
  · skip
    refine wp_skip ?_
    (repeat first | refine FW.then_normal ?_ | refine FW.block_normal ?_); refine hK2 _ _ ?_
    refine FW.wreg ?_; intro K' hK5
    refine FW.lfun (y := .lit (.float .f64 v0)) hk rfl rfl rfl rfl (FW.f_move hk (FW.holds_nil _) rfl) ?_; clear hk; intro a w hk
    refine FW.lfun (y := .lit (.float .f64 v0)) hk rfl rfl rfl rfl (FW.f_assign hk (FW.holds_nil _) rfl) ?_; clear hk; intro a w hk
    refine FW.lend (hK5 _ _ ?_); clear hK5 K'
    refine wp_ret ?_
    (repeat first | refine FW.then_ret ?_ | refine FW.block_ret ?_)
    obtain rfl := Option.some.inj h
    exact FW.fret1 hk rfl rfl

theorem val_Float.ok  (v0 : Nat) (r : ApiValue) (h : val_Float.f v0 = some r) :
    FW.Ok Go.Proofs.Try.prog 154 [.lit (.float .f64 v0)] (.agg (ApiValue.cells r)) := by
  refine FW.enter (xs := [.lit (.float .f64 v0)]) Go.Proofs.Try.func154 rfl Go.Proofs.Try.ntmps154 rfl ?_
  intro M w0 a hk
  unfold val_Float.f at h
  refine FW.wreg ?_; intro K' hK1
  refine FW.l_alloc (zs := (ApiValue.cells (⟨0, false, 0, 0, [], []⟩ : ApiValue))) [] hk rfl rfl rfl rfl ?_; clear hk; intro bx1 a w hk
  refine FW.lend (hK1 _ _ ?_); clear hK1 K'
  refine FW.wreg ?_; intro K' hK2
  refine FW.lfun (y := .lit (.float .f64 v0)) hk rfl rfl rfl rfl (FW.f_move hk (FW.holds_nil _) rfl) ?_; clear hk; intro a w hk
  obtain ⟨t1, hr_t1, h⟩ := FW.bnd h
  refine FW.lfun (y := .lit (.float .f64 t1)) hk rfl rfl rfl rfl (FW.f_call hk (FW.holds_nil _) rfl rfl Go.Proofs.Try.func58 rfl (by kernel_rfl) (num_Canon.ok v0 _ hr_t1)) ?_; clear hk; intro a w hk
  refine FW.lfun (y := .agg ((ApiValue.cells (⟨3, false, 0, t1, [], []⟩ : ApiValue)))) hk rfl rfl rfl rfl (FW.f_buildN [] hk (FW.holds_nil _) rfl rfl rfl) ?_; clear hk; intro a w hk
  refine FW.l_store (I' := [FW.blk bx1 33 ((ApiValue.cells (⟨3, false, 0, t1, [], []⟩ : ApiValue)))]) (cs' := (ApiValue.cells (⟨3, false, 0, t1, [], []⟩ : ApiValue))) (j := 0) hk rfl rfl rfl rfl rfl (by kernel_rfl) rfl rfl ?_; clear hk; intro w hk
  refine FW.lend (hK2 _ _ ?_); clear hK2 K'
  refine wp_ret ?_
  (repeat first | refine FW.then_ret ?_ | refine FW.block_ret ?_)
  obtain rfl := Option.some.inj h
  exact FW.fretR1 hk rfl (FW.rcell hk rfl (j := 0) rfl Go.Proofs.Try.underlying33 rfl (by kernel_rfl))
end Go.Proofs.Ytbjbgodcenopnaa

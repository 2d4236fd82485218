/- Written by a program of this session (gen.py): the contracts of functions of the program. -/
import Derived.KernelRfl
import Derived.Test.YtfmabehmohbahaaProg
import Derived.Test.YtfmabehmohbahaaAvFun
import Derived.Test.YtfmabehmohbahaaAvMan
import Derived.Test.YtfmabehmohbahaaAvMore
import Derived.Test.YtfmabehmohbahaaAvDraw2
import Derived.Test.YtfmabehmohbahaaAvRow
import Derived.Test.YtfmabehmohbahaaAvBld
import Derived.Test.YtfmabehmohbahaaLexD
import Derived.Test.YtfmabehmohbahaaLexP0
namespace Go.Proofs.Ytfmabehmohbahaa
set_option linter.unusedVariables false
set_option maxRecDepth 20000
set_option maxHeartbeats 10000000
theorem offshootref12_State_value.bok (s_offshootref12_State_value : Offshootref12State → Option (Offshootref12State × ApiValue × Bool)) (s_offshootref12_State_values : Offshootref12State → List UInt8 → Option (Offshootref12State × List ApiValue)) (hs_offshootref12_State_value : ∀ (v0 : Offshootref12State) (r : Offshootref12State × ApiValue × Bool), s_offshootref12_State_value v0 = some r → FW.Ok Go.Proofs.Try.prog 64 [.agg (Offshootref12State.cells v0)] (.tup [.agg (Offshootref12State.cells r.1), .agg (ApiValue.cells r.2.1), .lit (.bool r.2.2)])) (hs_offshootref12_State_values : ∀ (v0 : Offshootref12State) (v1 : List UInt8) (r : Offshootref12State × List ApiValue), s_offshootref12_State_values v0 v1 = some r → FW.Ok Go.Proofs.Try.prog 78 [.agg (Offshootref12State.cells v0), .lit (.string (FW.B v1))] (.tup [.agg (Offshootref12State.cells r.1), .row (r_ApiValue_cells r.2)])) (K : Nat) (v0 : Offshootref12State) (r : Offshootref12State × ApiValue × Bool) (h : offshootref12_State_value.b s_offshootref12_State_value s_offshootref12_State_values K v0 = some r) :
    FW.Ok Go.Proofs.Try.prog 64 [.agg (Offshootref12State.cells v0)] (.tup [.agg (Offshootref12State.cells r.1), .agg (ApiValue.cells r.2.1), .lit (.bool r.2.2)]) := by
  refine FW.enter (xs := [.agg (Offshootref12State.cells v0)]) Go.Proofs.Try.func64 rfl Go.Proofs.Try.ntmps64 rfl ?_
  intro M w0 a hk
  unfold offshootref12_State_value.b at h
  refine FW.wreg ?_; intro K' hK1
  refine FW.l_box (cs := (Offshootref12State.cells v0)) hk rfl rfl rfl rfl rfl ?_; clear hk; intro b1 a w hk
  refine FW.l_alloc (zs := (Offshootref12State.cells (⟨[], 0, 0, 0, 0, 0⟩ : Offshootref12State))) [] hk rfl rfl rfl rfl ?_; clear hk; intro b2 a w hk
  refine FW.l_alloc (zs := (ApiValue.cells (⟨0, false, 0, 0, [], []⟩ : ApiValue))) [] hk rfl rfl rfl rfl ?_; clear hk; intro b3 a w hk
  refine FW.lfun (y := .lit (.bool false)) hk rfl rfl rfl rfl (FW.f_assign hk (FW.holds_nil _) rfl) ?_; clear hk; intro a w hk
  refine FW.lend (hK1 _ _ ?_); clear hK1 K'
  refine FW.wseq ?_; intro K' hK2
  refine FW.wreg ?_; intro K' hK3
  refine FW.lfun (y := .lit (.pointer (some ⟨b1, 5, none⟩))) hk rfl rfl rfl rfl (FW.f_fieldPtr hk (FW.holds_nil _) rfl Go.Proofs.Try.underlying62 rfl (by kernel_rfl) rfl) ?_; clear hk; intro a w hk
  refine FW.lfun (y := .lit (.int .i64 v0.E)) hk rfl rfl rfl rfl (FW.f_loadBlk1 hk (FW.holds_nil _) (j := 2) rfl rfl Go.Proofs.Try.underlying23 rfl rfl) ?_; clear hk; intro a w hk
  refine FW.lfun (y := .lit (.bool (!decide (v0.E = 0)))) hk rfl rfl rfl rfl ((FW.f_pure (FW.p_neq hk.kn (FW.holds_nil _) rfl rfl))) ?_; clear hk; intro a w hk
  refine FW.lend (hK3 _ _ ?_); clear hK3 K'
  refine FW.wcondF (b := (!decide (v0.E = 0))) hk h rfl (fun h hb => ?_) (fun h hb => ?_)
  · skip
    refine FW.wreg ?_; intro K' hK4
    refine FW.lfun (y := .agg ((Offshootref12State.cells v0))) hk rfl rfl rfl rfl (FW.f_loadBlk hk (FW.holds_nil _) (j := 2) rfl rfl Go.Proofs.Try.underlying62 rfl rfl rfl rfl) ?_; clear hk; intro a w hk
    refine FW.lfun (y := .agg ((ApiValue.cells (⟨0, false, 0, 0, [], []⟩ : ApiValue)))) hk rfl rfl rfl rfl (FW.f_buildN [] hk (FW.holds_nil _) rfl rfl rfl) ?_; clear hk; intro a w hk
    refine FW.l_store (I' := [FW.blk b3 33 ((ApiValue.cells (⟨0, false, 0, 0, [], []⟩ : ApiValue))), FW.blk b2 62 ((Offshootref12State.cells v0)), FW.blk b1 62 ((Offshootref12State.cells v0))]) (cs' := (Offshootref12State.cells v0)) (j := 1) hk rfl rfl rfl rfl rfl (by kernel_rfl) rfl rfl ?_; clear hk; intro w hk
    refine FW.l_store (I' := [FW.blk b3 33 ((ApiValue.cells (⟨0, false, 0, 0, [], []⟩ : ApiValue))), FW.blk b2 62 ((Offshootref12State.cells v0)), FW.blk b1 62 ((Offshootref12State.cells v0))]) (cs' := (ApiValue.cells (⟨0, false, 0, 0, [], []⟩ : ApiValue))) (j := 0) hk rfl rfl rfl rfl rfl (by kernel_rfl) rfl rfl ?_; clear hk; intro w hk
    refine FW.lfun (y := .lit (.bool false)) hk rfl rfl rfl rfl (FW.f_assign hk (FW.holds_nil _) rfl) ?_; clear hk; intro a w hk
    refine FW.lend (hK4 _ _ ?_); clear hK4 K'
    refine wp_ret ?_
    (repeat first | refine FW.then_ret ?_ | refine FW.block_ret ?_)
    obtain rfl := Option.some.inj h
    exact FW.fretR3 hk rfl (FW.rcell hk rfl (j := 1) rfl Go.Proofs.Try.underlying62 rfl (by kernel_rfl)) (FW.rcell hk rfl (j := 0) rfl Go.Proofs.Try.underlying33 rfl (by kernel_rfl)) (FW.rtmp hk rfl)
  · skip
    refine wp_skip ?_
    (repeat first | refine FW.then_normal ?_ | refine FW.block_normal ?_); refine hK2 _ _ ?_
    refine FW.wreg ?_; intro K' hK5
    refine FW.lfun (y := .lit (.pointer (some ⟨b1, 0, none⟩))) hk rfl rfl rfl rfl (FW.f_fieldPtr hk (FW.holds_nil _) rfl Go.Proofs.Try.underlying62 rfl (by kernel_rfl) rfl) ?_; clear hk; intro a w hk
    refine FW.lfun (y := .row (r_ApiWord_cells v0.L)) hk rfl rfl rfl rfl (FW.f_loadBlk1 hk (FW.holds_nil _) (j := 2) rfl rfl Go.Proofs.Try.underlying48 rfl rfl) ?_; clear hk; intro a w hk
    refine FW.lfun (y := .lit (.pointer (some ⟨b1, 1, none⟩))) hk rfl rfl rfl rfl (FW.f_fieldPtr hk (FW.holds_nil _) rfl Go.Proofs.Try.underlying62 rfl (by kernel_rfl) rfl) ?_; clear hk; intro a w hk
    refine FW.lfun (y := .lit (.int .i64 v0.I)) hk rfl rfl rfl rfl (FW.f_loadBlk1 hk (FW.holds_nil _) (j := 2) rfl rfl Go.Proofs.Try.underlying3 rfl rfl) ?_; clear hk; intro a w hk
    obtain ⟨hc1, h⟩ := FW.chk h
    refine FW.lfun (y := .ref (ApiWord.cells (List.getD v0.L (Int.toNat v0.I) default))) hk rfl rfl rfl rfl (FW.f_indexAddr (R := r_ApiWord_cells) (f := ApiWord.cells) (l := v0.L) (sz := 5) r_ApiWord_cells_eq (fun _ => rfl) hk (FW.holds_nil _) rfl rfl Go.Proofs.Try.underlying48 (by kernel_rfl) hc1) ?_; clear hk; intro a w hk
    refine FW.lfun (y := .agg ((ApiWord.cells (List.getD v0.L (Int.toNat v0.I) default)))) hk rfl rfl rfl rfl (FW.f_load hk (FW.holds_nil _) rfl Go.Proofs.Try.underlying52 rfl rfl rfl rfl) ?_; clear hk; intro a w hk
    refine FW.l_alloc (zs := (ApiWord.cells (⟨0, [], 0, 0, 0⟩ : ApiWord))) [] hk rfl rfl rfl rfl ?_; clear hk; intro b4 a w hk
    refine FW.l_store (I' := [FW.blk b4 52 ((ApiWord.cells (List.getD v0.L (Int.toNat v0.I) default))), FW.blk b3 33 ((ApiValue.cells (⟨0, false, 0, 0, [], []⟩ : ApiValue))), FW.blk b2 62 ((Offshootref12State.cells (⟨[], 0, 0, 0, 0, 0⟩ : Offshootref12State))), FW.blk b1 62 ((Offshootref12State.cells v0))]) (cs' := (ApiWord.cells (List.getD v0.L (Int.toNat v0.I) default))) (j := 0) hk rfl rfl rfl rfl rfl (by kernel_rfl) rfl rfl ?_; clear hk; intro w hk
    refine FW.lend (hK5 _ _ ?_); clear hK5 K'
    refine FW.wreg ?_; intro K' hK6
    refine FW.lfun (y := .agg ((ApiValue.cells (⟨0, false, 0, 0, [], []⟩ : ApiValue)))) hk rfl rfl rfl rfl (FW.f_buildN [] hk (FW.holds_nil _) rfl rfl rfl) ?_; clear hk; intro a w hk
    refine FW.l_alloc (zs := (ApiValue.cells (⟨0, false, 0, 0, [], []⟩ : ApiValue))) [] hk rfl rfl rfl rfl ?_; clear hk; intro b5 a w hk
    refine FW.l_store (I' := [FW.blk b5 33 ((ApiValue.cells (⟨0, false, 0, 0, [], []⟩ : ApiValue))), FW.blk b4 52 ((ApiWord.cells (List.getD v0.L (Int.toNat v0.I) default))), FW.blk b3 33 ((ApiValue.cells (⟨0, false, 0, 0, [], []⟩ : ApiValue))), FW.blk b2 62 ((Offshootref12State.cells (⟨[], 0, 0, 0, 0, 0⟩ : Offshootref12State))), FW.blk b1 62 ((Offshootref12State.cells v0))]) (cs' := (ApiValue.cells (⟨0, false, 0, 0, [], []⟩ : ApiValue))) (j := 0) hk rfl rfl rfl rfl rfl (by kernel_rfl) rfl rfl ?_; clear hk; intro w hk
    refine FW.lfun (y := .lit (.bool true)) hk rfl rfl rfl rfl (FW.f_assign hk (FW.holds_nil _) rfl) ?_; clear hk; intro a w hk
    refine FW.lend (hK6 _ _ ?_); clear hK6 K'
    refine FW.wseqJ (fun a w => ∃ (y5 : ApiValue) (y3 : ApiValue) (y2 : Offshootref12State) (y1 : Offshootref12State) (v7 : Bool), FW.S M w0 a w 105 [FW.blk b5 33 ((ApiValue.cells y5)), FW.blk b3 33 ((ApiValue.cells y3)), FW.blk b2 62 ((Offshootref12State.cells y2)), FW.blk b1 62 ((Offshootref12State.cells y1))] [(1, [], .lit (.pointer (some ⟨b1, 0, none⟩))), (2, [], .lit (.pointer (some ⟨b2, 0, none⟩))), (3, [], .lit (.pointer (some ⟨b3, 0, none⟩))), (6, [], .lit (.pointer (some ⟨b5, 0, none⟩))), (7, [], .lit (.bool v7))] ∧ offshootref12_State_value.j1 s_offshootref12_State_value s_offshootref12_State_values K y5 y3 y2 y1 v7 = some r) ?_ ?_
    · clear hk h
      rintro a w ⟨y5, y3, y2, y1, v7, hk, h⟩
      unfold offshootref12_State_value.j1 at h
      refine FW.wseqJ (fun a w => ∃ (y5 : ApiValue) (y3 : ApiValue) (y2 : Offshootref12State) (y1 : Offshootref12State) (v7 : Bool), FW.S M w0 a w 105 [FW.blk b5 33 ((ApiValue.cells y5)), FW.blk b3 33 ((ApiValue.cells y3)), FW.blk b2 62 ((Offshootref12State.cells y2)), FW.blk b1 62 ((Offshootref12State.cells y1))] [(1, [], .lit (.pointer (some ⟨b1, 0, none⟩))), (2, [], .lit (.pointer (some ⟨b2, 0, none⟩))), (3, [], .lit (.pointer (some ⟨b3, 0, none⟩))), (6, [], .lit (.pointer (some ⟨b5, 0, none⟩))), (7, [], .lit (.bool v7))] ∧ offshootref12_State_value.j2 s_offshootref12_State_value s_offshootref12_State_values K y5 y3 y2 y1 v7 = some r) ?_ ?_
      · clear hk h
        rintro a w ⟨y5, y3, y2, y1, v7, hk, h⟩
        unfold offshootref12_State_value.j2 at h
        refine FW.wdrawE (need := [false, false, true, false, false, true]) [(3, [true, true, true, false, false, false], [true, true, true, false, false, false]), (4, [false, true, true, false, false, false], [true, true, true, true, false, false])] [(102, [], .agg ((Offshootref12State.cells y1))), (103, [], .agg ((ApiValue.cells y5))), (104, [], .lit (.bool v7)), (105, [], .lit undef), (105, [], .lit undef), (4, [], .agg [])] (by kernel_rfl) (by kernel_rfl) (by kernel_rfl) (by kernel_rfl) hk ?_; clear hk
        refine FW.gnext0 ?_ rfl rfl rfl ?_
        · skip
          refine FW.gfun (y := .agg ((Offshootref12State.cells y1))) rfl rfl rfl rfl (fun a w hk => FW.f_loadBlk hk (FW.holds_nil _) (j := 3) rfl rfl Go.Proofs.Try.underlying62 rfl rfl rfl rfl) ?_
          refine FW.gfun (y := .agg ((ApiValue.cells y5))) rfl rfl rfl rfl (fun a w hk => FW.f_loadBlk hk (FW.holds_nil _) (j := 0) rfl rfl Go.Proofs.Try.underlying33 rfl rfl rfl rfl) ?_
          refine FW.gfun (y := .lit (.bool v7)) rfl rfl rfl rfl (fun a w hk => FW.f_move hk (FW.holds_nil _) rfl) ?_
          refine FW.gskip0 rfl ?_
          refine FW.gskip0 rfl ?_
          refine FW.gskip rfl rfl ?_
          exact FW.gend
        · skip
          intro σD a w opsD QD hk hQ
          refine FW.l_store (I' := [FW.blk b5 33 ((ApiValue.cells y5)), FW.blk b3 33 ((ApiValue.cells y3)), FW.blk b2 62 ((Offshootref12State.cells y1)), FW.blk b1 62 ((Offshootref12State.cells y1))]) (cs' := (Offshootref12State.cells y1)) (j := 2) hk rfl rfl rfl rfl rfl (by kernel_rfl) rfl rfl ?_; clear hk; intro w hk
          refine hQ _ a w ?_ hk; clear hk hQ
          refine ⟨[(102, [], .agg ((Offshootref12State.cells y1))), (103, [], .agg ((ApiValue.cells y5))), (104, [], .lit (.bool v7)), (105, [], .lit undef), (105, [], .lit undef), (4, [], .agg [])], And.intro rfl (And.intro rfl (And.intro rfl (trivial))), rfl, ?_⟩
          refine FW.gnext0 ?_ rfl rfl rfl ?_
          · skip
            refine FW.gskip rfl rfl ?_
            refine FW.gfun (y := .agg ((ApiValue.cells y5))) rfl rfl rfl rfl (fun a w hk => FW.f_loadBlk hk (FW.holds_nil _) (j := 0) rfl rfl Go.Proofs.Try.underlying33 rfl rfl rfl rfl) ?_
            refine FW.gfun (y := .lit (.bool v7)) rfl rfl rfl rfl (fun a w hk => FW.f_move hk (FW.holds_nil _) rfl) ?_
            refine FW.gskip0 rfl ?_
            refine FW.gskip0 rfl ?_
            refine FW.gskip rfl rfl ?_
            exact FW.gend
          · skip
            intro σD a w opsD QD hk hQ
            refine FW.l_store (I' := [FW.blk b5 33 ((ApiValue.cells y5)), FW.blk b3 33 ((ApiValue.cells y5)), FW.blk b2 62 ((Offshootref12State.cells y1)), FW.blk b1 62 ((Offshootref12State.cells y1))]) (cs' := (ApiValue.cells y5)) (j := 1) hk rfl rfl rfl rfl rfl (by kernel_rfl) rfl rfl ?_; clear hk; intro w hk
            refine hQ _ a w ?_ hk; clear hk hQ
            refine ⟨[(102, [], .agg ((Offshootref12State.cells y1))), (103, [], .agg ((ApiValue.cells y5))), (104, [], .lit (.bool v7)), (105, [], .lit undef), (105, [], .lit undef), (4, [], .lit (.bool v7))], And.intro rfl (And.intro rfl (And.intro rfl (And.intro rfl (trivial)))), rfl, ?_⟩
            refine FW.glast ?_ ?_
            · skip
              refine FW.gskip rfl rfl ?_
              refine FW.gskip rfl rfl ?_
              refine FW.gfun (y := .lit (.bool v7)) rfl rfl rfl rfl (fun a w hk => FW.f_move hk (FW.holds_nil _) rfl) ?_
              refine FW.gskip0 rfl ?_
              refine FW.gskip0 rfl ?_
              refine FW.gfun (y := .lit (.bool v7)) rfl rfl rfl rfl (fun a w hk => FW.f_assign hk (FW.holds_nil _) rfl) ?_
              exact FW.gend
            · skip
              intro a w hk; simp only [FW.stD, cond_true] at hk
              refine wp_ret ?_
              (repeat first | refine FW.then_ret ?_ | refine FW.block_ret ?_)
              obtain rfl := Option.some.inj h
              exact FW.fretR3 hk rfl (FW.rcell hk rfl (j := 2) rfl Go.Proofs.Try.underlying62 rfl (by kernel_rfl)) (FW.rcell hk rfl (j := 1) rfl Go.Proofs.Try.underlying33 rfl (by kernel_rfl)) (FW.rtmp hk rfl)
      · intro K' hK8
        refine FW.wreg ?_; intro K' hK10
        refine FW.lfun (y := .lit (.bool v7)) hk rfl rfl rfl rfl (FW.f_move hk (FW.holds_nil _) rfl) ?_; clear hk; intro a w hk
        refine FW.lend (hK10 _ _ ?_); clear hK10 K'
        refine FW.wcondF (b := v7) hk h rfl (fun h hb => ?_) (fun h hb => ?_)
        · skip
          refine FW.wreg1 ?_
          refine FW.lfun (y := .lit (.pointer (some ⟨b1, 1, none⟩))) hk rfl rfl rfl rfl (FW.f_fieldPtr hk (FW.holds_nil _) rfl Go.Proofs.Try.underlying62 rfl (by kernel_rfl) rfl) ?_; clear hk; intro a w hk
          refine FW.lfun (y := .lit (.int .i64 y1.I)) hk rfl rfl rfl rfl (FW.f_loadBlk1 hk (FW.holds_nil _) (j := 3) rfl rfl Go.Proofs.Try.underlying3 rfl rfl) ?_; clear hk; intro a w hk
          refine FW.lfun (y := .lit (.int .i64 (IntKind.wrap .i64 (y1.I + 1)))) hk rfl rfl rfl rfl ((FW.f_pure (FW.p_add hk.kn (FW.holds_nil _) rfl rfl))) ?_; clear hk; intro a w hk
          refine FW.lfun (y := .lit (.pointer (some ⟨b1, 1, none⟩))) hk rfl rfl rfl rfl (FW.f_fieldPtr hk (FW.holds_nil _) rfl Go.Proofs.Try.underlying62 rfl (by kernel_rfl) rfl) ?_; clear hk; intro a w hk
          refine FW.l_store (I' := [FW.blk b5 33 ((ApiValue.cells y5)), FW.blk b3 33 ((ApiValue.cells y3)), FW.blk b2 62 ((Offshootref12State.cells y2)), FW.blk b1 62 ((Offshootref12State.cells (⟨y1.L, (IntKind.wrap .i64 (y1.I + 1)), y1.Deep, y1.Steps, y1.At, y1.E⟩ : Offshootref12State)))]) (cs' := (Offshootref12State.cells (⟨y1.L, (IntKind.wrap .i64 (y1.I + 1)), y1.Deep, y1.Steps, y1.At, y1.E⟩ : Offshootref12State))) (j := 3) hk rfl rfl rfl rfl rfl (by kernel_rfl) rfl rfl ?_; clear hk; intro w hk
          refine wpList_nil ?_
          (repeat first | refine FW.then_normal ?_ | refine FW.block_normal ?_); exact hK8 _ _ ⟨y5, y3, y2, (⟨y1.L, (IntKind.wrap .i64 (y1.I + 1)), y1.Deep, y1.Steps, y1.At, y1.E⟩ : Offshootref12State), v7, hk.sub ⟨rfl, rfl, rfl, rfl, rfl, trivial⟩, h⟩
        · skip
          refine wp_skip ?_
          (repeat first | refine FW.then_normal ?_ | refine FW.block_normal ?_); exact hK8 _ _ ⟨y5, y3, y2, y1, v7, hk.sub ⟨rfl, rfl, rfl, rfl, rfl, trivial⟩, h⟩
    · intro K' hK7
      refine wp_block ?_
      refine FW.wreg ?_; intro K' hK12
      refine FW.lfun (y := .lit (.pointer (some ⟨b4, 0, none⟩))) hk rfl rfl rfl rfl (FW.f_fieldPtr hk (FW.holds_nil _) rfl Go.Proofs.Try.underlying52 rfl (by kernel_rfl) rfl) ?_; clear hk; intro a w hk
      refine FW.lfun (y := .lit (.int .i64 ((List.getD v0.L (Int.toNat v0.I) default).Kind))) hk rfl rfl rfl rfl (FW.f_loadBlk1 hk (FW.holds_nil _) (j := 1) rfl rfl Go.Proofs.Try.underlying3 rfl rfl) ?_; clear hk; intro a w hk
      refine FW.lfun (y := .lit (.bool (decide (((List.getD v0.L (Int.toNat v0.I) default).Kind) = 2)))) hk rfl rfl rfl rfl ((FW.f_pure (FW.p_eql hk.kn (FW.holds_nil _) rfl rfl))) ?_; clear hk; intro a w hk
      refine FW.lfun (y := .lit (.bool (decide (((List.getD v0.L (Int.toNat v0.I) default).Kind) = 2)))) hk rfl rfl rfl rfl (FW.f_assign hk (FW.holds_nil _) rfl) ?_; clear hk; intro a w hk
      refine FW.lend (hK12 _ _ ?_); clear hK12 K'
      refine FW.wcondF (b := (decide (((List.getD v0.L (Int.toNat v0.I) default).Kind) = 2))) hk h rfl (fun h hb => ?_) (fun h hb => ?_)
      · skip
        refine FW.wreg1 ?_
        refine FW.lfun (y := .lit (.pointer (some ⟨b4, 2, none⟩))) hk rfl rfl rfl rfl (FW.f_fieldPtr hk (FW.holds_nil _) rfl Go.Proofs.Try.underlying52 rfl (by kernel_rfl) rfl) ?_; clear hk; intro a w hk
        refine FW.lfun (y := .lit (.int .i64 ((List.getD v0.L (Int.toNat v0.I) default).N))) hk rfl rfl rfl rfl (FW.f_loadBlk1 hk (FW.holds_nil _) (j := 1) rfl rfl Go.Proofs.Try.underlying2 rfl rfl) ?_; clear hk; intro a w hk
        refine FW.lfun (y := .agg ((ApiValue.cells (⟨2, false, (List.getD v0.L (Int.toNat v0.I) default).N, 0, [], []⟩ : ApiValue)))) hk rfl rfl rfl rfl (FW.f_buildN [] hk (FW.holds_nil _) rfl rfl rfl) ?_; clear hk; intro a w hk
        refine FW.l_store (I' := [FW.blk b5 33 ((ApiValue.cells (⟨2, false, (List.getD v0.L (Int.toNat v0.I) default).N, 0, [], []⟩ : ApiValue))), FW.blk b4 52 ((ApiWord.cells (List.getD v0.L (Int.toNat v0.I) default))), FW.blk b3 33 ((ApiValue.cells (⟨0, false, 0, 0, [], []⟩ : ApiValue))), FW.blk b2 62 ((Offshootref12State.cells (⟨[], 0, 0, 0, 0, 0⟩ : Offshootref12State))), FW.blk b1 62 ((Offshootref12State.cells v0))]) (cs' := (ApiValue.cells (⟨2, false, (List.getD v0.L (Int.toNat v0.I) default).N, 0, [], []⟩ : ApiValue))) (j := 0) hk rfl rfl rfl rfl rfl (by kernel_rfl) rfl rfl ?_; clear hk; intro w hk
        refine wpList_nil ?_
        (repeat first | refine FW.then_normal ?_ | refine FW.block_normal ?_); exact hK7 _ _ ⟨(⟨2, false, (List.getD v0.L (Int.toNat v0.I) default).N, 0, [], []⟩ : ApiValue), (⟨0, false, 0, 0, [], []⟩ : ApiValue), (⟨[], 0, 0, 0, 0, 0⟩ : Offshootref12State), v0, true, (hk.drop 1).sub ⟨rfl, rfl, rfl, rfl, rfl, trivial⟩, h⟩
      · skip
        refine FW.wreg ?_; intro K' hK14
        refine FW.lfun (y := .lit (.pointer (some ⟨b4, 0, none⟩))) hk rfl rfl rfl rfl (FW.f_fieldPtr hk (FW.holds_nil _) rfl Go.Proofs.Try.underlying52 rfl (by kernel_rfl) rfl) ?_; clear hk; intro a w hk
        refine FW.lfun (y := .lit (.int .i64 ((List.getD v0.L (Int.toNat v0.I) default).Kind))) hk rfl rfl rfl rfl (FW.f_loadBlk1 hk (FW.holds_nil _) (j := 1) rfl rfl Go.Proofs.Try.underlying3 rfl rfl) ?_; clear hk; intro a w hk
        refine FW.lfun (y := .lit (.bool (decide (((List.getD v0.L (Int.toNat v0.I) default).Kind) = 3)))) hk rfl rfl rfl rfl ((FW.f_pure (FW.p_eql hk.kn (FW.holds_nil _) rfl rfl))) ?_; clear hk; intro a w hk
        refine FW.lfun (y := .lit (.bool (decide (((List.getD v0.L (Int.toNat v0.I) default).Kind) = 3)))) hk rfl rfl rfl rfl (FW.f_assign hk (FW.holds_nil _) rfl) ?_; clear hk; intro a w hk
        refine FW.lend (hK14 _ _ ?_); clear hK14 K'
        refine FW.wcondF (b := (decide (((List.getD v0.L (Int.toNat v0.I) default).Kind) = 3))) hk h rfl (fun h hb => ?_) (fun h hb => ?_)
        · skip
          refine FW.wreg1 ?_
          refine FW.lfun (y := .lit (.pointer (some ⟨b4, 3, none⟩))) hk rfl rfl rfl rfl (FW.f_fieldPtr hk (FW.holds_nil _) rfl Go.Proofs.Try.underlying52 rfl (by kernel_rfl) rfl) ?_; clear hk; intro a w hk
          refine FW.lfun (y := .lit (.float .f64 ((List.getD v0.L (Int.toNat v0.I) default).F))) hk rfl rfl rfl rfl (FW.f_loadBlk1 hk (FW.holds_nil _) (j := 1) rfl rfl Go.Proofs.Try.underlying30 rfl rfl) ?_; clear hk; intro a w hk
          refine FW.lfun (y := .agg ((ApiValue.cells (⟨3, false, 0, (List.getD v0.L (Int.toNat v0.I) default).F, [], []⟩ : ApiValue)))) hk rfl rfl rfl rfl (FW.f_buildN [] hk (FW.holds_nil _) rfl rfl rfl) ?_; clear hk; intro a w hk
          refine FW.l_store (I' := [FW.blk b5 33 ((ApiValue.cells (⟨3, false, 0, (List.getD v0.L (Int.toNat v0.I) default).F, [], []⟩ : ApiValue))), FW.blk b4 52 ((ApiWord.cells (List.getD v0.L (Int.toNat v0.I) default))), FW.blk b3 33 ((ApiValue.cells (⟨0, false, 0, 0, [], []⟩ : ApiValue))), FW.blk b2 62 ((Offshootref12State.cells (⟨[], 0, 0, 0, 0, 0⟩ : Offshootref12State))), FW.blk b1 62 ((Offshootref12State.cells v0))]) (cs' := (ApiValue.cells (⟨3, false, 0, (List.getD v0.L (Int.toNat v0.I) default).F, [], []⟩ : ApiValue))) (j := 0) hk rfl rfl rfl rfl rfl (by kernel_rfl) rfl rfl ?_; clear hk; intro w hk
          refine wpList_nil ?_
          (repeat first | refine FW.then_normal ?_ | refine FW.block_normal ?_); exact hK7 _ _ ⟨(⟨3, false, 0, (List.getD v0.L (Int.toNat v0.I) default).F, [], []⟩ : ApiValue), (⟨0, false, 0, 0, [], []⟩ : ApiValue), (⟨[], 0, 0, 0, 0, 0⟩ : Offshootref12State), v0, true, (hk.drop 1).sub ⟨rfl, rfl, rfl, rfl, rfl, trivial⟩, h⟩
        · skip
          refine FW.wreg ?_; intro K' hK16
          refine FW.lfun (y := .lit (.pointer (some ⟨b4, 0, none⟩))) hk rfl rfl rfl rfl (FW.f_fieldPtr hk (FW.holds_nil _) rfl Go.Proofs.Try.underlying52 rfl (by kernel_rfl) rfl) ?_; clear hk; intro a w hk
          refine FW.lfun (y := .lit (.int .i64 ((List.getD v0.L (Int.toNat v0.I) default).Kind))) hk rfl rfl rfl rfl (FW.f_loadBlk1 hk (FW.holds_nil _) (j := 1) rfl rfl Go.Proofs.Try.underlying3 rfl rfl) ?_; clear hk; intro a w hk
          refine FW.lfun (y := .lit (.bool (decide (((List.getD v0.L (Int.toNat v0.I) default).Kind) = 4)))) hk rfl rfl rfl rfl ((FW.f_pure (FW.p_eql hk.kn (FW.holds_nil _) rfl rfl))) ?_; clear hk; intro a w hk
          refine FW.lfun (y := .lit (.bool (decide (((List.getD v0.L (Int.toNat v0.I) default).Kind) = 4)))) hk rfl rfl rfl rfl (FW.f_assign hk (FW.holds_nil _) rfl) ?_; clear hk; intro a w hk
          refine FW.lend (hK16 _ _ ?_); clear hK16 K'
          refine FW.wcondF (b := (decide (((List.getD v0.L (Int.toNat v0.I) default).Kind) = 4))) hk h rfl (fun h hb => ?_) (fun h hb => ?_)
          · skip
            refine FW.wreg1 ?_
            refine FW.lfun (y := .lit (.pointer (some ⟨b4, 1, none⟩))) hk rfl rfl rfl rfl (FW.f_fieldPtr hk (FW.holds_nil _) rfl Go.Proofs.Try.underlying52 rfl (by kernel_rfl) rfl) ?_; clear hk; intro a w hk
            refine FW.lfun (y := .lit (.string (FW.B ((List.getD v0.L (Int.toNat v0.I) default).S)))) hk rfl rfl rfl rfl (FW.f_loadBlk1 hk (FW.holds_nil _) (j := 1) rfl rfl Go.Proofs.Try.underlying9 rfl rfl) ?_; clear hk; intro a w hk
            refine FW.lfun (y := .agg ((ApiValue.cells (⟨4, false, 0, 0, (List.getD v0.L (Int.toNat v0.I) default).S, []⟩ : ApiValue)))) hk rfl rfl rfl rfl (FW.f_buildN [] hk (FW.holds_nil _) rfl rfl rfl) ?_; clear hk; intro a w hk
            refine FW.l_store (I' := [FW.blk b5 33 ((ApiValue.cells (⟨4, false, 0, 0, (List.getD v0.L (Int.toNat v0.I) default).S, []⟩ : ApiValue))), FW.blk b4 52 ((ApiWord.cells (List.getD v0.L (Int.toNat v0.I) default))), FW.blk b3 33 ((ApiValue.cells (⟨0, false, 0, 0, [], []⟩ : ApiValue))), FW.blk b2 62 ((Offshootref12State.cells (⟨[], 0, 0, 0, 0, 0⟩ : Offshootref12State))), FW.blk b1 62 ((Offshootref12State.cells v0))]) (cs' := (ApiValue.cells (⟨4, false, 0, 0, (List.getD v0.L (Int.toNat v0.I) default).S, []⟩ : ApiValue))) (j := 0) hk rfl rfl rfl rfl rfl (by kernel_rfl) rfl rfl ?_; clear hk; intro w hk
            refine wpList_nil ?_
            (repeat first | refine FW.then_normal ?_ | refine FW.block_normal ?_); exact hK7 _ _ ⟨(⟨4, false, 0, 0, (List.getD v0.L (Int.toNat v0.I) default).S, []⟩ : ApiValue), (⟨0, false, 0, 0, [], []⟩ : ApiValue), (⟨[], 0, 0, 0, 0, 0⟩ : Offshootref12State), v0, true, (hk.drop 1).sub ⟨rfl, rfl, rfl, rfl, rfl, trivial⟩, h⟩
          · skip
            refine FW.wreg ?_; intro K' hK18
            refine FW.lfun (y := .lit (.pointer (some ⟨b4, 0, none⟩))) hk rfl rfl rfl rfl (FW.f_fieldPtr hk (FW.holds_nil _) rfl Go.Proofs.Try.underlying52 rfl (by kernel_rfl) rfl) ?_; clear hk; intro a w hk
            refine FW.lfun (y := .lit (.int .i64 ((List.getD v0.L (Int.toNat v0.I) default).Kind))) hk rfl rfl rfl rfl (FW.f_loadBlk1 hk (FW.holds_nil _) (j := 1) rfl rfl Go.Proofs.Try.underlying3 rfl rfl) ?_; clear hk; intro a w hk
            refine FW.lfun (y := .lit (.bool (decide (((List.getD v0.L (Int.toNat v0.I) default).Kind) = 1)))) hk rfl rfl rfl rfl ((FW.f_pure (FW.p_eql hk.kn (FW.holds_nil _) rfl rfl))) ?_; clear hk; intro a w hk
            refine FW.lfun (y := .lit (.bool (decide (((List.getD v0.L (Int.toNat v0.I) default).Kind) = 1)))) hk rfl rfl rfl rfl (FW.f_move hk (FW.holds_nil _) rfl) ?_; clear hk; intro a w hk
            refine FW.lfunG (y := .lit (.pointer (some ⟨b4, 1, none⟩))) hk rfl rfl rfl rfl rfl rfl rfl rfl (fun hc => FW.f_fieldPtr hk hc rfl Go.Proofs.Try.underlying52 rfl (by kernel_rfl) rfl) ?_; clear hk; intro a w hk
            refine FW.lfunG (y := .lit (.string (FW.B ((List.getD v0.L (Int.toNat v0.I) default).S)))) hk rfl rfl rfl rfl rfl rfl rfl rfl (fun hc => FW.f_loadBlk1 hk hc (j := 1) rfl rfl Go.Proofs.Try.underlying9 rfl rfl) ?_; clear hk; intro a w hk
            refine FW.lfunG (y := .lit (.bool (decide (((List.getD v0.L (Int.toNat v0.I) default).S) = ([116, 114, 117, 101] : List UInt8))))) hk rfl rfl rfl rfl rfl rfl rfl rfl (fun hc => (FW.f_pure (FW.p_seql hk.kn hc rfl rfl))) ?_; clear hk; intro a w hk
            refine FW.lfun (y := .lit (.bool ((decide (((List.getD v0.L (Int.toNat v0.I) default).Kind) = 1)) && (decide (((List.getD v0.L (Int.toNat v0.I) default).S) = ([116, 114, 117, 101] : List UInt8)))))) hk rfl rfl rfl rfl ((FW.f_pure (FW.p_pick_and hk.kn (FW.holds_nil _) rfl rfl))) ?_; clear hk; intro a w hk
            refine FW.lfun (y := .lit (.bool ((decide (((List.getD v0.L (Int.toNat v0.I) default).Kind) = 1)) && (decide (((List.getD v0.L (Int.toNat v0.I) default).S) = ([116, 114, 117, 101] : List UInt8)))))) hk rfl rfl rfl rfl (FW.f_assign hk (FW.holds_nil _) rfl) ?_; clear hk; intro a w hk
            refine FW.lend (hK18 _ _ ?_); clear hK18 K'
            refine FW.wcondF (b := ((decide (((List.getD v0.L (Int.toNat v0.I) default).Kind) = 1)) && (decide (((List.getD v0.L (Int.toNat v0.I) default).S) = ([116, 114, 117, 101] : List UInt8))))) hk h rfl (fun h hb => ?_) (fun h hb => ?_)
            · skip
              refine FW.wreg1 ?_
              refine FW.lfun (y := .agg ((ApiValue.cells (⟨1, true, 0, 0, [], []⟩ : ApiValue)))) hk rfl rfl rfl rfl (FW.f_buildN [] hk (FW.holds_nil _) rfl rfl rfl) ?_; clear hk; intro a w hk
              refine FW.l_store (I' := [FW.blk b5 33 ((ApiValue.cells (⟨1, true, 0, 0, [], []⟩ : ApiValue))), FW.blk b4 52 ((ApiWord.cells (List.getD v0.L (Int.toNat v0.I) default))), FW.blk b3 33 ((ApiValue.cells (⟨0, false, 0, 0, [], []⟩ : ApiValue))), FW.blk b2 62 ((Offshootref12State.cells (⟨[], 0, 0, 0, 0, 0⟩ : Offshootref12State))), FW.blk b1 62 ((Offshootref12State.cells v0))]) (cs' := (ApiValue.cells (⟨1, true, 0, 0, [], []⟩ : ApiValue))) (j := 0) hk rfl rfl rfl rfl rfl (by kernel_rfl) rfl rfl ?_; clear hk; intro w hk
              refine wpList_nil ?_
              (repeat first | refine FW.then_normal ?_ | refine FW.block_normal ?_); exact hK7 _ _ ⟨(⟨1, true, 0, 0, [], []⟩ : ApiValue), (⟨0, false, 0, 0, [], []⟩ : ApiValue), (⟨[], 0, 0, 0, 0, 0⟩ : Offshootref12State), v0, true, (hk.drop 1).sub ⟨rfl, rfl, rfl, rfl, rfl, trivial⟩, h⟩
            · skip
              refine FW.wreg ?_; intro K' hK20
              refine FW.lfun (y := .lit (.pointer (some ⟨b4, 0, none⟩))) hk rfl rfl rfl rfl (FW.f_fieldPtr hk (FW.holds_nil _) rfl Go.Proofs.Try.underlying52 rfl (by kernel_rfl) rfl) ?_; clear hk; intro a w hk
              refine FW.lfun (y := .lit (.int .i64 ((List.getD v0.L (Int.toNat v0.I) default).Kind))) hk rfl rfl rfl rfl (FW.f_loadBlk1 hk (FW.holds_nil _) (j := 1) rfl rfl Go.Proofs.Try.underlying3 rfl rfl) ?_; clear hk; intro a w hk
              refine FW.lfun (y := .lit (.bool (decide (((List.getD v0.L (Int.toNat v0.I) default).Kind) = 1)))) hk rfl rfl rfl rfl ((FW.f_pure (FW.p_eql hk.kn (FW.holds_nil _) rfl rfl))) ?_; clear hk; intro a w hk
              refine FW.lfun (y := .lit (.bool (decide (((List.getD v0.L (Int.toNat v0.I) default).Kind) = 1)))) hk rfl rfl rfl rfl (FW.f_move hk (FW.holds_nil _) rfl) ?_; clear hk; intro a w hk
              refine FW.lfunG (y := .lit (.pointer (some ⟨b4, 1, none⟩))) hk rfl rfl rfl rfl rfl rfl rfl rfl (fun hc => FW.f_fieldPtr hk hc rfl Go.Proofs.Try.underlying52 rfl (by kernel_rfl) rfl) ?_; clear hk; intro a w hk
              refine FW.lfunG (y := .lit (.string (FW.B ((List.getD v0.L (Int.toNat v0.I) default).S)))) hk rfl rfl rfl rfl rfl rfl rfl rfl (fun hc => FW.f_loadBlk1 hk hc (j := 1) rfl rfl Go.Proofs.Try.underlying9 rfl rfl) ?_; clear hk; intro a w hk
              refine FW.lfunG (y := .lit (.bool (decide (((List.getD v0.L (Int.toNat v0.I) default).S) = ([102, 97, 108, 115, 101] : List UInt8))))) hk rfl rfl rfl rfl rfl rfl rfl rfl (fun hc => (FW.f_pure (FW.p_seql hk.kn hc rfl rfl))) ?_; clear hk; intro a w hk
              refine FW.lfun (y := .lit (.bool ((decide (((List.getD v0.L (Int.toNat v0.I) default).Kind) = 1)) && (decide (((List.getD v0.L (Int.toNat v0.I) default).S) = ([102, 97, 108, 115, 101] : List UInt8)))))) hk rfl rfl rfl rfl ((FW.f_pure (FW.p_pick_and hk.kn (FW.holds_nil _) rfl rfl))) ?_; clear hk; intro a w hk
              refine FW.lfun (y := .lit (.bool ((decide (((List.getD v0.L (Int.toNat v0.I) default).Kind) = 1)) && (decide (((List.getD v0.L (Int.toNat v0.I) default).S) = ([102, 97, 108, 115, 101] : List UInt8)))))) hk rfl rfl rfl rfl (FW.f_assign hk (FW.holds_nil _) rfl) ?_; clear hk; intro a w hk
              refine FW.lend (hK20 _ _ ?_); clear hK20 K'
              refine FW.wcondF (b := ((decide (((List.getD v0.L (Int.toNat v0.I) default).Kind) = 1)) && (decide (((List.getD v0.L (Int.toNat v0.I) default).S) = ([102, 97, 108, 115, 101] : List UInt8))))) hk h rfl (fun h hb => ?_) (fun h hb => ?_)
              · skip
                refine FW.wreg1 ?_
                refine FW.lfun (y := .agg ((ApiValue.cells (⟨1, false, 0, 0, [], []⟩ : ApiValue)))) hk rfl rfl rfl rfl (FW.f_buildN [] hk (FW.holds_nil _) rfl rfl rfl) ?_; clear hk; intro a w hk
                refine FW.l_store (I' := [FW.blk b5 33 ((ApiValue.cells (⟨1, false, 0, 0, [], []⟩ : ApiValue))), FW.blk b4 52 ((ApiWord.cells (List.getD v0.L (Int.toNat v0.I) default))), FW.blk b3 33 ((ApiValue.cells (⟨0, false, 0, 0, [], []⟩ : ApiValue))), FW.blk b2 62 ((Offshootref12State.cells (⟨[], 0, 0, 0, 0, 0⟩ : Offshootref12State))), FW.blk b1 62 ((Offshootref12State.cells v0))]) (cs' := (ApiValue.cells (⟨1, false, 0, 0, [], []⟩ : ApiValue))) (j := 0) hk rfl rfl rfl rfl rfl (by kernel_rfl) rfl rfl ?_; clear hk; intro w hk
                refine wpList_nil ?_
                (repeat first | refine FW.then_normal ?_ | refine FW.block_normal ?_); exact hK7 _ _ ⟨(⟨1, false, 0, 0, [], []⟩ : ApiValue), (⟨0, false, 0, 0, [], []⟩ : ApiValue), (⟨[], 0, 0, 0, 0, 0⟩ : Offshootref12State), v0, true, (hk.drop 1).sub ⟨rfl, rfl, rfl, rfl, rfl, trivial⟩, h⟩
              · skip
                refine FW.wreg ?_; intro K' hK22
                refine FW.lfun (y := .lit (.pointer (some ⟨b4, 0, none⟩))) hk rfl rfl rfl rfl (FW.f_fieldPtr hk (FW.holds_nil _) rfl Go.Proofs.Try.underlying52 rfl (by kernel_rfl) rfl) ?_; clear hk; intro a w hk
                refine FW.lfun (y := .lit (.int .i64 ((List.getD v0.L (Int.toNat v0.I) default).Kind))) hk rfl rfl rfl rfl (FW.f_loadBlk1 hk (FW.holds_nil _) (j := 1) rfl rfl Go.Proofs.Try.underlying3 rfl rfl) ?_; clear hk; intro a w hk
                refine FW.lfun (y := .lit (.bool (decide (((List.getD v0.L (Int.toNat v0.I) default).Kind) = 1)))) hk rfl rfl rfl rfl ((FW.f_pure (FW.p_eql hk.kn (FW.holds_nil _) rfl rfl))) ?_; clear hk; intro a w hk
                refine FW.lfun (y := .lit (.bool (decide (((List.getD v0.L (Int.toNat v0.I) default).Kind) = 1)))) hk rfl rfl rfl rfl (FW.f_move hk (FW.holds_nil _) rfl) ?_; clear hk; intro a w hk
                refine FW.lfunG (y := .lit (.pointer (some ⟨b4, 1, none⟩))) hk rfl rfl rfl rfl rfl rfl rfl rfl (fun hc => FW.f_fieldPtr hk hc rfl Go.Proofs.Try.underlying52 rfl (by kernel_rfl) rfl) ?_; clear hk; intro a w hk
                refine FW.lfunG (y := .lit (.string (FW.B ((List.getD v0.L (Int.toNat v0.I) default).S)))) hk rfl rfl rfl rfl rfl rfl rfl rfl (fun hc => FW.f_loadBlk1 hk hc (j := 1) rfl rfl Go.Proofs.Try.underlying9 rfl rfl) ?_; clear hk; intro a w hk
                refine FW.lfunG (y := .lit (.bool (decide (((List.getD v0.L (Int.toNat v0.I) default).S) = ([110, 117, 108, 108] : List UInt8))))) hk rfl rfl rfl rfl rfl rfl rfl rfl (fun hc => (FW.f_pure (FW.p_seql hk.kn hc rfl rfl))) ?_; clear hk; intro a w hk
                refine FW.lfun (y := .lit (.bool ((decide (((List.getD v0.L (Int.toNat v0.I) default).Kind) = 1)) && (decide (((List.getD v0.L (Int.toNat v0.I) default).S) = ([110, 117, 108, 108] : List UInt8)))))) hk rfl rfl rfl rfl ((FW.f_pure (FW.p_pick_and hk.kn (FW.holds_nil _) rfl rfl))) ?_; clear hk; intro a w hk
                refine FW.lfun (y := .lit (.bool ((decide (((List.getD v0.L (Int.toNat v0.I) default).Kind) = 1)) && (decide (((List.getD v0.L (Int.toNat v0.I) default).S) = ([110, 117, 108, 108] : List UInt8)))))) hk rfl rfl rfl rfl (FW.f_assign hk (FW.holds_nil _) rfl) ?_; clear hk; intro a w hk
                refine FW.lend (hK22 _ _ ?_); clear hK22 K'
                refine FW.wcondF (b := ((decide (((List.getD v0.L (Int.toNat v0.I) default).Kind) = 1)) && (decide (((List.getD v0.L (Int.toNat v0.I) default).S) = ([110, 117, 108, 108] : List UInt8))))) hk h rfl (fun h hb => ?_) (fun h hb => ?_)
                · skip
                  refine wp_skip ?_
                  (repeat first | refine FW.then_normal ?_ | refine FW.block_normal ?_); exact hK7 _ _ ⟨(⟨0, false, 0, 0, [], []⟩ : ApiValue), (⟨0, false, 0, 0, [], []⟩ : ApiValue), (⟨[], 0, 0, 0, 0, 0⟩ : Offshootref12State), v0, true, (hk.drop 1).sub ⟨rfl, rfl, rfl, rfl, rfl, trivial⟩, h⟩
                · skip
                  refine FW.wreg ?_; intro K' hK23
                  refine FW.lfun (y := .agg ((Offshootref12State.cells v0))) hk rfl rfl rfl rfl (FW.f_loadBlk hk (FW.holds_nil _) (j := 4) rfl rfl Go.Proofs.Try.underlying62 rfl rfl rfl rfl) ?_; clear hk; intro a w hk
                  obtain ⟨t1, hr_t1, h⟩ := FW.bnd h
                  refine FW.lfun (y := .lit (.bool t1)) hk rfl rfl rfl rfl (FW.f_call hk (FW.holds_nil _) rfl rfl Go.Proofs.Try.func48 rfl (by kernel_rfl) (offshootref12_State_is.ok v0 ([91] : List UInt8) _ hr_t1)) ?_; clear hk; intro a w hk
                  refine FW.lfun (y := .lit (.bool t1)) hk rfl rfl rfl rfl (FW.f_assign hk (FW.holds_nil _) rfl) ?_; clear hk; intro a w hk
                  refine FW.lend (hK23 _ _ ?_); clear hK23 K'
                  refine FW.wcondF (b := t1) hk h rfl (fun h hb => ?_) (fun h hb => ?_)
                  · skip
                    refine FW.wreg ?_; intro K' hK24
                    refine FW.lfun (y := .lit (.pointer (some ⟨b1, 1, none⟩))) hk rfl rfl rfl rfl (FW.f_fieldPtr hk (FW.holds_nil _) rfl Go.Proofs.Try.underlying62 rfl (by kernel_rfl) rfl) ?_; clear hk; intro a w hk
                    refine FW.lfun (y := .lit (.int .i64 v0.I)) hk rfl rfl rfl rfl (FW.f_loadBlk1 hk (FW.holds_nil _) (j := 4) rfl rfl Go.Proofs.Try.underlying3 rfl rfl) ?_; clear hk; intro a w hk
                    refine FW.lfun (y := .lit (.int .i64 (IntKind.wrap .i64 (v0.I + 1)))) hk rfl rfl rfl rfl ((FW.f_pure (FW.p_add hk.kn (FW.holds_nil _) rfl rfl))) ?_; clear hk; intro a w hk
                    refine FW.lfun (y := .lit (.pointer (some ⟨b1, 1, none⟩))) hk rfl rfl rfl rfl (FW.f_fieldPtr hk (FW.holds_nil _) rfl Go.Proofs.Try.underlying62 rfl (by kernel_rfl) rfl) ?_; clear hk; intro a w hk
                    refine FW.l_store (I' := [FW.blk b5 33 ((ApiValue.cells (⟨0, false, 0, 0, [], []⟩ : ApiValue))), FW.blk b4 52 ((ApiWord.cells (List.getD v0.L (Int.toNat v0.I) default))), FW.blk b3 33 ((ApiValue.cells (⟨0, false, 0, 0, [], []⟩ : ApiValue))), FW.blk b2 62 ((Offshootref12State.cells (⟨[], 0, 0, 0, 0, 0⟩ : Offshootref12State))), FW.blk b1 62 ((Offshootref12State.cells (⟨v0.L, (IntKind.wrap .i64 (v0.I + 1)), v0.Deep, v0.Steps, v0.At, v0.E⟩ : Offshootref12State)))]) (cs' := (Offshootref12State.cells (⟨v0.L, (IntKind.wrap .i64 (v0.I + 1)), v0.Deep, v0.Steps, v0.At, v0.E⟩ : Offshootref12State))) (j := 4) hk rfl rfl rfl rfl rfl (by kernel_rfl) rfl rfl ?_; clear hk; intro w hk
                    refine FW.lend (hK24 _ _ ?_); clear hK24 K'
                    refine FW.wreg ?_; intro K' hK25
                    refine FW.lfun (y := .lit (.pointer (some ⟨b1, 2, none⟩))) hk rfl rfl rfl rfl (FW.f_fieldPtr hk (FW.holds_nil _) rfl Go.Proofs.Try.underlying62 rfl (by kernel_rfl) rfl) ?_; clear hk; intro a w hk
                    refine FW.lfun (y := .lit (.int .i64 v0.Deep)) hk rfl rfl rfl rfl (FW.f_loadBlk1 hk (FW.holds_nil _) (j := 4) rfl rfl Go.Proofs.Try.underlying3 rfl rfl) ?_; clear hk; intro a w hk
                    refine FW.lfun (y := .lit (.int .i64 v0.Deep)) hk rfl rfl rfl rfl (FW.f_assign hk (FW.holds_nil _) rfl) ?_; clear hk; intro a w hk
                    refine FW.lend (hK25 _ _ ?_); clear hK25 K'
                    refine FW.wreg ?_; intro K' hK26
                    refine FW.lfun (y := .agg ((Offshootref12State.cells (⟨v0.L, (IntKind.wrap .i64 (v0.I + 1)), v0.Deep, v0.Steps, v0.At, v0.E⟩ : Offshootref12State)))) hk rfl rfl rfl rfl (FW.f_loadBlk hk (FW.holds_nil _) (j := 4) rfl rfl Go.Proofs.Try.underlying62 rfl rfl rfl rfl) ?_; clear hk; intro a w hk
                    obtain ⟨t2, hr_t2, h⟩ := FW.bnd h
                    refine FW.lfun (y := .agg ((Offshootref12State.cells t2))) hk rfl rfl rfl rfl (FW.f_call hk (FW.holds_nil _) rfl rfl Go.Proofs.Try.func67 rfl (by kernel_rfl) (offshootref12_State_into.ok (⟨v0.L, (IntKind.wrap .i64 (v0.I + 1)), v0.Deep, v0.Steps, v0.At, v0.E⟩ : Offshootref12State) _ hr_t2)) ?_; clear hk; intro a w hk
                    refine FW.l_store (I' := [FW.blk b5 33 ((ApiValue.cells (⟨0, false, 0, 0, [], []⟩ : ApiValue))), FW.blk b4 52 ((ApiWord.cells (List.getD v0.L (Int.toNat v0.I) default))), FW.blk b3 33 ((ApiValue.cells (⟨0, false, 0, 0, [], []⟩ : ApiValue))), FW.blk b2 62 ((Offshootref12State.cells (⟨[], 0, 0, 0, 0, 0⟩ : Offshootref12State))), FW.blk b1 62 ((Offshootref12State.cells t2))]) (cs' := (Offshootref12State.cells t2)) (j := 4) hk rfl rfl rfl rfl rfl (by kernel_rfl) rfl rfl ?_; clear hk; intro w hk
                    refine FW.lend (hK26 _ _ ?_); clear hK26 K'
                    refine FW.wreg ?_; intro K' hK27
                    refine FW.lfun (y := .agg ((Offshootref12State.cells t2))) hk rfl rfl rfl rfl (FW.f_loadBlk hk (FW.holds_nil _) (j := 4) rfl rfl Go.Proofs.Try.underlying62 rfl rfl rfl rfl) ?_; clear hk; intro a w hk
                    obtain ⟨t3, hr_t3, h⟩ := FW.bnd h
                    refine FW.lfun (y := .tup [.agg ((Offshootref12State.cells t3.1)), .row (r_ApiValue_cells t3.2)]) hk rfl rfl rfl rfl (FW.f_call hk (FW.holds_nil _) rfl rfl Go.Proofs.Try.func78 rfl (by kernel_rfl) (hs_offshootref12_State_values t2 ([93] : List UInt8) _ hr_t3)) ?_; clear hk; intro a w hk
                    refine FW.lfun (y := .tup [.agg ((Offshootref12State.cells t3.1)), .row (r_ApiValue_cells t3.2)]) hk rfl rfl rfl rfl (FW.f_move hk (FW.holds_nil _) rfl) ?_; clear hk; intro a w hk
                    refine FW.lfun (y := .agg ((Offshootref12State.cells t3.1))) hk rfl rfl rfl rfl (FW.f_extract hk (FW.holds_nil _) rfl rfl) ?_; clear hk; intro a w hk
                    refine FW.lfun (y := .row (r_ApiValue_cells t3.2)) hk rfl rfl rfl rfl (FW.f_extract hk (FW.holds_nil _) rfl rfl) ?_; clear hk; intro a w hk
                    refine FW.l_alloc (zs := (Offshootref12State.cells (⟨[], 0, 0, 0, 0, 0⟩ : Offshootref12State))) [] hk rfl rfl rfl rfl ?_; clear hk; intro b6 a w hk
                    refine FW.l_store (I' := [FW.blk b6 62 ((Offshootref12State.cells t3.1)), FW.blk b5 33 ((ApiValue.cells (⟨0, false, 0, 0, [], []⟩ : ApiValue))), FW.blk b4 52 ((ApiWord.cells (List.getD v0.L (Int.toNat v0.I) default))), FW.blk b3 33 ((ApiValue.cells (⟨0, false, 0, 0, [], []⟩ : ApiValue))), FW.blk b2 62 ((Offshootref12State.cells (⟨[], 0, 0, 0, 0, 0⟩ : Offshootref12State))), FW.blk b1 62 ((Offshootref12State.cells t2))]) (cs' := (Offshootref12State.cells t3.1)) (j := 0) hk rfl rfl rfl rfl rfl (by kernel_rfl) rfl rfl ?_; clear hk; intro w hk
                    refine FW.lfun (y := .row (r_ApiValue_cells t3.2)) hk rfl rfl rfl rfl (FW.f_assign hk (FW.holds_nil _) rfl) ?_; clear hk; intro a w hk
                    refine FW.lend (hK27 _ _ ?_); clear hK27 K'
                    refine FW.wreg ?_; intro K' hK28
                    refine FW.lfun (y := .lit (.int .i64 v0.Deep)) hk rfl rfl rfl rfl (FW.f_move hk (FW.holds_nil _) rfl) ?_; clear hk; intro a w hk
                    refine FW.lfun (y := .lit (.pointer (some ⟨b6, 2, none⟩))) hk rfl rfl rfl rfl (FW.f_fieldPtr hk (FW.holds_nil _) rfl Go.Proofs.Try.underlying62 rfl (by kernel_rfl) rfl) ?_; clear hk; intro a w hk
                    refine FW.l_store (I' := [FW.blk b6 62 ((Offshootref12State.cells (⟨t3.1.L, t3.1.I, v0.Deep, t3.1.Steps, t3.1.At, t3.1.E⟩ : Offshootref12State))), FW.blk b5 33 ((ApiValue.cells (⟨0, false, 0, 0, [], []⟩ : ApiValue))), FW.blk b4 52 ((ApiWord.cells (List.getD v0.L (Int.toNat v0.I) default))), FW.blk b3 33 ((ApiValue.cells (⟨0, false, 0, 0, [], []⟩ : ApiValue))), FW.blk b2 62 ((Offshootref12State.cells (⟨[], 0, 0, 0, 0, 0⟩ : Offshootref12State))), FW.blk b1 62 ((Offshootref12State.cells t2))]) (cs' := (Offshootref12State.cells (⟨t3.1.L, t3.1.I, v0.Deep, t3.1.Steps, t3.1.At, t3.1.E⟩ : Offshootref12State))) (j := 0) hk rfl rfl rfl rfl rfl (by kernel_rfl) rfl rfl ?_; clear hk; intro w hk
                    refine FW.lend (hK28 _ _ ?_); clear hK28 K'
                    refine FW.wdrawE (need := [false, false, false, true, true, true, false, false, true]) [(6, [true, true, true, true, true, true, false, false, false], [true, true, true, true, true, true, false, false, false]), (7, [false, true, true, true, true, true, false, false, false], [true, true, true, true, true, true, true, false, false])] [(91, [], .agg ((Offshootref12State.cells (⟨t3.1.L, t3.1.I, v0.Deep, t3.1.Steps, t3.1.At, t3.1.E⟩ : Offshootref12State)))), (92, [], .row (r_ApiValue_cells t3.2)), (93, [], .agg ((ApiValue.cells (⟨5, false, 0, 0, [], t3.2⟩ : ApiValue)))), (94, [], .lit (.pointer (some ⟨b6, 5, none⟩))), (95, [], .lit (.int .i64 t3.1.E)), (96, [], .lit (.bool (decide (t3.1.E = 0)))), (105, [], .lit undef), (105, [], .lit undef), (4, [], .agg [])] (by kernel_rfl) (by kernel_rfl) (by kernel_rfl) (by kernel_rfl) hk ?_; clear hk
                    refine FW.gnext0 ?_ rfl rfl rfl ?_
                    · skip
                      refine FW.gfun (y := .agg ((Offshootref12State.cells (⟨t3.1.L, t3.1.I, v0.Deep, t3.1.Steps, t3.1.At, t3.1.E⟩ : Offshootref12State)))) rfl rfl rfl rfl (fun a w hk => FW.f_loadBlk hk (FW.holds_nil _) (j := 0) rfl rfl Go.Proofs.Try.underlying62 rfl rfl rfl rfl) ?_
                      refine FW.gfun (y := .row (r_ApiValue_cells t3.2)) rfl rfl rfl rfl (fun a w hk => FW.f_move hk (FW.holds_nil _) rfl) ?_
                      refine FW.gfun (y := .agg ((ApiValue.cells (⟨5, false, 0, 0, [], t3.2⟩ : ApiValue)))) rfl rfl rfl rfl (fun a w hk => FW.f_buildN [] hk (FW.holds_nil _) rfl rfl rfl) ?_
                      refine FW.gfun (y := .lit (.pointer (some ⟨b6, 5, none⟩))) rfl rfl rfl rfl (fun a w hk => FW.f_fieldPtr hk (FW.holds_nil _) rfl Go.Proofs.Try.underlying62 rfl (by kernel_rfl) rfl) ?_
                      refine FW.gfun (y := .lit (.int .i64 t3.1.E)) rfl rfl rfl rfl (fun a w hk => FW.f_loadBlk1 hk (FW.holds_nil _) (j := 0) rfl rfl Go.Proofs.Try.underlying23 rfl rfl) ?_
                      refine FW.gfun (y := .lit (.bool (decide (t3.1.E = 0)))) rfl rfl rfl rfl (fun a w hk => (FW.f_pure (FW.p_eql hk.kn (FW.holds_nil _) rfl rfl))) ?_
                      refine FW.gskip0 rfl ?_
                      refine FW.gskip0 rfl ?_
                      refine FW.gskip rfl rfl ?_
                      exact FW.gend
                    · skip
                      intro σD a w opsD QD hk hQ
                      refine FW.l_store (I' := [FW.blk b6 62 ((Offshootref12State.cells (⟨t3.1.L, t3.1.I, v0.Deep, t3.1.Steps, t3.1.At, t3.1.E⟩ : Offshootref12State))), FW.blk b5 33 ((ApiValue.cells (⟨0, false, 0, 0, [], []⟩ : ApiValue))), FW.blk b4 52 ((ApiWord.cells (List.getD v0.L (Int.toNat v0.I) default))), FW.blk b3 33 ((ApiValue.cells (⟨0, false, 0, 0, [], []⟩ : ApiValue))), FW.blk b2 62 ((Offshootref12State.cells (⟨t3.1.L, t3.1.I, v0.Deep, t3.1.Steps, t3.1.At, t3.1.E⟩ : Offshootref12State))), FW.blk b1 62 ((Offshootref12State.cells t2))]) (cs' := (Offshootref12State.cells (⟨t3.1.L, t3.1.I, v0.Deep, t3.1.Steps, t3.1.At, t3.1.E⟩ : Offshootref12State))) (j := 4) hk rfl rfl rfl rfl rfl (by kernel_rfl) rfl rfl ?_; clear hk; intro w hk
                      refine hQ _ a w ?_ hk; clear hk hQ
                      refine ⟨[(91, [], .agg ((Offshootref12State.cells (⟨t3.1.L, t3.1.I, v0.Deep, t3.1.Steps, t3.1.At, t3.1.E⟩ : Offshootref12State)))), (92, [], .row (r_ApiValue_cells t3.2)), (93, [], .agg ((ApiValue.cells (⟨5, false, 0, 0, [], t3.2⟩ : ApiValue)))), (94, [], .lit (.pointer (some ⟨b6, 5, none⟩))), (95, [], .lit (.int .i64 t3.1.E)), (96, [], .lit (.bool (decide (t3.1.E = 0)))), (105, [], .lit undef), (105, [], .lit undef), (4, [], .agg [])], And.intro rfl (And.intro rfl (And.intro rfl (And.intro rfl (And.intro rfl (And.intro rfl (trivial)))))), rfl, ?_⟩
                      refine FW.gnext0 ?_ rfl rfl rfl ?_
                      · skip
                        refine FW.gskip rfl rfl ?_
                        refine FW.gfun (y := .row (r_ApiValue_cells t3.2)) rfl rfl rfl rfl (fun a w hk => FW.f_move hk (FW.holds_nil _) rfl) ?_
                        refine FW.gfun (y := .agg ((ApiValue.cells (⟨5, false, 0, 0, [], t3.2⟩ : ApiValue)))) rfl rfl rfl rfl (fun a w hk => FW.f_buildN [] hk (FW.holds_nil _) rfl rfl rfl) ?_
                        refine FW.gfun (y := .lit (.pointer (some ⟨b6, 5, none⟩))) rfl rfl rfl rfl (fun a w hk => FW.f_fieldPtr hk (FW.holds_nil _) rfl Go.Proofs.Try.underlying62 rfl (by kernel_rfl) rfl) ?_
                        refine FW.gfun (y := .lit (.int .i64 t3.1.E)) rfl rfl rfl rfl (fun a w hk => FW.f_loadBlk1 hk (FW.holds_nil _) (j := 0) rfl rfl Go.Proofs.Try.underlying23 rfl rfl) ?_
                        refine FW.gfun (y := .lit (.bool (decide (t3.1.E = 0)))) rfl rfl rfl rfl (fun a w hk => (FW.f_pure (FW.p_eql hk.kn (FW.holds_nil _) rfl rfl))) ?_
                        refine FW.gskip0 rfl ?_
                        refine FW.gskip0 rfl ?_
                        refine FW.gskip rfl rfl ?_
                        exact FW.gend
                      · skip
                        intro σD a w opsD QD hk hQ
                        refine FW.l_store (I' := [FW.blk b6 62 ((Offshootref12State.cells (⟨t3.1.L, t3.1.I, v0.Deep, t3.1.Steps, t3.1.At, t3.1.E⟩ : Offshootref12State))), FW.blk b5 33 ((ApiValue.cells (⟨0, false, 0, 0, [], []⟩ : ApiValue))), FW.blk b4 52 ((ApiWord.cells (List.getD v0.L (Int.toNat v0.I) default))), FW.blk b3 33 ((ApiValue.cells (⟨5, false, 0, 0, [], t3.2⟩ : ApiValue))), FW.blk b2 62 ((Offshootref12State.cells (⟨t3.1.L, t3.1.I, v0.Deep, t3.1.Steps, t3.1.At, t3.1.E⟩ : Offshootref12State))), FW.blk b1 62 ((Offshootref12State.cells t2))]) (cs' := (ApiValue.cells (⟨5, false, 0, 0, [], t3.2⟩ : ApiValue))) (j := 3) hk rfl rfl rfl rfl rfl (by kernel_rfl) rfl rfl ?_; clear hk; intro w hk
                        refine hQ _ a w ?_ hk; clear hk hQ
                        refine ⟨[(91, [], .agg ((Offshootref12State.cells (⟨t3.1.L, t3.1.I, v0.Deep, t3.1.Steps, t3.1.At, t3.1.E⟩ : Offshootref12State)))), (92, [], .row (r_ApiValue_cells t3.2)), (93, [], .agg ((ApiValue.cells (⟨5, false, 0, 0, [], t3.2⟩ : ApiValue)))), (94, [], .lit (.pointer (some ⟨b6, 5, none⟩))), (95, [], .lit (.int .i64 t3.1.E)), (96, [], .lit (.bool (decide (t3.1.E = 0)))), (105, [], .lit undef), (105, [], .lit undef), (4, [], .lit (.bool (decide (t3.1.E = 0))))], And.intro rfl (And.intro rfl (And.intro rfl (And.intro rfl (And.intro rfl (And.intro rfl (And.intro rfl (trivial))))))), rfl, ?_⟩
                        refine FW.glast ?_ ?_
                        · skip
                          refine FW.gskip rfl rfl ?_
                          refine FW.gskip rfl rfl ?_
                          refine FW.gskip rfl rfl ?_
                          refine FW.gfun (y := .lit (.pointer (some ⟨b6, 5, none⟩))) rfl rfl rfl rfl (fun a w hk => FW.f_fieldPtr hk (FW.holds_nil _) rfl Go.Proofs.Try.underlying62 rfl (by kernel_rfl) rfl) ?_
                          refine FW.gfun (y := .lit (.int .i64 t3.1.E)) rfl rfl rfl rfl (fun a w hk => FW.f_loadBlk1 hk (FW.holds_nil _) (j := 0) rfl rfl Go.Proofs.Try.underlying23 rfl rfl) ?_
                          refine FW.gfun (y := .lit (.bool (decide (t3.1.E = 0)))) rfl rfl rfl rfl (fun a w hk => (FW.f_pure (FW.p_eql hk.kn (FW.holds_nil _) rfl rfl))) ?_
                          refine FW.gskip0 rfl ?_
                          refine FW.gskip0 rfl ?_
                          refine FW.gfun (y := .lit (.bool (decide (t3.1.E = 0)))) rfl rfl rfl rfl (fun a w hk => FW.f_assign hk (FW.holds_nil _) rfl) ?_
                          exact FW.gend
                        · skip
                          intro a w hk; simp only [FW.stD, cond_true] at hk
                          refine wp_ret ?_
                          (repeat first | refine FW.then_ret ?_ | refine FW.block_ret ?_)
                          obtain rfl := Option.some.inj h
                          exact FW.fretR3 hk rfl (FW.rcell hk rfl (j := 4) rfl Go.Proofs.Try.underlying62 rfl (by kernel_rfl)) (FW.rcell hk rfl (j := 3) rfl Go.Proofs.Try.underlying33 rfl (by kernel_rfl)) (FW.rtmp hk rfl)
                  · skip
                    refine FW.wreg1 ?_
                    refine FW.lfun (y := .lit (.bool false)) hk rfl rfl rfl rfl (FW.f_assign hk (FW.holds_nil _) rfl) ?_; clear hk; intro a w hk
                    refine wpList_nil ?_
                    (repeat first | refine FW.then_normal ?_ | refine FW.block_normal ?_); exact hK7 _ _ ⟨(⟨0, false, 0, 0, [], []⟩ : ApiValue), (⟨0, false, 0, 0, [], []⟩ : ApiValue), (⟨[], 0, 0, 0, 0, 0⟩ : Offshootref12State), v0, false, (hk.drop 1).sub ⟨rfl, rfl, rfl, rfl, rfl, trivial⟩, h⟩
theorem offshootref12_State_values.bok (s_offshootref12_State_value : Offshootref12State → Option (Offshootref12State × ApiValue × Bool)) (s_offshootref12_State_values : Offshootref12State → List UInt8 → Option (Offshootref12State × List ApiValue)) (hs_offshootref12_State_value : ∀ (v0 : Offshootref12State) (r : Offshootref12State × ApiValue × Bool), s_offshootref12_State_value v0 = some r → FW.Ok Go.Proofs.Try.prog 64 [.agg (Offshootref12State.cells v0)] (.tup [.agg (Offshootref12State.cells r.1), .agg (ApiValue.cells r.2.1), .lit (.bool r.2.2)])) (hs_offshootref12_State_values : ∀ (v0 : Offshootref12State) (v1 : List UInt8) (r : Offshootref12State × List ApiValue), s_offshootref12_State_values v0 v1 = some r → FW.Ok Go.Proofs.Try.prog 78 [.agg (Offshootref12State.cells v0), .lit (.string (FW.B v1))] (.tup [.agg (Offshootref12State.cells r.1), .row (r_ApiValue_cells r.2)])) (K : Nat) (v0 : Offshootref12State) (v1 : List UInt8) (r : Offshootref12State × List ApiValue) (h : offshootref12_State_values.b s_offshootref12_State_value s_offshootref12_State_values K v0 v1 = some r) :
    FW.Ok Go.Proofs.Try.prog 78 [.agg (Offshootref12State.cells v0), .lit (.string (FW.B v1))] (.tup [.agg (Offshootref12State.cells r.1), .row (r_ApiValue_cells r.2)]) := by
  refine FW.enter (xs := [.agg (Offshootref12State.cells v0), .lit (.string (FW.B v1))]) Go.Proofs.Try.func78 rfl Go.Proofs.Try.ntmps78 rfl ?_
  intro M w0 a hk
  unfold offshootref12_State_values.b at h
  refine FW.wreg ?_; intro K' hK1
  refine FW.l_box (cs := (Offshootref12State.cells v0)) hk rfl rfl rfl rfl rfl ?_; clear hk; intro b1 a w hk
  refine FW.l_alloc (zs := (Offshootref12State.cells (⟨[], 0, 0, 0, 0, 0⟩ : Offshootref12State))) [] hk rfl rfl rfl rfl ?_; clear hk; intro b2 a w hk
  refine FW.lfun (y := .row (r_ApiValue_cells [])) hk rfl rfl rfl rfl (FW.f_assignNil) ?_; clear hk; intro a w hk
  refine FW.lend (hK1 _ _ ?_); clear hK1 K'
  refine FW.wreg ?_; intro K' hK2
  refine FW.l_buildSlice0 (f := ApiValue.cells) hk rfl rfl Go.Proofs.Try.underlying31 rfl (fun _ => rfl) ?_; clear hk; intro b3 a w hk
  refine FW.lfun (y := .lit (.slice (some ⟨b3, 0, none⟩) (List.length ([] : List ApiValue)) 0)) hk rfl rfl rfl rfl (FW.f_assign hk (FW.holds_nil _) rfl) ?_; clear hk; intro a w hk
  refine FW.lend (hK2 _ _ ?_); clear hK2 K'
  refine FW.wseq ?_; intro K' hK3
  refine wp_block ?_
  refine FW.wloop (T := Nat × List ApiValue × Offshootref12State × Offshootref12State × List UInt8 × Option Addr × Nat) (fun x a w => match x with | (kl1, l3, y2, y1, v1, ad3, cap3) => FW.S M w0 a w 49 [FW.orow ad3 cap3 33 6 ApiValue.cells l3, FW.blk b2 62 ((Offshootref12State.cells y2)), FW.blk b1 62 ((Offshootref12State.cells y1))] [(1, [], .lit (.string (FW.B v1))), (2, [], .lit (.pointer (some ⟨b1, 0, none⟩))), (4, [], .lit (.pointer (some ⟨b2, 0, none⟩))), (6, [], .lit (.slice ad3 (List.length l3) cap3))] ∧ offshootref12_State_values.l1 s_offshootref12_State_value s_offshootref12_State_values K kl1 l3 y2 y1 v1 = some r) (fun x => x.1) (K, ([] : List ApiValue), (⟨[], 0, 0, 0, 0, 0⟩ : Offshootref12State), v0, v1, (some ⟨b3, 0, none⟩), 0) ⟨hk.sub ⟨rfl, rfl, rfl, rfl, trivial⟩, h⟩ ?_
  clear hk h
  rintro ⟨kl1, l3, y2, y1, v1, ad3, cap3⟩ a w ⟨hk, h⟩ K' hK4
  cases kl1 with
  | zero => simp [offshootref12_State_values.l1] at h
  | succ kl1 =>
  rw [offshootref12_State_values.l1.eq_2] at h
  refine FW.wseq ?_; intro K' hK5
  refine FW.wreg ?_; intro K' hK6
  refine FW.lfun (y := .lit (.pointer (some ⟨b1, 5, none⟩))) hk rfl rfl rfl rfl (FW.f_fieldPtr hk (FW.holds_nil _) rfl Go.Proofs.Try.underlying62 rfl (by kernel_rfl) rfl) ?_; clear hk; intro a w hk
  refine FW.lfun (y := .lit (.int .i64 y1.E)) hk rfl rfl rfl rfl (FW.f_loadBlk1 hk (FW.holds_nil _) (j := 2) rfl rfl Go.Proofs.Try.underlying23 rfl rfl) ?_; clear hk; intro a w hk
  refine FW.lfun (y := .lit (.bool (decide (y1.E = 0)))) hk rfl rfl rfl rfl ((FW.f_pure (FW.p_eql hk.kn (FW.holds_nil _) rfl rfl))) ?_; clear hk; intro a w hk
  refine FW.lfun (y := .lit (.bool (decide (y1.E = 0)))) hk rfl rfl rfl rfl (FW.f_move hk (FW.holds_nil _) rfl) ?_; clear hk; intro a w hk
  refine FW.lfunG (y := .agg ((Offshootref12State.cells y1))) hk rfl rfl rfl rfl rfl rfl rfl rfl (fun hc => FW.f_loadBlk hk hc (j := 2) rfl rfl Go.Proofs.Try.underlying62 rfl rfl rfl rfl) ?_; clear hk; intro a w hk
  refine FW.lfunG (y := .lit (.string (FW.B v1))) hk rfl rfl rfl rfl rfl rfl rfl rfl (fun hc => FW.f_move hk hc rfl) ?_; clear hk; intro a w hk
  obtain ⟨t1, hr_t1, h⟩ := FW.bndG h
  refine FW.lfunG (y := .lit (.bool t1)) hk rfl rfl rfl rfl rfl rfl rfl rfl (fun hc => FW.f_call hk hc rfl rfl Go.Proofs.Try.func48 rfl (by kernel_rfl) (offshootref12_State_is.ok y1 v1 _ (hr_t1 (FW.asm_out (p := (decide (y1.E = 0)) = true) hk.kn hc (fun e0 => e0))))) ?_; clear hk; intro a w hk
  refine FW.lfunG (y := .lit (.bool (!t1))) hk rfl rfl rfl rfl rfl rfl rfl rfl (fun hc => (FW.f_pure (FW.p_not hk.kn hc rfl))) ?_; clear hk; intro a w hk
  refine FW.lfun (y := .lit (.bool ((decide (y1.E = 0)) && (!t1)))) hk rfl rfl rfl rfl ((FW.f_pure (FW.p_pick_and hk.kn (FW.holds_nil _) rfl rfl))) ?_; clear hk; intro a w hk
  refine FW.lend (hK6 _ _ ?_); clear hK6 K'
  refine FW.wcondF (b := ((decide (y1.E = 0)) && (!t1))) hk h rfl (fun h hb => ?_) (fun h hb => ?_)
  · skip
    refine wp_skip ?_
    (repeat first | refine FW.then_normal ?_ | refine FW.block_normal ?_); refine hK5 _ _ ?_
    refine wp_block ?_
    refine FW.wseqJ (fun a w => ∃ (l3 : List ApiValue) (y2 : Offshootref12State) (y1 : Offshootref12State) (v1 : List UInt8) (ad3 : Option Addr) (cap3 : Nat), FW.S M w0 a w 49 [FW.orow ad3 cap3 33 6 ApiValue.cells l3, FW.blk b2 62 ((Offshootref12State.cells y2)), FW.blk b1 62 ((Offshootref12State.cells y1))] [(1, [], .lit (.string (FW.B v1))), (2, [], .lit (.pointer (some ⟨b1, 0, none⟩))), (4, [], .lit (.pointer (some ⟨b2, 0, none⟩))), (6, [], .lit (.slice ad3 (List.length l3) cap3))] ∧ offshootref12_State_values.j1 s_offshootref12_State_value s_offshootref12_State_values (offshootref12_State_values.l1 s_offshootref12_State_value s_offshootref12_State_values K kl1) K l3 y2 y1 v1 = some r) ?_ ?_
    · clear hk h
      rintro a w ⟨l3, y2, y1, v1, ad3, cap3, hk, h⟩
      unfold offshootref12_State_values.j1 at h
      refine FW.wseqJ (fun a w => ∃ (l3 : List ApiValue) (y2 : Offshootref12State) (y1 : Offshootref12State) (v1 : List UInt8) (ad3 : Option Addr) (cap3 : Nat), FW.S M w0 a w 49 [FW.orow ad3 cap3 33 6 ApiValue.cells l3, FW.blk b2 62 ((Offshootref12State.cells y2)), FW.blk b1 62 ((Offshootref12State.cells y1))] [(1, [], .lit (.string (FW.B v1))), (2, [], .lit (.pointer (some ⟨b1, 0, none⟩))), (4, [], .lit (.pointer (some ⟨b2, 0, none⟩))), (6, [], .lit (.slice ad3 (List.length l3) cap3))] ∧ offshootref12_State_values.j2 s_offshootref12_State_value s_offshootref12_State_values (offshootref12_State_values.l1 s_offshootref12_State_value s_offshootref12_State_values K kl1) K l3 y2 y1 v1 = some r) ?_ ?_
      · clear hk h
        rintro a w ⟨l3, y2, y1, v1, ad3, cap3, hk, h⟩
        unfold offshootref12_State_values.j2 at h
        refine FW.wreg ?_; intro K' hK9
        refine FW.lfun (y := .agg ((Offshootref12State.cells y1))) hk rfl rfl rfl rfl (FW.f_loadBlk hk (FW.holds_nil _) (j := 2) rfl rfl Go.Proofs.Try.underlying62 rfl rfl rfl rfl) ?_; clear hk; intro a w hk
        obtain ⟨t2, hr_t2, h⟩ := FW.bnd h
        refine FW.lfun (y := .tup [.agg ((Offshootref12State.cells t2.1)), .agg ((ApiValue.cells t2.2.1)), .lit (.bool t2.2.2)]) hk rfl rfl rfl rfl (FW.f_call hk (FW.holds_nil _) rfl rfl Go.Proofs.Try.func64 rfl (by kernel_rfl) (hs_offshootref12_State_value y1 _ hr_t2)) ?_; clear hk; intro a w hk
        refine FW.lfun (y := .tup [.agg ((Offshootref12State.cells t2.1)), .agg ((ApiValue.cells t2.2.1)), .lit (.bool t2.2.2)]) hk rfl rfl rfl rfl (FW.f_move hk (FW.holds_nil _) rfl) ?_; clear hk; intro a w hk
        refine FW.lfun (y := .agg ((Offshootref12State.cells t2.1))) hk rfl rfl rfl rfl (FW.f_extract hk (FW.holds_nil _) rfl rfl) ?_; clear hk; intro a w hk
        refine FW.lfun (y := .agg ((ApiValue.cells t2.2.1))) hk rfl rfl rfl rfl (FW.f_extract hk (FW.holds_nil _) rfl rfl) ?_; clear hk; intro a w hk
        refine FW.lfun (y := .lit (.bool t2.2.2)) hk rfl rfl rfl rfl (FW.f_extract hk (FW.holds_nil _) rfl rfl) ?_; clear hk; intro a w hk
        refine FW.l_alloc (zs := (Offshootref12State.cells (⟨[], 0, 0, 0, 0, 0⟩ : Offshootref12State))) [] hk rfl rfl rfl rfl ?_; clear hk; intro b4 a w hk
        refine FW.l_alloc (zs := (ApiValue.cells (⟨0, false, 0, 0, [], []⟩ : ApiValue))) [] hk rfl rfl rfl rfl ?_; clear hk; intro b5 a w hk
        refine FW.l_store (I' := [FW.blk b5 33 ((ApiValue.cells (⟨0, false, 0, 0, [], []⟩ : ApiValue))), FW.blk b4 62 ((Offshootref12State.cells t2.1)), FW.orow ad3 cap3 33 6 ApiValue.cells l3, FW.blk b2 62 ((Offshootref12State.cells y2)), FW.blk b1 62 ((Offshootref12State.cells y1))]) (cs' := (Offshootref12State.cells t2.1)) (j := 1) hk rfl rfl rfl rfl rfl (by kernel_rfl) rfl rfl ?_; clear hk; intro w hk
        refine FW.l_store (I' := [FW.blk b5 33 ((ApiValue.cells t2.2.1)), FW.blk b4 62 ((Offshootref12State.cells t2.1)), FW.orow ad3 cap3 33 6 ApiValue.cells l3, FW.blk b2 62 ((Offshootref12State.cells y2)), FW.blk b1 62 ((Offshootref12State.cells y1))]) (cs' := (ApiValue.cells t2.2.1)) (j := 0) hk rfl rfl rfl rfl rfl (by kernel_rfl) rfl rfl ?_; clear hk; intro w hk
        refine FW.lfun (y := .lit (.bool t2.2.2)) hk rfl rfl rfl rfl (FW.f_assign hk (FW.holds_nil _) rfl) ?_; clear hk; intro a w hk
        refine FW.lend (hK9 _ _ ?_); clear hK9 K'
        refine FW.wreg ?_; intro K' hK10
        refine FW.lfun (y := .agg ((Offshootref12State.cells t2.1))) hk rfl rfl rfl rfl (FW.f_loadBlk hk (FW.holds_nil _) (j := 1) rfl rfl Go.Proofs.Try.underlying62 rfl rfl rfl rfl) ?_; clear hk; intro a w hk
        refine FW.l_store (I' := [FW.blk b5 33 ((ApiValue.cells t2.2.1)), FW.blk b4 62 ((Offshootref12State.cells t2.1)), FW.orow ad3 cap3 33 6 ApiValue.cells l3, FW.blk b2 62 ((Offshootref12State.cells y2)), FW.blk b1 62 ((Offshootref12State.cells t2.1))]) (cs' := (Offshootref12State.cells t2.1)) (j := 4) hk rfl rfl rfl rfl rfl (by kernel_rfl) rfl rfl ?_; clear hk; intro w hk
        refine FW.lend (hK10 _ _ ?_); clear hK10 K'
        refine FW.wseqJ (fun a w => ∃ (y5 : ApiValue) (l3 : List ApiValue) (y2 : Offshootref12State) (y1 : Offshootref12State) (v1 : List UInt8) (ad3 : Option Addr) (cap3 : Nat), FW.S M w0 a w 49 [FW.blk b5 33 ((ApiValue.cells y5)), FW.orow ad3 cap3 33 6 ApiValue.cells l3, FW.blk b2 62 ((Offshootref12State.cells y2)), FW.blk b1 62 ((Offshootref12State.cells y1))] [(1, [], .lit (.string (FW.B v1))), (2, [], .lit (.pointer (some ⟨b1, 0, none⟩))), (4, [], .lit (.pointer (some ⟨b2, 0, none⟩))), (6, [], .lit (.slice ad3 (List.length l3) cap3)), (8, [], .lit (.pointer (some ⟨b5, 0, none⟩)))] ∧ offshootref12_State_values.j3 s_offshootref12_State_value s_offshootref12_State_values (offshootref12_State_values.l1 s_offshootref12_State_value s_offshootref12_State_values K kl1) K y5 l3 y2 y1 v1 = some r) ?_ ?_
        · clear hk h
          rintro a w ⟨y5, l3, y2, y1, v1, ad3, cap3, hk, h⟩
          unfold offshootref12_State_values.j3 at h
          refine FW.wreg1 ?_
          refine FW.lfun (y := .lit (.slice ad3 (List.length l3) cap3)) hk rfl rfl rfl rfl (FW.f_move hk (FW.holds_nil _) rfl) ?_; clear hk; intro a w hk
          refine FW.lfun (y := .agg ((ApiValue.cells y5))) hk rfl rfl rfl rfl (FW.f_loadBlk hk (FW.holds_nil _) (j := 0) rfl rfl Go.Proofs.Try.underlying33 rfl rfl rfl rfl) ?_; clear hk; intro a w hk
          refine FW.l_buildSlice (f := ApiValue.cells) (l := ([y5] : List ApiValue)) hk rfl rfl rfl Go.Proofs.Try.underlying31 rfl rfl rfl rfl (fun _ => rfl) rfl ?_; clear hk; intro b6 a w hk
          obtain ⟨hc1, h⟩ := FW.chk h
          refine FW.l_append (l2 := ([y5] : List ApiValue)) (l3 := (l3 ++ ([y5] : List ApiValue))) (I' := fun ad1 cap1 => [FW.orow (some ⟨b6, 0, none⟩) 1 33 6 ApiValue.cells ([y5] : List ApiValue), FW.blk b5 33 ((ApiValue.cells y5)), FW.orow ad1 cap1 33 6 ApiValue.cells (l3 ++ ([y5] : List ApiValue)), FW.blk b2 62 ((Offshootref12State.cells y2)), FW.blk b1 62 ((Offshootref12State.cells y1))]) (j := 2) hk rfl rfl rfl rfl (FW.own_src hk (j := 0) rfl rfl (fun _ => rfl) Go.Proofs.Try.underlying31) Go.Proofs.Try.underlying31 (by kernel_rfl) hc1 rfl (fun _ _ => rfl) ?_; clear hk; intro ad1 cap1 a w hk
          replace hk := FW.S.dropI (I' := [FW.blk b5 33 ((ApiValue.cells y5)), FW.orow ad1 cap1 33 6 ApiValue.cells (l3 ++ ([y5] : List ApiValue)), FW.blk b2 62 ((Offshootref12State.cells y2)), FW.blk b1 62 ((Offshootref12State.cells y1))]) hk 0 rfl
          refine FW.lfun (y := .lit (.slice ad1 (List.length (l3 ++ ([y5] : List ApiValue))) cap1)) hk rfl rfl rfl rfl (FW.f_assign hk (FW.holds_nil _) rfl) ?_; clear hk; intro a w hk
          refine wpList_nil ?_
          (repeat first | refine FW.then_normal ?_ | refine FW.block_normal ?_); exact hK4 (kl1, (l3 ++ ([y5] : List ApiValue)), y2, y1, v1, ad1, cap1) _ _ (Nat.lt_succ_self _) ⟨(hk.drop 0).sub ⟨rfl, rfl, rfl, rfl, trivial⟩, h⟩
        · intro K' hK11
          refine FW.wreg ?_; intro K' hK13
          refine FW.lfun (y := .lit (.bool t2.2.2)) hk rfl rfl rfl rfl (FW.f_move hk (FW.holds_nil _) rfl) ?_; clear hk; intro a w hk
          refine FW.lfun (y := .lit (.bool (!t2.2.2))) hk rfl rfl rfl rfl ((FW.f_pure (FW.p_not hk.kn (FW.holds_nil _) rfl))) ?_; clear hk; intro a w hk
          refine FW.lend (hK13 _ _ ?_); clear hK13 K'
          refine FW.wcondF (b := (!t2.2.2)) hk h rfl (fun h hb => ?_) (fun h hb => ?_)
          · skip
            refine FW.wreg1 ?_
            refine FW.lfun (y := .agg ((Offshootref12State.cells t2.1))) hk rfl rfl rfl rfl (FW.f_loadBlk hk (FW.holds_nil _) (j := 4) rfl rfl Go.Proofs.Try.underlying62 rfl rfl rfl rfl) ?_; clear hk; intro a w hk
            obtain ⟨t3, hr_t3, h⟩ := FW.bnd h
            refine FW.lfun (y := .agg ((Offshootref12State.cells t3))) hk rfl rfl rfl rfl (FW.f_call hk (FW.holds_nil _) rfl rfl Go.Proofs.Try.func30 rfl (by kernel_rfl) (offshootref12_State_fail.ok t2.1 120 _ hr_t3)) ?_; clear hk; intro a w hk
            refine FW.l_store (I' := [FW.blk b5 33 ((ApiValue.cells t2.2.1)), FW.blk b4 62 ((Offshootref12State.cells t2.1)), FW.orow ad3 cap3 33 6 ApiValue.cells l3, FW.blk b2 62 ((Offshootref12State.cells y2)), FW.blk b1 62 ((Offshootref12State.cells t3))]) (cs' := (Offshootref12State.cells t3)) (j := 4) hk rfl rfl rfl rfl rfl (by kernel_rfl) rfl rfl ?_; clear hk; intro w hk
            refine wpList_nil ?_
            (repeat first | refine FW.then_normal ?_ | refine FW.block_normal ?_); exact hK11 _ _ ⟨t2.2.1, l3, y2, t3, v1, ad3, cap3, (hk.drop 1).sub ⟨rfl, rfl, rfl, rfl, rfl, trivial⟩, h⟩
          · skip
            refine wp_skip ?_
            (repeat first | refine FW.then_normal ?_ | refine FW.block_normal ?_); exact hK11 _ _ ⟨t2.2.1, l3, y2, t2.1, v1, ad3, cap3, (hk.drop 1).sub ⟨rfl, rfl, rfl, rfl, rfl, trivial⟩, h⟩
      · intro K' hK8
        refine FW.wreg ?_; intro K' hK15
        refine FW.lfun (y := .lit (.slice ad3 (List.length l3) cap3)) hk rfl rfl rfl rfl (FW.f_move hk (FW.holds_nil _) rfl) ?_; clear hk; intro a w hk
        refine FW.lfun (y := .lit (.int .i64 (List.length l3 : Int))) hk rfl rfl rfl rfl ((FW.f_pure (FW.p_len Go.Proofs.Try.underlying31 hk.kn (FW.holds_nil _) rfl))) ?_; clear hk; intro a w hk
        refine FW.lfun (y := .lit (.bool (decide (12 ≤ (List.length l3 : Int))))) hk rfl rfl rfl rfl ((FW.f_pure (FW.p_geq hk.kn (FW.holds_nil _) rfl rfl))) ?_; clear hk; intro a w hk
        refine FW.lend (hK15 _ _ ?_); clear hK15 K'
        refine FW.wcondF (b := (decide (12 ≤ (List.length l3 : Int)))) hk h rfl (fun h hb => ?_) (fun h hb => ?_)
        · skip
          refine FW.wreg1 ?_
          refine FW.lfun (y := .agg ((Offshootref12State.cells y1))) hk rfl rfl rfl rfl (FW.f_loadBlk hk (FW.holds_nil _) (j := 2) rfl rfl Go.Proofs.Try.underlying62 rfl rfl rfl rfl) ?_; clear hk; intro a w hk
          obtain ⟨t4, hr_t4, h⟩ := FW.bnd h
          refine FW.lfun (y := .agg ((Offshootref12State.cells t4))) hk rfl rfl rfl rfl (FW.f_call hk (FW.holds_nil _) rfl rfl Go.Proofs.Try.func30 rfl (by kernel_rfl) (offshootref12_State_fail.ok y1 3 _ hr_t4)) ?_; clear hk; intro a w hk
          refine FW.l_store (I' := [FW.orow ad3 cap3 33 6 ApiValue.cells l3, FW.blk b2 62 ((Offshootref12State.cells y2)), FW.blk b1 62 ((Offshootref12State.cells t4))]) (cs' := (Offshootref12State.cells t4)) (j := 2) hk rfl rfl rfl rfl rfl (by kernel_rfl) rfl rfl ?_; clear hk; intro w hk
          refine wpList_nil ?_
          (repeat first | refine FW.then_normal ?_ | refine FW.block_normal ?_); exact hK8 _ _ ⟨l3, y2, t4, v1, ad3, cap3, hk.sub ⟨rfl, rfl, rfl, rfl, trivial⟩, h⟩
        · skip
          refine wp_skip ?_
          (repeat first | refine FW.then_normal ?_ | refine FW.block_normal ?_); exact hK8 _ _ ⟨l3, y2, y1, v1, ad3, cap3, hk.sub ⟨rfl, rfl, rfl, rfl, trivial⟩, h⟩
    · intro K' hK7
      refine FW.wreg ?_; intro K' hK17
      refine FW.lfun (y := .lit (.slice ad3 (List.length l3) cap3)) hk rfl rfl rfl rfl (FW.f_move hk (FW.holds_nil _) rfl) ?_; clear hk; intro a w hk
      refine FW.lfun (y := .lit (.int .i64 (List.length l3 : Int))) hk rfl rfl rfl rfl ((FW.f_pure (FW.p_len Go.Proofs.Try.underlying31 hk.kn (FW.holds_nil _) rfl))) ?_; clear hk; intro a w hk
      refine FW.lfun (y := .lit (.bool (decide (0 < (List.length l3 : Int))))) hk rfl rfl rfl rfl ((FW.f_pure (FW.p_gtr hk.kn (FW.holds_nil _) rfl rfl))) ?_; clear hk; intro a w hk
      refine FW.lend (hK17 _ _ ?_); clear hK17 K'
      refine FW.wcondF (b := (decide (0 < (List.length l3 : Int)))) hk h rfl (fun h hb => ?_) (fun h hb => ?_)
      · skip
        refine FW.wreg1 ?_
        refine FW.lfun (y := .agg ((Offshootref12State.cells y1))) hk rfl rfl rfl rfl (FW.f_loadBlk hk (FW.holds_nil _) (j := 2) rfl rfl Go.Proofs.Try.underlying62 rfl rfl rfl rfl) ?_; clear hk; intro a w hk
        obtain ⟨t5, hr_t5, h⟩ := FW.bnd h
        refine FW.lfun (y := .agg ((Offshootref12State.cells t5))) hk rfl rfl rfl rfl (FW.f_call hk (FW.holds_nil _) rfl rfl Go.Proofs.Try.func28 rfl (by kernel_rfl) (offshootref12_State_sign.ok y1 ([44] : List UInt8) _ hr_t5)) ?_; clear hk; intro a w hk
        refine FW.l_store (I' := [FW.orow ad3 cap3 33 6 ApiValue.cells l3, FW.blk b2 62 ((Offshootref12State.cells y2)), FW.blk b1 62 ((Offshootref12State.cells t5))]) (cs' := (Offshootref12State.cells t5)) (j := 2) hk rfl rfl rfl rfl rfl (by kernel_rfl) rfl rfl ?_; clear hk; intro w hk
        refine wpList_nil ?_
        (repeat first | refine FW.then_normal ?_ | refine FW.block_normal ?_); exact hK7 _ _ ⟨l3, y2, t5, v1, ad3, cap3, hk.sub ⟨rfl, rfl, rfl, rfl, trivial⟩, h⟩
      · skip
        refine wp_skip ?_
        (repeat first | refine FW.then_normal ?_ | refine FW.block_normal ?_); exact hK7 _ _ ⟨l3, y2, y1, v1, ad3, cap3, hk.sub ⟨rfl, rfl, rfl, rfl, trivial⟩, h⟩
  · skip
    refine wp_exit ?_; (repeat first | refine FW.then_exit ?_ | refine FW.block_exit_ne rfl ?_); refine FW.block_exit ?_
    (repeat first | refine FW.then_normal ?_ | refine FW.block_normal ?_); refine hK3 _ _ ?_
    refine FW.wreg ?_; intro K' hK19
    refine FW.lfun (y := .agg ((Offshootref12State.cells y1))) hk rfl rfl rfl rfl (FW.f_loadBlk hk (FW.holds_nil _) (j := 2) rfl rfl Go.Proofs.Try.underlying62 rfl rfl rfl rfl) ?_; clear hk; intro a w hk
    refine FW.lfun (y := .lit (.string (FW.B v1))) hk rfl rfl rfl rfl (FW.f_move hk (FW.holds_nil _) rfl) ?_; clear hk; intro a w hk
    obtain ⟨t6, hr_t6, h⟩ := FW.bnd h
    refine FW.lfun (y := .agg ((Offshootref12State.cells t6))) hk rfl rfl rfl rfl (FW.f_call hk (FW.holds_nil _) rfl rfl Go.Proofs.Try.func28 rfl (by kernel_rfl) (offshootref12_State_sign.ok y1 v1 _ hr_t6)) ?_; clear hk; intro a w hk
    refine FW.lfun (y := .lit (.slice ad3 (List.length l3) cap3)) hk rfl rfl rfl rfl (FW.f_move hk (FW.holds_nil _) rfl) ?_; clear hk; intro a w hk
    refine FW.l_store (I' := [FW.orow ad3 cap3 33 6 ApiValue.cells l3, FW.blk b2 62 ((Offshootref12State.cells t6)), FW.blk b1 62 ((Offshootref12State.cells y1))]) (cs' := (Offshootref12State.cells t6)) (j := 1) hk rfl rfl rfl rfl rfl (by kernel_rfl) rfl rfl ?_; clear hk; intro w hk
    refine FW.lfun (y := .lit (.slice ad3 (List.length l3) cap3)) hk rfl rfl rfl rfl (FW.f_assign hk (FW.holds_nil _) rfl) ?_; clear hk; intro a w hk
    refine FW.lend (hK19 _ _ ?_); clear hK19 K'
    refine wp_ret ?_
    (repeat first | refine FW.then_ret ?_ | refine FW.block_ret ?_)
    replace hk := FW.S.freezeR (I' := [FW.blk b2 62 ((Offshootref12State.cells t6)), FW.blk b1 62 ((Offshootref12State.cells y1))]) r_ApiValue_cells_eq hk (j := 0) rfl (t := 5) rfl rfl
    obtain rfl := Option.some.inj h
    exact FW.fretR2 hk rfl (FW.rcell hk rfl (j := 0) rfl Go.Proofs.Try.underlying62 rfl (by kernel_rfl)) (FW.rtmp hk rfl)
theorem offshootref12_State_value_knot : ∀ K : Nat, (∀ (v0 : Offshootref12State) (r : Offshootref12State × ApiValue × Bool), offshootref12_State_value.f K v0 = some r → FW.Ok Go.Proofs.Try.prog 64 [.agg (Offshootref12State.cells v0)] (.tup [.agg (Offshootref12State.cells r.1), .agg (ApiValue.cells r.2.1), .lit (.bool r.2.2)])) ∧ (∀ (v0 : Offshootref12State) (v1 : List UInt8) (r : Offshootref12State × List ApiValue), offshootref12_State_values.f K v0 v1 = some r → FW.Ok Go.Proofs.Try.prog 78 [.agg (Offshootref12State.cells v0), .lit (.string (FW.B v1))] (.tup [.agg (Offshootref12State.cells r.1), .row (r_ApiValue_cells r.2)]))
  | 0 => ⟨fun v0 r h => by simp [offshootref12_State_value.f] at h, fun v0 v1 r h => by simp [offshootref12_State_values.f] at h⟩
  | K + 1 => ⟨fun v0 r h => by rw [offshootref12_State_value.f] at h; exact offshootref12_State_value.bok _ _ (offshootref12_State_value_knot K).1 (offshootref12_State_value_knot K).2 K v0 r h, fun v0 v1 r h => by rw [offshootref12_State_values.f] at h; exact offshootref12_State_values.bok _ _ (offshootref12_State_value_knot K).1 (offshootref12_State_value_knot K).2 K v0 v1 r h⟩
theorem offshootref12_State_value.ok (K : Nat) (v0 : Offshootref12State) (r : Offshootref12State × ApiValue × Bool) (h : offshootref12_State_value.f K v0 = some r) : FW.Ok Go.Proofs.Try.prog 64 [.agg (Offshootref12State.cells v0)] (.tup [.agg (Offshootref12State.cells r.1), .agg (ApiValue.cells r.2.1), .lit (.bool r.2.2)]) := (offshootref12_State_value_knot K).1 v0 r h
theorem offshootref12_State_values.ok (K : Nat) (v0 : Offshootref12State) (v1 : List UInt8) (r : Offshootref12State × List ApiValue) (h : offshootref12_State_values.f K v0 v1 = some r) : FW.Ok Go.Proofs.Try.prog 78 [.agg (Offshootref12State.cells v0), .lit (.string (FW.B v1))] (.tup [.agg (Offshootref12State.cells r.1), .row (r_ApiValue_cells r.2)]) := (offshootref12_State_value_knot K).2 v0 v1 r h

theorem offshootref12_Preds.ok (K : Nat) (v0 : List UInt8) (r : Int × Bool) (h : offshootref12_Preds.f K v0 = some r) :
    FW.Ok Go.Proofs.Try.prog 65 [.lit (.string (FW.B v0))] (.tup [.lit (.int .i64 r.1), .lit (.bool r.2)]) := by
  refine FW.enter (xs := [.lit (.string (FW.B v0))]) Go.Proofs.Try.func65 rfl Go.Proofs.Try.ntmps65 rfl ?_
  intro M w0 a hk
  unfold offshootref12_Preds.f at h
  refine FW.wreg ?_; intro K' hK1
  refine FW.lfun (y := .lit (.int .i64 0)) hk rfl rfl rfl rfl (FW.f_assign hk (FW.holds_nil _) rfl) ?_; clear hk; intro a w hk
  refine FW.lfun (y := .lit (.bool false)) hk rfl rfl rfl rfl (FW.f_assign hk (FW.holds_nil _) rfl) ?_; clear hk; intro a w hk
  refine FW.lend (hK1 _ _ ?_); clear hK1 K'
  refine FW.wreg ?_; intro K' hK2
  refine FW.l_buildSlice (f := c_str) (l := ([([101, 113] : List UInt8), ([110, 101, 113] : List UInt8), ([108, 116] : List UInt8), ([108, 116, 101] : List UInt8), ([103, 116] : List UInt8), ([103, 116, 101] : List UInt8), ([115, 116, 97, 114, 116, 105, 110, 103, 87, 105, 116, 104] : List UInt8), ([101, 110, 100, 105, 110, 103, 87, 105, 116, 104] : List UInt8), ([99, 111, 110, 116, 97, 105, 110, 105, 110, 103] : List UInt8)] : List (List UInt8))) hk rfl rfl rfl Go.Proofs.Try.underlying91 rfl rfl rfl rfl (fun _ => rfl) rfl ?_; clear hk; intro b1 a w hk
  replace hk := (FW.S.freezeR (I' := []) r_c_str_eq hk (j := 0) rfl (t := 6) rfl rfl).squash
  refine FW.lfun (y := .row (r_c_str ([([101, 113] : List UInt8), ([110, 101, 113] : List UInt8), ([108, 116] : List UInt8), ([108, 116, 101] : List UInt8), ([103, 116] : List UInt8), ([103, 116, 101] : List UInt8), ([115, 116, 97, 114, 116, 105, 110, 103, 87, 105, 116, 104] : List UInt8), ([101, 110, 100, 105, 110, 103, 87, 105, 116, 104] : List UInt8), ([99, 111, 110, 116, 97, 105, 110, 105, 110, 103] : List UInt8)] : List (List UInt8)))) hk rfl rfl rfl rfl (FW.f_assign hk (FW.holds_nil _) rfl) ?_; clear hk; intro a w hk
  refine FW.lend (hK2 _ _ ?_); clear hK2 K'
  refine FW.wseq ?_; intro K' hK3
  refine FW.wreg ?_; intro K' hK4
  refine FW.lfun (y := .lit (.int .i64 0)) hk rfl rfl rfl rfl (FW.f_assign hk (FW.holds_nil _) rfl) ?_; clear hk; intro a w hk
  refine FW.lend (hK4 _ _ ?_); clear hK4 K'
  refine wp_block ?_
  refine FW.wloop (T := Nat × List UInt8 × List (List UInt8) × Int) (fun x a w => match x with | (kl1, v0, v4, v5) => FW.S M w0 a w 35 [] [(0, [], .lit (.string (FW.B v0))), (4, [], .row (r_c_str v4)), (5, [], .lit (.int .i64 v5))] ∧ offshootref12_Preds.l1 K kl1 v0 v4 v5 = some r) (fun x => x.1) (K, v0, ([([101, 113] : List UInt8), ([110, 101, 113] : List UInt8), ([108, 116] : List UInt8), ([108, 116, 101] : List UInt8), ([103, 116] : List UInt8), ([103, 116, 101] : List UInt8), ([115, 116, 97, 114, 116, 105, 110, 103, 87, 105, 116, 104] : List UInt8), ([101, 110, 100, 105, 110, 103, 87, 105, 116, 104] : List UInt8), ([99, 111, 110, 116, 97, 105, 110, 105, 110, 103] : List UInt8)] : List (List UInt8)), 0) ⟨hk.sub ⟨rfl, rfl, rfl, trivial⟩, h⟩ ?_
  clear hk h
  rintro ⟨kl1, v0, v4, v5⟩ a w ⟨hk, h⟩ K' hK5
  cases kl1 with
  | zero => simp [offshootref12_Preds.l1] at h
  | succ kl1 =>
  rw [offshootref12_Preds.l1.eq_2] at h
  refine FW.wseq ?_; intro K' hK6
  refine FW.wreg ?_; intro K' hK7
  refine FW.lfun (y := .lit (.int .i64 v5)) hk rfl rfl rfl rfl (FW.f_move hk (FW.holds_nil _) rfl) ?_; clear hk; intro a w hk
  refine FW.lfun (y := .row (r_c_str v4)) hk rfl rfl rfl rfl (FW.f_move hk (FW.holds_nil _) rfl) ?_; clear hk; intro a w hk
  refine FW.lfun (y := .lit (.int .i64 (List.length v4 : Int))) hk rfl rfl rfl rfl (FW.f_len (R := r_c_str) (f := c_str) (l := v4) r_c_str_eq Go.Proofs.Try.underlying91 hk (FW.holds_nil _) rfl) ?_; clear hk; intro a w hk
  refine FW.lfun (y := .lit (.bool (decide (v5 < (List.length v4 : Int))))) hk rfl rfl rfl rfl ((FW.f_pure (FW.p_lss hk.kn (FW.holds_nil _) rfl rfl))) ?_; clear hk; intro a w hk
  refine FW.lend (hK7 _ _ ?_); clear hK7 K'
  refine FW.wcondF (b := (decide (v5 < (List.length v4 : Int)))) hk h rfl (fun h hb => ?_) (fun h hb => ?_)
  · skip
    refine wp_skip ?_
    (repeat first | refine FW.then_normal ?_ | refine FW.block_normal ?_); refine hK6 _ _ ?_
    refine FW.wseq ?_; intro K' hK8
    refine wp_block ?_
    refine FW.wreg ?_; intro K' hK9
    refine FW.lfun (y := .row (r_c_str v4)) hk rfl rfl rfl rfl (FW.f_move hk (FW.holds_nil _) rfl) ?_; clear hk; intro a w hk
    refine FW.lfun (y := .lit (.int .i64 v5)) hk rfl rfl rfl rfl (FW.f_move hk (FW.holds_nil _) rfl) ?_; clear hk; intro a w hk
    obtain ⟨hc1, h⟩ := FW.chk h
    refine FW.lfun (y := .ref (c_str (List.getD v4 (Int.toNat v5) default))) hk rfl rfl rfl rfl (FW.f_indexAddr (R := r_c_str) (f := c_str) (l := v4) (sz := 1) r_c_str_eq (fun _ => rfl) hk (FW.holds_nil _) rfl rfl Go.Proofs.Try.underlying91 (by kernel_rfl) hc1) ?_; clear hk; intro a w hk
    refine FW.lfun (y := .lit (.string (FW.B (List.getD v4 (Int.toNat v5) default)))) hk rfl rfl rfl rfl (FW.f_load1 hk (FW.holds_nil _) rfl rfl Go.Proofs.Try.underlying9 rfl) ?_; clear hk; intro a w hk
    refine FW.lfun (y := .lit (.string (FW.B v0))) hk rfl rfl rfl rfl (FW.f_move hk (FW.holds_nil _) rfl) ?_; clear hk; intro a w hk
    refine FW.lfun (y := .lit (.bool (decide ((List.getD v4 (Int.toNat v5) default) = v0)))) hk rfl rfl rfl rfl ((FW.f_pure (FW.p_seql hk.kn (FW.holds_nil _) rfl rfl))) ?_; clear hk; intro a w hk
    refine FW.lend (hK9 _ _ ?_); clear hK9 K'
    refine FW.wcondF (b := (decide ((List.getD v4 (Int.toNat v5) default) = v0))) hk h rfl (fun h hb => ?_) (fun h hb => ?_)
    · skip
      refine FW.wreg ?_; intro K' hK10
      refine FW.lfun (y := .lit (.int .i64 1)) hk rfl rfl rfl rfl (FW.f_assign hk (FW.holds_nil _) rfl) ?_; clear hk; intro a w hk
      refine FW.lfun (y := .lit (.bool true)) hk rfl rfl rfl rfl (FW.f_assign hk (FW.holds_nil _) rfl) ?_; clear hk; intro a w hk
      refine FW.lend (hK10 _ _ ?_); clear hK10 K'
      refine wp_ret ?_
      (repeat first | refine FW.then_ret ?_ | refine FW.block_ret ?_)
      obtain rfl := Option.some.inj h
      exact FW.fret2 hk rfl rfl rfl
    · skip
      refine wp_skip ?_
      (repeat first | refine FW.then_normal ?_ | refine FW.block_normal ?_); refine hK8 _ _ ?_
      refine FW.wreg1 ?_
      refine FW.lfun (y := .lit (.int .i64 v5)) hk rfl rfl rfl rfl (FW.f_move hk (FW.holds_nil _) rfl) ?_; clear hk; intro a w hk
      refine FW.lfun (y := .lit (.int .i64 (IntKind.wrap .i64 (v5 + 1)))) hk rfl rfl rfl rfl ((FW.f_pure (FW.p_add hk.kn (FW.holds_nil _) rfl rfl))) ?_; clear hk; intro a w hk
      refine FW.lfun (y := .lit (.int .i64 (IntKind.wrap .i64 (v5 + 1)))) hk rfl rfl rfl rfl (FW.f_assign hk (FW.holds_nil _) rfl) ?_; clear hk; intro a w hk
      refine wpList_nil ?_
      (repeat first | refine FW.then_normal ?_ | refine FW.block_normal ?_); exact hK5 (kl1, v0, v4, (IntKind.wrap .i64 (v5 + 1))) _ _ (Nat.lt_succ_self _) ⟨hk.sub ⟨rfl, rfl, rfl, trivial⟩, h⟩
  · skip
    refine wp_exit ?_; (repeat first | refine FW.then_exit ?_ | refine FW.block_exit_ne rfl ?_); refine FW.block_exit ?_
    (repeat first | refine FW.then_normal ?_ | refine FW.block_normal ?_); refine hK3 _ _ ?_
    refine FW.wseq ?_; intro K' hK12
    refine FW.wreg ?_; intro K' hK13
    refine FW.lfun (y := .lit (.string (FW.B v0))) hk rfl rfl rfl rfl (FW.f_move hk (FW.holds_nil _) rfl) ?_; clear hk; intro a w hk
    refine FW.lfun (y := .lit (.bool (decide (v0 = ([98, 101, 116, 119, 101, 101, 110] : List UInt8))))) hk rfl rfl rfl rfl ((FW.f_pure (FW.p_seql hk.kn (FW.holds_nil _) rfl rfl))) ?_; clear hk; intro a w hk
    refine FW.lfun (y := .lit (.bool (decide (v0 = ([98, 101, 116, 119, 101, 101, 110] : List UInt8))))) hk rfl rfl rfl rfl (FW.f_move hk (FW.holds_nil _) rfl) ?_; clear hk; intro a w hk
    refine FW.lfunG (y := .lit (.string (FW.B v0))) hk rfl rfl rfl rfl rfl rfl rfl rfl (fun hc => FW.f_move hk hc rfl) ?_; clear hk; intro a w hk
    refine FW.lfunG (y := .lit (.bool (decide (v0 = ([105, 110, 115, 105, 100, 101] : List UInt8))))) hk rfl rfl rfl rfl rfl rfl rfl rfl (fun hc => (FW.f_pure (FW.p_seql hk.kn hc rfl rfl))) ?_; clear hk; intro a w hk
    refine FW.lfun (y := .lit (.bool ((decide (v0 = ([98, 101, 116, 119, 101, 101, 110] : List UInt8))) || (decide (v0 = ([105, 110, 115, 105, 100, 101] : List UInt8)))))) hk rfl rfl rfl rfl ((FW.f_pure (FW.p_pick_or hk.kn (FW.holds_nil _) rfl rfl))) ?_; clear hk; intro a w hk
    refine FW.lfun (y := .lit (.bool ((decide (v0 = ([98, 101, 116, 119, 101, 101, 110] : List UInt8))) || (decide (v0 = ([105, 110, 115, 105, 100, 101] : List UInt8)))))) hk rfl rfl rfl rfl (FW.f_move hk (FW.holds_nil _) rfl) ?_; clear hk; intro a w hk
    refine FW.lfunG (y := .lit (.string (FW.B v0))) hk rfl rfl rfl rfl rfl rfl rfl rfl (fun hc => FW.f_move hk hc rfl) ?_; clear hk; intro a w hk
    refine FW.lfunG (y := .lit (.bool (decide (v0 = ([111, 117, 116, 115, 105, 100, 101] : List UInt8))))) hk rfl rfl rfl rfl rfl rfl rfl rfl (fun hc => (FW.f_pure (FW.p_seql hk.kn hc rfl rfl))) ?_; clear hk; intro a w hk
    refine FW.lfun (y := .lit (.bool (((decide (v0 = ([98, 101, 116, 119, 101, 101, 110] : List UInt8))) || (decide (v0 = ([105, 110, 115, 105, 100, 101] : List UInt8)))) || (decide (v0 = ([111, 117, 116, 115, 105, 100, 101] : List UInt8)))))) hk rfl rfl rfl rfl ((FW.f_pure (FW.p_pick_or hk.kn (FW.holds_nil _) rfl rfl))) ?_; clear hk; intro a w hk
    refine FW.lend (hK13 _ _ ?_); clear hK13 K'
    refine FW.wcondF (b := (((decide (v0 = ([98, 101, 116, 119, 101, 101, 110] : List UInt8))) || (decide (v0 = ([105, 110, 115, 105, 100, 101] : List UInt8)))) || (decide (v0 = ([111, 117, 116, 115, 105, 100, 101] : List UInt8))))) hk h rfl (fun h hb => ?_) (fun h hb => ?_)
    · skip
      refine FW.wreg ?_; intro K' hK14
      refine FW.lfun (y := .lit (.int .i64 2)) hk rfl rfl rfl rfl (FW.f_assign hk (FW.holds_nil _) rfl) ?_; clear hk; intro a w hk
      refine FW.lfun (y := .lit (.bool true)) hk rfl rfl rfl rfl (FW.f_assign hk (FW.holds_nil _) rfl) ?_; clear hk; intro a w hk
      refine FW.lend (hK14 _ _ ?_); clear hK14 K'
      refine wp_ret ?_
      (repeat first | refine FW.then_ret ?_ | refine FW.block_ret ?_)
      obtain rfl := Option.some.inj h
      exact FW.fret2 hk rfl rfl rfl
    · skip
      refine wp_skip ?_
      (repeat first | refine FW.then_normal ?_ | refine FW.block_normal ?_); refine hK12 _ _ ?_
      refine FW.wreg ?_; intro K' hK15
      refine FW.lfun (y := .lit (.string (FW.B v0))) hk rfl rfl rfl rfl (FW.f_move hk (FW.holds_nil _) rfl) ?_; clear hk; intro a w hk
      refine FW.lfun (y := .lit (.bool (decide (v0 = ([119, 105, 116, 104, 105, 110] : List UInt8))))) hk rfl rfl rfl rfl ((FW.f_pure (FW.p_seql hk.kn (FW.holds_nil _) rfl rfl))) ?_; clear hk; intro a w hk
      refine FW.lfun (y := .lit (.bool (decide (v0 = ([119, 105, 116, 104, 105, 110] : List UInt8))))) hk rfl rfl rfl rfl (FW.f_move hk (FW.holds_nil _) rfl) ?_; clear hk; intro a w hk
      refine FW.lfunG (y := .lit (.string (FW.B v0))) hk rfl rfl rfl rfl rfl rfl rfl rfl (fun hc => FW.f_move hk hc rfl) ?_; clear hk; intro a w hk
      refine FW.lfunG (y := .lit (.bool (decide (v0 = ([119, 105, 116, 104, 111, 117, 116] : List UInt8))))) hk rfl rfl rfl rfl rfl rfl rfl rfl (fun hc => (FW.f_pure (FW.p_seql hk.kn hc rfl rfl))) ?_; clear hk; intro a w hk
      refine FW.lfun (y := .lit (.bool ((decide (v0 = ([119, 105, 116, 104, 105, 110] : List UInt8))) || (decide (v0 = ([119, 105, 116, 104, 111, 117, 116] : List UInt8)))))) hk rfl rfl rfl rfl ((FW.f_pure (FW.p_pick_or hk.kn (FW.holds_nil _) rfl rfl))) ?_; clear hk; intro a w hk
      refine FW.lfun (y := .lit (.int .i64 (-1))) hk rfl rfl rfl rfl (FW.f_assign hk (FW.holds_nil _) rfl) ?_; clear hk; intro a w hk
      refine FW.lfun (y := .lit (.bool ((decide (v0 = ([119, 105, 116, 104, 105, 110] : List UInt8))) || (decide (v0 = ([119, 105, 116, 104, 111, 117, 116] : List UInt8)))))) hk rfl rfl rfl rfl (FW.f_assign hk (FW.holds_nil _) rfl) ?_; clear hk; intro a w hk
      refine FW.lend (hK15 _ _ ?_); clear hK15 K'
      refine wp_ret ?_
      (repeat first | refine FW.then_ret ?_ | refine FW.block_ret ?_)
      obtain rfl := Option.some.inj h
      exact FW.fret2 hk rfl rfl rfl

theorem offshootref12_State_pred.bok (s_offshootref12_State_pred : Offshootref12State → Option (Offshootref12State × ApiPred)) (hs_offshootref12_State_pred : ∀ (v0 : Offshootref12State) (r : Offshootref12State × ApiPred), s_offshootref12_State_pred v0 = some r → FW.Ok Go.Proofs.Try.prog 66 [.agg (Offshootref12State.cells v0)] (.tup [.agg (Offshootref12State.cells r.1), .agg (ApiPred.cells r.2)])) (K : Nat) (v0 : Offshootref12State) (r : Offshootref12State × ApiPred) (h : offshootref12_State_pred.b s_offshootref12_State_pred K v0 = some r) :
    FW.Ok Go.Proofs.Try.prog 66 [.agg (Offshootref12State.cells v0)] (.tup [.agg (Offshootref12State.cells r.1), .agg (ApiPred.cells r.2)]) := by
  refine FW.enter (xs := [.agg (Offshootref12State.cells v0)]) Go.Proofs.Try.func66 rfl Go.Proofs.Try.ntmps66 rfl ?_
  intro M w0 a hk
  unfold offshootref12_State_pred.b at h
  refine FW.wreg ?_; intro K' hK1
  refine FW.l_box (cs := (Offshootref12State.cells v0)) hk rfl rfl rfl rfl rfl ?_; clear hk; intro b1 a w hk
  refine FW.l_alloc (zs := (Offshootref12State.cells (⟨[], 0, 0, 0, 0, 0⟩ : Offshootref12State))) [] hk rfl rfl rfl rfl ?_; clear hk; intro b2 a w hk
  refine FW.l_alloc (zs := (ApiPred.cells (⟨[], [], []⟩ : ApiPred))) [] hk rfl rfl rfl rfl ?_; clear hk; intro b3 a w hk
  refine FW.lend (hK1 _ _ ?_); clear hK1 K'
  refine FW.wreg ?_; intro K' hK2
  refine FW.lfun (y := .agg ((Offshootref12State.cells v0))) hk rfl rfl rfl rfl (FW.f_loadBlk hk (FW.holds_nil _) (j := 2) rfl rfl Go.Proofs.Try.underlying62 rfl rfl rfl rfl) ?_; clear hk; intro a w hk
  refine FW.l_alloc (zs := (Offshootref12State.cells (⟨[], 0, 0, 0, 0, 0⟩ : Offshootref12State))) [] hk rfl rfl rfl rfl ?_; clear hk; intro b4 a w hk
  refine FW.l_store (I' := [FW.blk b4 62 ((Offshootref12State.cells v0)), FW.blk b3 36 ((ApiPred.cells (⟨[], [], []⟩ : ApiPred))), FW.blk b2 62 ((Offshootref12State.cells (⟨[], 0, 0, 0, 0, 0⟩ : Offshootref12State))), FW.blk b1 62 ((Offshootref12State.cells v0))]) (cs' := (Offshootref12State.cells v0)) (j := 0) hk rfl rfl rfl rfl rfl (by kernel_rfl) rfl rfl ?_; clear hk; intro w hk
  refine FW.lend (hK2 _ _ ?_); clear hK2 K'
  refine FW.wseq ?_; intro K' hK3
  refine FW.wreg ?_; intro K' hK4
  refine FW.lfun (y := .lit (.pointer (some ⟨b1, 5, none⟩))) hk rfl rfl rfl rfl (FW.f_fieldPtr hk (FW.holds_nil _) rfl Go.Proofs.Try.underlying62 rfl (by kernel_rfl) rfl) ?_; clear hk; intro a w hk
  refine FW.lfun (y := .lit (.int .i64 v0.E)) hk rfl rfl rfl rfl (FW.f_loadBlk1 hk (FW.holds_nil _) (j := 3) rfl rfl Go.Proofs.Try.underlying23 rfl rfl) ?_; clear hk; intro a w hk
  refine FW.lfun (y := .lit (.bool (!decide (v0.E = 0)))) hk rfl rfl rfl rfl ((FW.f_pure (FW.p_neq hk.kn (FW.holds_nil _) rfl rfl))) ?_; clear hk; intro a w hk
  refine FW.lfun (y := .lit (.bool (!decide (v0.E = 0)))) hk rfl rfl rfl rfl (FW.f_move hk (FW.holds_nil _) rfl) ?_; clear hk; intro a w hk
  refine FW.lfunG (y := .lit (.pointer (some ⟨b1, 0, none⟩))) hk rfl rfl rfl rfl rfl rfl rfl rfl (fun hc => FW.f_fieldPtr hk hc rfl Go.Proofs.Try.underlying62 rfl (by kernel_rfl) rfl) ?_; clear hk; intro a w hk
  refine FW.lfunG (y := .row (r_ApiWord_cells v0.L)) hk rfl rfl rfl rfl rfl rfl rfl rfl (fun hc => FW.f_loadBlk1 hk hc (j := 3) rfl rfl Go.Proofs.Try.underlying48 rfl rfl) ?_; clear hk; intro a w hk
  refine FW.lfunG (y := .lit (.pointer (some ⟨b1, 1, none⟩))) hk rfl rfl rfl rfl rfl rfl rfl rfl (fun hc => FW.f_fieldPtr hk hc rfl Go.Proofs.Try.underlying62 rfl (by kernel_rfl) rfl) ?_; clear hk; intro a w hk
  refine FW.lfunG (y := .lit (.int .i64 v0.I)) hk rfl rfl rfl rfl rfl rfl rfl rfl (fun hc => FW.f_loadBlk1 hk hc (j := 3) rfl rfl Go.Proofs.Try.underlying3 rfl rfl) ?_; clear hk; intro a w hk
  obtain ⟨hc1, h⟩ := FW.chk h
  refine FW.lfunG (y := .ref (ApiWord.cells (List.getD v0.L (Int.toNat v0.I) default))) hk rfl rfl rfl rfl rfl rfl rfl rfl (fun hc => FW.f_indexAddr (R := r_ApiWord_cells) (f := ApiWord.cells) (l := v0.L) (sz := 5) r_ApiWord_cells_eq (fun _ => rfl) hk hc rfl rfl Go.Proofs.Try.underlying48 (by kernel_rfl) hc1) ?_; clear hk; intro a w hk
  refine FW.lfunG (y := .ref (List.drop 0 (ApiWord.cells (List.getD v0.L (Int.toNat v0.I) default)))) hk rfl rfl rfl rfl rfl rfl rfl rfl (fun hc => FW.f_fieldAddr hk hc rfl Go.Proofs.Try.underlying52 rfl (by kernel_rfl) rfl) ?_; clear hk; intro a w hk
  refine FW.lfunG (y := .lit (.int .i64 ((List.getD v0.L (Int.toNat v0.I) default).Kind))) hk rfl rfl rfl rfl rfl rfl rfl rfl (fun hc => FW.f_load1 hk hc rfl rfl Go.Proofs.Try.underlying3 rfl) ?_; clear hk; intro a w hk
  refine FW.lfunG (y := .lit (.bool (!decide (((List.getD v0.L (Int.toNat v0.I) default).Kind) = 1)))) hk rfl rfl rfl rfl rfl rfl rfl rfl (fun hc => (FW.f_pure (FW.p_neq hk.kn hc rfl rfl))) ?_; clear hk; intro a w hk
  refine FW.lfun (y := .lit (.bool ((!decide (v0.E = 0)) || (!decide (((List.getD v0.L (Int.toNat v0.I) default).Kind) = 1))))) hk rfl rfl rfl rfl ((FW.f_pure (FW.p_pick_or hk.kn (FW.holds_nil _) rfl rfl))) ?_; clear hk; intro a w hk
  refine FW.lend (hK4 _ _ ?_); clear hK4 K'
  refine FW.wcondF (b := ((!decide (v0.E = 0)) || (!decide (((List.getD v0.L (Int.toNat v0.I) default).Kind) = 1)))) hk h rfl (fun h hb => ?_) (fun h hb => ?_)
  · skip
    refine FW.wreg ?_; intro K' hK5
    refine FW.lfun (y := .agg ((Offshootref12State.cells v0))) hk rfl rfl rfl rfl (FW.f_loadBlk hk (FW.holds_nil _) (j := 3) rfl rfl Go.Proofs.Try.underlying62 rfl rfl rfl rfl) ?_; clear hk; intro a w hk
    obtain ⟨t1, hr_t1, h⟩ := FW.bnd h
    refine FW.lfun (y := .agg ((Offshootref12State.cells t1))) hk rfl rfl rfl rfl (FW.f_call hk (FW.holds_nil _) rfl rfl Go.Proofs.Try.func30 rfl (by kernel_rfl) (offshootref12_State_fail.ok v0 120 _ hr_t1)) ?_; clear hk; intro a w hk
    refine FW.lfun (y := .agg ((ApiPred.cells (⟨[], [], []⟩ : ApiPred)))) hk rfl rfl rfl rfl (FW.f_buildN [] hk (FW.holds_nil _) rfl rfl rfl) ?_; clear hk; intro a w hk
    refine FW.l_store (I' := [FW.blk b4 62 ((Offshootref12State.cells v0)), FW.blk b3 36 ((ApiPred.cells (⟨[], [], []⟩ : ApiPred))), FW.blk b2 62 ((Offshootref12State.cells t1)), FW.blk b1 62 ((Offshootref12State.cells v0))]) (cs' := (Offshootref12State.cells t1)) (j := 2) hk rfl rfl rfl rfl rfl (by kernel_rfl) rfl rfl ?_; clear hk; intro w hk
    refine FW.l_store (I' := [FW.blk b4 62 ((Offshootref12State.cells v0)), FW.blk b3 36 ((ApiPred.cells (⟨[], [], []⟩ : ApiPred))), FW.blk b2 62 ((Offshootref12State.cells t1)), FW.blk b1 62 ((Offshootref12State.cells v0))]) (cs' := (ApiPred.cells (⟨[], [], []⟩ : ApiPred))) (j := 1) hk rfl rfl rfl rfl rfl (by kernel_rfl) rfl rfl ?_; clear hk; intro w hk
    refine FW.lend (hK5 _ _ ?_); clear hK5 K'
    refine wp_ret ?_
    (repeat first | refine FW.then_ret ?_ | refine FW.block_ret ?_)
    obtain rfl := Option.some.inj h
    exact FW.fretR2 hk rfl (FW.rcell hk rfl (j := 2) rfl Go.Proofs.Try.underlying62 rfl (by kernel_rfl)) (FW.rcell hk rfl (j := 1) rfl Go.Proofs.Try.underlying36 rfl (by kernel_rfl))
  · skip
    refine wp_skip ?_
    (repeat first | refine FW.then_normal ?_ | refine FW.block_normal ?_); refine hK3 _ _ ?_
    refine FW.wreg ?_; intro K' hK6
    refine FW.lfun (y := .lit (.pointer (some ⟨b1, 0, none⟩))) hk rfl rfl rfl rfl (FW.f_fieldPtr hk (FW.holds_nil _) rfl Go.Proofs.Try.underlying62 rfl (by kernel_rfl) rfl) ?_; clear hk; intro a w hk
    refine FW.lfun (y := .row (r_ApiWord_cells v0.L)) hk rfl rfl rfl rfl (FW.f_loadBlk1 hk (FW.holds_nil _) (j := 3) rfl rfl Go.Proofs.Try.underlying48 rfl rfl) ?_; clear hk; intro a w hk
    refine FW.lfun (y := .lit (.pointer (some ⟨b1, 1, none⟩))) hk rfl rfl rfl rfl (FW.f_fieldPtr hk (FW.holds_nil _) rfl Go.Proofs.Try.underlying62 rfl (by kernel_rfl) rfl) ?_; clear hk; intro a w hk
    refine FW.lfun (y := .lit (.int .i64 v0.I)) hk rfl rfl rfl rfl (FW.f_loadBlk1 hk (FW.holds_nil _) (j := 3) rfl rfl Go.Proofs.Try.underlying3 rfl rfl) ?_; clear hk; intro a w hk
    obtain ⟨hc2, h⟩ := FW.chk h
    refine FW.lfun (y := .ref (ApiWord.cells (List.getD v0.L (Int.toNat v0.I) default))) hk rfl rfl rfl rfl (FW.f_indexAddr (R := r_ApiWord_cells) (f := ApiWord.cells) (l := v0.L) (sz := 5) r_ApiWord_cells_eq (fun _ => rfl) hk (FW.holds_nil _) rfl rfl Go.Proofs.Try.underlying48 (by kernel_rfl) hc2) ?_; clear hk; intro a w hk
    refine FW.lfun (y := .ref (List.drop 1 (ApiWord.cells (List.getD v0.L (Int.toNat v0.I) default)))) hk rfl rfl rfl rfl (FW.f_fieldAddr hk (FW.holds_nil _) rfl Go.Proofs.Try.underlying52 rfl (by kernel_rfl) rfl) ?_; clear hk; intro a w hk
    refine FW.lfun (y := .lit (.string (FW.B ((List.getD v0.L (Int.toNat v0.I) default).S)))) hk rfl rfl rfl rfl (FW.f_load1 hk (FW.holds_nil _) rfl rfl Go.Proofs.Try.underlying9 rfl) ?_; clear hk; intro a w hk
    obtain ⟨t2, hr_t2, h⟩ := FW.bnd h
    refine FW.lfun (y := .tup [.lit (.int .i64 t2.1), .lit (.bool t2.2)]) hk rfl rfl rfl rfl (FW.f_call hk (FW.holds_nil _) rfl rfl Go.Proofs.Try.func65 rfl (by kernel_rfl) (offshootref12_Preds.ok K ((List.getD v0.L (Int.toNat v0.I) default).S) _ hr_t2)) ?_; clear hk; intro a w hk
    refine FW.lfun (y := .tup [.lit (.int .i64 t2.1), .lit (.bool t2.2)]) hk rfl rfl rfl rfl (FW.f_move hk (FW.holds_nil _) rfl) ?_; clear hk; intro a w hk
    refine FW.lfun (y := .lit (.int .i64 t2.1)) hk rfl rfl rfl rfl (FW.f_extract hk (FW.holds_nil _) rfl rfl) ?_; clear hk; intro a w hk
    refine FW.lfun (y := .lit (.bool t2.2)) hk rfl rfl rfl rfl (FW.f_extract hk (FW.holds_nil _) rfl rfl) ?_; clear hk; intro a w hk
    refine FW.lfun (y := .lit (.int .i64 t2.1)) hk rfl rfl rfl rfl (FW.f_assign hk (FW.holds_nil _) rfl) ?_; clear hk; intro a w hk
    refine FW.lfun (y := .lit (.bool t2.2)) hk rfl rfl rfl rfl (FW.f_assign hk (FW.holds_nil _) rfl) ?_; clear hk; intro a w hk
    refine FW.lend (hK6 _ _ ?_); clear hK6 K'
    refine FW.wseq ?_; intro K' hK7
    refine FW.wreg ?_; intro K' hK8
    refine FW.lfun (y := .lit (.bool t2.2)) hk rfl rfl rfl rfl (FW.f_move hk (FW.holds_nil _) rfl) ?_; clear hk; intro a w hk
    refine FW.lfun (y := .lit (.bool (!t2.2))) hk rfl rfl rfl rfl ((FW.f_pure (FW.p_not hk.kn (FW.holds_nil _) rfl))) ?_; clear hk; intro a w hk
    refine FW.lend (hK8 _ _ ?_); clear hK8 K'
    refine FW.wcondF (b := (!t2.2)) hk h rfl (fun h hb => ?_) (fun h hb => ?_)
    · skip
      refine FW.wreg ?_; intro K' hK9
      refine FW.lfun (y := .agg ((Offshootref12State.cells v0))) hk rfl rfl rfl rfl (FW.f_loadBlk hk (FW.holds_nil _) (j := 3) rfl rfl Go.Proofs.Try.underlying62 rfl rfl rfl rfl) ?_; clear hk; intro a w hk
      obtain ⟨t3, hr_t3, h⟩ := FW.bnd h
      refine FW.lfun (y := .agg ((Offshootref12State.cells t3))) hk rfl rfl rfl rfl (FW.f_call hk (FW.holds_nil _) rfl rfl Go.Proofs.Try.func30 rfl (by kernel_rfl) (offshootref12_State_fail.ok v0 120 _ hr_t3)) ?_; clear hk; intro a w hk
      refine FW.lfun (y := .agg ((ApiPred.cells (⟨[], [], []⟩ : ApiPred)))) hk rfl rfl rfl rfl (FW.f_buildN [] hk (FW.holds_nil _) rfl rfl rfl) ?_; clear hk; intro a w hk
      refine FW.l_store (I' := [FW.blk b4 62 ((Offshootref12State.cells v0)), FW.blk b3 36 ((ApiPred.cells (⟨[], [], []⟩ : ApiPred))), FW.blk b2 62 ((Offshootref12State.cells t3)), FW.blk b1 62 ((Offshootref12State.cells v0))]) (cs' := (Offshootref12State.cells t3)) (j := 2) hk rfl rfl rfl rfl rfl (by kernel_rfl) rfl rfl ?_; clear hk; intro w hk
      refine FW.l_store (I' := [FW.blk b4 62 ((Offshootref12State.cells v0)), FW.blk b3 36 ((ApiPred.cells (⟨[], [], []⟩ : ApiPred))), FW.blk b2 62 ((Offshootref12State.cells t3)), FW.blk b1 62 ((Offshootref12State.cells v0))]) (cs' := (ApiPred.cells (⟨[], [], []⟩ : ApiPred))) (j := 1) hk rfl rfl rfl rfl rfl (by kernel_rfl) rfl rfl ?_; clear hk; intro w hk
      refine FW.lend (hK9 _ _ ?_); clear hK9 K'
      refine wp_ret ?_
      (repeat first | refine FW.then_ret ?_ | refine FW.block_ret ?_)
      obtain rfl := Option.some.inj h
      exact FW.fretR2 hk rfl (FW.rcell hk rfl (j := 2) rfl Go.Proofs.Try.underlying62 rfl (by kernel_rfl)) (FW.rcell hk rfl (j := 1) rfl Go.Proofs.Try.underlying36 rfl (by kernel_rfl))
    · skip
      refine wp_skip ?_
      (repeat first | refine FW.then_normal ?_ | refine FW.block_normal ?_); refine hK7 _ _ ?_
      refine FW.wreg ?_; intro K' hK10
      refine FW.lfun (y := .lit (.pointer (some ⟨b1, 0, none⟩))) hk rfl rfl rfl rfl (FW.f_fieldPtr hk (FW.holds_nil _) rfl Go.Proofs.Try.underlying62 rfl (by kernel_rfl) rfl) ?_; clear hk; intro a w hk
      refine FW.lfun (y := .row (r_ApiWord_cells v0.L)) hk rfl rfl rfl rfl (FW.f_loadBlk1 hk (FW.holds_nil _) (j := 3) rfl rfl Go.Proofs.Try.underlying48 rfl rfl) ?_; clear hk; intro a w hk
      refine FW.lfun (y := .lit (.pointer (some ⟨b1, 1, none⟩))) hk rfl rfl rfl rfl (FW.f_fieldPtr hk (FW.holds_nil _) rfl Go.Proofs.Try.underlying62 rfl (by kernel_rfl) rfl) ?_; clear hk; intro a w hk
      refine FW.lfun (y := .lit (.int .i64 v0.I)) hk rfl rfl rfl rfl (FW.f_loadBlk1 hk (FW.holds_nil _) (j := 3) rfl rfl Go.Proofs.Try.underlying3 rfl rfl) ?_; clear hk; intro a w hk
      obtain ⟨hc3, h⟩ := FW.chk h
      refine FW.lfun (y := .ref (ApiWord.cells (List.getD v0.L (Int.toNat v0.I) default))) hk rfl rfl rfl rfl (FW.f_indexAddr (R := r_ApiWord_cells) (f := ApiWord.cells) (l := v0.L) (sz := 5) r_ApiWord_cells_eq (fun _ => rfl) hk (FW.holds_nil _) rfl rfl Go.Proofs.Try.underlying48 (by kernel_rfl) hc3) ?_; clear hk; intro a w hk
      refine FW.lfun (y := .ref (List.drop 1 (ApiWord.cells (List.getD v0.L (Int.toNat v0.I) default)))) hk rfl rfl rfl rfl (FW.f_fieldAddr hk (FW.holds_nil _) rfl Go.Proofs.Try.underlying52 rfl (by kernel_rfl) rfl) ?_; clear hk; intro a w hk
      refine FW.lfun (y := .lit (.string (FW.B ((List.getD v0.L (Int.toNat v0.I) default).S)))) hk rfl rfl rfl rfl (FW.f_load1 hk (FW.holds_nil _) rfl rfl Go.Proofs.Try.underlying9 rfl) ?_; clear hk; intro a w hk
      refine FW.lfun (y := .agg ((ApiPred.cells (⟨(List.getD v0.L (Int.toNat v0.I) default).S, [], []⟩ : ApiPred)))) hk rfl rfl rfl rfl (FW.f_buildN [] hk (FW.holds_nil _) rfl rfl rfl) ?_; clear hk; intro a w hk
      refine FW.l_alloc (zs := (ApiPred.cells (⟨[], [], []⟩ : ApiPred))) [] hk rfl rfl rfl rfl ?_; clear hk; intro b5 a w hk
      refine FW.l_store (I' := [FW.blk b5 36 ((ApiPred.cells (⟨(List.getD v0.L (Int.toNat v0.I) default).S, [], []⟩ : ApiPred))), FW.blk b4 62 ((Offshootref12State.cells v0)), FW.blk b3 36 ((ApiPred.cells (⟨[], [], []⟩ : ApiPred))), FW.blk b2 62 ((Offshootref12State.cells (⟨[], 0, 0, 0, 0, 0⟩ : Offshootref12State))), FW.blk b1 62 ((Offshootref12State.cells v0))]) (cs' := (ApiPred.cells (⟨(List.getD v0.L (Int.toNat v0.I) default).S, [], []⟩ : ApiPred))) (j := 0) hk rfl rfl rfl rfl rfl (by kernel_rfl) rfl rfl ?_; clear hk; intro w hk
      refine FW.lend (hK10 _ _ ?_); clear hK10 K'
      refine FW.wreg ?_; intro K' hK11
      refine FW.lfun (y := .lit (.pointer (some ⟨b1, 1, none⟩))) hk rfl rfl rfl rfl (FW.f_fieldPtr hk (FW.holds_nil _) rfl Go.Proofs.Try.underlying62 rfl (by kernel_rfl) rfl) ?_; clear hk; intro a w hk
      refine FW.lfun (y := .lit (.int .i64 v0.I)) hk rfl rfl rfl rfl (FW.f_loadBlk1 hk (FW.holds_nil _) (j := 4) rfl rfl Go.Proofs.Try.underlying3 rfl rfl) ?_; clear hk; intro a w hk
      refine FW.lfun (y := .lit (.int .i64 (IntKind.wrap .i64 (v0.I + 1)))) hk rfl rfl rfl rfl ((FW.f_pure (FW.p_add hk.kn (FW.holds_nil _) rfl rfl))) ?_; clear hk; intro a w hk
      refine FW.lfun (y := .lit (.pointer (some ⟨b1, 1, none⟩))) hk rfl rfl rfl rfl (FW.f_fieldPtr hk (FW.holds_nil _) rfl Go.Proofs.Try.underlying62 rfl (by kernel_rfl) rfl) ?_; clear hk; intro a w hk
      refine FW.l_store (I' := [FW.blk b5 36 ((ApiPred.cells (⟨(List.getD v0.L (Int.toNat v0.I) default).S, [], []⟩ : ApiPred))), FW.blk b4 62 ((Offshootref12State.cells v0)), FW.blk b3 36 ((ApiPred.cells (⟨[], [], []⟩ : ApiPred))), FW.blk b2 62 ((Offshootref12State.cells (⟨[], 0, 0, 0, 0, 0⟩ : Offshootref12State))), FW.blk b1 62 ((Offshootref12State.cells (⟨v0.L, (IntKind.wrap .i64 (v0.I + 1)), v0.Deep, v0.Steps, v0.At, v0.E⟩ : Offshootref12State)))]) (cs' := (Offshootref12State.cells (⟨v0.L, (IntKind.wrap .i64 (v0.I + 1)), v0.Deep, v0.Steps, v0.At, v0.E⟩ : Offshootref12State))) (j := 4) hk rfl rfl rfl rfl rfl (by kernel_rfl) rfl rfl ?_; clear hk; intro w hk
      refine FW.lend (hK11 _ _ ?_); clear hK11 K'
      refine FW.wreg ?_; intro K' hK12
      refine FW.lfun (y := .agg ((Offshootref12State.cells (⟨v0.L, (IntKind.wrap .i64 (v0.I + 1)), v0.Deep, v0.Steps, v0.At, v0.E⟩ : Offshootref12State)))) hk rfl rfl rfl rfl (FW.f_loadBlk hk (FW.holds_nil _) (j := 4) rfl rfl Go.Proofs.Try.underlying62 rfl rfl rfl rfl) ?_; clear hk; intro a w hk
      obtain ⟨t4, hr_t4, h⟩ := FW.bnd h
      refine FW.lfun (y := .agg ((Offshootref12State.cells t4))) hk rfl rfl rfl rfl (FW.f_call hk (FW.holds_nil _) rfl rfl Go.Proofs.Try.func28 rfl (by kernel_rfl) (offshootref12_State_sign.ok (⟨v0.L, (IntKind.wrap .i64 (v0.I + 1)), v0.Deep, v0.Steps, v0.At, v0.E⟩ : Offshootref12State) ([40] : List UInt8) _ hr_t4)) ?_; clear hk; intro a w hk
      obtain ⟨t5, hr_t5, h⟩ := FW.bnd h
      refine FW.lfun (y := .agg ((Offshootref12State.cells t5))) hk rfl rfl rfl rfl (FW.f_call hk (FW.holds_nil _) rfl rfl Go.Proofs.Try.func67 rfl (by kernel_rfl) (offshootref12_State_into.ok t4 _ hr_t5)) ?_; clear hk; intro a w hk
      refine FW.l_store (I' := [FW.blk b5 36 ((ApiPred.cells (⟨(List.getD v0.L (Int.toNat v0.I) default).S, [], []⟩ : ApiPred))), FW.blk b4 62 ((Offshootref12State.cells v0)), FW.blk b3 36 ((ApiPred.cells (⟨[], [], []⟩ : ApiPred))), FW.blk b2 62 ((Offshootref12State.cells (⟨[], 0, 0, 0, 0, 0⟩ : Offshootref12State))), FW.blk b1 62 ((Offshootref12State.cells t5))]) (cs' := (Offshootref12State.cells t5)) (j := 4) hk rfl rfl rfl rfl rfl (by kernel_rfl) rfl rfl ?_; clear hk; intro w hk
      refine FW.lend (hK12 _ _ ?_); clear hK12 K'
      refine FW.wreg ?_; intro K' hK13
      refine FW.lfun (y := .agg ((Offshootref12State.cells t5))) hk rfl rfl rfl rfl (FW.f_loadBlk hk (FW.holds_nil _) (j := 4) rfl rfl Go.Proofs.Try.underlying62 rfl rfl rfl rfl) ?_; clear hk; intro a w hk
      obtain ⟨t6, hr_t6, h⟩ := FW.bnd h
      refine FW.lfun (y := .tup [.agg ((Offshootref12State.cells t6.1)), .row (r_ApiValue_cells t6.2)]) hk rfl rfl rfl rfl (FW.f_call hk (FW.holds_nil _) rfl rfl Go.Proofs.Try.func78 rfl (by kernel_rfl) (offshootref12_State_values.ok K t5 ([41] : List UInt8) _ hr_t6)) ?_; clear hk; intro a w hk
      refine FW.lfun (y := .tup [.agg ((Offshootref12State.cells t6.1)), .row (r_ApiValue_cells t6.2)]) hk rfl rfl rfl rfl (FW.f_move hk (FW.holds_nil _) rfl) ?_; clear hk; intro a w hk
      refine FW.lfun (y := .agg ((Offshootref12State.cells t6.1))) hk rfl rfl rfl rfl (FW.f_extract hk (FW.holds_nil _) rfl rfl) ?_; clear hk; intro a w hk
      refine FW.lfun (y := .row (r_ApiValue_cells t6.2)) hk rfl rfl rfl rfl (FW.f_extract hk (FW.holds_nil _) rfl rfl) ?_; clear hk; intro a w hk
      refine FW.l_store (I' := [FW.blk b5 36 ((ApiPred.cells (⟨(List.getD v0.L (Int.toNat v0.I) default).S, [], []⟩ : ApiPred))), FW.blk b4 62 ((Offshootref12State.cells v0)), FW.blk b3 36 ((ApiPred.cells (⟨[], [], []⟩ : ApiPred))), FW.blk b2 62 ((Offshootref12State.cells (⟨[], 0, 0, 0, 0, 0⟩ : Offshootref12State))), FW.blk b1 62 ((Offshootref12State.cells t6.1))]) (cs' := (Offshootref12State.cells t6.1)) (j := 4) hk rfl rfl rfl rfl rfl (by kernel_rfl) rfl rfl ?_; clear hk; intro w hk
      refine FW.lfun (y := .lit (.pointer (some ⟨b5, 1, none⟩))) hk rfl rfl rfl rfl (FW.f_fieldPtr hk (FW.holds_nil _) rfl Go.Proofs.Try.underlying36 rfl (by kernel_rfl) rfl) ?_; clear hk; intro a w hk
      refine FW.l_store (I' := [FW.blk b5 36 ((ApiPred.cells (⟨(List.getD v0.L (Int.toNat v0.I) default).S, t6.2, []⟩ : ApiPred))), FW.blk b4 62 ((Offshootref12State.cells v0)), FW.blk b3 36 ((ApiPred.cells (⟨[], [], []⟩ : ApiPred))), FW.blk b2 62 ((Offshootref12State.cells (⟨[], 0, 0, 0, 0, 0⟩ : Offshootref12State))), FW.blk b1 62 ((Offshootref12State.cells t6.1))]) (cs' := (ApiPred.cells (⟨(List.getD v0.L (Int.toNat v0.I) default).S, t6.2, []⟩ : ApiPred))) (j := 0) hk rfl rfl rfl rfl rfl (by kernel_rfl) rfl rfl ?_; clear hk; intro w hk
      refine FW.lend (hK13 _ _ ?_); clear hK13 K'
      refine FW.wreg ?_; intro K' hK14
      refine FW.lfun (y := .lit (.pointer (some ⟨b4, 2, none⟩))) hk rfl rfl rfl rfl (FW.f_fieldPtr hk (FW.holds_nil _) rfl Go.Proofs.Try.underlying62 rfl (by kernel_rfl) rfl) ?_; clear hk; intro a w hk
      refine FW.lfun (y := .lit (.int .i64 v0.Deep)) hk rfl rfl rfl rfl (FW.f_loadBlk1 hk (FW.holds_nil _) (j := 1) rfl rfl Go.Proofs.Try.underlying3 rfl rfl) ?_; clear hk; intro a w hk
      refine FW.lfun (y := .lit (.pointer (some ⟨b1, 2, none⟩))) hk rfl rfl rfl rfl (FW.f_fieldPtr hk (FW.holds_nil _) rfl Go.Proofs.Try.underlying62 rfl (by kernel_rfl) rfl) ?_; clear hk; intro a w hk
      refine FW.l_store (I' := [FW.blk b5 36 ((ApiPred.cells (⟨(List.getD v0.L (Int.toNat v0.I) default).S, t6.2, []⟩ : ApiPred))), FW.blk b4 62 ((Offshootref12State.cells v0)), FW.blk b3 36 ((ApiPred.cells (⟨[], [], []⟩ : ApiPred))), FW.blk b2 62 ((Offshootref12State.cells (⟨[], 0, 0, 0, 0, 0⟩ : Offshootref12State))), FW.blk b1 62 ((Offshootref12State.cells (⟨t6.1.L, t6.1.I, v0.Deep, t6.1.Steps, t6.1.At, t6.1.E⟩ : Offshootref12State)))]) (cs' := (Offshootref12State.cells (⟨t6.1.L, t6.1.I, v0.Deep, t6.1.Steps, t6.1.At, t6.1.E⟩ : Offshootref12State))) (j := 4) hk rfl rfl rfl rfl rfl (by kernel_rfl) rfl rfl ?_; clear hk; intro w hk
      refine FW.lend (hK14 _ _ ?_); clear hK14 K'
      refine FW.wseq ?_; intro K' hK15
      refine FW.wreg ?_; intro K' hK16
      refine FW.lfun (y := .lit (.pointer (some ⟨b1, 5, none⟩))) hk rfl rfl rfl rfl (FW.f_fieldPtr hk (FW.holds_nil _) rfl Go.Proofs.Try.underlying62 rfl (by kernel_rfl) rfl) ?_; clear hk; intro a w hk
      refine FW.lfun (y := .lit (.int .i64 t6.1.E)) hk rfl rfl rfl rfl (FW.f_loadBlk1 hk (FW.holds_nil _) (j := 4) rfl rfl Go.Proofs.Try.underlying23 rfl rfl) ?_; clear hk; intro a w hk
      refine FW.lfun (y := .lit (.bool (decide (t6.1.E = 0)))) hk rfl rfl rfl rfl ((FW.f_pure (FW.p_eql hk.kn (FW.holds_nil _) rfl rfl))) ?_; clear hk; intro a w hk
      refine FW.lfun (y := .lit (.bool (decide (t6.1.E = 0)))) hk rfl rfl rfl rfl (FW.f_move hk (FW.holds_nil _) rfl) ?_; clear hk; intro a w hk
      refine FW.lfunG (y := .lit (.int .i64 t2.1)) hk rfl rfl rfl rfl rfl rfl rfl rfl (fun hc => FW.f_move hk hc rfl) ?_; clear hk; intro a w hk
      refine FW.lfunG (y := .lit (.bool (decide (0 ≤ t2.1)))) hk rfl rfl rfl rfl rfl rfl rfl rfl (fun hc => (FW.f_pure (FW.p_geq hk.kn hc rfl rfl))) ?_; clear hk; intro a w hk
      refine FW.lfun (y := .lit (.bool ((decide (t6.1.E = 0)) && (decide (0 ≤ t2.1))))) hk rfl rfl rfl rfl ((FW.f_pure (FW.p_pick_and hk.kn (FW.holds_nil _) rfl rfl))) ?_; clear hk; intro a w hk
      refine FW.lfun (y := .lit (.bool ((decide (t6.1.E = 0)) && (decide (0 ≤ t2.1))))) hk rfl rfl rfl rfl (FW.f_move hk (FW.holds_nil _) rfl) ?_; clear hk; intro a w hk
      refine FW.lfunG (y := .lit (.pointer (some ⟨b5, 1, none⟩))) hk rfl rfl rfl rfl rfl rfl rfl rfl (fun hc => FW.f_fieldPtr hk hc rfl Go.Proofs.Try.underlying36 rfl (by kernel_rfl) rfl) ?_; clear hk; intro a w hk
      refine FW.lfunG (y := .row (r_ApiValue_cells t6.2)) hk rfl rfl rfl rfl rfl rfl rfl rfl (fun hc => FW.f_loadBlk1 hk hc (j := 0) rfl rfl Go.Proofs.Try.underlying31 rfl rfl) ?_; clear hk; intro a w hk
      refine FW.lfunG (y := .lit (.int .i64 (List.length t6.2 : Int))) hk rfl rfl rfl rfl rfl rfl rfl rfl (fun hc => FW.f_len (R := r_ApiValue_cells) (f := ApiValue.cells) (l := t6.2) r_ApiValue_cells_eq Go.Proofs.Try.underlying31 hk hc rfl) ?_; clear hk; intro a w hk
      refine FW.lfunG (y := .lit (.int .i64 t2.1)) hk rfl rfl rfl rfl rfl rfl rfl rfl (fun hc => FW.f_move hk hc rfl) ?_; clear hk; intro a w hk
      refine FW.lfunG (y := .lit (.bool (!decide ((List.length t6.2 : Int) = t2.1)))) hk rfl rfl rfl rfl rfl rfl rfl rfl (fun hc => (FW.f_pure (FW.p_neq hk.kn hc rfl rfl))) ?_; clear hk; intro a w hk
      refine FW.lfun (y := .lit (.bool (((decide (t6.1.E = 0)) && (decide (0 ≤ t2.1))) && (!decide ((List.length t6.2 : Int) = t2.1))))) hk rfl rfl rfl rfl ((FW.f_pure (FW.p_pick_and hk.kn (FW.holds_nil _) rfl rfl))) ?_; clear hk; intro a w hk
      refine FW.lend (hK16 _ _ ?_); clear hK16 K'
      refine FW.wcondF (b := (((decide (t6.1.E = 0)) && (decide (0 ≤ t2.1))) && (!decide ((List.length t6.2 : Int) = t2.1)))) hk h rfl (fun h hb => ?_) (fun h hb => ?_)
      · skip
        refine FW.wreg ?_; intro K' hK17
        refine FW.lfun (y := .agg ((Offshootref12State.cells v0))) hk rfl rfl rfl rfl (FW.f_loadBlk hk (FW.holds_nil _) (j := 1) rfl rfl Go.Proofs.Try.underlying62 rfl rfl rfl rfl) ?_; clear hk; intro a w hk
        obtain ⟨t7, hr_t7, h⟩ := FW.bnd h
        refine FW.lfun (y := .agg ((Offshootref12State.cells t7))) hk rfl rfl rfl rfl (FW.f_call hk (FW.holds_nil _) rfl rfl Go.Proofs.Try.func30 rfl (by kernel_rfl) (offshootref12_State_fail.ok v0 120 _ hr_t7)) ?_; clear hk; intro a w hk
        refine FW.lfun (y := .agg ((ApiPred.cells (⟨[], [], []⟩ : ApiPred)))) hk rfl rfl rfl rfl (FW.f_buildN [] hk (FW.holds_nil _) rfl rfl rfl) ?_; clear hk; intro a w hk
        refine FW.l_store (I' := [FW.blk b5 36 ((ApiPred.cells (⟨(List.getD v0.L (Int.toNat v0.I) default).S, t6.2, []⟩ : ApiPred))), FW.blk b4 62 ((Offshootref12State.cells v0)), FW.blk b3 36 ((ApiPred.cells (⟨[], [], []⟩ : ApiPred))), FW.blk b2 62 ((Offshootref12State.cells t7)), FW.blk b1 62 ((Offshootref12State.cells (⟨t6.1.L, t6.1.I, v0.Deep, t6.1.Steps, t6.1.At, t6.1.E⟩ : Offshootref12State)))]) (cs' := (Offshootref12State.cells t7)) (j := 3) hk rfl rfl rfl rfl rfl (by kernel_rfl) rfl rfl ?_; clear hk; intro w hk
        refine FW.l_store (I' := [FW.blk b5 36 ((ApiPred.cells (⟨(List.getD v0.L (Int.toNat v0.I) default).S, t6.2, []⟩ : ApiPred))), FW.blk b4 62 ((Offshootref12State.cells v0)), FW.blk b3 36 ((ApiPred.cells (⟨[], [], []⟩ : ApiPred))), FW.blk b2 62 ((Offshootref12State.cells t7)), FW.blk b1 62 ((Offshootref12State.cells (⟨t6.1.L, t6.1.I, v0.Deep, t6.1.Steps, t6.1.At, t6.1.E⟩ : Offshootref12State)))]) (cs' := (ApiPred.cells (⟨[], [], []⟩ : ApiPred))) (j := 2) hk rfl rfl rfl rfl rfl (by kernel_rfl) rfl rfl ?_; clear hk; intro w hk
        refine FW.lend (hK17 _ _ ?_); clear hK17 K'
        refine wp_ret ?_
        (repeat first | refine FW.then_ret ?_ | refine FW.block_ret ?_)
        obtain rfl := Option.some.inj h
        exact FW.fretR2 hk rfl (FW.rcell hk rfl (j := 3) rfl Go.Proofs.Try.underlying62 rfl (by kernel_rfl)) (FW.rcell hk rfl (j := 2) rfl Go.Proofs.Try.underlying36 rfl (by kernel_rfl))
      · skip
        refine wp_skip ?_
        (repeat first | refine FW.then_normal ?_ | refine FW.block_normal ?_); refine hK15 _ _ ?_
        refine FW.wseqJ (fun a w => ∃ (y5 : ApiPred) (y4 : Offshootref12State) (y3 : ApiPred) (y2 : Offshootref12State) (y1 : Offshootref12State), FW.S M w0 a w 166 [FW.blk b5 36 ((ApiPred.cells y5)), FW.blk b4 62 ((Offshootref12State.cells y4)), FW.blk b3 36 ((ApiPred.cells y3)), FW.blk b2 62 ((Offshootref12State.cells y2)), FW.blk b1 62 ((Offshootref12State.cells y1))] [(1, [], .lit (.pointer (some ⟨b1, 0, none⟩))), (2, [], .lit (.pointer (some ⟨b2, 0, none⟩))), (3, [], .lit (.pointer (some ⟨b3, 0, none⟩))), (4, [], .lit (.pointer (some ⟨b4, 0, none⟩))), (7, [], .lit (.pointer (some ⟨b5, 0, none⟩)))] ∧ offshootref12_State_pred.j1 s_offshootref12_State_pred K y5 y4 y3 y2 y1 = some r) ?_ ?_
        · clear hk h
          rintro a w ⟨y5, y4, y3, y2, y1, hk, h⟩
          unfold offshootref12_State_pred.j1 at h
          refine FW.wreg ?_; intro K' hK19
          refine FW.lfun (y := .lit (.pointer (some ⟨b4, 2, none⟩))) hk rfl rfl rfl rfl (FW.f_fieldPtr hk (FW.holds_nil _) rfl Go.Proofs.Try.underlying62 rfl (by kernel_rfl) rfl) ?_; clear hk; intro a w hk
          refine FW.lfun (y := .lit (.int .i64 y4.Deep)) hk rfl rfl rfl rfl (FW.f_loadBlk1 hk (FW.holds_nil _) (j := 1) rfl rfl Go.Proofs.Try.underlying3 rfl rfl) ?_; clear hk; intro a w hk
          refine FW.lfun (y := .lit (.pointer (some ⟨b1, 2, none⟩))) hk rfl rfl rfl rfl (FW.f_fieldPtr hk (FW.holds_nil _) rfl Go.Proofs.Try.underlying62 rfl (by kernel_rfl) rfl) ?_; clear hk; intro a w hk
          refine FW.l_store (I' := [FW.blk b5 36 ((ApiPred.cells y5)), FW.blk b4 62 ((Offshootref12State.cells y4)), FW.blk b3 36 ((ApiPred.cells y3)), FW.blk b2 62 ((Offshootref12State.cells y2)), FW.blk b1 62 ((Offshootref12State.cells (⟨y1.L, y1.I, y4.Deep, y1.Steps, y1.At, y1.E⟩ : Offshootref12State)))]) (cs' := (Offshootref12State.cells (⟨y1.L, y1.I, y4.Deep, y1.Steps, y1.At, y1.E⟩ : Offshootref12State))) (j := 4) hk rfl rfl rfl rfl rfl (by kernel_rfl) rfl rfl ?_; clear hk; intro w hk
          refine FW.lend (hK19 _ _ ?_); clear hK19 K'
          refine FW.wdrawE (need := [false, false, false, false]) [(2, [true, true, false, false], [true, true, false, false]), (3, [false, true, false, false], [true, true, true, false])] [(164, [], .agg ((Offshootref12State.cells (⟨y1.L, y1.I, y4.Deep, y1.Steps, y1.At, y1.E⟩ : Offshootref12State)))), (165, [], .agg ((ApiPred.cells y5))), (166, [], .lit undef), (166, [], .lit undef)] (by kernel_rfl) (by kernel_rfl) (by kernel_rfl) (by kernel_rfl) hk ?_; clear hk
          refine FW.gnext0 ?_ rfl rfl rfl ?_
          · skip
            refine FW.gfun (y := .agg ((Offshootref12State.cells (⟨y1.L, y1.I, y4.Deep, y1.Steps, y1.At, y1.E⟩ : Offshootref12State)))) rfl rfl rfl rfl (fun a w hk => FW.f_loadBlk hk (FW.holds_nil _) (j := 4) rfl rfl Go.Proofs.Try.underlying62 rfl rfl rfl rfl) ?_
            refine FW.gfun (y := .agg ((ApiPred.cells y5))) rfl rfl rfl rfl (fun a w hk => FW.f_loadBlk hk (FW.holds_nil _) (j := 0) rfl rfl Go.Proofs.Try.underlying36 rfl rfl rfl rfl) ?_
            refine FW.gskip0 rfl ?_
            refine FW.gskip0 rfl ?_
            exact FW.gend
          · skip
            intro σD a w opsD QD hk hQ
            refine FW.l_store (I' := [FW.blk b5 36 ((ApiPred.cells y5)), FW.blk b4 62 ((Offshootref12State.cells y4)), FW.blk b3 36 ((ApiPred.cells y3)), FW.blk b2 62 ((Offshootref12State.cells (⟨y1.L, y1.I, y4.Deep, y1.Steps, y1.At, y1.E⟩ : Offshootref12State))), FW.blk b1 62 ((Offshootref12State.cells (⟨y1.L, y1.I, y4.Deep, y1.Steps, y1.At, y1.E⟩ : Offshootref12State)))]) (cs' := (Offshootref12State.cells (⟨y1.L, y1.I, y4.Deep, y1.Steps, y1.At, y1.E⟩ : Offshootref12State))) (j := 3) hk rfl rfl rfl rfl rfl (by kernel_rfl) rfl rfl ?_; clear hk; intro w hk
            refine hQ _ a w ?_ hk; clear hk hQ
            refine ⟨[(164, [], .agg ((Offshootref12State.cells (⟨y1.L, y1.I, y4.Deep, y1.Steps, y1.At, y1.E⟩ : Offshootref12State)))), (165, [], .agg ((ApiPred.cells y5))), (166, [], .lit undef), (166, [], .lit undef)], And.intro rfl (And.intro rfl (trivial)), rfl, ?_⟩
            refine FW.gnext0 ?_ rfl rfl rfl ?_
            · skip
              refine FW.gskip rfl rfl ?_
              refine FW.gfun (y := .agg ((ApiPred.cells y5))) rfl rfl rfl rfl (fun a w hk => FW.f_loadBlk hk (FW.holds_nil _) (j := 0) rfl rfl Go.Proofs.Try.underlying36 rfl rfl rfl rfl) ?_
              refine FW.gskip0 rfl ?_
              refine FW.gskip0 rfl ?_
              exact FW.gend
            · skip
              intro σD a w opsD QD hk hQ
              refine FW.l_store (I' := [FW.blk b5 36 ((ApiPred.cells y5)), FW.blk b4 62 ((Offshootref12State.cells y4)), FW.blk b3 36 ((ApiPred.cells y5)), FW.blk b2 62 ((Offshootref12State.cells (⟨y1.L, y1.I, y4.Deep, y1.Steps, y1.At, y1.E⟩ : Offshootref12State))), FW.blk b1 62 ((Offshootref12State.cells (⟨y1.L, y1.I, y4.Deep, y1.Steps, y1.At, y1.E⟩ : Offshootref12State)))]) (cs' := (ApiPred.cells y5)) (j := 2) hk rfl rfl rfl rfl rfl (by kernel_rfl) rfl rfl ?_; clear hk; intro w hk
              refine hQ _ a w ?_ hk; clear hk hQ
              refine ⟨[(164, [], .agg ((Offshootref12State.cells (⟨y1.L, y1.I, y4.Deep, y1.Steps, y1.At, y1.E⟩ : Offshootref12State)))), (165, [], .agg ((ApiPred.cells y5))), (166, [], .lit undef), (166, [], .lit undef)], And.intro rfl (And.intro rfl (And.intro rfl (trivial))), rfl, ?_⟩
              refine FW.glast ?_ ?_
              · skip
                refine FW.gskip rfl rfl ?_
                refine FW.gskip rfl rfl ?_
                refine FW.gskip0 rfl ?_
                refine FW.gskip0 rfl ?_
                exact FW.gend
              · skip
                intro a w hk; simp only [FW.stD, cond_true] at hk
                refine wp_ret ?_
                (repeat first | refine FW.then_ret ?_ | refine FW.block_ret ?_)
                obtain rfl := Option.some.inj h
                exact FW.fretR2 hk rfl (FW.rcell hk rfl (j := 3) rfl Go.Proofs.Try.underlying62 rfl (by kernel_rfl)) (FW.rcell hk rfl (j := 2) rfl Go.Proofs.Try.underlying36 rfl (by kernel_rfl))
        · intro K' hK18
          refine wp_block ?_
          refine FW.wloop (T := Nat × ApiPred × Offshootref12State × ApiPred × Offshootref12State × Offshootref12State) (fun x a w => match x with | (kl1, y5, y4, y3, y2, y1) => FW.S M w0 a w 166 [FW.blk b5 36 ((ApiPred.cells y5)), FW.blk b4 62 ((Offshootref12State.cells y4)), FW.blk b3 36 ((ApiPred.cells y3)), FW.blk b2 62 ((Offshootref12State.cells y2)), FW.blk b1 62 ((Offshootref12State.cells y1))] [(1, [], .lit (.pointer (some ⟨b1, 0, none⟩))), (2, [], .lit (.pointer (some ⟨b2, 0, none⟩))), (3, [], .lit (.pointer (some ⟨b3, 0, none⟩))), (4, [], .lit (.pointer (some ⟨b4, 0, none⟩))), (7, [], .lit (.pointer (some ⟨b5, 0, none⟩)))] ∧ offshootref12_State_pred.l1 s_offshootref12_State_pred K kl1 y5 y4 y3 y2 y1 = some r) (fun x => x.1) (K, (⟨(List.getD v0.L (Int.toNat v0.I) default).S, t6.2, []⟩ : ApiPred), v0, (⟨[], [], []⟩ : ApiPred), (⟨[], 0, 0, 0, 0, 0⟩ : Offshootref12State), (⟨t6.1.L, t6.1.I, v0.Deep, t6.1.Steps, t6.1.At, t6.1.E⟩ : Offshootref12State)) ⟨hk.sub ⟨rfl, rfl, rfl, rfl, rfl, trivial⟩, h⟩ ?_
          clear hk h
          rintro ⟨kl1, y5, y4, y3, y2, y1⟩ a w ⟨hk, h⟩ K' hK21
          cases kl1 with
          | zero => simp [offshootref12_State_pred.l1] at h
          | succ kl1 =>
          rw [offshootref12_State_pred.l1.eq_2] at h
          refine FW.wseq ?_; intro K' hK22
          refine FW.wreg ?_; intro K' hK23
          refine FW.lfun (y := .agg ((Offshootref12State.cells y1))) hk rfl rfl rfl rfl (FW.f_loadBlk hk (FW.holds_nil _) (j := 4) rfl rfl Go.Proofs.Try.underlying62 rfl rfl rfl rfl) ?_; clear hk; intro a w hk
          obtain ⟨t8, hr_t8, h⟩ := FW.bnd h
          refine FW.lfun (y := .lit (.bool t8)) hk rfl rfl rfl rfl (FW.f_call hk (FW.holds_nil _) rfl rfl Go.Proofs.Try.func48 rfl (by kernel_rfl) (offshootref12_State_is.ok y1 ([46] : List UInt8) _ hr_t8)) ?_; clear hk; intro a w hk
          refine FW.lend (hK23 _ _ ?_); clear hK23 K'
          refine FW.wcondF (b := t8) hk h rfl (fun h hb => ?_) (fun h hb => ?_)
          · skip
            refine wp_skip ?_
            (repeat first | refine FW.then_normal ?_ | refine FW.block_normal ?_); refine hK22 _ _ ?_
            refine wp_block ?_
            refine FW.wreg ?_; intro K' hK24
            refine FW.lfun (y := .lit (.pointer (some ⟨b1, 1, none⟩))) hk rfl rfl rfl rfl (FW.f_fieldPtr hk (FW.holds_nil _) rfl Go.Proofs.Try.underlying62 rfl (by kernel_rfl) rfl) ?_; clear hk; intro a w hk
            refine FW.lfun (y := .lit (.int .i64 y1.I)) hk rfl rfl rfl rfl (FW.f_loadBlk1 hk (FW.holds_nil _) (j := 4) rfl rfl Go.Proofs.Try.underlying3 rfl rfl) ?_; clear hk; intro a w hk
            refine FW.lfun (y := .lit (.int .i64 (IntKind.wrap .i64 (y1.I + 1)))) hk rfl rfl rfl rfl ((FW.f_pure (FW.p_add hk.kn (FW.holds_nil _) rfl rfl))) ?_; clear hk; intro a w hk
            refine FW.lfun (y := .lit (.pointer (some ⟨b1, 1, none⟩))) hk rfl rfl rfl rfl (FW.f_fieldPtr hk (FW.holds_nil _) rfl Go.Proofs.Try.underlying62 rfl (by kernel_rfl) rfl) ?_; clear hk; intro a w hk
            refine FW.l_store (I' := [FW.blk b5 36 ((ApiPred.cells y5)), FW.blk b4 62 ((Offshootref12State.cells y4)), FW.blk b3 36 ((ApiPred.cells y3)), FW.blk b2 62 ((Offshootref12State.cells y2)), FW.blk b1 62 ((Offshootref12State.cells (⟨y1.L, (IntKind.wrap .i64 (y1.I + 1)), y1.Deep, y1.Steps, y1.At, y1.E⟩ : Offshootref12State)))]) (cs' := (Offshootref12State.cells (⟨y1.L, (IntKind.wrap .i64 (y1.I + 1)), y1.Deep, y1.Steps, y1.At, y1.E⟩ : Offshootref12State))) (j := 4) hk rfl rfl rfl rfl rfl (by kernel_rfl) rfl rfl ?_; clear hk; intro w hk
            refine FW.lend (hK24 _ _ ?_); clear hK24 K'
            refine FW.wreg ?_; intro K' hK25
            refine FW.lfun (y := .agg ((Offshootref12State.cells (⟨y1.L, (IntKind.wrap .i64 (y1.I + 1)), y1.Deep, y1.Steps, y1.At, y1.E⟩ : Offshootref12State)))) hk rfl rfl rfl rfl (FW.f_loadBlk hk (FW.holds_nil _) (j := 4) rfl rfl Go.Proofs.Try.underlying62 rfl rfl rfl rfl) ?_; clear hk; intro a w hk
            obtain ⟨t9, hr_t9, h⟩ := FW.bnd h
            refine FW.lfun (y := .agg ((Offshootref12State.cells t9))) hk rfl rfl rfl rfl (FW.f_call hk (FW.holds_nil _) rfl rfl Go.Proofs.Try.func67 rfl (by kernel_rfl) (offshootref12_State_into.ok (⟨y1.L, (IntKind.wrap .i64 (y1.I + 1)), y1.Deep, y1.Steps, y1.At, y1.E⟩ : Offshootref12State) _ hr_t9)) ?_; clear hk; intro a w hk
            refine FW.l_store (I' := [FW.blk b5 36 ((ApiPred.cells y5)), FW.blk b4 62 ((Offshootref12State.cells y4)), FW.blk b3 36 ((ApiPred.cells y3)), FW.blk b2 62 ((Offshootref12State.cells y2)), FW.blk b1 62 ((Offshootref12State.cells t9))]) (cs' := (Offshootref12State.cells t9)) (j := 4) hk rfl rfl rfl rfl rfl (by kernel_rfl) rfl rfl ?_; clear hk; intro w hk
            refine FW.lend (hK25 _ _ ?_); clear hK25 K'
            refine FW.wreg ?_; intro K' hK26
            refine FW.lfun (y := .agg ((Offshootref12State.cells t9))) hk rfl rfl rfl rfl (FW.f_loadBlk hk (FW.holds_nil _) (j := 4) rfl rfl Go.Proofs.Try.underlying62 rfl rfl rfl rfl) ?_; clear hk; intro a w hk
            refine FW.l_alloc (zs := (Offshootref12State.cells (⟨[], 0, 0, 0, 0, 0⟩ : Offshootref12State))) [] hk rfl rfl rfl rfl ?_; clear hk; intro b6 a w hk
            refine FW.l_store (I' := [FW.blk b6 62 ((Offshootref12State.cells t9)), FW.blk b5 36 ((ApiPred.cells y5)), FW.blk b4 62 ((Offshootref12State.cells y4)), FW.blk b3 36 ((ApiPred.cells y3)), FW.blk b2 62 ((Offshootref12State.cells y2)), FW.blk b1 62 ((Offshootref12State.cells t9))]) (cs' := (Offshootref12State.cells t9)) (j := 0) hk rfl rfl rfl rfl rfl (by kernel_rfl) rfl rfl ?_; clear hk; intro w hk
            refine FW.lend (hK26 _ _ ?_); clear hK26 K'
            refine FW.wseqJ (fun a w => ∃ (y6 : Offshootref12State) (y5 : ApiPred) (y4 : Offshootref12State) (y3 : ApiPred) (y2 : Offshootref12State) (y1 : Offshootref12State), FW.S M w0 a w 166 [FW.blk b6 62 ((Offshootref12State.cells y6)), FW.blk b5 36 ((ApiPred.cells y5)), FW.blk b4 62 ((Offshootref12State.cells y4)), FW.blk b3 36 ((ApiPred.cells y3)), FW.blk b2 62 ((Offshootref12State.cells y2)), FW.blk b1 62 ((Offshootref12State.cells y1))] [(1, [], .lit (.pointer (some ⟨b1, 0, none⟩))), (2, [], .lit (.pointer (some ⟨b2, 0, none⟩))), (3, [], .lit (.pointer (some ⟨b3, 0, none⟩))), (4, [], .lit (.pointer (some ⟨b4, 0, none⟩))), (7, [], .lit (.pointer (some ⟨b5, 0, none⟩))), (8, [], .lit (.pointer (some ⟨b6, 0, none⟩)))] ∧ offshootref12_State_pred.j2 s_offshootref12_State_pred (offshootref12_State_pred.l1 s_offshootref12_State_pred K kl1) K y6 y5 y4 y3 y2 y1 = some r) ?_ ?_
            · clear hk h
              rintro a w ⟨y6, y5, y4, y3, y2, y1, hk, h⟩
              unfold offshootref12_State_pred.j2 at h
              refine FW.wseq ?_; intro K' hK28
              refine FW.wreg ?_; intro K' hK29
              refine FW.lfun (y := .lit (.pointer (some ⟨b1, 5, none⟩))) hk rfl rfl rfl rfl (FW.f_fieldPtr hk (FW.holds_nil _) rfl Go.Proofs.Try.underlying62 rfl (by kernel_rfl) rfl) ?_; clear hk; intro a w hk
              refine FW.lfun (y := .lit (.int .i64 y1.E)) hk rfl rfl rfl rfl (FW.f_loadBlk1 hk (FW.holds_nil _) (j := 5) rfl rfl Go.Proofs.Try.underlying23 rfl rfl) ?_; clear hk; intro a w hk
              refine FW.lfun (y := .lit (.bool (!decide (y1.E = 0)))) hk rfl rfl rfl rfl ((FW.f_pure (FW.p_neq hk.kn (FW.holds_nil _) rfl rfl))) ?_; clear hk; intro a w hk
              refine FW.lend (hK29 _ _ ?_); clear hK29 K'
              refine FW.wcondF (b := (!decide (y1.E = 0))) hk h rfl (fun h hb => ?_) (fun h hb => ?_)
              · skip
                refine wp_exit ?_; (repeat first | refine FW.then_exit ?_ | refine FW.block_exit_ne rfl ?_); refine FW.block_exit ?_
                (repeat first | refine FW.then_normal ?_ | refine FW.block_normal ?_); exact hK18 _ _ ⟨y5, y4, y3, y2, y1, (hk.drop 0).sub ⟨rfl, rfl, rfl, rfl, rfl, trivial⟩, h⟩
              · skip
                refine wp_skip ?_
                (repeat first | refine FW.then_normal ?_ | refine FW.block_normal ?_); refine hK28 _ _ ?_
                refine FW.wreg ?_; intro K' hK30
                refine FW.lfun (y := .lit (.pointer (some ⟨b1, 0, none⟩))) hk rfl rfl rfl rfl (FW.f_fieldPtr hk (FW.holds_nil _) rfl Go.Proofs.Try.underlying62 rfl (by kernel_rfl) rfl) ?_; clear hk; intro a w hk
                refine FW.lfun (y := .row (r_ApiWord_cells y1.L)) hk rfl rfl rfl rfl (FW.f_loadBlk1 hk (FW.holds_nil _) (j := 5) rfl rfl Go.Proofs.Try.underlying48 rfl rfl) ?_; clear hk; intro a w hk
                refine FW.lfun (y := .lit (.pointer (some ⟨b1, 1, none⟩))) hk rfl rfl rfl rfl (FW.f_fieldPtr hk (FW.holds_nil _) rfl Go.Proofs.Try.underlying62 rfl (by kernel_rfl) rfl) ?_; clear hk; intro a w hk
                refine FW.lfun (y := .lit (.int .i64 y1.I)) hk rfl rfl rfl rfl (FW.f_loadBlk1 hk (FW.holds_nil _) (j := 5) rfl rfl Go.Proofs.Try.underlying3 rfl rfl) ?_; clear hk; intro a w hk
                obtain ⟨hc4, h⟩ := FW.chk h
                refine FW.lfun (y := .ref (ApiWord.cells (List.getD y1.L (Int.toNat y1.I) default))) hk rfl rfl rfl rfl (FW.f_indexAddr (R := r_ApiWord_cells) (f := ApiWord.cells) (l := y1.L) (sz := 5) r_ApiWord_cells_eq (fun _ => rfl) hk (FW.holds_nil _) rfl rfl Go.Proofs.Try.underlying48 (by kernel_rfl) hc4) ?_; clear hk; intro a w hk
                refine FW.lfun (y := .ref (List.drop 1 (ApiWord.cells (List.getD y1.L (Int.toNat y1.I) default)))) hk rfl rfl rfl rfl (FW.f_fieldAddr hk (FW.holds_nil _) rfl Go.Proofs.Try.underlying52 rfl (by kernel_rfl) rfl) ?_; clear hk; intro a w hk
                refine FW.lfun (y := .lit (.string (FW.B ((List.getD y1.L (Int.toNat y1.I) default).S)))) hk rfl rfl rfl rfl (FW.f_load1 hk (FW.holds_nil _) rfl rfl Go.Proofs.Try.underlying9 rfl) ?_; clear hk; intro a w hk
                refine FW.lfun (y := .lit (.string (FW.B ((List.getD y1.L (Int.toNat y1.I) default).S)))) hk rfl rfl rfl rfl (FW.f_assign hk (FW.holds_nil _) rfl) ?_; clear hk; intro a w hk
                refine FW.lend (hK30 _ _ ?_); clear hK30 K'
                refine FW.wreg ?_; intro K' hK31
                refine FW.lfun (y := .lit (.pointer (some ⟨b1, 1, none⟩))) hk rfl rfl rfl rfl (FW.f_fieldPtr hk (FW.holds_nil _) rfl Go.Proofs.Try.underlying62 rfl (by kernel_rfl) rfl) ?_; clear hk; intro a w hk
                refine FW.lfun (y := .lit (.int .i64 y1.I)) hk rfl rfl rfl rfl (FW.f_loadBlk1 hk (FW.holds_nil _) (j := 5) rfl rfl Go.Proofs.Try.underlying3 rfl rfl) ?_; clear hk; intro a w hk
                refine FW.lfun (y := .lit (.int .i64 (IntKind.wrap .i64 (y1.I + 1)))) hk rfl rfl rfl rfl ((FW.f_pure (FW.p_add hk.kn (FW.holds_nil _) rfl rfl))) ?_; clear hk; intro a w hk
                refine FW.lfun (y := .lit (.pointer (some ⟨b1, 1, none⟩))) hk rfl rfl rfl rfl (FW.f_fieldPtr hk (FW.holds_nil _) rfl Go.Proofs.Try.underlying62 rfl (by kernel_rfl) rfl) ?_; clear hk; intro a w hk
                refine FW.l_store (I' := [FW.blk b6 62 ((Offshootref12State.cells y6)), FW.blk b5 36 ((ApiPred.cells y5)), FW.blk b4 62 ((Offshootref12State.cells y4)), FW.blk b3 36 ((ApiPred.cells y3)), FW.blk b2 62 ((Offshootref12State.cells y2)), FW.blk b1 62 ((Offshootref12State.cells (⟨y1.L, (IntKind.wrap .i64 (y1.I + 1)), y1.Deep, y1.Steps, y1.At, y1.E⟩ : Offshootref12State)))]) (cs' := (Offshootref12State.cells (⟨y1.L, (IntKind.wrap .i64 (y1.I + 1)), y1.Deep, y1.Steps, y1.At, y1.E⟩ : Offshootref12State))) (j := 5) hk rfl rfl rfl rfl rfl (by kernel_rfl) rfl rfl ?_; clear hk; intro w hk
                refine FW.lend (hK31 _ _ ?_); clear hK31 K'
                refine FW.wreg ?_; intro K' hK32
                refine FW.lfun (y := .agg ((Offshootref12State.cells (⟨y1.L, (IntKind.wrap .i64 (y1.I + 1)), y1.Deep, y1.Steps, y1.At, y1.E⟩ : Offshootref12State)))) hk rfl rfl rfl rfl (FW.f_loadBlk hk (FW.holds_nil _) (j := 5) rfl rfl Go.Proofs.Try.underlying62 rfl rfl rfl rfl) ?_; clear hk; intro a w hk
                obtain ⟨t10, hr_t10, h⟩ := FW.bnd h
                refine FW.lfun (y := .agg ((Offshootref12State.cells t10))) hk rfl rfl rfl rfl (FW.f_call hk (FW.holds_nil _) rfl rfl Go.Proofs.Try.func28 rfl (by kernel_rfl) (offshootref12_State_sign.ok (⟨y1.L, (IntKind.wrap .i64 (y1.I + 1)), y1.Deep, y1.Steps, y1.At, y1.E⟩ : Offshootref12State) ([40] : List UInt8) _ hr_t10)) ?_; clear hk; intro a w hk
                refine FW.l_store (I' := [FW.blk b6 62 ((Offshootref12State.cells y6)), FW.blk b5 36 ((ApiPred.cells y5)), FW.blk b4 62 ((Offshootref12State.cells y4)), FW.blk b3 36 ((ApiPred.cells y3)), FW.blk b2 62 ((Offshootref12State.cells y2)), FW.blk b1 62 ((Offshootref12State.cells t10))]) (cs' := (Offshootref12State.cells t10)) (j := 5) hk rfl rfl rfl rfl rfl (by kernel_rfl) rfl rfl ?_; clear hk; intro w hk
                refine FW.lend (hK32 _ _ ?_); clear hK32 K'
                refine FW.wseqJ (fun a w => ∃ (y5 : ApiPred) (y4 : Offshootref12State) (y3 : ApiPred) (y2 : Offshootref12State) (y1 : Offshootref12State), FW.S M w0 a w 166 [FW.blk b5 36 ((ApiPred.cells y5)), FW.blk b4 62 ((Offshootref12State.cells y4)), FW.blk b3 36 ((ApiPred.cells y3)), FW.blk b2 62 ((Offshootref12State.cells y2)), FW.blk b1 62 ((Offshootref12State.cells y1))] [(1, [], .lit (.pointer (some ⟨b1, 0, none⟩))), (2, [], .lit (.pointer (some ⟨b2, 0, none⟩))), (3, [], .lit (.pointer (some ⟨b3, 0, none⟩))), (4, [], .lit (.pointer (some ⟨b4, 0, none⟩))), (7, [], .lit (.pointer (some ⟨b5, 0, none⟩)))] ∧ offshootref12_State_pred.j3 s_offshootref12_State_pred (offshootref12_State_pred.l1 s_offshootref12_State_pred K kl1) K y5 y4 y3 y2 y1 = some r) ?_ ?_
                · clear hk h
                  rintro a w ⟨y5, y4, y3, y2, y1, hk, h⟩
                  unfold offshootref12_State_pred.j3 at h
                  refine FW.wreg1 ?_
                  refine FW.lfun (y := .agg ((Offshootref12State.cells y1))) hk rfl rfl rfl rfl (FW.f_loadBlk hk (FW.holds_nil _) (j := 4) rfl rfl Go.Proofs.Try.underlying62 rfl rfl rfl rfl) ?_; clear hk; intro a w hk
                  obtain ⟨t11, hr_t11, h⟩ := FW.bnd h
                  refine FW.lfun (y := .agg ((Offshootref12State.cells t11))) hk rfl rfl rfl rfl (FW.f_call hk (FW.holds_nil _) rfl rfl Go.Proofs.Try.func28 rfl (by kernel_rfl) (offshootref12_State_sign.ok y1 ([41] : List UInt8) _ hr_t11)) ?_; clear hk; intro a w hk
                  refine FW.l_store (I' := [FW.blk b5 36 ((ApiPred.cells y5)), FW.blk b4 62 ((Offshootref12State.cells y4)), FW.blk b3 36 ((ApiPred.cells y3)), FW.blk b2 62 ((Offshootref12State.cells y2)), FW.blk b1 62 ((Offshootref12State.cells t11))]) (cs' := (Offshootref12State.cells t11)) (j := 4) hk rfl rfl rfl rfl rfl (by kernel_rfl) rfl rfl ?_; clear hk; intro w hk
                  refine wpList_nil ?_
                  (repeat first | refine FW.then_normal ?_ | refine FW.block_normal ?_); exact hK21 (kl1, y5, y4, y3, y2, t11) _ _ (Nat.lt_succ_self _) ⟨hk.sub ⟨rfl, rfl, rfl, rfl, rfl, trivial⟩, h⟩
                · intro K' hK33
                  refine FW.wreg ?_; intro K' hK35
                  refine FW.lfun (y := .lit (.string (FW.B ((List.getD y1.L (Int.toNat y1.I) default).S)))) hk rfl rfl rfl rfl (FW.f_move hk (FW.holds_nil _) rfl) ?_; clear hk; intro a w hk
                  refine FW.lend (hK35 _ _ ?_); clear hK35 K'
                  refine wp_block ?_
                  refine FW.wseqJ (fun a w => ∃ (y6 : Offshootref12State) (y5 : ApiPred) (y4 : Offshootref12State) (y3 : ApiPred) (y2 : Offshootref12State) (y1 : Offshootref12State) (v9 : List UInt8) (v127 : List UInt8) (v133 : Bool), FW.S M w0 a w 166 [FW.blk b6 62 ((Offshootref12State.cells y6)), FW.blk b5 36 ((ApiPred.cells y5)), FW.blk b4 62 ((Offshootref12State.cells y4)), FW.blk b3 36 ((ApiPred.cells y3)), FW.blk b2 62 ((Offshootref12State.cells y2)), FW.blk b1 62 ((Offshootref12State.cells y1))] [(1, [], .lit (.pointer (some ⟨b1, 0, none⟩))), (2, [], .lit (.pointer (some ⟨b2, 0, none⟩))), (3, [], .lit (.pointer (some ⟨b3, 0, none⟩))), (4, [], .lit (.pointer (some ⟨b4, 0, none⟩))), (7, [], .lit (.pointer (some ⟨b5, 0, none⟩))), (8, [], .lit (.pointer (some ⟨b6, 0, none⟩))), (9, [], .lit (.string (FW.B v9))), (127, [], .lit (.string (FW.B v127))), (133, [], .lit (.bool v133))] ∧ offshootref12_State_pred.j4 s_offshootref12_State_pred (offshootref12_State_pred.l1 s_offshootref12_State_pred K kl1) K y6 y5 y4 y3 y2 y1 v9 v127 v133 = some r) ?_ ?_
                  · clear hk h
                    rintro a w ⟨y6, y5, y4, y3, y2, y1, v9, v127, v133, hk, h⟩
                    unfold offshootref12_State_pred.j4 at h
                    refine FW.wcondF (b := v133) hk h rfl (fun h hb => ?_) (fun h hb => ?_)
                    · skip
                      refine FW.wreg ?_; intro K' hK37
                      refine FW.lfun (y := .lit (.pointer (some ⟨b1, 5, none⟩))) hk rfl rfl rfl rfl (FW.f_fieldPtr hk (FW.holds_nil _) rfl Go.Proofs.Try.underlying62 rfl (by kernel_rfl) rfl) ?_; clear hk; intro a w hk
                      refine FW.lfun (y := .lit (.int .i64 y1.E)) hk rfl rfl rfl rfl (FW.f_loadBlk1 hk (FW.holds_nil _) (j := 5) rfl rfl Go.Proofs.Try.underlying23 rfl rfl) ?_; clear hk; intro a w hk
                      refine FW.lfun (y := .lit (.bool (decide (y1.E = 0)))) hk rfl rfl rfl rfl ((FW.f_pure (FW.p_eql hk.kn (FW.holds_nil _) rfl rfl))) ?_; clear hk; intro a w hk
                      refine FW.lend (hK37 _ _ ?_); clear hK37 K'
                      refine FW.wcondF (b := (decide (y1.E = 0))) hk h rfl (fun h hb => ?_) (fun h hb => ?_)
                      · skip
                        refine FW.wreg ?_; intro K' hK38
                        refine FW.lfun (y := .agg ((Offshootref12State.cells y1))) hk rfl rfl rfl rfl (FW.f_loadBlk hk (FW.holds_nil _) (j := 5) rfl rfl Go.Proofs.Try.underlying62 rfl rfl rfl rfl) ?_; clear hk; intro a w hk
                        obtain ⟨t12, hr_t12, h⟩ := FW.bnd h
                        refine FW.lfun (y := .tup [.agg ((Offshootref12State.cells t12.1)), .agg ((ApiPred.cells t12.2))]) hk rfl rfl rfl rfl (FW.f_call hk (FW.holds_nil _) rfl rfl Go.Proofs.Try.func66 rfl (by kernel_rfl) (hs_offshootref12_State_pred y1 _ hr_t12)) ?_; clear hk; intro a w hk
                        refine FW.lfun (y := .tup [.agg ((Offshootref12State.cells t12.1)), .agg ((ApiPred.cells t12.2))]) hk rfl rfl rfl rfl (FW.f_move hk (FW.holds_nil _) rfl) ?_; clear hk; intro a w hk
                        refine FW.lfun (y := .agg ((Offshootref12State.cells t12.1))) hk rfl rfl rfl rfl (FW.f_extract hk (FW.holds_nil _) rfl rfl) ?_; clear hk; intro a w hk
                        refine FW.lfun (y := .agg ((ApiPred.cells t12.2))) hk rfl rfl rfl rfl (FW.f_extract hk (FW.holds_nil _) rfl rfl) ?_; clear hk; intro a w hk
                        refine FW.l_alloc (zs := (Offshootref12State.cells (⟨[], 0, 0, 0, 0, 0⟩ : Offshootref12State))) [] hk rfl rfl rfl rfl ?_; clear hk; intro b7 a w hk
                        refine FW.l_alloc (zs := (ApiPred.cells (⟨[], [], []⟩ : ApiPred))) [] hk rfl rfl rfl rfl ?_; clear hk; intro b8 a w hk
                        refine FW.l_store (I' := [FW.blk b8 36 ((ApiPred.cells (⟨[], [], []⟩ : ApiPred))), FW.blk b7 62 ((Offshootref12State.cells t12.1)), FW.blk b6 62 ((Offshootref12State.cells y6)), FW.blk b5 36 ((ApiPred.cells y5)), FW.blk b4 62 ((Offshootref12State.cells y4)), FW.blk b3 36 ((ApiPred.cells y3)), FW.blk b2 62 ((Offshootref12State.cells y2)), FW.blk b1 62 ((Offshootref12State.cells y1))]) (cs' := (Offshootref12State.cells t12.1)) (j := 1) hk rfl rfl rfl rfl rfl (by kernel_rfl) rfl rfl ?_; clear hk; intro w hk
                        refine FW.l_store (I' := [FW.blk b8 36 ((ApiPred.cells t12.2)), FW.blk b7 62 ((Offshootref12State.cells t12.1)), FW.blk b6 62 ((Offshootref12State.cells y6)), FW.blk b5 36 ((ApiPred.cells y5)), FW.blk b4 62 ((Offshootref12State.cells y4)), FW.blk b3 36 ((ApiPred.cells y3)), FW.blk b2 62 ((Offshootref12State.cells y2)), FW.blk b1 62 ((Offshootref12State.cells y1))]) (cs' := (ApiPred.cells t12.2)) (j := 0) hk rfl rfl rfl rfl rfl (by kernel_rfl) rfl rfl ?_; clear hk; intro w hk
                        refine FW.lend (hK38 _ _ ?_); clear hK38 K'
                        refine FW.wreg ?_; intro K' hK39
                        refine FW.lfun (y := .lit (.pointer (some ⟨b1, 2, none⟩))) hk rfl rfl rfl rfl (FW.f_fieldPtr hk (FW.holds_nil _) rfl Go.Proofs.Try.underlying62 rfl (by kernel_rfl) rfl) ?_; clear hk; intro a w hk
                        refine FW.lfun (y := .lit (.int .i64 y1.Deep)) hk rfl rfl rfl rfl (FW.f_loadBlk1 hk (FW.holds_nil _) (j := 7) rfl rfl Go.Proofs.Try.underlying3 rfl rfl) ?_; clear hk; intro a w hk
                        refine FW.lfun (y := .lit (.int .i64 y1.Deep)) hk rfl rfl rfl rfl (FW.f_assign hk (FW.holds_nil _) rfl) ?_; clear hk; intro a w hk
                        refine FW.lend (hK39 _ _ ?_); clear hK39 K'
                        refine FW.wreg ?_; intro K' hK40
                        refine FW.lfun (y := .agg ((Offshootref12State.cells t12.1))) hk rfl rfl rfl rfl (FW.f_loadBlk hk (FW.holds_nil _) (j := 1) rfl rfl Go.Proofs.Try.underlying62 rfl rfl rfl rfl) ?_; clear hk; intro a w hk
                        refine FW.l_store (I' := [FW.blk b8 36 ((ApiPred.cells t12.2)), FW.blk b7 62 ((Offshootref12State.cells t12.1)), FW.blk b6 62 ((Offshootref12State.cells y6)), FW.blk b5 36 ((ApiPred.cells y5)), FW.blk b4 62 ((Offshootref12State.cells y4)), FW.blk b3 36 ((ApiPred.cells y3)), FW.blk b2 62 ((Offshootref12State.cells y2)), FW.blk b1 62 ((Offshootref12State.cells t12.1))]) (cs' := (Offshootref12State.cells t12.1)) (j := 7) hk rfl rfl rfl rfl rfl (by kernel_rfl) rfl rfl ?_; clear hk; intro w hk
                        refine FW.lend (hK40 _ _ ?_); clear hK40 K'
                        refine FW.wreg ?_; intro K' hK41
                        refine FW.lfun (y := .lit (.int .i64 y1.Deep)) hk rfl rfl rfl rfl (FW.f_move hk (FW.holds_nil _) rfl) ?_; clear hk; intro a w hk
                        refine FW.lfun (y := .lit (.pointer (some ⟨b1, 2, none⟩))) hk rfl rfl rfl rfl (FW.f_fieldPtr hk (FW.holds_nil _) rfl Go.Proofs.Try.underlying62 rfl (by kernel_rfl) rfl) ?_; clear hk; intro a w hk
                        refine FW.l_store (I' := [FW.blk b8 36 ((ApiPred.cells t12.2)), FW.blk b7 62 ((Offshootref12State.cells t12.1)), FW.blk b6 62 ((Offshootref12State.cells y6)), FW.blk b5 36 ((ApiPred.cells y5)), FW.blk b4 62 ((Offshootref12State.cells y4)), FW.blk b3 36 ((ApiPred.cells y3)), FW.blk b2 62 ((Offshootref12State.cells y2)), FW.blk b1 62 ((Offshootref12State.cells (⟨t12.1.L, t12.1.I, y1.Deep, t12.1.Steps, t12.1.At, t12.1.E⟩ : Offshootref12State)))]) (cs' := (Offshootref12State.cells (⟨t12.1.L, t12.1.I, y1.Deep, t12.1.Steps, t12.1.At, t12.1.E⟩ : Offshootref12State))) (j := 7) hk rfl rfl rfl rfl rfl (by kernel_rfl) rfl rfl ?_; clear hk; intro w hk
                        refine FW.lend (hK41 _ _ ?_); clear hK41 K'
                        refine FW.wreg1 ?_
                        refine FW.lfun (y := .lit (.string (FW.B v9))) hk rfl rfl rfl rfl (FW.f_move hk (FW.holds_nil _) rfl) ?_; clear hk; intro a w hk
                        refine FW.lfun (y := .agg ((ApiPred.cells y5))) hk rfl rfl rfl rfl (FW.f_loadBlk hk (FW.holds_nil _) (j := 3) rfl rfl Go.Proofs.Try.underlying36 rfl rfl rfl rfl) ?_; clear hk; intro a w hk
                        refine FW.lfun (y := .agg ((ApiPred.cells t12.2))) hk rfl rfl rfl rfl (FW.f_loadBlk hk (FW.holds_nil _) (j := 0) rfl rfl Go.Proofs.Try.underlying36 rfl rfl rfl rfl) ?_; clear hk; intro a w hk
                        refine FW.l_buildSlice (f := ApiPred.cells) (l := ([y5, t12.2] : List ApiPred)) hk rfl rfl rfl Go.Proofs.Try.underlying34 rfl rfl rfl rfl (fun _ => rfl) rfl ?_; clear hk; intro b9 a w hk
                        replace hk := (FW.S.freezeR (I' := [FW.blk b8 36 ((ApiPred.cells t12.2)), FW.blk b7 62 ((Offshootref12State.cells t12.1)), FW.blk b6 62 ((Offshootref12State.cells y6)), FW.blk b5 36 ((ApiPred.cells y5)), FW.blk b4 62 ((Offshootref12State.cells y4)), FW.blk b3 36 ((ApiPred.cells y3)), FW.blk b2 62 ((Offshootref12State.cells y2)), FW.blk b1 62 ((Offshootref12State.cells (⟨t12.1.L, t12.1.I, y1.Deep, t12.1.Steps, t12.1.At, t12.1.E⟩ : Offshootref12State)))]) r_ApiPred_cells_eq hk (j := 0) rfl (t := 152) rfl rfl).squash
                        refine FW.lfun (y := .agg ((ApiPred.cells (⟨v9, [], ([y5, t12.2] : List ApiPred)⟩ : ApiPred)))) hk rfl rfl rfl rfl (FW.f_buildN [] hk (FW.holds_nil _) rfl rfl rfl) ?_; clear hk; intro a w hk
                        refine FW.l_store (I' := [FW.blk b8 36 ((ApiPred.cells t12.2)), FW.blk b7 62 ((Offshootref12State.cells t12.1)), FW.blk b6 62 ((Offshootref12State.cells y6)), FW.blk b5 36 ((ApiPred.cells (⟨v9, [], ([y5, t12.2] : List ApiPred)⟩ : ApiPred))), FW.blk b4 62 ((Offshootref12State.cells y4)), FW.blk b3 36 ((ApiPred.cells y3)), FW.blk b2 62 ((Offshootref12State.cells y2)), FW.blk b1 62 ((Offshootref12State.cells (⟨t12.1.L, t12.1.I, y1.Deep, t12.1.Steps, t12.1.At, t12.1.E⟩ : Offshootref12State)))]) (cs' := (ApiPred.cells (⟨v9, [], ([y5, t12.2] : List ApiPred)⟩ : ApiPred))) (j := 3) hk rfl rfl rfl rfl rfl (by kernel_rfl) rfl rfl ?_; clear hk; intro w hk
                        refine wpList_nil ?_
                        (repeat first | refine FW.then_normal ?_ | refine FW.block_normal ?_); exact hK33 _ _ ⟨(⟨v9, [], ([y5, t12.2] : List ApiPred)⟩ : ApiPred), y4, y3, y2, (⟨t12.1.L, t12.1.I, y1.Deep, t12.1.Steps, t12.1.At, t12.1.E⟩ : Offshootref12State), (((hk.drop 2).drop 1).drop 0).sub ⟨rfl, rfl, rfl, rfl, rfl, trivial⟩, h⟩
                      · skip
                        refine wp_skip ?_
                        (repeat first | refine FW.then_normal ?_ | refine FW.block_normal ?_); exact hK33 _ _ ⟨y5, y4, y3, y2, y1, (hk.drop 0).sub ⟨rfl, rfl, rfl, rfl, rfl, trivial⟩, h⟩
                    · skip
                      refine FW.wreg ?_; intro K' hK43
                      refine FW.lfun (y := .lit (.bool (decide (v127 = ([110, 101, 103, 97, 116, 101] : List UInt8))))) hk rfl rfl rfl rfl ((FW.f_pure (FW.p_seql hk.kn (FW.holds_nil _) rfl rfl))) ?_; clear hk; intro a w hk
                      refine FW.lfun (y := .lit (.bool (decide (v127 = ([110, 101, 103, 97, 116, 101] : List UInt8))))) hk rfl rfl rfl rfl (FW.f_assign hk (FW.holds_nil _) rfl) ?_; clear hk; intro a w hk
                      refine FW.lend (hK43 _ _ ?_); clear hK43 K'
                      refine FW.wcondF (b := (decide (v127 = ([110, 101, 103, 97, 116, 101] : List UInt8)))) hk h rfl (fun h hb => ?_) (fun h hb => ?_)
                      · skip
                        refine FW.wreg1 ?_
                        refine FW.lfun (y := .agg ((ApiPred.cells y5))) hk rfl rfl rfl rfl (FW.f_loadBlk hk (FW.holds_nil _) (j := 1) rfl rfl Go.Proofs.Try.underlying36 rfl rfl rfl rfl) ?_; clear hk; intro a w hk
                        refine FW.l_buildSlice (f := ApiPred.cells) (l := ([y5] : List ApiPred)) hk rfl rfl rfl Go.Proofs.Try.underlying34 rfl rfl rfl rfl (fun _ => rfl) rfl ?_; clear hk; intro b10 a w hk
                        replace hk := (FW.S.freezeR (I' := [FW.blk b6 62 ((Offshootref12State.cells y6)), FW.blk b5 36 ((ApiPred.cells y5)), FW.blk b4 62 ((Offshootref12State.cells y4)), FW.blk b3 36 ((ApiPred.cells y3)), FW.blk b2 62 ((Offshootref12State.cells y2)), FW.blk b1 62 ((Offshootref12State.cells y1))]) r_ApiPred_cells_eq hk (j := 0) rfl (t := 157) rfl rfl).squash
                        refine FW.lfun (y := .agg ((ApiPred.cells (⟨([110, 111, 116] : List UInt8), [], ([y5] : List ApiPred)⟩ : ApiPred)))) hk rfl rfl rfl rfl (FW.f_buildN [] hk (FW.holds_nil _) rfl rfl rfl) ?_; clear hk; intro a w hk
                        refine FW.l_store (I' := [FW.blk b6 62 ((Offshootref12State.cells y6)), FW.blk b5 36 ((ApiPred.cells (⟨([110, 111, 116] : List UInt8), [], ([y5] : List ApiPred)⟩ : ApiPred))), FW.blk b4 62 ((Offshootref12State.cells y4)), FW.blk b3 36 ((ApiPred.cells y3)), FW.blk b2 62 ((Offshootref12State.cells y2)), FW.blk b1 62 ((Offshootref12State.cells y1))]) (cs' := (ApiPred.cells (⟨([110, 111, 116] : List UInt8), [], ([y5] : List ApiPred)⟩ : ApiPred))) (j := 1) hk rfl rfl rfl rfl rfl (by kernel_rfl) rfl rfl ?_; clear hk; intro w hk
                        refine wpList_nil ?_
                        (repeat first | refine FW.then_normal ?_ | refine FW.block_normal ?_); exact hK33 _ _ ⟨(⟨([110, 111, 116] : List UInt8), [], ([y5] : List ApiPred)⟩ : ApiPred), y4, y3, y2, y1, (hk.drop 0).sub ⟨rfl, rfl, rfl, rfl, rfl, trivial⟩, h⟩
                      · skip
                        refine FW.wreg ?_; intro K' hK45
                        refine FW.lfun (y := .lit (.pointer (some ⟨b1, 5, none⟩))) hk rfl rfl rfl rfl (FW.f_fieldPtr hk (FW.holds_nil _) rfl Go.Proofs.Try.underlying62 rfl (by kernel_rfl) rfl) ?_; clear hk; intro a w hk
                        refine FW.lfun (y := .lit (.int .i64 y1.E)) hk rfl rfl rfl rfl (FW.f_loadBlk1 hk (FW.holds_nil _) (j := 5) rfl rfl Go.Proofs.Try.underlying23 rfl rfl) ?_; clear hk; intro a w hk
                        refine FW.lfun (y := .lit (.bool (decide (y1.E = 0)))) hk rfl rfl rfl rfl ((FW.f_pure (FW.p_eql hk.kn (FW.holds_nil _) rfl rfl))) ?_; clear hk; intro a w hk
                        refine FW.lend (hK45 _ _ ?_); clear hK45 K'
                        refine FW.wcondF (b := (decide (y1.E = 0))) hk h rfl (fun h hb => ?_) (fun h hb => ?_)
                        · skip
                          refine FW.wreg1 ?_
                          refine FW.lfun (y := .agg ((Offshootref12State.cells y6))) hk rfl rfl rfl rfl (FW.f_loadBlk hk (FW.holds_nil _) (j := 0) rfl rfl Go.Proofs.Try.underlying62 rfl rfl rfl rfl) ?_; clear hk; intro a w hk
                          obtain ⟨t13, hr_t13, h⟩ := FW.bnd h
                          refine FW.lfun (y := .agg ((Offshootref12State.cells t13))) hk rfl rfl rfl rfl (FW.f_call hk (FW.holds_nil _) rfl rfl Go.Proofs.Try.func30 rfl (by kernel_rfl) (offshootref12_State_fail.ok y6 120 _ hr_t13)) ?_; clear hk; intro a w hk
                          refine FW.l_store (I' := [FW.blk b6 62 ((Offshootref12State.cells y6)), FW.blk b5 36 ((ApiPred.cells y5)), FW.blk b4 62 ((Offshootref12State.cells y4)), FW.blk b3 36 ((ApiPred.cells y3)), FW.blk b2 62 ((Offshootref12State.cells y2)), FW.blk b1 62 ((Offshootref12State.cells t13))]) (cs' := (Offshootref12State.cells t13)) (j := 5) hk rfl rfl rfl rfl rfl (by kernel_rfl) rfl rfl ?_; clear hk; intro w hk
                          refine wpList_nil ?_
                          (repeat first | refine FW.then_normal ?_ | refine FW.block_normal ?_); exact hK33 _ _ ⟨y5, y4, y3, y2, t13, (hk.drop 0).sub ⟨rfl, rfl, rfl, rfl, rfl, trivial⟩, h⟩
                        · skip
                          refine wp_skip ?_
                          (repeat first | refine FW.then_normal ?_ | refine FW.block_normal ?_); exact hK33 _ _ ⟨y5, y4, y3, y2, y1, (hk.drop 0).sub ⟨rfl, rfl, rfl, rfl, rfl, trivial⟩, h⟩
                  · intro K' hK36
                    refine FW.wreg ?_; intro K' hK47
                    refine FW.lfun (y := .lit (.bool (decide (((List.getD y1.L (Int.toNat y1.I) default).S) = ([97, 110, 100] : List UInt8))))) hk rfl rfl rfl rfl ((FW.f_pure (FW.p_seql hk.kn (FW.holds_nil _) rfl rfl))) ?_; clear hk; intro a w hk
                    refine FW.lfun (y := .lit (.bool (decide (((List.getD y1.L (Int.toNat y1.I) default).S) = ([97, 110, 100] : List UInt8))))) hk rfl rfl rfl rfl (FW.f_assign hk (FW.holds_nil _) rfl) ?_; clear hk; intro a w hk
                    refine FW.lend (hK47 _ _ ?_); clear hK47 K'
                    refine FW.wcondF (b := (decide (((List.getD y1.L (Int.toNat y1.I) default).S) = ([97, 110, 100] : List UInt8)))) hk h rfl (fun h hb => ?_) (fun h hb => ?_)
                    · skip
                      refine wp_skip ?_
                      (repeat first | refine FW.then_normal ?_ | refine FW.block_normal ?_); exact hK36 _ _ ⟨y6, y5, y4, y3, y2, t10, (List.getD y1.L (Int.toNat y1.I) default).S, (List.getD y1.L (Int.toNat y1.I) default).S, (decide (((List.getD y1.L (Int.toNat y1.I) default).S) = ([97, 110, 100] : List UInt8))), hk.sub ⟨rfl, rfl, rfl, rfl, rfl, rfl, rfl, rfl, rfl, trivial⟩, h⟩
                    · skip
                      refine FW.wreg1 ?_
                      refine FW.lfun (y := .lit (.bool (decide (((List.getD y1.L (Int.toNat y1.I) default).S) = ([111, 114] : List UInt8))))) hk rfl rfl rfl rfl ((FW.f_pure (FW.p_seql hk.kn (FW.holds_nil _) rfl rfl))) ?_; clear hk; intro a w hk
                      refine FW.lfun (y := .lit (.bool (decide (((List.getD y1.L (Int.toNat y1.I) default).S) = ([111, 114] : List UInt8))))) hk rfl rfl rfl rfl (FW.f_assign hk (FW.holds_nil _) rfl) ?_; clear hk; intro a w hk
                      refine wpList_nil ?_
                      (repeat first | refine FW.then_normal ?_ | refine FW.block_normal ?_); exact hK36 _ _ ⟨y6, y5, y4, y3, y2, t10, (List.getD y1.L (Int.toNat y1.I) default).S, (List.getD y1.L (Int.toNat y1.I) default).S, (decide (((List.getD y1.L (Int.toNat y1.I) default).S) = ([111, 114] : List UInt8))), hk.sub ⟨rfl, rfl, rfl, rfl, rfl, rfl, rfl, rfl, rfl, trivial⟩, h⟩
            · intro K' hK27
              refine FW.wreg ?_; intro K' hK49
              refine FW.lfun (y := .lit (.pointer (some ⟨b1, 5, none⟩))) hk rfl rfl rfl rfl (FW.f_fieldPtr hk (FW.holds_nil _) rfl Go.Proofs.Try.underlying62 rfl (by kernel_rfl) rfl) ?_; clear hk; intro a w hk
              refine FW.lfun (y := .lit (.int .i64 t9.E)) hk rfl rfl rfl rfl (FW.f_loadBlk1 hk (FW.holds_nil _) (j := 5) rfl rfl Go.Proofs.Try.underlying23 rfl rfl) ?_; clear hk; intro a w hk
              refine FW.lfun (y := .lit (.bool (decide (t9.E = 0)))) hk rfl rfl rfl rfl ((FW.f_pure (FW.p_eql hk.kn (FW.holds_nil _) rfl rfl))) ?_; clear hk; intro a w hk
              refine FW.lfun (y := .lit (.bool (decide (t9.E = 0)))) hk rfl rfl rfl rfl (FW.f_move hk (FW.holds_nil _) rfl) ?_; clear hk; intro a w hk
              refine FW.lfunG (y := .lit (.pointer (some ⟨b1, 0, none⟩))) hk rfl rfl rfl rfl rfl rfl rfl rfl (fun hc => FW.f_fieldPtr hk hc rfl Go.Proofs.Try.underlying62 rfl (by kernel_rfl) rfl) ?_; clear hk; intro a w hk
              refine FW.lfunG (y := .row (r_ApiWord_cells t9.L)) hk rfl rfl rfl rfl rfl rfl rfl rfl (fun hc => FW.f_loadBlk1 hk hc (j := 5) rfl rfl Go.Proofs.Try.underlying48 rfl rfl) ?_; clear hk; intro a w hk
              refine FW.lfunG (y := .lit (.pointer (some ⟨b1, 1, none⟩))) hk rfl rfl rfl rfl rfl rfl rfl rfl (fun hc => FW.f_fieldPtr hk hc rfl Go.Proofs.Try.underlying62 rfl (by kernel_rfl) rfl) ?_; clear hk; intro a w hk
              refine FW.lfunG (y := .lit (.int .i64 t9.I)) hk rfl rfl rfl rfl rfl rfl rfl rfl (fun hc => FW.f_loadBlk1 hk hc (j := 5) rfl rfl Go.Proofs.Try.underlying3 rfl rfl) ?_; clear hk; intro a w hk
              obtain ⟨hc5, h⟩ := FW.chk h
              refine FW.lfunG (y := .ref (ApiWord.cells (List.getD t9.L (Int.toNat t9.I) default))) hk rfl rfl rfl rfl rfl rfl rfl rfl (fun hc => FW.f_indexAddr (R := r_ApiWord_cells) (f := ApiWord.cells) (l := t9.L) (sz := 5) r_ApiWord_cells_eq (fun _ => rfl) hk hc rfl rfl Go.Proofs.Try.underlying48 (by kernel_rfl) hc5) ?_; clear hk; intro a w hk
              refine FW.lfunG (y := .ref (List.drop 0 (ApiWord.cells (List.getD t9.L (Int.toNat t9.I) default)))) hk rfl rfl rfl rfl rfl rfl rfl rfl (fun hc => FW.f_fieldAddr hk hc rfl Go.Proofs.Try.underlying52 rfl (by kernel_rfl) rfl) ?_; clear hk; intro a w hk
              refine FW.lfunG (y := .lit (.int .i64 ((List.getD t9.L (Int.toNat t9.I) default).Kind))) hk rfl rfl rfl rfl rfl rfl rfl rfl (fun hc => FW.f_load1 hk hc rfl rfl Go.Proofs.Try.underlying3 rfl) ?_; clear hk; intro a w hk
              refine FW.lfunG (y := .lit (.bool (!decide (((List.getD t9.L (Int.toNat t9.I) default).Kind) = 1)))) hk rfl rfl rfl rfl rfl rfl rfl rfl (fun hc => (FW.f_pure (FW.p_neq hk.kn hc rfl rfl))) ?_; clear hk; intro a w hk
              refine FW.lfun (y := .lit (.bool ((decide (t9.E = 0)) && (!decide (((List.getD t9.L (Int.toNat t9.I) default).Kind) = 1))))) hk rfl rfl rfl rfl ((FW.f_pure (FW.p_pick_and hk.kn (FW.holds_nil _) rfl rfl))) ?_; clear hk; intro a w hk
              refine FW.lend (hK49 _ _ ?_); clear hK49 K'
              refine FW.wcondF (b := ((decide (t9.E = 0)) && (!decide (((List.getD t9.L (Int.toNat t9.I) default).Kind) = 1)))) hk h rfl (fun h hb => ?_) (fun h hb => ?_)
              · skip
                refine FW.wreg1 ?_
                refine FW.lfun (y := .agg ((Offshootref12State.cells t9))) hk rfl rfl rfl rfl (FW.f_loadBlk hk (FW.holds_nil _) (j := 5) rfl rfl Go.Proofs.Try.underlying62 rfl rfl rfl rfl) ?_; clear hk; intro a w hk
                obtain ⟨t14, hr_t14, h⟩ := FW.bnd h
                refine FW.lfun (y := .agg ((Offshootref12State.cells t14))) hk rfl rfl rfl rfl (FW.f_call hk (FW.holds_nil _) rfl rfl Go.Proofs.Try.func30 rfl (by kernel_rfl) (offshootref12_State_fail.ok t9 120 _ hr_t14)) ?_; clear hk; intro a w hk
                refine FW.l_store (I' := [FW.blk b6 62 ((Offshootref12State.cells t9)), FW.blk b5 36 ((ApiPred.cells y5)), FW.blk b4 62 ((Offshootref12State.cells y4)), FW.blk b3 36 ((ApiPred.cells y3)), FW.blk b2 62 ((Offshootref12State.cells y2)), FW.blk b1 62 ((Offshootref12State.cells t14))]) (cs' := (Offshootref12State.cells t14)) (j := 5) hk rfl rfl rfl rfl rfl (by kernel_rfl) rfl rfl ?_; clear hk; intro w hk
                refine wpList_nil ?_
                (repeat first | refine FW.then_normal ?_ | refine FW.block_normal ?_); exact hK27 _ _ ⟨t9, y5, y4, y3, y2, t14, hk.sub ⟨rfl, rfl, rfl, rfl, rfl, rfl, trivial⟩, h⟩
              · skip
                refine wp_skip ?_
                (repeat first | refine FW.then_normal ?_ | refine FW.block_normal ?_); exact hK27 _ _ ⟨t9, y5, y4, y3, y2, t9, hk.sub ⟨rfl, rfl, rfl, rfl, rfl, rfl, trivial⟩, h⟩
          · skip
            refine wp_exit ?_; (repeat first | refine FW.then_exit ?_ | refine FW.block_exit_ne rfl ?_); refine FW.block_exit ?_
            (repeat first | refine FW.then_normal ?_ | refine FW.block_normal ?_); exact hK18 _ _ ⟨y5, y4, y3, y2, y1, hk.sub ⟨rfl, rfl, rfl, rfl, rfl, trivial⟩, h⟩
theorem offshootref12_State_pred_knot : ∀ K : Nat, (∀ (v0 : Offshootref12State) (r : Offshootref12State × ApiPred), offshootref12_State_pred.f K v0 = some r → FW.Ok Go.Proofs.Try.prog 66 [.agg (Offshootref12State.cells v0)] (.tup [.agg (Offshootref12State.cells r.1), .agg (ApiPred.cells r.2)]))
  | 0 => fun v0 r h => by simp [offshootref12_State_pred.f] at h
  | K + 1 => fun v0 r h => by rw [offshootref12_State_pred.f] at h; exact offshootref12_State_pred.bok _ (offshootref12_State_pred_knot K) K v0 r h
theorem offshootref12_State_pred.ok (K : Nat) (v0 : Offshootref12State) (r : Offshootref12State × ApiPred) (h : offshootref12_State_pred.f K v0 = some r) : FW.Ok Go.Proofs.Try.prog 66 [.agg (Offshootref12State.cells v0)] (.tup [.agg (Offshootref12State.cells r.1), .agg (ApiPred.cells r.2)]) := (offshootref12_State_pred_knot K) v0 r h
end Go.Proofs.Ytfmabehmohbahaa

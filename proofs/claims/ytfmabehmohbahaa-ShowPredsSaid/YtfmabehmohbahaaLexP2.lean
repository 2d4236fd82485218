/- Written by a program of this session (gen.py): the contracts of functions of the program. -/
import Derived.KernelRfl
import Derived.Test.YtfmabehmohbahaaProg
import Derived.Test.YtfmabehmohbahaaAvFun
import Derived.Test.YtfmabehmohbahaaAvMan
import Derived.Test.YtfmabehmohbahaaAvMore
import Derived.Test.YtfmabehmohbahaaAvDraw2
import Derived.Test.YtfmabehmohbahaaAvRow
import Derived.Test.YtfmabehmohbahaaAvBld
import Derived.Test.YtfmabehmohbahaaLexD
import Derived.Test.YtfmabehmohbahaaLexP1
namespace Go.Proofs.Ytfmabehmohbahaa
set_option linter.unusedVariables false
set_option maxRecDepth 20000
set_option maxHeartbeats 10000000
theorem offshootref12_State_steps.bok (s_offshootref12_State_steps : Offshootref12State → Option (Offshootref12State × List ApiStep)) (s_offshootref12_State_arg : Offshootref12State → Option (Offshootref12State × ApiArg)) (hs_offshootref12_State_steps : ∀ (v0 : Offshootref12State) (r : Offshootref12State × List ApiStep), s_offshootref12_State_steps v0 = some r → FW.Ok Go.Proofs.Try.prog 29 [.agg (Offshootref12State.cells v0)] (.tup [.agg (Offshootref12State.cells r.1), .row (r_ApiStep_cells r.2)])) (hs_offshootref12_State_arg : ∀ (v0 : Offshootref12State) (r : Offshootref12State × ApiArg), s_offshootref12_State_arg v0 = some r → FW.Ok Go.Proofs.Try.prog 49 [.agg (Offshootref12State.cells v0)] (.tup [.agg (Offshootref12State.cells r.1), .agg (ApiArg.cells r.2)])) (K : Nat) (v0 : Offshootref12State) (r : Offshootref12State × List ApiStep) (h : offshootref12_State_steps.b s_offshootref12_State_steps s_offshootref12_State_arg K v0 = some r) :
    FW.Ok Go.Proofs.Try.prog 29 [.agg (Offshootref12State.cells v0)] (.tup [.agg (Offshootref12State.cells r.1), .row (r_ApiStep_cells r.2)]) := by
  refine FW.enter (xs := [.agg (Offshootref12State.cells v0)]) Go.Proofs.Try.func29 rfl Go.Proofs.Try.ntmps29 rfl ?_
  intro M w0 a hk
  unfold offshootref12_State_steps.b at h
  refine FW.wreg ?_; intro K' hK1
  refine FW.l_box (cs := (Offshootref12State.cells v0)) hk rfl rfl rfl rfl rfl ?_; clear hk; intro b1 a w hk
  refine FW.l_alloc (zs := (Offshootref12State.cells (⟨[], 0, 0, 0, 0, 0⟩ : Offshootref12State))) [] hk rfl rfl rfl rfl ?_; clear hk; intro b2 a w hk
  refine FW.lfun (y := .row (r_ApiStep_cells [])) hk rfl rfl rfl rfl (FW.f_assignNil) ?_; clear hk; intro a w hk
  refine FW.lend (hK1 _ _ ?_); clear hK1 K'
  refine FW.wreg ?_; intro K' hK2
  refine FW.l_buildSlice0 (f := ApiStep.cells) hk rfl rfl Go.Proofs.Try.underlying22 rfl (fun _ => rfl) ?_; clear hk; intro b3 a w hk
  refine FW.lfun (y := .lit (.slice (some ⟨b3, 0, none⟩) (List.length ([] : List ApiStep)) 0)) hk rfl rfl rfl rfl (FW.f_assign hk (FW.holds_nil _) rfl) ?_; clear hk; intro a w hk
  refine FW.lend (hK2 _ _ ?_); clear hK2 K'
  refine FW.wseqJ (fun a w => ∃ (l3 : List ApiStep) (y2 : Offshootref12State) (y1 : Offshootref12State) (ad3 : Option Addr) (cap3 : Nat), FW.S M w0 a w 95 [FW.orow ad3 cap3 29 2 ApiStep.cells l3, FW.blk b2 62 ((Offshootref12State.cells y2)), FW.blk b1 62 ((Offshootref12State.cells y1))] [(1, [], .lit (.pointer (some ⟨b1, 0, none⟩))), (2, [], .lit (.pointer (some ⟨b2, 0, none⟩))), (4, [], .lit (.slice ad3 (List.length l3) cap3))] ∧ offshootref12_State_steps.j1 s_offshootref12_State_steps s_offshootref12_State_arg K l3 y2 y1 = some r) ?_ ?_
  · clear hk h
    rintro a w ⟨l3, y2, y1, ad3, cap3, hk, h⟩
    unfold offshootref12_State_steps.j1 at h
    refine FW.wreg ?_; intro K' hK4
    refine FW.lfun (y := .agg ((Offshootref12State.cells y1))) hk rfl rfl rfl rfl (FW.f_loadBlk hk (FW.holds_nil _) (j := 2) rfl rfl Go.Proofs.Try.underlying62 rfl rfl rfl rfl) ?_; clear hk; intro a w hk
    refine FW.lfun (y := .lit (.slice ad3 (List.length l3) cap3)) hk rfl rfl rfl rfl (FW.f_move hk (FW.holds_nil _) rfl) ?_; clear hk; intro a w hk
    refine FW.l_store (I' := [FW.orow ad3 cap3 29 2 ApiStep.cells l3, FW.blk b2 62 ((Offshootref12State.cells y1)), FW.blk b1 62 ((Offshootref12State.cells y1))]) (cs' := (Offshootref12State.cells y1)) (j := 1) hk rfl rfl rfl rfl rfl (by kernel_rfl) rfl rfl ?_; clear hk; intro w hk
    refine FW.lfun (y := .lit (.slice ad3 (List.length l3) cap3)) hk rfl rfl rfl rfl (FW.f_assign hk (FW.holds_nil _) rfl) ?_; clear hk; intro a w hk
    refine FW.lend (hK4 _ _ ?_); clear hK4 K'
    refine wp_ret ?_
    (repeat first | refine FW.then_ret ?_ | refine FW.block_ret ?_)
    replace hk := FW.S.freezeR (I' := [FW.blk b2 62 ((Offshootref12State.cells y1)), FW.blk b1 62 ((Offshootref12State.cells y1))]) r_ApiStep_cells_eq hk (j := 0) rfl (t := 3) rfl rfl
    obtain rfl := Option.some.inj h
    exact FW.fretR2 hk rfl (FW.rcell hk rfl (j := 0) rfl Go.Proofs.Try.underlying62 rfl (by kernel_rfl)) (FW.rtmp hk rfl)
  · intro K' hK3
    refine wp_block ?_
    refine FW.wloop (T := Nat × List ApiStep × Offshootref12State × Offshootref12State × Option Addr × Nat) (fun x a w => match x with | (kl1, l3, y2, y1, ad3, cap3) => FW.S M w0 a w 95 [FW.orow ad3 cap3 29 2 ApiStep.cells l3, FW.blk b2 62 ((Offshootref12State.cells y2)), FW.blk b1 62 ((Offshootref12State.cells y1))] [(1, [], .lit (.pointer (some ⟨b1, 0, none⟩))), (2, [], .lit (.pointer (some ⟨b2, 0, none⟩))), (4, [], .lit (.slice ad3 (List.length l3) cap3))] ∧ offshootref12_State_steps.l1 s_offshootref12_State_steps s_offshootref12_State_arg K kl1 l3 y2 y1 = some r) (fun x => x.1) (K, ([] : List ApiStep), (⟨[], 0, 0, 0, 0, 0⟩ : Offshootref12State), v0, (some ⟨b3, 0, none⟩), 0) ⟨hk.sub ⟨rfl, rfl, rfl, trivial⟩, h⟩ ?_
    clear hk h
    rintro ⟨kl1, l3, y2, y1, ad3, cap3⟩ a w ⟨hk, h⟩ K' hK5
    cases kl1 with
    | zero => simp [offshootref12_State_steps.l1] at h
    | succ kl1 =>
    rw [offshootref12_State_steps.l1.eq_2] at h
    refine FW.wseq ?_; intro K' hK6
    refine FW.wreg ?_; intro K' hK7
    refine FW.lfun (y := .lit (.pointer (some ⟨b1, 5, none⟩))) hk rfl rfl rfl rfl (FW.f_fieldPtr hk (FW.holds_nil _) rfl Go.Proofs.Try.underlying62 rfl (by kernel_rfl) rfl) ?_; clear hk; intro a w hk
    refine FW.lfun (y := .lit (.int .i64 y1.E)) hk rfl rfl rfl rfl (FW.f_loadBlk1 hk (FW.holds_nil _) (j := 2) rfl rfl Go.Proofs.Try.underlying23 rfl rfl) ?_; clear hk; intro a w hk
    refine FW.lfun (y := .lit (.bool (decide (y1.E = 0)))) hk rfl rfl rfl rfl ((FW.f_pure (FW.p_eql hk.kn (FW.holds_nil _) rfl rfl))) ?_; clear hk; intro a w hk
    refine FW.lend (hK7 _ _ ?_); clear hK7 K'
    refine FW.wcondF (b := (decide (y1.E = 0))) hk h rfl (fun h hb => ?_) (fun h hb => ?_)
    · skip
      refine wp_skip ?_
      (repeat first | refine FW.then_normal ?_ | refine FW.block_normal ?_); refine hK6 _ _ ?_
      refine wp_block ?_
      refine FW.wseq ?_; intro K' hK8
      refine FW.wreg ?_; intro K' hK9
      refine FW.lfun (y := .lit (.pointer (some ⟨b1, 3, none⟩))) hk rfl rfl rfl rfl (FW.f_fieldPtr hk (FW.holds_nil _) rfl Go.Proofs.Try.underlying62 rfl (by kernel_rfl) rfl) ?_; clear hk; intro a w hk
      refine FW.lfun (y := .lit (.int .i64 y1.Steps)) hk rfl rfl rfl rfl (FW.f_loadBlk1 hk (FW.holds_nil _) (j := 2) rfl rfl Go.Proofs.Try.underlying3 rfl rfl) ?_; clear hk; intro a w hk
      refine FW.lfun (y := .lit (.bool (decide (150 ≤ y1.Steps)))) hk rfl rfl rfl rfl ((FW.f_pure (FW.p_geq hk.kn (FW.holds_nil _) rfl rfl))) ?_; clear hk; intro a w hk
      refine FW.lend (hK9 _ _ ?_); clear hK9 K'
      refine FW.wcondF (b := (decide (150 ≤ y1.Steps))) hk h rfl (fun h hb => ?_) (fun h hb => ?_)
      · skip
        refine FW.wreg ?_; intro K' hK10
        refine FW.lfun (y := .agg ((Offshootref12State.cells y1))) hk rfl rfl rfl rfl (FW.f_loadBlk hk (FW.holds_nil _) (j := 2) rfl rfl Go.Proofs.Try.underlying62 rfl rfl rfl rfl) ?_; clear hk; intro a w hk
        obtain ⟨t1, hr_t1, h⟩ := FW.bnd h
        refine FW.lfun (y := .agg ((Offshootref12State.cells t1))) hk rfl rfl rfl rfl (FW.f_call hk (FW.holds_nil _) rfl rfl Go.Proofs.Try.func30 rfl (by kernel_rfl) (offshootref12_State_fail.ok y1 3 _ hr_t1)) ?_; clear hk; intro a w hk
        refine FW.l_store (I' := [FW.orow ad3 cap3 29 2 ApiStep.cells l3, FW.blk b2 62 ((Offshootref12State.cells t1)), FW.blk b1 62 ((Offshootref12State.cells y1))]) (cs' := (Offshootref12State.cells t1)) (j := 1) hk rfl rfl rfl rfl rfl (by kernel_rfl) rfl rfl ?_; clear hk; intro w hk
        refine FW.lfun (y := .row (r_ApiStep_cells [])) hk rfl rfl rfl rfl (FW.f_assignNil) ?_; clear hk; intro a w hk
        refine FW.lend (hK10 _ _ ?_); clear hK10 K'
        refine wp_ret ?_
        (repeat first | refine FW.then_ret ?_ | refine FW.block_ret ?_)
        obtain rfl := Option.some.inj h
        exact FW.fretR2 hk rfl (FW.rcell hk rfl (j := 1) rfl Go.Proofs.Try.underlying62 rfl (by kernel_rfl)) (FW.rtmp hk rfl)
      · skip
        refine wp_skip ?_
        (repeat first | refine FW.then_normal ?_ | refine FW.block_normal ?_); refine hK8 _ _ ?_
        refine FW.wreg ?_; intro K' hK11
        refine FW.lfun (y := .lit (.pointer (some ⟨b1, 3, none⟩))) hk rfl rfl rfl rfl (FW.f_fieldPtr hk (FW.holds_nil _) rfl Go.Proofs.Try.underlying62 rfl (by kernel_rfl) rfl) ?_; clear hk; intro a w hk
        refine FW.lfun (y := .lit (.int .i64 y1.Steps)) hk rfl rfl rfl rfl (FW.f_loadBlk1 hk (FW.holds_nil _) (j := 2) rfl rfl Go.Proofs.Try.underlying3 rfl rfl) ?_; clear hk; intro a w hk
        refine FW.lfun (y := .lit (.int .i64 (IntKind.wrap .i64 (y1.Steps + 1)))) hk rfl rfl rfl rfl ((FW.f_pure (FW.p_add hk.kn (FW.holds_nil _) rfl rfl))) ?_; clear hk; intro a w hk
        refine FW.lfun (y := .lit (.pointer (some ⟨b1, 3, none⟩))) hk rfl rfl rfl rfl (FW.f_fieldPtr hk (FW.holds_nil _) rfl Go.Proofs.Try.underlying62 rfl (by kernel_rfl) rfl) ?_; clear hk; intro a w hk
        refine FW.l_store (I' := [FW.orow ad3 cap3 29 2 ApiStep.cells l3, FW.blk b2 62 ((Offshootref12State.cells y2)), FW.blk b1 62 ((Offshootref12State.cells (⟨y1.L, y1.I, y1.Deep, (IntKind.wrap .i64 (y1.Steps + 1)), y1.At, y1.E⟩ : Offshootref12State)))]) (cs' := (Offshootref12State.cells (⟨y1.L, y1.I, y1.Deep, (IntKind.wrap .i64 (y1.Steps + 1)), y1.At, y1.E⟩ : Offshootref12State))) (j := 2) hk rfl rfl rfl rfl rfl (by kernel_rfl) rfl rfl ?_; clear hk; intro w hk
        refine FW.lend (hK11 _ _ ?_); clear hK11 K'
        refine FW.wseq ?_; intro K' hK12
        refine FW.wreg ?_; intro K' hK13
        refine FW.lfun (y := .lit (.pointer (some ⟨b1, 0, none⟩))) hk rfl rfl rfl rfl (FW.f_fieldPtr hk (FW.holds_nil _) rfl Go.Proofs.Try.underlying62 rfl (by kernel_rfl) rfl) ?_; clear hk; intro a w hk
        refine FW.lfun (y := .row (r_ApiWord_cells y1.L)) hk rfl rfl rfl rfl (FW.f_loadBlk1 hk (FW.holds_nil _) (j := 2) rfl rfl Go.Proofs.Try.underlying48 rfl rfl) ?_; clear hk; intro a w hk
        refine FW.lfun (y := .lit (.pointer (some ⟨b1, 1, none⟩))) hk rfl rfl rfl rfl (FW.f_fieldPtr hk (FW.holds_nil _) rfl Go.Proofs.Try.underlying62 rfl (by kernel_rfl) rfl) ?_; clear hk; intro a w hk
        refine FW.lfun (y := .lit (.int .i64 y1.I)) hk rfl rfl rfl rfl (FW.f_loadBlk1 hk (FW.holds_nil _) (j := 2) rfl rfl Go.Proofs.Try.underlying3 rfl rfl) ?_; clear hk; intro a w hk
        obtain ⟨hc1, h⟩ := FW.chk h
        refine FW.lfun (y := .ref (ApiWord.cells (List.getD y1.L (Int.toNat y1.I) default))) hk rfl rfl rfl rfl (FW.f_indexAddr (R := r_ApiWord_cells) (f := ApiWord.cells) (l := y1.L) (sz := 5) r_ApiWord_cells_eq (fun _ => rfl) hk (FW.holds_nil _) rfl rfl Go.Proofs.Try.underlying48 (by kernel_rfl) hc1) ?_; clear hk; intro a w hk
        refine FW.lfun (y := .ref (List.drop 0 (ApiWord.cells (List.getD y1.L (Int.toNat y1.I) default)))) hk rfl rfl rfl rfl (FW.f_fieldAddr hk (FW.holds_nil _) rfl Go.Proofs.Try.underlying52 rfl (by kernel_rfl) rfl) ?_; clear hk; intro a w hk
        refine FW.lfun (y := .lit (.int .i64 ((List.getD y1.L (Int.toNat y1.I) default).Kind))) hk rfl rfl rfl rfl (FW.f_load1 hk (FW.holds_nil _) rfl rfl Go.Proofs.Try.underlying3 rfl) ?_; clear hk; intro a w hk
        refine FW.lfun (y := .lit (.bool (!decide (((List.getD y1.L (Int.toNat y1.I) default).Kind) = 1)))) hk rfl rfl rfl rfl ((FW.f_pure (FW.p_neq hk.kn (FW.holds_nil _) rfl rfl))) ?_; clear hk; intro a w hk
        refine FW.lend (hK13 _ _ ?_); clear hK13 K'
        refine FW.wcondF (b := (!decide (((List.getD y1.L (Int.toNat y1.I) default).Kind) = 1))) hk h rfl (fun h hb => ?_) (fun h hb => ?_)
        · skip
          refine FW.wreg ?_; intro K' hK14
          refine FW.lfun (y := .agg ((Offshootref12State.cells (⟨y1.L, y1.I, y1.Deep, (IntKind.wrap .i64 (y1.Steps + 1)), y1.At, y1.E⟩ : Offshootref12State)))) hk rfl rfl rfl rfl (FW.f_loadBlk hk (FW.holds_nil _) (j := 2) rfl rfl Go.Proofs.Try.underlying62 rfl rfl rfl rfl) ?_; clear hk; intro a w hk
          obtain ⟨t2, hr_t2, h⟩ := FW.bnd h
          refine FW.lfun (y := .agg ((Offshootref12State.cells t2))) hk rfl rfl rfl rfl (FW.f_call hk (FW.holds_nil _) rfl rfl Go.Proofs.Try.func30 rfl (by kernel_rfl) (offshootref12_State_fail.ok (⟨y1.L, y1.I, y1.Deep, (IntKind.wrap .i64 (y1.Steps + 1)), y1.At, y1.E⟩ : Offshootref12State) 120 _ hr_t2)) ?_; clear hk; intro a w hk
          refine FW.l_store (I' := [FW.orow ad3 cap3 29 2 ApiStep.cells l3, FW.blk b2 62 ((Offshootref12State.cells t2)), FW.blk b1 62 ((Offshootref12State.cells (⟨y1.L, y1.I, y1.Deep, (IntKind.wrap .i64 (y1.Steps + 1)), y1.At, y1.E⟩ : Offshootref12State)))]) (cs' := (Offshootref12State.cells t2)) (j := 1) hk rfl rfl rfl rfl rfl (by kernel_rfl) rfl rfl ?_; clear hk; intro w hk
          refine FW.lfun (y := .row (r_ApiStep_cells [])) hk rfl rfl rfl rfl (FW.f_assignNil) ?_; clear hk; intro a w hk
          refine FW.lend (hK14 _ _ ?_); clear hK14 K'
          refine wp_ret ?_
          (repeat first | refine FW.then_ret ?_ | refine FW.block_ret ?_)
          obtain rfl := Option.some.inj h
          exact FW.fretR2 hk rfl (FW.rcell hk rfl (j := 1) rfl Go.Proofs.Try.underlying62 rfl (by kernel_rfl)) (FW.rtmp hk rfl)
        · skip
          refine wp_skip ?_
          (repeat first | refine FW.then_normal ?_ | refine FW.block_normal ?_); refine hK12 _ _ ?_
          refine FW.wreg ?_; intro K' hK15
          refine FW.lfun (y := .lit (.pointer (some ⟨b1, 0, none⟩))) hk rfl rfl rfl rfl (FW.f_fieldPtr hk (FW.holds_nil _) rfl Go.Proofs.Try.underlying62 rfl (by kernel_rfl) rfl) ?_; clear hk; intro a w hk
          refine FW.lfun (y := .row (r_ApiWord_cells y1.L)) hk rfl rfl rfl rfl (FW.f_loadBlk1 hk (FW.holds_nil _) (j := 2) rfl rfl Go.Proofs.Try.underlying48 rfl rfl) ?_; clear hk; intro a w hk
          refine FW.lfun (y := .lit (.pointer (some ⟨b1, 1, none⟩))) hk rfl rfl rfl rfl (FW.f_fieldPtr hk (FW.holds_nil _) rfl Go.Proofs.Try.underlying62 rfl (by kernel_rfl) rfl) ?_; clear hk; intro a w hk
          refine FW.lfun (y := .lit (.int .i64 y1.I)) hk rfl rfl rfl rfl (FW.f_loadBlk1 hk (FW.holds_nil _) (j := 2) rfl rfl Go.Proofs.Try.underlying3 rfl rfl) ?_; clear hk; intro a w hk
          obtain ⟨hc2, h⟩ := FW.chk h
          refine FW.lfun (y := .ref (ApiWord.cells (List.getD y1.L (Int.toNat y1.I) default))) hk rfl rfl rfl rfl (FW.f_indexAddr (R := r_ApiWord_cells) (f := ApiWord.cells) (l := y1.L) (sz := 5) r_ApiWord_cells_eq (fun _ => rfl) hk (FW.holds_nil _) rfl rfl Go.Proofs.Try.underlying48 (by kernel_rfl) hc2) ?_; clear hk; intro a w hk
          refine FW.lfun (y := .ref (List.drop 1 (ApiWord.cells (List.getD y1.L (Int.toNat y1.I) default)))) hk rfl rfl rfl rfl (FW.f_fieldAddr hk (FW.holds_nil _) rfl Go.Proofs.Try.underlying52 rfl (by kernel_rfl) rfl) ?_; clear hk; intro a w hk
          refine FW.lfun (y := .lit (.string (FW.B ((List.getD y1.L (Int.toNat y1.I) default).S)))) hk rfl rfl rfl rfl (FW.f_load1 hk (FW.holds_nil _) rfl rfl Go.Proofs.Try.underlying9 rfl) ?_; clear hk; intro a w hk
          refine FW.lfun (y := .agg ([.lit (.string (FW.B ((List.getD y1.L (Int.toNat y1.I) default).S)))] ++ [.lit (.slice none 0 0)])) hk rfl rfl rfl rfl (FW.f_buildN [1] hk (FW.holds_nil _) rfl rfl rfl) ?_; clear hk; intro a w hk
          refine FW.l_alloc (zs := (ApiStep.cells (⟨[], []⟩ : ApiStep))) [] hk rfl rfl rfl rfl ?_; clear hk; intro b4 a w hk
          refine FW.l_store (I' := [FW.blk b4 29 ([.lit (.string (FW.B ((List.getD y1.L (Int.toNat y1.I) default).S)))] ++ [.lit (.slice none 0 0)]), FW.orow ad3 cap3 29 2 ApiStep.cells l3, FW.blk b2 62 ((Offshootref12State.cells y2)), FW.blk b1 62 ((Offshootref12State.cells (⟨y1.L, y1.I, y1.Deep, (IntKind.wrap .i64 (y1.Steps + 1)), y1.At, y1.E⟩ : Offshootref12State)))]) (cs' := [.lit (.string (FW.B ((List.getD y1.L (Int.toNat y1.I) default).S)))] ++ [.lit (.slice none 0 0)]) (j := 0) hk rfl rfl rfl rfl rfl (by kernel_rfl) rfl rfl ?_; clear hk; intro w hk
          replace hk := hk.nilRow 38 11 ApiArg.cells (fun _ => rfl)
          refine FW.lend (hK15 _ _ ?_); clear hK15 K'
          refine FW.wreg ?_; intro K' hK16
          refine FW.lfun (y := .lit (.pointer (some ⟨b1, 1, none⟩))) hk rfl rfl rfl rfl (FW.f_fieldPtr hk (FW.holds_nil _) rfl Go.Proofs.Try.underlying62 rfl (by kernel_rfl) rfl) ?_; clear hk; intro a w hk
          refine FW.lfun (y := .lit (.int .i64 y1.I)) hk rfl rfl rfl rfl (FW.f_loadBlk1 hk (FW.holds_nil _) (j := 4) rfl rfl Go.Proofs.Try.underlying3 rfl rfl) ?_; clear hk; intro a w hk
          refine FW.lfun (y := .lit (.int .i64 (IntKind.wrap .i64 (y1.I + 1)))) hk rfl rfl rfl rfl ((FW.f_pure (FW.p_add hk.kn (FW.holds_nil _) rfl rfl))) ?_; clear hk; intro a w hk
          refine FW.lfun (y := .lit (.pointer (some ⟨b1, 1, none⟩))) hk rfl rfl rfl rfl (FW.f_fieldPtr hk (FW.holds_nil _) rfl Go.Proofs.Try.underlying62 rfl (by kernel_rfl) rfl) ?_; clear hk; intro a w hk
          refine FW.l_store (I' := [FW.orow none 0 38 11 ApiArg.cells ([] : List ApiArg), FW.blk b4 29 ([.lit (.string (FW.B ((List.getD y1.L (Int.toNat y1.I) default).S)))] ++ [.lit (.slice none (List.length ([] : List ApiArg)) 0)]), FW.orow ad3 cap3 29 2 ApiStep.cells l3, FW.blk b2 62 ((Offshootref12State.cells y2)), FW.blk b1 62 ((Offshootref12State.cells (⟨y1.L, (IntKind.wrap .i64 (y1.I + 1)), y1.Deep, (IntKind.wrap .i64 (y1.Steps + 1)), y1.At, y1.E⟩ : Offshootref12State)))]) (cs' := (Offshootref12State.cells (⟨y1.L, (IntKind.wrap .i64 (y1.I + 1)), y1.Deep, (IntKind.wrap .i64 (y1.Steps + 1)), y1.At, y1.E⟩ : Offshootref12State))) (j := 4) hk rfl rfl rfl rfl rfl (by kernel_rfl) rfl rfl ?_; clear hk; intro w hk
          refine FW.lend (hK16 _ _ ?_); clear hK16 K'
          refine FW.wreg ?_; intro K' hK17
          refine FW.lfun (y := .agg ((Offshootref12State.cells (⟨y1.L, (IntKind.wrap .i64 (y1.I + 1)), y1.Deep, (IntKind.wrap .i64 (y1.Steps + 1)), y1.At, y1.E⟩ : Offshootref12State)))) hk rfl rfl rfl rfl (FW.f_loadBlk hk (FW.holds_nil _) (j := 4) rfl rfl Go.Proofs.Try.underlying62 rfl rfl rfl rfl) ?_; clear hk; intro a w hk
          obtain ⟨t3, hr_t3, h⟩ := FW.bnd h
          refine FW.lfun (y := .agg ((Offshootref12State.cells t3))) hk rfl rfl rfl rfl (FW.f_call hk (FW.holds_nil _) rfl rfl Go.Proofs.Try.func28 rfl (by kernel_rfl) (offshootref12_State_sign.ok (⟨y1.L, (IntKind.wrap .i64 (y1.I + 1)), y1.Deep, (IntKind.wrap .i64 (y1.Steps + 1)), y1.At, y1.E⟩ : Offshootref12State) ([40] : List UInt8) _ hr_t3)) ?_; clear hk; intro a w hk
          refine FW.l_store (I' := [FW.orow none 0 38 11 ApiArg.cells ([] : List ApiArg), FW.blk b4 29 ([.lit (.string (FW.B ((List.getD y1.L (Int.toNat y1.I) default).S)))] ++ [.lit (.slice none (List.length ([] : List ApiArg)) 0)]), FW.orow ad3 cap3 29 2 ApiStep.cells l3, FW.blk b2 62 ((Offshootref12State.cells y2)), FW.blk b1 62 ((Offshootref12State.cells t3))]) (cs' := (Offshootref12State.cells t3)) (j := 4) hk rfl rfl rfl rfl rfl (by kernel_rfl) rfl rfl ?_; clear hk; intro w hk
          refine FW.lend (hK17 _ _ ?_); clear hK17 K'
          refine FW.wseq ?_; intro K' hK18
          refine wp_block ?_
          refine FW.wloop (T := Nat × List ApiArg × List UInt8 × List ApiStep × Offshootref12State × Offshootref12State × Option Addr × Nat × Option Addr × Nat) (fun x a w => match x with | (kl2, l5, y4_0, l3, y2, y1, ad5, cap5, ad3, cap3) => FW.S M w0 a w 95 [FW.orow ad5 cap5 38 11 ApiArg.cells l5, FW.blk b4 29 ([.lit (.string (FW.B y4_0))] ++ [.lit (.slice ad5 (List.length l5) cap5)]), FW.orow ad3 cap3 29 2 ApiStep.cells l3, FW.blk b2 62 ((Offshootref12State.cells y2)), FW.blk b1 62 ((Offshootref12State.cells y1))] [(1, [], .lit (.pointer (some ⟨b1, 0, none⟩))), (2, [], .lit (.pointer (some ⟨b2, 0, none⟩))), (4, [], .lit (.slice ad3 (List.length l3) cap3)), (5, [], .lit (.pointer (some ⟨b4, 0, none⟩)))] ∧ offshootref12_State_steps.l2 s_offshootref12_State_steps s_offshootref12_State_arg (offshootref12_State_steps.l1 s_offshootref12_State_steps s_offshootref12_State_arg K kl1) K kl2 l5 y4_0 l3 y2 y1 = some r) (fun x => x.1) (K, ([] : List ApiArg), (List.getD y1.L (Int.toNat y1.I) default).S, l3, y2, t3, none, 0, ad3, cap3) ⟨hk.sub ⟨rfl, rfl, rfl, rfl, trivial⟩, h⟩ ?_
          clear hk h
          rintro ⟨kl2, l5, y4_0, l3, y2, y1, ad5, cap5, ad3, cap3⟩ a w ⟨hk, h⟩ K' hK19
          cases kl2 with
          | zero => simp [offshootref12_State_steps.l2] at h
          | succ kl2 =>
          rw [offshootref12_State_steps.l2.eq_2] at h
          refine FW.wseq ?_; intro K' hK20
          refine FW.wreg ?_; intro K' hK21
          refine FW.lfun (y := .lit (.pointer (some ⟨b1, 5, none⟩))) hk rfl rfl rfl rfl (FW.f_fieldPtr hk (FW.holds_nil _) rfl Go.Proofs.Try.underlying62 rfl (by kernel_rfl) rfl) ?_; clear hk; intro a w hk
          refine FW.lfun (y := .lit (.int .i64 y1.E)) hk rfl rfl rfl rfl (FW.f_loadBlk1 hk (FW.holds_nil _) (j := 4) rfl rfl Go.Proofs.Try.underlying23 rfl rfl) ?_; clear hk; intro a w hk
          refine FW.lfun (y := .lit (.bool (decide (y1.E = 0)))) hk rfl rfl rfl rfl ((FW.f_pure (FW.p_eql hk.kn (FW.holds_nil _) rfl rfl))) ?_; clear hk; intro a w hk
          refine FW.lfun (y := .lit (.bool (decide (y1.E = 0)))) hk rfl rfl rfl rfl (FW.f_move hk (FW.holds_nil _) rfl) ?_; clear hk; intro a w hk
          refine FW.lfunG (y := .agg ((Offshootref12State.cells y1))) hk rfl rfl rfl rfl rfl rfl rfl rfl (fun hc => FW.f_loadBlk hk hc (j := 4) rfl rfl Go.Proofs.Try.underlying62 rfl rfl rfl rfl) ?_; clear hk; intro a w hk
          obtain ⟨t4, hr_t4, h⟩ := FW.bndG h
          refine FW.lfunG (y := .lit (.bool t4)) hk rfl rfl rfl rfl rfl rfl rfl rfl (fun hc => FW.f_call hk hc rfl rfl Go.Proofs.Try.func48 rfl (by kernel_rfl) (offshootref12_State_is.ok y1 ([41] : List UInt8) _ (hr_t4 (FW.asm_out (p := (decide (y1.E = 0)) = true) hk.kn hc (fun e0 => e0))))) ?_; clear hk; intro a w hk
          refine FW.lfunG (y := .lit (.bool (!t4))) hk rfl rfl rfl rfl rfl rfl rfl rfl (fun hc => (FW.f_pure (FW.p_not hk.kn hc rfl))) ?_; clear hk; intro a w hk
          refine FW.lfun (y := .lit (.bool ((decide (y1.E = 0)) && (!t4)))) hk rfl rfl rfl rfl ((FW.f_pure (FW.p_pick_and hk.kn (FW.holds_nil _) rfl rfl))) ?_; clear hk; intro a w hk
          refine FW.lend (hK21 _ _ ?_); clear hK21 K'
          refine FW.wcondF (b := ((decide (y1.E = 0)) && (!t4))) hk h rfl (fun h hb => ?_) (fun h hb => ?_)
          · skip
            refine wp_skip ?_
            (repeat first | refine FW.then_normal ?_ | refine FW.block_normal ?_); refine hK20 _ _ ?_
            refine wp_block ?_
            refine FW.wseqJ (fun a w => ∃ (l5 : List ApiArg) (y4_0 : List UInt8) (l3 : List ApiStep) (y2 : Offshootref12State) (y1 : Offshootref12State) (ad5 : Option Addr) (cap5 : Nat) (ad3 : Option Addr) (cap3 : Nat), FW.S M w0 a w 95 [FW.orow ad5 cap5 38 11 ApiArg.cells l5, FW.blk b4 29 ([.lit (.string (FW.B y4_0))] ++ [.lit (.slice ad5 (List.length l5) cap5)]), FW.orow ad3 cap3 29 2 ApiStep.cells l3, FW.blk b2 62 ((Offshootref12State.cells y2)), FW.blk b1 62 ((Offshootref12State.cells y1))] [(1, [], .lit (.pointer (some ⟨b1, 0, none⟩))), (2, [], .lit (.pointer (some ⟨b2, 0, none⟩))), (4, [], .lit (.slice ad3 (List.length l3) cap3)), (5, [], .lit (.pointer (some ⟨b4, 0, none⟩)))] ∧ offshootref12_State_steps.j2 s_offshootref12_State_steps s_offshootref12_State_arg (offshootref12_State_steps.l1 s_offshootref12_State_steps s_offshootref12_State_arg K kl1) (offshootref12_State_steps.l2 s_offshootref12_State_steps s_offshootref12_State_arg (offshootref12_State_steps.l1 s_offshootref12_State_steps s_offshootref12_State_arg K kl1) K kl2) K l5 y4_0 l3 y2 y1 = some r) ?_ ?_
            · clear hk h
              rintro a w ⟨l5, y4_0, l3, y2, y1, ad5, cap5, ad3, cap3, hk, h⟩
              unfold offshootref12_State_steps.j2 at h
              refine FW.wseqJ (fun a w => ∃ (l5 : List ApiArg) (y4_0 : List UInt8) (l3 : List ApiStep) (y2 : Offshootref12State) (y1 : Offshootref12State) (ad5 : Option Addr) (cap5 : Nat) (ad3 : Option Addr) (cap3 : Nat), FW.S M w0 a w 95 [FW.orow ad5 cap5 38 11 ApiArg.cells l5, FW.blk b4 29 ([.lit (.string (FW.B y4_0))] ++ [.lit (.slice ad5 (List.length l5) cap5)]), FW.orow ad3 cap3 29 2 ApiStep.cells l3, FW.blk b2 62 ((Offshootref12State.cells y2)), FW.blk b1 62 ((Offshootref12State.cells y1))] [(1, [], .lit (.pointer (some ⟨b1, 0, none⟩))), (2, [], .lit (.pointer (some ⟨b2, 0, none⟩))), (4, [], .lit (.slice ad3 (List.length l3) cap3)), (5, [], .lit (.pointer (some ⟨b4, 0, none⟩)))] ∧ offshootref12_State_steps.j3 s_offshootref12_State_steps s_offshootref12_State_arg (offshootref12_State_steps.l1 s_offshootref12_State_steps s_offshootref12_State_arg K kl1) (offshootref12_State_steps.l2 s_offshootref12_State_steps s_offshootref12_State_arg (offshootref12_State_steps.l1 s_offshootref12_State_steps s_offshootref12_State_arg K kl1) K kl2) K l5 y4_0 l3 y2 y1 = some r) ?_ ?_
              · clear hk h
                rintro a w ⟨l5, y4_0, l3, y2, y1, ad5, cap5, ad3, cap3, hk, h⟩
                unfold offshootref12_State_steps.j3 at h
                refine FW.wreg ?_; intro K' hK24
                refine FW.lfun (y := .lit (.pointer (some ⟨b1, 5, none⟩))) hk rfl rfl rfl rfl (FW.f_fieldPtr hk (FW.holds_nil _) rfl Go.Proofs.Try.underlying62 rfl (by kernel_rfl) rfl) ?_; clear hk; intro a w hk
                refine FW.lfun (y := .lit (.int .i64 y1.E)) hk rfl rfl rfl rfl (FW.f_loadBlk1 hk (FW.holds_nil _) (j := 4) rfl rfl Go.Proofs.Try.underlying23 rfl rfl) ?_; clear hk; intro a w hk
                refine FW.lfun (y := .lit (.bool (decide (y1.E = 0)))) hk rfl rfl rfl rfl ((FW.f_pure (FW.p_eql hk.kn (FW.holds_nil _) rfl rfl))) ?_; clear hk; intro a w hk
                refine FW.lend (hK24 _ _ ?_); clear hK24 K'
                refine FW.wcondF (b := (decide (y1.E = 0))) hk h rfl (fun h hb => ?_) (fun h hb => ?_)
                · skip
                  refine FW.wreg ?_; intro K' hK25
                  refine FW.lfun (y := .agg ((Offshootref12State.cells y1))) hk rfl rfl rfl rfl (FW.f_loadBlk hk (FW.holds_nil _) (j := 4) rfl rfl Go.Proofs.Try.underlying62 rfl rfl rfl rfl) ?_; clear hk; intro a w hk
                  obtain ⟨t5, hr_t5, h⟩ := FW.bnd h
                  refine FW.lfun (y := .tup [.agg ((Offshootref12State.cells t5.1)), .agg ((ApiArg.cells t5.2))]) hk rfl rfl rfl rfl (FW.f_call hk (FW.holds_nil _) rfl rfl Go.Proofs.Try.func49 rfl (by kernel_rfl) (hs_offshootref12_State_arg y1 _ hr_t5)) ?_; clear hk; intro a w hk
                  refine FW.lfun (y := .tup [.agg ((Offshootref12State.cells t5.1)), .agg ((ApiArg.cells t5.2))]) hk rfl rfl rfl rfl (FW.f_move hk (FW.holds_nil _) rfl) ?_; clear hk; intro a w hk
                  refine FW.lfun (y := .agg ((Offshootref12State.cells t5.1))) hk rfl rfl rfl rfl (FW.f_extract hk (FW.holds_nil _) rfl rfl) ?_; clear hk; intro a w hk
                  refine FW.lfun (y := .agg ((ApiArg.cells t5.2))) hk rfl rfl rfl rfl (FW.f_extract hk (FW.holds_nil _) rfl rfl) ?_; clear hk; intro a w hk
                  refine FW.l_alloc (zs := (Offshootref12State.cells (⟨[], 0, 0, 0, 0, 0⟩ : Offshootref12State))) [] hk rfl rfl rfl rfl ?_; clear hk; intro b5 a w hk
                  refine FW.l_alloc (zs := (ApiArg.cells (⟨0, (⟨0, false, 0, 0, [], []⟩ : ApiValue), (⟨[], [], []⟩ : ApiPred), []⟩ : ApiArg))) [] hk rfl rfl rfl rfl ?_; clear hk; intro b6 a w hk
                  refine FW.l_store (I' := [FW.blk b6 38 ((ApiArg.cells (⟨0, (⟨0, false, 0, 0, [], []⟩ : ApiValue), (⟨[], [], []⟩ : ApiPred), []⟩ : ApiArg))), FW.blk b5 62 ((Offshootref12State.cells t5.1)), FW.orow ad5 cap5 38 11 ApiArg.cells l5, FW.blk b4 29 ([.lit (.string (FW.B y4_0))] ++ [.lit (.slice ad5 (List.length l5) cap5)]), FW.orow ad3 cap3 29 2 ApiStep.cells l3, FW.blk b2 62 ((Offshootref12State.cells y2)), FW.blk b1 62 ((Offshootref12State.cells y1))]) (cs' := (Offshootref12State.cells t5.1)) (j := 1) hk rfl rfl rfl rfl rfl (by kernel_rfl) rfl rfl ?_; clear hk; intro w hk
                  refine FW.l_store (I' := [FW.blk b6 38 ((ApiArg.cells t5.2)), FW.blk b5 62 ((Offshootref12State.cells t5.1)), FW.orow ad5 cap5 38 11 ApiArg.cells l5, FW.blk b4 29 ([.lit (.string (FW.B y4_0))] ++ [.lit (.slice ad5 (List.length l5) cap5)]), FW.orow ad3 cap3 29 2 ApiStep.cells l3, FW.blk b2 62 ((Offshootref12State.cells y2)), FW.blk b1 62 ((Offshootref12State.cells y1))]) (cs' := (ApiArg.cells t5.2)) (j := 0) hk rfl rfl rfl rfl rfl (by kernel_rfl) rfl rfl ?_; clear hk; intro w hk
                  refine FW.lend (hK25 _ _ ?_); clear hK25 K'
                  obtain ⟨hc3, h⟩ := FW.chk h
                  refine FW.wdrawE1 (need := [false, false, false, false, false, false, false, false, false]) [(4, [true, true, true, true, false, false, false, false, false], [true, true, true, true, false, false, false, false, false]), (5, [true, true, true, false, false, false, false, false, false], [true, true, true, true, true, false, false, false, false]), (6, [true, false, false, false, false, false, false, false, false], [true, true, true, true, true, true, false, false, false]), (8, [false, false, false, false, false, false, false, true, false], [true, true, true, true, true, true, true, true, false])] [(73, [], .agg ((Offshootref12State.cells t5.1))), (74, [], .lit (.pointer (some ⟨b4, 1, none⟩))), (75, [], .lit (.slice ad5 (List.length l5) cap5)), (76, [], .agg ((ApiArg.cells t5.2))), (77, [], .agg []), (78, [], .agg []), (95, [], .lit undef), (79, [], .agg []), (95, [], .lit undef)] (by kernel_rfl) (by kernel_rfl) (by kernel_rfl) (by kernel_rfl) hk ?_; clear hk
                  refine FW.gnext ?_ rfl rfl rfl rfl rfl ?_
                  · skip
                    refine FW.gfun (y := .agg ((Offshootref12State.cells t5.1))) rfl rfl rfl rfl (fun a w hk => FW.f_loadBlk hk (FW.holds_nil _) (j := 1) rfl rfl Go.Proofs.Try.underlying62 rfl rfl rfl rfl) ?_
                    refine FW.gfun (y := .lit (.pointer (some ⟨b4, 1, none⟩))) rfl rfl rfl rfl (fun a w hk => FW.f_fieldPtr hk (FW.holds_nil _) rfl Go.Proofs.Try.underlying29 rfl (by kernel_rfl) rfl) ?_
                    refine FW.gfun (y := .lit (.slice ad5 (List.length l5) cap5)) rfl rfl rfl rfl (fun a w hk => FW.f_loadBlk1 hk (FW.holds_nil _) (j := 3) rfl rfl Go.Proofs.Try.underlying27 rfl rfl) ?_
                    refine FW.gfun (y := .agg ((ApiArg.cells t5.2))) rfl rfl rfl rfl (fun a w hk => FW.f_loadBlk hk (FW.holds_nil _) (j := 0) rfl rfl Go.Proofs.Try.underlying38 rfl rfl rfl rfl) ?_
                    refine FW.gskip rfl rfl ?_
                    refine FW.gskip rfl rfl ?_
                    refine FW.gskip0 rfl ?_
                    refine FW.gskip rfl rfl ?_
                    refine FW.gskip0 rfl ?_
                    exact FW.gend
                  · skip
                    intro σD a w opsD QD hk hf hQ
                    refine FW.l_buildSlice (f := ApiArg.cells) (l := ([t5.2] : List ApiArg)) hk rfl hf rfl Go.Proofs.Try.underlying27 rfl rfl rfl rfl (fun _ => rfl) rfl ?_; clear hk; intro b7 a w hk
                    refine hQ _ _ a w ?_ hk; clear hk hQ hf
                    refine ⟨[(73, [], .agg ((Offshootref12State.cells t5.1))), (74, [], .lit (.pointer (some ⟨b4, 1, none⟩))), (75, [], .lit (.slice ad5 (List.length l5) cap5)), (76, [], .agg ((ApiArg.cells t5.2))), (77, [], .lit (.slice (some ⟨b7, 0, none⟩) (List.length ([t5.2] : List ApiArg)) 1)), (78, [], .agg []), (95, [], .lit undef), (79, [], .agg []), (95, [], .lit undef)], And.intro rfl (And.intro rfl (And.intro rfl (And.intro rfl (trivial)))), rfl, ?_⟩
                    refine FW.gnext ?_ rfl rfl rfl rfl rfl ?_
                    · skip
                      refine FW.gfun (y := .agg ((Offshootref12State.cells t5.1))) rfl rfl rfl rfl (fun a w hk => FW.f_loadBlk hk (FW.holds_nil _) (j := 2) rfl rfl Go.Proofs.Try.underlying62 rfl rfl rfl rfl) ?_
                      refine FW.gfun (y := .lit (.pointer (some ⟨b4, 1, none⟩))) rfl rfl rfl rfl (fun a w hk => FW.f_fieldPtr hk (FW.holds_nil _) rfl Go.Proofs.Try.underlying29 rfl (by kernel_rfl) rfl) ?_
                      refine FW.gfun (y := .lit (.slice ad5 (List.length l5) cap5)) rfl rfl rfl rfl (fun a w hk => FW.f_loadBlk1 hk (FW.holds_nil _) (j := 4) rfl rfl Go.Proofs.Try.underlying27 rfl rfl) ?_
                      refine FW.gskip rfl rfl ?_
                      refine FW.gskip rfl rfl ?_
                      refine FW.gskip rfl rfl ?_
                      refine FW.gskip0 rfl ?_
                      refine FW.gskip rfl rfl ?_
                      refine FW.gskip0 rfl ?_
                      exact FW.gend
                    · skip
                      intro σD a w opsD QD hk hf hQ
                      refine FW.l_append (l2 := ([t5.2] : List ApiArg)) (l3 := (l5 ++ ([t5.2] : List ApiArg))) (I' := fun ad1 cap1 => [FW.orow (some ⟨b7, 0, none⟩) 1 38 11 ApiArg.cells ([t5.2] : List ApiArg), FW.blk b6 38 ((ApiArg.cells t5.2)), FW.blk b5 62 ((Offshootref12State.cells t5.1)), FW.orow ad1 cap1 38 11 ApiArg.cells (l5 ++ ([t5.2] : List ApiArg)), FW.blk b4 29 ([.lit (.string (FW.B y4_0))] ++ [.lit (.slice ad5 (List.length l5) cap5)]), FW.orow ad3 cap3 29 2 ApiStep.cells l3, FW.blk b2 62 ((Offshootref12State.cells y2)), FW.blk b1 62 ((Offshootref12State.cells y1))]) (j := 3) hk rfl rfl hf rfl (FW.own_src hk (j := 0) rfl rfl (fun _ => rfl) Go.Proofs.Try.underlying27) Go.Proofs.Try.underlying27 (by kernel_rfl) hc3 rfl (fun _ _ => rfl) ?_; clear hk; intro ad1 cap1 a w hk
                      replace hk := FW.S.dropI (I' := [FW.blk b6 38 ((ApiArg.cells t5.2)), FW.blk b5 62 ((Offshootref12State.cells t5.1)), FW.orow ad1 cap1 38 11 ApiArg.cells (l5 ++ ([t5.2] : List ApiArg)), FW.blk b4 29 ([.lit (.string (FW.B y4_0))] ++ [.lit (.slice ad5 (List.length l5) cap5)]), FW.orow ad3 cap3 29 2 ApiStep.cells l3, FW.blk b2 62 ((Offshootref12State.cells y2)), FW.blk b1 62 ((Offshootref12State.cells y1))]) hk 0 rfl
                      refine hQ _ _ a w ?_ hk; clear hk hQ hf
                      refine ⟨[(73, [], .agg ((Offshootref12State.cells t5.1))), (74, [], .lit (.pointer (some ⟨b4, 1, none⟩))), (75, [], .lit (.slice ad5 (List.length l5) cap5)), (76, [], .agg ((ApiArg.cells t5.2))), (77, [], .lit (.slice (some ⟨b7, 0, none⟩) (List.length ([t5.2] : List ApiArg)) 1)), (78, [], .lit (.slice ad1 (List.length (l5 ++ ([t5.2] : List ApiArg))) cap1)), (95, [], .lit undef), (79, [], .agg []), (95, [], .lit undef)], And.intro rfl (And.intro rfl (And.intro rfl (And.intro rfl (And.intro rfl (trivial))))), rfl, ?_⟩
                      refine FW.gnext0 ?_ rfl rfl rfl ?_
                      · skip
                        refine FW.gfun (y := .agg ((Offshootref12State.cells t5.1))) rfl rfl rfl rfl (fun a w hk => FW.f_loadBlk hk (FW.holds_nil _) (j := 1) rfl rfl Go.Proofs.Try.underlying62 rfl rfl rfl rfl) ?_
                        refine FW.gskip rfl rfl ?_
                        refine FW.gskip rfl rfl ?_
                        refine FW.gskip rfl rfl ?_
                        refine FW.gskip rfl rfl ?_
                        refine FW.gskip rfl rfl ?_
                        refine FW.gskip0 rfl ?_
                        refine FW.gskip rfl rfl ?_
                        refine FW.gskip0 rfl ?_
                        exact FW.gend
                      · skip
                        intro σD a w opsD QD hk hQ
                        refine FW.l_store (I' := [FW.blk b6 38 ((ApiArg.cells t5.2)), FW.blk b5 62 ((Offshootref12State.cells t5.1)), FW.orow ad1 cap1 38 11 ApiArg.cells (l5 ++ ([t5.2] : List ApiArg)), FW.blk b4 29 ([.lit (.string (FW.B y4_0))] ++ [.lit (.slice ad5 (List.length l5) cap5)]), FW.orow ad3 cap3 29 2 ApiStep.cells l3, FW.blk b2 62 ((Offshootref12State.cells y2)), FW.blk b1 62 ((Offshootref12State.cells t5.1))]) (cs' := (Offshootref12State.cells t5.1)) (j := 6) hk rfl rfl rfl rfl rfl (by kernel_rfl) rfl rfl ?_; clear hk; intro w hk
                        refine hQ _ a w ?_ hk; clear hk hQ
                        refine ⟨[(73, [], .agg ((Offshootref12State.cells t5.1))), (74, [], .lit (.pointer (some ⟨b4, 1, none⟩))), (75, [], .lit (.slice ad5 (List.length l5) cap5)), (76, [], .agg ((ApiArg.cells t5.2))), (77, [], .lit (.slice (some ⟨b7, 0, none⟩) (List.length ([t5.2] : List ApiArg)) 1)), (78, [], .lit (.slice ad1 (List.length (l5 ++ ([t5.2] : List ApiArg))) cap1)), (95, [], .lit undef), (79, [], .lit (.pointer (some ⟨b4, 1, none⟩))), (95, [], .lit undef)], And.intro rfl (And.intro rfl (And.intro rfl (And.intro rfl (And.intro rfl (And.intro rfl (trivial)))))), rfl, ?_⟩
                        refine FW.gnext0 ?_ rfl rfl rfl ?_
                        · skip
                          refine FW.gskip rfl rfl ?_
                          refine FW.gskip rfl rfl ?_
                          refine FW.gskip rfl rfl ?_
                          refine FW.gskip rfl rfl ?_
                          refine FW.gskip rfl rfl ?_
                          refine FW.gskip rfl rfl ?_
                          refine FW.gskip0 rfl ?_
                          refine FW.gfun (y := .lit (.pointer (some ⟨b4, 1, none⟩))) rfl rfl rfl rfl (fun a w hk => FW.f_fieldPtr hk (FW.holds_nil _) rfl Go.Proofs.Try.underlying29 rfl (by kernel_rfl) rfl) ?_
                          refine FW.gskip0 rfl ?_
                          exact FW.gend
                        · skip
                          intro σD a w opsD QD hk hQ
                          refine FW.l_store (I' := [FW.blk b6 38 ((ApiArg.cells t5.2)), FW.blk b5 62 ((Offshootref12State.cells t5.1)), FW.orow ad1 cap1 38 11 ApiArg.cells (l5 ++ ([t5.2] : List ApiArg)), FW.blk b4 29 ([.lit (.string (FW.B y4_0))] ++ [.lit (.slice ad1 (List.length (l5 ++ ([t5.2] : List ApiArg))) cap1)]), FW.orow ad3 cap3 29 2 ApiStep.cells l3, FW.blk b2 62 ((Offshootref12State.cells y2)), FW.blk b1 62 ((Offshootref12State.cells t5.1))]) (cs' := [.lit (.string (FW.B y4_0))] ++ [.lit (.slice ad1 (List.length (l5 ++ ([t5.2] : List ApiArg))) cap1)]) (j := 3) hk rfl rfl rfl rfl rfl (by kernel_rfl) rfl rfl ?_; clear hk; intro w hk
                          refine hQ _ a w ?_ hk; clear hk hQ
                          refine ⟨[(73, [], .agg ((Offshootref12State.cells t5.1))), (74, [], .lit (.pointer (some ⟨b4, 1, none⟩))), (75, [], .lit (.slice ad5 (List.length l5) cap5)), (76, [], .agg ((ApiArg.cells t5.2))), (77, [], .lit (.slice (some ⟨b7, 0, none⟩) (List.length ([t5.2] : List ApiArg)) 1)), (78, [], .lit (.slice ad1 (List.length (l5 ++ ([t5.2] : List ApiArg))) cap1)), (95, [], .lit undef), (79, [], .lit (.pointer (some ⟨b4, 1, none⟩))), (95, [], .lit undef)], And.intro rfl (And.intro rfl (And.intro rfl (And.intro rfl (And.intro rfl (And.intro rfl (And.intro rfl (And.intro rfl (trivial)))))))), rfl, ?_⟩
                          refine FW.glast ?_ ?_
                          · skip
                            refine FW.gskip rfl rfl ?_
                            refine FW.gskip rfl rfl ?_
                            refine FW.gskip rfl rfl ?_
                            refine FW.gskip rfl rfl ?_
                            refine FW.gskip rfl rfl ?_
                            refine FW.gskip rfl rfl ?_
                            refine FW.gskip0 rfl ?_
                            refine FW.gskip rfl rfl ?_
                            refine FW.gskip0 rfl ?_
                            exact FW.gend
                          · skip
                            intro a w hk; simp only [FW.stD, cond_true] at hk
                            (repeat first | refine FW.then_normal ?_ | refine FW.block_normal ?_); exact hK19 (kl2, (l5 ++ ([t5.2] : List ApiArg)), y4_0, l3, y2, t5.1, ad1, cap1, ad3, cap3) _ _ (Nat.lt_succ_self _) ⟨((hk.drop 1).drop 0).sub ⟨rfl, rfl, rfl, rfl, trivial⟩, h⟩
                · skip
                  refine wp_skip ?_
                  (repeat first | refine FW.then_normal ?_ | refine FW.block_normal ?_); exact hK19 (kl2, l5, y4_0, l3, y2, y1, ad5, cap5, ad3, cap3) _ _ (Nat.lt_succ_self _) ⟨hk.sub ⟨rfl, rfl, rfl, rfl, trivial⟩, h⟩
              · intro K' hK23
                refine FW.wreg ?_; intro K' hK27
                refine FW.lfun (y := .lit (.pointer (some ⟨b4, 1, none⟩))) hk rfl rfl rfl rfl (FW.f_fieldPtr hk (FW.holds_nil _) rfl Go.Proofs.Try.underlying29 rfl (by kernel_rfl) rfl) ?_; clear hk; intro a w hk
                refine FW.lfun (y := .lit (.slice ad5 (List.length l5) cap5)) hk rfl rfl rfl rfl (FW.f_loadBlk1 hk (FW.holds_nil _) (j := 1) rfl rfl Go.Proofs.Try.underlying27 rfl rfl) ?_; clear hk; intro a w hk
                refine FW.lfun (y := .lit (.int .i64 (List.length l5 : Int))) hk rfl rfl rfl rfl ((FW.f_pure (FW.p_len Go.Proofs.Try.underlying27 hk.kn (FW.holds_nil _) rfl))) ?_; clear hk; intro a w hk
                refine FW.lfun (y := .lit (.bool (decide (12 ≤ (List.length l5 : Int))))) hk rfl rfl rfl rfl ((FW.f_pure (FW.p_geq hk.kn (FW.holds_nil _) rfl rfl))) ?_; clear hk; intro a w hk
                refine FW.lend (hK27 _ _ ?_); clear hK27 K'
                refine FW.wcondF (b := (decide (12 ≤ (List.length l5 : Int)))) hk h rfl (fun h hb => ?_) (fun h hb => ?_)
                · skip
                  refine FW.wreg1 ?_
                  refine FW.lfun (y := .agg ((Offshootref12State.cells y1))) hk rfl rfl rfl rfl (FW.f_loadBlk hk (FW.holds_nil _) (j := 4) rfl rfl Go.Proofs.Try.underlying62 rfl rfl rfl rfl) ?_; clear hk; intro a w hk
                  obtain ⟨t6, hr_t6, h⟩ := FW.bnd h
                  refine FW.lfun (y := .agg ((Offshootref12State.cells t6))) hk rfl rfl rfl rfl (FW.f_call hk (FW.holds_nil _) rfl rfl Go.Proofs.Try.func30 rfl (by kernel_rfl) (offshootref12_State_fail.ok y1 3 _ hr_t6)) ?_; clear hk; intro a w hk
                  refine FW.l_store (I' := [FW.orow ad5 cap5 38 11 ApiArg.cells l5, FW.blk b4 29 ([.lit (.string (FW.B y4_0))] ++ [.lit (.slice ad5 (List.length l5) cap5)]), FW.orow ad3 cap3 29 2 ApiStep.cells l3, FW.blk b2 62 ((Offshootref12State.cells y2)), FW.blk b1 62 ((Offshootref12State.cells t6))]) (cs' := (Offshootref12State.cells t6)) (j := 4) hk rfl rfl rfl rfl rfl (by kernel_rfl) rfl rfl ?_; clear hk; intro w hk
                  refine wpList_nil ?_
                  (repeat first | refine FW.then_normal ?_ | refine FW.block_normal ?_); exact hK23 _ _ ⟨l5, y4_0, l3, y2, t6, ad5, cap5, ad3, cap3, hk.sub ⟨rfl, rfl, rfl, rfl, trivial⟩, h⟩
                · skip
                  refine wp_skip ?_
                  (repeat first | refine FW.then_normal ?_ | refine FW.block_normal ?_); exact hK23 _ _ ⟨l5, y4_0, l3, y2, y1, ad5, cap5, ad3, cap3, hk.sub ⟨rfl, rfl, rfl, rfl, trivial⟩, h⟩
            · intro K' hK22
              refine FW.wreg ?_; intro K' hK29
              refine FW.lfun (y := .lit (.pointer (some ⟨b4, 1, none⟩))) hk rfl rfl rfl rfl (FW.f_fieldPtr hk (FW.holds_nil _) rfl Go.Proofs.Try.underlying29 rfl (by kernel_rfl) rfl) ?_; clear hk; intro a w hk
              refine FW.lfun (y := .lit (.slice ad5 (List.length l5) cap5)) hk rfl rfl rfl rfl (FW.f_loadBlk1 hk (FW.holds_nil _) (j := 1) rfl rfl Go.Proofs.Try.underlying27 rfl rfl) ?_; clear hk; intro a w hk
              refine FW.lfun (y := .lit (.int .i64 (List.length l5 : Int))) hk rfl rfl rfl rfl ((FW.f_pure (FW.p_len Go.Proofs.Try.underlying27 hk.kn (FW.holds_nil _) rfl))) ?_; clear hk; intro a w hk
              refine FW.lfun (y := .lit (.bool (decide (0 < (List.length l5 : Int))))) hk rfl rfl rfl rfl ((FW.f_pure (FW.p_gtr hk.kn (FW.holds_nil _) rfl rfl))) ?_; clear hk; intro a w hk
              refine FW.lend (hK29 _ _ ?_); clear hK29 K'
              refine FW.wcondF (b := (decide (0 < (List.length l5 : Int)))) hk h rfl (fun h hb => ?_) (fun h hb => ?_)
              · skip
                refine FW.wreg1 ?_
                refine FW.lfun (y := .agg ((Offshootref12State.cells y1))) hk rfl rfl rfl rfl (FW.f_loadBlk hk (FW.holds_nil _) (j := 4) rfl rfl Go.Proofs.Try.underlying62 rfl rfl rfl rfl) ?_; clear hk; intro a w hk
                obtain ⟨t7, hr_t7, h⟩ := FW.bnd h
                refine FW.lfun (y := .agg ((Offshootref12State.cells t7))) hk rfl rfl rfl rfl (FW.f_call hk (FW.holds_nil _) rfl rfl Go.Proofs.Try.func28 rfl (by kernel_rfl) (offshootref12_State_sign.ok y1 ([44] : List UInt8) _ hr_t7)) ?_; clear hk; intro a w hk
                refine FW.l_store (I' := [FW.orow ad5 cap5 38 11 ApiArg.cells l5, FW.blk b4 29 ([.lit (.string (FW.B y4_0))] ++ [.lit (.slice ad5 (List.length l5) cap5)]), FW.orow ad3 cap3 29 2 ApiStep.cells l3, FW.blk b2 62 ((Offshootref12State.cells y2)), FW.blk b1 62 ((Offshootref12State.cells t7))]) (cs' := (Offshootref12State.cells t7)) (j := 4) hk rfl rfl rfl rfl rfl (by kernel_rfl) rfl rfl ?_; clear hk; intro w hk
                refine wpList_nil ?_
                (repeat first | refine FW.then_normal ?_ | refine FW.block_normal ?_); exact hK22 _ _ ⟨l5, y4_0, l3, y2, t7, ad5, cap5, ad3, cap3, hk.sub ⟨rfl, rfl, rfl, rfl, trivial⟩, h⟩
              · skip
                refine wp_skip ?_
                (repeat first | refine FW.then_normal ?_ | refine FW.block_normal ?_); exact hK22 _ _ ⟨l5, y4_0, l3, y2, y1, ad5, cap5, ad3, cap3, hk.sub ⟨rfl, rfl, rfl, rfl, trivial⟩, h⟩
          · skip
            refine wp_exit ?_; (repeat first | refine FW.then_exit ?_ | refine FW.block_exit_ne rfl ?_); refine FW.block_exit ?_
            (repeat first | refine FW.then_normal ?_ | refine FW.block_normal ?_); refine hK18 _ _ ?_
            refine FW.wreg ?_; intro K' hK31
            refine FW.lfun (y := .agg ((Offshootref12State.cells y1))) hk rfl rfl rfl rfl (FW.f_loadBlk hk (FW.holds_nil _) (j := 4) rfl rfl Go.Proofs.Try.underlying62 rfl rfl rfl rfl) ?_; clear hk; intro a w hk
            obtain ⟨t8, hr_t8, h⟩ := FW.bnd h
            refine FW.lfun (y := .agg ((Offshootref12State.cells t8))) hk rfl rfl rfl rfl (FW.f_call hk (FW.holds_nil _) rfl rfl Go.Proofs.Try.func28 rfl (by kernel_rfl) (offshootref12_State_sign.ok y1 ([41] : List UInt8) _ hr_t8)) ?_; clear hk; intro a w hk
            refine FW.l_store (I' := [FW.orow ad5 cap5 38 11 ApiArg.cells l5, FW.blk b4 29 ([.lit (.string (FW.B y4_0))] ++ [.lit (.slice ad5 (List.length l5) cap5)]), FW.orow ad3 cap3 29 2 ApiStep.cells l3, FW.blk b2 62 ((Offshootref12State.cells y2)), FW.blk b1 62 ((Offshootref12State.cells t8))]) (cs' := (Offshootref12State.cells t8)) (j := 4) hk rfl rfl rfl rfl rfl (by kernel_rfl) rfl rfl ?_; clear hk; intro w hk
            refine FW.lend (hK31 _ _ ?_); clear hK31 K'
            refine FW.wreg ?_; intro K' hK32
            refine FW.lfun (y := .lit (.slice ad3 (List.length l3) cap3)) hk rfl rfl rfl rfl (FW.f_move hk (FW.holds_nil _) rfl) ?_; clear hk; intro a w hk
            replace hk := FW.S.freezeBlk (I1 := [FW.blk b4 29 ([.lit (.string (FW.B y4_0))] ++ [.lit (.slice ad5 (List.length l5) cap5)]), FW.orow ad3 cap3 29 2 ApiStep.cells l3, FW.blk b2 62 ((Offshootref12State.cells y2)), FW.blk b1 62 ((Offshootref12State.cells t8))]) (cs' := (ApiStep.cells (⟨y4_0, l5⟩ : ApiStep))) (I' := [FW.blk b4 29 ((ApiStep.cells (⟨y4_0, l5⟩ : ApiStep))), FW.orow ad3 cap3 29 2 ApiStep.cells l3, FW.blk b2 62 ((Offshootref12State.cells y2)), FW.blk b1 62 ((Offshootref12State.cells t8))]) r_ApiArg_cells_eq hk 0 0 1 rfl rfl rfl rfl rfl rfl
            refine FW.lfun (y := .agg ((ApiStep.cells (⟨y4_0, l5⟩ : ApiStep)))) hk rfl rfl rfl rfl (FW.f_loadBlk hk (FW.holds_nil _) (j := 0) rfl rfl Go.Proofs.Try.underlying29 rfl rfl rfl rfl) ?_; clear hk; intro a w hk
            refine FW.l_buildSlice (f := ApiStep.cells) (l := ([(⟨y4_0, l5⟩ : ApiStep)] : List ApiStep)) hk rfl rfl rfl Go.Proofs.Try.underlying22 rfl rfl rfl rfl (fun _ => rfl) rfl ?_; clear hk; intro b8 a w hk
            obtain ⟨hc4, h⟩ := FW.chk h
            refine FW.l_append (l2 := ([(⟨y4_0, l5⟩ : ApiStep)] : List ApiStep)) (l3 := (l3 ++ ([(⟨y4_0, l5⟩ : ApiStep)] : List ApiStep))) (I' := fun ad2 cap2 => [FW.orow (some ⟨b8, 0, none⟩) 1 29 2 ApiStep.cells ([(⟨y4_0, l5⟩ : ApiStep)] : List ApiStep), FW.blk b4 29 ((ApiStep.cells (⟨y4_0, l5⟩ : ApiStep))), FW.orow ad2 cap2 29 2 ApiStep.cells (l3 ++ ([(⟨y4_0, l5⟩ : ApiStep)] : List ApiStep)), FW.blk b2 62 ((Offshootref12State.cells y2)), FW.blk b1 62 ((Offshootref12State.cells t8))]) (j := 2) hk rfl rfl rfl rfl (FW.own_src hk (j := 0) rfl rfl (fun _ => rfl) Go.Proofs.Try.underlying22) Go.Proofs.Try.underlying22 (by kernel_rfl) hc4 rfl (fun _ _ => rfl) ?_; clear hk; intro ad2 cap2 a w hk
            replace hk := FW.S.dropI (I' := [FW.blk b4 29 ((ApiStep.cells (⟨y4_0, l5⟩ : ApiStep))), FW.orow ad2 cap2 29 2 ApiStep.cells (l3 ++ ([(⟨y4_0, l5⟩ : ApiStep)] : List ApiStep)), FW.blk b2 62 ((Offshootref12State.cells y2)), FW.blk b1 62 ((Offshootref12State.cells t8))]) hk 0 rfl
            refine FW.lfun (y := .lit (.slice ad2 (List.length (l3 ++ ([(⟨y4_0, l5⟩ : ApiStep)] : List ApiStep))) cap2)) hk rfl rfl rfl rfl (FW.f_assign hk (FW.holds_nil _) rfl) ?_; clear hk; intro a w hk
            refine FW.lend (hK32 _ _ ?_); clear hK32 K'
            refine FW.wseq ?_; intro K' hK33
            refine FW.wreg ?_; intro K' hK34
            refine FW.lfun (y := .agg ((Offshootref12State.cells t8))) hk rfl rfl rfl rfl (FW.f_loadBlk hk (FW.holds_nil _) (j := 3) rfl rfl Go.Proofs.Try.underlying62 rfl rfl rfl rfl) ?_; clear hk; intro a w hk
            obtain ⟨t9, hr_t9, h⟩ := FW.bnd h
            refine FW.lfun (y := .lit (.bool t9)) hk rfl rfl rfl rfl (FW.f_call hk (FW.holds_nil _) rfl rfl Go.Proofs.Try.func48 rfl (by kernel_rfl) (offshootref12_State_is.ok t8 ([46] : List UInt8) _ hr_t9)) ?_; clear hk; intro a w hk
            refine FW.lfun (y := .lit (.bool (!t9))) hk rfl rfl rfl rfl ((FW.f_pure (FW.p_not hk.kn (FW.holds_nil _) rfl))) ?_; clear hk; intro a w hk
            refine FW.lend (hK34 _ _ ?_); clear hK34 K'
            refine FW.wcondF (b := (!t9)) hk h rfl (fun h hb => ?_) (fun h hb => ?_)
            · skip
              refine wp_exit ?_; (repeat first | refine FW.then_exit ?_ | refine FW.block_exit_ne rfl ?_); refine FW.block_exit ?_
              (repeat first | refine FW.then_normal ?_ | refine FW.block_normal ?_); exact hK3 _ _ ⟨(l3 ++ ([(⟨y4_0, l5⟩ : ApiStep)] : List ApiStep)), y2, t8, ad2, cap2, (hk.drop 0).sub ⟨rfl, rfl, rfl, trivial⟩, h⟩
            · skip
              refine wp_skip ?_
              (repeat first | refine FW.then_normal ?_ | refine FW.block_normal ?_); refine hK33 _ _ ?_
              refine FW.wreg1 ?_
              refine FW.lfun (y := .lit (.pointer (some ⟨b1, 1, none⟩))) hk rfl rfl rfl rfl (FW.f_fieldPtr hk (FW.holds_nil _) rfl Go.Proofs.Try.underlying62 rfl (by kernel_rfl) rfl) ?_; clear hk; intro a w hk
              refine FW.lfun (y := .lit (.int .i64 t8.I)) hk rfl rfl rfl rfl (FW.f_loadBlk1 hk (FW.holds_nil _) (j := 3) rfl rfl Go.Proofs.Try.underlying3 rfl rfl) ?_; clear hk; intro a w hk
              refine FW.lfun (y := .lit (.int .i64 (IntKind.wrap .i64 (t8.I + 1)))) hk rfl rfl rfl rfl ((FW.f_pure (FW.p_add hk.kn (FW.holds_nil _) rfl rfl))) ?_; clear hk; intro a w hk
              refine FW.lfun (y := .lit (.pointer (some ⟨b1, 1, none⟩))) hk rfl rfl rfl rfl (FW.f_fieldPtr hk (FW.holds_nil _) rfl Go.Proofs.Try.underlying62 rfl (by kernel_rfl) rfl) ?_; clear hk; intro a w hk
              refine FW.l_store (I' := [FW.blk b4 29 ((ApiStep.cells (⟨y4_0, l5⟩ : ApiStep))), FW.orow ad2 cap2 29 2 ApiStep.cells (l3 ++ ([(⟨y4_0, l5⟩ : ApiStep)] : List ApiStep)), FW.blk b2 62 ((Offshootref12State.cells y2)), FW.blk b1 62 ((Offshootref12State.cells (⟨t8.L, (IntKind.wrap .i64 (t8.I + 1)), t8.Deep, t8.Steps, t8.At, t8.E⟩ : Offshootref12State)))]) (cs' := (Offshootref12State.cells (⟨t8.L, (IntKind.wrap .i64 (t8.I + 1)), t8.Deep, t8.Steps, t8.At, t8.E⟩ : Offshootref12State))) (j := 3) hk rfl rfl rfl rfl rfl (by kernel_rfl) rfl rfl ?_; clear hk; intro w hk
              refine wpList_nil ?_
              (repeat first | refine FW.then_normal ?_ | refine FW.block_normal ?_); exact hK5 (kl1, (l3 ++ ([(⟨y4_0, l5⟩ : ApiStep)] : List ApiStep)), y2, (⟨t8.L, (IntKind.wrap .i64 (t8.I + 1)), t8.Deep, t8.Steps, t8.At, t8.E⟩ : Offshootref12State), ad2, cap2) _ _ (Nat.lt_succ_self _) ⟨(hk.drop 0).sub ⟨rfl, rfl, rfl, trivial⟩, h⟩
    · skip
      refine wp_exit ?_; (repeat first | refine FW.then_exit ?_ | refine FW.block_exit_ne rfl ?_); refine FW.block_exit ?_
      (repeat first | refine FW.then_normal ?_ | refine FW.block_normal ?_); exact hK3 _ _ ⟨l3, y2, y1, ad3, cap3, hk.sub ⟨rfl, rfl, rfl, trivial⟩, h⟩
theorem offshootref12_State_arg.bok (s_offshootref12_State_steps : Offshootref12State → Option (Offshootref12State × List ApiStep)) (s_offshootref12_State_arg : Offshootref12State → Option (Offshootref12State × ApiArg)) (hs_offshootref12_State_steps : ∀ (v0 : Offshootref12State) (r : Offshootref12State × List ApiStep), s_offshootref12_State_steps v0 = some r → FW.Ok Go.Proofs.Try.prog 29 [.agg (Offshootref12State.cells v0)] (.tup [.agg (Offshootref12State.cells r.1), .row (r_ApiStep_cells r.2)])) (hs_offshootref12_State_arg : ∀ (v0 : Offshootref12State) (r : Offshootref12State × ApiArg), s_offshootref12_State_arg v0 = some r → FW.Ok Go.Proofs.Try.prog 49 [.agg (Offshootref12State.cells v0)] (.tup [.agg (Offshootref12State.cells r.1), .agg (ApiArg.cells r.2)])) (K : Nat) (v0 : Offshootref12State) (r : Offshootref12State × ApiArg) (h : offshootref12_State_arg.b s_offshootref12_State_steps s_offshootref12_State_arg K v0 = some r) :
    FW.Ok Go.Proofs.Try.prog 49 [.agg (Offshootref12State.cells v0)] (.tup [.agg (Offshootref12State.cells r.1), .agg (ApiArg.cells r.2)]) := by
  refine FW.enter (xs := [.agg (Offshootref12State.cells v0)]) Go.Proofs.Try.func49 rfl Go.Proofs.Try.ntmps49 rfl ?_
  intro M w0 a hk
  unfold offshootref12_State_arg.b at h
  refine FW.wreg ?_; intro K' hK1
  refine FW.l_box (cs := (Offshootref12State.cells v0)) hk rfl rfl rfl rfl rfl ?_; clear hk; intro b1 a w hk
  refine FW.l_alloc (zs := (Offshootref12State.cells (⟨[], 0, 0, 0, 0, 0⟩ : Offshootref12State))) [] hk rfl rfl rfl rfl ?_; clear hk; intro b2 a w hk
  refine FW.l_alloc (zs := (ApiArg.cells (⟨0, (⟨0, false, 0, 0, [], []⟩ : ApiValue), (⟨[], [], []⟩ : ApiPred), []⟩ : ApiArg))) [] hk rfl rfl rfl rfl ?_; clear hk; intro b3 a w hk
  refine FW.lend (hK1 _ _ ?_); clear hK1 K'
  refine FW.wreg ?_; intro K' hK2
  refine FW.lfun (y := .agg ((Offshootref12State.cells v0))) hk rfl rfl rfl rfl (FW.f_loadBlk hk (FW.holds_nil _) (j := 2) rfl rfl Go.Proofs.Try.underlying62 rfl rfl rfl rfl) ?_; clear hk; intro a w hk
  obtain ⟨t1, hr_t1, h⟩ := FW.bnd h
  refine FW.lfun (y := .tup [.agg ((Offshootref12State.cells t1.1)), .agg ((ApiValue.cells t1.2.1)), .lit (.bool t1.2.2)]) hk rfl rfl rfl rfl (FW.f_call hk (FW.holds_nil _) rfl rfl Go.Proofs.Try.func64 rfl (by kernel_rfl) (offshootref12_State_value.ok K v0 _ hr_t1)) ?_; clear hk; intro a w hk
  refine FW.lfun (y := .tup [.agg ((Offshootref12State.cells t1.1)), .agg ((ApiValue.cells t1.2.1)), .lit (.bool t1.2.2)]) hk rfl rfl rfl rfl (FW.f_move hk (FW.holds_nil _) rfl) ?_; clear hk; intro a w hk
  refine FW.lfun (y := .agg ((Offshootref12State.cells t1.1))) hk rfl rfl rfl rfl (FW.f_extract hk (FW.holds_nil _) rfl rfl) ?_; clear hk; intro a w hk
  refine FW.lfun (y := .agg ((ApiValue.cells t1.2.1))) hk rfl rfl rfl rfl (FW.f_extract hk (FW.holds_nil _) rfl rfl) ?_; clear hk; intro a w hk
  refine FW.lfun (y := .lit (.bool t1.2.2)) hk rfl rfl rfl rfl (FW.f_extract hk (FW.holds_nil _) rfl rfl) ?_; clear hk; intro a w hk
  refine FW.l_alloc (zs := (Offshootref12State.cells (⟨[], 0, 0, 0, 0, 0⟩ : Offshootref12State))) [] hk rfl rfl rfl rfl ?_; clear hk; intro b4 a w hk
  refine FW.l_alloc (zs := (ApiValue.cells (⟨0, false, 0, 0, [], []⟩ : ApiValue))) [] hk rfl rfl rfl rfl ?_; clear hk; intro b5 a w hk
  refine FW.l_store (I' := [FW.blk b5 33 ((ApiValue.cells (⟨0, false, 0, 0, [], []⟩ : ApiValue))), FW.blk b4 62 ((Offshootref12State.cells t1.1)), FW.blk b3 38 ((ApiArg.cells (⟨0, (⟨0, false, 0, 0, [], []⟩ : ApiValue), (⟨[], [], []⟩ : ApiPred), []⟩ : ApiArg))), FW.blk b2 62 ((Offshootref12State.cells (⟨[], 0, 0, 0, 0, 0⟩ : Offshootref12State))), FW.blk b1 62 ((Offshootref12State.cells v0))]) (cs' := (Offshootref12State.cells t1.1)) (j := 1) hk rfl rfl rfl rfl rfl (by kernel_rfl) rfl rfl ?_; clear hk; intro w hk
  refine FW.l_store (I' := [FW.blk b5 33 ((ApiValue.cells t1.2.1)), FW.blk b4 62 ((Offshootref12State.cells t1.1)), FW.blk b3 38 ((ApiArg.cells (⟨0, (⟨0, false, 0, 0, [], []⟩ : ApiValue), (⟨[], [], []⟩ : ApiPred), []⟩ : ApiArg))), FW.blk b2 62 ((Offshootref12State.cells (⟨[], 0, 0, 0, 0, 0⟩ : Offshootref12State))), FW.blk b1 62 ((Offshootref12State.cells v0))]) (cs' := (ApiValue.cells t1.2.1)) (j := 0) hk rfl rfl rfl rfl rfl (by kernel_rfl) rfl rfl ?_; clear hk; intro w hk
  refine FW.lfun (y := .lit (.bool t1.2.2)) hk rfl rfl rfl rfl (FW.f_assign hk (FW.holds_nil _) rfl) ?_; clear hk; intro a w hk
  refine FW.lend (hK2 _ _ ?_); clear hK2 K'
  refine FW.wseq ?_; intro K' hK3
  refine FW.wreg ?_; intro K' hK4
  refine FW.lfun (y := .lit (.bool t1.2.2)) hk rfl rfl rfl rfl (FW.f_move hk (FW.holds_nil _) rfl) ?_; clear hk; intro a w hk
  refine FW.lfun (y := .lit (.bool t1.2.2)) hk rfl rfl rfl rfl (FW.f_move hk (FW.holds_nil _) rfl) ?_; clear hk; intro a w hk
  refine FW.lfunG (y := .lit (.pointer (some ⟨b4, 5, none⟩))) hk rfl rfl rfl rfl rfl rfl rfl rfl (fun hc => FW.f_fieldPtr hk hc rfl Go.Proofs.Try.underlying62 rfl (by kernel_rfl) rfl) ?_; clear hk; intro a w hk
  refine FW.lfunG (y := .lit (.int .i64 t1.1.E)) hk rfl rfl rfl rfl rfl rfl rfl rfl (fun hc => FW.f_loadBlk1 hk hc (j := 1) rfl rfl Go.Proofs.Try.underlying23 rfl rfl) ?_; clear hk; intro a w hk
  refine FW.lfunG (y := .lit (.bool (!decide (t1.1.E = 0)))) hk rfl rfl rfl rfl rfl rfl rfl rfl (fun hc => (FW.f_pure (FW.p_neq hk.kn hc rfl rfl))) ?_; clear hk; intro a w hk
  refine FW.lfun (y := .lit (.bool (t1.2.2 || (!decide (t1.1.E = 0))))) hk rfl rfl rfl rfl ((FW.f_pure (FW.p_pick_or hk.kn (FW.holds_nil _) rfl rfl))) ?_; clear hk; intro a w hk
  refine FW.lend (hK4 _ _ ?_); clear hK4 K'
  refine FW.wcondF (b := (t1.2.2 || (!decide (t1.1.E = 0)))) hk h rfl (fun h hb => ?_) (fun h hb => ?_)
  · skip
    refine FW.wdrawE (need := [false, false, false, false, false]) [(3, [true, true, true, false, false], [true, true, true, false, false]), (4, [false, true, true, false, false], [true, true, true, true, false])] [(28, [], .agg ((Offshootref12State.cells t1.1))), (29, [], .agg ((ApiValue.cells t1.2.1))), (30, [], .agg ((ApiArg.cells (⟨1, t1.2.1, (⟨[], [], []⟩ : ApiPred), []⟩ : ApiArg)))), (122, [], .lit undef), (122, [], .lit undef)] (by kernel_rfl) (by kernel_rfl) (by kernel_rfl) (by kernel_rfl) hk ?_; clear hk
    refine FW.gnext0 ?_ rfl rfl rfl ?_
    · skip
      refine FW.gfun (y := .agg ((Offshootref12State.cells t1.1))) rfl rfl rfl rfl (fun a w hk => FW.f_loadBlk hk (FW.holds_nil _) (j := 1) rfl rfl Go.Proofs.Try.underlying62 rfl rfl rfl rfl) ?_
      refine FW.gfun (y := .agg ((ApiValue.cells t1.2.1))) rfl rfl rfl rfl (fun a w hk => FW.f_loadBlk hk (FW.holds_nil _) (j := 0) rfl rfl Go.Proofs.Try.underlying33 rfl rfl rfl rfl) ?_
      refine FW.gfun (y := .agg ((ApiArg.cells (⟨1, t1.2.1, (⟨[], [], []⟩ : ApiPred), []⟩ : ApiArg)))) rfl rfl rfl rfl (fun a w hk => FW.f_buildN [] hk (FW.holds_nil _) rfl rfl rfl) ?_
      refine FW.gskip0 rfl ?_
      refine FW.gskip0 rfl ?_
      exact FW.gend
    · skip
      intro σD a w opsD QD hk hQ
      refine FW.l_store (I' := [FW.blk b5 33 ((ApiValue.cells t1.2.1)), FW.blk b4 62 ((Offshootref12State.cells t1.1)), FW.blk b3 38 ((ApiArg.cells (⟨0, (⟨0, false, 0, 0, [], []⟩ : ApiValue), (⟨[], [], []⟩ : ApiPred), []⟩ : ApiArg))), FW.blk b2 62 ((Offshootref12State.cells t1.1)), FW.blk b1 62 ((Offshootref12State.cells v0))]) (cs' := (Offshootref12State.cells t1.1)) (j := 3) hk rfl rfl rfl rfl rfl (by kernel_rfl) rfl rfl ?_; clear hk; intro w hk
      refine hQ _ a w ?_ hk; clear hk hQ
      refine ⟨[(28, [], .agg ((Offshootref12State.cells t1.1))), (29, [], .agg ((ApiValue.cells t1.2.1))), (30, [], .agg ((ApiArg.cells (⟨1, t1.2.1, (⟨[], [], []⟩ : ApiPred), []⟩ : ApiArg)))), (122, [], .lit undef), (122, [], .lit undef)], And.intro rfl (And.intro rfl (And.intro rfl (trivial))), rfl, ?_⟩
      refine FW.gnext0 ?_ rfl rfl rfl ?_
      · skip
        refine FW.gskip rfl rfl ?_
        refine FW.gfun (y := .agg ((ApiValue.cells t1.2.1))) rfl rfl rfl rfl (fun a w hk => FW.f_loadBlk hk (FW.holds_nil _) (j := 0) rfl rfl Go.Proofs.Try.underlying33 rfl rfl rfl rfl) ?_
        refine FW.gfun (y := .agg ((ApiArg.cells (⟨1, t1.2.1, (⟨[], [], []⟩ : ApiPred), []⟩ : ApiArg)))) rfl rfl rfl rfl (fun a w hk => FW.f_buildN [] hk (FW.holds_nil _) rfl rfl rfl) ?_
        refine FW.gskip0 rfl ?_
        refine FW.gskip0 rfl ?_
        exact FW.gend
      · skip
        intro σD a w opsD QD hk hQ
        refine FW.l_store (I' := [FW.blk b5 33 ((ApiValue.cells t1.2.1)), FW.blk b4 62 ((Offshootref12State.cells t1.1)), FW.blk b3 38 ((ApiArg.cells (⟨1, t1.2.1, (⟨[], [], []⟩ : ApiPred), []⟩ : ApiArg))), FW.blk b2 62 ((Offshootref12State.cells t1.1)), FW.blk b1 62 ((Offshootref12State.cells v0))]) (cs' := (ApiArg.cells (⟨1, t1.2.1, (⟨[], [], []⟩ : ApiPred), []⟩ : ApiArg))) (j := 2) hk rfl rfl rfl rfl rfl (by kernel_rfl) rfl rfl ?_; clear hk; intro w hk
        refine hQ _ a w ?_ hk; clear hk hQ
        refine ⟨[(28, [], .agg ((Offshootref12State.cells t1.1))), (29, [], .agg ((ApiValue.cells t1.2.1))), (30, [], .agg ((ApiArg.cells (⟨1, t1.2.1, (⟨[], [], []⟩ : ApiPred), []⟩ : ApiArg)))), (122, [], .lit undef), (122, [], .lit undef)], And.intro rfl (And.intro rfl (And.intro rfl (And.intro rfl (trivial)))), rfl, ?_⟩
        refine FW.glast ?_ ?_
        · skip
          refine FW.gskip rfl rfl ?_
          refine FW.gskip rfl rfl ?_
          refine FW.gskip rfl rfl ?_
          refine FW.gskip0 rfl ?_
          refine FW.gskip0 rfl ?_
          exact FW.gend
        · skip
          intro a w hk; simp only [FW.stD, cond_true] at hk
          refine wp_ret ?_
          (repeat first | refine FW.then_ret ?_ | refine FW.block_ret ?_)
          obtain rfl := Option.some.inj h
          exact FW.fretR2 hk rfl (FW.rcell hk rfl (j := 3) rfl Go.Proofs.Try.underlying62 rfl (by kernel_rfl)) (FW.rcell hk rfl (j := 2) rfl Go.Proofs.Try.underlying38 rfl (by kernel_rfl))
  · skip
    refine wp_skip ?_
    (repeat first | refine FW.then_normal ?_ | refine FW.block_normal ?_); refine hK3 _ _ ?_
    refine FW.wreg ?_; intro K' hK6
    refine FW.lfun (y := .lit (.pointer (some ⟨b1, 0, none⟩))) hk rfl rfl rfl rfl (FW.f_fieldPtr hk (FW.holds_nil _) rfl Go.Proofs.Try.underlying62 rfl (by kernel_rfl) rfl) ?_; clear hk; intro a w hk
    refine FW.lfun (y := .row (r_ApiWord_cells v0.L)) hk rfl rfl rfl rfl (FW.f_loadBlk1 hk (FW.holds_nil _) (j := 4) rfl rfl Go.Proofs.Try.underlying48 rfl rfl) ?_; clear hk; intro a w hk
    refine FW.lfun (y := .lit (.pointer (some ⟨b1, 1, none⟩))) hk rfl rfl rfl rfl (FW.f_fieldPtr hk (FW.holds_nil _) rfl Go.Proofs.Try.underlying62 rfl (by kernel_rfl) rfl) ?_; clear hk; intro a w hk
    refine FW.lfun (y := .lit (.int .i64 v0.I)) hk rfl rfl rfl rfl (FW.f_loadBlk1 hk (FW.holds_nil _) (j := 4) rfl rfl Go.Proofs.Try.underlying3 rfl rfl) ?_; clear hk; intro a w hk
    obtain ⟨hc1, h⟩ := FW.chk h
    refine FW.lfun (y := .ref (ApiWord.cells (List.getD v0.L (Int.toNat v0.I) default))) hk rfl rfl rfl rfl (FW.f_indexAddr (R := r_ApiWord_cells) (f := ApiWord.cells) (l := v0.L) (sz := 5) r_ApiWord_cells_eq (fun _ => rfl) hk (FW.holds_nil _) rfl rfl Go.Proofs.Try.underlying48 (by kernel_rfl) hc1) ?_; clear hk; intro a w hk
    refine FW.lfun (y := .agg ((ApiWord.cells (List.getD v0.L (Int.toNat v0.I) default)))) hk rfl rfl rfl rfl (FW.f_load hk (FW.holds_nil _) rfl Go.Proofs.Try.underlying52 rfl rfl rfl rfl) ?_; clear hk; intro a w hk
    refine FW.l_alloc (zs := (ApiWord.cells (⟨0, [], 0, 0, 0⟩ : ApiWord))) [] hk rfl rfl rfl rfl ?_; clear hk; intro b6 a w hk
    refine FW.l_store (I' := [FW.blk b6 52 ((ApiWord.cells (List.getD v0.L (Int.toNat v0.I) default))), FW.blk b5 33 ((ApiValue.cells t1.2.1)), FW.blk b4 62 ((Offshootref12State.cells t1.1)), FW.blk b3 38 ((ApiArg.cells (⟨0, (⟨0, false, 0, 0, [], []⟩ : ApiValue), (⟨[], [], []⟩ : ApiPred), []⟩ : ApiArg))), FW.blk b2 62 ((Offshootref12State.cells (⟨[], 0, 0, 0, 0, 0⟩ : Offshootref12State))), FW.blk b1 62 ((Offshootref12State.cells v0))]) (cs' := (ApiWord.cells (List.getD v0.L (Int.toNat v0.I) default))) (j := 0) hk rfl rfl rfl rfl rfl (by kernel_rfl) rfl rfl ?_; clear hk; intro w hk
    refine FW.lend (hK6 _ _ ?_); clear hK6 K'
    refine FW.wseqJ (fun a w => ∃ (y6 : ApiWord) (y3 : ApiArg) (y2 : Offshootref12State) (y1 : Offshootref12State), FW.S M w0 a w 122 [FW.blk b6 52 ((ApiWord.cells y6)), FW.blk b3 38 ((ApiArg.cells y3)), FW.blk b2 62 ((Offshootref12State.cells y2)), FW.blk b1 62 ((Offshootref12State.cells y1))] [(1, [], .lit (.pointer (some ⟨b1, 0, none⟩))), (2, [], .lit (.pointer (some ⟨b2, 0, none⟩))), (3, [], .lit (.pointer (some ⟨b3, 0, none⟩))), (7, [], .lit (.pointer (some ⟨b6, 0, none⟩)))] ∧ offshootref12_State_arg.j1 s_offshootref12_State_steps s_offshootref12_State_arg K y6 y3 y2 y1 = some r) ?_ ?_
    · clear hk h
      rintro a w ⟨y6, y3, y2, y1, hk, h⟩
      unfold offshootref12_State_arg.j1 at h
      refine FW.wreg ?_; intro K' hK8
      refine FW.lfun (y := .lit (.pointer (some ⟨b1, 2, none⟩))) hk rfl rfl rfl rfl (FW.f_fieldPtr hk (FW.holds_nil _) rfl Go.Proofs.Try.underlying62 rfl (by kernel_rfl) rfl) ?_; clear hk; intro a w hk
      refine FW.lfun (y := .lit (.int .i64 y1.Deep)) hk rfl rfl rfl rfl (FW.f_loadBlk1 hk (FW.holds_nil _) (j := 3) rfl rfl Go.Proofs.Try.underlying3 rfl rfl) ?_; clear hk; intro a w hk
      refine FW.lfun (y := .lit (.int .i64 y1.Deep)) hk rfl rfl rfl rfl (FW.f_assign hk (FW.holds_nil _) rfl) ?_; clear hk; intro a w hk
      refine FW.lend (hK8 _ _ ?_); clear hK8 K'
      refine FW.wreg ?_; intro K' hK9
      refine FW.lfun (y := .agg ((Offshootref12State.cells y1))) hk rfl rfl rfl rfl (FW.f_loadBlk hk (FW.holds_nil _) (j := 3) rfl rfl Go.Proofs.Try.underlying62 rfl rfl rfl rfl) ?_; clear hk; intro a w hk
      obtain ⟨t2, hr_t2, h⟩ := FW.bnd h
      refine FW.lfun (y := .agg ((Offshootref12State.cells t2))) hk rfl rfl rfl rfl (FW.f_call hk (FW.holds_nil _) rfl rfl Go.Proofs.Try.func67 rfl (by kernel_rfl) (offshootref12_State_into.ok y1 _ hr_t2)) ?_; clear hk; intro a w hk
      refine FW.l_store (I' := [FW.blk b6 52 ((ApiWord.cells y6)), FW.blk b3 38 ((ApiArg.cells y3)), FW.blk b2 62 ((Offshootref12State.cells y2)), FW.blk b1 62 ((Offshootref12State.cells t2))]) (cs' := (Offshootref12State.cells t2)) (j := 3) hk rfl rfl rfl rfl rfl (by kernel_rfl) rfl rfl ?_; clear hk; intro w hk
      refine FW.lend (hK9 _ _ ?_); clear hK9 K'
      refine FW.wseqJ (fun a w => ∃ (y3 : ApiArg) (y2 : Offshootref12State) (y1 : Offshootref12State) (v14 : Int), FW.S M w0 a w 122 [FW.blk b3 38 ((ApiArg.cells y3)), FW.blk b2 62 ((Offshootref12State.cells y2)), FW.blk b1 62 ((Offshootref12State.cells y1))] [(1, [], .lit (.pointer (some ⟨b1, 0, none⟩))), (2, [], .lit (.pointer (some ⟨b2, 0, none⟩))), (3, [], .lit (.pointer (some ⟨b3, 0, none⟩))), (14, [], .lit (.int .i64 v14))] ∧ offshootref12_State_arg.j2 s_offshootref12_State_steps s_offshootref12_State_arg K y3 y2 y1 v14 = some r) ?_ ?_
      · clear hk h
        rintro a w ⟨y3, y2, y1, v14, hk, h⟩
        unfold offshootref12_State_arg.j2 at h
        refine FW.wreg ?_; intro K' hK11
        refine FW.lfun (y := .agg ((Offshootref12State.cells y1))) hk rfl rfl rfl rfl (FW.f_loadBlk hk (FW.holds_nil _) (j := 2) rfl rfl Go.Proofs.Try.underlying62 rfl rfl rfl rfl) ?_; clear hk; intro a w hk
        obtain ⟨t3, hr_t3, h⟩ := FW.bnd h
        refine FW.lfun (y := .tup [.agg ((Offshootref12State.cells t3.1)), .row (r_ApiStep_cells t3.2)]) hk rfl rfl rfl rfl (FW.f_call hk (FW.holds_nil _) rfl rfl Go.Proofs.Try.func29 rfl (by kernel_rfl) (hs_offshootref12_State_steps y1 _ hr_t3)) ?_; clear hk; intro a w hk
        refine FW.lfun (y := .tup [.agg ((Offshootref12State.cells t3.1)), .row (r_ApiStep_cells t3.2)]) hk rfl rfl rfl rfl (FW.f_move hk (FW.holds_nil _) rfl) ?_; clear hk; intro a w hk
        refine FW.lfun (y := .agg ((Offshootref12State.cells t3.1))) hk rfl rfl rfl rfl (FW.f_extract hk (FW.holds_nil _) rfl rfl) ?_; clear hk; intro a w hk
        refine FW.lfun (y := .row (r_ApiStep_cells t3.2)) hk rfl rfl rfl rfl (FW.f_extract hk (FW.holds_nil _) rfl rfl) ?_; clear hk; intro a w hk
        refine FW.l_store (I' := [FW.blk b3 38 ((ApiArg.cells y3)), FW.blk b2 62 ((Offshootref12State.cells y2)), FW.blk b1 62 ((Offshootref12State.cells t3.1))]) (cs' := (Offshootref12State.cells t3.1)) (j := 2) hk rfl rfl rfl rfl rfl (by kernel_rfl) rfl rfl ?_; clear hk; intro w hk
        refine FW.lfun (y := .row (r_ApiStep_cells t3.2)) hk rfl rfl rfl rfl (FW.f_assign hk (FW.holds_nil _) rfl) ?_; clear hk; intro a w hk
        refine FW.lend (hK11 _ _ ?_); clear hK11 K'
        refine FW.wreg ?_; intro K' hK12
        refine FW.lfun (y := .lit (.int .i64 v14)) hk rfl rfl rfl rfl (FW.f_move hk (FW.holds_nil _) rfl) ?_; clear hk; intro a w hk
        refine FW.lfun (y := .lit (.pointer (some ⟨b1, 2, none⟩))) hk rfl rfl rfl rfl (FW.f_fieldPtr hk (FW.holds_nil _) rfl Go.Proofs.Try.underlying62 rfl (by kernel_rfl) rfl) ?_; clear hk; intro a w hk
        refine FW.l_store (I' := [FW.blk b3 38 ((ApiArg.cells y3)), FW.blk b2 62 ((Offshootref12State.cells y2)), FW.blk b1 62 ((Offshootref12State.cells (⟨t3.1.L, t3.1.I, v14, t3.1.Steps, t3.1.At, t3.1.E⟩ : Offshootref12State)))]) (cs' := (Offshootref12State.cells (⟨t3.1.L, t3.1.I, v14, t3.1.Steps, t3.1.At, t3.1.E⟩ : Offshootref12State))) (j := 2) hk rfl rfl rfl rfl rfl (by kernel_rfl) rfl rfl ?_; clear hk; intro w hk
        refine FW.lend (hK12 _ _ ?_); clear hK12 K'
        refine FW.wreg ?_; intro K' hK13
        refine FW.lfun (y := .agg ((Offshootref12State.cells (⟨t3.1.L, t3.1.I, v14, t3.1.Steps, t3.1.At, t3.1.E⟩ : Offshootref12State)))) hk rfl rfl rfl rfl (FW.f_loadBlk hk (FW.holds_nil _) (j := 2) rfl rfl Go.Proofs.Try.underlying62 rfl rfl rfl rfl) ?_; clear hk; intro a w hk
        refine FW.lfun (y := .row (r_ApiStep_cells t3.2)) hk rfl rfl rfl rfl (FW.f_move hk (FW.holds_nil _) rfl) ?_; clear hk; intro a w hk
        refine FW.lfun (y := .agg ((ApiArg.cells (⟨3, (⟨0, false, 0, 0, [], []⟩ : ApiValue), (⟨[], [], []⟩ : ApiPred), t3.2⟩ : ApiArg)))) hk rfl rfl rfl rfl (FW.f_buildN [] hk (FW.holds_nil _) rfl rfl rfl) ?_; clear hk; intro a w hk
        refine FW.l_store (I' := [FW.blk b3 38 ((ApiArg.cells y3)), FW.blk b2 62 ((Offshootref12State.cells (⟨t3.1.L, t3.1.I, v14, t3.1.Steps, t3.1.At, t3.1.E⟩ : Offshootref12State))), FW.blk b1 62 ((Offshootref12State.cells (⟨t3.1.L, t3.1.I, v14, t3.1.Steps, t3.1.At, t3.1.E⟩ : Offshootref12State)))]) (cs' := (Offshootref12State.cells (⟨t3.1.L, t3.1.I, v14, t3.1.Steps, t3.1.At, t3.1.E⟩ : Offshootref12State))) (j := 1) hk rfl rfl rfl rfl rfl (by kernel_rfl) rfl rfl ?_; clear hk; intro w hk
        refine FW.l_store (I' := [FW.blk b3 38 ((ApiArg.cells (⟨3, (⟨0, false, 0, 0, [], []⟩ : ApiValue), (⟨[], [], []⟩ : ApiPred), t3.2⟩ : ApiArg))), FW.blk b2 62 ((Offshootref12State.cells (⟨t3.1.L, t3.1.I, v14, t3.1.Steps, t3.1.At, t3.1.E⟩ : Offshootref12State))), FW.blk b1 62 ((Offshootref12State.cells (⟨t3.1.L, t3.1.I, v14, t3.1.Steps, t3.1.At, t3.1.E⟩ : Offshootref12State)))]) (cs' := (ApiArg.cells (⟨3, (⟨0, false, 0, 0, [], []⟩ : ApiValue), (⟨[], [], []⟩ : ApiPred), t3.2⟩ : ApiArg))) (j := 0) hk rfl rfl rfl rfl rfl (by kernel_rfl) rfl rfl ?_; clear hk; intro w hk
        refine FW.lend (hK13 _ _ ?_); clear hK13 K'
        refine wp_ret ?_
        (repeat first | refine FW.then_ret ?_ | refine FW.block_ret ?_)
        obtain rfl := Option.some.inj h
        exact FW.fretR2 hk rfl (FW.rcell hk rfl (j := 1) rfl Go.Proofs.Try.underlying62 rfl (by kernel_rfl)) (FW.rcell hk rfl (j := 0) rfl Go.Proofs.Try.underlying38 rfl (by kernel_rfl))
      · intro K' hK10
        refine FW.wreg ?_; intro K' hK14
        refine FW.lfun (y := .lit (.pointer (some ⟨b1, 5, none⟩))) hk rfl rfl rfl rfl (FW.f_fieldPtr hk (FW.holds_nil _) rfl Go.Proofs.Try.underlying62 rfl (by kernel_rfl) rfl) ?_; clear hk; intro a w hk
        refine FW.lfun (y := .lit (.int .i64 t2.E)) hk rfl rfl rfl rfl (FW.f_loadBlk1 hk (FW.holds_nil _) (j := 3) rfl rfl Go.Proofs.Try.underlying23 rfl rfl) ?_; clear hk; intro a w hk
        refine FW.lfun (y := .lit (.bool (decide (t2.E = 0)))) hk rfl rfl rfl rfl ((FW.f_pure (FW.p_eql hk.kn (FW.holds_nil _) rfl rfl))) ?_; clear hk; intro a w hk
        refine FW.lfun (y := .lit (.bool (decide (t2.E = 0)))) hk rfl rfl rfl rfl (FW.f_move hk (FW.holds_nil _) rfl) ?_; clear hk; intro a w hk
        refine FW.lfunG (y := .lit (.pointer (some ⟨b6, 0, none⟩))) hk rfl rfl rfl rfl rfl rfl rfl rfl (fun hc => FW.f_fieldPtr hk hc rfl Go.Proofs.Try.underlying52 rfl (by kernel_rfl) rfl) ?_; clear hk; intro a w hk
        refine FW.lfunG (y := .lit (.int .i64 y6.Kind)) hk rfl rfl rfl rfl rfl rfl rfl rfl (fun hc => FW.f_loadBlk1 hk hc (j := 0) rfl rfl Go.Proofs.Try.underlying3 rfl rfl) ?_; clear hk; intro a w hk
        refine FW.lfunG (y := .lit (.bool (decide (y6.Kind = 1)))) hk rfl rfl rfl rfl rfl rfl rfl rfl (fun hc => (FW.f_pure (FW.p_eql hk.kn hc rfl rfl))) ?_; clear hk; intro a w hk
        refine FW.lfun (y := .lit (.bool ((decide (t2.E = 0)) && (decide (y6.Kind = 1))))) hk rfl rfl rfl rfl ((FW.f_pure (FW.p_pick_and hk.kn (FW.holds_nil _) rfl rfl))) ?_; clear hk; intro a w hk
        refine FW.lfun (y := .lit (.bool ((decide (t2.E = 0)) && (decide (y6.Kind = 1))))) hk rfl rfl rfl rfl (FW.f_move hk (FW.holds_nil _) rfl) ?_; clear hk; intro a w hk
        refine FW.lfunG (y := .lit (.pointer (some ⟨b6, 1, none⟩))) hk rfl rfl rfl rfl rfl rfl rfl rfl (fun hc => FW.f_fieldPtr hk hc rfl Go.Proofs.Try.underlying52 rfl (by kernel_rfl) rfl) ?_; clear hk; intro a w hk
        refine FW.lfunG (y := .lit (.string (FW.B y6.S))) hk rfl rfl rfl rfl rfl rfl rfl rfl (fun hc => FW.f_loadBlk1 hk hc (j := 0) rfl rfl Go.Proofs.Try.underlying9 rfl rfl) ?_; clear hk; intro a w hk
        refine FW.lfunG (y := .lit (.bool (decide (y6.S = ([95, 95] : List UInt8))))) hk rfl rfl rfl rfl rfl rfl rfl rfl (fun hc => (FW.f_pure (FW.p_seql hk.kn hc rfl rfl))) ?_; clear hk; intro a w hk
        refine FW.lfun (y := .lit (.bool (((decide (t2.E = 0)) && (decide (y6.Kind = 1))) && (decide (y6.S = ([95, 95] : List UInt8)))))) hk rfl rfl rfl rfl ((FW.f_pure (FW.p_pick_and hk.kn (FW.holds_nil _) rfl rfl))) ?_; clear hk; intro a w hk
        refine FW.lend (hK14 _ _ ?_); clear hK14 K'
        refine FW.wcondF (b := (((decide (t2.E = 0)) && (decide (y6.Kind = 1))) && (decide (y6.S = ([95, 95] : List UInt8))))) hk h rfl (fun h hb => ?_) (fun h hb => ?_)
        · skip
          refine FW.wreg ?_; intro K' hK15
          refine FW.lfun (y := .lit (.pointer (some ⟨b1, 1, none⟩))) hk rfl rfl rfl rfl (FW.f_fieldPtr hk (FW.holds_nil _) rfl Go.Proofs.Try.underlying62 rfl (by kernel_rfl) rfl) ?_; clear hk; intro a w hk
          refine FW.lfun (y := .lit (.int .i64 t2.I)) hk rfl rfl rfl rfl (FW.f_loadBlk1 hk (FW.holds_nil _) (j := 3) rfl rfl Go.Proofs.Try.underlying3 rfl rfl) ?_; clear hk; intro a w hk
          refine FW.lfun (y := .lit (.int .i64 (IntKind.wrap .i64 (t2.I + 1)))) hk rfl rfl rfl rfl ((FW.f_pure (FW.p_add hk.kn (FW.holds_nil _) rfl rfl))) ?_; clear hk; intro a w hk
          refine FW.lfun (y := .lit (.pointer (some ⟨b1, 1, none⟩))) hk rfl rfl rfl rfl (FW.f_fieldPtr hk (FW.holds_nil _) rfl Go.Proofs.Try.underlying62 rfl (by kernel_rfl) rfl) ?_; clear hk; intro a w hk
          refine FW.l_store (I' := [FW.blk b6 52 ((ApiWord.cells y6)), FW.blk b3 38 ((ApiArg.cells y3)), FW.blk b2 62 ((Offshootref12State.cells y2)), FW.blk b1 62 ((Offshootref12State.cells (⟨t2.L, (IntKind.wrap .i64 (t2.I + 1)), t2.Deep, t2.Steps, t2.At, t2.E⟩ : Offshootref12State)))]) (cs' := (Offshootref12State.cells (⟨t2.L, (IntKind.wrap .i64 (t2.I + 1)), t2.Deep, t2.Steps, t2.At, t2.E⟩ : Offshootref12State))) (j := 3) hk rfl rfl rfl rfl rfl (by kernel_rfl) rfl rfl ?_; clear hk; intro w hk
          refine FW.lend (hK15 _ _ ?_); clear hK15 K'
          refine FW.wreg1 ?_
          refine FW.lfun (y := .agg ((Offshootref12State.cells (⟨t2.L, (IntKind.wrap .i64 (t2.I + 1)), t2.Deep, t2.Steps, t2.At, t2.E⟩ : Offshootref12State)))) hk rfl rfl rfl rfl (FW.f_loadBlk hk (FW.holds_nil _) (j := 3) rfl rfl Go.Proofs.Try.underlying62 rfl rfl rfl rfl) ?_; clear hk; intro a w hk
          obtain ⟨t4, hr_t4, h⟩ := FW.bnd h
          refine FW.lfun (y := .agg ((Offshootref12State.cells t4))) hk rfl rfl rfl rfl (FW.f_call hk (FW.holds_nil _) rfl rfl Go.Proofs.Try.func28 rfl (by kernel_rfl) (offshootref12_State_sign.ok (⟨t2.L, (IntKind.wrap .i64 (t2.I + 1)), t2.Deep, t2.Steps, t2.At, t2.E⟩ : Offshootref12State) ([46] : List UInt8) _ hr_t4)) ?_; clear hk; intro a w hk
          refine FW.l_store (I' := [FW.blk b6 52 ((ApiWord.cells y6)), FW.blk b3 38 ((ApiArg.cells y3)), FW.blk b2 62 ((Offshootref12State.cells y2)), FW.blk b1 62 ((Offshootref12State.cells t4))]) (cs' := (Offshootref12State.cells t4)) (j := 3) hk rfl rfl rfl rfl rfl (by kernel_rfl) rfl rfl ?_; clear hk; intro w hk
          refine wpList_nil ?_
          (repeat first | refine FW.then_normal ?_ | refine FW.block_normal ?_); exact hK10 _ _ ⟨y3, y2, t4, y1.Deep, (hk.drop 0).sub ⟨rfl, rfl, rfl, rfl, trivial⟩, h⟩
        · skip
          refine wp_skip ?_
          (repeat first | refine FW.then_normal ?_ | refine FW.block_normal ?_); exact hK10 _ _ ⟨y3, y2, t2, y1.Deep, (hk.drop 0).sub ⟨rfl, rfl, rfl, rfl, trivial⟩, h⟩
    · intro K' hK7
      refine FW.wreg ?_; intro K' hK17
      refine FW.lfun (y := .lit (.pointer (some ⟨b6, 0, none⟩))) hk rfl rfl rfl rfl (FW.f_fieldPtr hk (FW.holds_nil _) rfl Go.Proofs.Try.underlying52 rfl (by kernel_rfl) rfl) ?_; clear hk; intro a w hk
      refine FW.lfun (y := .lit (.int .i64 ((List.getD v0.L (Int.toNat v0.I) default).Kind))) hk rfl rfl rfl rfl (FW.f_loadBlk1 hk (FW.holds_nil _) (j := 0) rfl rfl Go.Proofs.Try.underlying3 rfl rfl) ?_; clear hk; intro a w hk
      refine FW.lfun (y := .lit (.bool (decide (((List.getD v0.L (Int.toNat v0.I) default).Kind) = 1)))) hk rfl rfl rfl rfl ((FW.f_pure (FW.p_eql hk.kn (FW.holds_nil _) rfl rfl))) ?_; clear hk; intro a w hk
      refine FW.lend (hK17 _ _ ?_); clear hK17 K'
      refine FW.wcondF (b := (decide (((List.getD v0.L (Int.toNat v0.I) default).Kind) = 1))) hk h rfl (fun h hb => ?_) (fun h hb => ?_)
      · skip
        refine FW.wreg ?_; intro K' hK18
        refine FW.lfun (y := .lit (.pointer (some ⟨b1, 0, none⟩))) hk rfl rfl rfl rfl (FW.f_fieldPtr hk (FW.holds_nil _) rfl Go.Proofs.Try.underlying62 rfl (by kernel_rfl) rfl) ?_; clear hk; intro a w hk
        refine FW.lfun (y := .row (r_ApiWord_cells v0.L)) hk rfl rfl rfl rfl (FW.f_loadBlk1 hk (FW.holds_nil _) (j := 5) rfl rfl Go.Proofs.Try.underlying48 rfl rfl) ?_; clear hk; intro a w hk
        refine FW.lfun (y := .lit (.pointer (some ⟨b1, 1, none⟩))) hk rfl rfl rfl rfl (FW.f_fieldPtr hk (FW.holds_nil _) rfl Go.Proofs.Try.underlying62 rfl (by kernel_rfl) rfl) ?_; clear hk; intro a w hk
        refine FW.lfun (y := .lit (.int .i64 v0.I)) hk rfl rfl rfl rfl (FW.f_loadBlk1 hk (FW.holds_nil _) (j := 5) rfl rfl Go.Proofs.Try.underlying3 rfl rfl) ?_; clear hk; intro a w hk
        refine FW.lfun (y := .lit (.int .i64 (IntKind.wrap .i64 (v0.I + 1)))) hk rfl rfl rfl rfl ((FW.f_pure (FW.p_add hk.kn (FW.holds_nil _) rfl rfl))) ?_; clear hk; intro a w hk
        obtain ⟨hc2, h⟩ := FW.chk h
        refine FW.lfun (y := .ref (ApiWord.cells (List.getD v0.L (Int.toNat (IntKind.wrap .i64 (v0.I + 1))) default))) hk rfl rfl rfl rfl (FW.f_indexAddr (R := r_ApiWord_cells) (f := ApiWord.cells) (l := v0.L) (sz := 5) r_ApiWord_cells_eq (fun _ => rfl) hk (FW.holds_nil _) rfl rfl Go.Proofs.Try.underlying48 (by kernel_rfl) hc2) ?_; clear hk; intro a w hk
        refine FW.lfun (y := .agg ((ApiWord.cells (List.getD v0.L (Int.toNat (IntKind.wrap .i64 (v0.I + 1))) default)))) hk rfl rfl rfl rfl (FW.f_load hk (FW.holds_nil _) rfl Go.Proofs.Try.underlying52 rfl rfl rfl rfl) ?_; clear hk; intro a w hk
        refine FW.l_alloc (zs := (ApiWord.cells (⟨0, [], 0, 0, 0⟩ : ApiWord))) [] hk rfl rfl rfl rfl ?_; clear hk; intro b7 a w hk
        refine FW.l_store (I' := [FW.blk b7 52 ((ApiWord.cells (List.getD v0.L (Int.toNat (IntKind.wrap .i64 (v0.I + 1))) default))), FW.blk b6 52 ((ApiWord.cells (List.getD v0.L (Int.toNat v0.I) default))), FW.blk b5 33 ((ApiValue.cells t1.2.1)), FW.blk b4 62 ((Offshootref12State.cells t1.1)), FW.blk b3 38 ((ApiArg.cells (⟨0, (⟨0, false, 0, 0, [], []⟩ : ApiValue), (⟨[], [], []⟩ : ApiPred), []⟩ : ApiArg))), FW.blk b2 62 ((Offshootref12State.cells (⟨[], 0, 0, 0, 0, 0⟩ : Offshootref12State))), FW.blk b1 62 ((Offshootref12State.cells v0))]) (cs' := (ApiWord.cells (List.getD v0.L (Int.toNat (IntKind.wrap .i64 (v0.I + 1))) default))) (j := 0) hk rfl rfl rfl rfl rfl (by kernel_rfl) rfl rfl ?_; clear hk; intro w hk
        refine FW.lend (hK18 _ _ ?_); clear hK18 K'
        refine FW.wreg ?_; intro K' hK19
        refine FW.lfun (y := .lit (.pointer (some ⟨b7, 0, none⟩))) hk rfl rfl rfl rfl (FW.f_fieldPtr hk (FW.holds_nil _) rfl Go.Proofs.Try.underlying52 rfl (by kernel_rfl) rfl) ?_; clear hk; intro a w hk
        refine FW.lfun (y := .lit (.int .i64 ((List.getD v0.L (Int.toNat (IntKind.wrap .i64 (v0.I + 1))) default).Kind))) hk rfl rfl rfl rfl (FW.f_loadBlk1 hk (FW.holds_nil _) (j := 0) rfl rfl Go.Proofs.Try.underlying3 rfl rfl) ?_; clear hk; intro a w hk
        refine FW.lfun (y := .lit (.bool (decide (((List.getD v0.L (Int.toNat (IntKind.wrap .i64 (v0.I + 1))) default).Kind) = 5)))) hk rfl rfl rfl rfl ((FW.f_pure (FW.p_eql hk.kn (FW.holds_nil _) rfl rfl))) ?_; clear hk; intro a w hk
        refine FW.lfun (y := .lit (.bool (decide (((List.getD v0.L (Int.toNat (IntKind.wrap .i64 (v0.I + 1))) default).Kind) = 5)))) hk rfl rfl rfl rfl (FW.f_move hk (FW.holds_nil _) rfl) ?_; clear hk; intro a w hk
        refine FW.lfunG (y := .lit (.pointer (some ⟨b7, 1, none⟩))) hk rfl rfl rfl rfl rfl rfl rfl rfl (fun hc => FW.f_fieldPtr hk hc rfl Go.Proofs.Try.underlying52 rfl (by kernel_rfl) rfl) ?_; clear hk; intro a w hk
        refine FW.lfunG (y := .lit (.string (FW.B ((List.getD v0.L (Int.toNat (IntKind.wrap .i64 (v0.I + 1))) default).S)))) hk rfl rfl rfl rfl rfl rfl rfl rfl (fun hc => FW.f_loadBlk1 hk hc (j := 0) rfl rfl Go.Proofs.Try.underlying9 rfl rfl) ?_; clear hk; intro a w hk
        refine FW.lfunG (y := .lit (.bool (decide (((List.getD v0.L (Int.toNat (IntKind.wrap .i64 (v0.I + 1))) default).S) = ([40] : List UInt8))))) hk rfl rfl rfl rfl rfl rfl rfl rfl (fun hc => (FW.f_pure (FW.p_seql hk.kn hc rfl rfl))) ?_; clear hk; intro a w hk
        refine FW.lfun (y := .lit (.bool ((decide (((List.getD v0.L (Int.toNat (IntKind.wrap .i64 (v0.I + 1))) default).Kind) = 5)) && (decide (((List.getD v0.L (Int.toNat (IntKind.wrap .i64 (v0.I + 1))) default).S) = ([40] : List UInt8)))))) hk rfl rfl rfl rfl ((FW.f_pure (FW.p_pick_and hk.kn (FW.holds_nil _) rfl rfl))) ?_; clear hk; intro a w hk
        refine FW.lfun (y := .lit (.bool ((decide (((List.getD v0.L (Int.toNat (IntKind.wrap .i64 (v0.I + 1))) default).Kind) = 5)) && (decide (((List.getD v0.L (Int.toNat (IntKind.wrap .i64 (v0.I + 1))) default).S) = ([40] : List UInt8)))))) hk rfl rfl rfl rfl (FW.f_assign hk (FW.holds_nil _) rfl) ?_; clear hk; intro a w hk
        refine FW.lend (hK19 _ _ ?_); clear hK19 K'
        refine FW.wseq ?_; intro K' hK20
        refine FW.wreg ?_; intro K' hK21
        refine FW.lfun (y := .lit (.pointer (some ⟨b6, 1, none⟩))) hk rfl rfl rfl rfl (FW.f_fieldPtr hk (FW.holds_nil _) rfl Go.Proofs.Try.underlying52 rfl (by kernel_rfl) rfl) ?_; clear hk; intro a w hk
        refine FW.lfun (y := .lit (.string (FW.B ((List.getD v0.L (Int.toNat v0.I) default).S)))) hk rfl rfl rfl rfl (FW.f_loadBlk1 hk (FW.holds_nil _) (j := 1) rfl rfl Go.Proofs.Try.underlying9 rfl rfl) ?_; clear hk; intro a w hk
        obtain ⟨t5, hr_t5, h⟩ := FW.bnd h
        refine FW.lfun (y := .tup [.lit (.int .i64 t5.1), .lit (.bool t5.2)]) hk rfl rfl rfl rfl (FW.f_call hk (FW.holds_nil _) rfl rfl Go.Proofs.Try.func65 rfl (by kernel_rfl) (offshootref12_Preds.ok K ((List.getD v0.L (Int.toNat v0.I) default).S) _ hr_t5)) ?_; clear hk; intro a w hk
        refine FW.lfun (y := .tup [.lit (.int .i64 t5.1), .lit (.bool t5.2)]) hk rfl rfl rfl rfl (FW.f_move hk (FW.holds_nil _) rfl) ?_; clear hk; intro a w hk
        refine FW.lfun (y := .lit (.int .i64 t5.1)) hk rfl rfl rfl rfl (FW.f_extract hk (FW.holds_nil _) rfl rfl) ?_; clear hk; intro a w hk
        refine FW.lfun (y := .lit (.bool t5.2)) hk rfl rfl rfl rfl (FW.f_extract hk (FW.holds_nil _) rfl rfl) ?_; clear hk; intro a w hk
        refine FW.lfun (y := .lit (.int .i64 t5.1)) hk rfl rfl rfl rfl (FW.f_assign hk (FW.holds_nil _) rfl) ?_; clear hk; intro a w hk
        refine FW.lfun (y := .lit (.bool t5.2)) hk rfl rfl rfl rfl (FW.f_assign hk (FW.holds_nil _) rfl) ?_; clear hk; intro a w hk
        refine FW.lend (hK21 _ _ ?_); clear hK21 K'
        refine FW.wreg ?_; intro K' hK22
        refine FW.lfun (y := .lit (.bool t5.2)) hk rfl rfl rfl rfl (FW.f_move hk (FW.holds_nil _) rfl) ?_; clear hk; intro a w hk
        refine FW.lfun (y := .lit (.bool t5.2)) hk rfl rfl rfl rfl (FW.f_move hk (FW.holds_nil _) rfl) ?_; clear hk; intro a w hk
        refine FW.lfunG (y := .lit (.bool ((decide (((List.getD v0.L (Int.toNat (IntKind.wrap .i64 (v0.I + 1))) default).Kind) = 5)) && (decide (((List.getD v0.L (Int.toNat (IntKind.wrap .i64 (v0.I + 1))) default).S) = ([40] : List UInt8)))))) hk rfl rfl rfl rfl rfl rfl rfl rfl (fun hc => FW.f_move hk hc rfl) ?_; clear hk; intro a w hk
        refine FW.lfun (y := .lit (.bool (t5.2 && ((decide (((List.getD v0.L (Int.toNat (IntKind.wrap .i64 (v0.I + 1))) default).Kind) = 5)) && (decide (((List.getD v0.L (Int.toNat (IntKind.wrap .i64 (v0.I + 1))) default).S) = ([40] : List UInt8))))))) hk rfl rfl rfl rfl ((FW.f_pure (FW.p_pick_and hk.kn (FW.holds_nil _) rfl rfl))) ?_; clear hk; intro a w hk
        refine FW.lend (hK22 _ _ ?_); clear hK22 K'
        refine FW.wcondF (b := (t5.2 && ((decide (((List.getD v0.L (Int.toNat (IntKind.wrap .i64 (v0.I + 1))) default).Kind) = 5)) && (decide (((List.getD v0.L (Int.toNat (IntKind.wrap .i64 (v0.I + 1))) default).S) = ([40] : List UInt8)))))) hk h rfl (fun h hb => ?_) (fun h hb => ?_)
        · skip
          refine FW.wreg ?_; intro K' hK23
          refine FW.lfun (y := .agg ((Offshootref12State.cells v0))) hk rfl rfl rfl rfl (FW.f_loadBlk hk (FW.holds_nil _) (j := 6) rfl rfl Go.Proofs.Try.underlying62 rfl rfl rfl rfl) ?_; clear hk; intro a w hk
          obtain ⟨t6, hr_t6, h⟩ := FW.bnd h
          refine FW.lfun (y := .tup [.agg ((Offshootref12State.cells t6.1)), .agg ((ApiPred.cells t6.2))]) hk rfl rfl rfl rfl (FW.f_call hk (FW.holds_nil _) rfl rfl Go.Proofs.Try.func66 rfl (by kernel_rfl) (offshootref12_State_pred.ok K v0 _ hr_t6)) ?_; clear hk; intro a w hk
          refine FW.lfun (y := .tup [.agg ((Offshootref12State.cells t6.1)), .agg ((ApiPred.cells t6.2))]) hk rfl rfl rfl rfl (FW.f_move hk (FW.holds_nil _) rfl) ?_; clear hk; intro a w hk
          refine FW.lfun (y := .agg ((Offshootref12State.cells t6.1))) hk rfl rfl rfl rfl (FW.f_extract hk (FW.holds_nil _) rfl rfl) ?_; clear hk; intro a w hk
          refine FW.lfun (y := .agg ((ApiPred.cells t6.2))) hk rfl rfl rfl rfl (FW.f_extract hk (FW.holds_nil _) rfl rfl) ?_; clear hk; intro a w hk
          refine FW.l_alloc (zs := (Offshootref12State.cells (⟨[], 0, 0, 0, 0, 0⟩ : Offshootref12State))) [] hk rfl rfl rfl rfl ?_; clear hk; intro b8 a w hk
          refine FW.l_alloc (zs := (ApiPred.cells (⟨[], [], []⟩ : ApiPred))) [] hk rfl rfl rfl rfl ?_; clear hk; intro b9 a w hk
          refine FW.l_store (I' := [FW.blk b9 36 ((ApiPred.cells (⟨[], [], []⟩ : ApiPred))), FW.blk b8 62 ((Offshootref12State.cells t6.1)), FW.blk b7 52 ((ApiWord.cells (List.getD v0.L (Int.toNat (IntKind.wrap .i64 (v0.I + 1))) default))), FW.blk b6 52 ((ApiWord.cells (List.getD v0.L (Int.toNat v0.I) default))), FW.blk b5 33 ((ApiValue.cells t1.2.1)), FW.blk b4 62 ((Offshootref12State.cells t1.1)), FW.blk b3 38 ((ApiArg.cells (⟨0, (⟨0, false, 0, 0, [], []⟩ : ApiValue), (⟨[], [], []⟩ : ApiPred), []⟩ : ApiArg))), FW.blk b2 62 ((Offshootref12State.cells (⟨[], 0, 0, 0, 0, 0⟩ : Offshootref12State))), FW.blk b1 62 ((Offshootref12State.cells v0))]) (cs' := (Offshootref12State.cells t6.1)) (j := 1) hk rfl rfl rfl rfl rfl (by kernel_rfl) rfl rfl ?_; clear hk; intro w hk
          refine FW.l_store (I' := [FW.blk b9 36 ((ApiPred.cells t6.2)), FW.blk b8 62 ((Offshootref12State.cells t6.1)), FW.blk b7 52 ((ApiWord.cells (List.getD v0.L (Int.toNat (IntKind.wrap .i64 (v0.I + 1))) default))), FW.blk b6 52 ((ApiWord.cells (List.getD v0.L (Int.toNat v0.I) default))), FW.blk b5 33 ((ApiValue.cells t1.2.1)), FW.blk b4 62 ((Offshootref12State.cells t1.1)), FW.blk b3 38 ((ApiArg.cells (⟨0, (⟨0, false, 0, 0, [], []⟩ : ApiValue), (⟨[], [], []⟩ : ApiPred), []⟩ : ApiArg))), FW.blk b2 62 ((Offshootref12State.cells (⟨[], 0, 0, 0, 0, 0⟩ : Offshootref12State))), FW.blk b1 62 ((Offshootref12State.cells v0))]) (cs' := (ApiPred.cells t6.2)) (j := 0) hk rfl rfl rfl rfl rfl (by kernel_rfl) rfl rfl ?_; clear hk; intro w hk
          refine FW.lend (hK23 _ _ ?_); clear hK23 K'
          refine FW.wdrawE (need := [false, false, false, false, false]) [(3, [true, true, true, false, false], [true, true, true, false, false]), (4, [false, true, true, false, false], [true, true, true, true, false])] [(70, [], .agg ((Offshootref12State.cells t6.1))), (71, [], .agg ((ApiPred.cells t6.2))), (72, [], .agg ((ApiArg.cells (⟨2, (⟨0, false, 0, 0, [], []⟩ : ApiValue), t6.2, []⟩ : ApiArg)))), (122, [], .lit undef), (122, [], .lit undef)] (by kernel_rfl) (by kernel_rfl) (by kernel_rfl) (by kernel_rfl) hk ?_; clear hk
          refine FW.gnext0 ?_ rfl rfl rfl ?_
          · skip
            refine FW.gfun (y := .agg ((Offshootref12State.cells t6.1))) rfl rfl rfl rfl (fun a w hk => FW.f_loadBlk hk (FW.holds_nil _) (j := 1) rfl rfl Go.Proofs.Try.underlying62 rfl rfl rfl rfl) ?_
            refine FW.gfun (y := .agg ((ApiPred.cells t6.2))) rfl rfl rfl rfl (fun a w hk => FW.f_loadBlk hk (FW.holds_nil _) (j := 0) rfl rfl Go.Proofs.Try.underlying36 rfl rfl rfl rfl) ?_
            refine FW.gfun (y := .agg ((ApiArg.cells (⟨2, (⟨0, false, 0, 0, [], []⟩ : ApiValue), t6.2, []⟩ : ApiArg)))) rfl rfl rfl rfl (fun a w hk => FW.f_buildN [] hk (FW.holds_nil _) rfl rfl rfl) ?_
            refine FW.gskip0 rfl ?_
            refine FW.gskip0 rfl ?_
            exact FW.gend
          · skip
            intro σD a w opsD QD hk hQ
            refine FW.l_store (I' := [FW.blk b9 36 ((ApiPred.cells t6.2)), FW.blk b8 62 ((Offshootref12State.cells t6.1)), FW.blk b7 52 ((ApiWord.cells (List.getD v0.L (Int.toNat (IntKind.wrap .i64 (v0.I + 1))) default))), FW.blk b6 52 ((ApiWord.cells (List.getD v0.L (Int.toNat v0.I) default))), FW.blk b5 33 ((ApiValue.cells t1.2.1)), FW.blk b4 62 ((Offshootref12State.cells t1.1)), FW.blk b3 38 ((ApiArg.cells (⟨0, (⟨0, false, 0, 0, [], []⟩ : ApiValue), (⟨[], [], []⟩ : ApiPred), []⟩ : ApiArg))), FW.blk b2 62 ((Offshootref12State.cells t6.1)), FW.blk b1 62 ((Offshootref12State.cells v0))]) (cs' := (Offshootref12State.cells t6.1)) (j := 7) hk rfl rfl rfl rfl rfl (by kernel_rfl) rfl rfl ?_; clear hk; intro w hk
            refine hQ _ a w ?_ hk; clear hk hQ
            refine ⟨[(70, [], .agg ((Offshootref12State.cells t6.1))), (71, [], .agg ((ApiPred.cells t6.2))), (72, [], .agg ((ApiArg.cells (⟨2, (⟨0, false, 0, 0, [], []⟩ : ApiValue), t6.2, []⟩ : ApiArg)))), (122, [], .lit undef), (122, [], .lit undef)], And.intro rfl (And.intro rfl (And.intro rfl (trivial))), rfl, ?_⟩
            refine FW.gnext0 ?_ rfl rfl rfl ?_
            · skip
              refine FW.gskip rfl rfl ?_
              refine FW.gfun (y := .agg ((ApiPred.cells t6.2))) rfl rfl rfl rfl (fun a w hk => FW.f_loadBlk hk (FW.holds_nil _) (j := 0) rfl rfl Go.Proofs.Try.underlying36 rfl rfl rfl rfl) ?_
              refine FW.gfun (y := .agg ((ApiArg.cells (⟨2, (⟨0, false, 0, 0, [], []⟩ : ApiValue), t6.2, []⟩ : ApiArg)))) rfl rfl rfl rfl (fun a w hk => FW.f_buildN [] hk (FW.holds_nil _) rfl rfl rfl) ?_
              refine FW.gskip0 rfl ?_
              refine FW.gskip0 rfl ?_
              exact FW.gend
            · skip
              intro σD a w opsD QD hk hQ
              refine FW.l_store (I' := [FW.blk b9 36 ((ApiPred.cells t6.2)), FW.blk b8 62 ((Offshootref12State.cells t6.1)), FW.blk b7 52 ((ApiWord.cells (List.getD v0.L (Int.toNat (IntKind.wrap .i64 (v0.I + 1))) default))), FW.blk b6 52 ((ApiWord.cells (List.getD v0.L (Int.toNat v0.I) default))), FW.blk b5 33 ((ApiValue.cells t1.2.1)), FW.blk b4 62 ((Offshootref12State.cells t1.1)), FW.blk b3 38 ((ApiArg.cells (⟨2, (⟨0, false, 0, 0, [], []⟩ : ApiValue), t6.2, []⟩ : ApiArg))), FW.blk b2 62 ((Offshootref12State.cells t6.1)), FW.blk b1 62 ((Offshootref12State.cells v0))]) (cs' := (ApiArg.cells (⟨2, (⟨0, false, 0, 0, [], []⟩ : ApiValue), t6.2, []⟩ : ApiArg))) (j := 6) hk rfl rfl rfl rfl rfl (by kernel_rfl) rfl rfl ?_; clear hk; intro w hk
              refine hQ _ a w ?_ hk; clear hk hQ
              refine ⟨[(70, [], .agg ((Offshootref12State.cells t6.1))), (71, [], .agg ((ApiPred.cells t6.2))), (72, [], .agg ((ApiArg.cells (⟨2, (⟨0, false, 0, 0, [], []⟩ : ApiValue), t6.2, []⟩ : ApiArg)))), (122, [], .lit undef), (122, [], .lit undef)], And.intro rfl (And.intro rfl (And.intro rfl (And.intro rfl (trivial)))), rfl, ?_⟩
              refine FW.glast ?_ ?_
              · skip
                refine FW.gskip rfl rfl ?_
                refine FW.gskip rfl rfl ?_
                refine FW.gskip rfl rfl ?_
                refine FW.gskip0 rfl ?_
                refine FW.gskip0 rfl ?_
                exact FW.gend
              · skip
                intro a w hk; simp only [FW.stD, cond_true] at hk
                refine wp_ret ?_
                (repeat first | refine FW.then_ret ?_ | refine FW.block_ret ?_)
                obtain rfl := Option.some.inj h
                exact FW.fretR2 hk rfl (FW.rcell hk rfl (j := 7) rfl Go.Proofs.Try.underlying62 rfl (by kernel_rfl)) (FW.rcell hk rfl (j := 6) rfl Go.Proofs.Try.underlying38 rfl (by kernel_rfl))
        · skip
          refine wp_skip ?_
          (repeat first | refine FW.then_normal ?_ | refine FW.block_normal ?_); refine hK20 _ _ ?_
          refine FW.wreg ?_; intro K' hK25
          refine FW.lfun (y := .lit (.bool ((decide (((List.getD v0.L (Int.toNat (IntKind.wrap .i64 (v0.I + 1))) default).Kind) = 5)) && (decide (((List.getD v0.L (Int.toNat (IntKind.wrap .i64 (v0.I + 1))) default).S) = ([40] : List UInt8)))))) hk rfl rfl rfl rfl (FW.f_move hk (FW.holds_nil _) rfl) ?_; clear hk; intro a w hk
          refine FW.lfun (y := .lit (.bool (!((decide (((List.getD v0.L (Int.toNat (IntKind.wrap .i64 (v0.I + 1))) default).Kind) = 5)) && (decide (((List.getD v0.L (Int.toNat (IntKind.wrap .i64 (v0.I + 1))) default).S) = ([40] : List UInt8))))))) hk rfl rfl rfl rfl ((FW.f_pure (FW.p_not hk.kn (FW.holds_nil _) rfl))) ?_; clear hk; intro a w hk
          refine FW.lfun (y := .lit (.bool (!((decide (((List.getD v0.L (Int.toNat (IntKind.wrap .i64 (v0.I + 1))) default).Kind) = 5)) && (decide (((List.getD v0.L (Int.toNat (IntKind.wrap .i64 (v0.I + 1))) default).S) = ([40] : List UInt8))))))) hk rfl rfl rfl rfl (FW.f_move hk (FW.holds_nil _) rfl) ?_; clear hk; intro a w hk
          refine FW.lfunG (y := .lit (.pointer (some ⟨b6, 1, none⟩))) hk rfl rfl rfl rfl rfl rfl rfl rfl (fun hc => FW.f_fieldPtr hk hc rfl Go.Proofs.Try.underlying52 rfl (by kernel_rfl) rfl) ?_; clear hk; intro a w hk
          refine FW.lfunG (y := .lit (.string (FW.B ((List.getD v0.L (Int.toNat v0.I) default).S)))) hk rfl rfl rfl rfl rfl rfl rfl rfl (fun hc => FW.f_loadBlk1 hk hc (j := 1) rfl rfl Go.Proofs.Try.underlying9 rfl rfl) ?_; clear hk; intro a w hk
          refine FW.lfunG (y := .lit (.bool (!decide (((List.getD v0.L (Int.toNat v0.I) default).S) = ([95, 95] : List UInt8))))) hk rfl rfl rfl rfl rfl rfl rfl rfl (fun hc => (FW.f_pure (FW.p_sneq hk.kn hc rfl rfl))) ?_; clear hk; intro a w hk
          refine FW.lfun (y := .lit (.bool ((!((decide (((List.getD v0.L (Int.toNat (IntKind.wrap .i64 (v0.I + 1))) default).Kind) = 5)) && (decide (((List.getD v0.L (Int.toNat (IntKind.wrap .i64 (v0.I + 1))) default).S) = ([40] : List UInt8))))) && (!decide (((List.getD v0.L (Int.toNat v0.I) default).S) = ([95, 95] : List UInt8)))))) hk rfl rfl rfl rfl ((FW.f_pure (FW.p_pick_and hk.kn (FW.holds_nil _) rfl rfl))) ?_; clear hk; intro a w hk
          refine FW.lend (hK25 _ _ ?_); clear hK25 K'
          refine FW.wcondF (b := ((!((decide (((List.getD v0.L (Int.toNat (IntKind.wrap .i64 (v0.I + 1))) default).Kind) = 5)) && (decide (((List.getD v0.L (Int.toNat (IntKind.wrap .i64 (v0.I + 1))) default).S) = ([40] : List UInt8))))) && (!decide (((List.getD v0.L (Int.toNat v0.I) default).S) = ([95, 95] : List UInt8))))) hk h rfl (fun h hb => ?_) (fun h hb => ?_)
          · skip
            refine FW.wreg ?_; intro K' hK26
            refine FW.lfun (y := .lit (.pointer (some ⟨b1, 1, none⟩))) hk rfl rfl rfl rfl (FW.f_fieldPtr hk (FW.holds_nil _) rfl Go.Proofs.Try.underlying62 rfl (by kernel_rfl) rfl) ?_; clear hk; intro a w hk
            refine FW.lfun (y := .lit (.int .i64 v0.I)) hk rfl rfl rfl rfl (FW.f_loadBlk1 hk (FW.holds_nil _) (j := 6) rfl rfl Go.Proofs.Try.underlying3 rfl rfl) ?_; clear hk; intro a w hk
            refine FW.lfun (y := .lit (.int .i64 (IntKind.wrap .i64 (v0.I + 1)))) hk rfl rfl rfl rfl ((FW.f_pure (FW.p_add hk.kn (FW.holds_nil _) rfl rfl))) ?_; clear hk; intro a w hk
            refine FW.lfun (y := .lit (.pointer (some ⟨b1, 1, none⟩))) hk rfl rfl rfl rfl (FW.f_fieldPtr hk (FW.holds_nil _) rfl Go.Proofs.Try.underlying62 rfl (by kernel_rfl) rfl) ?_; clear hk; intro a w hk
            refine FW.l_store (I' := [FW.blk b7 52 ((ApiWord.cells (List.getD v0.L (Int.toNat (IntKind.wrap .i64 (v0.I + 1))) default))), FW.blk b6 52 ((ApiWord.cells (List.getD v0.L (Int.toNat v0.I) default))), FW.blk b5 33 ((ApiValue.cells t1.2.1)), FW.blk b4 62 ((Offshootref12State.cells t1.1)), FW.blk b3 38 ((ApiArg.cells (⟨0, (⟨0, false, 0, 0, [], []⟩ : ApiValue), (⟨[], [], []⟩ : ApiPred), []⟩ : ApiArg))), FW.blk b2 62 ((Offshootref12State.cells (⟨[], 0, 0, 0, 0, 0⟩ : Offshootref12State))), FW.blk b1 62 ((Offshootref12State.cells (⟨v0.L, (IntKind.wrap .i64 (v0.I + 1)), v0.Deep, v0.Steps, v0.At, v0.E⟩ : Offshootref12State)))]) (cs' := (Offshootref12State.cells (⟨v0.L, (IntKind.wrap .i64 (v0.I + 1)), v0.Deep, v0.Steps, v0.At, v0.E⟩ : Offshootref12State))) (j := 6) hk rfl rfl rfl rfl rfl (by kernel_rfl) rfl rfl ?_; clear hk; intro w hk
            refine FW.lend (hK26 _ _ ?_); clear hK26 K'
            refine FW.wdrawE (need := [false, false, false, false, false, false, false]) [(5, [true, true, true, true, true, false, false], [true, true, true, true, true, false, false]), (6, [false, true, true, true, true, false, false], [true, true, true, true, true, true, false])] [(84, [], .agg ((Offshootref12State.cells (⟨v0.L, (IntKind.wrap .i64 (v0.I + 1)), v0.Deep, v0.Steps, v0.At, v0.E⟩ : Offshootref12State)))), (85, [], .lit (.pointer (some ⟨b6, 1, none⟩))), (86, [], .lit (.string (FW.B ((List.getD v0.L (Int.toNat v0.I) default).S)))), (87, [], .agg ((ApiValue.cells (⟨4, false, 0, 0, (List.getD v0.L (Int.toNat v0.I) default).S, []⟩ : ApiValue)))), (88, [], .agg ((ApiArg.cells (⟨4, (⟨4, false, 0, 0, (List.getD v0.L (Int.toNat v0.I) default).S, []⟩ : ApiValue), (⟨[], [], []⟩ : ApiPred), []⟩ : ApiArg)))), (122, [], .lit undef), (122, [], .lit undef)] (by kernel_rfl) (by kernel_rfl) (by kernel_rfl) (by kernel_rfl) hk ?_; clear hk
            refine FW.gnext0 ?_ rfl rfl rfl ?_
            · skip
              refine FW.gfun (y := .agg ((Offshootref12State.cells (⟨v0.L, (IntKind.wrap .i64 (v0.I + 1)), v0.Deep, v0.Steps, v0.At, v0.E⟩ : Offshootref12State)))) rfl rfl rfl rfl (fun a w hk => FW.f_loadBlk hk (FW.holds_nil _) (j := 6) rfl rfl Go.Proofs.Try.underlying62 rfl rfl rfl rfl) ?_
              refine FW.gfun (y := .lit (.pointer (some ⟨b6, 1, none⟩))) rfl rfl rfl rfl (fun a w hk => FW.f_fieldPtr hk (FW.holds_nil _) rfl Go.Proofs.Try.underlying52 rfl (by kernel_rfl) rfl) ?_
              refine FW.gfun (y := .lit (.string (FW.B ((List.getD v0.L (Int.toNat v0.I) default).S)))) rfl rfl rfl rfl (fun a w hk => FW.f_loadBlk1 hk (FW.holds_nil _) (j := 1) rfl rfl Go.Proofs.Try.underlying9 rfl rfl) ?_
              refine FW.gfun (y := .agg ((ApiValue.cells (⟨4, false, 0, 0, (List.getD v0.L (Int.toNat v0.I) default).S, []⟩ : ApiValue)))) rfl rfl rfl rfl (fun a w hk => FW.f_buildN [] hk (FW.holds_nil _) rfl rfl rfl) ?_
              refine FW.gfun (y := .agg ((ApiArg.cells (⟨4, (⟨4, false, 0, 0, (List.getD v0.L (Int.toNat v0.I) default).S, []⟩ : ApiValue), (⟨[], [], []⟩ : ApiPred), []⟩ : ApiArg)))) rfl rfl rfl rfl (fun a w hk => FW.f_buildN [] hk (FW.holds_nil _) rfl rfl rfl) ?_
              refine FW.gskip0 rfl ?_
              refine FW.gskip0 rfl ?_
              exact FW.gend
            · skip
              intro σD a w opsD QD hk hQ
              refine FW.l_store (I' := [FW.blk b7 52 ((ApiWord.cells (List.getD v0.L (Int.toNat (IntKind.wrap .i64 (v0.I + 1))) default))), FW.blk b6 52 ((ApiWord.cells (List.getD v0.L (Int.toNat v0.I) default))), FW.blk b5 33 ((ApiValue.cells t1.2.1)), FW.blk b4 62 ((Offshootref12State.cells t1.1)), FW.blk b3 38 ((ApiArg.cells (⟨0, (⟨0, false, 0, 0, [], []⟩ : ApiValue), (⟨[], [], []⟩ : ApiPred), []⟩ : ApiArg))), FW.blk b2 62 ((Offshootref12State.cells (⟨v0.L, (IntKind.wrap .i64 (v0.I + 1)), v0.Deep, v0.Steps, v0.At, v0.E⟩ : Offshootref12State))), FW.blk b1 62 ((Offshootref12State.cells (⟨v0.L, (IntKind.wrap .i64 (v0.I + 1)), v0.Deep, v0.Steps, v0.At, v0.E⟩ : Offshootref12State)))]) (cs' := (Offshootref12State.cells (⟨v0.L, (IntKind.wrap .i64 (v0.I + 1)), v0.Deep, v0.Steps, v0.At, v0.E⟩ : Offshootref12State))) (j := 5) hk rfl rfl rfl rfl rfl (by kernel_rfl) rfl rfl ?_; clear hk; intro w hk
              refine hQ _ a w ?_ hk; clear hk hQ
              refine ⟨[(84, [], .agg ((Offshootref12State.cells (⟨v0.L, (IntKind.wrap .i64 (v0.I + 1)), v0.Deep, v0.Steps, v0.At, v0.E⟩ : Offshootref12State)))), (85, [], .lit (.pointer (some ⟨b6, 1, none⟩))), (86, [], .lit (.string (FW.B ((List.getD v0.L (Int.toNat v0.I) default).S)))), (87, [], .agg ((ApiValue.cells (⟨4, false, 0, 0, (List.getD v0.L (Int.toNat v0.I) default).S, []⟩ : ApiValue)))), (88, [], .agg ((ApiArg.cells (⟨4, (⟨4, false, 0, 0, (List.getD v0.L (Int.toNat v0.I) default).S, []⟩ : ApiValue), (⟨[], [], []⟩ : ApiPred), []⟩ : ApiArg)))), (122, [], .lit undef), (122, [], .lit undef)], And.intro rfl (And.intro rfl (And.intro rfl (And.intro rfl (And.intro rfl (trivial))))), rfl, ?_⟩
              refine FW.gnext0 ?_ rfl rfl rfl ?_
              · skip
                refine FW.gskip rfl rfl ?_
                refine FW.gfun (y := .lit (.pointer (some ⟨b6, 1, none⟩))) rfl rfl rfl rfl (fun a w hk => FW.f_fieldPtr hk (FW.holds_nil _) rfl Go.Proofs.Try.underlying52 rfl (by kernel_rfl) rfl) ?_
                refine FW.gfun (y := .lit (.string (FW.B ((List.getD v0.L (Int.toNat v0.I) default).S)))) rfl rfl rfl rfl (fun a w hk => FW.f_loadBlk1 hk (FW.holds_nil _) (j := 1) rfl rfl Go.Proofs.Try.underlying9 rfl rfl) ?_
                refine FW.gfun (y := .agg ((ApiValue.cells (⟨4, false, 0, 0, (List.getD v0.L (Int.toNat v0.I) default).S, []⟩ : ApiValue)))) rfl rfl rfl rfl (fun a w hk => FW.f_buildN [] hk (FW.holds_nil _) rfl rfl rfl) ?_
                refine FW.gfun (y := .agg ((ApiArg.cells (⟨4, (⟨4, false, 0, 0, (List.getD v0.L (Int.toNat v0.I) default).S, []⟩ : ApiValue), (⟨[], [], []⟩ : ApiPred), []⟩ : ApiArg)))) rfl rfl rfl rfl (fun a w hk => FW.f_buildN [] hk (FW.holds_nil _) rfl rfl rfl) ?_
                refine FW.gskip0 rfl ?_
                refine FW.gskip0 rfl ?_
                exact FW.gend
              · skip
                intro σD a w opsD QD hk hQ
                refine FW.l_store (I' := [FW.blk b7 52 ((ApiWord.cells (List.getD v0.L (Int.toNat (IntKind.wrap .i64 (v0.I + 1))) default))), FW.blk b6 52 ((ApiWord.cells (List.getD v0.L (Int.toNat v0.I) default))), FW.blk b5 33 ((ApiValue.cells t1.2.1)), FW.blk b4 62 ((Offshootref12State.cells t1.1)), FW.blk b3 38 ((ApiArg.cells (⟨4, (⟨4, false, 0, 0, (List.getD v0.L (Int.toNat v0.I) default).S, []⟩ : ApiValue), (⟨[], [], []⟩ : ApiPred), []⟩ : ApiArg))), FW.blk b2 62 ((Offshootref12State.cells (⟨v0.L, (IntKind.wrap .i64 (v0.I + 1)), v0.Deep, v0.Steps, v0.At, v0.E⟩ : Offshootref12State))), FW.blk b1 62 ((Offshootref12State.cells (⟨v0.L, (IntKind.wrap .i64 (v0.I + 1)), v0.Deep, v0.Steps, v0.At, v0.E⟩ : Offshootref12State)))]) (cs' := (ApiArg.cells (⟨4, (⟨4, false, 0, 0, (List.getD v0.L (Int.toNat v0.I) default).S, []⟩ : ApiValue), (⟨[], [], []⟩ : ApiPred), []⟩ : ApiArg))) (j := 4) hk rfl rfl rfl rfl rfl (by kernel_rfl) rfl rfl ?_; clear hk; intro w hk
                refine hQ _ a w ?_ hk; clear hk hQ
                refine ⟨[(84, [], .agg ((Offshootref12State.cells (⟨v0.L, (IntKind.wrap .i64 (v0.I + 1)), v0.Deep, v0.Steps, v0.At, v0.E⟩ : Offshootref12State)))), (85, [], .lit (.pointer (some ⟨b6, 1, none⟩))), (86, [], .lit (.string (FW.B ((List.getD v0.L (Int.toNat v0.I) default).S)))), (87, [], .agg ((ApiValue.cells (⟨4, false, 0, 0, (List.getD v0.L (Int.toNat v0.I) default).S, []⟩ : ApiValue)))), (88, [], .agg ((ApiArg.cells (⟨4, (⟨4, false, 0, 0, (List.getD v0.L (Int.toNat v0.I) default).S, []⟩ : ApiValue), (⟨[], [], []⟩ : ApiPred), []⟩ : ApiArg)))), (122, [], .lit undef), (122, [], .lit undef)], And.intro rfl (And.intro rfl (And.intro rfl (And.intro rfl (And.intro rfl (And.intro rfl (trivial)))))), rfl, ?_⟩
                refine FW.glast ?_ ?_
                · skip
                  refine FW.gskip rfl rfl ?_
                  refine FW.gskip rfl rfl ?_
                  refine FW.gskip rfl rfl ?_
                  refine FW.gskip rfl rfl ?_
                  refine FW.gskip rfl rfl ?_
                  refine FW.gskip0 rfl ?_
                  refine FW.gskip0 rfl ?_
                  exact FW.gend
                · skip
                  intro a w hk; simp only [FW.stD, cond_true] at hk
                  refine wp_ret ?_
                  (repeat first | refine FW.then_ret ?_ | refine FW.block_ret ?_)
                  obtain rfl := Option.some.inj h
                  exact FW.fretR2 hk rfl (FW.rcell hk rfl (j := 5) rfl Go.Proofs.Try.underlying62 rfl (by kernel_rfl)) (FW.rcell hk rfl (j := 4) rfl Go.Proofs.Try.underlying38 rfl (by kernel_rfl))
          · skip
            refine wp_skip ?_
            (repeat first | refine FW.then_normal ?_ | refine FW.block_normal ?_); exact hK7 _ _ ⟨(List.getD v0.L (Int.toNat v0.I) default), (⟨0, (⟨0, false, 0, 0, [], []⟩ : ApiValue), (⟨[], [], []⟩ : ApiPred), []⟩ : ApiArg), (⟨[], 0, 0, 0, 0, 0⟩ : Offshootref12State), v0, (((hk.drop 3).drop 2).drop 0).sub ⟨rfl, rfl, rfl, rfl, trivial⟩, h⟩
      · skip
        refine wp_skip ?_
        (repeat first | refine FW.then_normal ?_ | refine FW.block_normal ?_); exact hK7 _ _ ⟨(List.getD v0.L (Int.toNat v0.I) default), (⟨0, (⟨0, false, 0, 0, [], []⟩ : ApiValue), (⟨[], [], []⟩ : ApiPred), []⟩ : ApiArg), (⟨[], 0, 0, 0, 0, 0⟩ : Offshootref12State), v0, ((hk.drop 2).drop 1).sub ⟨rfl, rfl, rfl, rfl, trivial⟩, h⟩
theorem offshootref12_State_steps_knot : ∀ K : Nat, (∀ (v0 : Offshootref12State) (r : Offshootref12State × List ApiStep), offshootref12_State_steps.f K v0 = some r → FW.Ok Go.Proofs.Try.prog 29 [.agg (Offshootref12State.cells v0)] (.tup [.agg (Offshootref12State.cells r.1), .row (r_ApiStep_cells r.2)])) ∧ (∀ (v0 : Offshootref12State) (r : Offshootref12State × ApiArg), offshootref12_State_arg.f K v0 = some r → FW.Ok Go.Proofs.Try.prog 49 [.agg (Offshootref12State.cells v0)] (.tup [.agg (Offshootref12State.cells r.1), .agg (ApiArg.cells r.2)]))
  | 0 => ⟨fun v0 r h => by simp [offshootref12_State_steps.f] at h, fun v0 r h => by simp [offshootref12_State_arg.f] at h⟩
  | K + 1 => ⟨fun v0 r h => by rw [offshootref12_State_steps.f] at h; exact offshootref12_State_steps.bok _ _ (offshootref12_State_steps_knot K).1 (offshootref12_State_steps_knot K).2 K v0 r h, fun v0 r h => by rw [offshootref12_State_arg.f] at h; exact offshootref12_State_arg.bok _ _ (offshootref12_State_steps_knot K).1 (offshootref12_State_steps_knot K).2 K v0 r h⟩
theorem offshootref12_State_steps.ok (K : Nat) (v0 : Offshootref12State) (r : Offshootref12State × List ApiStep) (h : offshootref12_State_steps.f K v0 = some r) : FW.Ok Go.Proofs.Try.prog 29 [.agg (Offshootref12State.cells v0)] (.tup [.agg (Offshootref12State.cells r.1), .row (r_ApiStep_cells r.2)]) := (offshootref12_State_steps_knot K).1 v0 r h
theorem offshootref12_State_arg.ok (K : Nat) (v0 : Offshootref12State) (r : Offshootref12State × ApiArg) (h : offshootref12_State_arg.f K v0 = some r) : FW.Ok Go.Proofs.Try.prog 49 [.agg (Offshootref12State.cells v0)] (.tup [.agg (Offshootref12State.cells r.1), .agg (ApiArg.cells r.2)]) := (offshootref12_State_steps_knot K).2 v0 r h

theorem offshootref12_Parse.ok (K : Nat) (v0 : List UInt8) (r : List ApiStep × Int × Int) (h : offshootref12_Parse.f K v0 = some r) :
    FW.Ok Go.Proofs.Try.prog 9 [.lit (.string (FW.B v0))] (.tup [.row (r_ApiStep_cells r.1), .lit (.int .i64 r.2.1), .lit (.int .i64 r.2.2)]) := by
  refine FW.enter (xs := [.lit (.string (FW.B v0))]) Go.Proofs.Try.func9 rfl Go.Proofs.Try.ntmps9 rfl ?_
  intro M w0 a hk
  unfold offshootref12_Parse.f at h
  refine FW.wreg ?_; intro K' hK1
  refine FW.lfun (y := .row (r_ApiStep_cells [])) hk rfl rfl rfl rfl (FW.f_assignNil) ?_; clear hk; intro a w hk
  refine FW.lfun (y := .lit (.int .i64 0)) hk rfl rfl rfl rfl (FW.f_assign hk (FW.holds_nil _) rfl) ?_; clear hk; intro a w hk
  refine FW.lfun (y := .lit (.int .i64 0)) hk rfl rfl rfl rfl (FW.f_assign hk (FW.holds_nil _) rfl) ?_; clear hk; intro a w hk
  refine FW.lend (hK1 _ _ ?_); clear hK1 K'
  refine FW.wreg ?_; intro K' hK2
  refine FW.lfun (y := .lit (.string (FW.B v0))) hk rfl rfl rfl rfl (FW.f_move hk (FW.holds_nil _) rfl) ?_; clear hk; intro a w hk
  obtain ⟨t1, hr_t1, h⟩ := FW.bnd h
  refine FW.lfun (y := .tup [.row (r_ApiWord_cells t1.1), .lit (.int .i64 t1.2.1), .lit (.int .i64 t1.2.2)]) hk rfl rfl rfl rfl (FW.f_call hk (FW.holds_nil _) rfl rfl Go.Proofs.Try.func27 rfl (by kernel_rfl) (offshootref11_Words.ok K v0 _ hr_t1)) ?_; clear hk; intro a w hk
  refine FW.lfun (y := .tup [.row (r_ApiWord_cells t1.1), .lit (.int .i64 t1.2.1), .lit (.int .i64 t1.2.2)]) hk rfl rfl rfl rfl (FW.f_move hk (FW.holds_nil _) rfl) ?_; clear hk; intro a w hk
  refine FW.lfun (y := .row (r_ApiWord_cells t1.1)) hk rfl rfl rfl rfl (FW.f_extract hk (FW.holds_nil _) rfl rfl) ?_; clear hk; intro a w hk
  refine FW.lfun (y := .lit (.int .i64 t1.2.1)) hk rfl rfl rfl rfl (FW.f_extract hk (FW.holds_nil _) rfl rfl) ?_; clear hk; intro a w hk
  refine FW.lfun (y := .lit (.int .i64 t1.2.2)) hk rfl rfl rfl rfl (FW.f_extract hk (FW.holds_nil _) rfl rfl) ?_; clear hk; intro a w hk
  refine FW.lfun (y := .row (r_ApiWord_cells t1.1)) hk rfl rfl rfl rfl (FW.f_assign hk (FW.holds_nil _) rfl) ?_; clear hk; intro a w hk
  refine FW.lfun (y := .lit (.int .i64 t1.2.1)) hk rfl rfl rfl rfl (FW.f_assign hk (FW.holds_nil _) rfl) ?_; clear hk; intro a w hk
  refine FW.lfun (y := .lit (.int .i64 t1.2.2)) hk rfl rfl rfl rfl (FW.f_assign hk (FW.holds_nil _) rfl) ?_; clear hk; intro a w hk
  refine FW.lend (hK2 _ _ ?_); clear hK2 K'
  refine FW.wseq ?_; intro K' hK3
  refine FW.wreg ?_; intro K' hK4
  refine FW.lfun (y := .lit (.int .i64 t1.2.2)) hk rfl rfl rfl rfl (FW.f_move hk (FW.holds_nil _) rfl) ?_; clear hk; intro a w hk
  refine FW.lfun (y := .lit (.bool (!decide (t1.2.2 = 0)))) hk rfl rfl rfl rfl ((FW.f_pure (FW.p_neq hk.kn (FW.holds_nil _) rfl rfl))) ?_; clear hk; intro a w hk
  refine FW.lend (hK4 _ _ ?_); clear hK4 K'
  refine FW.wcondF (b := (!decide (t1.2.2 = 0))) hk h rfl (fun h hb => ?_) (fun h hb => ?_)
  · skip
    refine FW.wreg ?_; intro K' hK5
    refine FW.lfun (y := .lit (.int .i64 t1.2.1)) hk rfl rfl rfl rfl (FW.f_move hk (FW.holds_nil _) rfl) ?_; clear hk; intro a w hk
    refine FW.lfun (y := .lit (.int .i64 t1.2.2)) hk rfl rfl rfl rfl (FW.f_move hk (FW.holds_nil _) rfl) ?_; clear hk; intro a w hk
    refine FW.lfun (y := .row (r_ApiStep_cells [])) hk rfl rfl rfl rfl (FW.f_assignNil) ?_; clear hk; intro a w hk
    refine FW.lfun (y := .lit (.int .i64 t1.2.1)) hk rfl rfl rfl rfl (FW.f_assign hk (FW.holds_nil _) rfl) ?_; clear hk; intro a w hk
    refine FW.lfun (y := .lit (.int .i64 t1.2.2)) hk rfl rfl rfl rfl (FW.f_assign hk (FW.holds_nil _) rfl) ?_; clear hk; intro a w hk
    refine FW.lend (hK5 _ _ ?_); clear hK5 K'
    refine wp_ret ?_
    (repeat first | refine FW.then_ret ?_ | refine FW.block_ret ?_)
    obtain rfl := Option.some.inj h
    exact FW.fret3 hk rfl rfl rfl rfl
  · skip
    refine wp_skip ?_
    (repeat first | refine FW.then_normal ?_ | refine FW.block_normal ?_); refine hK3 _ _ ?_
    refine FW.wreg ?_; intro K' hK6
    refine FW.lfun (y := .row (r_ApiWord_cells t1.1)) hk rfl rfl rfl rfl (FW.f_move hk (FW.holds_nil _) rfl) ?_; clear hk; intro a w hk
    refine FW.lfun (y := .agg ((Offshootref12State.cells (⟨t1.1, 0, 0, 0, 0, 0⟩ : Offshootref12State)))) hk rfl rfl rfl rfl (FW.f_buildN [] hk (FW.holds_nil _) rfl rfl rfl) ?_; clear hk; intro a w hk
    refine FW.l_alloc (zs := (Offshootref12State.cells (⟨[], 0, 0, 0, 0, 0⟩ : Offshootref12State))) [] hk rfl rfl rfl rfl ?_; clear hk; intro b1 a w hk
    refine FW.l_store (I' := [FW.blk b1 62 ((Offshootref12State.cells (⟨t1.1, 0, 0, 0, 0, 0⟩ : Offshootref12State)))]) (cs' := (Offshootref12State.cells (⟨t1.1, 0, 0, 0, 0, 0⟩ : Offshootref12State))) (j := 0) hk rfl rfl rfl rfl rfl (by kernel_rfl) rfl rfl ?_; clear hk; intro w hk
    refine FW.lend (hK6 _ _ ?_); clear hK6 K'
    refine FW.wseq ?_; intro K' hK7
    refine FW.wreg ?_; intro K' hK8
    refine FW.lfun (y := .row (r_ApiWord_cells t1.1)) hk rfl rfl rfl rfl (FW.f_move hk (FW.holds_nil _) rfl) ?_; clear hk; intro a w hk
    obtain ⟨hc1, h⟩ := FW.chk h
    refine FW.lfun (y := .ref (ApiWord.cells (List.getD t1.1 (Int.toNat 0) default))) hk rfl rfl rfl rfl (FW.f_indexAddr (R := r_ApiWord_cells) (f := ApiWord.cells) (l := t1.1) (sz := 5) r_ApiWord_cells_eq (fun _ => rfl) hk (FW.holds_nil _) rfl rfl Go.Proofs.Try.underlying48 (by kernel_rfl) hc1) ?_; clear hk; intro a w hk
    refine FW.lfun (y := .ref (List.drop 0 (ApiWord.cells (List.getD t1.1 (Int.toNat 0) default)))) hk rfl rfl rfl rfl (FW.f_fieldAddr hk (FW.holds_nil _) rfl Go.Proofs.Try.underlying52 rfl (by kernel_rfl) rfl) ?_; clear hk; intro a w hk
    refine FW.lfun (y := .lit (.int .i64 ((List.getD t1.1 (Int.toNat 0) default).Kind))) hk rfl rfl rfl rfl (FW.f_load1 hk (FW.holds_nil _) rfl rfl Go.Proofs.Try.underlying3 rfl) ?_; clear hk; intro a w hk
    refine FW.lfun (y := .lit (.bool (!decide (((List.getD t1.1 (Int.toNat 0) default).Kind) = 1)))) hk rfl rfl rfl rfl ((FW.f_pure (FW.p_neq hk.kn (FW.holds_nil _) rfl rfl))) ?_; clear hk; intro a w hk
    refine FW.lfun (y := .lit (.bool (!decide (((List.getD t1.1 (Int.toNat 0) default).Kind) = 1)))) hk rfl rfl rfl rfl (FW.f_move hk (FW.holds_nil _) rfl) ?_; clear hk; intro a w hk
    refine FW.lfunG (y := .row (r_ApiWord_cells t1.1)) hk rfl rfl rfl rfl rfl rfl rfl rfl (fun hc => FW.f_move hk hc rfl) ?_; clear hk; intro a w hk
    obtain ⟨hc2, h⟩ := FW.chk h
    refine FW.lfunG (y := .ref (ApiWord.cells (List.getD t1.1 (Int.toNat 0) default))) hk rfl rfl rfl rfl rfl rfl rfl rfl (fun hc => FW.f_indexAddr (R := r_ApiWord_cells) (f := ApiWord.cells) (l := t1.1) (sz := 5) r_ApiWord_cells_eq (fun _ => rfl) hk hc rfl rfl Go.Proofs.Try.underlying48 (by kernel_rfl) hc2) ?_; clear hk; intro a w hk
    refine FW.lfunG (y := .ref (List.drop 1 (ApiWord.cells (List.getD t1.1 (Int.toNat 0) default)))) hk rfl rfl rfl rfl rfl rfl rfl rfl (fun hc => FW.f_fieldAddr hk hc rfl Go.Proofs.Try.underlying52 rfl (by kernel_rfl) rfl) ?_; clear hk; intro a w hk
    refine FW.lfunG (y := .lit (.string (FW.B ((List.getD t1.1 (Int.toNat 0) default).S)))) hk rfl rfl rfl rfl rfl rfl rfl rfl (fun hc => FW.f_load1 hk hc rfl rfl Go.Proofs.Try.underlying9 rfl) ?_; clear hk; intro a w hk
    refine FW.lfunG (y := .lit (.bool (!decide (((List.getD t1.1 (Int.toNat 0) default).S) = ([103] : List UInt8))))) hk rfl rfl rfl rfl rfl rfl rfl rfl (fun hc => (FW.f_pure (FW.p_sneq hk.kn hc rfl rfl))) ?_; clear hk; intro a w hk
    refine FW.lfun (y := .lit (.bool ((!decide (((List.getD t1.1 (Int.toNat 0) default).Kind) = 1)) || (!decide (((List.getD t1.1 (Int.toNat 0) default).S) = ([103] : List UInt8)))))) hk rfl rfl rfl rfl ((FW.f_pure (FW.p_pick_or hk.kn (FW.holds_nil _) rfl rfl))) ?_; clear hk; intro a w hk
    refine FW.lend (hK8 _ _ ?_); clear hK8 K'
    refine FW.wcondF (b := ((!decide (((List.getD t1.1 (Int.toNat 0) default).Kind) = 1)) || (!decide (((List.getD t1.1 (Int.toNat 0) default).S) = ([103] : List UInt8))))) hk h rfl (fun h hb => ?_) (fun h hb => ?_)
    · skip
      obtain ⟨hc3, h⟩ := FW.chk h
      refine FW.wdraw (by kernel_rfl) (by kernel_rfl) hk ?_; clear hk
      refine FW.dfun (y := .row (r_ApiWord_cells t1.1)) rfl rfl rfl rfl (fun a w hk => FW.f_move hk (FW.holds_nil _) rfl) ?_
      refine FW.dfun (y := .ref (ApiWord.cells (List.getD t1.1 (Int.toNat 0) default))) rfl rfl rfl rfl (fun a w hk => FW.f_indexAddr (R := r_ApiWord_cells) (f := ApiWord.cells) (l := t1.1) (sz := 5) r_ApiWord_cells_eq (fun _ => rfl) hk (FW.holds_nil _) rfl rfl Go.Proofs.Try.underlying48 (by kernel_rfl) hc3) ?_
      refine FW.dfun (y := .ref (List.drop 4 (ApiWord.cells (List.getD t1.1 (Int.toNat 0) default)))) rfl rfl rfl rfl (fun a w hk => FW.f_fieldAddr hk (FW.holds_nil _) rfl Go.Proofs.Try.underlying52 rfl (by kernel_rfl) rfl) ?_
      refine FW.dfun (y := .lit (.int .i64 ((List.getD t1.1 (Int.toNat 0) default).At))) rfl rfl rfl rfl (fun a w hk => FW.f_load1 hk (FW.holds_nil _) rfl rfl Go.Proofs.Try.underlying3 rfl) ?_
      refine FW.dfun (y := .row (r_ApiStep_cells [])) rfl rfl rfl rfl (fun a w hk => FW.f_assignNil) ?_
      refine FW.dfun (y := .lit (.int .i64 ((List.getD t1.1 (Int.toNat 0) default).At))) rfl rfl rfl rfl (fun a w hk => FW.f_assign hk (FW.holds_nil _) rfl) ?_
      refine FW.dfun (y := .lit (.int .i64 120)) rfl rfl rfl rfl (fun a w hk => FW.f_assign hk (FW.holds_nil _) rfl) ?_
      refine FW.dend ?_; intro a w hk
      refine wp_ret ?_
      (repeat first | refine FW.then_ret ?_ | refine FW.block_ret ?_)
      obtain rfl := Option.some.inj h
      exact FW.fret3 hk rfl rfl rfl rfl
    · skip
      refine wp_skip ?_
      (repeat first | refine FW.then_normal ?_ | refine FW.block_normal ?_); refine hK7 _ _ ?_
      refine FW.wreg ?_; intro K' hK10
      refine FW.lfun (y := .lit (.pointer (some ⟨b1, 1, none⟩))) hk rfl rfl rfl rfl (FW.f_fieldPtr hk (FW.holds_nil _) rfl Go.Proofs.Try.underlying62 rfl (by kernel_rfl) rfl) ?_; clear hk; intro a w hk
      refine FW.l_store (I' := [FW.blk b1 62 ((Offshootref12State.cells (⟨t1.1, 1, 0, 0, 0, 0⟩ : Offshootref12State)))]) (cs' := (Offshootref12State.cells (⟨t1.1, 1, 0, 0, 0, 0⟩ : Offshootref12State))) (j := 0) hk rfl rfl rfl rfl rfl (by kernel_rfl) rfl rfl ?_; clear hk; intro w hk
      refine FW.lend (hK10 _ _ ?_); clear hK10 K'
      refine FW.wreg ?_; intro K' hK11
      refine FW.lfun (y := .agg ((Offshootref12State.cells (⟨t1.1, 1, 0, 0, 0, 0⟩ : Offshootref12State)))) hk rfl rfl rfl rfl (FW.f_loadBlk hk (FW.holds_nil _) (j := 0) rfl rfl Go.Proofs.Try.underlying62 rfl rfl rfl rfl) ?_; clear hk; intro a w hk
      obtain ⟨t2, hr_t2, h⟩ := FW.bnd h
      refine FW.lfun (y := .agg ((Offshootref12State.cells t2))) hk rfl rfl rfl rfl (FW.f_call hk (FW.holds_nil _) rfl rfl Go.Proofs.Try.func28 rfl (by kernel_rfl) (offshootref12_State_sign.ok (⟨t1.1, 1, 0, 0, 0, 0⟩ : Offshootref12State) ([46] : List UInt8) _ hr_t2)) ?_; clear hk; intro a w hk
      obtain ⟨t3, hr_t3, h⟩ := FW.bnd h
      refine FW.lfun (y := .tup [.agg ((Offshootref12State.cells t3.1)), .row (r_ApiStep_cells t3.2)]) hk rfl rfl rfl rfl (FW.f_call hk (FW.holds_nil _) rfl rfl Go.Proofs.Try.func29 rfl (by kernel_rfl) (offshootref12_State_steps.ok K t2 _ hr_t3)) ?_; clear hk; intro a w hk
      refine FW.lfun (y := .tup [.agg ((Offshootref12State.cells t3.1)), .row (r_ApiStep_cells t3.2)]) hk rfl rfl rfl rfl (FW.f_move hk (FW.holds_nil _) rfl) ?_; clear hk; intro a w hk
      refine FW.lfun (y := .agg ((Offshootref12State.cells t3.1))) hk rfl rfl rfl rfl (FW.f_extract hk (FW.holds_nil _) rfl rfl) ?_; clear hk; intro a w hk
      refine FW.lfun (y := .row (r_ApiStep_cells t3.2)) hk rfl rfl rfl rfl (FW.f_extract hk (FW.holds_nil _) rfl rfl) ?_; clear hk; intro a w hk
      refine FW.l_store (I' := [FW.blk b1 62 ((Offshootref12State.cells t3.1))]) (cs' := (Offshootref12State.cells t3.1)) (j := 0) hk rfl rfl rfl rfl rfl (by kernel_rfl) rfl rfl ?_; clear hk; intro w hk
      refine FW.lfun (y := .row (r_ApiStep_cells t3.2)) hk rfl rfl rfl rfl (FW.f_assign hk (FW.holds_nil _) rfl) ?_; clear hk; intro a w hk
      refine FW.lend (hK11 _ _ ?_); clear hK11 K'
      refine FW.wseqJ (fun a w => ∃ (y1 : Offshootref12State) (v9 : List ApiStep), FW.S M w0 a w 68 [FW.blk b1 62 ((Offshootref12State.cells y1))] [(8, [], .lit (.pointer (some ⟨b1, 0, none⟩))), (9, [], .row (r_ApiStep_cells v9))] ∧ offshootref12_Parse.j1 K y1 v9 = some r) ?_ ?_
      · clear hk h
        rintro a w ⟨y1, v9, hk, h⟩
        unfold offshootref12_Parse.j1 at h
        refine FW.wseq ?_; intro K' hK13
        refine FW.wreg ?_; intro K' hK14
        refine FW.lfun (y := .lit (.pointer (some ⟨b1, 5, none⟩))) hk rfl rfl rfl rfl (FW.f_fieldPtr hk (FW.holds_nil _) rfl Go.Proofs.Try.underlying62 rfl (by kernel_rfl) rfl) ?_; clear hk; intro a w hk
        refine FW.lfun (y := .lit (.int .i64 y1.E)) hk rfl rfl rfl rfl (FW.f_loadBlk1 hk (FW.holds_nil _) (j := 0) rfl rfl Go.Proofs.Try.underlying23 rfl rfl) ?_; clear hk; intro a w hk
        refine FW.lfun (y := .lit (.bool (!decide (y1.E = 0)))) hk rfl rfl rfl rfl ((FW.f_pure (FW.p_neq hk.kn (FW.holds_nil _) rfl rfl))) ?_; clear hk; intro a w hk
        refine FW.lend (hK14 _ _ ?_); clear hK14 K'
        refine FW.wcondF (b := (!decide (y1.E = 0))) hk h rfl (fun h hb => ?_) (fun h hb => ?_)
        · skip
          refine FW.wdraw (by kernel_rfl) (by kernel_rfl) hk ?_; clear hk
          refine FW.dfun (y := .lit (.pointer (some ⟨b1, 4, none⟩))) rfl rfl rfl rfl (fun a w hk => FW.f_fieldPtr hk (FW.holds_nil _) rfl Go.Proofs.Try.underlying62 rfl (by kernel_rfl) rfl) ?_
          refine FW.dfun (y := .lit (.int .i64 y1.At)) rfl rfl rfl rfl (fun a w hk => FW.f_loadBlk1 hk (FW.holds_nil _) (j := 0) rfl rfl Go.Proofs.Try.underlying3 rfl rfl) ?_
          refine FW.dfun (y := .lit (.pointer (some ⟨b1, 5, none⟩))) rfl rfl rfl rfl (fun a w hk => FW.f_fieldPtr hk (FW.holds_nil _) rfl Go.Proofs.Try.underlying62 rfl (by kernel_rfl) rfl) ?_
          refine FW.dfun (y := .lit (.int .i64 y1.E)) rfl rfl rfl rfl (fun a w hk => FW.f_loadBlk1 hk (FW.holds_nil _) (j := 0) rfl rfl Go.Proofs.Try.underlying23 rfl rfl) ?_
          refine FW.dfun (y := .row (r_ApiStep_cells [])) rfl rfl rfl rfl (fun a w hk => FW.f_assignNil) ?_
          refine FW.dfun (y := .lit (.int .i64 y1.At)) rfl rfl rfl rfl (fun a w hk => FW.f_assign hk (FW.holds_nil _) rfl) ?_
          refine FW.dfun (y := .lit (.int .i64 y1.E)) rfl rfl rfl rfl (fun a w hk => FW.f_assign hk (FW.holds_nil _) rfl) ?_
          refine FW.dend ?_; intro a w hk
          refine wp_ret ?_
          (repeat first | refine FW.then_ret ?_ | refine FW.block_ret ?_)
          obtain rfl := Option.some.inj h
          exact FW.fret3 hk rfl rfl rfl rfl
        · skip
          refine wp_skip ?_
          (repeat first | refine FW.then_normal ?_ | refine FW.block_normal ?_); refine hK13 _ _ ?_
          refine FW.wreg ?_; intro K' hK16
          refine FW.lfun (y := .row (r_ApiStep_cells v9)) hk rfl rfl rfl rfl (FW.f_move hk (FW.holds_nil _) rfl) ?_; clear hk; intro a w hk
          refine FW.lfun (y := .row (r_ApiStep_cells v9)) hk rfl rfl rfl rfl (FW.f_assign hk (FW.holds_nil _) rfl) ?_; clear hk; intro a w hk
          refine FW.lfun (y := .lit (.int .i64 0)) hk rfl rfl rfl rfl (FW.f_assign hk (FW.holds_nil _) rfl) ?_; clear hk; intro a w hk
          refine FW.lfun (y := .lit (.int .i64 0)) hk rfl rfl rfl rfl (FW.f_assign hk (FW.holds_nil _) rfl) ?_; clear hk; intro a w hk
          refine FW.lend (hK16 _ _ ?_); clear hK16 K'
          refine wp_ret ?_
          (repeat first | refine FW.then_ret ?_ | refine FW.block_ret ?_)
          obtain rfl := Option.some.inj h
          exact FW.fret3 hk rfl rfl rfl rfl
      · intro K' hK12
        refine FW.wreg ?_; intro K' hK17
        refine FW.lfun (y := .lit (.pointer (some ⟨b1, 5, none⟩))) hk rfl rfl rfl rfl (FW.f_fieldPtr hk (FW.holds_nil _) rfl Go.Proofs.Try.underlying62 rfl (by kernel_rfl) rfl) ?_; clear hk; intro a w hk
        refine FW.lfun (y := .lit (.int .i64 t3.1.E)) hk rfl rfl rfl rfl (FW.f_loadBlk1 hk (FW.holds_nil _) (j := 0) rfl rfl Go.Proofs.Try.underlying23 rfl rfl) ?_; clear hk; intro a w hk
        refine FW.lfun (y := .lit (.bool (decide (t3.1.E = 0)))) hk rfl rfl rfl rfl ((FW.f_pure (FW.p_eql hk.kn (FW.holds_nil _) rfl rfl))) ?_; clear hk; intro a w hk
        refine FW.lfun (y := .lit (.bool (decide (t3.1.E = 0)))) hk rfl rfl rfl rfl (FW.f_move hk (FW.holds_nil _) rfl) ?_; clear hk; intro a w hk
        refine FW.lfunG (y := .lit (.pointer (some ⟨b1, 0, none⟩))) hk rfl rfl rfl rfl rfl rfl rfl rfl (fun hc => FW.f_fieldPtr hk hc rfl Go.Proofs.Try.underlying62 rfl (by kernel_rfl) rfl) ?_; clear hk; intro a w hk
        refine FW.lfunG (y := .row (r_ApiWord_cells t3.1.L)) hk rfl rfl rfl rfl rfl rfl rfl rfl (fun hc => FW.f_loadBlk1 hk hc (j := 0) rfl rfl Go.Proofs.Try.underlying48 rfl rfl) ?_; clear hk; intro a w hk
        refine FW.lfunG (y := .lit (.pointer (some ⟨b1, 1, none⟩))) hk rfl rfl rfl rfl rfl rfl rfl rfl (fun hc => FW.f_fieldPtr hk hc rfl Go.Proofs.Try.underlying62 rfl (by kernel_rfl) rfl) ?_; clear hk; intro a w hk
        refine FW.lfunG (y := .lit (.int .i64 t3.1.I)) hk rfl rfl rfl rfl rfl rfl rfl rfl (fun hc => FW.f_loadBlk1 hk hc (j := 0) rfl rfl Go.Proofs.Try.underlying3 rfl rfl) ?_; clear hk; intro a w hk
        obtain ⟨hc4, h⟩ := FW.chk h
        refine FW.lfunG (y := .ref (ApiWord.cells (List.getD t3.1.L (Int.toNat t3.1.I) default))) hk rfl rfl rfl rfl rfl rfl rfl rfl (fun hc => FW.f_indexAddr (R := r_ApiWord_cells) (f := ApiWord.cells) (l := t3.1.L) (sz := 5) r_ApiWord_cells_eq (fun _ => rfl) hk hc rfl rfl Go.Proofs.Try.underlying48 (by kernel_rfl) hc4) ?_; clear hk; intro a w hk
        refine FW.lfunG (y := .ref (List.drop 0 (ApiWord.cells (List.getD t3.1.L (Int.toNat t3.1.I) default)))) hk rfl rfl rfl rfl rfl rfl rfl rfl (fun hc => FW.f_fieldAddr hk hc rfl Go.Proofs.Try.underlying52 rfl (by kernel_rfl) rfl) ?_; clear hk; intro a w hk
        refine FW.lfunG (y := .lit (.int .i64 ((List.getD t3.1.L (Int.toNat t3.1.I) default).Kind))) hk rfl rfl rfl rfl rfl rfl rfl rfl (fun hc => FW.f_load1 hk hc rfl rfl Go.Proofs.Try.underlying3 rfl) ?_; clear hk; intro a w hk
        refine FW.lfunG (y := .lit (.bool (!decide (((List.getD t3.1.L (Int.toNat t3.1.I) default).Kind) = 0)))) hk rfl rfl rfl rfl rfl rfl rfl rfl (fun hc => (FW.f_pure (FW.p_neq hk.kn hc rfl rfl))) ?_; clear hk; intro a w hk
        refine FW.lfun (y := .lit (.bool ((decide (t3.1.E = 0)) && (!decide (((List.getD t3.1.L (Int.toNat t3.1.I) default).Kind) = 0))))) hk rfl rfl rfl rfl ((FW.f_pure (FW.p_pick_and hk.kn (FW.holds_nil _) rfl rfl))) ?_; clear hk; intro a w hk
        refine FW.lend (hK17 _ _ ?_); clear hK17 K'
        refine FW.wcondF (b := ((decide (t3.1.E = 0)) && (!decide (((List.getD t3.1.L (Int.toNat t3.1.I) default).Kind) = 0)))) hk h rfl (fun h hb => ?_) (fun h hb => ?_)
        · skip
          refine FW.wreg1 ?_
          refine FW.lfun (y := .agg ((Offshootref12State.cells t3.1))) hk rfl rfl rfl rfl (FW.f_loadBlk hk (FW.holds_nil _) (j := 0) rfl rfl Go.Proofs.Try.underlying62 rfl rfl rfl rfl) ?_; clear hk; intro a w hk
          obtain ⟨t4, hr_t4, h⟩ := FW.bnd h
          refine FW.lfun (y := .agg ((Offshootref12State.cells t4))) hk rfl rfl rfl rfl (FW.f_call hk (FW.holds_nil _) rfl rfl Go.Proofs.Try.func30 rfl (by kernel_rfl) (offshootref12_State_fail.ok t3.1 120 _ hr_t4)) ?_; clear hk; intro a w hk
          refine FW.l_store (I' := [FW.blk b1 62 ((Offshootref12State.cells t4))]) (cs' := (Offshootref12State.cells t4)) (j := 0) hk rfl rfl rfl rfl rfl (by kernel_rfl) rfl rfl ?_; clear hk; intro w hk
          refine wpList_nil ?_
          (repeat first | refine FW.then_normal ?_ | refine FW.block_normal ?_); exact hK12 _ _ ⟨t4, t3.2, hk.sub ⟨rfl, rfl, trivial⟩, h⟩
        · skip
          refine wp_skip ?_
          (repeat first | refine FW.then_normal ?_ | refine FW.block_normal ?_); exact hK12 _ _ ⟨t3.1, t3.2, hk.sub ⟨rfl, rfl, trivial⟩, h⟩

theorem lex_Number.ok (K : Nat) (v0 : Int) (r : List UInt8) (h : lex_Number.f K v0 = some r) :
    FW.Ok Go.Proofs.Try.prog 23 [.lit (.int .i64 v0)] (.lit (.string (FW.B r))) := by
  refine FW.enter (xs := [.lit (.int .i64 v0)]) Go.Proofs.Try.func23 rfl Go.Proofs.Try.ntmps23 rfl ?_
  intro M w0 a hk
  unfold lex_Number.f at h
  refine FW.wreg ?_; intro K' hK1
  refine FW.lfun (y := .lit (.string (FW.B ([] : List UInt8)))) hk rfl rfl rfl rfl (FW.f_assign hk (FW.holds_nil _) rfl) ?_; clear hk; intro a w hk
  refine FW.lend (hK1 _ _ ?_); clear hK1 K'
  refine FW.wseq ?_; intro K' hK2
  refine FW.wreg ?_; intro K' hK3
  refine FW.lfun (y := .lit (.int .i64 v0)) hk rfl rfl rfl rfl (FW.f_move hk (FW.holds_nil _) rfl) ?_; clear hk; intro a w hk
  refine FW.lfun (y := .lit (.bool (decide (v0 = 0)))) hk rfl rfl rfl rfl ((FW.f_pure (FW.p_eql hk.kn (FW.holds_nil _) rfl rfl))) ?_; clear hk; intro a w hk
  refine FW.lend (hK3 _ _ ?_); clear hK3 K'
  refine FW.wcondF (b := (decide (v0 = 0))) hk h rfl (fun h hb => ?_) (fun h hb => ?_)
  · skip
    refine FW.wreg ?_; intro K' hK4
    refine FW.lfun (y := .lit (.string (FW.B ([48] : List UInt8)))) hk rfl rfl rfl rfl (FW.f_assign hk (FW.holds_nil _) rfl) ?_; clear hk; intro a w hk
    refine FW.lend (hK4 _ _ ?_); clear hK4 K'
    refine wp_ret ?_
    (repeat first | refine FW.then_ret ?_ | refine FW.block_ret ?_)
    obtain rfl := Option.some.inj h
    exact FW.fret1 hk rfl rfl
  · skip
    refine wp_skip ?_
    (repeat first | refine FW.then_normal ?_ | refine FW.block_normal ?_); refine hK2 _ _ ?_
    refine FW.wreg ?_; intro K' hK5
    refine FW.lfun (y := .lit (.int .i64 v0)) hk rfl rfl rfl rfl (FW.f_move hk (FW.holds_nil _) rfl) ?_; clear hk; intro a w hk
    refine FW.lfun (y := .lit (.bool (decide (v0 < 0)))) hk rfl rfl rfl rfl ((FW.f_pure (FW.p_lss hk.kn (FW.holds_nil _) rfl rfl))) ?_; clear hk; intro a w hk
    refine FW.lfun (y := .lit (.string (FW.B ([] : List UInt8)))) hk rfl rfl rfl rfl (FW.f_assign hk (FW.holds_nil _) rfl) ?_; clear hk; intro a w hk
    refine FW.lfun (y := .lit (.bool (decide (v0 < 0)))) hk rfl rfl rfl rfl (FW.f_assign hk (FW.holds_nil _) rfl) ?_; clear hk; intro a w hk
    refine FW.lend (hK5 _ _ ?_); clear hK5 K'
    refine FW.wseq ?_; intro K' hK6
    refine wp_block ?_
    refine FW.wloop (T := Nat × Int × List UInt8 × Bool) (fun x a w => match x with | (kl1, v0, v3, v4) => FW.S M w0 a w 29 [] [(0, [], .lit (.int .i64 v0)), (3, [], .lit (.string (FW.B v3))), (4, [], .lit (.bool v4))] ∧ lex_Number.l1 K kl1 v0 v3 v4 = some r) (fun x => x.1) (K, v0, ([] : List UInt8), (decide (v0 < 0))) ⟨hk.sub ⟨rfl, rfl, rfl, trivial⟩, h⟩ ?_
    clear hk h
    rintro ⟨kl1, v0, v3, v4⟩ a w ⟨hk, h⟩ K' hK7
    cases kl1 with
    | zero => simp [lex_Number.l1] at h
    | succ kl1 =>
    rw [lex_Number.l1.eq_2] at h
    refine FW.wseq ?_; intro K' hK8
    refine FW.wreg ?_; intro K' hK9
    refine FW.lfun (y := .lit (.int .i64 v0)) hk rfl rfl rfl rfl (FW.f_move hk (FW.holds_nil _) rfl) ?_; clear hk; intro a w hk
    refine FW.lfun (y := .lit (.bool (!decide (v0 = 0)))) hk rfl rfl rfl rfl ((FW.f_pure (FW.p_neq hk.kn (FW.holds_nil _) rfl rfl))) ?_; clear hk; intro a w hk
    refine FW.lend (hK9 _ _ ?_); clear hK9 K'
    refine FW.wcondF (b := (!decide (v0 = 0))) hk h rfl (fun h hb => ?_) (fun h hb => ?_)
    · skip
      refine wp_skip ?_
      (repeat first | refine FW.then_normal ?_ | refine FW.block_normal ?_); refine hK8 _ _ ?_
      refine FW.wseq ?_; intro K' hK10
      refine wp_block ?_
      refine FW.wreg ?_; intro K' hK11
      refine FW.lfun (y := .lit (.int .i64 v0)) hk rfl rfl rfl rfl (FW.f_move hk (FW.holds_nil _) rfl) ?_; clear hk; intro a w hk
      refine FW.lfun (y := .lit (.int .i64 (Int.tmod v0 10))) hk rfl rfl rfl rfl ((FW.f_pure (FW.p_rem hk.kn (FW.holds_nil _) rfl rfl (show ¬ (10 : Int) = 0 from by decide)))) ?_; clear hk; intro a w hk
      refine FW.lfun (y := .lit (.int .i64 (Int.tmod v0 10))) hk rfl rfl rfl rfl (FW.f_assign hk (FW.holds_nil _) rfl) ?_; clear hk; intro a w hk
      refine FW.lend (hK11 _ _ ?_); clear hK11 K'
      refine FW.wseqJ (fun a w => ∃ (v0 : Int) (v3 : List UInt8) (v4 : Bool) (v5 : Int), FW.S M w0 a w 29 [] [(0, [], .lit (.int .i64 v0)), (3, [], .lit (.string (FW.B v3))), (4, [], .lit (.bool v4)), (5, [], .lit (.int .i64 v5))] ∧ lex_Number.j1 (lex_Number.l1 K kl1) K v0 v3 v4 v5 = some r) ?_ ?_
      · clear hk h
        rintro a w ⟨v0, v3, v4, v5, hk, h⟩
        unfold lex_Number.j1 at h
        refine FW.wreg1 ?_
        refine FW.lfun (y := .lit (.int .i64 v5)) hk rfl rfl rfl rfl (FW.f_move hk (FW.holds_nil _) rfl) ?_; clear hk; intro a w hk
        refine FW.lfun (y := .lit (.int .i64 v5)) hk rfl rfl rfl rfl (FW.f_move hk (FW.holds_nil _) rfl) ?_; clear hk; intro a w hk
        refine FW.lfun (y := .lit (.int .i64 (IntKind.wrap .i64 (v5 + 1)))) hk rfl rfl rfl rfl ((FW.f_pure (FW.p_add hk.kn (FW.holds_nil _) rfl rfl))) ?_; clear hk; intro a w hk
        obtain ⟨hc1, h⟩ := FW.chk h
        refine FW.lfun (y := .lit (.string (FW.B (List.take (Int.toNat (IntKind.wrap .i64 (v5 + 1)) - Int.toNat v5) (List.drop (Int.toNat v5) ([48, 49, 50, 51, 52, 53, 54, 55, 56, 57, 97, 98, 99, 100, 101, 102] : List UInt8)))))) hk rfl rfl rfl rfl ((FW.f_pure (FW.p_slice Go.Proofs.Try.underlying9 hk.kn (FW.holds_nil _) rfl rfl rfl hc1))) ?_; clear hk; intro a w hk
        refine FW.lfun (y := .lit (.string (FW.B v3))) hk rfl rfl rfl rfl (FW.f_move hk (FW.holds_nil _) rfl) ?_; clear hk; intro a w hk
        obtain ⟨hc2, h⟩ := FW.chk h
        refine FW.lfun (y := .lit (.string (FW.B ((List.take (Int.toNat (IntKind.wrap .i64 (v5 + 1)) - Int.toNat v5) (List.drop (Int.toNat v5) ([48, 49, 50, 51, 52, 53, 54, 55, 56, 57, 97, 98, 99, 100, 101, 102] : List UInt8))) ++ v3)))) hk rfl rfl rfl rfl ((FW.f_pure (FW.p_sadd hk.kn (FW.holds_nil _) rfl rfl hc2))) ?_; clear hk; intro a w hk
        refine FW.lfun (y := .lit (.string (FW.B ((List.take (Int.toNat (IntKind.wrap .i64 (v5 + 1)) - Int.toNat v5) (List.drop (Int.toNat v5) ([48, 49, 50, 51, 52, 53, 54, 55, 56, 57, 97, 98, 99, 100, 101, 102] : List UInt8))) ++ v3)))) hk rfl rfl rfl rfl (FW.f_assign hk (FW.holds_nil _) rfl) ?_; clear hk; intro a w hk
        refine wpList_nil ?_
        (repeat first | refine FW.then_normal ?_ | refine FW.block_normal ?_); refine hK10 _ _ ?_
        refine FW.wreg1 ?_
        refine FW.lfun (y := .lit (.int .i64 v0)) hk rfl rfl rfl rfl (FW.f_move hk (FW.holds_nil _) rfl) ?_; clear hk; intro a w hk
        refine FW.lfun (y := .lit (.int .i64 (IntKind.wrap .i64 (Int.tdiv v0 10)))) hk rfl rfl rfl rfl ((FW.f_pure (FW.p_quo hk.kn (FW.holds_nil _) rfl rfl (show ¬ (10 : Int) = 0 from by decide)))) ?_; clear hk; intro a w hk
        refine FW.lfun (y := .lit (.int .i64 (IntKind.wrap .i64 (Int.tdiv v0 10)))) hk rfl rfl rfl rfl (FW.f_assign hk (FW.holds_nil _) rfl) ?_; clear hk; intro a w hk
        refine wpList_nil ?_
        (repeat first | refine FW.then_normal ?_ | refine FW.block_normal ?_); exact hK7 (kl1, (IntKind.wrap .i64 (Int.tdiv v0 10)), ((List.take (Int.toNat (IntKind.wrap .i64 (v5 + 1)) - Int.toNat v5) (List.drop (Int.toNat v5) ([48, 49, 50, 51, 52, 53, 54, 55, 56, 57, 97, 98, 99, 100, 101, 102] : List UInt8))) ++ v3), v4) _ _ (Nat.lt_succ_self _) ⟨hk.sub ⟨rfl, rfl, rfl, trivial⟩, h⟩
      · intro K' hK12
        refine FW.wreg ?_; intro K' hK15
        refine FW.lfun (y := .lit (.bool v4)) hk rfl rfl rfl rfl (FW.f_move hk (FW.holds_nil _) rfl) ?_; clear hk; intro a w hk
        refine FW.lend (hK15 _ _ ?_); clear hK15 K'
        refine FW.wcondF (b := v4) hk h rfl (fun h hb => ?_) (fun h hb => ?_)
        · skip
          refine FW.wreg1 ?_
          refine FW.lfun (y := .lit (.int .i64 (Int.tmod v0 10))) hk rfl rfl rfl rfl (FW.f_move hk (FW.holds_nil _) rfl) ?_; clear hk; intro a w hk
          refine FW.lfun (y := .lit (.int .i64 (IntKind.wrap .i64 (0 - (Int.tmod v0 10))))) hk rfl rfl rfl rfl ((FW.f_pure (FW.p_neg hk.kn (FW.holds_nil _) rfl))) ?_; clear hk; intro a w hk
          refine FW.lfun (y := .lit (.int .i64 (IntKind.wrap .i64 (0 - (Int.tmod v0 10))))) hk rfl rfl rfl rfl (FW.f_assign hk (FW.holds_nil _) rfl) ?_; clear hk; intro a w hk
          refine wpList_nil ?_
          (repeat first | refine FW.then_normal ?_ | refine FW.block_normal ?_); exact hK12 _ _ ⟨v0, v3, v4, (IntKind.wrap .i64 (0 - (Int.tmod v0 10))), hk.sub ⟨rfl, rfl, rfl, rfl, trivial⟩, h⟩
        · skip
          refine wp_skip ?_
          (repeat first | refine FW.then_normal ?_ | refine FW.block_normal ?_); exact hK12 _ _ ⟨v0, v3, v4, (Int.tmod v0 10), hk.sub ⟨rfl, rfl, rfl, rfl, trivial⟩, h⟩
    · skip
      refine wp_exit ?_; (repeat first | refine FW.then_exit ?_ | refine FW.block_exit_ne rfl ?_); refine FW.block_exit ?_
      (repeat first | refine FW.then_normal ?_ | refine FW.block_normal ?_); refine hK6 _ _ ?_
      refine FW.wseq ?_; intro K' hK17
      refine FW.wreg ?_; intro K' hK18
      refine FW.lfun (y := .lit (.bool v4)) hk rfl rfl rfl rfl (FW.f_move hk (FW.holds_nil _) rfl) ?_; clear hk; intro a w hk
      refine FW.lend (hK18 _ _ ?_); clear hK18 K'
      refine FW.wcondF (b := v4) hk h rfl (fun h hb => ?_) (fun h hb => ?_)
      · skip
        refine FW.wreg ?_; intro K' hK19
        refine FW.lfun (y := .lit (.string (FW.B v3))) hk rfl rfl rfl rfl (FW.f_move hk (FW.holds_nil _) rfl) ?_; clear hk; intro a w hk
        obtain ⟨hc3, h⟩ := FW.chk h
        refine FW.lfun (y := .lit (.string (FW.B (([45] : List UInt8) ++ v3)))) hk rfl rfl rfl rfl ((FW.f_pure (FW.p_sadd hk.kn (FW.holds_nil _) rfl rfl hc3))) ?_; clear hk; intro a w hk
        refine FW.lfun (y := .lit (.string (FW.B (([45] : List UInt8) ++ v3)))) hk rfl rfl rfl rfl (FW.f_assign hk (FW.holds_nil _) rfl) ?_; clear hk; intro a w hk
        refine FW.lend (hK19 _ _ ?_); clear hK19 K'
        refine wp_ret ?_
        (repeat first | refine FW.then_ret ?_ | refine FW.block_ret ?_)
        obtain rfl := Option.some.inj h
        exact FW.fret1 hk rfl rfl
      · skip
        refine wp_skip ?_
        (repeat first | refine FW.then_normal ?_ | refine FW.block_normal ?_); refine hK17 _ _ ?_
        refine FW.wreg ?_; intro K' hK20
        refine FW.lfun (y := .lit (.string (FW.B v3))) hk rfl rfl rfl rfl (FW.f_move hk (FW.holds_nil _) rfl) ?_; clear hk; intro a w hk
        refine FW.lfun (y := .lit (.string (FW.B v3))) hk rfl rfl rfl rfl (FW.f_assign hk (FW.holds_nil _) rfl) ?_; clear hk; intro a w hk
        refine FW.lend (hK20 _ _ ?_); clear hK20 K'
        refine wp_ret ?_
        (repeat first | refine FW.then_ret ?_ | refine FW.block_ret ?_)
        obtain rfl := Option.some.inj h
        exact FW.fret1 hk rfl rfl

theorem num_Canon.ok  (v0 : Nat) (r : Nat) (h : num_Canon.f v0 = some r) :
    FW.Ok Go.Proofs.Try.prog 46 [.lit (.float .f64 v0)] (.lit (.float .f64 r)) := by
  refine FW.enter (xs := [.lit (.float .f64 v0)]) Go.Proofs.Try.func46 rfl Go.Proofs.Try.ntmps46 rfl ?_
  intro M w0 a hk
  unfold num_Canon.f at h
  refine FW.wreg ?_; intro K' hK1
  refine FW.lfun (y := .lit (.float .f64 0)) hk rfl rfl rfl rfl (FW.f_assign hk (FW.holds_nil _) rfl) ?_; clear hk; intro a w hk
  refine FW.lend (hK1 _ _ ?_); clear hK1 K'
  refine FW.wseq ?_; intro K' hK2
  refine FW.wreg ?_; intro K' hK3
  refine FW.lfun (y := .lit (.float .f64 v0)) hk rfl rfl rfl rfl (FW.f_move hk (FW.holds_nil _) rfl) ?_; clear hk; intro a w hk
  refine FW.lfun (y := .lit (.float .f64 v0)) hk rfl rfl rfl rfl (FW.f_move hk (FW.holds_nil _) rfl) ?_; clear hk; intro a w hk
  refine FW.lfun (y := .lit (.bool (FW.fneq v0 v0))) hk rfl rfl rfl rfl ((FW.f_pure (FW.p_fneq hk.kn (FW.holds_nil _) rfl rfl))) ?_; clear hk; intro a w hk
  refine FW.lend (hK3 _ _ ?_); clear hK3 K'
  refine FW.wcondF (b := (FW.fneq v0 v0)) hk h rfl (fun h hb => ?_) (fun h hb => ?_)
  · skip
    refine FW.wreg ?_; intro K' hK4
    refine FW.lfun (y := .lit (.float .f64 (Int.toNat 9221120237041090561))) hk rfl rfl rfl rfl (FW.f_frombits hk (FW.holds_nil _) rfl rfl Go.Proofs.Try.func62 (by kernel_rfl) (by kernel_rfl) (by kernel_rfl) (by kernel_rfl)) ?_; clear hk; intro a w hk
    refine FW.lfun (y := .lit (.float .f64 (Int.toNat 9221120237041090561))) hk rfl rfl rfl rfl (FW.f_assign hk (FW.holds_nil _) rfl) ?_; clear hk; intro a w hk
    refine FW.lend (hK4 _ _ ?_); clear hK4 K'
    refine wp_ret ?_
    (repeat first | refine FW.then_ret ?_ | refine FW.block_ret ?_)
    obtain rfl := Option.some.inj h
    exact FW.fret1 hk rfl rfl
  · skip
    refine wp_skip ?_
    (repeat first | refine FW.then_normal ?_ | refine FW.block_normal ?_); refine hK2 _ _ ?_
    refine FW.wreg ?_; intro K' hK5
    refine FW.lfun (y := .lit (.float .f64 v0)) hk rfl rfl rfl rfl (FW.f_move hk (FW.holds_nil _) rfl) ?_; clear hk; intro a w hk
    refine FW.lfun (y := .lit (.float .f64 v0)) hk rfl rfl rfl rfl (FW.f_assign hk (FW.holds_nil _) rfl) ?_; clear hk; intro a w hk
    refine FW.lend (hK5 _ _ ?_); clear hK5 K'
    refine wp_ret ?_
    (repeat first | refine FW.then_ret ?_ | refine FW.block_ret ?_)
    obtain rfl := Option.some.inj h
    exact FW.fret1 hk rfl rfl

theorem lex_Float.ok (K : Nat) (v0 : Nat) (r : List UInt8) (h : lex_Float.f K v0 = some r) :
    FW.Ok Go.Proofs.Try.prog 24 [.lit (.float .f64 v0)] (.lit (.string (FW.B r))) := by
  refine FW.enter (xs := [.lit (.float .f64 v0)]) Go.Proofs.Try.func24 rfl Go.Proofs.Try.ntmps24 rfl ?_
  intro M w0 a hk
  unfold lex_Float.f at h
  refine FW.wreg ?_; intro K' hK1
  refine FW.lfun (y := .lit (.string (FW.B ([] : List UInt8)))) hk rfl rfl rfl rfl (FW.f_assign hk (FW.holds_nil _) rfl) ?_; clear hk; intro a w hk
  refine FW.lend (hK1 _ _ ?_); clear hK1 K'
  refine FW.wreg ?_; intro K' hK2
  refine FW.lfun (y := .lit (.float .f64 v0)) hk rfl rfl rfl rfl (FW.f_move hk (FW.holds_nil _) rfl) ?_; clear hk; intro a w hk
  obtain ⟨t1, hr_t1, h⟩ := FW.bnd h
  refine FW.lfun (y := .lit (.float .f64 t1)) hk rfl rfl rfl rfl (FW.f_call hk (FW.holds_nil _) rfl rfl Go.Proofs.Try.func46 rfl (by kernel_rfl) (num_Canon.ok v0 _ hr_t1)) ?_; clear hk; intro a w hk
  refine FW.lfun (y := .lit (.int .u64 ((t1 : Nat) : Int))) hk rfl rfl rfl rfl (FW.f_bits hk (FW.holds_nil _) rfl rfl Go.Proofs.Try.func25 (by kernel_rfl) (by kernel_rfl) (by kernel_rfl) (by kernel_rfl)) ?_; clear hk; intro a w hk
  refine FW.lfun (y := .lit (.int .u64 ((t1 : Nat) : Int))) hk rfl rfl rfl rfl (FW.f_assign hk (FW.holds_nil _) rfl) ?_; clear hk; intro a w hk
  refine FW.lfun (y := .lit (.string (FW.B ([] : List UInt8)))) hk rfl rfl rfl rfl (FW.f_assign hk (FW.holds_nil _) rfl) ?_; clear hk; intro a w hk
  refine FW.lend (hK2 _ _ ?_); clear hK2 K'
  refine FW.wseq ?_; intro K' hK3
  refine FW.wreg ?_; intro K' hK4
  refine FW.lfun (y := .lit (.int .i64 0)) hk rfl rfl rfl rfl (FW.f_move hk (FW.holds_nil _) rfl) ?_; clear hk; intro a w hk
  refine FW.lend (hK4 _ _ ?_); clear hK4 K'
  refine wp_block ?_
  refine FW.wloop (T := Nat × Int × List UInt8 × Int) (fun x a w => match x with | (kl1, v3, v4, v8) => FW.S M w0 a w 24 [] [(3, [], .lit (.int .u64 v3)), (4, [], .lit (.string (FW.B v4))), (8, [], .lit (.int .i64 v8))] ∧ lex_Float.l1 K kl1 v3 v4 v8 = some r) (fun x => x.1) (K, ((t1 : Nat) : Int), ([] : List UInt8), 0) ⟨hk.sub ⟨rfl, rfl, rfl, trivial⟩, h⟩ ?_
  clear hk h
  rintro ⟨kl1, v3, v4, v8⟩ a w ⟨hk, h⟩ K' hK5
  cases kl1 with
  | zero => simp [lex_Float.l1] at h
  | succ kl1 =>
  rw [lex_Float.l1.eq_2] at h
  refine FW.wreg ?_; intro K' hK6
  refine FW.lfun (y := .lit (.bool (decide (v8 < 16)))) hk rfl rfl rfl rfl ((FW.f_pure (FW.p_lss hk.kn (FW.holds_nil _) rfl rfl))) ?_; clear hk; intro a w hk
  refine FW.lend (hK6 _ _ ?_); clear hK6 K'
  refine FW.wseq ?_; intro K' hK7
  refine FW.wcondF (b := (decide (v8 < 16))) hk h rfl (fun h hb => ?_) (fun h hb => ?_)
  · skip
    refine wp_skip ?_
    (repeat first | refine FW.then_normal ?_ | refine FW.block_normal ?_); refine hK7 _ _ ?_
    refine FW.wseq ?_; intro K' hK8
    refine wp_block ?_
    refine FW.wreg ?_; intro K' hK9
    refine FW.lfun (y := .lit (.int .u64 v3)) hk rfl rfl rfl rfl (FW.f_move hk (FW.holds_nil _) rfl) ?_; clear hk; intro a w hk
    refine FW.lfun (y := .lit (.int .u64 (Int.tmod v3 16))) hk rfl rfl rfl rfl ((FW.f_pure (FW.p_rem hk.kn (FW.holds_nil _) rfl rfl (show ¬ (16 : Int) = 0 from by decide)))) ?_; clear hk; intro a w hk
    refine FW.lfun (y := .lit (.int .u64 v3)) hk rfl rfl rfl rfl (FW.f_move hk (FW.holds_nil _) rfl) ?_; clear hk; intro a w hk
    refine FW.lfun (y := .lit (.int .u64 (Int.tmod v3 16))) hk rfl rfl rfl rfl ((FW.f_pure (FW.p_rem hk.kn (FW.holds_nil _) rfl rfl (show ¬ (16 : Int) = 0 from by decide)))) ?_; clear hk; intro a w hk
    refine FW.lfun (y := .lit (.int .u64 (IntKind.wrap .u64 ((Int.tmod v3 16) + 1)))) hk rfl rfl rfl rfl ((FW.f_pure (FW.p_add hk.kn (FW.holds_nil _) rfl rfl))) ?_; clear hk; intro a w hk
    obtain ⟨hc1, h⟩ := FW.chk h
    refine FW.lfun (y := .lit (.string (FW.B (List.take (Int.toNat (IntKind.wrap .u64 ((Int.tmod v3 16) + 1)) - Int.toNat (Int.tmod v3 16)) (List.drop (Int.toNat (Int.tmod v3 16)) ([48, 49, 50, 51, 52, 53, 54, 55, 56, 57, 97, 98, 99, 100, 101, 102] : List UInt8)))))) hk rfl rfl rfl rfl ((FW.f_pure (FW.p_slice Go.Proofs.Try.underlying9 hk.kn (FW.holds_nil _) rfl rfl rfl hc1))) ?_; clear hk; intro a w hk
    refine FW.lfun (y := .lit (.string (FW.B v4))) hk rfl rfl rfl rfl (FW.f_move hk (FW.holds_nil _) rfl) ?_; clear hk; intro a w hk
    obtain ⟨hc2, h⟩ := FW.chk h
    refine FW.lfun (y := .lit (.string (FW.B ((List.take (Int.toNat (IntKind.wrap .u64 ((Int.tmod v3 16) + 1)) - Int.toNat (Int.tmod v3 16)) (List.drop (Int.toNat (Int.tmod v3 16)) ([48, 49, 50, 51, 52, 53, 54, 55, 56, 57, 97, 98, 99, 100, 101, 102] : List UInt8))) ++ v4)))) hk rfl rfl rfl rfl ((FW.f_pure (FW.p_sadd hk.kn (FW.holds_nil _) rfl rfl hc2))) ?_; clear hk; intro a w hk
    refine FW.lfun (y := .lit (.string (FW.B ((List.take (Int.toNat (IntKind.wrap .u64 ((Int.tmod v3 16) + 1)) - Int.toNat (Int.tmod v3 16)) (List.drop (Int.toNat (Int.tmod v3 16)) ([48, 49, 50, 51, 52, 53, 54, 55, 56, 57, 97, 98, 99, 100, 101, 102] : List UInt8))) ++ v4)))) hk rfl rfl rfl rfl (FW.f_assign hk (FW.holds_nil _) rfl) ?_; clear hk; intro a w hk
    refine FW.lend (hK9 _ _ ?_); clear hK9 K'
    refine FW.wreg1 ?_
    refine FW.lfun (y := .lit (.int .u64 v3)) hk rfl rfl rfl rfl (FW.f_move hk (FW.holds_nil _) rfl) ?_; clear hk; intro a w hk
    refine FW.lfun (y := .lit (.int .u64 (IntKind.wrap .u64 (Int.tdiv v3 16)))) hk rfl rfl rfl rfl ((FW.f_pure (FW.p_quo hk.kn (FW.holds_nil _) rfl rfl (show ¬ (16 : Int) = 0 from by decide)))) ?_; clear hk; intro a w hk
    refine FW.lfun (y := .lit (.int .u64 (IntKind.wrap .u64 (Int.tdiv v3 16)))) hk rfl rfl rfl rfl (FW.f_assign hk (FW.holds_nil _) rfl) ?_; clear hk; intro a w hk
    refine wpList_nil ?_
    (repeat first | refine FW.then_normal ?_ | refine FW.block_normal ?_); refine hK8 _ _ ?_
    refine FW.wreg1 ?_
    refine FW.lfun (y := .lit (.int .i64 (IntKind.wrap .i64 (v8 + 1)))) hk rfl rfl rfl rfl ((FW.f_pure (FW.p_add hk.kn (FW.holds_nil _) rfl rfl))) ?_; clear hk; intro a w hk
    refine FW.lfun (y := .lit (.int .i64 (IntKind.wrap .i64 (v8 + 1)))) hk rfl rfl rfl rfl (FW.f_move hk (FW.holds_nil _) rfl) ?_; clear hk; intro a w hk
    refine wpList_nil ?_
    (repeat first | refine FW.then_normal ?_ | refine FW.block_normal ?_); exact hK5 (kl1, (IntKind.wrap .u64 (Int.tdiv v3 16)), ((List.take (Int.toNat (IntKind.wrap .u64 ((Int.tmod v3 16) + 1)) - Int.toNat (Int.tmod v3 16)) (List.drop (Int.toNat (Int.tmod v3 16)) ([48, 49, 50, 51, 52, 53, 54, 55, 56, 57, 97, 98, 99, 100, 101, 102] : List UInt8))) ++ v4), (IntKind.wrap .i64 (v8 + 1))) _ _ (Nat.lt_succ_self _) ⟨hk.sub ⟨rfl, rfl, rfl, trivial⟩, h⟩
  · skip
    refine wp_exit ?_; (repeat first | refine FW.then_exit ?_ | refine FW.block_exit_ne rfl ?_); refine FW.block_exit ?_
    (repeat first | refine FW.then_normal ?_ | refine FW.block_normal ?_); refine hK3 _ _ ?_
    refine FW.wreg ?_; intro K' hK12
    refine FW.lfun (y := .lit (.string (FW.B v4))) hk rfl rfl rfl rfl (FW.f_move hk (FW.holds_nil _) rfl) ?_; clear hk; intro a w hk
    obtain ⟨hc3, h⟩ := FW.chk h
    refine FW.lfun (y := .lit (.string (FW.B (([102, 39] : List UInt8) ++ v4)))) hk rfl rfl rfl rfl ((FW.f_pure (FW.p_sadd hk.kn (FW.holds_nil _) rfl rfl hc3))) ?_; clear hk; intro a w hk
    obtain ⟨hc4, h⟩ := FW.chk h
    refine FW.lfun (y := .lit (.string (FW.B ((([102, 39] : List UInt8) ++ v4) ++ ([39] : List UInt8))))) hk rfl rfl rfl rfl ((FW.f_pure (FW.p_sadd hk.kn (FW.holds_nil _) rfl rfl hc4))) ?_; clear hk; intro a w hk
    refine FW.lfun (y := .lit (.string (FW.B ((([102, 39] : List UInt8) ++ v4) ++ ([39] : List UInt8))))) hk rfl rfl rfl rfl (FW.f_assign hk (FW.holds_nil _) rfl) ?_; clear hk; intro a w hk
    refine FW.lend (hK12 _ _ ?_); clear hK12 K'
    refine wp_ret ?_
    (repeat first | refine FW.then_ret ?_ | refine FW.block_ret ?_)
    obtain rfl := Option.some.inj h
    exact FW.fret1 hk rfl rfl

theorem lex_Text.ok (K : Nat) (v0 : List UInt8) (r : List UInt8) (h : lex_Text.f K v0 = some r) :
    FW.Ok Go.Proofs.Try.prog 21 [.lit (.string (FW.B v0))] (.lit (.string (FW.B r))) := by
  refine FW.enter (xs := [.lit (.string (FW.B v0))]) Go.Proofs.Try.func21 rfl Go.Proofs.Try.ntmps21 rfl ?_
  intro M w0 a hk
  unfold lex_Text.f at h
  refine FW.wreg ?_; intro K' hK1
  refine FW.lfun (y := .lit (.string (FW.B ([] : List UInt8)))) hk rfl rfl rfl rfl (FW.f_assign hk (FW.holds_nil _) rfl) ?_; clear hk; intro a w hk
  refine FW.lend (hK1 _ _ ?_); clear hK1 K'
  refine FW.wreg ?_; intro K' hK2
  refine l_bldNew hk rfl rfl ?_; clear hk; intro b1 a w hk
  refine FW.lend (hK2 _ _ ?_); clear hK2 K'
  refine FW.wreg ?_; intro K' hK3
  obtain ⟨hc1, h⟩ := FW.chk h
  refine l_bldByte (I' := fun bv1 => [bldI w0.heap.size b1 bv1 (([] : List UInt8) ++ [UInt8.ofNat (Int.toNat 39)])]) (j := 0) hk rfl rfl rfl rfl rfl hc1 (fun _ => rfl) ?_; clear hk; intro bv1 a w hk
  refine FW.lend (hK3 _ _ ?_); clear hK3 K'
  refine FW.wseq ?_; intro K' hK4
  refine FW.wreg ?_; intro K' hK5
  refine FW.lfun (y := .lit (.string (FW.B v0))) hk rfl rfl rfl rfl (FW.f_move hk (FW.holds_nil _) rfl) ?_; clear hk; intro a w hk
  refine FW.lfun (y := .row (r_c_u8 (FW.bytesI v0))) hk rfl rfl rfl rfl (FW.f_bytes hk (FW.holds_nil _) Go.Proofs.Try.underlying9 Go.Proofs.Try.underlying45 Go.Proofs.Try.underlying5 rfl) ?_; clear hk; intro a w hk
  refine FW.lfun (y := .lit (.int .i64 (List.length (FW.bytesI v0) : Int))) hk rfl rfl rfl rfl (FW.f_len (R := r_c_u8) (f := c_u8) (l := (FW.bytesI v0)) r_c_u8_eq Go.Proofs.Try.underlying45 hk (FW.holds_nil _) rfl) ?_; clear hk; intro a w hk
  refine FW.lfun (y := .lit (.int .i64 0)) hk rfl rfl rfl rfl (FW.f_move hk (FW.holds_nil _) rfl) ?_; clear hk; intro a w hk
  refine FW.lend (hK5 _ _ ?_); clear hK5 K'
  refine wp_block ?_
  refine FW.wloop (T := Nat × List UInt8 × List Int × Int × Int × Value) (fun x a w => match x with | (kl1, l1, v8, v9, v10, bv1) => FW.S M w0 a w 45 [bldI w0.heap.size b1 bv1 l1] [(3, [], .lit (.pointer (some ⟨b1, 0, none⟩))), (8, [], .row (r_c_u8 v8)), (9, [], .lit (.int .i64 v9)), (10, [], .lit (.int .i64 v10))] ∧ lex_Text.l1 K kl1 l1 v8 v9 v10 = some r) (fun x => x.1) (K, (([] : List UInt8) ++ [UInt8.ofNat (Int.toNat 39)]), (FW.bytesI v0), (List.length (FW.bytesI v0) : Int), 0, bv1) ⟨hk.sub ⟨rfl, rfl, rfl, rfl, trivial⟩, h⟩ ?_
  clear hk h
  rintro ⟨kl1, l1, v8, v9, v10, bv1⟩ a w ⟨hk, h⟩ K' hK6
  cases kl1 with
  | zero => simp [lex_Text.l1] at h
  | succ kl1 =>
  rw [lex_Text.l1.eq_2] at h
  refine FW.wreg ?_; intro K' hK7
  refine FW.lfun (y := .lit (.bool (decide (v10 < v9)))) hk rfl rfl rfl rfl ((FW.f_pure (FW.p_lss hk.kn (FW.holds_nil _) rfl rfl))) ?_; clear hk; intro a w hk
  refine FW.lend (hK7 _ _ ?_); clear hK7 K'
  refine FW.wseq ?_; intro K' hK8
  refine FW.wcondF (b := (decide (v10 < v9))) hk h rfl (fun h hb => ?_) (fun h hb => ?_)
  · skip
    refine wp_skip ?_
    (repeat first | refine FW.then_normal ?_ | refine FW.block_normal ?_); refine hK8 _ _ ?_
    refine FW.wseqJ (fun a w => ∃ (l1 : List UInt8) (v8 : List Int) (v9 : Int) (v10 : Int) (bv1 : Value), FW.S M w0 a w 45 [bldI w0.heap.size b1 bv1 l1] [(3, [], .lit (.pointer (some ⟨b1, 0, none⟩))), (8, [], .row (r_c_u8 v8)), (9, [], .lit (.int .i64 v9)), (10, [], .lit (.int .i64 v10))] ∧ lex_Text.j1 (lex_Text.l1 K kl1) K l1 v8 v9 v10 = some r) ?_ ?_
    · clear hk h
      rintro a w ⟨l1, v8, v9, v10, bv1, hk, h⟩
      unfold lex_Text.j1 at h
      refine FW.wreg1 ?_
      refine FW.lfun (y := .lit (.int .i64 (IntKind.wrap .i64 (v10 + 1)))) hk rfl rfl rfl rfl ((FW.f_pure (FW.p_add hk.kn (FW.holds_nil _) rfl rfl))) ?_; clear hk; intro a w hk
      refine FW.lfun (y := .lit (.int .i64 (IntKind.wrap .i64 (v10 + 1)))) hk rfl rfl rfl rfl (FW.f_move hk (FW.holds_nil _) rfl) ?_; clear hk; intro a w hk
      refine wpList_nil ?_
      (repeat first | refine FW.then_normal ?_ | refine FW.block_normal ?_); exact hK6 (kl1, l1, v8, v9, (IntKind.wrap .i64 (v10 + 1)), bv1) _ _ (Nat.lt_succ_self _) ⟨hk.sub ⟨rfl, rfl, rfl, rfl, trivial⟩, h⟩
    · intro K' hK9
      refine wp_block ?_
      refine FW.wreg ?_; intro K' hK11
      obtain ⟨hc2, h⟩ := FW.chk h
      refine FW.lfun (y := .ref (c_u8 (List.getD v8 (Int.toNat v10) default))) hk rfl rfl rfl rfl (FW.f_indexAddr (R := r_c_u8) (f := c_u8) (l := v8) (sz := 1) r_c_u8_eq (fun _ => rfl) hk (FW.holds_nil _) rfl rfl Go.Proofs.Try.underlying45 (by kernel_rfl) hc2) ?_; clear hk; intro a w hk
      refine FW.lfun (y := .lit (.int .u8 (List.getD v8 (Int.toNat v10) default))) hk rfl rfl rfl rfl (FW.f_load1 hk (FW.holds_nil _) rfl rfl Go.Proofs.Try.underlying5 rfl) ?_; clear hk; intro a w hk
      refine FW.lfun (y := .lit (.int .u8 (List.getD v8 (Int.toNat v10) default))) hk rfl rfl rfl rfl (FW.f_assign hk (FW.holds_nil _) rfl) ?_; clear hk; intro a w hk
      refine FW.lend (hK11 _ _ ?_); clear hK11 K'
      refine wp_block ?_
      refine FW.wreg ?_; intro K' hK12
      refine FW.lfun (y := .lit (.int .u8 (List.getD v8 (Int.toNat v10) default))) hk rfl rfl rfl rfl (FW.f_move hk (FW.holds_nil _) rfl) ?_; clear hk; intro a w hk
      refine FW.lfun (y := .lit (.bool (decide ((List.getD v8 (Int.toNat v10) default) = 39)))) hk rfl rfl rfl rfl ((FW.f_pure (FW.p_eql hk.kn (FW.holds_nil _) rfl rfl))) ?_; clear hk; intro a w hk
      refine FW.lfun (y := .lit (.bool (decide ((List.getD v8 (Int.toNat v10) default) = 39)))) hk rfl rfl rfl rfl (FW.f_move hk (FW.holds_nil _) rfl) ?_; clear hk; intro a w hk
      refine FW.lfunG (y := .lit (.int .u8 (List.getD v8 (Int.toNat v10) default))) hk rfl rfl rfl rfl rfl rfl rfl rfl (fun hc => FW.f_move hk hc rfl) ?_; clear hk; intro a w hk
      refine FW.lfunG (y := .lit (.bool (decide ((List.getD v8 (Int.toNat v10) default) = 92)))) hk rfl rfl rfl rfl rfl rfl rfl rfl (fun hc => (FW.f_pure (FW.p_eql hk.kn hc rfl rfl))) ?_; clear hk; intro a w hk
      refine FW.lfun (y := .lit (.bool ((decide ((List.getD v8 (Int.toNat v10) default) = 39)) || (decide ((List.getD v8 (Int.toNat v10) default) = 92))))) hk rfl rfl rfl rfl ((FW.f_pure (FW.p_pick_or hk.kn (FW.holds_nil _) rfl rfl))) ?_; clear hk; intro a w hk
      refine FW.lfun (y := .lit (.bool ((decide ((List.getD v8 (Int.toNat v10) default) = 39)) || (decide ((List.getD v8 (Int.toNat v10) default) = 92))))) hk rfl rfl rfl rfl (FW.f_assign hk (FW.holds_nil _) rfl) ?_; clear hk; intro a w hk
      refine FW.lend (hK12 _ _ ?_); clear hK12 K'
      refine FW.wcondF (b := ((decide ((List.getD v8 (Int.toNat v10) default) = 39)) || (decide ((List.getD v8 (Int.toNat v10) default) = 92)))) hk h rfl (fun h hb => ?_) (fun h hb => ?_)
      · skip
        refine FW.wreg ?_; intro K' hK13
        obtain ⟨hc3, h⟩ := FW.chk h
        refine l_bldByte (I' := fun bv2 => [bldI w0.heap.size b1 bv2 (l1 ++ [UInt8.ofNat (Int.toNat 92)])]) (j := 0) hk rfl rfl rfl rfl rfl hc3 (fun _ => rfl) ?_; clear hk; intro bv2 a w hk
        refine FW.lend (hK13 _ _ ?_); clear hK13 K'
        refine FW.wreg1 ?_
        refine FW.lfun (y := .lit (.int .u8 (List.getD v8 (Int.toNat v10) default))) hk rfl rfl rfl rfl (FW.f_move hk (FW.holds_nil _) rfl) ?_; clear hk; intro a w hk
        obtain ⟨hc4, h⟩ := FW.chk h
        refine l_bldByte (I' := fun bv3 => [bldI w0.heap.size b1 bv3 ((l1 ++ [UInt8.ofNat (Int.toNat 92)]) ++ [UInt8.ofNat (Int.toNat (List.getD v8 (Int.toNat v10) default))])]) (j := 0) hk rfl rfl rfl rfl rfl hc4 (fun _ => rfl) ?_; clear hk; intro bv3 a w hk
        refine wpList_nil ?_
        (repeat first | refine FW.then_normal ?_ | refine FW.block_normal ?_); exact hK9 _ _ ⟨((l1 ++ [UInt8.ofNat (Int.toNat 92)]) ++ [UInt8.ofNat (Int.toNat (List.getD v8 (Int.toNat v10) default))]), v8, v9, v10, bv3, hk.sub ⟨rfl, rfl, rfl, rfl, trivial⟩, h⟩
      · skip
        refine FW.wreg ?_; intro K' hK15
        refine FW.lfun (y := .lit (.int .u8 (List.getD v8 (Int.toNat v10) default))) hk rfl rfl rfl rfl (FW.f_move hk (FW.holds_nil _) rfl) ?_; clear hk; intro a w hk
        refine FW.lfun (y := .lit (.bool (decide ((List.getD v8 (Int.toNat v10) default) < 32)))) hk rfl rfl rfl rfl ((FW.f_pure (FW.p_lss hk.kn (FW.holds_nil _) rfl rfl))) ?_; clear hk; intro a w hk
        refine FW.lfun (y := .lit (.bool (decide ((List.getD v8 (Int.toNat v10) default) < 32)))) hk rfl rfl rfl rfl (FW.f_move hk (FW.holds_nil _) rfl) ?_; clear hk; intro a w hk
        refine FW.lfunG (y := .lit (.int .u8 (List.getD v8 (Int.toNat v10) default))) hk rfl rfl rfl rfl rfl rfl rfl rfl (fun hc => FW.f_move hk hc rfl) ?_; clear hk; intro a w hk
        refine FW.lfunG (y := .lit (.bool (decide (126 < (List.getD v8 (Int.toNat v10) default))))) hk rfl rfl rfl rfl rfl rfl rfl rfl (fun hc => (FW.f_pure (FW.p_gtr hk.kn hc rfl rfl))) ?_; clear hk; intro a w hk
        refine FW.lfun (y := .lit (.bool ((decide ((List.getD v8 (Int.toNat v10) default) < 32)) || (decide (126 < (List.getD v8 (Int.toNat v10) default)))))) hk rfl rfl rfl rfl ((FW.f_pure (FW.p_pick_or hk.kn (FW.holds_nil _) rfl rfl))) ?_; clear hk; intro a w hk
        refine FW.lfun (y := .lit (.bool ((decide ((List.getD v8 (Int.toNat v10) default) < 32)) || (decide (126 < (List.getD v8 (Int.toNat v10) default)))))) hk rfl rfl rfl rfl (FW.f_assign hk (FW.holds_nil _) rfl) ?_; clear hk; intro a w hk
        refine FW.lend (hK15 _ _ ?_); clear hK15 K'
        refine FW.wcondF (b := ((decide ((List.getD v8 (Int.toNat v10) default) < 32)) || (decide (126 < (List.getD v8 (Int.toNat v10) default))))) hk h rfl (fun h hb => ?_) (fun h hb => ?_)
        · skip
          refine FW.wreg ?_; intro K' hK16
          obtain ⟨hc5, h⟩ := FW.chk h
          refine l_bldStr (I' := fun bv4 => [bldI w0.heap.size b1 bv4 (l1 ++ ([92, 120] : List UInt8))]) (j := 0) hk rfl rfl rfl rfl rfl hc5 (fun _ => rfl) ?_; clear hk; intro bv4 a w hk
          refine FW.lend (hK16 _ _ ?_); clear hK16 K'
          refine FW.wreg ?_; intro K' hK17
          refine FW.lfun (y := .lit (.int .u8 (List.getD v8 (Int.toNat v10) default))) hk rfl rfl rfl rfl (FW.f_move hk (FW.holds_nil _) rfl) ?_; clear hk; intro a w hk
          refine FW.lfun (y := .lit (.int .u8 (IntKind.wrap .u8 (Int.tdiv (List.getD v8 (Int.toNat v10) default) 16)))) hk rfl rfl rfl rfl ((FW.f_pure (FW.p_quo hk.kn (FW.holds_nil _) rfl rfl (show ¬ (16 : Int) = 0 from by decide)))) ?_; clear hk; intro a w hk
          obtain ⟨hc6, h⟩ := FW.chk h
          refine FW.lfun (y := .lit (.int .u8 (FW.bt ([48, 49, 50, 51, 52, 53, 54, 55, 56, 57, 97, 98, 99, 100, 101, 102] : List UInt8) (IntKind.wrap .u8 (Int.tdiv (List.getD v8 (Int.toNat v10) default) 16))))) hk rfl rfl rfl rfl ((FW.f_pure (FW.p_index Go.Proofs.Try.underlying9 hk.kn (FW.holds_nil _) rfl rfl hc6))) ?_; clear hk; intro a w hk
          obtain ⟨hc7, h⟩ := FW.chk h
          refine l_bldByte (I' := fun bv5 => [bldI w0.heap.size b1 bv5 ((l1 ++ ([92, 120] : List UInt8)) ++ [UInt8.ofNat (Int.toNat (FW.bt ([48, 49, 50, 51, 52, 53, 54, 55, 56, 57, 97, 98, 99, 100, 101, 102] : List UInt8) (IntKind.wrap .u8 (Int.tdiv (List.getD v8 (Int.toNat v10) default) 16))))])]) (j := 0) hk rfl rfl rfl rfl rfl hc7 (fun _ => rfl) ?_; clear hk; intro bv5 a w hk
          refine FW.lend (hK17 _ _ ?_); clear hK17 K'
          refine FW.wreg1 ?_
          refine FW.lfun (y := .lit (.int .u8 (List.getD v8 (Int.toNat v10) default))) hk rfl rfl rfl rfl (FW.f_move hk (FW.holds_nil _) rfl) ?_; clear hk; intro a w hk
          refine FW.lfun (y := .lit (.int .u8 (Int.tmod (List.getD v8 (Int.toNat v10) default) 16))) hk rfl rfl rfl rfl ((FW.f_pure (FW.p_rem hk.kn (FW.holds_nil _) rfl rfl (show ¬ (16 : Int) = 0 from by decide)))) ?_; clear hk; intro a w hk
          obtain ⟨hc8, h⟩ := FW.chk h
          refine FW.lfun (y := .lit (.int .u8 (FW.bt ([48, 49, 50, 51, 52, 53, 54, 55, 56, 57, 97, 98, 99, 100, 101, 102] : List UInt8) (Int.tmod (List.getD v8 (Int.toNat v10) default) 16)))) hk rfl rfl rfl rfl ((FW.f_pure (FW.p_index Go.Proofs.Try.underlying9 hk.kn (FW.holds_nil _) rfl rfl hc8))) ?_; clear hk; intro a w hk
          obtain ⟨hc9, h⟩ := FW.chk h
          refine l_bldByte (I' := fun bv6 => [bldI w0.heap.size b1 bv6 (((l1 ++ ([92, 120] : List UInt8)) ++ [UInt8.ofNat (Int.toNat (FW.bt ([48, 49, 50, 51, 52, 53, 54, 55, 56, 57, 97, 98, 99, 100, 101, 102] : List UInt8) (IntKind.wrap .u8 (Int.tdiv (List.getD v8 (Int.toNat v10) default) 16))))]) ++ [UInt8.ofNat (Int.toNat (FW.bt ([48, 49, 50, 51, 52, 53, 54, 55, 56, 57, 97, 98, 99, 100, 101, 102] : List UInt8) (Int.tmod (List.getD v8 (Int.toNat v10) default) 16)))])]) (j := 0) hk rfl rfl rfl rfl rfl hc9 (fun _ => rfl) ?_; clear hk; intro bv6 a w hk
          refine wpList_nil ?_
          (repeat first | refine FW.then_normal ?_ | refine FW.block_normal ?_); exact hK9 _ _ ⟨(((l1 ++ ([92, 120] : List UInt8)) ++ [UInt8.ofNat (Int.toNat (FW.bt ([48, 49, 50, 51, 52, 53, 54, 55, 56, 57, 97, 98, 99, 100, 101, 102] : List UInt8) (IntKind.wrap .u8 (Int.tdiv (List.getD v8 (Int.toNat v10) default) 16))))]) ++ [UInt8.ofNat (Int.toNat (FW.bt ([48, 49, 50, 51, 52, 53, 54, 55, 56, 57, 97, 98, 99, 100, 101, 102] : List UInt8) (Int.tmod (List.getD v8 (Int.toNat v10) default) 16)))]), v8, v9, v10, bv6, hk.sub ⟨rfl, rfl, rfl, rfl, trivial⟩, h⟩
        · skip
          refine FW.wreg1 ?_
          refine FW.lfun (y := .lit (.int .u8 (List.getD v8 (Int.toNat v10) default))) hk rfl rfl rfl rfl (FW.f_move hk (FW.holds_nil _) rfl) ?_; clear hk; intro a w hk
          obtain ⟨hc10, h⟩ := FW.chk h
          refine l_bldByte (I' := fun bv7 => [bldI w0.heap.size b1 bv7 (l1 ++ [UInt8.ofNat (Int.toNat (List.getD v8 (Int.toNat v10) default))])]) (j := 0) hk rfl rfl rfl rfl rfl hc10 (fun _ => rfl) ?_; clear hk; intro bv7 a w hk
          refine wpList_nil ?_
          (repeat first | refine FW.then_normal ?_ | refine FW.block_normal ?_); exact hK9 _ _ ⟨(l1 ++ [UInt8.ofNat (Int.toNat (List.getD v8 (Int.toNat v10) default))]), v8, v9, v10, bv7, hk.sub ⟨rfl, rfl, rfl, rfl, trivial⟩, h⟩
  · skip
    refine wp_exit ?_; (repeat first | refine FW.then_exit ?_ | refine FW.block_exit_ne rfl ?_); refine FW.block_exit ?_
    (repeat first | refine FW.then_normal ?_ | refine FW.block_normal ?_); refine hK4 _ _ ?_
    refine FW.wreg ?_; intro K' hK20
    obtain ⟨hc11, h⟩ := FW.chk h
    refine l_bldByte (I' := fun bv8 => [bldI w0.heap.size b1 bv8 (l1 ++ [UInt8.ofNat (Int.toNat 39)])]) (j := 0) hk rfl rfl rfl rfl rfl hc11 (fun _ => rfl) ?_; clear hk; intro bv8 a w hk
    refine FW.lend (hK20 _ _ ?_); clear hK20 K'
    refine FW.wreg ?_; intro K' hK21
    refine l_bldString (σ' := [(9, [], .lit (.int .i64 v9)), (10, [], .lit (.int .i64 v10)), (11, [], .lit (.bool (decide (v10 < v9)))), (43, [], .lit .nilIface)]) (j := 0) hk rfl rfl rfl rfl ⟨rfl, rfl, rfl, rfl, trivial⟩ rfl ?_; clear hk; intro a w hk
    refine FW.lfun (y := .lit (.string (FW.B (l1 ++ [UInt8.ofNat (Int.toNat 39)])))) hk rfl rfl rfl rfl (FW.f_assign hk (FW.holds_nil _) rfl) ?_; clear hk; intro a w hk
    refine FW.lend (hK21 _ _ ?_); clear hK21 K'
    refine wp_ret ?_
    (repeat first | refine FW.then_ret ?_ | refine FW.block_ret ?_)
    obtain rfl := Option.some.inj h
    exact FW.fret1 hk rfl rfl

theorem show_join_api_Value_of_show_Value.bok (s_show_join_api_Value_of_show_Value : List ApiValue → Option (List UInt8)) (s_show_Value : ApiValue → Option (List UInt8)) (hs_show_join_api_Value_of_show_Value : ∀ (v0 : List ApiValue) (r : List UInt8), s_show_join_api_Value_of_show_Value v0 = some r → FW.Ok Go.Proofs.Try.prog 32 [.row (r_ApiValue_cells v0), .lit (.func (.func 15) #[] #[])] (.lit (.string (FW.B r)))) (hs_show_Value : ∀ (v0 : ApiValue) (r : List UInt8), s_show_Value v0 = some r → FW.Ok Go.Proofs.Try.prog 15 [.agg (ApiValue.cells v0)] (.lit (.string (FW.B r)))) (K : Nat) (v0 : List ApiValue) (r : List UInt8) (h : show_join_api_Value_of_show_Value.b s_show_join_api_Value_of_show_Value s_show_Value K v0 = some r) :
    FW.Ok Go.Proofs.Try.prog 32 [.row (r_ApiValue_cells v0), .lit (.func (.func 15) #[] #[])] (.lit (.string (FW.B r))) := by
  refine FW.enter (xs := [.row (r_ApiValue_cells v0), .lit (.func (.func 15) #[] #[])]) Go.Proofs.Try.func32 rfl Go.Proofs.Try.ntmps32 rfl ?_
  intro M w0 a hk
  unfold show_join_api_Value_of_show_Value.b at h
  refine FW.wreg ?_; intro K' hK1
  refine FW.lfun (y := .lit (.string (FW.B ([] : List UInt8)))) hk rfl rfl rfl rfl (FW.f_assign hk (FW.holds_nil _) rfl) ?_; clear hk; intro a w hk
  refine FW.lend (hK1 _ _ ?_); clear hK1 K'
  refine FW.wreg ?_; intro K' hK2
  refine FW.lfun (y := .lit (.slice none 0 0)) hk rfl rfl rfl rfl (FW.f_assign hk (FW.holds_nil _) rfl) ?_; clear hk; intro a w hk
  replace hk := hk.nilRow 9 1 c_str (fun _ => rfl)
  refine FW.lend (hK2 _ _ ?_); clear hK2 K'
  refine FW.wseq ?_; intro K' hK3
  refine FW.wreg ?_; intro K' hK4
  refine FW.lfun (y := .row (r_ApiValue_cells v0)) hk rfl rfl rfl rfl (FW.f_move hk (FW.holds_nil _) rfl) ?_; clear hk; intro a w hk
  refine FW.lfun (y := .lit (.int .i64 (List.length v0 : Int))) hk rfl rfl rfl rfl (FW.f_len (R := r_ApiValue_cells) (f := ApiValue.cells) (l := v0) r_ApiValue_cells_eq Go.Proofs.Try.underlying31 hk (FW.holds_nil _) rfl) ?_; clear hk; intro a w hk
  refine FW.lfun (y := .lit (.int .i64 0)) hk rfl rfl rfl rfl (FW.f_move hk (FW.holds_nil _) rfl) ?_; clear hk; intro a w hk
  refine FW.lend (hK4 _ _ ?_); clear hK4 K'
  refine wp_block ?_
  refine FW.wloop (T := Nat × List (List UInt8) × List ApiValue × Int × Int × Option Addr × Nat) (fun x a w => match x with | (kl1, l1, v8, v9, v10, ad1, cap1) => FW.S M w0 a w 23 [FW.orow ad1 cap1 9 1 c_str l1] [(1, [], .lit (.func (.func 15) #[] #[])), (5, [], .lit (.slice ad1 (List.length l1) cap1)), (8, [], .row (r_ApiValue_cells v8)), (9, [], .lit (.int .i64 v9)), (10, [], .lit (.int .i64 v10))] ∧ show_join_api_Value_of_show_Value.l1 s_show_join_api_Value_of_show_Value s_show_Value K kl1 l1 v8 v9 v10 = some r) (fun x => x.1) (K, ([] : List (List UInt8)), v0, (List.length v0 : Int), 0, none, 0) ⟨hk.sub ⟨rfl, rfl, rfl, rfl, rfl, trivial⟩, h⟩ ?_
  clear hk h
  rintro ⟨kl1, l1, v8, v9, v10, ad1, cap1⟩ a w ⟨hk, h⟩ K' hK5
  cases kl1 with
  | zero => simp [show_join_api_Value_of_show_Value.l1] at h
  | succ kl1 =>
  rw [show_join_api_Value_of_show_Value.l1.eq_2] at h
  refine FW.wreg ?_; intro K' hK6
  refine FW.lfun (y := .lit (.bool (decide (v10 < v9)))) hk rfl rfl rfl rfl ((FW.f_pure (FW.p_lss hk.kn (FW.holds_nil _) rfl rfl))) ?_; clear hk; intro a w hk
  refine FW.lend (hK6 _ _ ?_); clear hK6 K'
  refine FW.wseq ?_; intro K' hK7
  refine FW.wcondF (b := (decide (v10 < v9))) hk h rfl (fun h hb => ?_) (fun h hb => ?_)
  · skip
    refine wp_skip ?_
    (repeat first | refine FW.then_normal ?_ | refine FW.block_normal ?_); refine hK7 _ _ ?_
    refine FW.wseq ?_; intro K' hK8
    refine wp_block ?_
    refine FW.wreg ?_; intro K' hK9
    obtain ⟨hc1, h⟩ := FW.chk h
    refine FW.lfun (y := .ref (ApiValue.cells (List.getD v8 (Int.toNat v10) default))) hk rfl rfl rfl rfl (FW.f_indexAddr (R := r_ApiValue_cells) (f := ApiValue.cells) (l := v8) (sz := 6) r_ApiValue_cells_eq (fun _ => rfl) hk (FW.holds_nil _) rfl rfl Go.Proofs.Try.underlying31 (by kernel_rfl) hc1) ?_; clear hk; intro a w hk
    refine FW.lfun (y := .agg ((ApiValue.cells (List.getD v8 (Int.toNat v10) default)))) hk rfl rfl rfl rfl (FW.f_load hk (FW.holds_nil _) rfl Go.Proofs.Try.underlying33 rfl rfl rfl rfl) ?_; clear hk; intro a w hk
    refine FW.l_alloc (zs := (ApiValue.cells (⟨0, false, 0, 0, [], []⟩ : ApiValue))) [] hk rfl rfl rfl rfl ?_; clear hk; intro b1 a w hk
    refine FW.l_store (I' := [FW.blk b1 33 ((ApiValue.cells (List.getD v8 (Int.toNat v10) default))), FW.orow ad1 cap1 9 1 c_str l1]) (cs' := (ApiValue.cells (List.getD v8 (Int.toNat v10) default))) (j := 0) hk rfl rfl rfl rfl rfl (by kernel_rfl) rfl rfl ?_; clear hk; intro w hk
    refine FW.lend (hK9 _ _ ?_); clear hK9 K'
    refine FW.wreg1 ?_
    refine FW.lfun (y := .lit (.slice ad1 (List.length l1) cap1)) hk rfl rfl rfl rfl (FW.f_move hk (FW.holds_nil _) rfl) ?_; clear hk; intro a w hk
    refine FW.lfun (y := .lit (.func (.func 15) #[] #[])) hk rfl rfl rfl rfl (FW.f_move hk (FW.holds_nil _) rfl) ?_; clear hk; intro a w hk
    refine FW.lfun (y := .agg ((ApiValue.cells (List.getD v8 (Int.toNat v10) default)))) hk rfl rfl rfl rfl (FW.f_loadBlk hk (FW.holds_nil _) (j := 0) rfl rfl Go.Proofs.Try.underlying33 rfl rfl rfl rfl) ?_; clear hk; intro a w hk
    obtain ⟨t1, hr_t1, h⟩ := FW.bnd h
    refine FW.lfun (y := .lit (.string (FW.B t1))) hk rfl rfl rfl rfl (FW.f_call hk (FW.holds_nil _) rfl rfl Go.Proofs.Try.func15 rfl (by kernel_rfl) (hs_show_Value (List.getD v8 (Int.toNat v10) default) _ hr_t1)) ?_; clear hk; intro a w hk
    refine FW.l_buildSlice (f := c_str) (l := ([t1] : List (List UInt8))) hk rfl rfl rfl Go.Proofs.Try.underlying91 rfl rfl rfl rfl (fun _ => rfl) rfl ?_; clear hk; intro b2 a w hk
    obtain ⟨hc2, h⟩ := FW.chk h
    refine FW.l_append (l2 := ([t1] : List (List UInt8))) (l3 := (l1 ++ ([t1] : List (List UInt8)))) (I' := fun ad1 cap1 => [FW.orow (some ⟨b2, 0, none⟩) 1 9 1 c_str ([t1] : List (List UInt8)), FW.blk b1 33 ((ApiValue.cells (List.getD v8 (Int.toNat v10) default))), FW.orow ad1 cap1 9 1 c_str (l1 ++ ([t1] : List (List UInt8)))]) (j := 2) hk rfl rfl rfl rfl (FW.own_src hk (j := 0) rfl rfl (fun _ => rfl) Go.Proofs.Try.underlying91) Go.Proofs.Try.underlying91 (by kernel_rfl) hc2 rfl (fun _ _ => rfl) ?_; clear hk; intro ad1 cap1 a w hk
    replace hk := FW.S.dropI (I' := [FW.blk b1 33 ((ApiValue.cells (List.getD v8 (Int.toNat v10) default))), FW.orow ad1 cap1 9 1 c_str (l1 ++ ([t1] : List (List UInt8)))]) hk 0 rfl
    refine FW.lfun (y := .lit (.slice ad1 (List.length (l1 ++ ([t1] : List (List UInt8)))) cap1)) hk rfl rfl rfl rfl (FW.f_assign hk (FW.holds_nil _) rfl) ?_; clear hk; intro a w hk
    refine wpList_nil ?_
    (repeat first | refine FW.then_normal ?_ | refine FW.block_normal ?_); refine hK8 _ _ ?_
    refine FW.wreg1 ?_
    refine FW.lfun (y := .lit (.int .i64 (IntKind.wrap .i64 (v10 + 1)))) hk rfl rfl rfl rfl ((FW.f_pure (FW.p_add hk.kn (FW.holds_nil _) rfl rfl))) ?_; clear hk; intro a w hk
    refine FW.lfun (y := .lit (.int .i64 (IntKind.wrap .i64 (v10 + 1)))) hk rfl rfl rfl rfl (FW.f_move hk (FW.holds_nil _) rfl) ?_; clear hk; intro a w hk
    refine wpList_nil ?_
    (repeat first | refine FW.then_normal ?_ | refine FW.block_normal ?_); exact hK5 (kl1, (l1 ++ ([t1] : List (List UInt8))), v8, v9, (IntKind.wrap .i64 (v10 + 1)), ad1, cap1) _ _ (Nat.lt_succ_self _) ⟨(hk.drop 0).sub ⟨rfl, rfl, rfl, rfl, rfl, trivial⟩, h⟩
  · skip
    refine wp_exit ?_; (repeat first | refine FW.then_exit ?_ | refine FW.block_exit_ne rfl ?_); refine FW.block_exit ?_
    (repeat first | refine FW.then_normal ?_ | refine FW.block_normal ?_); refine hK3 _ _ ?_
    refine FW.wreg ?_; intro K' hK12
    refine FW.lfun (y := .lit (.slice ad1 (List.length l1) cap1)) hk rfl rfl rfl rfl (FW.f_move hk (FW.holds_nil _) rfl) ?_; clear hk; intro a w hk
    replace hk := FW.S.freezeR (I' := []) r_c_str_eq hk (j := 0) rfl (t := 21) rfl rfl
    obtain ⟨t2, hr_t2, h⟩ := FW.bnd h
    refine FW.lfun (y := .lit (.string (FW.B t2))) hk rfl rfl rfl rfl (FW.f_call hk (FW.holds_nil _) rfl rfl Go.Proofs.Try.func51 rfl (by kernel_rfl) (strings_Join.ok l1 ([44, 32] : List UInt8) _ hr_t2)) ?_; clear hk; intro a w hk
    refine FW.lfun (y := .lit (.string (FW.B t2))) hk rfl rfl rfl rfl (FW.f_assign hk (FW.holds_nil _) rfl) ?_; clear hk; intro a w hk
    refine FW.lend (hK12 _ _ ?_); clear hK12 K'
    refine wp_ret ?_
    (repeat first | refine FW.then_ret ?_ | refine FW.block_ret ?_)
    obtain rfl := Option.some.inj h
    exact FW.fret1 hk rfl rfl
theorem show_Value.bok (s_show_join_api_Value_of_show_Value : List ApiValue → Option (List UInt8)) (s_show_Value : ApiValue → Option (List UInt8)) (hs_show_join_api_Value_of_show_Value : ∀ (v0 : List ApiValue) (r : List UInt8), s_show_join_api_Value_of_show_Value v0 = some r → FW.Ok Go.Proofs.Try.prog 32 [.row (r_ApiValue_cells v0), .lit (.func (.func 15) #[] #[])] (.lit (.string (FW.B r)))) (hs_show_Value : ∀ (v0 : ApiValue) (r : List UInt8), s_show_Value v0 = some r → FW.Ok Go.Proofs.Try.prog 15 [.agg (ApiValue.cells v0)] (.lit (.string (FW.B r)))) (K : Nat) (v0 : ApiValue) (r : List UInt8) (h : show_Value.b s_show_join_api_Value_of_show_Value s_show_Value K v0 = some r) :
    FW.Ok Go.Proofs.Try.prog 15 [.agg (ApiValue.cells v0)] (.lit (.string (FW.B r))) := by
  refine FW.enter (xs := [.agg (ApiValue.cells v0)]) Go.Proofs.Try.func15 rfl Go.Proofs.Try.ntmps15 rfl ?_
  intro M w0 a hk
  unfold show_Value.b at h
  refine FW.wreg ?_; intro K' hK1
  refine FW.l_box (cs := (ApiValue.cells v0)) hk rfl rfl rfl rfl rfl ?_; clear hk; intro b1 a w hk
  refine FW.lfun (y := .lit (.string (FW.B ([] : List UInt8)))) hk rfl rfl rfl rfl (FW.f_assign hk (FW.holds_nil _) rfl) ?_; clear hk; intro a w hk
  refine FW.lend (hK1 _ _ ?_); clear hK1 K'
  refine FW.wseq ?_; intro K' hK2
  refine FW.wreg ?_; intro K' hK3
  refine FW.lfun (y := .lit (.pointer (some ⟨b1, 0, none⟩))) hk rfl rfl rfl rfl (FW.f_fieldPtr hk (FW.holds_nil _) rfl Go.Proofs.Try.underlying33 rfl (by kernel_rfl) rfl) ?_; clear hk; intro a w hk
  refine FW.lfun (y := .lit (.int .i64 v0.Kind)) hk rfl rfl rfl rfl (FW.f_loadBlk1 hk (FW.holds_nil _) (j := 0) rfl rfl Go.Proofs.Try.underlying3 rfl rfl) ?_; clear hk; intro a w hk
  refine FW.lend (hK3 _ _ ?_); clear hK3 K'
  refine wp_block ?_
  refine FW.wreg ?_; intro K' hK4
  refine FW.lfun (y := .lit (.bool (decide (v0.Kind = 0)))) hk rfl rfl rfl rfl ((FW.f_pure (FW.p_eql hk.kn (FW.holds_nil _) rfl rfl))) ?_; clear hk; intro a w hk
  refine FW.lfun (y := .lit (.bool (decide (v0.Kind = 0)))) hk rfl rfl rfl rfl (FW.f_assign hk (FW.holds_nil _) rfl) ?_; clear hk; intro a w hk
  refine FW.lend (hK4 _ _ ?_); clear hK4 K'
  refine FW.wcondF (b := (decide (v0.Kind = 0))) hk h rfl (fun h hb => ?_) (fun h hb => ?_)
  · skip
    refine FW.wreg ?_; intro K' hK5
    refine FW.lfun (y := .lit (.string (FW.B ([110, 117, 108, 108] : List UInt8)))) hk rfl rfl rfl rfl (FW.f_assign hk (FW.holds_nil _) rfl) ?_; clear hk; intro a w hk
    refine FW.lend (hK5 _ _ ?_); clear hK5 K'
    refine wp_ret ?_
    (repeat first | refine FW.then_ret ?_ | refine FW.block_ret ?_)
    obtain rfl := Option.some.inj h
    exact FW.fret1 hk rfl rfl
  · skip
    refine FW.wreg ?_; intro K' hK6
    refine FW.lfun (y := .lit (.bool (decide (v0.Kind = 1)))) hk rfl rfl rfl rfl ((FW.f_pure (FW.p_eql hk.kn (FW.holds_nil _) rfl rfl))) ?_; clear hk; intro a w hk
    refine FW.lfun (y := .lit (.bool (decide (v0.Kind = 1)))) hk rfl rfl rfl rfl (FW.f_assign hk (FW.holds_nil _) rfl) ?_; clear hk; intro a w hk
    refine FW.lend (hK6 _ _ ?_); clear hK6 K'
    refine FW.wcondF (b := (decide (v0.Kind = 1))) hk h rfl (fun h hb => ?_) (fun h hb => ?_)
    · skip
      refine FW.wseq ?_; intro K' hK7
      refine FW.wreg ?_; intro K' hK8
      refine FW.lfun (y := .lit (.pointer (some ⟨b1, 1, none⟩))) hk rfl rfl rfl rfl (FW.f_fieldPtr hk (FW.holds_nil _) rfl Go.Proofs.Try.underlying33 rfl (by kernel_rfl) rfl) ?_; clear hk; intro a w hk
      refine FW.lfun (y := .lit (.bool v0.B)) hk rfl rfl rfl rfl (FW.f_loadBlk1 hk (FW.holds_nil _) (j := 0) rfl rfl Go.Proofs.Try.underlying4 rfl rfl) ?_; clear hk; intro a w hk
      refine FW.lend (hK8 _ _ ?_); clear hK8 K'
      refine FW.wcondF (b := v0.B) hk h rfl (fun h hb => ?_) (fun h hb => ?_)
      · skip
        refine FW.wreg ?_; intro K' hK9
        refine FW.lfun (y := .lit (.string (FW.B ([116, 114, 117, 101] : List UInt8)))) hk rfl rfl rfl rfl (FW.f_assign hk (FW.holds_nil _) rfl) ?_; clear hk; intro a w hk
        refine FW.lend (hK9 _ _ ?_); clear hK9 K'
        refine wp_ret ?_
        (repeat first | refine FW.then_ret ?_ | refine FW.block_ret ?_)
        obtain rfl := Option.some.inj h
        exact FW.fret1 hk rfl rfl
      · skip
        refine wp_skip ?_
        (repeat first | refine FW.then_normal ?_ | refine FW.block_normal ?_); refine hK7 _ _ ?_
        refine FW.wreg ?_; intro K' hK10
        refine FW.lfun (y := .lit (.string (FW.B ([102, 97, 108, 115, 101] : List UInt8)))) hk rfl rfl rfl rfl (FW.f_assign hk (FW.holds_nil _) rfl) ?_; clear hk; intro a w hk
        refine FW.lend (hK10 _ _ ?_); clear hK10 K'
        refine wp_ret ?_
        (repeat first | refine FW.then_ret ?_ | refine FW.block_ret ?_)
        obtain rfl := Option.some.inj h
        exact FW.fret1 hk rfl rfl
    · skip
      refine FW.wreg ?_; intro K' hK11
      refine FW.lfun (y := .lit (.bool (decide (v0.Kind = 2)))) hk rfl rfl rfl rfl ((FW.f_pure (FW.p_eql hk.kn (FW.holds_nil _) rfl rfl))) ?_; clear hk; intro a w hk
      refine FW.lfun (y := .lit (.bool (decide (v0.Kind = 2)))) hk rfl rfl rfl rfl (FW.f_assign hk (FW.holds_nil _) rfl) ?_; clear hk; intro a w hk
      refine FW.lend (hK11 _ _ ?_); clear hK11 K'
      refine FW.wcondF (b := (decide (v0.Kind = 2))) hk h rfl (fun h hb => ?_) (fun h hb => ?_)
      · skip
        refine FW.wreg ?_; intro K' hK12
        refine FW.lfun (y := .lit (.pointer (some ⟨b1, 2, none⟩))) hk rfl rfl rfl rfl (FW.f_fieldPtr hk (FW.holds_nil _) rfl Go.Proofs.Try.underlying33 rfl (by kernel_rfl) rfl) ?_; clear hk; intro a w hk
        refine FW.lfun (y := .lit (.int .i64 v0.N)) hk rfl rfl rfl rfl (FW.f_loadBlk1 hk (FW.holds_nil _) (j := 0) rfl rfl Go.Proofs.Try.underlying2 rfl rfl) ?_; clear hk; intro a w hk
        obtain ⟨t1, hr_t1, h⟩ := FW.bnd h
        refine FW.lfun (y := .lit (.string (FW.B t1))) hk rfl rfl rfl rfl (FW.f_call hk (FW.holds_nil _) rfl rfl Go.Proofs.Try.func23 rfl (by kernel_rfl) (lex_Number.ok K v0.N _ hr_t1)) ?_; clear hk; intro a w hk
        refine FW.lfun (y := .lit (.string (FW.B t1))) hk rfl rfl rfl rfl (FW.f_assign hk (FW.holds_nil _) rfl) ?_; clear hk; intro a w hk
        refine FW.lend (hK12 _ _ ?_); clear hK12 K'
        refine wp_ret ?_
        (repeat first | refine FW.then_ret ?_ | refine FW.block_ret ?_)
        obtain rfl := Option.some.inj h
        exact FW.fret1 hk rfl rfl
      · skip
        refine FW.wreg ?_; intro K' hK13
        refine FW.lfun (y := .lit (.bool (decide (v0.Kind = 3)))) hk rfl rfl rfl rfl ((FW.f_pure (FW.p_eql hk.kn (FW.holds_nil _) rfl rfl))) ?_; clear hk; intro a w hk
        refine FW.lfun (y := .lit (.bool (decide (v0.Kind = 3)))) hk rfl rfl rfl rfl (FW.f_assign hk (FW.holds_nil _) rfl) ?_; clear hk; intro a w hk
        refine FW.lend (hK13 _ _ ?_); clear hK13 K'
        refine FW.wcondF (b := (decide (v0.Kind = 3))) hk h rfl (fun h hb => ?_) (fun h hb => ?_)
        · skip
          refine FW.wreg ?_; intro K' hK14
          refine FW.lfun (y := .lit (.pointer (some ⟨b1, 3, none⟩))) hk rfl rfl rfl rfl (FW.f_fieldPtr hk (FW.holds_nil _) rfl Go.Proofs.Try.underlying33 rfl (by kernel_rfl) rfl) ?_; clear hk; intro a w hk
          refine FW.lfun (y := .lit (.float .f64 v0.F)) hk rfl rfl rfl rfl (FW.f_loadBlk1 hk (FW.holds_nil _) (j := 0) rfl rfl Go.Proofs.Try.underlying30 rfl rfl) ?_; clear hk; intro a w hk
          obtain ⟨t2, hr_t2, h⟩ := FW.bnd h
          refine FW.lfun (y := .lit (.string (FW.B t2))) hk rfl rfl rfl rfl (FW.f_call hk (FW.holds_nil _) rfl rfl Go.Proofs.Try.func24 rfl (by kernel_rfl) (lex_Float.ok K v0.F _ hr_t2)) ?_; clear hk; intro a w hk
          refine FW.lfun (y := .lit (.string (FW.B t2))) hk rfl rfl rfl rfl (FW.f_assign hk (FW.holds_nil _) rfl) ?_; clear hk; intro a w hk
          refine FW.lend (hK14 _ _ ?_); clear hK14 K'
          refine wp_ret ?_
          (repeat first | refine FW.then_ret ?_ | refine FW.block_ret ?_)
          obtain rfl := Option.some.inj h
          exact FW.fret1 hk rfl rfl
        · skip
          refine FW.wreg ?_; intro K' hK15
          refine FW.lfun (y := .lit (.bool (decide (v0.Kind = 4)))) hk rfl rfl rfl rfl ((FW.f_pure (FW.p_eql hk.kn (FW.holds_nil _) rfl rfl))) ?_; clear hk; intro a w hk
          refine FW.lfun (y := .lit (.bool (decide (v0.Kind = 4)))) hk rfl rfl rfl rfl (FW.f_assign hk (FW.holds_nil _) rfl) ?_; clear hk; intro a w hk
          refine FW.lend (hK15 _ _ ?_); clear hK15 K'
          refine FW.wcondF (b := (decide (v0.Kind = 4))) hk h rfl (fun h hb => ?_) (fun h hb => ?_)
          · skip
            refine FW.wreg ?_; intro K' hK16
            refine FW.lfun (y := .lit (.pointer (some ⟨b1, 4, none⟩))) hk rfl rfl rfl rfl (FW.f_fieldPtr hk (FW.holds_nil _) rfl Go.Proofs.Try.underlying33 rfl (by kernel_rfl) rfl) ?_; clear hk; intro a w hk
            refine FW.lfun (y := .lit (.string (FW.B v0.S))) hk rfl rfl rfl rfl (FW.f_loadBlk1 hk (FW.holds_nil _) (j := 0) rfl rfl Go.Proofs.Try.underlying9 rfl rfl) ?_; clear hk; intro a w hk
            obtain ⟨t3, hr_t3, h⟩ := FW.bnd h
            refine FW.lfun (y := .lit (.string (FW.B t3))) hk rfl rfl rfl rfl (FW.f_call hk (FW.holds_nil _) rfl rfl Go.Proofs.Try.func21 rfl (by kernel_rfl) (lex_Text.ok K v0.S _ hr_t3)) ?_; clear hk; intro a w hk
            refine FW.lfun (y := .lit (.string (FW.B t3))) hk rfl rfl rfl rfl (FW.f_assign hk (FW.holds_nil _) rfl) ?_; clear hk; intro a w hk
            refine FW.lend (hK16 _ _ ?_); clear hK16 K'
            refine wp_ret ?_
            (repeat first | refine FW.then_ret ?_ | refine FW.block_ret ?_)
            obtain rfl := Option.some.inj h
            exact FW.fret1 hk rfl rfl
          · skip
            refine FW.wreg ?_; intro K' hK17
            refine FW.lfun (y := .lit (.bool (decide (v0.Kind = 5)))) hk rfl rfl rfl rfl ((FW.f_pure (FW.p_eql hk.kn (FW.holds_nil _) rfl rfl))) ?_; clear hk; intro a w hk
            refine FW.lfun (y := .lit (.bool (decide (v0.Kind = 5)))) hk rfl rfl rfl rfl (FW.f_assign hk (FW.holds_nil _) rfl) ?_; clear hk; intro a w hk
            refine FW.lend (hK17 _ _ ?_); clear hK17 K'
            refine FW.wcondF (b := (decide (v0.Kind = 5))) hk h rfl (fun h hb => ?_) (fun h hb => ?_)
            · skip
              refine FW.wreg ?_; intro K' hK18
              refine FW.lfun (y := .lit (.pointer (some ⟨b1, 5, none⟩))) hk rfl rfl rfl rfl (FW.f_fieldPtr hk (FW.holds_nil _) rfl Go.Proofs.Try.underlying33 rfl (by kernel_rfl) rfl) ?_; clear hk; intro a w hk
              refine FW.lfun (y := .row (r_ApiValue_cells v0.L)) hk rfl rfl rfl rfl (FW.f_loadBlk1 hk (FW.holds_nil _) (j := 0) rfl rfl Go.Proofs.Try.underlying31 rfl rfl) ?_; clear hk; intro a w hk
              obtain ⟨t4, hr_t4, h⟩ := FW.bnd h
              refine FW.lfun (y := .lit (.string (FW.B t4))) hk rfl rfl rfl rfl (FW.f_call hk (FW.holds_nil _) rfl rfl Go.Proofs.Try.func32 rfl (by kernel_rfl) (hs_show_join_api_Value_of_show_Value v0.L _ hr_t4)) ?_; clear hk; intro a w hk
              obtain ⟨hc1, h⟩ := FW.chk h
              refine FW.lfun (y := .lit (.string (FW.B (([91] : List UInt8) ++ t4)))) hk rfl rfl rfl rfl ((FW.f_pure (FW.p_sadd hk.kn (FW.holds_nil _) rfl rfl hc1))) ?_; clear hk; intro a w hk
              obtain ⟨hc2, h⟩ := FW.chk h
              refine FW.lfun (y := .lit (.string (FW.B ((([91] : List UInt8) ++ t4) ++ ([93] : List UInt8))))) hk rfl rfl rfl rfl ((FW.f_pure (FW.p_sadd hk.kn (FW.holds_nil _) rfl rfl hc2))) ?_; clear hk; intro a w hk
              refine FW.lfun (y := .lit (.string (FW.B ((([91] : List UInt8) ++ t4) ++ ([93] : List UInt8))))) hk rfl rfl rfl rfl (FW.f_assign hk (FW.holds_nil _) rfl) ?_; clear hk; intro a w hk
              refine FW.lend (hK18 _ _ ?_); clear hK18 K'
              refine wp_ret ?_
              (repeat first | refine FW.then_ret ?_ | refine FW.block_ret ?_)
              obtain rfl := Option.some.inj h
              exact FW.fret1 hk rfl rfl
            · skip
              refine FW.wreg ?_; intro K' hK19
              refine FW.lfun (y := .lit (.bool (decide (v0.Kind = 6)))) hk rfl rfl rfl rfl ((FW.f_pure (FW.p_eql hk.kn (FW.holds_nil _) rfl rfl))) ?_; clear hk; intro a w hk
              refine FW.lfun (y := .lit (.bool (decide (v0.Kind = 6)))) hk rfl rfl rfl rfl (FW.f_assign hk (FW.holds_nil _) rfl) ?_; clear hk; intro a w hk
              refine FW.lend (hK19 _ _ ?_); clear hK19 K'
              refine FW.wcondF (b := (decide (v0.Kind = 6))) hk h rfl (fun h hb => ?_) (fun h hb => ?_)
              · skip
                refine FW.wreg ?_; intro K' hK20
                refine FW.lfun (y := .lit (.pointer (some ⟨b1, 5, none⟩))) hk rfl rfl rfl rfl (FW.f_fieldPtr hk (FW.holds_nil _) rfl Go.Proofs.Try.underlying33 rfl (by kernel_rfl) rfl) ?_; clear hk; intro a w hk
                refine FW.lfun (y := .row (r_ApiValue_cells v0.L)) hk rfl rfl rfl rfl (FW.f_loadBlk1 hk (FW.holds_nil _) (j := 0) rfl rfl Go.Proofs.Try.underlying31 rfl rfl) ?_; clear hk; intro a w hk
                obtain ⟨t5, hr_t5, h⟩ := FW.bnd h
                refine FW.lfun (y := .lit (.string (FW.B t5))) hk rfl rfl rfl rfl (FW.f_call hk (FW.holds_nil _) rfl rfl Go.Proofs.Try.func32 rfl (by kernel_rfl) (hs_show_join_api_Value_of_show_Value v0.L _ hr_t5)) ?_; clear hk; intro a w hk
                obtain ⟨hc3, h⟩ := FW.chk h
                refine FW.lfun (y := .lit (.string (FW.B (([123] : List UInt8) ++ t5)))) hk rfl rfl rfl rfl ((FW.f_pure (FW.p_sadd hk.kn (FW.holds_nil _) rfl rfl hc3))) ?_; clear hk; intro a w hk
                obtain ⟨hc4, h⟩ := FW.chk h
                refine FW.lfun (y := .lit (.string (FW.B ((([123] : List UInt8) ++ t5) ++ ([125] : List UInt8))))) hk rfl rfl rfl rfl ((FW.f_pure (FW.p_sadd hk.kn (FW.holds_nil _) rfl rfl hc4))) ?_; clear hk; intro a w hk
                refine FW.lfun (y := .lit (.string (FW.B ((([123] : List UInt8) ++ t5) ++ ([125] : List UInt8))))) hk rfl rfl rfl rfl (FW.f_assign hk (FW.holds_nil _) rfl) ?_; clear hk; intro a w hk
                refine FW.lend (hK20 _ _ ?_); clear hK20 K'
                refine wp_ret ?_
                (repeat first | refine FW.then_ret ?_ | refine FW.block_ret ?_)
                obtain rfl := Option.some.inj h
                exact FW.fret1 hk rfl rfl
              · skip
                refine FW.wreg ?_; intro K' hK21
                refine FW.lfun (y := .lit (.bool (decide (v0.Kind = 7)))) hk rfl rfl rfl rfl ((FW.f_pure (FW.p_eql hk.kn (FW.holds_nil _) rfl rfl))) ?_; clear hk; intro a w hk
                refine FW.lfun (y := .lit (.bool (decide (v0.Kind = 7)))) hk rfl rfl rfl rfl (FW.f_assign hk (FW.holds_nil _) rfl) ?_; clear hk; intro a w hk
                refine FW.lend (hK21 _ _ ?_); clear hK21 K'
                refine FW.wcondF (b := (decide (v0.Kind = 7))) hk h rfl (fun h hb => ?_) (fun h hb => ?_)
                · skip
                  refine FW.wreg ?_; intro K' hK22
                  refine FW.lfun (y := .lit (.pointer (some ⟨b1, 2, none⟩))) hk rfl rfl rfl rfl (FW.f_fieldPtr hk (FW.holds_nil _) rfl Go.Proofs.Try.underlying33 rfl (by kernel_rfl) rfl) ?_; clear hk; intro a w hk
                  refine FW.lfun (y := .lit (.int .i64 v0.N)) hk rfl rfl rfl rfl (FW.f_loadBlk1 hk (FW.holds_nil _) (j := 0) rfl rfl Go.Proofs.Try.underlying2 rfl rfl) ?_; clear hk; intro a w hk
                  obtain ⟨t6, hr_t6, h⟩ := FW.bnd h
                  refine FW.lfun (y := .lit (.string (FW.B t6))) hk rfl rfl rfl rfl (FW.f_call hk (FW.holds_nil _) rfl rfl Go.Proofs.Try.func23 rfl (by kernel_rfl) (lex_Number.ok K v0.N _ hr_t6)) ?_; clear hk; intro a w hk
                  obtain ⟨hc5, h⟩ := FW.chk h
                  refine FW.lfun (y := .lit (.string (FW.B (([118, 40] : List UInt8) ++ t6)))) hk rfl rfl rfl rfl ((FW.f_pure (FW.p_sadd hk.kn (FW.holds_nil _) rfl rfl hc5))) ?_; clear hk; intro a w hk
                  obtain ⟨hc6, h⟩ := FW.chk h
                  refine FW.lfun (y := .lit (.string (FW.B ((([118, 40] : List UInt8) ++ t6) ++ ([41] : List UInt8))))) hk rfl rfl rfl rfl ((FW.f_pure (FW.p_sadd hk.kn (FW.holds_nil _) rfl rfl hc6))) ?_; clear hk; intro a w hk
                  refine FW.lfun (y := .lit (.string (FW.B ((([118, 40] : List UInt8) ++ t6) ++ ([41] : List UInt8))))) hk rfl rfl rfl rfl (FW.f_assign hk (FW.holds_nil _) rfl) ?_; clear hk; intro a w hk
                  refine FW.lend (hK22 _ _ ?_); clear hK22 K'
                  refine wp_ret ?_
                  (repeat first | refine FW.then_ret ?_ | refine FW.block_ret ?_)
                  obtain rfl := Option.some.inj h
                  exact FW.fret1 hk rfl rfl
                · skip
                  refine FW.wreg ?_; intro K' hK23
                  refine FW.lfun (y := .lit (.bool (decide (v0.Kind = 8)))) hk rfl rfl rfl rfl ((FW.f_pure (FW.p_eql hk.kn (FW.holds_nil _) rfl rfl))) ?_; clear hk; intro a w hk
                  refine FW.lfun (y := .lit (.bool (decide (v0.Kind = 8)))) hk rfl rfl rfl rfl (FW.f_assign hk (FW.holds_nil _) rfl) ?_; clear hk; intro a w hk
                  refine FW.lend (hK23 _ _ ?_); clear hK23 K'
                  refine FW.wcondF (b := (decide (v0.Kind = 8))) hk h rfl (fun h hb => ?_) (fun h hb => ?_)
                  · skip
                    refine FW.wreg ?_; intro K' hK24
                    refine FW.lfun (y := .lit (.pointer (some ⟨b1, 2, none⟩))) hk rfl rfl rfl rfl (FW.f_fieldPtr hk (FW.holds_nil _) rfl Go.Proofs.Try.underlying33 rfl (by kernel_rfl) rfl) ?_; clear hk; intro a w hk
                    refine FW.lfun (y := .lit (.int .i64 v0.N)) hk rfl rfl rfl rfl (FW.f_loadBlk1 hk (FW.holds_nil _) (j := 0) rfl rfl Go.Proofs.Try.underlying2 rfl rfl) ?_; clear hk; intro a w hk
                    obtain ⟨t7, hr_t7, h⟩ := FW.bnd h
                    refine FW.lfun (y := .lit (.string (FW.B t7))) hk rfl rfl rfl rfl (FW.f_call hk (FW.holds_nil _) rfl rfl Go.Proofs.Try.func23 rfl (by kernel_rfl) (lex_Number.ok K v0.N _ hr_t7)) ?_; clear hk; intro a w hk
                    obtain ⟨hc7, h⟩ := FW.chk h
                    refine FW.lfun (y := .lit (.string (FW.B (([101, 40] : List UInt8) ++ t7)))) hk rfl rfl rfl rfl ((FW.f_pure (FW.p_sadd hk.kn (FW.holds_nil _) rfl rfl hc7))) ?_; clear hk; intro a w hk
                    obtain ⟨hc8, h⟩ := FW.chk h
                    refine FW.lfun (y := .lit (.string (FW.B ((([101, 40] : List UInt8) ++ t7) ++ ([41] : List UInt8))))) hk rfl rfl rfl rfl ((FW.f_pure (FW.p_sadd hk.kn (FW.holds_nil _) rfl rfl hc8))) ?_; clear hk; intro a w hk
                    refine FW.lfun (y := .lit (.string (FW.B ((([101, 40] : List UInt8) ++ t7) ++ ([41] : List UInt8))))) hk rfl rfl rfl rfl (FW.f_assign hk (FW.holds_nil _) rfl) ?_; clear hk; intro a w hk
                    refine FW.lend (hK24 _ _ ?_); clear hK24 K'
                    refine wp_ret ?_
                    (repeat first | refine FW.then_ret ?_ | refine FW.block_ret ?_)
                    obtain rfl := Option.some.inj h
                    exact FW.fret1 hk rfl rfl
                  · skip
                    refine wp_skip ?_
                    (repeat first | refine FW.then_normal ?_ | refine FW.block_normal ?_); refine hK2 _ _ ?_
                    refine FW.wreg ?_; intro K' hK25
                    refine FW.lfun (y := .lit (.string (FW.B ([63] : List UInt8)))) hk rfl rfl rfl rfl (FW.f_assign hk (FW.holds_nil _) rfl) ?_; clear hk; intro a w hk
                    refine FW.lend (hK25 _ _ ?_); clear hK25 K'
                    refine wp_ret ?_
                    (repeat first | refine FW.then_ret ?_ | refine FW.block_ret ?_)
                    obtain rfl := Option.some.inj h
                    exact FW.fret1 hk rfl rfl
theorem show_join_api_Value_of_show_Value_knot : ∀ K : Nat, (∀ (v0 : List ApiValue) (r : List UInt8), show_join_api_Value_of_show_Value.f K v0 = some r → FW.Ok Go.Proofs.Try.prog 32 [.row (r_ApiValue_cells v0), .lit (.func (.func 15) #[] #[])] (.lit (.string (FW.B r)))) ∧ (∀ (v0 : ApiValue) (r : List UInt8), show_Value.f K v0 = some r → FW.Ok Go.Proofs.Try.prog 15 [.agg (ApiValue.cells v0)] (.lit (.string (FW.B r))))
  | 0 => ⟨fun v0 r h => by simp [show_join_api_Value_of_show_Value.f] at h, fun v0 r h => by simp [show_Value.f] at h⟩
  | K + 1 => ⟨fun v0 r h => by rw [show_join_api_Value_of_show_Value.f] at h; exact show_join_api_Value_of_show_Value.bok _ _ (show_join_api_Value_of_show_Value_knot K).1 (show_join_api_Value_of_show_Value_knot K).2 K v0 r h, fun v0 r h => by rw [show_Value.f] at h; exact show_Value.bok _ _ (show_join_api_Value_of_show_Value_knot K).1 (show_join_api_Value_of_show_Value_knot K).2 K v0 r h⟩
theorem show_join_api_Value_of_show_Value.ok (K : Nat) (v0 : List ApiValue) (r : List UInt8) (h : show_join_api_Value_of_show_Value.f K v0 = some r) : FW.Ok Go.Proofs.Try.prog 32 [.row (r_ApiValue_cells v0), .lit (.func (.func 15) #[] #[])] (.lit (.string (FW.B r))) := (show_join_api_Value_of_show_Value_knot K).1 v0 r h
theorem show_Value.ok (K : Nat) (v0 : ApiValue) (r : List UInt8) (h : show_Value.f K v0 = some r) : FW.Ok Go.Proofs.Try.prog 15 [.agg (ApiValue.cells v0)] (.lit (.string (FW.B r))) := (show_join_api_Value_of_show_Value_knot K).2 v0 r h

theorem show_Pred.bok (s_show_Pred : ApiPred → Option (List UInt8)) (hs_show_Pred : ∀ (v0 : ApiPred) (r : List UInt8), s_show_Pred v0 = some r → FW.Ok Go.Proofs.Try.prog 11 [.agg (ApiPred.cells v0)] (.lit (.string (FW.B r)))) (K : Nat) (v0 : ApiPred) (r : List UInt8) (h : show_Pred.b s_show_Pred K v0 = some r) :
    FW.Ok Go.Proofs.Try.prog 11 [.agg (ApiPred.cells v0)] (.lit (.string (FW.B r))) := by
  refine FW.enter (xs := [.agg (ApiPred.cells v0)]) Go.Proofs.Try.func11 rfl Go.Proofs.Try.ntmps11 rfl ?_
  intro M w0 a hk
  unfold show_Pred.b at h
  refine FW.wreg ?_; intro K' hK1
  refine FW.l_box (cs := (ApiPred.cells v0)) hk rfl rfl rfl rfl rfl ?_; clear hk; intro b1 a w hk
  refine FW.lfun (y := .lit (.string (FW.B ([] : List UInt8)))) hk rfl rfl rfl rfl (FW.f_assign hk (FW.holds_nil _) rfl) ?_; clear hk; intro a w hk
  refine FW.lend (hK1 _ _ ?_); clear hK1 K'
  refine FW.wseq ?_; intro K' hK2
  refine wp_block ?_
  refine FW.wreg ?_; intro K' hK3
  refine FW.lfun (y := .lit (.pointer (some ⟨b1, 0, none⟩))) hk rfl rfl rfl rfl (FW.f_fieldPtr hk (FW.holds_nil _) rfl Go.Proofs.Try.underlying36 rfl (by kernel_rfl) rfl) ?_; clear hk; intro a w hk
  refine FW.lfun (y := .lit (.string (FW.B v0.Op))) hk rfl rfl rfl rfl (FW.f_loadBlk1 hk (FW.holds_nil _) (j := 0) rfl rfl Go.Proofs.Try.underlying9 rfl rfl) ?_; clear hk; intro a w hk
  refine FW.lfun (y := .lit (.bool (decide (v0.Op = ([97, 110, 100] : List UInt8))))) hk rfl rfl rfl rfl ((FW.f_pure (FW.p_seql hk.kn (FW.holds_nil _) rfl rfl))) ?_; clear hk; intro a w hk
  refine FW.lfun (y := .lit (.bool (decide (v0.Op = ([97, 110, 100] : List UInt8))))) hk rfl rfl rfl rfl (FW.f_move hk (FW.holds_nil _) rfl) ?_; clear hk; intro a w hk
  refine FW.lfunG (y := .lit (.pointer (some ⟨b1, 0, none⟩))) hk rfl rfl rfl rfl rfl rfl rfl rfl (fun hc => FW.f_fieldPtr hk hc rfl Go.Proofs.Try.underlying36 rfl (by kernel_rfl) rfl) ?_; clear hk; intro a w hk
  refine FW.lfunG (y := .lit (.string (FW.B v0.Op))) hk rfl rfl rfl rfl rfl rfl rfl rfl (fun hc => FW.f_loadBlk1 hk hc (j := 0) rfl rfl Go.Proofs.Try.underlying9 rfl rfl) ?_; clear hk; intro a w hk
  refine FW.lfunG (y := .lit (.bool (decide (v0.Op = ([111, 114] : List UInt8))))) hk rfl rfl rfl rfl rfl rfl rfl rfl (fun hc => (FW.f_pure (FW.p_seql hk.kn hc rfl rfl))) ?_; clear hk; intro a w hk
  refine FW.lfun (y := .lit (.bool ((decide (v0.Op = ([97, 110, 100] : List UInt8))) || (decide (v0.Op = ([111, 114] : List UInt8)))))) hk rfl rfl rfl rfl ((FW.f_pure (FW.p_pick_or hk.kn (FW.holds_nil _) rfl rfl))) ?_; clear hk; intro a w hk
  refine FW.lfun (y := .lit (.bool ((decide (v0.Op = ([97, 110, 100] : List UInt8))) || (decide (v0.Op = ([111, 114] : List UInt8)))))) hk rfl rfl rfl rfl (FW.f_move hk (FW.holds_nil _) rfl) ?_; clear hk; intro a w hk
  refine FW.lfunG (y := .lit (.pointer (some ⟨b1, 2, none⟩))) hk rfl rfl rfl rfl rfl rfl rfl rfl (fun hc => FW.f_fieldPtr hk hc rfl Go.Proofs.Try.underlying36 rfl (by kernel_rfl) rfl) ?_; clear hk; intro a w hk
  refine FW.lfunG (y := .row (r_ApiPred_cells v0.Kids)) hk rfl rfl rfl rfl rfl rfl rfl rfl (fun hc => FW.f_loadBlk1 hk hc (j := 0) rfl rfl Go.Proofs.Try.underlying34 rfl rfl) ?_; clear hk; intro a w hk
  refine FW.lfunG (y := .lit (.int .i64 (List.length v0.Kids : Int))) hk rfl rfl rfl rfl rfl rfl rfl rfl (fun hc => FW.f_len (R := r_ApiPred_cells) (f := ApiPred.cells) (l := v0.Kids) r_ApiPred_cells_eq Go.Proofs.Try.underlying34 hk hc rfl) ?_; clear hk; intro a w hk
  refine FW.lfunG (y := .lit (.bool (decide ((List.length v0.Kids : Int) = 2)))) hk rfl rfl rfl rfl rfl rfl rfl rfl (fun hc => (FW.f_pure (FW.p_eql hk.kn hc rfl rfl))) ?_; clear hk; intro a w hk
  refine FW.lfun (y := .lit (.bool (((decide (v0.Op = ([97, 110, 100] : List UInt8))) || (decide (v0.Op = ([111, 114] : List UInt8)))) && (decide ((List.length v0.Kids : Int) = 2))))) hk rfl rfl rfl rfl ((FW.f_pure (FW.p_pick_and hk.kn (FW.holds_nil _) rfl rfl))) ?_; clear hk; intro a w hk
  refine FW.lfun (y := .lit (.bool (((decide (v0.Op = ([97, 110, 100] : List UInt8))) || (decide (v0.Op = ([111, 114] : List UInt8)))) && (decide ((List.length v0.Kids : Int) = 2))))) hk rfl rfl rfl rfl (FW.f_assign hk (FW.holds_nil _) rfl) ?_; clear hk; intro a w hk
  refine FW.lend (hK3 _ _ ?_); clear hK3 K'
  refine FW.wcondF (b := (((decide (v0.Op = ([97, 110, 100] : List UInt8))) || (decide (v0.Op = ([111, 114] : List UInt8)))) && (decide ((List.length v0.Kids : Int) = 2)))) hk h rfl (fun h hb => ?_) (fun h hb => ?_)
  · skip
    obtain ⟨hc1, h⟩ := FW.chk h
    obtain ⟨t1, hr_t1, h⟩ := FW.bnd h
    obtain ⟨hc2, h⟩ := FW.chk h
    obtain ⟨hc3, h⟩ := FW.chk h
    obtain ⟨hc4, h⟩ := FW.chk h
    obtain ⟨hc5, h⟩ := FW.chk h
    obtain ⟨t2, hr_t2, h⟩ := FW.bnd h
    obtain ⟨hc6, h⟩ := FW.chk h
    obtain ⟨hc7, h⟩ := FW.chk h
    refine FW.wdraw (by kernel_rfl) (by kernel_rfl) hk ?_; clear hk
    refine FW.dfun (y := .lit (.pointer (some ⟨b1, 2, none⟩))) rfl rfl rfl rfl (fun a w hk => FW.f_fieldPtr hk (FW.holds_nil _) rfl Go.Proofs.Try.underlying36 rfl (by kernel_rfl) rfl) ?_
    refine FW.dfun (y := .row (r_ApiPred_cells v0.Kids)) rfl rfl rfl rfl (fun a w hk => FW.f_loadBlk1 hk (FW.holds_nil _) (j := 0) rfl rfl Go.Proofs.Try.underlying34 rfl rfl) ?_
    refine FW.dfun (y := .ref (ApiPred.cells (List.getD v0.Kids (Int.toNat 0) default))) rfl rfl rfl rfl (fun a w hk => FW.f_indexAddr (R := r_ApiPred_cells) (f := ApiPred.cells) (l := v0.Kids) (sz := 3) r_ApiPred_cells_eq (fun _ => rfl) hk (FW.holds_nil _) rfl rfl Go.Proofs.Try.underlying34 (by kernel_rfl) hc1) ?_
    refine FW.dfun (y := .agg ((ApiPred.cells (List.getD v0.Kids (Int.toNat 0) default)))) rfl rfl rfl rfl (fun a w hk => FW.f_load hk (FW.holds_nil _) rfl Go.Proofs.Try.underlying36 rfl rfl rfl rfl) ?_
    refine FW.dfun (y := .lit (.string (FW.B t1))) rfl rfl rfl rfl (fun a w hk => FW.f_call hk (FW.holds_nil _) rfl rfl Go.Proofs.Try.func11 rfl (by kernel_rfl) (hs_show_Pred (List.getD v0.Kids (Int.toNat 0) default) _ hr_t1)) ?_
    refine FW.dfun (y := .lit (.string (FW.B (t1 ++ ([46] : List UInt8))))) rfl rfl rfl rfl (fun a w hk => (FW.f_pure (FW.p_sadd hk.kn (FW.holds_nil _) rfl rfl hc2))) ?_
    refine FW.dfun (y := .lit (.pointer (some ⟨b1, 0, none⟩))) rfl rfl rfl rfl (fun a w hk => FW.f_fieldPtr hk (FW.holds_nil _) rfl Go.Proofs.Try.underlying36 rfl (by kernel_rfl) rfl) ?_
    refine FW.dfun (y := .lit (.string (FW.B v0.Op))) rfl rfl rfl rfl (fun a w hk => FW.f_loadBlk1 hk (FW.holds_nil _) (j := 0) rfl rfl Go.Proofs.Try.underlying9 rfl rfl) ?_
    refine FW.dfun (y := .lit (.string (FW.B ((t1 ++ ([46] : List UInt8)) ++ v0.Op)))) rfl rfl rfl rfl (fun a w hk => (FW.f_pure (FW.p_sadd hk.kn (FW.holds_nil _) rfl rfl hc3))) ?_
    refine FW.dfun (y := .lit (.string (FW.B (((t1 ++ ([46] : List UInt8)) ++ v0.Op) ++ ([40] : List UInt8))))) rfl rfl rfl rfl (fun a w hk => (FW.f_pure (FW.p_sadd hk.kn (FW.holds_nil _) rfl rfl hc4))) ?_
    refine FW.dfun (y := .lit (.pointer (some ⟨b1, 2, none⟩))) rfl rfl rfl rfl (fun a w hk => FW.f_fieldPtr hk (FW.holds_nil _) rfl Go.Proofs.Try.underlying36 rfl (by kernel_rfl) rfl) ?_
    refine FW.dfun (y := .row (r_ApiPred_cells v0.Kids)) rfl rfl rfl rfl (fun a w hk => FW.f_loadBlk1 hk (FW.holds_nil _) (j := 0) rfl rfl Go.Proofs.Try.underlying34 rfl rfl) ?_
    refine FW.dfun (y := .ref (ApiPred.cells (List.getD v0.Kids (Int.toNat 1) default))) rfl rfl rfl rfl (fun a w hk => FW.f_indexAddr (R := r_ApiPred_cells) (f := ApiPred.cells) (l := v0.Kids) (sz := 3) r_ApiPred_cells_eq (fun _ => rfl) hk (FW.holds_nil _) rfl rfl Go.Proofs.Try.underlying34 (by kernel_rfl) hc5) ?_
    refine FW.dfun (y := .agg ((ApiPred.cells (List.getD v0.Kids (Int.toNat 1) default)))) rfl rfl rfl rfl (fun a w hk => FW.f_load hk (FW.holds_nil _) rfl Go.Proofs.Try.underlying36 rfl rfl rfl rfl) ?_
    refine FW.dfun (y := .lit (.string (FW.B t2))) rfl rfl rfl rfl (fun a w hk => FW.f_call hk (FW.holds_nil _) rfl rfl Go.Proofs.Try.func11 rfl (by kernel_rfl) (hs_show_Pred (List.getD v0.Kids (Int.toNat 1) default) _ hr_t2)) ?_
    refine FW.dfun (y := .lit (.string (FW.B ((((t1 ++ ([46] : List UInt8)) ++ v0.Op) ++ ([40] : List UInt8)) ++ t2)))) rfl rfl rfl rfl (fun a w hk => (FW.f_pure (FW.p_sadd hk.kn (FW.holds_nil _) rfl rfl hc6))) ?_
    refine FW.dfun (y := .lit (.string (FW.B (((((t1 ++ ([46] : List UInt8)) ++ v0.Op) ++ ([40] : List UInt8)) ++ t2) ++ ([41] : List UInt8))))) rfl rfl rfl rfl (fun a w hk => (FW.f_pure (FW.p_sadd hk.kn (FW.holds_nil _) rfl rfl hc7))) ?_
    refine FW.dfun (y := .lit (.string (FW.B (((((t1 ++ ([46] : List UInt8)) ++ v0.Op) ++ ([40] : List UInt8)) ++ t2) ++ ([41] : List UInt8))))) rfl rfl rfl rfl (fun a w hk => FW.f_assign hk (FW.holds_nil _) rfl) ?_
    refine FW.dend ?_; intro a w hk
    refine wp_ret ?_
    (repeat first | refine FW.then_ret ?_ | refine FW.block_ret ?_)
    obtain rfl := Option.some.inj h
    exact FW.fret1 hk rfl rfl
  · skip
    refine FW.wreg ?_; intro K' hK5
    refine FW.lfun (y := .lit (.pointer (some ⟨b1, 0, none⟩))) hk rfl rfl rfl rfl (FW.f_fieldPtr hk (FW.holds_nil _) rfl Go.Proofs.Try.underlying36 rfl (by kernel_rfl) rfl) ?_; clear hk; intro a w hk
    refine FW.lfun (y := .lit (.string (FW.B v0.Op))) hk rfl rfl rfl rfl (FW.f_loadBlk1 hk (FW.holds_nil _) (j := 0) rfl rfl Go.Proofs.Try.underlying9 rfl rfl) ?_; clear hk; intro a w hk
    refine FW.lfun (y := .lit (.bool (decide (v0.Op = ([110, 111, 116] : List UInt8))))) hk rfl rfl rfl rfl ((FW.f_pure (FW.p_seql hk.kn (FW.holds_nil _) rfl rfl))) ?_; clear hk; intro a w hk
    refine FW.lfun (y := .lit (.bool (decide (v0.Op = ([110, 111, 116] : List UInt8))))) hk rfl rfl rfl rfl (FW.f_move hk (FW.holds_nil _) rfl) ?_; clear hk; intro a w hk
    refine FW.lfunG (y := .lit (.pointer (some ⟨b1, 2, none⟩))) hk rfl rfl rfl rfl rfl rfl rfl rfl (fun hc => FW.f_fieldPtr hk hc rfl Go.Proofs.Try.underlying36 rfl (by kernel_rfl) rfl) ?_; clear hk; intro a w hk
    refine FW.lfunG (y := .row (r_ApiPred_cells v0.Kids)) hk rfl rfl rfl rfl rfl rfl rfl rfl (fun hc => FW.f_loadBlk1 hk hc (j := 0) rfl rfl Go.Proofs.Try.underlying34 rfl rfl) ?_; clear hk; intro a w hk
    refine FW.lfunG (y := .lit (.int .i64 (List.length v0.Kids : Int))) hk rfl rfl rfl rfl rfl rfl rfl rfl (fun hc => FW.f_len (R := r_ApiPred_cells) (f := ApiPred.cells) (l := v0.Kids) r_ApiPred_cells_eq Go.Proofs.Try.underlying34 hk hc rfl) ?_; clear hk; intro a w hk
    refine FW.lfunG (y := .lit (.bool (decide ((List.length v0.Kids : Int) = 1)))) hk rfl rfl rfl rfl rfl rfl rfl rfl (fun hc => (FW.f_pure (FW.p_eql hk.kn hc rfl rfl))) ?_; clear hk; intro a w hk
    refine FW.lfun (y := .lit (.bool ((decide (v0.Op = ([110, 111, 116] : List UInt8))) && (decide ((List.length v0.Kids : Int) = 1))))) hk rfl rfl rfl rfl ((FW.f_pure (FW.p_pick_and hk.kn (FW.holds_nil _) rfl rfl))) ?_; clear hk; intro a w hk
    refine FW.lfun (y := .lit (.bool ((decide (v0.Op = ([110, 111, 116] : List UInt8))) && (decide ((List.length v0.Kids : Int) = 1))))) hk rfl rfl rfl rfl (FW.f_assign hk (FW.holds_nil _) rfl) ?_; clear hk; intro a w hk
    refine FW.lend (hK5 _ _ ?_); clear hK5 K'
    refine FW.wcondF (b := ((decide (v0.Op = ([110, 111, 116] : List UInt8))) && (decide ((List.length v0.Kids : Int) = 1)))) hk h rfl (fun h hb => ?_) (fun h hb => ?_)
    · skip
      refine FW.wreg ?_; intro K' hK6
      refine FW.lfun (y := .lit (.pointer (some ⟨b1, 2, none⟩))) hk rfl rfl rfl rfl (FW.f_fieldPtr hk (FW.holds_nil _) rfl Go.Proofs.Try.underlying36 rfl (by kernel_rfl) rfl) ?_; clear hk; intro a w hk
      refine FW.lfun (y := .row (r_ApiPred_cells v0.Kids)) hk rfl rfl rfl rfl (FW.f_loadBlk1 hk (FW.holds_nil _) (j := 0) rfl rfl Go.Proofs.Try.underlying34 rfl rfl) ?_; clear hk; intro a w hk
      obtain ⟨hc8, h⟩ := FW.chk h
      refine FW.lfun (y := .ref (ApiPred.cells (List.getD v0.Kids (Int.toNat 0) default))) hk rfl rfl rfl rfl (FW.f_indexAddr (R := r_ApiPred_cells) (f := ApiPred.cells) (l := v0.Kids) (sz := 3) r_ApiPred_cells_eq (fun _ => rfl) hk (FW.holds_nil _) rfl rfl Go.Proofs.Try.underlying34 (by kernel_rfl) hc8) ?_; clear hk; intro a w hk
      refine FW.lfun (y := .agg ((ApiPred.cells (List.getD v0.Kids (Int.toNat 0) default)))) hk rfl rfl rfl rfl (FW.f_load hk (FW.holds_nil _) rfl Go.Proofs.Try.underlying36 rfl rfl rfl rfl) ?_; clear hk; intro a w hk
      obtain ⟨t3, hr_t3, h⟩ := FW.bnd h
      refine FW.lfun (y := .lit (.string (FW.B t3))) hk rfl rfl rfl rfl (FW.f_call hk (FW.holds_nil _) rfl rfl Go.Proofs.Try.func11 rfl (by kernel_rfl) (hs_show_Pred (List.getD v0.Kids (Int.toNat 0) default) _ hr_t3)) ?_; clear hk; intro a w hk
      obtain ⟨hc9, h⟩ := FW.chk h
      refine FW.lfun (y := .lit (.string (FW.B (t3 ++ ([46, 110, 101, 103, 97, 116, 101, 40, 41] : List UInt8))))) hk rfl rfl rfl rfl ((FW.f_pure (FW.p_sadd hk.kn (FW.holds_nil _) rfl rfl hc9))) ?_; clear hk; intro a w hk
      refine FW.lfun (y := .lit (.string (FW.B (t3 ++ ([46, 110, 101, 103, 97, 116, 101, 40, 41] : List UInt8))))) hk rfl rfl rfl rfl (FW.f_assign hk (FW.holds_nil _) rfl) ?_; clear hk; intro a w hk
      refine FW.lend (hK6 _ _ ?_); clear hK6 K'
      refine wp_ret ?_
      (repeat first | refine FW.then_ret ?_ | refine FW.block_ret ?_)
      obtain rfl := Option.some.inj h
      exact FW.fret1 hk rfl rfl
    · skip
      refine wp_skip ?_
      (repeat first | refine FW.then_normal ?_ | refine FW.block_normal ?_); refine hK2 _ _ ?_
      obtain ⟨hc10, h⟩ := FW.chk h
      obtain ⟨t4, hr_t4, h⟩ := FW.bnd h
      obtain ⟨hc11, h⟩ := FW.chk h
      obtain ⟨hc12, h⟩ := FW.chk h
      refine FW.wdraw (by kernel_rfl) (by kernel_rfl) hk ?_; clear hk
      refine FW.dfun (y := .lit (.pointer (some ⟨b1, 0, none⟩))) rfl rfl rfl rfl (fun a w hk => FW.f_fieldPtr hk (FW.holds_nil _) rfl Go.Proofs.Try.underlying36 rfl (by kernel_rfl) rfl) ?_
      refine FW.dfun (y := .lit (.string (FW.B v0.Op))) rfl rfl rfl rfl (fun a w hk => FW.f_loadBlk1 hk (FW.holds_nil _) (j := 0) rfl rfl Go.Proofs.Try.underlying9 rfl rfl) ?_
      refine FW.dfun (y := .lit (.string (FW.B (v0.Op ++ ([40] : List UInt8))))) rfl rfl rfl rfl (fun a w hk => (FW.f_pure (FW.p_sadd hk.kn (FW.holds_nil _) rfl rfl hc10))) ?_
      refine FW.dfun (y := .lit (.pointer (some ⟨b1, 1, none⟩))) rfl rfl rfl rfl (fun a w hk => FW.f_fieldPtr hk (FW.holds_nil _) rfl Go.Proofs.Try.underlying36 rfl (by kernel_rfl) rfl) ?_
      refine FW.dfun (y := .row (r_ApiValue_cells v0.L)) rfl rfl rfl rfl (fun a w hk => FW.f_loadBlk1 hk (FW.holds_nil _) (j := 0) rfl rfl Go.Proofs.Try.underlying31 rfl rfl) ?_
      refine FW.dfun (y := .lit (.string (FW.B t4))) rfl rfl rfl rfl (fun a w hk => FW.f_call hk (FW.holds_nil _) rfl rfl Go.Proofs.Try.func32 rfl (by kernel_rfl) (show_join_api_Value_of_show_Value.ok K v0.L _ hr_t4)) ?_
      refine FW.dfun (y := .lit (.string (FW.B ((v0.Op ++ ([40] : List UInt8)) ++ t4)))) rfl rfl rfl rfl (fun a w hk => (FW.f_pure (FW.p_sadd hk.kn (FW.holds_nil _) rfl rfl hc11))) ?_
      refine FW.dfun (y := .lit (.string (FW.B (((v0.Op ++ ([40] : List UInt8)) ++ t4) ++ ([41] : List UInt8))))) rfl rfl rfl rfl (fun a w hk => (FW.f_pure (FW.p_sadd hk.kn (FW.holds_nil _) rfl rfl hc12))) ?_
      refine FW.dfun (y := .lit (.string (FW.B (((v0.Op ++ ([40] : List UInt8)) ++ t4) ++ ([41] : List UInt8))))) rfl rfl rfl rfl (fun a w hk => FW.f_assign hk (FW.holds_nil _) rfl) ?_
      refine FW.dend ?_; intro a w hk
      refine wp_ret ?_
      (repeat first | refine FW.then_ret ?_ | refine FW.block_ret ?_)
      obtain rfl := Option.some.inj h
      exact FW.fret1 hk rfl rfl
theorem show_Pred_knot : ∀ K : Nat, (∀ (v0 : ApiPred) (r : List UInt8), show_Pred.f K v0 = some r → FW.Ok Go.Proofs.Try.prog 11 [.agg (ApiPred.cells v0)] (.lit (.string (FW.B r))))
  | 0 => fun v0 r h => by simp [show_Pred.f] at h
  | K + 1 => fun v0 r h => by rw [show_Pred.f] at h; exact show_Pred.bok _ (show_Pred_knot K) K v0 r h
theorem show_Pred.ok (K : Nat) (v0 : ApiPred) (r : List UInt8) (h : show_Pred.f K v0 = some r) : FW.Ok Go.Proofs.Try.prog 11 [.agg (ApiPred.cells v0)] (.lit (.string (FW.B r))) := (show_Pred_knot K) v0 r h
end Go.Proofs.Ytfmabehmohbahaa

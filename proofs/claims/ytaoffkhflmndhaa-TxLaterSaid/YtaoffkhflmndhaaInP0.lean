/- Written by a program of this session (gen.py): the contracts of functions of the program. -/
import Derived.KernelRfl
import Derived.Test.YtaoffkhflmndhaaProg
import Derived.Test.YtaoffkhflmndhaaAvDraw2
import Derived.Test.YtaoffkhflmndhaaHu
import Derived.Test.YtaoffkhflmndhaaInD
namespace Go.Proofs.Ytaoffkhflmndhaa
set_option linter.unusedVariables false
set_option maxRecDepth 20000
set_option maxHeartbeats 10000000
theorem bits_Len32.ok  (v0 : Int) (r : Int) (h : bits_Len32.f v0 = some r) :
    FW.Ok Go.Proofs.Try.prog 39 [.lit (.int .u32 v0)] (.lit (.int .i64 r)) := by
  refine FW.enter (xs := [.lit (.int .u32 v0)]) Go.Proofs.Try.func39 rfl Go.Proofs.Try.ntmps39 rfl ?_
  intro M w0 a hk
  unfold bits_Len32.f at h
  refine FW.wreg ?_; intro K' hK1
  refine FW.lfun (y := .lit (.int .i64 0)) hk rfl rfl rfl rfl (FW.f_assign hk (FW.holds_nil _) rfl) ?_; clear hk; intro a w hk
  refine FW.lend (hK1 _ _ ?_); clear hK1 K'
  refine FW.wseqJ (fun a w => ∃ (v0 : Int) (v2 : Int), FW.S M w0 a w 19 [] [(0, [], .lit (.int .u32 v0)), (2, [], .lit (.int .i64 v2))] ∧ bits_Len32.j1 v0 v2 = some r) ?_ ?_
  · clear hk h
    rintro a w ⟨v0, v2, hk, h⟩
    unfold bits_Len32.j1 at h
    refine FW.wseqJ (fun a w => ∃ (v0 : Int) (v2 : Int), FW.S M w0 a w 19 [] [(0, [], .lit (.int .u32 v0)), (2, [], .lit (.int .i64 v2))] ∧ bits_Len32.j2 v0 v2 = some r) ?_ ?_
    · clear hk h
      rintro a w ⟨v0, v2, hk, h⟩
      unfold bits_Len32.j2 at h
      refine FW.wreg ?_; intro K' hK4
      refine FW.lfun (y := .lit (.int .i64 v2)) hk rfl rfl rfl rfl (FW.f_move hk (FW.holds_nil _) rfl) ?_; clear hk; intro a w hk
      refine FW.lfun (y := .lit (.int .u32 v0)) hk rfl rfl rfl rfl (FW.f_move hk (FW.holds_nil _) rfl) ?_; clear hk; intro a w hk
      refine FW.lfun (y := .lit (.int .u8 (IntKind.wrap .u8 v0))) hk rfl rfl rfl rfl ((FW.f_pure (FW.p_conv Go.Proofs.Try.underlying72 Go.Proofs.Try.underlying5 hk.kn (FW.holds_nil _) rfl))) ?_; clear hk; intro a w hk
      obtain ⟨hc1, h⟩ := FW.chk h
      refine FW.lfun (y := .lit (.int .u8 (FW.bt ([0, 1, 2, 2, 3, 3, 3, 3, 4, 4, 4, 4, 4, 4, 4, 4, 5, 5, 5, 5, 5, 5, 5, 5, 5, 5, 5, 5, 5, 5, 5, 5, 6, 6, 6, 6, 6, 6, 6, 6, 6, 6, 6, 6, 6, 6, 6, 6, 6, 6, 6, 6, 6, 6, 6, 6, 6, 6, 6, 6, 6, 6, 6, 6, 7, 7, 7, 7, 7, 7, 7, 7, 7, 7, 7, 7, 7, 7, 7, 7, 7, 7, 7, 7, 7, 7, 7, 7, 7, 7, 7, 7, 7, 7, 7, 7, 7, 7, 7, 7, 7, 7, 7, 7, 7, 7, 7, 7, 7, 7, 7, 7, 7, 7, 7, 7, 7, 7, 7, 7, 7, 7, 7, 7, 7, 7, 7, 7, 8, 8, 8, 8, 8, 8, 8, 8, 8, 8, 8, 8, 8, 8, 8, 8, 8, 8, 8, 8, 8, 8, 8, 8, 8, 8, 8, 8, 8, 8, 8, 8, 8, 8, 8, 8, 8, 8, 8, 8, 8, 8, 8, 8, 8, 8, 8, 8, 8, 8, 8, 8, 8, 8, 8, 8, 8, 8, 8, 8, 8, 8, 8, 8, 8, 8, 8, 8, 8, 8, 8, 8, 8, 8, 8, 8, 8, 8, 8, 8, 8, 8, 8, 8, 8, 8, 8, 8, 8, 8, 8, 8, 8, 8, 8, 8, 8, 8, 8, 8, 8, 8, 8, 8, 8, 8, 8, 8, 8, 8, 8, 8, 8, 8, 8, 8, 8, 8, 8, 8, 8, 8, 8, 8, 8, 8, 8, 8] : List UInt8) (IntKind.wrap .u8 v0)))) hk rfl rfl rfl rfl ((FW.f_pure (FW.p_index Go.Proofs.Try.underlying9 hk.kn (FW.holds_nil _) rfl rfl hc1))) ?_; clear hk; intro a w hk
      refine FW.lfun (y := .lit (.int .i64 (IntKind.wrap .i64 (FW.bt ([0, 1, 2, 2, 3, 3, 3, 3, 4, 4, 4, 4, 4, 4, 4, 4, 5, 5, 5, 5, 5, 5, 5, 5, 5, 5, 5, 5, 5, 5, 5, 5, 6, 6, 6, 6, 6, 6, 6, 6, 6, 6, 6, 6, 6, 6, 6, 6, 6, 6, 6, 6, 6, 6, 6, 6, 6, 6, 6, 6, 6, 6, 6, 6, 7, 7, 7, 7, 7, 7, 7, 7, 7, 7, 7, 7, 7, 7, 7, 7, 7, 7, 7, 7, 7, 7, 7, 7, 7, 7, 7, 7, 7, 7, 7, 7, 7, 7, 7, 7, 7, 7, 7, 7, 7, 7, 7, 7, 7, 7, 7, 7, 7, 7, 7, 7, 7, 7, 7, 7, 7, 7, 7, 7, 7, 7, 7, 7, 8, 8, 8, 8, 8, 8, 8, 8, 8, 8, 8, 8, 8, 8, 8, 8, 8, 8, 8, 8, 8, 8, 8, 8, 8, 8, 8, 8, 8, 8, 8, 8, 8, 8, 8, 8, 8, 8, 8, 8, 8, 8, 8, 8, 8, 8, 8, 8, 8, 8, 8, 8, 8, 8, 8, 8, 8, 8, 8, 8, 8, 8, 8, 8, 8, 8, 8, 8, 8, 8, 8, 8, 8, 8, 8, 8, 8, 8, 8, 8, 8, 8, 8, 8, 8, 8, 8, 8, 8, 8, 8, 8, 8, 8, 8, 8, 8, 8, 8, 8, 8, 8, 8, 8, 8, 8, 8, 8, 8, 8, 8, 8, 8, 8, 8, 8, 8, 8, 8, 8, 8, 8, 8, 8, 8, 8, 8, 8] : List UInt8) (IntKind.wrap .u8 v0))))) hk rfl rfl rfl rfl ((FW.f_pure (FW.p_conv Go.Proofs.Try.underlying5 Go.Proofs.Try.underlying3 hk.kn (FW.holds_nil _) rfl))) ?_; clear hk; intro a w hk
      refine FW.lfun (y := .lit (.int .i64 (IntKind.wrap .i64 (v2 + (IntKind.wrap .i64 (FW.bt ([0, 1, 2, 2, 3, 3, 3, 3, 4, 4, 4, 4, 4, 4, 4, 4, 5, 5, 5, 5, 5, 5, 5, 5, 5, 5, 5, 5, 5, 5, 5, 5, 6, 6, 6, 6, 6, 6, 6, 6, 6, 6, 6, 6, 6, 6, 6, 6, 6, 6, 6, 6, 6, 6, 6, 6, 6, 6, 6, 6, 6, 6, 6, 6, 7, 7, 7, 7, 7, 7, 7, 7, 7, 7, 7, 7, 7, 7, 7, 7, 7, 7, 7, 7, 7, 7, 7, 7, 7, 7, 7, 7, 7, 7, 7, 7, 7, 7, 7, 7, 7, 7, 7, 7, 7, 7, 7, 7, 7, 7, 7, 7, 7, 7, 7, 7, 7, 7, 7, 7, 7, 7, 7, 7, 7, 7, 7, 7, 8, 8, 8, 8, 8, 8, 8, 8, 8, 8, 8, 8, 8, 8, 8, 8, 8, 8, 8, 8, 8, 8, 8, 8, 8, 8, 8, 8, 8, 8, 8, 8, 8, 8, 8, 8, 8, 8, 8, 8, 8, 8, 8, 8, 8, 8, 8, 8, 8, 8, 8, 8, 8, 8, 8, 8, 8, 8, 8, 8, 8, 8, 8, 8, 8, 8, 8, 8, 8, 8, 8, 8, 8, 8, 8, 8, 8, 8, 8, 8, 8, 8, 8, 8, 8, 8, 8, 8, 8, 8, 8, 8, 8, 8, 8, 8, 8, 8, 8, 8, 8, 8, 8, 8, 8, 8, 8, 8, 8, 8, 8, 8, 8, 8, 8, 8, 8, 8, 8, 8, 8, 8, 8, 8, 8, 8, 8, 8] : List UInt8) (IntKind.wrap .u8 v0))))))) hk rfl rfl rfl rfl ((FW.f_pure (FW.p_add hk.kn (FW.holds_nil _) rfl rfl))) ?_; clear hk; intro a w hk
      refine FW.lfun (y := .lit (.int .i64 (IntKind.wrap .i64 (v2 + (IntKind.wrap .i64 (FW.bt ([0, 1, 2, 2, 3, 3, 3, 3, 4, 4, 4, 4, 4, 4, 4, 4, 5, 5, 5, 5, 5, 5, 5, 5, 5, 5, 5, 5, 5, 5, 5, 5, 6, 6, 6, 6, 6, 6, 6, 6, 6, 6, 6, 6, 6, 6, 6, 6, 6, 6, 6, 6, 6, 6, 6, 6, 6, 6, 6, 6, 6, 6, 6, 6, 7, 7, 7, 7, 7, 7, 7, 7, 7, 7, 7, 7, 7, 7, 7, 7, 7, 7, 7, 7, 7, 7, 7, 7, 7, 7, 7, 7, 7, 7, 7, 7, 7, 7, 7, 7, 7, 7, 7, 7, 7, 7, 7, 7, 7, 7, 7, 7, 7, 7, 7, 7, 7, 7, 7, 7, 7, 7, 7, 7, 7, 7, 7, 7, 8, 8, 8, 8, 8, 8, 8, 8, 8, 8, 8, 8, 8, 8, 8, 8, 8, 8, 8, 8, 8, 8, 8, 8, 8, 8, 8, 8, 8, 8, 8, 8, 8, 8, 8, 8, 8, 8, 8, 8, 8, 8, 8, 8, 8, 8, 8, 8, 8, 8, 8, 8, 8, 8, 8, 8, 8, 8, 8, 8, 8, 8, 8, 8, 8, 8, 8, 8, 8, 8, 8, 8, 8, 8, 8, 8, 8, 8, 8, 8, 8, 8, 8, 8, 8, 8, 8, 8, 8, 8, 8, 8, 8, 8, 8, 8, 8, 8, 8, 8, 8, 8, 8, 8, 8, 8, 8, 8, 8, 8, 8, 8, 8, 8, 8, 8, 8, 8, 8, 8, 8, 8, 8, 8, 8, 8, 8, 8] : List UInt8) (IntKind.wrap .u8 v0))))))) hk rfl rfl rfl rfl (FW.f_assign hk (FW.holds_nil _) rfl) ?_; clear hk; intro a w hk
      refine FW.lend (hK4 _ _ ?_); clear hK4 K'
      refine wp_ret ?_
      (repeat first | refine FW.then_ret ?_ | refine FW.block_ret ?_)
      obtain rfl := Option.some.inj h
      exact FW.fret1 hk rfl rfl
    · intro K' hK3
      refine FW.wreg ?_; intro K' hK5
      refine FW.lfun (y := .lit (.int .u32 v0)) hk rfl rfl rfl rfl (FW.f_move hk (FW.holds_nil _) rfl) ?_; clear hk; intro a w hk
      refine FW.lfun (y := .lit (.bool (decide (256 ≤ v0)))) hk rfl rfl rfl rfl ((FW.f_pure (FW.p_geq hk.kn (FW.holds_nil _) rfl rfl))) ?_; clear hk; intro a w hk
      refine FW.lend (hK5 _ _ ?_); clear hK5 K'
      refine FW.wcondF (b := (decide (256 ≤ v0))) hk h rfl (fun h hb => ?_) (fun h hb => ?_)
      · skip
        refine FW.wreg ?_; intro K' hK6
        refine FW.lfun (y := .lit (.int .u32 v0)) hk rfl rfl rfl rfl (FW.f_move hk (FW.holds_nil _) rfl) ?_; clear hk; intro a w hk
        refine FW.lfun (y := .lit (.int .u32 (FW.shrI .u32 v0 8))) hk rfl rfl rfl rfl ((FW.f_pure (FW.p_shr hk.kn (FW.holds_nil _) rfl rfl (show (0 : Int) ≤ 8 from by decide)))) ?_; clear hk; intro a w hk
        refine FW.lfun (y := .lit (.int .u32 (FW.shrI .u32 v0 8))) hk rfl rfl rfl rfl (FW.f_assign hk (FW.holds_nil _) rfl) ?_; clear hk; intro a w hk
        refine FW.lend (hK6 _ _ ?_); clear hK6 K'
        refine FW.wreg1 ?_
        refine FW.lfun (y := .lit (.int .i64 v2)) hk rfl rfl rfl rfl (FW.f_move hk (FW.holds_nil _) rfl) ?_; clear hk; intro a w hk
        refine FW.lfun (y := .lit (.int .i64 (IntKind.wrap .i64 (v2 + 8)))) hk rfl rfl rfl rfl ((FW.f_pure (FW.p_add hk.kn (FW.holds_nil _) rfl rfl))) ?_; clear hk; intro a w hk
        refine FW.lfun (y := .lit (.int .i64 (IntKind.wrap .i64 (v2 + 8)))) hk rfl rfl rfl rfl (FW.f_assign hk (FW.holds_nil _) rfl) ?_; clear hk; intro a w hk
        refine wpList_nil ?_
        (repeat first | refine FW.then_normal ?_ | refine FW.block_normal ?_); exact hK3 _ _ ⟨(FW.shrI .u32 v0 8), (IntKind.wrap .i64 (v2 + 8)), hk.sub ⟨rfl, rfl, trivial⟩, h⟩
      refine wp_skip ?_
      (repeat first | refine FW.then_normal ?_ | refine FW.block_normal ?_); exact hK3 _ _ ⟨v0, v2, hk.sub ⟨rfl, rfl, trivial⟩, h⟩
  · intro K' hK2
    refine FW.wreg ?_; intro K' hK8
    refine FW.lfun (y := .lit (.int .u32 v0)) hk rfl rfl rfl rfl (FW.f_move hk (FW.holds_nil _) rfl) ?_; clear hk; intro a w hk
    refine FW.lfun (y := .lit (.bool (decide (65536 ≤ v0)))) hk rfl rfl rfl rfl ((FW.f_pure (FW.p_geq hk.kn (FW.holds_nil _) rfl rfl))) ?_; clear hk; intro a w hk
    refine FW.lend (hK8 _ _ ?_); clear hK8 K'
    refine FW.wcondF (b := (decide (65536 ≤ v0))) hk h rfl (fun h hb => ?_) (fun h hb => ?_)
    · skip
      refine FW.wreg ?_; intro K' hK9
      refine FW.lfun (y := .lit (.int .u32 v0)) hk rfl rfl rfl rfl (FW.f_move hk (FW.holds_nil _) rfl) ?_; clear hk; intro a w hk
      refine FW.lfun (y := .lit (.int .u32 (FW.shrI .u32 v0 16))) hk rfl rfl rfl rfl ((FW.f_pure (FW.p_shr hk.kn (FW.holds_nil _) rfl rfl (show (0 : Int) ≤ 16 from by decide)))) ?_; clear hk; intro a w hk
      refine FW.lfun (y := .lit (.int .u32 (FW.shrI .u32 v0 16))) hk rfl rfl rfl rfl (FW.f_assign hk (FW.holds_nil _) rfl) ?_; clear hk; intro a w hk
      refine FW.lend (hK9 _ _ ?_); clear hK9 K'
      refine FW.wreg1 ?_
      refine FW.lfun (y := .lit (.int .i64 16)) hk rfl rfl rfl rfl (FW.f_assign hk (FW.holds_nil _) rfl) ?_; clear hk; intro a w hk
      refine wpList_nil ?_
      (repeat first | refine FW.then_normal ?_ | refine FW.block_normal ?_); exact hK2 _ _ ⟨(FW.shrI .u32 v0 16), 16, hk.sub ⟨rfl, rfl, trivial⟩, h⟩
    refine wp_skip ?_
    (repeat first | refine FW.then_normal ?_ | refine FW.block_normal ?_); exact hK2 _ _ ⟨v0, 0, hk.sub ⟨rfl, rfl, trivial⟩, h⟩

theorem bits_Len64.ok  (v0 : Int) (r : Int) (h : bits_Len64.f v0 = some r) :
    FW.Ok Go.Proofs.Try.prog 40 [.lit (.int .u64 v0)] (.lit (.int .i64 r)) := by
  refine FW.enter (xs := [.lit (.int .u64 v0)]) Go.Proofs.Try.func40 rfl Go.Proofs.Try.ntmps40 rfl ?_
  intro M w0 a hk
  unfold bits_Len64.f at h
  refine FW.wreg ?_; intro K' hK1
  refine FW.lfun (y := .lit (.int .i64 0)) hk rfl rfl rfl rfl (FW.f_assign hk (FW.holds_nil _) rfl) ?_; clear hk; intro a w hk
  refine FW.lend (hK1 _ _ ?_); clear hK1 K'
  refine FW.wseqJ (fun a w => ∃ (v0 : Int) (v2 : Int), FW.S M w0 a w 25 [] [(0, [], .lit (.int .u64 v0)), (2, [], .lit (.int .i64 v2))] ∧ bits_Len64.j1 v0 v2 = some r) ?_ ?_
  · clear hk h
    rintro a w ⟨v0, v2, hk, h⟩
    unfold bits_Len64.j1 at h
    refine FW.wseqJ (fun a w => ∃ (v0 : Int) (v2 : Int), FW.S M w0 a w 25 [] [(0, [], .lit (.int .u64 v0)), (2, [], .lit (.int .i64 v2))] ∧ bits_Len64.j2 v0 v2 = some r) ?_ ?_
    · clear hk h
      rintro a w ⟨v0, v2, hk, h⟩
      unfold bits_Len64.j2 at h
      refine FW.wseqJ (fun a w => ∃ (v0 : Int) (v2 : Int), FW.S M w0 a w 25 [] [(0, [], .lit (.int .u64 v0)), (2, [], .lit (.int .i64 v2))] ∧ bits_Len64.j3 v0 v2 = some r) ?_ ?_
      · clear hk h
        rintro a w ⟨v0, v2, hk, h⟩
        unfold bits_Len64.j3 at h
        refine FW.wreg ?_; intro K' hK5
        refine FW.lfun (y := .lit (.int .i64 v2)) hk rfl rfl rfl rfl (FW.f_move hk (FW.holds_nil _) rfl) ?_; clear hk; intro a w hk
        refine FW.lfun (y := .lit (.int .u64 v0)) hk rfl rfl rfl rfl (FW.f_move hk (FW.holds_nil _) rfl) ?_; clear hk; intro a w hk
        refine FW.lfun (y := .lit (.int .u8 (IntKind.wrap .u8 v0))) hk rfl rfl rfl rfl ((FW.f_pure (FW.p_conv Go.Proofs.Try.underlying29 Go.Proofs.Try.underlying5 hk.kn (FW.holds_nil _) rfl))) ?_; clear hk; intro a w hk
        obtain ⟨hc1, h⟩ := FW.chk h
        refine FW.lfun (y := .lit (.int .u8 (FW.bt ([0, 1, 2, 2, 3, 3, 3, 3, 4, 4, 4, 4, 4, 4, 4, 4, 5, 5, 5, 5, 5, 5, 5, 5, 5, 5, 5, 5, 5, 5, 5, 5, 6, 6, 6, 6, 6, 6, 6, 6, 6, 6, 6, 6, 6, 6, 6, 6, 6, 6, 6, 6, 6, 6, 6, 6, 6, 6, 6, 6, 6, 6, 6, 6, 7, 7, 7, 7, 7, 7, 7, 7, 7, 7, 7, 7, 7, 7, 7, 7, 7, 7, 7, 7, 7, 7, 7, 7, 7, 7, 7, 7, 7, 7, 7, 7, 7, 7, 7, 7, 7, 7, 7, 7, 7, 7, 7, 7, 7, 7, 7, 7, 7, 7, 7, 7, 7, 7, 7, 7, 7, 7, 7, 7, 7, 7, 7, 7, 8, 8, 8, 8, 8, 8, 8, 8, 8, 8, 8, 8, 8, 8, 8, 8, 8, 8, 8, 8, 8, 8, 8, 8, 8, 8, 8, 8, 8, 8, 8, 8, 8, 8, 8, 8, 8, 8, 8, 8, 8, 8, 8, 8, 8, 8, 8, 8, 8, 8, 8, 8, 8, 8, 8, 8, 8, 8, 8, 8, 8, 8, 8, 8, 8, 8, 8, 8, 8, 8, 8, 8, 8, 8, 8, 8, 8, 8, 8, 8, 8, 8, 8, 8, 8, 8, 8, 8, 8, 8, 8, 8, 8, 8, 8, 8, 8, 8, 8, 8, 8, 8, 8, 8, 8, 8, 8, 8, 8, 8, 8, 8, 8, 8, 8, 8, 8, 8, 8, 8, 8, 8, 8, 8, 8, 8, 8, 8] : List UInt8) (IntKind.wrap .u8 v0)))) hk rfl rfl rfl rfl ((FW.f_pure (FW.p_index Go.Proofs.Try.underlying9 hk.kn (FW.holds_nil _) rfl rfl hc1))) ?_; clear hk; intro a w hk
        refine FW.lfun (y := .lit (.int .i64 (IntKind.wrap .i64 (FW.bt ([0, 1, 2, 2, 3, 3, 3, 3, 4, 4, 4, 4, 4, 4, 4, 4, 5, 5, 5, 5, 5, 5, 5, 5, 5, 5, 5, 5, 5, 5, 5, 5, 6, 6, 6, 6, 6, 6, 6, 6, 6, 6, 6, 6, 6, 6, 6, 6, 6, 6, 6, 6, 6, 6, 6, 6, 6, 6, 6, 6, 6, 6, 6, 6, 7, 7, 7, 7, 7, 7, 7, 7, 7, 7, 7, 7, 7, 7, 7, 7, 7, 7, 7, 7, 7, 7, 7, 7, 7, 7, 7, 7, 7, 7, 7, 7, 7, 7, 7, 7, 7, 7, 7, 7, 7, 7, 7, 7, 7, 7, 7, 7, 7, 7, 7, 7, 7, 7, 7, 7, 7, 7, 7, 7, 7, 7, 7, 7, 8, 8, 8, 8, 8, 8, 8, 8, 8, 8, 8, 8, 8, 8, 8, 8, 8, 8, 8, 8, 8, 8, 8, 8, 8, 8, 8, 8, 8, 8, 8, 8, 8, 8, 8, 8, 8, 8, 8, 8, 8, 8, 8, 8, 8, 8, 8, 8, 8, 8, 8, 8, 8, 8, 8, 8, 8, 8, 8, 8, 8, 8, 8, 8, 8, 8, 8, 8, 8, 8, 8, 8, 8, 8, 8, 8, 8, 8, 8, 8, 8, 8, 8, 8, 8, 8, 8, 8, 8, 8, 8, 8, 8, 8, 8, 8, 8, 8, 8, 8, 8, 8, 8, 8, 8, 8, 8, 8, 8, 8, 8, 8, 8, 8, 8, 8, 8, 8, 8, 8, 8, 8, 8, 8, 8, 8, 8, 8] : List UInt8) (IntKind.wrap .u8 v0))))) hk rfl rfl rfl rfl ((FW.f_pure (FW.p_conv Go.Proofs.Try.underlying5 Go.Proofs.Try.underlying3 hk.kn (FW.holds_nil _) rfl))) ?_; clear hk; intro a w hk
        refine FW.lfun (y := .lit (.int .i64 (IntKind.wrap .i64 (v2 + (IntKind.wrap .i64 (FW.bt ([0, 1, 2, 2, 3, 3, 3, 3, 4, 4, 4, 4, 4, 4, 4, 4, 5, 5, 5, 5, 5, 5, 5, 5, 5, 5, 5, 5, 5, 5, 5, 5, 6, 6, 6, 6, 6, 6, 6, 6, 6, 6, 6, 6, 6, 6, 6, 6, 6, 6, 6, 6, 6, 6, 6, 6, 6, 6, 6, 6, 6, 6, 6, 6, 7, 7, 7, 7, 7, 7, 7, 7, 7, 7, 7, 7, 7, 7, 7, 7, 7, 7, 7, 7, 7, 7, 7, 7, 7, 7, 7, 7, 7, 7, 7, 7, 7, 7, 7, 7, 7, 7, 7, 7, 7, 7, 7, 7, 7, 7, 7, 7, 7, 7, 7, 7, 7, 7, 7, 7, 7, 7, 7, 7, 7, 7, 7, 7, 8, 8, 8, 8, 8, 8, 8, 8, 8, 8, 8, 8, 8, 8, 8, 8, 8, 8, 8, 8, 8, 8, 8, 8, 8, 8, 8, 8, 8, 8, 8, 8, 8, 8, 8, 8, 8, 8, 8, 8, 8, 8, 8, 8, 8, 8, 8, 8, 8, 8, 8, 8, 8, 8, 8, 8, 8, 8, 8, 8, 8, 8, 8, 8, 8, 8, 8, 8, 8, 8, 8, 8, 8, 8, 8, 8, 8, 8, 8, 8, 8, 8, 8, 8, 8, 8, 8, 8, 8, 8, 8, 8, 8, 8, 8, 8, 8, 8, 8, 8, 8, 8, 8, 8, 8, 8, 8, 8, 8, 8, 8, 8, 8, 8, 8, 8, 8, 8, 8, 8, 8, 8, 8, 8, 8, 8, 8, 8] : List UInt8) (IntKind.wrap .u8 v0))))))) hk rfl rfl rfl rfl ((FW.f_pure (FW.p_add hk.kn (FW.holds_nil _) rfl rfl))) ?_; clear hk; intro a w hk
        refine FW.lfun (y := .lit (.int .i64 (IntKind.wrap .i64 (v2 + (IntKind.wrap .i64 (FW.bt ([0, 1, 2, 2, 3, 3, 3, 3, 4, 4, 4, 4, 4, 4, 4, 4, 5, 5, 5, 5, 5, 5, 5, 5, 5, 5, 5, 5, 5, 5, 5, 5, 6, 6, 6, 6, 6, 6, 6, 6, 6, 6, 6, 6, 6, 6, 6, 6, 6, 6, 6, 6, 6, 6, 6, 6, 6, 6, 6, 6, 6, 6, 6, 6, 7, 7, 7, 7, 7, 7, 7, 7, 7, 7, 7, 7, 7, 7, 7, 7, 7, 7, 7, 7, 7, 7, 7, 7, 7, 7, 7, 7, 7, 7, 7, 7, 7, 7, 7, 7, 7, 7, 7, 7, 7, 7, 7, 7, 7, 7, 7, 7, 7, 7, 7, 7, 7, 7, 7, 7, 7, 7, 7, 7, 7, 7, 7, 7, 8, 8, 8, 8, 8, 8, 8, 8, 8, 8, 8, 8, 8, 8, 8, 8, 8, 8, 8, 8, 8, 8, 8, 8, 8, 8, 8, 8, 8, 8, 8, 8, 8, 8, 8, 8, 8, 8, 8, 8, 8, 8, 8, 8, 8, 8, 8, 8, 8, 8, 8, 8, 8, 8, 8, 8, 8, 8, 8, 8, 8, 8, 8, 8, 8, 8, 8, 8, 8, 8, 8, 8, 8, 8, 8, 8, 8, 8, 8, 8, 8, 8, 8, 8, 8, 8, 8, 8, 8, 8, 8, 8, 8, 8, 8, 8, 8, 8, 8, 8, 8, 8, 8, 8, 8, 8, 8, 8, 8, 8, 8, 8, 8, 8, 8, 8, 8, 8, 8, 8, 8, 8, 8, 8, 8, 8, 8, 8] : List UInt8) (IntKind.wrap .u8 v0))))))) hk rfl rfl rfl rfl (FW.f_assign hk (FW.holds_nil _) rfl) ?_; clear hk; intro a w hk
        refine FW.lend (hK5 _ _ ?_); clear hK5 K'
        refine wp_ret ?_
        (repeat first | refine FW.then_ret ?_ | refine FW.block_ret ?_)
        obtain rfl := Option.some.inj h
        exact FW.fret1 hk rfl rfl
      · intro K' hK4
        refine FW.wreg ?_; intro K' hK6
        refine FW.lfun (y := .lit (.int .u64 v0)) hk rfl rfl rfl rfl (FW.f_move hk (FW.holds_nil _) rfl) ?_; clear hk; intro a w hk
        refine FW.lfun (y := .lit (.bool (decide (256 ≤ v0)))) hk rfl rfl rfl rfl ((FW.f_pure (FW.p_geq hk.kn (FW.holds_nil _) rfl rfl))) ?_; clear hk; intro a w hk
        refine FW.lend (hK6 _ _ ?_); clear hK6 K'
        refine FW.wcondF (b := (decide (256 ≤ v0))) hk h rfl (fun h hb => ?_) (fun h hb => ?_)
        · skip
          refine FW.wreg ?_; intro K' hK7
          refine FW.lfun (y := .lit (.int .u64 v0)) hk rfl rfl rfl rfl (FW.f_move hk (FW.holds_nil _) rfl) ?_; clear hk; intro a w hk
          refine FW.lfun (y := .lit (.int .u64 (FW.shrI .u64 v0 8))) hk rfl rfl rfl rfl ((FW.f_pure (FW.p_shr hk.kn (FW.holds_nil _) rfl rfl (show (0 : Int) ≤ 8 from by decide)))) ?_; clear hk; intro a w hk
          refine FW.lfun (y := .lit (.int .u64 (FW.shrI .u64 v0 8))) hk rfl rfl rfl rfl (FW.f_assign hk (FW.holds_nil _) rfl) ?_; clear hk; intro a w hk
          refine FW.lend (hK7 _ _ ?_); clear hK7 K'
          refine FW.wreg1 ?_
          refine FW.lfun (y := .lit (.int .i64 v2)) hk rfl rfl rfl rfl (FW.f_move hk (FW.holds_nil _) rfl) ?_; clear hk; intro a w hk
          refine FW.lfun (y := .lit (.int .i64 (IntKind.wrap .i64 (v2 + 8)))) hk rfl rfl rfl rfl ((FW.f_pure (FW.p_add hk.kn (FW.holds_nil _) rfl rfl))) ?_; clear hk; intro a w hk
          refine FW.lfun (y := .lit (.int .i64 (IntKind.wrap .i64 (v2 + 8)))) hk rfl rfl rfl rfl (FW.f_assign hk (FW.holds_nil _) rfl) ?_; clear hk; intro a w hk
          refine wpList_nil ?_
          (repeat first | refine FW.then_normal ?_ | refine FW.block_normal ?_); exact hK4 _ _ ⟨(FW.shrI .u64 v0 8), (IntKind.wrap .i64 (v2 + 8)), hk.sub ⟨rfl, rfl, trivial⟩, h⟩
        refine wp_skip ?_
        (repeat first | refine FW.then_normal ?_ | refine FW.block_normal ?_); exact hK4 _ _ ⟨v0, v2, hk.sub ⟨rfl, rfl, trivial⟩, h⟩
    · intro K' hK3
      refine FW.wreg ?_; intro K' hK9
      refine FW.lfun (y := .lit (.int .u64 v0)) hk rfl rfl rfl rfl (FW.f_move hk (FW.holds_nil _) rfl) ?_; clear hk; intro a w hk
      refine FW.lfun (y := .lit (.bool (decide (65536 ≤ v0)))) hk rfl rfl rfl rfl ((FW.f_pure (FW.p_geq hk.kn (FW.holds_nil _) rfl rfl))) ?_; clear hk; intro a w hk
      refine FW.lend (hK9 _ _ ?_); clear hK9 K'
      refine FW.wcondF (b := (decide (65536 ≤ v0))) hk h rfl (fun h hb => ?_) (fun h hb => ?_)
      · skip
        refine FW.wreg ?_; intro K' hK10
        refine FW.lfun (y := .lit (.int .u64 v0)) hk rfl rfl rfl rfl (FW.f_move hk (FW.holds_nil _) rfl) ?_; clear hk; intro a w hk
        refine FW.lfun (y := .lit (.int .u64 (FW.shrI .u64 v0 16))) hk rfl rfl rfl rfl ((FW.f_pure (FW.p_shr hk.kn (FW.holds_nil _) rfl rfl (show (0 : Int) ≤ 16 from by decide)))) ?_; clear hk; intro a w hk
        refine FW.lfun (y := .lit (.int .u64 (FW.shrI .u64 v0 16))) hk rfl rfl rfl rfl (FW.f_assign hk (FW.holds_nil _) rfl) ?_; clear hk; intro a w hk
        refine FW.lend (hK10 _ _ ?_); clear hK10 K'
        refine FW.wreg1 ?_
        refine FW.lfun (y := .lit (.int .i64 v2)) hk rfl rfl rfl rfl (FW.f_move hk (FW.holds_nil _) rfl) ?_; clear hk; intro a w hk
        refine FW.lfun (y := .lit (.int .i64 (IntKind.wrap .i64 (v2 + 16)))) hk rfl rfl rfl rfl ((FW.f_pure (FW.p_add hk.kn (FW.holds_nil _) rfl rfl))) ?_; clear hk; intro a w hk
        refine FW.lfun (y := .lit (.int .i64 (IntKind.wrap .i64 (v2 + 16)))) hk rfl rfl rfl rfl (FW.f_assign hk (FW.holds_nil _) rfl) ?_; clear hk; intro a w hk
        refine wpList_nil ?_
        (repeat first | refine FW.then_normal ?_ | refine FW.block_normal ?_); exact hK3 _ _ ⟨(FW.shrI .u64 v0 16), (IntKind.wrap .i64 (v2 + 16)), hk.sub ⟨rfl, rfl, trivial⟩, h⟩
      refine wp_skip ?_
      (repeat first | refine FW.then_normal ?_ | refine FW.block_normal ?_); exact hK3 _ _ ⟨v0, v2, hk.sub ⟨rfl, rfl, trivial⟩, h⟩
  · intro K' hK2
    refine FW.wreg ?_; intro K' hK12
    refine FW.lfun (y := .lit (.int .u64 v0)) hk rfl rfl rfl rfl (FW.f_move hk (FW.holds_nil _) rfl) ?_; clear hk; intro a w hk
    refine FW.lfun (y := .lit (.bool (decide (4294967296 ≤ v0)))) hk rfl rfl rfl rfl ((FW.f_pure (FW.p_geq hk.kn (FW.holds_nil _) rfl rfl))) ?_; clear hk; intro a w hk
    refine FW.lend (hK12 _ _ ?_); clear hK12 K'
    refine FW.wcondF (b := (decide (4294967296 ≤ v0))) hk h rfl (fun h hb => ?_) (fun h hb => ?_)
    · skip
      refine FW.wreg ?_; intro K' hK13
      refine FW.lfun (y := .lit (.int .u64 v0)) hk rfl rfl rfl rfl (FW.f_move hk (FW.holds_nil _) rfl) ?_; clear hk; intro a w hk
      refine FW.lfun (y := .lit (.int .u64 (FW.shrI .u64 v0 32))) hk rfl rfl rfl rfl ((FW.f_pure (FW.p_shr hk.kn (FW.holds_nil _) rfl rfl (show (0 : Int) ≤ 32 from by decide)))) ?_; clear hk; intro a w hk
      refine FW.lfun (y := .lit (.int .u64 (FW.shrI .u64 v0 32))) hk rfl rfl rfl rfl (FW.f_assign hk (FW.holds_nil _) rfl) ?_; clear hk; intro a w hk
      refine FW.lend (hK13 _ _ ?_); clear hK13 K'
      refine FW.wreg1 ?_
      refine FW.lfun (y := .lit (.int .i64 32)) hk rfl rfl rfl rfl (FW.f_assign hk (FW.holds_nil _) rfl) ?_; clear hk; intro a w hk
      refine wpList_nil ?_
      (repeat first | refine FW.then_normal ?_ | refine FW.block_normal ?_); exact hK2 _ _ ⟨(FW.shrI .u64 v0 32), 32, hk.sub ⟨rfl, rfl, trivial⟩, h⟩
    refine wp_skip ?_
    (repeat first | refine FW.then_normal ?_ | refine FW.block_normal ?_); exact hK2 _ _ ⟨v0, 0, hk.sub ⟨rfl, rfl, trivial⟩, h⟩

theorem bits_Len.ok  (v0 : Int) (r : Int) (h : bits_Len.f v0 = some r) :
    FW.Ok Go.Proofs.Try.prog 29 [.lit (.int .u64 v0)] (.lit (.int .i64 r)) := by
  refine FW.enter (xs := [.lit (.int .u64 v0)]) Go.Proofs.Try.func29 rfl Go.Proofs.Try.ntmps29 rfl ?_
  intro M w0 a hk
  unfold bits_Len.f at h
  refine FW.wreg ?_; intro K' hK1
  refine FW.lfun (y := .lit (.int .i64 0)) hk rfl rfl rfl rfl (FW.f_assign hk (FW.holds_nil _) rfl) ?_; clear hk; intro a w hk
  refine FW.lend (hK1 _ _ ?_); clear hK1 K'
  refine FW.wseq ?_; intro K' hK2
  refine FW.wcondX hk rfl ?_
  refine wp_skip ?_
  (repeat first | refine FW.then_normal ?_ | refine FW.block_normal ?_); refine hK2 _ _ ?_
  refine FW.wreg ?_; intro K' hK3
  refine FW.lfun (y := .lit (.int .u64 v0)) hk rfl rfl rfl rfl (FW.f_move hk (FW.holds_nil _) rfl) ?_; clear hk; intro a w hk
  obtain ⟨t1, hr_t1, h⟩ := FW.bnd h
  refine FW.lfun (y := .lit (.int .i64 t1)) hk rfl rfl rfl rfl (FW.f_call hk (FW.holds_nil _) rfl rfl Go.Proofs.Try.func40 rfl (by kernel_rfl) (bits_Len64.ok v0 _ hr_t1)) ?_; clear hk; intro a w hk
  refine FW.lfun (y := .lit (.int .i64 t1)) hk rfl rfl rfl rfl (FW.f_assign hk (FW.holds_nil _) rfl) ?_; clear hk; intro a w hk
  refine FW.lend (hK3 _ _ ?_); clear hK3 K'
  refine wp_ret ?_
  (repeat first | refine FW.then_ret ?_ | refine FW.block_ret ?_)
  obtain rfl := Option.some.inj h
  exact FW.fret1 hk rfl rfl

theorem cmp_isNaN_uint64.ok  (v0 : Int) (r : Bool) (h : cmp_isNaN_uint64.f v0 = some r) :
    FW.Ok Go.Proofs.Try.prog 46 [.lit (.int .u64 v0)] (.lit (.bool r)) := by
  refine FW.enter (xs := [.lit (.int .u64 v0)]) Go.Proofs.Try.func46 rfl Go.Proofs.Try.ntmps46 rfl ?_
  intro M w0 a hk
  unfold cmp_isNaN_uint64.f at h
  refine FW.wreg ?_; intro K' hK1
  refine FW.lfun (y := .lit (.bool false)) hk rfl rfl rfl rfl (FW.f_assign hk (FW.holds_nil _) rfl) ?_; clear hk; intro a w hk
  refine FW.lend (hK1 _ _ ?_); clear hK1 K'
  refine FW.wreg ?_; intro K' hK2
  refine FW.lfun (y := .lit (.int .u64 v0)) hk rfl rfl rfl rfl (FW.f_move hk (FW.holds_nil _) rfl) ?_; clear hk; intro a w hk
  refine FW.lfun (y := .lit (.int .u64 v0)) hk rfl rfl rfl rfl (FW.f_move hk (FW.holds_nil _) rfl) ?_; clear hk; intro a w hk
  refine FW.lfun (y := .lit (.bool (!decide (v0 = v0)))) hk rfl rfl rfl rfl ((FW.f_pure (FW.p_neq hk.kn (FW.holds_nil _) rfl rfl))) ?_; clear hk; intro a w hk
  refine FW.lfun (y := .lit (.bool (!decide (v0 = v0)))) hk rfl rfl rfl rfl (FW.f_assign hk (FW.holds_nil _) rfl) ?_; clear hk; intro a w hk
  refine FW.lend (hK2 _ _ ?_); clear hK2 K'
  refine wp_ret ?_
  (repeat first | refine FW.then_ret ?_ | refine FW.block_ret ?_)
  obtain rfl := Option.some.inj h
  exact FW.fret1 hk rfl rfl

theorem cmp_Less_uint64.ok  (v0 : Int) (v1 : Int) (r : Bool) (h : cmp_Less_uint64.f v0 v1 = some r) :
    FW.Ok Go.Proofs.Try.prog 36 [.lit (.int .u64 v0), .lit (.int .u64 v1)] (.lit (.bool r)) := by
  refine FW.enter (xs := [.lit (.int .u64 v0), .lit (.int .u64 v1)]) Go.Proofs.Try.func36 rfl Go.Proofs.Try.ntmps36 rfl ?_
  intro M w0 a hk
  unfold cmp_Less_uint64.f at h
  refine FW.wreg ?_; intro K' hK1
  refine FW.lfun (y := .lit (.bool false)) hk rfl rfl rfl rfl (FW.f_assign hk (FW.holds_nil _) rfl) ?_; clear hk; intro a w hk
  refine FW.lend (hK1 _ _ ?_); clear hK1 K'
  refine FW.wreg ?_; intro K' hK2
  refine FW.lfun (y := .lit (.int .u64 v0)) hk rfl rfl rfl rfl (FW.f_move hk (FW.holds_nil _) rfl) ?_; clear hk; intro a w hk
  obtain ⟨t1, hr_t1, h⟩ := FW.bnd h
  refine FW.lfun (y := .lit (.bool t1)) hk rfl rfl rfl rfl (FW.f_call hk (FW.holds_nil _) rfl rfl Go.Proofs.Try.func46 rfl (by kernel_rfl) (cmp_isNaN_uint64.ok v0 _ hr_t1)) ?_; clear hk; intro a w hk
  refine FW.lfun (y := .lit (.bool t1)) hk rfl rfl rfl rfl (FW.f_move hk (FW.holds_nil _) rfl) ?_; clear hk; intro a w hk
  refine FW.lfunG (y := .lit (.int .u64 v1)) hk rfl rfl rfl rfl rfl rfl rfl rfl (fun hc => FW.f_move hk hc rfl) ?_; clear hk; intro a w hk
  obtain ⟨t2, hr_t2, h⟩ := FW.bndG h
  refine FW.lfunG (y := .lit (.bool t2)) hk rfl rfl rfl rfl rfl rfl rfl rfl (fun hc => FW.f_call hk hc rfl rfl Go.Proofs.Try.func46 rfl (by kernel_rfl) (cmp_isNaN_uint64.ok v1 _ (hr_t2 (FW.asm_out (p := t1 = true) hk.kn hc (fun e0 => e0))))) ?_; clear hk; intro a w hk
  refine FW.lfunG (y := .lit (.bool (!t2))) hk rfl rfl rfl rfl rfl rfl rfl rfl (fun hc => (FW.f_pure (FW.p_not hk.kn hc rfl))) ?_; clear hk; intro a w hk
  refine FW.lfun (y := .lit (.bool (t1 && (!t2)))) hk rfl rfl rfl rfl ((FW.f_pure (FW.p_pick_and hk.kn (FW.holds_nil _) rfl rfl))) ?_; clear hk; intro a w hk
  refine FW.lfun (y := .lit (.bool (t1 && (!t2)))) hk rfl rfl rfl rfl (FW.f_move hk (FW.holds_nil _) rfl) ?_; clear hk; intro a w hk
  refine FW.lfunG (y := .lit (.int .u64 v0)) hk rfl rfl rfl rfl rfl rfl rfl rfl (fun hc => FW.f_move hk hc rfl) ?_; clear hk; intro a w hk
  refine FW.lfunG (y := .lit (.int .u64 v1)) hk rfl rfl rfl rfl rfl rfl rfl rfl (fun hc => FW.f_move hk hc rfl) ?_; clear hk; intro a w hk
  refine FW.lfunG (y := .lit (.bool (decide (v0 < v1)))) hk rfl rfl rfl rfl rfl rfl rfl rfl (fun hc => (FW.f_pure (FW.p_lss hk.kn hc rfl rfl))) ?_; clear hk; intro a w hk
  refine FW.lfun (y := .lit (.bool ((t1 && (!t2)) || (decide (v0 < v1))))) hk rfl rfl rfl rfl ((FW.f_pure (FW.p_pick_or hk.kn (FW.holds_nil _) rfl rfl))) ?_; clear hk; intro a w hk
  refine FW.lfun (y := .lit (.bool ((t1 && (!t2)) || (decide (v0 < v1))))) hk rfl rfl rfl rfl (FW.f_assign hk (FW.holds_nil _) rfl) ?_; clear hk; intro a w hk
  refine FW.lend (hK2 _ _ ?_); clear hK2 K'
  refine wp_ret ?_
  (repeat first | refine FW.then_ret ?_ | refine FW.block_ret ?_)
  obtain rfl := Option.some.inj h
  exact FW.fret1 hk rfl rfl

theorem slices_insertionSortOrdered_uint64.ok (K : Nat) (v0 : ORow49) (v1 : Int) (v2 : Int) (r : ORow49) (h : slices_insertionSortOrdered_uint64.f K v0 v1 v2 = some r) :
    ∀ (b0 : Nat) (xd0_r : Option Addr) (xc0_r : Nat), FW.OkH Go.Proofs.Try.prog 30 [.lit (.slice xd0_r (List.length v0) xc0_r), .lit (.int .i64 v1), .lit (.int .i64 v2)] (ORow49.items b0 xd0_r xc0_r v0) (fun y I => y = .tup [] ∧ I = ORow49.items b0 xd0_r xc0_r r) := by
  intro b0 xd0_r xc0_r
  refine FW.enterH (xs := [.lit (.slice xd0_r (List.length v0) xc0_r), .lit (.int .i64 v1), .lit (.int .i64 v2)]) Go.Proofs.Try.func30 rfl Go.Proofs.Try.ntmps30 rfl ?_
  intro M w0 a hk
  replace hk : FW.S M w0 a w0.toWorld 49 [FW.orow xd0_r xc0_r 29 1 c_u64 v0] [(0, [], .lit (.slice xd0_r (List.length v0) xc0_r)), (1, [], .lit (.int .i64 v1)), (2, [], .lit (.int .i64 v2))] := hk
  unfold slices_insertionSortOrdered_uint64.f at h
  refine FW.wreg ?_; intro K' hK1
  refine FW.lfun (y := .lit (.int .i64 v1)) hk rfl rfl rfl rfl (FW.f_move hk (FW.holds_nil _) rfl) ?_; clear hk; intro a w hk
  refine FW.lfun (y := .lit (.int .i64 (IntKind.wrap .i64 (v1 + 1)))) hk rfl rfl rfl rfl ((FW.f_pure (FW.p_add hk.kn (FW.holds_nil _) rfl rfl))) ?_; clear hk; intro a w hk
  refine FW.lfun (y := .lit (.int .i64 (IntKind.wrap .i64 (v1 + 1)))) hk rfl rfl rfl rfl (FW.f_assign hk (FW.holds_nil _) rfl) ?_; clear hk; intro a w hk
  refine FW.lend (hK1 _ _ ?_); clear hK1 K'
  refine wp_block ?_
  refine FW.wloop (T := Nat × List Int × Int × Int × Int) (fun x a w => match x with | (kl1, l1, v1, v2, v6) => FW.S M w0 a w 49 [FW.orow xd0_r xc0_r 29 1 c_u64 l1] [(0, [], .lit (.slice xd0_r (List.length l1) xc0_r)), (1, [], .lit (.int .i64 v1)), (2, [], .lit (.int .i64 v2)), (6, [], .lit (.int .i64 v6))] ∧ slices_insertionSortOrdered_uint64.l1 K kl1 l1 v1 v2 v6 = some r) (fun x => x.1) (K, v0, v1, v2, (IntKind.wrap .i64 (v1 + 1))) ⟨hk.sub ⟨rfl, rfl, rfl, rfl, trivial⟩, h⟩ ?_
  clear hk h
  rintro ⟨kl1, l1, v1, v2, v6⟩ a w ⟨hk, h⟩ K' hK2
  cases kl1 with
  | zero => simp [slices_insertionSortOrdered_uint64.l1] at h
  | succ kl1 =>
  rw [slices_insertionSortOrdered_uint64.l1.eq_2] at h
  refine FW.wseq ?_; intro K' hK3
  refine FW.wreg ?_; intro K' hK4
  refine FW.lfun (y := .lit (.int .i64 v6)) hk rfl rfl rfl rfl (FW.f_move hk (FW.holds_nil _) rfl) ?_; clear hk; intro a w hk
  refine FW.lfun (y := .lit (.int .i64 v2)) hk rfl rfl rfl rfl (FW.f_move hk (FW.holds_nil _) rfl) ?_; clear hk; intro a w hk
  refine FW.lfun (y := .lit (.bool (decide (v6 < v2)))) hk rfl rfl rfl rfl ((FW.f_pure (FW.p_lss hk.kn (FW.holds_nil _) rfl rfl))) ?_; clear hk; intro a w hk
  refine FW.lend (hK4 _ _ ?_); clear hK4 K'
  refine FW.wcondF (b := (decide (v6 < v2))) hk h rfl (fun h hb => ?_) (fun h hb => ?_)
  · skip
    refine wp_skip ?_
    (repeat first | refine FW.then_normal ?_ | refine FW.block_normal ?_); refine hK3 _ _ ?_
    refine FW.wseq ?_; intro K' hK5
    refine wp_block ?_
    refine FW.wreg ?_; intro K' hK6
    refine FW.lfun (y := .lit (.int .i64 v6)) hk rfl rfl rfl rfl (FW.f_move hk (FW.holds_nil _) rfl) ?_; clear hk; intro a w hk
    refine FW.lfun (y := .lit (.int .i64 v6)) hk rfl rfl rfl rfl (FW.f_assign hk (FW.holds_nil _) rfl) ?_; clear hk; intro a w hk
    refine FW.lend (hK6 _ _ ?_); clear hK6 K'
    refine wp_block ?_
    refine FW.wloop (T := Nat × List Int × Int × Int × Int × Int) (fun x a w => match x with | (kl2, l1, v1, v2, v6, v7) => FW.S M w0 a w 49 [FW.orow xd0_r xc0_r 29 1 c_u64 l1] [(0, [], .lit (.slice xd0_r (List.length l1) xc0_r)), (1, [], .lit (.int .i64 v1)), (2, [], .lit (.int .i64 v2)), (6, [], .lit (.int .i64 v6)), (7, [], .lit (.int .i64 v7))] ∧ slices_insertionSortOrdered_uint64.l2 (slices_insertionSortOrdered_uint64.l1 K kl1) K kl2 l1 v1 v2 v6 v7 = some r) (fun x => x.1) (K, l1, v1, v2, v6, v6) ⟨hk.sub ⟨rfl, rfl, rfl, rfl, rfl, trivial⟩, h⟩ ?_
    clear hk h
    rintro ⟨kl2, l1, v1, v2, v6, v7⟩ a w ⟨hk, h⟩ K' hK7
    cases kl2 with
    | zero => simp [slices_insertionSortOrdered_uint64.l2] at h
    | succ kl2 =>
    rw [slices_insertionSortOrdered_uint64.l2.eq_2] at h
    refine FW.wseq ?_; intro K' hK8
    obtain ⟨hc1, h⟩ := FW.chk h
    obtain ⟨hc2, h⟩ := FW.chk h
    obtain ⟨t1, hr_t1, h⟩ := FW.bndG h
    refine FW.wdraw (by kernel_rfl) (by kernel_rfl) hk ?_; clear hk
    refine FW.dfun (y := .lit (.int .i64 v7)) rfl rfl rfl rfl (fun a w hk => FW.f_move hk (FW.holds_nil _) rfl) ?_
    refine FW.dfun (y := .lit (.int .i64 v1)) rfl rfl rfl rfl (fun a w hk => FW.f_move hk (FW.holds_nil _) rfl) ?_
    refine FW.dfun (y := .lit (.bool (decide (v1 < v7)))) rfl rfl rfl rfl (fun a w hk => (FW.f_pure (FW.p_gtr hk.kn (FW.holds_nil _) rfl rfl))) ?_
    refine FW.dfun (y := .lit (.bool (decide (v1 < v7)))) rfl rfl rfl rfl (fun a w hk => FW.f_move hk (FW.holds_nil _) rfl) ?_
    refine FW.dfunG (y := .lit (.slice xd0_r (List.length l1) xc0_r)) rfl rfl rfl rfl rfl rfl rfl rfl rfl (fun a w hk hc => FW.f_move hk hc rfl) ?_
    refine FW.dfunG (y := .lit (.int .i64 v7)) rfl rfl rfl rfl rfl rfl rfl rfl rfl (fun a w hk hc => FW.f_move hk hc rfl) ?_
    refine FW.dfunG (y := FW.elA xd0_r 1 v7) rfl rfl rfl rfl rfl rfl rfl rfl rfl (fun a w hk hc => FW.f_idxOwn (f := c_u64) (l := l1) hk hc (j := 0) rfl rfl (by first | rfl | simp only [List.length_set]) rfl Go.Proofs.Try.underlying49 (by kernel_rfl) hc1) ?_
    refine FW.dfunG (y := .lit (.int .u64 (List.getD l1 (Int.toNat v7) default))) rfl rfl rfl rfl rfl rfl rfl rfl rfl (fun a w hk hc => FW.f_loadOwn1 (f := c_u64) (l := l1) hk hc (j := 0) rfl rfl hc1 rfl Go.Proofs.Try.underlying29 rfl) ?_
    refine FW.dfunG (y := .lit (.slice xd0_r (List.length l1) xc0_r)) rfl rfl rfl rfl rfl rfl rfl rfl rfl (fun a w hk hc => FW.f_move hk hc rfl) ?_
    refine FW.dfunG (y := .lit (.int .i64 v7)) rfl rfl rfl rfl rfl rfl rfl rfl rfl (fun a w hk hc => FW.f_move hk hc rfl) ?_
    refine FW.dfunG (y := .lit (.int .i64 (IntKind.wrap .i64 (v7 - 1)))) rfl rfl rfl rfl rfl rfl rfl rfl rfl (fun a w hk hc => (FW.f_pure (FW.p_sub hk.kn hc rfl rfl))) ?_
    refine FW.dfunG (y := FW.elA xd0_r 1 (IntKind.wrap .i64 (v7 - 1))) rfl rfl rfl rfl rfl rfl rfl rfl rfl (fun a w hk hc => FW.f_idxOwn (f := c_u64) (l := l1) hk hc (j := 0) rfl rfl (by first | rfl | simp only [List.length_set]) rfl Go.Proofs.Try.underlying49 (by kernel_rfl) hc2) ?_
    refine FW.dfunG (y := .lit (.int .u64 (List.getD l1 (Int.toNat (IntKind.wrap .i64 (v7 - 1))) default))) rfl rfl rfl rfl rfl rfl rfl rfl rfl (fun a w hk hc => FW.f_loadOwn1 (f := c_u64) (l := l1) hk hc (j := 0) rfl rfl hc2 rfl Go.Proofs.Try.underlying29 rfl) ?_
    refine FW.dfunG (y := .lit (.bool t1)) rfl rfl rfl rfl rfl rfl rfl rfl rfl (fun a w hk hc => FW.f_call hk hc rfl rfl Go.Proofs.Try.func36 rfl (by kernel_rfl) (cmp_Less_uint64.ok (List.getD l1 (Int.toNat v7) default) (List.getD l1 (Int.toNat (IntKind.wrap .i64 (v7 - 1))) default) _ (hr_t1 (FW.asm_out (p := (decide (v1 < v7)) = true) hk.kn hc (fun e0 => e0))))) ?_
    refine FW.dfun (y := .lit (.bool ((decide (v1 < v7)) && t1))) rfl rfl rfl rfl (fun a w hk => (FW.f_pure (FW.p_pick_and hk.kn (FW.holds_nil _) rfl rfl))) ?_
    refine FW.dend ?_; intro a w hk
    refine FW.wcondF (b := ((decide (v1 < v7)) && t1)) hk h rfl (fun h hb => ?_) (fun h hb => ?_)
    · skip
      refine wp_skip ?_
      (repeat first | refine FW.then_normal ?_ | refine FW.block_normal ?_); refine hK8 _ _ ?_
      refine FW.wseq ?_; intro K' hK10
      refine wp_block ?_
      obtain ⟨hc3, h⟩ := FW.chk h
      obtain ⟨hc4, h⟩ := FW.chk h
      obtain ⟨hc5, h⟩ := FW.chk h
      obtain ⟨hc6, h⟩ := FW.chk h
      refine FW.wdrawE1 (.next [true, true, true, true, true, true, true, true, true, true, true, true, true, true, true, false, false, false] 15 [true, true, true, true, true, true, true, true, true, true, true, true, true, true, true, false, false, false] (.next [false, false, true, true, true, false, false, false, false, false, false, false, false, false, false, false, true, false] 17 [true, true, true, true, true, true, true, true, true, true, true, true, true, true, true, true, true, false] (.leaf [false, false, false, false, false, false, false, false, false, false, false, false, false, false, false, false, false, false]))) [(33, [], .lit (.slice xd0_r (List.length l1) xc0_r)), (34, [], .lit (.int .i64 v7)), (35, [], .lit (.slice xd0_r (List.length l1) xc0_r)), (36, [], .lit (.int .i64 v7)), (37, [], .lit (.int .i64 (IntKind.wrap .i64 (v7 - 1)))), (38, [], .lit (.slice xd0_r (List.length l1) xc0_r)), (39, [], .lit (.int .i64 v7)), (40, [], .lit (.int .i64 (IntKind.wrap .i64 (v7 - 1)))), (41, [], FW.elA xd0_r 1 (IntKind.wrap .i64 (v7 - 1))), (42, [], .lit (.int .u64 (List.getD l1 (Int.toNat (IntKind.wrap .i64 (v7 - 1))) default))), (43, [], .lit (.slice xd0_r (List.length l1) xc0_r)), (44, [], .lit (.int .i64 v7)), (45, [], FW.elA xd0_r 1 v7), (46, [], .lit (.int .u64 (List.getD l1 (Int.toNat v7) default))), (47, [], FW.elA xd0_r 1 v7), (49, [], .lit undef), (48, [], .agg []), (49, [], .lit undef)] (by kernel_rfl) (by kernel_rfl) (by kernel_rfl) (by kernel_rfl) hk ?_; clear hk
      refine FW.gnext0 ?_ rfl rfl rfl ?_
      · skip
        refine FW.gfun (y := .lit (.slice xd0_r (List.length l1) xc0_r)) rfl rfl rfl rfl (fun a w hk => FW.f_move hk (FW.holds_nil _) rfl) ?_
        refine FW.gfun (y := .lit (.int .i64 v7)) rfl rfl rfl rfl (fun a w hk => FW.f_move hk (FW.holds_nil _) rfl) ?_
        refine FW.gfun (y := .lit (.slice xd0_r (List.length l1) xc0_r)) rfl rfl rfl rfl (fun a w hk => FW.f_move hk (FW.holds_nil _) rfl) ?_
        refine FW.gfun (y := .lit (.int .i64 v7)) rfl rfl rfl rfl (fun a w hk => FW.f_move hk (FW.holds_nil _) rfl) ?_
        refine FW.gfun (y := .lit (.int .i64 (IntKind.wrap .i64 (v7 - 1)))) rfl rfl rfl rfl (fun a w hk => (FW.f_pure (FW.p_sub hk.kn (FW.holds_nil _) rfl rfl))) ?_
        refine FW.gfun (y := .lit (.slice xd0_r (List.length l1) xc0_r)) rfl rfl rfl rfl (fun a w hk => FW.f_move hk (FW.holds_nil _) rfl) ?_
        refine FW.gfun (y := .lit (.int .i64 v7)) rfl rfl rfl rfl (fun a w hk => FW.f_move hk (FW.holds_nil _) rfl) ?_
        refine FW.gfun (y := .lit (.int .i64 (IntKind.wrap .i64 (v7 - 1)))) rfl rfl rfl rfl (fun a w hk => (FW.f_pure (FW.p_sub hk.kn (FW.holds_nil _) rfl rfl))) ?_
        refine FW.gfun (y := FW.elA xd0_r 1 (IntKind.wrap .i64 (v7 - 1))) rfl rfl rfl rfl (fun a w hk => FW.f_idxOwn (f := c_u64) (l := l1) hk (FW.holds_nil _) (j := 0) rfl rfl (by first | rfl | simp only [List.length_set]) rfl Go.Proofs.Try.underlying49 (by kernel_rfl) hc3) ?_
        refine FW.gfun (y := .lit (.int .u64 (List.getD l1 (Int.toNat (IntKind.wrap .i64 (v7 - 1))) default))) rfl rfl rfl rfl (fun a w hk => FW.f_loadOwn1 (f := c_u64) (l := l1) hk (FW.holds_nil _) (j := 0) rfl rfl hc3 rfl Go.Proofs.Try.underlying29 rfl) ?_
        refine FW.gfun (y := .lit (.slice xd0_r (List.length l1) xc0_r)) rfl rfl rfl rfl (fun a w hk => FW.f_move hk (FW.holds_nil _) rfl) ?_
        refine FW.gfun (y := .lit (.int .i64 v7)) rfl rfl rfl rfl (fun a w hk => FW.f_move hk (FW.holds_nil _) rfl) ?_
        refine FW.gfun (y := FW.elA xd0_r 1 v7) rfl rfl rfl rfl (fun a w hk => FW.f_idxOwn (f := c_u64) (l := l1) hk (FW.holds_nil _) (j := 0) rfl rfl (by first | rfl | simp only [List.length_set]) rfl Go.Proofs.Try.underlying49 (by kernel_rfl) hc4) ?_
        refine FW.gfun (y := .lit (.int .u64 (List.getD l1 (Int.toNat v7) default))) rfl rfl rfl rfl (fun a w hk => FW.f_loadOwn1 (f := c_u64) (l := l1) hk (FW.holds_nil _) (j := 0) rfl rfl hc4 rfl Go.Proofs.Try.underlying29 rfl) ?_
        refine FW.gfun (y := FW.elA xd0_r 1 v7) rfl rfl rfl rfl (fun a w hk => FW.f_idxOwn (f := c_u64) (l := l1) hk (FW.holds_nil _) (j := 0) rfl rfl (by first | rfl | simp only [List.length_set]) rfl Go.Proofs.Try.underlying49 (by kernel_rfl) hc5) ?_
        refine FW.gskip0 rfl ?_
        refine FW.gskip rfl rfl ?_
        refine FW.gskip0 rfl ?_
        exact FW.gend
      · skip
        intro σD a w opsD QD hk hQ hX
        refine FW.l_storeOwn1 (f := c_u64) (l := l1) (v := (List.getD l1 (Int.toNat (IntKind.wrap .i64 (v7 - 1))) default)) (I' := [FW.orow xd0_r xc0_r 29 1 c_u64 (List.set l1 (Int.toNat v7) (List.getD l1 (Int.toNat (IntKind.wrap .i64 (v7 - 1))) default))]) (j := 0) hk rfl rfl hc5 rfl rfl rfl rfl (by kernel_rfl) rfl ?_; clear hk; intro w hk
        refine hQ _ a w ?_ hk; clear hk hQ hX
        refine ⟨[(33, [], .lit (.slice xd0_r (List.length l1) xc0_r)), (34, [], .lit (.int .i64 v7)), (35, [], .lit (.slice xd0_r (List.length l1) xc0_r)), (36, [], .lit (.int .i64 v7)), (37, [], .lit (.int .i64 (IntKind.wrap .i64 (v7 - 1)))), (38, [], .lit (.slice xd0_r (List.length l1) xc0_r)), (39, [], .lit (.int .i64 v7)), (40, [], .lit (.int .i64 (IntKind.wrap .i64 (v7 - 1)))), (41, [], FW.elA xd0_r 1 (IntKind.wrap .i64 (v7 - 1))), (42, [], .lit (.int .u64 (List.getD l1 (Int.toNat (IntKind.wrap .i64 (v7 - 1))) default))), (43, [], .lit (.slice xd0_r (List.length l1) xc0_r)), (44, [], .lit (.int .i64 v7)), (45, [], FW.elA xd0_r 1 v7), (46, [], .lit (.int .u64 (List.getD l1 (Int.toNat v7) default))), (47, [], FW.elA xd0_r 1 v7), (49, [], .lit undef), (48, [], FW.elA xd0_r 1 (IntKind.wrap .i64 (v7 - 1))), (49, [], .lit undef)], And.intro rfl (And.intro rfl (And.intro rfl (And.intro rfl (And.intro rfl (And.intro rfl (And.intro rfl (And.intro rfl (And.intro rfl (And.intro rfl (And.intro rfl (And.intro rfl (And.intro rfl (And.intro rfl (And.intro rfl (trivial))))))))))))))), rfl, ?_⟩
        refine FW.gnext0 ?_ rfl rfl rfl ?_
        · skip
          refine FW.gskip rfl rfl ?_
          refine FW.gskip rfl rfl ?_
          refine FW.gfun (y := .lit (.slice xd0_r (List.length l1) xc0_r)) rfl rfl rfl rfl (fun a w hk => FW.f_move hk (FW.holds_nil _) rfl) ?_
          refine FW.gfun (y := .lit (.int .i64 v7)) rfl rfl rfl rfl (fun a w hk => FW.f_move hk (FW.holds_nil _) rfl) ?_
          refine FW.gfun (y := .lit (.int .i64 (IntKind.wrap .i64 (v7 - 1)))) rfl rfl rfl rfl (fun a w hk => (FW.f_pure (FW.p_sub hk.kn (FW.holds_nil _) rfl rfl))) ?_
          refine FW.gskip rfl rfl ?_
          refine FW.gskip rfl rfl ?_
          refine FW.gskip rfl rfl ?_
          refine FW.gskip rfl rfl ?_
          refine FW.gskip rfl rfl ?_
          refine FW.gskip rfl rfl ?_
          refine FW.gskip rfl rfl ?_
          refine FW.gskip rfl rfl ?_
          refine FW.gskip rfl rfl ?_
          refine FW.gskip rfl rfl ?_
          refine FW.gskip0 rfl ?_
          refine FW.gfun (y := FW.elA xd0_r 1 (IntKind.wrap .i64 (v7 - 1))) rfl rfl rfl rfl (fun a w hk => FW.f_idxOwn (f := c_u64) (l := (List.set l1 (Int.toNat v7) (List.getD l1 (Int.toNat (IntKind.wrap .i64 (v7 - 1))) default))) hk (FW.holds_nil _) (j := 0) rfl rfl (by first | rfl | simp only [List.length_set]) rfl Go.Proofs.Try.underlying49 (by kernel_rfl) hc6) ?_
          refine FW.gskip0 rfl ?_
          exact FW.gend
        · skip
          intro σD a w opsD QD hk hQ hX
          refine FW.l_storeOwn1 (f := c_u64) (l := (List.set l1 (Int.toNat v7) (List.getD l1 (Int.toNat (IntKind.wrap .i64 (v7 - 1))) default))) (v := (List.getD l1 (Int.toNat v7) default)) (I' := [FW.orow xd0_r xc0_r 29 1 c_u64 (List.set (List.set l1 (Int.toNat v7) (List.getD l1 (Int.toNat (IntKind.wrap .i64 (v7 - 1))) default)) (Int.toNat (IntKind.wrap .i64 (v7 - 1))) (List.getD l1 (Int.toNat v7) default))]) (j := 0) hk rfl rfl hc6 rfl rfl rfl rfl (by kernel_rfl) rfl ?_; clear hk; intro w hk
          refine hQ _ a w ?_ hk; clear hk hQ hX
          refine ⟨[(33, [], .lit (.slice xd0_r (List.length l1) xc0_r)), (34, [], .lit (.int .i64 v7)), (35, [], .lit (.slice xd0_r (List.length l1) xc0_r)), (36, [], .lit (.int .i64 v7)), (37, [], .lit (.int .i64 (IntKind.wrap .i64 (v7 - 1)))), (38, [], .lit (.slice xd0_r (List.length l1) xc0_r)), (39, [], .lit (.int .i64 v7)), (40, [], .lit (.int .i64 (IntKind.wrap .i64 (v7 - 1)))), (41, [], FW.elA xd0_r 1 (IntKind.wrap .i64 (v7 - 1))), (42, [], .lit (.int .u64 (List.getD l1 (Int.toNat (IntKind.wrap .i64 (v7 - 1))) default))), (43, [], .lit (.slice xd0_r (List.length l1) xc0_r)), (44, [], .lit (.int .i64 v7)), (45, [], FW.elA xd0_r 1 v7), (46, [], .lit (.int .u64 (List.getD l1 (Int.toNat v7) default))), (47, [], FW.elA xd0_r 1 v7), (49, [], .lit undef), (48, [], FW.elA xd0_r 1 (IntKind.wrap .i64 (v7 - 1))), (49, [], .lit undef)], And.intro rfl (And.intro rfl (And.intro rfl (And.intro rfl (And.intro rfl (And.intro rfl (And.intro rfl (And.intro rfl (And.intro rfl (And.intro rfl (And.intro rfl (And.intro rfl (And.intro rfl (And.intro rfl (And.intro rfl (And.intro rfl (And.intro rfl (trivial))))))))))))))))), rfl, ?_⟩
          refine FW.glast ?_ ?_
          · skip
            refine FW.gskip rfl rfl ?_
            refine FW.gskip rfl rfl ?_
            refine FW.gskip rfl rfl ?_
            refine FW.gskip rfl rfl ?_
            refine FW.gskip rfl rfl ?_
            refine FW.gskip rfl rfl ?_
            refine FW.gskip rfl rfl ?_
            refine FW.gskip rfl rfl ?_
            refine FW.gskip rfl rfl ?_
            refine FW.gskip rfl rfl ?_
            refine FW.gskip rfl rfl ?_
            refine FW.gskip rfl rfl ?_
            refine FW.gskip rfl rfl ?_
            refine FW.gskip rfl rfl ?_
            refine FW.gskip rfl rfl ?_
            refine FW.gskip0 rfl ?_
            refine FW.gskip rfl rfl ?_
            refine FW.gskip0 rfl ?_
            exact FW.gend
          · skip
            intro a w hk; simp only [FW.stD, cond_true] at hk
            (repeat first | refine FW.then_normal ?_ | refine FW.block_normal ?_); refine hK10 _ _ ?_
            refine FW.wreg1 ?_
            refine FW.lfun (y := .lit (.int .i64 v7)) hk rfl rfl rfl rfl (FW.f_move hk (FW.holds_nil _) rfl) ?_; clear hk; intro a w hk
            refine FW.lfun (y := .lit (.int .i64 (IntKind.wrap .i64 (v7 - 1)))) hk rfl rfl rfl rfl ((FW.f_pure (FW.p_sub hk.kn (FW.holds_nil _) rfl rfl))) ?_; clear hk; intro a w hk
            refine FW.lfun (y := .lit (.int .i64 (IntKind.wrap .i64 (v7 - 1)))) hk rfl rfl rfl rfl (FW.f_assign hk (FW.holds_nil _) rfl) ?_; clear hk; intro a w hk
            refine wpList_nil ?_
            replace hk := hk.as (i := 0) (y := .lit (.slice xd0_r (List.length (List.set (List.set l1 (Int.toNat v7) (List.getD l1 (Int.toNat (IntKind.wrap .i64 (v7 - 1))) default)) (Int.toNat (IntKind.wrap .i64 (v7 - 1))) (List.getD l1 (Int.toNat v7) default))) xc0_r)) rfl (fun v hv => by simpa only [List.length_set] using hv)
            (repeat first | refine FW.then_normal ?_ | refine FW.block_normal ?_); exact hK7 (kl2, (List.set (List.set l1 (Int.toNat v7) (List.getD l1 (Int.toNat (IntKind.wrap .i64 (v7 - 1))) default)) (Int.toNat (IntKind.wrap .i64 (v7 - 1))) (List.getD l1 (Int.toNat v7) default)), v1, v2, v6, (IntKind.wrap .i64 (v7 - 1))) _ _ (Nat.lt_succ_self _) ⟨hk.sub ⟨rfl, rfl, rfl, rfl, rfl, trivial⟩, h⟩
    refine wp_exit ?_; (repeat first | refine FW.then_exit ?_ | refine FW.block_exit_ne rfl ?_); refine FW.block_exit ?_
    (repeat first | refine FW.then_normal ?_ | refine FW.block_normal ?_); refine hK5 _ _ ?_
    refine FW.wreg1 ?_
    refine FW.lfun (y := .lit (.int .i64 v6)) hk rfl rfl rfl rfl (FW.f_move hk (FW.holds_nil _) rfl) ?_; clear hk; intro a w hk
    refine FW.lfun (y := .lit (.int .i64 (IntKind.wrap .i64 (v6 + 1)))) hk rfl rfl rfl rfl ((FW.f_pure (FW.p_add hk.kn (FW.holds_nil _) rfl rfl))) ?_; clear hk; intro a w hk
    refine FW.lfun (y := .lit (.int .i64 (IntKind.wrap .i64 (v6 + 1)))) hk rfl rfl rfl rfl (FW.f_assign hk (FW.holds_nil _) rfl) ?_; clear hk; intro a w hk
    refine wpList_nil ?_
    (repeat first | refine FW.then_normal ?_ | refine FW.block_normal ?_); exact hK2 (kl1, l1, v1, v2, (IntKind.wrap .i64 (v6 + 1))) _ _ (Nat.lt_succ_self _) ⟨hk.sub ⟨rfl, rfl, rfl, rfl, trivial⟩, h⟩
  refine wp_exit ?_; (repeat first | refine FW.then_exit ?_ | refine FW.block_exit_ne rfl ?_); refine FW.block_exit ?_
  (repeat first | refine FW.then_normal ?_ | refine FW.block_normal ?_)
  refine FW.fnorm ?_
  obtain rfl := Option.some.inj h
  replace hk := FW.S.keep (I1 := [FW.orow xd0_r xc0_r 29 1 c_u64 l1]) (I2 := []) (js := [0]) hk rfl
  exact FW.fretH0 hk rfl ⟨rfl, rfl⟩

theorem slices_pdqsortOrdered_uint64.bok (s_slices_pdqsortOrdered_uint64 : ORow49 → Int → Int → Int → Option ORow49) (hs_slices_pdqsortOrdered_uint64 : ∀ (v0 : ORow49) (v1 : Int) (v2 : Int) (v3 : Int) (r : ORow49), s_slices_pdqsortOrdered_uint64 v0 v1 v2 v3 = some r → ∀ (b0 : Nat) (xd0_r : Option Addr) (xc0_r : Nat), FW.OkH Go.Proofs.Try.prog 28 [.lit (.slice xd0_r (List.length v0) xc0_r), .lit (.int .i64 v1), .lit (.int .i64 v2), .lit (.int .i64 v3)] (ORow49.items b0 xd0_r xc0_r v0) (fun y I => y = .tup [] ∧ I = ORow49.items b0 xd0_r xc0_r r)) (K : Nat) (v0 : ORow49) (v1 : Int) (v2 : Int) (v3 : Int) (r : ORow49) (h : slices_pdqsortOrdered_uint64.b s_slices_pdqsortOrdered_uint64 K v0 v1 v2 v3 = some r) :
    ∀ (b0 : Nat) (xd0_r : Option Addr) (xc0_r : Nat), FW.OkH Go.Proofs.Try.prog 28 [.lit (.slice xd0_r (List.length v0) xc0_r), .lit (.int .i64 v1), .lit (.int .i64 v2), .lit (.int .i64 v3)] (ORow49.items b0 xd0_r xc0_r v0) (fun y I => y = .tup [] ∧ I = ORow49.items b0 xd0_r xc0_r r) := by
  intro b0 xd0_r xc0_r
  refine FW.enterH (xs := [.lit (.slice xd0_r (List.length v0) xc0_r), .lit (.int .i64 v1), .lit (.int .i64 v2), .lit (.int .i64 v3)]) Go.Proofs.Try.func28 rfl Go.Proofs.Try.ntmps28 rfl ?_
  intro M w0 a hk
  replace hk : FW.S M w0 a w0.toWorld 134 [FW.orow xd0_r xc0_r 29 1 c_u64 v0] [(0, [], .lit (.slice xd0_r (List.length v0) xc0_r)), (1, [], .lit (.int .i64 v1)), (2, [], .lit (.int .i64 v2)), (3, [], .lit (.int .i64 v3))] := hk
  unfold slices_pdqsortOrdered_uint64.b at h
  refine FW.wreg ?_; intro K' hK1
  refine FW.lfun (y := .lit (.bool true)) hk rfl rfl rfl rfl (FW.f_assign hk (FW.holds_nil _) rfl) ?_; clear hk; intro a w hk
  refine FW.lend (hK1 _ _ ?_); clear hK1 K'
  refine FW.wreg ?_; intro K' hK2
  refine FW.lfun (y := .lit (.bool true)) hk rfl rfl rfl rfl (FW.f_assign hk (FW.holds_nil _) rfl) ?_; clear hk; intro a w hk
  refine FW.lend (hK2 _ _ ?_); clear hK2 K'
  refine wp_block ?_
  refine FW.wloop (T := Nat × Int × Int × Int × Bool × Bool) (fun x a w => match x with | (kl1, v1, v2, v3, v8, v9) => FW.S M w0 a w 134 [FW.orow xd0_r xc0_r 29 1 c_u64 v0] [(0, [], .lit (.slice xd0_r (List.length v0) xc0_r)), (1, [], .lit (.int .i64 v1)), (2, [], .lit (.int .i64 v2)), (3, [], .lit (.int .i64 v3)), (8, [], .lit (.bool v8)), (9, [], .lit (.bool v9))] ∧ slices_pdqsortOrdered_uint64.l1 s_slices_pdqsortOrdered_uint64 K v0 kl1 v1 v2 v3 v8 v9 = some r) (fun x => x.1) (K, v1, v2, v3, true, true) ⟨hk.sub ⟨rfl, rfl, rfl, rfl, rfl, rfl, trivial⟩, h⟩ ?_
  clear hk h
  rintro ⟨kl1, v1, v2, v3, v8, v9⟩ a w ⟨hk, h⟩ K' hK3
  cases kl1 with
  | zero => simp [slices_pdqsortOrdered_uint64.l1] at h
  | succ kl1 =>
  rw [slices_pdqsortOrdered_uint64.l1.eq_2] at h
  refine wp_block ?_
  refine FW.wreg ?_; intro K' hK4
  refine FW.lfun (y := .lit (.int .i64 v2)) hk rfl rfl rfl rfl (FW.f_move hk (FW.holds_nil _) rfl) ?_; clear hk; intro a w hk
  refine FW.lfun (y := .lit (.int .i64 v1)) hk rfl rfl rfl rfl (FW.f_move hk (FW.holds_nil _) rfl) ?_; clear hk; intro a w hk
  refine FW.lfun (y := .lit (.int .i64 (IntKind.wrap .i64 (v2 - v1)))) hk rfl rfl rfl rfl ((FW.f_pure (FW.p_sub hk.kn (FW.holds_nil _) rfl rfl))) ?_; clear hk; intro a w hk
  refine FW.lfun (y := .lit (.int .i64 (IntKind.wrap .i64 (v2 - v1)))) hk rfl rfl rfl rfl (FW.f_assign hk (FW.holds_nil _) rfl) ?_; clear hk; intro a w hk
  refine FW.lend (hK4 _ _ ?_); clear hK4 K'
  refine FW.wseq ?_; intro K' hK5
  refine FW.wreg ?_; intro K' hK6
  refine FW.lfun (y := .lit (.int .i64 (IntKind.wrap .i64 (v2 - v1)))) hk rfl rfl rfl rfl (FW.f_move hk (FW.holds_nil _) rfl) ?_; clear hk; intro a w hk
  refine FW.lfun (y := .lit (.bool (decide ((IntKind.wrap .i64 (v2 - v1)) ≤ 12)))) hk rfl rfl rfl rfl ((FW.f_pure (FW.p_leq hk.kn (FW.holds_nil _) rfl rfl))) ?_; clear hk; intro a w hk
  refine FW.lend (hK6 _ _ ?_); clear hK6 K'
  refine FW.wcondF (b := (decide ((IntKind.wrap .i64 (v2 - v1)) ≤ 12))) hk h rfl (fun h hb => ?_) (fun h hb => ?_)
  · skip
    refine FW.wreg ?_; intro K' hK7
    refine FW.lfun (y := .lit (.slice xd0_r (List.length v0) xc0_r)) hk rfl rfl rfl rfl (FW.f_move hk (FW.holds_nil _) rfl) ?_; clear hk; intro a w hk
    refine FW.lfun (y := .lit (.int .i64 v1)) hk rfl rfl rfl rfl (FW.f_move hk (FW.holds_nil _) rfl) ?_; clear hk; intro a w hk
    refine FW.lfun (y := .lit (.int .i64 v2)) hk rfl rfl rfl rfl (FW.f_move hk (FW.holds_nil _) rfl) ?_; clear hk; intro a w hk
    obtain ⟨t1, hr_t1, h⟩ := FW.bnd h
    refine FW.l_callH (I1 := (ORow49.items b0 xd0_r xc0_r v0)) (I2 := []) (js := [0]) hk rfl rfl rfl rfl rfl Go.Proofs.Try.func30 rfl (by kernel_rfl) (slices_insertionSortOrdered_uint64.ok K v0 v1 v2 _ hr_t1 b0 xd0_r xc0_r) ?_; clear hk
    rintro _ _ ⟨rfl, rfl⟩ a w hk
    refine FW.lend (hK7 _ _ ?_); clear hK7 K'
    refine wp_ret ?_
    (repeat first | refine FW.then_ret ?_ | refine FW.block_ret ?_)
    obtain rfl := Option.some.inj h
    replace hk := FW.S.keep (I1 := [FW.orow xd0_r xc0_r 29 1 c_u64 t1]) (I2 := []) (js := [0]) hk rfl
    exact FW.fretH0 hk rfl ⟨rfl, rfl⟩
  refine wp_skip ?_
  (repeat first | refine FW.then_normal ?_ | refine FW.block_normal ?_); refine hK5 _ _ ?_
  refine FW.wseq ?_; intro K' hK8
  refine FW.wreg ?_; intro K' hK9
  refine FW.lfun (y := .lit (.int .i64 v3)) hk rfl rfl rfl rfl (FW.f_move hk (FW.holds_nil _) rfl) ?_; clear hk; intro a w hk
  refine FW.lfun (y := .lit (.bool (decide (v3 = 0)))) hk rfl rfl rfl rfl ((FW.f_pure (FW.p_eql hk.kn (FW.holds_nil _) rfl rfl))) ?_; clear hk; intro a w hk
  refine FW.lend (hK9 _ _ ?_); clear hK9 K'
  refine FW.wcondF (b := (decide (v3 = 0))) hk h rfl (fun h hb => ?_) (fun h hb => ?_)
  · skip
    cases h
  cases h

theorem slices_pdqsortOrdered_uint64_knot : ∀ K : Nat, (∀ (v0 : ORow49) (v1 : Int) (v2 : Int) (v3 : Int) (r : ORow49), slices_pdqsortOrdered_uint64.f K v0 v1 v2 v3 = some r → ∀ (b0 : Nat) (xd0_r : Option Addr) (xc0_r : Nat), FW.OkH Go.Proofs.Try.prog 28 [.lit (.slice xd0_r (List.length v0) xc0_r), .lit (.int .i64 v1), .lit (.int .i64 v2), .lit (.int .i64 v3)] (ORow49.items b0 xd0_r xc0_r v0) (fun y I => y = .tup [] ∧ I = ORow49.items b0 xd0_r xc0_r r))
  | 0 => fun v0 v1 v2 v3 r h => by simp [slices_pdqsortOrdered_uint64.f] at h
  | K + 1 => fun v0 v1 v2 v3 r h => by rw [slices_pdqsortOrdered_uint64.f] at h; exact slices_pdqsortOrdered_uint64.bok _ (slices_pdqsortOrdered_uint64_knot K) K v0 v1 v2 v3 r h

theorem slices_pdqsortOrdered_uint64.ok (K : Nat) (v0 : ORow49) (v1 : Int) (v2 : Int) (v3 : Int) (r : ORow49) (h : slices_pdqsortOrdered_uint64.f K v0 v1 v2 v3 = some r) : ∀ (b0 : Nat) (xd0_r : Option Addr) (xc0_r : Nat), FW.OkH Go.Proofs.Try.prog 28 [.lit (.slice xd0_r (List.length v0) xc0_r), .lit (.int .i64 v1), .lit (.int .i64 v2), .lit (.int .i64 v3)] (ORow49.items b0 xd0_r xc0_r v0) (fun y I => y = .tup [] ∧ I = ORow49.items b0 xd0_r xc0_r r) := (slices_pdqsortOrdered_uint64_knot K) v0 v1 v2 v3 r h

theorem slices_Sort_uint64_uint64.ok (K : Nat) (v0 : ORow49) (r : ORow49) (h : slices_Sort_uint64_uint64.f K v0 = some r) :
    ∀ (b0 : Nat) (xd0_r : Option Addr) (xc0_r : Nat), FW.OkH Go.Proofs.Try.prog 24 [.lit (.slice xd0_r (List.length v0) xc0_r)] (ORow49.items b0 xd0_r xc0_r v0) (fun y I => y = .tup [] ∧ I = ORow49.items b0 xd0_r xc0_r r) := by
  intro b0 xd0_r xc0_r
  refine FW.enterH (xs := [.lit (.slice xd0_r (List.length v0) xc0_r)]) Go.Proofs.Try.func24 rfl Go.Proofs.Try.ntmps24 rfl ?_
  intro M w0 a hk
  replace hk : FW.S M w0 a w0.toWorld 11 [FW.orow xd0_r xc0_r 29 1 c_u64 v0] [(0, [], .lit (.slice xd0_r (List.length v0) xc0_r))] := hk
  unfold slices_Sort_uint64_uint64.f at h
  refine FW.wreg ?_; intro K' hK1
  refine FW.lfun (y := .lit (.slice xd0_r (List.length v0) xc0_r)) hk rfl rfl rfl rfl (FW.f_move hk (FW.holds_nil _) rfl) ?_; clear hk; intro a w hk
  refine FW.lfun (y := .lit (.int .i64 (List.length v0 : Int))) hk rfl rfl rfl rfl ((FW.f_pure (FW.p_len Go.Proofs.Try.underlying49 hk.kn (FW.holds_nil _) rfl))) ?_; clear hk; intro a w hk
  refine FW.lfun (y := .lit (.int .i64 (List.length v0 : Int))) hk rfl rfl rfl rfl (FW.f_assign hk (FW.holds_nil _) rfl) ?_; clear hk; intro a w hk
  refine FW.lend (hK1 _ _ ?_); clear hK1 K'
  refine FW.wreg1 ?_
  refine FW.lfun (y := .lit (.slice xd0_r (List.length v0) xc0_r)) hk rfl rfl rfl rfl (FW.f_move hk (FW.holds_nil _) rfl) ?_; clear hk; intro a w hk
  refine FW.lfun (y := .lit (.int .i64 (List.length v0 : Int))) hk rfl rfl rfl rfl (FW.f_move hk (FW.holds_nil _) rfl) ?_; clear hk; intro a w hk
  refine FW.lfun (y := .lit (.int .i64 (List.length v0 : Int))) hk rfl rfl rfl rfl (FW.f_move hk (FW.holds_nil _) rfl) ?_; clear hk; intro a w hk
  refine FW.lfun (y := .lit (.int .u64 (IntKind.wrap .u64 (List.length v0 : Int)))) hk rfl rfl rfl rfl ((FW.f_pure (FW.p_conv Go.Proofs.Try.underlying3 Go.Proofs.Try.underlying61 hk.kn (FW.holds_nil _) rfl))) ?_; clear hk; intro a w hk
  obtain ⟨t1, hr_t1, h⟩ := FW.bnd h
  refine FW.lfun (y := .lit (.int .i64 t1)) hk rfl rfl rfl rfl (FW.f_call hk (FW.holds_nil _) rfl rfl Go.Proofs.Try.func29 rfl (by kernel_rfl) (bits_Len.ok (IntKind.wrap .u64 (List.length v0 : Int)) _ hr_t1)) ?_; clear hk; intro a w hk
  obtain ⟨t2, hr_t2, h⟩ := FW.bnd h
  refine FW.l_callH (I1 := (ORow49.items b0 xd0_r xc0_r v0)) (I2 := []) (js := [0]) hk rfl rfl rfl rfl rfl Go.Proofs.Try.func28 rfl (by kernel_rfl) (slices_pdqsortOrdered_uint64.ok K v0 0 (List.length v0 : Int) t1 _ hr_t2 b0 xd0_r xc0_r) ?_; clear hk
  rintro _ _ ⟨rfl, rfl⟩ a w hk
  refine wpList_nil ?_
  (repeat first | refine FW.then_normal ?_ | refine FW.block_normal ?_)
  refine FW.fnorm ?_
  obtain rfl := Option.some.inj h
  replace hk := FW.S.keep (I1 := [FW.orow xd0_r xc0_r 29 1 c_u64 t2]) (I2 := []) (js := [0]) hk rfl
  exact FW.fretH0 hk rfl ⟨rfl, rfl⟩
end Go.Proofs.Ytaoffkhflmndhaa

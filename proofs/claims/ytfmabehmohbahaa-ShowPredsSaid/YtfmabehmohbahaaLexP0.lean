/- Written by a program of this session (gen.py): the contracts of functions of the program. -/
import Derived.KernelRfl
import Derived.Test.YtfmabehmohbahaaProg
import Derived.Test.YtfmabehmohbahaaAvFun
import Derived.Test.YtfmabehmohbahaaAvMan
import Derived.Test.YtfmabehmohbahaaAvMore
import Derived.Test.YtfmabehmohbahaaAvDraw2
import Derived.Test.YtfmabehmohbahaaAvRow
import Derived.Test.YtfmabehmohbahaaAvBld
import Derived.Test.YtfmabehmohbahaaLexD
namespace Go.Proofs.Ytfmabehmohbahaa
set_option linter.unusedVariables false
set_option maxRecDepth 20000
set_option maxHeartbeats 10000000
theorem offshootref11_digit.ok  (v0 : Int) (r : Int) (h : offshootref11_digit.f v0 = some r) :
    FW.Ok Go.Proofs.Try.prog 45 [.lit (.int .u8 v0)] (.lit (.int .i64 r)) := by
  refine FW.enter (xs := [.lit (.int .u8 v0)]) Go.Proofs.Try.func45 rfl Go.Proofs.Try.ntmps45 rfl ?_
  intro M w0 a hk
  unfold offshootref11_digit.f at h
  refine FW.wreg ?_; intro K' hK1
  refine FW.lfun (y := .lit (.int .i64 0)) hk rfl rfl rfl rfl (FW.f_assign hk (FW.holds_nil _) rfl) ?_; clear hk; intro a w hk
  refine FW.lend (hK1 _ _ ?_); clear hK1 K'
  refine FW.wseq ?_; intro K' hK2
  refine FW.wreg ?_; intro K' hK3
  refine FW.lfun (y := .lit (.int .u8 v0)) hk rfl rfl rfl rfl (FW.f_move hk (FW.holds_nil _) rfl) ?_; clear hk; intro a w hk
  refine FW.lfun (y := .lit (.bool (decide (48 ≤ v0)))) hk rfl rfl rfl rfl ((FW.f_pure (FW.p_geq hk.kn (FW.holds_nil _) rfl rfl))) ?_; clear hk; intro a w hk
  refine FW.lfun (y := .lit (.bool (decide (48 ≤ v0)))) hk rfl rfl rfl rfl (FW.f_move hk (FW.holds_nil _) rfl) ?_; clear hk; intro a w hk
  refine FW.lfunG (y := .lit (.int .u8 v0)) hk rfl rfl rfl rfl rfl rfl rfl rfl (fun hc => FW.f_move hk hc rfl) ?_; clear hk; intro a w hk
  refine FW.lfunG (y := .lit (.bool (decide (v0 ≤ 57)))) hk rfl rfl rfl rfl rfl rfl rfl rfl (fun hc => (FW.f_pure (FW.p_leq hk.kn hc rfl rfl))) ?_; clear hk; intro a w hk
  refine FW.lfun (y := .lit (.bool ((decide (48 ≤ v0)) && (decide (v0 ≤ 57))))) hk rfl rfl rfl rfl ((FW.f_pure (FW.p_pick_and hk.kn (FW.holds_nil _) rfl rfl))) ?_; clear hk; intro a w hk
  refine FW.lend (hK3 _ _ ?_); clear hK3 K'
  refine FW.wcondF (b := ((decide (48 ≤ v0)) && (decide (v0 ≤ 57)))) hk h rfl (fun h hb => ?_) (fun h hb => ?_)
  · skip
    refine FW.wreg ?_; intro K' hK4
    refine FW.lfun (y := .lit (.int .u8 v0)) hk rfl rfl rfl rfl (FW.f_move hk (FW.holds_nil _) rfl) ?_; clear hk; intro a w hk
    refine FW.lfun (y := .lit (.int .i64 (IntKind.wrap .i64 v0))) hk rfl rfl rfl rfl ((FW.f_pure (FW.p_conv Go.Proofs.Try.underlying5 Go.Proofs.Try.underlying3 hk.kn (FW.holds_nil _) rfl))) ?_; clear hk; intro a w hk
    refine FW.lfun (y := .lit (.int .i64 (IntKind.wrap .i64 ((IntKind.wrap .i64 v0) - 48)))) hk rfl rfl rfl rfl ((FW.f_pure (FW.p_sub hk.kn (FW.holds_nil _) rfl rfl))) ?_; clear hk; intro a w hk
    refine FW.lfun (y := .lit (.int .i64 (IntKind.wrap .i64 ((IntKind.wrap .i64 v0) - 48)))) hk rfl rfl rfl rfl (FW.f_assign hk (FW.holds_nil _) rfl) ?_; clear hk; intro a w hk
    refine FW.lend (hK4 _ _ ?_); clear hK4 K'
    refine wp_ret ?_
    (repeat first | refine FW.then_ret ?_ | refine FW.block_ret ?_)
    obtain rfl := Option.some.inj h
    exact FW.fret1 hk rfl rfl
  · skip
    refine wp_skip ?_
    (repeat first | refine FW.then_normal ?_ | refine FW.block_normal ?_); refine hK2 _ _ ?_
    refine FW.wseq ?_; intro K' hK5
    refine FW.wreg ?_; intro K' hK6
    refine FW.lfun (y := .lit (.int .u8 v0)) hk rfl rfl rfl rfl (FW.f_move hk (FW.holds_nil _) rfl) ?_; clear hk; intro a w hk
    refine FW.lfun (y := .lit (.bool (decide (97 ≤ v0)))) hk rfl rfl rfl rfl ((FW.f_pure (FW.p_geq hk.kn (FW.holds_nil _) rfl rfl))) ?_; clear hk; intro a w hk
    refine FW.lfun (y := .lit (.bool (decide (97 ≤ v0)))) hk rfl rfl rfl rfl (FW.f_move hk (FW.holds_nil _) rfl) ?_; clear hk; intro a w hk
    refine FW.lfunG (y := .lit (.int .u8 v0)) hk rfl rfl rfl rfl rfl rfl rfl rfl (fun hc => FW.f_move hk hc rfl) ?_; clear hk; intro a w hk
    refine FW.lfunG (y := .lit (.bool (decide (v0 ≤ 102)))) hk rfl rfl rfl rfl rfl rfl rfl rfl (fun hc => (FW.f_pure (FW.p_leq hk.kn hc rfl rfl))) ?_; clear hk; intro a w hk
    refine FW.lfun (y := .lit (.bool ((decide (97 ≤ v0)) && (decide (v0 ≤ 102))))) hk rfl rfl rfl rfl ((FW.f_pure (FW.p_pick_and hk.kn (FW.holds_nil _) rfl rfl))) ?_; clear hk; intro a w hk
    refine FW.lend (hK6 _ _ ?_); clear hK6 K'
    refine FW.wcondF (b := ((decide (97 ≤ v0)) && (decide (v0 ≤ 102)))) hk h rfl (fun h hb => ?_) (fun h hb => ?_)
    · skip
      refine FW.wreg ?_; intro K' hK7
      refine FW.lfun (y := .lit (.int .u8 v0)) hk rfl rfl rfl rfl (FW.f_move hk (FW.holds_nil _) rfl) ?_; clear hk; intro a w hk
      refine FW.lfun (y := .lit (.int .i64 (IntKind.wrap .i64 v0))) hk rfl rfl rfl rfl ((FW.f_pure (FW.p_conv Go.Proofs.Try.underlying5 Go.Proofs.Try.underlying3 hk.kn (FW.holds_nil _) rfl))) ?_; clear hk; intro a w hk
      refine FW.lfun (y := .lit (.int .i64 (IntKind.wrap .i64 ((IntKind.wrap .i64 v0) - 97)))) hk rfl rfl rfl rfl ((FW.f_pure (FW.p_sub hk.kn (FW.holds_nil _) rfl rfl))) ?_; clear hk; intro a w hk
      refine FW.lfun (y := .lit (.int .i64 (IntKind.wrap .i64 ((IntKind.wrap .i64 ((IntKind.wrap .i64 v0) - 97)) + 10)))) hk rfl rfl rfl rfl ((FW.f_pure (FW.p_add hk.kn (FW.holds_nil _) rfl rfl))) ?_; clear hk; intro a w hk
      refine FW.lfun (y := .lit (.int .i64 (IntKind.wrap .i64 ((IntKind.wrap .i64 ((IntKind.wrap .i64 v0) - 97)) + 10)))) hk rfl rfl rfl rfl (FW.f_assign hk (FW.holds_nil _) rfl) ?_; clear hk; intro a w hk
      refine FW.lend (hK7 _ _ ?_); clear hK7 K'
      refine wp_ret ?_
      (repeat first | refine FW.then_ret ?_ | refine FW.block_ret ?_)
      obtain rfl := Option.some.inj h
      exact FW.fret1 hk rfl rfl
    · skip
      refine wp_skip ?_
      (repeat first | refine FW.then_normal ?_ | refine FW.block_normal ?_); refine hK5 _ _ ?_
      refine FW.wreg ?_; intro K' hK8
      refine FW.lfun (y := .lit (.int .i64 16)) hk rfl rfl rfl rfl (FW.f_assign hk (FW.holds_nil _) rfl) ?_; clear hk; intro a w hk
      refine FW.lend (hK8 _ _ ?_); clear hK8 K'
      refine wp_ret ?_
      (repeat first | refine FW.then_ret ?_ | refine FW.block_ret ?_)
      obtain rfl := Option.some.inj h
      exact FW.fret1 hk rfl rfl

theorem offshootref11_Quoted.ok (K : Nat) (v0 : List UInt8) (r : List UInt8 × Int) (h : offshootref11_Quoted.f K v0 = some r) :
    FW.Ok Go.Proofs.Try.prog 22 [.lit (.string (FW.B v0))] (.tup [.lit (.string (FW.B r.1)), .lit (.int .i64 r.2)]) := by
  refine FW.enter (xs := [.lit (.string (FW.B v0))]) Go.Proofs.Try.func22 rfl Go.Proofs.Try.ntmps22 rfl ?_
  intro M w0 a hk
  unfold offshootref11_Quoted.f at h
  refine FW.wreg ?_; intro K' hK1
  refine FW.lfun (y := .lit (.string (FW.B ([] : List UInt8)))) hk rfl rfl rfl rfl (FW.f_assign hk (FW.holds_nil _) rfl) ?_; clear hk; intro a w hk
  refine FW.lfun (y := .lit (.int .i64 0)) hk rfl rfl rfl rfl (FW.f_assign hk (FW.holds_nil _) rfl) ?_; clear hk; intro a w hk
  refine FW.lend (hK1 _ _ ?_); clear hK1 K'
  refine FW.wreg ?_; intro K' hK2
  refine FW.l_buildSlice0 (f := c_u8) hk rfl rfl Go.Proofs.Try.underlying45 rfl (fun _ => rfl) ?_; clear hk; intro b1 a w hk
  refine FW.lfun (y := .lit (.slice (some ⟨b1, 0, none⟩) (List.length ([] : List Int)) 0)) hk rfl rfl rfl rfl (FW.f_assign hk (FW.holds_nil _) rfl) ?_; clear hk; intro a w hk
  refine FW.lend (hK2 _ _ ?_); clear hK2 K'
  refine FW.wseq ?_; intro K' hK3
  refine FW.wreg ?_; intro K' hK4
  refine FW.lfun (y := .lit (.string (FW.B v0))) hk rfl rfl rfl rfl (FW.f_move hk (FW.holds_nil _) rfl) ?_; clear hk; intro a w hk
  refine FW.lfun (y := .lit (.bool (decide (v0 = ([] : List UInt8))))) hk rfl rfl rfl rfl ((FW.f_pure (FW.p_seql hk.kn (FW.holds_nil _) rfl rfl))) ?_; clear hk; intro a w hk
  refine FW.lfun (y := .lit (.bool (decide (v0 = ([] : List UInt8))))) hk rfl rfl rfl rfl (FW.f_move hk (FW.holds_nil _) rfl) ?_; clear hk; intro a w hk
  refine FW.lfunG (y := .lit (.string (FW.B v0))) hk rfl rfl rfl rfl rfl rfl rfl rfl (fun hc => FW.f_move hk hc rfl) ?_; clear hk; intro a w hk
  obtain ⟨hc1, h⟩ := FW.chk h
  refine FW.lfunG (y := .lit (.int .u8 (FW.bt v0 0))) hk rfl rfl rfl rfl rfl rfl rfl rfl (fun hc => (FW.f_pure (FW.p_index Go.Proofs.Try.underlying9 hk.kn hc rfl rfl hc1))) ?_; clear hk; intro a w hk
  refine FW.lfunG (y := .lit (.bool (!decide ((FW.bt v0 0) = 39)))) hk rfl rfl rfl rfl rfl rfl rfl rfl (fun hc => (FW.f_pure (FW.p_neq hk.kn hc rfl rfl))) ?_; clear hk; intro a w hk
  refine FW.lfun (y := .lit (.bool ((decide (v0 = ([] : List UInt8))) || (!decide ((FW.bt v0 0) = 39))))) hk rfl rfl rfl rfl ((FW.f_pure (FW.p_pick_or hk.kn (FW.holds_nil _) rfl rfl))) ?_; clear hk; intro a w hk
  refine FW.lend (hK4 _ _ ?_); clear hK4 K'
  refine FW.wcondF (b := ((decide (v0 = ([] : List UInt8))) || (!decide ((FW.bt v0 0) = 39)))) hk h rfl (fun h hb => ?_) (fun h hb => ?_)
  · skip
    refine FW.wreg ?_; intro K' hK5
    refine FW.lfun (y := .lit (.string (FW.B ([] : List UInt8)))) hk rfl rfl rfl rfl (FW.f_assign hk (FW.holds_nil _) rfl) ?_; clear hk; intro a w hk
    refine FW.lfun (y := .lit (.int .i64 0)) hk rfl rfl rfl rfl (FW.f_assign hk (FW.holds_nil _) rfl) ?_; clear hk; intro a w hk
    refine FW.lend (hK5 _ _ ?_); clear hK5 K'
    refine wp_ret ?_
    (repeat first | refine FW.then_ret ?_ | refine FW.block_ret ?_)
    obtain rfl := Option.some.inj h
    exact FW.fret2 hk rfl rfl rfl
  · skip
    refine wp_skip ?_
    (repeat first | refine FW.then_normal ?_ | refine FW.block_normal ?_); refine hK3 _ _ ?_
    refine FW.wseq ?_; intro K' hK6
    refine FW.wreg ?_; intro K' hK7
    refine FW.lfun (y := .lit (.int .i64 1)) hk rfl rfl rfl rfl (FW.f_assign hk (FW.holds_nil _) rfl) ?_; clear hk; intro a w hk
    refine FW.lend (hK7 _ _ ?_); clear hK7 K'
    refine wp_block ?_
    refine FW.wloop (T := Nat × List Int × List UInt8 × Int × Option Addr × Nat) (fun x a w => match x with | (kl1, l1, v0, v5, ad1, cap1) => FW.S M w0 a w 116 [FW.orow ad1 cap1 5 1 c_u8 l1] [(0, [], .lit (.string (FW.B v0))), (4, [], .lit (.slice ad1 (List.length l1) cap1)), (5, [], .lit (.int .i64 v5))] ∧ offshootref11_Quoted.l1 K kl1 l1 v0 v5 = some r) (fun x => x.1) (K, ([] : List Int), v0, 1, (some ⟨b1, 0, none⟩), 0) ⟨hk.sub ⟨rfl, rfl, rfl, trivial⟩, h⟩ ?_
    clear hk h
    rintro ⟨kl1, l1, v0, v5, ad1, cap1⟩ a w ⟨hk, h⟩ K' hK8
    cases kl1 with
    | zero => simp [offshootref11_Quoted.l1] at h
    | succ kl1 =>
    rw [offshootref11_Quoted.l1.eq_2] at h
    refine FW.wseq ?_; intro K' hK9
    refine FW.wreg ?_; intro K' hK10
    refine FW.lfun (y := .lit (.int .i64 v5)) hk rfl rfl rfl rfl (FW.f_move hk (FW.holds_nil _) rfl) ?_; clear hk; intro a w hk
    refine FW.lfun (y := .lit (.string (FW.B v0))) hk rfl rfl rfl rfl (FW.f_move hk (FW.holds_nil _) rfl) ?_; clear hk; intro a w hk
    refine FW.lfun (y := .lit (.int .i64 (List.length v0 : Int))) hk rfl rfl rfl rfl ((FW.f_pure (FW.p_slen Go.Proofs.Try.underlying9 hk.kn (FW.holds_nil _) rfl))) ?_; clear hk; intro a w hk
    refine FW.lfun (y := .lit (.bool (decide (v5 < (List.length v0 : Int))))) hk rfl rfl rfl rfl ((FW.f_pure (FW.p_lss hk.kn (FW.holds_nil _) rfl rfl))) ?_; clear hk; intro a w hk
    refine FW.lend (hK10 _ _ ?_); clear hK10 K'
    refine FW.wcondF (b := (decide (v5 < (List.length v0 : Int)))) hk h rfl (fun h hb => ?_) (fun h hb => ?_)
    · skip
      refine wp_skip ?_
      (repeat first | refine FW.then_normal ?_ | refine FW.block_normal ?_); refine hK9 _ _ ?_
      refine wp_block ?_
      refine FW.wreg ?_; intro K' hK11
      refine FW.lfun (y := .lit (.string (FW.B v0))) hk rfl rfl rfl rfl (FW.f_move hk (FW.holds_nil _) rfl) ?_; clear hk; intro a w hk
      refine FW.lfun (y := .lit (.int .i64 v5)) hk rfl rfl rfl rfl (FW.f_move hk (FW.holds_nil _) rfl) ?_; clear hk; intro a w hk
      obtain ⟨hc2, h⟩ := FW.chk h
      refine FW.lfun (y := .lit (.int .u8 (FW.bt v0 v5))) hk rfl rfl rfl rfl ((FW.f_pure (FW.p_index Go.Proofs.Try.underlying9 hk.kn (FW.holds_nil _) rfl rfl hc2))) ?_; clear hk; intro a w hk
      refine FW.lfun (y := .lit (.int .u8 (FW.bt v0 v5))) hk rfl rfl rfl rfl (FW.f_assign hk (FW.holds_nil _) rfl) ?_; clear hk; intro a w hk
      refine FW.lend (hK11 _ _ ?_); clear hK11 K'
      refine FW.wseq ?_; intro K' hK12
      refine FW.wreg ?_; intro K' hK13
      refine FW.lfun (y := .lit (.int .u8 (FW.bt v0 v5))) hk rfl rfl rfl rfl (FW.f_move hk (FW.holds_nil _) rfl) ?_; clear hk; intro a w hk
      refine FW.lfun (y := .lit (.bool (decide ((FW.bt v0 v5) = 39)))) hk rfl rfl rfl rfl ((FW.f_pure (FW.p_eql hk.kn (FW.holds_nil _) rfl rfl))) ?_; clear hk; intro a w hk
      refine FW.lend (hK13 _ _ ?_); clear hK13 K'
      refine FW.wcondF (b := (decide ((FW.bt v0 v5) = 39))) hk h rfl (fun h hb => ?_) (fun h hb => ?_)
      · skip
        refine FW.wreg ?_; intro K' hK14
        refine FW.lfun (y := .lit (.slice ad1 (List.length l1) cap1)) hk rfl rfl rfl rfl (FW.f_move hk (FW.holds_nil _) rfl) ?_; clear hk; intro a w hk
        refine FW.lfun (y := .lit (.string (FW.B (FW.toB l1)))) hk rfl rfl rfl rfl (FW.f_toBown (f := c_u8) rfl hk (FW.holds_nil _) (j := 0) rfl rfl Go.Proofs.Try.underlying45 Go.Proofs.Try.underlying5 Go.Proofs.Try.underlying9) ?_; clear hk; intro a w hk
        refine FW.lfun (y := .lit (.int .i64 v5)) hk rfl rfl rfl rfl (FW.f_move hk (FW.holds_nil _) rfl) ?_; clear hk; intro a w hk
        refine FW.lfun (y := .lit (.int .i64 (IntKind.wrap .i64 (v5 + 1)))) hk rfl rfl rfl rfl ((FW.f_pure (FW.p_add hk.kn (FW.holds_nil _) rfl rfl))) ?_; clear hk; intro a w hk
        refine FW.lfun (y := .lit (.string (FW.B (FW.toB l1)))) hk rfl rfl rfl rfl (FW.f_assign hk (FW.holds_nil _) rfl) ?_; clear hk; intro a w hk
        refine FW.lfun (y := .lit (.int .i64 (IntKind.wrap .i64 (v5 + 1)))) hk rfl rfl rfl rfl (FW.f_assign hk (FW.holds_nil _) rfl) ?_; clear hk; intro a w hk
        refine FW.lend (hK14 _ _ ?_); clear hK14 K'
        refine wp_ret ?_
        (repeat first | refine FW.then_ret ?_ | refine FW.block_ret ?_)
        obtain rfl := Option.some.inj h
        exact FW.fret2 hk rfl rfl rfl
      · skip
        refine wp_skip ?_
        (repeat first | refine FW.then_normal ?_ | refine FW.block_normal ?_); refine hK12 _ _ ?_
        refine FW.wseq ?_; intro K' hK15
        refine FW.wreg ?_; intro K' hK16
        refine FW.lfun (y := .lit (.int .u8 (FW.bt v0 v5))) hk rfl rfl rfl rfl (FW.f_move hk (FW.holds_nil _) rfl) ?_; clear hk; intro a w hk
        refine FW.lfun (y := .lit (.bool (decide ((FW.bt v0 v5) < 32)))) hk rfl rfl rfl rfl ((FW.f_pure (FW.p_lss hk.kn (FW.holds_nil _) rfl rfl))) ?_; clear hk; intro a w hk
        refine FW.lfun (y := .lit (.bool (decide ((FW.bt v0 v5) < 32)))) hk rfl rfl rfl rfl (FW.f_move hk (FW.holds_nil _) rfl) ?_; clear hk; intro a w hk
        refine FW.lfunG (y := .lit (.int .u8 (FW.bt v0 v5))) hk rfl rfl rfl rfl rfl rfl rfl rfl (fun hc => FW.f_move hk hc rfl) ?_; clear hk; intro a w hk
        refine FW.lfunG (y := .lit (.bool (decide (126 < (FW.bt v0 v5))))) hk rfl rfl rfl rfl rfl rfl rfl rfl (fun hc => (FW.f_pure (FW.p_gtr hk.kn hc rfl rfl))) ?_; clear hk; intro a w hk
        refine FW.lfun (y := .lit (.bool ((decide ((FW.bt v0 v5) < 32)) || (decide (126 < (FW.bt v0 v5)))))) hk rfl rfl rfl rfl ((FW.f_pure (FW.p_pick_or hk.kn (FW.holds_nil _) rfl rfl))) ?_; clear hk; intro a w hk
        refine FW.lend (hK16 _ _ ?_); clear hK16 K'
        refine FW.wcondF (b := ((decide ((FW.bt v0 v5) < 32)) || (decide (126 < (FW.bt v0 v5))))) hk h rfl (fun h hb => ?_) (fun h hb => ?_)
        · skip
          refine FW.wreg ?_; intro K' hK17
          refine FW.lfun (y := .lit (.string (FW.B ([] : List UInt8)))) hk rfl rfl rfl rfl (FW.f_assign hk (FW.holds_nil _) rfl) ?_; clear hk; intro a w hk
          refine FW.lfun (y := .lit (.int .i64 0)) hk rfl rfl rfl rfl (FW.f_assign hk (FW.holds_nil _) rfl) ?_; clear hk; intro a w hk
          refine FW.lend (hK17 _ _ ?_); clear hK17 K'
          refine wp_ret ?_
          (repeat first | refine FW.then_ret ?_ | refine FW.block_ret ?_)
          obtain rfl := Option.some.inj h
          exact FW.fret2 hk rfl rfl rfl
        · skip
          refine wp_skip ?_
          (repeat first | refine FW.then_normal ?_ | refine FW.block_normal ?_); refine hK15 _ _ ?_
          refine FW.wseq ?_; intro K' hK18
          refine FW.wreg ?_; intro K' hK19
          refine FW.lfun (y := .lit (.int .u8 (FW.bt v0 v5))) hk rfl rfl rfl rfl (FW.f_move hk (FW.holds_nil _) rfl) ?_; clear hk; intro a w hk
          refine FW.lfun (y := .lit (.bool (!decide ((FW.bt v0 v5) = 92)))) hk rfl rfl rfl rfl ((FW.f_pure (FW.p_neq hk.kn (FW.holds_nil _) rfl rfl))) ?_; clear hk; intro a w hk
          refine FW.lend (hK19 _ _ ?_); clear hK19 K'
          refine FW.wcondF (b := (!decide ((FW.bt v0 v5) = 92))) hk h rfl (fun h hb => ?_) (fun h hb => ?_)
          · skip
            refine FW.wreg ?_; intro K' hK20
            refine FW.lfun (y := .lit (.slice ad1 (List.length l1) cap1)) hk rfl rfl rfl rfl (FW.f_move hk (FW.holds_nil _) rfl) ?_; clear hk; intro a w hk
            refine FW.lfun (y := .lit (.int .u8 (FW.bt v0 v5))) hk rfl rfl rfl rfl (FW.f_move hk (FW.holds_nil _) rfl) ?_; clear hk; intro a w hk
            refine FW.l_buildSlice (f := c_u8) (l := ([(FW.bt v0 v5)] : List Int)) hk rfl rfl rfl Go.Proofs.Try.underlying45 rfl rfl rfl rfl (fun _ => rfl) rfl ?_; clear hk; intro b2 a w hk
            obtain ⟨hc3, h⟩ := FW.chk h
            refine FW.l_append (l2 := ([(FW.bt v0 v5)] : List Int)) (l3 := (l1 ++ ([(FW.bt v0 v5)] : List Int))) (I' := fun ad1 cap1 => [FW.orow (some ⟨b2, 0, none⟩) 1 5 1 c_u8 ([(FW.bt v0 v5)] : List Int), FW.orow ad1 cap1 5 1 c_u8 (l1 ++ ([(FW.bt v0 v5)] : List Int))]) (j := 1) hk rfl rfl rfl rfl (FW.own_src hk (j := 0) rfl rfl (fun _ => rfl) Go.Proofs.Try.underlying45) Go.Proofs.Try.underlying45 (by kernel_rfl) hc3 rfl (fun _ _ => rfl) ?_; clear hk; intro ad1 cap1 a w hk
            replace hk := FW.S.dropI (I' := [FW.orow ad1 cap1 5 1 c_u8 (l1 ++ ([(FW.bt v0 v5)] : List Int))]) hk 0 rfl
            refine FW.lfun (y := .lit (.int .i64 v5)) hk rfl rfl rfl rfl (FW.f_move hk (FW.holds_nil _) rfl) ?_; clear hk; intro a w hk
            refine FW.lfun (y := .lit (.int .i64 (IntKind.wrap .i64 (v5 + 1)))) hk rfl rfl rfl rfl ((FW.f_pure (FW.p_add hk.kn (FW.holds_nil _) rfl rfl))) ?_; clear hk; intro a w hk
            refine FW.lfun (y := .lit (.slice ad1 (List.length (l1 ++ ([(FW.bt v0 v5)] : List Int))) cap1)) hk rfl rfl rfl rfl (FW.f_assign hk (FW.holds_nil _) rfl) ?_; clear hk; intro a w hk
            refine FW.lfun (y := .lit (.int .i64 (IntKind.wrap .i64 (v5 + 1)))) hk rfl rfl rfl rfl (FW.f_assign hk (FW.holds_nil _) rfl) ?_; clear hk; intro a w hk
            refine FW.lend (hK20 _ _ ?_); clear hK20 K'
            refine wp_exit ?_; (repeat first | refine FW.then_exit ?_ | refine FW.block_exit_ne rfl ?_); refine FW.block_exit ?_
            (repeat first | refine FW.then_normal ?_ | refine FW.block_normal ?_); exact hK8 (kl1, (l1 ++ ([(FW.bt v0 v5)] : List Int)), v0, (IntKind.wrap .i64 (v5 + 1)), ad1, cap1) _ _ (Nat.lt_succ_self _) ⟨hk.sub ⟨rfl, rfl, rfl, trivial⟩, h⟩
          · skip
            refine wp_skip ?_
            (repeat first | refine FW.then_normal ?_ | refine FW.block_normal ?_); refine hK18 _ _ ?_
            refine FW.wseq ?_; intro K' hK21
            refine FW.wreg ?_; intro K' hK22
            refine FW.lfun (y := .lit (.int .i64 v5)) hk rfl rfl rfl rfl (FW.f_move hk (FW.holds_nil _) rfl) ?_; clear hk; intro a w hk
            refine FW.lfun (y := .lit (.int .i64 (IntKind.wrap .i64 (v5 + 1)))) hk rfl rfl rfl rfl ((FW.f_pure (FW.p_add hk.kn (FW.holds_nil _) rfl rfl))) ?_; clear hk; intro a w hk
            refine FW.lfun (y := .lit (.string (FW.B v0))) hk rfl rfl rfl rfl (FW.f_move hk (FW.holds_nil _) rfl) ?_; clear hk; intro a w hk
            refine FW.lfun (y := .lit (.int .i64 (List.length v0 : Int))) hk rfl rfl rfl rfl ((FW.f_pure (FW.p_slen Go.Proofs.Try.underlying9 hk.kn (FW.holds_nil _) rfl))) ?_; clear hk; intro a w hk
            refine FW.lfun (y := .lit (.bool (decide ((IntKind.wrap .i64 (v5 + 1)) < (List.length v0 : Int))))) hk rfl rfl rfl rfl ((FW.f_pure (FW.p_lss hk.kn (FW.holds_nil _) rfl rfl))) ?_; clear hk; intro a w hk
            refine FW.lfun (y := .lit (.bool (decide ((IntKind.wrap .i64 (v5 + 1)) < (List.length v0 : Int))))) hk rfl rfl rfl rfl (FW.f_move hk (FW.holds_nil _) rfl) ?_; clear hk; intro a w hk
            refine FW.lfunG (y := .lit (.string (FW.B v0))) hk rfl rfl rfl rfl rfl rfl rfl rfl (fun hc => FW.f_move hk hc rfl) ?_; clear hk; intro a w hk
            refine FW.lfunG (y := .lit (.int .i64 v5)) hk rfl rfl rfl rfl rfl rfl rfl rfl (fun hc => FW.f_move hk hc rfl) ?_; clear hk; intro a w hk
            refine FW.lfunG (y := .lit (.int .i64 (IntKind.wrap .i64 (v5 + 1)))) hk rfl rfl rfl rfl rfl rfl rfl rfl (fun hc => (FW.f_pure (FW.p_add hk.kn hc rfl rfl))) ?_; clear hk; intro a w hk
            obtain ⟨hc4, h⟩ := FW.chk h
            refine FW.lfunG (y := .lit (.int .u8 (FW.bt v0 (IntKind.wrap .i64 (v5 + 1))))) hk rfl rfl rfl rfl rfl rfl rfl rfl (fun hc => (FW.f_pure (FW.p_index Go.Proofs.Try.underlying9 hk.kn hc rfl rfl hc4))) ?_; clear hk; intro a w hk
            refine FW.lfunG (y := .lit (.bool (decide ((FW.bt v0 (IntKind.wrap .i64 (v5 + 1))) = 39)))) hk rfl rfl rfl rfl rfl rfl rfl rfl (fun hc => (FW.f_pure (FW.p_eql hk.kn hc rfl rfl))) ?_; clear hk; intro a w hk
            refine FW.lfunG (y := .lit (.bool (decide ((FW.bt v0 (IntKind.wrap .i64 (v5 + 1))) = 39)))) hk rfl rfl rfl rfl rfl rfl rfl rfl (fun hc => FW.f_move hk hc rfl) ?_; clear hk; intro a w hk
            refine FW.lfunG (y := .lit (.string (FW.B v0))) hk rfl rfl rfl rfl rfl rfl rfl rfl (fun hc => FW.f_move hk hc rfl) ?_; clear hk; intro a w hk
            refine FW.lfunG (y := .lit (.int .i64 v5)) hk rfl rfl rfl rfl rfl rfl rfl rfl (fun hc => FW.f_move hk hc rfl) ?_; clear hk; intro a w hk
            refine FW.lfunG (y := .lit (.int .i64 (IntKind.wrap .i64 (v5 + 1)))) hk rfl rfl rfl rfl rfl rfl rfl rfl (fun hc => (FW.f_pure (FW.p_add hk.kn hc rfl rfl))) ?_; clear hk; intro a w hk
            obtain ⟨hc5, h⟩ := FW.chk h
            refine FW.lfunG (y := .lit (.int .u8 (FW.bt v0 (IntKind.wrap .i64 (v5 + 1))))) hk rfl rfl rfl rfl rfl rfl rfl rfl (fun hc => (FW.f_pure (FW.p_index Go.Proofs.Try.underlying9 hk.kn hc rfl rfl hc5))) ?_; clear hk; intro a w hk
            refine FW.lfunG (y := .lit (.bool (decide ((FW.bt v0 (IntKind.wrap .i64 (v5 + 1))) = 92)))) hk rfl rfl rfl rfl rfl rfl rfl rfl (fun hc => (FW.f_pure (FW.p_eql hk.kn hc rfl rfl))) ?_; clear hk; intro a w hk
            refine FW.lfunG (y := .lit (.bool ((decide ((FW.bt v0 (IntKind.wrap .i64 (v5 + 1))) = 39)) || (decide ((FW.bt v0 (IntKind.wrap .i64 (v5 + 1))) = 92))))) hk rfl rfl rfl rfl rfl rfl rfl rfl (fun hc => (FW.f_pure (FW.p_pick_or hk.kn hc rfl rfl))) ?_; clear hk; intro a w hk
            refine FW.lfun (y := .lit (.bool ((decide ((IntKind.wrap .i64 (v5 + 1)) < (List.length v0 : Int))) && ((decide ((FW.bt v0 (IntKind.wrap .i64 (v5 + 1))) = 39)) || (decide ((FW.bt v0 (IntKind.wrap .i64 (v5 + 1))) = 92)))))) hk rfl rfl rfl rfl ((FW.f_pure (FW.p_pick_and hk.kn (FW.holds_nil _) rfl rfl))) ?_; clear hk; intro a w hk
            refine FW.lend (hK22 _ _ ?_); clear hK22 K'
            refine FW.wcondF (b := ((decide ((IntKind.wrap .i64 (v5 + 1)) < (List.length v0 : Int))) && ((decide ((FW.bt v0 (IntKind.wrap .i64 (v5 + 1))) = 39)) || (decide ((FW.bt v0 (IntKind.wrap .i64 (v5 + 1))) = 92))))) hk h rfl (fun h hb => ?_) (fun h hb => ?_)
            · skip
              refine FW.wreg ?_; intro K' hK23
              refine FW.lfun (y := .lit (.slice ad1 (List.length l1) cap1)) hk rfl rfl rfl rfl (FW.f_move hk (FW.holds_nil _) rfl) ?_; clear hk; intro a w hk
              refine FW.lfun (y := .lit (.string (FW.B v0))) hk rfl rfl rfl rfl (FW.f_move hk (FW.holds_nil _) rfl) ?_; clear hk; intro a w hk
              refine FW.lfun (y := .lit (.int .i64 v5)) hk rfl rfl rfl rfl (FW.f_move hk (FW.holds_nil _) rfl) ?_; clear hk; intro a w hk
              refine FW.lfun (y := .lit (.int .i64 (IntKind.wrap .i64 (v5 + 1)))) hk rfl rfl rfl rfl ((FW.f_pure (FW.p_add hk.kn (FW.holds_nil _) rfl rfl))) ?_; clear hk; intro a w hk
              obtain ⟨hc6, h⟩ := FW.chk h
              refine FW.lfun (y := .lit (.int .u8 (FW.bt v0 (IntKind.wrap .i64 (v5 + 1))))) hk rfl rfl rfl rfl ((FW.f_pure (FW.p_index Go.Proofs.Try.underlying9 hk.kn (FW.holds_nil _) rfl rfl hc6))) ?_; clear hk; intro a w hk
              refine FW.l_buildSlice (f := c_u8) (l := ([(FW.bt v0 (IntKind.wrap .i64 (v5 + 1)))] : List Int)) hk rfl rfl rfl Go.Proofs.Try.underlying45 rfl rfl rfl rfl (fun _ => rfl) rfl ?_; clear hk; intro b3 a w hk
              obtain ⟨hc7, h⟩ := FW.chk h
              refine FW.l_append (l2 := ([(FW.bt v0 (IntKind.wrap .i64 (v5 + 1)))] : List Int)) (l3 := (l1 ++ ([(FW.bt v0 (IntKind.wrap .i64 (v5 + 1)))] : List Int))) (I' := fun ad2 cap2 => [FW.orow (some ⟨b3, 0, none⟩) 1 5 1 c_u8 ([(FW.bt v0 (IntKind.wrap .i64 (v5 + 1)))] : List Int), FW.orow ad2 cap2 5 1 c_u8 (l1 ++ ([(FW.bt v0 (IntKind.wrap .i64 (v5 + 1)))] : List Int))]) (j := 1) hk rfl rfl rfl rfl (FW.own_src hk (j := 0) rfl rfl (fun _ => rfl) Go.Proofs.Try.underlying45) Go.Proofs.Try.underlying45 (by kernel_rfl) hc7 rfl (fun _ _ => rfl) ?_; clear hk; intro ad2 cap2 a w hk
              replace hk := FW.S.dropI (I' := [FW.orow ad2 cap2 5 1 c_u8 (l1 ++ ([(FW.bt v0 (IntKind.wrap .i64 (v5 + 1)))] : List Int))]) hk 0 rfl
              refine FW.lfun (y := .lit (.int .i64 v5)) hk rfl rfl rfl rfl (FW.f_move hk (FW.holds_nil _) rfl) ?_; clear hk; intro a w hk
              refine FW.lfun (y := .lit (.int .i64 (IntKind.wrap .i64 (v5 + 2)))) hk rfl rfl rfl rfl ((FW.f_pure (FW.p_add hk.kn (FW.holds_nil _) rfl rfl))) ?_; clear hk; intro a w hk
              refine FW.lfun (y := .lit (.slice ad2 (List.length (l1 ++ ([(FW.bt v0 (IntKind.wrap .i64 (v5 + 1)))] : List Int))) cap2)) hk rfl rfl rfl rfl (FW.f_assign hk (FW.holds_nil _) rfl) ?_; clear hk; intro a w hk
              refine FW.lfun (y := .lit (.int .i64 (IntKind.wrap .i64 (v5 + 2)))) hk rfl rfl rfl rfl (FW.f_assign hk (FW.holds_nil _) rfl) ?_; clear hk; intro a w hk
              refine FW.lend (hK23 _ _ ?_); clear hK23 K'
              refine wp_exit ?_; (repeat first | refine FW.then_exit ?_ | refine FW.block_exit_ne rfl ?_); refine FW.block_exit ?_
              (repeat first | refine FW.then_normal ?_ | refine FW.block_normal ?_); exact hK8 (kl1, (l1 ++ ([(FW.bt v0 (IntKind.wrap .i64 (v5 + 1)))] : List Int)), v0, (IntKind.wrap .i64 (v5 + 2)), ad2, cap2) _ _ (Nat.lt_succ_self _) ⟨hk.sub ⟨rfl, rfl, rfl, trivial⟩, h⟩
            · skip
              refine wp_skip ?_
              (repeat first | refine FW.then_normal ?_ | refine FW.block_normal ?_); refine hK21 _ _ ?_
              refine FW.wseq ?_; intro K' hK24
              refine FW.wreg ?_; intro K' hK25
              refine FW.lfun (y := .lit (.int .i64 v5)) hk rfl rfl rfl rfl (FW.f_move hk (FW.holds_nil _) rfl) ?_; clear hk; intro a w hk
              refine FW.lfun (y := .lit (.int .i64 (IntKind.wrap .i64 (v5 + 3)))) hk rfl rfl rfl rfl ((FW.f_pure (FW.p_add hk.kn (FW.holds_nil _) rfl rfl))) ?_; clear hk; intro a w hk
              refine FW.lfun (y := .lit (.string (FW.B v0))) hk rfl rfl rfl rfl (FW.f_move hk (FW.holds_nil _) rfl) ?_; clear hk; intro a w hk
              refine FW.lfun (y := .lit (.int .i64 (List.length v0 : Int))) hk rfl rfl rfl rfl ((FW.f_pure (FW.p_slen Go.Proofs.Try.underlying9 hk.kn (FW.holds_nil _) rfl))) ?_; clear hk; intro a w hk
              refine FW.lfun (y := .lit (.bool (decide ((List.length v0 : Int) ≤ (IntKind.wrap .i64 (v5 + 3)))))) hk rfl rfl rfl rfl ((FW.f_pure (FW.p_geq hk.kn (FW.holds_nil _) rfl rfl))) ?_; clear hk; intro a w hk
              refine FW.lfun (y := .lit (.bool (decide ((List.length v0 : Int) ≤ (IntKind.wrap .i64 (v5 + 3)))))) hk rfl rfl rfl rfl (FW.f_move hk (FW.holds_nil _) rfl) ?_; clear hk; intro a w hk
              refine FW.lfunG (y := .lit (.string (FW.B v0))) hk rfl rfl rfl rfl rfl rfl rfl rfl (fun hc => FW.f_move hk hc rfl) ?_; clear hk; intro a w hk
              refine FW.lfunG (y := .lit (.int .i64 v5)) hk rfl rfl rfl rfl rfl rfl rfl rfl (fun hc => FW.f_move hk hc rfl) ?_; clear hk; intro a w hk
              refine FW.lfunG (y := .lit (.int .i64 (IntKind.wrap .i64 (v5 + 1)))) hk rfl rfl rfl rfl rfl rfl rfl rfl (fun hc => (FW.f_pure (FW.p_add hk.kn hc rfl rfl))) ?_; clear hk; intro a w hk
              obtain ⟨hc8, h⟩ := FW.chk h
              refine FW.lfunG (y := .lit (.int .u8 (FW.bt v0 (IntKind.wrap .i64 (v5 + 1))))) hk rfl rfl rfl rfl rfl rfl rfl rfl (fun hc => (FW.f_pure (FW.p_index Go.Proofs.Try.underlying9 hk.kn hc rfl rfl hc8))) ?_; clear hk; intro a w hk
              refine FW.lfunG (y := .lit (.bool (!decide ((FW.bt v0 (IntKind.wrap .i64 (v5 + 1))) = 120)))) hk rfl rfl rfl rfl rfl rfl rfl rfl (fun hc => (FW.f_pure (FW.p_neq hk.kn hc rfl rfl))) ?_; clear hk; intro a w hk
              refine FW.lfun (y := .lit (.bool ((decide ((List.length v0 : Int) ≤ (IntKind.wrap .i64 (v5 + 3)))) || (!decide ((FW.bt v0 (IntKind.wrap .i64 (v5 + 1))) = 120))))) hk rfl rfl rfl rfl ((FW.f_pure (FW.p_pick_or hk.kn (FW.holds_nil _) rfl rfl))) ?_; clear hk; intro a w hk
              refine FW.lfun (y := .lit (.bool ((decide ((List.length v0 : Int) ≤ (IntKind.wrap .i64 (v5 + 3)))) || (!decide ((FW.bt v0 (IntKind.wrap .i64 (v5 + 1))) = 120))))) hk rfl rfl rfl rfl (FW.f_move hk (FW.holds_nil _) rfl) ?_; clear hk; intro a w hk
              refine FW.lfunG (y := .lit (.string (FW.B v0))) hk rfl rfl rfl rfl rfl rfl rfl rfl (fun hc => FW.f_move hk hc rfl) ?_; clear hk; intro a w hk
              refine FW.lfunG (y := .lit (.int .i64 v5)) hk rfl rfl rfl rfl rfl rfl rfl rfl (fun hc => FW.f_move hk hc rfl) ?_; clear hk; intro a w hk
              refine FW.lfunG (y := .lit (.int .i64 (IntKind.wrap .i64 (v5 + 2)))) hk rfl rfl rfl rfl rfl rfl rfl rfl (fun hc => (FW.f_pure (FW.p_add hk.kn hc rfl rfl))) ?_; clear hk; intro a w hk
              obtain ⟨hc9, h⟩ := FW.chk h
              refine FW.lfunG (y := .lit (.int .u8 (FW.bt v0 (IntKind.wrap .i64 (v5 + 2))))) hk rfl rfl rfl rfl rfl rfl rfl rfl (fun hc => (FW.f_pure (FW.p_index Go.Proofs.Try.underlying9 hk.kn hc rfl rfl hc9))) ?_; clear hk; intro a w hk
              obtain ⟨t1, hr_t1, h⟩ := FW.bndG h
              refine FW.lfunG (y := .lit (.int .i64 t1)) hk rfl rfl rfl rfl rfl rfl rfl rfl (fun hc => FW.f_call hk hc rfl rfl Go.Proofs.Try.func45 rfl (by kernel_rfl) (offshootref11_digit.ok (FW.bt v0 (IntKind.wrap .i64 (v5 + 2))) _ (hr_t1 (FW.asm_out (p := ((decide ((List.length v0 : Int) ≤ (IntKind.wrap .i64 (v5 + 3)))) || (!decide ((FW.bt v0 (IntKind.wrap .i64 (v5 + 1))) = 120))) = false) hk.kn hc (fun e0 => e0))))) ?_; clear hk; intro a w hk
              refine FW.lfunG (y := .lit (.bool (decide (15 < t1)))) hk rfl rfl rfl rfl rfl rfl rfl rfl (fun hc => (FW.f_pure (FW.p_gtr hk.kn hc rfl rfl))) ?_; clear hk; intro a w hk
              refine FW.lfun (y := .lit (.bool (((decide ((List.length v0 : Int) ≤ (IntKind.wrap .i64 (v5 + 3)))) || (!decide ((FW.bt v0 (IntKind.wrap .i64 (v5 + 1))) = 120))) || (decide (15 < t1))))) hk rfl rfl rfl rfl ((FW.f_pure (FW.p_pick_or hk.kn (FW.holds_nil _) rfl rfl))) ?_; clear hk; intro a w hk
              refine FW.lfun (y := .lit (.bool (((decide ((List.length v0 : Int) ≤ (IntKind.wrap .i64 (v5 + 3)))) || (!decide ((FW.bt v0 (IntKind.wrap .i64 (v5 + 1))) = 120))) || (decide (15 < t1))))) hk rfl rfl rfl rfl (FW.f_move hk (FW.holds_nil _) rfl) ?_; clear hk; intro a w hk
              refine FW.lfunG (y := .lit (.string (FW.B v0))) hk rfl rfl rfl rfl rfl rfl rfl rfl (fun hc => FW.f_move hk hc rfl) ?_; clear hk; intro a w hk
              refine FW.lfunG (y := .lit (.int .i64 v5)) hk rfl rfl rfl rfl rfl rfl rfl rfl (fun hc => FW.f_move hk hc rfl) ?_; clear hk; intro a w hk
              refine FW.lfunG (y := .lit (.int .i64 (IntKind.wrap .i64 (v5 + 3)))) hk rfl rfl rfl rfl rfl rfl rfl rfl (fun hc => (FW.f_pure (FW.p_add hk.kn hc rfl rfl))) ?_; clear hk; intro a w hk
              obtain ⟨hc10, h⟩ := FW.chk h
              refine FW.lfunG (y := .lit (.int .u8 (FW.bt v0 (IntKind.wrap .i64 (v5 + 3))))) hk rfl rfl rfl rfl rfl rfl rfl rfl (fun hc => (FW.f_pure (FW.p_index Go.Proofs.Try.underlying9 hk.kn hc rfl rfl hc10))) ?_; clear hk; intro a w hk
              obtain ⟨t2, hr_t2, h⟩ := FW.bndG h
              refine FW.lfunG (y := .lit (.int .i64 t2)) hk rfl rfl rfl rfl rfl rfl rfl rfl (fun hc => FW.f_call hk hc rfl rfl Go.Proofs.Try.func45 rfl (by kernel_rfl) (offshootref11_digit.ok (FW.bt v0 (IntKind.wrap .i64 (v5 + 3))) _ (hr_t2 (FW.asm_out (p := (((decide ((List.length v0 : Int) ≤ (IntKind.wrap .i64 (v5 + 3)))) || (!decide ((FW.bt v0 (IntKind.wrap .i64 (v5 + 1))) = 120))) || (decide (15 < t1))) = false) hk.kn hc (fun e0 => e0))))) ?_; clear hk; intro a w hk
              refine FW.lfunG (y := .lit (.bool (decide (15 < t2)))) hk rfl rfl rfl rfl rfl rfl rfl rfl (fun hc => (FW.f_pure (FW.p_gtr hk.kn hc rfl rfl))) ?_; clear hk; intro a w hk
              refine FW.lfun (y := .lit (.bool ((((decide ((List.length v0 : Int) ≤ (IntKind.wrap .i64 (v5 + 3)))) || (!decide ((FW.bt v0 (IntKind.wrap .i64 (v5 + 1))) = 120))) || (decide (15 < t1))) || (decide (15 < t2))))) hk rfl rfl rfl rfl ((FW.f_pure (FW.p_pick_or hk.kn (FW.holds_nil _) rfl rfl))) ?_; clear hk; intro a w hk
              refine FW.lend (hK25 _ _ ?_); clear hK25 K'
              refine FW.wcondF (b := ((((decide ((List.length v0 : Int) ≤ (IntKind.wrap .i64 (v5 + 3)))) || (!decide ((FW.bt v0 (IntKind.wrap .i64 (v5 + 1))) = 120))) || (decide (15 < t1))) || (decide (15 < t2)))) hk h rfl (fun h hb => ?_) (fun h hb => ?_)
              · skip
                refine FW.wreg ?_; intro K' hK26
                refine FW.lfun (y := .lit (.string (FW.B ([] : List UInt8)))) hk rfl rfl rfl rfl (FW.f_assign hk (FW.holds_nil _) rfl) ?_; clear hk; intro a w hk
                refine FW.lfun (y := .lit (.int .i64 0)) hk rfl rfl rfl rfl (FW.f_assign hk (FW.holds_nil _) rfl) ?_; clear hk; intro a w hk
                refine FW.lend (hK26 _ _ ?_); clear hK26 K'
                refine wp_ret ?_
                (repeat first | refine FW.then_ret ?_ | refine FW.block_ret ?_)
                obtain rfl := Option.some.inj h
                exact FW.fret2 hk rfl rfl rfl
              · skip
                refine wp_skip ?_
                (repeat first | refine FW.then_normal ?_ | refine FW.block_normal ?_); refine hK24 _ _ ?_
                obtain ⟨hc11, h⟩ := FW.chk h
                obtain ⟨t3, hr_t3, h⟩ := FW.bnd h
                obtain ⟨hc12, h⟩ := FW.chk h
                obtain ⟨t4, hr_t4, h⟩ := FW.bnd h
                obtain ⟨hc13, h⟩ := FW.chk h
                refine FW.wdrawE1 (need := [false, false, false, false, false, false, false, false, false, false, false, false, false, false, false, false, true, true, true, true]) [(14, [true, true, true, true, true, true, true, true, true, true, true, true, true, true, false, false, true, true, false, false], [true, true, true, true, true, true, true, true, true, true, true, true, true, true, false, false, true, true, false, false]), (15, [true, false, false, false, false, false, false, false, false, false, false, false, false, false, false, false, true, true, false, false], [true, true, true, true, true, true, true, true, true, true, true, true, true, true, true, false, true, true, false, false])] [(98, [], .lit (.slice ad1 (List.length l1) cap1)), (99, [], .lit (.string (FW.B v0))), (100, [], .lit (.int .i64 v5)), (101, [], .lit (.int .i64 (IntKind.wrap .i64 (v5 + 2)))), (102, [], .lit (.int .u8 (FW.bt v0 (IntKind.wrap .i64 (v5 + 2))))), (103, [], .lit (.int .i64 t3)), (104, [], .lit (.int .i64 (IntKind.wrap .i64 (16 * t3)))), (105, [], .lit (.string (FW.B v0))), (106, [], .lit (.int .i64 v5)), (107, [], .lit (.int .i64 (IntKind.wrap .i64 (v5 + 3)))), (108, [], .lit (.int .u8 (FW.bt v0 (IntKind.wrap .i64 (v5 + 3))))), (109, [], .lit (.int .i64 t4)), (110, [], .lit (.int .i64 (IntKind.wrap .i64 ((IntKind.wrap .i64 (16 * t3)) + t4)))), (111, [], .lit (.int .u8 (IntKind.wrap .u8 (IntKind.wrap .i64 ((IntKind.wrap .i64 (16 * t3)) + t4))))), (112, [], .agg []), (113, [], .agg []), (114, [], .lit (.int .i64 v5)), (115, [], .lit (.int .i64 (IntKind.wrap .i64 (v5 + 4)))), (4, [], .agg []), (5, [], .agg [])] (by kernel_rfl) (by kernel_rfl) (by kernel_rfl) (by kernel_rfl) hk ?_; clear hk
                refine FW.gnext ?_ rfl rfl rfl rfl rfl ?_
                · skip
                  refine FW.gfun (y := .lit (.slice ad1 (List.length l1) cap1)) rfl rfl rfl rfl (fun a w hk => FW.f_move hk (FW.holds_nil _) rfl) ?_
                  refine FW.gfun (y := .lit (.string (FW.B v0))) rfl rfl rfl rfl (fun a w hk => FW.f_move hk (FW.holds_nil _) rfl) ?_
                  refine FW.gfun (y := .lit (.int .i64 v5)) rfl rfl rfl rfl (fun a w hk => FW.f_move hk (FW.holds_nil _) rfl) ?_
                  refine FW.gfun (y := .lit (.int .i64 (IntKind.wrap .i64 (v5 + 2)))) rfl rfl rfl rfl (fun a w hk => (FW.f_pure (FW.p_add hk.kn (FW.holds_nil _) rfl rfl))) ?_
                  refine FW.gfun (y := .lit (.int .u8 (FW.bt v0 (IntKind.wrap .i64 (v5 + 2))))) rfl rfl rfl rfl (fun a w hk => (FW.f_pure (FW.p_index Go.Proofs.Try.underlying9 hk.kn (FW.holds_nil _) rfl rfl hc11))) ?_
                  refine FW.gfun (y := .lit (.int .i64 t3)) rfl rfl rfl rfl (fun a w hk => FW.f_call hk (FW.holds_nil _) rfl rfl Go.Proofs.Try.func45 rfl (by kernel_rfl) (offshootref11_digit.ok (FW.bt v0 (IntKind.wrap .i64 (v5 + 2))) _ hr_t3)) ?_
                  refine FW.gfun (y := .lit (.int .i64 (IntKind.wrap .i64 (16 * t3)))) rfl rfl rfl rfl (fun a w hk => (FW.f_pure (FW.p_mul hk.kn (FW.holds_nil _) rfl rfl))) ?_
                  refine FW.gfun (y := .lit (.string (FW.B v0))) rfl rfl rfl rfl (fun a w hk => FW.f_move hk (FW.holds_nil _) rfl) ?_
                  refine FW.gfun (y := .lit (.int .i64 v5)) rfl rfl rfl rfl (fun a w hk => FW.f_move hk (FW.holds_nil _) rfl) ?_
                  refine FW.gfun (y := .lit (.int .i64 (IntKind.wrap .i64 (v5 + 3)))) rfl rfl rfl rfl (fun a w hk => (FW.f_pure (FW.p_add hk.kn (FW.holds_nil _) rfl rfl))) ?_
                  refine FW.gfun (y := .lit (.int .u8 (FW.bt v0 (IntKind.wrap .i64 (v5 + 3))))) rfl rfl rfl rfl (fun a w hk => (FW.f_pure (FW.p_index Go.Proofs.Try.underlying9 hk.kn (FW.holds_nil _) rfl rfl hc12))) ?_
                  refine FW.gfun (y := .lit (.int .i64 t4)) rfl rfl rfl rfl (fun a w hk => FW.f_call hk (FW.holds_nil _) rfl rfl Go.Proofs.Try.func45 rfl (by kernel_rfl) (offshootref11_digit.ok (FW.bt v0 (IntKind.wrap .i64 (v5 + 3))) _ hr_t4)) ?_
                  refine FW.gfun (y := .lit (.int .i64 (IntKind.wrap .i64 ((IntKind.wrap .i64 (16 * t3)) + t4)))) rfl rfl rfl rfl (fun a w hk => (FW.f_pure (FW.p_add hk.kn (FW.holds_nil _) rfl rfl))) ?_
                  refine FW.gfun (y := .lit (.int .u8 (IntKind.wrap .u8 (IntKind.wrap .i64 ((IntKind.wrap .i64 (16 * t3)) + t4))))) rfl rfl rfl rfl (fun a w hk => (FW.f_pure (FW.p_conv Go.Proofs.Try.underlying3 Go.Proofs.Try.underlying5 hk.kn (FW.holds_nil _) rfl))) ?_
                  refine FW.gskip rfl rfl ?_
                  refine FW.gskip rfl rfl ?_
                  refine FW.gfun (y := .lit (.int .i64 v5)) rfl rfl rfl rfl (fun a w hk => FW.f_move hk (FW.holds_nil _) rfl) ?_
                  refine FW.gfun (y := .lit (.int .i64 (IntKind.wrap .i64 (v5 + 4)))) rfl rfl rfl rfl (fun a w hk => (FW.f_pure (FW.p_add hk.kn (FW.holds_nil _) rfl rfl))) ?_
                  refine FW.gskip rfl rfl ?_
                  refine FW.gskip rfl rfl ?_
                  exact FW.gend
                · skip
                  intro σD a w opsD QD hk hf hQ
                  refine FW.l_buildSlice (f := c_u8) (l := ([(IntKind.wrap .u8 (IntKind.wrap .i64 ((IntKind.wrap .i64 (16 * t3)) + t4)))] : List Int)) hk rfl hf rfl Go.Proofs.Try.underlying45 rfl rfl rfl rfl (fun _ => rfl) rfl ?_; clear hk; intro b4 a w hk
                  refine hQ _ _ a w ?_ hk; clear hk hQ hf
                  refine ⟨[(98, [], .lit (.slice ad1 (List.length l1) cap1)), (99, [], .lit (.string (FW.B v0))), (100, [], .lit (.int .i64 v5)), (101, [], .lit (.int .i64 (IntKind.wrap .i64 (v5 + 2)))), (102, [], .lit (.int .u8 (FW.bt v0 (IntKind.wrap .i64 (v5 + 2))))), (103, [], .lit (.int .i64 t3)), (104, [], .lit (.int .i64 (IntKind.wrap .i64 (16 * t3)))), (105, [], .lit (.string (FW.B v0))), (106, [], .lit (.int .i64 v5)), (107, [], .lit (.int .i64 (IntKind.wrap .i64 (v5 + 3)))), (108, [], .lit (.int .u8 (FW.bt v0 (IntKind.wrap .i64 (v5 + 3))))), (109, [], .lit (.int .i64 t4)), (110, [], .lit (.int .i64 (IntKind.wrap .i64 ((IntKind.wrap .i64 (16 * t3)) + t4)))), (111, [], .lit (.int .u8 (IntKind.wrap .u8 (IntKind.wrap .i64 ((IntKind.wrap .i64 (16 * t3)) + t4))))), (112, [], .lit (.slice (some ⟨b4, 0, none⟩) (List.length ([(IntKind.wrap .u8 (IntKind.wrap .i64 ((IntKind.wrap .i64 (16 * t3)) + t4)))] : List Int)) 1)), (113, [], .agg []), (114, [], .lit (.int .i64 v5)), (115, [], .lit (.int .i64 (IntKind.wrap .i64 (v5 + 4)))), (4, [], .agg []), (5, [], .agg [])], And.intro rfl (And.intro rfl (And.intro rfl (And.intro rfl (And.intro rfl (And.intro rfl (And.intro rfl (And.intro rfl (And.intro rfl (And.intro rfl (And.intro rfl (And.intro rfl (And.intro rfl (And.intro rfl (And.intro rfl (And.intro rfl (trivial)))))))))))))))), rfl, ?_⟩
                  refine FW.gnext ?_ rfl rfl rfl rfl rfl ?_
                  · skip
                    refine FW.gfun (y := .lit (.slice ad1 (List.length l1) cap1)) rfl rfl rfl rfl (fun a w hk => FW.f_move hk (FW.holds_nil _) rfl) ?_
                    refine FW.gskip rfl rfl ?_
                    refine FW.gskip rfl rfl ?_
                    refine FW.gskip rfl rfl ?_
                    refine FW.gskip rfl rfl ?_
                    refine FW.gskip rfl rfl ?_
                    refine FW.gskip rfl rfl ?_
                    refine FW.gskip rfl rfl ?_
                    refine FW.gskip rfl rfl ?_
                    refine FW.gskip rfl rfl ?_
                    refine FW.gskip rfl rfl ?_
                    refine FW.gskip rfl rfl ?_
                    refine FW.gskip rfl rfl ?_
                    refine FW.gskip rfl rfl ?_
                    refine FW.gskip rfl rfl ?_
                    refine FW.gskip rfl rfl ?_
                    refine FW.gfun (y := .lit (.int .i64 v5)) rfl rfl rfl rfl (fun a w hk => FW.f_move hk (FW.holds_nil _) rfl) ?_
                    refine FW.gfun (y := .lit (.int .i64 (IntKind.wrap .i64 (v5 + 4)))) rfl rfl rfl rfl (fun a w hk => (FW.f_pure (FW.p_add hk.kn (FW.holds_nil _) rfl rfl))) ?_
                    refine FW.gskip rfl rfl ?_
                    refine FW.gskip rfl rfl ?_
                    exact FW.gend
                  · skip
                    intro σD a w opsD QD hk hf hQ
                    refine FW.l_append (l2 := ([(IntKind.wrap .u8 (IntKind.wrap .i64 ((IntKind.wrap .i64 (16 * t3)) + t4)))] : List Int)) (l3 := (l1 ++ ([(IntKind.wrap .u8 (IntKind.wrap .i64 ((IntKind.wrap .i64 (16 * t3)) + t4)))] : List Int))) (I' := fun ad3 cap3 => [FW.orow (some ⟨b4, 0, none⟩) 1 5 1 c_u8 ([(IntKind.wrap .u8 (IntKind.wrap .i64 ((IntKind.wrap .i64 (16 * t3)) + t4)))] : List Int), FW.orow ad3 cap3 5 1 c_u8 (l1 ++ ([(IntKind.wrap .u8 (IntKind.wrap .i64 ((IntKind.wrap .i64 (16 * t3)) + t4)))] : List Int))]) (j := 1) hk rfl rfl hf rfl (FW.own_src hk (j := 0) rfl rfl (fun _ => rfl) Go.Proofs.Try.underlying45) Go.Proofs.Try.underlying45 (by kernel_rfl) hc13 rfl (fun _ _ => rfl) ?_; clear hk; intro ad3 cap3 a w hk
                    replace hk := FW.S.dropI (I' := [FW.orow ad3 cap3 5 1 c_u8 (l1 ++ ([(IntKind.wrap .u8 (IntKind.wrap .i64 ((IntKind.wrap .i64 (16 * t3)) + t4)))] : List Int))]) hk 0 rfl
                    refine hQ _ _ a w ?_ hk; clear hk hQ hf
                    refine ⟨[(98, [], .lit (.slice ad1 (List.length l1) cap1)), (99, [], .lit (.string (FW.B v0))), (100, [], .lit (.int .i64 v5)), (101, [], .lit (.int .i64 (IntKind.wrap .i64 (v5 + 2)))), (102, [], .lit (.int .u8 (FW.bt v0 (IntKind.wrap .i64 (v5 + 2))))), (103, [], .lit (.int .i64 t3)), (104, [], .lit (.int .i64 (IntKind.wrap .i64 (16 * t3)))), (105, [], .lit (.string (FW.B v0))), (106, [], .lit (.int .i64 v5)), (107, [], .lit (.int .i64 (IntKind.wrap .i64 (v5 + 3)))), (108, [], .lit (.int .u8 (FW.bt v0 (IntKind.wrap .i64 (v5 + 3))))), (109, [], .lit (.int .i64 t4)), (110, [], .lit (.int .i64 (IntKind.wrap .i64 ((IntKind.wrap .i64 (16 * t3)) + t4)))), (111, [], .lit (.int .u8 (IntKind.wrap .u8 (IntKind.wrap .i64 ((IntKind.wrap .i64 (16 * t3)) + t4))))), (112, [], .lit (.slice (some ⟨b4, 0, none⟩) (List.length ([(IntKind.wrap .u8 (IntKind.wrap .i64 ((IntKind.wrap .i64 (16 * t3)) + t4)))] : List Int)) 1)), (113, [], .lit (.slice ad3 (List.length (l1 ++ ([(IntKind.wrap .u8 (IntKind.wrap .i64 ((IntKind.wrap .i64 (16 * t3)) + t4)))] : List Int))) cap3)), (114, [], .lit (.int .i64 v5)), (115, [], .lit (.int .i64 (IntKind.wrap .i64 (v5 + 4)))), (4, [], .lit (.slice ad3 (List.length (l1 ++ ([(IntKind.wrap .u8 (IntKind.wrap .i64 ((IntKind.wrap .i64 (16 * t3)) + t4)))] : List Int))) cap3)), (5, [], .lit (.int .i64 (IntKind.wrap .i64 (v5 + 4))))], And.intro rfl (And.intro rfl (And.intro rfl (And.intro rfl (And.intro rfl (And.intro rfl (And.intro rfl (And.intro rfl (And.intro rfl (And.intro rfl (And.intro rfl (And.intro rfl (And.intro rfl (And.intro rfl (And.intro rfl (And.intro rfl (And.intro rfl (trivial))))))))))))))))), rfl, ?_⟩
                    refine FW.glast ?_ ?_
                    · skip
                      refine FW.gskip rfl rfl ?_
                      refine FW.gskip rfl rfl ?_
                      refine FW.gskip rfl rfl ?_
                      refine FW.gskip rfl rfl ?_
                      refine FW.gskip rfl rfl ?_
                      refine FW.gskip rfl rfl ?_
                      refine FW.gskip rfl rfl ?_
                      refine FW.gskip rfl rfl ?_
                      refine FW.gskip rfl rfl ?_
                      refine FW.gskip rfl rfl ?_
                      refine FW.gskip rfl rfl ?_
                      refine FW.gskip rfl rfl ?_
                      refine FW.gskip rfl rfl ?_
                      refine FW.gskip rfl rfl ?_
                      refine FW.gskip rfl rfl ?_
                      refine FW.gskip rfl rfl ?_
                      refine FW.gfun (y := .lit (.int .i64 v5)) rfl rfl rfl rfl (fun a w hk => FW.f_move hk (FW.holds_nil _) rfl) ?_
                      refine FW.gfun (y := .lit (.int .i64 (IntKind.wrap .i64 (v5 + 4)))) rfl rfl rfl rfl (fun a w hk => (FW.f_pure (FW.p_add hk.kn (FW.holds_nil _) rfl rfl))) ?_
                      refine FW.gfun (y := .lit (.slice ad3 (List.length (l1 ++ ([(IntKind.wrap .u8 (IntKind.wrap .i64 ((IntKind.wrap .i64 (16 * t3)) + t4)))] : List Int))) cap3)) rfl rfl rfl rfl (fun a w hk => FW.f_assign hk (FW.holds_nil _) rfl) ?_
                      refine FW.gfun (y := .lit (.int .i64 (IntKind.wrap .i64 (v5 + 4)))) rfl rfl rfl rfl (fun a w hk => FW.f_assign hk (FW.holds_nil _) rfl) ?_
                      exact FW.gend
                    · skip
                      intro a w hk; simp only [FW.stD, cond_true] at hk
                      (repeat first | refine FW.then_normal ?_ | refine FW.block_normal ?_); exact hK8 (kl1, (l1 ++ ([(IntKind.wrap .u8 (IntKind.wrap .i64 ((IntKind.wrap .i64 (16 * t3)) + t4)))] : List Int)), v0, (IntKind.wrap .i64 (v5 + 4)), ad3, cap3) _ _ (Nat.lt_succ_self _) ⟨hk.sub ⟨rfl, rfl, rfl, trivial⟩, h⟩
    · skip
      refine wp_exit ?_; (repeat first | refine FW.then_exit ?_ | refine FW.block_exit_ne rfl ?_); refine FW.block_exit ?_
      (repeat first | refine FW.then_normal ?_ | refine FW.block_normal ?_); refine hK6 _ _ ?_
      refine FW.wreg ?_; intro K' hK28
      refine FW.lfun (y := .lit (.string (FW.B ([] : List UInt8)))) hk rfl rfl rfl rfl (FW.f_assign hk (FW.holds_nil _) rfl) ?_; clear hk; intro a w hk
      refine FW.lfun (y := .lit (.int .i64 0)) hk rfl rfl rfl rfl (FW.f_assign hk (FW.holds_nil _) rfl) ?_; clear hk; intro a w hk
      refine FW.lend (hK28 _ _ ?_); clear hK28 K'
      refine wp_ret ?_
      (repeat first | refine FW.then_ret ?_ | refine FW.block_ret ?_)
      obtain rfl := Option.some.inj h
      exact FW.fret2 hk rfl rfl rfl

theorem offshootref01_Canon.ok  (v0 : Nat) (r : Int) (h : offshootref01_Canon.f v0 = some r) :
    FW.Ok Go.Proofs.Try.prog 26 [.lit (.float .f64 v0)] (.lit (.int .u64 r)) := by
  refine FW.enter (xs := [.lit (.float .f64 v0)]) Go.Proofs.Try.func26 rfl Go.Proofs.Try.ntmps26 rfl ?_
  intro M w0 a hk
  unfold offshootref01_Canon.f at h
  refine FW.wreg ?_; intro K' hK1
  refine FW.lfun (y := .lit (.int .u64 0)) hk rfl rfl rfl rfl (FW.f_assign hk (FW.holds_nil _) rfl) ?_; clear hk; intro a w hk
  refine FW.lend (hK1 _ _ ?_); clear hK1 K'
  refine FW.wseq ?_; intro K' hK2
  refine FW.wreg ?_; intro K' hK3
  refine FW.lfun (y := .lit (.float .f64 v0)) hk rfl rfl rfl rfl (FW.f_move hk (FW.holds_nil _) rfl) ?_; clear hk; intro a w hk
  refine FW.lfun (y := .lit (.float .f64 v0)) hk rfl rfl rfl rfl (FW.f_move hk (FW.holds_nil _) rfl) ?_; clear hk; intro a w hk
  refine FW.lfun (y := .lit (.bool (FW.fneq v0 v0))) hk rfl rfl rfl rfl ((FW.f_pure (FW.p_fneq hk.kn (FW.holds_nil _) rfl rfl))) ?_; clear hk; intro a w hk
  refine FW.lend (hK3 _ _ ?_); clear hK3 K'
  refine FW.wcondF (b := (FW.fneq v0 v0)) hk h rfl (fun h hb => ?_) (fun h hb => ?_)
  · skip
    refine FW.wreg ?_; intro K' hK4
    refine FW.lfun (y := .lit (.int .u64 9221120237041090561)) hk rfl rfl rfl rfl (FW.f_assign hk (FW.holds_nil _) rfl) ?_; clear hk; intro a w hk
    refine FW.lend (hK4 _ _ ?_); clear hK4 K'
    refine wp_ret ?_
    (repeat first | refine FW.then_ret ?_ | refine FW.block_ret ?_)
    obtain rfl := Option.some.inj h
    exact FW.fret1 hk rfl rfl
  · skip
    refine wp_skip ?_
    (repeat first | refine FW.then_normal ?_ | refine FW.block_normal ?_); refine hK2 _ _ ?_
    refine FW.wreg ?_; intro K' hK5
    refine FW.lfun (y := .lit (.float .f64 v0)) hk rfl rfl rfl rfl (FW.f_move hk (FW.holds_nil _) rfl) ?_; clear hk; intro a w hk
    refine FW.lfun (y := .lit (.int .u64 ((v0 : Nat) : Int))) hk rfl rfl rfl rfl (FW.f_bits hk (FW.holds_nil _) rfl rfl Go.Proofs.Try.func25 (by kernel_rfl) (by kernel_rfl) (by kernel_rfl) (by kernel_rfl)) ?_; clear hk; intro a w hk
    refine FW.lfun (y := .lit (.int .u64 ((v0 : Nat) : Int))) hk rfl rfl rfl rfl (FW.f_assign hk (FW.holds_nil _) rfl) ?_; clear hk; intro a w hk
    refine FW.lend (hK5 _ _ ?_); clear hK5 K'
    refine wp_ret ?_
    (repeat first | refine FW.then_ret ?_ | refine FW.block_ret ?_)
    obtain rfl := Option.some.inj h
    exact FW.fret1 hk rfl rfl

theorem offshootref11_Int.ok (K : Nat) (v0 : List UInt8) (r : Int × Bool) (h : offshootref11_Int.f K v0 = some r) :
    FW.Ok Go.Proofs.Try.prog 18 [.lit (.string (FW.B v0))] (.tup [.lit (.int .i64 r.1), .lit (.bool r.2)]) := by
  refine FW.enter (xs := [.lit (.string (FW.B v0))]) Go.Proofs.Try.func18 rfl Go.Proofs.Try.ntmps18 rfl ?_
  intro M w0 a hk
  unfold offshootref11_Int.f at h
  refine FW.wreg ?_; intro K' hK1
  refine FW.lfun (y := .lit (.int .i64 0)) hk rfl rfl rfl rfl (FW.f_assign hk (FW.holds_nil _) rfl) ?_; clear hk; intro a w hk
  refine FW.lfun (y := .lit (.bool false)) hk rfl rfl rfl rfl (FW.f_assign hk (FW.holds_nil _) rfl) ?_; clear hk; intro a w hk
  refine FW.lend (hK1 _ _ ?_); clear hK1 K'
  refine FW.wreg ?_; intro K' hK2
  refine FW.lfun (y := .lit (.string (FW.B v0))) hk rfl rfl rfl rfl (FW.f_move hk (FW.holds_nil _) rfl) ?_; clear hk; intro a w hk
  refine FW.lfun (y := .lit (.bool (!decide (v0 = ([] : List UInt8))))) hk rfl rfl rfl rfl ((FW.f_pure (FW.p_sneq hk.kn (FW.holds_nil _) rfl rfl))) ?_; clear hk; intro a w hk
  refine FW.lfun (y := .lit (.bool (!decide (v0 = ([] : List UInt8))))) hk rfl rfl rfl rfl (FW.f_move hk (FW.holds_nil _) rfl) ?_; clear hk; intro a w hk
  refine FW.lfunG (y := .lit (.string (FW.B v0))) hk rfl rfl rfl rfl rfl rfl rfl rfl (fun hc => FW.f_move hk hc rfl) ?_; clear hk; intro a w hk
  obtain ⟨hc1, h⟩ := FW.chk h
  refine FW.lfunG (y := .lit (.int .u8 (FW.bt v0 0))) hk rfl rfl rfl rfl rfl rfl rfl rfl (fun hc => (FW.f_pure (FW.p_index Go.Proofs.Try.underlying9 hk.kn hc rfl rfl hc1))) ?_; clear hk; intro a w hk
  refine FW.lfunG (y := .lit (.bool (decide ((FW.bt v0 0) = 45)))) hk rfl rfl rfl rfl rfl rfl rfl rfl (fun hc => (FW.f_pure (FW.p_eql hk.kn hc rfl rfl))) ?_; clear hk; intro a w hk
  refine FW.lfun (y := .lit (.bool ((!decide (v0 = ([] : List UInt8))) && (decide ((FW.bt v0 0) = 45))))) hk rfl rfl rfl rfl ((FW.f_pure (FW.p_pick_and hk.kn (FW.holds_nil _) rfl rfl))) ?_; clear hk; intro a w hk
  refine FW.lfun (y := .lit (.bool ((!decide (v0 = ([] : List UInt8))) && (decide ((FW.bt v0 0) = 45))))) hk rfl rfl rfl rfl (FW.f_assign hk (FW.holds_nil _) rfl) ?_; clear hk; intro a w hk
  refine FW.lend (hK2 _ _ ?_); clear hK2 K'
  refine FW.wreg ?_; intro K' hK3
  refine FW.lfun (y := .lit (.string (FW.B v0))) hk rfl rfl rfl rfl (FW.f_move hk (FW.holds_nil _) rfl) ?_; clear hk; intro a w hk
  refine FW.lfun (y := .lit (.string (FW.B v0))) hk rfl rfl rfl rfl (FW.f_assign hk (FW.holds_nil _) rfl) ?_; clear hk; intro a w hk
  refine FW.lend (hK3 _ _ ?_); clear hK3 K'
  refine FW.wseqJ (fun a w => ∃ (v4 : Bool) (v5 : List UInt8), FW.S M w0 a w 79 [] [(4, [], .lit (.bool v4)), (5, [], .lit (.string (FW.B v5)))] ∧ offshootref11_Int.j1 K v4 v5 = some r) ?_ ?_
  · clear hk h
    rintro a w ⟨v4, v5, hk, h⟩
    unfold offshootref11_Int.j1 at h
    refine FW.wseq ?_; intro K' hK5
    refine FW.wreg ?_; intro K' hK6
    refine FW.lfun (y := .lit (.string (FW.B v5))) hk rfl rfl rfl rfl (FW.f_move hk (FW.holds_nil _) rfl) ?_; clear hk; intro a w hk
    refine FW.lfun (y := .lit (.bool (decide (v5 = ([] : List UInt8))))) hk rfl rfl rfl rfl ((FW.f_pure (FW.p_seql hk.kn (FW.holds_nil _) rfl rfl))) ?_; clear hk; intro a w hk
    refine FW.lfun (y := .lit (.bool (decide (v5 = ([] : List UInt8))))) hk rfl rfl rfl rfl (FW.f_move hk (FW.holds_nil _) rfl) ?_; clear hk; intro a w hk
    refine FW.lfunG (y := .lit (.string (FW.B v5))) hk rfl rfl rfl rfl rfl rfl rfl rfl (fun hc => FW.f_move hk hc rfl) ?_; clear hk; intro a w hk
    refine FW.lfunG (y := .lit (.int .i64 (List.length v5 : Int))) hk rfl rfl rfl rfl rfl rfl rfl rfl (fun hc => (FW.f_pure (FW.p_slen Go.Proofs.Try.underlying9 hk.kn hc rfl))) ?_; clear hk; intro a w hk
    refine FW.lfunG (y := .lit (.bool (decide (19 < (List.length v5 : Int))))) hk rfl rfl rfl rfl rfl rfl rfl rfl (fun hc => (FW.f_pure (FW.p_gtr hk.kn hc rfl rfl))) ?_; clear hk; intro a w hk
    refine FW.lfun (y := .lit (.bool ((decide (v5 = ([] : List UInt8))) || (decide (19 < (List.length v5 : Int)))))) hk rfl rfl rfl rfl ((FW.f_pure (FW.p_pick_or hk.kn (FW.holds_nil _) rfl rfl))) ?_; clear hk; intro a w hk
    refine FW.lfun (y := .lit (.bool ((decide (v5 = ([] : List UInt8))) || (decide (19 < (List.length v5 : Int)))))) hk rfl rfl rfl rfl (FW.f_move hk (FW.holds_nil _) rfl) ?_; clear hk; intro a w hk
    refine FW.lfunG (y := .lit (.string (FW.B v5))) hk rfl rfl rfl rfl rfl rfl rfl rfl (fun hc => FW.f_move hk hc rfl) ?_; clear hk; intro a w hk
    obtain ⟨hc2, h⟩ := FW.chk h
    refine FW.lfunG (y := .lit (.int .u8 (FW.bt v5 0))) hk rfl rfl rfl rfl rfl rfl rfl rfl (fun hc => (FW.f_pure (FW.p_index Go.Proofs.Try.underlying9 hk.kn hc rfl rfl hc2))) ?_; clear hk; intro a w hk
    refine FW.lfunG (y := .lit (.bool (decide ((FW.bt v5 0) = 48)))) hk rfl rfl rfl rfl rfl rfl rfl rfl (fun hc => (FW.f_pure (FW.p_eql hk.kn hc rfl rfl))) ?_; clear hk; intro a w hk
    refine FW.lfunG (y := .lit (.bool (decide ((FW.bt v5 0) = 48)))) hk rfl rfl rfl rfl rfl rfl rfl rfl (fun hc => FW.f_move hk hc rfl) ?_; clear hk; intro a w hk
    refine FW.lfunG (y := .lit (.string (FW.B v5))) hk rfl rfl rfl rfl rfl rfl rfl rfl (fun hc => FW.f_move hk hc rfl) ?_; clear hk; intro a w hk
    refine FW.lfunG (y := .lit (.int .i64 (List.length v5 : Int))) hk rfl rfl rfl rfl rfl rfl rfl rfl (fun hc => (FW.f_pure (FW.p_slen Go.Proofs.Try.underlying9 hk.kn hc rfl))) ?_; clear hk; intro a w hk
    refine FW.lfunG (y := .lit (.bool (decide (1 < (List.length v5 : Int))))) hk rfl rfl rfl rfl rfl rfl rfl rfl (fun hc => (FW.f_pure (FW.p_gtr hk.kn hc rfl rfl))) ?_; clear hk; intro a w hk
    refine FW.lfunG (y := .lit (.bool (decide (1 < (List.length v5 : Int))))) hk rfl rfl rfl rfl rfl rfl rfl rfl (fun hc => FW.f_move hk hc rfl) ?_; clear hk; intro a w hk
    refine FW.lfunG (y := .lit (.bool v4)) hk rfl rfl rfl rfl rfl rfl rfl rfl (fun hc => FW.f_move hk hc rfl) ?_; clear hk; intro a w hk
    refine FW.lfunG (y := .lit (.bool ((decide (1 < (List.length v5 : Int))) || v4))) hk rfl rfl rfl rfl rfl rfl rfl rfl (fun hc => (FW.f_pure (FW.p_pick_or hk.kn hc rfl rfl))) ?_; clear hk; intro a w hk
    refine FW.lfunG (y := .lit (.bool ((decide ((FW.bt v5 0) = 48)) && ((decide (1 < (List.length v5 : Int))) || v4)))) hk rfl rfl rfl rfl rfl rfl rfl rfl (fun hc => (FW.f_pure (FW.p_pick_and hk.kn hc rfl rfl))) ?_; clear hk; intro a w hk
    refine FW.lfun (y := .lit (.bool (((decide (v5 = ([] : List UInt8))) || (decide (19 < (List.length v5 : Int)))) || ((decide ((FW.bt v5 0) = 48)) && ((decide (1 < (List.length v5 : Int))) || v4))))) hk rfl rfl rfl rfl ((FW.f_pure (FW.p_pick_or hk.kn (FW.holds_nil _) rfl rfl))) ?_; clear hk; intro a w hk
    refine FW.lend (hK6 _ _ ?_); clear hK6 K'
    refine FW.wcondF (b := (((decide (v5 = ([] : List UInt8))) || (decide (19 < (List.length v5 : Int)))) || ((decide ((FW.bt v5 0) = 48)) && ((decide (1 < (List.length v5 : Int))) || v4)))) hk h rfl (fun h hb => ?_) (fun h hb => ?_)
    · skip
      refine FW.wreg ?_; intro K' hK7
      refine FW.lfun (y := .lit (.int .i64 0)) hk rfl rfl rfl rfl (FW.f_assign hk (FW.holds_nil _) rfl) ?_; clear hk; intro a w hk
      refine FW.lfun (y := .lit (.bool false)) hk rfl rfl rfl rfl (FW.f_assign hk (FW.holds_nil _) rfl) ?_; clear hk; intro a w hk
      refine FW.lend (hK7 _ _ ?_); clear hK7 K'
      refine wp_ret ?_
      (repeat first | refine FW.then_ret ?_ | refine FW.block_ret ?_)
      obtain rfl := Option.some.inj h
      exact FW.fret2 hk rfl rfl rfl
    · skip
      refine wp_skip ?_
      (repeat first | refine FW.then_normal ?_ | refine FW.block_normal ?_); refine hK5 _ _ ?_
      refine FW.wreg ?_; intro K' hK8
      refine FW.lfun (y := .lit (.int .u64 0)) hk rfl rfl rfl rfl (FW.f_assign hk (FW.holds_nil _) rfl) ?_; clear hk; intro a w hk
      refine FW.lend (hK8 _ _ ?_); clear hK8 K'
      refine FW.wseq ?_; intro K' hK9
      refine FW.wreg ?_; intro K' hK10
      refine FW.lfun (y := .lit (.int .i64 0)) hk rfl rfl rfl rfl (FW.f_assign hk (FW.holds_nil _) rfl) ?_; clear hk; intro a w hk
      refine FW.lend (hK10 _ _ ?_); clear hK10 K'
      refine wp_block ?_
      refine FW.wloop (T := Nat × Bool × List UInt8 × Int × Int) (fun x a w => match x with | (kl1, v4, v5, v6, v7) => FW.S M w0 a w 79 [] [(4, [], .lit (.bool v4)), (5, [], .lit (.string (FW.B v5))), (6, [], .lit (.int .u64 v6)), (7, [], .lit (.int .i64 v7))] ∧ offshootref11_Int.l1 K kl1 v4 v5 v6 v7 = some r) (fun x => x.1) (K, v4, v5, 0, 0) ⟨hk.sub ⟨rfl, rfl, rfl, rfl, trivial⟩, h⟩ ?_
      clear hk h
      rintro ⟨kl1, v4, v5, v6, v7⟩ a w ⟨hk, h⟩ K' hK11
      cases kl1 with
      | zero => simp [offshootref11_Int.l1] at h
      | succ kl1 =>
      rw [offshootref11_Int.l1.eq_2] at h
      refine FW.wseq ?_; intro K' hK12
      refine FW.wreg ?_; intro K' hK13
      refine FW.lfun (y := .lit (.int .i64 v7)) hk rfl rfl rfl rfl (FW.f_move hk (FW.holds_nil _) rfl) ?_; clear hk; intro a w hk
      refine FW.lfun (y := .lit (.string (FW.B v5))) hk rfl rfl rfl rfl (FW.f_move hk (FW.holds_nil _) rfl) ?_; clear hk; intro a w hk
      refine FW.lfun (y := .lit (.int .i64 (List.length v5 : Int))) hk rfl rfl rfl rfl ((FW.f_pure (FW.p_slen Go.Proofs.Try.underlying9 hk.kn (FW.holds_nil _) rfl))) ?_; clear hk; intro a w hk
      refine FW.lfun (y := .lit (.bool (decide (v7 < (List.length v5 : Int))))) hk rfl rfl rfl rfl ((FW.f_pure (FW.p_lss hk.kn (FW.holds_nil _) rfl rfl))) ?_; clear hk; intro a w hk
      refine FW.lend (hK13 _ _ ?_); clear hK13 K'
      refine FW.wcondF (b := (decide (v7 < (List.length v5 : Int)))) hk h rfl (fun h hb => ?_) (fun h hb => ?_)
      · skip
        refine wp_skip ?_
        (repeat first | refine FW.then_normal ?_ | refine FW.block_normal ?_); refine hK12 _ _ ?_
        refine FW.wseq ?_; intro K' hK14
        refine wp_block ?_
        refine FW.wseq ?_; intro K' hK15
        refine FW.wreg ?_; intro K' hK16
        refine FW.lfun (y := .lit (.string (FW.B v5))) hk rfl rfl rfl rfl (FW.f_move hk (FW.holds_nil _) rfl) ?_; clear hk; intro a w hk
        refine FW.lfun (y := .lit (.int .i64 v7)) hk rfl rfl rfl rfl (FW.f_move hk (FW.holds_nil _) rfl) ?_; clear hk; intro a w hk
        obtain ⟨hc3, h⟩ := FW.chk h
        refine FW.lfun (y := .lit (.int .u8 (FW.bt v5 v7))) hk rfl rfl rfl rfl ((FW.f_pure (FW.p_index Go.Proofs.Try.underlying9 hk.kn (FW.holds_nil _) rfl rfl hc3))) ?_; clear hk; intro a w hk
        refine FW.lfun (y := .lit (.bool (decide ((FW.bt v5 v7) < 48)))) hk rfl rfl rfl rfl ((FW.f_pure (FW.p_lss hk.kn (FW.holds_nil _) rfl rfl))) ?_; clear hk; intro a w hk
        refine FW.lfun (y := .lit (.bool (decide ((FW.bt v5 v7) < 48)))) hk rfl rfl rfl rfl (FW.f_move hk (FW.holds_nil _) rfl) ?_; clear hk; intro a w hk
        refine FW.lfunG (y := .lit (.string (FW.B v5))) hk rfl rfl rfl rfl rfl rfl rfl rfl (fun hc => FW.f_move hk hc rfl) ?_; clear hk; intro a w hk
        refine FW.lfunG (y := .lit (.int .i64 v7)) hk rfl rfl rfl rfl rfl rfl rfl rfl (fun hc => FW.f_move hk hc rfl) ?_; clear hk; intro a w hk
        obtain ⟨hc4, h⟩ := FW.chk h
        refine FW.lfunG (y := .lit (.int .u8 (FW.bt v5 v7))) hk rfl rfl rfl rfl rfl rfl rfl rfl (fun hc => (FW.f_pure (FW.p_index Go.Proofs.Try.underlying9 hk.kn hc rfl rfl hc4))) ?_; clear hk; intro a w hk
        refine FW.lfunG (y := .lit (.bool (decide (57 < (FW.bt v5 v7))))) hk rfl rfl rfl rfl rfl rfl rfl rfl (fun hc => (FW.f_pure (FW.p_gtr hk.kn hc rfl rfl))) ?_; clear hk; intro a w hk
        refine FW.lfun (y := .lit (.bool ((decide ((FW.bt v5 v7) < 48)) || (decide (57 < (FW.bt v5 v7)))))) hk rfl rfl rfl rfl ((FW.f_pure (FW.p_pick_or hk.kn (FW.holds_nil _) rfl rfl))) ?_; clear hk; intro a w hk
        refine FW.lend (hK16 _ _ ?_); clear hK16 K'
        refine FW.wcondF (b := ((decide ((FW.bt v5 v7) < 48)) || (decide (57 < (FW.bt v5 v7))))) hk h rfl (fun h hb => ?_) (fun h hb => ?_)
        · skip
          refine FW.wreg ?_; intro K' hK17
          refine FW.lfun (y := .lit (.int .i64 0)) hk rfl rfl rfl rfl (FW.f_assign hk (FW.holds_nil _) rfl) ?_; clear hk; intro a w hk
          refine FW.lfun (y := .lit (.bool false)) hk rfl rfl rfl rfl (FW.f_assign hk (FW.holds_nil _) rfl) ?_; clear hk; intro a w hk
          refine FW.lend (hK17 _ _ ?_); clear hK17 K'
          refine wp_ret ?_
          (repeat first | refine FW.then_ret ?_ | refine FW.block_ret ?_)
          obtain rfl := Option.some.inj h
          exact FW.fret2 hk rfl rfl rfl
        · skip
          refine wp_skip ?_
          (repeat first | refine FW.then_normal ?_ | refine FW.block_normal ?_); refine hK15 _ _ ?_
          refine FW.wreg1 ?_
          refine FW.lfun (y := .lit (.int .u64 v6)) hk rfl rfl rfl rfl (FW.f_move hk (FW.holds_nil _) rfl) ?_; clear hk; intro a w hk
          refine FW.lfun (y := .lit (.int .u64 (IntKind.wrap .u64 (v6 * 10)))) hk rfl rfl rfl rfl ((FW.f_pure (FW.p_mul hk.kn (FW.holds_nil _) rfl rfl))) ?_; clear hk; intro a w hk
          refine FW.lfun (y := .lit (.string (FW.B v5))) hk rfl rfl rfl rfl (FW.f_move hk (FW.holds_nil _) rfl) ?_; clear hk; intro a w hk
          refine FW.lfun (y := .lit (.int .i64 v7)) hk rfl rfl rfl rfl (FW.f_move hk (FW.holds_nil _) rfl) ?_; clear hk; intro a w hk
          obtain ⟨hc5, h⟩ := FW.chk h
          refine FW.lfun (y := .lit (.int .u8 (FW.bt v5 v7))) hk rfl rfl rfl rfl ((FW.f_pure (FW.p_index Go.Proofs.Try.underlying9 hk.kn (FW.holds_nil _) rfl rfl hc5))) ?_; clear hk; intro a w hk
          refine FW.lfun (y := .lit (.int .u64 (IntKind.wrap .u64 (FW.bt v5 v7)))) hk rfl rfl rfl rfl ((FW.f_pure (FW.p_conv Go.Proofs.Try.underlying5 Go.Proofs.Try.underlying58 hk.kn (FW.holds_nil _) rfl))) ?_; clear hk; intro a w hk
          refine FW.lfun (y := .lit (.int .u64 (IntKind.wrap .u64 ((IntKind.wrap .u64 (v6 * 10)) + (IntKind.wrap .u64 (FW.bt v5 v7)))))) hk rfl rfl rfl rfl ((FW.f_pure (FW.p_add hk.kn (FW.holds_nil _) rfl rfl))) ?_; clear hk; intro a w hk
          refine FW.lfun (y := .lit (.int .u64 (IntKind.wrap .u64 ((IntKind.wrap .u64 ((IntKind.wrap .u64 (v6 * 10)) + (IntKind.wrap .u64 (FW.bt v5 v7)))) - 48)))) hk rfl rfl rfl rfl ((FW.f_pure (FW.p_sub hk.kn (FW.holds_nil _) rfl rfl))) ?_; clear hk; intro a w hk
          refine FW.lfun (y := .lit (.int .u64 (IntKind.wrap .u64 ((IntKind.wrap .u64 ((IntKind.wrap .u64 (v6 * 10)) + (IntKind.wrap .u64 (FW.bt v5 v7)))) - 48)))) hk rfl rfl rfl rfl (FW.f_assign hk (FW.holds_nil _) rfl) ?_; clear hk; intro a w hk
          refine wpList_nil ?_
          (repeat first | refine FW.then_normal ?_ | refine FW.block_normal ?_); refine hK14 _ _ ?_
          refine FW.wreg1 ?_
          refine FW.lfun (y := .lit (.int .i64 v7)) hk rfl rfl rfl rfl (FW.f_move hk (FW.holds_nil _) rfl) ?_; clear hk; intro a w hk
          refine FW.lfun (y := .lit (.int .i64 (IntKind.wrap .i64 (v7 + 1)))) hk rfl rfl rfl rfl ((FW.f_pure (FW.p_add hk.kn (FW.holds_nil _) rfl rfl))) ?_; clear hk; intro a w hk
          refine FW.lfun (y := .lit (.int .i64 (IntKind.wrap .i64 (v7 + 1)))) hk rfl rfl rfl rfl (FW.f_assign hk (FW.holds_nil _) rfl) ?_; clear hk; intro a w hk
          refine wpList_nil ?_
          (repeat first | refine FW.then_normal ?_ | refine FW.block_normal ?_); exact hK11 (kl1, v4, v5, (IntKind.wrap .u64 ((IntKind.wrap .u64 ((IntKind.wrap .u64 (v6 * 10)) + (IntKind.wrap .u64 (FW.bt v5 v7)))) - 48)), (IntKind.wrap .i64 (v7 + 1))) _ _ (Nat.lt_succ_self _) ⟨hk.sub ⟨rfl, rfl, rfl, rfl, trivial⟩, h⟩
      · skip
        refine wp_exit ?_; (repeat first | refine FW.then_exit ?_ | refine FW.block_exit_ne rfl ?_); refine FW.block_exit ?_
        (repeat first | refine FW.then_normal ?_ | refine FW.block_normal ?_); refine hK9 _ _ ?_
        refine FW.wseq ?_; intro K' hK20
        refine FW.wreg ?_; intro K' hK21
        refine FW.lfun (y := .lit (.bool v4)) hk rfl rfl rfl rfl (FW.f_move hk (FW.holds_nil _) rfl) ?_; clear hk; intro a w hk
        refine FW.lfun (y := .lit (.bool v4)) hk rfl rfl rfl rfl (FW.f_move hk (FW.holds_nil _) rfl) ?_; clear hk; intro a w hk
        refine FW.lfunG (y := .lit (.int .u64 v6)) hk rfl rfl rfl rfl rfl rfl rfl rfl (fun hc => FW.f_move hk hc rfl) ?_; clear hk; intro a w hk
        refine FW.lfunG (y := .lit (.bool (decide (v6 ≤ 9223372036854775808)))) hk rfl rfl rfl rfl rfl rfl rfl rfl (fun hc => (FW.f_pure (FW.p_leq hk.kn hc rfl rfl))) ?_; clear hk; intro a w hk
        refine FW.lfun (y := .lit (.bool (v4 && (decide (v6 ≤ 9223372036854775808))))) hk rfl rfl rfl rfl ((FW.f_pure (FW.p_pick_and hk.kn (FW.holds_nil _) rfl rfl))) ?_; clear hk; intro a w hk
        refine FW.lend (hK21 _ _ ?_); clear hK21 K'
        refine FW.wcondF (b := (v4 && (decide (v6 ≤ 9223372036854775808)))) hk h rfl (fun h hb => ?_) (fun h hb => ?_)
        · skip
          refine FW.wreg ?_; intro K' hK22
          refine FW.lfun (y := .lit (.int .u64 v6)) hk rfl rfl rfl rfl (FW.f_move hk (FW.holds_nil _) rfl) ?_; clear hk; intro a w hk
          refine FW.lfun (y := .lit (.int .u64 (IntKind.wrap .u64 (0 - v6)))) hk rfl rfl rfl rfl ((FW.f_pure (FW.p_neg hk.kn (FW.holds_nil _) rfl))) ?_; clear hk; intro a w hk
          refine FW.lfun (y := .lit (.int .i64 (IntKind.wrap .i64 (IntKind.wrap .u64 (0 - v6))))) hk rfl rfl rfl rfl ((FW.f_pure (FW.p_conv Go.Proofs.Try.underlying58 Go.Proofs.Try.underlying2 hk.kn (FW.holds_nil _) rfl))) ?_; clear hk; intro a w hk
          refine FW.lfun (y := .lit (.int .i64 (IntKind.wrap .i64 (IntKind.wrap .u64 (0 - v6))))) hk rfl rfl rfl rfl (FW.f_assign hk (FW.holds_nil _) rfl) ?_; clear hk; intro a w hk
          refine FW.lfun (y := .lit (.bool true)) hk rfl rfl rfl rfl (FW.f_assign hk (FW.holds_nil _) rfl) ?_; clear hk; intro a w hk
          refine FW.lend (hK22 _ _ ?_); clear hK22 K'
          refine wp_ret ?_
          (repeat first | refine FW.then_ret ?_ | refine FW.block_ret ?_)
          obtain rfl := Option.some.inj h
          exact FW.fret2 hk rfl rfl rfl
        · skip
          refine wp_skip ?_
          (repeat first | refine FW.then_normal ?_ | refine FW.block_normal ?_); refine hK20 _ _ ?_
          refine FW.wseq ?_; intro K' hK23
          refine FW.wreg ?_; intro K' hK24
          refine FW.lfun (y := .lit (.bool v4)) hk rfl rfl rfl rfl (FW.f_move hk (FW.holds_nil _) rfl) ?_; clear hk; intro a w hk
          refine FW.lfun (y := .lit (.bool (!v4))) hk rfl rfl rfl rfl ((FW.f_pure (FW.p_not hk.kn (FW.holds_nil _) rfl))) ?_; clear hk; intro a w hk
          refine FW.lfun (y := .lit (.bool (!v4))) hk rfl rfl rfl rfl (FW.f_move hk (FW.holds_nil _) rfl) ?_; clear hk; intro a w hk
          refine FW.lfunG (y := .lit (.int .u64 v6)) hk rfl rfl rfl rfl rfl rfl rfl rfl (fun hc => FW.f_move hk hc rfl) ?_; clear hk; intro a w hk
          refine FW.lfunG (y := .lit (.bool (decide (v6 < 9223372036854775808)))) hk rfl rfl rfl rfl rfl rfl rfl rfl (fun hc => (FW.f_pure (FW.p_lss hk.kn hc rfl rfl))) ?_; clear hk; intro a w hk
          refine FW.lfun (y := .lit (.bool ((!v4) && (decide (v6 < 9223372036854775808))))) hk rfl rfl rfl rfl ((FW.f_pure (FW.p_pick_and hk.kn (FW.holds_nil _) rfl rfl))) ?_; clear hk; intro a w hk
          refine FW.lend (hK24 _ _ ?_); clear hK24 K'
          refine FW.wcondF (b := ((!v4) && (decide (v6 < 9223372036854775808)))) hk h rfl (fun h hb => ?_) (fun h hb => ?_)
          · skip
            refine FW.wreg ?_; intro K' hK25
            refine FW.lfun (y := .lit (.int .u64 v6)) hk rfl rfl rfl rfl (FW.f_move hk (FW.holds_nil _) rfl) ?_; clear hk; intro a w hk
            refine FW.lfun (y := .lit (.int .i64 (IntKind.wrap .i64 v6))) hk rfl rfl rfl rfl ((FW.f_pure (FW.p_conv Go.Proofs.Try.underlying58 Go.Proofs.Try.underlying2 hk.kn (FW.holds_nil _) rfl))) ?_; clear hk; intro a w hk
            refine FW.lfun (y := .lit (.int .i64 (IntKind.wrap .i64 v6))) hk rfl rfl rfl rfl (FW.f_assign hk (FW.holds_nil _) rfl) ?_; clear hk; intro a w hk
            refine FW.lfun (y := .lit (.bool true)) hk rfl rfl rfl rfl (FW.f_assign hk (FW.holds_nil _) rfl) ?_; clear hk; intro a w hk
            refine FW.lend (hK25 _ _ ?_); clear hK25 K'
            refine wp_ret ?_
            (repeat first | refine FW.then_ret ?_ | refine FW.block_ret ?_)
            obtain rfl := Option.some.inj h
            exact FW.fret2 hk rfl rfl rfl
          · skip
            refine wp_skip ?_
            (repeat first | refine FW.then_normal ?_ | refine FW.block_normal ?_); refine hK23 _ _ ?_
            refine FW.wreg ?_; intro K' hK26
            refine FW.lfun (y := .lit (.int .i64 0)) hk rfl rfl rfl rfl (FW.f_assign hk (FW.holds_nil _) rfl) ?_; clear hk; intro a w hk
            refine FW.lfun (y := .lit (.bool false)) hk rfl rfl rfl rfl (FW.f_assign hk (FW.holds_nil _) rfl) ?_; clear hk; intro a w hk
            refine FW.lend (hK26 _ _ ?_); clear hK26 K'
            refine wp_ret ?_
            (repeat first | refine FW.then_ret ?_ | refine FW.block_ret ?_)
            obtain rfl := Option.some.inj h
            exact FW.fret2 hk rfl rfl rfl
  · intro K' hK4
    refine FW.wreg ?_; intro K' hK27
    refine FW.lfun (y := .lit (.bool ((!decide (v0 = ([] : List UInt8))) && (decide ((FW.bt v0 0) = 45))))) hk rfl rfl rfl rfl (FW.f_move hk (FW.holds_nil _) rfl) ?_; clear hk; intro a w hk
    refine FW.lend (hK27 _ _ ?_); clear hK27 K'
    refine FW.wcondF (b := ((!decide (v0 = ([] : List UInt8))) && (decide ((FW.bt v0 0) = 45)))) hk h rfl (fun h hb => ?_) (fun h hb => ?_)
    · skip
      refine FW.wreg1 ?_
      refine FW.lfun (y := .lit (.string (FW.B v0))) hk rfl rfl rfl rfl (FW.f_move hk (FW.holds_nil _) rfl) ?_; clear hk; intro a w hk
      obtain ⟨hc6, h⟩ := FW.chk h
      refine FW.lfun (y := .lit (.string (FW.B (List.drop (Int.toNat 1) v0)))) hk rfl rfl rfl rfl ((FW.f_pure (FW.p_slice_lo Go.Proofs.Try.underlying9 hk.kn (FW.holds_nil _) rfl rfl hc6))) ?_; clear hk; intro a w hk
      refine FW.lfun (y := .lit (.string (FW.B (List.drop (Int.toNat 1) v0)))) hk rfl rfl rfl rfl (FW.f_assign hk (FW.holds_nil _) rfl) ?_; clear hk; intro a w hk
      refine wpList_nil ?_
      (repeat first | refine FW.then_normal ?_ | refine FW.block_normal ?_); exact hK4 _ _ ⟨((!decide (v0 = ([] : List UInt8))) && (decide ((FW.bt v0 0) = 45))), (List.drop (Int.toNat 1) v0), hk.sub ⟨rfl, rfl, trivial⟩, h⟩
    · skip
      refine wp_skip ?_
      (repeat first | refine FW.then_normal ?_ | refine FW.block_normal ?_); exact hK4 _ _ ⟨((!decide (v0 = ([] : List UInt8))) && (decide ((FW.bt v0 0) = 45))), v0, hk.sub ⟨rfl, rfl, trivial⟩, h⟩

theorem offshootref11_letter.ok  (v0 : Int) (r : Bool) (h : offshootref11_letter.f v0 = some r) :
    FW.Ok Go.Proofs.Try.prog 63 [.lit (.int .u8 v0)] (.lit (.bool r)) := by
  refine FW.enter (xs := [.lit (.int .u8 v0)]) Go.Proofs.Try.func63 rfl Go.Proofs.Try.ntmps63 rfl ?_
  intro M w0 a hk
  unfold offshootref11_letter.f at h
  refine FW.wreg ?_; intro K' hK1
  refine FW.lfun (y := .lit (.bool false)) hk rfl rfl rfl rfl (FW.f_assign hk (FW.holds_nil _) rfl) ?_; clear hk; intro a w hk
  refine FW.lend (hK1 _ _ ?_); clear hK1 K'
  refine FW.wreg ?_; intro K' hK2
  refine FW.lfun (y := .lit (.int .u8 v0)) hk rfl rfl rfl rfl (FW.f_move hk (FW.holds_nil _) rfl) ?_; clear hk; intro a w hk
  refine FW.lfun (y := .lit (.bool (decide (v0 = 95)))) hk rfl rfl rfl rfl ((FW.f_pure (FW.p_eql hk.kn (FW.holds_nil _) rfl rfl))) ?_; clear hk; intro a w hk
  refine FW.lfun (y := .lit (.bool (decide (v0 = 95)))) hk rfl rfl rfl rfl (FW.f_move hk (FW.holds_nil _) rfl) ?_; clear hk; intro a w hk
  refine FW.lfunG (y := .lit (.int .u8 v0)) hk rfl rfl rfl rfl rfl rfl rfl rfl (fun hc => FW.f_move hk hc rfl) ?_; clear hk; intro a w hk
  refine FW.lfunG (y := .lit (.bool (decide (97 ≤ v0)))) hk rfl rfl rfl rfl rfl rfl rfl rfl (fun hc => (FW.f_pure (FW.p_geq hk.kn hc rfl rfl))) ?_; clear hk; intro a w hk
  refine FW.lfunG (y := .lit (.bool (decide (97 ≤ v0)))) hk rfl rfl rfl rfl rfl rfl rfl rfl (fun hc => FW.f_move hk hc rfl) ?_; clear hk; intro a w hk
  refine FW.lfunG (y := .lit (.int .u8 v0)) hk rfl rfl rfl rfl rfl rfl rfl rfl (fun hc => FW.f_move hk hc rfl) ?_; clear hk; intro a w hk
  refine FW.lfunG (y := .lit (.bool (decide (v0 ≤ 122)))) hk rfl rfl rfl rfl rfl rfl rfl rfl (fun hc => (FW.f_pure (FW.p_leq hk.kn hc rfl rfl))) ?_; clear hk; intro a w hk
  refine FW.lfunG (y := .lit (.bool ((decide (97 ≤ v0)) && (decide (v0 ≤ 122))))) hk rfl rfl rfl rfl rfl rfl rfl rfl (fun hc => (FW.f_pure (FW.p_pick_and hk.kn hc rfl rfl))) ?_; clear hk; intro a w hk
  refine FW.lfun (y := .lit (.bool ((decide (v0 = 95)) || ((decide (97 ≤ v0)) && (decide (v0 ≤ 122)))))) hk rfl rfl rfl rfl ((FW.f_pure (FW.p_pick_or hk.kn (FW.holds_nil _) rfl rfl))) ?_; clear hk; intro a w hk
  refine FW.lfun (y := .lit (.bool ((decide (v0 = 95)) || ((decide (97 ≤ v0)) && (decide (v0 ≤ 122)))))) hk rfl rfl rfl rfl (FW.f_move hk (FW.holds_nil _) rfl) ?_; clear hk; intro a w hk
  refine FW.lfunG (y := .lit (.int .u8 v0)) hk rfl rfl rfl rfl rfl rfl rfl rfl (fun hc => FW.f_move hk hc rfl) ?_; clear hk; intro a w hk
  refine FW.lfunG (y := .lit (.bool (decide (65 ≤ v0)))) hk rfl rfl rfl rfl rfl rfl rfl rfl (fun hc => (FW.f_pure (FW.p_geq hk.kn hc rfl rfl))) ?_; clear hk; intro a w hk
  refine FW.lfunG (y := .lit (.bool (decide (65 ≤ v0)))) hk rfl rfl rfl rfl rfl rfl rfl rfl (fun hc => FW.f_move hk hc rfl) ?_; clear hk; intro a w hk
  refine FW.lfunG (y := .lit (.int .u8 v0)) hk rfl rfl rfl rfl rfl rfl rfl rfl (fun hc => FW.f_move hk hc rfl) ?_; clear hk; intro a w hk
  refine FW.lfunG (y := .lit (.bool (decide (v0 ≤ 90)))) hk rfl rfl rfl rfl rfl rfl rfl rfl (fun hc => (FW.f_pure (FW.p_leq hk.kn hc rfl rfl))) ?_; clear hk; intro a w hk
  refine FW.lfunG (y := .lit (.bool ((decide (65 ≤ v0)) && (decide (v0 ≤ 90))))) hk rfl rfl rfl rfl rfl rfl rfl rfl (fun hc => (FW.f_pure (FW.p_pick_and hk.kn hc rfl rfl))) ?_; clear hk; intro a w hk
  refine FW.lfun (y := .lit (.bool (((decide (v0 = 95)) || ((decide (97 ≤ v0)) && (decide (v0 ≤ 122)))) || ((decide (65 ≤ v0)) && (decide (v0 ≤ 90)))))) hk rfl rfl rfl rfl ((FW.f_pure (FW.p_pick_or hk.kn (FW.holds_nil _) rfl rfl))) ?_; clear hk; intro a w hk
  refine FW.lfun (y := .lit (.bool (((decide (v0 = 95)) || ((decide (97 ≤ v0)) && (decide (v0 ≤ 122)))) || ((decide (65 ≤ v0)) && (decide (v0 ≤ 90)))))) hk rfl rfl rfl rfl (FW.f_move hk (FW.holds_nil _) rfl) ?_; clear hk; intro a w hk
  refine FW.lfunG (y := .lit (.int .u8 v0)) hk rfl rfl rfl rfl rfl rfl rfl rfl (fun hc => FW.f_move hk hc rfl) ?_; clear hk; intro a w hk
  refine FW.lfunG (y := .lit (.bool (decide (48 ≤ v0)))) hk rfl rfl rfl rfl rfl rfl rfl rfl (fun hc => (FW.f_pure (FW.p_geq hk.kn hc rfl rfl))) ?_; clear hk; intro a w hk
  refine FW.lfunG (y := .lit (.bool (decide (48 ≤ v0)))) hk rfl rfl rfl rfl rfl rfl rfl rfl (fun hc => FW.f_move hk hc rfl) ?_; clear hk; intro a w hk
  refine FW.lfunG (y := .lit (.int .u8 v0)) hk rfl rfl rfl rfl rfl rfl rfl rfl (fun hc => FW.f_move hk hc rfl) ?_; clear hk; intro a w hk
  refine FW.lfunG (y := .lit (.bool (decide (v0 ≤ 57)))) hk rfl rfl rfl rfl rfl rfl rfl rfl (fun hc => (FW.f_pure (FW.p_leq hk.kn hc rfl rfl))) ?_; clear hk; intro a w hk
  refine FW.lfunG (y := .lit (.bool ((decide (48 ≤ v0)) && (decide (v0 ≤ 57))))) hk rfl rfl rfl rfl rfl rfl rfl rfl (fun hc => (FW.f_pure (FW.p_pick_and hk.kn hc rfl rfl))) ?_; clear hk; intro a w hk
  refine FW.lfun (y := .lit (.bool ((((decide (v0 = 95)) || ((decide (97 ≤ v0)) && (decide (v0 ≤ 122)))) || ((decide (65 ≤ v0)) && (decide (v0 ≤ 90)))) || ((decide (48 ≤ v0)) && (decide (v0 ≤ 57)))))) hk rfl rfl rfl rfl ((FW.f_pure (FW.p_pick_or hk.kn (FW.holds_nil _) rfl rfl))) ?_; clear hk; intro a w hk
  refine FW.lfun (y := .lit (.bool ((((decide (v0 = 95)) || ((decide (97 ≤ v0)) && (decide (v0 ≤ 122)))) || ((decide (65 ≤ v0)) && (decide (v0 ≤ 90)))) || ((decide (48 ≤ v0)) && (decide (v0 ≤ 57)))))) hk rfl rfl rfl rfl (FW.f_assign hk (FW.holds_nil _) rfl) ?_; clear hk; intro a w hk
  refine FW.lend (hK2 _ _ ?_); clear hK2 K'
  refine wp_ret ?_
  (repeat first | refine FW.then_ret ?_ | refine FW.block_ret ?_)
  obtain rfl := Option.some.inj h
  exact FW.fret1 hk rfl rfl

theorem offshootref11_one.ok (K : Nat) (v0 : List UInt8) (r : ApiWord × Int) (h : offshootref11_one.f K v0 = some r) :
    FW.Ok Go.Proofs.Try.prog 47 [.lit (.string (FW.B v0))] (.tup [.agg (ApiWord.cells r.1), .lit (.int .i64 r.2)]) := by
  refine FW.enter (xs := [.lit (.string (FW.B v0))]) Go.Proofs.Try.func47 rfl Go.Proofs.Try.ntmps47 rfl ?_
  intro M w0 a hk
  unfold offshootref11_one.f at h
  refine FW.wreg ?_; intro K' hK1
  refine FW.l_alloc (zs := (ApiWord.cells (⟨0, [], 0, 0, 0⟩ : ApiWord))) [] hk rfl rfl rfl rfl ?_; clear hk; intro b1 a w hk
  refine FW.lfun (y := .lit (.int .i64 0)) hk rfl rfl rfl rfl (FW.f_assign hk (FW.holds_nil _) rfl) ?_; clear hk; intro a w hk
  refine FW.lend (hK1 _ _ ?_); clear hK1 K'
  refine FW.wreg ?_; intro K' hK2
  refine FW.lfun (y := .lit (.string (FW.B v0))) hk rfl rfl rfl rfl (FW.f_move hk (FW.holds_nil _) rfl) ?_; clear hk; intro a w hk
  obtain ⟨hc1, h⟩ := FW.chk h
  refine FW.lfun (y := .lit (.int .u8 (FW.bt v0 0))) hk rfl rfl rfl rfl ((FW.f_pure (FW.p_index Go.Proofs.Try.underlying9 hk.kn (FW.holds_nil _) rfl rfl hc1))) ?_; clear hk; intro a w hk
  refine FW.lfun (y := .lit (.int .u8 (FW.bt v0 0))) hk rfl rfl rfl rfl (FW.f_assign hk (FW.holds_nil _) rfl) ?_; clear hk; intro a w hk
  refine FW.lend (hK2 _ _ ?_); clear hK2 K'
  refine FW.wseq ?_; intro K' hK3
  refine wp_block ?_
  refine FW.wreg ?_; intro K' hK4
  refine FW.lfun (y := .lit (.int .u8 (FW.bt v0 0))) hk rfl rfl rfl rfl (FW.f_move hk (FW.holds_nil _) rfl) ?_; clear hk; intro a w hk
  refine FW.lfun (y := .lit (.bool (decide ((FW.bt v0 0) = 102)))) hk rfl rfl rfl rfl ((FW.f_pure (FW.p_eql hk.kn (FW.holds_nil _) rfl rfl))) ?_; clear hk; intro a w hk
  refine FW.lfun (y := .lit (.bool (decide ((FW.bt v0 0) = 102)))) hk rfl rfl rfl rfl (FW.f_move hk (FW.holds_nil _) rfl) ?_; clear hk; intro a w hk
  refine FW.lfunG (y := .lit (.string (FW.B v0))) hk rfl rfl rfl rfl rfl rfl rfl rfl (fun hc => FW.f_move hk hc rfl) ?_; clear hk; intro a w hk
  refine FW.lfunG (y := .lit (.int .i64 (List.length v0 : Int))) hk rfl rfl rfl rfl rfl rfl rfl rfl (fun hc => (FW.f_pure (FW.p_slen Go.Proofs.Try.underlying9 hk.kn hc rfl))) ?_; clear hk; intro a w hk
  refine FW.lfunG (y := .lit (.bool (decide (1 < (List.length v0 : Int))))) hk rfl rfl rfl rfl rfl rfl rfl rfl (fun hc => (FW.f_pure (FW.p_gtr hk.kn hc rfl rfl))) ?_; clear hk; intro a w hk
  refine FW.lfun (y := .lit (.bool ((decide ((FW.bt v0 0) = 102)) && (decide (1 < (List.length v0 : Int)))))) hk rfl rfl rfl rfl ((FW.f_pure (FW.p_pick_and hk.kn (FW.holds_nil _) rfl rfl))) ?_; clear hk; intro a w hk
  refine FW.lfun (y := .lit (.bool ((decide ((FW.bt v0 0) = 102)) && (decide (1 < (List.length v0 : Int)))))) hk rfl rfl rfl rfl (FW.f_move hk (FW.holds_nil _) rfl) ?_; clear hk; intro a w hk
  refine FW.lfunG (y := .lit (.string (FW.B v0))) hk rfl rfl rfl rfl rfl rfl rfl rfl (fun hc => FW.f_move hk hc rfl) ?_; clear hk; intro a w hk
  obtain ⟨hc2, h⟩ := FW.chk h
  refine FW.lfunG (y := .lit (.int .u8 (FW.bt v0 1))) hk rfl rfl rfl rfl rfl rfl rfl rfl (fun hc => (FW.f_pure (FW.p_index Go.Proofs.Try.underlying9 hk.kn hc rfl rfl hc2))) ?_; clear hk; intro a w hk
  refine FW.lfunG (y := .lit (.bool (decide ((FW.bt v0 1) = 39)))) hk rfl rfl rfl rfl rfl rfl rfl rfl (fun hc => (FW.f_pure (FW.p_eql hk.kn hc rfl rfl))) ?_; clear hk; intro a w hk
  refine FW.lfun (y := .lit (.bool (((decide ((FW.bt v0 0) = 102)) && (decide (1 < (List.length v0 : Int)))) && (decide ((FW.bt v0 1) = 39))))) hk rfl rfl rfl rfl ((FW.f_pure (FW.p_pick_and hk.kn (FW.holds_nil _) rfl rfl))) ?_; clear hk; intro a w hk
  refine FW.lfun (y := .lit (.bool (((decide ((FW.bt v0 0) = 102)) && (decide (1 < (List.length v0 : Int)))) && (decide ((FW.bt v0 1) = 39))))) hk rfl rfl rfl rfl (FW.f_assign hk (FW.holds_nil _) rfl) ?_; clear hk; intro a w hk
  refine FW.lend (hK4 _ _ ?_); clear hK4 K'
  refine FW.wcondF (b := (((decide ((FW.bt v0 0) = 102)) && (decide (1 < (List.length v0 : Int)))) && (decide ((FW.bt v0 1) = 39)))) hk h rfl (fun h hb => ?_) (fun h hb => ?_)
  · skip
    refine FW.wreg ?_; intro K' hK5
    refine FW.lfun (y := .lit (.string (FW.B v0))) hk rfl rfl rfl rfl (FW.f_move hk (FW.holds_nil _) rfl) ?_; clear hk; intro a w hk
    obtain ⟨hc3, h⟩ := FW.chk h
    refine FW.lfun (y := .lit (.string (FW.B (List.drop (Int.toNat 1) v0)))) hk rfl rfl rfl rfl ((FW.f_pure (FW.p_slice_lo Go.Proofs.Try.underlying9 hk.kn (FW.holds_nil _) rfl rfl hc3))) ?_; clear hk; intro a w hk
    obtain ⟨t1, hr_t1, h⟩ := FW.bnd h
    refine FW.lfun (y := .tup [.lit (.string (FW.B t1.1)), .lit (.int .i64 t1.2)]) hk rfl rfl rfl rfl (FW.f_call hk (FW.holds_nil _) rfl rfl Go.Proofs.Try.func22 rfl (by kernel_rfl) (offshootref11_Quoted.ok K (List.drop (Int.toNat 1) v0) _ hr_t1)) ?_; clear hk; intro a w hk
    refine FW.lfun (y := .tup [.lit (.string (FW.B t1.1)), .lit (.int .i64 t1.2)]) hk rfl rfl rfl rfl (FW.f_move hk (FW.holds_nil _) rfl) ?_; clear hk; intro a w hk
    refine FW.lfun (y := .lit (.string (FW.B t1.1))) hk rfl rfl rfl rfl (FW.f_extract hk (FW.holds_nil _) rfl rfl) ?_; clear hk; intro a w hk
    refine FW.lfun (y := .lit (.int .i64 t1.2)) hk rfl rfl rfl rfl (FW.f_extract hk (FW.holds_nil _) rfl rfl) ?_; clear hk; intro a w hk
    refine FW.lfun (y := .lit (.string (FW.B t1.1))) hk rfl rfl rfl rfl (FW.f_assign hk (FW.holds_nil _) rfl) ?_; clear hk; intro a w hk
    refine FW.lfun (y := .lit (.int .i64 t1.2)) hk rfl rfl rfl rfl (FW.f_assign hk (FW.holds_nil _) rfl) ?_; clear hk; intro a w hk
    refine FW.lend (hK5 _ _ ?_); clear hK5 K'
    refine FW.wreg ?_; intro K' hK6
    refine FW.lfun (y := .lit (.int .u64 0)) hk rfl rfl rfl rfl (FW.f_assign hk (FW.holds_nil _) rfl) ?_; clear hk; intro a w hk
    refine FW.lend (hK6 _ _ ?_); clear hK6 K'
    refine FW.wreg ?_; intro K' hK7
    refine FW.lfun (y := .lit (.int .i64 t1.2)) hk rfl rfl rfl rfl (FW.f_move hk (FW.holds_nil _) rfl) ?_; clear hk; intro a w hk
    refine FW.lfun (y := .lit (.bool (decide (0 < t1.2)))) hk rfl rfl rfl rfl ((FW.f_pure (FW.p_gtr hk.kn (FW.holds_nil _) rfl rfl))) ?_; clear hk; intro a w hk
    refine FW.lfun (y := .lit (.bool (decide (0 < t1.2)))) hk rfl rfl rfl rfl (FW.f_move hk (FW.holds_nil _) rfl) ?_; clear hk; intro a w hk
    refine FW.lfunG (y := .lit (.string (FW.B t1.1))) hk rfl rfl rfl rfl rfl rfl rfl rfl (fun hc => FW.f_move hk hc rfl) ?_; clear hk; intro a w hk
    refine FW.lfunG (y := .lit (.int .i64 (List.length t1.1 : Int))) hk rfl rfl rfl rfl rfl rfl rfl rfl (fun hc => (FW.f_pure (FW.p_slen Go.Proofs.Try.underlying9 hk.kn hc rfl))) ?_; clear hk; intro a w hk
    refine FW.lfunG (y := .lit (.bool (decide ((List.length t1.1 : Int) = 16)))) hk rfl rfl rfl rfl rfl rfl rfl rfl (fun hc => (FW.f_pure (FW.p_eql hk.kn hc rfl rfl))) ?_; clear hk; intro a w hk
    refine FW.lfun (y := .lit (.bool ((decide (0 < t1.2)) && (decide ((List.length t1.1 : Int) = 16))))) hk rfl rfl rfl rfl ((FW.f_pure (FW.p_pick_and hk.kn (FW.holds_nil _) rfl rfl))) ?_; clear hk; intro a w hk
    refine FW.lfun (y := .lit (.bool ((decide (0 < t1.2)) && (decide ((List.length t1.1 : Int) = 16))))) hk rfl rfl rfl rfl (FW.f_assign hk (FW.holds_nil _) rfl) ?_; clear hk; intro a w hk
    refine FW.lend (hK7 _ _ ?_); clear hK7 K'
    refine FW.wseq ?_; intro K' hK8
    refine FW.wreg ?_; intro K' hK9
    refine FW.lfun (y := .lit (.int .i64 0)) hk rfl rfl rfl rfl (FW.f_assign hk (FW.holds_nil _) rfl) ?_; clear hk; intro a w hk
    refine FW.lend (hK9 _ _ ?_); clear hK9 K'
    refine wp_block ?_
    refine FW.wloop (T := Nat × ApiWord × List UInt8 × Int × Int × Bool × Int) (fun x a w => match x with | (kl1, y1, v5, v6, v7, v8, v9) => FW.S M w0 a w 189 [FW.blk b1 52 ((ApiWord.cells y1))] [(2, [], .lit (.pointer (some ⟨b1, 0, none⟩))), (5, [], .lit (.string (FW.B v5))), (6, [], .lit (.int .i64 v6)), (7, [], .lit (.int .u64 v7)), (8, [], .lit (.bool v8)), (9, [], .lit (.int .i64 v9))] ∧ offshootref11_one.l1 K kl1 y1 v5 v6 v7 v8 v9 = some r) (fun x => x.1) (K, (⟨0, [], 0, 0, 0⟩ : ApiWord), t1.1, t1.2, 0, ((decide (0 < t1.2)) && (decide ((List.length t1.1 : Int) = 16))), 0) ⟨hk.sub ⟨rfl, rfl, rfl, rfl, rfl, rfl, trivial⟩, h⟩ ?_
    clear hk h
    rintro ⟨kl1, y1, v5, v6, v7, v8, v9⟩ a w ⟨hk, h⟩ K' hK10
    cases kl1 with
    | zero => simp [offshootref11_one.l1] at h
    | succ kl1 =>
    rw [offshootref11_one.l1.eq_2] at h
    refine FW.wseq ?_; intro K' hK11
    refine FW.wreg ?_; intro K' hK12
    refine FW.lfun (y := .lit (.int .i64 v9)) hk rfl rfl rfl rfl (FW.f_move hk (FW.holds_nil _) rfl) ?_; clear hk; intro a w hk
    refine FW.lfun (y := .lit (.string (FW.B v5))) hk rfl rfl rfl rfl (FW.f_move hk (FW.holds_nil _) rfl) ?_; clear hk; intro a w hk
    refine FW.lfun (y := .lit (.int .i64 (List.length v5 : Int))) hk rfl rfl rfl rfl ((FW.f_pure (FW.p_slen Go.Proofs.Try.underlying9 hk.kn (FW.holds_nil _) rfl))) ?_; clear hk; intro a w hk
    refine FW.lfun (y := .lit (.bool (decide (v9 < (List.length v5 : Int))))) hk rfl rfl rfl rfl ((FW.f_pure (FW.p_lss hk.kn (FW.holds_nil _) rfl rfl))) ?_; clear hk; intro a w hk
    refine FW.lfun (y := .lit (.bool (decide (v9 < (List.length v5 : Int))))) hk rfl rfl rfl rfl (FW.f_move hk (FW.holds_nil _) rfl) ?_; clear hk; intro a w hk
    refine FW.lfunG (y := .lit (.bool v8)) hk rfl rfl rfl rfl rfl rfl rfl rfl (fun hc => FW.f_move hk hc rfl) ?_; clear hk; intro a w hk
    refine FW.lfun (y := .lit (.bool ((decide (v9 < (List.length v5 : Int))) && v8))) hk rfl rfl rfl rfl ((FW.f_pure (FW.p_pick_and hk.kn (FW.holds_nil _) rfl rfl))) ?_; clear hk; intro a w hk
    refine FW.lend (hK12 _ _ ?_); clear hK12 K'
    refine FW.wcondF (b := ((decide (v9 < (List.length v5 : Int))) && v8)) hk h rfl (fun h hb => ?_) (fun h hb => ?_)
    · skip
      refine wp_skip ?_
      (repeat first | refine FW.then_normal ?_ | refine FW.block_normal ?_); refine hK11 _ _ ?_
      refine FW.wseq ?_; intro K' hK13
      refine wp_block ?_
      refine FW.wreg ?_; intro K' hK14
      refine FW.lfun (y := .lit (.string (FW.B v5))) hk rfl rfl rfl rfl (FW.f_move hk (FW.holds_nil _) rfl) ?_; clear hk; intro a w hk
      refine FW.lfun (y := .lit (.int .i64 v9)) hk rfl rfl rfl rfl (FW.f_move hk (FW.holds_nil _) rfl) ?_; clear hk; intro a w hk
      obtain ⟨hc4, h⟩ := FW.chk h
      refine FW.lfun (y := .lit (.int .u8 (FW.bt v5 v9))) hk rfl rfl rfl rfl ((FW.f_pure (FW.p_index Go.Proofs.Try.underlying9 hk.kn (FW.holds_nil _) rfl rfl hc4))) ?_; clear hk; intro a w hk
      obtain ⟨t2, hr_t2, h⟩ := FW.bnd h
      refine FW.lfun (y := .lit (.int .i64 t2)) hk rfl rfl rfl rfl (FW.f_call hk (FW.holds_nil _) rfl rfl Go.Proofs.Try.func45 rfl (by kernel_rfl) (offshootref11_digit.ok (FW.bt v5 v9) _ hr_t2)) ?_; clear hk; intro a w hk
      refine FW.lfun (y := .lit (.bool (decide (t2 < 16)))) hk rfl rfl rfl rfl ((FW.f_pure (FW.p_lss hk.kn (FW.holds_nil _) rfl rfl))) ?_; clear hk; intro a w hk
      refine FW.lfun (y := .lit (.bool (decide (t2 < 16)))) hk rfl rfl rfl rfl (FW.f_assign hk (FW.holds_nil _) rfl) ?_; clear hk; intro a w hk
      refine FW.lend (hK14 _ _ ?_); clear hK14 K'
      refine FW.wreg1 ?_
      refine FW.lfun (y := .lit (.int .u64 v7)) hk rfl rfl rfl rfl (FW.f_move hk (FW.holds_nil _) rfl) ?_; clear hk; intro a w hk
      refine FW.lfun (y := .lit (.int .u64 (IntKind.wrap .u64 (v7 * 16)))) hk rfl rfl rfl rfl ((FW.f_pure (FW.p_mul hk.kn (FW.holds_nil _) rfl rfl))) ?_; clear hk; intro a w hk
      refine FW.lfun (y := .lit (.string (FW.B v5))) hk rfl rfl rfl rfl (FW.f_move hk (FW.holds_nil _) rfl) ?_; clear hk; intro a w hk
      refine FW.lfun (y := .lit (.int .i64 v9)) hk rfl rfl rfl rfl (FW.f_move hk (FW.holds_nil _) rfl) ?_; clear hk; intro a w hk
      obtain ⟨hc5, h⟩ := FW.chk h
      refine FW.lfun (y := .lit (.int .u8 (FW.bt v5 v9))) hk rfl rfl rfl rfl ((FW.f_pure (FW.p_index Go.Proofs.Try.underlying9 hk.kn (FW.holds_nil _) rfl rfl hc5))) ?_; clear hk; intro a w hk
      obtain ⟨t3, hr_t3, h⟩ := FW.bnd h
      refine FW.lfun (y := .lit (.int .i64 t3)) hk rfl rfl rfl rfl (FW.f_call hk (FW.holds_nil _) rfl rfl Go.Proofs.Try.func45 rfl (by kernel_rfl) (offshootref11_digit.ok (FW.bt v5 v9) _ hr_t3)) ?_; clear hk; intro a w hk
      refine FW.lfun (y := .lit (.int .u64 (IntKind.wrap .u64 t3))) hk rfl rfl rfl rfl ((FW.f_pure (FW.p_conv Go.Proofs.Try.underlying3 Go.Proofs.Try.underlying58 hk.kn (FW.holds_nil _) rfl))) ?_; clear hk; intro a w hk
      refine FW.lfun (y := .lit (.int .u64 (IntKind.wrap .u64 ((IntKind.wrap .u64 (v7 * 16)) + (IntKind.wrap .u64 t3))))) hk rfl rfl rfl rfl ((FW.f_pure (FW.p_add hk.kn (FW.holds_nil _) rfl rfl))) ?_; clear hk; intro a w hk
      refine FW.lfun (y := .lit (.int .u64 (IntKind.wrap .u64 ((IntKind.wrap .u64 (v7 * 16)) + (IntKind.wrap .u64 t3))))) hk rfl rfl rfl rfl (FW.f_assign hk (FW.holds_nil _) rfl) ?_; clear hk; intro a w hk
      refine wpList_nil ?_
      (repeat first | refine FW.then_normal ?_ | refine FW.block_normal ?_); refine hK13 _ _ ?_
      refine FW.wreg1 ?_
      refine FW.lfun (y := .lit (.int .i64 v9)) hk rfl rfl rfl rfl (FW.f_move hk (FW.holds_nil _) rfl) ?_; clear hk; intro a w hk
      refine FW.lfun (y := .lit (.int .i64 (IntKind.wrap .i64 (v9 + 1)))) hk rfl rfl rfl rfl ((FW.f_pure (FW.p_add hk.kn (FW.holds_nil _) rfl rfl))) ?_; clear hk; intro a w hk
      refine FW.lfun (y := .lit (.int .i64 (IntKind.wrap .i64 (v9 + 1)))) hk rfl rfl rfl rfl (FW.f_assign hk (FW.holds_nil _) rfl) ?_; clear hk; intro a w hk
      refine wpList_nil ?_
      (repeat first | refine FW.then_normal ?_ | refine FW.block_normal ?_); exact hK10 (kl1, y1, v5, v6, (IntKind.wrap .u64 ((IntKind.wrap .u64 (v7 * 16)) + (IntKind.wrap .u64 t3))), (decide (t2 < 16)), (IntKind.wrap .i64 (v9 + 1))) _ _ (Nat.lt_succ_self _) ⟨hk.sub ⟨rfl, rfl, rfl, rfl, rfl, rfl, trivial⟩, h⟩
    · skip
      refine wp_exit ?_; (repeat first | refine FW.then_exit ?_ | refine FW.block_exit_ne rfl ?_); refine FW.block_exit ?_
      (repeat first | refine FW.then_normal ?_ | refine FW.block_normal ?_); refine hK8 _ _ ?_
      refine FW.wreg ?_; intro K' hK17
      refine FW.lfun (y := .lit (.int .u64 v7)) hk rfl rfl rfl rfl (FW.f_move hk (FW.holds_nil _) rfl) ?_; clear hk; intro a w hk
      refine FW.lfun (y := .lit (.float .f64 (Int.toNat v7))) hk rfl rfl rfl rfl (FW.f_frombits hk (FW.holds_nil _) rfl rfl Go.Proofs.Try.func62 (by kernel_rfl) (by kernel_rfl) (by kernel_rfl) (by kernel_rfl)) ?_; clear hk; intro a w hk
      refine FW.lfun (y := .lit (.float .f64 (Int.toNat v7))) hk rfl rfl rfl rfl (FW.f_assign hk (FW.holds_nil _) rfl) ?_; clear hk; intro a w hk
      refine FW.lend (hK17 _ _ ?_); clear hK17 K'
      refine FW.wseq ?_; intro K' hK18
      refine FW.wreg ?_; intro K' hK19
      refine FW.lfun (y := .lit (.bool v8)) hk rfl rfl rfl rfl (FW.f_move hk (FW.holds_nil _) rfl) ?_; clear hk; intro a w hk
      refine FW.lfun (y := .lit (.bool (!v8))) hk rfl rfl rfl rfl ((FW.f_pure (FW.p_not hk.kn (FW.holds_nil _) rfl))) ?_; clear hk; intro a w hk
      refine FW.lfun (y := .lit (.bool (!v8))) hk rfl rfl rfl rfl (FW.f_move hk (FW.holds_nil _) rfl) ?_; clear hk; intro a w hk
      refine FW.lfunG (y := .lit (.float .f64 (Int.toNat v7))) hk rfl rfl rfl rfl rfl rfl rfl rfl (fun hc => FW.f_move hk hc rfl) ?_; clear hk; intro a w hk
      obtain ⟨t4, hr_t4, h⟩ := FW.bndG h
      refine FW.lfunG (y := .lit (.int .u64 t4)) hk rfl rfl rfl rfl rfl rfl rfl rfl (fun hc => FW.f_call hk hc rfl rfl Go.Proofs.Try.func26 rfl (by kernel_rfl) (offshootref01_Canon.ok (Int.toNat v7) _ (hr_t4 (FW.asm_out (p := (!v8) = false) hk.kn hc (fun e0 => e0))))) ?_; clear hk; intro a w hk
      refine FW.lfunG (y := .lit (.int .u64 v7)) hk rfl rfl rfl rfl rfl rfl rfl rfl (fun hc => FW.f_move hk hc rfl) ?_; clear hk; intro a w hk
      refine FW.lfunG (y := .lit (.bool (!decide (t4 = v7)))) hk rfl rfl rfl rfl rfl rfl rfl rfl (fun hc => (FW.f_pure (FW.p_neq hk.kn hc rfl rfl))) ?_; clear hk; intro a w hk
      refine FW.lfun (y := .lit (.bool ((!v8) || (!decide (t4 = v7))))) hk rfl rfl rfl rfl ((FW.f_pure (FW.p_pick_or hk.kn (FW.holds_nil _) rfl rfl))) ?_; clear hk; intro a w hk
      refine FW.lend (hK19 _ _ ?_); clear hK19 K'
      refine FW.wcondF (b := ((!v8) || (!decide (t4 = v7)))) hk h rfl (fun h hb => ?_) (fun h hb => ?_)
      · skip
        refine FW.wreg ?_; intro K' hK20
        refine FW.lfun (y := .agg ((ApiWord.cells (⟨0, [], 0, 0, 0⟩ : ApiWord)))) hk rfl rfl rfl rfl (FW.f_build hk (FW.holds_nil _) rfl rfl) ?_; clear hk; intro a w hk
        refine FW.l_store (I' := [FW.blk b1 52 ((ApiWord.cells (⟨0, [], 0, 0, 0⟩ : ApiWord)))]) (cs' := (ApiWord.cells (⟨0, [], 0, 0, 0⟩ : ApiWord))) (j := 0) hk rfl rfl rfl rfl rfl (by kernel_rfl) rfl rfl ?_; clear hk; intro w hk
        refine FW.lfun (y := .lit (.int .i64 0)) hk rfl rfl rfl rfl (FW.f_assign hk (FW.holds_nil _) rfl) ?_; clear hk; intro a w hk
        refine FW.lend (hK20 _ _ ?_); clear hK20 K'
        refine wp_ret ?_
        (repeat first | refine FW.then_ret ?_ | refine FW.block_ret ?_)
        obtain rfl := Option.some.inj h
        exact FW.fretR2 hk rfl (FW.rcell hk rfl (j := 0) rfl Go.Proofs.Try.underlying52 rfl (by kernel_rfl)) (FW.rtmp hk rfl)
      · skip
        refine wp_skip ?_
        (repeat first | refine FW.then_normal ?_ | refine FW.block_normal ?_); refine hK18 _ _ ?_
        refine FW.wreg ?_; intro K' hK21
        refine FW.lfun (y := .lit (.float .f64 (Int.toNat v7))) hk rfl rfl rfl rfl (FW.f_move hk (FW.holds_nil _) rfl) ?_; clear hk; intro a w hk
        refine FW.lfun (y := .agg ((ApiWord.cells (⟨3, [], 0, (Int.toNat v7), 0⟩ : ApiWord)))) hk rfl rfl rfl rfl (FW.f_build hk (FW.holds_nil _) rfl rfl) ?_; clear hk; intro a w hk
        refine FW.lfun (y := .lit (.int .i64 v6)) hk rfl rfl rfl rfl (FW.f_move hk (FW.holds_nil _) rfl) ?_; clear hk; intro a w hk
        refine FW.lfun (y := .lit (.int .i64 (IntKind.wrap .i64 (v6 + 1)))) hk rfl rfl rfl rfl ((FW.f_pure (FW.p_add hk.kn (FW.holds_nil _) rfl rfl))) ?_; clear hk; intro a w hk
        refine FW.l_store (I' := [FW.blk b1 52 ((ApiWord.cells (⟨3, [], 0, (Int.toNat v7), 0⟩ : ApiWord)))]) (cs' := (ApiWord.cells (⟨3, [], 0, (Int.toNat v7), 0⟩ : ApiWord))) (j := 0) hk rfl rfl rfl rfl rfl (by kernel_rfl) rfl rfl ?_; clear hk; intro w hk
        refine FW.lfun (y := .lit (.int .i64 (IntKind.wrap .i64 (v6 + 1)))) hk rfl rfl rfl rfl (FW.f_assign hk (FW.holds_nil _) rfl) ?_; clear hk; intro a w hk
        refine FW.lend (hK21 _ _ ?_); clear hK21 K'
        refine wp_ret ?_
        (repeat first | refine FW.then_ret ?_ | refine FW.block_ret ?_)
        obtain rfl := Option.some.inj h
        exact FW.fretR2 hk rfl (FW.rcell hk rfl (j := 0) rfl Go.Proofs.Try.underlying52 rfl (by kernel_rfl)) (FW.rtmp hk rfl)
  · skip
    refine FW.wreg ?_; intro K' hK22
    refine FW.lfun (y := .lit (.int .u8 (FW.bt v0 0))) hk rfl rfl rfl rfl (FW.f_move hk (FW.holds_nil _) rfl) ?_; clear hk; intro a w hk
    refine FW.lfun (y := .lit (.bool (decide ((FW.bt v0 0) = 39)))) hk rfl rfl rfl rfl ((FW.f_pure (FW.p_eql hk.kn (FW.holds_nil _) rfl rfl))) ?_; clear hk; intro a w hk
    refine FW.lfun (y := .lit (.bool (decide ((FW.bt v0 0) = 39)))) hk rfl rfl rfl rfl (FW.f_assign hk (FW.holds_nil _) rfl) ?_; clear hk; intro a w hk
    refine FW.lend (hK22 _ _ ?_); clear hK22 K'
    refine FW.wcondF (b := (decide ((FW.bt v0 0) = 39))) hk h rfl (fun h hb => ?_) (fun h hb => ?_)
    · skip
      refine FW.wreg ?_; intro K' hK23
      refine FW.lfun (y := .lit (.string (FW.B v0))) hk rfl rfl rfl rfl (FW.f_move hk (FW.holds_nil _) rfl) ?_; clear hk; intro a w hk
      obtain ⟨t5, hr_t5, h⟩ := FW.bnd h
      refine FW.lfun (y := .tup [.lit (.string (FW.B t5.1)), .lit (.int .i64 t5.2)]) hk rfl rfl rfl rfl (FW.f_call hk (FW.holds_nil _) rfl rfl Go.Proofs.Try.func22 rfl (by kernel_rfl) (offshootref11_Quoted.ok K v0 _ hr_t5)) ?_; clear hk; intro a w hk
      refine FW.lfun (y := .tup [.lit (.string (FW.B t5.1)), .lit (.int .i64 t5.2)]) hk rfl rfl rfl rfl (FW.f_move hk (FW.holds_nil _) rfl) ?_; clear hk; intro a w hk
      refine FW.lfun (y := .lit (.string (FW.B t5.1))) hk rfl rfl rfl rfl (FW.f_extract hk (FW.holds_nil _) rfl rfl) ?_; clear hk; intro a w hk
      refine FW.lfun (y := .lit (.int .i64 t5.2)) hk rfl rfl rfl rfl (FW.f_extract hk (FW.holds_nil _) rfl rfl) ?_; clear hk; intro a w hk
      refine FW.lfun (y := .lit (.string (FW.B t5.1))) hk rfl rfl rfl rfl (FW.f_assign hk (FW.holds_nil _) rfl) ?_; clear hk; intro a w hk
      refine FW.lfun (y := .lit (.int .i64 t5.2)) hk rfl rfl rfl rfl (FW.f_assign hk (FW.holds_nil _) rfl) ?_; clear hk; intro a w hk
      refine FW.lend (hK23 _ _ ?_); clear hK23 K'
      refine FW.wseq ?_; intro K' hK24
      refine FW.wreg ?_; intro K' hK25
      refine FW.lfun (y := .lit (.string (FW.B t5.1))) hk rfl rfl rfl rfl (FW.f_move hk (FW.holds_nil _) rfl) ?_; clear hk; intro a w hk
      refine FW.lfun (y := .lit (.int .i64 (List.length t5.1 : Int))) hk rfl rfl rfl rfl ((FW.f_pure (FW.p_slen Go.Proofs.Try.underlying9 hk.kn (FW.holds_nil _) rfl))) ?_; clear hk; intro a w hk
      refine FW.lfun (y := .lit (.bool (decide (500 < (List.length t5.1 : Int))))) hk rfl rfl rfl rfl ((FW.f_pure (FW.p_gtr hk.kn (FW.holds_nil _) rfl rfl))) ?_; clear hk; intro a w hk
      refine FW.lend (hK25 _ _ ?_); clear hK25 K'
      refine FW.wcondF (b := (decide (500 < (List.length t5.1 : Int)))) hk h rfl (fun h hb => ?_) (fun h hb => ?_)
      · skip
        refine FW.wreg ?_; intro K' hK26
        refine FW.lfun (y := .agg ((ApiWord.cells (⟨0, [], 0, 0, 0⟩ : ApiWord)))) hk rfl rfl rfl rfl (FW.f_build hk (FW.holds_nil _) rfl rfl) ?_; clear hk; intro a w hk
        refine FW.l_store (I' := [FW.blk b1 52 ((ApiWord.cells (⟨0, [], 0, 0, 0⟩ : ApiWord)))]) (cs' := (ApiWord.cells (⟨0, [], 0, 0, 0⟩ : ApiWord))) (j := 0) hk rfl rfl rfl rfl rfl (by kernel_rfl) rfl rfl ?_; clear hk; intro w hk
        refine FW.lfun (y := .lit (.int .i64 0)) hk rfl rfl rfl rfl (FW.f_assign hk (FW.holds_nil _) rfl) ?_; clear hk; intro a w hk
        refine FW.lend (hK26 _ _ ?_); clear hK26 K'
        refine wp_ret ?_
        (repeat first | refine FW.then_ret ?_ | refine FW.block_ret ?_)
        obtain rfl := Option.some.inj h
        exact FW.fretR2 hk rfl (FW.rcell hk rfl (j := 0) rfl Go.Proofs.Try.underlying52 rfl (by kernel_rfl)) (FW.rtmp hk rfl)
      · skip
        refine wp_skip ?_
        (repeat first | refine FW.then_normal ?_ | refine FW.block_normal ?_); refine hK24 _ _ ?_
        refine FW.wreg ?_; intro K' hK27
        refine FW.lfun (y := .lit (.string (FW.B t5.1))) hk rfl rfl rfl rfl (FW.f_move hk (FW.holds_nil _) rfl) ?_; clear hk; intro a w hk
        refine FW.lfun (y := .agg ((ApiWord.cells (⟨4, t5.1, 0, 0, 0⟩ : ApiWord)))) hk rfl rfl rfl rfl (FW.f_build hk (FW.holds_nil _) rfl rfl) ?_; clear hk; intro a w hk
        refine FW.lfun (y := .lit (.int .i64 t5.2)) hk rfl rfl rfl rfl (FW.f_move hk (FW.holds_nil _) rfl) ?_; clear hk; intro a w hk
        refine FW.l_store (I' := [FW.blk b1 52 ((ApiWord.cells (⟨4, t5.1, 0, 0, 0⟩ : ApiWord)))]) (cs' := (ApiWord.cells (⟨4, t5.1, 0, 0, 0⟩ : ApiWord))) (j := 0) hk rfl rfl rfl rfl rfl (by kernel_rfl) rfl rfl ?_; clear hk; intro w hk
        refine FW.lfun (y := .lit (.int .i64 t5.2)) hk rfl rfl rfl rfl (FW.f_assign hk (FW.holds_nil _) rfl) ?_; clear hk; intro a w hk
        refine FW.lend (hK27 _ _ ?_); clear hK27 K'
        refine wp_ret ?_
        (repeat first | refine FW.then_ret ?_ | refine FW.block_ret ?_)
        obtain rfl := Option.some.inj h
        exact FW.fretR2 hk rfl (FW.rcell hk rfl (j := 0) rfl Go.Proofs.Try.underlying52 rfl (by kernel_rfl)) (FW.rtmp hk rfl)
    · skip
      refine FW.wreg ?_; intro K' hK28
      refine FW.lfun (y := .lit (.int .u8 (FW.bt v0 0))) hk rfl rfl rfl rfl (FW.f_move hk (FW.holds_nil _) rfl) ?_; clear hk; intro a w hk
      refine FW.lfun (y := .lit (.bool (decide ((FW.bt v0 0) = 45)))) hk rfl rfl rfl rfl ((FW.f_pure (FW.p_eql hk.kn (FW.holds_nil _) rfl rfl))) ?_; clear hk; intro a w hk
      refine FW.lfun (y := .lit (.bool (decide ((FW.bt v0 0) = 45)))) hk rfl rfl rfl rfl (FW.f_move hk (FW.holds_nil _) rfl) ?_; clear hk; intro a w hk
      refine FW.lfunG (y := .lit (.int .u8 (FW.bt v0 0))) hk rfl rfl rfl rfl rfl rfl rfl rfl (fun hc => FW.f_move hk hc rfl) ?_; clear hk; intro a w hk
      refine FW.lfunG (y := .lit (.bool (decide (48 ≤ (FW.bt v0 0))))) hk rfl rfl rfl rfl rfl rfl rfl rfl (fun hc => (FW.f_pure (FW.p_geq hk.kn hc rfl rfl))) ?_; clear hk; intro a w hk
      refine FW.lfunG (y := .lit (.bool (decide (48 ≤ (FW.bt v0 0))))) hk rfl rfl rfl rfl rfl rfl rfl rfl (fun hc => FW.f_move hk hc rfl) ?_; clear hk; intro a w hk
      refine FW.lfunG (y := .lit (.int .u8 (FW.bt v0 0))) hk rfl rfl rfl rfl rfl rfl rfl rfl (fun hc => FW.f_move hk hc rfl) ?_; clear hk; intro a w hk
      refine FW.lfunG (y := .lit (.bool (decide ((FW.bt v0 0) ≤ 57)))) hk rfl rfl rfl rfl rfl rfl rfl rfl (fun hc => (FW.f_pure (FW.p_leq hk.kn hc rfl rfl))) ?_; clear hk; intro a w hk
      refine FW.lfunG (y := .lit (.bool ((decide (48 ≤ (FW.bt v0 0))) && (decide ((FW.bt v0 0) ≤ 57))))) hk rfl rfl rfl rfl rfl rfl rfl rfl (fun hc => (FW.f_pure (FW.p_pick_and hk.kn hc rfl rfl))) ?_; clear hk; intro a w hk
      refine FW.lfun (y := .lit (.bool ((decide ((FW.bt v0 0) = 45)) || ((decide (48 ≤ (FW.bt v0 0))) && (decide ((FW.bt v0 0) ≤ 57)))))) hk rfl rfl rfl rfl ((FW.f_pure (FW.p_pick_or hk.kn (FW.holds_nil _) rfl rfl))) ?_; clear hk; intro a w hk
      refine FW.lfun (y := .lit (.bool ((decide ((FW.bt v0 0) = 45)) || ((decide (48 ≤ (FW.bt v0 0))) && (decide ((FW.bt v0 0) ≤ 57)))))) hk rfl rfl rfl rfl (FW.f_assign hk (FW.holds_nil _) rfl) ?_; clear hk; intro a w hk
      refine FW.lend (hK28 _ _ ?_); clear hK28 K'
      refine FW.wcondF (b := ((decide ((FW.bt v0 0) = 45)) || ((decide (48 ≤ (FW.bt v0 0))) && (decide ((FW.bt v0 0) ≤ 57))))) hk h rfl (fun h hb => ?_) (fun h hb => ?_)
      · skip
        refine FW.wreg ?_; intro K' hK29
        refine FW.lfun (y := .lit (.int .i64 1)) hk rfl rfl rfl rfl (FW.f_assign hk (FW.holds_nil _) rfl) ?_; clear hk; intro a w hk
        refine FW.lend (hK29 _ _ ?_); clear hK29 K'
        refine FW.wseq ?_; intro K' hK30
        refine wp_block ?_
        refine FW.wloop (T := Nat × ApiWord × List UInt8 × Int) (fun x a w => match x with | (kl2, y1, v0, v13) => FW.S M w0 a w 189 [FW.blk b1 52 ((ApiWord.cells y1))] [(0, [], .lit (.string (FW.B v0))), (2, [], .lit (.pointer (some ⟨b1, 0, none⟩))), (13, [], .lit (.int .i64 v13))] ∧ offshootref11_one.l2 K kl2 y1 v0 v13 = some r) (fun x => x.1) (K, (⟨0, [], 0, 0, 0⟩ : ApiWord), v0, 1) ⟨hk.sub ⟨rfl, rfl, rfl, trivial⟩, h⟩ ?_
        clear hk h
        rintro ⟨kl2, y1, v0, v13⟩ a w ⟨hk, h⟩ K' hK31
        cases kl2 with
        | zero => simp [offshootref11_one.l2] at h
        | succ kl2 =>
        rw [offshootref11_one.l2.eq_2] at h
        refine FW.wseq ?_; intro K' hK32
        refine FW.wreg ?_; intro K' hK33
        refine FW.lfun (y := .lit (.int .i64 v13)) hk rfl rfl rfl rfl (FW.f_move hk (FW.holds_nil _) rfl) ?_; clear hk; intro a w hk
        refine FW.lfun (y := .lit (.string (FW.B v0))) hk rfl rfl rfl rfl (FW.f_move hk (FW.holds_nil _) rfl) ?_; clear hk; intro a w hk
        refine FW.lfun (y := .lit (.int .i64 (List.length v0 : Int))) hk rfl rfl rfl rfl ((FW.f_pure (FW.p_slen Go.Proofs.Try.underlying9 hk.kn (FW.holds_nil _) rfl))) ?_; clear hk; intro a w hk
        refine FW.lfun (y := .lit (.bool (decide (v13 < (List.length v0 : Int))))) hk rfl rfl rfl rfl ((FW.f_pure (FW.p_lss hk.kn (FW.holds_nil _) rfl rfl))) ?_; clear hk; intro a w hk
        refine FW.lfun (y := .lit (.bool (decide (v13 < (List.length v0 : Int))))) hk rfl rfl rfl rfl (FW.f_move hk (FW.holds_nil _) rfl) ?_; clear hk; intro a w hk
        refine FW.lfunG (y := .lit (.string (FW.B v0))) hk rfl rfl rfl rfl rfl rfl rfl rfl (fun hc => FW.f_move hk hc rfl) ?_; clear hk; intro a w hk
        refine FW.lfunG (y := .lit (.int .i64 v13)) hk rfl rfl rfl rfl rfl rfl rfl rfl (fun hc => FW.f_move hk hc rfl) ?_; clear hk; intro a w hk
        obtain ⟨hc6, h⟩ := FW.chk h
        refine FW.lfunG (y := .lit (.int .u8 (FW.bt v0 v13))) hk rfl rfl rfl rfl rfl rfl rfl rfl (fun hc => (FW.f_pure (FW.p_index Go.Proofs.Try.underlying9 hk.kn hc rfl rfl hc6))) ?_; clear hk; intro a w hk
        refine FW.lfunG (y := .lit (.bool (decide (48 ≤ (FW.bt v0 v13))))) hk rfl rfl rfl rfl rfl rfl rfl rfl (fun hc => (FW.f_pure (FW.p_geq hk.kn hc rfl rfl))) ?_; clear hk; intro a w hk
        refine FW.lfun (y := .lit (.bool ((decide (v13 < (List.length v0 : Int))) && (decide (48 ≤ (FW.bt v0 v13)))))) hk rfl rfl rfl rfl ((FW.f_pure (FW.p_pick_and hk.kn (FW.holds_nil _) rfl rfl))) ?_; clear hk; intro a w hk
        refine FW.lfun (y := .lit (.bool ((decide (v13 < (List.length v0 : Int))) && (decide (48 ≤ (FW.bt v0 v13)))))) hk rfl rfl rfl rfl (FW.f_move hk (FW.holds_nil _) rfl) ?_; clear hk; intro a w hk
        refine FW.lfunG (y := .lit (.string (FW.B v0))) hk rfl rfl rfl rfl rfl rfl rfl rfl (fun hc => FW.f_move hk hc rfl) ?_; clear hk; intro a w hk
        refine FW.lfunG (y := .lit (.int .i64 v13)) hk rfl rfl rfl rfl rfl rfl rfl rfl (fun hc => FW.f_move hk hc rfl) ?_; clear hk; intro a w hk
        obtain ⟨hc7, h⟩ := FW.chk h
        refine FW.lfunG (y := .lit (.int .u8 (FW.bt v0 v13))) hk rfl rfl rfl rfl rfl rfl rfl rfl (fun hc => (FW.f_pure (FW.p_index Go.Proofs.Try.underlying9 hk.kn hc rfl rfl hc7))) ?_; clear hk; intro a w hk
        refine FW.lfunG (y := .lit (.bool (decide ((FW.bt v0 v13) ≤ 57)))) hk rfl rfl rfl rfl rfl rfl rfl rfl (fun hc => (FW.f_pure (FW.p_leq hk.kn hc rfl rfl))) ?_; clear hk; intro a w hk
        refine FW.lfun (y := .lit (.bool (((decide (v13 < (List.length v0 : Int))) && (decide (48 ≤ (FW.bt v0 v13)))) && (decide ((FW.bt v0 v13) ≤ 57))))) hk rfl rfl rfl rfl ((FW.f_pure (FW.p_pick_and hk.kn (FW.holds_nil _) rfl rfl))) ?_; clear hk; intro a w hk
        refine FW.lend (hK33 _ _ ?_); clear hK33 K'
        refine FW.wcondF (b := (((decide (v13 < (List.length v0 : Int))) && (decide (48 ≤ (FW.bt v0 v13)))) && (decide ((FW.bt v0 v13) ≤ 57)))) hk h rfl (fun h hb => ?_) (fun h hb => ?_)
        · skip
          refine wp_skip ?_
          (repeat first | refine FW.then_normal ?_ | refine FW.block_normal ?_); refine hK32 _ _ ?_
          refine wp_block ?_
          refine FW.wreg1 ?_
          refine FW.lfun (y := .lit (.int .i64 v13)) hk rfl rfl rfl rfl (FW.f_move hk (FW.holds_nil _) rfl) ?_; clear hk; intro a w hk
          refine FW.lfun (y := .lit (.int .i64 (IntKind.wrap .i64 (v13 + 1)))) hk rfl rfl rfl rfl ((FW.f_pure (FW.p_add hk.kn (FW.holds_nil _) rfl rfl))) ?_; clear hk; intro a w hk
          refine FW.lfun (y := .lit (.int .i64 (IntKind.wrap .i64 (v13 + 1)))) hk rfl rfl rfl rfl (FW.f_assign hk (FW.holds_nil _) rfl) ?_; clear hk; intro a w hk
          refine wpList_nil ?_
          (repeat first | refine FW.then_normal ?_ | refine FW.block_normal ?_); exact hK31 (kl2, y1, v0, (IntKind.wrap .i64 (v13 + 1))) _ _ (Nat.lt_succ_self _) ⟨hk.sub ⟨rfl, rfl, rfl, trivial⟩, h⟩
        · skip
          refine wp_exit ?_; (repeat first | refine FW.then_exit ?_ | refine FW.block_exit_ne rfl ?_); refine FW.block_exit ?_
          (repeat first | refine FW.then_normal ?_ | refine FW.block_normal ?_); refine hK30 _ _ ?_
          refine FW.wreg ?_; intro K' hK35
          refine FW.lfun (y := .lit (.string (FW.B v0))) hk rfl rfl rfl rfl (FW.f_move hk (FW.holds_nil _) rfl) ?_; clear hk; intro a w hk
          refine FW.lfun (y := .lit (.int .i64 v13)) hk rfl rfl rfl rfl (FW.f_move hk (FW.holds_nil _) rfl) ?_; clear hk; intro a w hk
          obtain ⟨hc8, h⟩ := FW.chk h
          refine FW.lfun (y := .lit (.string (FW.B (List.take (Int.toNat v13) v0)))) hk rfl rfl rfl rfl ((FW.f_pure (FW.p_slice_hi Go.Proofs.Try.underlying9 hk.kn (FW.holds_nil _) rfl rfl hc8))) ?_; clear hk; intro a w hk
          obtain ⟨t6, hr_t6, h⟩ := FW.bnd h
          refine FW.lfun (y := .tup [.lit (.int .i64 t6.1), .lit (.bool t6.2)]) hk rfl rfl rfl rfl (FW.f_call hk (FW.holds_nil _) rfl rfl Go.Proofs.Try.func18 rfl (by kernel_rfl) (offshootref11_Int.ok K (List.take (Int.toNat v13) v0) _ hr_t6)) ?_; clear hk; intro a w hk
          refine FW.lfun (y := .tup [.lit (.int .i64 t6.1), .lit (.bool t6.2)]) hk rfl rfl rfl rfl (FW.f_move hk (FW.holds_nil _) rfl) ?_; clear hk; intro a w hk
          refine FW.lfun (y := .lit (.int .i64 t6.1)) hk rfl rfl rfl rfl (FW.f_extract hk (FW.holds_nil _) rfl rfl) ?_; clear hk; intro a w hk
          refine FW.lfun (y := .lit (.bool t6.2)) hk rfl rfl rfl rfl (FW.f_extract hk (FW.holds_nil _) rfl rfl) ?_; clear hk; intro a w hk
          refine FW.lfun (y := .lit (.int .i64 t6.1)) hk rfl rfl rfl rfl (FW.f_assign hk (FW.holds_nil _) rfl) ?_; clear hk; intro a w hk
          refine FW.lfun (y := .lit (.bool t6.2)) hk rfl rfl rfl rfl (FW.f_assign hk (FW.holds_nil _) rfl) ?_; clear hk; intro a w hk
          refine FW.lend (hK35 _ _ ?_); clear hK35 K'
          refine FW.wseq ?_; intro K' hK36
          refine FW.wreg ?_; intro K' hK37
          refine FW.lfun (y := .lit (.bool t6.2)) hk rfl rfl rfl rfl (FW.f_move hk (FW.holds_nil _) rfl) ?_; clear hk; intro a w hk
          refine FW.lfun (y := .lit (.bool (!t6.2))) hk rfl rfl rfl rfl ((FW.f_pure (FW.p_not hk.kn (FW.holds_nil _) rfl))) ?_; clear hk; intro a w hk
          refine FW.lend (hK37 _ _ ?_); clear hK37 K'
          refine FW.wcondF (b := (!t6.2)) hk h rfl (fun h hb => ?_) (fun h hb => ?_)
          · skip
            refine FW.wreg ?_; intro K' hK38
            refine FW.lfun (y := .agg ((ApiWord.cells (⟨0, [], 0, 0, 0⟩ : ApiWord)))) hk rfl rfl rfl rfl (FW.f_build hk (FW.holds_nil _) rfl rfl) ?_; clear hk; intro a w hk
            refine FW.l_store (I' := [FW.blk b1 52 ((ApiWord.cells (⟨0, [], 0, 0, 0⟩ : ApiWord)))]) (cs' := (ApiWord.cells (⟨0, [], 0, 0, 0⟩ : ApiWord))) (j := 0) hk rfl rfl rfl rfl rfl (by kernel_rfl) rfl rfl ?_; clear hk; intro w hk
            refine FW.lfun (y := .lit (.int .i64 0)) hk rfl rfl rfl rfl (FW.f_assign hk (FW.holds_nil _) rfl) ?_; clear hk; intro a w hk
            refine FW.lend (hK38 _ _ ?_); clear hK38 K'
            refine wp_ret ?_
            (repeat first | refine FW.then_ret ?_ | refine FW.block_ret ?_)
            obtain rfl := Option.some.inj h
            exact FW.fretR2 hk rfl (FW.rcell hk rfl (j := 0) rfl Go.Proofs.Try.underlying52 rfl (by kernel_rfl)) (FW.rtmp hk rfl)
          · skip
            refine wp_skip ?_
            (repeat first | refine FW.then_normal ?_ | refine FW.block_normal ?_); refine hK36 _ _ ?_
            refine FW.wreg ?_; intro K' hK39
            refine FW.lfun (y := .lit (.int .i64 t6.1)) hk rfl rfl rfl rfl (FW.f_move hk (FW.holds_nil _) rfl) ?_; clear hk; intro a w hk
            refine FW.lfun (y := .agg ((ApiWord.cells (⟨2, [], t6.1, 0, 0⟩ : ApiWord)))) hk rfl rfl rfl rfl (FW.f_build hk (FW.holds_nil _) rfl rfl) ?_; clear hk; intro a w hk
            refine FW.lfun (y := .lit (.int .i64 v13)) hk rfl rfl rfl rfl (FW.f_move hk (FW.holds_nil _) rfl) ?_; clear hk; intro a w hk
            refine FW.l_store (I' := [FW.blk b1 52 ((ApiWord.cells (⟨2, [], t6.1, 0, 0⟩ : ApiWord)))]) (cs' := (ApiWord.cells (⟨2, [], t6.1, 0, 0⟩ : ApiWord))) (j := 0) hk rfl rfl rfl rfl rfl (by kernel_rfl) rfl rfl ?_; clear hk; intro w hk
            refine FW.lfun (y := .lit (.int .i64 v13)) hk rfl rfl rfl rfl (FW.f_assign hk (FW.holds_nil _) rfl) ?_; clear hk; intro a w hk
            refine FW.lend (hK39 _ _ ?_); clear hK39 K'
            refine wp_ret ?_
            (repeat first | refine FW.then_ret ?_ | refine FW.block_ret ?_)
            obtain rfl := Option.some.inj h
            exact FW.fretR2 hk rfl (FW.rcell hk rfl (j := 0) rfl Go.Proofs.Try.underlying52 rfl (by kernel_rfl)) (FW.rtmp hk rfl)
      · skip
        refine FW.wreg ?_; intro K' hK40
        refine FW.lfun (y := .lit (.int .u8 (FW.bt v0 0))) hk rfl rfl rfl rfl (FW.f_move hk (FW.holds_nil _) rfl) ?_; clear hk; intro a w hk
        obtain ⟨t7, hr_t7, h⟩ := FW.bnd h
        refine FW.lfun (y := .lit (.bool t7)) hk rfl rfl rfl rfl (FW.f_call hk (FW.holds_nil _) rfl rfl Go.Proofs.Try.func63 rfl (by kernel_rfl) (offshootref11_letter.ok (FW.bt v0 0) _ hr_t7)) ?_; clear hk; intro a w hk
        refine FW.lfun (y := .lit (.bool t7)) hk rfl rfl rfl rfl (FW.f_assign hk (FW.holds_nil _) rfl) ?_; clear hk; intro a w hk
        refine FW.lend (hK40 _ _ ?_); clear hK40 K'
        refine FW.wcondF (b := t7) hk h rfl (fun h hb => ?_) (fun h hb => ?_)
        · skip
          refine FW.wreg ?_; intro K' hK41
          refine FW.lfun (y := .lit (.int .i64 1)) hk rfl rfl rfl rfl (FW.f_assign hk (FW.holds_nil _) rfl) ?_; clear hk; intro a w hk
          refine FW.lend (hK41 _ _ ?_); clear hK41 K'
          refine FW.wseq ?_; intro K' hK42
          refine wp_block ?_
          refine FW.wloop (T := Nat × ApiWord × List UInt8 × Int) (fun x a w => match x with | (kl3, y1, v0, v16) => FW.S M w0 a w 189 [FW.blk b1 52 ((ApiWord.cells y1))] [(0, [], .lit (.string (FW.B v0))), (2, [], .lit (.pointer (some ⟨b1, 0, none⟩))), (16, [], .lit (.int .i64 v16))] ∧ offshootref11_one.l3 K kl3 y1 v0 v16 = some r) (fun x => x.1) (K, (⟨0, [], 0, 0, 0⟩ : ApiWord), v0, 1) ⟨hk.sub ⟨rfl, rfl, rfl, trivial⟩, h⟩ ?_
          clear hk h
          rintro ⟨kl3, y1, v0, v16⟩ a w ⟨hk, h⟩ K' hK43
          cases kl3 with
          | zero => simp [offshootref11_one.l3] at h
          | succ kl3 =>
          rw [offshootref11_one.l3.eq_2] at h
          refine FW.wseq ?_; intro K' hK44
          refine FW.wreg ?_; intro K' hK45
          refine FW.lfun (y := .lit (.int .i64 v16)) hk rfl rfl rfl rfl (FW.f_move hk (FW.holds_nil _) rfl) ?_; clear hk; intro a w hk
          refine FW.lfun (y := .lit (.string (FW.B v0))) hk rfl rfl rfl rfl (FW.f_move hk (FW.holds_nil _) rfl) ?_; clear hk; intro a w hk
          refine FW.lfun (y := .lit (.int .i64 (List.length v0 : Int))) hk rfl rfl rfl rfl ((FW.f_pure (FW.p_slen Go.Proofs.Try.underlying9 hk.kn (FW.holds_nil _) rfl))) ?_; clear hk; intro a w hk
          refine FW.lfun (y := .lit (.bool (decide (v16 < (List.length v0 : Int))))) hk rfl rfl rfl rfl ((FW.f_pure (FW.p_lss hk.kn (FW.holds_nil _) rfl rfl))) ?_; clear hk; intro a w hk
          refine FW.lfun (y := .lit (.bool (decide (v16 < (List.length v0 : Int))))) hk rfl rfl rfl rfl (FW.f_move hk (FW.holds_nil _) rfl) ?_; clear hk; intro a w hk
          refine FW.lfunG (y := .lit (.string (FW.B v0))) hk rfl rfl rfl rfl rfl rfl rfl rfl (fun hc => FW.f_move hk hc rfl) ?_; clear hk; intro a w hk
          refine FW.lfunG (y := .lit (.int .i64 v16)) hk rfl rfl rfl rfl rfl rfl rfl rfl (fun hc => FW.f_move hk hc rfl) ?_; clear hk; intro a w hk
          obtain ⟨hc9, h⟩ := FW.chk h
          refine FW.lfunG (y := .lit (.int .u8 (FW.bt v0 v16))) hk rfl rfl rfl rfl rfl rfl rfl rfl (fun hc => (FW.f_pure (FW.p_index Go.Proofs.Try.underlying9 hk.kn hc rfl rfl hc9))) ?_; clear hk; intro a w hk
          obtain ⟨t8, hr_t8, h⟩ := FW.bndG h
          refine FW.lfunG (y := .lit (.bool t8)) hk rfl rfl rfl rfl rfl rfl rfl rfl (fun hc => FW.f_call hk hc rfl rfl Go.Proofs.Try.func63 rfl (by kernel_rfl) (offshootref11_letter.ok (FW.bt v0 v16) _ (hr_t8 (FW.asm_out (p := (decide (v16 < (List.length v0 : Int))) = true) hk.kn hc (fun e0 => e0))))) ?_; clear hk; intro a w hk
          refine FW.lfun (y := .lit (.bool ((decide (v16 < (List.length v0 : Int))) && t8))) hk rfl rfl rfl rfl ((FW.f_pure (FW.p_pick_and hk.kn (FW.holds_nil _) rfl rfl))) ?_; clear hk; intro a w hk
          refine FW.lend (hK45 _ _ ?_); clear hK45 K'
          refine FW.wcondF (b := ((decide (v16 < (List.length v0 : Int))) && t8)) hk h rfl (fun h hb => ?_) (fun h hb => ?_)
          · skip
            refine wp_skip ?_
            (repeat first | refine FW.then_normal ?_ | refine FW.block_normal ?_); refine hK44 _ _ ?_
            refine wp_block ?_
            refine FW.wreg1 ?_
            refine FW.lfun (y := .lit (.int .i64 v16)) hk rfl rfl rfl rfl (FW.f_move hk (FW.holds_nil _) rfl) ?_; clear hk; intro a w hk
            refine FW.lfun (y := .lit (.int .i64 (IntKind.wrap .i64 (v16 + 1)))) hk rfl rfl rfl rfl ((FW.f_pure (FW.p_add hk.kn (FW.holds_nil _) rfl rfl))) ?_; clear hk; intro a w hk
            refine FW.lfun (y := .lit (.int .i64 (IntKind.wrap .i64 (v16 + 1)))) hk rfl rfl rfl rfl (FW.f_assign hk (FW.holds_nil _) rfl) ?_; clear hk; intro a w hk
            refine wpList_nil ?_
            (repeat first | refine FW.then_normal ?_ | refine FW.block_normal ?_); exact hK43 (kl3, y1, v0, (IntKind.wrap .i64 (v16 + 1))) _ _ (Nat.lt_succ_self _) ⟨hk.sub ⟨rfl, rfl, rfl, trivial⟩, h⟩
          · skip
            refine wp_exit ?_; (repeat first | refine FW.then_exit ?_ | refine FW.block_exit_ne rfl ?_); refine FW.block_exit ?_
            (repeat first | refine FW.then_normal ?_ | refine FW.block_normal ?_); refine hK42 _ _ ?_
            refine FW.wseq ?_; intro K' hK47
            refine FW.wreg ?_; intro K' hK48
            refine FW.lfun (y := .lit (.int .i64 v16)) hk rfl rfl rfl rfl (FW.f_move hk (FW.holds_nil _) rfl) ?_; clear hk; intro a w hk
            refine FW.lfun (y := .lit (.bool (decide (16 < v16)))) hk rfl rfl rfl rfl ((FW.f_pure (FW.p_gtr hk.kn (FW.holds_nil _) rfl rfl))) ?_; clear hk; intro a w hk
            refine FW.lend (hK48 _ _ ?_); clear hK48 K'
            refine FW.wcondF (b := (decide (16 < v16))) hk h rfl (fun h hb => ?_) (fun h hb => ?_)
            · skip
              refine FW.wreg ?_; intro K' hK49
              refine FW.lfun (y := .agg ((ApiWord.cells (⟨0, [], 0, 0, 0⟩ : ApiWord)))) hk rfl rfl rfl rfl (FW.f_build hk (FW.holds_nil _) rfl rfl) ?_; clear hk; intro a w hk
              refine FW.l_store (I' := [FW.blk b1 52 ((ApiWord.cells (⟨0, [], 0, 0, 0⟩ : ApiWord)))]) (cs' := (ApiWord.cells (⟨0, [], 0, 0, 0⟩ : ApiWord))) (j := 0) hk rfl rfl rfl rfl rfl (by kernel_rfl) rfl rfl ?_; clear hk; intro w hk
              refine FW.lfun (y := .lit (.int .i64 0)) hk rfl rfl rfl rfl (FW.f_assign hk (FW.holds_nil _) rfl) ?_; clear hk; intro a w hk
              refine FW.lend (hK49 _ _ ?_); clear hK49 K'
              refine wp_ret ?_
              (repeat first | refine FW.then_ret ?_ | refine FW.block_ret ?_)
              obtain rfl := Option.some.inj h
              exact FW.fretR2 hk rfl (FW.rcell hk rfl (j := 0) rfl Go.Proofs.Try.underlying52 rfl (by kernel_rfl)) (FW.rtmp hk rfl)
            · skip
              refine wp_skip ?_
              (repeat first | refine FW.then_normal ?_ | refine FW.block_normal ?_); refine hK47 _ _ ?_
              refine FW.wreg ?_; intro K' hK50
              refine FW.lfun (y := .lit (.string (FW.B v0))) hk rfl rfl rfl rfl (FW.f_move hk (FW.holds_nil _) rfl) ?_; clear hk; intro a w hk
              refine FW.lfun (y := .lit (.int .i64 v16)) hk rfl rfl rfl rfl (FW.f_move hk (FW.holds_nil _) rfl) ?_; clear hk; intro a w hk
              obtain ⟨hc10, h⟩ := FW.chk h
              refine FW.lfun (y := .lit (.string (FW.B (List.take (Int.toNat v16) v0)))) hk rfl rfl rfl rfl ((FW.f_pure (FW.p_slice_hi Go.Proofs.Try.underlying9 hk.kn (FW.holds_nil _) rfl rfl hc10))) ?_; clear hk; intro a w hk
              refine FW.lfun (y := .agg ((ApiWord.cells (⟨1, (List.take (Int.toNat v16) v0), 0, 0, 0⟩ : ApiWord)))) hk rfl rfl rfl rfl (FW.f_build hk (FW.holds_nil _) rfl rfl) ?_; clear hk; intro a w hk
              refine FW.lfun (y := .lit (.int .i64 v16)) hk rfl rfl rfl rfl (FW.f_move hk (FW.holds_nil _) rfl) ?_; clear hk; intro a w hk
              refine FW.l_store (I' := [FW.blk b1 52 ((ApiWord.cells (⟨1, (List.take (Int.toNat v16) v0), 0, 0, 0⟩ : ApiWord)))]) (cs' := (ApiWord.cells (⟨1, (List.take (Int.toNat v16) v0), 0, 0, 0⟩ : ApiWord))) (j := 0) hk rfl rfl rfl rfl rfl (by kernel_rfl) rfl rfl ?_; clear hk; intro w hk
              refine FW.lfun (y := .lit (.int .i64 v16)) hk rfl rfl rfl rfl (FW.f_assign hk (FW.holds_nil _) rfl) ?_; clear hk; intro a w hk
              refine FW.lend (hK50 _ _ ?_); clear hK50 K'
              refine wp_ret ?_
              (repeat first | refine FW.then_ret ?_ | refine FW.block_ret ?_)
              obtain rfl := Option.some.inj h
              exact FW.fretR2 hk rfl (FW.rcell hk rfl (j := 0) rfl Go.Proofs.Try.underlying52 rfl (by kernel_rfl)) (FW.rtmp hk rfl)
        · skip
          refine FW.wreg ?_; intro K' hK51
          refine FW.lfun (y := .lit (.int .u8 (FW.bt v0 0))) hk rfl rfl rfl rfl (FW.f_move hk (FW.holds_nil _) rfl) ?_; clear hk; intro a w hk
          refine FW.lfun (y := .lit (.bool (decide ((FW.bt v0 0) = 46)))) hk rfl rfl rfl rfl ((FW.f_pure (FW.p_eql hk.kn (FW.holds_nil _) rfl rfl))) ?_; clear hk; intro a w hk
          refine FW.lfun (y := .lit (.bool (decide ((FW.bt v0 0) = 46)))) hk rfl rfl rfl rfl (FW.f_move hk (FW.holds_nil _) rfl) ?_; clear hk; intro a w hk
          refine FW.lfunG (y := .lit (.int .u8 (FW.bt v0 0))) hk rfl rfl rfl rfl rfl rfl rfl rfl (fun hc => FW.f_move hk hc rfl) ?_; clear hk; intro a w hk
          refine FW.lfunG (y := .lit (.bool (decide ((FW.bt v0 0) = 40)))) hk rfl rfl rfl rfl rfl rfl rfl rfl (fun hc => (FW.f_pure (FW.p_eql hk.kn hc rfl rfl))) ?_; clear hk; intro a w hk
          refine FW.lfun (y := .lit (.bool ((decide ((FW.bt v0 0) = 46)) || (decide ((FW.bt v0 0) = 40))))) hk rfl rfl rfl rfl ((FW.f_pure (FW.p_pick_or hk.kn (FW.holds_nil _) rfl rfl))) ?_; clear hk; intro a w hk
          refine FW.lfun (y := .lit (.bool ((decide ((FW.bt v0 0) = 46)) || (decide ((FW.bt v0 0) = 40))))) hk rfl rfl rfl rfl (FW.f_move hk (FW.holds_nil _) rfl) ?_; clear hk; intro a w hk
          refine FW.lfunG (y := .lit (.int .u8 (FW.bt v0 0))) hk rfl rfl rfl rfl rfl rfl rfl rfl (fun hc => FW.f_move hk hc rfl) ?_; clear hk; intro a w hk
          refine FW.lfunG (y := .lit (.bool (decide ((FW.bt v0 0) = 41)))) hk rfl rfl rfl rfl rfl rfl rfl rfl (fun hc => (FW.f_pure (FW.p_eql hk.kn hc rfl rfl))) ?_; clear hk; intro a w hk
          refine FW.lfun (y := .lit (.bool (((decide ((FW.bt v0 0) = 46)) || (decide ((FW.bt v0 0) = 40))) || (decide ((FW.bt v0 0) = 41))))) hk rfl rfl rfl rfl ((FW.f_pure (FW.p_pick_or hk.kn (FW.holds_nil _) rfl rfl))) ?_; clear hk; intro a w hk
          refine FW.lfun (y := .lit (.bool (((decide ((FW.bt v0 0) = 46)) || (decide ((FW.bt v0 0) = 40))) || (decide ((FW.bt v0 0) = 41))))) hk rfl rfl rfl rfl (FW.f_move hk (FW.holds_nil _) rfl) ?_; clear hk; intro a w hk
          refine FW.lfunG (y := .lit (.int .u8 (FW.bt v0 0))) hk rfl rfl rfl rfl rfl rfl rfl rfl (fun hc => FW.f_move hk hc rfl) ?_; clear hk; intro a w hk
          refine FW.lfunG (y := .lit (.bool (decide ((FW.bt v0 0) = 44)))) hk rfl rfl rfl rfl rfl rfl rfl rfl (fun hc => (FW.f_pure (FW.p_eql hk.kn hc rfl rfl))) ?_; clear hk; intro a w hk
          refine FW.lfun (y := .lit (.bool ((((decide ((FW.bt v0 0) = 46)) || (decide ((FW.bt v0 0) = 40))) || (decide ((FW.bt v0 0) = 41))) || (decide ((FW.bt v0 0) = 44))))) hk rfl rfl rfl rfl ((FW.f_pure (FW.p_pick_or hk.kn (FW.holds_nil _) rfl rfl))) ?_; clear hk; intro a w hk
          refine FW.lfun (y := .lit (.bool ((((decide ((FW.bt v0 0) = 46)) || (decide ((FW.bt v0 0) = 40))) || (decide ((FW.bt v0 0) = 41))) || (decide ((FW.bt v0 0) = 44))))) hk rfl rfl rfl rfl (FW.f_move hk (FW.holds_nil _) rfl) ?_; clear hk; intro a w hk
          refine FW.lfunG (y := .lit (.int .u8 (FW.bt v0 0))) hk rfl rfl rfl rfl rfl rfl rfl rfl (fun hc => FW.f_move hk hc rfl) ?_; clear hk; intro a w hk
          refine FW.lfunG (y := .lit (.bool (decide ((FW.bt v0 0) = 91)))) hk rfl rfl rfl rfl rfl rfl rfl rfl (fun hc => (FW.f_pure (FW.p_eql hk.kn hc rfl rfl))) ?_; clear hk; intro a w hk
          refine FW.lfun (y := .lit (.bool (((((decide ((FW.bt v0 0) = 46)) || (decide ((FW.bt v0 0) = 40))) || (decide ((FW.bt v0 0) = 41))) || (decide ((FW.bt v0 0) = 44))) || (decide ((FW.bt v0 0) = 91))))) hk rfl rfl rfl rfl ((FW.f_pure (FW.p_pick_or hk.kn (FW.holds_nil _) rfl rfl))) ?_; clear hk; intro a w hk
          refine FW.lfun (y := .lit (.bool (((((decide ((FW.bt v0 0) = 46)) || (decide ((FW.bt v0 0) = 40))) || (decide ((FW.bt v0 0) = 41))) || (decide ((FW.bt v0 0) = 44))) || (decide ((FW.bt v0 0) = 91))))) hk rfl rfl rfl rfl (FW.f_move hk (FW.holds_nil _) rfl) ?_; clear hk; intro a w hk
          refine FW.lfunG (y := .lit (.int .u8 (FW.bt v0 0))) hk rfl rfl rfl rfl rfl rfl rfl rfl (fun hc => FW.f_move hk hc rfl) ?_; clear hk; intro a w hk
          refine FW.lfunG (y := .lit (.bool (decide ((FW.bt v0 0) = 93)))) hk rfl rfl rfl rfl rfl rfl rfl rfl (fun hc => (FW.f_pure (FW.p_eql hk.kn hc rfl rfl))) ?_; clear hk; intro a w hk
          refine FW.lfun (y := .lit (.bool ((((((decide ((FW.bt v0 0) = 46)) || (decide ((FW.bt v0 0) = 40))) || (decide ((FW.bt v0 0) = 41))) || (decide ((FW.bt v0 0) = 44))) || (decide ((FW.bt v0 0) = 91))) || (decide ((FW.bt v0 0) = 93))))) hk rfl rfl rfl rfl ((FW.f_pure (FW.p_pick_or hk.kn (FW.holds_nil _) rfl rfl))) ?_; clear hk; intro a w hk
          refine FW.lfun (y := .lit (.bool ((((((decide ((FW.bt v0 0) = 46)) || (decide ((FW.bt v0 0) = 40))) || (decide ((FW.bt v0 0) = 41))) || (decide ((FW.bt v0 0) = 44))) || (decide ((FW.bt v0 0) = 91))) || (decide ((FW.bt v0 0) = 93))))) hk rfl rfl rfl rfl (FW.f_assign hk (FW.holds_nil _) rfl) ?_; clear hk; intro a w hk
          refine FW.lend (hK51 _ _ ?_); clear hK51 K'
          refine FW.wcondF (b := ((((((decide ((FW.bt v0 0) = 46)) || (decide ((FW.bt v0 0) = 40))) || (decide ((FW.bt v0 0) = 41))) || (decide ((FW.bt v0 0) = 44))) || (decide ((FW.bt v0 0) = 91))) || (decide ((FW.bt v0 0) = 93)))) hk h rfl (fun h hb => ?_) (fun h hb => ?_)
          · skip
            refine FW.wreg ?_; intro K' hK52
            refine FW.lfun (y := .lit (.string (FW.B v0))) hk rfl rfl rfl rfl (FW.f_move hk (FW.holds_nil _) rfl) ?_; clear hk; intro a w hk
            obtain ⟨hc11, h⟩ := FW.chk h
            refine FW.lfun (y := .lit (.string (FW.B (List.take (Int.toNat 1) v0)))) hk rfl rfl rfl rfl ((FW.f_pure (FW.p_slice_hi Go.Proofs.Try.underlying9 hk.kn (FW.holds_nil _) rfl rfl hc11))) ?_; clear hk; intro a w hk
            refine FW.lfun (y := .agg ((ApiWord.cells (⟨5, (List.take (Int.toNat 1) v0), 0, 0, 0⟩ : ApiWord)))) hk rfl rfl rfl rfl (FW.f_build hk (FW.holds_nil _) rfl rfl) ?_; clear hk; intro a w hk
            refine FW.l_store (I' := [FW.blk b1 52 ((ApiWord.cells (⟨5, (List.take (Int.toNat 1) v0), 0, 0, 0⟩ : ApiWord)))]) (cs' := (ApiWord.cells (⟨5, (List.take (Int.toNat 1) v0), 0, 0, 0⟩ : ApiWord))) (j := 0) hk rfl rfl rfl rfl rfl (by kernel_rfl) rfl rfl ?_; clear hk; intro w hk
            refine FW.lfun (y := .lit (.int .i64 1)) hk rfl rfl rfl rfl (FW.f_assign hk (FW.holds_nil _) rfl) ?_; clear hk; intro a w hk
            refine FW.lend (hK52 _ _ ?_); clear hK52 K'
            refine wp_ret ?_
            (repeat first | refine FW.then_ret ?_ | refine FW.block_ret ?_)
            obtain rfl := Option.some.inj h
            exact FW.fretR2 hk rfl (FW.rcell hk rfl (j := 0) rfl Go.Proofs.Try.underlying52 rfl (by kernel_rfl)) (FW.rtmp hk rfl)
          · skip
            refine wp_skip ?_
            (repeat first | refine FW.then_normal ?_ | refine FW.block_normal ?_); refine hK3 _ _ ?_
            refine FW.wreg ?_; intro K' hK53
            refine FW.lfun (y := .agg ((ApiWord.cells (⟨0, [], 0, 0, 0⟩ : ApiWord)))) hk rfl rfl rfl rfl (FW.f_build hk (FW.holds_nil _) rfl rfl) ?_; clear hk; intro a w hk
            refine FW.l_store (I' := [FW.blk b1 52 ((ApiWord.cells (⟨0, [], 0, 0, 0⟩ : ApiWord)))]) (cs' := (ApiWord.cells (⟨0, [], 0, 0, 0⟩ : ApiWord))) (j := 0) hk rfl rfl rfl rfl rfl (by kernel_rfl) rfl rfl ?_; clear hk; intro w hk
            refine FW.lfun (y := .lit (.int .i64 0)) hk rfl rfl rfl rfl (FW.f_assign hk (FW.holds_nil _) rfl) ?_; clear hk; intro a w hk
            refine FW.lend (hK53 _ _ ?_); clear hK53 K'
            refine wp_ret ?_
            (repeat first | refine FW.then_ret ?_ | refine FW.block_ret ?_)
            obtain rfl := Option.some.inj h
            exact FW.fretR2 hk rfl (FW.rcell hk rfl (j := 0) rfl Go.Proofs.Try.underlying52 rfl (by kernel_rfl)) (FW.rtmp hk rfl)

theorem offshootref11_Words.ok (K : Nat) (v0 : List UInt8) (r : List ApiWord × Int × Int) (h : offshootref11_Words.f K v0 = some r) :
    FW.Ok Go.Proofs.Try.prog 27 [.lit (.string (FW.B v0))] (.tup [.row (r_ApiWord_cells r.1), .lit (.int .i64 r.2.1), .lit (.int .i64 r.2.2)]) := by
  refine FW.enter (xs := [.lit (.string (FW.B v0))]) Go.Proofs.Try.func27 rfl Go.Proofs.Try.ntmps27 rfl ?_
  intro M w0 a hk
  unfold offshootref11_Words.f at h
  refine FW.wreg ?_; intro K' hK1
  refine FW.lfun (y := .row (r_ApiWord_cells [])) hk rfl rfl rfl rfl (FW.f_assignNil) ?_; clear hk; intro a w hk
  refine FW.lfun (y := .lit (.int .i64 0)) hk rfl rfl rfl rfl (FW.f_assign hk (FW.holds_nil _) rfl) ?_; clear hk; intro a w hk
  refine FW.lfun (y := .lit (.int .i64 0)) hk rfl rfl rfl rfl (FW.f_assign hk (FW.holds_nil _) rfl) ?_; clear hk; intro a w hk
  refine FW.lend (hK1 _ _ ?_); clear hK1 K'
  refine FW.wseq ?_; intro K' hK2
  refine FW.wreg ?_; intro K' hK3
  refine FW.lfun (y := .lit (.string (FW.B v0))) hk rfl rfl rfl rfl (FW.f_move hk (FW.holds_nil _) rfl) ?_; clear hk; intro a w hk
  refine FW.lfun (y := .lit (.int .i64 (List.length v0 : Int))) hk rfl rfl rfl rfl ((FW.f_pure (FW.p_slen Go.Proofs.Try.underlying9 hk.kn (FW.holds_nil _) rfl))) ?_; clear hk; intro a w hk
  refine FW.lfun (y := .lit (.bool (decide (3000 < (List.length v0 : Int))))) hk rfl rfl rfl rfl ((FW.f_pure (FW.p_gtr hk.kn (FW.holds_nil _) rfl rfl))) ?_; clear hk; intro a w hk
  refine FW.lend (hK3 _ _ ?_); clear hK3 K'
  refine FW.wcondF (b := (decide (3000 < (List.length v0 : Int)))) hk h rfl (fun h hb => ?_) (fun h hb => ?_)
  · skip
    refine FW.wreg ?_; intro K' hK4
    refine FW.lfun (y := .row (r_ApiWord_cells [])) hk rfl rfl rfl rfl (FW.f_assignNil) ?_; clear hk; intro a w hk
    refine FW.lfun (y := .lit (.int .i64 3000)) hk rfl rfl rfl rfl (FW.f_assign hk (FW.holds_nil _) rfl) ?_; clear hk; intro a w hk
    refine FW.lfun (y := .lit (.int .i64 3)) hk rfl rfl rfl rfl (FW.f_assign hk (FW.holds_nil _) rfl) ?_; clear hk; intro a w hk
    refine FW.lend (hK4 _ _ ?_); clear hK4 K'
    refine wp_ret ?_
    (repeat first | refine FW.then_ret ?_ | refine FW.block_ret ?_)
    obtain rfl := Option.some.inj h
    exact FW.fret3 hk rfl rfl rfl rfl
  · skip
    refine wp_skip ?_
    (repeat first | refine FW.then_normal ?_ | refine FW.block_normal ?_); refine hK2 _ _ ?_
    refine FW.wreg ?_; intro K' hK5
    refine FW.l_buildSlice0 (f := ApiWord.cells) hk rfl rfl Go.Proofs.Try.underlying48 rfl (fun _ => rfl) ?_; clear hk; intro b1 a w hk
    refine FW.lfun (y := .lit (.slice (some ⟨b1, 0, none⟩) (List.length ([] : List ApiWord)) 0)) hk rfl rfl rfl rfl (FW.f_assign hk (FW.holds_nil _) rfl) ?_; clear hk; intro a w hk
    refine FW.lend (hK5 _ _ ?_); clear hK5 K'
    refine FW.wseq ?_; intro K' hK6
    refine FW.wreg ?_; intro K' hK7
    refine FW.lfun (y := .lit (.int .i64 0)) hk rfl rfl rfl rfl (FW.f_assign hk (FW.holds_nil _) rfl) ?_; clear hk; intro a w hk
    refine FW.lend (hK7 _ _ ?_); clear hK7 K'
    refine wp_block ?_
    refine FW.wloop (T := Nat × List ApiWord × List UInt8 × Int × Option Addr × Nat) (fun x a w => match x with | (kl1, l1, v0, v6, ad1, cap1) => FW.S M w0 a w 52 [FW.orow ad1 cap1 52 5 ApiWord.cells l1] [(0, [], .lit (.string (FW.B v0))), (5, [], .lit (.slice ad1 (List.length l1) cap1)), (6, [], .lit (.int .i64 v6))] ∧ offshootref11_Words.l1 K kl1 l1 v0 v6 = some r) (fun x => x.1) (K, ([] : List ApiWord), v0, 0, (some ⟨b1, 0, none⟩), 0) ⟨hk.sub ⟨rfl, rfl, rfl, trivial⟩, h⟩ ?_
    clear hk h
    rintro ⟨kl1, l1, v0, v6, ad1, cap1⟩ a w ⟨hk, h⟩ K' hK8
    cases kl1 with
    | zero => simp [offshootref11_Words.l1] at h
    | succ kl1 =>
    rw [offshootref11_Words.l1.eq_2] at h
    refine FW.wseq ?_; intro K' hK9
    refine FW.wreg ?_; intro K' hK10
    refine FW.lfun (y := .lit (.int .i64 v6)) hk rfl rfl rfl rfl (FW.f_move hk (FW.holds_nil _) rfl) ?_; clear hk; intro a w hk
    refine FW.lfun (y := .lit (.string (FW.B v0))) hk rfl rfl rfl rfl (FW.f_move hk (FW.holds_nil _) rfl) ?_; clear hk; intro a w hk
    refine FW.lfun (y := .lit (.int .i64 (List.length v0 : Int))) hk rfl rfl rfl rfl ((FW.f_pure (FW.p_slen Go.Proofs.Try.underlying9 hk.kn (FW.holds_nil _) rfl))) ?_; clear hk; intro a w hk
    refine FW.lfun (y := .lit (.bool (decide (v6 < (List.length v0 : Int))))) hk rfl rfl rfl rfl ((FW.f_pure (FW.p_lss hk.kn (FW.holds_nil _) rfl rfl))) ?_; clear hk; intro a w hk
    refine FW.lend (hK10 _ _ ?_); clear hK10 K'
    refine FW.wcondF (b := (decide (v6 < (List.length v0 : Int)))) hk h rfl (fun h hb => ?_) (fun h hb => ?_)
    · skip
      refine wp_skip ?_
      (repeat first | refine FW.then_normal ?_ | refine FW.block_normal ?_); refine hK9 _ _ ?_
      refine wp_block ?_
      refine FW.wseq ?_; intro K' hK11
      refine FW.wreg ?_; intro K' hK12
      refine FW.lfun (y := .lit (.string (FW.B v0))) hk rfl rfl rfl rfl (FW.f_move hk (FW.holds_nil _) rfl) ?_; clear hk; intro a w hk
      refine FW.lfun (y := .lit (.int .i64 v6)) hk rfl rfl rfl rfl (FW.f_move hk (FW.holds_nil _) rfl) ?_; clear hk; intro a w hk
      obtain ⟨hc1, h⟩ := FW.chk h
      refine FW.lfun (y := .lit (.int .u8 (FW.bt v0 v6))) hk rfl rfl rfl rfl ((FW.f_pure (FW.p_index Go.Proofs.Try.underlying9 hk.kn (FW.holds_nil _) rfl rfl hc1))) ?_; clear hk; intro a w hk
      refine FW.lfun (y := .lit (.bool (decide ((FW.bt v0 v6) = 32)))) hk rfl rfl rfl rfl ((FW.f_pure (FW.p_eql hk.kn (FW.holds_nil _) rfl rfl))) ?_; clear hk; intro a w hk
      refine FW.lend (hK12 _ _ ?_); clear hK12 K'
      refine FW.wcondF (b := (decide ((FW.bt v0 v6) = 32))) hk h rfl (fun h hb => ?_) (fun h hb => ?_)
      · skip
        refine FW.wreg ?_; intro K' hK13
        refine FW.lfun (y := .lit (.int .i64 v6)) hk rfl rfl rfl rfl (FW.f_move hk (FW.holds_nil _) rfl) ?_; clear hk; intro a w hk
        refine FW.lfun (y := .lit (.int .i64 (IntKind.wrap .i64 (v6 + 1)))) hk rfl rfl rfl rfl ((FW.f_pure (FW.p_add hk.kn (FW.holds_nil _) rfl rfl))) ?_; clear hk; intro a w hk
        refine FW.lfun (y := .lit (.int .i64 (IntKind.wrap .i64 (v6 + 1)))) hk rfl rfl rfl rfl (FW.f_assign hk (FW.holds_nil _) rfl) ?_; clear hk; intro a w hk
        refine FW.lend (hK13 _ _ ?_); clear hK13 K'
        refine wp_exit ?_; (repeat first | refine FW.then_exit ?_ | refine FW.block_exit_ne rfl ?_); refine FW.block_exit ?_
        (repeat first | refine FW.then_normal ?_ | refine FW.block_normal ?_); exact hK8 (kl1, l1, v0, (IntKind.wrap .i64 (v6 + 1)), ad1, cap1) _ _ (Nat.lt_succ_self _) ⟨hk.sub ⟨rfl, rfl, rfl, trivial⟩, h⟩
      · skip
        refine wp_skip ?_
        (repeat first | refine FW.then_normal ?_ | refine FW.block_normal ?_); refine hK11 _ _ ?_
        refine FW.wreg ?_; intro K' hK14
        refine FW.lfun (y := .lit (.string (FW.B v0))) hk rfl rfl rfl rfl (FW.f_move hk (FW.holds_nil _) rfl) ?_; clear hk; intro a w hk
        refine FW.lfun (y := .lit (.int .i64 v6)) hk rfl rfl rfl rfl (FW.f_move hk (FW.holds_nil _) rfl) ?_; clear hk; intro a w hk
        obtain ⟨hc2, h⟩ := FW.chk h
        refine FW.lfun (y := .lit (.string (FW.B (List.drop (Int.toNat v6) v0)))) hk rfl rfl rfl rfl ((FW.f_pure (FW.p_slice_lo Go.Proofs.Try.underlying9 hk.kn (FW.holds_nil _) rfl rfl hc2))) ?_; clear hk; intro a w hk
        obtain ⟨t1, hr_t1, h⟩ := FW.bnd h
        refine FW.lfun (y := .tup [.agg ((ApiWord.cells t1.1)), .lit (.int .i64 t1.2)]) hk rfl rfl rfl rfl (FW.f_call hk (FW.holds_nil _) rfl rfl Go.Proofs.Try.func47 rfl (by kernel_rfl) (offshootref11_one.ok K (List.drop (Int.toNat v6) v0) _ hr_t1)) ?_; clear hk; intro a w hk
        refine FW.lfun (y := .tup [.agg ((ApiWord.cells t1.1)), .lit (.int .i64 t1.2)]) hk rfl rfl rfl rfl (FW.f_move hk (FW.holds_nil _) rfl) ?_; clear hk; intro a w hk
        refine FW.lfun (y := .agg ((ApiWord.cells t1.1))) hk rfl rfl rfl rfl (FW.f_extract hk (FW.holds_nil _) rfl rfl) ?_; clear hk; intro a w hk
        refine FW.lfun (y := .lit (.int .i64 t1.2)) hk rfl rfl rfl rfl (FW.f_extract hk (FW.holds_nil _) rfl rfl) ?_; clear hk; intro a w hk
        refine FW.l_alloc (zs := (ApiWord.cells (⟨0, [], 0, 0, 0⟩ : ApiWord))) [] hk rfl rfl rfl rfl ?_; clear hk; intro b2 a w hk
        refine FW.l_store (I' := [FW.blk b2 52 ((ApiWord.cells t1.1)), FW.orow ad1 cap1 52 5 ApiWord.cells l1]) (cs' := (ApiWord.cells t1.1)) (j := 0) hk rfl rfl rfl rfl rfl (by kernel_rfl) rfl rfl ?_; clear hk; intro w hk
        refine FW.lfun (y := .lit (.int .i64 t1.2)) hk rfl rfl rfl rfl (FW.f_assign hk (FW.holds_nil _) rfl) ?_; clear hk; intro a w hk
        refine FW.lend (hK14 _ _ ?_); clear hK14 K'
        refine FW.wseq ?_; intro K' hK15
        refine FW.wreg ?_; intro K' hK16
        refine FW.lfun (y := .lit (.int .i64 t1.2)) hk rfl rfl rfl rfl (FW.f_move hk (FW.holds_nil _) rfl) ?_; clear hk; intro a w hk
        refine FW.lfun (y := .lit (.bool (decide (t1.2 = 0)))) hk rfl rfl rfl rfl ((FW.f_pure (FW.p_eql hk.kn (FW.holds_nil _) rfl rfl))) ?_; clear hk; intro a w hk
        refine FW.lend (hK16 _ _ ?_); clear hK16 K'
        refine FW.wcondF (b := (decide (t1.2 = 0))) hk h rfl (fun h hb => ?_) (fun h hb => ?_)
        · skip
          refine FW.wreg ?_; intro K' hK17
          refine FW.lfun (y := .lit (.int .i64 v6)) hk rfl rfl rfl rfl (FW.f_move hk (FW.holds_nil _) rfl) ?_; clear hk; intro a w hk
          refine FW.lfun (y := .row (r_ApiWord_cells [])) hk rfl rfl rfl rfl (FW.f_assignNil) ?_; clear hk; intro a w hk
          refine FW.lfun (y := .lit (.int .i64 v6)) hk rfl rfl rfl rfl (FW.f_assign hk (FW.holds_nil _) rfl) ?_; clear hk; intro a w hk
          refine FW.lfun (y := .lit (.int .i64 110)) hk rfl rfl rfl rfl (FW.f_assign hk (FW.holds_nil _) rfl) ?_; clear hk; intro a w hk
          refine FW.lend (hK17 _ _ ?_); clear hK17 K'
          refine wp_ret ?_
          (repeat first | refine FW.then_ret ?_ | refine FW.block_ret ?_)
          obtain rfl := Option.some.inj h
          exact FW.fret3 hk rfl rfl rfl rfl
        · skip
          refine wp_skip ?_
          (repeat first | refine FW.then_normal ?_ | refine FW.block_normal ?_); refine hK15 _ _ ?_
          refine FW.wseq ?_; intro K' hK18
          refine FW.wreg ?_; intro K' hK19
          refine FW.lfun (y := .lit (.slice ad1 (List.length l1) cap1)) hk rfl rfl rfl rfl (FW.f_move hk (FW.holds_nil _) rfl) ?_; clear hk; intro a w hk
          refine FW.lfun (y := .lit (.int .i64 (List.length l1 : Int))) hk rfl rfl rfl rfl ((FW.f_pure (FW.p_len Go.Proofs.Try.underlying48 hk.kn (FW.holds_nil _) rfl))) ?_; clear hk; intro a w hk
          refine FW.lfun (y := .lit (.bool (decide ((List.length l1 : Int) = 1500)))) hk rfl rfl rfl rfl ((FW.f_pure (FW.p_eql hk.kn (FW.holds_nil _) rfl rfl))) ?_; clear hk; intro a w hk
          refine FW.lend (hK19 _ _ ?_); clear hK19 K'
          refine FW.wcondF (b := (decide ((List.length l1 : Int) = 1500))) hk h rfl (fun h hb => ?_) (fun h hb => ?_)
          · skip
            refine FW.wreg ?_; intro K' hK20
            refine FW.lfun (y := .lit (.int .i64 v6)) hk rfl rfl rfl rfl (FW.f_move hk (FW.holds_nil _) rfl) ?_; clear hk; intro a w hk
            refine FW.lfun (y := .row (r_ApiWord_cells [])) hk rfl rfl rfl rfl (FW.f_assignNil) ?_; clear hk; intro a w hk
            refine FW.lfun (y := .lit (.int .i64 v6)) hk rfl rfl rfl rfl (FW.f_assign hk (FW.holds_nil _) rfl) ?_; clear hk; intro a w hk
            refine FW.lfun (y := .lit (.int .i64 3)) hk rfl rfl rfl rfl (FW.f_assign hk (FW.holds_nil _) rfl) ?_; clear hk; intro a w hk
            refine FW.lend (hK20 _ _ ?_); clear hK20 K'
            refine wp_ret ?_
            (repeat first | refine FW.then_ret ?_ | refine FW.block_ret ?_)
            obtain rfl := Option.some.inj h
            exact FW.fret3 hk rfl rfl rfl rfl
          · skip
            refine wp_skip ?_
            (repeat first | refine FW.then_normal ?_ | refine FW.block_normal ?_); refine hK18 _ _ ?_
            refine FW.wreg ?_; intro K' hK21
            refine FW.lfun (y := .lit (.int .i64 v6)) hk rfl rfl rfl rfl (FW.f_move hk (FW.holds_nil _) rfl) ?_; clear hk; intro a w hk
            refine FW.lfun (y := .lit (.pointer (some ⟨b2, 4, none⟩))) hk rfl rfl rfl rfl (FW.f_fieldPtr hk (FW.holds_nil _) rfl Go.Proofs.Try.underlying52 rfl (by kernel_rfl) rfl) ?_; clear hk; intro a w hk
            refine FW.l_store (I' := [FW.blk b2 52 ((ApiWord.cells (⟨t1.1.Kind, t1.1.S, t1.1.N, t1.1.F, v6⟩ : ApiWord))), FW.orow ad1 cap1 52 5 ApiWord.cells l1]) (cs' := (ApiWord.cells (⟨t1.1.Kind, t1.1.S, t1.1.N, t1.1.F, v6⟩ : ApiWord))) (j := 0) hk rfl rfl rfl rfl rfl (by kernel_rfl) rfl rfl ?_; clear hk; intro w hk
            refine FW.lend (hK21 _ _ ?_); clear hK21 K'
            refine FW.wreg1 ?_
            refine FW.lfun (y := .lit (.slice ad1 (List.length l1) cap1)) hk rfl rfl rfl rfl (FW.f_move hk (FW.holds_nil _) rfl) ?_; clear hk; intro a w hk
            refine FW.lfun (y := .agg ((ApiWord.cells (⟨t1.1.Kind, t1.1.S, t1.1.N, t1.1.F, v6⟩ : ApiWord)))) hk rfl rfl rfl rfl (FW.f_loadBlk hk (FW.holds_nil _) (j := 0) rfl rfl Go.Proofs.Try.underlying52 rfl rfl rfl rfl) ?_; clear hk; intro a w hk
            refine FW.l_buildSlice (f := ApiWord.cells) (l := ([(⟨t1.1.Kind, t1.1.S, t1.1.N, t1.1.F, v6⟩ : ApiWord)] : List ApiWord)) hk rfl rfl rfl Go.Proofs.Try.underlying48 rfl rfl rfl rfl (fun _ => rfl) rfl ?_; clear hk; intro b3 a w hk
            obtain ⟨hc3, h⟩ := FW.chk h
            refine FW.l_append (l2 := ([(⟨t1.1.Kind, t1.1.S, t1.1.N, t1.1.F, v6⟩ : ApiWord)] : List ApiWord)) (l3 := (l1 ++ ([(⟨t1.1.Kind, t1.1.S, t1.1.N, t1.1.F, v6⟩ : ApiWord)] : List ApiWord))) (I' := fun ad1 cap1 => [FW.orow (some ⟨b3, 0, none⟩) 1 52 5 ApiWord.cells ([(⟨t1.1.Kind, t1.1.S, t1.1.N, t1.1.F, v6⟩ : ApiWord)] : List ApiWord), FW.blk b2 52 ((ApiWord.cells (⟨t1.1.Kind, t1.1.S, t1.1.N, t1.1.F, v6⟩ : ApiWord))), FW.orow ad1 cap1 52 5 ApiWord.cells (l1 ++ ([(⟨t1.1.Kind, t1.1.S, t1.1.N, t1.1.F, v6⟩ : ApiWord)] : List ApiWord))]) (j := 2) hk rfl rfl rfl rfl (FW.own_src hk (j := 0) rfl rfl (fun _ => rfl) Go.Proofs.Try.underlying48) Go.Proofs.Try.underlying48 (by kernel_rfl) hc3 rfl (fun _ _ => rfl) ?_; clear hk; intro ad1 cap1 a w hk
            replace hk := FW.S.dropI (I' := [FW.blk b2 52 ((ApiWord.cells (⟨t1.1.Kind, t1.1.S, t1.1.N, t1.1.F, v6⟩ : ApiWord))), FW.orow ad1 cap1 52 5 ApiWord.cells (l1 ++ ([(⟨t1.1.Kind, t1.1.S, t1.1.N, t1.1.F, v6⟩ : ApiWord)] : List ApiWord))]) hk 0 rfl
            refine FW.lfun (y := .lit (.int .i64 v6)) hk rfl rfl rfl rfl (FW.f_move hk (FW.holds_nil _) rfl) ?_; clear hk; intro a w hk
            refine FW.lfun (y := .lit (.int .i64 t1.2)) hk rfl rfl rfl rfl (FW.f_move hk (FW.holds_nil _) rfl) ?_; clear hk; intro a w hk
            refine FW.lfun (y := .lit (.int .i64 (IntKind.wrap .i64 (v6 + t1.2)))) hk rfl rfl rfl rfl ((FW.f_pure (FW.p_add hk.kn (FW.holds_nil _) rfl rfl))) ?_; clear hk; intro a w hk
            refine FW.lfun (y := .lit (.slice ad1 (List.length (l1 ++ ([(⟨t1.1.Kind, t1.1.S, t1.1.N, t1.1.F, v6⟩ : ApiWord)] : List ApiWord))) cap1)) hk rfl rfl rfl rfl (FW.f_assign hk (FW.holds_nil _) rfl) ?_; clear hk; intro a w hk
            refine FW.lfun (y := .lit (.int .i64 (IntKind.wrap .i64 (v6 + t1.2)))) hk rfl rfl rfl rfl (FW.f_assign hk (FW.holds_nil _) rfl) ?_; clear hk; intro a w hk
            refine wpList_nil ?_
            (repeat first | refine FW.then_normal ?_ | refine FW.block_normal ?_); exact hK8 (kl1, (l1 ++ ([(⟨t1.1.Kind, t1.1.S, t1.1.N, t1.1.F, v6⟩ : ApiWord)] : List ApiWord)), v0, (IntKind.wrap .i64 (v6 + t1.2)), ad1, cap1) _ _ (Nat.lt_succ_self _) ⟨(hk.drop 0).sub ⟨rfl, rfl, rfl, trivial⟩, h⟩
    · skip
      refine wp_exit ?_; (repeat first | refine FW.then_exit ?_ | refine FW.block_exit_ne rfl ?_); refine FW.block_exit ?_
      (repeat first | refine FW.then_normal ?_ | refine FW.block_normal ?_); refine hK6 _ _ ?_
      refine FW.wreg ?_; intro K' hK23
      refine FW.lfun (y := .lit (.slice ad1 (List.length l1) cap1)) hk rfl rfl rfl rfl (FW.f_move hk (FW.holds_nil _) rfl) ?_; clear hk; intro a w hk
      refine FW.lfun (y := .lit (.string (FW.B v0))) hk rfl rfl rfl rfl (FW.f_move hk (FW.holds_nil _) rfl) ?_; clear hk; intro a w hk
      refine FW.lfun (y := .lit (.int .i64 (List.length v0 : Int))) hk rfl rfl rfl rfl ((FW.f_pure (FW.p_slen Go.Proofs.Try.underlying9 hk.kn (FW.holds_nil _) rfl))) ?_; clear hk; intro a w hk
      refine FW.lfun (y := .agg ((ApiWord.cells (⟨0, [], 0, 0, (List.length v0 : Int)⟩ : ApiWord)))) hk rfl rfl rfl rfl (FW.f_build hk (FW.holds_nil _) rfl rfl) ?_; clear hk; intro a w hk
      refine FW.l_buildSlice (f := ApiWord.cells) (l := ([(⟨0, [], 0, 0, (List.length v0 : Int)⟩ : ApiWord)] : List ApiWord)) hk rfl rfl rfl Go.Proofs.Try.underlying48 rfl rfl rfl rfl (fun _ => rfl) rfl ?_; clear hk; intro b4 a w hk
      obtain ⟨hc4, h⟩ := FW.chk h
      refine FW.l_append (l2 := ([(⟨0, [], 0, 0, (List.length v0 : Int)⟩ : ApiWord)] : List ApiWord)) (l3 := (l1 ++ ([(⟨0, [], 0, 0, (List.length v0 : Int)⟩ : ApiWord)] : List ApiWord))) (I' := fun ad2 cap2 => [FW.orow (some ⟨b4, 0, none⟩) 1 52 5 ApiWord.cells ([(⟨0, [], 0, 0, (List.length v0 : Int)⟩ : ApiWord)] : List ApiWord), FW.orow ad2 cap2 52 5 ApiWord.cells (l1 ++ ([(⟨0, [], 0, 0, (List.length v0 : Int)⟩ : ApiWord)] : List ApiWord))]) (j := 1) hk rfl rfl rfl rfl (FW.own_src hk (j := 0) rfl rfl (fun _ => rfl) Go.Proofs.Try.underlying48) Go.Proofs.Try.underlying48 (by kernel_rfl) hc4 rfl (fun _ _ => rfl) ?_; clear hk; intro ad2 cap2 a w hk
      replace hk := FW.S.dropI (I' := [FW.orow ad2 cap2 52 5 ApiWord.cells (l1 ++ ([(⟨0, [], 0, 0, (List.length v0 : Int)⟩ : ApiWord)] : List ApiWord))]) hk 0 rfl
      refine FW.lfun (y := .lit (.slice ad2 (List.length (l1 ++ ([(⟨0, [], 0, 0, (List.length v0 : Int)⟩ : ApiWord)] : List ApiWord))) cap2)) hk rfl rfl rfl rfl (FW.f_assign hk (FW.holds_nil _) rfl) ?_; clear hk; intro a w hk
      refine FW.lfun (y := .lit (.int .i64 0)) hk rfl rfl rfl rfl (FW.f_assign hk (FW.holds_nil _) rfl) ?_; clear hk; intro a w hk
      refine FW.lfun (y := .lit (.int .i64 0)) hk rfl rfl rfl rfl (FW.f_assign hk (FW.holds_nil _) rfl) ?_; clear hk; intro a w hk
      refine FW.lend (hK23 _ _ ?_); clear hK23 K'
      refine wp_ret ?_
      (repeat first | refine FW.then_ret ?_ | refine FW.block_ret ?_)
      replace hk := FW.S.freezeR (I' := []) r_ApiWord_cells_eq hk (j := 0) rfl (t := 2) rfl rfl
      obtain rfl := Option.some.inj h
      exact FW.fret3 hk rfl rfl rfl rfl

theorem offshootref12_State_is.ok  (v0 : Offshootref12State) (v1 : List UInt8) (r : Bool) (h : offshootref12_State_is.f v0 v1 = some r) :
    FW.Ok Go.Proofs.Try.prog 48 [.agg (Offshootref12State.cells v0), .lit (.string (FW.B v1))] (.lit (.bool r)) := by
  refine FW.enter (xs := [.agg (Offshootref12State.cells v0), .lit (.string (FW.B v1))]) Go.Proofs.Try.func48 rfl Go.Proofs.Try.ntmps48 rfl ?_
  intro M w0 a hk
  unfold offshootref12_State_is.f at h
  refine FW.wreg ?_; intro K' hK1
  refine FW.l_box (cs := (Offshootref12State.cells v0)) hk rfl rfl rfl rfl rfl ?_; clear hk; intro b1 a w hk
  refine FW.lfun (y := .lit (.bool false)) hk rfl rfl rfl rfl (FW.f_assign hk (FW.holds_nil _) rfl) ?_; clear hk; intro a w hk
  refine FW.lend (hK1 _ _ ?_); clear hK1 K'
  refine FW.wreg ?_; intro K' hK2
  refine FW.lfun (y := .lit (.pointer (some ⟨b1, 5, none⟩))) hk rfl rfl rfl rfl (FW.f_fieldPtr hk (FW.holds_nil _) rfl Go.Proofs.Try.underlying62 rfl (by kernel_rfl) rfl) ?_; clear hk; intro a w hk
  refine FW.lfun (y := .lit (.int .i64 v0.E)) hk rfl rfl rfl rfl (FW.f_loadBlk1 hk (FW.holds_nil _) (j := 0) rfl rfl Go.Proofs.Try.underlying23 rfl rfl) ?_; clear hk; intro a w hk
  refine FW.lfun (y := .lit (.bool (decide (v0.E = 0)))) hk rfl rfl rfl rfl ((FW.f_pure (FW.p_eql hk.kn (FW.holds_nil _) rfl rfl))) ?_; clear hk; intro a w hk
  refine FW.lfun (y := .lit (.bool (decide (v0.E = 0)))) hk rfl rfl rfl rfl (FW.f_move hk (FW.holds_nil _) rfl) ?_; clear hk; intro a w hk
  refine FW.lfunG (y := .lit (.pointer (some ⟨b1, 0, none⟩))) hk rfl rfl rfl rfl rfl rfl rfl rfl (fun hc => FW.f_fieldPtr hk hc rfl Go.Proofs.Try.underlying62 rfl (by kernel_rfl) rfl) ?_; clear hk; intro a w hk
  refine FW.lfunG (y := .row (r_ApiWord_cells v0.L)) hk rfl rfl rfl rfl rfl rfl rfl rfl (fun hc => FW.f_loadBlk1 hk hc (j := 0) rfl rfl Go.Proofs.Try.underlying48 rfl rfl) ?_; clear hk; intro a w hk
  refine FW.lfunG (y := .lit (.pointer (some ⟨b1, 1, none⟩))) hk rfl rfl rfl rfl rfl rfl rfl rfl (fun hc => FW.f_fieldPtr hk hc rfl Go.Proofs.Try.underlying62 rfl (by kernel_rfl) rfl) ?_; clear hk; intro a w hk
  refine FW.lfunG (y := .lit (.int .i64 v0.I)) hk rfl rfl rfl rfl rfl rfl rfl rfl (fun hc => FW.f_loadBlk1 hk hc (j := 0) rfl rfl Go.Proofs.Try.underlying3 rfl rfl) ?_; clear hk; intro a w hk
  obtain ⟨hc1, h⟩ := FW.chk h
  refine FW.lfunG (y := .ref (ApiWord.cells (List.getD v0.L (Int.toNat v0.I) default))) hk rfl rfl rfl rfl rfl rfl rfl rfl (fun hc => FW.f_indexAddr (R := r_ApiWord_cells) (f := ApiWord.cells) (l := v0.L) (sz := 5) r_ApiWord_cells_eq (fun _ => rfl) hk hc rfl rfl Go.Proofs.Try.underlying48 (by kernel_rfl) hc1) ?_; clear hk; intro a w hk
  refine FW.lfunG (y := .ref (List.drop 0 (ApiWord.cells (List.getD v0.L (Int.toNat v0.I) default)))) hk rfl rfl rfl rfl rfl rfl rfl rfl (fun hc => FW.f_fieldAddr hk hc rfl Go.Proofs.Try.underlying52 rfl (by kernel_rfl) rfl) ?_; clear hk; intro a w hk
  refine FW.lfunG (y := .lit (.int .i64 ((List.getD v0.L (Int.toNat v0.I) default).Kind))) hk rfl rfl rfl rfl rfl rfl rfl rfl (fun hc => FW.f_load1 hk hc rfl rfl Go.Proofs.Try.underlying3 rfl) ?_; clear hk; intro a w hk
  refine FW.lfunG (y := .lit (.bool (decide (((List.getD v0.L (Int.toNat v0.I) default).Kind) = 5)))) hk rfl rfl rfl rfl rfl rfl rfl rfl (fun hc => (FW.f_pure (FW.p_eql hk.kn hc rfl rfl))) ?_; clear hk; intro a w hk
  refine FW.lfun (y := .lit (.bool ((decide (v0.E = 0)) && (decide (((List.getD v0.L (Int.toNat v0.I) default).Kind) = 5))))) hk rfl rfl rfl rfl ((FW.f_pure (FW.p_pick_and hk.kn (FW.holds_nil _) rfl rfl))) ?_; clear hk; intro a w hk
  refine FW.lfun (y := .lit (.bool ((decide (v0.E = 0)) && (decide (((List.getD v0.L (Int.toNat v0.I) default).Kind) = 5))))) hk rfl rfl rfl rfl (FW.f_move hk (FW.holds_nil _) rfl) ?_; clear hk; intro a w hk
  refine FW.lfunG (y := .lit (.pointer (some ⟨b1, 0, none⟩))) hk rfl rfl rfl rfl rfl rfl rfl rfl (fun hc => FW.f_fieldPtr hk hc rfl Go.Proofs.Try.underlying62 rfl (by kernel_rfl) rfl) ?_; clear hk; intro a w hk
  refine FW.lfunG (y := .row (r_ApiWord_cells v0.L)) hk rfl rfl rfl rfl rfl rfl rfl rfl (fun hc => FW.f_loadBlk1 hk hc (j := 0) rfl rfl Go.Proofs.Try.underlying48 rfl rfl) ?_; clear hk; intro a w hk
  refine FW.lfunG (y := .lit (.pointer (some ⟨b1, 1, none⟩))) hk rfl rfl rfl rfl rfl rfl rfl rfl (fun hc => FW.f_fieldPtr hk hc rfl Go.Proofs.Try.underlying62 rfl (by kernel_rfl) rfl) ?_; clear hk; intro a w hk
  refine FW.lfunG (y := .lit (.int .i64 v0.I)) hk rfl rfl rfl rfl rfl rfl rfl rfl (fun hc => FW.f_loadBlk1 hk hc (j := 0) rfl rfl Go.Proofs.Try.underlying3 rfl rfl) ?_; clear hk; intro a w hk
  obtain ⟨hc2, h⟩ := FW.chk h
  refine FW.lfunG (y := .ref (ApiWord.cells (List.getD v0.L (Int.toNat v0.I) default))) hk rfl rfl rfl rfl rfl rfl rfl rfl (fun hc => FW.f_indexAddr (R := r_ApiWord_cells) (f := ApiWord.cells) (l := v0.L) (sz := 5) r_ApiWord_cells_eq (fun _ => rfl) hk hc rfl rfl Go.Proofs.Try.underlying48 (by kernel_rfl) hc2) ?_; clear hk; intro a w hk
  refine FW.lfunG (y := .ref (List.drop 1 (ApiWord.cells (List.getD v0.L (Int.toNat v0.I) default)))) hk rfl rfl rfl rfl rfl rfl rfl rfl (fun hc => FW.f_fieldAddr hk hc rfl Go.Proofs.Try.underlying52 rfl (by kernel_rfl) rfl) ?_; clear hk; intro a w hk
  refine FW.lfunG (y := .lit (.string (FW.B ((List.getD v0.L (Int.toNat v0.I) default).S)))) hk rfl rfl rfl rfl rfl rfl rfl rfl (fun hc => FW.f_load1 hk hc rfl rfl Go.Proofs.Try.underlying9 rfl) ?_; clear hk; intro a w hk
  refine FW.lfunG (y := .lit (.string (FW.B v1))) hk rfl rfl rfl rfl rfl rfl rfl rfl (fun hc => FW.f_move hk hc rfl) ?_; clear hk; intro a w hk
  refine FW.lfunG (y := .lit (.bool (decide (((List.getD v0.L (Int.toNat v0.I) default).S) = v1)))) hk rfl rfl rfl rfl rfl rfl rfl rfl (fun hc => (FW.f_pure (FW.p_seql hk.kn hc rfl rfl))) ?_; clear hk; intro a w hk
  refine FW.lfun (y := .lit (.bool (((decide (v0.E = 0)) && (decide (((List.getD v0.L (Int.toNat v0.I) default).Kind) = 5))) && (decide (((List.getD v0.L (Int.toNat v0.I) default).S) = v1))))) hk rfl rfl rfl rfl ((FW.f_pure (FW.p_pick_and hk.kn (FW.holds_nil _) rfl rfl))) ?_; clear hk; intro a w hk
  refine FW.lfun (y := .lit (.bool (((decide (v0.E = 0)) && (decide (((List.getD v0.L (Int.toNat v0.I) default).Kind) = 5))) && (decide (((List.getD v0.L (Int.toNat v0.I) default).S) = v1))))) hk rfl rfl rfl rfl (FW.f_assign hk (FW.holds_nil _) rfl) ?_; clear hk; intro a w hk
  refine FW.lend (hK2 _ _ ?_); clear hK2 K'
  refine wp_ret ?_
  (repeat first | refine FW.then_ret ?_ | refine FW.block_ret ?_)
  obtain rfl := Option.some.inj h
  exact FW.fret1 hk rfl rfl

theorem offshootref12_State_fail.ok  (v0 : Offshootref12State) (v1 : Int) (r : Offshootref12State) (h : offshootref12_State_fail.f v0 v1 = some r) :
    FW.Ok Go.Proofs.Try.prog 30 [.agg (Offshootref12State.cells v0), .lit (.int .i64 v1)] (.agg (Offshootref12State.cells r)) := by
  refine FW.enter (xs := [.agg (Offshootref12State.cells v0), .lit (.int .i64 v1)]) Go.Proofs.Try.func30 rfl Go.Proofs.Try.ntmps30 rfl ?_
  intro M w0 a hk
  unfold offshootref12_State_fail.f at h
  refine FW.wreg ?_; intro K' hK1
  refine FW.l_box (cs := (Offshootref12State.cells v0)) hk rfl rfl rfl rfl rfl ?_; clear hk; intro b1 a w hk
  refine FW.l_alloc (zs := (Offshootref12State.cells (⟨[], 0, 0, 0, 0, 0⟩ : Offshootref12State))) [] hk rfl rfl rfl rfl ?_; clear hk; intro b2 a w hk
  refine FW.lend (hK1 _ _ ?_); clear hK1 K'
  refine FW.wseqJ (fun a w => ∃ (y2 : Offshootref12State) (y1 : Offshootref12State), FW.S M w0 a w 19 [FW.blk b2 62 ((Offshootref12State.cells y2)), FW.blk b1 62 ((Offshootref12State.cells y1))] [(2, [], .lit (.pointer (some ⟨b1, 0, none⟩))), (4, [], .lit (.pointer (some ⟨b2, 0, none⟩)))] ∧ offshootref12_State_fail.j1 y2 y1 = some r) ?_ ?_
  · clear hk h
    rintro a w ⟨y2, y1, hk, h⟩
    unfold offshootref12_State_fail.j1 at h
    refine FW.wreg ?_; intro K' hK3
    refine FW.lfun (y := .agg ((Offshootref12State.cells y1))) hk rfl rfl rfl rfl (FW.f_loadBlk hk (FW.holds_nil _) (j := 1) rfl rfl Go.Proofs.Try.underlying62 rfl rfl rfl rfl) ?_; clear hk; intro a w hk
    refine FW.l_store (I' := [FW.blk b2 62 ((Offshootref12State.cells y1)), FW.blk b1 62 ((Offshootref12State.cells y1))]) (cs' := (Offshootref12State.cells y1)) (j := 0) hk rfl rfl rfl rfl rfl (by kernel_rfl) rfl rfl ?_; clear hk; intro w hk
    refine FW.lend (hK3 _ _ ?_); clear hK3 K'
    refine wp_ret ?_
    (repeat first | refine FW.then_ret ?_ | refine FW.block_ret ?_)
    obtain rfl := Option.some.inj h
    exact FW.fretR1 hk rfl (FW.rcell hk rfl (j := 0) rfl Go.Proofs.Try.underlying62 rfl (by kernel_rfl))
  · intro K' hK2
    refine FW.wreg ?_; intro K' hK4
    refine FW.lfun (y := .lit (.pointer (some ⟨b1, 5, none⟩))) hk rfl rfl rfl rfl (FW.f_fieldPtr hk (FW.holds_nil _) rfl Go.Proofs.Try.underlying62 rfl (by kernel_rfl) rfl) ?_; clear hk; intro a w hk
    refine FW.lfun (y := .lit (.int .i64 v0.E)) hk rfl rfl rfl rfl (FW.f_loadBlk1 hk (FW.holds_nil _) (j := 1) rfl rfl Go.Proofs.Try.underlying23 rfl rfl) ?_; clear hk; intro a w hk
    refine FW.lfun (y := .lit (.bool (decide (v0.E = 0)))) hk rfl rfl rfl rfl ((FW.f_pure (FW.p_eql hk.kn (FW.holds_nil _) rfl rfl))) ?_; clear hk; intro a w hk
    refine FW.lend (hK4 _ _ ?_); clear hK4 K'
    refine FW.wcondF (b := (decide (v0.E = 0))) hk h rfl (fun h hb => ?_) (fun h hb => ?_)
    · skip
      refine FW.wreg1 ?_
      refine FW.lfun (y := .lit (.pointer (some ⟨b1, 0, none⟩))) hk rfl rfl rfl rfl (FW.f_fieldPtr hk (FW.holds_nil _) rfl Go.Proofs.Try.underlying62 rfl (by kernel_rfl) rfl) ?_; clear hk; intro a w hk
      refine FW.lfun (y := .row (r_ApiWord_cells v0.L)) hk rfl rfl rfl rfl (FW.f_loadBlk1 hk (FW.holds_nil _) (j := 1) rfl rfl Go.Proofs.Try.underlying48 rfl rfl) ?_; clear hk; intro a w hk
      refine FW.lfun (y := .lit (.pointer (some ⟨b1, 1, none⟩))) hk rfl rfl rfl rfl (FW.f_fieldPtr hk (FW.holds_nil _) rfl Go.Proofs.Try.underlying62 rfl (by kernel_rfl) rfl) ?_; clear hk; intro a w hk
      refine FW.lfun (y := .lit (.int .i64 v0.I)) hk rfl rfl rfl rfl (FW.f_loadBlk1 hk (FW.holds_nil _) (j := 1) rfl rfl Go.Proofs.Try.underlying3 rfl rfl) ?_; clear hk; intro a w hk
      obtain ⟨hc1, h⟩ := FW.chk h
      refine FW.lfun (y := .ref (ApiWord.cells (List.getD v0.L (Int.toNat v0.I) default))) hk rfl rfl rfl rfl (FW.f_indexAddr (R := r_ApiWord_cells) (f := ApiWord.cells) (l := v0.L) (sz := 5) r_ApiWord_cells_eq (fun _ => rfl) hk (FW.holds_nil _) rfl rfl Go.Proofs.Try.underlying48 (by kernel_rfl) hc1) ?_; clear hk; intro a w hk
      refine FW.lfun (y := .ref (List.drop 4 (ApiWord.cells (List.getD v0.L (Int.toNat v0.I) default)))) hk rfl rfl rfl rfl (FW.f_fieldAddr hk (FW.holds_nil _) rfl Go.Proofs.Try.underlying52 rfl (by kernel_rfl) rfl) ?_; clear hk; intro a w hk
      refine FW.lfun (y := .lit (.int .i64 ((List.getD v0.L (Int.toNat v0.I) default).At))) hk rfl rfl rfl rfl (FW.f_load1 hk (FW.holds_nil _) rfl rfl Go.Proofs.Try.underlying3 rfl) ?_; clear hk; intro a w hk
      refine FW.lfun (y := .lit (.int .i64 v1)) hk rfl rfl rfl rfl (FW.f_move hk (FW.holds_nil _) rfl) ?_; clear hk; intro a w hk
      refine FW.lfun (y := .lit (.pointer (some ⟨b1, 4, none⟩))) hk rfl rfl rfl rfl (FW.f_fieldPtr hk (FW.holds_nil _) rfl Go.Proofs.Try.underlying62 rfl (by kernel_rfl) rfl) ?_; clear hk; intro a w hk
      refine FW.l_store (I' := [FW.blk b2 62 ((Offshootref12State.cells (⟨[], 0, 0, 0, 0, 0⟩ : Offshootref12State))), FW.blk b1 62 ((Offshootref12State.cells (⟨v0.L, v0.I, v0.Deep, v0.Steps, (List.getD v0.L (Int.toNat v0.I) default).At, v0.E⟩ : Offshootref12State)))]) (cs' := (Offshootref12State.cells (⟨v0.L, v0.I, v0.Deep, v0.Steps, (List.getD v0.L (Int.toNat v0.I) default).At, v0.E⟩ : Offshootref12State))) (j := 1) hk rfl rfl rfl rfl rfl (by kernel_rfl) rfl rfl ?_; clear hk; intro w hk
      refine FW.lfun (y := .lit (.pointer (some ⟨b1, 5, none⟩))) hk rfl rfl rfl rfl (FW.f_fieldPtr hk (FW.holds_nil _) rfl Go.Proofs.Try.underlying62 rfl (by kernel_rfl) rfl) ?_; clear hk; intro a w hk
      refine FW.l_store (I' := [FW.blk b2 62 ((Offshootref12State.cells (⟨[], 0, 0, 0, 0, 0⟩ : Offshootref12State))), FW.blk b1 62 ((Offshootref12State.cells (⟨v0.L, v0.I, v0.Deep, v0.Steps, (List.getD v0.L (Int.toNat v0.I) default).At, v1⟩ : Offshootref12State)))]) (cs' := (Offshootref12State.cells (⟨v0.L, v0.I, v0.Deep, v0.Steps, (List.getD v0.L (Int.toNat v0.I) default).At, v1⟩ : Offshootref12State))) (j := 1) hk rfl rfl rfl rfl rfl (by kernel_rfl) rfl rfl ?_; clear hk; intro w hk
      refine wpList_nil ?_
      (repeat first | refine FW.then_normal ?_ | refine FW.block_normal ?_); exact hK2 _ _ ⟨(⟨[], 0, 0, 0, 0, 0⟩ : Offshootref12State), (⟨v0.L, v0.I, v0.Deep, v0.Steps, (List.getD v0.L (Int.toNat v0.I) default).At, v1⟩ : Offshootref12State), hk.sub ⟨rfl, rfl, trivial⟩, h⟩
    · skip
      refine wp_skip ?_
      (repeat first | refine FW.then_normal ?_ | refine FW.block_normal ?_); exact hK2 _ _ ⟨(⟨[], 0, 0, 0, 0, 0⟩ : Offshootref12State), v0, hk.sub ⟨rfl, rfl, trivial⟩, h⟩

theorem offshootref12_State_sign.ok  (v0 : Offshootref12State) (v1 : List UInt8) (r : Offshootref12State) (h : offshootref12_State_sign.f v0 v1 = some r) :
    FW.Ok Go.Proofs.Try.prog 28 [.agg (Offshootref12State.cells v0), .lit (.string (FW.B v1))] (.agg (Offshootref12State.cells r)) := by
  refine FW.enter (xs := [.agg (Offshootref12State.cells v0), .lit (.string (FW.B v1))]) Go.Proofs.Try.func28 rfl Go.Proofs.Try.ntmps28 rfl ?_
  intro M w0 a hk
  unfold offshootref12_State_sign.f at h
  refine FW.wreg ?_; intro K' hK1
  refine FW.l_box (cs := (Offshootref12State.cells v0)) hk rfl rfl rfl rfl rfl ?_; clear hk; intro b1 a w hk
  refine FW.l_alloc (zs := (Offshootref12State.cells (⟨[], 0, 0, 0, 0, 0⟩ : Offshootref12State))) [] hk rfl rfl rfl rfl ?_; clear hk; intro b2 a w hk
  refine FW.lend (hK1 _ _ ?_); clear hK1 K'
  refine FW.wseq ?_; intro K' hK2
  refine FW.wreg ?_; intro K' hK3
  refine FW.lfun (y := .lit (.pointer (some ⟨b1, 5, none⟩))) hk rfl rfl rfl rfl (FW.f_fieldPtr hk (FW.holds_nil _) rfl Go.Proofs.Try.underlying62 rfl (by kernel_rfl) rfl) ?_; clear hk; intro a w hk
  refine FW.lfun (y := .lit (.int .i64 v0.E)) hk rfl rfl rfl rfl (FW.f_loadBlk1 hk (FW.holds_nil _) (j := 1) rfl rfl Go.Proofs.Try.underlying23 rfl rfl) ?_; clear hk; intro a w hk
  refine FW.lfun (y := .lit (.bool (!decide (v0.E = 0)))) hk rfl rfl rfl rfl ((FW.f_pure (FW.p_neq hk.kn (FW.holds_nil _) rfl rfl))) ?_; clear hk; intro a w hk
  refine FW.lend (hK3 _ _ ?_); clear hK3 K'
  refine FW.wcondF (b := (!decide (v0.E = 0))) hk h rfl (fun h hb => ?_) (fun h hb => ?_)
  · skip
    refine FW.wreg ?_; intro K' hK4
    refine FW.lfun (y := .agg ((Offshootref12State.cells v0))) hk rfl rfl rfl rfl (FW.f_loadBlk hk (FW.holds_nil _) (j := 1) rfl rfl Go.Proofs.Try.underlying62 rfl rfl rfl rfl) ?_; clear hk; intro a w hk
    refine FW.l_store (I' := [FW.blk b2 62 ((Offshootref12State.cells v0)), FW.blk b1 62 ((Offshootref12State.cells v0))]) (cs' := (Offshootref12State.cells v0)) (j := 0) hk rfl rfl rfl rfl rfl (by kernel_rfl) rfl rfl ?_; clear hk; intro w hk
    refine FW.lend (hK4 _ _ ?_); clear hK4 K'
    refine wp_ret ?_
    (repeat first | refine FW.then_ret ?_ | refine FW.block_ret ?_)
    obtain rfl := Option.some.inj h
    exact FW.fretR1 hk rfl (FW.rcell hk rfl (j := 0) rfl Go.Proofs.Try.underlying62 rfl (by kernel_rfl))
  · skip
    refine wp_skip ?_
    (repeat first | refine FW.then_normal ?_ | refine FW.block_normal ?_); refine hK2 _ _ ?_
    refine FW.wseq ?_; intro K' hK5
    refine FW.wreg ?_; intro K' hK6
    refine FW.lfun (y := .agg ((Offshootref12State.cells v0))) hk rfl rfl rfl rfl (FW.f_loadBlk hk (FW.holds_nil _) (j := 1) rfl rfl Go.Proofs.Try.underlying62 rfl rfl rfl rfl) ?_; clear hk; intro a w hk
    refine FW.lfun (y := .lit (.string (FW.B v1))) hk rfl rfl rfl rfl (FW.f_move hk (FW.holds_nil _) rfl) ?_; clear hk; intro a w hk
    obtain ⟨t1, hr_t1, h⟩ := FW.bnd h
    refine FW.lfun (y := .lit (.bool t1)) hk rfl rfl rfl rfl (FW.f_call hk (FW.holds_nil _) rfl rfl Go.Proofs.Try.func48 rfl (by kernel_rfl) (offshootref12_State_is.ok v0 v1 _ hr_t1)) ?_; clear hk; intro a w hk
    refine FW.lfun (y := .lit (.bool (!t1))) hk rfl rfl rfl rfl ((FW.f_pure (FW.p_not hk.kn (FW.holds_nil _) rfl))) ?_; clear hk; intro a w hk
    refine FW.lend (hK6 _ _ ?_); clear hK6 K'
    refine FW.wcondF (b := (!t1)) hk h rfl (fun h hb => ?_) (fun h hb => ?_)
    · skip
      refine FW.wreg ?_; intro K' hK7
      refine FW.lfun (y := .agg ((Offshootref12State.cells v0))) hk rfl rfl rfl rfl (FW.f_loadBlk hk (FW.holds_nil _) (j := 1) rfl rfl Go.Proofs.Try.underlying62 rfl rfl rfl rfl) ?_; clear hk; intro a w hk
      obtain ⟨t2, hr_t2, h⟩ := FW.bnd h
      refine FW.lfun (y := .agg ((Offshootref12State.cells t2))) hk rfl rfl rfl rfl (FW.f_call hk (FW.holds_nil _) rfl rfl Go.Proofs.Try.func30 rfl (by kernel_rfl) (offshootref12_State_fail.ok v0 120 _ hr_t2)) ?_; clear hk; intro a w hk
      refine FW.l_store (I' := [FW.blk b2 62 ((Offshootref12State.cells t2)), FW.blk b1 62 ((Offshootref12State.cells v0))]) (cs' := (Offshootref12State.cells t2)) (j := 0) hk rfl rfl rfl rfl rfl (by kernel_rfl) rfl rfl ?_; clear hk; intro w hk
      refine FW.lend (hK7 _ _ ?_); clear hK7 K'
      refine wp_ret ?_
      (repeat first | refine FW.then_ret ?_ | refine FW.block_ret ?_)
      obtain rfl := Option.some.inj h
      exact FW.fretR1 hk rfl (FW.rcell hk rfl (j := 0) rfl Go.Proofs.Try.underlying62 rfl (by kernel_rfl))
    · skip
      refine wp_skip ?_
      (repeat first | refine FW.then_normal ?_ | refine FW.block_normal ?_); refine hK5 _ _ ?_
      refine FW.wreg ?_; intro K' hK8
      refine FW.lfun (y := .lit (.pointer (some ⟨b1, 1, none⟩))) hk rfl rfl rfl rfl (FW.f_fieldPtr hk (FW.holds_nil _) rfl Go.Proofs.Try.underlying62 rfl (by kernel_rfl) rfl) ?_; clear hk; intro a w hk
      refine FW.lfun (y := .lit (.int .i64 v0.I)) hk rfl rfl rfl rfl (FW.f_loadBlk1 hk (FW.holds_nil _) (j := 1) rfl rfl Go.Proofs.Try.underlying3 rfl rfl) ?_; clear hk; intro a w hk
      refine FW.lfun (y := .lit (.int .i64 (IntKind.wrap .i64 (v0.I + 1)))) hk rfl rfl rfl rfl ((FW.f_pure (FW.p_add hk.kn (FW.holds_nil _) rfl rfl))) ?_; clear hk; intro a w hk
      refine FW.lfun (y := .lit (.pointer (some ⟨b1, 1, none⟩))) hk rfl rfl rfl rfl (FW.f_fieldPtr hk (FW.holds_nil _) rfl Go.Proofs.Try.underlying62 rfl (by kernel_rfl) rfl) ?_; clear hk; intro a w hk
      refine FW.l_store (I' := [FW.blk b2 62 ((Offshootref12State.cells (⟨[], 0, 0, 0, 0, 0⟩ : Offshootref12State))), FW.blk b1 62 ((Offshootref12State.cells (⟨v0.L, (IntKind.wrap .i64 (v0.I + 1)), v0.Deep, v0.Steps, v0.At, v0.E⟩ : Offshootref12State)))]) (cs' := (Offshootref12State.cells (⟨v0.L, (IntKind.wrap .i64 (v0.I + 1)), v0.Deep, v0.Steps, v0.At, v0.E⟩ : Offshootref12State))) (j := 1) hk rfl rfl rfl rfl rfl (by kernel_rfl) rfl rfl ?_; clear hk; intro w hk
      refine FW.lend (hK8 _ _ ?_); clear hK8 K'
      refine FW.wreg ?_; intro K' hK9
      refine FW.lfun (y := .agg ((Offshootref12State.cells (⟨v0.L, (IntKind.wrap .i64 (v0.I + 1)), v0.Deep, v0.Steps, v0.At, v0.E⟩ : Offshootref12State)))) hk rfl rfl rfl rfl (FW.f_loadBlk hk (FW.holds_nil _) (j := 1) rfl rfl Go.Proofs.Try.underlying62 rfl rfl rfl rfl) ?_; clear hk; intro a w hk
      refine FW.l_store (I' := [FW.blk b2 62 ((Offshootref12State.cells (⟨v0.L, (IntKind.wrap .i64 (v0.I + 1)), v0.Deep, v0.Steps, v0.At, v0.E⟩ : Offshootref12State))), FW.blk b1 62 ((Offshootref12State.cells (⟨v0.L, (IntKind.wrap .i64 (v0.I + 1)), v0.Deep, v0.Steps, v0.At, v0.E⟩ : Offshootref12State)))]) (cs' := (Offshootref12State.cells (⟨v0.L, (IntKind.wrap .i64 (v0.I + 1)), v0.Deep, v0.Steps, v0.At, v0.E⟩ : Offshootref12State))) (j := 0) hk rfl rfl rfl rfl rfl (by kernel_rfl) rfl rfl ?_; clear hk; intro w hk
      refine FW.lend (hK9 _ _ ?_); clear hK9 K'
      refine wp_ret ?_
      (repeat first | refine FW.then_ret ?_ | refine FW.block_ret ?_)
      obtain rfl := Option.some.inj h
      exact FW.fretR1 hk rfl (FW.rcell hk rfl (j := 0) rfl Go.Proofs.Try.underlying62 rfl (by kernel_rfl))

theorem offshootref12_State_into.ok  (v0 : Offshootref12State) (r : Offshootref12State) (h : offshootref12_State_into.f v0 = some r) :
    FW.Ok Go.Proofs.Try.prog 67 [.agg (Offshootref12State.cells v0)] (.agg (Offshootref12State.cells r)) := by
  refine FW.enter (xs := [.agg (Offshootref12State.cells v0)]) Go.Proofs.Try.func67 rfl Go.Proofs.Try.ntmps67 rfl ?_
  intro M w0 a hk
  unfold offshootref12_State_into.f at h
  refine FW.wreg ?_; intro K' hK1
  refine FW.l_box (cs := (Offshootref12State.cells v0)) hk rfl rfl rfl rfl rfl ?_; clear hk; intro b1 a w hk
  refine FW.l_alloc (zs := (Offshootref12State.cells (⟨[], 0, 0, 0, 0, 0⟩ : Offshootref12State))) [] hk rfl rfl rfl rfl ?_; clear hk; intro b2 a w hk
  refine FW.lend (hK1 _ _ ?_); clear hK1 K'
  refine FW.wseq ?_; intro K' hK2
  refine FW.wreg ?_; intro K' hK3
  refine FW.lfun (y := .lit (.pointer (some ⟨b1, 5, none⟩))) hk rfl rfl rfl rfl (FW.f_fieldPtr hk (FW.holds_nil _) rfl Go.Proofs.Try.underlying62 rfl (by kernel_rfl) rfl) ?_; clear hk; intro a w hk
  refine FW.lfun (y := .lit (.int .i64 v0.E)) hk rfl rfl rfl rfl (FW.f_loadBlk1 hk (FW.holds_nil _) (j := 1) rfl rfl Go.Proofs.Try.underlying23 rfl rfl) ?_; clear hk; intro a w hk
  refine FW.lfun (y := .lit (.bool (!decide (v0.E = 0)))) hk rfl rfl rfl rfl ((FW.f_pure (FW.p_neq hk.kn (FW.holds_nil _) rfl rfl))) ?_; clear hk; intro a w hk
  refine FW.lend (hK3 _ _ ?_); clear hK3 K'
  refine FW.wcondF (b := (!decide (v0.E = 0))) hk h rfl (fun h hb => ?_) (fun h hb => ?_)
  · skip
    refine FW.wreg ?_; intro K' hK4
    refine FW.lfun (y := .agg ((Offshootref12State.cells v0))) hk rfl rfl rfl rfl (FW.f_loadBlk hk (FW.holds_nil _) (j := 1) rfl rfl Go.Proofs.Try.underlying62 rfl rfl rfl rfl) ?_; clear hk; intro a w hk
    refine FW.l_store (I' := [FW.blk b2 62 ((Offshootref12State.cells v0)), FW.blk b1 62 ((Offshootref12State.cells v0))]) (cs' := (Offshootref12State.cells v0)) (j := 0) hk rfl rfl rfl rfl rfl (by kernel_rfl) rfl rfl ?_; clear hk; intro w hk
    refine FW.lend (hK4 _ _ ?_); clear hK4 K'
    refine wp_ret ?_
    (repeat first | refine FW.then_ret ?_ | refine FW.block_ret ?_)
    obtain rfl := Option.some.inj h
    exact FW.fretR1 hk rfl (FW.rcell hk rfl (j := 0) rfl Go.Proofs.Try.underlying62 rfl (by kernel_rfl))
  · skip
    refine wp_skip ?_
    (repeat first | refine FW.then_normal ?_ | refine FW.block_normal ?_); refine hK2 _ _ ?_
    refine FW.wseq ?_; intro K' hK5
    refine FW.wreg ?_; intro K' hK6
    refine FW.lfun (y := .lit (.pointer (some ⟨b1, 2, none⟩))) hk rfl rfl rfl rfl (FW.f_fieldPtr hk (FW.holds_nil _) rfl Go.Proofs.Try.underlying62 rfl (by kernel_rfl) rfl) ?_; clear hk; intro a w hk
    refine FW.lfun (y := .lit (.int .i64 v0.Deep)) hk rfl rfl rfl rfl (FW.f_loadBlk1 hk (FW.holds_nil _) (j := 1) rfl rfl Go.Proofs.Try.underlying3 rfl rfl) ?_; clear hk; intro a w hk
    refine FW.lfun (y := .lit (.bool (decide (12 ≤ v0.Deep)))) hk rfl rfl rfl rfl ((FW.f_pure (FW.p_geq hk.kn (FW.holds_nil _) rfl rfl))) ?_; clear hk; intro a w hk
    refine FW.lend (hK6 _ _ ?_); clear hK6 K'
    refine FW.wcondF (b := (decide (12 ≤ v0.Deep))) hk h rfl (fun h hb => ?_) (fun h hb => ?_)
    · skip
      refine FW.wreg ?_; intro K' hK7
      refine FW.lfun (y := .agg ((Offshootref12State.cells v0))) hk rfl rfl rfl rfl (FW.f_loadBlk hk (FW.holds_nil _) (j := 1) rfl rfl Go.Proofs.Try.underlying62 rfl rfl rfl rfl) ?_; clear hk; intro a w hk
      obtain ⟨t1, hr_t1, h⟩ := FW.bnd h
      refine FW.lfun (y := .agg ((Offshootref12State.cells t1))) hk rfl rfl rfl rfl (FW.f_call hk (FW.holds_nil _) rfl rfl Go.Proofs.Try.func30 rfl (by kernel_rfl) (offshootref12_State_fail.ok v0 3 _ hr_t1)) ?_; clear hk; intro a w hk
      refine FW.l_store (I' := [FW.blk b2 62 ((Offshootref12State.cells t1)), FW.blk b1 62 ((Offshootref12State.cells v0))]) (cs' := (Offshootref12State.cells t1)) (j := 0) hk rfl rfl rfl rfl rfl (by kernel_rfl) rfl rfl ?_; clear hk; intro w hk
      refine FW.lend (hK7 _ _ ?_); clear hK7 K'
      refine wp_ret ?_
      (repeat first | refine FW.then_ret ?_ | refine FW.block_ret ?_)
      obtain rfl := Option.some.inj h
      exact FW.fretR1 hk rfl (FW.rcell hk rfl (j := 0) rfl Go.Proofs.Try.underlying62 rfl (by kernel_rfl))
    · skip
      refine wp_skip ?_
      (repeat first | refine FW.then_normal ?_ | refine FW.block_normal ?_); refine hK5 _ _ ?_
      refine FW.wreg ?_; intro K' hK8
      refine FW.lfun (y := .lit (.pointer (some ⟨b1, 2, none⟩))) hk rfl rfl rfl rfl (FW.f_fieldPtr hk (FW.holds_nil _) rfl Go.Proofs.Try.underlying62 rfl (by kernel_rfl) rfl) ?_; clear hk; intro a w hk
      refine FW.lfun (y := .lit (.int .i64 v0.Deep)) hk rfl rfl rfl rfl (FW.f_loadBlk1 hk (FW.holds_nil _) (j := 1) rfl rfl Go.Proofs.Try.underlying3 rfl rfl) ?_; clear hk; intro a w hk
      refine FW.lfun (y := .lit (.int .i64 (IntKind.wrap .i64 (v0.Deep + 1)))) hk rfl rfl rfl rfl ((FW.f_pure (FW.p_add hk.kn (FW.holds_nil _) rfl rfl))) ?_; clear hk; intro a w hk
      refine FW.lfun (y := .lit (.pointer (some ⟨b1, 2, none⟩))) hk rfl rfl rfl rfl (FW.f_fieldPtr hk (FW.holds_nil _) rfl Go.Proofs.Try.underlying62 rfl (by kernel_rfl) rfl) ?_; clear hk; intro a w hk
      refine FW.l_store (I' := [FW.blk b2 62 ((Offshootref12State.cells (⟨[], 0, 0, 0, 0, 0⟩ : Offshootref12State))), FW.blk b1 62 ((Offshootref12State.cells (⟨v0.L, v0.I, (IntKind.wrap .i64 (v0.Deep + 1)), v0.Steps, v0.At, v0.E⟩ : Offshootref12State)))]) (cs' := (Offshootref12State.cells (⟨v0.L, v0.I, (IntKind.wrap .i64 (v0.Deep + 1)), v0.Steps, v0.At, v0.E⟩ : Offshootref12State))) (j := 1) hk rfl rfl rfl rfl rfl (by kernel_rfl) rfl rfl ?_; clear hk; intro w hk
      refine FW.lend (hK8 _ _ ?_); clear hK8 K'
      refine FW.wreg ?_; intro K' hK9
      refine FW.lfun (y := .agg ((Offshootref12State.cells (⟨v0.L, v0.I, (IntKind.wrap .i64 (v0.Deep + 1)), v0.Steps, v0.At, v0.E⟩ : Offshootref12State)))) hk rfl rfl rfl rfl (FW.f_loadBlk hk (FW.holds_nil _) (j := 1) rfl rfl Go.Proofs.Try.underlying62 rfl rfl rfl rfl) ?_; clear hk; intro a w hk
      refine FW.l_store (I' := [FW.blk b2 62 ((Offshootref12State.cells (⟨v0.L, v0.I, (IntKind.wrap .i64 (v0.Deep + 1)), v0.Steps, v0.At, v0.E⟩ : Offshootref12State))), FW.blk b1 62 ((Offshootref12State.cells (⟨v0.L, v0.I, (IntKind.wrap .i64 (v0.Deep + 1)), v0.Steps, v0.At, v0.E⟩ : Offshootref12State)))]) (cs' := (Offshootref12State.cells (⟨v0.L, v0.I, (IntKind.wrap .i64 (v0.Deep + 1)), v0.Steps, v0.At, v0.E⟩ : Offshootref12State))) (j := 0) hk rfl rfl rfl rfl rfl (by kernel_rfl) rfl rfl ?_; clear hk; intro w hk
      refine FW.lend (hK9 _ _ ?_); clear hK9 K'
      refine wp_ret ?_
      (repeat first | refine FW.then_ret ?_ | refine FW.block_ret ?_)
      obtain rfl := Option.some.inj h
      exact FW.fretR1 hk rfl (FW.rcell hk rfl (j := 0) rfl Go.Proofs.Try.underlying62 rfl (by kernel_rfl))
end Go.Proofs.Ytfmabehmohbahaa

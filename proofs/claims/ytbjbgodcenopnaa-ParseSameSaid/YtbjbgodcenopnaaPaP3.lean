/- Written by a program of this session (gen.py): the contracts of functions of the program. -/
import Derived.KernelRfl
import Derived.Test.YtbjbgodcenopnaaProg
import Derived.Test.YtbjbgodcenopnaaAvFun
import Derived.Test.YtbjbgodcenopnaaAvMan
import Derived.Test.YtbjbgodcenopnaaAvMore
import Derived.Test.YtbjbgodcenopnaaAvDraw2
import Derived.Test.YtbjbgodcenopnaaAvRow
import Derived.Test.YtbjbgodcenopnaaHrd
import Derived.Test.YtbjbgodcenopnaaPaD
import Derived.Test.YtbjbgodcenopnaaPaP2
namespace Go.Proofs.Ytbjbgodcenopnaa
set_option linter.unusedVariables false
set_option maxRecDepth 20000
set_option maxHeartbeats 10000000
theorem parse_Preds.ok  (v0 : List UInt8) (r : Int × Bool) (h : parse_Preds.f v0 = some r) :
    FW.Ok Go.Proofs.Try.prog 144 [.lit (.string (FW.B v0))] (.tup [.lit (.int .i64 r.1), .lit (.bool r.2)]) := by
  refine FW.enter (xs := [.lit (.string (FW.B v0))]) Go.Proofs.Try.func144 rfl Go.Proofs.Try.ntmps144 rfl ?_
  intro M w0 a hk
  unfold parse_Preds.f at h
  refine FW.wreg ?_; intro K' hK1
  refine FW.lfun (y := .lit (.int .i64 0)) hk rfl rfl rfl rfl (FW.f_assign hk (FW.holds_nil _) rfl) ?_; clear hk; intro a w hk
  refine FW.lfun (y := .lit (.bool false)) hk rfl rfl rfl rfl (FW.f_assign hk (FW.holds_nil _) rfl) ?_; clear hk; intro a w hk
  refine FW.lend (hK1 _ _ ?_); clear hK1 K'
  refine FW.wseq ?_; intro K' hK2
  refine FW.wreg ?_; intro K' hK3
  refine FW.lfun (y := .lit (.string (FW.B v0))) hk rfl rfl rfl rfl (FW.f_move hk (FW.holds_nil _) rfl) ?_; clear hk; intro a w hk
  refine FW.lend (hK3 _ _ ?_); clear hK3 K'
  refine wp_block ?_
  refine FW.wseqJ (fun a w => ∃ (v4 : List UInt8) (v5 : Bool), FW.S M w0 a w 22 [] [(4, [], .lit (.string (FW.B v4))), (5, [], .lit (.bool v5))] ∧ parse_Preds.j1 v4 v5 = some r) ?_ ?_
  · clear hk h
    rintro a w ⟨v4, v5, hk, h⟩
    unfold parse_Preds.j1 at h
    refine FW.wcondF (b := v5) hk h rfl (fun h hb => ?_) (fun h hb => ?_)
    · skip
      refine FW.wreg ?_; intro K' hK5
      refine FW.lfun (y := .lit (.int .i64 1)) hk rfl rfl rfl rfl (FW.f_assign hk (FW.holds_nil _) rfl) ?_; clear hk; intro a w hk
      refine FW.lfun (y := .lit (.bool true)) hk rfl rfl rfl rfl (FW.f_assign hk (FW.holds_nil _) rfl) ?_; clear hk; intro a w hk
      refine FW.lend (hK5 _ _ ?_); clear hK5 K'
      refine wp_ret ?_
      (repeat first | refine FW.then_ret ?_ | refine FW.block_ret ?_)
      obtain rfl := Option.some.inj h
      exact FW.fret2 hk rfl rfl rfl
    · skip
      refine FW.wseqJ (fun a w => ∃ (v4 : List UInt8) (v15 : Bool), FW.S M w0 a w 22 [] [(4, [], .lit (.string (FW.B v4))), (15, [], .lit (.bool v15))] ∧ parse_Preds.j2 v4 v15 = some r) ?_ ?_
      · clear hk h
        rintro a w ⟨v4, v15, hk, h⟩
        unfold parse_Preds.j2 at h
        refine FW.wcondF (b := v15) hk h rfl (fun h hb => ?_) (fun h hb => ?_)
        · skip
          refine FW.wreg ?_; intro K' hK7
          refine FW.lfun (y := .lit (.int .i64 2)) hk rfl rfl rfl rfl (FW.f_assign hk (FW.holds_nil _) rfl) ?_; clear hk; intro a w hk
          refine FW.lfun (y := .lit (.bool true)) hk rfl rfl rfl rfl (FW.f_assign hk (FW.holds_nil _) rfl) ?_; clear hk; intro a w hk
          refine FW.lend (hK7 _ _ ?_); clear hK7 K'
          refine wp_ret ?_
          (repeat first | refine FW.then_ret ?_ | refine FW.block_ret ?_)
          obtain rfl := Option.some.inj h
          exact FW.fret2 hk rfl rfl rfl
        · skip
          refine FW.wseqJ (fun a w => ∃ (v19 : Bool), FW.S M w0 a w 22 [] [(19, [], .lit (.bool v19))] ∧ parse_Preds.j3 v19 = some r) ?_ ?_
          · clear hk h
            rintro a w ⟨v19, hk, h⟩
            unfold parse_Preds.j3 at h
            refine FW.wcondF (b := v19) hk h rfl (fun h hb => ?_) (fun h hb => ?_)
            · skip
              refine FW.wreg ?_; intro K' hK9
              refine FW.lfun (y := .lit (.int .i64 (-1))) hk rfl rfl rfl rfl (FW.f_assign hk (FW.holds_nil _) rfl) ?_; clear hk; intro a w hk
              refine FW.lfun (y := .lit (.bool true)) hk rfl rfl rfl rfl (FW.f_assign hk (FW.holds_nil _) rfl) ?_; clear hk; intro a w hk
              refine FW.lend (hK9 _ _ ?_); clear hK9 K'
              refine wp_ret ?_
              (repeat first | refine FW.then_ret ?_ | refine FW.block_ret ?_)
              obtain rfl := Option.some.inj h
              exact FW.fret2 hk rfl rfl rfl
            · skip
              refine wp_skip ?_
              (repeat first | refine FW.then_normal ?_ | refine FW.block_normal ?_); refine hK2 _ _ ?_
              refine FW.wreg ?_; intro K' hK10
              refine FW.lfun (y := .lit (.int .i64 0)) hk rfl rfl rfl rfl (FW.f_assign hk (FW.holds_nil _) rfl) ?_; clear hk; intro a w hk
              refine FW.lfun (y := .lit (.bool false)) hk rfl rfl rfl rfl (FW.f_assign hk (FW.holds_nil _) rfl) ?_; clear hk; intro a w hk
              refine FW.lend (hK10 _ _ ?_); clear hK10 K'
              refine wp_ret ?_
              (repeat first | refine FW.then_ret ?_ | refine FW.block_ret ?_)
              obtain rfl := Option.some.inj h
              exact FW.fret2 hk rfl rfl rfl
          · intro K' hK8
            refine FW.wreg ?_; intro K' hK11
            refine FW.lfun (y := .lit (.bool (decide (v4 = ([119, 105, 116, 104, 105, 110] : List UInt8))))) hk rfl rfl rfl rfl ((FW.f_pure (FW.p_seql hk.kn (FW.holds_nil _) rfl rfl))) ?_; clear hk; intro a w hk
            refine FW.lfun (y := .lit (.bool (decide (v4 = ([119, 105, 116, 104, 105, 110] : List UInt8))))) hk rfl rfl rfl rfl (FW.f_assign hk (FW.holds_nil _) rfl) ?_; clear hk; intro a w hk
            refine FW.lend (hK11 _ _ ?_); clear hK11 K'
            refine FW.wcondF (b := (decide (v4 = ([119, 105, 116, 104, 105, 110] : List UInt8)))) hk h rfl (fun h hb => ?_) (fun h hb => ?_)
            · skip
              refine wp_skip ?_
              (repeat first | refine FW.then_normal ?_ | refine FW.block_normal ?_); exact hK8 _ _ ⟨(decide (v4 = ([119, 105, 116, 104, 105, 110] : List UInt8))), hk.sub ⟨rfl, trivial⟩, h⟩
            · skip
              refine FW.wreg1 ?_
              refine FW.lfun (y := .lit (.bool (decide (v4 = ([119, 105, 116, 104, 111, 117, 116] : List UInt8))))) hk rfl rfl rfl rfl ((FW.f_pure (FW.p_seql hk.kn (FW.holds_nil _) rfl rfl))) ?_; clear hk; intro a w hk
              refine FW.lfun (y := .lit (.bool (decide (v4 = ([119, 105, 116, 104, 111, 117, 116] : List UInt8))))) hk rfl rfl rfl rfl (FW.f_assign hk (FW.holds_nil _) rfl) ?_; clear hk; intro a w hk
              refine wpList_nil ?_
              (repeat first | refine FW.then_normal ?_ | refine FW.block_normal ?_); exact hK8 _ _ ⟨(decide (v4 = ([119, 105, 116, 104, 111, 117, 116] : List UInt8))), hk.sub ⟨rfl, trivial⟩, h⟩
      · intro K' hK6
        refine FW.wreg ?_; intro K' hK13
        refine FW.lfun (y := .lit (.bool (decide (v4 = ([98, 101, 116, 119, 101, 101, 110] : List UInt8))))) hk rfl rfl rfl rfl ((FW.f_pure (FW.p_seql hk.kn (FW.holds_nil _) rfl rfl))) ?_; clear hk; intro a w hk
        refine FW.lfun (y := .lit (.bool (decide (v4 = ([98, 101, 116, 119, 101, 101, 110] : List UInt8))))) hk rfl rfl rfl rfl (FW.f_assign hk (FW.holds_nil _) rfl) ?_; clear hk; intro a w hk
        refine FW.lend (hK13 _ _ ?_); clear hK13 K'
        refine FW.wcondF (b := (decide (v4 = ([98, 101, 116, 119, 101, 101, 110] : List UInt8)))) hk h rfl (fun h hb => ?_) (fun h hb => ?_)
        · skip
          refine wp_skip ?_
          (repeat first | refine FW.then_normal ?_ | refine FW.block_normal ?_); exact hK6 _ _ ⟨v4, (decide (v4 = ([98, 101, 116, 119, 101, 101, 110] : List UInt8))), hk.sub ⟨rfl, rfl, trivial⟩, h⟩
        · skip
          refine FW.wreg ?_; intro K' hK14
          refine FW.lfun (y := .lit (.bool (decide (v4 = ([105, 110, 115, 105, 100, 101] : List UInt8))))) hk rfl rfl rfl rfl ((FW.f_pure (FW.p_seql hk.kn (FW.holds_nil _) rfl rfl))) ?_; clear hk; intro a w hk
          refine FW.lfun (y := .lit (.bool (decide (v4 = ([105, 110, 115, 105, 100, 101] : List UInt8))))) hk rfl rfl rfl rfl (FW.f_assign hk (FW.holds_nil _) rfl) ?_; clear hk; intro a w hk
          refine FW.lend (hK14 _ _ ?_); clear hK14 K'
          refine FW.wcondF (b := (decide (v4 = ([105, 110, 115, 105, 100, 101] : List UInt8)))) hk h rfl (fun h hb => ?_) (fun h hb => ?_)
          · skip
            refine wp_skip ?_
            (repeat first | refine FW.then_normal ?_ | refine FW.block_normal ?_); exact hK6 _ _ ⟨v4, (decide (v4 = ([105, 110, 115, 105, 100, 101] : List UInt8))), hk.sub ⟨rfl, rfl, trivial⟩, h⟩
          · skip
            refine FW.wreg1 ?_
            refine FW.lfun (y := .lit (.bool (decide (v4 = ([111, 117, 116, 115, 105, 100, 101] : List UInt8))))) hk rfl rfl rfl rfl ((FW.f_pure (FW.p_seql hk.kn (FW.holds_nil _) rfl rfl))) ?_; clear hk; intro a w hk
            refine FW.lfun (y := .lit (.bool (decide (v4 = ([111, 117, 116, 115, 105, 100, 101] : List UInt8))))) hk rfl rfl rfl rfl (FW.f_assign hk (FW.holds_nil _) rfl) ?_; clear hk; intro a w hk
            refine wpList_nil ?_
            (repeat first | refine FW.then_normal ?_ | refine FW.block_normal ?_); exact hK6 _ _ ⟨v4, (decide (v4 = ([111, 117, 116, 115, 105, 100, 101] : List UInt8))), hk.sub ⟨rfl, rfl, trivial⟩, h⟩
  · intro K' hK4
    refine FW.wreg ?_; intro K' hK16
    refine FW.lfun (y := .lit (.bool (decide (v0 = ([101, 113] : List UInt8))))) hk rfl rfl rfl rfl ((FW.f_pure (FW.p_seql hk.kn (FW.holds_nil _) rfl rfl))) ?_; clear hk; intro a w hk
    refine FW.lfun (y := .lit (.bool (decide (v0 = ([101, 113] : List UInt8))))) hk rfl rfl rfl rfl (FW.f_assign hk (FW.holds_nil _) rfl) ?_; clear hk; intro a w hk
    refine FW.lend (hK16 _ _ ?_); clear hK16 K'
    refine FW.wcondF (b := (decide (v0 = ([101, 113] : List UInt8)))) hk h rfl (fun h hb => ?_) (fun h hb => ?_)
    · skip
      refine wp_skip ?_
      (repeat first | refine FW.then_normal ?_ | refine FW.block_normal ?_); exact hK4 _ _ ⟨v0, (decide (v0 = ([101, 113] : List UInt8))), hk.sub ⟨rfl, rfl, trivial⟩, h⟩
    · skip
      refine FW.wreg ?_; intro K' hK17
      refine FW.lfun (y := .lit (.bool (decide (v0 = ([110, 101, 113] : List UInt8))))) hk rfl rfl rfl rfl ((FW.f_pure (FW.p_seql hk.kn (FW.holds_nil _) rfl rfl))) ?_; clear hk; intro a w hk
      refine FW.lfun (y := .lit (.bool (decide (v0 = ([110, 101, 113] : List UInt8))))) hk rfl rfl rfl rfl (FW.f_assign hk (FW.holds_nil _) rfl) ?_; clear hk; intro a w hk
      refine FW.lend (hK17 _ _ ?_); clear hK17 K'
      refine FW.wcondF (b := (decide (v0 = ([110, 101, 113] : List UInt8)))) hk h rfl (fun h hb => ?_) (fun h hb => ?_)
      · skip
        refine wp_skip ?_
        (repeat first | refine FW.then_normal ?_ | refine FW.block_normal ?_); exact hK4 _ _ ⟨v0, (decide (v0 = ([110, 101, 113] : List UInt8))), hk.sub ⟨rfl, rfl, trivial⟩, h⟩
      · skip
        refine FW.wreg ?_; intro K' hK18
        refine FW.lfun (y := .lit (.bool (decide (v0 = ([108, 116] : List UInt8))))) hk rfl rfl rfl rfl ((FW.f_pure (FW.p_seql hk.kn (FW.holds_nil _) rfl rfl))) ?_; clear hk; intro a w hk
        refine FW.lfun (y := .lit (.bool (decide (v0 = ([108, 116] : List UInt8))))) hk rfl rfl rfl rfl (FW.f_assign hk (FW.holds_nil _) rfl) ?_; clear hk; intro a w hk
        refine FW.lend (hK18 _ _ ?_); clear hK18 K'
        refine FW.wcondF (b := (decide (v0 = ([108, 116] : List UInt8)))) hk h rfl (fun h hb => ?_) (fun h hb => ?_)
        · skip
          refine wp_skip ?_
          (repeat first | refine FW.then_normal ?_ | refine FW.block_normal ?_); exact hK4 _ _ ⟨v0, (decide (v0 = ([108, 116] : List UInt8))), hk.sub ⟨rfl, rfl, trivial⟩, h⟩
        · skip
          refine FW.wreg ?_; intro K' hK19
          refine FW.lfun (y := .lit (.bool (decide (v0 = ([108, 116, 101] : List UInt8))))) hk rfl rfl rfl rfl ((FW.f_pure (FW.p_seql hk.kn (FW.holds_nil _) rfl rfl))) ?_; clear hk; intro a w hk
          refine FW.lfun (y := .lit (.bool (decide (v0 = ([108, 116, 101] : List UInt8))))) hk rfl rfl rfl rfl (FW.f_assign hk (FW.holds_nil _) rfl) ?_; clear hk; intro a w hk
          refine FW.lend (hK19 _ _ ?_); clear hK19 K'
          refine FW.wcondF (b := (decide (v0 = ([108, 116, 101] : List UInt8)))) hk h rfl (fun h hb => ?_) (fun h hb => ?_)
          · skip
            refine wp_skip ?_
            (repeat first | refine FW.then_normal ?_ | refine FW.block_normal ?_); exact hK4 _ _ ⟨v0, (decide (v0 = ([108, 116, 101] : List UInt8))), hk.sub ⟨rfl, rfl, trivial⟩, h⟩
          · skip
            refine FW.wreg ?_; intro K' hK20
            refine FW.lfun (y := .lit (.bool (decide (v0 = ([103, 116] : List UInt8))))) hk rfl rfl rfl rfl ((FW.f_pure (FW.p_seql hk.kn (FW.holds_nil _) rfl rfl))) ?_; clear hk; intro a w hk
            refine FW.lfun (y := .lit (.bool (decide (v0 = ([103, 116] : List UInt8))))) hk rfl rfl rfl rfl (FW.f_assign hk (FW.holds_nil _) rfl) ?_; clear hk; intro a w hk
            refine FW.lend (hK20 _ _ ?_); clear hK20 K'
            refine FW.wcondF (b := (decide (v0 = ([103, 116] : List UInt8)))) hk h rfl (fun h hb => ?_) (fun h hb => ?_)
            · skip
              refine wp_skip ?_
              (repeat first | refine FW.then_normal ?_ | refine FW.block_normal ?_); exact hK4 _ _ ⟨v0, (decide (v0 = ([103, 116] : List UInt8))), hk.sub ⟨rfl, rfl, trivial⟩, h⟩
            · skip
              refine FW.wreg ?_; intro K' hK21
              refine FW.lfun (y := .lit (.bool (decide (v0 = ([103, 116, 101] : List UInt8))))) hk rfl rfl rfl rfl ((FW.f_pure (FW.p_seql hk.kn (FW.holds_nil _) rfl rfl))) ?_; clear hk; intro a w hk
              refine FW.lfun (y := .lit (.bool (decide (v0 = ([103, 116, 101] : List UInt8))))) hk rfl rfl rfl rfl (FW.f_assign hk (FW.holds_nil _) rfl) ?_; clear hk; intro a w hk
              refine FW.lend (hK21 _ _ ?_); clear hK21 K'
              refine FW.wcondF (b := (decide (v0 = ([103, 116, 101] : List UInt8)))) hk h rfl (fun h hb => ?_) (fun h hb => ?_)
              · skip
                refine wp_skip ?_
                (repeat first | refine FW.then_normal ?_ | refine FW.block_normal ?_); exact hK4 _ _ ⟨v0, (decide (v0 = ([103, 116, 101] : List UInt8))), hk.sub ⟨rfl, rfl, trivial⟩, h⟩
              · skip
                refine FW.wreg ?_; intro K' hK22
                refine FW.lfun (y := .lit (.bool (decide (v0 = ([115, 116, 97, 114, 116, 105, 110, 103, 87, 105, 116, 104] : List UInt8))))) hk rfl rfl rfl rfl ((FW.f_pure (FW.p_seql hk.kn (FW.holds_nil _) rfl rfl))) ?_; clear hk; intro a w hk
                refine FW.lfun (y := .lit (.bool (decide (v0 = ([115, 116, 97, 114, 116, 105, 110, 103, 87, 105, 116, 104] : List UInt8))))) hk rfl rfl rfl rfl (FW.f_assign hk (FW.holds_nil _) rfl) ?_; clear hk; intro a w hk
                refine FW.lend (hK22 _ _ ?_); clear hK22 K'
                refine FW.wcondF (b := (decide (v0 = ([115, 116, 97, 114, 116, 105, 110, 103, 87, 105, 116, 104] : List UInt8)))) hk h rfl (fun h hb => ?_) (fun h hb => ?_)
                · skip
                  refine wp_skip ?_
                  (repeat first | refine FW.then_normal ?_ | refine FW.block_normal ?_); exact hK4 _ _ ⟨v0, (decide (v0 = ([115, 116, 97, 114, 116, 105, 110, 103, 87, 105, 116, 104] : List UInt8))), hk.sub ⟨rfl, rfl, trivial⟩, h⟩
                · skip
                  refine FW.wreg ?_; intro K' hK23
                  refine FW.lfun (y := .lit (.bool (decide (v0 = ([101, 110, 100, 105, 110, 103, 87, 105, 116, 104] : List UInt8))))) hk rfl rfl rfl rfl ((FW.f_pure (FW.p_seql hk.kn (FW.holds_nil _) rfl rfl))) ?_; clear hk; intro a w hk
                  refine FW.lfun (y := .lit (.bool (decide (v0 = ([101, 110, 100, 105, 110, 103, 87, 105, 116, 104] : List UInt8))))) hk rfl rfl rfl rfl (FW.f_assign hk (FW.holds_nil _) rfl) ?_; clear hk; intro a w hk
                  refine FW.lend (hK23 _ _ ?_); clear hK23 K'
                  refine FW.wcondF (b := (decide (v0 = ([101, 110, 100, 105, 110, 103, 87, 105, 116, 104] : List UInt8)))) hk h rfl (fun h hb => ?_) (fun h hb => ?_)
                  · skip
                    refine wp_skip ?_
                    (repeat first | refine FW.then_normal ?_ | refine FW.block_normal ?_); exact hK4 _ _ ⟨v0, (decide (v0 = ([101, 110, 100, 105, 110, 103, 87, 105, 116, 104] : List UInt8))), hk.sub ⟨rfl, rfl, trivial⟩, h⟩
                  · skip
                    refine FW.wreg1 ?_
                    refine FW.lfun (y := .lit (.bool (decide (v0 = ([99, 111, 110, 116, 97, 105, 110, 105, 110, 103] : List UInt8))))) hk rfl rfl rfl rfl ((FW.f_pure (FW.p_seql hk.kn (FW.holds_nil _) rfl rfl))) ?_; clear hk; intro a w hk
                    refine FW.lfun (y := .lit (.bool (decide (v0 = ([99, 111, 110, 116, 97, 105, 110, 105, 110, 103] : List UInt8))))) hk rfl rfl rfl rfl (FW.f_assign hk (FW.holds_nil _) rfl) ?_; clear hk; intro a w hk
                    refine wpList_nil ?_
                    (repeat first | refine FW.then_normal ?_ | refine FW.block_normal ?_); exact hK4 _ _ ⟨v0, (decide (v0 = ([99, 111, 110, 116, 97, 105, 110, 105, 110, 103] : List UInt8))), hk.sub ⟨rfl, rfl, trivial⟩, h⟩
end Go.Proofs.Ytbjbgodcenopnaa

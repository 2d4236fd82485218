/- Written by a program of this session (gen.py): the contracts of functions of the program. -/
import Derived.KernelRfl
import Derived.Test.YtbjbgodcenopnaaProg
import Derived.Test.YtbjbgodcenopnaaAvFun
import Derived.Test.YtbjbgodcenopnaaAvMan
import Derived.Test.YtbjbgodcenopnaaAvMore
import Derived.Test.YtbjbgodcenopnaaAvDraw2
import Derived.Test.YtbjbgodcenopnaaAvRow
import Derived.Test.YtbjbgodcenopnaaAvBld
import Derived.Test.YtbjbgodcenopnaaHrd
import Derived.Test.YtbjbgodcenopnaaHcl
import Derived.Test.YtbjbgodcenopnaaPaP6
import Derived.Test.YtbjbgodcenopnaaPdD
import Derived.Test.YtbjbgodcenopnaaPdP1
namespace Go.Proofs.Ytbjbgodcenopnaa
set_option linter.unusedVariables false
set_option maxRecDepth 20000
set_option maxHeartbeats 10000000
theorem offshootlaw12_ParseDeep.ok (K : Nat) (v0 : Int) (v1 : Int) (r : Bool) (h : offshootlaw12_ParseDeep.f K v0 v1 = some r) :
    FW.Ok Go.Proofs.Try.prog 5 [.lit (.int .i64 v0), .lit (.int .i64 v1)] (.lit (.bool r)) := by
  refine FW.enter (xs := [.lit (.int .i64 v0), .lit (.int .i64 v1)]) Go.Proofs.Try.func5 rfl Go.Proofs.Try.ntmps5 rfl ?_
  intro M w0 a hk
  unfold offshootlaw12_ParseDeep.f at h
  refine FW.wreg ?_; intro K' hK1
  refine FW.lfun (y := .lit (.bool false)) hk rfl rfl rfl rfl (FW.f_assign hk (FW.holds_nil _) rfl) ?_; clear hk; intro a w hk
  refine FW.lend (hK1 _ _ ?_); clear hK1 K'
  refine FW.wreg ?_; intro K' hK2
  refine FW.lfun (y := .lit (.int .i64 v0)) hk rfl rfl rfl rfl (FW.f_move hk (FW.holds_nil _) rfl) ?_; clear hk; intro a w hk
  refine FW.lfun (y := .lit (.int .i64 (FW.andI .i64 v0 15))) hk rfl rfl rfl rfl ((FW.f_pure (FW.p_and hk.kn (FW.holds_nil _) rfl rfl))) ?_; clear hk; intro a w hk
  refine FW.lfun (y := .lit (.int .i64 (FW.andI .i64 v0 15))) hk rfl rfl rfl rfl (FW.f_assign hk (FW.holds_nil _) rfl) ?_; clear hk; intro a w hk
  refine FW.lend (hK2 _ _ ?_); clear hK2 K'
  refine FW.wreg ?_; intro K' hK3
  refine FW.lfun (y := .lit (.string (FW.B ([103, 46, 86, 40, 41] : List UInt8)))) hk rfl rfl rfl rfl (FW.f_assign hk (FW.holds_nil _) rfl) ?_; clear hk; intro a w hk
  refine FW.lfun (y := .lit (.string (FW.B ([103, 46, 105, 110, 106, 101, 99, 116, 40] : List UInt8)))) hk rfl rfl rfl rfl (FW.f_assign hk (FW.holds_nil _) rfl) ?_; clear hk; intro a w hk
  refine FW.lend (hK3 _ _ ?_); clear hK3 K'
  refine FW.wseq ?_; intro K' hK4
  refine FW.wreg ?_; intro K' hK5
  refine FW.lfun (y := .lit (.int .i64 0)) hk rfl rfl rfl rfl (FW.f_assign hk (FW.holds_nil _) rfl) ?_; clear hk; intro a w hk
  refine FW.lend (hK5 _ _ ?_); clear hK5 K'
  refine wp_block ?_
  refine FW.wloop (T := Nat × Int × Int × List UInt8 × List UInt8 × Int) (fun x a w => match x with | (kl1, v1, v5, v6, v7, v8) => FW.S M w0 a w 122 [] [(1, [], .lit (.int .i64 v1)), (5, [], .lit (.int .i64 v5)), (6, [], .lit (.string (FW.B v6))), (7, [], .lit (.string (FW.B v7))), (8, [], .lit (.int .i64 v8))] ∧ offshootlaw12_ParseDeep.l1 K kl1 v1 v5 v6 v7 v8 = some r) (fun x => x.1) (K, v1, (FW.andI .i64 v0 15), ([103, 46, 86, 40, 41] : List UInt8), ([103, 46, 105, 110, 106, 101, 99, 116, 40] : List UInt8), 0) ⟨hk.sub ⟨rfl, rfl, rfl, rfl, rfl, trivial⟩, h⟩ ?_
  clear hk h
  rintro ⟨kl1, v1, v5, v6, v7, v8⟩ a w ⟨hk, h⟩ K' hK6
  cases kl1 with
  | zero => simp [offshootlaw12_ParseDeep.l1] at h
  | succ kl1 =>
  rw [offshootlaw12_ParseDeep.l1.eq_2] at h
  refine FW.wseq ?_; intro K' hK7
  refine FW.wreg ?_; intro K' hK8
  refine FW.lfun (y := .lit (.int .i64 v8)) hk rfl rfl rfl rfl (FW.f_move hk (FW.holds_nil _) rfl) ?_; clear hk; intro a w hk
  refine FW.lfun (y := .lit (.int .i64 v5)) hk rfl rfl rfl rfl (FW.f_move hk (FW.holds_nil _) rfl) ?_; clear hk; intro a w hk
  refine FW.lfun (y := .lit (.bool (decide (v8 < v5)))) hk rfl rfl rfl rfl ((FW.f_pure (FW.p_lss hk.kn (FW.holds_nil _) rfl rfl))) ?_; clear hk; intro a w hk
  refine FW.lend (hK8 _ _ ?_); clear hK8 K'
  refine FW.wcondF (b := (decide (v8 < v5))) hk h rfl (fun h hb => ?_) (fun h hb => ?_)
  · skip
    refine wp_skip ?_
    (repeat first | refine FW.then_normal ?_ | refine FW.block_normal ?_); refine hK7 _ _ ?_
    refine FW.wseq ?_; intro K' hK9
    refine wp_block ?_
    refine FW.wreg ?_; intro K' hK10
    refine FW.lfun (y := .lit (.string (FW.B v6))) hk rfl rfl rfl rfl (FW.f_move hk (FW.holds_nil _) rfl) ?_; clear hk; intro a w hk
    obtain ⟨hc1, h⟩ := FW.chk h
    refine FW.lfun (y := .lit (.string (FW.B (v6 ++ ([46, 119, 104, 101, 114, 101, 40, 111, 117, 116, 40, 41] : List UInt8))))) hk rfl rfl rfl rfl ((FW.f_pure (FW.p_sadd hk.kn (FW.holds_nil _) rfl rfl hc1))) ?_; clear hk; intro a w hk
    refine FW.lfun (y := .lit (.string (FW.B (v6 ++ ([46, 119, 104, 101, 114, 101, 40, 111, 117, 116, 40, 41] : List UInt8))))) hk rfl rfl rfl rfl (FW.f_assign hk (FW.holds_nil _) rfl) ?_; clear hk; intro a w hk
    refine FW.lend (hK10 _ _ ?_); clear hK10 K'
    refine FW.wreg1 ?_
    refine FW.lfun (y := .lit (.string (FW.B v7))) hk rfl rfl rfl rfl (FW.f_move hk (FW.holds_nil _) rfl) ?_; clear hk; intro a w hk
    obtain ⟨hc2, h⟩ := FW.chk h
    refine FW.lfun (y := .lit (.string (FW.B (v7 ++ ([91] : List UInt8))))) hk rfl rfl rfl rfl ((FW.f_pure (FW.p_sadd hk.kn (FW.holds_nil _) rfl rfl hc2))) ?_; clear hk; intro a w hk
    refine FW.lfun (y := .lit (.string (FW.B (v7 ++ ([91] : List UInt8))))) hk rfl rfl rfl rfl (FW.f_assign hk (FW.holds_nil _) rfl) ?_; clear hk; intro a w hk
    refine wpList_nil ?_
    (repeat first | refine FW.then_normal ?_ | refine FW.block_normal ?_); refine hK9 _ _ ?_
    refine FW.wreg1 ?_
    refine FW.lfun (y := .lit (.int .i64 v8)) hk rfl rfl rfl rfl (FW.f_move hk (FW.holds_nil _) rfl) ?_; clear hk; intro a w hk
    refine FW.lfun (y := .lit (.int .i64 (IntKind.wrap .i64 (v8 + 1)))) hk rfl rfl rfl rfl ((FW.f_pure (FW.p_add hk.kn (FW.holds_nil _) rfl rfl))) ?_; clear hk; intro a w hk
    refine FW.lfun (y := .lit (.int .i64 (IntKind.wrap .i64 (v8 + 1)))) hk rfl rfl rfl rfl (FW.f_assign hk (FW.holds_nil _) rfl) ?_; clear hk; intro a w hk
    refine wpList_nil ?_
    (repeat first | refine FW.then_normal ?_ | refine FW.block_normal ?_); exact hK6 (kl1, v1, v5, (v6 ++ ([46, 119, 104, 101, 114, 101, 40, 111, 117, 116, 40, 41] : List UInt8)), (v7 ++ ([91] : List UInt8)), (IntKind.wrap .i64 (v8 + 1))) _ _ (Nat.lt_succ_self _) ⟨hk.sub ⟨rfl, rfl, rfl, rfl, rfl, trivial⟩, h⟩
  · skip
    refine wp_exit ?_; (repeat first | refine FW.then_exit ?_ | refine FW.block_exit_ne rfl ?_); refine FW.block_exit ?_
    (repeat first | refine FW.then_normal ?_ | refine FW.block_normal ?_); refine hK4 _ _ ?_
    refine FW.wseq ?_; intro K' hK13
    refine FW.wreg ?_; intro K' hK14
    refine FW.lfun (y := .lit (.int .i64 0)) hk rfl rfl rfl rfl (FW.f_assign hk (FW.holds_nil _) rfl) ?_; clear hk; intro a w hk
    refine FW.lend (hK14 _ _ ?_); clear hK14 K'
    refine wp_block ?_
    refine FW.wloop (T := Nat × Int × Int × List UInt8 × List UInt8 × Int) (fun x a w => match x with | (kl2, v1, v5, v6, v7, v9) => FW.S M w0 a w 122 [] [(1, [], .lit (.int .i64 v1)), (5, [], .lit (.int .i64 v5)), (6, [], .lit (.string (FW.B v6))), (7, [], .lit (.string (FW.B v7))), (9, [], .lit (.int .i64 v9))] ∧ offshootlaw12_ParseDeep.l2 (offshootlaw12_ParseDeep.l1 K kl1) K kl2 v1 v5 v6 v7 v9 = some r) (fun x => x.1) (K, v1, v5, v6, v7, 0) ⟨hk.sub ⟨rfl, rfl, rfl, rfl, rfl, trivial⟩, h⟩ ?_
    clear hk h
    rintro ⟨kl2, v1, v5, v6, v7, v9⟩ a w ⟨hk, h⟩ K' hK15
    cases kl2 with
    | zero => simp [offshootlaw12_ParseDeep.l2] at h
    | succ kl2 =>
    rw [offshootlaw12_ParseDeep.l2.eq_2] at h
    refine FW.wseq ?_; intro K' hK16
    refine FW.wreg ?_; intro K' hK17
    refine FW.lfun (y := .lit (.int .i64 v9)) hk rfl rfl rfl rfl (FW.f_move hk (FW.holds_nil _) rfl) ?_; clear hk; intro a w hk
    refine FW.lfun (y := .lit (.int .i64 v5)) hk rfl rfl rfl rfl (FW.f_move hk (FW.holds_nil _) rfl) ?_; clear hk; intro a w hk
    refine FW.lfun (y := .lit (.bool (decide (v9 < v5)))) hk rfl rfl rfl rfl ((FW.f_pure (FW.p_lss hk.kn (FW.holds_nil _) rfl rfl))) ?_; clear hk; intro a w hk
    refine FW.lend (hK17 _ _ ?_); clear hK17 K'
    refine FW.wcondF (b := (decide (v9 < v5))) hk h rfl (fun h hb => ?_) (fun h hb => ?_)
    · skip
      refine wp_skip ?_
      (repeat first | refine FW.then_normal ?_ | refine FW.block_normal ?_); refine hK16 _ _ ?_
      refine FW.wseq ?_; intro K' hK18
      refine wp_block ?_
      refine FW.wreg ?_; intro K' hK19
      refine FW.lfun (y := .lit (.string (FW.B v6))) hk rfl rfl rfl rfl (FW.f_move hk (FW.holds_nil _) rfl) ?_; clear hk; intro a w hk
      obtain ⟨hc3, h⟩ := FW.chk h
      refine FW.lfun (y := .lit (.string (FW.B (v6 ++ ([41] : List UInt8))))) hk rfl rfl rfl rfl ((FW.f_pure (FW.p_sadd hk.kn (FW.holds_nil _) rfl rfl hc3))) ?_; clear hk; intro a w hk
      refine FW.lfun (y := .lit (.string (FW.B (v6 ++ ([41] : List UInt8))))) hk rfl rfl rfl rfl (FW.f_assign hk (FW.holds_nil _) rfl) ?_; clear hk; intro a w hk
      refine FW.lend (hK19 _ _ ?_); clear hK19 K'
      refine FW.wreg1 ?_
      refine FW.lfun (y := .lit (.string (FW.B v7))) hk rfl rfl rfl rfl (FW.f_move hk (FW.holds_nil _) rfl) ?_; clear hk; intro a w hk
      obtain ⟨hc4, h⟩ := FW.chk h
      refine FW.lfun (y := .lit (.string (FW.B (v7 ++ ([93] : List UInt8))))) hk rfl rfl rfl rfl ((FW.f_pure (FW.p_sadd hk.kn (FW.holds_nil _) rfl rfl hc4))) ?_; clear hk; intro a w hk
      refine FW.lfun (y := .lit (.string (FW.B (v7 ++ ([93] : List UInt8))))) hk rfl rfl rfl rfl (FW.f_assign hk (FW.holds_nil _) rfl) ?_; clear hk; intro a w hk
      refine wpList_nil ?_
      (repeat first | refine FW.then_normal ?_ | refine FW.block_normal ?_); refine hK18 _ _ ?_
      refine FW.wreg1 ?_
      refine FW.lfun (y := .lit (.int .i64 v9)) hk rfl rfl rfl rfl (FW.f_move hk (FW.holds_nil _) rfl) ?_; clear hk; intro a w hk
      refine FW.lfun (y := .lit (.int .i64 (IntKind.wrap .i64 (v9 + 1)))) hk rfl rfl rfl rfl ((FW.f_pure (FW.p_add hk.kn (FW.holds_nil _) rfl rfl))) ?_; clear hk; intro a w hk
      refine FW.lfun (y := .lit (.int .i64 (IntKind.wrap .i64 (v9 + 1)))) hk rfl rfl rfl rfl (FW.f_assign hk (FW.holds_nil _) rfl) ?_; clear hk; intro a w hk
      refine wpList_nil ?_
      (repeat first | refine FW.then_normal ?_ | refine FW.block_normal ?_); exact hK15 (kl2, v1, v5, (v6 ++ ([41] : List UInt8)), (v7 ++ ([93] : List UInt8)), (IntKind.wrap .i64 (v9 + 1))) _ _ (Nat.lt_succ_self _) ⟨hk.sub ⟨rfl, rfl, rfl, rfl, rfl, trivial⟩, h⟩
    · skip
      refine wp_exit ?_; (repeat first | refine FW.then_exit ?_ | refine FW.block_exit_ne rfl ?_); refine FW.block_exit ?_
      (repeat first | refine FW.then_normal ?_ | refine FW.block_normal ?_); refine hK13 _ _ ?_
      refine FW.wreg ?_; intro K' hK22
      refine FW.lfun (y := .lit (.int .i64 v1)) hk rfl rfl rfl rfl (FW.f_move hk (FW.holds_nil _) rfl) ?_; clear hk; intro a w hk
      refine FW.lfun (y := .lit (.int .i64 (FW.andI .i64 v1 3))) hk rfl rfl rfl rfl ((FW.f_pure (FW.p_and hk.kn (FW.holds_nil _) rfl rfl))) ?_; clear hk; intro a w hk
      refine FW.lfun (y := .lit (.int .i64 (IntKind.wrap .i64 (148 + (FW.andI .i64 v1 3))))) hk rfl rfl rfl rfl ((FW.f_pure (FW.p_add hk.kn (FW.holds_nil _) rfl rfl))) ?_; clear hk; intro a w hk
      refine FW.lfun (y := .lit (.string (FW.B ([103, 46, 86, 40, 41] : List UInt8)))) hk rfl rfl rfl rfl (FW.f_assign hk (FW.holds_nil _) rfl) ?_; clear hk; intro a w hk
      refine FW.lfun (y := .lit (.int .i64 (IntKind.wrap .i64 (148 + (FW.andI .i64 v1 3))))) hk rfl rfl rfl rfl (FW.f_assign hk (FW.holds_nil _) rfl) ?_; clear hk; intro a w hk
      refine FW.lend (hK22 _ _ ?_); clear hK22 K'
      refine FW.wseq ?_; intro K' hK23
      refine FW.wreg ?_; intro K' hK24
      refine FW.lfun (y := .lit (.int .i64 0)) hk rfl rfl rfl rfl (FW.f_assign hk (FW.holds_nil _) rfl) ?_; clear hk; intro a w hk
      refine FW.lend (hK24 _ _ ?_); clear hK24 K'
      refine wp_block ?_
      refine FW.wloop (T := Nat × Int × List UInt8 × List UInt8 × List UInt8 × Int × Int) (fun x a w => match x with | (kl3, v5, v6, v7, v10, v11, v12) => FW.S M w0 a w 122 [] [(5, [], .lit (.int .i64 v5)), (6, [], .lit (.string (FW.B v6))), (7, [], .lit (.string (FW.B v7))), (10, [], .lit (.string (FW.B v10))), (11, [], .lit (.int .i64 v11)), (12, [], .lit (.int .i64 v12))] ∧ offshootlaw12_ParseDeep.l3 (offshootlaw12_ParseDeep.l1 K kl1) (offshootlaw12_ParseDeep.l2 (offshootlaw12_ParseDeep.l1 K kl1) K kl2) K kl3 v5 v6 v7 v10 v11 v12 = some r) (fun x => x.1) (K, v5, v6, v7, ([103, 46, 86, 40, 41] : List UInt8), (IntKind.wrap .i64 (148 + (FW.andI .i64 v1 3))), 0) ⟨hk.sub ⟨rfl, rfl, rfl, rfl, rfl, rfl, trivial⟩, h⟩ ?_
      clear hk h
      rintro ⟨kl3, v5, v6, v7, v10, v11, v12⟩ a w ⟨hk, h⟩ K' hK25
      cases kl3 with
      | zero => simp [offshootlaw12_ParseDeep.l3] at h
      | succ kl3 =>
      rw [offshootlaw12_ParseDeep.l3.eq_2] at h
      refine FW.wseq ?_; intro K' hK26
      refine FW.wreg ?_; intro K' hK27
      refine FW.lfun (y := .lit (.int .i64 v12)) hk rfl rfl rfl rfl (FW.f_move hk (FW.holds_nil _) rfl) ?_; clear hk; intro a w hk
      refine FW.lfun (y := .lit (.int .i64 v11)) hk rfl rfl rfl rfl (FW.f_move hk (FW.holds_nil _) rfl) ?_; clear hk; intro a w hk
      refine FW.lfun (y := .lit (.bool (decide (v12 < v11)))) hk rfl rfl rfl rfl ((FW.f_pure (FW.p_lss hk.kn (FW.holds_nil _) rfl rfl))) ?_; clear hk; intro a w hk
      refine FW.lend (hK27 _ _ ?_); clear hK27 K'
      refine FW.wcondF (b := (decide (v12 < v11))) hk h rfl (fun h hb => ?_) (fun h hb => ?_)
      · skip
        refine wp_skip ?_
        (repeat first | refine FW.then_normal ?_ | refine FW.block_normal ?_); refine hK26 _ _ ?_
        refine FW.wseq ?_; intro K' hK28
        refine wp_block ?_
        refine FW.wreg1 ?_
        refine FW.lfun (y := .lit (.string (FW.B v10))) hk rfl rfl rfl rfl (FW.f_move hk (FW.holds_nil _) rfl) ?_; clear hk; intro a w hk
        obtain ⟨hc5, h⟩ := FW.chk h
        refine FW.lfun (y := .lit (.string (FW.B (v10 ++ ([46, 105, 100, 40, 41] : List UInt8))))) hk rfl rfl rfl rfl ((FW.f_pure (FW.p_sadd hk.kn (FW.holds_nil _) rfl rfl hc5))) ?_; clear hk; intro a w hk
        refine FW.lfun (y := .lit (.string (FW.B (v10 ++ ([46, 105, 100, 40, 41] : List UInt8))))) hk rfl rfl rfl rfl (FW.f_assign hk (FW.holds_nil _) rfl) ?_; clear hk; intro a w hk
        refine wpList_nil ?_
        (repeat first | refine FW.then_normal ?_ | refine FW.block_normal ?_); refine hK28 _ _ ?_
        refine FW.wreg1 ?_
        refine FW.lfun (y := .lit (.int .i64 v12)) hk rfl rfl rfl rfl (FW.f_move hk (FW.holds_nil _) rfl) ?_; clear hk; intro a w hk
        refine FW.lfun (y := .lit (.int .i64 (IntKind.wrap .i64 (v12 + 1)))) hk rfl rfl rfl rfl ((FW.f_pure (FW.p_add hk.kn (FW.holds_nil _) rfl rfl))) ?_; clear hk; intro a w hk
        refine FW.lfun (y := .lit (.int .i64 (IntKind.wrap .i64 (v12 + 1)))) hk rfl rfl rfl rfl (FW.f_assign hk (FW.holds_nil _) rfl) ?_; clear hk; intro a w hk
        refine wpList_nil ?_
        (repeat first | refine FW.then_normal ?_ | refine FW.block_normal ?_); exact hK25 (kl3, v5, v6, v7, (v10 ++ ([46, 105, 100, 40, 41] : List UInt8)), v11, (IntKind.wrap .i64 (v12 + 1))) _ _ (Nat.lt_succ_self _) ⟨hk.sub ⟨rfl, rfl, rfl, rfl, rfl, rfl, trivial⟩, h⟩
      · skip
        refine wp_exit ?_; (repeat first | refine FW.then_exit ?_ | refine FW.block_exit_ne rfl ?_); refine FW.block_exit ?_
        (repeat first | refine FW.then_normal ?_ | refine FW.block_normal ?_); refine hK23 _ _ ?_
        refine FW.wreg ?_; intro K' hK31
        refine FW.lfun (y := .lit (.string (FW.B v6))) hk rfl rfl rfl rfl (FW.f_move hk (FW.holds_nil _) rfl) ?_; clear hk; intro a w hk
        obtain ⟨t1, hr_t1, h⟩ := FW.bnd h
        refine FW.lfun (y := .tup [.row (r_ApiStep_cells t1.1), .lit (.int .i64 t1.2.1), .lit (.int .i64 t1.2.2)]) hk rfl rfl rfl rfl (FW.f_call hk (FW.holds_nil _) rfl rfl Go.Proofs.Try.func18 rfl (by kernel_rfl) (parse_Parse.ok K v6 _ hr_t1)) ?_; clear hk; intro a w hk
        refine FW.lfun (y := .tup [.row (r_ApiStep_cells t1.1), .lit (.int .i64 t1.2.1), .lit (.int .i64 t1.2.2)]) hk rfl rfl rfl rfl (FW.f_move hk (FW.holds_nil _) rfl) ?_; clear hk; intro a w hk
        refine FW.lfun (y := .row (r_ApiStep_cells t1.1)) hk rfl rfl rfl rfl (FW.f_extract hk (FW.holds_nil _) rfl rfl) ?_; clear hk; intro a w hk
        refine FW.lfun (y := .lit (.int .i64 t1.2.1)) hk rfl rfl rfl rfl (FW.f_extract hk (FW.holds_nil _) rfl rfl) ?_; clear hk; intro a w hk
        refine FW.lfun (y := .lit (.int .i64 t1.2.2)) hk rfl rfl rfl rfl (FW.f_extract hk (FW.holds_nil _) rfl rfl) ?_; clear hk; intro a w hk
        refine FW.lfun (y := .row (r_ApiStep_cells t1.1)) hk rfl rfl rfl rfl (FW.f_assign hk (FW.holds_nil _) rfl) ?_; clear hk; intro a w hk
        refine FW.lfun (y := .lit (.int .i64 t1.2.1)) hk rfl rfl rfl rfl (FW.f_assign hk (FW.holds_nil _) rfl) ?_; clear hk; intro a w hk
        refine FW.lfun (y := .lit (.int .i64 t1.2.2)) hk rfl rfl rfl rfl (FW.f_assign hk (FW.holds_nil _) rfl) ?_; clear hk; intro a w hk
        refine FW.lend (hK31 _ _ ?_); clear hK31 K'
        refine FW.wreg ?_; intro K' hK32
        refine FW.lfun (y := .lit (.string (FW.B v7))) hk rfl rfl rfl rfl (FW.f_move hk (FW.holds_nil _) rfl) ?_; clear hk; intro a w hk
        obtain ⟨hc6, h⟩ := FW.chk h
        refine FW.lfun (y := .lit (.string (FW.B (v7 ++ ([41] : List UInt8))))) hk rfl rfl rfl rfl ((FW.f_pure (FW.p_sadd hk.kn (FW.holds_nil _) rfl rfl hc6))) ?_; clear hk; intro a w hk
        obtain ⟨t2, hr_t2, h⟩ := FW.bnd h
        refine FW.lfun (y := .tup [.row (r_ApiStep_cells t2.1), .lit (.int .i64 t2.2.1), .lit (.int .i64 t2.2.2)]) hk rfl rfl rfl rfl (FW.f_call hk (FW.holds_nil _) rfl rfl Go.Proofs.Try.func18 rfl (by kernel_rfl) (parse_Parse.ok K (v7 ++ ([41] : List UInt8)) _ hr_t2)) ?_; clear hk; intro a w hk
        refine FW.lfun (y := .tup [.row (r_ApiStep_cells t2.1), .lit (.int .i64 t2.2.1), .lit (.int .i64 t2.2.2)]) hk rfl rfl rfl rfl (FW.f_move hk (FW.holds_nil _) rfl) ?_; clear hk; intro a w hk
        refine FW.lfun (y := .row (r_ApiStep_cells t2.1)) hk rfl rfl rfl rfl (FW.f_extract hk (FW.holds_nil _) rfl rfl) ?_; clear hk; intro a w hk
        refine FW.lfun (y := .lit (.int .i64 t2.2.1)) hk rfl rfl rfl rfl (FW.f_extract hk (FW.holds_nil _) rfl rfl) ?_; clear hk; intro a w hk
        refine FW.lfun (y := .lit (.int .i64 t2.2.2)) hk rfl rfl rfl rfl (FW.f_extract hk (FW.holds_nil _) rfl rfl) ?_; clear hk; intro a w hk
        refine FW.lfun (y := .row (r_ApiStep_cells t2.1)) hk rfl rfl rfl rfl (FW.f_assign hk (FW.holds_nil _) rfl) ?_; clear hk; intro a w hk
        refine FW.lfun (y := .lit (.int .i64 t2.2.1)) hk rfl rfl rfl rfl (FW.f_assign hk (FW.holds_nil _) rfl) ?_; clear hk; intro a w hk
        refine FW.lfun (y := .lit (.int .i64 t2.2.2)) hk rfl rfl rfl rfl (FW.f_assign hk (FW.holds_nil _) rfl) ?_; clear hk; intro a w hk
        refine FW.lend (hK32 _ _ ?_); clear hK32 K'
        refine FW.wreg ?_; intro K' hK33
        refine FW.lfun (y := .lit (.string (FW.B v10))) hk rfl rfl rfl rfl (FW.f_move hk (FW.holds_nil _) rfl) ?_; clear hk; intro a w hk
        obtain ⟨t3, hr_t3, h⟩ := FW.bnd h
        refine FW.lfun (y := .tup [.row (r_ApiStep_cells t3.1), .lit (.int .i64 t3.2.1), .lit (.int .i64 t3.2.2)]) hk rfl rfl rfl rfl (FW.f_call hk (FW.holds_nil _) rfl rfl Go.Proofs.Try.func18 rfl (by kernel_rfl) (parse_Parse.ok K v10 _ hr_t3)) ?_; clear hk; intro a w hk
        refine FW.lfun (y := .tup [.row (r_ApiStep_cells t3.1), .lit (.int .i64 t3.2.1), .lit (.int .i64 t3.2.2)]) hk rfl rfl rfl rfl (FW.f_move hk (FW.holds_nil _) rfl) ?_; clear hk; intro a w hk
        refine FW.lfun (y := .row (r_ApiStep_cells t3.1)) hk rfl rfl rfl rfl (FW.f_extract hk (FW.holds_nil _) rfl rfl) ?_; clear hk; intro a w hk
        refine FW.lfun (y := .lit (.int .i64 t3.2.1)) hk rfl rfl rfl rfl (FW.f_extract hk (FW.holds_nil _) rfl rfl) ?_; clear hk; intro a w hk
        refine FW.lfun (y := .lit (.int .i64 t3.2.2)) hk rfl rfl rfl rfl (FW.f_extract hk (FW.holds_nil _) rfl rfl) ?_; clear hk; intro a w hk
        refine FW.lfun (y := .row (r_ApiStep_cells t3.1)) hk rfl rfl rfl rfl (FW.f_assign hk (FW.holds_nil _) rfl) ?_; clear hk; intro a w hk
        refine FW.lfun (y := .lit (.int .i64 t3.2.1)) hk rfl rfl rfl rfl (FW.f_assign hk (FW.holds_nil _) rfl) ?_; clear hk; intro a w hk
        refine FW.lfun (y := .lit (.int .i64 t3.2.2)) hk rfl rfl rfl rfl (FW.f_assign hk (FW.holds_nil _) rfl) ?_; clear hk; intro a w hk
        refine FW.lend (hK33 _ _ ?_); clear hK33 K'
        refine FW.wreg ?_; intro K' hK34
        obtain ⟨t4, hr_t4, h⟩ := FW.bnd h
        refine FW.lfun (y := .lit (.bool t4)) hk rfl rfl rfl rfl (FW.f_call hk (FW.holds_nil _) rfl rfl Go.Proofs.Try.func19 rfl (by kernel_rfl) (offshootlaw12_awake.ok K  _ hr_t4)) ?_; clear hk; intro a w hk
        refine FW.lfun (y := .lit (.bool t4)) hk rfl rfl rfl rfl (FW.f_move hk (FW.holds_nil _) rfl) ?_; clear hk; intro a w hk
        refine FW.lfunG (y := .lit (.int .i64 t1.2.2)) hk rfl rfl rfl rfl rfl rfl rfl rfl (fun hc => FW.f_move hk hc rfl) ?_; clear hk; intro a w hk
        refine FW.lfunG (y := .lit (.bool (decide (t1.2.2 = 0)))) hk rfl rfl rfl rfl rfl rfl rfl rfl (fun hc => (FW.f_pure (FW.p_eql hk.kn hc rfl rfl))) ?_; clear hk; intro a w hk
        refine FW.lfunG (y := .lit (.int .i64 v5)) hk rfl rfl rfl rfl rfl rfl rfl rfl (fun hc => FW.f_move hk hc rfl) ?_; clear hk; intro a w hk
        refine FW.lfunG (y := .lit (.bool (decide (v5 ≤ 12)))) hk rfl rfl rfl rfl rfl rfl rfl rfl (fun hc => (FW.f_pure (FW.p_leq hk.kn hc rfl rfl))) ?_; clear hk; intro a w hk
        refine FW.lfunG (y := .lit (.bool ((decide (t1.2.2 = 0)) == (decide (v5 ≤ 12))))) hk rfl rfl rfl rfl rfl rfl rfl rfl (fun hc => (FW.f_pure (FW.p_beql Go.Proofs.Try.underlying4 hk.kn hc rfl rfl))) ?_; clear hk; intro a w hk
        refine FW.lfun (y := .lit (.bool (t4 && ((decide (t1.2.2 = 0)) == (decide (v5 ≤ 12)))))) hk rfl rfl rfl rfl ((FW.f_pure (FW.p_pick_and hk.kn (FW.holds_nil _) rfl rfl))) ?_; clear hk; intro a w hk
        refine FW.lfun (y := .lit (.bool (t4 && ((decide (t1.2.2 = 0)) == (decide (v5 ≤ 12)))))) hk rfl rfl rfl rfl (FW.f_move hk (FW.holds_nil _) rfl) ?_; clear hk; intro a w hk
        refine FW.lfunG (y := .lit (.int .i64 t1.2.2)) hk rfl rfl rfl rfl rfl rfl rfl rfl (fun hc => FW.f_move hk hc rfl) ?_; clear hk; intro a w hk
        refine FW.lfunG (y := .lit (.bool (decide (t1.2.2 = 0)))) hk rfl rfl rfl rfl rfl rfl rfl rfl (fun hc => (FW.f_pure (FW.p_eql hk.kn hc rfl rfl))) ?_; clear hk; intro a w hk
        refine FW.lfunG (y := .lit (.bool (decide (t1.2.2 = 0)))) hk rfl rfl rfl rfl rfl rfl rfl rfl (fun hc => FW.f_move hk hc rfl) ?_; clear hk; intro a w hk
        refine FW.lfunG (y := .lit (.int .i64 t1.2.2)) hk rfl rfl rfl rfl rfl rfl rfl rfl (fun hc => FW.f_move hk hc rfl) ?_; clear hk; intro a w hk
        refine FW.lfunG (y := .lit (.bool (decide (t1.2.2 = 3)))) hk rfl rfl rfl rfl rfl rfl rfl rfl (fun hc => (FW.f_pure (FW.p_eql hk.kn hc rfl rfl))) ?_; clear hk; intro a w hk
        refine FW.lfunG (y := .lit (.bool ((decide (t1.2.2 = 0)) || (decide (t1.2.2 = 3))))) hk rfl rfl rfl rfl rfl rfl rfl rfl (fun hc => (FW.f_pure (FW.p_pick_or hk.kn hc rfl rfl))) ?_; clear hk; intro a w hk
        refine FW.lfun (y := .lit (.bool ((t4 && ((decide (t1.2.2 = 0)) == (decide (v5 ≤ 12)))) && ((decide (t1.2.2 = 0)) || (decide (t1.2.2 = 3)))))) hk rfl rfl rfl rfl ((FW.f_pure (FW.p_pick_and hk.kn (FW.holds_nil _) rfl rfl))) ?_; clear hk; intro a w hk
        refine FW.lfun (y := .lit (.bool ((t4 && ((decide (t1.2.2 = 0)) == (decide (v5 ≤ 12)))) && ((decide (t1.2.2 = 0)) || (decide (t1.2.2 = 3)))))) hk rfl rfl rfl rfl (FW.f_move hk (FW.holds_nil _) rfl) ?_; clear hk; intro a w hk
        refine FW.lfunG (y := .lit (.int .i64 v5)) hk rfl rfl rfl rfl rfl rfl rfl rfl (fun hc => FW.f_move hk hc rfl) ?_; clear hk; intro a w hk
        refine FW.lfunG (y := .lit (.bool (decide (v5 = 0)))) hk rfl rfl rfl rfl rfl rfl rfl rfl (fun hc => (FW.f_pure (FW.p_eql hk.kn hc rfl rfl))) ?_; clear hk; intro a w hk
        refine FW.lfunG (y := .lit (.bool (decide (v5 = 0)))) hk rfl rfl rfl rfl rfl rfl rfl rfl (fun hc => FW.f_move hk hc rfl) ?_; clear hk; intro a w hk
        refine FW.lfunG (y := .lit (.int .i64 t2.2.2)) hk rfl rfl rfl rfl rfl rfl rfl rfl (fun hc => FW.f_move hk hc rfl) ?_; clear hk; intro a w hk
        refine FW.lfunG (y := .lit (.bool (decide (t2.2.2 = 0)))) hk rfl rfl rfl rfl rfl rfl rfl rfl (fun hc => (FW.f_pure (FW.p_eql hk.kn hc rfl rfl))) ?_; clear hk; intro a w hk
        refine FW.lfunG (y := .lit (.int .i64 v5)) hk rfl rfl rfl rfl rfl rfl rfl rfl (fun hc => FW.f_move hk hc rfl) ?_; clear hk; intro a w hk
        refine FW.lfunG (y := .lit (.bool (decide (v5 ≤ 12)))) hk rfl rfl rfl rfl rfl rfl rfl rfl (fun hc => (FW.f_pure (FW.p_leq hk.kn hc rfl rfl))) ?_; clear hk; intro a w hk
        refine FW.lfunG (y := .lit (.bool ((decide (t2.2.2 = 0)) == (decide (v5 ≤ 12))))) hk rfl rfl rfl rfl rfl rfl rfl rfl (fun hc => (FW.f_pure (FW.p_beql Go.Proofs.Try.underlying4 hk.kn hc rfl rfl))) ?_; clear hk; intro a w hk
        refine FW.lfunG (y := .lit (.bool ((decide (t2.2.2 = 0)) == (decide (v5 ≤ 12))))) hk rfl rfl rfl rfl rfl rfl rfl rfl (fun hc => FW.f_move hk hc rfl) ?_; clear hk; intro a w hk
        refine FW.lfunG (y := .lit (.int .i64 t2.2.2)) hk rfl rfl rfl rfl rfl rfl rfl rfl (fun hc => FW.f_move hk hc rfl) ?_; clear hk; intro a w hk
        refine FW.lfunG (y := .lit (.bool (decide (t2.2.2 = 0)))) hk rfl rfl rfl rfl rfl rfl rfl rfl (fun hc => (FW.f_pure (FW.p_eql hk.kn hc rfl rfl))) ?_; clear hk; intro a w hk
        refine FW.lfunG (y := .lit (.bool (decide (t2.2.2 = 0)))) hk rfl rfl rfl rfl rfl rfl rfl rfl (fun hc => FW.f_move hk hc rfl) ?_; clear hk; intro a w hk
        refine FW.lfunG (y := .lit (.int .i64 t2.2.2)) hk rfl rfl rfl rfl rfl rfl rfl rfl (fun hc => FW.f_move hk hc rfl) ?_; clear hk; intro a w hk
        refine FW.lfunG (y := .lit (.bool (decide (t2.2.2 = 3)))) hk rfl rfl rfl rfl rfl rfl rfl rfl (fun hc => (FW.f_pure (FW.p_eql hk.kn hc rfl rfl))) ?_; clear hk; intro a w hk
        refine FW.lfunG (y := .lit (.bool ((decide (t2.2.2 = 0)) || (decide (t2.2.2 = 3))))) hk rfl rfl rfl rfl rfl rfl rfl rfl (fun hc => (FW.f_pure (FW.p_pick_or hk.kn hc rfl rfl))) ?_; clear hk; intro a w hk
        refine FW.lfunG (y := .lit (.bool (((decide (t2.2.2 = 0)) == (decide (v5 ≤ 12))) && ((decide (t2.2.2 = 0)) || (decide (t2.2.2 = 3)))))) hk rfl rfl rfl rfl rfl rfl rfl rfl (fun hc => (FW.f_pure (FW.p_pick_and hk.kn hc rfl rfl))) ?_; clear hk; intro a w hk
        refine FW.lfunG (y := .lit (.bool ((decide (v5 = 0)) || (((decide (t2.2.2 = 0)) == (decide (v5 ≤ 12))) && ((decide (t2.2.2 = 0)) || (decide (t2.2.2 = 3))))))) hk rfl rfl rfl rfl rfl rfl rfl rfl (fun hc => (FW.f_pure (FW.p_pick_or hk.kn hc rfl rfl))) ?_; clear hk; intro a w hk
        refine FW.lfun (y := .lit (.bool (((t4 && ((decide (t1.2.2 = 0)) == (decide (v5 ≤ 12)))) && ((decide (t1.2.2 = 0)) || (decide (t1.2.2 = 3)))) && ((decide (v5 = 0)) || (((decide (t2.2.2 = 0)) == (decide (v5 ≤ 12))) && ((decide (t2.2.2 = 0)) || (decide (t2.2.2 = 3)))))))) hk rfl rfl rfl rfl ((FW.f_pure (FW.p_pick_and hk.kn (FW.holds_nil _) rfl rfl))) ?_; clear hk; intro a w hk
        refine FW.lfun (y := .lit (.bool (((t4 && ((decide (t1.2.2 = 0)) == (decide (v5 ≤ 12)))) && ((decide (t1.2.2 = 0)) || (decide (t1.2.2 = 3)))) && ((decide (v5 = 0)) || (((decide (t2.2.2 = 0)) == (decide (v5 ≤ 12))) && ((decide (t2.2.2 = 0)) || (decide (t2.2.2 = 3)))))))) hk rfl rfl rfl rfl (FW.f_move hk (FW.holds_nil _) rfl) ?_; clear hk; intro a w hk
        refine FW.lfunG (y := .lit (.int .i64 t3.2.2)) hk rfl rfl rfl rfl rfl rfl rfl rfl (fun hc => FW.f_move hk hc rfl) ?_; clear hk; intro a w hk
        refine FW.lfunG (y := .lit (.bool (decide (t3.2.2 = 0)))) hk rfl rfl rfl rfl rfl rfl rfl rfl (fun hc => (FW.f_pure (FW.p_eql hk.kn hc rfl rfl))) ?_; clear hk; intro a w hk
        refine FW.lfunG (y := .lit (.int .i64 v11)) hk rfl rfl rfl rfl rfl rfl rfl rfl (fun hc => FW.f_move hk hc rfl) ?_; clear hk; intro a w hk
        refine FW.lfunG (y := .lit (.int .i64 (IntKind.wrap .i64 (v11 + 1)))) hk rfl rfl rfl rfl rfl rfl rfl rfl (fun hc => (FW.f_pure (FW.p_add hk.kn hc rfl rfl))) ?_; clear hk; intro a w hk
        refine FW.lfunG (y := .lit (.bool (decide ((IntKind.wrap .i64 (v11 + 1)) ≤ 150)))) hk rfl rfl rfl rfl rfl rfl rfl rfl (fun hc => (FW.f_pure (FW.p_leq hk.kn hc rfl rfl))) ?_; clear hk; intro a w hk
        refine FW.lfunG (y := .lit (.bool ((decide (t3.2.2 = 0)) == (decide ((IntKind.wrap .i64 (v11 + 1)) ≤ 150))))) hk rfl rfl rfl rfl rfl rfl rfl rfl (fun hc => (FW.f_pure (FW.p_beql Go.Proofs.Try.underlying4 hk.kn hc rfl rfl))) ?_; clear hk; intro a w hk
        refine FW.lfun (y := .lit (.bool ((((t4 && ((decide (t1.2.2 = 0)) == (decide (v5 ≤ 12)))) && ((decide (t1.2.2 = 0)) || (decide (t1.2.2 = 3)))) && ((decide (v5 = 0)) || (((decide (t2.2.2 = 0)) == (decide (v5 ≤ 12))) && ((decide (t2.2.2 = 0)) || (decide (t2.2.2 = 3)))))) && ((decide (t3.2.2 = 0)) == (decide ((IntKind.wrap .i64 (v11 + 1)) ≤ 150)))))) hk rfl rfl rfl rfl ((FW.f_pure (FW.p_pick_and hk.kn (FW.holds_nil _) rfl rfl))) ?_; clear hk; intro a w hk
        refine FW.lfun (y := .lit (.bool ((((t4 && ((decide (t1.2.2 = 0)) == (decide (v5 ≤ 12)))) && ((decide (t1.2.2 = 0)) || (decide (t1.2.2 = 3)))) && ((decide (v5 = 0)) || (((decide (t2.2.2 = 0)) == (decide (v5 ≤ 12))) && ((decide (t2.2.2 = 0)) || (decide (t2.2.2 = 3)))))) && ((decide (t3.2.2 = 0)) == (decide ((IntKind.wrap .i64 (v11 + 1)) ≤ 150)))))) hk rfl rfl rfl rfl (FW.f_move hk (FW.holds_nil _) rfl) ?_; clear hk; intro a w hk
        refine FW.lfunG (y := .lit (.int .i64 t3.2.2)) hk rfl rfl rfl rfl rfl rfl rfl rfl (fun hc => FW.f_move hk hc rfl) ?_; clear hk; intro a w hk
        refine FW.lfunG (y := .lit (.bool (decide (t3.2.2 = 0)))) hk rfl rfl rfl rfl rfl rfl rfl rfl (fun hc => (FW.f_pure (FW.p_eql hk.kn hc rfl rfl))) ?_; clear hk; intro a w hk
        refine FW.lfunG (y := .lit (.bool (decide (t3.2.2 = 0)))) hk rfl rfl rfl rfl rfl rfl rfl rfl (fun hc => FW.f_move hk hc rfl) ?_; clear hk; intro a w hk
        refine FW.lfunG (y := .lit (.int .i64 t3.2.2)) hk rfl rfl rfl rfl rfl rfl rfl rfl (fun hc => FW.f_move hk hc rfl) ?_; clear hk; intro a w hk
        refine FW.lfunG (y := .lit (.bool (decide (t3.2.2 = 3)))) hk rfl rfl rfl rfl rfl rfl rfl rfl (fun hc => (FW.f_pure (FW.p_eql hk.kn hc rfl rfl))) ?_; clear hk; intro a w hk
        refine FW.lfunG (y := .lit (.bool ((decide (t3.2.2 = 0)) || (decide (t3.2.2 = 3))))) hk rfl rfl rfl rfl rfl rfl rfl rfl (fun hc => (FW.f_pure (FW.p_pick_or hk.kn hc rfl rfl))) ?_; clear hk; intro a w hk
        refine FW.lfun (y := .lit (.bool (((((t4 && ((decide (t1.2.2 = 0)) == (decide (v5 ≤ 12)))) && ((decide (t1.2.2 = 0)) || (decide (t1.2.2 = 3)))) && ((decide (v5 = 0)) || (((decide (t2.2.2 = 0)) == (decide (v5 ≤ 12))) && ((decide (t2.2.2 = 0)) || (decide (t2.2.2 = 3)))))) && ((decide (t3.2.2 = 0)) == (decide ((IntKind.wrap .i64 (v11 + 1)) ≤ 150)))) && ((decide (t3.2.2 = 0)) || (decide (t3.2.2 = 3)))))) hk rfl rfl rfl rfl ((FW.f_pure (FW.p_pick_and hk.kn (FW.holds_nil _) rfl rfl))) ?_; clear hk; intro a w hk
        refine FW.lfun (y := .lit (.bool (((((t4 && ((decide (t1.2.2 = 0)) == (decide (v5 ≤ 12)))) && ((decide (t1.2.2 = 0)) || (decide (t1.2.2 = 3)))) && ((decide (v5 = 0)) || (((decide (t2.2.2 = 0)) == (decide (v5 ≤ 12))) && ((decide (t2.2.2 = 0)) || (decide (t2.2.2 = 3)))))) && ((decide (t3.2.2 = 0)) == (decide ((IntKind.wrap .i64 (v11 + 1)) ≤ 150)))) && ((decide (t3.2.2 = 0)) || (decide (t3.2.2 = 3)))))) hk rfl rfl rfl rfl (FW.f_assign hk (FW.holds_nil _) rfl) ?_; clear hk; intro a w hk
        refine FW.lend (hK34 _ _ ?_); clear hK34 K'
        refine wp_ret ?_
        (repeat first | refine FW.then_ret ?_ | refine FW.block_ret ?_)
        obtain rfl := Option.some.inj h
        exact FW.fret1 hk rfl rfl

theorem offshootref01_Canon.ok  (v0 : Nat) (r : Int) (h : offshootref01_Canon.f v0 = some r) :
    FW.Ok Go.Proofs.Try.prog 35 [.lit (.float .f64 v0)] (.lit (.int .u64 r)) := by
  refine FW.enter (xs := [.lit (.float .f64 v0)]) Go.Proofs.Try.func35 rfl Go.Proofs.Try.ntmps35 rfl ?_
  intro M w0 a hk
  unfold offshootref01_Canon.f at h
  refine FW.wreg ?_; intro K' hK1
  refine FW.lfun (y := .lit (.int .u64 0)) hk rfl rfl rfl rfl (FW.f_assign hk (FW.holds_nil _) rfl) ?_; clear hk; intro a w hk
  refine FW.lend (hK1 _ _ ?_); clear hK1 K'
  refine FW.wseq ?_; intro K' hK2
  refine FW.wreg ?_; intro K' hK3
  refine FW.lfun (y := .lit (.float .f64 v0)) hk rfl rfl rfl rfl (FW.f_move hk (FW.holds_nil _) rfl) ?_; clear hk; intro a w hk
  refine FW.lfun (y := .lit (.float .f64 v0)) hk rfl rfl rfl rfl (FW.f_move hk (FW.holds_nil _) rfl) ?_; clear hk; intro a w hk
  refine FW.lfun (y := .lit (.bool (FW.fneq v0 v0))) hk rfl rfl rfl rfl ((FW.f_pure (FW.p_fneq hk.kn (FW.holds_nil _) rfl rfl))) ?_; clear hk; intro a w hk
  refine FW.lend (hK3 _ _ ?_); clear hK3 K'
  refine FW.wcondF (b := (FW.fneq v0 v0)) hk h rfl (fun h hb => ?_) (fun h hb => ?_)
  · skip
    refine FW.wreg ?_; intro K' hK4
    refine FW.lfun (y := .lit (.int .u64 9221120237041090561)) hk rfl rfl rfl rfl (FW.f_assign hk (FW.holds_nil _) rfl) ?_; clear hk; intro a w hk
    refine FW.lend (hK4 _ _ ?_); clear hK4 K'
    refine wp_ret ?_
    (repeat first | refine FW.then_ret ?_ | refine FW.block_ret ?_)
    obtain rfl := Option.some.inj h
    exact FW.fret1 hk rfl rfl
  · skip
    refine wp_skip ?_
    (repeat first | refine FW.then_normal ?_ | refine FW.block_normal ?_); refine hK2 _ _ ?_
    refine FW.wreg ?_; intro K' hK5
    refine FW.lfun (y := .lit (.float .f64 v0)) hk rfl rfl rfl rfl (FW.f_move hk (FW.holds_nil _) rfl) ?_; clear hk; intro a w hk
    refine FW.lfun (y := .lit (.int .u64 ((v0 : Nat) : Int))) hk rfl rfl rfl rfl (FW.f_bits hk (FW.holds_nil _) rfl rfl Go.Proofs.Try.func57 (by kernel_rfl) (by kernel_rfl) (by kernel_rfl) (by kernel_rfl)) ?_; clear hk; intro a w hk
    refine FW.lfun (y := .lit (.int .u64 ((v0 : Nat) : Int))) hk rfl rfl rfl rfl (FW.f_assign hk (FW.holds_nil _) rfl) ?_; clear hk; intro a w hk
    refine FW.lend (hK5 _ _ ?_); clear hK5 K'
    refine wp_ret ?_
    (repeat first | refine FW.then_ret ?_ | refine FW.block_ret ?_)
    obtain rfl := Option.some.inj h
    exact FW.fret1 hk rfl rfl

theorem offshootref02_Same.bok (s_offshootref02_Same : ApiValue → ApiValue → Option Bool) (hs_offshootref02_Same : ∀ (v0 : ApiValue) (v1 : ApiValue) (r : Bool), s_offshootref02_Same v0 v1 = some r → FW.Ok Go.Proofs.Try.prog 17 [.agg (ApiValue.cells v0), .agg (ApiValue.cells v1)] (.lit (.bool r))) (K : Nat) (v0 : ApiValue) (v1 : ApiValue) (r : Bool) (h : offshootref02_Same.b s_offshootref02_Same K v0 v1 = some r) :
    FW.Ok Go.Proofs.Try.prog 17 [.agg (ApiValue.cells v0), .agg (ApiValue.cells v1)] (.lit (.bool r)) := by
  refine FW.enter (xs := [.agg (ApiValue.cells v0), .agg (ApiValue.cells v1)]) Go.Proofs.Try.func17 rfl Go.Proofs.Try.ntmps17 rfl ?_
  intro M w0 a hk
  unfold offshootref02_Same.b at h
  refine FW.wreg ?_; intro K' hK1
  refine FW.l_box (cs := (ApiValue.cells v0)) hk rfl rfl rfl rfl rfl ?_; clear hk; intro bx1 a w hk
  refine FW.l_box (cs := (ApiValue.cells v1)) hk rfl rfl rfl rfl rfl ?_; clear hk; intro bx2 a w hk
  refine FW.lfun (y := .lit (.bool false)) hk rfl rfl rfl rfl (FW.f_assign hk (FW.holds_nil _) rfl) ?_; clear hk; intro a w hk
  refine FW.lend (hK1 _ _ ?_); clear hK1 K'
  refine FW.wseq ?_; intro K' hK2
  obtain ⟨t1, hr_t1, h⟩ := FW.bndG h
  obtain ⟨t2, hr_t2, h⟩ := FW.bndG h
  refine FW.wdraw (by kernel_rfl) (by kernel_rfl) hk ?_; clear hk
  refine FW.dfun (y := .lit (.pointer (some ⟨bx1, 0, none⟩))) rfl rfl rfl rfl (fun a w hk => FW.f_fieldPtr hk (FW.holds_nil _) rfl Go.Proofs.Try.underlying33 rfl (by kernel_rfl) rfl) ?_
  refine FW.dfun (y := .lit (.int .i64 v0.Kind)) rfl rfl rfl rfl (fun a w hk => FW.f_loadBlk1 hk (FW.holds_nil _) (j := 1) rfl rfl Go.Proofs.Try.underlying3 rfl rfl) ?_
  refine FW.dfun (y := .lit (.pointer (some ⟨bx2, 0, none⟩))) rfl rfl rfl rfl (fun a w hk => FW.f_fieldPtr hk (FW.holds_nil _) rfl Go.Proofs.Try.underlying33 rfl (by kernel_rfl) rfl) ?_
  refine FW.dfun (y := .lit (.int .i64 v1.Kind)) rfl rfl rfl rfl (fun a w hk => FW.f_loadBlk1 hk (FW.holds_nil _) (j := 0) rfl rfl Go.Proofs.Try.underlying3 rfl rfl) ?_
  refine FW.dfun (y := .lit (.bool (!decide (v0.Kind = v1.Kind)))) rfl rfl rfl rfl (fun a w hk => (FW.f_pure (FW.p_neq hk.kn (FW.holds_nil _) rfl rfl))) ?_
  refine FW.dfun (y := .lit (.bool (!decide (v0.Kind = v1.Kind)))) rfl rfl rfl rfl (fun a w hk => FW.f_move hk (FW.holds_nil _) rfl) ?_
  refine FW.dfunG (y := .lit (.pointer (some ⟨bx1, 1, none⟩))) rfl rfl rfl rfl rfl rfl rfl rfl rfl (fun a w hk hc => FW.f_fieldPtr hk hc rfl Go.Proofs.Try.underlying33 rfl (by kernel_rfl) rfl) ?_
  refine FW.dfunG (y := .lit (.bool v0.B)) rfl rfl rfl rfl rfl rfl rfl rfl rfl (fun a w hk hc => FW.f_loadBlk1 hk hc (j := 1) rfl rfl Go.Proofs.Try.underlying4 rfl rfl) ?_
  refine FW.dfunG (y := .lit (.pointer (some ⟨bx2, 1, none⟩))) rfl rfl rfl rfl rfl rfl rfl rfl rfl (fun a w hk hc => FW.f_fieldPtr hk hc rfl Go.Proofs.Try.underlying33 rfl (by kernel_rfl) rfl) ?_
  refine FW.dfunG (y := .lit (.bool v1.B)) rfl rfl rfl rfl rfl rfl rfl rfl rfl (fun a w hk hc => FW.f_loadBlk1 hk hc (j := 0) rfl rfl Go.Proofs.Try.underlying4 rfl rfl) ?_
  refine FW.dfunG (y := .lit (.bool (!(v0.B == v1.B)))) rfl rfl rfl rfl rfl rfl rfl rfl rfl (fun a w hk hc => (FW.f_pure (FW.p_bneq Go.Proofs.Try.underlying4 hk.kn hc rfl rfl))) ?_
  refine FW.dfun (y := .lit (.bool ((!decide (v0.Kind = v1.Kind)) || (!(v0.B == v1.B))))) rfl rfl rfl rfl (fun a w hk => (FW.f_pure (FW.p_pick_or hk.kn (FW.holds_nil _) rfl rfl))) ?_
  refine FW.dfun (y := .lit (.bool ((!decide (v0.Kind = v1.Kind)) || (!(v0.B == v1.B))))) rfl rfl rfl rfl (fun a w hk => FW.f_move hk (FW.holds_nil _) rfl) ?_
  refine FW.dfunG (y := .lit (.pointer (some ⟨bx1, 2, none⟩))) rfl rfl rfl rfl rfl rfl rfl rfl rfl (fun a w hk hc => FW.f_fieldPtr hk hc rfl Go.Proofs.Try.underlying33 rfl (by kernel_rfl) rfl) ?_
  refine FW.dfunG (y := .lit (.int .i64 v0.N)) rfl rfl rfl rfl rfl rfl rfl rfl rfl (fun a w hk hc => FW.f_loadBlk1 hk hc (j := 1) rfl rfl Go.Proofs.Try.underlying2 rfl rfl) ?_
  refine FW.dfunG (y := .lit (.pointer (some ⟨bx2, 2, none⟩))) rfl rfl rfl rfl rfl rfl rfl rfl rfl (fun a w hk hc => FW.f_fieldPtr hk hc rfl Go.Proofs.Try.underlying33 rfl (by kernel_rfl) rfl) ?_
  refine FW.dfunG (y := .lit (.int .i64 v1.N)) rfl rfl rfl rfl rfl rfl rfl rfl rfl (fun a w hk hc => FW.f_loadBlk1 hk hc (j := 0) rfl rfl Go.Proofs.Try.underlying2 rfl rfl) ?_
  refine FW.dfunG (y := .lit (.bool (!decide (v0.N = v1.N)))) rfl rfl rfl rfl rfl rfl rfl rfl rfl (fun a w hk hc => (FW.f_pure (FW.p_neq hk.kn hc rfl rfl))) ?_
  refine FW.dfun (y := .lit (.bool (((!decide (v0.Kind = v1.Kind)) || (!(v0.B == v1.B))) || (!decide (v0.N = v1.N))))) rfl rfl rfl rfl (fun a w hk => (FW.f_pure (FW.p_pick_or hk.kn (FW.holds_nil _) rfl rfl))) ?_
  refine FW.dfun (y := .lit (.bool (((!decide (v0.Kind = v1.Kind)) || (!(v0.B == v1.B))) || (!decide (v0.N = v1.N))))) rfl rfl rfl rfl (fun a w hk => FW.f_move hk (FW.holds_nil _) rfl) ?_
  refine FW.dfunG (y := .lit (.pointer (some ⟨bx1, 3, none⟩))) rfl rfl rfl rfl rfl rfl rfl rfl rfl (fun a w hk hc => FW.f_fieldPtr hk hc rfl Go.Proofs.Try.underlying33 rfl (by kernel_rfl) rfl) ?_
  refine FW.dfunG (y := .lit (.float .f64 v0.F)) rfl rfl rfl rfl rfl rfl rfl rfl rfl (fun a w hk hc => FW.f_loadBlk1 hk hc (j := 1) rfl rfl Go.Proofs.Try.underlying30 rfl rfl) ?_
  refine FW.dfunG (y := .lit (.int .u64 t1)) rfl rfl rfl rfl rfl rfl rfl rfl rfl (fun a w hk hc => FW.f_call hk hc rfl rfl Go.Proofs.Try.func35 rfl (by kernel_rfl) (offshootref01_Canon.ok v0.F _ (hr_t1 (FW.asm_out (p := (((!decide (v0.Kind = v1.Kind)) || (!(v0.B == v1.B))) || (!decide (v0.N = v1.N))) = false) hk.kn hc (fun e0 => e0))))) ?_
  refine FW.dfunG (y := .lit (.pointer (some ⟨bx2, 3, none⟩))) rfl rfl rfl rfl rfl rfl rfl rfl rfl (fun a w hk hc => FW.f_fieldPtr hk hc rfl Go.Proofs.Try.underlying33 rfl (by kernel_rfl) rfl) ?_
  refine FW.dfunG (y := .lit (.float .f64 v1.F)) rfl rfl rfl rfl rfl rfl rfl rfl rfl (fun a w hk hc => FW.f_loadBlk1 hk hc (j := 0) rfl rfl Go.Proofs.Try.underlying30 rfl rfl) ?_
  refine FW.dfunG (y := .lit (.int .u64 t2)) rfl rfl rfl rfl rfl rfl rfl rfl rfl (fun a w hk hc => FW.f_call hk hc rfl rfl Go.Proofs.Try.func35 rfl (by kernel_rfl) (offshootref01_Canon.ok v1.F _ (hr_t2 (FW.asm_out (p := (((!decide (v0.Kind = v1.Kind)) || (!(v0.B == v1.B))) || (!decide (v0.N = v1.N))) = false) hk.kn hc (fun e0 => e0))))) ?_
  refine FW.dfunG (y := .lit (.bool (!decide (t1 = t2)))) rfl rfl rfl rfl rfl rfl rfl rfl rfl (fun a w hk hc => (FW.f_pure (FW.p_neq hk.kn hc rfl rfl))) ?_
  refine FW.dfun (y := .lit (.bool ((((!decide (v0.Kind = v1.Kind)) || (!(v0.B == v1.B))) || (!decide (v0.N = v1.N))) || (!decide (t1 = t2))))) rfl rfl rfl rfl (fun a w hk => (FW.f_pure (FW.p_pick_or hk.kn (FW.holds_nil _) rfl rfl))) ?_
  refine FW.dfun (y := .lit (.bool ((((!decide (v0.Kind = v1.Kind)) || (!(v0.B == v1.B))) || (!decide (v0.N = v1.N))) || (!decide (t1 = t2))))) rfl rfl rfl rfl (fun a w hk => FW.f_move hk (FW.holds_nil _) rfl) ?_
  refine FW.dfunG (y := .lit (.pointer (some ⟨bx1, 4, none⟩))) rfl rfl rfl rfl rfl rfl rfl rfl rfl (fun a w hk hc => FW.f_fieldPtr hk hc rfl Go.Proofs.Try.underlying33 rfl (by kernel_rfl) rfl) ?_
  refine FW.dfunG (y := .lit (.string (FW.B v0.S))) rfl rfl rfl rfl rfl rfl rfl rfl rfl (fun a w hk hc => FW.f_loadBlk1 hk hc (j := 1) rfl rfl Go.Proofs.Try.underlying9 rfl rfl) ?_
  refine FW.dfunG (y := .lit (.pointer (some ⟨bx2, 4, none⟩))) rfl rfl rfl rfl rfl rfl rfl rfl rfl (fun a w hk hc => FW.f_fieldPtr hk hc rfl Go.Proofs.Try.underlying33 rfl (by kernel_rfl) rfl) ?_
  refine FW.dfunG (y := .lit (.string (FW.B v1.S))) rfl rfl rfl rfl rfl rfl rfl rfl rfl (fun a w hk hc => FW.f_loadBlk1 hk hc (j := 0) rfl rfl Go.Proofs.Try.underlying9 rfl rfl) ?_
  refine FW.dfunG (y := .lit (.bool (!decide (v0.S = v1.S)))) rfl rfl rfl rfl rfl rfl rfl rfl rfl (fun a w hk hc => (FW.f_pure (FW.p_sneq hk.kn hc rfl rfl))) ?_
  refine FW.dfun (y := .lit (.bool (((((!decide (v0.Kind = v1.Kind)) || (!(v0.B == v1.B))) || (!decide (v0.N = v1.N))) || (!decide (t1 = t2))) || (!decide (v0.S = v1.S))))) rfl rfl rfl rfl (fun a w hk => (FW.f_pure (FW.p_pick_or hk.kn (FW.holds_nil _) rfl rfl))) ?_
  refine FW.dfun (y := .lit (.bool (((((!decide (v0.Kind = v1.Kind)) || (!(v0.B == v1.B))) || (!decide (v0.N = v1.N))) || (!decide (t1 = t2))) || (!decide (v0.S = v1.S))))) rfl rfl rfl rfl (fun a w hk => FW.f_move hk (FW.holds_nil _) rfl) ?_
  refine FW.dfunG (y := .lit (.pointer (some ⟨bx1, 5, none⟩))) rfl rfl rfl rfl rfl rfl rfl rfl rfl (fun a w hk hc => FW.f_fieldPtr hk hc rfl Go.Proofs.Try.underlying33 rfl (by kernel_rfl) rfl) ?_
  refine FW.dfunG (y := .row (r_ApiValue_cells v0.L)) rfl rfl rfl rfl rfl rfl rfl rfl rfl (fun a w hk hc => FW.f_loadBlk1 hk hc (j := 1) rfl rfl Go.Proofs.Try.underlying31 rfl rfl) ?_
  refine FW.dfunG (y := .lit (.int .i64 (List.length v0.L : Int))) rfl rfl rfl rfl rfl rfl rfl rfl rfl (fun a w hk hc => FW.f_len (R := r_ApiValue_cells) (f := ApiValue.cells) (l := v0.L) r_ApiValue_cells_eq Go.Proofs.Try.underlying31 hk hc rfl) ?_
  refine FW.dfunG (y := .lit (.pointer (some ⟨bx2, 5, none⟩))) rfl rfl rfl rfl rfl rfl rfl rfl rfl (fun a w hk hc => FW.f_fieldPtr hk hc rfl Go.Proofs.Try.underlying33 rfl (by kernel_rfl) rfl) ?_
  refine FW.dfunG (y := .row (r_ApiValue_cells v1.L)) rfl rfl rfl rfl rfl rfl rfl rfl rfl (fun a w hk hc => FW.f_loadBlk1 hk hc (j := 0) rfl rfl Go.Proofs.Try.underlying31 rfl rfl) ?_
  refine FW.dfunG (y := .lit (.int .i64 (List.length v1.L : Int))) rfl rfl rfl rfl rfl rfl rfl rfl rfl (fun a w hk hc => FW.f_len (R := r_ApiValue_cells) (f := ApiValue.cells) (l := v1.L) r_ApiValue_cells_eq Go.Proofs.Try.underlying31 hk hc rfl) ?_
  refine FW.dfunG (y := .lit (.bool (!decide ((List.length v0.L : Int) = (List.length v1.L : Int))))) rfl rfl rfl rfl rfl rfl rfl rfl rfl (fun a w hk hc => (FW.f_pure (FW.p_neq hk.kn hc rfl rfl))) ?_
  refine FW.dfun (y := .lit (.bool ((((((!decide (v0.Kind = v1.Kind)) || (!(v0.B == v1.B))) || (!decide (v0.N = v1.N))) || (!decide (t1 = t2))) || (!decide (v0.S = v1.S))) || (!decide ((List.length v0.L : Int) = (List.length v1.L : Int)))))) rfl rfl rfl rfl (fun a w hk => (FW.f_pure (FW.p_pick_or hk.kn (FW.holds_nil _) rfl rfl))) ?_
  refine FW.dend ?_; intro a w hk
  refine FW.wcondF (b := ((((((!decide (v0.Kind = v1.Kind)) || (!(v0.B == v1.B))) || (!decide (v0.N = v1.N))) || (!decide (t1 = t2))) || (!decide (v0.S = v1.S))) || (!decide ((List.length v0.L : Int) = (List.length v1.L : Int))))) hk h rfl (fun h hb => ?_) (fun h hb => ?_)
  · skip
    refine FW.wreg ?_; intro K' hK4
    refine FW.lfun (y := .lit (.bool false)) hk rfl rfl rfl rfl (FW.f_assign hk (FW.holds_nil _) rfl) ?_; clear hk; intro a w hk
    refine FW.lend (hK4 _ _ ?_); clear hK4 K'
    refine wp_ret ?_
    (repeat first | refine FW.then_ret ?_ | refine FW.block_ret ?_)
    obtain rfl := Option.some.inj h
    exact FW.fret1 hk rfl rfl
  · skip
    refine wp_skip ?_
    (repeat first | refine FW.then_normal ?_ | refine FW.block_normal ?_); refine hK2 _ _ ?_
    refine FW.wseq ?_; intro K' hK5
    refine FW.wreg ?_; intro K' hK6
    refine FW.lfun (y := .lit (.int .i64 0)) hk rfl rfl rfl rfl (FW.f_assign hk (FW.holds_nil _) rfl) ?_; clear hk; intro a w hk
    refine FW.lend (hK6 _ _ ?_); clear hK6 K'
    refine wp_block ?_
    refine FW.wloop (T := Nat × ApiValue × ApiValue × Int) (fun x a w => match x with | (kl1, y2, y1, v5) => FW.S M w0 a w 69 [FW.blk bx2 33 ((ApiValue.cells y2)), FW.blk bx1 33 ((ApiValue.cells y1))] [(2, [], .lit (.pointer (some ⟨bx1, 0, none⟩))), (3, [], .lit (.pointer (some ⟨bx2, 0, none⟩))), (5, [], .lit (.int .i64 v5))] ∧ offshootref02_Same.l1 s_offshootref02_Same K kl1 y2 y1 v5 = some r) (fun x => x.1) (K, v1, v0, 0) ⟨hk.sub ⟨rfl, rfl, rfl, trivial⟩, h⟩ ?_
    clear hk h
    rintro ⟨kl1, y2, y1, v5⟩ a w ⟨hk, h⟩ K' hK7
    cases kl1 with
    | zero => simp [offshootref02_Same.l1] at h
    | succ kl1 =>
    rw [offshootref02_Same.l1.eq_2] at h
    refine FW.wseq ?_; intro K' hK8
    refine FW.wreg ?_; intro K' hK9
    refine FW.lfun (y := .lit (.int .i64 v5)) hk rfl rfl rfl rfl (FW.f_move hk (FW.holds_nil _) rfl) ?_; clear hk; intro a w hk
    refine FW.lfun (y := .lit (.pointer (some ⟨bx1, 5, none⟩))) hk rfl rfl rfl rfl (FW.f_fieldPtr hk (FW.holds_nil _) rfl Go.Proofs.Try.underlying33 rfl (by kernel_rfl) rfl) ?_; clear hk; intro a w hk
    refine FW.lfun (y := .row (r_ApiValue_cells y1.L)) hk rfl rfl rfl rfl (FW.f_loadBlk1 hk (FW.holds_nil _) (j := 1) rfl rfl Go.Proofs.Try.underlying31 rfl rfl) ?_; clear hk; intro a w hk
    refine FW.lfun (y := .lit (.int .i64 (List.length y1.L : Int))) hk rfl rfl rfl rfl (FW.f_len (R := r_ApiValue_cells) (f := ApiValue.cells) (l := y1.L) r_ApiValue_cells_eq Go.Proofs.Try.underlying31 hk (FW.holds_nil _) rfl) ?_; clear hk; intro a w hk
    refine FW.lfun (y := .lit (.bool (decide (v5 < (List.length y1.L : Int))))) hk rfl rfl rfl rfl ((FW.f_pure (FW.p_lss hk.kn (FW.holds_nil _) rfl rfl))) ?_; clear hk; intro a w hk
    refine FW.lend (hK9 _ _ ?_); clear hK9 K'
    refine FW.wcondF (b := (decide (v5 < (List.length y1.L : Int)))) hk h rfl (fun h hb => ?_) (fun h hb => ?_)
    · skip
      refine wp_skip ?_
      (repeat first | refine FW.then_normal ?_ | refine FW.block_normal ?_); refine hK8 _ _ ?_
      refine FW.wseq ?_; intro K' hK10
      refine wp_block ?_
      obtain ⟨hc1, h⟩ := FW.chk h
      obtain ⟨hc2, h⟩ := FW.chk h
      obtain ⟨t3, hr_t3, h⟩ := FW.bnd h
      refine FW.wdraw (by kernel_rfl) (by kernel_rfl) hk ?_; clear hk
      refine FW.dfun (y := .lit (.pointer (some ⟨bx1, 5, none⟩))) rfl rfl rfl rfl (fun a w hk => FW.f_fieldPtr hk (FW.holds_nil _) rfl Go.Proofs.Try.underlying33 rfl (by kernel_rfl) rfl) ?_
      refine FW.dfun (y := .row (r_ApiValue_cells y1.L)) rfl rfl rfl rfl (fun a w hk => FW.f_loadBlk1 hk (FW.holds_nil _) (j := 1) rfl rfl Go.Proofs.Try.underlying31 rfl rfl) ?_
      refine FW.dfun (y := .lit (.int .i64 v5)) rfl rfl rfl rfl (fun a w hk => FW.f_move hk (FW.holds_nil _) rfl) ?_
      refine FW.dfun (y := .ref (ApiValue.cells (List.getD y1.L (Int.toNat v5) default))) rfl rfl rfl rfl (fun a w hk => FW.f_indexAddr (R := r_ApiValue_cells) (f := ApiValue.cells) (l := y1.L) (sz := 6) r_ApiValue_cells_eq (fun _ => rfl) hk (FW.holds_nil _) rfl rfl Go.Proofs.Try.underlying31 (by kernel_rfl) hc1) ?_
      refine FW.dfun (y := .agg ((ApiValue.cells (List.getD y1.L (Int.toNat v5) default)))) rfl rfl rfl rfl (fun a w hk => FW.f_load hk (FW.holds_nil _) rfl Go.Proofs.Try.underlying33 rfl rfl rfl rfl) ?_
      refine FW.dfun (y := .lit (.pointer (some ⟨bx2, 5, none⟩))) rfl rfl rfl rfl (fun a w hk => FW.f_fieldPtr hk (FW.holds_nil _) rfl Go.Proofs.Try.underlying33 rfl (by kernel_rfl) rfl) ?_
      refine FW.dfun (y := .row (r_ApiValue_cells y2.L)) rfl rfl rfl rfl (fun a w hk => FW.f_loadBlk1 hk (FW.holds_nil _) (j := 0) rfl rfl Go.Proofs.Try.underlying31 rfl rfl) ?_
      refine FW.dfun (y := .lit (.int .i64 v5)) rfl rfl rfl rfl (fun a w hk => FW.f_move hk (FW.holds_nil _) rfl) ?_
      refine FW.dfun (y := .ref (ApiValue.cells (List.getD y2.L (Int.toNat v5) default))) rfl rfl rfl rfl (fun a w hk => FW.f_indexAddr (R := r_ApiValue_cells) (f := ApiValue.cells) (l := y2.L) (sz := 6) r_ApiValue_cells_eq (fun _ => rfl) hk (FW.holds_nil _) rfl rfl Go.Proofs.Try.underlying31 (by kernel_rfl) hc2) ?_
      refine FW.dfun (y := .agg ((ApiValue.cells (List.getD y2.L (Int.toNat v5) default)))) rfl rfl rfl rfl (fun a w hk => FW.f_load hk (FW.holds_nil _) rfl Go.Proofs.Try.underlying33 rfl rfl rfl rfl) ?_
      refine FW.dfun (y := .lit (.bool t3)) rfl rfl rfl rfl (fun a w hk => FW.f_call hk (FW.holds_nil _) rfl rfl Go.Proofs.Try.func17 rfl (by kernel_rfl) (hs_offshootref02_Same (List.getD y1.L (Int.toNat v5) default) (List.getD y2.L (Int.toNat v5) default) _ hr_t3)) ?_
      refine FW.dfun (y := .lit (.bool (!t3))) rfl rfl rfl rfl (fun a w hk => (FW.f_pure (FW.p_not hk.kn (FW.holds_nil _) rfl))) ?_
      refine FW.dend ?_; intro a w hk
      refine FW.wcondF (b := (!t3)) hk h rfl (fun h hb => ?_) (fun h hb => ?_)
      · skip
        refine FW.wreg ?_; intro K' hK12
        refine FW.lfun (y := .lit (.bool false)) hk rfl rfl rfl rfl (FW.f_assign hk (FW.holds_nil _) rfl) ?_; clear hk; intro a w hk
        refine FW.lend (hK12 _ _ ?_); clear hK12 K'
        refine wp_ret ?_
        (repeat first | refine FW.then_ret ?_ | refine FW.block_ret ?_)
        obtain rfl := Option.some.inj h
        exact FW.fret1 hk rfl rfl
      · skip
        refine wp_skip ?_
        (repeat first | refine FW.then_normal ?_ | refine FW.block_normal ?_); refine hK10 _ _ ?_
        refine FW.wreg1 ?_
        refine FW.lfun (y := .lit (.int .i64 v5)) hk rfl rfl rfl rfl (FW.f_move hk (FW.holds_nil _) rfl) ?_; clear hk; intro a w hk
        refine FW.lfun (y := .lit (.int .i64 (IntKind.wrap .i64 (v5 + 1)))) hk rfl rfl rfl rfl ((FW.f_pure (FW.p_add hk.kn (FW.holds_nil _) rfl rfl))) ?_; clear hk; intro a w hk
        refine FW.lfun (y := .lit (.int .i64 (IntKind.wrap .i64 (v5 + 1)))) hk rfl rfl rfl rfl (FW.f_assign hk (FW.holds_nil _) rfl) ?_; clear hk; intro a w hk
        refine wpList_nil ?_
        (repeat first | refine FW.then_normal ?_ | refine FW.block_normal ?_); exact hK7 (kl1, y2, y1, (IntKind.wrap .i64 (v5 + 1))) _ _ (Nat.lt_succ_self _) ⟨hk.sub ⟨rfl, rfl, rfl, trivial⟩, h⟩
    · skip
      refine wp_exit ?_; (repeat first | refine FW.then_exit ?_ | refine FW.block_exit_ne rfl ?_); refine FW.block_exit ?_
      (repeat first | refine FW.then_normal ?_ | refine FW.block_normal ?_); refine hK5 _ _ ?_
      refine FW.wreg ?_; intro K' hK14
      refine FW.lfun (y := .lit (.bool true)) hk rfl rfl rfl rfl (FW.f_assign hk (FW.holds_nil _) rfl) ?_; clear hk; intro a w hk
      refine FW.lend (hK14 _ _ ?_); clear hK14 K'
      refine wp_ret ?_
      (repeat first | refine FW.then_ret ?_ | refine FW.block_ret ?_)
      obtain rfl := Option.some.inj h
      exact FW.fret1 hk rfl rfl
theorem offshootref02_Same_knot : ∀ K : Nat, (∀ (v0 : ApiValue) (v1 : ApiValue) (r : Bool), offshootref02_Same.f K v0 v1 = some r → FW.Ok Go.Proofs.Try.prog 17 [.agg (ApiValue.cells v0), .agg (ApiValue.cells v1)] (.lit (.bool r)))
  | 0 => fun v0 v1 r h => by simp [offshootref02_Same.f] at h
  | K + 1 => fun v0 v1 r h => by rw [offshootref02_Same.f] at h; exact offshootref02_Same.bok _ (offshootref02_Same_knot K) K v0 v1 r h
theorem offshootref02_Same.ok (K : Nat) (v0 : ApiValue) (v1 : ApiValue) (r : Bool) (h : offshootref02_Same.f K v0 v1 = some r) : FW.Ok Go.Proofs.Try.prog 17 [.agg (ApiValue.cells v0), .agg (ApiValue.cells v1)] (.lit (.bool r)) := (offshootref02_Same_knot K) v0 v1 r h

theorem offshootref12_SamePred.bok (s_offshootref12_SamePred : ApiPred → ApiPred → Option Bool) (hs_offshootref12_SamePred : ∀ (v0 : ApiPred) (v1 : ApiPred) (r : Bool), s_offshootref12_SamePred v0 v1 = some r → FW.Ok Go.Proofs.Try.prog 46 [.agg (ApiPred.cells v0), .agg (ApiPred.cells v1)] (.lit (.bool r))) (K : Nat) (v0 : ApiPred) (v1 : ApiPred) (r : Bool) (h : offshootref12_SamePred.b s_offshootref12_SamePred K v0 v1 = some r) :
    FW.Ok Go.Proofs.Try.prog 46 [.agg (ApiPred.cells v0), .agg (ApiPred.cells v1)] (.lit (.bool r)) := by
  refine FW.enter (xs := [.agg (ApiPred.cells v0), .agg (ApiPred.cells v1)]) Go.Proofs.Try.func46 rfl Go.Proofs.Try.ntmps46 rfl ?_
  intro M w0 a hk
  unfold offshootref12_SamePred.b at h
  refine FW.wreg ?_; intro K' hK1
  refine FW.l_box (cs := (ApiPred.cells v0)) hk rfl rfl rfl rfl rfl ?_; clear hk; intro bx1 a w hk
  refine FW.l_box (cs := (ApiPred.cells v1)) hk rfl rfl rfl rfl rfl ?_; clear hk; intro bx2 a w hk
  refine FW.lfun (y := .lit (.bool false)) hk rfl rfl rfl rfl (FW.f_assign hk (FW.holds_nil _) rfl) ?_; clear hk; intro a w hk
  refine FW.lend (hK1 _ _ ?_); clear hK1 K'
  refine FW.wseq ?_; intro K' hK2
  refine FW.wreg ?_; intro K' hK3
  refine FW.lfun (y := .lit (.pointer (some ⟨bx1, 0, none⟩))) hk rfl rfl rfl rfl (FW.f_fieldPtr hk (FW.holds_nil _) rfl Go.Proofs.Try.underlying36 rfl (by kernel_rfl) rfl) ?_; clear hk; intro a w hk
  refine FW.lfun (y := .lit (.string (FW.B v0.Op))) hk rfl rfl rfl rfl (FW.f_loadBlk1 hk (FW.holds_nil _) (j := 1) rfl rfl Go.Proofs.Try.underlying9 rfl rfl) ?_; clear hk; intro a w hk
  refine FW.lfun (y := .lit (.pointer (some ⟨bx2, 0, none⟩))) hk rfl rfl rfl rfl (FW.f_fieldPtr hk (FW.holds_nil _) rfl Go.Proofs.Try.underlying36 rfl (by kernel_rfl) rfl) ?_; clear hk; intro a w hk
  refine FW.lfun (y := .lit (.string (FW.B v1.Op))) hk rfl rfl rfl rfl (FW.f_loadBlk1 hk (FW.holds_nil _) (j := 0) rfl rfl Go.Proofs.Try.underlying9 rfl rfl) ?_; clear hk; intro a w hk
  refine FW.lfun (y := .lit (.bool (!decide (v0.Op = v1.Op)))) hk rfl rfl rfl rfl ((FW.f_pure (FW.p_sneq hk.kn (FW.holds_nil _) rfl rfl))) ?_; clear hk; intro a w hk
  refine FW.lfun (y := .lit (.bool (!decide (v0.Op = v1.Op)))) hk rfl rfl rfl rfl (FW.f_move hk (FW.holds_nil _) rfl) ?_; clear hk; intro a w hk
  refine FW.lfunG (y := .lit (.pointer (some ⟨bx1, 1, none⟩))) hk rfl rfl rfl rfl rfl rfl rfl rfl (fun hc => FW.f_fieldPtr hk hc rfl Go.Proofs.Try.underlying36 rfl (by kernel_rfl) rfl) ?_; clear hk; intro a w hk
  refine FW.lfunG (y := .row (r_ApiValue_cells v0.L)) hk rfl rfl rfl rfl rfl rfl rfl rfl (fun hc => FW.f_loadBlk1 hk hc (j := 1) rfl rfl Go.Proofs.Try.underlying31 rfl rfl) ?_; clear hk; intro a w hk
  refine FW.lfunG (y := .lit (.int .i64 (List.length v0.L : Int))) hk rfl rfl rfl rfl rfl rfl rfl rfl (fun hc => FW.f_len (R := r_ApiValue_cells) (f := ApiValue.cells) (l := v0.L) r_ApiValue_cells_eq Go.Proofs.Try.underlying31 hk hc rfl) ?_; clear hk; intro a w hk
  refine FW.lfunG (y := .lit (.pointer (some ⟨bx2, 1, none⟩))) hk rfl rfl rfl rfl rfl rfl rfl rfl (fun hc => FW.f_fieldPtr hk hc rfl Go.Proofs.Try.underlying36 rfl (by kernel_rfl) rfl) ?_; clear hk; intro a w hk
  refine FW.lfunG (y := .row (r_ApiValue_cells v1.L)) hk rfl rfl rfl rfl rfl rfl rfl rfl (fun hc => FW.f_loadBlk1 hk hc (j := 0) rfl rfl Go.Proofs.Try.underlying31 rfl rfl) ?_; clear hk; intro a w hk
  refine FW.lfunG (y := .lit (.int .i64 (List.length v1.L : Int))) hk rfl rfl rfl rfl rfl rfl rfl rfl (fun hc => FW.f_len (R := r_ApiValue_cells) (f := ApiValue.cells) (l := v1.L) r_ApiValue_cells_eq Go.Proofs.Try.underlying31 hk hc rfl) ?_; clear hk; intro a w hk
  refine FW.lfunG (y := .lit (.bool (!decide ((List.length v0.L : Int) = (List.length v1.L : Int))))) hk rfl rfl rfl rfl rfl rfl rfl rfl (fun hc => (FW.f_pure (FW.p_neq hk.kn hc rfl rfl))) ?_; clear hk; intro a w hk
  refine FW.lfun (y := .lit (.bool ((!decide (v0.Op = v1.Op)) || (!decide ((List.length v0.L : Int) = (List.length v1.L : Int)))))) hk rfl rfl rfl rfl ((FW.f_pure (FW.p_pick_or hk.kn (FW.holds_nil _) rfl rfl))) ?_; clear hk; intro a w hk
  refine FW.lfun (y := .lit (.bool ((!decide (v0.Op = v1.Op)) || (!decide ((List.length v0.L : Int) = (List.length v1.L : Int)))))) hk rfl rfl rfl rfl (FW.f_move hk (FW.holds_nil _) rfl) ?_; clear hk; intro a w hk
  refine FW.lfunG (y := .lit (.pointer (some ⟨bx1, 2, none⟩))) hk rfl rfl rfl rfl rfl rfl rfl rfl (fun hc => FW.f_fieldPtr hk hc rfl Go.Proofs.Try.underlying36 rfl (by kernel_rfl) rfl) ?_; clear hk; intro a w hk
  refine FW.lfunG (y := .row (r_ApiPred_cells v0.Kids)) hk rfl rfl rfl rfl rfl rfl rfl rfl (fun hc => FW.f_loadBlk1 hk hc (j := 1) rfl rfl Go.Proofs.Try.underlying34 rfl rfl) ?_; clear hk; intro a w hk
  refine FW.lfunG (y := .lit (.int .i64 (List.length v0.Kids : Int))) hk rfl rfl rfl rfl rfl rfl rfl rfl (fun hc => FW.f_len (R := r_ApiPred_cells) (f := ApiPred.cells) (l := v0.Kids) r_ApiPred_cells_eq Go.Proofs.Try.underlying34 hk hc rfl) ?_; clear hk; intro a w hk
  refine FW.lfunG (y := .lit (.pointer (some ⟨bx2, 2, none⟩))) hk rfl rfl rfl rfl rfl rfl rfl rfl (fun hc => FW.f_fieldPtr hk hc rfl Go.Proofs.Try.underlying36 rfl (by kernel_rfl) rfl) ?_; clear hk; intro a w hk
  refine FW.lfunG (y := .row (r_ApiPred_cells v1.Kids)) hk rfl rfl rfl rfl rfl rfl rfl rfl (fun hc => FW.f_loadBlk1 hk hc (j := 0) rfl rfl Go.Proofs.Try.underlying34 rfl rfl) ?_; clear hk; intro a w hk
  refine FW.lfunG (y := .lit (.int .i64 (List.length v1.Kids : Int))) hk rfl rfl rfl rfl rfl rfl rfl rfl (fun hc => FW.f_len (R := r_ApiPred_cells) (f := ApiPred.cells) (l := v1.Kids) r_ApiPred_cells_eq Go.Proofs.Try.underlying34 hk hc rfl) ?_; clear hk; intro a w hk
  refine FW.lfunG (y := .lit (.bool (!decide ((List.length v0.Kids : Int) = (List.length v1.Kids : Int))))) hk rfl rfl rfl rfl rfl rfl rfl rfl (fun hc => (FW.f_pure (FW.p_neq hk.kn hc rfl rfl))) ?_; clear hk; intro a w hk
  refine FW.lfun (y := .lit (.bool (((!decide (v0.Op = v1.Op)) || (!decide ((List.length v0.L : Int) = (List.length v1.L : Int)))) || (!decide ((List.length v0.Kids : Int) = (List.length v1.Kids : Int)))))) hk rfl rfl rfl rfl ((FW.f_pure (FW.p_pick_or hk.kn (FW.holds_nil _) rfl rfl))) ?_; clear hk; intro a w hk
  refine FW.lend (hK3 _ _ ?_); clear hK3 K'
  refine FW.wcondF (b := (((!decide (v0.Op = v1.Op)) || (!decide ((List.length v0.L : Int) = (List.length v1.L : Int)))) || (!decide ((List.length v0.Kids : Int) = (List.length v1.Kids : Int))))) hk h rfl (fun h hb => ?_) (fun h hb => ?_)
  · skip
    refine FW.wreg ?_; intro K' hK4
    refine FW.lfun (y := .lit (.bool false)) hk rfl rfl rfl rfl (FW.f_assign hk (FW.holds_nil _) rfl) ?_; clear hk; intro a w hk
    refine FW.lend (hK4 _ _ ?_); clear hK4 K'
    refine wp_ret ?_
    (repeat first | refine FW.then_ret ?_ | refine FW.block_ret ?_)
    obtain rfl := Option.some.inj h
    exact FW.fret1 hk rfl rfl
  · skip
    refine wp_skip ?_
    (repeat first | refine FW.then_normal ?_ | refine FW.block_normal ?_); refine hK2 _ _ ?_
    refine FW.wseq ?_; intro K' hK5
    refine FW.wreg ?_; intro K' hK6
    refine FW.lfun (y := .lit (.int .i64 0)) hk rfl rfl rfl rfl (FW.f_assign hk (FW.holds_nil _) rfl) ?_; clear hk; intro a w hk
    refine FW.lend (hK6 _ _ ?_); clear hK6 K'
    refine wp_block ?_
    refine FW.wloop (T := Nat × ApiPred × ApiPred × Int) (fun x a w => match x with | (kl1, y2, y1, v5) => FW.S M w0 a w 68 [FW.blk bx2 36 ((ApiPred.cells y2)), FW.blk bx1 36 ((ApiPred.cells y1))] [(2, [], .lit (.pointer (some ⟨bx1, 0, none⟩))), (3, [], .lit (.pointer (some ⟨bx2, 0, none⟩))), (5, [], .lit (.int .i64 v5))] ∧ offshootref12_SamePred.l1 s_offshootref12_SamePred K kl1 y2 y1 v5 = some r) (fun x => x.1) (K, v1, v0, 0) ⟨hk.sub ⟨rfl, rfl, rfl, trivial⟩, h⟩ ?_
    clear hk h
    rintro ⟨kl1, y2, y1, v5⟩ a w ⟨hk, h⟩ K' hK7
    cases kl1 with
    | zero => simp [offshootref12_SamePred.l1] at h
    | succ kl1 =>
    rw [offshootref12_SamePred.l1.eq_2] at h
    refine FW.wseq ?_; intro K' hK8
    refine FW.wreg ?_; intro K' hK9
    refine FW.lfun (y := .lit (.int .i64 v5)) hk rfl rfl rfl rfl (FW.f_move hk (FW.holds_nil _) rfl) ?_; clear hk; intro a w hk
    refine FW.lfun (y := .lit (.pointer (some ⟨bx1, 1, none⟩))) hk rfl rfl rfl rfl (FW.f_fieldPtr hk (FW.holds_nil _) rfl Go.Proofs.Try.underlying36 rfl (by kernel_rfl) rfl) ?_; clear hk; intro a w hk
    refine FW.lfun (y := .row (r_ApiValue_cells y1.L)) hk rfl rfl rfl rfl (FW.f_loadBlk1 hk (FW.holds_nil _) (j := 1) rfl rfl Go.Proofs.Try.underlying31 rfl rfl) ?_; clear hk; intro a w hk
    refine FW.lfun (y := .lit (.int .i64 (List.length y1.L : Int))) hk rfl rfl rfl rfl (FW.f_len (R := r_ApiValue_cells) (f := ApiValue.cells) (l := y1.L) r_ApiValue_cells_eq Go.Proofs.Try.underlying31 hk (FW.holds_nil _) rfl) ?_; clear hk; intro a w hk
    refine FW.lfun (y := .lit (.bool (decide (v5 < (List.length y1.L : Int))))) hk rfl rfl rfl rfl ((FW.f_pure (FW.p_lss hk.kn (FW.holds_nil _) rfl rfl))) ?_; clear hk; intro a w hk
    refine FW.lend (hK9 _ _ ?_); clear hK9 K'
    refine FW.wcondF (b := (decide (v5 < (List.length y1.L : Int)))) hk h rfl (fun h hb => ?_) (fun h hb => ?_)
    · skip
      refine wp_skip ?_
      (repeat first | refine FW.then_normal ?_ | refine FW.block_normal ?_); refine hK8 _ _ ?_
      refine FW.wseq ?_; intro K' hK10
      refine wp_block ?_
      obtain ⟨hc1, h⟩ := FW.chk h
      obtain ⟨hc2, h⟩ := FW.chk h
      obtain ⟨t1, hr_t1, h⟩ := FW.bnd h
      refine FW.wdraw (by kernel_rfl) (by kernel_rfl) hk ?_; clear hk
      refine FW.dfun (y := .lit (.pointer (some ⟨bx1, 1, none⟩))) rfl rfl rfl rfl (fun a w hk => FW.f_fieldPtr hk (FW.holds_nil _) rfl Go.Proofs.Try.underlying36 rfl (by kernel_rfl) rfl) ?_
      refine FW.dfun (y := .row (r_ApiValue_cells y1.L)) rfl rfl rfl rfl (fun a w hk => FW.f_loadBlk1 hk (FW.holds_nil _) (j := 1) rfl rfl Go.Proofs.Try.underlying31 rfl rfl) ?_
      refine FW.dfun (y := .lit (.int .i64 v5)) rfl rfl rfl rfl (fun a w hk => FW.f_move hk (FW.holds_nil _) rfl) ?_
      refine FW.dfun (y := .ref (ApiValue.cells (List.getD y1.L (Int.toNat v5) default))) rfl rfl rfl rfl (fun a w hk => FW.f_indexAddr (R := r_ApiValue_cells) (f := ApiValue.cells) (l := y1.L) (sz := 6) r_ApiValue_cells_eq (fun _ => rfl) hk (FW.holds_nil _) rfl rfl Go.Proofs.Try.underlying31 (by kernel_rfl) hc1) ?_
      refine FW.dfun (y := .agg ((ApiValue.cells (List.getD y1.L (Int.toNat v5) default)))) rfl rfl rfl rfl (fun a w hk => FW.f_load hk (FW.holds_nil _) rfl Go.Proofs.Try.underlying33 rfl rfl rfl rfl) ?_
      refine FW.dfun (y := .lit (.pointer (some ⟨bx2, 1, none⟩))) rfl rfl rfl rfl (fun a w hk => FW.f_fieldPtr hk (FW.holds_nil _) rfl Go.Proofs.Try.underlying36 rfl (by kernel_rfl) rfl) ?_
      refine FW.dfun (y := .row (r_ApiValue_cells y2.L)) rfl rfl rfl rfl (fun a w hk => FW.f_loadBlk1 hk (FW.holds_nil _) (j := 0) rfl rfl Go.Proofs.Try.underlying31 rfl rfl) ?_
      refine FW.dfun (y := .lit (.int .i64 v5)) rfl rfl rfl rfl (fun a w hk => FW.f_move hk (FW.holds_nil _) rfl) ?_
      refine FW.dfun (y := .ref (ApiValue.cells (List.getD y2.L (Int.toNat v5) default))) rfl rfl rfl rfl (fun a w hk => FW.f_indexAddr (R := r_ApiValue_cells) (f := ApiValue.cells) (l := y2.L) (sz := 6) r_ApiValue_cells_eq (fun _ => rfl) hk (FW.holds_nil _) rfl rfl Go.Proofs.Try.underlying31 (by kernel_rfl) hc2) ?_
      refine FW.dfun (y := .agg ((ApiValue.cells (List.getD y2.L (Int.toNat v5) default)))) rfl rfl rfl rfl (fun a w hk => FW.f_load hk (FW.holds_nil _) rfl Go.Proofs.Try.underlying33 rfl rfl rfl rfl) ?_
      refine FW.dfun (y := .lit (.bool t1)) rfl rfl rfl rfl (fun a w hk => FW.f_call hk (FW.holds_nil _) rfl rfl Go.Proofs.Try.func17 rfl (by kernel_rfl) (offshootref02_Same.ok K (List.getD y1.L (Int.toNat v5) default) (List.getD y2.L (Int.toNat v5) default) _ hr_t1)) ?_
      refine FW.dfun (y := .lit (.bool (!t1))) rfl rfl rfl rfl (fun a w hk => (FW.f_pure (FW.p_not hk.kn (FW.holds_nil _) rfl))) ?_
      refine FW.dend ?_; intro a w hk
      refine FW.wcondF (b := (!t1)) hk h rfl (fun h hb => ?_) (fun h hb => ?_)
      · skip
        refine FW.wreg ?_; intro K' hK12
        refine FW.lfun (y := .lit (.bool false)) hk rfl rfl rfl rfl (FW.f_assign hk (FW.holds_nil _) rfl) ?_; clear hk; intro a w hk
        refine FW.lend (hK12 _ _ ?_); clear hK12 K'
        refine wp_ret ?_
        (repeat first | refine FW.then_ret ?_ | refine FW.block_ret ?_)
        obtain rfl := Option.some.inj h
        exact FW.fret1 hk rfl rfl
      · skip
        refine wp_skip ?_
        (repeat first | refine FW.then_normal ?_ | refine FW.block_normal ?_); refine hK10 _ _ ?_
        refine FW.wreg1 ?_
        refine FW.lfun (y := .lit (.int .i64 v5)) hk rfl rfl rfl rfl (FW.f_move hk (FW.holds_nil _) rfl) ?_; clear hk; intro a w hk
        refine FW.lfun (y := .lit (.int .i64 (IntKind.wrap .i64 (v5 + 1)))) hk rfl rfl rfl rfl ((FW.f_pure (FW.p_add hk.kn (FW.holds_nil _) rfl rfl))) ?_; clear hk; intro a w hk
        refine FW.lfun (y := .lit (.int .i64 (IntKind.wrap .i64 (v5 + 1)))) hk rfl rfl rfl rfl (FW.f_assign hk (FW.holds_nil _) rfl) ?_; clear hk; intro a w hk
        refine wpList_nil ?_
        (repeat first | refine FW.then_normal ?_ | refine FW.block_normal ?_); exact hK7 (kl1, y2, y1, (IntKind.wrap .i64 (v5 + 1))) _ _ (Nat.lt_succ_self _) ⟨hk.sub ⟨rfl, rfl, rfl, trivial⟩, h⟩
    · skip
      refine wp_exit ?_; (repeat first | refine FW.then_exit ?_ | refine FW.block_exit_ne rfl ?_); refine FW.block_exit ?_
      (repeat first | refine FW.then_normal ?_ | refine FW.block_normal ?_); refine hK5 _ _ ?_
      refine FW.wseq ?_; intro K' hK14
      refine FW.wreg ?_; intro K' hK15
      refine FW.lfun (y := .lit (.int .i64 0)) hk rfl rfl rfl rfl (FW.f_assign hk (FW.holds_nil _) rfl) ?_; clear hk; intro a w hk
      refine FW.lend (hK15 _ _ ?_); clear hK15 K'
      refine wp_block ?_
      refine FW.wloop (T := Nat × ApiPred × ApiPred × Int) (fun x a w => match x with | (kl2, y2, y1, v6) => FW.S M w0 a w 68 [FW.blk bx2 36 ((ApiPred.cells y2)), FW.blk bx1 36 ((ApiPred.cells y1))] [(2, [], .lit (.pointer (some ⟨bx1, 0, none⟩))), (3, [], .lit (.pointer (some ⟨bx2, 0, none⟩))), (6, [], .lit (.int .i64 v6))] ∧ offshootref12_SamePred.l2 s_offshootref12_SamePred (offshootref12_SamePred.l1 s_offshootref12_SamePred K kl1) K kl2 y2 y1 v6 = some r) (fun x => x.1) (K, y2, y1, 0) ⟨hk.sub ⟨rfl, rfl, rfl, trivial⟩, h⟩ ?_
      clear hk h
      rintro ⟨kl2, y2, y1, v6⟩ a w ⟨hk, h⟩ K' hK16
      cases kl2 with
      | zero => simp [offshootref12_SamePred.l2] at h
      | succ kl2 =>
      rw [offshootref12_SamePred.l2.eq_2] at h
      refine FW.wseq ?_; intro K' hK17
      refine FW.wreg ?_; intro K' hK18
      refine FW.lfun (y := .lit (.int .i64 v6)) hk rfl rfl rfl rfl (FW.f_move hk (FW.holds_nil _) rfl) ?_; clear hk; intro a w hk
      refine FW.lfun (y := .lit (.pointer (some ⟨bx1, 2, none⟩))) hk rfl rfl rfl rfl (FW.f_fieldPtr hk (FW.holds_nil _) rfl Go.Proofs.Try.underlying36 rfl (by kernel_rfl) rfl) ?_; clear hk; intro a w hk
      refine FW.lfun (y := .row (r_ApiPred_cells y1.Kids)) hk rfl rfl rfl rfl (FW.f_loadBlk1 hk (FW.holds_nil _) (j := 1) rfl rfl Go.Proofs.Try.underlying34 rfl rfl) ?_; clear hk; intro a w hk
      refine FW.lfun (y := .lit (.int .i64 (List.length y1.Kids : Int))) hk rfl rfl rfl rfl (FW.f_len (R := r_ApiPred_cells) (f := ApiPred.cells) (l := y1.Kids) r_ApiPred_cells_eq Go.Proofs.Try.underlying34 hk (FW.holds_nil _) rfl) ?_; clear hk; intro a w hk
      refine FW.lfun (y := .lit (.bool (decide (v6 < (List.length y1.Kids : Int))))) hk rfl rfl rfl rfl ((FW.f_pure (FW.p_lss hk.kn (FW.holds_nil _) rfl rfl))) ?_; clear hk; intro a w hk
      refine FW.lend (hK18 _ _ ?_); clear hK18 K'
      refine FW.wcondF (b := (decide (v6 < (List.length y1.Kids : Int)))) hk h rfl (fun h hb => ?_) (fun h hb => ?_)
      · skip
        refine wp_skip ?_
        (repeat first | refine FW.then_normal ?_ | refine FW.block_normal ?_); refine hK17 _ _ ?_
        refine FW.wseq ?_; intro K' hK19
        refine wp_block ?_
        obtain ⟨hc3, h⟩ := FW.chk h
        obtain ⟨hc4, h⟩ := FW.chk h
        obtain ⟨t2, hr_t2, h⟩ := FW.bnd h
        refine FW.wdraw (by kernel_rfl) (by kernel_rfl) hk ?_; clear hk
        refine FW.dfun (y := .lit (.pointer (some ⟨bx1, 2, none⟩))) rfl rfl rfl rfl (fun a w hk => FW.f_fieldPtr hk (FW.holds_nil _) rfl Go.Proofs.Try.underlying36 rfl (by kernel_rfl) rfl) ?_
        refine FW.dfun (y := .row (r_ApiPred_cells y1.Kids)) rfl rfl rfl rfl (fun a w hk => FW.f_loadBlk1 hk (FW.holds_nil _) (j := 1) rfl rfl Go.Proofs.Try.underlying34 rfl rfl) ?_
        refine FW.dfun (y := .lit (.int .i64 v6)) rfl rfl rfl rfl (fun a w hk => FW.f_move hk (FW.holds_nil _) rfl) ?_
        refine FW.dfun (y := .ref (ApiPred.cells (List.getD y1.Kids (Int.toNat v6) default))) rfl rfl rfl rfl (fun a w hk => FW.f_indexAddr (R := r_ApiPred_cells) (f := ApiPred.cells) (l := y1.Kids) (sz := 3) r_ApiPred_cells_eq (fun _ => rfl) hk (FW.holds_nil _) rfl rfl Go.Proofs.Try.underlying34 (by kernel_rfl) hc3) ?_
        refine FW.dfun (y := .agg ((ApiPred.cells (List.getD y1.Kids (Int.toNat v6) default)))) rfl rfl rfl rfl (fun a w hk => FW.f_load hk (FW.holds_nil _) rfl Go.Proofs.Try.underlying36 rfl rfl rfl rfl) ?_
        refine FW.dfun (y := .lit (.pointer (some ⟨bx2, 2, none⟩))) rfl rfl rfl rfl (fun a w hk => FW.f_fieldPtr hk (FW.holds_nil _) rfl Go.Proofs.Try.underlying36 rfl (by kernel_rfl) rfl) ?_
        refine FW.dfun (y := .row (r_ApiPred_cells y2.Kids)) rfl rfl rfl rfl (fun a w hk => FW.f_loadBlk1 hk (FW.holds_nil _) (j := 0) rfl rfl Go.Proofs.Try.underlying34 rfl rfl) ?_
        refine FW.dfun (y := .lit (.int .i64 v6)) rfl rfl rfl rfl (fun a w hk => FW.f_move hk (FW.holds_nil _) rfl) ?_
        refine FW.dfun (y := .ref (ApiPred.cells (List.getD y2.Kids (Int.toNat v6) default))) rfl rfl rfl rfl (fun a w hk => FW.f_indexAddr (R := r_ApiPred_cells) (f := ApiPred.cells) (l := y2.Kids) (sz := 3) r_ApiPred_cells_eq (fun _ => rfl) hk (FW.holds_nil _) rfl rfl Go.Proofs.Try.underlying34 (by kernel_rfl) hc4) ?_
        refine FW.dfun (y := .agg ((ApiPred.cells (List.getD y2.Kids (Int.toNat v6) default)))) rfl rfl rfl rfl (fun a w hk => FW.f_load hk (FW.holds_nil _) rfl Go.Proofs.Try.underlying36 rfl rfl rfl rfl) ?_
        refine FW.dfun (y := .lit (.bool t2)) rfl rfl rfl rfl (fun a w hk => FW.f_call hk (FW.holds_nil _) rfl rfl Go.Proofs.Try.func46 rfl (by kernel_rfl) (hs_offshootref12_SamePred (List.getD y1.Kids (Int.toNat v6) default) (List.getD y2.Kids (Int.toNat v6) default) _ hr_t2)) ?_
        refine FW.dfun (y := .lit (.bool (!t2))) rfl rfl rfl rfl (fun a w hk => (FW.f_pure (FW.p_not hk.kn (FW.holds_nil _) rfl))) ?_
        refine FW.dend ?_; intro a w hk
        refine FW.wcondF (b := (!t2)) hk h rfl (fun h hb => ?_) (fun h hb => ?_)
        · skip
          refine FW.wreg ?_; intro K' hK21
          refine FW.lfun (y := .lit (.bool false)) hk rfl rfl rfl rfl (FW.f_assign hk (FW.holds_nil _) rfl) ?_; clear hk; intro a w hk
          refine FW.lend (hK21 _ _ ?_); clear hK21 K'
          refine wp_ret ?_
          (repeat first | refine FW.then_ret ?_ | refine FW.block_ret ?_)
          obtain rfl := Option.some.inj h
          exact FW.fret1 hk rfl rfl
        · skip
          refine wp_skip ?_
          (repeat first | refine FW.then_normal ?_ | refine FW.block_normal ?_); refine hK19 _ _ ?_
          refine FW.wreg1 ?_
          refine FW.lfun (y := .lit (.int .i64 v6)) hk rfl rfl rfl rfl (FW.f_move hk (FW.holds_nil _) rfl) ?_; clear hk; intro a w hk
          refine FW.lfun (y := .lit (.int .i64 (IntKind.wrap .i64 (v6 + 1)))) hk rfl rfl rfl rfl ((FW.f_pure (FW.p_add hk.kn (FW.holds_nil _) rfl rfl))) ?_; clear hk; intro a w hk
          refine FW.lfun (y := .lit (.int .i64 (IntKind.wrap .i64 (v6 + 1)))) hk rfl rfl rfl rfl (FW.f_assign hk (FW.holds_nil _) rfl) ?_; clear hk; intro a w hk
          refine wpList_nil ?_
          (repeat first | refine FW.then_normal ?_ | refine FW.block_normal ?_); exact hK16 (kl2, y2, y1, (IntKind.wrap .i64 (v6 + 1))) _ _ (Nat.lt_succ_self _) ⟨hk.sub ⟨rfl, rfl, rfl, trivial⟩, h⟩
      · skip
        refine wp_exit ?_; (repeat first | refine FW.then_exit ?_ | refine FW.block_exit_ne rfl ?_); refine FW.block_exit ?_
        (repeat first | refine FW.then_normal ?_ | refine FW.block_normal ?_); refine hK14 _ _ ?_
        refine FW.wreg ?_; intro K' hK23
        refine FW.lfun (y := .lit (.bool true)) hk rfl rfl rfl rfl (FW.f_assign hk (FW.holds_nil _) rfl) ?_; clear hk; intro a w hk
        refine FW.lend (hK23 _ _ ?_); clear hK23 K'
        refine wp_ret ?_
        (repeat first | refine FW.then_ret ?_ | refine FW.block_ret ?_)
        obtain rfl := Option.some.inj h
        exact FW.fret1 hk rfl rfl
theorem offshootref12_SamePred_knot : ∀ K : Nat, (∀ (v0 : ApiPred) (v1 : ApiPred) (r : Bool), offshootref12_SamePred.f K v0 v1 = some r → FW.Ok Go.Proofs.Try.prog 46 [.agg (ApiPred.cells v0), .agg (ApiPred.cells v1)] (.lit (.bool r)))
  | 0 => fun v0 v1 r h => by simp [offshootref12_SamePred.f] at h
  | K + 1 => fun v0 v1 r h => by rw [offshootref12_SamePred.f] at h; exact offshootref12_SamePred.bok _ (offshootref12_SamePred_knot K) K v0 v1 r h
theorem offshootref12_SamePred.ok (K : Nat) (v0 : ApiPred) (v1 : ApiPred) (r : Bool) (h : offshootref12_SamePred.f K v0 v1 = some r) : FW.Ok Go.Proofs.Try.prog 46 [.agg (ApiPred.cells v0), .agg (ApiPred.cells v1)] (.lit (.bool r)) := (offshootref12_SamePred_knot K) v0 v1 r h
end Go.Proofs.Ytbjbgodcenopnaa

/- Written by a program of this session (gen.py): the contracts of functions of the program. -/
import Derived.KernelRfl
import Derived.Test.YtbjbgodcenopnaaProg
import Derived.Test.YtbjbgodcenopnaaAvFun
import Derived.Test.YtbjbgodcenopnaaAvMan
import Derived.Test.YtbjbgodcenopnaaAvMore
import Derived.Test.YtbjbgodcenopnaaAvDraw2
import Derived.Test.YtbjbgodcenopnaaAvRow
import Derived.Test.YtbjbgodcenopnaaAvBld
import Derived.Test.YtbjbgodcenopnaaHcl
import Derived.Test.YtbjbgodcenopnaaAvFl
import Derived.Test.YtbjbgodcenopnaaSvD
import Derived.Test.YtbjbgodcenopnaaSvP14
namespace Go.Proofs.Ytbjbgodcenopnaa
set_option linter.unusedVariables false
set_option maxRecDepth 20000
set_option maxHeartbeats 10000000
theorem offshootref13_Text.ok (K : Nat) (v0 : List UInt8) (r : List UInt8) (h : offshootref13_Text.f K v0 = some r) :
  FW.Ok Try.prog 42 [.lit (.string (FW.B v0))] (.lit (.string (FW.B r))) := by
 refine FW.enter (xs := [.lit (.string (FW.B v0))]) Try.func42 rfl Try.ntmps42 rfl ?_
 intro M w0 a hk
 unfold offshootref13_Text.f at h
 refine FW.wreg ?_; intro K' hK1
 refine FW.lfun (y := .lit (.string (FW.B ([] : List UInt8)))) hk rfl rfl rfl rfl (FW.f_assign hk FW.h0 rfl) ?_; clear hk; intro a w hk
 refine FW.lend (hK1 _ _ ?_); clear hK1 K'
 refine FW.wreg ?_; intro K' hK2
 refine FW.lfun (y := .lit (.string (FW.B ([39] : List UInt8)))) hk rfl rfl rfl rfl (FW.f_assign hk FW.h0 rfl) ?_; clear hk; intro a w hk
 refine FW.lend (hK2 _ _ ?_); clear hK2 K'
 refine FW.wseq ?_; intro K' hK3
 refine FW.wreg ?_; intro K' hK4
 refine FW.lfun (y := .lit (.int .i64 0)) hk rfl rfl rfl rfl (FW.f_assign hk FW.h0 rfl) ?_; clear hk; intro a w hk
 refine FW.lend (hK4 _ _ ?_); clear hK4 K'
 refine wp_block ?_
 refine FW.wloop (T := Nat × List UInt8 × List UInt8 × Int) (fun x a w => match x with | (kl1, v0, v3, v4) => FW.S M w0 a w 43 [] [(0, [], .lit (.string (FW.B v0))), (3, [], .lit (.string (FW.B v3))), (4, [], .lit (.int .i64 v4))] ∧ offshootref13_Text.l1 K kl1 v0 v3 v4 = some r) (fun x => x.1) (K, v0, ([39] : List UInt8), 0) ⟨hk.sub ⟨rfl, rfl, rfl, trivial⟩, h⟩ ?_
 clear hk h
 rintro ⟨kl1, v0, v3, v4⟩ a w ⟨hk, h⟩ K' hK5
 cases kl1 with
 | zero => simp [offshootref13_Text.l1] at h
 | succ kl1 =>
 rw [offshootref13_Text.l1.eq_2] at h
 refine FW.wseq ?_; intro K' hK6
 refine FW.wreg ?_; intro K' hK7
 refine FW.lfun (y := .lit (.int .i64 v4)) hk rfl rfl rfl rfl (FW.f_move hk FW.h0 rfl) ?_; clear hk; intro a w hk
 refine FW.lfun (y := .lit (.string (FW.B v0))) hk rfl rfl rfl rfl (FW.f_move hk FW.h0 rfl) ?_; clear hk; intro a w hk
 refine FW.lfun (y := .lit (.int .i64 (List.length v0 : Int))) hk rfl rfl rfl rfl ((FW.f_pure (FW.p_slen Try.underlying9 hk.kn FW.h0 rfl))) ?_; clear hk; intro a w hk
 refine FW.lfun (y := .lit (.bool (decide (v4 < (List.length v0 : Int))))) hk rfl rfl rfl rfl ((FW.f_pure (FW.p_lss hk.kn FW.h0 rfl rfl))) ?_; clear hk; intro a w hk
 refine FW.lend (hK7 _ _ ?_); clear hK7 K'
 refine FW.wcondF (b := (decide (v4 < (List.length v0 : Int)))) hk h rfl (fun h hb => ?_) (fun h hb => ?_)
 ·skip
  refine wp_skip ?_
  (repeat first | refine FW.then_normal ?_ | refine FW.block_normal ?_); refine hK6 _ _ ?_
  refine FW.wseqJ (fun a w => ∃ (v0 : List UInt8) (v3 : List UInt8) (v4 : Int), FW.S M w0 a w 43 [] [(0, [], .lit (.string (FW.B v0))), (3, [], .lit (.string (FW.B v3))), (4, [], .lit (.int .i64 v4))] ∧ offshootref13_Text.j1 (offshootref13_Text.l1 K kl1) K v0 v3 v4 = some r) ?_ ?_
  ·clear hk h
   rintro a w ⟨v0, v3, v4, hk, h⟩
   unfold offshootref13_Text.j1 at h
   refine FW.wreg1 ?_
   refine FW.lfun (y := .lit (.int .i64 v4)) hk rfl rfl rfl rfl (FW.f_move hk FW.h0 rfl) ?_; clear hk; intro a w hk
   refine FW.lfun (y := .lit (.int .i64 (IntKind.wrap .i64 (v4 + 1)))) hk rfl rfl rfl rfl ((FW.f_pure (FW.p_add hk.kn FW.h0 rfl rfl))) ?_; clear hk; intro a w hk
   refine FW.lfun (y := .lit (.int .i64 (IntKind.wrap .i64 (v4 + 1)))) hk rfl rfl rfl rfl (FW.f_assign hk FW.h0 rfl) ?_; clear hk; intro a w hk
   refine wpList_nil ?_
   (repeat first | refine FW.then_normal ?_ | refine FW.block_normal ?_); exact hK5 (kl1, v0, v3, (IntKind.wrap .i64 (v4 + 1))) _ _ (Nat.lt_succ_self _) ⟨hk.sub ⟨rfl, rfl, rfl, trivial⟩, h⟩
  ·intro K' hK8
   refine wp_block ?_
   refine FW.wreg ?_; intro K' hK10
   refine FW.lfun (y := .lit (.string (FW.B v0))) hk rfl rfl rfl rfl (FW.f_move hk FW.h0 rfl) ?_; clear hk; intro a w hk
   refine FW.lfun (y := .lit (.int .i64 v4)) hk rfl rfl rfl rfl (FW.f_move hk FW.h0 rfl) ?_; clear hk; intro a w hk
   obtain ⟨hc1, h⟩ := FW.chk h
   refine FW.lfun (y := .lit (.int .u8 (FW.bt v0 v4))) hk rfl rfl rfl rfl ((FW.f_pure (FW.p_index Try.underlying9 hk.kn FW.h0 rfl rfl hc1))) ?_; clear hk; intro a w hk
   refine FW.lfun (y := .lit (.int .u8 (FW.bt v0 v4))) hk rfl rfl rfl rfl (FW.f_assign hk FW.h0 rfl) ?_; clear hk; intro a w hk
   refine FW.lend (hK10 _ _ ?_); clear hK10 K'
   refine FW.wseqJ (fun a w => ∃ (v0 : List UInt8) (v3 : List UInt8) (v4 : Int) (v5 : Int), FW.S M w0 a w 43 [] [(0, [], .lit (.string (FW.B v0))), (3, [], .lit (.string (FW.B v3))), (4, [], .lit (.int .i64 v4)), (5, [], .lit (.int .u8 v5))] ∧ offshootref13_Text.j2 (offshootref13_Text.l1 K kl1) K v0 v3 v4 v5 = some r) ?_ ?_
   ·clear hk h
    rintro a w ⟨v0, v3, v4, v5, hk, h⟩
    unfold offshootref13_Text.j2 at h
    refine FW.wreg ?_; intro K' hK12
    refine FW.lfun (y := .lit (.int .u8 v5)) hk rfl rfl rfl rfl (FW.f_move hk FW.h0 rfl) ?_; clear hk; intro a w hk
    refine FW.lfun (y := .lit (.bool (decide (v5 < 32)))) hk rfl rfl rfl rfl ((FW.f_pure (FW.p_lss hk.kn FW.h0 rfl rfl))) ?_; clear hk; intro a w hk
    refine FW.lfun (y := .lit (.bool (decide (v5 < 32)))) hk rfl rfl rfl rfl (FW.f_move hk FW.h0 rfl) ?_; clear hk; intro a w hk
    refine FW.lfunG (y := .lit (.int .u8 v5)) hk rfl rfl rfl rfl rfl rfl rfl rfl (fun hc => FW.f_move hk hc rfl) ?_; clear hk; intro a w hk
    refine FW.lfunG (y := .lit (.bool (decide (126 < v5)))) hk rfl rfl rfl rfl rfl rfl rfl rfl (fun hc => (FW.f_pure (FW.p_gtr hk.kn hc rfl rfl))) ?_; clear hk; intro a w hk
    refine FW.lfun (y := .lit (.bool ((decide (v5 < 32)) || (decide (126 < v5))))) hk rfl rfl rfl rfl ((FW.f_pure (FW.p_pick_or hk.kn FW.h0 rfl rfl))) ?_; clear hk; intro a w hk
    refine FW.lend (hK12 _ _ ?_); clear hK12 K'
    refine FW.wcondF (b := ((decide (v5 < 32)) || (decide (126 < v5)))) hk h rfl (fun h hb => ?_) (fun h hb => ?_)
    ·skip
     refine FW.wreg1 ?_
     refine FW.lfun (y := .lit (.string (FW.B v3))) hk rfl rfl rfl rfl (FW.f_move hk FW.h0 rfl) ?_; clear hk; intro a w hk
     refine FW.lfun (y := .lit (.int .u8 v5)) hk rfl rfl rfl rfl (FW.f_move hk FW.h0 rfl) ?_; clear hk; intro a w hk
     obtain ⟨t1, hr_t1, h⟩ := FW.bnd h
     refine FW.lfun (y := .lit (.string (FW.B t1))) hk rfl rfl rfl rfl (FW.f_call hk FW.h0 rfl rfl Try.func41 rfl (by kernel_rfl) (offshootref13_hex.ok v5 _ hr_t1)) ?_; clear hk; intro a w hk
     obtain ⟨hc2, h⟩ := FW.chk h
     refine FW.lfun (y := .lit (.string (FW.B (([92, 120] : List UInt8) ++ t1)))) hk rfl rfl rfl rfl ((FW.f_pure (FW.p_sadd hk.kn FW.h0 rfl rfl hc2))) ?_; clear hk; intro a w hk
     obtain ⟨hc3, h⟩ := FW.chk h
     refine FW.lfun (y := .lit (.string (FW.B (v3 ++ (([92, 120] : List UInt8) ++ t1))))) hk rfl rfl rfl rfl ((FW.f_pure (FW.p_sadd hk.kn FW.h0 rfl rfl hc3))) ?_; clear hk; intro a w hk
     refine FW.lfun (y := .lit (.string (FW.B (v3 ++ (([92, 120] : List UInt8) ++ t1))))) hk rfl rfl rfl rfl (FW.f_assign hk FW.h0 rfl) ?_; clear hk; intro a w hk
     refine wpList_nil ?_
     (repeat first | refine FW.then_normal ?_ | refine FW.block_normal ?_); exact hK8 _ _ ⟨v0, (v3 ++ (([92, 120] : List UInt8) ++ t1)), v4, hk.sub ⟨rfl, rfl, rfl, trivial⟩, h⟩
    ·skip
     refine FW.wreg1 ?_
     refine FW.lfun (y := .lit (.string (FW.B v3))) hk rfl rfl rfl rfl (FW.f_move hk FW.h0 rfl) ?_; clear hk; intro a w hk
     refine FW.lfun (y := .lit (.string (FW.B v0))) hk rfl rfl rfl rfl (FW.f_move hk FW.h0 rfl) ?_; clear hk; intro a w hk
     refine FW.lfun (y := .lit (.int .i64 v4)) hk rfl rfl rfl rfl (FW.f_move hk FW.h0 rfl) ?_; clear hk; intro a w hk
     refine FW.lfun (y := .lit (.int .i64 v4)) hk rfl rfl rfl rfl (FW.f_move hk FW.h0 rfl) ?_; clear hk; intro a w hk
     refine FW.lfun (y := .lit (.int .i64 (IntKind.wrap .i64 (v4 + 1)))) hk rfl rfl rfl rfl ((FW.f_pure (FW.p_add hk.kn FW.h0 rfl rfl))) ?_; clear hk; intro a w hk
     obtain ⟨hc4, h⟩ := FW.chk h
     refine FW.lfun (y := .lit (.string (FW.B (List.take (Int.toNat (IntKind.wrap .i64 (v4 + 1)) - Int.toNat v4) (List.drop (Int.toNat v4) v0))))) hk rfl rfl rfl rfl ((FW.f_pure (FW.p_slice Try.underlying9 hk.kn FW.h0 rfl rfl rfl hc4))) ?_; clear hk; intro a w hk
     obtain ⟨hc5, h⟩ := FW.chk h
     refine FW.lfun (y := .lit (.string (FW.B (v3 ++ (List.take (Int.toNat (IntKind.wrap .i64 (v4 + 1)) - Int.toNat v4) (List.drop (Int.toNat v4) v0)))))) hk rfl rfl rfl rfl ((FW.f_pure (FW.p_sadd hk.kn FW.h0 rfl rfl hc5))) ?_; clear hk; intro a w hk
     refine FW.lfun (y := .lit (.string (FW.B (v3 ++ (List.take (Int.toNat (IntKind.wrap .i64 (v4 + 1)) - Int.toNat v4) (List.drop (Int.toNat v4) v0)))))) hk rfl rfl rfl rfl (FW.f_assign hk FW.h0 rfl) ?_; clear hk; intro a w hk
     refine wpList_nil ?_
     (repeat first | refine FW.then_normal ?_ | refine FW.block_normal ?_); exact hK8 _ _ ⟨v0, (v3 ++ (List.take (Int.toNat (IntKind.wrap .i64 (v4 + 1)) - Int.toNat v4) (List.drop (Int.toNat v4) v0))), v4, hk.sub ⟨rfl, rfl, rfl, trivial⟩, h⟩
   ·intro K' hK11
    refine FW.wreg ?_; intro K' hK15
    refine FW.lfun (y := .lit (.int .u8 (FW.bt v0 v4))) hk rfl rfl rfl rfl (FW.f_move hk FW.h0 rfl) ?_; clear hk; intro a w hk
    refine FW.lfun (y := .lit (.bool (decide ((FW.bt v0 v4) = 39)))) hk rfl rfl rfl rfl ((FW.f_pure (FW.p_eql hk.kn FW.h0 rfl rfl))) ?_; clear hk; intro a w hk
    refine FW.lfun (y := .lit (.bool (decide ((FW.bt v0 v4) = 39)))) hk rfl rfl rfl rfl (FW.f_move hk FW.h0 rfl) ?_; clear hk; intro a w hk
    refine FW.lfunG (y := .lit (.int .u8 (FW.bt v0 v4))) hk rfl rfl rfl rfl rfl rfl rfl rfl (fun hc => FW.f_move hk hc rfl) ?_; clear hk; intro a w hk
    refine FW.lfunG (y := .lit (.bool (decide ((FW.bt v0 v4) = 92)))) hk rfl rfl rfl rfl rfl rfl rfl rfl (fun hc => (FW.f_pure (FW.p_eql hk.kn hc rfl rfl))) ?_; clear hk; intro a w hk
    refine FW.lfun (y := .lit (.bool ((decide ((FW.bt v0 v4) = 39)) || (decide ((FW.bt v0 v4) = 92))))) hk rfl rfl rfl rfl ((FW.f_pure (FW.p_pick_or hk.kn FW.h0 rfl rfl))) ?_; clear hk; intro a w hk
    refine FW.lend (hK15 _ _ ?_); clear hK15 K'
    refine FW.wcondF (b := ((decide ((FW.bt v0 v4) = 39)) || (decide ((FW.bt v0 v4) = 92)))) hk h rfl (fun h hb => ?_) (fun h hb => ?_)
    ·skip
     refine FW.wreg1 ?_
     refine FW.lfun (y := .lit (.string (FW.B v3))) hk rfl rfl rfl rfl (FW.f_move hk FW.h0 rfl) ?_; clear hk; intro a w hk
     obtain ⟨hc6, h⟩ := FW.chk h
     refine FW.lfun (y := .lit (.string (FW.B (v3 ++ ([92] : List UInt8))))) hk rfl rfl rfl rfl ((FW.f_pure (FW.p_sadd hk.kn FW.h0 rfl rfl hc6))) ?_; clear hk; intro a w hk
     refine FW.lfun (y := .lit (.string (FW.B (v3 ++ ([92] : List UInt8))))) hk rfl rfl rfl rfl (FW.f_assign hk FW.h0 rfl) ?_; clear hk; intro a w hk
     refine wpList_nil ?_
     (repeat first | refine FW.then_normal ?_ | refine FW.block_normal ?_); exact hK11 _ _ ⟨v0, (v3 ++ ([92] : List UInt8)), v4, (FW.bt v0 v4), hk.sub ⟨rfl, rfl, rfl, rfl, trivial⟩, h⟩
    ·skip
     refine wp_skip ?_
     (repeat first | refine FW.then_normal ?_ | refine FW.block_normal ?_); exact hK11 _ _ ⟨v0, v3, v4, (FW.bt v0 v4), hk.sub ⟨rfl, rfl, rfl, rfl, trivial⟩, h⟩
 ·skip
  refine wp_exit ?_; (repeat first | refine FW.then_exit ?_ | refine FW.block_exit_ne rfl ?_); refine FW.block_exit ?_
  (repeat first | refine FW.then_normal ?_ | refine FW.block_normal ?_); refine hK3 _ _ ?_
  refine FW.wreg ?_; intro K' hK17
  refine FW.lfun (y := .lit (.string (FW.B v3))) hk rfl rfl rfl rfl (FW.f_move hk FW.h0 rfl) ?_; clear hk; intro a w hk
  obtain ⟨hc7, h⟩ := FW.chk h
  refine FW.lfun (y := .lit (.string (FW.B (v3 ++ ([39] : List UInt8))))) hk rfl rfl rfl rfl ((FW.f_pure (FW.p_sadd hk.kn FW.h0 rfl rfl hc7))) ?_; clear hk; intro a w hk
  refine FW.lfun (y := .lit (.string (FW.B (v3 ++ ([39] : List UInt8))))) hk rfl rfl rfl rfl (FW.f_assign hk FW.h0 rfl) ?_; clear hk; intro a w hk
  refine FW.lend (hK17 _ _ ?_); clear hK17 K'
  refine wp_ret ?_
  (repeat first | refine FW.then_ret ?_ | refine FW.block_ret ?_)
  obtain rfl := Option.some.inj h
  exact FW.fret1 hk rfl rfl

theorem offshootref13_Value.bok (s_offshootref13_Value : ApiValue → Option (List UInt8)) (s_offshootref13_Values : List ApiValue → Option (List UInt8)) (hs_offshootref13_Value : ∀ (v0 : ApiValue) (r : List UInt8), s_offshootref13_Value v0 = some r → FW.Ok Try.prog 16 [.agg (ApiValue.cells v0)] (.lit (.string (FW.B r)))) (hs_offshootref13_Values : ∀ (v0 : List ApiValue) (r : List UInt8), s_offshootref13_Values v0 = some r → FW.Ok Try.prog 31 [.row (r_ApiValue_cells v0)] (.lit (.string (FW.B r)))) (K : Nat) (v0 : ApiValue) (r : List UInt8) (h : offshootref13_Value.b s_offshootref13_Value s_offshootref13_Values K v0 = some r) :
  FW.Ok Try.prog 16 [.agg (ApiValue.cells v0)] (.lit (.string (FW.B r))) := by
 refine FW.enter (xs := [.agg (ApiValue.cells v0)]) Try.func16 rfl Try.ntmps16 rfl ?_
 intro M w0 a hk
 unfold offshootref13_Value.b at h
 refine FW.wreg ?_; intro K' hK1
 refine FW.l_box (cs := (ApiValue.cells v0)) hk rfl rfl rfl rfl rfl ?_; clear hk; intro bx1 a w hk
 refine FW.lfun (y := .lit (.string (FW.B ([] : List UInt8)))) hk rfl rfl rfl rfl (FW.f_assign hk FW.h0 rfl) ?_; clear hk; intro a w hk
 refine FW.lend (hK1 _ _ ?_); clear hK1 K'
 refine FW.wseq ?_; intro K' hK2
 refine FW.wreg ?_; intro K' hK3
 refine FW.lfun (y := .lit (.pointer (some ⟨bx1, 0, none⟩))) hk rfl rfl rfl rfl (FW.f_fieldPtr hk FW.h0 rfl Try.underlying33 rfl (by kernel_rfl) rfl) ?_; clear hk; intro a w hk
 refine FW.lfun (y := .lit (.int .i64 v0.Kind)) hk rfl rfl rfl rfl (FW.f_loadBlk1 hk FW.h0 (j := 0) rfl rfl Try.underlying3 rfl rfl) ?_; clear hk; intro a w hk
 refine FW.lend (hK3 _ _ ?_); clear hK3 K'
 refine wp_block ?_
 refine FW.wreg ?_; intro K' hK4
 refine FW.lfun (y := .lit (.bool (decide (v0.Kind = 0)))) hk rfl rfl rfl rfl ((FW.f_pure (FW.p_eql hk.kn FW.h0 rfl rfl))) ?_; clear hk; intro a w hk
 refine FW.lfun (y := .lit (.bool (decide (v0.Kind = 0)))) hk rfl rfl rfl rfl (FW.f_assign hk FW.h0 rfl) ?_; clear hk; intro a w hk
 refine FW.lend (hK4 _ _ ?_); clear hK4 K'
 refine FW.wcondF (b := (decide (v0.Kind = 0))) hk h rfl (fun h hb => ?_) (fun h hb => ?_)
 ·skip
  refine FW.wreg ?_; intro K' hK5
  refine FW.lfun (y := .lit (.string (FW.B ([110, 117, 108, 108] : List UInt8)))) hk rfl rfl rfl rfl (FW.f_assign hk FW.h0 rfl) ?_; clear hk; intro a w hk
  refine FW.lend (hK5 _ _ ?_); clear hK5 K'
  refine wp_ret ?_
  (repeat first | refine FW.then_ret ?_ | refine FW.block_ret ?_)
  obtain rfl := Option.some.inj h
  exact FW.fret1 hk rfl rfl
 ·skip
  refine FW.wreg ?_; intro K' hK6
  refine FW.lfun (y := .lit (.bool (decide (v0.Kind = 1)))) hk rfl rfl rfl rfl ((FW.f_pure (FW.p_eql hk.kn FW.h0 rfl rfl))) ?_; clear hk; intro a w hk
  refine FW.lfun (y := .lit (.bool (decide (v0.Kind = 1)))) hk rfl rfl rfl rfl (FW.f_assign hk FW.h0 rfl) ?_; clear hk; intro a w hk
  refine FW.lend (hK6 _ _ ?_); clear hK6 K'
  refine FW.wcondF (b := (decide (v0.Kind = 1))) hk h rfl (fun h hb => ?_) (fun h hb => ?_)
  ·skip
   refine FW.wseq ?_; intro K' hK7
   refine FW.wreg ?_; intro K' hK8
   refine FW.lfun (y := .lit (.pointer (some ⟨bx1, 1, none⟩))) hk rfl rfl rfl rfl (FW.f_fieldPtr hk FW.h0 rfl Try.underlying33 rfl (by kernel_rfl) rfl) ?_; clear hk; intro a w hk
   refine FW.lfun (y := .lit (.bool v0.B)) hk rfl rfl rfl rfl (FW.f_loadBlk1 hk FW.h0 (j := 0) rfl rfl Try.underlying4 rfl rfl) ?_; clear hk; intro a w hk
   refine FW.lend (hK8 _ _ ?_); clear hK8 K'
   refine FW.wcondF (b := v0.B) hk h rfl (fun h hb => ?_) (fun h hb => ?_)
   ·skip
    refine FW.wreg ?_; intro K' hK9
    refine FW.lfun (y := .lit (.string (FW.B ([116, 114, 117, 101] : List UInt8)))) hk rfl rfl rfl rfl (FW.f_assign hk FW.h0 rfl) ?_; clear hk; intro a w hk
    refine FW.lend (hK9 _ _ ?_); clear hK9 K'
    refine wp_ret ?_
    (repeat first | refine FW.then_ret ?_ | refine FW.block_ret ?_)
    obtain rfl := Option.some.inj h
    exact FW.fret1 hk rfl rfl
   ·skip
    refine wp_skip ?_
    (repeat first | refine FW.then_normal ?_ | refine FW.block_normal ?_); refine hK7 _ _ ?_
    refine FW.wreg ?_; intro K' hK10
    refine FW.lfun (y := .lit (.string (FW.B ([102, 97, 108, 115, 101] : List UInt8)))) hk rfl rfl rfl rfl (FW.f_assign hk FW.h0 rfl) ?_; clear hk; intro a w hk
    refine FW.lend (hK10 _ _ ?_); clear hK10 K'
    refine wp_ret ?_
    (repeat first | refine FW.then_ret ?_ | refine FW.block_ret ?_)
    obtain rfl := Option.some.inj h
    exact FW.fret1 hk rfl rfl
  ·skip
   refine FW.wreg ?_; intro K' hK11
   refine FW.lfun (y := .lit (.bool (decide (v0.Kind = 2)))) hk rfl rfl rfl rfl ((FW.f_pure (FW.p_eql hk.kn FW.h0 rfl rfl))) ?_; clear hk; intro a w hk
   refine FW.lfun (y := .lit (.bool (decide (v0.Kind = 2)))) hk rfl rfl rfl rfl (FW.f_assign hk FW.h0 rfl) ?_; clear hk; intro a w hk
   refine FW.lend (hK11 _ _ ?_); clear hK11 K'
   refine FW.wcondF (b := (decide (v0.Kind = 2))) hk h rfl (fun h hb => ?_) (fun h hb => ?_)
   ·skip
    refine FW.wreg ?_; intro K' hK12
    refine FW.lfun (y := .lit (.pointer (some ⟨bx1, 2, none⟩))) hk rfl rfl rfl rfl (FW.f_fieldPtr hk FW.h0 rfl Try.underlying33 rfl (by kernel_rfl) rfl) ?_; clear hk; intro a w hk
    refine FW.lfun (y := .lit (.int .i64 v0.N)) hk rfl rfl rfl rfl (FW.f_loadBlk1 hk FW.h0 (j := 0) rfl rfl Try.underlying2 rfl rfl) ?_; clear hk; intro a w hk
    obtain ⟨t1, hr_t1, h⟩ := FW.bnd h
    refine FW.lfun (y := .lit (.string (FW.B t1))) hk rfl rfl rfl rfl (FW.f_call hk FW.h0 rfl rfl Try.func40 rfl (by kernel_rfl) (offshootref13_Number.ok K v0.N _ hr_t1)) ?_; clear hk; intro a w hk
    refine FW.lfun (y := .lit (.string (FW.B t1))) hk rfl rfl rfl rfl (FW.f_assign hk FW.h0 rfl) ?_; clear hk; intro a w hk
    refine FW.lend (hK12 _ _ ?_); clear hK12 K'
    refine wp_ret ?_
    (repeat first | refine FW.then_ret ?_ | refine FW.block_ret ?_)
    obtain rfl := Option.some.inj h
    exact FW.fret1 hk rfl rfl
   ·skip
    refine FW.wreg ?_; intro K' hK13
    refine FW.lfun (y := .lit (.bool (decide (v0.Kind = 3)))) hk rfl rfl rfl rfl ((FW.f_pure (FW.p_eql hk.kn FW.h0 rfl rfl))) ?_; clear hk; intro a w hk
    refine FW.lfun (y := .lit (.bool (decide (v0.Kind = 3)))) hk rfl rfl rfl rfl (FW.f_assign hk FW.h0 rfl) ?_; clear hk; intro a w hk
    refine FW.lend (hK13 _ _ ?_); clear hK13 K'
    refine FW.wcondF (b := (decide (v0.Kind = 3))) hk h rfl (fun h hb => ?_) (fun h hb => ?_)
    ·skip
     refine FW.wreg ?_; intro K' hK14
     refine FW.lfun (y := .lit (.pointer (some ⟨bx1, 3, none⟩))) hk rfl rfl rfl rfl (FW.f_fieldPtr hk FW.h0 rfl Try.underlying33 rfl (by kernel_rfl) rfl) ?_; clear hk; intro a w hk
     refine FW.lfun (y := .lit (.float .f64 v0.F)) hk rfl rfl rfl rfl (FW.f_loadBlk1 hk FW.h0 (j := 0) rfl rfl Try.underlying30 rfl rfl) ?_; clear hk; intro a w hk
     obtain ⟨t2, hr_t2, h⟩ := FW.bnd h
     refine FW.lfun (y := .lit (.int .u64 t2)) hk rfl rfl rfl rfl (FW.f_call hk FW.h0 rfl rfl Try.func35 rfl (by kernel_rfl) (offshootref01_Canon.ok v0.F _ hr_t2)) ?_; clear hk; intro a w hk
     obtain ⟨t3, hr_t3, h⟩ := FW.bnd h
     refine FW.lfun (y := .lit (.string (FW.B t3))) hk rfl rfl rfl rfl (FW.f_call hk FW.h0 rfl rfl Try.func34 rfl (by kernel_rfl) (offshootref02_Eight.ok K t2 _ hr_t3)) ?_; clear hk; intro a w hk
     refine FW.lfun (y := .lit (.string (FW.B t3))) hk rfl rfl rfl rfl (FW.f_assign hk FW.h0 rfl) ?_; clear hk; intro a w hk
     refine FW.lfun (y := .lit (.string (FW.B ([] : List UInt8)))) hk rfl rfl rfl rfl (FW.f_assign hk FW.h0 rfl) ?_; clear hk; intro a w hk
     refine FW.lend (hK14 _ _ ?_); clear hK14 K'
     refine FW.wseq ?_; intro K' hK15
     refine FW.wreg ?_; intro K' hK16
     refine FW.lfun (y := .lit (.int .i64 0)) hk rfl rfl rfl rfl (FW.f_assign hk FW.h0 rfl) ?_; clear hk; intro a w hk
     refine FW.lend (hK16 _ _ ?_); clear hK16 K'
     refine wp_block ?_
     refine FW.wloop (T := Nat × List UInt8 × List UInt8 × Int) (fun x a w => match x with | (kl1, v3, v4, v5) => FW.S M w0 a w 71 [] [(3, [], .lit (.string (FW.B v3))), (4, [], .lit (.string (FW.B v4))), (5, [], .lit (.int .i64 v5))] ∧ offshootref13_Value.l1 s_offshootref13_Value s_offshootref13_Values K kl1 v3 v4 v5 = some r) (fun x => x.1) (K, t3, ([] : List UInt8), 0) ⟨(hk.drop 0).sub ⟨rfl, rfl, rfl, trivial⟩, h⟩ ?_
     clear hk h
     rintro ⟨kl1, v3, v4, v5⟩ a w ⟨hk, h⟩ K' hK17
     cases kl1 with
     | zero => simp [offshootref13_Value.l1] at h
     | succ kl1 =>
     rw [offshootref13_Value.l1.eq_2] at h
     refine FW.wseq ?_; intro K' hK18
     refine FW.wreg ?_; intro K' hK19
     refine FW.lfun (y := .lit (.int .i64 v5)) hk rfl rfl rfl rfl (FW.f_move hk FW.h0 rfl) ?_; clear hk; intro a w hk
     refine FW.lfun (y := .lit (.bool (decide (v5 < 8)))) hk rfl rfl rfl rfl ((FW.f_pure (FW.p_lss hk.kn FW.h0 rfl rfl))) ?_; clear hk; intro a w hk
     refine FW.lend (hK19 _ _ ?_); clear hK19 K'
     refine FW.wcondF (b := (decide (v5 < 8))) hk h rfl (fun h hb => ?_) (fun h hb => ?_)
     ·skip
      refine wp_skip ?_
      (repeat first | refine FW.then_normal ?_ | refine FW.block_normal ?_); refine hK18 _ _ ?_
      refine FW.wseq ?_; intro K' hK20
      refine wp_block ?_
      refine FW.wreg1 ?_
      refine FW.lfun (y := .lit (.string (FW.B v4))) hk rfl rfl rfl rfl (FW.f_move hk FW.h0 rfl) ?_; clear hk; intro a w hk
      refine FW.lfun (y := .lit (.string (FW.B v3))) hk rfl rfl rfl rfl (FW.f_move hk FW.h0 rfl) ?_; clear hk; intro a w hk
      refine FW.lfun (y := .lit (.int .i64 v5)) hk rfl rfl rfl rfl (FW.f_move hk FW.h0 rfl) ?_; clear hk; intro a w hk
      obtain ⟨hc1, h⟩ := FW.chk h
      refine FW.lfun (y := .lit (.int .u8 (FW.bt v3 v5))) hk rfl rfl rfl rfl ((FW.f_pure (FW.p_index Try.underlying9 hk.kn FW.h0 rfl rfl hc1))) ?_; clear hk; intro a w hk
      obtain ⟨t4, hr_t4, h⟩ := FW.bnd h
      refine FW.lfun (y := .lit (.string (FW.B t4))) hk rfl rfl rfl rfl (FW.f_call hk FW.h0 rfl rfl Try.func41 rfl (by kernel_rfl) (offshootref13_hex.ok (FW.bt v3 v5) _ hr_t4)) ?_; clear hk; intro a w hk
      obtain ⟨hc2, h⟩ := FW.chk h
      refine FW.lfun (y := .lit (.string (FW.B (v4 ++ t4)))) hk rfl rfl rfl rfl ((FW.f_pure (FW.p_sadd hk.kn FW.h0 rfl rfl hc2))) ?_; clear hk; intro a w hk
      refine FW.lfun (y := .lit (.string (FW.B (v4 ++ t4)))) hk rfl rfl rfl rfl (FW.f_assign hk FW.h0 rfl) ?_; clear hk; intro a w hk
      refine wpList_nil ?_
      (repeat first | refine FW.then_normal ?_ | refine FW.block_normal ?_); refine hK20 _ _ ?_
      refine FW.wreg1 ?_
      refine FW.lfun (y := .lit (.int .i64 v5)) hk rfl rfl rfl rfl (FW.f_move hk FW.h0 rfl) ?_; clear hk; intro a w hk
      refine FW.lfun (y := .lit (.int .i64 (IntKind.wrap .i64 (v5 + 1)))) hk rfl rfl rfl rfl ((FW.f_pure (FW.p_add hk.kn FW.h0 rfl rfl))) ?_; clear hk; intro a w hk
      refine FW.lfun (y := .lit (.int .i64 (IntKind.wrap .i64 (v5 + 1)))) hk rfl rfl rfl rfl (FW.f_assign hk FW.h0 rfl) ?_; clear hk; intro a w hk
      refine wpList_nil ?_
      (repeat first | refine FW.then_normal ?_ | refine FW.block_normal ?_); exact hK17 (kl1, v3, (v4 ++ t4), (IntKind.wrap .i64 (v5 + 1))) _ _ (Nat.lt_succ_self _) ⟨hk.sub ⟨rfl, rfl, rfl, trivial⟩, h⟩
     ·skip
      refine wp_exit ?_; (repeat first | refine FW.then_exit ?_ | refine FW.block_exit_ne rfl ?_); refine FW.block_exit ?_
      (repeat first | refine FW.then_normal ?_ | refine FW.block_normal ?_); refine hK15 _ _ ?_
      refine FW.wreg ?_; intro K' hK23
      refine FW.lfun (y := .lit (.string (FW.B v4))) hk rfl rfl rfl rfl (FW.f_move hk FW.h0 rfl) ?_; clear hk; intro a w hk
      obtain ⟨hc3, h⟩ := FW.chk h
      refine FW.lfun (y := .lit (.string (FW.B (([102, 39] : List UInt8) ++ v4)))) hk rfl rfl rfl rfl ((FW.f_pure (FW.p_sadd hk.kn FW.h0 rfl rfl hc3))) ?_; clear hk; intro a w hk
      obtain ⟨hc4, h⟩ := FW.chk h
      refine FW.lfun (y := .lit (.string (FW.B ((([102, 39] : List UInt8) ++ v4) ++ ([39] : List UInt8))))) hk rfl rfl rfl rfl ((FW.f_pure (FW.p_sadd hk.kn FW.h0 rfl rfl hc4))) ?_; clear hk; intro a w hk
      refine FW.lfun (y := .lit (.string (FW.B ((([102, 39] : List UInt8) ++ v4) ++ ([39] : List UInt8))))) hk rfl rfl rfl rfl (FW.f_assign hk FW.h0 rfl) ?_; clear hk; intro a w hk
      refine FW.lend (hK23 _ _ ?_); clear hK23 K'
      refine wp_ret ?_
      (repeat first | refine FW.then_ret ?_ | refine FW.block_ret ?_)
      obtain rfl := Option.some.inj h
      exact FW.fret1 hk rfl rfl
    ·skip
     refine FW.wreg ?_; intro K' hK24
     refine FW.lfun (y := .lit (.bool (decide (v0.Kind = 4)))) hk rfl rfl rfl rfl ((FW.f_pure (FW.p_eql hk.kn FW.h0 rfl rfl))) ?_; clear hk; intro a w hk
     refine FW.lfun (y := .lit (.bool (decide (v0.Kind = 4)))) hk rfl rfl rfl rfl (FW.f_assign hk FW.h0 rfl) ?_; clear hk; intro a w hk
     refine FW.lend (hK24 _ _ ?_); clear hK24 K'
     refine FW.wcondF (b := (decide (v0.Kind = 4))) hk h rfl (fun h hb => ?_) (fun h hb => ?_)
     ·skip
      refine FW.wreg ?_; intro K' hK25
      refine FW.lfun (y := .lit (.pointer (some ⟨bx1, 4, none⟩))) hk rfl rfl rfl rfl (FW.f_fieldPtr hk FW.h0 rfl Try.underlying33 rfl (by kernel_rfl) rfl) ?_; clear hk; intro a w hk
      refine FW.lfun (y := .lit (.string (FW.B v0.S))) hk rfl rfl rfl rfl (FW.f_loadBlk1 hk FW.h0 (j := 0) rfl rfl Try.underlying9 rfl rfl) ?_; clear hk; intro a w hk
      obtain ⟨t5, hr_t5, h⟩ := FW.bnd h
      refine FW.lfun (y := .lit (.string (FW.B t5))) hk rfl rfl rfl rfl (FW.f_call hk FW.h0 rfl rfl Try.func42 rfl (by kernel_rfl) (offshootref13_Text.ok K v0.S _ hr_t5)) ?_; clear hk; intro a w hk
      refine FW.lfun (y := .lit (.string (FW.B t5))) hk rfl rfl rfl rfl (FW.f_assign hk FW.h0 rfl) ?_; clear hk; intro a w hk
      refine FW.lend (hK25 _ _ ?_); clear hK25 K'
      refine wp_ret ?_
      (repeat first | refine FW.then_ret ?_ | refine FW.block_ret ?_)
      obtain rfl := Option.some.inj h
      exact FW.fret1 hk rfl rfl
     ·skip
      refine FW.wreg ?_; intro K' hK26
      refine FW.lfun (y := .lit (.bool (decide (v0.Kind = 5)))) hk rfl rfl rfl rfl ((FW.f_pure (FW.p_eql hk.kn FW.h0 rfl rfl))) ?_; clear hk; intro a w hk
      refine FW.lfun (y := .lit (.bool (decide (v0.Kind = 5)))) hk rfl rfl rfl rfl (FW.f_assign hk FW.h0 rfl) ?_; clear hk; intro a w hk
      refine FW.lend (hK26 _ _ ?_); clear hK26 K'
      refine FW.wcondF (b := (decide (v0.Kind = 5))) hk h rfl (fun h hb => ?_) (fun h hb => ?_)
      ·skip
       refine FW.wreg ?_; intro K' hK27
       refine FW.lfun (y := .lit (.pointer (some ⟨bx1, 5, none⟩))) hk rfl rfl rfl rfl (FW.f_fieldPtr hk FW.h0 rfl Try.underlying33 rfl (by kernel_rfl) rfl) ?_; clear hk; intro a w hk
       refine FW.lfun (y := .row (r_ApiValue_cells v0.L)) hk rfl rfl rfl rfl (FW.f_loadBlk1 hk FW.h0 (j := 0) rfl rfl Try.underlying31 rfl rfl) ?_; clear hk; intro a w hk
       obtain ⟨t6, hr_t6, h⟩ := FW.bnd h
       refine FW.lfun (y := .lit (.string (FW.B t6))) hk rfl rfl rfl rfl (FW.f_call hk FW.h0 rfl rfl Try.func31 rfl (by kernel_rfl) (hs_offshootref13_Values v0.L _ hr_t6)) ?_; clear hk; intro a w hk
       obtain ⟨hc5, h⟩ := FW.chk h
       refine FW.lfun (y := .lit (.string (FW.B (([91] : List UInt8) ++ t6)))) hk rfl rfl rfl rfl ((FW.f_pure (FW.p_sadd hk.kn FW.h0 rfl rfl hc5))) ?_; clear hk; intro a w hk
       obtain ⟨hc6, h⟩ := FW.chk h
       refine FW.lfun (y := .lit (.string (FW.B ((([91] : List UInt8) ++ t6) ++ ([93] : List UInt8))))) hk rfl rfl rfl rfl ((FW.f_pure (FW.p_sadd hk.kn FW.h0 rfl rfl hc6))) ?_; clear hk; intro a w hk
       refine FW.lfun (y := .lit (.string (FW.B ((([91] : List UInt8) ++ t6) ++ ([93] : List UInt8))))) hk rfl rfl rfl rfl (FW.f_assign hk FW.h0 rfl) ?_; clear hk; intro a w hk
       refine FW.lend (hK27 _ _ ?_); clear hK27 K'
       refine wp_ret ?_
       (repeat first | refine FW.then_ret ?_ | refine FW.block_ret ?_)
       obtain rfl := Option.some.inj h
       exact FW.fret1 hk rfl rfl
      ·skip
       refine FW.wreg ?_; intro K' hK28
       refine FW.lfun (y := .lit (.bool (decide (v0.Kind = 6)))) hk rfl rfl rfl rfl ((FW.f_pure (FW.p_eql hk.kn FW.h0 rfl rfl))) ?_; clear hk; intro a w hk
       refine FW.lfun (y := .lit (.bool (decide (v0.Kind = 6)))) hk rfl rfl rfl rfl (FW.f_assign hk FW.h0 rfl) ?_; clear hk; intro a w hk
       refine FW.lend (hK28 _ _ ?_); clear hK28 K'
       refine FW.wcondF (b := (decide (v0.Kind = 6))) hk h rfl (fun h hb => ?_) (fun h hb => ?_)
       ·skip
        refine FW.wreg ?_; intro K' hK29
        refine FW.lfun (y := .lit (.pointer (some ⟨bx1, 5, none⟩))) hk rfl rfl rfl rfl (FW.f_fieldPtr hk FW.h0 rfl Try.underlying33 rfl (by kernel_rfl) rfl) ?_; clear hk; intro a w hk
        refine FW.lfun (y := .row (r_ApiValue_cells v0.L)) hk rfl rfl rfl rfl (FW.f_loadBlk1 hk FW.h0 (j := 0) rfl rfl Try.underlying31 rfl rfl) ?_; clear hk; intro a w hk
        obtain ⟨t7, hr_t7, h⟩ := FW.bnd h
        refine FW.lfun (y := .lit (.string (FW.B t7))) hk rfl rfl rfl rfl (FW.f_call hk FW.h0 rfl rfl Try.func31 rfl (by kernel_rfl) (hs_offshootref13_Values v0.L _ hr_t7)) ?_; clear hk; intro a w hk
        obtain ⟨hc7, h⟩ := FW.chk h
        refine FW.lfun (y := .lit (.string (FW.B (([123] : List UInt8) ++ t7)))) hk rfl rfl rfl rfl ((FW.f_pure (FW.p_sadd hk.kn FW.h0 rfl rfl hc7))) ?_; clear hk; intro a w hk
        obtain ⟨hc8, h⟩ := FW.chk h
        refine FW.lfun (y := .lit (.string (FW.B ((([123] : List UInt8) ++ t7) ++ ([125] : List UInt8))))) hk rfl rfl rfl rfl ((FW.f_pure (FW.p_sadd hk.kn FW.h0 rfl rfl hc8))) ?_; clear hk; intro a w hk
        refine FW.lfun (y := .lit (.string (FW.B ((([123] : List UInt8) ++ t7) ++ ([125] : List UInt8))))) hk rfl rfl rfl rfl (FW.f_assign hk FW.h0 rfl) ?_; clear hk; intro a w hk
        refine FW.lend (hK29 _ _ ?_); clear hK29 K'
        refine wp_ret ?_
        (repeat first | refine FW.then_ret ?_ | refine FW.block_ret ?_)
        obtain rfl := Option.some.inj h
        exact FW.fret1 hk rfl rfl
       ·skip
        refine FW.wreg ?_; intro K' hK30
        refine FW.lfun (y := .lit (.bool (decide (v0.Kind = 7)))) hk rfl rfl rfl rfl ((FW.f_pure (FW.p_eql hk.kn FW.h0 rfl rfl))) ?_; clear hk; intro a w hk
        refine FW.lfun (y := .lit (.bool (decide (v0.Kind = 7)))) hk rfl rfl rfl rfl (FW.f_assign hk FW.h0 rfl) ?_; clear hk; intro a w hk
        refine FW.lend (hK30 _ _ ?_); clear hK30 K'
        refine FW.wcondF (b := (decide (v0.Kind = 7))) hk h rfl (fun h hb => ?_) (fun h hb => ?_)
        ·skip
         refine FW.wreg ?_; intro K' hK31
         refine FW.lfun (y := .lit (.pointer (some ⟨bx1, 2, none⟩))) hk rfl rfl rfl rfl (FW.f_fieldPtr hk FW.h0 rfl Try.underlying33 rfl (by kernel_rfl) rfl) ?_; clear hk; intro a w hk
         refine FW.lfun (y := .lit (.int .i64 v0.N)) hk rfl rfl rfl rfl (FW.f_loadBlk1 hk FW.h0 (j := 0) rfl rfl Try.underlying2 rfl rfl) ?_; clear hk; intro a w hk
         obtain ⟨t8, hr_t8, h⟩ := FW.bnd h
         refine FW.lfun (y := .lit (.string (FW.B t8))) hk rfl rfl rfl rfl (FW.f_call hk FW.h0 rfl rfl Try.func40 rfl (by kernel_rfl) (offshootref13_Number.ok K v0.N _ hr_t8)) ?_; clear hk; intro a w hk
         obtain ⟨hc9, h⟩ := FW.chk h
         refine FW.lfun (y := .lit (.string (FW.B (([118, 40] : List UInt8) ++ t8)))) hk rfl rfl rfl rfl ((FW.f_pure (FW.p_sadd hk.kn FW.h0 rfl rfl hc9))) ?_; clear hk; intro a w hk
         obtain ⟨hc10, h⟩ := FW.chk h
         refine FW.lfun (y := .lit (.string (FW.B ((([118, 40] : List UInt8) ++ t8) ++ ([41] : List UInt8))))) hk rfl rfl rfl rfl ((FW.f_pure (FW.p_sadd hk.kn FW.h0 rfl rfl hc10))) ?_; clear hk; intro a w hk
         refine FW.lfun (y := .lit (.string (FW.B ((([118, 40] : List UInt8) ++ t8) ++ ([41] : List UInt8))))) hk rfl rfl rfl rfl (FW.f_assign hk FW.h0 rfl) ?_; clear hk; intro a w hk
         refine FW.lend (hK31 _ _ ?_); clear hK31 K'
         refine wp_ret ?_
         (repeat first | refine FW.then_ret ?_ | refine FW.block_ret ?_)
         obtain rfl := Option.some.inj h
         exact FW.fret1 hk rfl rfl
        ·skip
         refine FW.wreg ?_; intro K' hK32
         refine FW.lfun (y := .lit (.bool (decide (v0.Kind = 8)))) hk rfl rfl rfl rfl ((FW.f_pure (FW.p_eql hk.kn FW.h0 rfl rfl))) ?_; clear hk; intro a w hk
         refine FW.lfun (y := .lit (.bool (decide (v0.Kind = 8)))) hk rfl rfl rfl rfl (FW.f_assign hk FW.h0 rfl) ?_; clear hk; intro a w hk
         refine FW.lend (hK32 _ _ ?_); clear hK32 K'
         refine FW.wcondF (b := (decide (v0.Kind = 8))) hk h rfl (fun h hb => ?_) (fun h hb => ?_)
         ·skip
          refine FW.wreg ?_; intro K' hK33
          refine FW.lfun (y := .lit (.pointer (some ⟨bx1, 2, none⟩))) hk rfl rfl rfl rfl (FW.f_fieldPtr hk FW.h0 rfl Try.underlying33 rfl (by kernel_rfl) rfl) ?_; clear hk; intro a w hk
          refine FW.lfun (y := .lit (.int .i64 v0.N)) hk rfl rfl rfl rfl (FW.f_loadBlk1 hk FW.h0 (j := 0) rfl rfl Try.underlying2 rfl rfl) ?_; clear hk; intro a w hk
          obtain ⟨t9, hr_t9, h⟩ := FW.bnd h
          refine FW.lfun (y := .lit (.string (FW.B t9))) hk rfl rfl rfl rfl (FW.f_call hk FW.h0 rfl rfl Try.func40 rfl (by kernel_rfl) (offshootref13_Number.ok K v0.N _ hr_t9)) ?_; clear hk; intro a w hk
          obtain ⟨hc11, h⟩ := FW.chk h
          refine FW.lfun (y := .lit (.string (FW.B (([101, 40] : List UInt8) ++ t9)))) hk rfl rfl rfl rfl ((FW.f_pure (FW.p_sadd hk.kn FW.h0 rfl rfl hc11))) ?_; clear hk; intro a w hk
          obtain ⟨hc12, h⟩ := FW.chk h
          refine FW.lfun (y := .lit (.string (FW.B ((([101, 40] : List UInt8) ++ t9) ++ ([41] : List UInt8))))) hk rfl rfl rfl rfl ((FW.f_pure (FW.p_sadd hk.kn FW.h0 rfl rfl hc12))) ?_; clear hk; intro a w hk
          refine FW.lfun (y := .lit (.string (FW.B ((([101, 40] : List UInt8) ++ t9) ++ ([41] : List UInt8))))) hk rfl rfl rfl rfl (FW.f_assign hk FW.h0 rfl) ?_; clear hk; intro a w hk
          refine FW.lend (hK33 _ _ ?_); clear hK33 K'
          refine wp_ret ?_
          (repeat first | refine FW.then_ret ?_ | refine FW.block_ret ?_)
          obtain rfl := Option.some.inj h
          exact FW.fret1 hk rfl rfl
         ·skip
          refine wp_skip ?_
          (repeat first | refine FW.then_normal ?_ | refine FW.block_normal ?_); refine hK2 _ _ ?_
          refine FW.wreg ?_; intro K' hK34
          refine FW.lfun (y := .lit (.string (FW.B ([63] : List UInt8)))) hk rfl rfl rfl rfl (FW.f_assign hk FW.h0 rfl) ?_; clear hk; intro a w hk
          refine FW.lend (hK34 _ _ ?_); clear hK34 K'
          refine wp_ret ?_
          (repeat first | refine FW.then_ret ?_ | refine FW.block_ret ?_)
          obtain rfl := Option.some.inj h
          exact FW.fret1 hk rfl rfl
theorem offshootref13_Values.bok (s_offshootref13_Value : ApiValue → Option (List UInt8)) (s_offshootref13_Values : List ApiValue → Option (List UInt8)) (hs_offshootref13_Value : ∀ (v0 : ApiValue) (r : List UInt8), s_offshootref13_Value v0 = some r → FW.Ok Try.prog 16 [.agg (ApiValue.cells v0)] (.lit (.string (FW.B r)))) (hs_offshootref13_Values : ∀ (v0 : List ApiValue) (r : List UInt8), s_offshootref13_Values v0 = some r → FW.Ok Try.prog 31 [.row (r_ApiValue_cells v0)] (.lit (.string (FW.B r)))) (K : Nat) (v0 : List ApiValue) (r : List UInt8) (h : offshootref13_Values.b s_offshootref13_Value s_offshootref13_Values K v0 = some r) :
  FW.Ok Try.prog 31 [.row (r_ApiValue_cells v0)] (.lit (.string (FW.B r))) := by
 refine FW.enter (xs := [.row (r_ApiValue_cells v0)]) Try.func31 rfl Try.ntmps31 rfl ?_
 intro M w0 a hk
 unfold offshootref13_Values.b at h
 refine FW.wreg ?_; intro K' hK1
 refine FW.lfun (y := .lit (.string (FW.B ([] : List UInt8)))) hk rfl rfl rfl rfl (FW.f_assign hk FW.h0 rfl) ?_; clear hk; intro a w hk
 refine FW.lend (hK1 _ _ ?_); clear hK1 K'
 refine FW.wreg ?_; intro K' hK2
 refine FW.lfun (y := .lit (.string (FW.B ([] : List UInt8)))) hk rfl rfl rfl rfl (FW.f_assign hk FW.h0 rfl) ?_; clear hk; intro a w hk
 refine FW.lend (hK2 _ _ ?_); clear hK2 K'
 refine FW.wseq ?_; intro K' hK3
 refine FW.wreg ?_; intro K' hK4
 refine FW.lfun (y := .lit (.int .i64 0)) hk rfl rfl rfl rfl (FW.f_assign hk FW.h0 rfl) ?_; clear hk; intro a w hk
 refine FW.lend (hK4 _ _ ?_); clear hK4 K'
 refine wp_block ?_
 refine FW.wloop (T := Nat × List ApiValue × List UInt8 × Int) (fun x a w => match x with | (kl1, v0, v3, v4) => FW.S M w0 a w 23 [] [(0, [], .row (r_ApiValue_cells v0)), (3, [], .lit (.string (FW.B v3))), (4, [], .lit (.int .i64 v4))] ∧ offshootref13_Values.l1 s_offshootref13_Value s_offshootref13_Values K kl1 v0 v3 v4 = some r) (fun x => x.1) (K, v0, ([] : List UInt8), 0) ⟨hk.sub ⟨rfl, rfl, rfl, trivial⟩, h⟩ ?_
 clear hk h
 rintro ⟨kl1, v0, v3, v4⟩ a w ⟨hk, h⟩ K' hK5
 cases kl1 with
 | zero => simp [offshootref13_Values.l1] at h
 | succ kl1 =>
 rw [offshootref13_Values.l1.eq_2] at h
 refine FW.wseq ?_; intro K' hK6
 refine FW.wreg ?_; intro K' hK7
 refine FW.lfun (y := .lit (.int .i64 v4)) hk rfl rfl rfl rfl (FW.f_move hk FW.h0 rfl) ?_; clear hk; intro a w hk
 refine FW.lfun (y := .row (r_ApiValue_cells v0)) hk rfl rfl rfl rfl (FW.f_move hk FW.h0 rfl) ?_; clear hk; intro a w hk
 refine FW.lfun (y := .lit (.int .i64 (List.length v0 : Int))) hk rfl rfl rfl rfl (FW.f_len (R := r_ApiValue_cells) (f := ApiValue.cells) (l := v0) r_ApiValue_cells_eq Try.underlying31 hk FW.h0 rfl) ?_; clear hk; intro a w hk
 refine FW.lfun (y := .lit (.bool (decide (v4 < (List.length v0 : Int))))) hk rfl rfl rfl rfl ((FW.f_pure (FW.p_lss hk.kn FW.h0 rfl rfl))) ?_; clear hk; intro a w hk
 refine FW.lend (hK7 _ _ ?_); clear hK7 K'
 refine FW.wcondF (b := (decide (v4 < (List.length v0 : Int)))) hk h rfl (fun h hb => ?_) (fun h hb => ?_)
 ·skip
  refine wp_skip ?_
  (repeat first | refine FW.then_normal ?_ | refine FW.block_normal ?_); refine hK6 _ _ ?_
  refine FW.wseq ?_; intro K' hK8
  refine wp_block ?_
  refine FW.wseqJ (fun a w => ∃ (v0 : List ApiValue) (v3 : List UInt8) (v4 : Int), FW.S M w0 a w 23 [] [(0, [], .row (r_ApiValue_cells v0)), (3, [], .lit (.string (FW.B v3))), (4, [], .lit (.int .i64 v4))] ∧ offshootref13_Values.j1 s_offshootref13_Value s_offshootref13_Values (offshootref13_Values.l1 s_offshootref13_Value s_offshootref13_Values K kl1) K v0 v3 v4 = some r) ?_ ?_
  ·clear hk h
   rintro a w ⟨v0, v3, v4, hk, h⟩
   unfold offshootref13_Values.j1 at h
   refine FW.wreg1 ?_
   refine FW.lfun (y := .lit (.string (FW.B v3))) hk rfl rfl rfl rfl (FW.f_move hk FW.h0 rfl) ?_; clear hk; intro a w hk
   refine FW.lfun (y := .row (r_ApiValue_cells v0)) hk rfl rfl rfl rfl (FW.f_move hk FW.h0 rfl) ?_; clear hk; intro a w hk
   refine FW.lfun (y := .lit (.int .i64 v4)) hk rfl rfl rfl rfl (FW.f_move hk FW.h0 rfl) ?_; clear hk; intro a w hk
   obtain ⟨hc1, h⟩ := FW.chk h
   refine FW.lfun (y := .ref (ApiValue.cells (List.getD v0 (Int.toNat v4) default))) hk rfl rfl rfl rfl (FW.f_indexAddr (R := r_ApiValue_cells) (f := ApiValue.cells) (l := v0) (sz := 6) r_ApiValue_cells_eq (fun _ => rfl) hk FW.h0 rfl rfl Try.underlying31 (by kernel_rfl) hc1) ?_; clear hk; intro a w hk
   refine FW.lfun (y := .agg ((ApiValue.cells (List.getD v0 (Int.toNat v4) default)))) hk rfl rfl rfl rfl (FW.f_load hk FW.h0 rfl Try.underlying33 rfl rfl rfl rfl) ?_; clear hk; intro a w hk
   obtain ⟨t1, hr_t1, h⟩ := FW.bnd h
   refine FW.lfun (y := .lit (.string (FW.B t1))) hk rfl rfl rfl rfl (FW.f_call hk FW.h0 rfl rfl Try.func16 rfl (by kernel_rfl) (hs_offshootref13_Value (List.getD v0 (Int.toNat v4) default) _ hr_t1)) ?_; clear hk; intro a w hk
   obtain ⟨hc2, h⟩ := FW.chk h
   refine FW.lfun (y := .lit (.string (FW.B (v3 ++ t1)))) hk rfl rfl rfl rfl ((FW.f_pure (FW.p_sadd hk.kn FW.h0 rfl rfl hc2))) ?_; clear hk; intro a w hk
   refine FW.lfun (y := .lit (.string (FW.B (v3 ++ t1)))) hk rfl rfl rfl rfl (FW.f_assign hk FW.h0 rfl) ?_; clear hk; intro a w hk
   refine wpList_nil ?_
   (repeat first | refine FW.then_normal ?_ | refine FW.block_normal ?_); refine hK8 _ _ ?_
   refine FW.wreg1 ?_
   refine FW.lfun (y := .lit (.int .i64 v4)) hk rfl rfl rfl rfl (FW.f_move hk FW.h0 rfl) ?_; clear hk; intro a w hk
   refine FW.lfun (y := .lit (.int .i64 (IntKind.wrap .i64 (v4 + 1)))) hk rfl rfl rfl rfl ((FW.f_pure (FW.p_add hk.kn FW.h0 rfl rfl))) ?_; clear hk; intro a w hk
   refine FW.lfun (y := .lit (.int .i64 (IntKind.wrap .i64 (v4 + 1)))) hk rfl rfl rfl rfl (FW.f_assign hk FW.h0 rfl) ?_; clear hk; intro a w hk
   refine wpList_nil ?_
   (repeat first | refine FW.then_normal ?_ | refine FW.block_normal ?_); exact hK5 (kl1, v0, (v3 ++ t1), (IntKind.wrap .i64 (v4 + 1))) _ _ (Nat.lt_succ_self _) ⟨hk.sub ⟨rfl, rfl, rfl, trivial⟩, h⟩
  ·intro K' hK9
   refine FW.wreg ?_; intro K' hK12
   refine FW.lfun (y := .lit (.int .i64 v4)) hk rfl rfl rfl rfl (FW.f_move hk FW.h0 rfl) ?_; clear hk; intro a w hk
   refine FW.lfun (y := .lit (.bool (decide (0 < v4)))) hk rfl rfl rfl rfl ((FW.f_pure (FW.p_gtr hk.kn FW.h0 rfl rfl))) ?_; clear hk; intro a w hk
   refine FW.lend (hK12 _ _ ?_); clear hK12 K'
   refine FW.wcondF (b := (decide (0 < v4))) hk h rfl (fun h hb => ?_) (fun h hb => ?_)
   ·skip
    refine FW.wreg1 ?_
    refine FW.lfun (y := .lit (.string (FW.B v3))) hk rfl rfl rfl rfl (FW.f_move hk FW.h0 rfl) ?_; clear hk; intro a w hk
    obtain ⟨hc3, h⟩ := FW.chk h
    refine FW.lfun (y := .lit (.string (FW.B (v3 ++ ([44, 32] : List UInt8))))) hk rfl rfl rfl rfl ((FW.f_pure (FW.p_sadd hk.kn FW.h0 rfl rfl hc3))) ?_; clear hk; intro a w hk
    refine FW.lfun (y := .lit (.string (FW.B (v3 ++ ([44, 32] : List UInt8))))) hk rfl rfl rfl rfl (FW.f_assign hk FW.h0 rfl) ?_; clear hk; intro a w hk
    refine wpList_nil ?_
    (repeat first | refine FW.then_normal ?_ | refine FW.block_normal ?_); exact hK9 _ _ ⟨v0, (v3 ++ ([44, 32] : List UInt8)), v4, hk.sub ⟨rfl, rfl, rfl, trivial⟩, h⟩
   ·skip
    refine wp_skip ?_
    (repeat first | refine FW.then_normal ?_ | refine FW.block_normal ?_); exact hK9 _ _ ⟨v0, v3, v4, hk.sub ⟨rfl, rfl, rfl, trivial⟩, h⟩
 ·skip
  refine wp_exit ?_; (repeat first | refine FW.then_exit ?_ | refine FW.block_exit_ne rfl ?_); refine FW.block_exit ?_
  (repeat first | refine FW.then_normal ?_ | refine FW.block_normal ?_); refine hK3 _ _ ?_
  refine FW.wreg ?_; intro K' hK14
  refine FW.lfun (y := .lit (.string (FW.B v3))) hk rfl rfl rfl rfl (FW.f_move hk FW.h0 rfl) ?_; clear hk; intro a w hk
  refine FW.lfun (y := .lit (.string (FW.B v3))) hk rfl rfl rfl rfl (FW.f_assign hk FW.h0 rfl) ?_; clear hk; intro a w hk
  refine FW.lend (hK14 _ _ ?_); clear hK14 K'
  refine wp_ret ?_
  (repeat first | refine FW.then_ret ?_ | refine FW.block_ret ?_)
  obtain rfl := Option.some.inj h
  exact FW.fret1 hk rfl rfl
theorem offshootref13_Value_knot : ∀ K : Nat, (∀ (v0 : ApiValue) (r : List UInt8), offshootref13_Value.f K v0 = some r → FW.Ok Try.prog 16 [.agg (ApiValue.cells v0)] (.lit (.string (FW.B r)))) ∧ (∀ (v0 : List ApiValue) (r : List UInt8), offshootref13_Values.f K v0 = some r → FW.Ok Try.prog 31 [.row (r_ApiValue_cells v0)] (.lit (.string (FW.B r))))
 | 0 => ⟨fun v0 r h => by simp [offshootref13_Value.f] at h, fun v0 r h => by simp [offshootref13_Values.f] at h⟩
 | K + 1 => ⟨fun v0 r h => by rw [offshootref13_Value.f] at h; exact offshootref13_Value.bok _ _ (offshootref13_Value_knot K).1 (offshootref13_Value_knot K).2 K v0 r h, fun v0 r h => by rw [offshootref13_Values.f] at h; exact offshootref13_Values.bok _ _ (offshootref13_Value_knot K).1 (offshootref13_Value_knot K).2 K v0 r h⟩
theorem offshootref13_Value.ok (K : Nat) (v0 : ApiValue) (r : List UInt8) (h : offshootref13_Value.f K v0 = some r) : FW.Ok Try.prog 16 [.agg (ApiValue.cells v0)] (.lit (.string (FW.B r))) := (offshootref13_Value_knot K).1 v0 r h
theorem offshootref13_Values.ok (K : Nat) (v0 : List ApiValue) (r : List UInt8) (h : offshootref13_Values.f K v0 = some r) : FW.Ok Try.prog 31 [.row (r_ApiValue_cells v0)] (.lit (.string (FW.B r))) := (offshootref13_Value_knot K).2 v0 r h
end Go.Proofs.Ytbjbgodcenopnaa

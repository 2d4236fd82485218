/- Written by a program of this session (gen.py): the contracts of functions of the program. -/
import Derived.KernelRfl
import Derived.Test.YtbjbgodcenopnaaProg
import Derived.Test.YtbjbgodcenopnaaAvFun
import Derived.Test.YtbjbgodcenopnaaAvMan
import Derived.Test.YtbjbgodcenopnaaAvMore
import Derived.Test.YtbjbgodcenopnaaAvDraw2
import Derived.Test.YtbjbgodcenopnaaAvRow
import Derived.Test.YtbjbgodcenopnaaAvBld
import Derived.Test.YtbjbgodcenopnaaHcl
import Derived.Test.YtbjbgodcenopnaaAvFl
import Derived.Test.YtbjbgodcenopnaaSvD
import Derived.Test.YtbjbgodcenopnaaSvP4
namespace Go.Proofs.Ytbjbgodcenopnaa
set_option linter.unusedVariables false
set_option maxRecDepth 20000
set_option maxHeartbeats 10000000
theorem offshootref11_Int.ok (K : Nat) (v0 : List UInt8) (r : Int × Bool) (h : offshootref11_Int.f K v0 = some r) :
  FW.Ok Try.prog 74 [.lit (.string (FW.B v0))] (.tup [.lit (.int .i64 r.1), .lit (.bool r.2)]) := by
 refine FW.enter (xs := [.lit (.string (FW.B v0))]) Try.func74 rfl Try.ntmps74 rfl ?_
 intro M w0 a hk
 unfold offshootref11_Int.f at h
 refine FW.wreg ?_; intro K' hK1
 refine FW.lfun (y := .lit (.int .i64 0)) hk rfl rfl rfl rfl (FW.f_assign hk FW.h0 rfl) ?_; clear hk; intro a w hk
 refine FW.lfun (y := .lit (.bool false)) hk rfl rfl rfl rfl (FW.f_assign hk FW.h0 rfl) ?_; clear hk; intro a w hk
 refine FW.lend (hK1 _ _ ?_); clear hK1 K'
 refine FW.wreg ?_; intro K' hK2
 refine FW.lfun (y := .lit (.string (FW.B v0))) hk rfl rfl rfl rfl (FW.f_move hk FW.h0 rfl) ?_; clear hk; intro a w hk
 refine FW.lfun (y := .lit (.bool (!decide (v0 = ([] : List UInt8))))) hk rfl rfl rfl rfl ((FW.f_pure (FW.p_sneq hk.kn FW.h0 rfl rfl))) ?_; clear hk; intro a w hk
 refine FW.lfun (y := .lit (.bool (!decide (v0 = ([] : List UInt8))))) hk rfl rfl rfl rfl (FW.f_move hk FW.h0 rfl) ?_; clear hk; intro a w hk
 refine FW.lfunG (y := .lit (.string (FW.B v0))) hk rfl rfl rfl rfl rfl rfl rfl rfl (fun hc => FW.f_move hk hc rfl) ?_; clear hk; intro a w hk
 obtain ⟨hc1, h⟩ := FW.chk h
 refine FW.lfunG (y := .lit (.int .u8 (FW.bt v0 0))) hk rfl rfl rfl rfl rfl rfl rfl rfl (fun hc => (FW.f_pure (FW.p_index Try.underlying9 hk.kn hc rfl rfl hc1))) ?_; clear hk; intro a w hk
 refine FW.lfunG (y := .lit (.bool (decide ((FW.bt v0 0) = 45)))) hk rfl rfl rfl rfl rfl rfl rfl rfl (fun hc => (FW.f_pure (FW.p_eql hk.kn hc rfl rfl))) ?_; clear hk; intro a w hk
 refine FW.lfun (y := .lit (.bool ((!decide (v0 = ([] : List UInt8))) && (decide ((FW.bt v0 0) = 45))))) hk rfl rfl rfl rfl ((FW.f_pure (FW.p_pick_and hk.kn FW.h0 rfl rfl))) ?_; clear hk; intro a w hk
 refine FW.lfun (y := .lit (.bool ((!decide (v0 = ([] : List UInt8))) && (decide ((FW.bt v0 0) = 45))))) hk rfl rfl rfl rfl (FW.f_assign hk FW.h0 rfl) ?_; clear hk; intro a w hk
 refine FW.lend (hK2 _ _ ?_); clear hK2 K'
 refine FW.wreg ?_; intro K' hK3
 refine FW.lfun (y := .lit (.string (FW.B v0))) hk rfl rfl rfl rfl (FW.f_move hk FW.h0 rfl) ?_; clear hk; intro a w hk
 refine FW.lfun (y := .lit (.string (FW.B v0))) hk rfl rfl rfl rfl (FW.f_assign hk FW.h0 rfl) ?_; clear hk; intro a w hk
 refine FW.lend (hK3 _ _ ?_); clear hK3 K'
 refine FW.wseqJ (fun a w => ∃ (v4 : Bool) (v5 : List UInt8), FW.S M w0 a w 79 [] [(4, [], .lit (.bool v4)), (5, [], .lit (.string (FW.B v5)))] ∧ offshootref11_Int.j1 K v4 v5 = some r) ?_ ?_
 ·clear hk h
  rintro a w ⟨v4, v5, hk, h⟩
  unfold offshootref11_Int.j1 at h
  refine FW.wseq ?_; intro K' hK5
  refine FW.wreg ?_; intro K' hK6
  refine FW.lfun (y := .lit (.string (FW.B v5))) hk rfl rfl rfl rfl (FW.f_move hk FW.h0 rfl) ?_; clear hk; intro a w hk
  refine FW.lfun (y := .lit (.bool (decide (v5 = ([] : List UInt8))))) hk rfl rfl rfl rfl ((FW.f_pure (FW.p_seql hk.kn FW.h0 rfl rfl))) ?_; clear hk; intro a w hk
  refine FW.lfun (y := .lit (.bool (decide (v5 = ([] : List UInt8))))) hk rfl rfl rfl rfl (FW.f_move hk FW.h0 rfl) ?_; clear hk; intro a w hk
  refine FW.lfunG (y := .lit (.string (FW.B v5))) hk rfl rfl rfl rfl rfl rfl rfl rfl (fun hc => FW.f_move hk hc rfl) ?_; clear hk; intro a w hk
  refine FW.lfunG (y := .lit (.int .i64 (List.length v5 : Int))) hk rfl rfl rfl rfl rfl rfl rfl rfl (fun hc => (FW.f_pure (FW.p_slen Try.underlying9 hk.kn hc rfl))) ?_; clear hk; intro a w hk
  refine FW.lfunG (y := .lit (.bool (decide (19 < (List.length v5 : Int))))) hk rfl rfl rfl rfl rfl rfl rfl rfl (fun hc => (FW.f_pure (FW.p_gtr hk.kn hc rfl rfl))) ?_; clear hk; intro a w hk
  refine FW.lfun (y := .lit (.bool ((decide (v5 = ([] : List UInt8))) || (decide (19 < (List.length v5 : Int)))))) hk rfl rfl rfl rfl ((FW.f_pure (FW.p_pick_or hk.kn FW.h0 rfl rfl))) ?_; clear hk; intro a w hk
  refine FW.lfun (y := .lit (.bool ((decide (v5 = ([] : List UInt8))) || (decide (19 < (List.length v5 : Int)))))) hk rfl rfl rfl rfl (FW.f_move hk FW.h0 rfl) ?_; clear hk; intro a w hk
  refine FW.lfunG (y := .lit (.string (FW.B v5))) hk rfl rfl rfl rfl rfl rfl rfl rfl (fun hc => FW.f_move hk hc rfl) ?_; clear hk; intro a w hk
  obtain ⟨hc2, h⟩ := FW.chk h
  refine FW.lfunG (y := .lit (.int .u8 (FW.bt v5 0))) hk rfl rfl rfl rfl rfl rfl rfl rfl (fun hc => (FW.f_pure (FW.p_index Try.underlying9 hk.kn hc rfl rfl hc2))) ?_; clear hk; intro a w hk
  refine FW.lfunG (y := .lit (.bool (decide ((FW.bt v5 0) = 48)))) hk rfl rfl rfl rfl rfl rfl rfl rfl (fun hc => (FW.f_pure (FW.p_eql hk.kn hc rfl rfl))) ?_; clear hk; intro a w hk
  refine FW.lfunG (y := .lit (.bool (decide ((FW.bt v5 0) = 48)))) hk rfl rfl rfl rfl rfl rfl rfl rfl (fun hc => FW.f_move hk hc rfl) ?_; clear hk; intro a w hk
  refine FW.lfunG (y := .lit (.string (FW.B v5))) hk rfl rfl rfl rfl rfl rfl rfl rfl (fun hc => FW.f_move hk hc rfl) ?_; clear hk; intro a w hk
  refine FW.lfunG (y := .lit (.int .i64 (List.length v5 : Int))) hk rfl rfl rfl rfl rfl rfl rfl rfl (fun hc => (FW.f_pure (FW.p_slen Try.underlying9 hk.kn hc rfl))) ?_; clear hk; intro a w hk
  refine FW.lfunG (y := .lit (.bool (decide (1 < (List.length v5 : Int))))) hk rfl rfl rfl rfl rfl rfl rfl rfl (fun hc => (FW.f_pure (FW.p_gtr hk.kn hc rfl rfl))) ?_; clear hk; intro a w hk
  refine FW.lfunG (y := .lit (.bool (decide (1 < (List.length v5 : Int))))) hk rfl rfl rfl rfl rfl rfl rfl rfl (fun hc => FW.f_move hk hc rfl) ?_; clear hk; intro a w hk
  refine FW.lfunG (y := .lit (.bool v4)) hk rfl rfl rfl rfl rfl rfl rfl rfl (fun hc => FW.f_move hk hc rfl) ?_; clear hk; intro a w hk
  refine FW.lfunG (y := .lit (.bool ((decide (1 < (List.length v5 : Int))) || v4))) hk rfl rfl rfl rfl rfl rfl rfl rfl (fun hc => (FW.f_pure (FW.p_pick_or hk.kn hc rfl rfl))) ?_; clear hk; intro a w hk
  refine FW.lfunG (y := .lit (.bool ((decide ((FW.bt v5 0) = 48)) && ((decide (1 < (List.length v5 : Int))) || v4)))) hk rfl rfl rfl rfl rfl rfl rfl rfl (fun hc => (FW.f_pure (FW.p_pick_and hk.kn hc rfl rfl))) ?_; clear hk; intro a w hk
  refine FW.lfun (y := .lit (.bool (((decide (v5 = ([] : List UInt8))) || (decide (19 < (List.length v5 : Int)))) || ((decide ((FW.bt v5 0) = 48)) && ((decide (1 < (List.length v5 : Int))) || v4))))) hk rfl rfl rfl rfl ((FW.f_pure (FW.p_pick_or hk.kn FW.h0 rfl rfl))) ?_; clear hk; intro a w hk
  refine FW.lend (hK6 _ _ ?_); clear hK6 K'
  refine FW.wcondF (b := (((decide (v5 = ([] : List UInt8))) || (decide (19 < (List.length v5 : Int)))) || ((decide ((FW.bt v5 0) = 48)) && ((decide (1 < (List.length v5 : Int))) || v4)))) hk h rfl (fun h hb => ?_) (fun h hb => ?_)
  ·skip
   refine FW.wreg ?_; intro K' hK7
   refine FW.lfun (y := .lit (.int .i64 0)) hk rfl rfl rfl rfl (FW.f_assign hk FW.h0 rfl) ?_; clear hk; intro a w hk
   refine FW.lfun (y := .lit (.bool false)) hk rfl rfl rfl rfl (FW.f_assign hk FW.h0 rfl) ?_; clear hk; intro a w hk
   refine FW.lend (hK7 _ _ ?_); clear hK7 K'
   refine wp_ret ?_
   (repeat first | refine FW.then_ret ?_ | refine FW.block_ret ?_)
   obtain rfl := Option.some.inj h
   exact FW.fret2 hk rfl rfl rfl
  ·skip
   refine wp_skip ?_
   (repeat first | refine FW.then_normal ?_ | refine FW.block_normal ?_); refine hK5 _ _ ?_
   refine FW.wreg ?_; intro K' hK8
   refine FW.lfun (y := .lit (.int .u64 0)) hk rfl rfl rfl rfl (FW.f_assign hk FW.h0 rfl) ?_; clear hk; intro a w hk
   refine FW.lend (hK8 _ _ ?_); clear hK8 K'
   refine FW.wseq ?_; intro K' hK9
   refine FW.wreg ?_; intro K' hK10
   refine FW.lfun (y := .lit (.int .i64 0)) hk rfl rfl rfl rfl (FW.f_assign hk FW.h0 rfl) ?_; clear hk; intro a w hk
   refine FW.lend (hK10 _ _ ?_); clear hK10 K'
   refine wp_block ?_
   refine FW.wloop (T := Nat × Bool × List UInt8 × Int × Int) (fun x a w => match x with | (kl1, v4, v5, v6, v7) => FW.S M w0 a w 79 [] [(4, [], .lit (.bool v4)), (5, [], .lit (.string (FW.B v5))), (6, [], .lit (.int .u64 v6)), (7, [], .lit (.int .i64 v7))] ∧ offshootref11_Int.l1 K kl1 v4 v5 v6 v7 = some r) (fun x => x.1) (K, v4, v5, 0, 0) ⟨hk.sub ⟨rfl, rfl, rfl, rfl, trivial⟩, h⟩ ?_
   clear hk h
   rintro ⟨kl1, v4, v5, v6, v7⟩ a w ⟨hk, h⟩ K' hK11
   cases kl1 with
   | zero => simp [offshootref11_Int.l1] at h
   | succ kl1 =>
   rw [offshootref11_Int.l1.eq_2] at h
   refine FW.wseq ?_; intro K' hK12
   refine FW.wreg ?_; intro K' hK13
   refine FW.lfun (y := .lit (.int .i64 v7)) hk rfl rfl rfl rfl (FW.f_move hk FW.h0 rfl) ?_; clear hk; intro a w hk
   refine FW.lfun (y := .lit (.string (FW.B v5))) hk rfl rfl rfl rfl (FW.f_move hk FW.h0 rfl) ?_; clear hk; intro a w hk
   refine FW.lfun (y := .lit (.int .i64 (List.length v5 : Int))) hk rfl rfl rfl rfl ((FW.f_pure (FW.p_slen Try.underlying9 hk.kn FW.h0 rfl))) ?_; clear hk; intro a w hk
   refine FW.lfun (y := .lit (.bool (decide (v7 < (List.length v5 : Int))))) hk rfl rfl rfl rfl ((FW.f_pure (FW.p_lss hk.kn FW.h0 rfl rfl))) ?_; clear hk; intro a w hk
   refine FW.lend (hK13 _ _ ?_); clear hK13 K'
   refine FW.wcondF (b := (decide (v7 < (List.length v5 : Int)))) hk h rfl (fun h hb => ?_) (fun h hb => ?_)
   ·skip
    refine wp_skip ?_
    (repeat first | refine FW.then_normal ?_ | refine FW.block_normal ?_); refine hK12 _ _ ?_
    refine FW.wseq ?_; intro K' hK14
    refine wp_block ?_
    refine FW.wseq ?_; intro K' hK15
    refine FW.wreg ?_; intro K' hK16
    refine FW.lfun (y := .lit (.string (FW.B v5))) hk rfl rfl rfl rfl (FW.f_move hk FW.h0 rfl) ?_; clear hk; intro a w hk
    refine FW.lfun (y := .lit (.int .i64 v7)) hk rfl rfl rfl rfl (FW.f_move hk FW.h0 rfl) ?_; clear hk; intro a w hk
    obtain ⟨hc3, h⟩ := FW.chk h
    refine FW.lfun (y := .lit (.int .u8 (FW.bt v5 v7))) hk rfl rfl rfl rfl ((FW.f_pure (FW.p_index Try.underlying9 hk.kn FW.h0 rfl rfl hc3))) ?_; clear hk; intro a w hk
    refine FW.lfun (y := .lit (.bool (decide ((FW.bt v5 v7) < 48)))) hk rfl rfl rfl rfl ((FW.f_pure (FW.p_lss hk.kn FW.h0 rfl rfl))) ?_; clear hk; intro a w hk
    refine FW.lfun (y := .lit (.bool (decide ((FW.bt v5 v7) < 48)))) hk rfl rfl rfl rfl (FW.f_move hk FW.h0 rfl) ?_; clear hk; intro a w hk
    refine FW.lfunG (y := .lit (.string (FW.B v5))) hk rfl rfl rfl rfl rfl rfl rfl rfl (fun hc => FW.f_move hk hc rfl) ?_; clear hk; intro a w hk
    refine FW.lfunG (y := .lit (.int .i64 v7)) hk rfl rfl rfl rfl rfl rfl rfl rfl (fun hc => FW.f_move hk hc rfl) ?_; clear hk; intro a w hk
    obtain ⟨hc4, h⟩ := FW.chk h
    refine FW.lfunG (y := .lit (.int .u8 (FW.bt v5 v7))) hk rfl rfl rfl rfl rfl rfl rfl rfl (fun hc => (FW.f_pure (FW.p_index Try.underlying9 hk.kn hc rfl rfl hc4))) ?_; clear hk; intro a w hk
    refine FW.lfunG (y := .lit (.bool (decide (57 < (FW.bt v5 v7))))) hk rfl rfl rfl rfl rfl rfl rfl rfl (fun hc => (FW.f_pure (FW.p_gtr hk.kn hc rfl rfl))) ?_; clear hk; intro a w hk
    refine FW.lfun (y := .lit (.bool ((decide ((FW.bt v5 v7) < 48)) || (decide (57 < (FW.bt v5 v7)))))) hk rfl rfl rfl rfl ((FW.f_pure (FW.p_pick_or hk.kn FW.h0 rfl rfl))) ?_; clear hk; intro a w hk
    refine FW.lend (hK16 _ _ ?_); clear hK16 K'
    refine FW.wcondF (b := ((decide ((FW.bt v5 v7) < 48)) || (decide (57 < (FW.bt v5 v7))))) hk h rfl (fun h hb => ?_) (fun h hb => ?_)
    ·skip
     refine FW.wreg ?_; intro K' hK17
     refine FW.lfun (y := .lit (.int .i64 0)) hk rfl rfl rfl rfl (FW.f_assign hk FW.h0 rfl) ?_; clear hk; intro a w hk
     refine FW.lfun (y := .lit (.bool false)) hk rfl rfl rfl rfl (FW.f_assign hk FW.h0 rfl) ?_; clear hk; intro a w hk
     refine FW.lend (hK17 _ _ ?_); clear hK17 K'
     refine wp_ret ?_
     (repeat first | refine FW.then_ret ?_ | refine FW.block_ret ?_)
     obtain rfl := Option.some.inj h
     exact FW.fret2 hk rfl rfl rfl
    ·skip
     refine wp_skip ?_
     (repeat first | refine FW.then_normal ?_ | refine FW.block_normal ?_); refine hK15 _ _ ?_
     refine FW.wreg1 ?_
     refine FW.lfun (y := .lit (.int .u64 v6)) hk rfl rfl rfl rfl (FW.f_move hk FW.h0 rfl) ?_; clear hk; intro a w hk
     refine FW.lfun (y := .lit (.int .u64 (IntKind.wrap .u64 (v6 * 10)))) hk rfl rfl rfl rfl ((FW.f_pure (FW.p_mul hk.kn FW.h0 rfl rfl))) ?_; clear hk; intro a w hk
     refine FW.lfun (y := .lit (.string (FW.B v5))) hk rfl rfl rfl rfl (FW.f_move hk FW.h0 rfl) ?_; clear hk; intro a w hk
     refine FW.lfun (y := .lit (.int .i64 v7)) hk rfl rfl rfl rfl (FW.f_move hk FW.h0 rfl) ?_; clear hk; intro a w hk
     obtain ⟨hc5, h⟩ := FW.chk h
     refine FW.lfun (y := .lit (.int .u8 (FW.bt v5 v7))) hk rfl rfl rfl rfl ((FW.f_pure (FW.p_index Try.underlying9 hk.kn FW.h0 rfl rfl hc5))) ?_; clear hk; intro a w hk
     refine FW.lfun (y := .lit (.int .u64 (IntKind.wrap .u64 (FW.bt v5 v7)))) hk rfl rfl rfl rfl ((FW.f_pure (FW.p_conv Try.underlying5 Try.underlying77 hk.kn FW.h0 rfl))) ?_; clear hk; intro a w hk
     refine FW.lfun (y := .lit (.int .u64 (IntKind.wrap .u64 ((IntKind.wrap .u64 (v6 * 10)) + (IntKind.wrap .u64 (FW.bt v5 v7)))))) hk rfl rfl rfl rfl ((FW.f_pure (FW.p_add hk.kn FW.h0 rfl rfl))) ?_; clear hk; intro a w hk
     refine FW.lfun (y := .lit (.int .u64 (IntKind.wrap .u64 ((IntKind.wrap .u64 ((IntKind.wrap .u64 (v6 * 10)) + (IntKind.wrap .u64 (FW.bt v5 v7)))) - 48)))) hk rfl rfl rfl rfl ((FW.f_pure (FW.p_sub hk.kn FW.h0 rfl rfl))) ?_; clear hk; intro a w hk
     refine FW.lfun (y := .lit (.int .u64 (IntKind.wrap .u64 ((IntKind.wrap .u64 ((IntKind.wrap .u64 (v6 * 10)) + (IntKind.wrap .u64 (FW.bt v5 v7)))) - 48)))) hk rfl rfl rfl rfl (FW.f_assign hk FW.h0 rfl) ?_; clear hk; intro a w hk
     refine wpList_nil ?_
     (repeat first | refine FW.then_normal ?_ | refine FW.block_normal ?_); refine hK14 _ _ ?_
     refine FW.wreg1 ?_
     refine FW.lfun (y := .lit (.int .i64 v7)) hk rfl rfl rfl rfl (FW.f_move hk FW.h0 rfl) ?_; clear hk; intro a w hk
     refine FW.lfun (y := .lit (.int .i64 (IntKind.wrap .i64 (v7 + 1)))) hk rfl rfl rfl rfl ((FW.f_pure (FW.p_add hk.kn FW.h0 rfl rfl))) ?_; clear hk; intro a w hk
     refine FW.lfun (y := .lit (.int .i64 (IntKind.wrap .i64 (v7 + 1)))) hk rfl rfl rfl rfl (FW.f_assign hk FW.h0 rfl) ?_; clear hk; intro a w hk
     refine wpList_nil ?_
     (repeat first | refine FW.then_normal ?_ | refine FW.block_normal ?_); exact hK11 (kl1, v4, v5, (IntKind.wrap .u64 ((IntKind.wrap .u64 ((IntKind.wrap .u64 (v6 * 10)) + (IntKind.wrap .u64 (FW.bt v5 v7)))) - 48)), (IntKind.wrap .i64 (v7 + 1))) _ _ (Nat.lt_succ_self _) ⟨hk.sub ⟨rfl, rfl, rfl, rfl, trivial⟩, h⟩
   ·skip
    refine wp_exit ?_; (repeat first | refine FW.then_exit ?_ | refine FW.block_exit_ne rfl ?_); refine FW.block_exit ?_
    (repeat first | refine FW.then_normal ?_ | refine FW.block_normal ?_); refine hK9 _ _ ?_
    refine FW.wseq ?_; intro K' hK20
    refine FW.wreg ?_; intro K' hK21
    refine FW.lfun (y := .lit (.bool v4)) hk rfl rfl rfl rfl (FW.f_move hk FW.h0 rfl) ?_; clear hk; intro a w hk
    refine FW.lfun (y := .lit (.bool v4)) hk rfl rfl rfl rfl (FW.f_move hk FW.h0 rfl) ?_; clear hk; intro a w hk
    refine FW.lfunG (y := .lit (.int .u64 v6)) hk rfl rfl rfl rfl rfl rfl rfl rfl (fun hc => FW.f_move hk hc rfl) ?_; clear hk; intro a w hk
    refine FW.lfunG (y := .lit (.bool (decide (v6 ≤ 9223372036854775808)))) hk rfl rfl rfl rfl rfl rfl rfl rfl (fun hc => (FW.f_pure (FW.p_leq hk.kn hc rfl rfl))) ?_; clear hk; intro a w hk
    refine FW.lfun (y := .lit (.bool (v4 && (decide (v6 ≤ 9223372036854775808))))) hk rfl rfl rfl rfl ((FW.f_pure (FW.p_pick_and hk.kn FW.h0 rfl rfl))) ?_; clear hk; intro a w hk
    refine FW.lend (hK21 _ _ ?_); clear hK21 K'
    refine FW.wcondF (b := (v4 && (decide (v6 ≤ 9223372036854775808)))) hk h rfl (fun h hb => ?_) (fun h hb => ?_)
    ·skip
     refine FW.wreg ?_; intro K' hK22
     refine FW.lfun (y := .lit (.int .u64 v6)) hk rfl rfl rfl rfl (FW.f_move hk FW.h0 rfl) ?_; clear hk; intro a w hk
     refine FW.lfun (y := .lit (.int .u64 (IntKind.wrap .u64 (0 - v6)))) hk rfl rfl rfl rfl ((FW.f_pure (FW.p_neg hk.kn FW.h0 rfl))) ?_; clear hk; intro a w hk
     refine FW.lfun (y := .lit (.int .i64 (IntKind.wrap .i64 (IntKind.wrap .u64 (0 - v6))))) hk rfl rfl rfl rfl ((FW.f_pure (FW.p_conv Try.underlying77 Try.underlying2 hk.kn FW.h0 rfl))) ?_; clear hk; intro a w hk
     refine FW.lfun (y := .lit (.int .i64 (IntKind.wrap .i64 (IntKind.wrap .u64 (0 - v6))))) hk rfl rfl rfl rfl (FW.f_assign hk FW.h0 rfl) ?_; clear hk; intro a w hk
     refine FW.lfun (y := .lit (.bool true)) hk rfl rfl rfl rfl (FW.f_assign hk FW.h0 rfl) ?_; clear hk; intro a w hk
     refine FW.lend (hK22 _ _ ?_); clear hK22 K'
     refine wp_ret ?_
     (repeat first | refine FW.then_ret ?_ | refine FW.block_ret ?_)
     obtain rfl := Option.some.inj h
     exact FW.fret2 hk rfl rfl rfl
    ·skip
     refine wp_skip ?_
     (repeat first | refine FW.then_normal ?_ | refine FW.block_normal ?_); refine hK20 _ _ ?_
     refine FW.wseq ?_; intro K' hK23
     refine FW.wreg ?_; intro K' hK24
     refine FW.lfun (y := .lit (.bool v4)) hk rfl rfl rfl rfl (FW.f_move hk FW.h0 rfl) ?_; clear hk; intro a w hk
     refine FW.lfun (y := .lit (.bool (!v4))) hk rfl rfl rfl rfl ((FW.f_pure (FW.p_not hk.kn FW.h0 rfl))) ?_; clear hk; intro a w hk
     refine FW.lfun (y := .lit (.bool (!v4))) hk rfl rfl rfl rfl (FW.f_move hk FW.h0 rfl) ?_; clear hk; intro a w hk
     refine FW.lfunG (y := .lit (.int .u64 v6)) hk rfl rfl rfl rfl rfl rfl rfl rfl (fun hc => FW.f_move hk hc rfl) ?_; clear hk; intro a w hk
     refine FW.lfunG (y := .lit (.bool (decide (v6 < 9223372036854775808)))) hk rfl rfl rfl rfl rfl rfl rfl rfl (fun hc => (FW.f_pure (FW.p_lss hk.kn hc rfl rfl))) ?_; clear hk; intro a w hk
     refine FW.lfun (y := .lit (.bool ((!v4) && (decide (v6 < 9223372036854775808))))) hk rfl rfl rfl rfl ((FW.f_pure (FW.p_pick_and hk.kn FW.h0 rfl rfl))) ?_; clear hk; intro a w hk
     refine FW.lend (hK24 _ _ ?_); clear hK24 K'
     refine FW.wcondF (b := ((!v4) && (decide (v6 < 9223372036854775808)))) hk h rfl (fun h hb => ?_) (fun h hb => ?_)
     ·skip
      refine FW.wreg ?_; intro K' hK25
      refine FW.lfun (y := .lit (.int .u64 v6)) hk rfl rfl rfl rfl (FW.f_move hk FW.h0 rfl) ?_; clear hk; intro a w hk
      refine FW.lfun (y := .lit (.int .i64 (IntKind.wrap .i64 v6))) hk rfl rfl rfl rfl ((FW.f_pure (FW.p_conv Try.underlying77 Try.underlying2 hk.kn FW.h0 rfl))) ?_; clear hk; intro a w hk
      refine FW.lfun (y := .lit (.int .i64 (IntKind.wrap .i64 v6))) hk rfl rfl rfl rfl (FW.f_assign hk FW.h0 rfl) ?_; clear hk; intro a w hk
      refine FW.lfun (y := .lit (.bool true)) hk rfl rfl rfl rfl (FW.f_assign hk FW.h0 rfl) ?_; clear hk; intro a w hk
      refine FW.lend (hK25 _ _ ?_); clear hK25 K'
      refine wp_ret ?_
      (repeat first | refine FW.then_ret ?_ | refine FW.block_ret ?_)
      obtain rfl := Option.some.inj h
      exact FW.fret2 hk rfl rfl rfl
     ·skip
      refine wp_skip ?_
      (repeat first | refine FW.then_normal ?_ | refine FW.block_normal ?_); refine hK23 _ _ ?_
      refine FW.wreg ?_; intro K' hK26
      refine FW.lfun (y := .lit (.int .i64 0)) hk rfl rfl rfl rfl (FW.f_assign hk FW.h0 rfl) ?_; clear hk; intro a w hk
      refine FW.lfun (y := .lit (.bool false)) hk rfl rfl rfl rfl (FW.f_assign hk FW.h0 rfl) ?_; clear hk; intro a w hk
      refine FW.lend (hK26 _ _ ?_); clear hK26 K'
      refine wp_ret ?_
      (repeat first | refine FW.then_ret ?_ | refine FW.block_ret ?_)
      obtain rfl := Option.some.inj h
      exact FW.fret2 hk rfl rfl rfl
 ·intro K' hK4
  refine FW.wreg ?_; intro K' hK27
  refine FW.lfun (y := .lit (.bool ((!decide (v0 = ([] : List UInt8))) && (decide ((FW.bt v0 0) = 45))))) hk rfl rfl rfl rfl (FW.f_move hk FW.h0 rfl) ?_; clear hk; intro a w hk
  refine FW.lend (hK27 _ _ ?_); clear hK27 K'
  refine FW.wcondF (b := ((!decide (v0 = ([] : List UInt8))) && (decide ((FW.bt v0 0) = 45)))) hk h rfl (fun h hb => ?_) (fun h hb => ?_)
  ·skip
   refine FW.wreg1 ?_
   refine FW.lfun (y := .lit (.string (FW.B v0))) hk rfl rfl rfl rfl (FW.f_move hk FW.h0 rfl) ?_; clear hk; intro a w hk
   obtain ⟨hc6, h⟩ := FW.chk h
   refine FW.lfun (y := .lit (.string (FW.B (List.drop (Int.toNat 1) v0)))) hk rfl rfl rfl rfl ((FW.f_pure (FW.p_slice_lo Try.underlying9 hk.kn FW.h0 rfl rfl hc6))) ?_; clear hk; intro a w hk
   refine FW.lfun (y := .lit (.string (FW.B (List.drop (Int.toNat 1) v0)))) hk rfl rfl rfl rfl (FW.f_assign hk FW.h0 rfl) ?_; clear hk; intro a w hk
   refine wpList_nil ?_
   (repeat first | refine FW.then_normal ?_ | refine FW.block_normal ?_); exact hK4 _ _ ⟨((!decide (v0 = ([] : List UInt8))) && (decide ((FW.bt v0 0) = 45))), (List.drop (Int.toNat 1) v0), hk.sub ⟨rfl, rfl, trivial⟩, h⟩
  ·skip
   refine wp_skip ?_
   (repeat first | refine FW.then_normal ?_ | refine FW.block_normal ?_); exact hK4 _ _ ⟨((!decide (v0 = ([] : List UInt8))) && (decide ((FW.bt v0 0) = 45))), v0, hk.sub ⟨rfl, rfl, trivial⟩, h⟩

theorem offshootref11_letter.ok  (v0 : Int) (r : Bool) (h : offshootref11_letter.f v0 = some r) :
  FW.Ok Try.prog 75 [.lit (.int .u8 v0)] (.lit (.bool r)) := by
 refine FW.enter (xs := [.lit (.int .u8 v0)]) Try.func75 rfl Try.ntmps75 rfl ?_
 intro M w0 a hk
 unfold offshootref11_letter.f at h
 refine FW.wreg ?_; intro K' hK1
 refine FW.lfun (y := .lit (.bool false)) hk rfl rfl rfl rfl (FW.f_assign hk FW.h0 rfl) ?_; clear hk; intro a w hk
 refine FW.lend (hK1 _ _ ?_); clear hK1 K'
 refine FW.wreg ?_; intro K' hK2
 refine FW.lfun (y := .lit (.int .u8 v0)) hk rfl rfl rfl rfl (FW.f_move hk FW.h0 rfl) ?_; clear hk; intro a w hk
 refine FW.lfun (y := .lit (.bool (decide (v0 = 95)))) hk rfl rfl rfl rfl ((FW.f_pure (FW.p_eql hk.kn FW.h0 rfl rfl))) ?_; clear hk; intro a w hk
 refine FW.lfun (y := .lit (.bool (decide (v0 = 95)))) hk rfl rfl rfl rfl (FW.f_move hk FW.h0 rfl) ?_; clear hk; intro a w hk
 refine FW.lfunG (y := .lit (.int .u8 v0)) hk rfl rfl rfl rfl rfl rfl rfl rfl (fun hc => FW.f_move hk hc rfl) ?_; clear hk; intro a w hk
 refine FW.lfunG (y := .lit (.bool (decide (97 ≤ v0)))) hk rfl rfl rfl rfl rfl rfl rfl rfl (fun hc => (FW.f_pure (FW.p_geq hk.kn hc rfl rfl))) ?_; clear hk; intro a w hk
 refine FW.lfunG (y := .lit (.bool (decide (97 ≤ v0)))) hk rfl rfl rfl rfl rfl rfl rfl rfl (fun hc => FW.f_move hk hc rfl) ?_; clear hk; intro a w hk
 refine FW.lfunG (y := .lit (.int .u8 v0)) hk rfl rfl rfl rfl rfl rfl rfl rfl (fun hc => FW.f_move hk hc rfl) ?_; clear hk; intro a w hk
 refine FW.lfunG (y := .lit (.bool (decide (v0 ≤ 122)))) hk rfl rfl rfl rfl rfl rfl rfl rfl (fun hc => (FW.f_pure (FW.p_leq hk.kn hc rfl rfl))) ?_; clear hk; intro a w hk
 refine FW.lfunG (y := .lit (.bool ((decide (97 ≤ v0)) && (decide (v0 ≤ 122))))) hk rfl rfl rfl rfl rfl rfl rfl rfl (fun hc => (FW.f_pure (FW.p_pick_and hk.kn hc rfl rfl))) ?_; clear hk; intro a w hk
 refine FW.lfun (y := .lit (.bool ((decide (v0 = 95)) || ((decide (97 ≤ v0)) && (decide (v0 ≤ 122)))))) hk rfl rfl rfl rfl ((FW.f_pure (FW.p_pick_or hk.kn FW.h0 rfl rfl))) ?_; clear hk; intro a w hk
 refine FW.lfun (y := .lit (.bool ((decide (v0 = 95)) || ((decide (97 ≤ v0)) && (decide (v0 ≤ 122)))))) hk rfl rfl rfl rfl (FW.f_move hk FW.h0 rfl) ?_; clear hk; intro a w hk
 refine FW.lfunG (y := .lit (.int .u8 v0)) hk rfl rfl rfl rfl rfl rfl rfl rfl (fun hc => FW.f_move hk hc rfl) ?_; clear hk; intro a w hk
 refine FW.lfunG (y := .lit (.bool (decide (65 ≤ v0)))) hk rfl rfl rfl rfl rfl rfl rfl rfl (fun hc => (FW.f_pure (FW.p_geq hk.kn hc rfl rfl))) ?_; clear hk; intro a w hk
 refine FW.lfunG (y := .lit (.bool (decide (65 ≤ v0)))) hk rfl rfl rfl rfl rfl rfl rfl rfl (fun hc => FW.f_move hk hc rfl) ?_; clear hk; intro a w hk
 refine FW.lfunG (y := .lit (.int .u8 v0)) hk rfl rfl rfl rfl rfl rfl rfl rfl (fun hc => FW.f_move hk hc rfl) ?_; clear hk; intro a w hk
 refine FW.lfunG (y := .lit (.bool (decide (v0 ≤ 90)))) hk rfl rfl rfl rfl rfl rfl rfl rfl (fun hc => (FW.f_pure (FW.p_leq hk.kn hc rfl rfl))) ?_; clear hk; intro a w hk
 refine FW.lfunG (y := .lit (.bool ((decide (65 ≤ v0)) && (decide (v0 ≤ 90))))) hk rfl rfl rfl rfl rfl rfl rfl rfl (fun hc => (FW.f_pure (FW.p_pick_and hk.kn hc rfl rfl))) ?_; clear hk; intro a w hk
 refine FW.lfun (y := .lit (.bool (((decide (v0 = 95)) || ((decide (97 ≤ v0)) && (decide (v0 ≤ 122)))) || ((decide (65 ≤ v0)) && (decide (v0 ≤ 90)))))) hk rfl rfl rfl rfl ((FW.f_pure (FW.p_pick_or hk.kn FW.h0 rfl rfl))) ?_; clear hk; intro a w hk
 refine FW.lfun (y := .lit (.bool (((decide (v0 = 95)) || ((decide (97 ≤ v0)) && (decide (v0 ≤ 122)))) || ((decide (65 ≤ v0)) && (decide (v0 ≤ 90)))))) hk rfl rfl rfl rfl (FW.f_move hk FW.h0 rfl) ?_; clear hk; intro a w hk
 refine FW.lfunG (y := .lit (.int .u8 v0)) hk rfl rfl rfl rfl rfl rfl rfl rfl (fun hc => FW.f_move hk hc rfl) ?_; clear hk; intro a w hk
 refine FW.lfunG (y := .lit (.bool (decide (48 ≤ v0)))) hk rfl rfl rfl rfl rfl rfl rfl rfl (fun hc => (FW.f_pure (FW.p_geq hk.kn hc rfl rfl))) ?_; clear hk; intro a w hk
 refine FW.lfunG (y := .lit (.bool (decide (48 ≤ v0)))) hk rfl rfl rfl rfl rfl rfl rfl rfl (fun hc => FW.f_move hk hc rfl) ?_; clear hk; intro a w hk
 refine FW.lfunG (y := .lit (.int .u8 v0)) hk rfl rfl rfl rfl rfl rfl rfl rfl (fun hc => FW.f_move hk hc rfl) ?_; clear hk; intro a w hk
 refine FW.lfunG (y := .lit (.bool (decide (v0 ≤ 57)))) hk rfl rfl rfl rfl rfl rfl rfl rfl (fun hc => (FW.f_pure (FW.p_leq hk.kn hc rfl rfl))) ?_; clear hk; intro a w hk
 refine FW.lfunG (y := .lit (.bool ((decide (48 ≤ v0)) && (decide (v0 ≤ 57))))) hk rfl rfl rfl rfl rfl rfl rfl rfl (fun hc => (FW.f_pure (FW.p_pick_and hk.kn hc rfl rfl))) ?_; clear hk; intro a w hk
 refine FW.lfun (y := .lit (.bool ((((decide (v0 = 95)) || ((decide (97 ≤ v0)) && (decide (v0 ≤ 122)))) || ((decide (65 ≤ v0)) && (decide (v0 ≤ 90)))) || ((decide (48 ≤ v0)) && (decide (v0 ≤ 57)))))) hk rfl rfl rfl rfl ((FW.f_pure (FW.p_pick_or hk.kn FW.h0 rfl rfl))) ?_; clear hk; intro a w hk
 refine FW.lfun (y := .lit (.bool ((((decide (v0 = 95)) || ((decide (97 ≤ v0)) && (decide (v0 ≤ 122)))) || ((decide (65 ≤ v0)) && (decide (v0 ≤ 90)))) || ((decide (48 ≤ v0)) && (decide (v0 ≤ 57)))))) hk rfl rfl rfl rfl (FW.f_assign hk FW.h0 rfl) ?_; clear hk; intro a w hk
 refine FW.lend (hK2 _ _ ?_); clear hK2 K'
 refine wp_ret ?_
 (repeat first | refine FW.then_ret ?_ | refine FW.block_ret ?_)
 obtain rfl := Option.some.inj h
 exact FW.fret1 hk rfl rfl
end Go.Proofs.Ytbjbgodcenopnaa

/- Written by a program of this session (gen.py): the contracts of functions of the program. -/
import Derived.KernelRfl
import Derived.Test.YtbjbgodcenopnaaProg
import Derived.Test.YtbjbgodcenopnaaAvFun
import Derived.Test.YtbjbgodcenopnaaAvMan
import Derived.Test.YtbjbgodcenopnaaAvMore
import Derived.Test.YtbjbgodcenopnaaAvDraw2
import Derived.Test.YtbjbgodcenopnaaAvRow
import Derived.Test.YtbjbgodcenopnaaAvBld
import Derived.Test.YtbjbgodcenopnaaHcl
import Derived.Test.YtbjbgodcenopnaaAvFl
import Derived.Test.YtbjbgodcenopnaaSvD
import Derived.Test.YtbjbgodcenopnaaSvP8
namespace Go.Proofs.Ytbjbgodcenopnaa
set_option linter.unusedVariables false
set_option maxRecDepth 20000
set_option maxHeartbeats 10000000
theorem offshootref12_Preds.ok (K : Nat) (v0 : List UInt8) (r : Int × Bool) (h : offshootref12_Preds.f K v0 = some r) :
  FW.Ok Try.prog 77 [.lit (.string (FW.B v0))] (.tup [.lit (.int .i64 r.1), .lit (.bool r.2)]) := by
 refine FW.enter (xs := [.lit (.string (FW.B v0))]) Try.func77 rfl Try.ntmps77 rfl ?_
 intro M w0 a hk
 unfold offshootref12_Preds.f at h
 refine FW.wreg ?_; intro K' hK1
 refine FW.lfun (y := .lit (.int .i64 0)) hk rfl rfl rfl rfl (FW.f_assign hk FW.h0 rfl) ?_; clear hk; intro a w hk
 refine FW.lfun (y := .lit (.bool false)) hk rfl rfl rfl rfl (FW.f_assign hk FW.h0 rfl) ?_; clear hk; intro a w hk
 refine FW.lend (hK1 _ _ ?_); clear hK1 K'
 refine FW.wreg ?_; intro K' hK2
 refine FW.l_buildSlice (f := c_str) (l := ([([101, 113] : List UInt8), ([110, 101, 113] : List UInt8), ([108, 116] : List UInt8), ([108, 116, 101] : List UInt8), ([103, 116] : List UInt8), ([103, 116, 101] : List UInt8), ([115, 116, 97, 114, 116, 105, 110, 103, 87, 105, 116, 104] : List UInt8), ([101, 110, 100, 105, 110, 103, 87, 105, 116, 104] : List UInt8), ([99, 111, 110, 116, 97, 105, 110, 105, 110, 103] : List UInt8)] : List (List UInt8))) hk rfl rfl rfl Try.underlying56 rfl rfl rfl rfl (fun _ => rfl) rfl ?_; clear hk; intro bx1 a w hk
 replace hk := (FW.S.freezeR (I' := []) r_c_str_eq hk (j := 0) rfl (t := 6) rfl rfl).squash
 refine FW.lfun (y := .row (r_c_str ([([101, 113] : List UInt8), ([110, 101, 113] : List UInt8), ([108, 116] : List UInt8), ([108, 116, 101] : List UInt8), ([103, 116] : List UInt8), ([103, 116, 101] : List UInt8), ([115, 116, 97, 114, 116, 105, 110, 103, 87, 105, 116, 104] : List UInt8), ([101, 110, 100, 105, 110, 103, 87, 105, 116, 104] : List UInt8), ([99, 111, 110, 116, 97, 105, 110, 105, 110, 103] : List UInt8)] : List (List UInt8)))) hk rfl rfl rfl rfl (FW.f_assign hk FW.h0 rfl) ?_; clear hk; intro a w hk
 refine FW.lend (hK2 _ _ ?_); clear hK2 K'
 refine FW.wseq ?_; intro K' hK3
 refine FW.wreg ?_; intro K' hK4
 refine FW.lfun (y := .lit (.int .i64 0)) hk rfl rfl rfl rfl (FW.f_assign hk FW.h0 rfl) ?_; clear hk; intro a w hk
 refine FW.lend (hK4 _ _ ?_); clear hK4 K'
 refine wp_block ?_
 refine FW.wloop (T := Nat × List UInt8 × List (List UInt8) × Int) (fun x a w => match x with | (kl1, v0, v4, v5) => FW.S M w0 a w 35 [] [(0, [], .lit (.string (FW.B v0))), (4, [], .row (r_c_str v4)), (5, [], .lit (.int .i64 v5))] ∧ offshootref12_Preds.l1 K kl1 v0 v4 v5 = some r) (fun x => x.1) (K, v0, ([([101, 113] : List UInt8), ([110, 101, 113] : List UInt8), ([108, 116] : List UInt8), ([108, 116, 101] : List UInt8), ([103, 116] : List UInt8), ([103, 116, 101] : List UInt8), ([115, 116, 97, 114, 116, 105, 110, 103, 87, 105, 116, 104] : List UInt8), ([101, 110, 100, 105, 110, 103, 87, 105, 116, 104] : List UInt8), ([99, 111, 110, 116, 97, 105, 110, 105, 110, 103] : List UInt8)] : List (List UInt8)), 0) ⟨hk.sub ⟨rfl, rfl, rfl, trivial⟩, h⟩ ?_
 clear hk h
 rintro ⟨kl1, v0, v4, v5⟩ a w ⟨hk, h⟩ K' hK5
 cases kl1 with
 | zero => simp [offshootref12_Preds.l1] at h
 | succ kl1 =>
 rw [offshootref12_Preds.l1.eq_2] at h
 refine FW.wseq ?_; intro K' hK6
 refine FW.wreg ?_; intro K' hK7
 refine FW.lfun (y := .lit (.int .i64 v5)) hk rfl rfl rfl rfl (FW.f_move hk FW.h0 rfl) ?_; clear hk; intro a w hk
 refine FW.lfun (y := .row (r_c_str v4)) hk rfl rfl rfl rfl (FW.f_move hk FW.h0 rfl) ?_; clear hk; intro a w hk
 refine FW.lfun (y := .lit (.int .i64 (List.length v4 : Int))) hk rfl rfl rfl rfl (FW.f_len (R := r_c_str) (f := c_str) (l := v4) r_c_str_eq Try.underlying56 hk FW.h0 rfl) ?_; clear hk; intro a w hk
 refine FW.lfun (y := .lit (.bool (decide (v5 < (List.length v4 : Int))))) hk rfl rfl rfl rfl ((FW.f_pure (FW.p_lss hk.kn FW.h0 rfl rfl))) ?_; clear hk; intro a w hk
 refine FW.lend (hK7 _ _ ?_); clear hK7 K'
 refine FW.wcondF (b := (decide (v5 < (List.length v4 : Int)))) hk h rfl (fun h hb => ?_) (fun h hb => ?_)
 ·skip
  refine wp_skip ?_
  (repeat first | refine FW.then_normal ?_ | refine FW.block_normal ?_); refine hK6 _ _ ?_
  refine FW.wseq ?_; intro K' hK8
  refine wp_block ?_
  refine FW.wreg ?_; intro K' hK9
  refine FW.lfun (y := .row (r_c_str v4)) hk rfl rfl rfl rfl (FW.f_move hk FW.h0 rfl) ?_; clear hk; intro a w hk
  refine FW.lfun (y := .lit (.int .i64 v5)) hk rfl rfl rfl rfl (FW.f_move hk FW.h0 rfl) ?_; clear hk; intro a w hk
  obtain ⟨hc1, h⟩ := FW.chk h
  refine FW.lfun (y := .ref (c_str (List.getD v4 (Int.toNat v5) default))) hk rfl rfl rfl rfl (FW.f_indexAddr (R := r_c_str) (f := c_str) (l := v4) (sz := 1) r_c_str_eq (fun _ => rfl) hk FW.h0 rfl rfl Try.underlying56 (by kernel_rfl) hc1) ?_; clear hk; intro a w hk
  refine FW.lfun (y := .lit (.string (FW.B (List.getD v4 (Int.toNat v5) default)))) hk rfl rfl rfl rfl (FW.f_load1 hk FW.h0 rfl rfl Try.underlying9 rfl) ?_; clear hk; intro a w hk
  refine FW.lfun (y := .lit (.string (FW.B v0))) hk rfl rfl rfl rfl (FW.f_move hk FW.h0 rfl) ?_; clear hk; intro a w hk
  refine FW.lfun (y := .lit (.bool (decide ((List.getD v4 (Int.toNat v5) default) = v0)))) hk rfl rfl rfl rfl ((FW.f_pure (FW.p_seql hk.kn FW.h0 rfl rfl))) ?_; clear hk; intro a w hk
  refine FW.lend (hK9 _ _ ?_); clear hK9 K'
  refine FW.wcondF (b := (decide ((List.getD v4 (Int.toNat v5) default) = v0))) hk h rfl (fun h hb => ?_) (fun h hb => ?_)
  ·skip
   refine FW.wreg ?_; intro K' hK10
   refine FW.lfun (y := .lit (.int .i64 1)) hk rfl rfl rfl rfl (FW.f_assign hk FW.h0 rfl) ?_; clear hk; intro a w hk
   refine FW.lfun (y := .lit (.bool true)) hk rfl rfl rfl rfl (FW.f_assign hk FW.h0 rfl) ?_; clear hk; intro a w hk
   refine FW.lend (hK10 _ _ ?_); clear hK10 K'
   refine wp_ret ?_
   (repeat first | refine FW.then_ret ?_ | refine FW.block_ret ?_)
   obtain rfl := Option.some.inj h
   exact FW.fret2 hk rfl rfl rfl
  ·skip
   refine wp_skip ?_
   (repeat first | refine FW.then_normal ?_ | refine FW.block_normal ?_); refine hK8 _ _ ?_
   refine FW.wreg1 ?_
   refine FW.lfun (y := .lit (.int .i64 v5)) hk rfl rfl rfl rfl (FW.f_move hk FW.h0 rfl) ?_; clear hk; intro a w hk
   refine FW.lfun (y := .lit (.int .i64 (IntKind.wrap .i64 (v5 + 1)))) hk rfl rfl rfl rfl ((FW.f_pure (FW.p_add hk.kn FW.h0 rfl rfl))) ?_; clear hk; intro a w hk
   refine FW.lfun (y := .lit (.int .i64 (IntKind.wrap .i64 (v5 + 1)))) hk rfl rfl rfl rfl (FW.f_assign hk FW.h0 rfl) ?_; clear hk; intro a w hk
   refine wpList_nil ?_
   (repeat first | refine FW.then_normal ?_ | refine FW.block_normal ?_); exact hK5 (kl1, v0, v4, (IntKind.wrap .i64 (v5 + 1))) _ _ (Nat.lt_succ_self _) ⟨hk.sub ⟨rfl, rfl, rfl, trivial⟩, h⟩
 ·skip
  refine wp_exit ?_; (repeat first | refine FW.then_exit ?_ | refine FW.block_exit_ne rfl ?_); refine FW.block_exit ?_
  (repeat first | refine FW.then_normal ?_ | refine FW.block_normal ?_); refine hK3 _ _ ?_
  refine FW.wseq ?_; intro K' hK12
  refine FW.wreg ?_; intro K' hK13
  refine FW.lfun (y := .lit (.string (FW.B v0))) hk rfl rfl rfl rfl (FW.f_move hk FW.h0 rfl) ?_; clear hk; intro a w hk
  refine FW.lfun (y := .lit (.bool (decide (v0 = ([98, 101, 116, 119, 101, 101, 110] : List UInt8))))) hk rfl rfl rfl rfl ((FW.f_pure (FW.p_seql hk.kn FW.h0 rfl rfl))) ?_; clear hk; intro a w hk
  refine FW.lfun (y := .lit (.bool (decide (v0 = ([98, 101, 116, 119, 101, 101, 110] : List UInt8))))) hk rfl rfl rfl rfl (FW.f_move hk FW.h0 rfl) ?_; clear hk; intro a w hk
  refine FW.lfunG (y := .lit (.string (FW.B v0))) hk rfl rfl rfl rfl rfl rfl rfl rfl (fun hc => FW.f_move hk hc rfl) ?_; clear hk; intro a w hk
  refine FW.lfunG (y := .lit (.bool (decide (v0 = ([105, 110, 115, 105, 100, 101] : List UInt8))))) hk rfl rfl rfl rfl rfl rfl rfl rfl (fun hc => (FW.f_pure (FW.p_seql hk.kn hc rfl rfl))) ?_; clear hk; intro a w hk
  refine FW.lfun (y := .lit (.bool ((decide (v0 = ([98, 101, 116, 119, 101, 101, 110] : List UInt8))) || (decide (v0 = ([105, 110, 115, 105, 100, 101] : List UInt8)))))) hk rfl rfl rfl rfl ((FW.f_pure (FW.p_pick_or hk.kn FW.h0 rfl rfl))) ?_; clear hk; intro a w hk
  refine FW.lfun (y := .lit (.bool ((decide (v0 = ([98, 101, 116, 119, 101, 101, 110] : List UInt8))) || (decide (v0 = ([105, 110, 115, 105, 100, 101] : List UInt8)))))) hk rfl rfl rfl rfl (FW.f_move hk FW.h0 rfl) ?_; clear hk; intro a w hk
  refine FW.lfunG (y := .lit (.string (FW.B v0))) hk rfl rfl rfl rfl rfl rfl rfl rfl (fun hc => FW.f_move hk hc rfl) ?_; clear hk; intro a w hk
  refine FW.lfunG (y := .lit (.bool (decide (v0 = ([111, 117, 116, 115, 105, 100, 101] : List UInt8))))) hk rfl rfl rfl rfl rfl rfl rfl rfl (fun hc => (FW.f_pure (FW.p_seql hk.kn hc rfl rfl))) ?_; clear hk; intro a w hk
  refine FW.lfun (y := .lit (.bool (((decide (v0 = ([98, 101, 116, 119, 101, 101, 110] : List UInt8))) || (decide (v0 = ([105, 110, 115, 105, 100, 101] : List UInt8)))) || (decide (v0 = ([111, 117, 116, 115, 105, 100, 101] : List UInt8)))))) hk rfl rfl rfl rfl ((FW.f_pure (FW.p_pick_or hk.kn FW.h0 rfl rfl))) ?_; clear hk; intro a w hk
  refine FW.lend (hK13 _ _ ?_); clear hK13 K'
  refine FW.wcondF (b := (((decide (v0 = ([98, 101, 116, 119, 101, 101, 110] : List UInt8))) || (decide (v0 = ([105, 110, 115, 105, 100, 101] : List UInt8)))) || (decide (v0 = ([111, 117, 116, 115, 105, 100, 101] : List UInt8))))) hk h rfl (fun h hb => ?_) (fun h hb => ?_)
  ·skip
   refine FW.wreg ?_; intro K' hK14
   refine FW.lfun (y := .lit (.int .i64 2)) hk rfl rfl rfl rfl (FW.f_assign hk FW.h0 rfl) ?_; clear hk; intro a w hk
   refine FW.lfun (y := .lit (.bool true)) hk rfl rfl rfl rfl (FW.f_assign hk FW.h0 rfl) ?_; clear hk; intro a w hk
   refine FW.lend (hK14 _ _ ?_); clear hK14 K'
   refine wp_ret ?_
   (repeat first | refine FW.then_ret ?_ | refine FW.block_ret ?_)
   obtain rfl := Option.some.inj h
   exact FW.fret2 hk rfl rfl rfl
  ·skip
   refine wp_skip ?_
   (repeat first | refine FW.then_normal ?_ | refine FW.block_normal ?_); refine hK12 _ _ ?_
   refine FW.wreg ?_; intro K' hK15
   refine FW.lfun (y := .lit (.string (FW.B v0))) hk rfl rfl rfl rfl (FW.f_move hk FW.h0 rfl) ?_; clear hk; intro a w hk
   refine FW.lfun (y := .lit (.bool (decide (v0 = ([119, 105, 116, 104, 105, 110] : List UInt8))))) hk rfl rfl rfl rfl ((FW.f_pure (FW.p_seql hk.kn FW.h0 rfl rfl))) ?_; clear hk; intro a w hk
   refine FW.lfun (y := .lit (.bool (decide (v0 = ([119, 105, 116, 104, 105, 110] : List UInt8))))) hk rfl rfl rfl rfl (FW.f_move hk FW.h0 rfl) ?_; clear hk; intro a w hk
   refine FW.lfunG (y := .lit (.string (FW.B v0))) hk rfl rfl rfl rfl rfl rfl rfl rfl (fun hc => FW.f_move hk hc rfl) ?_; clear hk; intro a w hk
   refine FW.lfunG (y := .lit (.bool (decide (v0 = ([119, 105, 116, 104, 111, 117, 116] : List UInt8))))) hk rfl rfl rfl rfl rfl rfl rfl rfl (fun hc => (FW.f_pure (FW.p_seql hk.kn hc rfl rfl))) ?_; clear hk; intro a w hk
   refine FW.lfun (y := .lit (.bool ((decide (v0 = ([119, 105, 116, 104, 105, 110] : List UInt8))) || (decide (v0 = ([119, 105, 116, 104, 111, 117, 116] : List UInt8)))))) hk rfl rfl rfl rfl ((FW.f_pure (FW.p_pick_or hk.kn FW.h0 rfl rfl))) ?_; clear hk; intro a w hk
   refine FW.lfun (y := .lit (.int .i64 (-1))) hk rfl rfl rfl rfl (FW.f_assign hk FW.h0 rfl) ?_; clear hk; intro a w hk
   refine FW.lfun (y := .lit (.bool ((decide (v0 = ([119, 105, 116, 104, 105, 110] : List UInt8))) || (decide (v0 = ([119, 105, 116, 104, 111, 117, 116] : List UInt8)))))) hk rfl rfl rfl rfl (FW.f_assign hk FW.h0 rfl) ?_; clear hk; intro a w hk
   refine FW.lend (hK15 _ _ ?_); clear hK15 K'
   refine wp_ret ?_
   (repeat first | refine FW.then_ret ?_ | refine FW.block_ret ?_)
   obtain rfl := Option.some.inj h
   exact FW.fret2 hk rfl rfl rfl
end Go.Proofs.Ytbjbgodcenopnaa

/- Written by a program of this session (gen.py): the contracts of functions of the program. -/
import Derived.KernelRfl
import Derived.Test.YtbjbgodcenopnaaProg
import Derived.Test.YtbjbgodcenopnaaAvFun
import Derived.Test.YtbjbgodcenopnaaAvMan
import Derived.Test.YtbjbgodcenopnaaAvMore
import Derived.Test.YtbjbgodcenopnaaAvDraw2
import Derived.Test.YtbjbgodcenopnaaAvRow
import Derived.Test.YtbjbgodcenopnaaAvBld
import Derived.Test.YtbjbgodcenopnaaHcl
import Derived.Test.YtbjbgodcenopnaaAvFl
import Derived.Test.YtbjbgodcenopnaaSvD
import Derived.Test.YtbjbgodcenopnaaSvP5
namespace Go.Proofs.Ytbjbgodcenopnaa
set_option linter.unusedVariables false
set_option maxRecDepth 20000
set_option maxHeartbeats 10000000
theorem offshootref11_one.ok (K : Nat) (v0 : List UInt8) (r : ApiWord × Int) (h : offshootref11_one.f K v0 = some r) :
  FW.Ok Try.prog 50 [.lit (.string (FW.B v0))] (.tup [.agg (ApiWord.cells r.1), .lit (.int .i64 r.2)]) := by
 refine FW.enter (xs := [.lit (.string (FW.B v0))]) Try.func50 rfl Try.ntmps50 rfl ?_
 intro M w0 a hk
 unfold offshootref11_one.f at h
 refine FW.wreg ?_; intro K' hK1
 refine FW.l_alloc (zs := (ApiWord.cells (⟨0, [], 0, 0, 0⟩ : ApiWord))) [] hk rfl rfl rfl rfl ?_; clear hk; intro bx1 a w hk
 refine FW.lfun (y := .lit (.int .i64 0)) hk rfl rfl rfl rfl (FW.f_assign hk FW.h0 rfl) ?_; clear hk; intro a w hk
 refine FW.lend (hK1 _ _ ?_); clear hK1 K'
 refine FW.wreg ?_; intro K' hK2
 refine FW.lfun (y := .lit (.string (FW.B v0))) hk rfl rfl rfl rfl (FW.f_move hk FW.h0 rfl) ?_; clear hk; intro a w hk
 obtain ⟨hc1, h⟩ := FW.chk h
 refine FW.lfun (y := .lit (.int .u8 (FW.bt v0 0))) hk rfl rfl rfl rfl ((FW.f_pure (FW.p_index Try.underlying9 hk.kn FW.h0 rfl rfl hc1))) ?_; clear hk; intro a w hk
 refine FW.lfun (y := .lit (.int .u8 (FW.bt v0 0))) hk rfl rfl rfl rfl (FW.f_assign hk FW.h0 rfl) ?_; clear hk; intro a w hk
 refine FW.lend (hK2 _ _ ?_); clear hK2 K'
 refine FW.wseq ?_; intro K' hK3
 refine wp_block ?_
 refine FW.wreg ?_; intro K' hK4
 refine FW.lfun (y := .lit (.int .u8 (FW.bt v0 0))) hk rfl rfl rfl rfl (FW.f_move hk FW.h0 rfl) ?_; clear hk; intro a w hk
 refine FW.lfun (y := .lit (.bool (decide ((FW.bt v0 0) = 102)))) hk rfl rfl rfl rfl ((FW.f_pure (FW.p_eql hk.kn FW.h0 rfl rfl))) ?_; clear hk; intro a w hk
 refine FW.lfun (y := .lit (.bool (decide ((FW.bt v0 0) = 102)))) hk rfl rfl rfl rfl (FW.f_move hk FW.h0 rfl) ?_; clear hk; intro a w hk
 refine FW.lfunG (y := .lit (.string (FW.B v0))) hk rfl rfl rfl rfl rfl rfl rfl rfl (fun hc => FW.f_move hk hc rfl) ?_; clear hk; intro a w hk
 refine FW.lfunG (y := .lit (.int .i64 (List.length v0 : Int))) hk rfl rfl rfl rfl rfl rfl rfl rfl (fun hc => (FW.f_pure (FW.p_slen Try.underlying9 hk.kn hc rfl))) ?_; clear hk; intro a w hk
 refine FW.lfunG (y := .lit (.bool (decide (1 < (List.length v0 : Int))))) hk rfl rfl rfl rfl rfl rfl rfl rfl (fun hc => (FW.f_pure (FW.p_gtr hk.kn hc rfl rfl))) ?_; clear hk; intro a w hk
 refine FW.lfun (y := .lit (.bool ((decide ((FW.bt v0 0) = 102)) && (decide (1 < (List.length v0 : Int)))))) hk rfl rfl rfl rfl ((FW.f_pure (FW.p_pick_and hk.kn FW.h0 rfl rfl))) ?_; clear hk; intro a w hk
 refine FW.lfun (y := .lit (.bool ((decide ((FW.bt v0 0) = 102)) && (decide (1 < (List.length v0 : Int)))))) hk rfl rfl rfl rfl (FW.f_move hk FW.h0 rfl) ?_; clear hk; intro a w hk
 refine FW.lfunG (y := .lit (.string (FW.B v0))) hk rfl rfl rfl rfl rfl rfl rfl rfl (fun hc => FW.f_move hk hc rfl) ?_; clear hk; intro a w hk
 obtain ⟨hc2, h⟩ := FW.chk h
 refine FW.lfunG (y := .lit (.int .u8 (FW.bt v0 1))) hk rfl rfl rfl rfl rfl rfl rfl rfl (fun hc => (FW.f_pure (FW.p_index Try.underlying9 hk.kn hc rfl rfl hc2))) ?_; clear hk; intro a w hk
 refine FW.lfunG (y := .lit (.bool (decide ((FW.bt v0 1) = 39)))) hk rfl rfl rfl rfl rfl rfl rfl rfl (fun hc => (FW.f_pure (FW.p_eql hk.kn hc rfl rfl))) ?_; clear hk; intro a w hk
 refine FW.lfun (y := .lit (.bool (((decide ((FW.bt v0 0) = 102)) && (decide (1 < (List.length v0 : Int)))) && (decide ((FW.bt v0 1) = 39))))) hk rfl rfl rfl rfl ((FW.f_pure (FW.p_pick_and hk.kn FW.h0 rfl rfl))) ?_; clear hk; intro a w hk
 refine FW.lfun (y := .lit (.bool (((decide ((FW.bt v0 0) = 102)) && (decide (1 < (List.length v0 : Int)))) && (decide ((FW.bt v0 1) = 39))))) hk rfl rfl rfl rfl (FW.f_assign hk FW.h0 rfl) ?_; clear hk; intro a w hk
 refine FW.lend (hK4 _ _ ?_); clear hK4 K'
 refine FW.wcondF (b := (((decide ((FW.bt v0 0) = 102)) && (decide (1 < (List.length v0 : Int)))) && (decide ((FW.bt v0 1) = 39)))) hk h rfl (fun h hb => ?_) (fun h hb => ?_)
 ·skip
  refine FW.wreg ?_; intro K' hK5
  refine FW.lfun (y := .lit (.string (FW.B v0))) hk rfl rfl rfl rfl (FW.f_move hk FW.h0 rfl) ?_; clear hk; intro a w hk
  obtain ⟨hc3, h⟩ := FW.chk h
  refine FW.lfun (y := .lit (.string (FW.B (List.drop (Int.toNat 1) v0)))) hk rfl rfl rfl rfl ((FW.f_pure (FW.p_slice_lo Try.underlying9 hk.kn FW.h0 rfl rfl hc3))) ?_; clear hk; intro a w hk
  obtain ⟨t1, hr_t1, h⟩ := FW.bnd h
  refine FW.lfun (y := .tup [.lit (.string (FW.B t1.1)), .lit (.int .i64 t1.2)]) hk rfl rfl rfl rfl (FW.f_call hk FW.h0 rfl rfl Try.func71 rfl (by kernel_rfl) (offshootref11_Quoted.ok K (List.drop (Int.toNat 1) v0) _ hr_t1)) ?_; clear hk; intro a w hk
  refine FW.lfun (y := .tup [.lit (.string (FW.B t1.1)), .lit (.int .i64 t1.2)]) hk rfl rfl rfl rfl (FW.f_move hk FW.h0 rfl) ?_; clear hk; intro a w hk
  refine FW.lfun (y := .lit (.string (FW.B t1.1))) hk rfl rfl rfl rfl (FW.f_extract hk FW.h0 rfl rfl) ?_; clear hk; intro a w hk
  refine FW.lfun (y := .lit (.int .i64 t1.2)) hk rfl rfl rfl rfl (FW.f_extract hk FW.h0 rfl rfl) ?_; clear hk; intro a w hk
  refine FW.lfun (y := .lit (.string (FW.B t1.1))) hk rfl rfl rfl rfl (FW.f_assign hk FW.h0 rfl) ?_; clear hk; intro a w hk
  refine FW.lfun (y := .lit (.int .i64 t1.2)) hk rfl rfl rfl rfl (FW.f_assign hk FW.h0 rfl) ?_; clear hk; intro a w hk
  refine FW.lend (hK5 _ _ ?_); clear hK5 K'
  refine FW.wreg ?_; intro K' hK6
  refine FW.lfun (y := .lit (.int .u64 0)) hk rfl rfl rfl rfl (FW.f_assign hk FW.h0 rfl) ?_; clear hk; intro a w hk
  refine FW.lend (hK6 _ _ ?_); clear hK6 K'
  refine FW.wreg ?_; intro K' hK7
  refine FW.lfun (y := .lit (.int .i64 t1.2)) hk rfl rfl rfl rfl (FW.f_move hk FW.h0 rfl) ?_; clear hk; intro a w hk
  refine FW.lfun (y := .lit (.bool (decide (0 < t1.2)))) hk rfl rfl rfl rfl ((FW.f_pure (FW.p_gtr hk.kn FW.h0 rfl rfl))) ?_; clear hk; intro a w hk
  refine FW.lfun (y := .lit (.bool (decide (0 < t1.2)))) hk rfl rfl rfl rfl (FW.f_move hk FW.h0 rfl) ?_; clear hk; intro a w hk
  refine FW.lfunG (y := .lit (.string (FW.B t1.1))) hk rfl rfl rfl rfl rfl rfl rfl rfl (fun hc => FW.f_move hk hc rfl) ?_; clear hk; intro a w hk
  refine FW.lfunG (y := .lit (.int .i64 (List.length t1.1 : Int))) hk rfl rfl rfl rfl rfl rfl rfl rfl (fun hc => (FW.f_pure (FW.p_slen Try.underlying9 hk.kn hc rfl))) ?_; clear hk; intro a w hk
  refine FW.lfunG (y := .lit (.bool (decide ((List.length t1.1 : Int) = 16)))) hk rfl rfl rfl rfl rfl rfl rfl rfl (fun hc => (FW.f_pure (FW.p_eql hk.kn hc rfl rfl))) ?_; clear hk; intro a w hk
  refine FW.lfun (y := .lit (.bool ((decide (0 < t1.2)) && (decide ((List.length t1.1 : Int) = 16))))) hk rfl rfl rfl rfl ((FW.f_pure (FW.p_pick_and hk.kn FW.h0 rfl rfl))) ?_; clear hk; intro a w hk
  refine FW.lfun (y := .lit (.bool ((decide (0 < t1.2)) && (decide ((List.length t1.1 : Int) = 16))))) hk rfl rfl rfl rfl (FW.f_assign hk FW.h0 rfl) ?_; clear hk; intro a w hk
  refine FW.lend (hK7 _ _ ?_); clear hK7 K'
  refine FW.wseq ?_; intro K' hK8
  refine FW.wreg ?_; intro K' hK9
  refine FW.lfun (y := .lit (.int .i64 0)) hk rfl rfl rfl rfl (FW.f_assign hk FW.h0 rfl) ?_; clear hk; intro a w hk
  refine FW.lend (hK9 _ _ ?_); clear hK9 K'
  refine wp_block ?_
  refine FW.wloop (T := Nat × List UInt8 × Int × Int × Bool × Int) (fun x a w => match x with | (kl1, v5, v6, v7, v8, v9) => FW.S M w0 a w 189 [FW.blk bx1 66 ((ApiWord.cells (⟨0, [], 0, 0, 0⟩ : ApiWord)))] [(2, [], .lit (.pointer (some ⟨bx1, 0, none⟩))), (5, [], .lit (.string (FW.B v5))), (6, [], .lit (.int .i64 v6)), (7, [], .lit (.int .u64 v7)), (8, [], .lit (.bool v8)), (9, [], .lit (.int .i64 v9))] ∧ offshootref11_one.l1 K kl1 v5 v6 v7 v8 v9 = some r) (fun x => x.1) (K, t1.1, t1.2, 0, ((decide (0 < t1.2)) && (decide ((List.length t1.1 : Int) = 16))), 0) ⟨hk.sub ⟨rfl, rfl, rfl, rfl, rfl, rfl, trivial⟩, h⟩ ?_
  clear hk h
  rintro ⟨kl1, v5, v6, v7, v8, v9⟩ a w ⟨hk, h⟩ K' hK10
  cases kl1 with
  | zero => simp [offshootref11_one.l1] at h
  | succ kl1 =>
  rw [offshootref11_one.l1.eq_2] at h
  refine FW.wseq ?_; intro K' hK11
  refine FW.wreg ?_; intro K' hK12
  refine FW.lfun (y := .lit (.int .i64 v9)) hk rfl rfl rfl rfl (FW.f_move hk FW.h0 rfl) ?_; clear hk; intro a w hk
  refine FW.lfun (y := .lit (.string (FW.B v5))) hk rfl rfl rfl rfl (FW.f_move hk FW.h0 rfl) ?_; clear hk; intro a w hk
  refine FW.lfun (y := .lit (.int .i64 (List.length v5 : Int))) hk rfl rfl rfl rfl ((FW.f_pure (FW.p_slen Try.underlying9 hk.kn FW.h0 rfl))) ?_; clear hk; intro a w hk
  refine FW.lfun (y := .lit (.bool (decide (v9 < (List.length v5 : Int))))) hk rfl rfl rfl rfl ((FW.f_pure (FW.p_lss hk.kn FW.h0 rfl rfl))) ?_; clear hk; intro a w hk
  refine FW.lfun (y := .lit (.bool (decide (v9 < (List.length v5 : Int))))) hk rfl rfl rfl rfl (FW.f_move hk FW.h0 rfl) ?_; clear hk; intro a w hk
  refine FW.lfunG (y := .lit (.bool v8)) hk rfl rfl rfl rfl rfl rfl rfl rfl (fun hc => FW.f_move hk hc rfl) ?_; clear hk; intro a w hk
  refine FW.lfun (y := .lit (.bool ((decide (v9 < (List.length v5 : Int))) && v8))) hk rfl rfl rfl rfl ((FW.f_pure (FW.p_pick_and hk.kn FW.h0 rfl rfl))) ?_; clear hk; intro a w hk
  refine FW.lend (hK12 _ _ ?_); clear hK12 K'
  refine FW.wcondF (b := ((decide (v9 < (List.length v5 : Int))) && v8)) hk h rfl (fun h hb => ?_) (fun h hb => ?_)
  ·skip
   refine wp_skip ?_
   (repeat first | refine FW.then_normal ?_ | refine FW.block_normal ?_); refine hK11 _ _ ?_
   refine FW.wseq ?_; intro K' hK13
   refine wp_block ?_
   refine FW.wreg ?_; intro K' hK14
   refine FW.lfun (y := .lit (.string (FW.B v5))) hk rfl rfl rfl rfl (FW.f_move hk FW.h0 rfl) ?_; clear hk; intro a w hk
   refine FW.lfun (y := .lit (.int .i64 v9)) hk rfl rfl rfl rfl (FW.f_move hk FW.h0 rfl) ?_; clear hk; intro a w hk
   obtain ⟨hc4, h⟩ := FW.chk h
   refine FW.lfun (y := .lit (.int .u8 (FW.bt v5 v9))) hk rfl rfl rfl rfl ((FW.f_pure (FW.p_index Try.underlying9 hk.kn FW.h0 rfl rfl hc4))) ?_; clear hk; intro a w hk
   obtain ⟨t2, hr_t2, h⟩ := FW.bnd h
   refine FW.lfun (y := .lit (.int .i64 t2)) hk rfl rfl rfl rfl (FW.f_call hk FW.h0 rfl rfl Try.func72 rfl (by kernel_rfl) (offshootref11_digit.ok (FW.bt v5 v9) _ hr_t2)) ?_; clear hk; intro a w hk
   refine FW.lfun (y := .lit (.bool (decide (t2 < 16)))) hk rfl rfl rfl rfl ((FW.f_pure (FW.p_lss hk.kn FW.h0 rfl rfl))) ?_; clear hk; intro a w hk
   refine FW.lfun (y := .lit (.bool (decide (t2 < 16)))) hk rfl rfl rfl rfl (FW.f_assign hk FW.h0 rfl) ?_; clear hk; intro a w hk
   refine FW.lend (hK14 _ _ ?_); clear hK14 K'
   refine FW.wreg1 ?_
   refine FW.lfun (y := .lit (.int .u64 v7)) hk rfl rfl rfl rfl (FW.f_move hk FW.h0 rfl) ?_; clear hk; intro a w hk
   refine FW.lfun (y := .lit (.int .u64 (IntKind.wrap .u64 (v7 * 16)))) hk rfl rfl rfl rfl ((FW.f_pure (FW.p_mul hk.kn FW.h0 rfl rfl))) ?_; clear hk; intro a w hk
   refine FW.lfun (y := .lit (.string (FW.B v5))) hk rfl rfl rfl rfl (FW.f_move hk FW.h0 rfl) ?_; clear hk; intro a w hk
   refine FW.lfun (y := .lit (.int .i64 v9)) hk rfl rfl rfl rfl (FW.f_move hk FW.h0 rfl) ?_; clear hk; intro a w hk
   obtain ⟨hc5, h⟩ := FW.chk h
   refine FW.lfun (y := .lit (.int .u8 (FW.bt v5 v9))) hk rfl rfl rfl rfl ((FW.f_pure (FW.p_index Try.underlying9 hk.kn FW.h0 rfl rfl hc5))) ?_; clear hk; intro a w hk
   obtain ⟨t3, hr_t3, h⟩ := FW.bnd h
   refine FW.lfun (y := .lit (.int .i64 t3)) hk rfl rfl rfl rfl (FW.f_call hk FW.h0 rfl rfl Try.func72 rfl (by kernel_rfl) (offshootref11_digit.ok (FW.bt v5 v9) _ hr_t3)) ?_; clear hk; intro a w hk
   refine FW.lfun (y := .lit (.int .u64 (IntKind.wrap .u64 t3))) hk rfl rfl rfl rfl ((FW.f_pure (FW.p_conv Try.underlying3 Try.underlying77 hk.kn FW.h0 rfl))) ?_; clear hk; intro a w hk
   refine FW.lfun (y := .lit (.int .u64 (IntKind.wrap .u64 ((IntKind.wrap .u64 (v7 * 16)) + (IntKind.wrap .u64 t3))))) hk rfl rfl rfl rfl ((FW.f_pure (FW.p_add hk.kn FW.h0 rfl rfl))) ?_; clear hk; intro a w hk
   refine FW.lfun (y := .lit (.int .u64 (IntKind.wrap .u64 ((IntKind.wrap .u64 (v7 * 16)) + (IntKind.wrap .u64 t3))))) hk rfl rfl rfl rfl (FW.f_assign hk FW.h0 rfl) ?_; clear hk; intro a w hk
   refine wpList_nil ?_
   (repeat first | refine FW.then_normal ?_ | refine FW.block_normal ?_); refine hK13 _ _ ?_
   refine FW.wreg1 ?_
   refine FW.lfun (y := .lit (.int .i64 v9)) hk rfl rfl rfl rfl (FW.f_move hk FW.h0 rfl) ?_; clear hk; intro a w hk
   refine FW.lfun (y := .lit (.int .i64 (IntKind.wrap .i64 (v9 + 1)))) hk rfl rfl rfl rfl ((FW.f_pure (FW.p_add hk.kn FW.h0 rfl rfl))) ?_; clear hk; intro a w hk
   refine FW.lfun (y := .lit (.int .i64 (IntKind.wrap .i64 (v9 + 1)))) hk rfl rfl rfl rfl (FW.f_assign hk FW.h0 rfl) ?_; clear hk; intro a w hk
   refine wpList_nil ?_
   (repeat first | refine FW.then_normal ?_ | refine FW.block_normal ?_); exact hK10 (kl1, v5, v6, (IntKind.wrap .u64 ((IntKind.wrap .u64 (v7 * 16)) + (IntKind.wrap .u64 t3))), (decide (t2 < 16)), (IntKind.wrap .i64 (v9 + 1))) _ _ (Nat.lt_succ_self _) ⟨hk.sub ⟨rfl, rfl, rfl, rfl, rfl, rfl, trivial⟩, h⟩
  ·skip
   refine wp_exit ?_; (repeat first | refine FW.then_exit ?_ | refine FW.block_exit_ne rfl ?_); refine FW.block_exit ?_
   (repeat first | refine FW.then_normal ?_ | refine FW.block_normal ?_); refine hK8 _ _ ?_
   refine FW.wreg ?_; intro K' hK17
   refine FW.lfun (y := .lit (.int .u64 v7)) hk rfl rfl rfl rfl (FW.f_move hk FW.h0 rfl) ?_; clear hk; intro a w hk
   refine FW.lfun (y := .lit (.float .f64 (Int.toNat v7))) hk rfl rfl rfl rfl (FW.f_frombits hk FW.h0 rfl rfl Try.func73 (by kernel_rfl) (by kernel_rfl) (by kernel_rfl) (by kernel_rfl)) ?_; clear hk; intro a w hk
   refine FW.lfun (y := .lit (.float .f64 (Int.toNat v7))) hk rfl rfl rfl rfl (FW.f_assign hk FW.h0 rfl) ?_; clear hk; intro a w hk
   refine FW.lend (hK17 _ _ ?_); clear hK17 K'
   refine FW.wseq ?_; intro K' hK18
   refine FW.wreg ?_; intro K' hK19
   refine FW.lfun (y := .lit (.bool v8)) hk rfl rfl rfl rfl (FW.f_move hk FW.h0 rfl) ?_; clear hk; intro a w hk
   refine FW.lfun (y := .lit (.bool (!v8))) hk rfl rfl rfl rfl ((FW.f_pure (FW.p_not hk.kn FW.h0 rfl))) ?_; clear hk; intro a w hk
   refine FW.lfun (y := .lit (.bool (!v8))) hk rfl rfl rfl rfl (FW.f_move hk FW.h0 rfl) ?_; clear hk; intro a w hk
   refine FW.lfunG (y := .lit (.float .f64 (Int.toNat v7))) hk rfl rfl rfl rfl rfl rfl rfl rfl (fun hc => FW.f_move hk hc rfl) ?_; clear hk; intro a w hk
   obtain ⟨t4, hr_t4, h⟩ := FW.bndG h
   refine FW.lfunG (y := .lit (.int .u64 t4)) hk rfl rfl rfl rfl rfl rfl rfl rfl (fun hc => FW.f_call hk hc rfl rfl Try.func35 rfl (by kernel_rfl) (offshootref01_Canon.ok (Int.toNat v7) _ (hr_t4 (FW.asm_out (p := (!v8) = false) hk.kn hc (fun e0 => e0))))) ?_; clear hk; intro a w hk
   refine FW.lfunG (y := .lit (.int .u64 v7)) hk rfl rfl rfl rfl rfl rfl rfl rfl (fun hc => FW.f_move hk hc rfl) ?_; clear hk; intro a w hk
   refine FW.lfunG (y := .lit (.bool (!decide (t4 = v7)))) hk rfl rfl rfl rfl rfl rfl rfl rfl (fun hc => (FW.f_pure (FW.p_neq hk.kn hc rfl rfl))) ?_; clear hk; intro a w hk
   refine FW.lfun (y := .lit (.bool ((!v8) || (!decide (t4 = v7))))) hk rfl rfl rfl rfl ((FW.f_pure (FW.p_pick_or hk.kn FW.h0 rfl rfl))) ?_; clear hk; intro a w hk
   refine FW.lend (hK19 _ _ ?_); clear hK19 K'
   refine FW.wcondF (b := ((!v8) || (!decide (t4 = v7)))) hk h rfl (fun h hb => ?_) (fun h hb => ?_)
   ·skip
    refine FW.wreg ?_; intro K' hK20
    refine FW.lfun (y := .agg ((ApiWord.cells (⟨0, [], 0, 0, 0⟩ : ApiWord)))) hk rfl rfl rfl rfl (FW.f_build hk FW.h0 rfl rfl) ?_; clear hk; intro a w hk
    refine FW.l_store (I' := [FW.blk bx1 66 ((ApiWord.cells (⟨0, [], 0, 0, 0⟩ : ApiWord)))]) (cs' := (ApiWord.cells (⟨0, [], 0, 0, 0⟩ : ApiWord))) (j := 0) hk rfl rfl rfl rfl rfl (by kernel_rfl) rfl rfl ?_; clear hk; intro w hk
    refine FW.lfun (y := .lit (.int .i64 0)) hk rfl rfl rfl rfl (FW.f_assign hk FW.h0 rfl) ?_; clear hk; intro a w hk
    refine FW.lend (hK20 _ _ ?_); clear hK20 K'
    refine wp_ret ?_
    (repeat first | refine FW.then_ret ?_ | refine FW.block_ret ?_)
    obtain rfl := Option.some.inj h
    exact FW.fretR2 hk rfl (FW.rcell hk rfl (j := 0) rfl Try.underlying66 rfl (by kernel_rfl)) (FW.rtmp hk rfl)
   ·skip
    refine wp_skip ?_
    (repeat first | refine FW.then_normal ?_ | refine FW.block_normal ?_); refine hK18 _ _ ?_
    refine FW.wreg ?_; intro K' hK21
    refine FW.lfun (y := .lit (.float .f64 (Int.toNat v7))) hk rfl rfl rfl rfl (FW.f_move hk FW.h0 rfl) ?_; clear hk; intro a w hk
    refine FW.lfun (y := .agg ((ApiWord.cells (⟨3, [], 0, (Int.toNat v7), 0⟩ : ApiWord)))) hk rfl rfl rfl rfl (FW.f_build hk FW.h0 rfl rfl) ?_; clear hk; intro a w hk
    refine FW.lfun (y := .lit (.int .i64 v6)) hk rfl rfl rfl rfl (FW.f_move hk FW.h0 rfl) ?_; clear hk; intro a w hk
    refine FW.lfun (y := .lit (.int .i64 (IntKind.wrap .i64 (v6 + 1)))) hk rfl rfl rfl rfl ((FW.f_pure (FW.p_add hk.kn FW.h0 rfl rfl))) ?_; clear hk; intro a w hk
    refine FW.l_store (I' := [FW.blk bx1 66 ((ApiWord.cells (⟨3, [], 0, (Int.toNat v7), 0⟩ : ApiWord)))]) (cs' := (ApiWord.cells (⟨3, [], 0, (Int.toNat v7), 0⟩ : ApiWord))) (j := 0) hk rfl rfl rfl rfl rfl (by kernel_rfl) rfl rfl ?_; clear hk; intro w hk
    refine FW.lfun (y := .lit (.int .i64 (IntKind.wrap .i64 (v6 + 1)))) hk rfl rfl rfl rfl (FW.f_assign hk FW.h0 rfl) ?_; clear hk; intro a w hk
    refine FW.lend (hK21 _ _ ?_); clear hK21 K'
    refine wp_ret ?_
    (repeat first | refine FW.then_ret ?_ | refine FW.block_ret ?_)
    obtain rfl := Option.some.inj h
    exact FW.fretR2 hk rfl (FW.rcell hk rfl (j := 0) rfl Try.underlying66 rfl (by kernel_rfl)) (FW.rtmp hk rfl)
 ·skip
  refine FW.wreg ?_; intro K' hK22
  refine FW.lfun (y := .lit (.int .u8 (FW.bt v0 0))) hk rfl rfl rfl rfl (FW.f_move hk FW.h0 rfl) ?_; clear hk; intro a w hk
  refine FW.lfun (y := .lit (.bool (decide ((FW.bt v0 0) = 39)))) hk rfl rfl rfl rfl ((FW.f_pure (FW.p_eql hk.kn FW.h0 rfl rfl))) ?_; clear hk; intro a w hk
  refine FW.lfun (y := .lit (.bool (decide ((FW.bt v0 0) = 39)))) hk rfl rfl rfl rfl (FW.f_assign hk FW.h0 rfl) ?_; clear hk; intro a w hk
  refine FW.lend (hK22 _ _ ?_); clear hK22 K'
  refine FW.wcondF (b := (decide ((FW.bt v0 0) = 39))) hk h rfl (fun h hb => ?_) (fun h hb => ?_)
  ·skip
   refine FW.wreg ?_; intro K' hK23
   refine FW.lfun (y := .lit (.string (FW.B v0))) hk rfl rfl rfl rfl (FW.f_move hk FW.h0 rfl) ?_; clear hk; intro a w hk
   obtain ⟨t5, hr_t5, h⟩ := FW.bnd h
   refine FW.lfun (y := .tup [.lit (.string (FW.B t5.1)), .lit (.int .i64 t5.2)]) hk rfl rfl rfl rfl (FW.f_call hk FW.h0 rfl rfl Try.func71 rfl (by kernel_rfl) (offshootref11_Quoted.ok K v0 _ hr_t5)) ?_; clear hk; intro a w hk
   refine FW.lfun (y := .tup [.lit (.string (FW.B t5.1)), .lit (.int .i64 t5.2)]) hk rfl rfl rfl rfl (FW.f_move hk FW.h0 rfl) ?_; clear hk; intro a w hk
   refine FW.lfun (y := .lit (.string (FW.B t5.1))) hk rfl rfl rfl rfl (FW.f_extract hk FW.h0 rfl rfl) ?_; clear hk; intro a w hk
   refine FW.lfun (y := .lit (.int .i64 t5.2)) hk rfl rfl rfl rfl (FW.f_extract hk FW.h0 rfl rfl) ?_; clear hk; intro a w hk
   refine FW.lfun (y := .lit (.string (FW.B t5.1))) hk rfl rfl rfl rfl (FW.f_assign hk FW.h0 rfl) ?_; clear hk; intro a w hk
   refine FW.lfun (y := .lit (.int .i64 t5.2)) hk rfl rfl rfl rfl (FW.f_assign hk FW.h0 rfl) ?_; clear hk; intro a w hk
   refine FW.lend (hK23 _ _ ?_); clear hK23 K'
   refine FW.wseq ?_; intro K' hK24
   refine FW.wreg ?_; intro K' hK25
   refine FW.lfun (y := .lit (.string (FW.B t5.1))) hk rfl rfl rfl rfl (FW.f_move hk FW.h0 rfl) ?_; clear hk; intro a w hk
   refine FW.lfun (y := .lit (.int .i64 (List.length t5.1 : Int))) hk rfl rfl rfl rfl ((FW.f_pure (FW.p_slen Try.underlying9 hk.kn FW.h0 rfl))) ?_; clear hk; intro a w hk
   refine FW.lfun (y := .lit (.bool (decide (500 < (List.length t5.1 : Int))))) hk rfl rfl rfl rfl ((FW.f_pure (FW.p_gtr hk.kn FW.h0 rfl rfl))) ?_; clear hk; intro a w hk
   refine FW.lend (hK25 _ _ ?_); clear hK25 K'
   refine FW.wcondF (b := (decide (500 < (List.length t5.1 : Int)))) hk h rfl (fun h hb => ?_) (fun h hb => ?_)
   ·skip
    refine FW.wreg ?_; intro K' hK26
    refine FW.lfun (y := .agg ((ApiWord.cells (⟨0, [], 0, 0, 0⟩ : ApiWord)))) hk rfl rfl rfl rfl (FW.f_build hk FW.h0 rfl rfl) ?_; clear hk; intro a w hk
    refine FW.l_store (I' := [FW.blk bx1 66 ((ApiWord.cells (⟨0, [], 0, 0, 0⟩ : ApiWord)))]) (cs' := (ApiWord.cells (⟨0, [], 0, 0, 0⟩ : ApiWord))) (j := 0) hk rfl rfl rfl rfl rfl (by kernel_rfl) rfl rfl ?_; clear hk; intro w hk
    refine FW.lfun (y := .lit (.int .i64 0)) hk rfl rfl rfl rfl (FW.f_assign hk FW.h0 rfl) ?_; clear hk; intro a w hk
    refine FW.lend (hK26 _ _ ?_); clear hK26 K'
    refine wp_ret ?_
    (repeat first | refine FW.then_ret ?_ | refine FW.block_ret ?_)
    obtain rfl := Option.some.inj h
    exact FW.fretR2 hk rfl (FW.rcell hk rfl (j := 0) rfl Try.underlying66 rfl (by kernel_rfl)) (FW.rtmp hk rfl)
   ·skip
    refine wp_skip ?_
    (repeat first | refine FW.then_normal ?_ | refine FW.block_normal ?_); refine hK24 _ _ ?_
    refine FW.wreg ?_; intro K' hK27
    refine FW.lfun (y := .lit (.string (FW.B t5.1))) hk rfl rfl rfl rfl (FW.f_move hk FW.h0 rfl) ?_; clear hk; intro a w hk
    refine FW.lfun (y := .agg ((ApiWord.cells (⟨4, t5.1, 0, 0, 0⟩ : ApiWord)))) hk rfl rfl rfl rfl (FW.f_build hk FW.h0 rfl rfl) ?_; clear hk; intro a w hk
    refine FW.lfun (y := .lit (.int .i64 t5.2)) hk rfl rfl rfl rfl (FW.f_move hk FW.h0 rfl) ?_; clear hk; intro a w hk
    refine FW.l_store (I' := [FW.blk bx1 66 ((ApiWord.cells (⟨4, t5.1, 0, 0, 0⟩ : ApiWord)))]) (cs' := (ApiWord.cells (⟨4, t5.1, 0, 0, 0⟩ : ApiWord))) (j := 0) hk rfl rfl rfl rfl rfl (by kernel_rfl) rfl rfl ?_; clear hk; intro w hk
    refine FW.lfun (y := .lit (.int .i64 t5.2)) hk rfl rfl rfl rfl (FW.f_assign hk FW.h0 rfl) ?_; clear hk; intro a w hk
    refine FW.lend (hK27 _ _ ?_); clear hK27 K'
    refine wp_ret ?_
    (repeat first | refine FW.then_ret ?_ | refine FW.block_ret ?_)
    obtain rfl := Option.some.inj h
    exact FW.fretR2 hk rfl (FW.rcell hk rfl (j := 0) rfl Try.underlying66 rfl (by kernel_rfl)) (FW.rtmp hk rfl)
  ·skip
   refine FW.wreg ?_; intro K' hK28
   refine FW.lfun (y := .lit (.int .u8 (FW.bt v0 0))) hk rfl rfl rfl rfl (FW.f_move hk FW.h0 rfl) ?_; clear hk; intro a w hk
   refine FW.lfun (y := .lit (.bool (decide ((FW.bt v0 0) = 45)))) hk rfl rfl rfl rfl ((FW.f_pure (FW.p_eql hk.kn FW.h0 rfl rfl))) ?_; clear hk; intro a w hk
   refine FW.lfun (y := .lit (.bool (decide ((FW.bt v0 0) = 45)))) hk rfl rfl rfl rfl (FW.f_move hk FW.h0 rfl) ?_; clear hk; intro a w hk
   refine FW.lfunG (y := .lit (.int .u8 (FW.bt v0 0))) hk rfl rfl rfl rfl rfl rfl rfl rfl (fun hc => FW.f_move hk hc rfl) ?_; clear hk; intro a w hk
   refine FW.lfunG (y := .lit (.bool (decide (48 ≤ (FW.bt v0 0))))) hk rfl rfl rfl rfl rfl rfl rfl rfl (fun hc => (FW.f_pure (FW.p_geq hk.kn hc rfl rfl))) ?_; clear hk; intro a w hk
   refine FW.lfunG (y := .lit (.bool (decide (48 ≤ (FW.bt v0 0))))) hk rfl rfl rfl rfl rfl rfl rfl rfl (fun hc => FW.f_move hk hc rfl) ?_; clear hk; intro a w hk
   refine FW.lfunG (y := .lit (.int .u8 (FW.bt v0 0))) hk rfl rfl rfl rfl rfl rfl rfl rfl (fun hc => FW.f_move hk hc rfl) ?_; clear hk; intro a w hk
   refine FW.lfunG (y := .lit (.bool (decide ((FW.bt v0 0) ≤ 57)))) hk rfl rfl rfl rfl rfl rfl rfl rfl (fun hc => (FW.f_pure (FW.p_leq hk.kn hc rfl rfl))) ?_; clear hk; intro a w hk
   refine FW.lfunG (y := .lit (.bool ((decide (48 ≤ (FW.bt v0 0))) && (decide ((FW.bt v0 0) ≤ 57))))) hk rfl rfl rfl rfl rfl rfl rfl rfl (fun hc => (FW.f_pure (FW.p_pick_and hk.kn hc rfl rfl))) ?_; clear hk; intro a w hk
   refine FW.lfun (y := .lit (.bool ((decide ((FW.bt v0 0) = 45)) || ((decide (48 ≤ (FW.bt v0 0))) && (decide ((FW.bt v0 0) ≤ 57)))))) hk rfl rfl rfl rfl ((FW.f_pure (FW.p_pick_or hk.kn FW.h0 rfl rfl))) ?_; clear hk; intro a w hk
   refine FW.lfun (y := .lit (.bool ((decide ((FW.bt v0 0) = 45)) || ((decide (48 ≤ (FW.bt v0 0))) && (decide ((FW.bt v0 0) ≤ 57)))))) hk rfl rfl rfl rfl (FW.f_assign hk FW.h0 rfl) ?_; clear hk; intro a w hk
   refine FW.lend (hK28 _ _ ?_); clear hK28 K'
   refine FW.wcondF (b := ((decide ((FW.bt v0 0) = 45)) || ((decide (48 ≤ (FW.bt v0 0))) && (decide ((FW.bt v0 0) ≤ 57))))) hk h rfl (fun h hb => ?_) (fun h hb => ?_)
   ·skip
    refine FW.wreg ?_; intro K' hK29
    refine FW.lfun (y := .lit (.int .i64 1)) hk rfl rfl rfl rfl (FW.f_assign hk FW.h0 rfl) ?_; clear hk; intro a w hk
    refine FW.lend (hK29 _ _ ?_); clear hK29 K'
    refine FW.wseq ?_; intro K' hK30
    refine wp_block ?_
    refine FW.wloop (T := Nat × List UInt8 × Int) (fun x a w => match x with | (kl2, v0, v13) => FW.S M w0 a w 189 [FW.blk bx1 66 ((ApiWord.cells (⟨0, [], 0, 0, 0⟩ : ApiWord)))] [(0, [], .lit (.string (FW.B v0))), (2, [], .lit (.pointer (some ⟨bx1, 0, none⟩))), (13, [], .lit (.int .i64 v13))] ∧ offshootref11_one.l2 K kl2 v0 v13 = some r) (fun x => x.1) (K, v0, 1) ⟨hk.sub ⟨rfl, rfl, rfl, trivial⟩, h⟩ ?_
    clear hk h
    rintro ⟨kl2, v0, v13⟩ a w ⟨hk, h⟩ K' hK31
    cases kl2 with
    | zero => simp [offshootref11_one.l2] at h
    | succ kl2 =>
    rw [offshootref11_one.l2.eq_2] at h
    refine FW.wseq ?_; intro K' hK32
    refine FW.wreg ?_; intro K' hK33
    refine FW.lfun (y := .lit (.int .i64 v13)) hk rfl rfl rfl rfl (FW.f_move hk FW.h0 rfl) ?_; clear hk; intro a w hk
    refine FW.lfun (y := .lit (.string (FW.B v0))) hk rfl rfl rfl rfl (FW.f_move hk FW.h0 rfl) ?_; clear hk; intro a w hk
    refine FW.lfun (y := .lit (.int .i64 (List.length v0 : Int))) hk rfl rfl rfl rfl ((FW.f_pure (FW.p_slen Try.underlying9 hk.kn FW.h0 rfl))) ?_; clear hk; intro a w hk
    refine FW.lfun (y := .lit (.bool (decide (v13 < (List.length v0 : Int))))) hk rfl rfl rfl rfl ((FW.f_pure (FW.p_lss hk.kn FW.h0 rfl rfl))) ?_; clear hk; intro a w hk
    refine FW.lfun (y := .lit (.bool (decide (v13 < (List.length v0 : Int))))) hk rfl rfl rfl rfl (FW.f_move hk FW.h0 rfl) ?_; clear hk; intro a w hk
    refine FW.lfunG (y := .lit (.string (FW.B v0))) hk rfl rfl rfl rfl rfl rfl rfl rfl (fun hc => FW.f_move hk hc rfl) ?_; clear hk; intro a w hk
    refine FW.lfunG (y := .lit (.int .i64 v13)) hk rfl rfl rfl rfl rfl rfl rfl rfl (fun hc => FW.f_move hk hc rfl) ?_; clear hk; intro a w hk
    obtain ⟨hc6, h⟩ := FW.chk h
    refine FW.lfunG (y := .lit (.int .u8 (FW.bt v0 v13))) hk rfl rfl rfl rfl rfl rfl rfl rfl (fun hc => (FW.f_pure (FW.p_index Try.underlying9 hk.kn hc rfl rfl hc6))) ?_; clear hk; intro a w hk
    refine FW.lfunG (y := .lit (.bool (decide (48 ≤ (FW.bt v0 v13))))) hk rfl rfl rfl rfl rfl rfl rfl rfl (fun hc => (FW.f_pure (FW.p_geq hk.kn hc rfl rfl))) ?_; clear hk; intro a w hk
    refine FW.lfun (y := .lit (.bool ((decide (v13 < (List.length v0 : Int))) && (decide (48 ≤ (FW.bt v0 v13)))))) hk rfl rfl rfl rfl ((FW.f_pure (FW.p_pick_and hk.kn FW.h0 rfl rfl))) ?_; clear hk; intro a w hk
    refine FW.lfun (y := .lit (.bool ((decide (v13 < (List.length v0 : Int))) && (decide (48 ≤ (FW.bt v0 v13)))))) hk rfl rfl rfl rfl (FW.f_move hk FW.h0 rfl) ?_; clear hk; intro a w hk
    refine FW.lfunG (y := .lit (.string (FW.B v0))) hk rfl rfl rfl rfl rfl rfl rfl rfl (fun hc => FW.f_move hk hc rfl) ?_; clear hk; intro a w hk
    refine FW.lfunG (y := .lit (.int .i64 v13)) hk rfl rfl rfl rfl rfl rfl rfl rfl (fun hc => FW.f_move hk hc rfl) ?_; clear hk; intro a w hk
    obtain ⟨hc7, h⟩ := FW.chk h
    refine FW.lfunG (y := .lit (.int .u8 (FW.bt v0 v13))) hk rfl rfl rfl rfl rfl rfl rfl rfl (fun hc => (FW.f_pure (FW.p_index Try.underlying9 hk.kn hc rfl rfl hc7))) ?_; clear hk; intro a w hk
    refine FW.lfunG (y := .lit (.bool (decide ((FW.bt v0 v13) ≤ 57)))) hk rfl rfl rfl rfl rfl rfl rfl rfl (fun hc => (FW.f_pure (FW.p_leq hk.kn hc rfl rfl))) ?_; clear hk; intro a w hk
    refine FW.lfun (y := .lit (.bool (((decide (v13 < (List.length v0 : Int))) && (decide (48 ≤ (FW.bt v0 v13)))) && (decide ((FW.bt v0 v13) ≤ 57))))) hk rfl rfl rfl rfl ((FW.f_pure (FW.p_pick_and hk.kn FW.h0 rfl rfl))) ?_; clear hk; intro a w hk
    refine FW.lend (hK33 _ _ ?_); clear hK33 K'
    refine FW.wcondF (b := (((decide (v13 < (List.length v0 : Int))) && (decide (48 ≤ (FW.bt v0 v13)))) && (decide ((FW.bt v0 v13) ≤ 57)))) hk h rfl (fun h hb => ?_) (fun h hb => ?_)
    ·skip
     refine wp_skip ?_
     (repeat first | refine FW.then_normal ?_ | refine FW.block_normal ?_); refine hK32 _ _ ?_
     refine wp_block ?_
     refine FW.wreg1 ?_
     refine FW.lfun (y := .lit (.int .i64 v13)) hk rfl rfl rfl rfl (FW.f_move hk FW.h0 rfl) ?_; clear hk; intro a w hk
     refine FW.lfun (y := .lit (.int .i64 (IntKind.wrap .i64 (v13 + 1)))) hk rfl rfl rfl rfl ((FW.f_pure (FW.p_add hk.kn FW.h0 rfl rfl))) ?_; clear hk; intro a w hk
     refine FW.lfun (y := .lit (.int .i64 (IntKind.wrap .i64 (v13 + 1)))) hk rfl rfl rfl rfl (FW.f_assign hk FW.h0 rfl) ?_; clear hk; intro a w hk
     refine wpList_nil ?_
     (repeat first | refine FW.then_normal ?_ | refine FW.block_normal ?_); exact hK31 (kl2, v0, (IntKind.wrap .i64 (v13 + 1))) _ _ (Nat.lt_succ_self _) ⟨hk.sub ⟨rfl, rfl, rfl, trivial⟩, h⟩
    ·skip
     refine wp_exit ?_; (repeat first | refine FW.then_exit ?_ | refine FW.block_exit_ne rfl ?_); refine FW.block_exit ?_
     (repeat first | refine FW.then_normal ?_ | refine FW.block_normal ?_); refine hK30 _ _ ?_
     refine FW.wreg ?_; intro K' hK35
     refine FW.lfun (y := .lit (.string (FW.B v0))) hk rfl rfl rfl rfl (FW.f_move hk FW.h0 rfl) ?_; clear hk; intro a w hk
     refine FW.lfun (y := .lit (.int .i64 v13)) hk rfl rfl rfl rfl (FW.f_move hk FW.h0 rfl) ?_; clear hk; intro a w hk
     obtain ⟨hc8, h⟩ := FW.chk h
     refine FW.lfun (y := .lit (.string (FW.B (List.take (Int.toNat v13) v0)))) hk rfl rfl rfl rfl ((FW.f_pure (FW.p_slice_hi Try.underlying9 hk.kn FW.h0 rfl rfl hc8))) ?_; clear hk; intro a w hk
     obtain ⟨t6, hr_t6, h⟩ := FW.bnd h
     refine FW.lfun (y := .tup [.lit (.int .i64 t6.1), .lit (.bool t6.2)]) hk rfl rfl rfl rfl (FW.f_call hk FW.h0 rfl rfl Try.func74 rfl (by kernel_rfl) (offshootref11_Int.ok K (List.take (Int.toNat v13) v0) _ hr_t6)) ?_; clear hk; intro a w hk
     refine FW.lfun (y := .tup [.lit (.int .i64 t6.1), .lit (.bool t6.2)]) hk rfl rfl rfl rfl (FW.f_move hk FW.h0 rfl) ?_; clear hk; intro a w hk
     refine FW.lfun (y := .lit (.int .i64 t6.1)) hk rfl rfl rfl rfl (FW.f_extract hk FW.h0 rfl rfl) ?_; clear hk; intro a w hk
     refine FW.lfun (y := .lit (.bool t6.2)) hk rfl rfl rfl rfl (FW.f_extract hk FW.h0 rfl rfl) ?_; clear hk; intro a w hk
     refine FW.lfun (y := .lit (.int .i64 t6.1)) hk rfl rfl rfl rfl (FW.f_assign hk FW.h0 rfl) ?_; clear hk; intro a w hk
     refine FW.lfun (y := .lit (.bool t6.2)) hk rfl rfl rfl rfl (FW.f_assign hk FW.h0 rfl) ?_; clear hk; intro a w hk
     refine FW.lend (hK35 _ _ ?_); clear hK35 K'
     refine FW.wseq ?_; intro K' hK36
     refine FW.wreg ?_; intro K' hK37
     refine FW.lfun (y := .lit (.bool t6.2)) hk rfl rfl rfl rfl (FW.f_move hk FW.h0 rfl) ?_; clear hk; intro a w hk
     refine FW.lfun (y := .lit (.bool (!t6.2))) hk rfl rfl rfl rfl ((FW.f_pure (FW.p_not hk.kn FW.h0 rfl))) ?_; clear hk; intro a w hk
     refine FW.lend (hK37 _ _ ?_); clear hK37 K'
     refine FW.wcondF (b := (!t6.2)) hk h rfl (fun h hb => ?_) (fun h hb => ?_)
     ·skip
      refine FW.wreg ?_; intro K' hK38
      refine FW.lfun (y := .agg ((ApiWord.cells (⟨0, [], 0, 0, 0⟩ : ApiWord)))) hk rfl rfl rfl rfl (FW.f_build hk FW.h0 rfl rfl) ?_; clear hk; intro a w hk
      refine FW.l_store (I' := [FW.blk bx1 66 ((ApiWord.cells (⟨0, [], 0, 0, 0⟩ : ApiWord)))]) (cs' := (ApiWord.cells (⟨0, [], 0, 0, 0⟩ : ApiWord))) (j := 0) hk rfl rfl rfl rfl rfl (by kernel_rfl) rfl rfl ?_; clear hk; intro w hk
      refine FW.lfun (y := .lit (.int .i64 0)) hk rfl rfl rfl rfl (FW.f_assign hk FW.h0 rfl) ?_; clear hk; intro a w hk
      refine FW.lend (hK38 _ _ ?_); clear hK38 K'
      refine wp_ret ?_
      (repeat first | refine FW.then_ret ?_ | refine FW.block_ret ?_)
      obtain rfl := Option.some.inj h
      exact FW.fretR2 hk rfl (FW.rcell hk rfl (j := 0) rfl Try.underlying66 rfl (by kernel_rfl)) (FW.rtmp hk rfl)
     ·skip
      refine wp_skip ?_
      (repeat first | refine FW.then_normal ?_ | refine FW.block_normal ?_); refine hK36 _ _ ?_
      refine FW.wreg ?_; intro K' hK39
      refine FW.lfun (y := .lit (.int .i64 t6.1)) hk rfl rfl rfl rfl (FW.f_move hk FW.h0 rfl) ?_; clear hk; intro a w hk
      refine FW.lfun (y := .agg ((ApiWord.cells (⟨2, [], t6.1, 0, 0⟩ : ApiWord)))) hk rfl rfl rfl rfl (FW.f_build hk FW.h0 rfl rfl) ?_; clear hk; intro a w hk
      refine FW.lfun (y := .lit (.int .i64 v13)) hk rfl rfl rfl rfl (FW.f_move hk FW.h0 rfl) ?_; clear hk; intro a w hk
      refine FW.l_store (I' := [FW.blk bx1 66 ((ApiWord.cells (⟨2, [], t6.1, 0, 0⟩ : ApiWord)))]) (cs' := (ApiWord.cells (⟨2, [], t6.1, 0, 0⟩ : ApiWord))) (j := 0) hk rfl rfl rfl rfl rfl (by kernel_rfl) rfl rfl ?_; clear hk; intro w hk
      refine FW.lfun (y := .lit (.int .i64 v13)) hk rfl rfl rfl rfl (FW.f_assign hk FW.h0 rfl) ?_; clear hk; intro a w hk
      refine FW.lend (hK39 _ _ ?_); clear hK39 K'
      refine wp_ret ?_
      (repeat first | refine FW.then_ret ?_ | refine FW.block_ret ?_)
      obtain rfl := Option.some.inj h
      exact FW.fretR2 hk rfl (FW.rcell hk rfl (j := 0) rfl Try.underlying66 rfl (by kernel_rfl)) (FW.rtmp hk rfl)
   ·skip
    refine FW.wreg ?_; intro K' hK40
    refine FW.lfun (y := .lit (.int .u8 (FW.bt v0 0))) hk rfl rfl rfl rfl (FW.f_move hk FW.h0 rfl) ?_; clear hk; intro a w hk
    obtain ⟨t7, hr_t7, h⟩ := FW.bnd h
    refine FW.lfun (y := .lit (.bool t7)) hk rfl rfl rfl rfl (FW.f_call hk FW.h0 rfl rfl Try.func75 rfl (by kernel_rfl) (offshootref11_letter.ok (FW.bt v0 0) _ hr_t7)) ?_; clear hk; intro a w hk
    refine FW.lfun (y := .lit (.bool t7)) hk rfl rfl rfl rfl (FW.f_assign hk FW.h0 rfl) ?_; clear hk; intro a w hk
    refine FW.lend (hK40 _ _ ?_); clear hK40 K'
    refine FW.wcondF (b := t7) hk h rfl (fun h hb => ?_) (fun h hb => ?_)
    ·skip
     refine FW.wreg ?_; intro K' hK41
     refine FW.lfun (y := .lit (.int .i64 1)) hk rfl rfl rfl rfl (FW.f_assign hk FW.h0 rfl) ?_; clear hk; intro a w hk
     refine FW.lend (hK41 _ _ ?_); clear hK41 K'
     refine FW.wseq ?_; intro K' hK42
     refine wp_block ?_
     refine FW.wloop (T := Nat × List UInt8 × Int) (fun x a w => match x with | (kl3, v0, v16) => FW.S M w0 a w 189 [FW.blk bx1 66 ((ApiWord.cells (⟨0, [], 0, 0, 0⟩ : ApiWord)))] [(0, [], .lit (.string (FW.B v0))), (2, [], .lit (.pointer (some ⟨bx1, 0, none⟩))), (16, [], .lit (.int .i64 v16))] ∧ offshootref11_one.l3 K kl3 v0 v16 = some r) (fun x => x.1) (K, v0, 1) ⟨hk.sub ⟨rfl, rfl, rfl, trivial⟩, h⟩ ?_
     clear hk h
     rintro ⟨kl3, v0, v16⟩ a w ⟨hk, h⟩ K' hK43
     cases kl3 with
     | zero => simp [offshootref11_one.l3] at h
     | succ kl3 =>
     rw [offshootref11_one.l3.eq_2] at h
     refine FW.wseq ?_; intro K' hK44
     refine FW.wreg ?_; intro K' hK45
     refine FW.lfun (y := .lit (.int .i64 v16)) hk rfl rfl rfl rfl (FW.f_move hk FW.h0 rfl) ?_; clear hk; intro a w hk
     refine FW.lfun (y := .lit (.string (FW.B v0))) hk rfl rfl rfl rfl (FW.f_move hk FW.h0 rfl) ?_; clear hk; intro a w hk
     refine FW.lfun (y := .lit (.int .i64 (List.length v0 : Int))) hk rfl rfl rfl rfl ((FW.f_pure (FW.p_slen Try.underlying9 hk.kn FW.h0 rfl))) ?_; clear hk; intro a w hk
     refine FW.lfun (y := .lit (.bool (decide (v16 < (List.length v0 : Int))))) hk rfl rfl rfl rfl ((FW.f_pure (FW.p_lss hk.kn FW.h0 rfl rfl))) ?_; clear hk; intro a w hk
     refine FW.lfun (y := .lit (.bool (decide (v16 < (List.length v0 : Int))))) hk rfl rfl rfl rfl (FW.f_move hk FW.h0 rfl) ?_; clear hk; intro a w hk
     refine FW.lfunG (y := .lit (.string (FW.B v0))) hk rfl rfl rfl rfl rfl rfl rfl rfl (fun hc => FW.f_move hk hc rfl) ?_; clear hk; intro a w hk
     refine FW.lfunG (y := .lit (.int .i64 v16)) hk rfl rfl rfl rfl rfl rfl rfl rfl (fun hc => FW.f_move hk hc rfl) ?_; clear hk; intro a w hk
     obtain ⟨hc9, h⟩ := FW.chk h
     refine FW.lfunG (y := .lit (.int .u8 (FW.bt v0 v16))) hk rfl rfl rfl rfl rfl rfl rfl rfl (fun hc => (FW.f_pure (FW.p_index Try.underlying9 hk.kn hc rfl rfl hc9))) ?_; clear hk; intro a w hk
     obtain ⟨t8, hr_t8, h⟩ := FW.bndG h
     refine FW.lfunG (y := .lit (.bool t8)) hk rfl rfl rfl rfl rfl rfl rfl rfl (fun hc => FW.f_call hk hc rfl rfl Try.func75 rfl (by kernel_rfl) (offshootref11_letter.ok (FW.bt v0 v16) _ (hr_t8 (FW.asm_out (p := (decide (v16 < (List.length v0 : Int))) = true) hk.kn hc (fun e0 => e0))))) ?_; clear hk; intro a w hk
     refine FW.lfun (y := .lit (.bool ((decide (v16 < (List.length v0 : Int))) && t8))) hk rfl rfl rfl rfl ((FW.f_pure (FW.p_pick_and hk.kn FW.h0 rfl rfl))) ?_; clear hk; intro a w hk
     refine FW.lend (hK45 _ _ ?_); clear hK45 K'
     refine FW.wcondF (b := ((decide (v16 < (List.length v0 : Int))) && t8)) hk h rfl (fun h hb => ?_) (fun h hb => ?_)
     ·skip
      refine wp_skip ?_
      (repeat first | refine FW.then_normal ?_ | refine FW.block_normal ?_); refine hK44 _ _ ?_
      refine wp_block ?_
      refine FW.wreg1 ?_
      refine FW.lfun (y := .lit (.int .i64 v16)) hk rfl rfl rfl rfl (FW.f_move hk FW.h0 rfl) ?_; clear hk; intro a w hk
      refine FW.lfun (y := .lit (.int .i64 (IntKind.wrap .i64 (v16 + 1)))) hk rfl rfl rfl rfl ((FW.f_pure (FW.p_add hk.kn FW.h0 rfl rfl))) ?_; clear hk; intro a w hk
      refine FW.lfun (y := .lit (.int .i64 (IntKind.wrap .i64 (v16 + 1)))) hk rfl rfl rfl rfl (FW.f_assign hk FW.h0 rfl) ?_; clear hk; intro a w hk
      refine wpList_nil ?_
      (repeat first | refine FW.then_normal ?_ | refine FW.block_normal ?_); exact hK43 (kl3, v0, (IntKind.wrap .i64 (v16 + 1))) _ _ (Nat.lt_succ_self _) ⟨hk.sub ⟨rfl, rfl, rfl, trivial⟩, h⟩
     ·skip
      refine wp_exit ?_; (repeat first | refine FW.then_exit ?_ | refine FW.block_exit_ne rfl ?_); refine FW.block_exit ?_
      (repeat first | refine FW.then_normal ?_ | refine FW.block_normal ?_); refine hK42 _ _ ?_
      refine FW.wseq ?_; intro K' hK47
      refine FW.wreg ?_; intro K' hK48
      refine FW.lfun (y := .lit (.int .i64 v16)) hk rfl rfl rfl rfl (FW.f_move hk FW.h0 rfl) ?_; clear hk; intro a w hk
      refine FW.lfun (y := .lit (.bool (decide (16 < v16)))) hk rfl rfl rfl rfl ((FW.f_pure (FW.p_gtr hk.kn FW.h0 rfl rfl))) ?_; clear hk; intro a w hk
      refine FW.lend (hK48 _ _ ?_); clear hK48 K'
      refine FW.wcondF (b := (decide (16 < v16))) hk h rfl (fun h hb => ?_) (fun h hb => ?_)
      ·skip
       refine FW.wreg ?_; intro K' hK49
       refine FW.lfun (y := .agg ((ApiWord.cells (⟨0, [], 0, 0, 0⟩ : ApiWord)))) hk rfl rfl rfl rfl (FW.f_build hk FW.h0 rfl rfl) ?_; clear hk; intro a w hk
       refine FW.l_store (I' := [FW.blk bx1 66 ((ApiWord.cells (⟨0, [], 0, 0, 0⟩ : ApiWord)))]) (cs' := (ApiWord.cells (⟨0, [], 0, 0, 0⟩ : ApiWord))) (j := 0) hk rfl rfl rfl rfl rfl (by kernel_rfl) rfl rfl ?_; clear hk; intro w hk
       refine FW.lfun (y := .lit (.int .i64 0)) hk rfl rfl rfl rfl (FW.f_assign hk FW.h0 rfl) ?_; clear hk; intro a w hk
       refine FW.lend (hK49 _ _ ?_); clear hK49 K'
       refine wp_ret ?_
       (repeat first | refine FW.then_ret ?_ | refine FW.block_ret ?_)
       obtain rfl := Option.some.inj h
       exact FW.fretR2 hk rfl (FW.rcell hk rfl (j := 0) rfl Try.underlying66 rfl (by kernel_rfl)) (FW.rtmp hk rfl)
      ·skip
       refine wp_skip ?_
       (repeat first | refine FW.then_normal ?_ | refine FW.block_normal ?_); refine hK47 _ _ ?_
       refine FW.wreg ?_; intro K' hK50
       refine FW.lfun (y := .lit (.string (FW.B v0))) hk rfl rfl rfl rfl (FW.f_move hk FW.h0 rfl) ?_; clear hk; intro a w hk
       refine FW.lfun (y := .lit (.int .i64 v16)) hk rfl rfl rfl rfl (FW.f_move hk FW.h0 rfl) ?_; clear hk; intro a w hk
       obtain ⟨hc10, h⟩ := FW.chk h
       refine FW.lfun (y := .lit (.string (FW.B (List.take (Int.toNat v16) v0)))) hk rfl rfl rfl rfl ((FW.f_pure (FW.p_slice_hi Try.underlying9 hk.kn FW.h0 rfl rfl hc10))) ?_; clear hk; intro a w hk
       refine FW.lfun (y := .agg ((ApiWord.cells (⟨1, (List.take (Int.toNat v16) v0), 0, 0, 0⟩ : ApiWord)))) hk rfl rfl rfl rfl (FW.f_build hk FW.h0 rfl rfl) ?_; clear hk; intro a w hk
       refine FW.lfun (y := .lit (.int .i64 v16)) hk rfl rfl rfl rfl (FW.f_move hk FW.h0 rfl) ?_; clear hk; intro a w hk
       refine FW.l_store (I' := [FW.blk bx1 66 ((ApiWord.cells (⟨1, (List.take (Int.toNat v16) v0), 0, 0, 0⟩ : ApiWord)))]) (cs' := (ApiWord.cells (⟨1, (List.take (Int.toNat v16) v0), 0, 0, 0⟩ : ApiWord))) (j := 0) hk rfl rfl rfl rfl rfl (by kernel_rfl) rfl rfl ?_; clear hk; intro w hk
       refine FW.lfun (y := .lit (.int .i64 v16)) hk rfl rfl rfl rfl (FW.f_assign hk FW.h0 rfl) ?_; clear hk; intro a w hk
       refine FW.lend (hK50 _ _ ?_); clear hK50 K'
       refine wp_ret ?_
       (repeat first | refine FW.then_ret ?_ | refine FW.block_ret ?_)
       obtain rfl := Option.some.inj h
       exact FW.fretR2 hk rfl (FW.rcell hk rfl (j := 0) rfl Try.underlying66 rfl (by kernel_rfl)) (FW.rtmp hk rfl)
    ·skip
     refine FW.wreg ?_; intro K' hK51
     refine FW.lfun (y := .lit (.int .u8 (FW.bt v0 0))) hk rfl rfl rfl rfl (FW.f_move hk FW.h0 rfl) ?_; clear hk; intro a w hk
     refine FW.lfun (y := .lit (.bool (decide ((FW.bt v0 0) = 46)))) hk rfl rfl rfl rfl ((FW.f_pure (FW.p_eql hk.kn FW.h0 rfl rfl))) ?_; clear hk; intro a w hk
     refine FW.lfun (y := .lit (.bool (decide ((FW.bt v0 0) = 46)))) hk rfl rfl rfl rfl (FW.f_move hk FW.h0 rfl) ?_; clear hk; intro a w hk
     refine FW.lfunG (y := .lit (.int .u8 (FW.bt v0 0))) hk rfl rfl rfl rfl rfl rfl rfl rfl (fun hc => FW.f_move hk hc rfl) ?_; clear hk; intro a w hk
     refine FW.lfunG (y := .lit (.bool (decide ((FW.bt v0 0) = 40)))) hk rfl rfl rfl rfl rfl rfl rfl rfl (fun hc => (FW.f_pure (FW.p_eql hk.kn hc rfl rfl))) ?_; clear hk; intro a w hk
     refine FW.lfun (y := .lit (.bool ((decide ((FW.bt v0 0) = 46)) || (decide ((FW.bt v0 0) = 40))))) hk rfl rfl rfl rfl ((FW.f_pure (FW.p_pick_or hk.kn FW.h0 rfl rfl))) ?_; clear hk; intro a w hk
     refine FW.lfun (y := .lit (.bool ((decide ((FW.bt v0 0) = 46)) || (decide ((FW.bt v0 0) = 40))))) hk rfl rfl rfl rfl (FW.f_move hk FW.h0 rfl) ?_; clear hk; intro a w hk
     refine FW.lfunG (y := .lit (.int .u8 (FW.bt v0 0))) hk rfl rfl rfl rfl rfl rfl rfl rfl (fun hc => FW.f_move hk hc rfl) ?_; clear hk; intro a w hk
     refine FW.lfunG (y := .lit (.bool (decide ((FW.bt v0 0) = 41)))) hk rfl rfl rfl rfl rfl rfl rfl rfl (fun hc => (FW.f_pure (FW.p_eql hk.kn hc rfl rfl))) ?_; clear hk; intro a w hk
     refine FW.lfun (y := .lit (.bool (((decide ((FW.bt v0 0) = 46)) || (decide ((FW.bt v0 0) = 40))) || (decide ((FW.bt v0 0) = 41))))) hk rfl rfl rfl rfl ((FW.f_pure (FW.p_pick_or hk.kn FW.h0 rfl rfl))) ?_; clear hk; intro a w hk
     refine FW.lfun (y := .lit (.bool (((decide ((FW.bt v0 0) = 46)) || (decide ((FW.bt v0 0) = 40))) || (decide ((FW.bt v0 0) = 41))))) hk rfl rfl rfl rfl (FW.f_move hk FW.h0 rfl) ?_; clear hk; intro a w hk
     refine FW.lfunG (y := .lit (.int .u8 (FW.bt v0 0))) hk rfl rfl rfl rfl rfl rfl rfl rfl (fun hc => FW.f_move hk hc rfl) ?_; clear hk; intro a w hk
     refine FW.lfunG (y := .lit (.bool (decide ((FW.bt v0 0) = 44)))) hk rfl rfl rfl rfl rfl rfl rfl rfl (fun hc => (FW.f_pure (FW.p_eql hk.kn hc rfl rfl))) ?_; clear hk; intro a w hk
     refine FW.lfun (y := .lit (.bool ((((decide ((FW.bt v0 0) = 46)) || (decide ((FW.bt v0 0) = 40))) || (decide ((FW.bt v0 0) = 41))) || (decide ((FW.bt v0 0) = 44))))) hk rfl rfl rfl rfl ((FW.f_pure (FW.p_pick_or hk.kn FW.h0 rfl rfl))) ?_; clear hk; intro a w hk
     refine FW.lfun (y := .lit (.bool ((((decide ((FW.bt v0 0) = 46)) || (decide ((FW.bt v0 0) = 40))) || (decide ((FW.bt v0 0) = 41))) || (decide ((FW.bt v0 0) = 44))))) hk rfl rfl rfl rfl (FW.f_move hk FW.h0 rfl) ?_; clear hk; intro a w hk
     refine FW.lfunG (y := .lit (.int .u8 (FW.bt v0 0))) hk rfl rfl rfl rfl rfl rfl rfl rfl (fun hc => FW.f_move hk hc rfl) ?_; clear hk; intro a w hk
     refine FW.lfunG (y := .lit (.bool (decide ((FW.bt v0 0) = 91)))) hk rfl rfl rfl rfl rfl rfl rfl rfl (fun hc => (FW.f_pure (FW.p_eql hk.kn hc rfl rfl))) ?_; clear hk; intro a w hk
     refine FW.lfun (y := .lit (.bool (((((decide ((FW.bt v0 0) = 46)) || (decide ((FW.bt v0 0) = 40))) || (decide ((FW.bt v0 0) = 41))) || (decide ((FW.bt v0 0) = 44))) || (decide ((FW.bt v0 0) = 91))))) hk rfl rfl rfl rfl ((FW.f_pure (FW.p_pick_or hk.kn FW.h0 rfl rfl))) ?_; clear hk; intro a w hk
     refine FW.lfun (y := .lit (.bool (((((decide ((FW.bt v0 0) = 46)) || (decide ((FW.bt v0 0) = 40))) || (decide ((FW.bt v0 0) = 41))) || (decide ((FW.bt v0 0) = 44))) || (decide ((FW.bt v0 0) = 91))))) hk rfl rfl rfl rfl (FW.f_move hk FW.h0 rfl) ?_; clear hk; intro a w hk
     refine FW.lfunG (y := .lit (.int .u8 (FW.bt v0 0))) hk rfl rfl rfl rfl rfl rfl rfl rfl (fun hc => FW.f_move hk hc rfl) ?_; clear hk; intro a w hk
     refine FW.lfunG (y := .lit (.bool (decide ((FW.bt v0 0) = 93)))) hk rfl rfl rfl rfl rfl rfl rfl rfl (fun hc => (FW.f_pure (FW.p_eql hk.kn hc rfl rfl))) ?_; clear hk; intro a w hk
     refine FW.lfun (y := .lit (.bool ((((((decide ((FW.bt v0 0) = 46)) || (decide ((FW.bt v0 0) = 40))) || (decide ((FW.bt v0 0) = 41))) || (decide ((FW.bt v0 0) = 44))) || (decide ((FW.bt v0 0) = 91))) || (decide ((FW.bt v0 0) = 93))))) hk rfl rfl rfl rfl ((FW.f_pure (FW.p_pick_or hk.kn FW.h0 rfl rfl))) ?_; clear hk; intro a w hk
     refine FW.lfun (y := .lit (.bool ((((((decide ((FW.bt v0 0) = 46)) || (decide ((FW.bt v0 0) = 40))) || (decide ((FW.bt v0 0) = 41))) || (decide ((FW.bt v0 0) = 44))) || (decide ((FW.bt v0 0) = 91))) || (decide ((FW.bt v0 0) = 93))))) hk rfl rfl rfl rfl (FW.f_assign hk FW.h0 rfl) ?_; clear hk; intro a w hk
     refine FW.lend (hK51 _ _ ?_); clear hK51 K'
     refine FW.wcondF (b := ((((((decide ((FW.bt v0 0) = 46)) || (decide ((FW.bt v0 0) = 40))) || (decide ((FW.bt v0 0) = 41))) || (decide ((FW.bt v0 0) = 44))) || (decide ((FW.bt v0 0) = 91))) || (decide ((FW.bt v0 0) = 93)))) hk h rfl (fun h hb => ?_) (fun h hb => ?_)
     ·skip
      refine FW.wreg ?_; intro K' hK52
      refine FW.lfun (y := .lit (.string (FW.B v0))) hk rfl rfl rfl rfl (FW.f_move hk FW.h0 rfl) ?_; clear hk; intro a w hk
      obtain ⟨hc11, h⟩ := FW.chk h
      refine FW.lfun (y := .lit (.string (FW.B (List.take (Int.toNat 1) v0)))) hk rfl rfl rfl rfl ((FW.f_pure (FW.p_slice_hi Try.underlying9 hk.kn FW.h0 rfl rfl hc11))) ?_; clear hk; intro a w hk
      refine FW.lfun (y := .agg ((ApiWord.cells (⟨5, (List.take (Int.toNat 1) v0), 0, 0, 0⟩ : ApiWord)))) hk rfl rfl rfl rfl (FW.f_build hk FW.h0 rfl rfl) ?_; clear hk; intro a w hk
      refine FW.l_store (I' := [FW.blk bx1 66 ((ApiWord.cells (⟨5, (List.take (Int.toNat 1) v0), 0, 0, 0⟩ : ApiWord)))]) (cs' := (ApiWord.cells (⟨5, (List.take (Int.toNat 1) v0), 0, 0, 0⟩ : ApiWord))) (j := 0) hk rfl rfl rfl rfl rfl (by kernel_rfl) rfl rfl ?_; clear hk; intro w hk
      refine FW.lfun (y := .lit (.int .i64 1)) hk rfl rfl rfl rfl (FW.f_assign hk FW.h0 rfl) ?_; clear hk; intro a w hk
      refine FW.lend (hK52 _ _ ?_); clear hK52 K'
      refine wp_ret ?_
      (repeat first | refine FW.then_ret ?_ | refine FW.block_ret ?_)
      obtain rfl := Option.some.inj h
      exact FW.fretR2 hk rfl (FW.rcell hk rfl (j := 0) rfl Try.underlying66 rfl (by kernel_rfl)) (FW.rtmp hk rfl)
     ·skip
      refine wp_skip ?_
      (repeat first | refine FW.then_normal ?_ | refine FW.block_normal ?_); refine hK3 _ _ ?_
      refine FW.wreg ?_; intro K' hK53
      refine FW.lfun (y := .agg ((ApiWord.cells (⟨0, [], 0, 0, 0⟩ : ApiWord)))) hk rfl rfl rfl rfl (FW.f_build hk FW.h0 rfl rfl) ?_; clear hk; intro a w hk
      refine FW.l_store (I' := [FW.blk bx1 66 ((ApiWord.cells (⟨0, [], 0, 0, 0⟩ : ApiWord)))]) (cs' := (ApiWord.cells (⟨0, [], 0, 0, 0⟩ : ApiWord))) (j := 0) hk rfl rfl rfl rfl rfl (by kernel_rfl) rfl rfl ?_; clear hk; intro w hk
      refine FW.lfun (y := .lit (.int .i64 0)) hk rfl rfl rfl rfl (FW.f_assign hk FW.h0 rfl) ?_; clear hk; intro a w hk
      refine FW.lend (hK53 _ _ ?_); clear hK53 K'
      refine wp_ret ?_
      (repeat first | refine FW.then_ret ?_ | refine FW.block_ret ?_)
      obtain rfl := Option.some.inj h
      exact FW.fretR2 hk rfl (FW.rcell hk rfl (j := 0) rfl Try.underlying66 rfl (by kernel_rfl)) (FW.rtmp hk rfl)
end Go.Proofs.Ytbjbgodcenopnaa

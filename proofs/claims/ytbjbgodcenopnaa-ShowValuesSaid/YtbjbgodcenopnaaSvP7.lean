/- Written by a program of this session (gen.py): the contracts of functions of the program. -/
import Derived.KernelRfl
import Derived.Test.YtbjbgodcenopnaaProg
import Derived.Test.YtbjbgodcenopnaaAvFun
import Derived.Test.YtbjbgodcenopnaaAvMan
import Derived.Test.YtbjbgodcenopnaaAvMore
import Derived.Test.YtbjbgodcenopnaaAvDraw2
import Derived.Test.YtbjbgodcenopnaaAvRow
import Derived.Test.YtbjbgodcenopnaaAvBld
import Derived.Test.YtbjbgodcenopnaaHcl
import Derived.Test.YtbjbgodcenopnaaAvFl
import Derived.Test.YtbjbgodcenopnaaSvD
import Derived.Test.YtbjbgodcenopnaaSvP6
namespace Go.Proofs.Ytbjbgodcenopnaa
set_option linter.unusedVariables false
set_option maxRecDepth 20000
set_option maxHeartbeats 10000000
theorem offshootref11_Words.ok (K : Nat) (v0 : List UInt8) (r : List ApiWord × Int × Int) (h : offshootref11_Words.f K v0 = some r) :
  FW.Ok Try.prog 25 [.lit (.string (FW.B v0))] (.tup [.row (r_ApiWord_cells r.1), .lit (.int .i64 r.2.1), .lit (.int .i64 r.2.2)]) := by
 refine FW.enter (xs := [.lit (.string (FW.B v0))]) Try.func25 rfl Try.ntmps25 rfl ?_
 intro M w0 a hk
 unfold offshootref11_Words.f at h
 refine FW.wreg ?_; intro K' hK1
 refine FW.lfun (y := .row (r_ApiWord_cells [])) hk rfl rfl rfl rfl (FW.f_assignNil) ?_; clear hk; intro a w hk
 refine FW.lfun (y := .lit (.int .i64 0)) hk rfl rfl rfl rfl (FW.f_assign hk FW.h0 rfl) ?_; clear hk; intro a w hk
 refine FW.lfun (y := .lit (.int .i64 0)) hk rfl rfl rfl rfl (FW.f_assign hk FW.h0 rfl) ?_; clear hk; intro a w hk
 refine FW.lend (hK1 _ _ ?_); clear hK1 K'
 refine FW.wseq ?_; intro K' hK2
 refine FW.wreg ?_; intro K' hK3
 refine FW.lfun (y := .lit (.string (FW.B v0))) hk rfl rfl rfl rfl (FW.f_move hk FW.h0 rfl) ?_; clear hk; intro a w hk
 refine FW.lfun (y := .lit (.int .i64 (List.length v0 : Int))) hk rfl rfl rfl rfl ((FW.f_pure (FW.p_slen Try.underlying9 hk.kn FW.h0 rfl))) ?_; clear hk; intro a w hk
 refine FW.lfun (y := .lit (.bool (decide (3000 < (List.length v0 : Int))))) hk rfl rfl rfl rfl ((FW.f_pure (FW.p_gtr hk.kn FW.h0 rfl rfl))) ?_; clear hk; intro a w hk
 refine FW.lend (hK3 _ _ ?_); clear hK3 K'
 refine FW.wcondF (b := (decide (3000 < (List.length v0 : Int)))) hk h rfl (fun h hb => ?_) (fun h hb => ?_)
 ·skip
  refine FW.wreg ?_; intro K' hK4
  refine FW.lfun (y := .row (r_ApiWord_cells [])) hk rfl rfl rfl rfl (FW.f_assignNil) ?_; clear hk; intro a w hk
  refine FW.lfun (y := .lit (.int .i64 3000)) hk rfl rfl rfl rfl (FW.f_assign hk FW.h0 rfl) ?_; clear hk; intro a w hk
  refine FW.lfun (y := .lit (.int .i64 3)) hk rfl rfl rfl rfl (FW.f_assign hk FW.h0 rfl) ?_; clear hk; intro a w hk
  refine FW.lend (hK4 _ _ ?_); clear hK4 K'
  refine wp_ret ?_
  (repeat first | refine FW.then_ret ?_ | refine FW.block_ret ?_)
  obtain rfl := Option.some.inj h
  exact FW.fret3 hk rfl rfl rfl rfl
 ·skip
  refine wp_skip ?_
  (repeat first | refine FW.then_normal ?_ | refine FW.block_normal ?_); refine hK2 _ _ ?_
  refine FW.wreg ?_; intro K' hK5
  refine FW.l_buildSlice0 (f := ApiWord.cells) hk rfl rfl Try.underlying60 rfl (fun _ => rfl) ?_; clear hk; intro bx1 a w hk
  refine FW.lfun (y := .lit (.slice (some ⟨bx1, 0, none⟩) (List.length ([] : List ApiWord)) 0)) hk rfl rfl rfl rfl (FW.f_assign hk FW.h0 rfl) ?_; clear hk; intro a w hk
  refine FW.lend (hK5 _ _ ?_); clear hK5 K'
  refine FW.wseq ?_; intro K' hK6
  refine FW.wreg ?_; intro K' hK7
  refine FW.lfun (y := .lit (.int .i64 0)) hk rfl rfl rfl rfl (FW.f_assign hk FW.h0 rfl) ?_; clear hk; intro a w hk
  refine FW.lend (hK7 _ _ ?_); clear hK7 K'
  refine wp_block ?_
  refine FW.wloop (T := Nat × List ApiWord × List UInt8 × Int × Option Addr × Nat) (fun x a w => match x with | (kl1, l1, v0, v6, xd1, xc1) => FW.S M w0 a w 52 [FW.orow xd1 xc1 66 5 ApiWord.cells l1] [(0, [], .lit (.string (FW.B v0))), (5, [], .lit (.slice xd1 (List.length l1) xc1)), (6, [], .lit (.int .i64 v6))] ∧ offshootref11_Words.l1 K kl1 l1 v0 v6 = some r) (fun x => x.1) (K, ([] : List ApiWord), v0, 0, (some ⟨bx1, 0, none⟩), 0) ⟨hk.sub ⟨rfl, rfl, rfl, trivial⟩, h⟩ ?_
  clear hk h
  rintro ⟨kl1, l1, v0, v6, xd1, xc1⟩ a w ⟨hk, h⟩ K' hK8
  cases kl1 with
  | zero => simp [offshootref11_Words.l1] at h
  | succ kl1 =>
  rw [offshootref11_Words.l1.eq_2] at h
  refine FW.wseq ?_; intro K' hK9
  refine FW.wreg ?_; intro K' hK10
  refine FW.lfun (y := .lit (.int .i64 v6)) hk rfl rfl rfl rfl (FW.f_move hk FW.h0 rfl) ?_; clear hk; intro a w hk
  refine FW.lfun (y := .lit (.string (FW.B v0))) hk rfl rfl rfl rfl (FW.f_move hk FW.h0 rfl) ?_; clear hk; intro a w hk
  refine FW.lfun (y := .lit (.int .i64 (List.length v0 : Int))) hk rfl rfl rfl rfl ((FW.f_pure (FW.p_slen Try.underlying9 hk.kn FW.h0 rfl))) ?_; clear hk; intro a w hk
  refine FW.lfun (y := .lit (.bool (decide (v6 < (List.length v0 : Int))))) hk rfl rfl rfl rfl ((FW.f_pure (FW.p_lss hk.kn FW.h0 rfl rfl))) ?_; clear hk; intro a w hk
  refine FW.lend (hK10 _ _ ?_); clear hK10 K'
  refine FW.wcondF (b := (decide (v6 < (List.length v0 : Int)))) hk h rfl (fun h hb => ?_) (fun h hb => ?_)
  ·skip
   refine wp_skip ?_
   (repeat first | refine FW.then_normal ?_ | refine FW.block_normal ?_); refine hK9 _ _ ?_
   refine wp_block ?_
   refine FW.wseq ?_; intro K' hK11
   refine FW.wreg ?_; intro K' hK12
   refine FW.lfun (y := .lit (.string (FW.B v0))) hk rfl rfl rfl rfl (FW.f_move hk FW.h0 rfl) ?_; clear hk; intro a w hk
   refine FW.lfun (y := .lit (.int .i64 v6)) hk rfl rfl rfl rfl (FW.f_move hk FW.h0 rfl) ?_; clear hk; intro a w hk
   obtain ⟨hc1, h⟩ := FW.chk h
   refine FW.lfun (y := .lit (.int .u8 (FW.bt v0 v6))) hk rfl rfl rfl rfl ((FW.f_pure (FW.p_index Try.underlying9 hk.kn FW.h0 rfl rfl hc1))) ?_; clear hk; intro a w hk
   refine FW.lfun (y := .lit (.bool (decide ((FW.bt v0 v6) = 32)))) hk rfl rfl rfl rfl ((FW.f_pure (FW.p_eql hk.kn FW.h0 rfl rfl))) ?_; clear hk; intro a w hk
   refine FW.lend (hK12 _ _ ?_); clear hK12 K'
   refine FW.wcondF (b := (decide ((FW.bt v0 v6) = 32))) hk h rfl (fun h hb => ?_) (fun h hb => ?_)
   ·skip
    refine FW.wreg ?_; intro K' hK13
    refine FW.lfun (y := .lit (.int .i64 v6)) hk rfl rfl rfl rfl (FW.f_move hk FW.h0 rfl) ?_; clear hk; intro a w hk
    refine FW.lfun (y := .lit (.int .i64 (IntKind.wrap .i64 (v6 + 1)))) hk rfl rfl rfl rfl ((FW.f_pure (FW.p_add hk.kn FW.h0 rfl rfl))) ?_; clear hk; intro a w hk
    refine FW.lfun (y := .lit (.int .i64 (IntKind.wrap .i64 (v6 + 1)))) hk rfl rfl rfl rfl (FW.f_assign hk FW.h0 rfl) ?_; clear hk; intro a w hk
    refine FW.lend (hK13 _ _ ?_); clear hK13 K'
    refine wp_exit ?_; (repeat first | refine FW.then_exit ?_ | refine FW.block_exit_ne rfl ?_); refine FW.block_exit ?_
    (repeat first | refine FW.then_normal ?_ | refine FW.block_normal ?_); exact hK8 (kl1, l1, v0, (IntKind.wrap .i64 (v6 + 1)), xd1, xc1) _ _ (Nat.lt_succ_self _) ⟨hk.sub ⟨rfl, rfl, rfl, trivial⟩, h⟩
   ·skip
    refine wp_skip ?_
    (repeat first | refine FW.then_normal ?_ | refine FW.block_normal ?_); refine hK11 _ _ ?_
    refine FW.wreg ?_; intro K' hK14
    refine FW.lfun (y := .lit (.string (FW.B v0))) hk rfl rfl rfl rfl (FW.f_move hk FW.h0 rfl) ?_; clear hk; intro a w hk
    refine FW.lfun (y := .lit (.int .i64 v6)) hk rfl rfl rfl rfl (FW.f_move hk FW.h0 rfl) ?_; clear hk; intro a w hk
    obtain ⟨hc2, h⟩ := FW.chk h
    refine FW.lfun (y := .lit (.string (FW.B (List.drop (Int.toNat v6) v0)))) hk rfl rfl rfl rfl ((FW.f_pure (FW.p_slice_lo Try.underlying9 hk.kn FW.h0 rfl rfl hc2))) ?_; clear hk; intro a w hk
    obtain ⟨t1, hr_t1, h⟩ := FW.bnd h
    refine FW.lfun (y := .tup [.agg ((ApiWord.cells t1.1)), .lit (.int .i64 t1.2)]) hk rfl rfl rfl rfl (FW.f_call hk FW.h0 rfl rfl Try.func50 rfl (by kernel_rfl) (offshootref11_one.ok K (List.drop (Int.toNat v6) v0) _ hr_t1)) ?_; clear hk; intro a w hk
    refine FW.lfun (y := .tup [.agg ((ApiWord.cells t1.1)), .lit (.int .i64 t1.2)]) hk rfl rfl rfl rfl (FW.f_move hk FW.h0 rfl) ?_; clear hk; intro a w hk
    refine FW.lfun (y := .agg ((ApiWord.cells t1.1))) hk rfl rfl rfl rfl (FW.f_extract hk FW.h0 rfl rfl) ?_; clear hk; intro a w hk
    refine FW.lfun (y := .lit (.int .i64 t1.2)) hk rfl rfl rfl rfl (FW.f_extract hk FW.h0 rfl rfl) ?_; clear hk; intro a w hk
    refine FW.l_alloc (zs := (ApiWord.cells (⟨0, [], 0, 0, 0⟩ : ApiWord))) [] hk rfl rfl rfl rfl ?_; clear hk; intro bx2 a w hk
    refine FW.l_store (I' := [FW.blk bx2 66 ((ApiWord.cells t1.1)), FW.orow xd1 xc1 66 5 ApiWord.cells l1]) (cs' := (ApiWord.cells t1.1)) (j := 0) hk rfl rfl rfl rfl rfl (by kernel_rfl) rfl rfl ?_; clear hk; intro w hk
    refine FW.lfun (y := .lit (.int .i64 t1.2)) hk rfl rfl rfl rfl (FW.f_assign hk FW.h0 rfl) ?_; clear hk; intro a w hk
    refine FW.lend (hK14 _ _ ?_); clear hK14 K'
    refine FW.wseq ?_; intro K' hK15
    refine FW.wreg ?_; intro K' hK16
    refine FW.lfun (y := .lit (.int .i64 t1.2)) hk rfl rfl rfl rfl (FW.f_move hk FW.h0 rfl) ?_; clear hk; intro a w hk
    refine FW.lfun (y := .lit (.bool (decide (t1.2 = 0)))) hk rfl rfl rfl rfl ((FW.f_pure (FW.p_eql hk.kn FW.h0 rfl rfl))) ?_; clear hk; intro a w hk
    refine FW.lend (hK16 _ _ ?_); clear hK16 K'
    refine FW.wcondF (b := (decide (t1.2 = 0))) hk h rfl (fun h hb => ?_) (fun h hb => ?_)
    ·skip
     refine FW.wreg ?_; intro K' hK17
     refine FW.lfun (y := .lit (.int .i64 v6)) hk rfl rfl rfl rfl (FW.f_move hk FW.h0 rfl) ?_; clear hk; intro a w hk
     refine FW.lfun (y := .row (r_ApiWord_cells [])) hk rfl rfl rfl rfl (FW.f_assignNil) ?_; clear hk; intro a w hk
     refine FW.lfun (y := .lit (.int .i64 v6)) hk rfl rfl rfl rfl (FW.f_assign hk FW.h0 rfl) ?_; clear hk; intro a w hk
     refine FW.lfun (y := .lit (.int .i64 110)) hk rfl rfl rfl rfl (FW.f_assign hk FW.h0 rfl) ?_; clear hk; intro a w hk
     refine FW.lend (hK17 _ _ ?_); clear hK17 K'
     refine wp_ret ?_
     (repeat first | refine FW.then_ret ?_ | refine FW.block_ret ?_)
     obtain rfl := Option.some.inj h
     exact FW.fret3 hk rfl rfl rfl rfl
    ·skip
     refine wp_skip ?_
     (repeat first | refine FW.then_normal ?_ | refine FW.block_normal ?_); refine hK15 _ _ ?_
     refine FW.wseq ?_; intro K' hK18
     refine FW.wreg ?_; intro K' hK19
     refine FW.lfun (y := .lit (.slice xd1 (List.length l1) xc1)) hk rfl rfl rfl rfl (FW.f_move hk FW.h0 rfl) ?_; clear hk; intro a w hk
     refine FW.lfun (y := .lit (.int .i64 (List.length l1 : Int))) hk rfl rfl rfl rfl ((FW.f_pure (FW.p_len Try.underlying60 hk.kn FW.h0 rfl))) ?_; clear hk; intro a w hk
     refine FW.lfun (y := .lit (.bool (decide ((List.length l1 : Int) = 1500)))) hk rfl rfl rfl rfl ((FW.f_pure (FW.p_eql hk.kn FW.h0 rfl rfl))) ?_; clear hk; intro a w hk
     refine FW.lend (hK19 _ _ ?_); clear hK19 K'
     refine FW.wcondF (b := (decide ((List.length l1 : Int) = 1500))) hk h rfl (fun h hb => ?_) (fun h hb => ?_)
     ·skip
      refine FW.wreg ?_; intro K' hK20
      refine FW.lfun (y := .lit (.int .i64 v6)) hk rfl rfl rfl rfl (FW.f_move hk FW.h0 rfl) ?_; clear hk; intro a w hk
      refine FW.lfun (y := .row (r_ApiWord_cells [])) hk rfl rfl rfl rfl (FW.f_assignNil) ?_; clear hk; intro a w hk
      refine FW.lfun (y := .lit (.int .i64 v6)) hk rfl rfl rfl rfl (FW.f_assign hk FW.h0 rfl) ?_; clear hk; intro a w hk
      refine FW.lfun (y := .lit (.int .i64 3)) hk rfl rfl rfl rfl (FW.f_assign hk FW.h0 rfl) ?_; clear hk; intro a w hk
      refine FW.lend (hK20 _ _ ?_); clear hK20 K'
      refine wp_ret ?_
      (repeat first | refine FW.then_ret ?_ | refine FW.block_ret ?_)
      obtain rfl := Option.some.inj h
      exact FW.fret3 hk rfl rfl rfl rfl
     ·skip
      refine wp_skip ?_
      (repeat first | refine FW.then_normal ?_ | refine FW.block_normal ?_); refine hK18 _ _ ?_
      refine FW.wreg ?_; intro K' hK21
      refine FW.lfun (y := .lit (.int .i64 v6)) hk rfl rfl rfl rfl (FW.f_move hk FW.h0 rfl) ?_; clear hk; intro a w hk
      refine FW.lfun (y := .lit (.pointer (some ⟨bx2, 4, none⟩))) hk rfl rfl rfl rfl (FW.f_fieldPtr hk FW.h0 rfl Try.underlying66 rfl (by kernel_rfl) rfl) ?_; clear hk; intro a w hk
      refine FW.l_store (I' := [FW.blk bx2 66 ((ApiWord.cells (⟨t1.1.Kind, t1.1.S, t1.1.N, t1.1.F, v6⟩ : ApiWord))), FW.orow xd1 xc1 66 5 ApiWord.cells l1]) (cs' := (ApiWord.cells (⟨t1.1.Kind, t1.1.S, t1.1.N, t1.1.F, v6⟩ : ApiWord))) (j := 0) hk rfl rfl rfl rfl rfl (by kernel_rfl) rfl rfl ?_; clear hk; intro w hk
      refine FW.lend (hK21 _ _ ?_); clear hK21 K'
      refine FW.wreg1 ?_
      refine FW.lfun (y := .lit (.slice xd1 (List.length l1) xc1)) hk rfl rfl rfl rfl (FW.f_move hk FW.h0 rfl) ?_; clear hk; intro a w hk
      refine FW.lfun (y := .agg ((ApiWord.cells (⟨t1.1.Kind, t1.1.S, t1.1.N, t1.1.F, v6⟩ : ApiWord)))) hk rfl rfl rfl rfl (FW.f_loadBlk hk FW.h0 (j := 0) rfl rfl Try.underlying66 rfl rfl rfl rfl) ?_; clear hk; intro a w hk
      refine FW.l_buildSlice (f := ApiWord.cells) (l := ([(⟨t1.1.Kind, t1.1.S, t1.1.N, t1.1.F, v6⟩ : ApiWord)] : List ApiWord)) hk rfl rfl rfl Try.underlying60 rfl rfl rfl rfl (fun _ => rfl) rfl ?_; clear hk; intro bx3 a w hk
      obtain ⟨hc3, h⟩ := FW.chk h
      refine FW.l_append (l2 := ([(⟨t1.1.Kind, t1.1.S, t1.1.N, t1.1.F, v6⟩ : ApiWord)] : List ApiWord)) (l3 := (l1 ++ ([(⟨t1.1.Kind, t1.1.S, t1.1.N, t1.1.F, v6⟩ : ApiWord)] : List ApiWord))) (I' := fun ad1 cap1 => [FW.orow (some ⟨bx3, 0, none⟩) 1 66 5 ApiWord.cells ([(⟨t1.1.Kind, t1.1.S, t1.1.N, t1.1.F, v6⟩ : ApiWord)] : List ApiWord), FW.blk bx2 66 ((ApiWord.cells (⟨t1.1.Kind, t1.1.S, t1.1.N, t1.1.F, v6⟩ : ApiWord))), FW.orow ad1 cap1 66 5 ApiWord.cells (l1 ++ ([(⟨t1.1.Kind, t1.1.S, t1.1.N, t1.1.F, v6⟩ : ApiWord)] : List ApiWord))]) (j := 2) hk rfl rfl rfl rfl (FW.own_src hk (j := 0) rfl rfl (fun _ => rfl) Try.underlying60) Try.underlying60 (by kernel_rfl) hc3 rfl (fun _ _ => rfl) ?_; clear hk; intro ad1 cap1 a w hk
      replace hk := FW.S.dropI (I' := [FW.blk bx2 66 ((ApiWord.cells (⟨t1.1.Kind, t1.1.S, t1.1.N, t1.1.F, v6⟩ : ApiWord))), FW.orow ad1 cap1 66 5 ApiWord.cells (l1 ++ ([(⟨t1.1.Kind, t1.1.S, t1.1.N, t1.1.F, v6⟩ : ApiWord)] : List ApiWord))]) hk 0 rfl
      refine FW.lfun (y := .lit (.int .i64 v6)) hk rfl rfl rfl rfl (FW.f_move hk FW.h0 rfl) ?_; clear hk; intro a w hk
      refine FW.lfun (y := .lit (.int .i64 t1.2)) hk rfl rfl rfl rfl (FW.f_move hk FW.h0 rfl) ?_; clear hk; intro a w hk
      refine FW.lfun (y := .lit (.int .i64 (IntKind.wrap .i64 (v6 + t1.2)))) hk rfl rfl rfl rfl ((FW.f_pure (FW.p_add hk.kn FW.h0 rfl rfl))) ?_; clear hk; intro a w hk
      refine FW.lfun (y := .lit (.slice ad1 (List.length (l1 ++ ([(⟨t1.1.Kind, t1.1.S, t1.1.N, t1.1.F, v6⟩ : ApiWord)] : List ApiWord))) cap1)) hk rfl rfl rfl rfl (FW.f_assign hk FW.h0 rfl) ?_; clear hk; intro a w hk
      refine FW.lfun (y := .lit (.int .i64 (IntKind.wrap .i64 (v6 + t1.2)))) hk rfl rfl rfl rfl (FW.f_assign hk FW.h0 rfl) ?_; clear hk; intro a w hk
      refine wpList_nil ?_
      (repeat first | refine FW.then_normal ?_ | refine FW.block_normal ?_); exact hK8 (kl1, (l1 ++ ([(⟨t1.1.Kind, t1.1.S, t1.1.N, t1.1.F, v6⟩ : ApiWord)] : List ApiWord)), v0, (IntKind.wrap .i64 (v6 + t1.2)), ad1, cap1) _ _ (Nat.lt_succ_self _) ⟨(hk.drop 0).sub ⟨rfl, rfl, rfl, trivial⟩, h⟩
  ·skip
   refine wp_exit ?_; (repeat first | refine FW.then_exit ?_ | refine FW.block_exit_ne rfl ?_); refine FW.block_exit ?_
   (repeat first | refine FW.then_normal ?_ | refine FW.block_normal ?_); refine hK6 _ _ ?_
   refine FW.wreg ?_; intro K' hK23
   refine FW.lfun (y := .lit (.slice xd1 (List.length l1) xc1)) hk rfl rfl rfl rfl (FW.f_move hk FW.h0 rfl) ?_; clear hk; intro a w hk
   refine FW.lfun (y := .lit (.string (FW.B v0))) hk rfl rfl rfl rfl (FW.f_move hk FW.h0 rfl) ?_; clear hk; intro a w hk
   refine FW.lfun (y := .lit (.int .i64 (List.length v0 : Int))) hk rfl rfl rfl rfl ((FW.f_pure (FW.p_slen Try.underlying9 hk.kn FW.h0 rfl))) ?_; clear hk; intro a w hk
   refine FW.lfun (y := .agg ((ApiWord.cells (⟨0, [], 0, 0, (List.length v0 : Int)⟩ : ApiWord)))) hk rfl rfl rfl rfl (FW.f_build hk FW.h0 rfl rfl) ?_; clear hk; intro a w hk
   refine FW.l_buildSlice (f := ApiWord.cells) (l := ([(⟨0, [], 0, 0, (List.length v0 : Int)⟩ : ApiWord)] : List ApiWord)) hk rfl rfl rfl Try.underlying60 rfl rfl rfl rfl (fun _ => rfl) rfl ?_; clear hk; intro bx4 a w hk
   obtain ⟨hc4, h⟩ := FW.chk h
   refine FW.l_append (l2 := ([(⟨0, [], 0, 0, (List.length v0 : Int)⟩ : ApiWord)] : List ApiWord)) (l3 := (l1 ++ ([(⟨0, [], 0, 0, (List.length v0 : Int)⟩ : ApiWord)] : List ApiWord))) (I' := fun ad2 cap2 => [FW.orow (some ⟨bx4, 0, none⟩) 1 66 5 ApiWord.cells ([(⟨0, [], 0, 0, (List.length v0 : Int)⟩ : ApiWord)] : List ApiWord), FW.orow ad2 cap2 66 5 ApiWord.cells (l1 ++ ([(⟨0, [], 0, 0, (List.length v0 : Int)⟩ : ApiWord)] : List ApiWord))]) (j := 1) hk rfl rfl rfl rfl (FW.own_src hk (j := 0) rfl rfl (fun _ => rfl) Try.underlying60) Try.underlying60 (by kernel_rfl) hc4 rfl (fun _ _ => rfl) ?_; clear hk; intro ad2 cap2 a w hk
   replace hk := FW.S.dropI (I' := [FW.orow ad2 cap2 66 5 ApiWord.cells (l1 ++ ([(⟨0, [], 0, 0, (List.length v0 : Int)⟩ : ApiWord)] : List ApiWord))]) hk 0 rfl
   refine FW.lfun (y := .lit (.slice ad2 (List.length (l1 ++ ([(⟨0, [], 0, 0, (List.length v0 : Int)⟩ : ApiWord)] : List ApiWord))) cap2)) hk rfl rfl rfl rfl (FW.f_assign hk FW.h0 rfl) ?_; clear hk; intro a w hk
   refine FW.lfun (y := .lit (.int .i64 0)) hk rfl rfl rfl rfl (FW.f_assign hk FW.h0 rfl) ?_; clear hk; intro a w hk
   refine FW.lfun (y := .lit (.int .i64 0)) hk rfl rfl rfl rfl (FW.f_assign hk FW.h0 rfl) ?_; clear hk; intro a w hk
   refine FW.lend (hK23 _ _ ?_); clear hK23 K'
   refine wp_ret ?_
   (repeat first | refine FW.then_ret ?_ | refine FW.block_ret ?_)
   replace hk := FW.S.freezeR (I' := []) r_ApiWord_cells_eq hk (j := 0) rfl (t := 2) rfl rfl
   obtain rfl := Option.some.inj h
   exact FW.fret3 hk rfl rfl rfl rfl

theorem offshootref12_State_is.ok  (v0 : Offshootref12State) (v1 : List UInt8) (r : Bool) (h : offshootref12_State_is.f v0 v1 = some r) :
  FW.Ok Try.prog 51 [.agg (Offshootref12State.cells v0), .lit (.string (FW.B v1))] (.lit (.bool r)) := by
 refine FW.enter (xs := [.agg (Offshootref12State.cells v0), .lit (.string (FW.B v1))]) Try.func51 rfl Try.ntmps51 rfl ?_
 intro M w0 a hk
 unfold offshootref12_State_is.f at h
 refine FW.wreg ?_; intro K' hK1
 refine FW.l_box (cs := (Offshootref12State.cells v0)) hk rfl rfl rfl rfl rfl ?_; clear hk; intro bx1 a w hk
 refine FW.lfun (y := .lit (.bool false)) hk rfl rfl rfl rfl (FW.f_assign hk FW.h0 rfl) ?_; clear hk; intro a w hk
 refine FW.lend (hK1 _ _ ?_); clear hK1 K'
 refine FW.wreg ?_; intro K' hK2
 refine FW.lfun (y := .lit (.pointer (some ⟨bx1, 5, none⟩))) hk rfl rfl rfl rfl (FW.f_fieldPtr hk FW.h0 rfl Try.underlying64 rfl (by kernel_rfl) rfl) ?_; clear hk; intro a w hk
 refine FW.lfun (y := .lit (.int .i64 v0.E)) hk rfl rfl rfl rfl (FW.f_loadBlk1 hk FW.h0 (j := 0) rfl rfl Try.underlying23 rfl rfl) ?_; clear hk; intro a w hk
 refine FW.lfun (y := .lit (.bool (decide (v0.E = 0)))) hk rfl rfl rfl rfl ((FW.f_pure (FW.p_eql hk.kn FW.h0 rfl rfl))) ?_; clear hk; intro a w hk
 refine FW.lfun (y := .lit (.bool (decide (v0.E = 0)))) hk rfl rfl rfl rfl (FW.f_move hk FW.h0 rfl) ?_; clear hk; intro a w hk
 refine FW.lfunG (y := .lit (.pointer (some ⟨bx1, 0, none⟩))) hk rfl rfl rfl rfl rfl rfl rfl rfl (fun hc => FW.f_fieldPtr hk hc rfl Try.underlying64 rfl (by kernel_rfl) rfl) ?_; clear hk; intro a w hk
 refine FW.lfunG (y := .row (r_ApiWord_cells v0.L)) hk rfl rfl rfl rfl rfl rfl rfl rfl (fun hc => FW.f_loadBlk1 hk hc (j := 0) rfl rfl Try.underlying60 rfl rfl) ?_; clear hk; intro a w hk
 refine FW.lfunG (y := .lit (.pointer (some ⟨bx1, 1, none⟩))) hk rfl rfl rfl rfl rfl rfl rfl rfl (fun hc => FW.f_fieldPtr hk hc rfl Try.underlying64 rfl (by kernel_rfl) rfl) ?_; clear hk; intro a w hk
 refine FW.lfunG (y := .lit (.int .i64 v0.I)) hk rfl rfl rfl rfl rfl rfl rfl rfl (fun hc => FW.f_loadBlk1 hk hc (j := 0) rfl rfl Try.underlying3 rfl rfl) ?_; clear hk; intro a w hk
 obtain ⟨hc1, h⟩ := FW.chk h
 refine FW.lfunG (y := .ref (ApiWord.cells (List.getD v0.L (Int.toNat v0.I) default))) hk rfl rfl rfl rfl rfl rfl rfl rfl (fun hc => FW.f_indexAddr (R := r_ApiWord_cells) (f := ApiWord.cells) (l := v0.L) (sz := 5) r_ApiWord_cells_eq (fun _ => rfl) hk hc rfl rfl Try.underlying60 (by kernel_rfl) hc1) ?_; clear hk; intro a w hk
 refine FW.lfunG (y := .ref (List.drop 0 (ApiWord.cells (List.getD v0.L (Int.toNat v0.I) default)))) hk rfl rfl rfl rfl rfl rfl rfl rfl (fun hc => FW.f_fieldAddr hk hc rfl Try.underlying66 rfl (by kernel_rfl) rfl) ?_; clear hk; intro a w hk
 refine FW.lfunG (y := .lit (.int .i64 ((List.getD v0.L (Int.toNat v0.I) default).Kind))) hk rfl rfl rfl rfl rfl rfl rfl rfl (fun hc => FW.f_load1 hk hc rfl rfl Try.underlying3 rfl) ?_; clear hk; intro a w hk
 refine FW.lfunG (y := .lit (.bool (decide (((List.getD v0.L (Int.toNat v0.I) default).Kind) = 5)))) hk rfl rfl rfl rfl rfl rfl rfl rfl (fun hc => (FW.f_pure (FW.p_eql hk.kn hc rfl rfl))) ?_; clear hk; intro a w hk
 refine FW.lfun (y := .lit (.bool ((decide (v0.E = 0)) && (decide (((List.getD v0.L (Int.toNat v0.I) default).Kind) = 5))))) hk rfl rfl rfl rfl ((FW.f_pure (FW.p_pick_and hk.kn FW.h0 rfl rfl))) ?_; clear hk; intro a w hk
 refine FW.lfun (y := .lit (.bool ((decide (v0.E = 0)) && (decide (((List.getD v0.L (Int.toNat v0.I) default).Kind) = 5))))) hk rfl rfl rfl rfl (FW.f_move hk FW.h0 rfl) ?_; clear hk; intro a w hk
 refine FW.lfunG (y := .lit (.pointer (some ⟨bx1, 0, none⟩))) hk rfl rfl rfl rfl rfl rfl rfl rfl (fun hc => FW.f_fieldPtr hk hc rfl Try.underlying64 rfl (by kernel_rfl) rfl) ?_; clear hk; intro a w hk
 refine FW.lfunG (y := .row (r_ApiWord_cells v0.L)) hk rfl rfl rfl rfl rfl rfl rfl rfl (fun hc => FW.f_loadBlk1 hk hc (j := 0) rfl rfl Try.underlying60 rfl rfl) ?_; clear hk; intro a w hk
 refine FW.lfunG (y := .lit (.pointer (some ⟨bx1, 1, none⟩))) hk rfl rfl rfl rfl rfl rfl rfl rfl (fun hc => FW.f_fieldPtr hk hc rfl Try.underlying64 rfl (by kernel_rfl) rfl) ?_; clear hk; intro a w hk
 refine FW.lfunG (y := .lit (.int .i64 v0.I)) hk rfl rfl rfl rfl rfl rfl rfl rfl (fun hc => FW.f_loadBlk1 hk hc (j := 0) rfl rfl Try.underlying3 rfl rfl) ?_; clear hk; intro a w hk
 obtain ⟨hc2, h⟩ := FW.chk h
 refine FW.lfunG (y := .ref (ApiWord.cells (List.getD v0.L (Int.toNat v0.I) default))) hk rfl rfl rfl rfl rfl rfl rfl rfl (fun hc => FW.f_indexAddr (R := r_ApiWord_cells) (f := ApiWord.cells) (l := v0.L) (sz := 5) r_ApiWord_cells_eq (fun _ => rfl) hk hc rfl rfl Try.underlying60 (by kernel_rfl) hc2) ?_; clear hk; intro a w hk
 refine FW.lfunG (y := .ref (List.drop 1 (ApiWord.cells (List.getD v0.L (Int.toNat v0.I) default)))) hk rfl rfl rfl rfl rfl rfl rfl rfl (fun hc => FW.f_fieldAddr hk hc rfl Try.underlying66 rfl (by kernel_rfl) rfl) ?_; clear hk; intro a w hk
 refine FW.lfunG (y := .lit (.string (FW.B ((List.getD v0.L (Int.toNat v0.I) default).S)))) hk rfl rfl rfl rfl rfl rfl rfl rfl (fun hc => FW.f_load1 hk hc rfl rfl Try.underlying9 rfl) ?_; clear hk; intro a w hk
 refine FW.lfunG (y := .lit (.string (FW.B v1))) hk rfl rfl rfl rfl rfl rfl rfl rfl (fun hc => FW.f_move hk hc rfl) ?_; clear hk; intro a w hk
 refine FW.lfunG (y := .lit (.bool (decide (((List.getD v0.L (Int.toNat v0.I) default).S) = v1)))) hk rfl rfl rfl rfl rfl rfl rfl rfl (fun hc => (FW.f_pure (FW.p_seql hk.kn hc rfl rfl))) ?_; clear hk; intro a w hk
 refine FW.lfun (y := .lit (.bool (((decide (v0.E = 0)) && (decide (((List.getD v0.L (Int.toNat v0.I) default).Kind) = 5))) && (decide (((List.getD v0.L (Int.toNat v0.I) default).S) = v1))))) hk rfl rfl rfl rfl ((FW.f_pure (FW.p_pick_and hk.kn FW.h0 rfl rfl))) ?_; clear hk; intro a w hk
 refine FW.lfun (y := .lit (.bool (((decide (v0.E = 0)) && (decide (((List.getD v0.L (Int.toNat v0.I) default).Kind) = 5))) && (decide (((List.getD v0.L (Int.toNat v0.I) default).S) = v1))))) hk rfl rfl rfl rfl (FW.f_assign hk FW.h0 rfl) ?_; clear hk; intro a w hk
 refine FW.lend (hK2 _ _ ?_); clear hK2 K'
 refine wp_ret ?_
 (repeat first | refine FW.then_ret ?_ | refine FW.block_ret ?_)
 obtain rfl := Option.some.inj h
 exact FW.fret1 hk rfl rfl

theorem offshootref12_State_fail.ok  (v0 : Offshootref12State) (v1 : Int) (r : Offshootref12State) (h : offshootref12_State_fail.f v0 v1 = some r) :
  FW.Ok Try.prog 28 [.agg (Offshootref12State.cells v0), .lit (.int .i64 v1)] (.agg (Offshootref12State.cells r)) := by
 refine FW.enter (xs := [.agg (Offshootref12State.cells v0), .lit (.int .i64 v1)]) Try.func28 rfl Try.ntmps28 rfl ?_
 intro M w0 a hk
 unfold offshootref12_State_fail.f at h
 refine FW.wreg ?_; intro K' hK1
 refine FW.l_box (cs := (Offshootref12State.cells v0)) hk rfl rfl rfl rfl rfl ?_; clear hk; intro bx1 a w hk
 refine FW.l_alloc (zs := (Offshootref12State.cells (⟨[], 0, 0, 0, 0, 0⟩ : Offshootref12State))) [] hk rfl rfl rfl rfl ?_; clear hk; intro bx2 a w hk
 refine FW.lend (hK1 _ _ ?_); clear hK1 K'
 refine FW.wseqJ (fun a w => ∃ (y1 : Offshootref12State), FW.S M w0 a w 19 [FW.blk bx2 64 ((Offshootref12State.cells (⟨[], 0, 0, 0, 0, 0⟩ : Offshootref12State))), FW.blk bx1 64 ((Offshootref12State.cells y1))] [(2, [], .lit (.pointer (some ⟨bx1, 0, none⟩))), (4, [], .lit (.pointer (some ⟨bx2, 0, none⟩)))] ∧ offshootref12_State_fail.j1 y1 = some r) ?_ ?_
 ·clear hk h
  rintro a w ⟨y1, hk, h⟩
  unfold offshootref12_State_fail.j1 at h
  refine FW.wreg ?_; intro K' hK3
  refine FW.lfun (y := .agg ((Offshootref12State.cells y1))) hk rfl rfl rfl rfl (FW.f_loadBlk hk FW.h0 (j := 1) rfl rfl Try.underlying64 rfl rfl rfl rfl) ?_; clear hk; intro a w hk
  refine FW.l_store (I' := [FW.blk bx2 64 ((Offshootref12State.cells y1)), FW.blk bx1 64 ((Offshootref12State.cells y1))]) (cs' := (Offshootref12State.cells y1)) (j := 0) hk rfl rfl rfl rfl rfl (by kernel_rfl) rfl rfl ?_; clear hk; intro w hk
  refine FW.lend (hK3 _ _ ?_); clear hK3 K'
  refine wp_ret ?_
  (repeat first | refine FW.then_ret ?_ | refine FW.block_ret ?_)
  obtain rfl := Option.some.inj h
  exact FW.fretR1 hk rfl (FW.rcell hk rfl (j := 0) rfl Try.underlying64 rfl (by kernel_rfl))
 ·intro K' hK2
  refine FW.wreg ?_; intro K' hK4
  refine FW.lfun (y := .lit (.pointer (some ⟨bx1, 5, none⟩))) hk rfl rfl rfl rfl (FW.f_fieldPtr hk FW.h0 rfl Try.underlying64 rfl (by kernel_rfl) rfl) ?_; clear hk; intro a w hk
  refine FW.lfun (y := .lit (.int .i64 v0.E)) hk rfl rfl rfl rfl (FW.f_loadBlk1 hk FW.h0 (j := 1) rfl rfl Try.underlying23 rfl rfl) ?_; clear hk; intro a w hk
  refine FW.lfun (y := .lit (.bool (decide (v0.E = 0)))) hk rfl rfl rfl rfl ((FW.f_pure (FW.p_eql hk.kn FW.h0 rfl rfl))) ?_; clear hk; intro a w hk
  refine FW.lend (hK4 _ _ ?_); clear hK4 K'
  refine FW.wcondF (b := (decide (v0.E = 0))) hk h rfl (fun h hb => ?_) (fun h hb => ?_)
  ·skip
   refine FW.wreg1 ?_
   refine FW.lfun (y := .lit (.pointer (some ⟨bx1, 0, none⟩))) hk rfl rfl rfl rfl (FW.f_fieldPtr hk FW.h0 rfl Try.underlying64 rfl (by kernel_rfl) rfl) ?_; clear hk; intro a w hk
   refine FW.lfun (y := .row (r_ApiWord_cells v0.L)) hk rfl rfl rfl rfl (FW.f_loadBlk1 hk FW.h0 (j := 1) rfl rfl Try.underlying60 rfl rfl) ?_; clear hk; intro a w hk
   refine FW.lfun (y := .lit (.pointer (some ⟨bx1, 1, none⟩))) hk rfl rfl rfl rfl (FW.f_fieldPtr hk FW.h0 rfl Try.underlying64 rfl (by kernel_rfl) rfl) ?_; clear hk; intro a w hk
   refine FW.lfun (y := .lit (.int .i64 v0.I)) hk rfl rfl rfl rfl (FW.f_loadBlk1 hk FW.h0 (j := 1) rfl rfl Try.underlying3 rfl rfl) ?_; clear hk; intro a w hk
   obtain ⟨hc1, h⟩ := FW.chk h
   refine FW.lfun (y := .ref (ApiWord.cells (List.getD v0.L (Int.toNat v0.I) default))) hk rfl rfl rfl rfl (FW.f_indexAddr (R := r_ApiWord_cells) (f := ApiWord.cells) (l := v0.L) (sz := 5) r_ApiWord_cells_eq (fun _ => rfl) hk FW.h0 rfl rfl Try.underlying60 (by kernel_rfl) hc1) ?_; clear hk; intro a w hk
   refine FW.lfun (y := .ref (List.drop 4 (ApiWord.cells (List.getD v0.L (Int.toNat v0.I) default)))) hk rfl rfl rfl rfl (FW.f_fieldAddr hk FW.h0 rfl Try.underlying66 rfl (by kernel_rfl) rfl) ?_; clear hk; intro a w hk
   refine FW.lfun (y := .lit (.int .i64 ((List.getD v0.L (Int.toNat v0.I) default).At))) hk rfl rfl rfl rfl (FW.f_load1 hk FW.h0 rfl rfl Try.underlying3 rfl) ?_; clear hk; intro a w hk
   refine FW.lfun (y := .lit (.int .i64 v1)) hk rfl rfl rfl rfl (FW.f_move hk FW.h0 rfl) ?_; clear hk; intro a w hk
   refine FW.lfun (y := .lit (.pointer (some ⟨bx1, 4, none⟩))) hk rfl rfl rfl rfl (FW.f_fieldPtr hk FW.h0 rfl Try.underlying64 rfl (by kernel_rfl) rfl) ?_; clear hk; intro a w hk
   refine FW.l_store (I' := [FW.blk bx2 64 ((Offshootref12State.cells (⟨[], 0, 0, 0, 0, 0⟩ : Offshootref12State))), FW.blk bx1 64 ((Offshootref12State.cells (⟨v0.L, v0.I, v0.Deep, v0.Steps, (List.getD v0.L (Int.toNat v0.I) default).At, v0.E⟩ : Offshootref12State)))]) (cs' := (Offshootref12State.cells (⟨v0.L, v0.I, v0.Deep, v0.Steps, (List.getD v0.L (Int.toNat v0.I) default).At, v0.E⟩ : Offshootref12State))) (j := 1) hk rfl rfl rfl rfl rfl (by kernel_rfl) rfl rfl ?_; clear hk; intro w hk
   refine FW.lfun (y := .lit (.pointer (some ⟨bx1, 5, none⟩))) hk rfl rfl rfl rfl (FW.f_fieldPtr hk FW.h0 rfl Try.underlying64 rfl (by kernel_rfl) rfl) ?_; clear hk; intro a w hk
   refine FW.l_store (I' := [FW.blk bx2 64 ((Offshootref12State.cells (⟨[], 0, 0, 0, 0, 0⟩ : Offshootref12State))), FW.blk bx1 64 ((Offshootref12State.cells (⟨v0.L, v0.I, v0.Deep, v0.Steps, (List.getD v0.L (Int.toNat v0.I) default).At, v1⟩ : Offshootref12State)))]) (cs' := (Offshootref12State.cells (⟨v0.L, v0.I, v0.Deep, v0.Steps, (List.getD v0.L (Int.toNat v0.I) default).At, v1⟩ : Offshootref12State))) (j := 1) hk rfl rfl rfl rfl rfl (by kernel_rfl) rfl rfl ?_; clear hk; intro w hk
   refine wpList_nil ?_
   (repeat first | refine FW.then_normal ?_ | refine FW.block_normal ?_); exact hK2 _ _ ⟨(⟨v0.L, v0.I, v0.Deep, v0.Steps, (List.getD v0.L (Int.toNat v0.I) default).At, v1⟩ : Offshootref12State), hk.sub ⟨rfl, rfl, trivial⟩, h⟩
  ·skip
   refine wp_skip ?_
   (repeat first | refine FW.then_normal ?_ | refine FW.block_normal ?_); exact hK2 _ _ ⟨v0, hk.sub ⟨rfl, rfl, trivial⟩, h⟩

theorem offshootref12_State_sign.ok  (v0 : Offshootref12State) (v1 : List UInt8) (r : Offshootref12State) (h : offshootref12_State_sign.f v0 v1 = some r) :
  FW.Ok Try.prog 26 [.agg (Offshootref12State.cells v0), .lit (.string (FW.B v1))] (.agg (Offshootref12State.cells r)) := by
 refine FW.enter (xs := [.agg (Offshootref12State.cells v0), .lit (.string (FW.B v1))]) Try.func26 rfl Try.ntmps26 rfl ?_
 intro M w0 a hk
 unfold offshootref12_State_sign.f at h
 refine FW.wreg ?_; intro K' hK1
 refine FW.l_box (cs := (Offshootref12State.cells v0)) hk rfl rfl rfl rfl rfl ?_; clear hk; intro bx1 a w hk
 refine FW.l_alloc (zs := (Offshootref12State.cells (⟨[], 0, 0, 0, 0, 0⟩ : Offshootref12State))) [] hk rfl rfl rfl rfl ?_; clear hk; intro bx2 a w hk
 refine FW.lend (hK1 _ _ ?_); clear hK1 K'
 refine FW.wseq ?_; intro K' hK2
 refine FW.wreg ?_; intro K' hK3
 refine FW.lfun (y := .lit (.pointer (some ⟨bx1, 5, none⟩))) hk rfl rfl rfl rfl (FW.f_fieldPtr hk FW.h0 rfl Try.underlying64 rfl (by kernel_rfl) rfl) ?_; clear hk; intro a w hk
 refine FW.lfun (y := .lit (.int .i64 v0.E)) hk rfl rfl rfl rfl (FW.f_loadBlk1 hk FW.h0 (j := 1) rfl rfl Try.underlying23 rfl rfl) ?_; clear hk; intro a w hk
 refine FW.lfun (y := .lit (.bool (!decide (v0.E = 0)))) hk rfl rfl rfl rfl ((FW.f_pure (FW.p_neq hk.kn FW.h0 rfl rfl))) ?_; clear hk; intro a w hk
 refine FW.lend (hK3 _ _ ?_); clear hK3 K'
 refine FW.wcondF (b := (!decide (v0.E = 0))) hk h rfl (fun h hb => ?_) (fun h hb => ?_)
 ·skip
  refine FW.wreg ?_; intro K' hK4
  refine FW.lfun (y := .agg ((Offshootref12State.cells v0))) hk rfl rfl rfl rfl (FW.f_loadBlk hk FW.h0 (j := 1) rfl rfl Try.underlying64 rfl rfl rfl rfl) ?_; clear hk; intro a w hk
  refine FW.l_store (I' := [FW.blk bx2 64 ((Offshootref12State.cells v0)), FW.blk bx1 64 ((Offshootref12State.cells v0))]) (cs' := (Offshootref12State.cells v0)) (j := 0) hk rfl rfl rfl rfl rfl (by kernel_rfl) rfl rfl ?_; clear hk; intro w hk
  refine FW.lend (hK4 _ _ ?_); clear hK4 K'
  refine wp_ret ?_
  (repeat first | refine FW.then_ret ?_ | refine FW.block_ret ?_)
  obtain rfl := Option.some.inj h
  exact FW.fretR1 hk rfl (FW.rcell hk rfl (j := 0) rfl Try.underlying64 rfl (by kernel_rfl))
 ·skip
  refine wp_skip ?_
  (repeat first | refine FW.then_normal ?_ | refine FW.block_normal ?_); refine hK2 _ _ ?_
  refine FW.wseq ?_; intro K' hK5
  refine FW.wreg ?_; intro K' hK6
  refine FW.lfun (y := .agg ((Offshootref12State.cells v0))) hk rfl rfl rfl rfl (FW.f_loadBlk hk FW.h0 (j := 1) rfl rfl Try.underlying64 rfl rfl rfl rfl) ?_; clear hk; intro a w hk
  refine FW.lfun (y := .lit (.string (FW.B v1))) hk rfl rfl rfl rfl (FW.f_move hk FW.h0 rfl) ?_; clear hk; intro a w hk
  obtain ⟨t1, hr_t1, h⟩ := FW.bnd h
  refine FW.lfun (y := .lit (.bool t1)) hk rfl rfl rfl rfl (FW.f_call hk FW.h0 rfl rfl Try.func51 rfl (by kernel_rfl) (offshootref12_State_is.ok v0 v1 _ hr_t1)) ?_; clear hk; intro a w hk
  refine FW.lfun (y := .lit (.bool (!t1))) hk rfl rfl rfl rfl ((FW.f_pure (FW.p_not hk.kn FW.h0 rfl))) ?_; clear hk; intro a w hk
  refine FW.lend (hK6 _ _ ?_); clear hK6 K'
  refine FW.wcondF (b := (!t1)) hk h rfl (fun h hb => ?_) (fun h hb => ?_)
  ·skip
   refine FW.wreg ?_; intro K' hK7
   refine FW.lfun (y := .agg ((Offshootref12State.cells v0))) hk rfl rfl rfl rfl (FW.f_loadBlk hk FW.h0 (j := 1) rfl rfl Try.underlying64 rfl rfl rfl rfl) ?_; clear hk; intro a w hk
   obtain ⟨t2, hr_t2, h⟩ := FW.bnd h
   refine FW.lfun (y := .agg ((Offshootref12State.cells t2))) hk rfl rfl rfl rfl (FW.f_call hk FW.h0 rfl rfl Try.func28 rfl (by kernel_rfl) (offshootref12_State_fail.ok v0 120 _ hr_t2)) ?_; clear hk; intro a w hk
   refine FW.l_store (I' := [FW.blk bx2 64 ((Offshootref12State.cells t2)), FW.blk bx1 64 ((Offshootref12State.cells v0))]) (cs' := (Offshootref12State.cells t2)) (j := 0) hk rfl rfl rfl rfl rfl (by kernel_rfl) rfl rfl ?_; clear hk; intro w hk
   refine FW.lend (hK7 _ _ ?_); clear hK7 K'
   refine wp_ret ?_
   (repeat first | refine FW.then_ret ?_ | refine FW.block_ret ?_)
   obtain rfl := Option.some.inj h
   exact FW.fretR1 hk rfl (FW.rcell hk rfl (j := 0) rfl Try.underlying64 rfl (by kernel_rfl))
  ·skip
   refine wp_skip ?_
   (repeat first | refine FW.then_normal ?_ | refine FW.block_normal ?_); refine hK5 _ _ ?_
   refine FW.wreg ?_; intro K' hK8
   refine FW.lfun (y := .lit (.pointer (some ⟨bx1, 1, none⟩))) hk rfl rfl rfl rfl (FW.f_fieldPtr hk FW.h0 rfl Try.underlying64 rfl (by kernel_rfl) rfl) ?_; clear hk; intro a w hk
   refine FW.lfun (y := .lit (.int .i64 v0.I)) hk rfl rfl rfl rfl (FW.f_loadBlk1 hk FW.h0 (j := 1) rfl rfl Try.underlying3 rfl rfl) ?_; clear hk; intro a w hk
   refine FW.lfun (y := .lit (.int .i64 (IntKind.wrap .i64 (v0.I + 1)))) hk rfl rfl rfl rfl ((FW.f_pure (FW.p_add hk.kn FW.h0 rfl rfl))) ?_; clear hk; intro a w hk
   refine FW.lfun (y := .lit (.pointer (some ⟨bx1, 1, none⟩))) hk rfl rfl rfl rfl (FW.f_fieldPtr hk FW.h0 rfl Try.underlying64 rfl (by kernel_rfl) rfl) ?_; clear hk; intro a w hk
   refine FW.l_store (I' := [FW.blk bx2 64 ((Offshootref12State.cells (⟨[], 0, 0, 0, 0, 0⟩ : Offshootref12State))), FW.blk bx1 64 ((Offshootref12State.cells (⟨v0.L, (IntKind.wrap .i64 (v0.I + 1)), v0.Deep, v0.Steps, v0.At, v0.E⟩ : Offshootref12State)))]) (cs' := (Offshootref12State.cells (⟨v0.L, (IntKind.wrap .i64 (v0.I + 1)), v0.Deep, v0.Steps, v0.At, v0.E⟩ : Offshootref12State))) (j := 1) hk rfl rfl rfl rfl rfl (by kernel_rfl) rfl rfl ?_; clear hk; intro w hk
   refine FW.lend (hK8 _ _ ?_); clear hK8 K'
   refine FW.wreg ?_; intro K' hK9
   refine FW.lfun (y := .agg ((Offshootref12State.cells (⟨v0.L, (IntKind.wrap .i64 (v0.I + 1)), v0.Deep, v0.Steps, v0.At, v0.E⟩ : Offshootref12State)))) hk rfl rfl rfl rfl (FW.f_loadBlk hk FW.h0 (j := 1) rfl rfl Try.underlying64 rfl rfl rfl rfl) ?_; clear hk; intro a w hk
   refine FW.l_store (I' := [FW.blk bx2 64 ((Offshootref12State.cells (⟨v0.L, (IntKind.wrap .i64 (v0.I + 1)), v0.Deep, v0.Steps, v0.At, v0.E⟩ : Offshootref12State))), FW.blk bx1 64 ((Offshootref12State.cells (⟨v0.L, (IntKind.wrap .i64 (v0.I + 1)), v0.Deep, v0.Steps, v0.At, v0.E⟩ : Offshootref12State)))]) (cs' := (Offshootref12State.cells (⟨v0.L, (IntKind.wrap .i64 (v0.I + 1)), v0.Deep, v0.Steps, v0.At, v0.E⟩ : Offshootref12State))) (j := 0) hk rfl rfl rfl rfl rfl (by kernel_rfl) rfl rfl ?_; clear hk; intro w hk
   refine FW.lend (hK9 _ _ ?_); clear hK9 K'
   refine wp_ret ?_
   (repeat first | refine FW.then_ret ?_ | refine FW.block_ret ?_)
   obtain rfl := Option.some.inj h
   exact FW.fretR1 hk rfl (FW.rcell hk rfl (j := 0) rfl Try.underlying64 rfl (by kernel_rfl))

theorem offshootref12_State_into.ok  (v0 : Offshootref12State) (r : Offshootref12State) (h : offshootref12_State_into.f v0 = some r) :
  FW.Ok Try.prog 79 [.agg (Offshootref12State.cells v0)] (.agg (Offshootref12State.cells r)) := by
 refine FW.enter (xs := [.agg (Offshootref12State.cells v0)]) Try.func79 rfl Try.ntmps79 rfl ?_
 intro M w0 a hk
 unfold offshootref12_State_into.f at h
 refine FW.wreg ?_; intro K' hK1
 refine FW.l_box (cs := (Offshootref12State.cells v0)) hk rfl rfl rfl rfl rfl ?_; clear hk; intro bx1 a w hk
 refine FW.l_alloc (zs := (Offshootref12State.cells (⟨[], 0, 0, 0, 0, 0⟩ : Offshootref12State))) [] hk rfl rfl rfl rfl ?_; clear hk; intro bx2 a w hk
 refine FW.lend (hK1 _ _ ?_); clear hK1 K'
 refine FW.wseq ?_; intro K' hK2
 refine FW.wreg ?_; intro K' hK3
 refine FW.lfun (y := .lit (.pointer (some ⟨bx1, 5, none⟩))) hk rfl rfl rfl rfl (FW.f_fieldPtr hk FW.h0 rfl Try.underlying64 rfl (by kernel_rfl) rfl) ?_; clear hk; intro a w hk
 refine FW.lfun (y := .lit (.int .i64 v0.E)) hk rfl rfl rfl rfl (FW.f_loadBlk1 hk FW.h0 (j := 1) rfl rfl Try.underlying23 rfl rfl) ?_; clear hk; intro a w hk
 refine FW.lfun (y := .lit (.bool (!decide (v0.E = 0)))) hk rfl rfl rfl rfl ((FW.f_pure (FW.p_neq hk.kn FW.h0 rfl rfl))) ?_; clear hk; intro a w hk
 refine FW.lend (hK3 _ _ ?_); clear hK3 K'
 refine FW.wcondF (b := (!decide (v0.E = 0))) hk h rfl (fun h hb => ?_) (fun h hb => ?_)
 ·skip
  refine FW.wreg ?_; intro K' hK4
  refine FW.lfun (y := .agg ((Offshootref12State.cells v0))) hk rfl rfl rfl rfl (FW.f_loadBlk hk FW.h0 (j := 1) rfl rfl Try.underlying64 rfl rfl rfl rfl) ?_; clear hk; intro a w hk
  refine FW.l_store (I' := [FW.blk bx2 64 ((Offshootref12State.cells v0)), FW.blk bx1 64 ((Offshootref12State.cells v0))]) (cs' := (Offshootref12State.cells v0)) (j := 0) hk rfl rfl rfl rfl rfl (by kernel_rfl) rfl rfl ?_; clear hk; intro w hk
  refine FW.lend (hK4 _ _ ?_); clear hK4 K'
  refine wp_ret ?_
  (repeat first | refine FW.then_ret ?_ | refine FW.block_ret ?_)
  obtain rfl := Option.some.inj h
  exact FW.fretR1 hk rfl (FW.rcell hk rfl (j := 0) rfl Try.underlying64 rfl (by kernel_rfl))
 ·skip
  refine wp_skip ?_
  (repeat first | refine FW.then_normal ?_ | refine FW.block_normal ?_); refine hK2 _ _ ?_
  refine FW.wseq ?_; intro K' hK5
  refine FW.wreg ?_; intro K' hK6
  refine FW.lfun (y := .lit (.pointer (some ⟨bx1, 2, none⟩))) hk rfl rfl rfl rfl (FW.f_fieldPtr hk FW.h0 rfl Try.underlying64 rfl (by kernel_rfl) rfl) ?_; clear hk; intro a w hk
  refine FW.lfun (y := .lit (.int .i64 v0.Deep)) hk rfl rfl rfl rfl (FW.f_loadBlk1 hk FW.h0 (j := 1) rfl rfl Try.underlying3 rfl rfl) ?_; clear hk; intro a w hk
  refine FW.lfun (y := .lit (.bool (decide (12 ≤ v0.Deep)))) hk rfl rfl rfl rfl ((FW.f_pure (FW.p_geq hk.kn FW.h0 rfl rfl))) ?_; clear hk; intro a w hk
  refine FW.lend (hK6 _ _ ?_); clear hK6 K'
  refine FW.wcondF (b := (decide (12 ≤ v0.Deep))) hk h rfl (fun h hb => ?_) (fun h hb => ?_)
  ·skip
   refine FW.wreg ?_; intro K' hK7
   refine FW.lfun (y := .agg ((Offshootref12State.cells v0))) hk rfl rfl rfl rfl (FW.f_loadBlk hk FW.h0 (j := 1) rfl rfl Try.underlying64 rfl rfl rfl rfl) ?_; clear hk; intro a w hk
   obtain ⟨t1, hr_t1, h⟩ := FW.bnd h
   refine FW.lfun (y := .agg ((Offshootref12State.cells t1))) hk rfl rfl rfl rfl (FW.f_call hk FW.h0 rfl rfl Try.func28 rfl (by kernel_rfl) (offshootref12_State_fail.ok v0 3 _ hr_t1)) ?_; clear hk; intro a w hk
   refine FW.l_store (I' := [FW.blk bx2 64 ((Offshootref12State.cells t1)), FW.blk bx1 64 ((Offshootref12State.cells v0))]) (cs' := (Offshootref12State.cells t1)) (j := 0) hk rfl rfl rfl rfl rfl (by kernel_rfl) rfl rfl ?_; clear hk; intro w hk
   refine FW.lend (hK7 _ _ ?_); clear hK7 K'
   refine wp_ret ?_
   (repeat first | refine FW.then_ret ?_ | refine FW.block_ret ?_)
   obtain rfl := Option.some.inj h
   exact FW.fretR1 hk rfl (FW.rcell hk rfl (j := 0) rfl Try.underlying64 rfl (by kernel_rfl))
  ·skip
   refine wp_skip ?_
   (repeat first | refine FW.then_normal ?_ | refine FW.block_normal ?_); refine hK5 _ _ ?_
   refine FW.wreg ?_; intro K' hK8
   refine FW.lfun (y := .lit (.pointer (some ⟨bx1, 2, none⟩))) hk rfl rfl rfl rfl (FW.f_fieldPtr hk FW.h0 rfl Try.underlying64 rfl (by kernel_rfl) rfl) ?_; clear hk; intro a w hk
   refine FW.lfun (y := .lit (.int .i64 v0.Deep)) hk rfl rfl rfl rfl (FW.f_loadBlk1 hk FW.h0 (j := 1) rfl rfl Try.underlying3 rfl rfl) ?_; clear hk; intro a w hk
   refine FW.lfun (y := .lit (.int .i64 (IntKind.wrap .i64 (v0.Deep + 1)))) hk rfl rfl rfl rfl ((FW.f_pure (FW.p_add hk.kn FW.h0 rfl rfl))) ?_; clear hk; intro a w hk
   refine FW.lfun (y := .lit (.pointer (some ⟨bx1, 2, none⟩))) hk rfl rfl rfl rfl (FW.f_fieldPtr hk FW.h0 rfl Try.underlying64 rfl (by kernel_rfl) rfl) ?_; clear hk; intro a w hk
   refine FW.l_store (I' := [FW.blk bx2 64 ((Offshootref12State.cells (⟨[], 0, 0, 0, 0, 0⟩ : Offshootref12State))), FW.blk bx1 64 ((Offshootref12State.cells (⟨v0.L, v0.I, (IntKind.wrap .i64 (v0.Deep + 1)), v0.Steps, v0.At, v0.E⟩ : Offshootref12State)))]) (cs' := (Offshootref12State.cells (⟨v0.L, v0.I, (IntKind.wrap .i64 (v0.Deep + 1)), v0.Steps, v0.At, v0.E⟩ : Offshootref12State))) (j := 1) hk rfl rfl rfl rfl rfl (by kernel_rfl) rfl rfl ?_; clear hk; intro w hk
   refine FW.lend (hK8 _ _ ?_); clear hK8 K'
   refine FW.wreg ?_; intro K' hK9
   refine FW.lfun (y := .agg ((Offshootref12State.cells (⟨v0.L, v0.I, (IntKind.wrap .i64 (v0.Deep + 1)), v0.Steps, v0.At, v0.E⟩ : Offshootref12State)))) hk rfl rfl rfl rfl (FW.f_loadBlk hk FW.h0 (j := 1) rfl rfl Try.underlying64 rfl rfl rfl rfl) ?_; clear hk; intro a w hk
   refine FW.l_store (I' := [FW.blk bx2 64 ((Offshootref12State.cells (⟨v0.L, v0.I, (IntKind.wrap .i64 (v0.Deep + 1)), v0.Steps, v0.At, v0.E⟩ : Offshootref12State))), FW.blk bx1 64 ((Offshootref12State.cells (⟨v0.L, v0.I, (IntKind.wrap .i64 (v0.Deep + 1)), v0.Steps, v0.At, v0.E⟩ : Offshootref12State)))]) (cs' := (Offshootref12State.cells (⟨v0.L, v0.I, (IntKind.wrap .i64 (v0.Deep + 1)), v0.Steps, v0.At, v0.E⟩ : Offshootref12State))) (j := 0) hk rfl rfl rfl rfl rfl (by kernel_rfl) rfl rfl ?_; clear hk; intro w hk
   refine FW.lend (hK9 _ _ ?_); clear hK9 K'
   refine wp_ret ?_
   (repeat first | refine FW.then_ret ?_ | refine FW.block_ret ?_)
   obtain rfl := Option.some.inj h
   exact FW.fretR1 hk rfl (FW.rcell hk rfl (j := 0) rfl Try.underlying64 rfl (by kernel_rfl))
end Go.Proofs.Ytbjbgodcenopnaa

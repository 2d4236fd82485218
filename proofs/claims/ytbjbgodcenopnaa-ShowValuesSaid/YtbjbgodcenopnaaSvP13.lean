/- Written by a program of this session (gen.py): the contracts of functions of the program. -/
import Derived.KernelRfl
import Derived.Test.YtbjbgodcenopnaaProg
import Derived.Test.YtbjbgodcenopnaaAvFun
import Derived.Test.YtbjbgodcenopnaaAvMan
import Derived.Test.YtbjbgodcenopnaaAvMore
import Derived.Test.YtbjbgodcenopnaaAvDraw2
import Derived.Test.YtbjbgodcenopnaaAvRow
import Derived.Test.YtbjbgodcenopnaaAvBld
import Derived.Test.YtbjbgodcenopnaaHcl
import Derived.Test.YtbjbgodcenopnaaAvFl
import Derived.Test.YtbjbgodcenopnaaSvD
import Derived.Test.YtbjbgodcenopnaaSvP12
namespace Go.Proofs.Ytbjbgodcenopnaa
set_option linter.unusedVariables false
set_option maxRecDepth 20000
set_option maxHeartbeats 10000000
theorem show_join_api_Value_of_show_Value.bok (s_show_join_api_Value_of_show_Value : List ApiValue → Option (List UInt8)) (s_show_Value : ApiValue → Option (List UInt8)) (hs_show_join_api_Value_of_show_Value : ∀ (v0 : List ApiValue) (r : List UInt8), s_show_join_api_Value_of_show_Value v0 = some r → FW.Ok Try.prog 30 [.row (r_ApiValue_cells v0), .lit (.func (.func 15) #[] #[])] (.lit (.string (FW.B r)))) (hs_show_Value : ∀ (v0 : ApiValue) (r : List UInt8), s_show_Value v0 = some r → FW.Ok Try.prog 15 [.agg (ApiValue.cells v0)] (.lit (.string (FW.B r)))) (K : Nat) (v0 : List ApiValue) (r : List UInt8) (h : show_join_api_Value_of_show_Value.b s_show_join_api_Value_of_show_Value s_show_Value K v0 = some r) :
  FW.Ok Try.prog 30 [.row (r_ApiValue_cells v0), .lit (.func (.func 15) #[] #[])] (.lit (.string (FW.B r))) := by
 refine FW.enter (xs := [.row (r_ApiValue_cells v0), .lit (.func (.func 15) #[] #[])]) Try.func30 rfl Try.ntmps30 rfl ?_
 intro M w0 a hk
 unfold show_join_api_Value_of_show_Value.b at h
 refine FW.wreg ?_; intro K' hK1
 refine FW.lfun (y := .lit (.string (FW.B ([] : List UInt8)))) hk rfl rfl rfl rfl (FW.f_assign hk FW.h0 rfl) ?_; clear hk; intro a w hk
 refine FW.lend (hK1 _ _ ?_); clear hK1 K'
 refine FW.wreg ?_; intro K' hK2
 refine FW.lfun (y := .lit (.slice none 0 0)) hk rfl rfl rfl rfl (FW.f_assign hk FW.h0 rfl) ?_; clear hk; intro a w hk
 replace hk := hk.nilRow 9 1 c_str (fun _ => rfl)
 refine FW.lend (hK2 _ _ ?_); clear hK2 K'
 refine FW.wseq ?_; intro K' hK3
 refine FW.wreg ?_; intro K' hK4
 refine FW.lfun (y := .row (r_ApiValue_cells v0)) hk rfl rfl rfl rfl (FW.f_move hk FW.h0 rfl) ?_; clear hk; intro a w hk
 refine FW.lfun (y := .lit (.int .i64 (List.length v0 : Int))) hk rfl rfl rfl rfl (FW.f_len (R := r_ApiValue_cells) (f := ApiValue.cells) (l := v0) r_ApiValue_cells_eq Try.underlying31 hk FW.h0 rfl) ?_; clear hk; intro a w hk
 refine FW.lfun (y := .lit (.int .i64 0)) hk rfl rfl rfl rfl (FW.f_move hk FW.h0 rfl) ?_; clear hk; intro a w hk
 refine FW.lend (hK4 _ _ ?_); clear hK4 K'
 refine wp_block ?_
 refine FW.wloop (T := Nat × List (List UInt8) × List ApiValue × Int × Int × Option Addr × Nat) (fun x a w => match x with | (kl1, l1, v8, v9, v10, xd1, xc1) => FW.S M w0 a w 23 [FW.orow xd1 xc1 9 1 c_str l1] [(1, [], .lit (.func (.func 15) #[] #[])), (5, [], .lit (.slice xd1 (List.length l1) xc1)), (8, [], .row (r_ApiValue_cells v8)), (9, [], .lit (.int .i64 v9)), (10, [], .lit (.int .i64 v10))] ∧ show_join_api_Value_of_show_Value.l1 s_show_join_api_Value_of_show_Value s_show_Value K kl1 l1 v8 v9 v10 = some r) (fun x => x.1) (K, ([] : List (List UInt8)), v0, (List.length v0 : Int), 0, none, 0) ⟨hk.sub ⟨rfl, rfl, rfl, rfl, rfl, trivial⟩, h⟩ ?_
 clear hk h
 rintro ⟨kl1, l1, v8, v9, v10, xd1, xc1⟩ a w ⟨hk, h⟩ K' hK5
 cases kl1 with
 | zero => simp [show_join_api_Value_of_show_Value.l1] at h
 | succ kl1 =>
 rw [show_join_api_Value_of_show_Value.l1.eq_2] at h
 refine FW.wreg ?_; intro K' hK6
 refine FW.lfun (y := .lit (.bool (decide (v10 < v9)))) hk rfl rfl rfl rfl ((FW.f_pure (FW.p_lss hk.kn FW.h0 rfl rfl))) ?_; clear hk; intro a w hk
 refine FW.lend (hK6 _ _ ?_); clear hK6 K'
 refine FW.wseq ?_; intro K' hK7
 refine FW.wcondF (b := (decide (v10 < v9))) hk h rfl (fun h hb => ?_) (fun h hb => ?_)
 ·skip
  refine wp_skip ?_
  (repeat first | refine FW.then_normal ?_ | refine FW.block_normal ?_); refine hK7 _ _ ?_
  refine FW.wseq ?_; intro K' hK8
  refine wp_block ?_
  refine FW.wreg ?_; intro K' hK9
  obtain ⟨hc1, h⟩ := FW.chk h
  refine FW.lfun (y := .ref (ApiValue.cells (List.getD v8 (Int.toNat v10) default))) hk rfl rfl rfl rfl (FW.f_indexAddr (R := r_ApiValue_cells) (f := ApiValue.cells) (l := v8) (sz := 6) r_ApiValue_cells_eq (fun _ => rfl) hk FW.h0 rfl rfl Try.underlying31 (by kernel_rfl) hc1) ?_; clear hk; intro a w hk
  refine FW.lfun (y := .agg ((ApiValue.cells (List.getD v8 (Int.toNat v10) default)))) hk rfl rfl rfl rfl (FW.f_load hk FW.h0 rfl Try.underlying33 rfl rfl rfl rfl) ?_; clear hk; intro a w hk
  refine FW.l_alloc (zs := (ApiValue.cells (⟨0, false, 0, 0, [], []⟩ : ApiValue))) [] hk rfl rfl rfl rfl ?_; clear hk; intro bx1 a w hk
  refine FW.l_store (I' := [FW.blk bx1 33 ((ApiValue.cells (List.getD v8 (Int.toNat v10) default))), FW.orow xd1 xc1 9 1 c_str l1]) (cs' := (ApiValue.cells (List.getD v8 (Int.toNat v10) default))) (j := 0) hk rfl rfl rfl rfl rfl (by kernel_rfl) rfl rfl ?_; clear hk; intro w hk
  refine FW.lend (hK9 _ _ ?_); clear hK9 K'
  refine FW.wreg1 ?_
  refine FW.lfun (y := .lit (.slice xd1 (List.length l1) xc1)) hk rfl rfl rfl rfl (FW.f_move hk FW.h0 rfl) ?_; clear hk; intro a w hk
  refine FW.lfun (y := .lit (.func (.func 15) #[] #[])) hk rfl rfl rfl rfl (FW.f_move hk FW.h0 rfl) ?_; clear hk; intro a w hk
  refine FW.lfun (y := .agg ((ApiValue.cells (List.getD v8 (Int.toNat v10) default)))) hk rfl rfl rfl rfl (FW.f_loadBlk hk FW.h0 (j := 0) rfl rfl Try.underlying33 rfl rfl rfl rfl) ?_; clear hk; intro a w hk
  obtain ⟨t1, hr_t1, h⟩ := FW.bnd h
  refine FW.lfun (y := .lit (.string (FW.B t1))) hk rfl rfl rfl rfl (FW.f_call hk FW.h0 rfl rfl Try.func15 rfl (by kernel_rfl) (hs_show_Value (List.getD v8 (Int.toNat v10) default) _ hr_t1)) ?_; clear hk; intro a w hk
  refine FW.l_buildSlice (f := c_str) (l := ([t1] : List (List UInt8))) hk rfl rfl rfl Try.underlying56 rfl rfl rfl rfl (fun _ => rfl) rfl ?_; clear hk; intro bx2 a w hk
  obtain ⟨hc2, h⟩ := FW.chk h
  refine FW.l_append (l2 := ([t1] : List (List UInt8))) (l3 := (l1 ++ ([t1] : List (List UInt8)))) (I' := fun ad1 cap1 => [FW.orow (some ⟨bx2, 0, none⟩) 1 9 1 c_str ([t1] : List (List UInt8)), FW.blk bx1 33 ((ApiValue.cells (List.getD v8 (Int.toNat v10) default))), FW.orow ad1 cap1 9 1 c_str (l1 ++ ([t1] : List (List UInt8)))]) (j := 2) hk rfl rfl rfl rfl (FW.own_src hk (j := 0) rfl rfl (fun _ => rfl) Try.underlying56) Try.underlying56 (by kernel_rfl) hc2 rfl (fun _ _ => rfl) ?_; clear hk; intro ad1 cap1 a w hk
  replace hk := FW.S.dropI (I' := [FW.blk bx1 33 ((ApiValue.cells (List.getD v8 (Int.toNat v10) default))), FW.orow ad1 cap1 9 1 c_str (l1 ++ ([t1] : List (List UInt8)))]) hk 0 rfl
  refine FW.lfun (y := .lit (.slice ad1 (List.length (l1 ++ ([t1] : List (List UInt8)))) cap1)) hk rfl rfl rfl rfl (FW.f_assign hk FW.h0 rfl) ?_; clear hk; intro a w hk
  refine wpList_nil ?_
  (repeat first | refine FW.then_normal ?_ | refine FW.block_normal ?_); refine hK8 _ _ ?_
  refine FW.wreg1 ?_
  refine FW.lfun (y := .lit (.int .i64 (IntKind.wrap .i64 (v10 + 1)))) hk rfl rfl rfl rfl ((FW.f_pure (FW.p_add hk.kn FW.h0 rfl rfl))) ?_; clear hk; intro a w hk
  refine FW.lfun (y := .lit (.int .i64 (IntKind.wrap .i64 (v10 + 1)))) hk rfl rfl rfl rfl (FW.f_move hk FW.h0 rfl) ?_; clear hk; intro a w hk
  refine wpList_nil ?_
  (repeat first | refine FW.then_normal ?_ | refine FW.block_normal ?_); exact hK5 (kl1, (l1 ++ ([t1] : List (List UInt8))), v8, v9, (IntKind.wrap .i64 (v10 + 1)), ad1, cap1) _ _ (Nat.lt_succ_self _) ⟨(hk.drop 0).sub ⟨rfl, rfl, rfl, rfl, rfl, trivial⟩, h⟩
 ·skip
  refine wp_exit ?_; (repeat first | refine FW.then_exit ?_ | refine FW.block_exit_ne rfl ?_); refine FW.block_exit ?_
  (repeat first | refine FW.then_normal ?_ | refine FW.block_normal ?_); refine hK3 _ _ ?_
  refine FW.wreg ?_; intro K' hK12
  refine FW.lfun (y := .lit (.slice xd1 (List.length l1) xc1)) hk rfl rfl rfl rfl (FW.f_move hk FW.h0 rfl) ?_; clear hk; intro a w hk
  replace hk := FW.S.freezeR (I' := []) r_c_str_eq hk (j := 0) rfl (t := 21) rfl rfl
  obtain ⟨t2, hr_t2, h⟩ := FW.bnd h
  refine FW.lfun (y := .lit (.string (FW.B t2))) hk rfl rfl rfl rfl (FW.f_call hk FW.h0 rfl rfl Try.func54 rfl (by kernel_rfl) (strings_Join.ok l1 ([44, 32] : List UInt8) _ hr_t2)) ?_; clear hk; intro a w hk
  refine FW.lfun (y := .lit (.string (FW.B t2))) hk rfl rfl rfl rfl (FW.f_assign hk FW.h0 rfl) ?_; clear hk; intro a w hk
  refine FW.lend (hK12 _ _ ?_); clear hK12 K'
  refine wp_ret ?_
  (repeat first | refine FW.then_ret ?_ | refine FW.block_ret ?_)
  obtain rfl := Option.some.inj h
  exact FW.fret1 hk rfl rfl
theorem show_Value.bok (s_show_join_api_Value_of_show_Value : List ApiValue → Option (List UInt8)) (s_show_Value : ApiValue → Option (List UInt8)) (hs_show_join_api_Value_of_show_Value : ∀ (v0 : List ApiValue) (r : List UInt8), s_show_join_api_Value_of_show_Value v0 = some r → FW.Ok Try.prog 30 [.row (r_ApiValue_cells v0), .lit (.func (.func 15) #[] #[])] (.lit (.string (FW.B r)))) (hs_show_Value : ∀ (v0 : ApiValue) (r : List UInt8), s_show_Value v0 = some r → FW.Ok Try.prog 15 [.agg (ApiValue.cells v0)] (.lit (.string (FW.B r)))) (K : Nat) (v0 : ApiValue) (r : List UInt8) (h : show_Value.b s_show_join_api_Value_of_show_Value s_show_Value K v0 = some r) :
  FW.Ok Try.prog 15 [.agg (ApiValue.cells v0)] (.lit (.string (FW.B r))) := by
 refine FW.enter (xs := [.agg (ApiValue.cells v0)]) Try.func15 rfl Try.ntmps15 rfl ?_
 intro M w0 a hk
 unfold show_Value.b at h
 refine FW.wreg ?_; intro K' hK1
 refine FW.l_box (cs := (ApiValue.cells v0)) hk rfl rfl rfl rfl rfl ?_; clear hk; intro bx1 a w hk
 refine FW.lfun (y := .lit (.string (FW.B ([] : List UInt8)))) hk rfl rfl rfl rfl (FW.f_assign hk FW.h0 rfl) ?_; clear hk; intro a w hk
 refine FW.lend (hK1 _ _ ?_); clear hK1 K'
 refine FW.wseq ?_; intro K' hK2
 refine FW.wreg ?_; intro K' hK3
 refine FW.lfun (y := .lit (.pointer (some ⟨bx1, 0, none⟩))) hk rfl rfl rfl rfl (FW.f_fieldPtr hk FW.h0 rfl Try.underlying33 rfl (by kernel_rfl) rfl) ?_; clear hk; intro a w hk
 refine FW.lfun (y := .lit (.int .i64 v0.Kind)) hk rfl rfl rfl rfl (FW.f_loadBlk1 hk FW.h0 (j := 0) rfl rfl Try.underlying3 rfl rfl) ?_; clear hk; intro a w hk
 refine FW.lend (hK3 _ _ ?_); clear hK3 K'
 refine wp_block ?_
 refine FW.wreg ?_; intro K' hK4
 refine FW.lfun (y := .lit (.bool (decide (v0.Kind = 0)))) hk rfl rfl rfl rfl ((FW.f_pure (FW.p_eql hk.kn FW.h0 rfl rfl))) ?_; clear hk; intro a w hk
 refine FW.lfun (y := .lit (.bool (decide (v0.Kind = 0)))) hk rfl rfl rfl rfl (FW.f_assign hk FW.h0 rfl) ?_; clear hk; intro a w hk
 refine FW.lend (hK4 _ _ ?_); clear hK4 K'
 refine FW.wcondF (b := (decide (v0.Kind = 0))) hk h rfl (fun h hb => ?_) (fun h hb => ?_)
 ·skip
  refine FW.wreg ?_; intro K' hK5
  refine FW.lfun (y := .lit (.string (FW.B ([110, 117, 108, 108] : List UInt8)))) hk rfl rfl rfl rfl (FW.f_assign hk FW.h0 rfl) ?_; clear hk; intro a w hk
  refine FW.lend (hK5 _ _ ?_); clear hK5 K'
  refine wp_ret ?_
  (repeat first | refine FW.then_ret ?_ | refine FW.block_ret ?_)
  obtain rfl := Option.some.inj h
  exact FW.fret1 hk rfl rfl
 ·skip
  refine FW.wreg ?_; intro K' hK6
  refine FW.lfun (y := .lit (.bool (decide (v0.Kind = 1)))) hk rfl rfl rfl rfl ((FW.f_pure (FW.p_eql hk.kn FW.h0 rfl rfl))) ?_; clear hk; intro a w hk
  refine FW.lfun (y := .lit (.bool (decide (v0.Kind = 1)))) hk rfl rfl rfl rfl (FW.f_assign hk FW.h0 rfl) ?_; clear hk; intro a w hk
  refine FW.lend (hK6 _ _ ?_); clear hK6 K'
  refine FW.wcondF (b := (decide (v0.Kind = 1))) hk h rfl (fun h hb => ?_) (fun h hb => ?_)
  ·skip
   refine FW.wseq ?_; intro K' hK7
   refine FW.wreg ?_; intro K' hK8
   refine FW.lfun (y := .lit (.pointer (some ⟨bx1, 1, none⟩))) hk rfl rfl rfl rfl (FW.f_fieldPtr hk FW.h0 rfl Try.underlying33 rfl (by kernel_rfl) rfl) ?_; clear hk; intro a w hk
   refine FW.lfun (y := .lit (.bool v0.B)) hk rfl rfl rfl rfl (FW.f_loadBlk1 hk FW.h0 (j := 0) rfl rfl Try.underlying4 rfl rfl) ?_; clear hk; intro a w hk
   refine FW.lend (hK8 _ _ ?_); clear hK8 K'
   refine FW.wcondF (b := v0.B) hk h rfl (fun h hb => ?_) (fun h hb => ?_)
   ·skip
    refine FW.wreg ?_; intro K' hK9
    refine FW.lfun (y := .lit (.string (FW.B ([116, 114, 117, 101] : List UInt8)))) hk rfl rfl rfl rfl (FW.f_assign hk FW.h0 rfl) ?_; clear hk; intro a w hk
    refine FW.lend (hK9 _ _ ?_); clear hK9 K'
    refine wp_ret ?_
    (repeat first | refine FW.then_ret ?_ | refine FW.block_ret ?_)
    obtain rfl := Option.some.inj h
    exact FW.fret1 hk rfl rfl
   ·skip
    refine wp_skip ?_
    (repeat first | refine FW.then_normal ?_ | refine FW.block_normal ?_); refine hK7 _ _ ?_
    refine FW.wreg ?_; intro K' hK10
    refine FW.lfun (y := .lit (.string (FW.B ([102, 97, 108, 115, 101] : List UInt8)))) hk rfl rfl rfl rfl (FW.f_assign hk FW.h0 rfl) ?_; clear hk; intro a w hk
    refine FW.lend (hK10 _ _ ?_); clear hK10 K'
    refine wp_ret ?_
    (repeat first | refine FW.then_ret ?_ | refine FW.block_ret ?_)
    obtain rfl := Option.some.inj h
    exact FW.fret1 hk rfl rfl
  ·skip
   refine FW.wreg ?_; intro K' hK11
   refine FW.lfun (y := .lit (.bool (decide (v0.Kind = 2)))) hk rfl rfl rfl rfl ((FW.f_pure (FW.p_eql hk.kn FW.h0 rfl rfl))) ?_; clear hk; intro a w hk
   refine FW.lfun (y := .lit (.bool (decide (v0.Kind = 2)))) hk rfl rfl rfl rfl (FW.f_assign hk FW.h0 rfl) ?_; clear hk; intro a w hk
   refine FW.lend (hK11 _ _ ?_); clear hK11 K'
   refine FW.wcondF (b := (decide (v0.Kind = 2))) hk h rfl (fun h hb => ?_) (fun h hb => ?_)
   ·skip
    refine FW.wreg ?_; intro K' hK12
    refine FW.lfun (y := .lit (.pointer (some ⟨bx1, 2, none⟩))) hk rfl rfl rfl rfl (FW.f_fieldPtr hk FW.h0 rfl Try.underlying33 rfl (by kernel_rfl) rfl) ?_; clear hk; intro a w hk
    refine FW.lfun (y := .lit (.int .i64 v0.N)) hk rfl rfl rfl rfl (FW.f_loadBlk1 hk FW.h0 (j := 0) rfl rfl Try.underlying2 rfl rfl) ?_; clear hk; intro a w hk
    obtain ⟨t1, hr_t1, h⟩ := FW.bnd h
    refine FW.lfun (y := .lit (.string (FW.B t1))) hk rfl rfl rfl rfl (FW.f_call hk FW.h0 rfl rfl Try.func37 rfl (by kernel_rfl) (lex_Number.ok K v0.N _ hr_t1)) ?_; clear hk; intro a w hk
    refine FW.lfun (y := .lit (.string (FW.B t1))) hk rfl rfl rfl rfl (FW.f_assign hk FW.h0 rfl) ?_; clear hk; intro a w hk
    refine FW.lend (hK12 _ _ ?_); clear hK12 K'
    refine wp_ret ?_
    (repeat first | refine FW.then_ret ?_ | refine FW.block_ret ?_)
    obtain rfl := Option.some.inj h
    exact FW.fret1 hk rfl rfl
   ·skip
    refine FW.wreg ?_; intro K' hK13
    refine FW.lfun (y := .lit (.bool (decide (v0.Kind = 3)))) hk rfl rfl rfl rfl ((FW.f_pure (FW.p_eql hk.kn FW.h0 rfl rfl))) ?_; clear hk; intro a w hk
    refine FW.lfun (y := .lit (.bool (decide (v0.Kind = 3)))) hk rfl rfl rfl rfl (FW.f_assign hk FW.h0 rfl) ?_; clear hk; intro a w hk
    refine FW.lend (hK13 _ _ ?_); clear hK13 K'
    refine FW.wcondF (b := (decide (v0.Kind = 3))) hk h rfl (fun h hb => ?_) (fun h hb => ?_)
    ·skip
     refine FW.wreg ?_; intro K' hK14
     refine FW.lfun (y := .lit (.pointer (some ⟨bx1, 3, none⟩))) hk rfl rfl rfl rfl (FW.f_fieldPtr hk FW.h0 rfl Try.underlying33 rfl (by kernel_rfl) rfl) ?_; clear hk; intro a w hk
     refine FW.lfun (y := .lit (.float .f64 v0.F)) hk rfl rfl rfl rfl (FW.f_loadBlk1 hk FW.h0 (j := 0) rfl rfl Try.underlying30 rfl rfl) ?_; clear hk; intro a w hk
     obtain ⟨t2, hr_t2, h⟩ := FW.bnd h
     refine FW.lfun (y := .lit (.string (FW.B t2))) hk rfl rfl rfl rfl (FW.f_call hk FW.h0 rfl rfl Try.func38 rfl (by kernel_rfl) (lex_Float.ok K v0.F _ hr_t2)) ?_; clear hk; intro a w hk
     refine FW.lfun (y := .lit (.string (FW.B t2))) hk rfl rfl rfl rfl (FW.f_assign hk FW.h0 rfl) ?_; clear hk; intro a w hk
     refine FW.lend (hK14 _ _ ?_); clear hK14 K'
     refine wp_ret ?_
     (repeat first | refine FW.then_ret ?_ | refine FW.block_ret ?_)
     obtain rfl := Option.some.inj h
     exact FW.fret1 hk rfl rfl
    ·skip
     refine FW.wreg ?_; intro K' hK15
     refine FW.lfun (y := .lit (.bool (decide (v0.Kind = 4)))) hk rfl rfl rfl rfl ((FW.f_pure (FW.p_eql hk.kn FW.h0 rfl rfl))) ?_; clear hk; intro a w hk
     refine FW.lfun (y := .lit (.bool (decide (v0.Kind = 4)))) hk rfl rfl rfl rfl (FW.f_assign hk FW.h0 rfl) ?_; clear hk; intro a w hk
     refine FW.lend (hK15 _ _ ?_); clear hK15 K'
     refine FW.wcondF (b := (decide (v0.Kind = 4))) hk h rfl (fun h hb => ?_) (fun h hb => ?_)
     ·skip
      refine FW.wreg ?_; intro K' hK16
      refine FW.lfun (y := .lit (.pointer (some ⟨bx1, 4, none⟩))) hk rfl rfl rfl rfl (FW.f_fieldPtr hk FW.h0 rfl Try.underlying33 rfl (by kernel_rfl) rfl) ?_; clear hk; intro a w hk
      refine FW.lfun (y := .lit (.string (FW.B v0.S))) hk rfl rfl rfl rfl (FW.f_loadBlk1 hk FW.h0 (j := 0) rfl rfl Try.underlying9 rfl rfl) ?_; clear hk; intro a w hk
      obtain ⟨t3, hr_t3, h⟩ := FW.bnd h
      refine FW.lfun (y := .lit (.string (FW.B t3))) hk rfl rfl rfl rfl (FW.f_call hk FW.h0 rfl rfl Try.func39 rfl (by kernel_rfl) (lex_Text.ok K v0.S _ hr_t3)) ?_; clear hk; intro a w hk
      refine FW.lfun (y := .lit (.string (FW.B t3))) hk rfl rfl rfl rfl (FW.f_assign hk FW.h0 rfl) ?_; clear hk; intro a w hk
      refine FW.lend (hK16 _ _ ?_); clear hK16 K'
      refine wp_ret ?_
      (repeat first | refine FW.then_ret ?_ | refine FW.block_ret ?_)
      obtain rfl := Option.some.inj h
      exact FW.fret1 hk rfl rfl
     ·skip
      refine FW.wreg ?_; intro K' hK17
      refine FW.lfun (y := .lit (.bool (decide (v0.Kind = 5)))) hk rfl rfl rfl rfl ((FW.f_pure (FW.p_eql hk.kn FW.h0 rfl rfl))) ?_; clear hk; intro a w hk
      refine FW.lfun (y := .lit (.bool (decide (v0.Kind = 5)))) hk rfl rfl rfl rfl (FW.f_assign hk FW.h0 rfl) ?_; clear hk; intro a w hk
      refine FW.lend (hK17 _ _ ?_); clear hK17 K'
      refine FW.wcondF (b := (decide (v0.Kind = 5))) hk h rfl (fun h hb => ?_) (fun h hb => ?_)
      ·skip
       refine FW.wreg ?_; intro K' hK18
       refine FW.lfun (y := .lit (.pointer (some ⟨bx1, 5, none⟩))) hk rfl rfl rfl rfl (FW.f_fieldPtr hk FW.h0 rfl Try.underlying33 rfl (by kernel_rfl) rfl) ?_; clear hk; intro a w hk
       refine FW.lfun (y := .row (r_ApiValue_cells v0.L)) hk rfl rfl rfl rfl (FW.f_loadBlk1 hk FW.h0 (j := 0) rfl rfl Try.underlying31 rfl rfl) ?_; clear hk; intro a w hk
       obtain ⟨t4, hr_t4, h⟩ := FW.bnd h
       refine FW.lfun (y := .lit (.string (FW.B t4))) hk rfl rfl rfl rfl (FW.f_call hk FW.h0 rfl rfl Try.func30 rfl (by kernel_rfl) (hs_show_join_api_Value_of_show_Value v0.L _ hr_t4)) ?_; clear hk; intro a w hk
       obtain ⟨hc1, h⟩ := FW.chk h
       refine FW.lfun (y := .lit (.string (FW.B (([91] : List UInt8) ++ t4)))) hk rfl rfl rfl rfl ((FW.f_pure (FW.p_sadd hk.kn FW.h0 rfl rfl hc1))) ?_; clear hk; intro a w hk
       obtain ⟨hc2, h⟩ := FW.chk h
       refine FW.lfun (y := .lit (.string (FW.B ((([91] : List UInt8) ++ t4) ++ ([93] : List UInt8))))) hk rfl rfl rfl rfl ((FW.f_pure (FW.p_sadd hk.kn FW.h0 rfl rfl hc2))) ?_; clear hk; intro a w hk
       refine FW.lfun (y := .lit (.string (FW.B ((([91] : List UInt8) ++ t4) ++ ([93] : List UInt8))))) hk rfl rfl rfl rfl (FW.f_assign hk FW.h0 rfl) ?_; clear hk; intro a w hk
       refine FW.lend (hK18 _ _ ?_); clear hK18 K'
       refine wp_ret ?_
       (repeat first | refine FW.then_ret ?_ | refine FW.block_ret ?_)
       obtain rfl := Option.some.inj h
       exact FW.fret1 hk rfl rfl
      ·skip
       refine FW.wreg ?_; intro K' hK19
       refine FW.lfun (y := .lit (.bool (decide (v0.Kind = 6)))) hk rfl rfl rfl rfl ((FW.f_pure (FW.p_eql hk.kn FW.h0 rfl rfl))) ?_; clear hk; intro a w hk
       refine FW.lfun (y := .lit (.bool (decide (v0.Kind = 6)))) hk rfl rfl rfl rfl (FW.f_assign hk FW.h0 rfl) ?_; clear hk; intro a w hk
       refine FW.lend (hK19 _ _ ?_); clear hK19 K'
       refine FW.wcondF (b := (decide (v0.Kind = 6))) hk h rfl (fun h hb => ?_) (fun h hb => ?_)
       ·skip
        refine FW.wreg ?_; intro K' hK20
        refine FW.lfun (y := .lit (.pointer (some ⟨bx1, 5, none⟩))) hk rfl rfl rfl rfl (FW.f_fieldPtr hk FW.h0 rfl Try.underlying33 rfl (by kernel_rfl) rfl) ?_; clear hk; intro a w hk
        refine FW.lfun (y := .row (r_ApiValue_cells v0.L)) hk rfl rfl rfl rfl (FW.f_loadBlk1 hk FW.h0 (j := 0) rfl rfl Try.underlying31 rfl rfl) ?_; clear hk; intro a w hk
        obtain ⟨t5, hr_t5, h⟩ := FW.bnd h
        refine FW.lfun (y := .lit (.string (FW.B t5))) hk rfl rfl rfl rfl (FW.f_call hk FW.h0 rfl rfl Try.func30 rfl (by kernel_rfl) (hs_show_join_api_Value_of_show_Value v0.L _ hr_t5)) ?_; clear hk; intro a w hk
        obtain ⟨hc3, h⟩ := FW.chk h
        refine FW.lfun (y := .lit (.string (FW.B (([123] : List UInt8) ++ t5)))) hk rfl rfl rfl rfl ((FW.f_pure (FW.p_sadd hk.kn FW.h0 rfl rfl hc3))) ?_; clear hk; intro a w hk
        obtain ⟨hc4, h⟩ := FW.chk h
        refine FW.lfun (y := .lit (.string (FW.B ((([123] : List UInt8) ++ t5) ++ ([125] : List UInt8))))) hk rfl rfl rfl rfl ((FW.f_pure (FW.p_sadd hk.kn FW.h0 rfl rfl hc4))) ?_; clear hk; intro a w hk
        refine FW.lfun (y := .lit (.string (FW.B ((([123] : List UInt8) ++ t5) ++ ([125] : List UInt8))))) hk rfl rfl rfl rfl (FW.f_assign hk FW.h0 rfl) ?_; clear hk; intro a w hk
        refine FW.lend (hK20 _ _ ?_); clear hK20 K'
        refine wp_ret ?_
        (repeat first | refine FW.then_ret ?_ | refine FW.block_ret ?_)
        obtain rfl := Option.some.inj h
        exact FW.fret1 hk rfl rfl
       ·skip
        refine FW.wreg ?_; intro K' hK21
        refine FW.lfun (y := .lit (.bool (decide (v0.Kind = 7)))) hk rfl rfl rfl rfl ((FW.f_pure (FW.p_eql hk.kn FW.h0 rfl rfl))) ?_; clear hk; intro a w hk
        refine FW.lfun (y := .lit (.bool (decide (v0.Kind = 7)))) hk rfl rfl rfl rfl (FW.f_assign hk FW.h0 rfl) ?_; clear hk; intro a w hk
        refine FW.lend (hK21 _ _ ?_); clear hK21 K'
        refine FW.wcondF (b := (decide (v0.Kind = 7))) hk h rfl (fun h hb => ?_) (fun h hb => ?_)
        ·skip
         refine FW.wreg ?_; intro K' hK22
         refine FW.lfun (y := .lit (.pointer (some ⟨bx1, 2, none⟩))) hk rfl rfl rfl rfl (FW.f_fieldPtr hk FW.h0 rfl Try.underlying33 rfl (by kernel_rfl) rfl) ?_; clear hk; intro a w hk
         refine FW.lfun (y := .lit (.int .i64 v0.N)) hk rfl rfl rfl rfl (FW.f_loadBlk1 hk FW.h0 (j := 0) rfl rfl Try.underlying2 rfl rfl) ?_; clear hk; intro a w hk
         obtain ⟨t6, hr_t6, h⟩ := FW.bnd h
         refine FW.lfun (y := .lit (.string (FW.B t6))) hk rfl rfl rfl rfl (FW.f_call hk FW.h0 rfl rfl Try.func37 rfl (by kernel_rfl) (lex_Number.ok K v0.N _ hr_t6)) ?_; clear hk; intro a w hk
         obtain ⟨hc5, h⟩ := FW.chk h
         refine FW.lfun (y := .lit (.string (FW.B (([118, 40] : List UInt8) ++ t6)))) hk rfl rfl rfl rfl ((FW.f_pure (FW.p_sadd hk.kn FW.h0 rfl rfl hc5))) ?_; clear hk; intro a w hk
         obtain ⟨hc6, h⟩ := FW.chk h
         refine FW.lfun (y := .lit (.string (FW.B ((([118, 40] : List UInt8) ++ t6) ++ ([41] : List UInt8))))) hk rfl rfl rfl rfl ((FW.f_pure (FW.p_sadd hk.kn FW.h0 rfl rfl hc6))) ?_; clear hk; intro a w hk
         refine FW.lfun (y := .lit (.string (FW.B ((([118, 40] : List UInt8) ++ t6) ++ ([41] : List UInt8))))) hk rfl rfl rfl rfl (FW.f_assign hk FW.h0 rfl) ?_; clear hk; intro a w hk
         refine FW.lend (hK22 _ _ ?_); clear hK22 K'
         refine wp_ret ?_
         (repeat first | refine FW.then_ret ?_ | refine FW.block_ret ?_)
         obtain rfl := Option.some.inj h
         exact FW.fret1 hk rfl rfl
        ·skip
         refine FW.wreg ?_; intro K' hK23
         refine FW.lfun (y := .lit (.bool (decide (v0.Kind = 8)))) hk rfl rfl rfl rfl ((FW.f_pure (FW.p_eql hk.kn FW.h0 rfl rfl))) ?_; clear hk; intro a w hk
         refine FW.lfun (y := .lit (.bool (decide (v0.Kind = 8)))) hk rfl rfl rfl rfl (FW.f_assign hk FW.h0 rfl) ?_; clear hk; intro a w hk
         refine FW.lend (hK23 _ _ ?_); clear hK23 K'
         refine FW.wcondF (b := (decide (v0.Kind = 8))) hk h rfl (fun h hb => ?_) (fun h hb => ?_)
         ·skip
          refine FW.wreg ?_; intro K' hK24
          refine FW.lfun (y := .lit (.pointer (some ⟨bx1, 2, none⟩))) hk rfl rfl rfl rfl (FW.f_fieldPtr hk FW.h0 rfl Try.underlying33 rfl (by kernel_rfl) rfl) ?_; clear hk; intro a w hk
          refine FW.lfun (y := .lit (.int .i64 v0.N)) hk rfl rfl rfl rfl (FW.f_loadBlk1 hk FW.h0 (j := 0) rfl rfl Try.underlying2 rfl rfl) ?_; clear hk; intro a w hk
          obtain ⟨t7, hr_t7, h⟩ := FW.bnd h
          refine FW.lfun (y := .lit (.string (FW.B t7))) hk rfl rfl rfl rfl (FW.f_call hk FW.h0 rfl rfl Try.func37 rfl (by kernel_rfl) (lex_Number.ok K v0.N _ hr_t7)) ?_; clear hk; intro a w hk
          obtain ⟨hc7, h⟩ := FW.chk h
          refine FW.lfun (y := .lit (.string (FW.B (([101, 40] : List UInt8) ++ t7)))) hk rfl rfl rfl rfl ((FW.f_pure (FW.p_sadd hk.kn FW.h0 rfl rfl hc7))) ?_; clear hk; intro a w hk
          obtain ⟨hc8, h⟩ := FW.chk h
          refine FW.lfun (y := .lit (.string (FW.B ((([101, 40] : List UInt8) ++ t7) ++ ([41] : List UInt8))))) hk rfl rfl rfl rfl ((FW.f_pure (FW.p_sadd hk.kn FW.h0 rfl rfl hc8))) ?_; clear hk; intro a w hk
          refine FW.lfun (y := .lit (.string (FW.B ((([101, 40] : List UInt8) ++ t7) ++ ([41] : List UInt8))))) hk rfl rfl rfl rfl (FW.f_assign hk FW.h0 rfl) ?_; clear hk; intro a w hk
          refine FW.lend (hK24 _ _ ?_); clear hK24 K'
          refine wp_ret ?_
          (repeat first | refine FW.then_ret ?_ | refine FW.block_ret ?_)
          obtain rfl := Option.some.inj h
          exact FW.fret1 hk rfl rfl
         ·skip
          refine wp_skip ?_
          (repeat first | refine FW.then_normal ?_ | refine FW.block_normal ?_); refine hK2 _ _ ?_
          refine FW.wreg ?_; intro K' hK25
          refine FW.lfun (y := .lit (.string (FW.B ([63] : List UInt8)))) hk rfl rfl rfl rfl (FW.f_assign hk FW.h0 rfl) ?_; clear hk; intro a w hk
          refine FW.lend (hK25 _ _ ?_); clear hK25 K'
          refine wp_ret ?_
          (repeat first | refine FW.then_ret ?_ | refine FW.block_ret ?_)
          obtain rfl := Option.some.inj h
          exact FW.fret1 hk rfl rfl
theorem show_join_api_Value_of_show_Value_knot : ∀ K : Nat, (∀ (v0 : List ApiValue) (r : List UInt8), show_join_api_Value_of_show_Value.f K v0 = some r → FW.Ok Try.prog 30 [.row (r_ApiValue_cells v0), .lit (.func (.func 15) #[] #[])] (.lit (.string (FW.B r)))) ∧ (∀ (v0 : ApiValue) (r : List UInt8), show_Value.f K v0 = some r → FW.Ok Try.prog 15 [.agg (ApiValue.cells v0)] (.lit (.string (FW.B r))))
 | 0 => ⟨fun v0 r h => by simp [show_join_api_Value_of_show_Value.f] at h, fun v0 r h => by simp [show_Value.f] at h⟩
 | K + 1 => ⟨fun v0 r h => by rw [show_join_api_Value_of_show_Value.f] at h; exact show_join_api_Value_of_show_Value.bok _ _ (show_join_api_Value_of_show_Value_knot K).1 (show_join_api_Value_of_show_Value_knot K).2 K v0 r h, fun v0 r h => by rw [show_Value.f] at h; exact show_Value.bok _ _ (show_join_api_Value_of_show_Value_knot K).1 (show_join_api_Value_of_show_Value_knot K).2 K v0 r h⟩
theorem show_join_api_Value_of_show_Value.ok (K : Nat) (v0 : List ApiValue) (r : List UInt8) (h : show_join_api_Value_of_show_Value.f K v0 = some r) : FW.Ok Try.prog 30 [.row (r_ApiValue_cells v0), .lit (.func (.func 15) #[] #[])] (.lit (.string (FW.B r))) := (show_join_api_Value_of_show_Value_knot K).1 v0 r h
theorem show_Value.ok (K : Nat) (v0 : ApiValue) (r : List UInt8) (h : show_Value.f K v0 = some r) : FW.Ok Try.prog 15 [.agg (ApiValue.cells v0)] (.lit (.string (FW.B r))) := (show_join_api_Value_of_show_Value_knot K).2 v0 r h

theorem show_Pred.bok (s_show_Pred : ApiPred → Option (List UInt8)) (hs_show_Pred : ∀ (v0 : ApiPred) (r : List UInt8), s_show_Pred v0 = some r → FW.Ok Try.prog 11 [.agg (ApiPred.cells v0)] (.lit (.string (FW.B r)))) (K : Nat) (v0 : ApiPred) (r : List UInt8) (h : show_Pred.b s_show_Pred K v0 = some r) :
  FW.Ok Try.prog 11 [.agg (ApiPred.cells v0)] (.lit (.string (FW.B r))) := by
 refine FW.enter (xs := [.agg (ApiPred.cells v0)]) Try.func11 rfl Try.ntmps11 rfl ?_
 intro M w0 a hk
 unfold show_Pred.b at h
 refine FW.wreg ?_; intro K' hK1
 refine FW.l_box (cs := (ApiPred.cells v0)) hk rfl rfl rfl rfl rfl ?_; clear hk; intro bx1 a w hk
 refine FW.lfun (y := .lit (.string (FW.B ([] : List UInt8)))) hk rfl rfl rfl rfl (FW.f_assign hk FW.h0 rfl) ?_; clear hk; intro a w hk
 refine FW.lend (hK1 _ _ ?_); clear hK1 K'
 refine FW.wseq ?_; intro K' hK2
 refine wp_block ?_
 refine FW.wreg ?_; intro K' hK3
 refine FW.lfun (y := .lit (.pointer (some ⟨bx1, 0, none⟩))) hk rfl rfl rfl rfl (FW.f_fieldPtr hk FW.h0 rfl Try.underlying36 rfl (by kernel_rfl) rfl) ?_; clear hk; intro a w hk
 refine FW.lfun (y := .lit (.string (FW.B v0.Op))) hk rfl rfl rfl rfl (FW.f_loadBlk1 hk FW.h0 (j := 0) rfl rfl Try.underlying9 rfl rfl) ?_; clear hk; intro a w hk
 refine FW.lfun (y := .lit (.bool (decide (v0.Op = ([97, 110, 100] : List UInt8))))) hk rfl rfl rfl rfl ((FW.f_pure (FW.p_seql hk.kn FW.h0 rfl rfl))) ?_; clear hk; intro a w hk
 refine FW.lfun (y := .lit (.bool (decide (v0.Op = ([97, 110, 100] : List UInt8))))) hk rfl rfl rfl rfl (FW.f_move hk FW.h0 rfl) ?_; clear hk; intro a w hk
 refine FW.lfunG (y := .lit (.pointer (some ⟨bx1, 0, none⟩))) hk rfl rfl rfl rfl rfl rfl rfl rfl (fun hc => FW.f_fieldPtr hk hc rfl Try.underlying36 rfl (by kernel_rfl) rfl) ?_; clear hk; intro a w hk
 refine FW.lfunG (y := .lit (.string (FW.B v0.Op))) hk rfl rfl rfl rfl rfl rfl rfl rfl (fun hc => FW.f_loadBlk1 hk hc (j := 0) rfl rfl Try.underlying9 rfl rfl) ?_; clear hk; intro a w hk
 refine FW.lfunG (y := .lit (.bool (decide (v0.Op = ([111, 114] : List UInt8))))) hk rfl rfl rfl rfl rfl rfl rfl rfl (fun hc => (FW.f_pure (FW.p_seql hk.kn hc rfl rfl))) ?_; clear hk; intro a w hk
 refine FW.lfun (y := .lit (.bool ((decide (v0.Op = ([97, 110, 100] : List UInt8))) || (decide (v0.Op = ([111, 114] : List UInt8)))))) hk rfl rfl rfl rfl ((FW.f_pure (FW.p_pick_or hk.kn FW.h0 rfl rfl))) ?_; clear hk; intro a w hk
 refine FW.lfun (y := .lit (.bool ((decide (v0.Op = ([97, 110, 100] : List UInt8))) || (decide (v0.Op = ([111, 114] : List UInt8)))))) hk rfl rfl rfl rfl (FW.f_move hk FW.h0 rfl) ?_; clear hk; intro a w hk
 refine FW.lfunG (y := .lit (.pointer (some ⟨bx1, 2, none⟩))) hk rfl rfl rfl rfl rfl rfl rfl rfl (fun hc => FW.f_fieldPtr hk hc rfl Try.underlying36 rfl (by kernel_rfl) rfl) ?_; clear hk; intro a w hk
 refine FW.lfunG (y := .row (r_ApiPred_cells v0.Kids)) hk rfl rfl rfl rfl rfl rfl rfl rfl (fun hc => FW.f_loadBlk1 hk hc (j := 0) rfl rfl Try.underlying34 rfl rfl) ?_; clear hk; intro a w hk
 refine FW.lfunG (y := .lit (.int .i64 (List.length v0.Kids : Int))) hk rfl rfl rfl rfl rfl rfl rfl rfl (fun hc => FW.f_len (R := r_ApiPred_cells) (f := ApiPred.cells) (l := v0.Kids) r_ApiPred_cells_eq Try.underlying34 hk hc rfl) ?_; clear hk; intro a w hk
 refine FW.lfunG (y := .lit (.bool (decide ((List.length v0.Kids : Int) = 2)))) hk rfl rfl rfl rfl rfl rfl rfl rfl (fun hc => (FW.f_pure (FW.p_eql hk.kn hc rfl rfl))) ?_; clear hk; intro a w hk
 refine FW.lfun (y := .lit (.bool (((decide (v0.Op = ([97, 110, 100] : List UInt8))) || (decide (v0.Op = ([111, 114] : List UInt8)))) && (decide ((List.length v0.Kids : Int) = 2))))) hk rfl rfl rfl rfl ((FW.f_pure (FW.p_pick_and hk.kn FW.h0 rfl rfl))) ?_; clear hk; intro a w hk
 refine FW.lfun (y := .lit (.bool (((decide (v0.Op = ([97, 110, 100] : List UInt8))) || (decide (v0.Op = ([111, 114] : List UInt8)))) && (decide ((List.length v0.Kids : Int) = 2))))) hk rfl rfl rfl rfl (FW.f_assign hk FW.h0 rfl) ?_; clear hk; intro a w hk
 refine FW.lend (hK3 _ _ ?_); clear hK3 K'
 refine FW.wcondF (b := (((decide (v0.Op = ([97, 110, 100] : List UInt8))) || (decide (v0.Op = ([111, 114] : List UInt8)))) && (decide ((List.length v0.Kids : Int) = 2)))) hk h rfl (fun h hb => ?_) (fun h hb => ?_)
 ·skip
  obtain ⟨hc1, h⟩ := FW.chk h
  obtain ⟨t1, hr_t1, h⟩ := FW.bnd h
  obtain ⟨hc2, h⟩ := FW.chk h
  obtain ⟨hc3, h⟩ := FW.chk h
  obtain ⟨hc4, h⟩ := FW.chk h
  obtain ⟨hc5, h⟩ := FW.chk h
  obtain ⟨t2, hr_t2, h⟩ := FW.bnd h
  obtain ⟨hc6, h⟩ := FW.chk h
  obtain ⟨hc7, h⟩ := FW.chk h
  refine FW.wdraw (by kernel_rfl) (by kernel_rfl) hk ?_; clear hk
  refine FW.dfun (y := .lit (.pointer (some ⟨bx1, 2, none⟩))) rfl rfl rfl rfl (fun a w hk => FW.f_fieldPtr hk FW.h0 rfl Try.underlying36 rfl (by kernel_rfl) rfl) ?_
  refine FW.dfun (y := .row (r_ApiPred_cells v0.Kids)) rfl rfl rfl rfl (fun a w hk => FW.f_loadBlk1 hk FW.h0 (j := 0) rfl rfl Try.underlying34 rfl rfl) ?_
  refine FW.dfun (y := .ref (ApiPred.cells (List.getD v0.Kids (Int.toNat 0) default))) rfl rfl rfl rfl (fun a w hk => FW.f_indexAddr (R := r_ApiPred_cells) (f := ApiPred.cells) (l := v0.Kids) (sz := 3) r_ApiPred_cells_eq (fun _ => rfl) hk FW.h0 rfl rfl Try.underlying34 (by kernel_rfl) hc1) ?_
  refine FW.dfun (y := .agg ((ApiPred.cells (List.getD v0.Kids (Int.toNat 0) default)))) rfl rfl rfl rfl (fun a w hk => FW.f_load hk FW.h0 rfl Try.underlying36 rfl rfl rfl rfl) ?_
  refine FW.dfun (y := .lit (.string (FW.B t1))) rfl rfl rfl rfl (fun a w hk => FW.f_call hk FW.h0 rfl rfl Try.func11 rfl (by kernel_rfl) (hs_show_Pred (List.getD v0.Kids (Int.toNat 0) default) _ hr_t1)) ?_
  refine FW.dfun (y := .lit (.string (FW.B (t1 ++ ([46] : List UInt8))))) rfl rfl rfl rfl (fun a w hk => (FW.f_pure (FW.p_sadd hk.kn FW.h0 rfl rfl hc2))) ?_
  refine FW.dfun (y := .lit (.pointer (some ⟨bx1, 0, none⟩))) rfl rfl rfl rfl (fun a w hk => FW.f_fieldPtr hk FW.h0 rfl Try.underlying36 rfl (by kernel_rfl) rfl) ?_
  refine FW.dfun (y := .lit (.string (FW.B v0.Op))) rfl rfl rfl rfl (fun a w hk => FW.f_loadBlk1 hk FW.h0 (j := 0) rfl rfl Try.underlying9 rfl rfl) ?_
  refine FW.dfun (y := .lit (.string (FW.B ((t1 ++ ([46] : List UInt8)) ++ v0.Op)))) rfl rfl rfl rfl (fun a w hk => (FW.f_pure (FW.p_sadd hk.kn FW.h0 rfl rfl hc3))) ?_
  refine FW.dfun (y := .lit (.string (FW.B (((t1 ++ ([46] : List UInt8)) ++ v0.Op) ++ ([40] : List UInt8))))) rfl rfl rfl rfl (fun a w hk => (FW.f_pure (FW.p_sadd hk.kn FW.h0 rfl rfl hc4))) ?_
  refine FW.dfun (y := .lit (.pointer (some ⟨bx1, 2, none⟩))) rfl rfl rfl rfl (fun a w hk => FW.f_fieldPtr hk FW.h0 rfl Try.underlying36 rfl (by kernel_rfl) rfl) ?_
  refine FW.dfun (y := .row (r_ApiPred_cells v0.Kids)) rfl rfl rfl rfl (fun a w hk => FW.f_loadBlk1 hk FW.h0 (j := 0) rfl rfl Try.underlying34 rfl rfl) ?_
  refine FW.dfun (y := .ref (ApiPred.cells (List.getD v0.Kids (Int.toNat 1) default))) rfl rfl rfl rfl (fun a w hk => FW.f_indexAddr (R := r_ApiPred_cells) (f := ApiPred.cells) (l := v0.Kids) (sz := 3) r_ApiPred_cells_eq (fun _ => rfl) hk FW.h0 rfl rfl Try.underlying34 (by kernel_rfl) hc5) ?_
  refine FW.dfun (y := .agg ((ApiPred.cells (List.getD v0.Kids (Int.toNat 1) default)))) rfl rfl rfl rfl (fun a w hk => FW.f_load hk FW.h0 rfl Try.underlying36 rfl rfl rfl rfl) ?_
  refine FW.dfun (y := .lit (.string (FW.B t2))) rfl rfl rfl rfl (fun a w hk => FW.f_call hk FW.h0 rfl rfl Try.func11 rfl (by kernel_rfl) (hs_show_Pred (List.getD v0.Kids (Int.toNat 1) default) _ hr_t2)) ?_
  refine FW.dfun (y := .lit (.string (FW.B ((((t1 ++ ([46] : List UInt8)) ++ v0.Op) ++ ([40] : List UInt8)) ++ t2)))) rfl rfl rfl rfl (fun a w hk => (FW.f_pure (FW.p_sadd hk.kn FW.h0 rfl rfl hc6))) ?_
  refine FW.dfun (y := .lit (.string (FW.B (((((t1 ++ ([46] : List UInt8)) ++ v0.Op) ++ ([40] : List UInt8)) ++ t2) ++ ([41] : List UInt8))))) rfl rfl rfl rfl (fun a w hk => (FW.f_pure (FW.p_sadd hk.kn FW.h0 rfl rfl hc7))) ?_
  refine FW.dfun (y := .lit (.string (FW.B (((((t1 ++ ([46] : List UInt8)) ++ v0.Op) ++ ([40] : List UInt8)) ++ t2) ++ ([41] : List UInt8))))) rfl rfl rfl rfl (fun a w hk => FW.f_assign hk FW.h0 rfl) ?_
  refine FW.dend ?_; intro a w hk
  refine wp_ret ?_
  (repeat first | refine FW.then_ret ?_ | refine FW.block_ret ?_)
  obtain rfl := Option.some.inj h
  exact FW.fret1 hk rfl rfl
 ·skip
  refine FW.wreg ?_; intro K' hK5
  refine FW.lfun (y := .lit (.pointer (some ⟨bx1, 0, none⟩))) hk rfl rfl rfl rfl (FW.f_fieldPtr hk FW.h0 rfl Try.underlying36 rfl (by kernel_rfl) rfl) ?_; clear hk; intro a w hk
  refine FW.lfun (y := .lit (.string (FW.B v0.Op))) hk rfl rfl rfl rfl (FW.f_loadBlk1 hk FW.h0 (j := 0) rfl rfl Try.underlying9 rfl rfl) ?_; clear hk; intro a w hk
  refine FW.lfun (y := .lit (.bool (decide (v0.Op = ([110, 111, 116] : List UInt8))))) hk rfl rfl rfl rfl ((FW.f_pure (FW.p_seql hk.kn FW.h0 rfl rfl))) ?_; clear hk; intro a w hk
  refine FW.lfun (y := .lit (.bool (decide (v0.Op = ([110, 111, 116] : List UInt8))))) hk rfl rfl rfl rfl (FW.f_move hk FW.h0 rfl) ?_; clear hk; intro a w hk
  refine FW.lfunG (y := .lit (.pointer (some ⟨bx1, 2, none⟩))) hk rfl rfl rfl rfl rfl rfl rfl rfl (fun hc => FW.f_fieldPtr hk hc rfl Try.underlying36 rfl (by kernel_rfl) rfl) ?_; clear hk; intro a w hk
  refine FW.lfunG (y := .row (r_ApiPred_cells v0.Kids)) hk rfl rfl rfl rfl rfl rfl rfl rfl (fun hc => FW.f_loadBlk1 hk hc (j := 0) rfl rfl Try.underlying34 rfl rfl) ?_; clear hk; intro a w hk
  refine FW.lfunG (y := .lit (.int .i64 (List.length v0.Kids : Int))) hk rfl rfl rfl rfl rfl rfl rfl rfl (fun hc => FW.f_len (R := r_ApiPred_cells) (f := ApiPred.cells) (l := v0.Kids) r_ApiPred_cells_eq Try.underlying34 hk hc rfl) ?_; clear hk; intro a w hk
  refine FW.lfunG (y := .lit (.bool (decide ((List.length v0.Kids : Int) = 1)))) hk rfl rfl rfl rfl rfl rfl rfl rfl (fun hc => (FW.f_pure (FW.p_eql hk.kn hc rfl rfl))) ?_; clear hk; intro a w hk
  refine FW.lfun (y := .lit (.bool ((decide (v0.Op = ([110, 111, 116] : List UInt8))) && (decide ((List.length v0.Kids : Int) = 1))))) hk rfl rfl rfl rfl ((FW.f_pure (FW.p_pick_and hk.kn FW.h0 rfl rfl))) ?_; clear hk; intro a w hk
  refine FW.lfun (y := .lit (.bool ((decide (v0.Op = ([110, 111, 116] : List UInt8))) && (decide ((List.length v0.Kids : Int) = 1))))) hk rfl rfl rfl rfl (FW.f_assign hk FW.h0 rfl) ?_; clear hk; intro a w hk
  refine FW.lend (hK5 _ _ ?_); clear hK5 K'
  refine FW.wcondF (b := ((decide (v0.Op = ([110, 111, 116] : List UInt8))) && (decide ((List.length v0.Kids : Int) = 1)))) hk h rfl (fun h hb => ?_) (fun h hb => ?_)
  ·skip
   refine FW.wreg ?_; intro K' hK6
   refine FW.lfun (y := .lit (.pointer (some ⟨bx1, 2, none⟩))) hk rfl rfl rfl rfl (FW.f_fieldPtr hk FW.h0 rfl Try.underlying36 rfl (by kernel_rfl) rfl) ?_; clear hk; intro a w hk
   refine FW.lfun (y := .row (r_ApiPred_cells v0.Kids)) hk rfl rfl rfl rfl (FW.f_loadBlk1 hk FW.h0 (j := 0) rfl rfl Try.underlying34 rfl rfl) ?_; clear hk; intro a w hk
   obtain ⟨hc8, h⟩ := FW.chk h
   refine FW.lfun (y := .ref (ApiPred.cells (List.getD v0.Kids (Int.toNat 0) default))) hk rfl rfl rfl rfl (FW.f_indexAddr (R := r_ApiPred_cells) (f := ApiPred.cells) (l := v0.Kids) (sz := 3) r_ApiPred_cells_eq (fun _ => rfl) hk FW.h0 rfl rfl Try.underlying34 (by kernel_rfl) hc8) ?_; clear hk; intro a w hk
   refine FW.lfun (y := .agg ((ApiPred.cells (List.getD v0.Kids (Int.toNat 0) default)))) hk rfl rfl rfl rfl (FW.f_load hk FW.h0 rfl Try.underlying36 rfl rfl rfl rfl) ?_; clear hk; intro a w hk
   obtain ⟨t3, hr_t3, h⟩ := FW.bnd h
   refine FW.lfun (y := .lit (.string (FW.B t3))) hk rfl rfl rfl rfl (FW.f_call hk FW.h0 rfl rfl Try.func11 rfl (by kernel_rfl) (hs_show_Pred (List.getD v0.Kids (Int.toNat 0) default) _ hr_t3)) ?_; clear hk; intro a w hk
   obtain ⟨hc9, h⟩ := FW.chk h
   refine FW.lfun (y := .lit (.string (FW.B (t3 ++ ([46, 110, 101, 103, 97, 116, 101, 40, 41] : List UInt8))))) hk rfl rfl rfl rfl ((FW.f_pure (FW.p_sadd hk.kn FW.h0 rfl rfl hc9))) ?_; clear hk; intro a w hk
   refine FW.lfun (y := .lit (.string (FW.B (t3 ++ ([46, 110, 101, 103, 97, 116, 101, 40, 41] : List UInt8))))) hk rfl rfl rfl rfl (FW.f_assign hk FW.h0 rfl) ?_; clear hk; intro a w hk
   refine FW.lend (hK6 _ _ ?_); clear hK6 K'
   refine wp_ret ?_
   (repeat first | refine FW.then_ret ?_ | refine FW.block_ret ?_)
   obtain rfl := Option.some.inj h
   exact FW.fret1 hk rfl rfl
  ·skip
   refine wp_skip ?_
   (repeat first | refine FW.then_normal ?_ | refine FW.block_normal ?_); refine hK2 _ _ ?_
   obtain ⟨hc10, h⟩ := FW.chk h
   obtain ⟨t4, hr_t4, h⟩ := FW.bnd h
   obtain ⟨hc11, h⟩ := FW.chk h
   obtain ⟨hc12, h⟩ := FW.chk h
   refine FW.wdraw (by kernel_rfl) (by kernel_rfl) hk ?_; clear hk
   refine FW.dfun (y := .lit (.pointer (some ⟨bx1, 0, none⟩))) rfl rfl rfl rfl (fun a w hk => FW.f_fieldPtr hk FW.h0 rfl Try.underlying36 rfl (by kernel_rfl) rfl) ?_
   refine FW.dfun (y := .lit (.string (FW.B v0.Op))) rfl rfl rfl rfl (fun a w hk => FW.f_loadBlk1 hk FW.h0 (j := 0) rfl rfl Try.underlying9 rfl rfl) ?_
   refine FW.dfun (y := .lit (.string (FW.B (v0.Op ++ ([40] : List UInt8))))) rfl rfl rfl rfl (fun a w hk => (FW.f_pure (FW.p_sadd hk.kn FW.h0 rfl rfl hc10))) ?_
   refine FW.dfun (y := .lit (.pointer (some ⟨bx1, 1, none⟩))) rfl rfl rfl rfl (fun a w hk => FW.f_fieldPtr hk FW.h0 rfl Try.underlying36 rfl (by kernel_rfl) rfl) ?_
   refine FW.dfun (y := .row (r_ApiValue_cells v0.L)) rfl rfl rfl rfl (fun a w hk => FW.f_loadBlk1 hk FW.h0 (j := 0) rfl rfl Try.underlying31 rfl rfl) ?_
   refine FW.dfun (y := .lit (.string (FW.B t4))) rfl rfl rfl rfl (fun a w hk => FW.f_call hk FW.h0 rfl rfl Try.func30 rfl (by kernel_rfl) (show_join_api_Value_of_show_Value.ok K v0.L _ hr_t4)) ?_
   refine FW.dfun (y := .lit (.string (FW.B ((v0.Op ++ ([40] : List UInt8)) ++ t4)))) rfl rfl rfl rfl (fun a w hk => (FW.f_pure (FW.p_sadd hk.kn FW.h0 rfl rfl hc11))) ?_
   refine FW.dfun (y := .lit (.string (FW.B (((v0.Op ++ ([40] : List UInt8)) ++ t4) ++ ([41] : List UInt8))))) rfl rfl rfl rfl (fun a w hk => (FW.f_pure (FW.p_sadd hk.kn FW.h0 rfl rfl hc12))) ?_
   refine FW.dfun (y := .lit (.string (FW.B (((v0.Op ++ ([40] : List UInt8)) ++ t4) ++ ([41] : List UInt8))))) rfl rfl rfl rfl (fun a w hk => FW.f_assign hk FW.h0 rfl) ?_
   refine FW.dend ?_; intro a w hk
   refine wp_ret ?_
   (repeat first | refine FW.then_ret ?_ | refine FW.block_ret ?_)
   obtain rfl := Option.some.inj h
   exact FW.fret1 hk rfl rfl
theorem show_Pred_knot : ∀ K : Nat, (∀ (v0 : ApiPred) (r : List UInt8), show_Pred.f K v0 = some r → FW.Ok Try.prog 11 [.agg (ApiPred.cells v0)] (.lit (.string (FW.B r))))
 | 0 => fun v0 r h => by simp [show_Pred.f] at h
 | K + 1 => fun v0 r h => by rw [show_Pred.f] at h; exact show_Pred.bok _ (show_Pred_knot K) K v0 r h
theorem show_Pred.ok (K : Nat) (v0 : ApiPred) (r : List UInt8) (h : show_Pred.f K v0 = some r) : FW.Ok Try.prog 11 [.agg (ApiPred.cells v0)] (.lit (.string (FW.B r))) := (show_Pred_knot K) v0 r h
end Go.Proofs.Ytbjbgodcenopnaa

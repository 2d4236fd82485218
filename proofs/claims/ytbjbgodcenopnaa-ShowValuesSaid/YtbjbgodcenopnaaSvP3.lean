/- Written by a program of this session (gen.py): the contracts of functions of the program. -/
import Derived.KernelRfl
import Derived.Test.YtbjbgodcenopnaaProg
import Derived.Test.YtbjbgodcenopnaaAvFun
import Derived.Test.YtbjbgodcenopnaaAvMan
import Derived.Test.YtbjbgodcenopnaaAvMore
import Derived.Test.YtbjbgodcenopnaaAvDraw2
import Derived.Test.YtbjbgodcenopnaaAvRow
import Derived.Test.YtbjbgodcenopnaaAvBld
import Derived.Test.YtbjbgodcenopnaaHcl
import Derived.Test.YtbjbgodcenopnaaAvFl
import Derived.Test.YtbjbgodcenopnaaSvD
import Derived.Test.YtbjbgodcenopnaaSvP2
namespace Go.Proofs.Ytbjbgodcenopnaa
set_option linter.unusedVariables false
set_option maxRecDepth 20000
set_option maxHeartbeats 10000000
theorem offshootref02_Put.bok (s_offshootref02_Put : ApiValue → Option (List UInt8)) (hs_offshootref02_Put : ∀ (v0 : ApiValue) (r : List UInt8), s_offshootref02_Put v0 = some r → FW.Ok Try.prog 14 [.agg (ApiValue.cells v0)] (.lit (.string (FW.B r)))) (K : Nat) (v0 : ApiValue) (r : List UInt8) (h : offshootref02_Put.b s_offshootref02_Put K v0 = some r) :
  FW.Ok Try.prog 14 [.agg (ApiValue.cells v0)] (.lit (.string (FW.B r))) := by
 refine FW.enter (xs := [.agg (ApiValue.cells v0)]) Try.func14 rfl Try.ntmps14 rfl ?_
 intro M w0 a hk
 unfold offshootref02_Put.b at h
 refine FW.wreg ?_; intro K' hK1
 refine FW.l_box (cs := (ApiValue.cells v0)) hk rfl rfl rfl rfl rfl ?_; clear hk; intro bx1 a w hk
 refine FW.lfun (y := .lit (.string (FW.B ([] : List UInt8)))) hk rfl rfl rfl rfl (FW.f_assign hk FW.h0 rfl) ?_; clear hk; intro a w hk
 refine FW.lend (hK1 _ _ ?_); clear hK1 K'
 refine FW.wreg ?_; intro K' hK2
 refine FW.lfun (y := .lit (.pointer (some ⟨bx1, 0, none⟩))) hk rfl rfl rfl rfl (FW.f_fieldPtr hk FW.h0 rfl Try.underlying33 rfl (by kernel_rfl) rfl) ?_; clear hk; intro a w hk
 refine FW.lfun (y := .lit (.int .i64 v0.Kind)) hk rfl rfl rfl rfl (FW.f_loadBlk1 hk FW.h0 (j := 0) rfl rfl Try.underlying3 rfl rfl) ?_; clear hk; intro a w hk
 refine FW.lfun (y := .lit (.int .u8 (IntKind.wrap .u8 v0.Kind))) hk rfl rfl rfl rfl ((FW.f_pure (FW.p_conv Try.underlying3 Try.underlying5 hk.kn FW.h0 rfl))) ?_; clear hk; intro a w hk
 refine FW.l_buildSlice (f := c_u8) (l := ([(IntKind.wrap .u8 v0.Kind)] : List Int)) hk rfl rfl rfl Try.underlying75 rfl rfl rfl rfl (fun _ => rfl) rfl ?_; clear hk; intro bx2 a w hk
 refine FW.lfun (y := .lit (.string (FW.B (FW.toB ([(IntKind.wrap .u8 v0.Kind)] : List Int))))) hk rfl rfl rfl rfl (FW.f_toBown (f := c_u8) rfl hk FW.h0 (j := 0) rfl rfl Try.underlying75 Try.underlying5 Try.underlying9) ?_; clear hk; intro a w hk
 refine FW.lfun (y := .lit (.string (FW.B (FW.toB ([(IntKind.wrap .u8 v0.Kind)] : List Int))))) hk rfl rfl rfl rfl (FW.f_assign hk FW.h0 rfl) ?_; clear hk; intro a w hk
 refine FW.lend (hK2 _ _ ?_); clear hK2 K'
 refine FW.wseqJ (fun a w => ∃ (v3 : List UInt8), FW.S M w0 a w 74 [] [(3, [], .lit (.string (FW.B v3)))] ∧ offshootref02_Put.j1 s_offshootref02_Put K v3 = some r) ?_ ?_
 ·clear hk h
  rintro a w ⟨v3, hk, h⟩
  unfold offshootref02_Put.j1 at h
  refine FW.wreg ?_; intro K' hK4
  refine FW.lfun (y := .lit (.string (FW.B v3))) hk rfl rfl rfl rfl (FW.f_move hk FW.h0 rfl) ?_; clear hk; intro a w hk
  refine FW.lfun (y := .lit (.string (FW.B v3))) hk rfl rfl rfl rfl (FW.f_assign hk FW.h0 rfl) ?_; clear hk; intro a w hk
  refine FW.lend (hK4 _ _ ?_); clear hK4 K'
  refine wp_ret ?_
  (repeat first | refine FW.then_ret ?_ | refine FW.block_ret ?_)
  obtain rfl := Option.some.inj h
  exact FW.fret1 hk rfl rfl
 ·intro K' hK3
  refine FW.wreg ?_; intro K' hK5
  refine FW.lfun (y := .lit (.pointer (some ⟨bx1, 0, none⟩))) hk rfl rfl rfl rfl (FW.f_fieldPtr hk FW.h0 rfl Try.underlying33 rfl (by kernel_rfl) rfl) ?_; clear hk; intro a w hk
  refine FW.lfun (y := .lit (.int .i64 v0.Kind)) hk rfl rfl rfl rfl (FW.f_loadBlk1 hk FW.h0 (j := 1) rfl rfl Try.underlying3 rfl rfl) ?_; clear hk; intro a w hk
  refine FW.lend (hK5 _ _ ?_); clear hK5 K'
  refine wp_block ?_
  refine FW.wreg ?_; intro K' hK6
  refine FW.lfun (y := .lit (.bool (decide (v0.Kind = 1)))) hk rfl rfl rfl rfl ((FW.f_pure (FW.p_eql hk.kn FW.h0 rfl rfl))) ?_; clear hk; intro a w hk
  refine FW.lfun (y := .lit (.bool (decide (v0.Kind = 1)))) hk rfl rfl rfl rfl (FW.f_assign hk FW.h0 rfl) ?_; clear hk; intro a w hk
  refine FW.lend (hK6 _ _ ?_); clear hK6 K'
  refine FW.wcondF (b := (decide (v0.Kind = 1))) hk h rfl (fun h hb => ?_) (fun h hb => ?_)
  ·skip
   refine FW.wseq ?_; intro K' hK7
   refine FW.wreg ?_; intro K' hK8
   refine FW.lfun (y := .lit (.pointer (some ⟨bx1, 1, none⟩))) hk rfl rfl rfl rfl (FW.f_fieldPtr hk FW.h0 rfl Try.underlying33 rfl (by kernel_rfl) rfl) ?_; clear hk; intro a w hk
   refine FW.lfun (y := .lit (.bool v0.B)) hk rfl rfl rfl rfl (FW.f_loadBlk1 hk FW.h0 (j := 1) rfl rfl Try.underlying4 rfl rfl) ?_; clear hk; intro a w hk
   refine FW.lend (hK8 _ _ ?_); clear hK8 K'
   refine FW.wcondF (b := v0.B) hk h rfl (fun h hb => ?_) (fun h hb => ?_)
   ·skip
    refine FW.wreg ?_; intro K' hK9
    refine FW.lfun (y := .lit (.string (FW.B (FW.toB ([(IntKind.wrap .u8 v0.Kind)] : List Int))))) hk rfl rfl rfl rfl (FW.f_move hk FW.h0 rfl) ?_; clear hk; intro a w hk
    obtain ⟨hc1, h⟩ := FW.chk h
    refine FW.lfun (y := .lit (.string (FW.B ((FW.toB ([(IntKind.wrap .u8 v0.Kind)] : List Int)) ++ ([1] : List UInt8))))) hk rfl rfl rfl rfl ((FW.f_pure (FW.p_sadd hk.kn FW.h0 rfl rfl hc1))) ?_; clear hk; intro a w hk
    refine FW.lfun (y := .lit (.string (FW.B ((FW.toB ([(IntKind.wrap .u8 v0.Kind)] : List Int)) ++ ([1] : List UInt8))))) hk rfl rfl rfl rfl (FW.f_assign hk FW.h0 rfl) ?_; clear hk; intro a w hk
    refine FW.lend (hK9 _ _ ?_); clear hK9 K'
    refine wp_ret ?_
    (repeat first | refine FW.then_ret ?_ | refine FW.block_ret ?_)
    obtain rfl := Option.some.inj h
    exact FW.fret1 hk rfl rfl
   ·skip
    refine wp_skip ?_
    (repeat first | refine FW.then_normal ?_ | refine FW.block_normal ?_); refine hK7 _ _ ?_
    refine FW.wreg ?_; intro K' hK10
    refine FW.lfun (y := .lit (.string (FW.B (FW.toB ([(IntKind.wrap .u8 v0.Kind)] : List Int))))) hk rfl rfl rfl rfl (FW.f_move hk FW.h0 rfl) ?_; clear hk; intro a w hk
    obtain ⟨hc2, h⟩ := FW.chk h
    refine FW.lfun (y := .lit (.string (FW.B ((FW.toB ([(IntKind.wrap .u8 v0.Kind)] : List Int)) ++ ([0] : List UInt8))))) hk rfl rfl rfl rfl ((FW.f_pure (FW.p_sadd hk.kn FW.h0 rfl rfl hc2))) ?_; clear hk; intro a w hk
    refine FW.lfun (y := .lit (.string (FW.B ((FW.toB ([(IntKind.wrap .u8 v0.Kind)] : List Int)) ++ ([0] : List UInt8))))) hk rfl rfl rfl rfl (FW.f_assign hk FW.h0 rfl) ?_; clear hk; intro a w hk
    refine FW.lend (hK10 _ _ ?_); clear hK10 K'
    refine wp_ret ?_
    (repeat first | refine FW.then_ret ?_ | refine FW.block_ret ?_)
    obtain rfl := Option.some.inj h
    exact FW.fret1 hk rfl rfl
  ·skip
   refine FW.wseqJ (fun a w => ∃ (y1 : ApiValue) (v3 : List UInt8) (v11 : Int) (v20 : Bool), FW.S M w0 a w 74 [FW.blk bx1 33 ((ApiValue.cells y1))] [(1, [], .lit (.pointer (some ⟨bx1, 0, none⟩))), (3, [], .lit (.string (FW.B v3))), (11, [], .lit (.int .i64 v11)), (20, [], .lit (.bool v20))] ∧ offshootref02_Put.j2 s_offshootref02_Put K y1 v3 v11 v20 = some r) ?_ ?_
   ·clear hk h
    rintro a w ⟨y1, v3, v11, v20, hk, h⟩
    unfold offshootref02_Put.j2 at h
    refine FW.wcondF (b := v20) hk h rfl (fun h hb => ?_) (fun h hb => ?_)
    ·skip
     refine FW.wreg ?_; intro K' hK12
     refine FW.lfun (y := .lit (.string (FW.B v3))) hk rfl rfl rfl rfl (FW.f_move hk FW.h0 rfl) ?_; clear hk; intro a w hk
     refine FW.lfun (y := .lit (.pointer (some ⟨bx1, 2, none⟩))) hk rfl rfl rfl rfl (FW.f_fieldPtr hk FW.h0 rfl Try.underlying33 rfl (by kernel_rfl) rfl) ?_; clear hk; intro a w hk
     refine FW.lfun (y := .lit (.int .i64 y1.N)) hk rfl rfl rfl rfl (FW.f_loadBlk1 hk FW.h0 (j := 0) rfl rfl Try.underlying2 rfl rfl) ?_; clear hk; intro a w hk
     refine FW.lfun (y := .lit (.int .u64 (IntKind.wrap .u64 y1.N))) hk rfl rfl rfl rfl ((FW.f_pure (FW.p_conv Try.underlying2 Try.underlying77 hk.kn FW.h0 rfl))) ?_; clear hk; intro a w hk
     obtain ⟨t1, hr_t1, h⟩ := FW.bnd h
     refine FW.lfun (y := .lit (.string (FW.B t1))) hk rfl rfl rfl rfl (FW.f_call hk FW.h0 rfl rfl Try.func34 rfl (by kernel_rfl) (offshootref02_Eight.ok K (IntKind.wrap .u64 y1.N) _ hr_t1)) ?_; clear hk; intro a w hk
     obtain ⟨hc3, h⟩ := FW.chk h
     refine FW.lfun (y := .lit (.string (FW.B (v3 ++ t1)))) hk rfl rfl rfl rfl ((FW.f_pure (FW.p_sadd hk.kn FW.h0 rfl rfl hc3))) ?_; clear hk; intro a w hk
     refine FW.lfun (y := .lit (.string (FW.B (v3 ++ t1)))) hk rfl rfl rfl rfl (FW.f_assign hk FW.h0 rfl) ?_; clear hk; intro a w hk
     refine FW.lend (hK12 _ _ ?_); clear hK12 K'
     refine wp_ret ?_
     (repeat first | refine FW.then_ret ?_ | refine FW.block_ret ?_)
     obtain rfl := Option.some.inj h
     exact FW.fret1 hk rfl rfl
    ·skip
     refine FW.wreg ?_; intro K' hK13
     refine FW.lfun (y := .lit (.bool (decide (v11 = 3)))) hk rfl rfl rfl rfl ((FW.f_pure (FW.p_eql hk.kn FW.h0 rfl rfl))) ?_; clear hk; intro a w hk
     refine FW.lfun (y := .lit (.bool (decide (v11 = 3)))) hk rfl rfl rfl rfl (FW.f_assign hk FW.h0 rfl) ?_; clear hk; intro a w hk
     refine FW.lend (hK13 _ _ ?_); clear hK13 K'
     refine FW.wcondF (b := (decide (v11 = 3))) hk h rfl (fun h hb => ?_) (fun h hb => ?_)
     ·skip
      refine FW.wreg ?_; intro K' hK14
      refine FW.lfun (y := .lit (.string (FW.B v3))) hk rfl rfl rfl rfl (FW.f_move hk FW.h0 rfl) ?_; clear hk; intro a w hk
      refine FW.lfun (y := .lit (.pointer (some ⟨bx1, 3, none⟩))) hk rfl rfl rfl rfl (FW.f_fieldPtr hk FW.h0 rfl Try.underlying33 rfl (by kernel_rfl) rfl) ?_; clear hk; intro a w hk
      refine FW.lfun (y := .lit (.float .f64 y1.F)) hk rfl rfl rfl rfl (FW.f_loadBlk1 hk FW.h0 (j := 0) rfl rfl Try.underlying30 rfl rfl) ?_; clear hk; intro a w hk
      obtain ⟨t2, hr_t2, h⟩ := FW.bnd h
      refine FW.lfun (y := .lit (.int .u64 t2)) hk rfl rfl rfl rfl (FW.f_call hk FW.h0 rfl rfl Try.func35 rfl (by kernel_rfl) (offshootref01_Canon.ok y1.F _ hr_t2)) ?_; clear hk; intro a w hk
      obtain ⟨t3, hr_t3, h⟩ := FW.bnd h
      refine FW.lfun (y := .lit (.string (FW.B t3))) hk rfl rfl rfl rfl (FW.f_call hk FW.h0 rfl rfl Try.func34 rfl (by kernel_rfl) (offshootref02_Eight.ok K t2 _ hr_t3)) ?_; clear hk; intro a w hk
      obtain ⟨hc4, h⟩ := FW.chk h
      refine FW.lfun (y := .lit (.string (FW.B (v3 ++ t3)))) hk rfl rfl rfl rfl ((FW.f_pure (FW.p_sadd hk.kn FW.h0 rfl rfl hc4))) ?_; clear hk; intro a w hk
      refine FW.lfun (y := .lit (.string (FW.B (v3 ++ t3)))) hk rfl rfl rfl rfl (FW.f_assign hk FW.h0 rfl) ?_; clear hk; intro a w hk
      refine FW.lend (hK14 _ _ ?_); clear hK14 K'
      refine wp_ret ?_
      (repeat first | refine FW.then_ret ?_ | refine FW.block_ret ?_)
      obtain rfl := Option.some.inj h
      exact FW.fret1 hk rfl rfl
     ·skip
      refine FW.wreg ?_; intro K' hK15
      refine FW.lfun (y := .lit (.bool (decide (v11 = 4)))) hk rfl rfl rfl rfl ((FW.f_pure (FW.p_eql hk.kn FW.h0 rfl rfl))) ?_; clear hk; intro a w hk
      refine FW.lfun (y := .lit (.bool (decide (v11 = 4)))) hk rfl rfl rfl rfl (FW.f_assign hk FW.h0 rfl) ?_; clear hk; intro a w hk
      refine FW.lend (hK15 _ _ ?_); clear hK15 K'
      refine FW.wcondF (b := (decide (v11 = 4))) hk h rfl (fun h hb => ?_) (fun h hb => ?_)
      ·skip
       obtain ⟨t4, hr_t4, h⟩ := FW.bnd h
       obtain ⟨hc5, h⟩ := FW.chk h
       obtain ⟨hc6, h⟩ := FW.chk h
       refine FW.wdraw (by kernel_rfl) (by kernel_rfl) hk ?_; clear hk
       refine FW.dfun (y := .lit (.string (FW.B v3))) rfl rfl rfl rfl (fun a w hk => FW.f_move hk FW.h0 rfl) ?_
       refine FW.dfun (y := .lit (.pointer (some ⟨bx1, 4, none⟩))) rfl rfl rfl rfl (fun a w hk => FW.f_fieldPtr hk FW.h0 rfl Try.underlying33 rfl (by kernel_rfl) rfl) ?_
       refine FW.dfun (y := .lit (.string (FW.B y1.S))) rfl rfl rfl rfl (fun a w hk => FW.f_loadBlk1 hk FW.h0 (j := 0) rfl rfl Try.underlying9 rfl rfl) ?_
       refine FW.dfun (y := .lit (.int .i64 (List.length y1.S : Int))) rfl rfl rfl rfl (fun a w hk => (FW.f_pure (FW.p_slen Try.underlying9 hk.kn FW.h0 rfl))) ?_
       refine FW.dfun (y := .lit (.string (FW.B t4))) rfl rfl rfl rfl (fun a w hk => FW.f_call hk FW.h0 rfl rfl Try.func36 rfl (by kernel_rfl) (offshootref02_Two.ok (List.length y1.S : Int) _ hr_t4)) ?_
       refine FW.dfun (y := .lit (.string (FW.B (v3 ++ t4)))) rfl rfl rfl rfl (fun a w hk => (FW.f_pure (FW.p_sadd hk.kn FW.h0 rfl rfl hc5))) ?_
       refine FW.dfun (y := .lit (.pointer (some ⟨bx1, 4, none⟩))) rfl rfl rfl rfl (fun a w hk => FW.f_fieldPtr hk FW.h0 rfl Try.underlying33 rfl (by kernel_rfl) rfl) ?_
       refine FW.dfun (y := .lit (.string (FW.B y1.S))) rfl rfl rfl rfl (fun a w hk => FW.f_loadBlk1 hk FW.h0 (j := 0) rfl rfl Try.underlying9 rfl rfl) ?_
       refine FW.dfun (y := .lit (.string (FW.B ((v3 ++ t4) ++ y1.S)))) rfl rfl rfl rfl (fun a w hk => (FW.f_pure (FW.p_sadd hk.kn FW.h0 rfl rfl hc6))) ?_
       refine FW.dfun (y := .lit (.string (FW.B ((v3 ++ t4) ++ y1.S)))) rfl rfl rfl rfl (fun a w hk => FW.f_assign hk FW.h0 rfl) ?_
       refine FW.dend ?_; intro a w hk
       refine wp_ret ?_
       (repeat first | refine FW.then_ret ?_ | refine FW.block_ret ?_)
       obtain rfl := Option.some.inj h
       exact FW.fret1 hk rfl rfl
      ·skip
       refine FW.wseqJ (fun a w => ∃ (v3 : List UInt8) (v49 : Bool), FW.S M w0 a w 74 [FW.blk bx1 33 ((ApiValue.cells y1))] [(1, [], .lit (.pointer (some ⟨bx1, 0, none⟩))), (3, [], .lit (.string (FW.B v3))), (49, [], .lit (.bool v49))] ∧ offshootref02_Put.j3 s_offshootref02_Put K y1 v3 v49 = some r) ?_ ?_
       ·clear hk h
        rintro a w ⟨v3, v49, hk, h⟩
        unfold offshootref02_Put.j3 at h
        refine FW.wcondF (b := v49) hk h rfl (fun h hb => ?_) (fun h hb => ?_)
        ·skip
         refine FW.wreg ?_; intro K' hK18
         refine FW.lfun (y := .lit (.string (FW.B v3))) hk rfl rfl rfl rfl (FW.f_move hk FW.h0 rfl) ?_; clear hk; intro a w hk
         refine FW.lfun (y := .lit (.pointer (some ⟨bx1, 5, none⟩))) hk rfl rfl rfl rfl (FW.f_fieldPtr hk FW.h0 rfl Try.underlying33 rfl (by kernel_rfl) rfl) ?_; clear hk; intro a w hk
         refine FW.lfun (y := .row (r_ApiValue_cells y1.L)) hk rfl rfl rfl rfl (FW.f_loadBlk1 hk FW.h0 (j := 0) rfl rfl Try.underlying31 rfl rfl) ?_; clear hk; intro a w hk
         refine FW.lfun (y := .lit (.int .i64 (List.length y1.L : Int))) hk rfl rfl rfl rfl (FW.f_len (R := r_ApiValue_cells) (f := ApiValue.cells) (l := y1.L) r_ApiValue_cells_eq Try.underlying31 hk FW.h0 rfl) ?_; clear hk; intro a w hk
         obtain ⟨t5, hr_t5, h⟩ := FW.bnd h
         refine FW.lfun (y := .lit (.string (FW.B t5))) hk rfl rfl rfl rfl (FW.f_call hk FW.h0 rfl rfl Try.func36 rfl (by kernel_rfl) (offshootref02_Two.ok (List.length y1.L : Int) _ hr_t5)) ?_; clear hk; intro a w hk
         obtain ⟨hc7, h⟩ := FW.chk h
         refine FW.lfun (y := .lit (.string (FW.B (v3 ++ t5)))) hk rfl rfl rfl rfl ((FW.f_pure (FW.p_sadd hk.kn FW.h0 rfl rfl hc7))) ?_; clear hk; intro a w hk
         refine FW.lfun (y := .lit (.string (FW.B (v3 ++ t5)))) hk rfl rfl rfl rfl (FW.f_assign hk FW.h0 rfl) ?_; clear hk; intro a w hk
         refine FW.lend (hK18 _ _ ?_); clear hK18 K'
         refine FW.wreg ?_; intro K' hK19
         refine FW.lfun (y := .lit (.int .i64 0)) hk rfl rfl rfl rfl (FW.f_assign hk FW.h0 rfl) ?_; clear hk; intro a w hk
         refine FW.lend (hK19 _ _ ?_); clear hK19 K'
         refine wp_block ?_
         refine FW.wloop (T := Nat × List UInt8 × Int) (fun x a w => match x with | (kl1, v3, v4) => FW.S M w0 a w 74 [FW.blk bx1 33 ((ApiValue.cells y1))] [(1, [], .lit (.pointer (some ⟨bx1, 0, none⟩))), (3, [], .lit (.string (FW.B v3))), (4, [], .lit (.int .i64 v4))] ∧ offshootref02_Put.l1 s_offshootref02_Put K y1 kl1 v3 v4 = some r) (fun x => x.1) (K, (v3 ++ t5), 0) ⟨hk.sub ⟨rfl, rfl, rfl, trivial⟩, h⟩ ?_
         clear hk h
         rintro ⟨kl1, v3, v4⟩ a w ⟨hk, h⟩ K' hK20
         cases kl1 with
         | zero => simp [offshootref02_Put.l1] at h
         | succ kl1 =>
         rw [offshootref02_Put.l1.eq_2] at h
         refine FW.wseq ?_; intro K' hK21
         refine FW.wreg ?_; intro K' hK22
         refine FW.lfun (y := .lit (.int .i64 v4)) hk rfl rfl rfl rfl (FW.f_move hk FW.h0 rfl) ?_; clear hk; intro a w hk
         refine FW.lfun (y := .lit (.pointer (some ⟨bx1, 5, none⟩))) hk rfl rfl rfl rfl (FW.f_fieldPtr hk FW.h0 rfl Try.underlying33 rfl (by kernel_rfl) rfl) ?_; clear hk; intro a w hk
         refine FW.lfun (y := .row (r_ApiValue_cells y1.L)) hk rfl rfl rfl rfl (FW.f_loadBlk1 hk FW.h0 (j := 0) rfl rfl Try.underlying31 rfl rfl) ?_; clear hk; intro a w hk
         refine FW.lfun (y := .lit (.int .i64 (List.length y1.L : Int))) hk rfl rfl rfl rfl (FW.f_len (R := r_ApiValue_cells) (f := ApiValue.cells) (l := y1.L) r_ApiValue_cells_eq Try.underlying31 hk FW.h0 rfl) ?_; clear hk; intro a w hk
         refine FW.lfun (y := .lit (.bool (decide (v4 < (List.length y1.L : Int))))) hk rfl rfl rfl rfl ((FW.f_pure (FW.p_lss hk.kn FW.h0 rfl rfl))) ?_; clear hk; intro a w hk
         refine FW.lend (hK22 _ _ ?_); clear hK22 K'
         refine FW.wcondF (b := (decide (v4 < (List.length y1.L : Int)))) hk h rfl (fun h hb => ?_) (fun h hb => ?_)
         ·skip
          refine wp_skip ?_
          (repeat first | refine FW.then_normal ?_ | refine FW.block_normal ?_); refine hK21 _ _ ?_
          refine FW.wseq ?_; intro K' hK23
          refine wp_block ?_
          refine FW.wreg1 ?_
          refine FW.lfun (y := .lit (.string (FW.B v3))) hk rfl rfl rfl rfl (FW.f_move hk FW.h0 rfl) ?_; clear hk; intro a w hk
          refine FW.lfun (y := .lit (.pointer (some ⟨bx1, 5, none⟩))) hk rfl rfl rfl rfl (FW.f_fieldPtr hk FW.h0 rfl Try.underlying33 rfl (by kernel_rfl) rfl) ?_; clear hk; intro a w hk
          refine FW.lfun (y := .row (r_ApiValue_cells y1.L)) hk rfl rfl rfl rfl (FW.f_loadBlk1 hk FW.h0 (j := 0) rfl rfl Try.underlying31 rfl rfl) ?_; clear hk; intro a w hk
          refine FW.lfun (y := .lit (.int .i64 v4)) hk rfl rfl rfl rfl (FW.f_move hk FW.h0 rfl) ?_; clear hk; intro a w hk
          obtain ⟨hc8, h⟩ := FW.chk h
          refine FW.lfun (y := .ref (ApiValue.cells (List.getD y1.L (Int.toNat v4) default))) hk rfl rfl rfl rfl (FW.f_indexAddr (R := r_ApiValue_cells) (f := ApiValue.cells) (l := y1.L) (sz := 6) r_ApiValue_cells_eq (fun _ => rfl) hk FW.h0 rfl rfl Try.underlying31 (by kernel_rfl) hc8) ?_; clear hk; intro a w hk
          refine FW.lfun (y := .agg ((ApiValue.cells (List.getD y1.L (Int.toNat v4) default)))) hk rfl rfl rfl rfl (FW.f_load hk FW.h0 rfl Try.underlying33 rfl rfl rfl rfl) ?_; clear hk; intro a w hk
          obtain ⟨t6, hr_t6, h⟩ := FW.bnd h
          refine FW.lfun (y := .lit (.string (FW.B t6))) hk rfl rfl rfl rfl (FW.f_call hk FW.h0 rfl rfl Try.func14 rfl (by kernel_rfl) (hs_offshootref02_Put (List.getD y1.L (Int.toNat v4) default) _ hr_t6)) ?_; clear hk; intro a w hk
          obtain ⟨hc9, h⟩ := FW.chk h
          refine FW.lfun (y := .lit (.string (FW.B (v3 ++ t6)))) hk rfl rfl rfl rfl ((FW.f_pure (FW.p_sadd hk.kn FW.h0 rfl rfl hc9))) ?_; clear hk; intro a w hk
          refine FW.lfun (y := .lit (.string (FW.B (v3 ++ t6)))) hk rfl rfl rfl rfl (FW.f_assign hk FW.h0 rfl) ?_; clear hk; intro a w hk
          refine wpList_nil ?_
          (repeat first | refine FW.then_normal ?_ | refine FW.block_normal ?_); refine hK23 _ _ ?_
          refine FW.wreg1 ?_
          refine FW.lfun (y := .lit (.int .i64 v4)) hk rfl rfl rfl rfl (FW.f_move hk FW.h0 rfl) ?_; clear hk; intro a w hk
          refine FW.lfun (y := .lit (.int .i64 (IntKind.wrap .i64 (v4 + 1)))) hk rfl rfl rfl rfl ((FW.f_pure (FW.p_add hk.kn FW.h0 rfl rfl))) ?_; clear hk; intro a w hk
          refine FW.lfun (y := .lit (.int .i64 (IntKind.wrap .i64 (v4 + 1)))) hk rfl rfl rfl rfl (FW.f_assign hk FW.h0 rfl) ?_; clear hk; intro a w hk
          refine wpList_nil ?_
          (repeat first | refine FW.then_normal ?_ | refine FW.block_normal ?_); exact hK20 (kl1, (v3 ++ t6), (IntKind.wrap .i64 (v4 + 1))) _ _ (Nat.lt_succ_self _) ⟨hk.sub ⟨rfl, rfl, rfl, trivial⟩, h⟩
         ·skip
          refine wp_exit ?_; (repeat first | refine FW.then_exit ?_ | refine FW.block_exit_ne rfl ?_); refine FW.block_exit ?_
          (repeat first | refine FW.then_normal ?_ | refine FW.block_normal ?_); exact hK3 _ _ ⟨v3, (hk.drop 0).sub ⟨rfl, trivial⟩, h⟩
        ·skip
         refine wp_skip ?_
         (repeat first | refine FW.then_normal ?_ | refine FW.block_normal ?_); exact hK3 _ _ ⟨v3, (hk.drop 0).sub ⟨rfl, trivial⟩, h⟩
       ·intro K' hK17
        refine FW.wreg ?_; intro K' hK26
        refine FW.lfun (y := .lit (.bool (decide (v11 = 5)))) hk rfl rfl rfl rfl ((FW.f_pure (FW.p_eql hk.kn FW.h0 rfl rfl))) ?_; clear hk; intro a w hk
        refine FW.lfun (y := .lit (.bool (decide (v11 = 5)))) hk rfl rfl rfl rfl (FW.f_assign hk FW.h0 rfl) ?_; clear hk; intro a w hk
        refine FW.lend (hK26 _ _ ?_); clear hK26 K'
        refine FW.wcondF (b := (decide (v11 = 5))) hk h rfl (fun h hb => ?_) (fun h hb => ?_)
        ·skip
         refine wp_skip ?_
         (repeat first | refine FW.then_normal ?_ | refine FW.block_normal ?_); exact hK17 _ _ ⟨v3, (decide (v11 = 5)), hk.sub ⟨rfl, rfl, rfl, trivial⟩, h⟩
        ·skip
         refine FW.wreg1 ?_
         refine FW.lfun (y := .lit (.bool (decide (v11 = 6)))) hk rfl rfl rfl rfl ((FW.f_pure (FW.p_eql hk.kn FW.h0 rfl rfl))) ?_; clear hk; intro a w hk
         refine FW.lfun (y := .lit (.bool (decide (v11 = 6)))) hk rfl rfl rfl rfl (FW.f_assign hk FW.h0 rfl) ?_; clear hk; intro a w hk
         refine wpList_nil ?_
         (repeat first | refine FW.then_normal ?_ | refine FW.block_normal ?_); exact hK17 _ _ ⟨v3, (decide (v11 = 6)), hk.sub ⟨rfl, rfl, rfl, trivial⟩, h⟩
   ·intro K' hK11
    refine FW.wreg ?_; intro K' hK28
    refine FW.lfun (y := .lit (.bool (decide (v0.Kind = 2)))) hk rfl rfl rfl rfl ((FW.f_pure (FW.p_eql hk.kn FW.h0 rfl rfl))) ?_; clear hk; intro a w hk
    refine FW.lfun (y := .lit (.bool (decide (v0.Kind = 2)))) hk rfl rfl rfl rfl (FW.f_assign hk FW.h0 rfl) ?_; clear hk; intro a w hk
    refine FW.lend (hK28 _ _ ?_); clear hK28 K'
    refine FW.wcondF (b := (decide (v0.Kind = 2))) hk h rfl (fun h hb => ?_) (fun h hb => ?_)
    ·skip
     refine wp_skip ?_
     (repeat first | refine FW.then_normal ?_ | refine FW.block_normal ?_); exact hK11 _ _ ⟨v0, (FW.toB ([(IntKind.wrap .u8 v0.Kind)] : List Int)), v0.Kind, (decide (v0.Kind = 2)), (hk.drop 0).sub ⟨rfl, rfl, rfl, rfl, trivial⟩, h⟩
    ·skip
     refine FW.wreg ?_; intro K' hK29
     refine FW.lfun (y := .lit (.bool (decide (v0.Kind = 7)))) hk rfl rfl rfl rfl ((FW.f_pure (FW.p_eql hk.kn FW.h0 rfl rfl))) ?_; clear hk; intro a w hk
     refine FW.lfun (y := .lit (.bool (decide (v0.Kind = 7)))) hk rfl rfl rfl rfl (FW.f_assign hk FW.h0 rfl) ?_; clear hk; intro a w hk
     refine FW.lend (hK29 _ _ ?_); clear hK29 K'
     refine FW.wcondF (b := (decide (v0.Kind = 7))) hk h rfl (fun h hb => ?_) (fun h hb => ?_)
     ·skip
      refine wp_skip ?_
      (repeat first | refine FW.then_normal ?_ | refine FW.block_normal ?_); exact hK11 _ _ ⟨v0, (FW.toB ([(IntKind.wrap .u8 v0.Kind)] : List Int)), v0.Kind, (decide (v0.Kind = 7)), (hk.drop 0).sub ⟨rfl, rfl, rfl, rfl, trivial⟩, h⟩
     ·skip
      refine FW.wreg1 ?_
      refine FW.lfun (y := .lit (.bool (decide (v0.Kind = 8)))) hk rfl rfl rfl rfl ((FW.f_pure (FW.p_eql hk.kn FW.h0 rfl rfl))) ?_; clear hk; intro a w hk
      refine FW.lfun (y := .lit (.bool (decide (v0.Kind = 8)))) hk rfl rfl rfl rfl (FW.f_assign hk FW.h0 rfl) ?_; clear hk; intro a w hk
      refine wpList_nil ?_
      (repeat first | refine FW.then_normal ?_ | refine FW.block_normal ?_); exact hK11 _ _ ⟨v0, (FW.toB ([(IntKind.wrap .u8 v0.Kind)] : List Int)), v0.Kind, (decide (v0.Kind = 8)), (hk.drop 0).sub ⟨rfl, rfl, rfl, rfl, trivial⟩, h⟩
theorem offshootref02_Put_knot : ∀ K : Nat, (∀ (v0 : ApiValue) (r : List UInt8), offshootref02_Put.f K v0 = some r → FW.Ok Try.prog 14 [.agg (ApiValue.cells v0)] (.lit (.string (FW.B r))))
 | 0 => fun v0 r h => by simp [offshootref02_Put.f] at h
 | K + 1 => fun v0 r h => by rw [offshootref02_Put.f] at h; exact offshootref02_Put.bok _ (offshootref02_Put_knot K) K v0 r h
theorem offshootref02_Put.ok (K : Nat) (v0 : ApiValue) (r : List UInt8) (h : offshootref02_Put.f K v0 = some r) : FW.Ok Try.prog 14 [.agg (ApiValue.cells v0)] (.lit (.string (FW.B r))) := (offshootref02_Put_knot K) v0 r h

theorem offshootref11_digit.ok  (v0 : Int) (r : Int) (h : offshootref11_digit.f v0 = some r) :
  FW.Ok Try.prog 72 [.lit (.int .u8 v0)] (.lit (.int .i64 r)) := by
 refine FW.enter (xs := [.lit (.int .u8 v0)]) Try.func72 rfl Try.ntmps72 rfl ?_
 intro M w0 a hk
 unfold offshootref11_digit.f at h
 refine FW.wreg ?_; intro K' hK1
 refine FW.lfun (y := .lit (.int .i64 0)) hk rfl rfl rfl rfl (FW.f_assign hk FW.h0 rfl) ?_; clear hk; intro a w hk
 refine FW.lend (hK1 _ _ ?_); clear hK1 K'
 refine FW.wseq ?_; intro K' hK2
 refine FW.wreg ?_; intro K' hK3
 refine FW.lfun (y := .lit (.int .u8 v0)) hk rfl rfl rfl rfl (FW.f_move hk FW.h0 rfl) ?_; clear hk; intro a w hk
 refine FW.lfun (y := .lit (.bool (decide (48 ≤ v0)))) hk rfl rfl rfl rfl ((FW.f_pure (FW.p_geq hk.kn FW.h0 rfl rfl))) ?_; clear hk; intro a w hk
 refine FW.lfun (y := .lit (.bool (decide (48 ≤ v0)))) hk rfl rfl rfl rfl (FW.f_move hk FW.h0 rfl) ?_; clear hk; intro a w hk
 refine FW.lfunG (y := .lit (.int .u8 v0)) hk rfl rfl rfl rfl rfl rfl rfl rfl (fun hc => FW.f_move hk hc rfl) ?_; clear hk; intro a w hk
 refine FW.lfunG (y := .lit (.bool (decide (v0 ≤ 57)))) hk rfl rfl rfl rfl rfl rfl rfl rfl (fun hc => (FW.f_pure (FW.p_leq hk.kn hc rfl rfl))) ?_; clear hk; intro a w hk
 refine FW.lfun (y := .lit (.bool ((decide (48 ≤ v0)) && (decide (v0 ≤ 57))))) hk rfl rfl rfl rfl ((FW.f_pure (FW.p_pick_and hk.kn FW.h0 rfl rfl))) ?_; clear hk; intro a w hk
 refine FW.lend (hK3 _ _ ?_); clear hK3 K'
 refine FW.wcondF (b := ((decide (48 ≤ v0)) && (decide (v0 ≤ 57)))) hk h rfl (fun h hb => ?_) (fun h hb => ?_)
 ·skip
  refine FW.wreg ?_; intro K' hK4
  refine FW.lfun (y := .lit (.int .u8 v0)) hk rfl rfl rfl rfl (FW.f_move hk FW.h0 rfl) ?_; clear hk; intro a w hk
  refine FW.lfun (y := .lit (.int .i64 (IntKind.wrap .i64 v0))) hk rfl rfl rfl rfl ((FW.f_pure (FW.p_conv Try.underlying5 Try.underlying3 hk.kn FW.h0 rfl))) ?_; clear hk; intro a w hk
  refine FW.lfun (y := .lit (.int .i64 (IntKind.wrap .i64 ((IntKind.wrap .i64 v0) - 48)))) hk rfl rfl rfl rfl ((FW.f_pure (FW.p_sub hk.kn FW.h0 rfl rfl))) ?_; clear hk; intro a w hk
  refine FW.lfun (y := .lit (.int .i64 (IntKind.wrap .i64 ((IntKind.wrap .i64 v0) - 48)))) hk rfl rfl rfl rfl (FW.f_assign hk FW.h0 rfl) ?_; clear hk; intro a w hk
  refine FW.lend (hK4 _ _ ?_); clear hK4 K'
  refine wp_ret ?_
  (repeat first | refine FW.then_ret ?_ | refine FW.block_ret ?_)
  obtain rfl := Option.some.inj h
  exact FW.fret1 hk rfl rfl
 ·skip
  refine wp_skip ?_
  (repeat first | refine FW.then_normal ?_ | refine FW.block_normal ?_); refine hK2 _ _ ?_
  refine FW.wseq ?_; intro K' hK5
  refine FW.wreg ?_; intro K' hK6
  refine FW.lfun (y := .lit (.int .u8 v0)) hk rfl rfl rfl rfl (FW.f_move hk FW.h0 rfl) ?_; clear hk; intro a w hk
  refine FW.lfun (y := .lit (.bool (decide (97 ≤ v0)))) hk rfl rfl rfl rfl ((FW.f_pure (FW.p_geq hk.kn FW.h0 rfl rfl))) ?_; clear hk; intro a w hk
  refine FW.lfun (y := .lit (.bool (decide (97 ≤ v0)))) hk rfl rfl rfl rfl (FW.f_move hk FW.h0 rfl) ?_; clear hk; intro a w hk
  refine FW.lfunG (y := .lit (.int .u8 v0)) hk rfl rfl rfl rfl rfl rfl rfl rfl (fun hc => FW.f_move hk hc rfl) ?_; clear hk; intro a w hk
  refine FW.lfunG (y := .lit (.bool (decide (v0 ≤ 102)))) hk rfl rfl rfl rfl rfl rfl rfl rfl (fun hc => (FW.f_pure (FW.p_leq hk.kn hc rfl rfl))) ?_; clear hk; intro a w hk
  refine FW.lfun (y := .lit (.bool ((decide (97 ≤ v0)) && (decide (v0 ≤ 102))))) hk rfl rfl rfl rfl ((FW.f_pure (FW.p_pick_and hk.kn FW.h0 rfl rfl))) ?_; clear hk; intro a w hk
  refine FW.lend (hK6 _ _ ?_); clear hK6 K'
  refine FW.wcondF (b := ((decide (97 ≤ v0)) && (decide (v0 ≤ 102)))) hk h rfl (fun h hb => ?_) (fun h hb => ?_)
  ·skip
   refine FW.wreg ?_; intro K' hK7
   refine FW.lfun (y := .lit (.int .u8 v0)) hk rfl rfl rfl rfl (FW.f_move hk FW.h0 rfl) ?_; clear hk; intro a w hk
   refine FW.lfun (y := .lit (.int .i64 (IntKind.wrap .i64 v0))) hk rfl rfl rfl rfl ((FW.f_pure (FW.p_conv Try.underlying5 Try.underlying3 hk.kn FW.h0 rfl))) ?_; clear hk; intro a w hk
   refine FW.lfun (y := .lit (.int .i64 (IntKind.wrap .i64 ((IntKind.wrap .i64 v0) - 97)))) hk rfl rfl rfl rfl ((FW.f_pure (FW.p_sub hk.kn FW.h0 rfl rfl))) ?_; clear hk; intro a w hk
   refine FW.lfun (y := .lit (.int .i64 (IntKind.wrap .i64 ((IntKind.wrap .i64 ((IntKind.wrap .i64 v0) - 97)) + 10)))) hk rfl rfl rfl rfl ((FW.f_pure (FW.p_add hk.kn FW.h0 rfl rfl))) ?_; clear hk; intro a w hk
   refine FW.lfun (y := .lit (.int .i64 (IntKind.wrap .i64 ((IntKind.wrap .i64 ((IntKind.wrap .i64 v0) - 97)) + 10)))) hk rfl rfl rfl rfl (FW.f_assign hk FW.h0 rfl) ?_; clear hk; intro a w hk
   refine FW.lend (hK7 _ _ ?_); clear hK7 K'
   refine wp_ret ?_
   (repeat first | refine FW.then_ret ?_ | refine FW.block_ret ?_)
   obtain rfl := Option.some.inj h
   exact FW.fret1 hk rfl rfl
  ·skip
   refine wp_skip ?_
   (repeat first | refine FW.then_normal ?_ | refine FW.block_normal ?_); refine hK5 _ _ ?_
   refine FW.wreg ?_; intro K' hK8
   refine FW.lfun (y := .lit (.int .i64 16)) hk rfl rfl rfl rfl (FW.f_assign hk FW.h0 rfl) ?_; clear hk; intro a w hk
   refine FW.lend (hK8 _ _ ?_); clear hK8 K'
   refine wp_ret ?_
   (repeat first | refine FW.then_ret ?_ | refine FW.block_ret ?_)
   obtain rfl := Option.some.inj h
   exact FW.fret1 hk rfl rfl
end Go.Proofs.Ytbjbgodcenopnaa

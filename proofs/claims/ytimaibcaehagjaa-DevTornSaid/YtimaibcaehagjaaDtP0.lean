/- Written by a program of this session (gen.py): the contracts of functions of the program. -/
import Derived.KernelRfl
import Derived.Test.YtimaibcaehagjaaProg
import Derived.Test.YtimaibcaehagjaaAvFun
import Derived.Test.YtimaibcaehagjaaAvMan
import Derived.Test.YtimaibcaehagjaaAvMore
import Derived.Test.YtimaibcaehagjaaAvDraw2
import Derived.Test.YtimaibcaehagjaaAvRow
import Derived.Test.YtimaibcaehagjaaHn
import Derived.Test.YtimaibcaehagjaaDvP0
import Derived.Test.YtimaibcaehagjaaFl2
import Derived.Test.YtimaibcaehagjaaDsP0
import Derived.Test.YtimaibcaehagjaaHg
import Derived.Test.YtimaibcaehagjaaDtD
namespace Go.Proofs.Ytimaibcaehagjaa
set_option linter.unusedVariables false
set_option maxRecDepth 20000
set_option maxHeartbeats 10000000
theorem offshootlaw03_DevTorn.ok (K : Nat) (v0 : Int) (v1 : Int) (v2 : ApiFall) (r : Bool) (h : offshootlaw03_DevTorn.f K v0 v1 v2 = some r) :
    FW.Ok Go.Proofs.Try.prog 6 [.lit (.int .u8 v0), .lit (.int .u8 v1), .agg (ApiFall.cells v2)] (.lit (.bool r)) := by
  refine FW.enter (xs := [.lit (.int .u8 v0), .lit (.int .u8 v1), .agg (ApiFall.cells v2)]) Go.Proofs.Try.func6 rfl Go.Proofs.Try.ntmps6 rfl ?_
  intro M w0 a hk
  unfold offshootlaw03_DevTorn.f at h
  refine FW.wreg ?_; intro K' hK1
  refine FW.l_box (cs := (ApiFall.cells v2)) hk rfl rfl rfl rfl rfl ?_; clear hk; intro b1 a w hk
  refine FW.lfun (y := .lit (.bool false)) hk rfl rfl rfl rfl (FW.f_assign hk (FW.holds_nil _) rfl) ?_; clear hk; intro a w hk
  refine FW.lend (hK1 _ _ ?_); clear hK1 K'
  refine FW.wreg ?_; intro K' hK2
  obtain ⟨t1, hr_t1, h⟩ := FW.bnd h
  refine FW.l_callH (I1 := ([] : List FW.It)) (I2 := [FW.blk b1 45 ((ApiFall.cells v2))]) (js := []) hk rfl rfl rfl rfl rfl Go.Proofs.Try.func27 rfl (by kernel_rfl) (dev_New.ok K 1 _ hr_t1 ) ?_; clear hk
  rintro _ _ ⟨b2, xdNt1_0_0, xcNt1_0_0, xrNt1_0_1, rfl, rfl⟩ a w hk
  refine FW.lfun (y := .tup [.lit (.pointer (some ⟨b2, 0, none⟩)), .lit (.int .i64 t1.2)]) hk rfl rfl rfl rfl (FW.f_move hk (FW.holds_nil _) rfl) ?_; clear hk; intro a w hk
  refine FW.lfun (y := .lit (.pointer (some ⟨b2, 0, none⟩))) hk rfl rfl rfl rfl (FW.f_extract hk (FW.holds_nil _) rfl rfl) ?_; clear hk; intro a w hk
  refine FW.lfun (y := .lit (.int .i64 t1.2)) hk rfl rfl rfl rfl (FW.f_extract hk (FW.holds_nil _) rfl rfl) ?_; clear hk; intro a w hk
  refine FW.lfun (y := .lit (.pointer (some ⟨b2, 0, none⟩))) hk rfl rfl rfl rfl (FW.f_assign hk (FW.holds_nil _) rfl) ?_; clear hk; intro a w hk
  refine FW.lfun (y := .lit (.int .i64 t1.2)) hk rfl rfl rfl rfl (FW.f_assign hk (FW.holds_nil _) rfl) ?_; clear hk; intro a w hk
  refine FW.lend (hK2 _ _ ?_); clear hK2 K'
  refine FW.wreg ?_; intro K' hK3
  refine FW.lfun (y := .lit (.pointer (some ⟨b2, 0, none⟩))) hk rfl rfl rfl rfl (FW.f_move hk (FW.holds_nil _) rfl) ?_; clear hk; intro a w hk
  refine FW.lfun (y := .lit (.int .u8 v0)) hk rfl rfl rfl rfl (FW.f_move hk (FW.holds_nil _) rfl) ?_; clear hk; intro a w hk
  obtain ⟨t2, hr_t2, h⟩ := FW.bnd h
  refine FW.lfun (y := .lit (.string (FW.B t2))) hk rfl rfl rfl rfl (FW.f_call hk (FW.holds_nil _) rfl rfl Go.Proofs.Try.func30 rfl (by kernel_rfl) (offshootlaw03_sector.ok K v0 _ hr_t2)) ?_; clear hk; intro a w hk
  obtain ⟨t3, hr_t3, h⟩ := FW.bnd h
  refine FW.l_callH (I1 := (ODevDev.items b2 xdNt1_0_0 xcNt1_0_0 xrNt1_0_1 t1.1)) (I2 := [FW.blk b1 45 ((ApiFall.cells v2))]) (js := [2, 2, 2]) hk rfl rfl rfl rfl rfl Go.Proofs.Try.func29 rfl (by kernel_rfl) (dev_Dev_Write.ok K t1.1 0 t2 _ hr_t3 b2 xdNt1_0_0 xcNt1_0_0 xrNt1_0_1) ?_; clear hk
  rintro _ _ ⟨zd1, zc1, zr1, rfl, rfl⟩ a w hk
  refine FW.lfun (y := .lit (.pointer (some ⟨b2, 0, none⟩))) hk rfl rfl rfl rfl (FW.f_move hk (FW.holds_nil _) rfl) ?_; clear hk; intro a w hk
  obtain ⟨t4, hr_t4, h⟩ := FW.bnd h
  refine FW.l_callH (I1 := (ODevDev.items b2 zd1 zc1 zr1 t3.2)) (I2 := [FW.blk b1 45 ((ApiFall.cells v2))]) (js := [2, 2, 2]) hk rfl rfl rfl rfl rfl Go.Proofs.Try.func31 rfl (by kernel_rfl) (dev_Dev_Flush.ok K t3.2 _ hr_t4 b2 zd1 zc1 zr1) ?_; clear hk
  rintro _ _ ⟨zd2, zc2, zr2, rfl, rfl⟩ a w hk
  refine FW.lfun (y := .lit (.pointer (some ⟨b2, 0, none⟩))) hk rfl rfl rfl rfl (FW.f_move hk (FW.holds_nil _) rfl) ?_; clear hk; intro a w hk
  refine FW.lfun (y := .lit (.int .u8 v1)) hk rfl rfl rfl rfl (FW.f_move hk (FW.holds_nil _) rfl) ?_; clear hk; intro a w hk
  obtain ⟨t5, hr_t5, h⟩ := FW.bnd h
  refine FW.lfun (y := .lit (.string (FW.B t5))) hk rfl rfl rfl rfl (FW.f_call hk (FW.holds_nil _) rfl rfl Go.Proofs.Try.func30 rfl (by kernel_rfl) (offshootlaw03_sector.ok K v1 _ hr_t5)) ?_; clear hk; intro a w hk
  obtain ⟨t6, hr_t6, h⟩ := FW.bnd h
  refine FW.l_callH (I1 := (ODevDev.items b2 zd2 zc2 zr2 t4.2)) (I2 := [FW.blk b1 45 ((ApiFall.cells v2))]) (js := [2, 2, 2]) hk rfl rfl rfl rfl rfl Go.Proofs.Try.func29 rfl (by kernel_rfl) (dev_Dev_Write.ok K t4.2 0 t5 _ hr_t6 b2 zd2 zc2 zr2) ?_; clear hk
  rintro _ _ ⟨zd3, zc3, zr3, rfl, rfl⟩ a w hk
  refine FW.lfun (y := .lit (.int .i64 t3.1)) hk rfl rfl rfl rfl (FW.f_assign hk (FW.holds_nil _) rfl) ?_; clear hk; intro a w hk
  refine FW.lfun (y := .lit (.int .i64 t4.1)) hk rfl rfl rfl rfl (FW.f_assign hk (FW.holds_nil _) rfl) ?_; clear hk; intro a w hk
  refine FW.lfun (y := .lit (.int .i64 t6.1)) hk rfl rfl rfl rfl (FW.f_assign hk (FW.holds_nil _) rfl) ?_; clear hk; intro a w hk
  refine FW.lend (hK3 _ _ ?_); clear hK3 K'
  refine FW.wreg ?_; intro K' hK4
  refine FW.lfun (y := .lit (.pointer (some ⟨b2, 0, none⟩))) hk rfl rfl rfl rfl (FW.f_move hk (FW.holds_nil _) rfl) ?_; clear hk; intro a w hk
  refine FW.lfun (y := .lit (.pointer (some ⟨b1, 1, none⟩))) hk rfl rfl rfl rfl (FW.f_fieldPtr hk (FW.holds_nil _) rfl Go.Proofs.Try.underlying45 rfl (by kernel_rfl) rfl) ?_; clear hk; intro a w hk
  refine FW.lfun (y := .lit (.int .u64 v2.Keep)) hk rfl rfl rfl rfl (FW.f_loadBlk1 hk (FW.holds_nil _) (j := 3) rfl rfl Go.Proofs.Try.underlying29 rfl rfl) ?_; clear hk; intro a w hk
  refine FW.lfun (y := .lit (.pointer (some ⟨b1, 2, none⟩))) hk rfl rfl rfl rfl (FW.f_fieldPtr hk (FW.holds_nil _) rfl Go.Proofs.Try.underlying45 rfl (by kernel_rfl) rfl) ?_; clear hk; intro a w hk
  refine FW.lfun (y := .lit (.int .i64 v2.Torn)) hk rfl rfl rfl rfl (FW.f_loadBlk1 hk (FW.holds_nil _) (j := 3) rfl rfl Go.Proofs.Try.underlying3 rfl rfl) ?_; clear hk; intro a w hk
  obtain ⟨t7, hr_t7, h⟩ := FW.bnd h
  refine FW.l_callH (I1 := (ODevDev.items b2 zd3 zc3 zr3 t6.2)) (I2 := [FW.blk b1 45 ((ApiFall.cells v2))]) (js := [2, 2, 2]) hk rfl rfl rfl rfl rfl Go.Proofs.Try.func32 rfl (by kernel_rfl) (dev_Dev_Crash.ok K t6.2 v2.Keep v2.Torn _ hr_t7 b2 zd3 zc3 zr3) ?_; clear hk
  rintro _ _ ⟨zd4, zc4, zr4, rfl, rfl⟩ a w hk
  refine FW.lend (hK4 _ _ ?_); clear hK4 K'
  refine FW.wreg ?_; intro K' hK5
  refine FW.lfun (y := .lit (.pointer (some ⟨b2, 0, none⟩))) hk rfl rfl rfl rfl (FW.f_move hk (FW.holds_nil _) rfl) ?_; clear hk; intro a w hk
  obtain ⟨t8, hr_t8, h⟩ := FW.bnd h
  refine FW.l_callH (I1 := (ODevDev.items b2 zd4 zc4 zr4 t7)) (I2 := [FW.blk b1 45 ((ApiFall.cells v2))]) (js := [2, 2, 2]) hk rfl rfl rfl rfl rfl Go.Proofs.Try.func33 rfl (by kernel_rfl) (dev_Dev_Up.ok t7 _ hr_t8 b2 zd4 zc4 zr4) ?_; clear hk
  rintro _ _ ⟨zd5, zc5, zr5, rfl, rfl⟩ a w hk
  refine FW.lend (hK5 _ _ ?_); clear hK5 K'
  refine FW.wreg ?_; intro K' hK6
  refine FW.lfun (y := .lit (.pointer (some ⟨b2, 0, none⟩))) hk rfl rfl rfl rfl (FW.f_move hk (FW.holds_nil _) rfl) ?_; clear hk; intro a w hk
  obtain ⟨t9, hr_t9, h⟩ := FW.bnd h
  refine FW.l_callH (I1 := (ODevDev.items b2 zd5 zc5 zr5 t8.2)) (I2 := [FW.blk b1 45 ((ApiFall.cells v2))]) (js := [2, 2, 2]) hk rfl rfl rfl rfl rfl Go.Proofs.Try.func34 rfl (by kernel_rfl) (dev_Dev_Read.ok t8.2 0 _ hr_t9 b2 zd5 zc5 zr5) ?_; clear hk
  rintro _ _ ⟨zd6, zc6, zr6, rfl, rfl⟩ a w hk
  refine FW.lfun (y := .tup [.lit (.string (FW.B t9.1)), .lit (.int .i64 t9.2.1)]) hk rfl rfl rfl rfl (FW.f_move hk (FW.holds_nil _) rfl) ?_; clear hk; intro a w hk
  refine FW.lfun (y := .lit (.string (FW.B t9.1))) hk rfl rfl rfl rfl (FW.f_extract hk (FW.holds_nil _) rfl rfl) ?_; clear hk; intro a w hk
  refine FW.lfun (y := .lit (.int .i64 t9.2.1)) hk rfl rfl rfl rfl (FW.f_extract hk (FW.holds_nil _) rfl rfl) ?_; clear hk; intro a w hk
  refine FW.lfun (y := .lit (.string (FW.B t9.1))) hk rfl rfl rfl rfl (FW.f_assign hk (FW.holds_nil _) rfl) ?_; clear hk; intro a w hk
  refine FW.lfun (y := .lit (.int .i64 t9.2.1)) hk rfl rfl rfl rfl (FW.f_assign hk (FW.holds_nil _) rfl) ?_; clear hk; intro a w hk
  refine FW.lend (hK6 _ _ ?_); clear hK6 K'
  refine FW.wreg ?_; intro K' hK7
  refine FW.lfun (y := .lit (.int .i64 0)) hk rfl rfl rfl rfl (FW.f_assign hk (FW.holds_nil _) rfl) ?_; clear hk; intro a w hk
  refine FW.lend (hK7 _ _ ?_); clear hK7 K'
  refine FW.wseqJ (fun a w => ∃ (y2_2 : Int) (y2_4 : Bool) (l3 : List (List UInt8)) (m4 : List (Int × (List UInt8))) (y1 : ApiFall) (v0 : Int) (v1 : Int) (v8 : Int) (v9 : Int) (v10 : Int) (v11 : Int) (v12 : List UInt8) (v13 : Int) (v14 : Int) (xd3 : Option Addr) (xc3 : Nat) (xr4 : Nat), FW.S M w0 a w 94 [FW.blk b2 109 ([.lit (.slice xd3 (List.length l3) xc3)] ++ [.lit (.map (some xr4))] ++ [.lit (.int .i64 y2_2)] ++ [.lit (.slice none 0 0)] ++ [.lit (.bool y2_4)]), FW.orow xd3 xc3 9 1 c_str l3, FW.mapI (.int .i64) (Value.int .i64) FW.evS xr4 m4, FW.blk b1 45 ((ApiFall.cells y1))] [(0, [], .lit (.int .u8 v0)), (1, [], .lit (.int .u8 v1)), (5, [], .lit (.pointer (some ⟨b1, 0, none⟩))), (7, [], .lit (.pointer (some ⟨b2, 0, none⟩))), (8, [], .lit (.int .i64 v8)), (9, [], .lit (.int .i64 v9)), (10, [], .lit (.int .i64 v10)), (11, [], .lit (.int .i64 v11)), (12, [], .lit (.string (FW.B v12))), (13, [], .lit (.int .i64 v13)), (14, [], .lit (.int .i64 v14))] ∧ offshootlaw03_DevTorn.j1 K y2_2 y2_4 l3 m4 y1 v0 v1 v8 v9 v10 v11 v12 v13 v14 = some r) ?_ ?_
  · clear hk h
    rintro a w ⟨y2_2, y2_4, l3, m4, y1, v0, v1, v8, v9, v10, v11, v12, v13, v14, xd3, xc3, xr4, hk, h⟩
    unfold offshootlaw03_DevTorn.j1 at h
    refine FW.wseqJ (fun a w => ∃ (y2_2 : Int) (y2_4 : Bool) (l3 : List (List UInt8)) (m4 : List (Int × (List UInt8))) (v0 : Int) (v1 : Int) (v8 : Int) (v9 : Int) (v10 : Int) (v11 : Int) (v12 : List UInt8) (v13 : Int) (v14 : Int) (xd3 : Option Addr) (xc3 : Nat) (xr4 : Nat), FW.S M w0 a w 94 [FW.blk b2 109 ([.lit (.slice xd3 (List.length l3) xc3)] ++ [.lit (.map (some xr4))] ++ [.lit (.int .i64 y2_2)] ++ [.lit (.slice none 0 0)] ++ [.lit (.bool y2_4)]), FW.orow xd3 xc3 9 1 c_str l3, FW.mapI (.int .i64) (Value.int .i64) FW.evS xr4 m4] [(0, [], .lit (.int .u8 v0)), (1, [], .lit (.int .u8 v1)), (7, [], .lit (.pointer (some ⟨b2, 0, none⟩))), (8, [], .lit (.int .i64 v8)), (9, [], .lit (.int .i64 v9)), (10, [], .lit (.int .i64 v10)), (11, [], .lit (.int .i64 v11)), (12, [], .lit (.string (FW.B v12))), (13, [], .lit (.int .i64 v13)), (14, [], .lit (.int .i64 v14))] ∧ offshootlaw03_DevTorn.j2 K y2_2 y2_4 l3 m4 v0 v1 v8 v9 v10 v11 v12 v13 v14 = some r) ?_ ?_
    · clear hk h
      rintro a w ⟨y2_2, y2_4, l3, m4, v0, v1, v8, v9, v10, v11, v12, v13, v14, xd3, xc3, xr4, hk, h⟩
      unfold offshootlaw03_DevTorn.j2 at h
      obtain ⟨t10, hr_t10, h⟩ := FW.bnd h
      obtain ⟨t11, hr_t11, h⟩ := FW.bndG h
      obtain ⟨hc1, h⟩ := FW.chk h
      obtain ⟨t12, hr_t12, h⟩ := FW.bndG h
      obtain ⟨hc2, h⟩ := FW.chk h
      obtain ⟨hc3, h⟩ := FW.chk h
      refine FW.wdrawE (need := [false, false, false, false, false, false, false, false, false, false, false, false, false, false, false, false, false, false, false, false, false, false, false, false, false, false, false, false, false, false, false, false, false, false, false, false, false, true, true, true]) [(36, [true, true, true, true, true, true, true, true, true, true, true, true, true, true, true, true, true, true, true, true, true, true, true, true, true, true, true, true, true, true, true, true, true, true, true, true, false, false, false, false], [true, true, true, true, true, true, true, true, true, true, true, true, true, true, true, true, true, true, true, true, true, true, true, true, true, true, true, true, true, true, true, true, true, true, true, true, false, false, false, false])] [(55, [], .lit (.bool t10)), (56, [], .lit (.bool t10)), (57, [(56, true)], .lit (.int .i64 v8)), (58, [(56, true)], .lit (.bool (decide (v8 = 0)))), (59, [], .lit (.bool (t10 && (decide (v8 = 0))))), (60, [], .lit (.bool (t10 && (decide (v8 = 0))))), (61, [(60, true)], .lit (.int .i64 v9)), (62, [(60, true)], .lit (.bool (decide (v9 = 0)))), (63, [], .lit (.bool ((t10 && (decide (v8 = 0))) && (decide (v9 = 0))))), (64, [], .lit (.bool ((t10 && (decide (v8 = 0))) && (decide (v9 = 0))))), (65, [(64, true)], .lit (.int .i64 v10)), (66, [(64, true)], .lit (.bool (decide (v10 = 0)))), (67, [], .lit (.bool (((t10 && (decide (v8 = 0))) && (decide (v9 = 0))) && (decide (v10 = 0))))), (68, [], .lit (.bool (((t10 && (decide (v8 = 0))) && (decide (v9 = 0))) && (decide (v10 = 0))))), (69, [(68, true)], .lit (.int .i64 v11)), (70, [(68, true)], .lit (.bool (decide (v11 = 0)))), (71, [], .lit (.bool ((((t10 && (decide (v8 = 0))) && (decide (v9 = 0))) && (decide (v10 = 0))) && (decide (v11 = 0))))), (72, [], .lit (.bool ((((t10 && (decide (v8 = 0))) && (decide (v9 = 0))) && (decide (v10 = 0))) && (decide (v11 = 0))))), (73, [(72, true)], .lit (.int .i64 v13)), (74, [(72, true)], .lit (.bool (decide (v13 = 0)))), (75, [], .lit (.bool (((((t10 && (decide (v8 = 0))) && (decide (v9 = 0))) && (decide (v10 = 0))) && (decide (v11 = 0))) && (decide (v13 = 0))))), (76, [], .lit (.bool (((((t10 && (decide (v8 = 0))) && (decide (v9 = 0))) && (decide (v10 = 0))) && (decide (v11 = 0))) && (decide (v13 = 0))))), (77, [(76, true)], .lit (.string (FW.B v12))), (78, [(76, true)], .lit (.int .u8 v1)), (79, [(76, true)], .lit (.string (FW.B t11))), (80, [(76, true)], .lit (.int .i64 v14)), (81, [(76, true)], .lit (.string (FW.B (List.take (Int.toNat v14) t11)))), (82, [(76, true)], .lit (.int .u8 v0)), (83, [(76, true)], .lit (.string (FW.B t12))), (84, [(76, true)], .lit (.int .i64 v14)), (85, [(76, true)], .lit (.string (FW.B (List.drop (Int.toNat v14) t12)))), (86, [(76, true)], .lit (.string (FW.B ((List.take (Int.toNat v14) t11) ++ (List.drop (Int.toNat v14) t12))))), (87, [(76, true)], .lit (.bool (decide (v12 = ((List.take (Int.toNat v14) t11) ++ (List.drop (Int.toNat v14) t12)))))), (88, [], .lit (.bool ((((((t10 && (decide (v8 = 0))) && (decide (v9 = 0))) && (decide (v10 = 0))) && (decide (v11 = 0))) && (decide (v13 = 0))) && (decide (v12 = ((List.take (Int.toNat v14) t11) ++ (List.drop (Int.toNat v14) t12))))))), (89, [], .lit (.bool ((((((t10 && (decide (v8 = 0))) && (decide (v9 = 0))) && (decide (v10 = 0))) && (decide (v11 = 0))) && (decide (v13 = 0))) && (decide (v12 = ((List.take (Int.toNat v14) t11) ++ (List.drop (Int.toNat v14) t12))))))), (90, [(89, true)], .lit (.pointer (some ⟨b2, 0, none⟩))), (91, [], .agg []), (92, [], .agg []), (93, [], .agg []), (6, [], .agg [])] (by kernel_rfl) (by kernel_rfl) (by kernel_rfl) (by kernel_rfl) hk ?_; clear hk
      refine FW.gnextG [(89, true)] ?_ rfl rfl rfl rfl ?_
      · skip
        refine FW.gfun (y := .lit (.bool t10)) rfl rfl rfl rfl (fun a w hk => FW.f_call hk (FW.holds_nil _) rfl rfl Go.Proofs.Try.func28 rfl (by kernel_rfl) (offshootlaw03_awake.ok K  _ hr_t10)) ?_
        refine FW.gfun (y := .lit (.bool t10)) rfl rfl rfl rfl (fun a w hk => FW.f_move hk (FW.holds_nil _) rfl) ?_
        refine FW.gfunG (y := .lit (.int .i64 v8)) rfl rfl rfl rfl rfl rfl rfl rfl rfl (fun a w hk hc => FW.f_move hk hc rfl) ?_
        refine FW.gfunG (y := .lit (.bool (decide (v8 = 0)))) rfl rfl rfl rfl rfl rfl rfl rfl rfl (fun a w hk hc => (FW.f_pure (FW.p_eql hk.kn hc rfl rfl))) ?_
        refine FW.gfun (y := .lit (.bool (t10 && (decide (v8 = 0))))) rfl rfl rfl rfl (fun a w hk => (FW.f_pure (FW.p_pick_and hk.kn (FW.holds_nil _) rfl rfl))) ?_
        refine FW.gfun (y := .lit (.bool (t10 && (decide (v8 = 0))))) rfl rfl rfl rfl (fun a w hk => FW.f_move hk (FW.holds_nil _) rfl) ?_
        refine FW.gfunG (y := .lit (.int .i64 v9)) rfl rfl rfl rfl rfl rfl rfl rfl rfl (fun a w hk hc => FW.f_move hk hc rfl) ?_
        refine FW.gfunG (y := .lit (.bool (decide (v9 = 0)))) rfl rfl rfl rfl rfl rfl rfl rfl rfl (fun a w hk hc => (FW.f_pure (FW.p_eql hk.kn hc rfl rfl))) ?_
        refine FW.gfun (y := .lit (.bool ((t10 && (decide (v8 = 0))) && (decide (v9 = 0))))) rfl rfl rfl rfl (fun a w hk => (FW.f_pure (FW.p_pick_and hk.kn (FW.holds_nil _) rfl rfl))) ?_
        refine FW.gfun (y := .lit (.bool ((t10 && (decide (v8 = 0))) && (decide (v9 = 0))))) rfl rfl rfl rfl (fun a w hk => FW.f_move hk (FW.holds_nil _) rfl) ?_
        refine FW.gfunG (y := .lit (.int .i64 v10)) rfl rfl rfl rfl rfl rfl rfl rfl rfl (fun a w hk hc => FW.f_move hk hc rfl) ?_
        refine FW.gfunG (y := .lit (.bool (decide (v10 = 0)))) rfl rfl rfl rfl rfl rfl rfl rfl rfl (fun a w hk hc => (FW.f_pure (FW.p_eql hk.kn hc rfl rfl))) ?_
        refine FW.gfun (y := .lit (.bool (((t10 && (decide (v8 = 0))) && (decide (v9 = 0))) && (decide (v10 = 0))))) rfl rfl rfl rfl (fun a w hk => (FW.f_pure (FW.p_pick_and hk.kn (FW.holds_nil _) rfl rfl))) ?_
        refine FW.gfun (y := .lit (.bool (((t10 && (decide (v8 = 0))) && (decide (v9 = 0))) && (decide (v10 = 0))))) rfl rfl rfl rfl (fun a w hk => FW.f_move hk (FW.holds_nil _) rfl) ?_
        refine FW.gfunG (y := .lit (.int .i64 v11)) rfl rfl rfl rfl rfl rfl rfl rfl rfl (fun a w hk hc => FW.f_move hk hc rfl) ?_
        refine FW.gfunG (y := .lit (.bool (decide (v11 = 0)))) rfl rfl rfl rfl rfl rfl rfl rfl rfl (fun a w hk hc => (FW.f_pure (FW.p_eql hk.kn hc rfl rfl))) ?_
        refine FW.gfun (y := .lit (.bool ((((t10 && (decide (v8 = 0))) && (decide (v9 = 0))) && (decide (v10 = 0))) && (decide (v11 = 0))))) rfl rfl rfl rfl (fun a w hk => (FW.f_pure (FW.p_pick_and hk.kn (FW.holds_nil _) rfl rfl))) ?_
        refine FW.gfun (y := .lit (.bool ((((t10 && (decide (v8 = 0))) && (decide (v9 = 0))) && (decide (v10 = 0))) && (decide (v11 = 0))))) rfl rfl rfl rfl (fun a w hk => FW.f_move hk (FW.holds_nil _) rfl) ?_
        refine FW.gfunG (y := .lit (.int .i64 v13)) rfl rfl rfl rfl rfl rfl rfl rfl rfl (fun a w hk hc => FW.f_move hk hc rfl) ?_
        refine FW.gfunG (y := .lit (.bool (decide (v13 = 0)))) rfl rfl rfl rfl rfl rfl rfl rfl rfl (fun a w hk hc => (FW.f_pure (FW.p_eql hk.kn hc rfl rfl))) ?_
        refine FW.gfun (y := .lit (.bool (((((t10 && (decide (v8 = 0))) && (decide (v9 = 0))) && (decide (v10 = 0))) && (decide (v11 = 0))) && (decide (v13 = 0))))) rfl rfl rfl rfl (fun a w hk => (FW.f_pure (FW.p_pick_and hk.kn (FW.holds_nil _) rfl rfl))) ?_
        refine FW.gfun (y := .lit (.bool (((((t10 && (decide (v8 = 0))) && (decide (v9 = 0))) && (decide (v10 = 0))) && (decide (v11 = 0))) && (decide (v13 = 0))))) rfl rfl rfl rfl (fun a w hk => FW.f_move hk (FW.holds_nil _) rfl) ?_
        refine FW.gfunG (y := .lit (.string (FW.B v12))) rfl rfl rfl rfl rfl rfl rfl rfl rfl (fun a w hk hc => FW.f_move hk hc rfl) ?_
        refine FW.gfunG (y := .lit (.int .u8 v1)) rfl rfl rfl rfl rfl rfl rfl rfl rfl (fun a w hk hc => FW.f_move hk hc rfl) ?_
        refine FW.gfunG (y := .lit (.string (FW.B t11))) rfl rfl rfl rfl rfl rfl rfl rfl rfl (fun a w hk hc => FW.f_call hk hc rfl rfl Go.Proofs.Try.func30 rfl (by kernel_rfl) (offshootlaw03_sector.ok K v1 _ (hr_t11 (FW.asm_out (p := (((((t10 && (decide (v8 = 0))) && (decide (v9 = 0))) && (decide (v10 = 0))) && (decide (v11 = 0))) && (decide (v13 = 0))) = true) hk.kn hc (fun e0 => e0))))) ?_
        refine FW.gfunG (y := .lit (.int .i64 v14)) rfl rfl rfl rfl rfl rfl rfl rfl rfl (fun a w hk hc => FW.f_move hk hc rfl) ?_
        refine FW.gfunG (y := .lit (.string (FW.B (List.take (Int.toNat v14) t11)))) rfl rfl rfl rfl rfl rfl rfl rfl rfl (fun a w hk hc => (FW.f_pure (FW.p_slice_hi Go.Proofs.Try.underlying9 hk.kn hc rfl rfl hc1))) ?_
        refine FW.gfunG (y := .lit (.int .u8 v0)) rfl rfl rfl rfl rfl rfl rfl rfl rfl (fun a w hk hc => FW.f_move hk hc rfl) ?_
        refine FW.gfunG (y := .lit (.string (FW.B t12))) rfl rfl rfl rfl rfl rfl rfl rfl rfl (fun a w hk hc => FW.f_call hk hc rfl rfl Go.Proofs.Try.func30 rfl (by kernel_rfl) (offshootlaw03_sector.ok K v0 _ (hr_t12 (FW.asm_out (p := (((((t10 && (decide (v8 = 0))) && (decide (v9 = 0))) && (decide (v10 = 0))) && (decide (v11 = 0))) && (decide (v13 = 0))) = true) hk.kn hc (fun e0 => e0))))) ?_
        refine FW.gfunG (y := .lit (.int .i64 v14)) rfl rfl rfl rfl rfl rfl rfl rfl rfl (fun a w hk hc => FW.f_move hk hc rfl) ?_
        refine FW.gfunG (y := .lit (.string (FW.B (List.drop (Int.toNat v14) t12)))) rfl rfl rfl rfl rfl rfl rfl rfl rfl (fun a w hk hc => (FW.f_pure (FW.p_slice_lo Go.Proofs.Try.underlying9 hk.kn hc rfl rfl hc2))) ?_
        refine FW.gfunG (y := .lit (.string (FW.B ((List.take (Int.toNat v14) t11) ++ (List.drop (Int.toNat v14) t12))))) rfl rfl rfl rfl rfl rfl rfl rfl rfl (fun a w hk hc => (FW.f_pure (FW.p_sadd hk.kn hc rfl rfl hc3))) ?_
        refine FW.gfunG (y := .lit (.bool (decide (v12 = ((List.take (Int.toNat v14) t11) ++ (List.drop (Int.toNat v14) t12)))))) rfl rfl rfl rfl rfl rfl rfl rfl rfl (fun a w hk hc => (FW.f_pure (FW.p_seql hk.kn hc rfl rfl))) ?_
        refine FW.gfun (y := .lit (.bool ((((((t10 && (decide (v8 = 0))) && (decide (v9 = 0))) && (decide (v10 = 0))) && (decide (v11 = 0))) && (decide (v13 = 0))) && (decide (v12 = ((List.take (Int.toNat v14) t11) ++ (List.drop (Int.toNat v14) t12))))))) rfl rfl rfl rfl (fun a w hk => (FW.f_pure (FW.p_pick_and hk.kn (FW.holds_nil _) rfl rfl))) ?_
        refine FW.gfun (y := .lit (.bool ((((((t10 && (decide (v8 = 0))) && (decide (v9 = 0))) && (decide (v10 = 0))) && (decide (v11 = 0))) && (decide (v13 = 0))) && (decide (v12 = ((List.take (Int.toNat v14) t11) ++ (List.drop (Int.toNat v14) t12))))))) rfl rfl rfl rfl (fun a w hk => FW.f_move hk (FW.holds_nil _) rfl) ?_
        refine FW.gfunG (y := .lit (.pointer (some ⟨b2, 0, none⟩))) rfl rfl rfl rfl rfl rfl rfl rfl rfl (fun a w hk hc => FW.f_move hk hc rfl) ?_
        refine FW.gskip rfl rfl ?_
        refine FW.gskip rfl rfl ?_
        refine FW.gskip rfl rfl ?_
        refine FW.gskip rfl rfl ?_
        exact FW.gend
      · skip
        intro σD a w QD hk hf hQ
        obtain ⟨t13, hr_t13, hn_t13, h⟩ := FW.bndG2 h
        refine FW.l_callHG (I1 := (ODevDev.items b2 xd3 xc3 xr4 (⟨l3, m4, y2_2, y2_4⟩ : ODevDev))) (I2 := []) (js := [2, 2, 2]) hk rfl rfl rfl rfl rfl hf rfl rfl rfl Go.Proofs.Try.func35 rfl (by kernel_rfl) (fun hc => dev_Dev_Loose.ok (⟨l3, m4, y2_2, y2_4⟩ : ODevDev) _ (hr_t13 (FW.asm_out (p := ((((((t10 && (decide (v8 = 0))) && (decide (v9 = 0))) && (decide (v10 = 0))) && (decide (v11 = 0))) && (decide (v13 = 0))) && (decide (v12 = ((List.take (Int.toNat v14) t11) ++ (List.drop (Int.toNat v14) t12))))) = true) hk.kn hc (fun e0 => e0))) b2 xd3 xc3 xr4) (fun hn => by obtain rfl := hn_t13 (fun hp => hn (FW.asm_in hk.kn (by have e0 := hp; exact ⟨e0, rfl, trivial⟩))); exact ⟨_, xd3, xc3, xr4, rfl, rfl⟩) ?_; clear hk
        rintro _ _ ⟨zd7, zc7, zr7, rfl, rfl⟩ a w hk
        refine hQ _ _ a w ?_ hk; clear hk hQ hf
        refine ⟨[(55, [], .lit (.bool t10)), (56, [], .lit (.bool t10)), (57, [(56, true)], .lit (.int .i64 v8)), (58, [(56, true)], .lit (.bool (decide (v8 = 0)))), (59, [], .lit (.bool (t10 && (decide (v8 = 0))))), (60, [], .lit (.bool (t10 && (decide (v8 = 0))))), (61, [(60, true)], .lit (.int .i64 v9)), (62, [(60, true)], .lit (.bool (decide (v9 = 0)))), (63, [], .lit (.bool ((t10 && (decide (v8 = 0))) && (decide (v9 = 0))))), (64, [], .lit (.bool ((t10 && (decide (v8 = 0))) && (decide (v9 = 0))))), (65, [(64, true)], .lit (.int .i64 v10)), (66, [(64, true)], .lit (.bool (decide (v10 = 0)))), (67, [], .lit (.bool (((t10 && (decide (v8 = 0))) && (decide (v9 = 0))) && (decide (v10 = 0))))), (68, [], .lit (.bool (((t10 && (decide (v8 = 0))) && (decide (v9 = 0))) && (decide (v10 = 0))))), (69, [(68, true)], .lit (.int .i64 v11)), (70, [(68, true)], .lit (.bool (decide (v11 = 0)))), (71, [], .lit (.bool ((((t10 && (decide (v8 = 0))) && (decide (v9 = 0))) && (decide (v10 = 0))) && (decide (v11 = 0))))), (72, [], .lit (.bool ((((t10 && (decide (v8 = 0))) && (decide (v9 = 0))) && (decide (v10 = 0))) && (decide (v11 = 0))))), (73, [(72, true)], .lit (.int .i64 v13)), (74, [(72, true)], .lit (.bool (decide (v13 = 0)))), (75, [], .lit (.bool (((((t10 && (decide (v8 = 0))) && (decide (v9 = 0))) && (decide (v10 = 0))) && (decide (v11 = 0))) && (decide (v13 = 0))))), (76, [], .lit (.bool (((((t10 && (decide (v8 = 0))) && (decide (v9 = 0))) && (decide (v10 = 0))) && (decide (v11 = 0))) && (decide (v13 = 0))))), (77, [(76, true)], .lit (.string (FW.B v12))), (78, [(76, true)], .lit (.int .u8 v1)), (79, [(76, true)], .lit (.string (FW.B t11))), (80, [(76, true)], .lit (.int .i64 v14)), (81, [(76, true)], .lit (.string (FW.B (List.take (Int.toNat v14) t11)))), (82, [(76, true)], .lit (.int .u8 v0)), (83, [(76, true)], .lit (.string (FW.B t12))), (84, [(76, true)], .lit (.int .i64 v14)), (85, [(76, true)], .lit (.string (FW.B (List.drop (Int.toNat v14) t12)))), (86, [(76, true)], .lit (.string (FW.B ((List.take (Int.toNat v14) t11) ++ (List.drop (Int.toNat v14) t12))))), (87, [(76, true)], .lit (.bool (decide (v12 = ((List.take (Int.toNat v14) t11) ++ (List.drop (Int.toNat v14) t12)))))), (88, [], .lit (.bool ((((((t10 && (decide (v8 = 0))) && (decide (v9 = 0))) && (decide (v10 = 0))) && (decide (v11 = 0))) && (decide (v13 = 0))) && (decide (v12 = ((List.take (Int.toNat v14) t11) ++ (List.drop (Int.toNat v14) t12))))))), (89, [], .lit (.bool ((((((t10 && (decide (v8 = 0))) && (decide (v9 = 0))) && (decide (v10 = 0))) && (decide (v11 = 0))) && (decide (v13 = 0))) && (decide (v12 = ((List.take (Int.toNat v14) t11) ++ (List.drop (Int.toNat v14) t12))))))), (90, [(89, true)], .lit (.pointer (some ⟨b2, 0, none⟩))), (91, [(89, true)], .lit (.int .i64 t13.1)), (92, [(89, true)], .lit (.bool (decide (t13.1 = 0)))), (93, [], .lit (.bool (((((((t10 && (decide (v8 = 0))) && (decide (v9 = 0))) && (decide (v10 = 0))) && (decide (v11 = 0))) && (decide (v13 = 0))) && (decide (v12 = ((List.take (Int.toNat v14) t11) ++ (List.drop (Int.toNat v14) t12))))) && (decide (t13.1 = 0))))), (6, [], .lit (.bool (((((((t10 && (decide (v8 = 0))) && (decide (v9 = 0))) && (decide (v10 = 0))) && (decide (v11 = 0))) && (decide (v13 = 0))) && (decide (v12 = ((List.take (Int.toNat v14) t11) ++ (List.drop (Int.toNat v14) t12))))) && (decide (t13.1 = 0)))))], And.intro rfl (And.intro rfl (And.intro rfl (And.intro rfl (And.intro rfl (And.intro rfl (And.intro rfl (And.intro rfl (And.intro rfl (And.intro rfl (And.intro rfl (And.intro rfl (And.intro rfl (And.intro rfl (And.intro rfl (And.intro rfl (And.intro rfl (And.intro rfl (And.intro rfl (And.intro rfl (And.intro rfl (And.intro rfl (And.intro rfl (And.intro rfl (And.intro rfl (And.intro rfl (And.intro rfl (And.intro rfl (And.intro rfl (And.intro rfl (And.intro rfl (And.intro rfl (And.intro rfl (And.intro rfl (And.intro rfl (And.intro rfl (trivial)))))))))))))))))))))))))))))))))))), rfl, ?_⟩
        refine FW.glast ?_ ?_
        · skip
          refine FW.gskip rfl rfl ?_
          refine FW.gskip rfl rfl ?_
          refine FW.gskip rfl rfl ?_
          refine FW.gskip rfl rfl ?_
          refine FW.gskip rfl rfl ?_
          refine FW.gskip rfl rfl ?_
          refine FW.gskip rfl rfl ?_
          refine FW.gskip rfl rfl ?_
          refine FW.gskip rfl rfl ?_
          refine FW.gskip rfl rfl ?_
          refine FW.gskip rfl rfl ?_
          refine FW.gskip rfl rfl ?_
          refine FW.gskip rfl rfl ?_
          refine FW.gskip rfl rfl ?_
          refine FW.gskip rfl rfl ?_
          refine FW.gskip rfl rfl ?_
          refine FW.gskip rfl rfl ?_
          refine FW.gskip rfl rfl ?_
          refine FW.gskip rfl rfl ?_
          refine FW.gskip rfl rfl ?_
          refine FW.gskip rfl rfl ?_
          refine FW.gskip rfl rfl ?_
          refine FW.gskip rfl rfl ?_
          refine FW.gskip rfl rfl ?_
          refine FW.gskip rfl rfl ?_
          refine FW.gskip rfl rfl ?_
          refine FW.gskip rfl rfl ?_
          refine FW.gskip rfl rfl ?_
          refine FW.gskip rfl rfl ?_
          refine FW.gskip rfl rfl ?_
          refine FW.gskip rfl rfl ?_
          refine FW.gskip rfl rfl ?_
          refine FW.gskip rfl rfl ?_
          refine FW.gskip rfl rfl ?_
          refine FW.gskip rfl rfl ?_
          refine FW.gskip rfl rfl ?_
          refine FW.gskip rfl rfl ?_
          refine FW.gfunG (y := .lit (.bool (decide (t13.1 = 0)))) rfl rfl rfl rfl rfl rfl rfl rfl rfl (fun a w hk hc => (FW.f_pure (FW.p_eql hk.kn hc rfl rfl))) ?_
          refine FW.gfun (y := .lit (.bool (((((((t10 && (decide (v8 = 0))) && (decide (v9 = 0))) && (decide (v10 = 0))) && (decide (v11 = 0))) && (decide (v13 = 0))) && (decide (v12 = ((List.take (Int.toNat v14) t11) ++ (List.drop (Int.toNat v14) t12))))) && (decide (t13.1 = 0))))) rfl rfl rfl rfl (fun a w hk => (FW.f_pure (FW.p_pick_and hk.kn (FW.holds_nil _) rfl rfl))) ?_
          refine FW.gfun (y := .lit (.bool (((((((t10 && (decide (v8 = 0))) && (decide (v9 = 0))) && (decide (v10 = 0))) && (decide (v11 = 0))) && (decide (v13 = 0))) && (decide (v12 = ((List.take (Int.toNat v14) t11) ++ (List.drop (Int.toNat v14) t12))))) && (decide (t13.1 = 0))))) rfl rfl rfl rfl (fun a w hk => FW.f_assign hk (FW.holds_nil _) rfl) ?_
          exact FW.gend
        · skip
          intro a w hk; simp only [FW.stD, cond_true] at hk
          refine wp_ret ?_
          (repeat first | refine FW.then_ret ?_ | refine FW.block_ret ?_)
          obtain rfl := Option.some.inj h
          exact FW.fret1 hk rfl rfl
    · intro K' hK9
      refine FW.wreg ?_; intro K' hK11
      refine FW.lfun (y := .lit (.int .i64 v14)) hk rfl rfl rfl rfl (FW.f_move hk (FW.holds_nil _) rfl) ?_; clear hk; intro a w hk
      refine FW.lfun (y := .lit (.bool (decide (128 < v14)))) hk rfl rfl rfl rfl ((FW.f_pure (FW.p_gtr hk.kn (FW.holds_nil _) rfl rfl))) ?_; clear hk; intro a w hk
      refine FW.lfun (y := .lit (.bool (decide (128 < v14)))) hk rfl rfl rfl rfl (FW.f_move hk (FW.holds_nil _) rfl) ?_; clear hk; intro a w hk
      refine FW.lfunG (y := .lit (.pointer (some ⟨b1, 1, none⟩))) hk rfl rfl rfl rfl rfl rfl rfl rfl (fun hc => FW.f_fieldPtr hk hc rfl Go.Proofs.Try.underlying45 rfl (by kernel_rfl) rfl) ?_; clear hk; intro a w hk
      refine FW.lfunG (y := .lit (.int .u64 y1.Keep)) hk rfl rfl rfl rfl rfl rfl rfl rfl (fun hc => FW.f_loadBlk1 hk hc (j := 3) rfl rfl Go.Proofs.Try.underlying29 rfl rfl) ?_; clear hk; intro a w hk
      refine FW.lfunG (y := .lit (.int .u64 (FW.andI .u64 y1.Keep 1))) hk rfl rfl rfl rfl rfl rfl rfl rfl (fun hc => (FW.f_pure (FW.p_and hk.kn hc rfl rfl))) ?_; clear hk; intro a w hk
      refine FW.lfunG (y := .lit (.bool (decide ((FW.andI .u64 y1.Keep 1) = 1)))) hk rfl rfl rfl rfl rfl rfl rfl rfl (fun hc => (FW.f_pure (FW.p_eql hk.kn hc rfl rfl))) ?_; clear hk; intro a w hk
      refine FW.lfun (y := .lit (.bool ((decide (128 < v14)) || (decide ((FW.andI .u64 y1.Keep 1) = 1))))) hk rfl rfl rfl rfl ((FW.f_pure (FW.p_pick_or hk.kn (FW.holds_nil _) rfl rfl))) ?_; clear hk; intro a w hk
      refine FW.lend (hK11 _ _ ?_); clear hK11 K'
      refine FW.wcondF (b := ((decide (128 < v14)) || (decide ((FW.andI .u64 y1.Keep 1) = 1)))) hk h rfl (fun h hb => ?_) (fun h hb => ?_)
      · skip
        refine FW.wreg1 ?_
        refine FW.lfun (y := .lit (.int .i64 128)) hk rfl rfl rfl rfl (FW.f_assign hk (FW.holds_nil _) rfl) ?_; clear hk; intro a w hk
        refine wpList_nil ?_
        (repeat first | refine FW.then_normal ?_ | refine FW.block_normal ?_); exact hK9 _ _ ⟨y2_2, y2_4, l3, m4, v0, v1, v8, v9, v10, v11, v12, v13, 128, xd3, xc3, xr4, (hk.drop 3).sub ⟨rfl, rfl, rfl, rfl, rfl, rfl, rfl, rfl, rfl, rfl, trivial⟩, h⟩
      · skip
        refine wp_skip ?_
        (repeat first | refine FW.then_normal ?_ | refine FW.block_normal ?_); exact hK9 _ _ ⟨y2_2, y2_4, l3, m4, v0, v1, v8, v9, v10, v11, v12, v13, v14, xd3, xc3, xr4, (hk.drop 3).sub ⟨rfl, rfl, rfl, rfl, rfl, rfl, rfl, rfl, rfl, rfl, trivial⟩, h⟩
  · intro K' hK8
    refine FW.wreg ?_; intro K' hK13
    refine FW.lfun (y := .lit (.pointer (some ⟨b1, 2, none⟩))) hk rfl rfl rfl rfl (FW.f_fieldPtr hk (FW.holds_nil _) rfl Go.Proofs.Try.underlying45 rfl (by kernel_rfl) rfl) ?_; clear hk; intro a w hk
    refine FW.lfun (y := .lit (.int .i64 v2.Torn)) hk rfl rfl rfl rfl (FW.f_loadBlk1 hk (FW.holds_nil _) (j := 3) rfl rfl Go.Proofs.Try.underlying3 rfl rfl) ?_; clear hk; intro a w hk
    refine FW.lfun (y := .lit (.bool (decide (0 < v2.Torn)))) hk rfl rfl rfl rfl ((FW.f_pure (FW.p_gtr hk.kn (FW.holds_nil _) rfl rfl))) ?_; clear hk; intro a w hk
    refine FW.lend (hK13 _ _ ?_); clear hK13 K'
    refine FW.wcondF (b := (decide (0 < v2.Torn))) hk h rfl (fun h hb => ?_) (fun h hb => ?_)
    · skip
      refine FW.wreg1 ?_
      refine FW.lfun (y := .lit (.pointer (some ⟨b1, 2, none⟩))) hk rfl rfl rfl rfl (FW.f_fieldPtr hk (FW.holds_nil _) rfl Go.Proofs.Try.underlying45 rfl (by kernel_rfl) rfl) ?_; clear hk; intro a w hk
      refine FW.lfun (y := .lit (.int .i64 v2.Torn)) hk rfl rfl rfl rfl (FW.f_loadBlk1 hk (FW.holds_nil _) (j := 3) rfl rfl Go.Proofs.Try.underlying3 rfl rfl) ?_; clear hk; intro a w hk
      refine FW.lfun (y := .lit (.int .i64 v2.Torn)) hk rfl rfl rfl rfl (FW.f_assign hk (FW.holds_nil _) rfl) ?_; clear hk; intro a w hk
      refine wpList_nil ?_
      (repeat first | refine FW.then_normal ?_ | refine FW.block_normal ?_); exact hK8 _ _ ⟨t9.2.2.steps, t9.2.2.off, t9.2.2.sure, t9.2.2.cache, v2, v0, v1, t1.2, t3.1, t4.1, t6.1, t9.1, t9.2.1, v2.Torn, zd6, zc6, zr6, hk.sub ⟨rfl, rfl, rfl, rfl, rfl, rfl, rfl, rfl, rfl, rfl, rfl, trivial⟩, h⟩
    · skip
      refine wp_skip ?_
      (repeat first | refine FW.then_normal ?_ | refine FW.block_normal ?_); exact hK8 _ _ ⟨t9.2.2.steps, t9.2.2.off, t9.2.2.sure, t9.2.2.cache, v2, v0, v1, t1.2, t3.1, t4.1, t6.1, t9.1, t9.2.1, 0, zd6, zc6, zr6, hk.sub ⟨rfl, rfl, rfl, rfl, rfl, rfl, rfl, rfl, rfl, rfl, rfl, trivial⟩, h⟩
end Go.Proofs.Ytimaibcaehagjaa

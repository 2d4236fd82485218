/- Written by a program of this session (gen.py): the contracts of functions of the program. -/
import Derived.KernelRfl
import Derived.Test.YtimaibcaehagjaaProg
import Derived.Test.YtimaibcaehagjaaAvFun
import Derived.Test.YtimaibcaehagjaaAvMan
import Derived.Test.YtimaibcaehagjaaAvMore
import Derived.Test.YtimaibcaehagjaaAvDraw2
import Derived.Test.YtimaibcaehagjaaAvRow
import Derived.Test.YtimaibcaehagjaaHn
import Derived.Test.YtimaibcaehagjaaHg
import Derived.Test.YtimaibcaehagjaaHar
import Derived.Test.YtimaibcaehagjaaHc
import Derived.Test.YtimaibcaehagjaaFx
import Derived.Test.YtimaibcaehagjaaDxP1
import Derived.Test.YtimaibcaehagjaaFy2
import Derived.Test.YtimaibcaehagjaaDaD
namespace Go.Proofs.Ytimaibcaehagjaa
set_option linter.unusedVariables false
set_option maxRecDepth 20000
set_option maxHeartbeats 10000000
theorem offshootref03_New.ok (K : Nat) (v0 : Int) (r : Offshootref03Dev) (h : offshootref03_New.f K v0 = some r) :
    FW.Ok Go.Proofs.Try.prog 36 [.lit (.int .i64 v0)] (.agg (Offshootref03Dev.cells r)) := by
  refine FW.enter (xs := [.lit (.int .i64 v0)]) Go.Proofs.Try.func36 rfl Go.Proofs.Try.ntmps36 rfl ?_
  intro M w0 a hk
  unfold offshootref03_New.f at h
  refine FW.wreg ?_; intro K' hK1
  refine FW.l_alloc (zs := (Offshootref03Dev.cells (⟨[], [], 0, [], false⟩ : Offshootref03Dev))) [] hk rfl rfl rfl rfl ?_; clear hk; intro bx1 a w hk
  refine FW.lend (hK1 _ _ ?_); clear hK1 K'
  refine FW.wreg ?_; intro K' hK2
  refine FW.lfun (y := .agg ([.lit (.slice none 0 0), .row (r_Offshootref03Loose_cells []), .lit (.int .i64 0), .row (r_ApiFall_cells []), .lit (.bool false)])) hk rfl rfl rfl rfl (FW.f_buildN [0] hk (FW.holds_nil _) rfl rfl rfl) ?_; clear hk; intro a w hk
  refine FW.l_alloc (zs := (Offshootref03Dev.cells (⟨[], [], 0, [], false⟩ : Offshootref03Dev))) [] hk rfl rfl rfl rfl ?_; clear hk; intro bx2 a w hk
  refine FW.l_store (I' := [FW.blk bx2 65 ([.lit (.slice none 0 0), .row (r_Offshootref03Loose_cells []), .lit (.int .i64 0), .row (r_ApiFall_cells []), .lit (.bool false)]), FW.blk bx1 65 ((Offshootref03Dev.cells (⟨[], [], 0, [], false⟩ : Offshootref03Dev)))]) (cs' := [.lit (.slice none 0 0), .row (r_Offshootref03Loose_cells []), .lit (.int .i64 0), .row (r_ApiFall_cells []), .lit (.bool false)]) (j := 0) hk rfl rfl rfl rfl rfl (by kernel_rfl) rfl rfl ?_; clear hk; intro w hk
  replace hk := hk.nilRow 9 1 c_str (fun _ => rfl)
  refine FW.lend (hK2 _ _ ?_); clear hK2 K'
  refine FW.wseq ?_; intro K' hK3
  refine FW.wreg ?_; intro K' hK4
  refine FW.lfun (y := .lit (.int .i64 0)) hk rfl rfl rfl rfl (FW.f_assign hk (FW.holds_nil _) rfl) ?_; clear hk; intro a w hk
  refine FW.lend (hK4 _ _ ?_); clear hK4 K'
  refine wp_block ?_
  refine FW.wloop (T := Nat × List (List UInt8) × List Offshootref03Loose × Int × List ApiFall × Bool × Int × Int × Option Addr × Nat) (fun x a w => match x with | (kl1, l3, y2_1, y2_2, y2_3, y2_4, v0, v4, xd3, xc3) => FW.S M w0 a w 19 [FW.orow xd3 xc3 9 1 c_str l3, FW.blk bx2 65 ([.lit (.slice xd3 (List.length l3) xc3), .row (r_Offshootref03Loose_cells y2_1), .lit (.int .i64 y2_2), .row (r_ApiFall_cells y2_3), .lit (.bool y2_4)]), FW.blk bx1 65 ((Offshootref03Dev.cells (⟨[], [], 0, [], false⟩ : Offshootref03Dev)))] [(0, [], .lit (.int .i64 v0)), (2, [], .lit (.pointer (some ⟨bx1, 0, none⟩))), (3, [], .lit (.pointer (some ⟨bx2, 0, none⟩))), (4, [], .lit (.int .i64 v4))] ∧ offshootref03_New.l1 K kl1 l3 y2_1 y2_2 y2_3 y2_4 v0 v4 = some r) (fun x => x.1) (K, ([] : List (List UInt8)), [], 0, [], false, v0, 0, none, 0) ⟨hk.sub ⟨rfl, rfl, rfl, rfl, trivial⟩, h⟩ ?_
  clear hk h
  rintro ⟨kl1, l3, y2_1, y2_2, y2_3, y2_4, v0, v4, xd3, xc3⟩ a w ⟨hk, h⟩ K' hK5
  cases kl1 with
  | zero => simp [offshootref03_New.l1] at h
  | succ kl1 =>
  rw [offshootref03_New.l1.eq_2] at h
  refine FW.wseq ?_; intro K' hK6
  refine FW.wreg ?_; intro K' hK7
  refine FW.lfun (y := .lit (.int .i64 v4)) hk rfl rfl rfl rfl (FW.f_move hk (FW.holds_nil _) rfl) ?_; clear hk; intro a w hk
  refine FW.lfun (y := .lit (.int .i64 v0)) hk rfl rfl rfl rfl (FW.f_move hk (FW.holds_nil _) rfl) ?_; clear hk; intro a w hk
  refine FW.lfun (y := .lit (.bool (decide (v4 < v0)))) hk rfl rfl rfl rfl ((FW.f_pure (FW.p_lss hk.kn (FW.holds_nil _) rfl rfl))) ?_; clear hk; intro a w hk
  refine FW.lend (hK7 _ _ ?_); clear hK7 K'
  refine FW.wcondF (b := (decide (v4 < v0))) hk h rfl (fun h hb => ?_) (fun h hb => ?_)
  · skip
    refine wp_skip ?_
    (repeat first | refine FW.then_normal ?_ | refine FW.block_normal ?_); refine hK6 _ _ ?_
    refine FW.wseq ?_; intro K' hK8
    refine wp_block ?_
    obtain ⟨hc1, h⟩ := FW.chk h
    obtain ⟨hc2, h⟩ := FW.chk h
    refine FW.wdrawE1 (.next [true, true, false, false, false, false, false, false] 2 [true, true, false, false, false, false, false, false] (.next [true, true, false, true, false, false, false, false] 4 [true, true, true, true, false, false, false, false] (.next [true, true, false, false, false, false, false, false] 5 [true, true, true, true, true, false, false, false] (.next [false, false, false, false, false, false, true, false] 7 [true, true, true, true, true, true, true, false] (.leaf [false, false, false, false, false, false, false, false]))))) [(11, [], .lit (.pointer (some ⟨bx2, 0, none⟩))), (12, [], .lit (.slice xd3 (List.length l3) xc3)), (13, [], .agg []), (14, [], .agg []), (15, [], .agg []), (16, [], .agg []), (17, [], .agg []), (19, [], .lit undef)] (by kernel_rfl) (by kernel_rfl) (by kernel_rfl) (by kernel_rfl) hk ?_; clear hk
    refine FW.gnext ?_ rfl rfl rfl rfl rfl ?_
    · skip
      refine FW.gfun (y := .lit (.pointer (some ⟨bx2, 0, none⟩))) rfl rfl rfl rfl (fun a w hk => FW.f_fieldPtr hk (FW.holds_nil _) rfl Go.Proofs.Try.underlying65 rfl (by kernel_rfl) rfl) ?_
      refine FW.gfun (y := .lit (.slice xd3 (List.length l3) xc3)) rfl rfl rfl rfl (fun a w hk => FW.f_loadBlk1 hk (FW.holds_nil _) (j := 1) rfl rfl Go.Proofs.Try.underlying61 rfl rfl) ?_
      refine FW.gskip rfl rfl ?_
      refine FW.gskip rfl rfl ?_
      refine FW.gskip rfl rfl ?_
      refine FW.gskip rfl rfl ?_
      refine FW.gskip rfl rfl ?_
      refine FW.gskip0 rfl ?_
      exact FW.gend
    · skip
      intro σD a w opsD QD hk hf hQ hX
      refine FW.l_makeSlice (f := c_u8) (z := (0 : Int)) (fun _ => rfl) hk rfl hf rfl rfl Go.Proofs.Try.underlying92 (by kernel_rfl) rfl rfl (by kernel_rfl) hc1 ?_; clear hk; intro bx3 a w hk
      refine hQ _ _ a w ?_ hk; clear hk hQ hf hX
      refine ⟨[(11, [], .lit (.pointer (some ⟨bx2, 0, none⟩))), (12, [], .lit (.slice xd3 (List.length l3) xc3)), (13, [], .lit (.slice (some ⟨bx3, 0, none⟩) (List.length (List.replicate (Int.toNat 128) (0 : Int))) (Int.toNat 128))), (14, [], .lit (.string (FW.B (FW.toB (List.replicate (Int.toNat 128) (0 : Int)))))), (15, [], .agg []), (16, [], .agg []), (17, [], .agg []), (19, [], .lit undef)], And.intro rfl (And.intro rfl (trivial)), rfl, ?_⟩
      refine FW.gnext ?_ rfl rfl rfl rfl rfl ?_
      · skip
        refine FW.gfun (y := .lit (.pointer (some ⟨bx2, 0, none⟩))) rfl rfl rfl rfl (fun a w hk => FW.f_fieldPtr hk (FW.holds_nil _) rfl Go.Proofs.Try.underlying65 rfl (by kernel_rfl) rfl) ?_
        refine FW.gfun (y := .lit (.slice xd3 (List.length l3) xc3)) rfl rfl rfl rfl (fun a w hk => FW.f_loadBlk1 hk (FW.holds_nil _) (j := 2) rfl rfl Go.Proofs.Try.underlying61 rfl rfl) ?_
        refine FW.gskip rfl rfl ?_
        refine FW.gfun (y := .lit (.string (FW.B (FW.toB (List.replicate (Int.toNat 128) (0 : Int)))))) rfl rfl rfl rfl (fun a w hk => FW.f_toBown (f := c_u8) rfl hk (FW.holds_nil _) (j := 0) rfl rfl Go.Proofs.Try.underlying92 Go.Proofs.Try.underlying5 Go.Proofs.Try.underlying9) ?_
        refine FW.gskip rfl rfl ?_
        refine FW.gskip rfl rfl ?_
        refine FW.gskip rfl rfl ?_
        refine FW.gskip0 rfl ?_
        exact FW.gend
      · skip
        intro σD a w opsD QD hk hf hQ hX
        refine FW.l_buildSlice (f := c_str) (l := ([(FW.toB (List.replicate (Int.toNat 128) (0 : Int)))] : List (List UInt8))) hk rfl hf rfl Go.Proofs.Try.underlying61 rfl rfl rfl rfl (fun _ => rfl) rfl ?_; clear hk; intro bx4 a w hk
        refine hQ _ _ a w ?_ hk; clear hk hQ hf hX
        refine ⟨[(11, [], .lit (.pointer (some ⟨bx2, 0, none⟩))), (12, [], .lit (.slice xd3 (List.length l3) xc3)), (13, [], .lit (.slice (some ⟨bx3, 0, none⟩) (List.length (List.replicate (Int.toNat 128) (0 : Int))) (Int.toNat 128))), (14, [], .lit (.string (FW.B (FW.toB (List.replicate (Int.toNat 128) (0 : Int)))))), (15, [], .lit (.slice (some ⟨bx4, 0, none⟩) (List.length ([(FW.toB (List.replicate (Int.toNat 128) (0 : Int)))] : List (List UInt8))) 1)), (16, [], .agg []), (17, [], .agg []), (19, [], .lit undef)], And.intro rfl (And.intro rfl (And.intro rfl (And.intro rfl (trivial)))), rfl, ?_⟩
        refine FW.gnext ?_ rfl rfl rfl rfl rfl ?_
        · skip
          refine FW.gfun (y := .lit (.pointer (some ⟨bx2, 0, none⟩))) rfl rfl rfl rfl (fun a w hk => FW.f_fieldPtr hk (FW.holds_nil _) rfl Go.Proofs.Try.underlying65 rfl (by kernel_rfl) rfl) ?_
          refine FW.gfun (y := .lit (.slice xd3 (List.length l3) xc3)) rfl rfl rfl rfl (fun a w hk => FW.f_loadBlk1 hk (FW.holds_nil _) (j := 3) rfl rfl Go.Proofs.Try.underlying61 rfl rfl) ?_
          refine FW.gskip rfl rfl ?_
          refine FW.gskip rfl rfl ?_
          refine FW.gskip rfl rfl ?_
          refine FW.gskip rfl rfl ?_
          refine FW.gskip rfl rfl ?_
          refine FW.gskip0 rfl ?_
          exact FW.gend
        · skip
          intro σD a w opsD QD hk hf hQ hX
          refine FW.l_append (l2 := ([(FW.toB (List.replicate (Int.toNat 128) (0 : Int)))] : List (List UInt8))) (l3 := (l3 ++ ([(FW.toB (List.replicate (Int.toNat 128) (0 : Int)))] : List (List UInt8)))) (I' := fun ad1 cap1 => [FW.orow (some ⟨bx4, 0, none⟩) 1 9 1 c_str ([(FW.toB (List.replicate (Int.toNat 128) (0 : Int)))] : List (List UInt8)), FW.orow (some ⟨bx3, 0, none⟩) (Int.toNat 128) 5 1 c_u8 (List.replicate (Int.toNat 128) (0 : Int)), FW.orow ad1 cap1 9 1 c_str (l3 ++ ([(FW.toB (List.replicate (Int.toNat 128) (0 : Int)))] : List (List UInt8))), FW.blk bx2 65 ([.lit (.slice xd3 (List.length l3) xc3), .row (r_Offshootref03Loose_cells y2_1), .lit (.int .i64 y2_2), .row (r_ApiFall_cells y2_3), .lit (.bool y2_4)]), FW.blk bx1 65 ((Offshootref03Dev.cells (⟨[], [], 0, [], false⟩ : Offshootref03Dev)))]) (j := 2) hk rfl rfl hf rfl (FW.own_src hk (j := 0) rfl rfl (fun _ => rfl) Go.Proofs.Try.underlying61) Go.Proofs.Try.underlying61 (by kernel_rfl) hc2 rfl (fun _ _ => rfl) ?_; clear hk; intro ad1 cap1 a w hk
          replace hk := FW.S.dropI (I' := [FW.orow (some ⟨bx3, 0, none⟩) (Int.toNat 128) 5 1 c_u8 (List.replicate (Int.toNat 128) (0 : Int)), FW.orow ad1 cap1 9 1 c_str (l3 ++ ([(FW.toB (List.replicate (Int.toNat 128) (0 : Int)))] : List (List UInt8))), FW.blk bx2 65 ([.lit (.slice xd3 (List.length l3) xc3), .row (r_Offshootref03Loose_cells y2_1), .lit (.int .i64 y2_2), .row (r_ApiFall_cells y2_3), .lit (.bool y2_4)]), FW.blk bx1 65 ((Offshootref03Dev.cells (⟨[], [], 0, [], false⟩ : Offshootref03Dev)))]) hk 0 rfl
          refine hQ _ _ a w ?_ hk; clear hk hQ hf hX
          refine ⟨[(11, [], .lit (.pointer (some ⟨bx2, 0, none⟩))), (12, [], .lit (.slice xd3 (List.length l3) xc3)), (13, [], .lit (.slice (some ⟨bx3, 0, none⟩) (List.length (List.replicate (Int.toNat 128) (0 : Int))) (Int.toNat 128))), (14, [], .lit (.string (FW.B (FW.toB (List.replicate (Int.toNat 128) (0 : Int)))))), (15, [], .lit (.slice (some ⟨bx4, 0, none⟩) (List.length ([(FW.toB (List.replicate (Int.toNat 128) (0 : Int)))] : List (List UInt8))) 1)), (16, [], .lit (.slice ad1 (List.length (l3 ++ ([(FW.toB (List.replicate (Int.toNat 128) (0 : Int)))] : List (List UInt8)))) cap1)), (17, [], .lit (.pointer (some ⟨bx2, 0, none⟩))), (19, [], .lit undef)], And.intro rfl (And.intro rfl (And.intro rfl (And.intro rfl (And.intro rfl (trivial))))), rfl, ?_⟩
          refine FW.gnext0 ?_ rfl rfl rfl ?_
          · skip
            refine FW.gskip rfl rfl ?_
            refine FW.gskip rfl rfl ?_
            refine FW.gskip rfl rfl ?_
            refine FW.gskip rfl rfl ?_
            refine FW.gskip rfl rfl ?_
            refine FW.gskip rfl rfl ?_
            refine FW.gfun (y := .lit (.pointer (some ⟨bx2, 0, none⟩))) rfl rfl rfl rfl (fun a w hk => FW.f_fieldPtr hk (FW.holds_nil _) rfl Go.Proofs.Try.underlying65 rfl (by kernel_rfl) rfl) ?_
            refine FW.gskip0 rfl ?_
            exact FW.gend
          · skip
            intro σD a w opsD QD hk hQ hX
            refine FW.l_store (I' := [FW.orow (some ⟨bx3, 0, none⟩) (Int.toNat 128) 5 1 c_u8 (List.replicate (Int.toNat 128) (0 : Int)), FW.orow ad1 cap1 9 1 c_str (l3 ++ ([(FW.toB (List.replicate (Int.toNat 128) (0 : Int)))] : List (List UInt8))), FW.blk bx2 65 ([.lit (.slice ad1 (List.length (l3 ++ ([(FW.toB (List.replicate (Int.toNat 128) (0 : Int)))] : List (List UInt8)))) cap1), .row (r_Offshootref03Loose_cells y2_1), .lit (.int .i64 y2_2), .row (r_ApiFall_cells y2_3), .lit (.bool y2_4)]), FW.blk bx1 65 ((Offshootref03Dev.cells (⟨[], [], 0, [], false⟩ : Offshootref03Dev)))]) (cs' := [.lit (.slice ad1 (List.length (l3 ++ ([(FW.toB (List.replicate (Int.toNat 128) (0 : Int)))] : List (List UInt8)))) cap1), .row (r_Offshootref03Loose_cells y2_1), .lit (.int .i64 y2_2), .row (r_ApiFall_cells y2_3), .lit (.bool y2_4)]) (j := 2) hk rfl rfl rfl rfl rfl (by kernel_rfl) rfl rfl ?_; clear hk; intro w hk
            refine hQ _ a w ?_ hk; clear hk hQ hX
            refine ⟨[(11, [], .lit (.pointer (some ⟨bx2, 0, none⟩))), (12, [], .lit (.slice xd3 (List.length l3) xc3)), (13, [], .lit (.slice (some ⟨bx3, 0, none⟩) (List.length (List.replicate (Int.toNat 128) (0 : Int))) (Int.toNat 128))), (14, [], .lit (.string (FW.B (FW.toB (List.replicate (Int.toNat 128) (0 : Int)))))), (15, [], .lit (.slice (some ⟨bx4, 0, none⟩) (List.length ([(FW.toB (List.replicate (Int.toNat 128) (0 : Int)))] : List (List UInt8))) 1)), (16, [], .lit (.slice ad1 (List.length (l3 ++ ([(FW.toB (List.replicate (Int.toNat 128) (0 : Int)))] : List (List UInt8)))) cap1)), (17, [], .lit (.pointer (some ⟨bx2, 0, none⟩))), (19, [], .lit undef)], And.intro rfl (And.intro rfl (And.intro rfl (And.intro rfl (And.intro rfl (And.intro rfl (And.intro rfl (trivial))))))), rfl, ?_⟩
            refine FW.glast ?_ ?_
            · skip
              refine FW.gskip rfl rfl ?_
              refine FW.gskip rfl rfl ?_
              refine FW.gskip rfl rfl ?_
              refine FW.gskip rfl rfl ?_
              refine FW.gskip rfl rfl ?_
              refine FW.gskip rfl rfl ?_
              refine FW.gskip rfl rfl ?_
              refine FW.gskip0 rfl ?_
              exact FW.gend
            · skip
              intro a w hk; simp only [FW.stD, cond_true] at hk
              (repeat first | refine FW.then_normal ?_ | refine FW.block_normal ?_); refine hK8 _ _ ?_
              refine FW.wreg1 ?_
              refine FW.lfun (y := .lit (.int .i64 v4)) hk rfl rfl rfl rfl (FW.f_move hk (FW.holds_nil _) rfl) ?_; clear hk; intro a w hk
              refine FW.lfun (y := .lit (.int .i64 (IntKind.wrap .i64 (v4 + 1)))) hk rfl rfl rfl rfl ((FW.f_pure (FW.p_add hk.kn (FW.holds_nil _) rfl rfl))) ?_; clear hk; intro a w hk
              refine FW.lfun (y := .lit (.int .i64 (IntKind.wrap .i64 (v4 + 1)))) hk rfl rfl rfl rfl (FW.f_assign hk (FW.holds_nil _) rfl) ?_; clear hk; intro a w hk
              refine wpList_nil ?_
              (repeat first | refine FW.then_normal ?_ | refine FW.block_normal ?_); exact hK5 (kl1, (l3 ++ ([(FW.toB (List.replicate (Int.toNat 128) (0 : Int)))] : List (List UInt8))), y2_1, y2_2, y2_3, y2_4, v0, (IntKind.wrap .i64 (v4 + 1)), ad1, cap1) _ _ (Nat.lt_succ_self _) ⟨(hk.drop 0).sub ⟨rfl, rfl, rfl, rfl, trivial⟩, h⟩
  · skip
    refine wp_exit ?_; (repeat first | refine FW.then_exit ?_ | refine FW.block_exit_ne rfl ?_); refine FW.block_exit ?_
    (repeat first | refine FW.then_normal ?_ | refine FW.block_normal ?_); refine hK3 _ _ ?_
    refine FW.wreg ?_; intro K' hK11
    replace hk := FW.S.freezeBlk (I1 := [FW.blk bx2 65 ([.lit (.slice xd3 (List.length l3) xc3), .row (r_Offshootref03Loose_cells y2_1), .lit (.int .i64 y2_2), .row (r_ApiFall_cells y2_3), .lit (.bool y2_4)]), FW.blk bx1 65 ((Offshootref03Dev.cells (⟨[], [], 0, [], false⟩ : Offshootref03Dev)))]) (cs' := (Offshootref03Dev.cells (⟨l3, y2_1, y2_2, y2_3, y2_4⟩ : Offshootref03Dev))) (I' := [FW.blk bx2 65 ((Offshootref03Dev.cells (⟨l3, y2_1, y2_2, y2_3, y2_4⟩ : Offshootref03Dev))), FW.blk bx1 65 ((Offshootref03Dev.cells (⟨[], [], 0, [], false⟩ : Offshootref03Dev)))]) r_c_str_eq hk 0 0 0 rfl rfl rfl rfl rfl rfl
    refine FW.lfun (y := .agg ((Offshootref03Dev.cells (⟨l3, y2_1, y2_2, y2_3, y2_4⟩ : Offshootref03Dev)))) hk rfl rfl rfl rfl (FW.f_loadBlk hk (FW.holds_nil _) (j := 0) rfl rfl Go.Proofs.Try.underlying65 rfl rfl rfl rfl) ?_; clear hk; intro a w hk
    refine FW.l_store (I' := [FW.blk bx2 65 ((Offshootref03Dev.cells (⟨l3, y2_1, y2_2, y2_3, y2_4⟩ : Offshootref03Dev))), FW.blk bx1 65 ((Offshootref03Dev.cells (⟨l3, y2_1, y2_2, y2_3, y2_4⟩ : Offshootref03Dev)))]) (cs' := (Offshootref03Dev.cells (⟨l3, y2_1, y2_2, y2_3, y2_4⟩ : Offshootref03Dev))) (j := 1) hk rfl rfl rfl rfl rfl (by kernel_rfl) rfl rfl ?_; clear hk; intro w hk
    refine FW.lend (hK11 _ _ ?_); clear hK11 K'
    refine wp_ret ?_
    (repeat first | refine FW.then_ret ?_ | refine FW.block_ret ?_)
    obtain rfl := Option.some.inj h
    exact FW.fretR1 hk rfl (FW.rcell hk rfl (j := 1) rfl Go.Proofs.Try.underlying65 rfl (by kernel_rfl))

theorem offshootlaw03_sector.ok (K : Nat) (v0 : Int) (r : List UInt8) (h : offshootlaw03_sector.f K v0 = some r) :
    FW.Ok Go.Proofs.Try.prog 30 [.lit (.int .u8 v0)] (.lit (.string (FW.B r))) := by
  refine FW.enter (xs := [.lit (.int .u8 v0)]) Go.Proofs.Try.func30 rfl Go.Proofs.Try.ntmps30 rfl ?_
  intro M w0 a hk
  unfold offshootlaw03_sector.f at h
  refine FW.wreg ?_; intro K' hK1
  refine FW.lfun (y := .lit (.string (FW.B ([] : List UInt8)))) hk rfl rfl rfl rfl (FW.f_assign hk (FW.holds_nil _) rfl) ?_; clear hk; intro a w hk
  refine FW.lend (hK1 _ _ ?_); clear hK1 K'
  refine FW.wreg ?_; intro K' hK2
  obtain ⟨hc1, h⟩ := FW.chk h
  refine FW.l_makeSlice (f := c_u8) (z := (0 : Int)) (fun _ => rfl) hk rfl rfl rfl rfl Go.Proofs.Try.underlying92 (by kernel_rfl) rfl rfl (by kernel_rfl) hc1 ?_; clear hk; intro bx1 a w hk
  refine FW.lfun (y := .lit (.slice (some ⟨bx1, 0, none⟩) (List.length (List.replicate (Int.toNat 128) (0 : Int))) (Int.toNat 128))) hk rfl rfl rfl rfl (FW.f_assign hk (FW.holds_nil _) rfl) ?_; clear hk; intro a w hk
  refine FW.lend (hK2 _ _ ?_); clear hK2 K'
  refine FW.wseq ?_; intro K' hK3
  refine FW.wreg ?_; intro K' hK4
  refine FW.lfun (y := .lit (.int .i64 0)) hk rfl rfl rfl rfl (FW.f_assign hk (FW.holds_nil _) rfl) ?_; clear hk; intro a w hk
  refine FW.lend (hK4 _ _ ?_); clear hK4 K'
  refine wp_block ?_
  refine FW.wloop (T := Nat × List Int × Int × Int × Option Addr × Nat) (fun x a w => match x with | (kl1, l1, v0, v4, xd1, xc1) => FW.S M w0 a w 18 [FW.orow xd1 xc1 5 1 c_u8 l1] [(0, [], .lit (.int .u8 v0)), (3, [], .lit (.slice xd1 (List.length l1) xc1)), (4, [], .lit (.int .i64 v4))] ∧ offshootlaw03_sector.l1 K kl1 l1 v0 v4 = some r) (fun x => x.1) (K, (List.replicate (Int.toNat 128) (0 : Int)), v0, 0, (some ⟨bx1, 0, none⟩), (Int.toNat 128)) ⟨hk.sub ⟨rfl, rfl, rfl, trivial⟩, h⟩ ?_
  clear hk h
  rintro ⟨kl1, l1, v0, v4, xd1, xc1⟩ a w ⟨hk, h⟩ K' hK5
  cases kl1 with
  | zero => simp [offshootlaw03_sector.l1] at h
  | succ kl1 =>
  rw [offshootlaw03_sector.l1.eq_2] at h
  refine FW.wseq ?_; intro K' hK6
  refine FW.wreg ?_; intro K' hK7
  refine FW.lfun (y := .lit (.int .i64 v4)) hk rfl rfl rfl rfl (FW.f_move hk (FW.holds_nil _) rfl) ?_; clear hk; intro a w hk
  refine FW.lfun (y := .lit (.slice xd1 (List.length l1) xc1)) hk rfl rfl rfl rfl (FW.f_move hk (FW.holds_nil _) rfl) ?_; clear hk; intro a w hk
  refine FW.lfun (y := .lit (.int .i64 (List.length l1 : Int))) hk rfl rfl rfl rfl ((FW.f_pure (FW.p_len Go.Proofs.Try.underlying92 hk.kn (FW.holds_nil _) rfl))) ?_; clear hk; intro a w hk
  refine FW.lfun (y := .lit (.bool (decide (v4 < (List.length l1 : Int))))) hk rfl rfl rfl rfl ((FW.f_pure (FW.p_lss hk.kn (FW.holds_nil _) rfl rfl))) ?_; clear hk; intro a w hk
  refine FW.lend (hK7 _ _ ?_); clear hK7 K'
  refine FW.wcondF (b := (decide (v4 < (List.length l1 : Int)))) hk h rfl (fun h hb => ?_) (fun h hb => ?_)
  · skip
    refine wp_skip ?_
    (repeat first | refine FW.then_normal ?_ | refine FW.block_normal ?_); refine hK6 _ _ ?_
    refine FW.wseq ?_; intro K' hK8
    refine wp_block ?_
    refine FW.wreg1 ?_
    refine FW.lfun (y := .lit (.slice xd1 (List.length l1) xc1)) hk rfl rfl rfl rfl (FW.f_move hk (FW.holds_nil _) rfl) ?_; clear hk; intro a w hk
    refine FW.lfun (y := .lit (.int .i64 v4)) hk rfl rfl rfl rfl (FW.f_move hk (FW.holds_nil _) rfl) ?_; clear hk; intro a w hk
    refine FW.lfun (y := .lit (.int .u8 v0)) hk rfl rfl rfl rfl (FW.f_move hk (FW.holds_nil _) rfl) ?_; clear hk; intro a w hk
    obtain ⟨hc2, h⟩ := FW.chk h
    refine FW.lfun (y := FW.elA xd1 1 v4) hk rfl rfl rfl rfl (FW.f_idxOwn (f := c_u8) (l := l1) hk (FW.holds_nil _) (j := 0) rfl rfl (by first | rfl | simp only [List.length_set]) rfl Go.Proofs.Try.underlying92 (by kernel_rfl) hc2) ?_; clear hk; intro a w hk
    refine FW.l_storeOwn1 (f := c_u8) (l := l1) (v := v0) (I' := [FW.orow xd1 xc1 5 1 c_u8 (List.set l1 (Int.toNat v4) v0)]) (j := 0) hk rfl rfl hc2 rfl rfl rfl rfl (by kernel_rfl) rfl ?_; clear hk; intro w hk
    refine wpList_nil ?_
    (repeat first | refine FW.then_normal ?_ | refine FW.block_normal ?_); refine hK8 _ _ ?_
    refine FW.wreg1 ?_
    refine FW.lfun (y := .lit (.int .i64 v4)) hk rfl rfl rfl rfl (FW.f_move hk (FW.holds_nil _) rfl) ?_; clear hk; intro a w hk
    refine FW.lfun (y := .lit (.int .i64 (IntKind.wrap .i64 (v4 + 1)))) hk rfl rfl rfl rfl ((FW.f_pure (FW.p_add hk.kn (FW.holds_nil _) rfl rfl))) ?_; clear hk; intro a w hk
    refine FW.lfun (y := .lit (.int .i64 (IntKind.wrap .i64 (v4 + 1)))) hk rfl rfl rfl rfl (FW.f_assign hk (FW.holds_nil _) rfl) ?_; clear hk; intro a w hk
    refine wpList_nil ?_
    replace hk := hk.as (i := 3) (y := .lit (.slice xd1 (List.length (List.set l1 (Int.toNat v4) v0)) xc1)) rfl (fun v hv => by simpa only [List.length_set] using hv)
    (repeat first | refine FW.then_normal ?_ | refine FW.block_normal ?_); exact hK5 (kl1, (List.set l1 (Int.toNat v4) v0), v0, (IntKind.wrap .i64 (v4 + 1)), xd1, xc1) _ _ (Nat.lt_succ_self _) ⟨hk.sub ⟨rfl, rfl, rfl, trivial⟩, h⟩
  · skip
    refine wp_exit ?_; (repeat first | refine FW.then_exit ?_ | refine FW.block_exit_ne rfl ?_); refine FW.block_exit ?_
    (repeat first | refine FW.then_normal ?_ | refine FW.block_normal ?_); refine hK3 _ _ ?_
    refine FW.wreg ?_; intro K' hK11
    refine FW.lfun (y := .lit (.slice xd1 (List.length l1) xc1)) hk rfl rfl rfl rfl (FW.f_move hk (FW.holds_nil _) rfl) ?_; clear hk; intro a w hk
    refine FW.lfun (y := .lit (.string (FW.B (FW.toB l1)))) hk rfl rfl rfl rfl (FW.f_toBown (f := c_u8) rfl hk (FW.holds_nil _) (j := 0) rfl rfl Go.Proofs.Try.underlying92 Go.Proofs.Try.underlying5 Go.Proofs.Try.underlying9) ?_; clear hk; intro a w hk
    refine FW.lfun (y := .lit (.string (FW.B (FW.toB l1)))) hk rfl rfl rfl rfl (FW.f_assign hk (FW.holds_nil _) rfl) ?_; clear hk; intro a w hk
    refine FW.lend (hK11 _ _ ?_); clear hK11 K'
    refine wp_ret ?_
    (repeat first | refine FW.then_ret ?_ | refine FW.block_ret ?_)
    obtain rfl := Option.some.inj h
    exact FW.fret1 hk rfl rfl

theorem offshootlaw03_awake.ok (K : Nat)  (r : Bool) (h : offshootlaw03_awake.f K = some r) :
    FW.Ok Go.Proofs.Try.prog 28 [] (.lit (.bool r)) := by
  refine FW.enter (xs := []) Go.Proofs.Try.func28 rfl Go.Proofs.Try.ntmps28 rfl ?_
  intro M w0 a hk
  unfold offshootlaw03_awake.f at h
  refine FW.wreg ?_; intro K' hK1
  refine FW.lfun (y := .lit (.bool false)) hk rfl rfl rfl rfl (FW.f_assign hk (FW.holds_nil _) rfl) ?_; clear hk; intro a w hk
  refine FW.lend (hK1 _ _ ?_); clear hK1 K'
  refine FW.wreg ?_; intro K' hK2
  obtain ⟨t1, hr_t1, h⟩ := FW.bnd h
  refine FW.l_callH (I1 := ([] : List FW.It)) (I2 := []) (js := []) hk rfl rfl rfl rfl rfl Go.Proofs.Try.func27 rfl (by kernel_rfl) (dev_New.ok K 2 _ hr_t1 ) ?_; clear hk
  rintro _ _ ⟨bx1, xdNt1_0_0, xcNt1_0_0, xrNt1_0_1, xdNt1_0_3, xcNt1_0_3, rfl, rfl⟩ a w hk
  refine FW.lfun (y := .tup [.lit (.pointer (some ⟨bx1, 0, none⟩)), .lit (.int .i64 t1.2)]) hk rfl rfl rfl rfl (FW.f_move hk (FW.holds_nil _) rfl) ?_; clear hk; intro a w hk
  refine FW.lfun (y := .lit (.pointer (some ⟨bx1, 0, none⟩))) hk rfl rfl rfl rfl (FW.f_extract hk (FW.holds_nil _) rfl rfl) ?_; clear hk; intro a w hk
  refine FW.lfun (y := .lit (.int .i64 t1.2)) hk rfl rfl rfl rfl (FW.f_extract hk (FW.holds_nil _) rfl rfl) ?_; clear hk; intro a w hk
  refine FW.lfun (y := .lit (.pointer (some ⟨bx1, 0, none⟩))) hk rfl rfl rfl rfl (FW.f_assign hk (FW.holds_nil _) rfl) ?_; clear hk; intro a w hk
  refine FW.lfun (y := .lit (.int .i64 t1.2)) hk rfl rfl rfl rfl (FW.f_assign hk (FW.holds_nil _) rfl) ?_; clear hk; intro a w hk
  refine FW.lend (hK2 _ _ ?_); clear hK2 K'
  refine FW.wreg ?_; intro K' hK3
  refine FW.lfun (y := .lit (.pointer (some ⟨bx1, 0, none⟩))) hk rfl rfl rfl rfl (FW.f_move hk (FW.holds_nil _) rfl) ?_; clear hk; intro a w hk
  obtain ⟨t2, hr_t2, h⟩ := FW.bnd h
  refine FW.lfun (y := .lit (.string (FW.B t2))) hk rfl rfl rfl rfl (FW.f_call hk (FW.holds_nil _) rfl rfl Go.Proofs.Try.func30 rfl (by kernel_rfl) (offshootlaw03_sector.ok K 97 _ hr_t2)) ?_; clear hk; intro a w hk
  obtain ⟨t3, hr_t3, h⟩ := FW.bnd h
  refine FW.l_callH (I1 := (ODevDev.items bx1 xdNt1_0_0 xcNt1_0_0 xrNt1_0_1 xdNt1_0_3 xcNt1_0_3 t1.1)) (I2 := []) (js := [3, 3, 3, 3]) hk rfl rfl rfl rfl rfl Go.Proofs.Try.func29 rfl (by kernel_rfl) (dev_Dev_Write.ok K t1.1 0 t2 _ hr_t3 bx1 xdNt1_0_0 xcNt1_0_0 xrNt1_0_1 xdNt1_0_3 xcNt1_0_3) ?_; clear hk
  rintro _ _ ⟨zd1, zc1, zr1, zd2, zc2, rfl, rfl⟩ a w hk
  refine FW.lfun (y := .lit (.pointer (some ⟨bx1, 0, none⟩))) hk rfl rfl rfl rfl (FW.f_move hk (FW.holds_nil _) rfl) ?_; clear hk; intro a w hk
  obtain ⟨t4, hr_t4, h⟩ := FW.bnd h
  refine FW.l_callH (I1 := (ODevDev.items bx1 zd1 zc1 zr1 zd2 zc2 t3.2)) (I2 := []) (js := [3, 3, 3, 3]) hk rfl rfl rfl rfl rfl Go.Proofs.Try.func31 rfl (by kernel_rfl) (dev_Dev_Flush.ok K t3.2 _ hr_t4 bx1 zd1 zc1 zr1 zd2 zc2) ?_; clear hk
  rintro _ _ ⟨zd3, zc3, zr2, zd4, zc4, rfl, rfl⟩ a w hk
  refine FW.lfun (y := .lit (.pointer (some ⟨bx1, 0, none⟩))) hk rfl rfl rfl rfl (FW.f_move hk (FW.holds_nil _) rfl) ?_; clear hk; intro a w hk
  obtain ⟨t5, hr_t5, h⟩ := FW.bnd h
  refine FW.lfun (y := .lit (.string (FW.B t5))) hk rfl rfl rfl rfl (FW.f_call hk (FW.holds_nil _) rfl rfl Go.Proofs.Try.func30 rfl (by kernel_rfl) (offshootlaw03_sector.ok K 98 _ hr_t5)) ?_; clear hk; intro a w hk
  obtain ⟨t6, hr_t6, h⟩ := FW.bnd h
  refine FW.l_callH (I1 := (ODevDev.items bx1 zd3 zc3 zr2 zd4 zc4 t4.2)) (I2 := []) (js := [3, 3, 3, 3]) hk rfl rfl rfl rfl rfl Go.Proofs.Try.func29 rfl (by kernel_rfl) (dev_Dev_Write.ok K t4.2 1 t5 _ hr_t6 bx1 zd3 zc3 zr2 zd4 zc4) ?_; clear hk
  rintro _ _ ⟨zd5, zc5, zr3, zd6, zc6, rfl, rfl⟩ a w hk
  refine FW.lfun (y := .lit (.int .i64 t3.1)) hk rfl rfl rfl rfl (FW.f_assign hk (FW.holds_nil _) rfl) ?_; clear hk; intro a w hk
  refine FW.lfun (y := .lit (.int .i64 t4.1)) hk rfl rfl rfl rfl (FW.f_assign hk (FW.holds_nil _) rfl) ?_; clear hk; intro a w hk
  refine FW.lfun (y := .lit (.int .i64 t6.1)) hk rfl rfl rfl rfl (FW.f_assign hk (FW.holds_nil _) rfl) ?_; clear hk; intro a w hk
  refine FW.lend (hK3 _ _ ?_); clear hK3 K'
  refine FW.wreg ?_; intro K' hK4
  refine FW.lfun (y := .lit (.pointer (some ⟨bx1, 0, none⟩))) hk rfl rfl rfl rfl (FW.f_move hk (FW.holds_nil _) rfl) ?_; clear hk; intro a w hk
  obtain ⟨t7, hr_t7, h⟩ := FW.bnd h
  refine FW.l_callH (I1 := (ODevDev.items bx1 zd5 zc5 zr3 zd6 zc6 t6.2)) (I2 := []) (js := [3, 3, 3, 3]) hk rfl rfl rfl rfl rfl Go.Proofs.Try.func32 rfl (by kernel_rfl) (dev_Dev_Crash.ok K t6.2 0 0 _ hr_t7 bx1 zd5 zc5 zr3 zd6 zc6) ?_; clear hk
  rintro _ _ ⟨zd7, zc7, zr4, zd8, zc8, rfl, rfl⟩ a w hk
  refine FW.lend (hK4 _ _ ?_); clear hK4 K'
  refine FW.wreg ?_; intro K' hK5
  refine FW.lfun (y := .lit (.pointer (some ⟨bx1, 0, none⟩))) hk rfl rfl rfl rfl (FW.f_move hk (FW.holds_nil _) rfl) ?_; clear hk; intro a w hk
  obtain ⟨t8, hr_t8, h⟩ := FW.bnd h
  refine FW.l_callH (I1 := (ODevDev.items bx1 zd7 zc7 zr4 zd8 zc8 t7)) (I2 := []) (js := [3, 3, 3, 3]) hk rfl rfl rfl rfl rfl Go.Proofs.Try.func33 rfl (by kernel_rfl) (dev_Dev_Up.ok t7 _ hr_t8 bx1 zd7 zc7 zr4 zd8 zc8) ?_; clear hk
  rintro _ _ ⟨zd9, zc9, zr5, zd10, zc10, rfl, rfl⟩ a w hk
  refine FW.lfun (y := .lit (.bool t8.1)) hk rfl rfl rfl rfl (FW.f_assign hk (FW.holds_nil _) rfl) ?_; clear hk; intro a w hk
  refine FW.lend (hK5 _ _ ?_); clear hK5 K'
  refine FW.wreg ?_; intro K' hK6
  refine FW.lfun (y := .lit (.pointer (some ⟨bx1, 0, none⟩))) hk rfl rfl rfl rfl (FW.f_move hk (FW.holds_nil _) rfl) ?_; clear hk; intro a w hk
  obtain ⟨t9, hr_t9, h⟩ := FW.bnd h
  refine FW.l_callH (I1 := (ODevDev.items bx1 zd9 zc9 zr5 zd10 zc10 t8.2)) (I2 := []) (js := [3, 3, 3, 3]) hk rfl rfl rfl rfl rfl Go.Proofs.Try.func34 rfl (by kernel_rfl) (dev_Dev_Read.ok t8.2 0 _ hr_t9 bx1 zd9 zc9 zr5 zd10 zc10) ?_; clear hk
  rintro _ _ ⟨rfl, rfl⟩ a w hk
  refine FW.lfun (y := .tup [.lit (.string (FW.B t9.1)), .lit (.int .i64 t9.2)]) hk rfl rfl rfl rfl (FW.f_move hk (FW.holds_nil _) rfl) ?_; clear hk; intro a w hk
  refine FW.lfun (y := .lit (.string (FW.B t9.1))) hk rfl rfl rfl rfl (FW.f_extract hk (FW.holds_nil _) rfl rfl) ?_; clear hk; intro a w hk
  refine FW.lfun (y := .lit (.int .i64 t9.2)) hk rfl rfl rfl rfl (FW.f_extract hk (FW.holds_nil _) rfl rfl) ?_; clear hk; intro a w hk
  refine FW.lfun (y := .lit (.string (FW.B t9.1))) hk rfl rfl rfl rfl (FW.f_assign hk (FW.holds_nil _) rfl) ?_; clear hk; intro a w hk
  refine FW.lfun (y := .lit (.int .i64 t9.2)) hk rfl rfl rfl rfl (FW.f_assign hk (FW.holds_nil _) rfl) ?_; clear hk; intro a w hk
  refine FW.lend (hK6 _ _ ?_); clear hK6 K'
  refine FW.wreg ?_; intro K' hK7
  refine FW.lfun (y := .lit (.pointer (some ⟨bx1, 0, none⟩))) hk rfl rfl rfl rfl (FW.f_move hk (FW.holds_nil _) rfl) ?_; clear hk; intro a w hk
  obtain ⟨t10, hr_t10, h⟩ := FW.bnd h
  refine FW.l_callH (I1 := (ODevDev.items bx1 zd9 zc9 zr5 zd10 zc10 t8.2)) (I2 := []) (js := [3, 3, 3, 3]) hk rfl rfl rfl rfl rfl Go.Proofs.Try.func34 rfl (by kernel_rfl) (dev_Dev_Read.ok t8.2 1 _ hr_t10 bx1 zd9 zc9 zr5 zd10 zc10) ?_; clear hk
  rintro _ _ ⟨rfl, rfl⟩ a w hk
  refine FW.lfun (y := .tup [.lit (.string (FW.B t10.1)), .lit (.int .i64 t10.2)]) hk rfl rfl rfl rfl (FW.f_move hk (FW.holds_nil _) rfl) ?_; clear hk; intro a w hk
  refine FW.lfun (y := .lit (.string (FW.B t10.1))) hk rfl rfl rfl rfl (FW.f_extract hk (FW.holds_nil _) rfl rfl) ?_; clear hk; intro a w hk
  refine FW.lfun (y := .lit (.int .i64 t10.2)) hk rfl rfl rfl rfl (FW.f_extract hk (FW.holds_nil _) rfl rfl) ?_; clear hk; intro a w hk
  refine FW.lfun (y := .lit (.string (FW.B t10.1))) hk rfl rfl rfl rfl (FW.f_assign hk (FW.holds_nil _) rfl) ?_; clear hk; intro a w hk
  refine FW.lfun (y := .lit (.int .i64 t10.2)) hk rfl rfl rfl rfl (FW.f_assign hk (FW.holds_nil _) rfl) ?_; clear hk; intro a w hk
  refine FW.lend (hK7 _ _ ?_); clear hK7 K'
  refine FW.wreg ?_; intro K' hK8
  refine FW.lfun (y := .lit (.int .i64 t1.2)) hk rfl rfl rfl rfl (FW.f_move hk (FW.holds_nil _) rfl) ?_; clear hk; intro a w hk
  refine FW.lfun (y := .lit (.bool (decide (t1.2 = 0)))) hk rfl rfl rfl rfl ((FW.f_pure (FW.p_eql hk.kn (FW.holds_nil _) rfl rfl))) ?_; clear hk; intro a w hk
  refine FW.lfun (y := .lit (.bool (decide (t1.2 = 0)))) hk rfl rfl rfl rfl (FW.f_move hk (FW.holds_nil _) rfl) ?_; clear hk; intro a w hk
  refine FW.lfunG (y := .lit (.int .i64 t3.1)) hk rfl rfl rfl rfl rfl rfl rfl rfl (fun hc => FW.f_move hk hc rfl) ?_; clear hk; intro a w hk
  refine FW.lfunG (y := .lit (.bool (decide (t3.1 = 0)))) hk rfl rfl rfl rfl rfl rfl rfl rfl (fun hc => (FW.f_pure (FW.p_eql hk.kn hc rfl rfl))) ?_; clear hk; intro a w hk
  refine FW.lfun (y := .lit (.bool ((decide (t1.2 = 0)) && (decide (t3.1 = 0))))) hk rfl rfl rfl rfl ((FW.f_pure (FW.p_pick_and hk.kn (FW.holds_nil _) rfl rfl))) ?_; clear hk; intro a w hk
  refine FW.lfun (y := .lit (.bool ((decide (t1.2 = 0)) && (decide (t3.1 = 0))))) hk rfl rfl rfl rfl (FW.f_move hk (FW.holds_nil _) rfl) ?_; clear hk; intro a w hk
  refine FW.lfunG (y := .lit (.int .i64 t4.1)) hk rfl rfl rfl rfl rfl rfl rfl rfl (fun hc => FW.f_move hk hc rfl) ?_; clear hk; intro a w hk
  refine FW.lfunG (y := .lit (.bool (decide (t4.1 = 0)))) hk rfl rfl rfl rfl rfl rfl rfl rfl (fun hc => (FW.f_pure (FW.p_eql hk.kn hc rfl rfl))) ?_; clear hk; intro a w hk
  refine FW.lfun (y := .lit (.bool (((decide (t1.2 = 0)) && (decide (t3.1 = 0))) && (decide (t4.1 = 0))))) hk rfl rfl rfl rfl ((FW.f_pure (FW.p_pick_and hk.kn (FW.holds_nil _) rfl rfl))) ?_; clear hk; intro a w hk
  refine FW.lfun (y := .lit (.bool (((decide (t1.2 = 0)) && (decide (t3.1 = 0))) && (decide (t4.1 = 0))))) hk rfl rfl rfl rfl (FW.f_move hk (FW.holds_nil _) rfl) ?_; clear hk; intro a w hk
  refine FW.lfunG (y := .lit (.int .i64 t6.1)) hk rfl rfl rfl rfl rfl rfl rfl rfl (fun hc => FW.f_move hk hc rfl) ?_; clear hk; intro a w hk
  refine FW.lfunG (y := .lit (.bool (decide (t6.1 = 0)))) hk rfl rfl rfl rfl rfl rfl rfl rfl (fun hc => (FW.f_pure (FW.p_eql hk.kn hc rfl rfl))) ?_; clear hk; intro a w hk
  refine FW.lfun (y := .lit (.bool ((((decide (t1.2 = 0)) && (decide (t3.1 = 0))) && (decide (t4.1 = 0))) && (decide (t6.1 = 0))))) hk rfl rfl rfl rfl ((FW.f_pure (FW.p_pick_and hk.kn (FW.holds_nil _) rfl rfl))) ?_; clear hk; intro a w hk
  refine FW.lfun (y := .lit (.bool ((((decide (t1.2 = 0)) && (decide (t3.1 = 0))) && (decide (t4.1 = 0))) && (decide (t6.1 = 0))))) hk rfl rfl rfl rfl (FW.f_move hk (FW.holds_nil _) rfl) ?_; clear hk; intro a w hk
  refine FW.lfunG (y := .lit (.bool t8.1)) hk rfl rfl rfl rfl rfl rfl rfl rfl (fun hc => FW.f_move hk hc rfl) ?_; clear hk; intro a w hk
  refine FW.lfun (y := .lit (.bool (((((decide (t1.2 = 0)) && (decide (t3.1 = 0))) && (decide (t4.1 = 0))) && (decide (t6.1 = 0))) && t8.1))) hk rfl rfl rfl rfl ((FW.f_pure (FW.p_pick_and hk.kn (FW.holds_nil _) rfl rfl))) ?_; clear hk; intro a w hk
  refine FW.lfun (y := .lit (.bool (((((decide (t1.2 = 0)) && (decide (t3.1 = 0))) && (decide (t4.1 = 0))) && (decide (t6.1 = 0))) && t8.1))) hk rfl rfl rfl rfl (FW.f_move hk (FW.holds_nil _) rfl) ?_; clear hk; intro a w hk
  refine FW.lfunG (y := .lit (.int .i64 t9.2)) hk rfl rfl rfl rfl rfl rfl rfl rfl (fun hc => FW.f_move hk hc rfl) ?_; clear hk; intro a w hk
  refine FW.lfunG (y := .lit (.bool (decide (t9.2 = 0)))) hk rfl rfl rfl rfl rfl rfl rfl rfl (fun hc => (FW.f_pure (FW.p_eql hk.kn hc rfl rfl))) ?_; clear hk; intro a w hk
  refine FW.lfun (y := .lit (.bool ((((((decide (t1.2 = 0)) && (decide (t3.1 = 0))) && (decide (t4.1 = 0))) && (decide (t6.1 = 0))) && t8.1) && (decide (t9.2 = 0))))) hk rfl rfl rfl rfl ((FW.f_pure (FW.p_pick_and hk.kn (FW.holds_nil _) rfl rfl))) ?_; clear hk; intro a w hk
  refine FW.lfun (y := .lit (.bool ((((((decide (t1.2 = 0)) && (decide (t3.1 = 0))) && (decide (t4.1 = 0))) && (decide (t6.1 = 0))) && t8.1) && (decide (t9.2 = 0))))) hk rfl rfl rfl rfl (FW.f_move hk (FW.holds_nil _) rfl) ?_; clear hk; intro a w hk
  refine FW.lfunG (y := .lit (.string (FW.B t9.1))) hk rfl rfl rfl rfl rfl rfl rfl rfl (fun hc => FW.f_move hk hc rfl) ?_; clear hk; intro a w hk
  obtain ⟨t11, hr_t11, h⟩ := FW.bndG h
  refine FW.lfunG (y := .lit (.string (FW.B t11))) hk rfl rfl rfl rfl rfl rfl rfl rfl (fun hc => FW.f_call hk hc rfl rfl Go.Proofs.Try.func30 rfl (by kernel_rfl) (offshootlaw03_sector.ok K 97 _ (hr_t11 (FW.asm_out (p := ((((((decide (t1.2 = 0)) && (decide (t3.1 = 0))) && (decide (t4.1 = 0))) && (decide (t6.1 = 0))) && t8.1) && (decide (t9.2 = 0))) = true) hk.kn hc (fun e0 => e0))))) ?_; clear hk; intro a w hk
  refine FW.lfunG (y := .lit (.bool (decide (t9.1 = t11)))) hk rfl rfl rfl rfl rfl rfl rfl rfl (fun hc => (FW.f_pure (FW.p_seql hk.kn hc rfl rfl))) ?_; clear hk; intro a w hk
  refine FW.lfun (y := .lit (.bool (((((((decide (t1.2 = 0)) && (decide (t3.1 = 0))) && (decide (t4.1 = 0))) && (decide (t6.1 = 0))) && t8.1) && (decide (t9.2 = 0))) && (decide (t9.1 = t11))))) hk rfl rfl rfl rfl ((FW.f_pure (FW.p_pick_and hk.kn (FW.holds_nil _) rfl rfl))) ?_; clear hk; intro a w hk
  refine FW.lfun (y := .lit (.bool (((((((decide (t1.2 = 0)) && (decide (t3.1 = 0))) && (decide (t4.1 = 0))) && (decide (t6.1 = 0))) && t8.1) && (decide (t9.2 = 0))) && (decide (t9.1 = t11))))) hk rfl rfl rfl rfl (FW.f_move hk (FW.holds_nil _) rfl) ?_; clear hk; intro a w hk
  refine FW.lfunG (y := .lit (.int .i64 t10.2)) hk rfl rfl rfl rfl rfl rfl rfl rfl (fun hc => FW.f_move hk hc rfl) ?_; clear hk; intro a w hk
  refine FW.lfunG (y := .lit (.bool (decide (t10.2 = 0)))) hk rfl rfl rfl rfl rfl rfl rfl rfl (fun hc => (FW.f_pure (FW.p_eql hk.kn hc rfl rfl))) ?_; clear hk; intro a w hk
  refine FW.lfun (y := .lit (.bool ((((((((decide (t1.2 = 0)) && (decide (t3.1 = 0))) && (decide (t4.1 = 0))) && (decide (t6.1 = 0))) && t8.1) && (decide (t9.2 = 0))) && (decide (t9.1 = t11))) && (decide (t10.2 = 0))))) hk rfl rfl rfl rfl ((FW.f_pure (FW.p_pick_and hk.kn (FW.holds_nil _) rfl rfl))) ?_; clear hk; intro a w hk
  refine FW.lfun (y := .lit (.bool ((((((((decide (t1.2 = 0)) && (decide (t3.1 = 0))) && (decide (t4.1 = 0))) && (decide (t6.1 = 0))) && t8.1) && (decide (t9.2 = 0))) && (decide (t9.1 = t11))) && (decide (t10.2 = 0))))) hk rfl rfl rfl rfl (FW.f_move hk (FW.holds_nil _) rfl) ?_; clear hk; intro a w hk
  refine FW.lfunG (y := .lit (.string (FW.B t10.1))) hk rfl rfl rfl rfl rfl rfl rfl rfl (fun hc => FW.f_move hk hc rfl) ?_; clear hk; intro a w hk
  obtain ⟨t12, hr_t12, h⟩ := FW.bndG h
  refine FW.lfunG (y := .lit (.string (FW.B t12))) hk rfl rfl rfl rfl rfl rfl rfl rfl (fun hc => FW.f_call hk hc rfl rfl Go.Proofs.Try.func30 rfl (by kernel_rfl) (offshootlaw03_sector.ok K 0 _ (hr_t12 (FW.asm_out (p := ((((((((decide (t1.2 = 0)) && (decide (t3.1 = 0))) && (decide (t4.1 = 0))) && (decide (t6.1 = 0))) && t8.1) && (decide (t9.2 = 0))) && (decide (t9.1 = t11))) && (decide (t10.2 = 0))) = true) hk.kn hc (fun e0 => e0))))) ?_; clear hk; intro a w hk
  refine FW.lfunG (y := .lit (.bool (decide (t10.1 = t12)))) hk rfl rfl rfl rfl rfl rfl rfl rfl (fun hc => (FW.f_pure (FW.p_seql hk.kn hc rfl rfl))) ?_; clear hk; intro a w hk
  refine FW.lfun (y := .lit (.bool (((((((((decide (t1.2 = 0)) && (decide (t3.1 = 0))) && (decide (t4.1 = 0))) && (decide (t6.1 = 0))) && t8.1) && (decide (t9.2 = 0))) && (decide (t9.1 = t11))) && (decide (t10.2 = 0))) && (decide (t10.1 = t12))))) hk rfl rfl rfl rfl ((FW.f_pure (FW.p_pick_and hk.kn (FW.holds_nil _) rfl rfl))) ?_; clear hk; intro a w hk
  refine FW.lfun (y := .lit (.bool (((((((((decide (t1.2 = 0)) && (decide (t3.1 = 0))) && (decide (t4.1 = 0))) && (decide (t6.1 = 0))) && t8.1) && (decide (t9.2 = 0))) && (decide (t9.1 = t11))) && (decide (t10.2 = 0))) && (decide (t10.1 = t12))))) hk rfl rfl rfl rfl (FW.f_assign hk (FW.holds_nil _) rfl) ?_; clear hk; intro a w hk
  refine FW.lend (hK8 _ _ ?_); clear hK8 K'
  refine wp_ret ?_
  (repeat first | refine FW.then_ret ?_ | refine FW.block_ret ?_)
  obtain rfl := Option.some.inj h
  exact FW.fret1 hk rfl rfl

theorem offshootref03_laid.ok  (v0 : List (List UInt8)) (v1 : Int) (v2 : List UInt8) (r : List (List UInt8)) (h : offshootref03_laid.f v0 v1 v2 = some r) :
    FW.Ok Go.Proofs.Try.prog 94 [.row (r_c_str v0), .lit (.int .i64 v1), .lit (.string (FW.B v2))] (.row (r_c_str r)) := by
  refine FW.enter (xs := [.row (r_c_str v0), .lit (.int .i64 v1), .lit (.string (FW.B v2))]) Go.Proofs.Try.func94 rfl Go.Proofs.Try.ntmps94 rfl ?_
  intro M w0 a hk
  unfold offshootref03_laid.f at h
  refine FW.wreg ?_; intro K' hK1
  refine FW.lfun (y := .row (r_c_str [])) hk rfl rfl rfl rfl (FW.f_assignNil) ?_; clear hk; intro a w hk
  refine FW.lend (hK1 _ _ ?_); clear hK1 K'
  refine FW.wreg ?_; intro K' hK2
  refine FW.l_buildSlice0 (f := c_str) hk rfl rfl Go.Proofs.Try.underlying61 rfl (fun _ => rfl) ?_; clear hk; intro bx1 a w hk
  refine FW.lfun (y := .row (r_c_str v0)) hk rfl rfl rfl rfl (FW.f_move hk (FW.holds_nil _) rfl) ?_; clear hk; intro a w hk
  obtain ⟨hc1, h⟩ := FW.chk h
  refine FW.l_append (l2 := v0) (l3 := (([] : List (List UInt8)) ++ v0)) (I' := fun ad1 cap1 => [FW.orow ad1 cap1 9 1 c_str (([] : List (List UInt8)) ++ v0)]) (j := 0) hk rfl rfl rfl rfl (FW.imm_src (sz := 1) hk r_c_str_eq rfl (fun _ => rfl) (fun _ => rfl) Go.Proofs.Try.underlying61) Go.Proofs.Try.underlying61 (by kernel_rfl) hc1 rfl (fun _ _ => rfl) ?_; clear hk; intro ad1 cap1 a w hk
  refine FW.lfun (y := .lit (.slice ad1 (List.length (([] : List (List UInt8)) ++ v0)) cap1)) hk rfl rfl rfl rfl (FW.f_assign hk (FW.holds_nil _) rfl) ?_; clear hk; intro a w hk
  refine FW.lend (hK2 _ _ ?_); clear hK2 K'
  refine FW.wreg ?_; intro K' hK3
  refine FW.lfun (y := .lit (.slice ad1 (List.length (([] : List (List UInt8)) ++ v0)) cap1)) hk rfl rfl rfl rfl (FW.f_move hk (FW.holds_nil _) rfl) ?_; clear hk; intro a w hk
  refine FW.lfun (y := .lit (.int .i64 v1)) hk rfl rfl rfl rfl (FW.f_move hk (FW.holds_nil _) rfl) ?_; clear hk; intro a w hk
  refine FW.lfun (y := .lit (.string (FW.B v2))) hk rfl rfl rfl rfl (FW.f_move hk (FW.holds_nil _) rfl) ?_; clear hk; intro a w hk
  obtain ⟨hc2, h⟩ := FW.chk h
  refine FW.lfun (y := FW.elA ad1 1 v1) hk rfl rfl rfl rfl (FW.f_idxOwn (f := c_str) (l := (([] : List (List UInt8)) ++ v0)) hk (FW.holds_nil _) (j := 0) rfl rfl (by first | rfl | simp only [List.length_set]) rfl Go.Proofs.Try.underlying61 (by kernel_rfl) hc2) ?_; clear hk; intro a w hk
  refine FW.l_storeOwn1 (f := c_str) (l := (([] : List (List UInt8)) ++ v0)) (v := v2) (I' := [FW.orow ad1 cap1 9 1 c_str (List.set (([] : List (List UInt8)) ++ v0) (Int.toNat v1) v2)]) (j := 0) hk rfl rfl hc2 rfl rfl rfl rfl (by kernel_rfl) rfl ?_; clear hk; intro w hk
  refine FW.lend (hK3 _ _ ?_); clear hK3 K'
  refine FW.wreg ?_; intro K' hK4
  refine FW.lfun (y := .lit (.slice ad1 (List.length (([] : List (List UInt8)) ++ v0)) cap1)) hk rfl rfl rfl rfl (FW.f_move hk (FW.holds_nil _) rfl) ?_; clear hk; intro a w hk
  refine FW.lfun (y := .lit (.slice ad1 (List.length (([] : List (List UInt8)) ++ v0)) cap1)) hk rfl rfl rfl rfl (FW.f_assign hk (FW.holds_nil _) rfl) ?_; clear hk; intro a w hk
  refine FW.lend (hK4 _ _ ?_); clear hK4 K'
  refine wp_ret ?_
  (repeat first | refine FW.then_ret ?_ | refine FW.block_ret ?_)
  replace hk := hk.as (i := 6) (y := .lit (.slice ad1 (List.length (List.set (([] : List (List UInt8)) ++ v0) (Int.toNat v1) v2)) cap1)) rfl (fun v hv => by simpa only [List.length_set] using hv)
  replace hk := FW.S.freezeR (I' := []) r_c_str_eq hk (j := 0) rfl (t := 6) rfl rfl
  obtain rfl := Option.some.inj h
  exact FW.fret1 hk rfl rfl
end Go.Proofs.Ytimaibcaehagjaa

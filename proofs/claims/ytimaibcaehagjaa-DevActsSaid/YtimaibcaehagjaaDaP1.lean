/- Written by a program of this session (gen.py): the contracts of functions of the program. -/
import Derived.KernelRfl
import Derived.Test.YtimaibcaehagjaaProg
import Derived.Test.YtimaibcaehagjaaAvFun
import Derived.Test.YtimaibcaehagjaaAvMan
import Derived.Test.YtimaibcaehagjaaAvMore
import Derived.Test.YtimaibcaehagjaaAvDraw2
import Derived.Test.YtimaibcaehagjaaAvRow
import Derived.Test.YtimaibcaehagjaaHn
import Derived.Test.YtimaibcaehagjaaHg
import Derived.Test.YtimaibcaehagjaaHar
import Derived.Test.YtimaibcaehagjaaHc
import Derived.Test.YtimaibcaehagjaaFx
import Derived.Test.YtimaibcaehagjaaDxP1
import Derived.Test.YtimaibcaehagjaaFy2
import Derived.Test.YtimaibcaehagjaaDaD
import Derived.Test.YtimaibcaehagjaaDaP0
namespace Go.Proofs.Ytimaibcaehagjaa
set_option linter.unusedVariables false
set_option maxRecDepth 20000
set_option maxHeartbeats 10000000
theorem offshootref03_Dev_Crash.ok (K : Nat) (v0 : Offshootref03Dev) (v1 : Int) (v2 : Int) (r : Offshootref03Dev) (h : offshootref03_Dev_Crash.f K v0 v1 v2 = some r) :
    FW.Ok Go.Proofs.Try.prog 67 [.agg (Offshootref03Dev.cells v0), .lit (.int .u64 v1), .lit (.int .i64 v2)] (.agg (Offshootref03Dev.cells r)) := by
  refine FW.enter (xs := [.agg (Offshootref03Dev.cells v0), .lit (.int .u64 v1), .lit (.int .i64 v2)]) Go.Proofs.Try.func67 rfl Go.Proofs.Try.ntmps67 rfl ?_
  intro M w0 a hk
  unfold offshootref03_Dev_Crash.f at h
  refine FW.wreg ?_; intro K' hK1
  refine FW.l_box (cs := (Offshootref03Dev.cells v0)) hk rfl rfl rfl rfl rfl ?_; clear hk; intro bx1 a w hk
  refine FW.l_alloc (zs := (Offshootref03Dev.cells (⟨[], [], 0, [], false⟩ : Offshootref03Dev))) [] hk rfl rfl rfl rfl ?_; clear hk; intro bx2 a w hk
  refine FW.lend (hK1 _ _ ?_); clear hK1 K'
  refine FW.wseq ?_; intro K' hK2
  refine FW.wreg ?_; intro K' hK3
  refine FW.lfun (y := .lit (.pointer (some ⟨bx1, 4, none⟩))) hk rfl rfl rfl rfl (FW.f_fieldPtr hk (FW.holds_nil _) rfl Go.Proofs.Try.underlying65 rfl (by kernel_rfl) rfl) ?_; clear hk; intro a w hk
  refine FW.lfun (y := .lit (.bool v0.Off)) hk rfl rfl rfl rfl (FW.f_loadBlk1 hk (FW.holds_nil _) (j := 1) rfl rfl Go.Proofs.Try.underlying4 rfl rfl) ?_; clear hk; intro a w hk
  refine FW.lend (hK3 _ _ ?_); clear hK3 K'
  refine FW.wcondF (b := v0.Off) hk h rfl (fun h hb => ?_) (fun h hb => ?_)
  · skip
    refine FW.wreg ?_; intro K' hK4
    refine FW.lfun (y := .agg ((Offshootref03Dev.cells v0))) hk rfl rfl rfl rfl (FW.f_loadBlk hk (FW.holds_nil _) (j := 1) rfl rfl Go.Proofs.Try.underlying65 rfl rfl rfl rfl) ?_; clear hk; intro a w hk
    refine FW.l_store (I' := [FW.blk bx2 65 ((Offshootref03Dev.cells v0)), FW.blk bx1 65 ((Offshootref03Dev.cells v0))]) (cs' := (Offshootref03Dev.cells v0)) (j := 0) hk rfl rfl rfl rfl rfl (by kernel_rfl) rfl rfl ?_; clear hk; intro w hk
    refine FW.lend (hK4 _ _ ?_); clear hK4 K'
    refine wp_ret ?_
    (repeat first | refine FW.then_ret ?_ | refine FW.block_ret ?_)
    obtain rfl := Option.some.inj h
    exact FW.fretR1 hk rfl (FW.rcell hk rfl (j := 0) rfl Go.Proofs.Try.underlying65 rfl (by kernel_rfl))
  · skip
    refine wp_skip ?_
    (repeat first | refine FW.then_normal ?_ | refine FW.block_normal ?_); refine hK2 _ _ ?_
    refine FW.wreg ?_; intro K' hK5
    refine FW.lfun (y := .lit (.int .i64 v2)) hk rfl rfl rfl rfl (FW.f_move hk (FW.holds_nil _) rfl) ?_; clear hk; intro a w hk
    refine FW.lfun (y := .lit (.int .i64 v2)) hk rfl rfl rfl rfl (FW.f_assign hk (FW.holds_nil _) rfl) ?_; clear hk; intro a w hk
    refine FW.lend (hK5 _ _ ?_); clear hK5 K'
    refine FW.wseqJ (fun a w => ∃ (y1 : Offshootref03Dev) (v1 : Int) (v7 : Int), FW.S M w0 a w 68 [FW.blk bx2 65 ((Offshootref03Dev.cells (⟨[], [], 0, [], false⟩ : Offshootref03Dev))), FW.blk bx1 65 ((Offshootref03Dev.cells y1))] [(1, [], .lit (.int .u64 v1)), (3, [], .lit (.pointer (some ⟨bx1, 0, none⟩))), (6, [], .lit (.pointer (some ⟨bx2, 0, none⟩))), (7, [], .lit (.int .i64 v7))] ∧ offshootref03_Dev_Crash.j1 K y1 v1 v7 = some r) ?_ ?_
    · clear hk h
      rintro a w ⟨y1, v1, v7, hk, h⟩
      unfold offshootref03_Dev_Crash.j1 at h
      refine FW.wseqJ (fun a w => ∃ (v1 : Int) (v7 : Int), FW.S M w0 a w 68 [FW.blk bx2 65 ((Offshootref03Dev.cells (⟨[], [], 0, [], false⟩ : Offshootref03Dev))), FW.blk bx1 65 ((Offshootref03Dev.cells y1))] [(1, [], .lit (.int .u64 v1)), (3, [], .lit (.pointer (some ⟨bx1, 0, none⟩))), (6, [], .lit (.pointer (some ⟨bx2, 0, none⟩))), (7, [], .lit (.int .i64 v7))] ∧ offshootref03_Dev_Crash.j2 K y1 v1 v7 = some r) ?_ ?_
      · clear hk h
        rintro a w ⟨v1, v7, hk, h⟩
        unfold offshootref03_Dev_Crash.j2 at h
        refine FW.wseq ?_; intro K' hK8
        refine FW.wreg ?_; intro K' hK9
        refine FW.lfun (y := .lit (.int .i64 0)) hk rfl rfl rfl rfl (FW.f_assign hk (FW.holds_nil _) rfl) ?_; clear hk; intro a w hk
        refine FW.lend (hK9 _ _ ?_); clear hK9 K'
        refine wp_block ?_
        refine FW.wloop (T := Nat × Offshootref03Dev × Int × Int × Int) (fun x a w => match x with | (kl1, y1, v1, v7, v8) => FW.S M w0 a w 68 [FW.blk bx2 65 ((Offshootref03Dev.cells (⟨[], [], 0, [], false⟩ : Offshootref03Dev))), FW.blk bx1 65 ((Offshootref03Dev.cells y1))] [(1, [], .lit (.int .u64 v1)), (3, [], .lit (.pointer (some ⟨bx1, 0, none⟩))), (6, [], .lit (.pointer (some ⟨bx2, 0, none⟩))), (7, [], .lit (.int .i64 v7)), (8, [], .lit (.int .i64 v8))] ∧ offshootref03_Dev_Crash.l1 K kl1 y1 v1 v7 v8 = some r) (fun x => x.1) (K, y1, v1, v7, 0) ⟨hk.sub ⟨rfl, rfl, rfl, rfl, rfl, trivial⟩, h⟩ ?_
        clear hk h
        rintro ⟨kl1, y1, v1, v7, v8⟩ a w ⟨hk, h⟩ K' hK10
        cases kl1 with
        | zero => simp [offshootref03_Dev_Crash.l1] at h
        | succ kl1 =>
        rw [offshootref03_Dev_Crash.l1.eq_2] at h
        refine FW.wseq ?_; intro K' hK11
        refine FW.wreg ?_; intro K' hK12
        refine FW.lfun (y := .lit (.int .i64 v8)) hk rfl rfl rfl rfl (FW.f_move hk (FW.holds_nil _) rfl) ?_; clear hk; intro a w hk
        refine FW.lfun (y := .lit (.pointer (some ⟨bx1, 1, none⟩))) hk rfl rfl rfl rfl (FW.f_fieldPtr hk (FW.holds_nil _) rfl Go.Proofs.Try.underlying65 rfl (by kernel_rfl) rfl) ?_; clear hk; intro a w hk
        refine FW.lfun (y := .row (r_Offshootref03Loose_cells y1.Loose)) hk rfl rfl rfl rfl (FW.f_loadBlk1 hk (FW.holds_nil _) (j := 1) rfl rfl Go.Proofs.Try.underlying62 rfl rfl) ?_; clear hk; intro a w hk
        refine FW.lfun (y := .lit (.int .i64 (List.length y1.Loose : Int))) hk rfl rfl rfl rfl (FW.f_len (R := r_Offshootref03Loose_cells) (f := Offshootref03Loose.cells) (l := y1.Loose) r_Offshootref03Loose_cells_eq Go.Proofs.Try.underlying62 hk (FW.holds_nil _) rfl) ?_; clear hk; intro a w hk
        refine FW.lfun (y := .lit (.bool (decide (v8 < (List.length y1.Loose : Int))))) hk rfl rfl rfl rfl ((FW.f_pure (FW.p_lss hk.kn (FW.holds_nil _) rfl rfl))) ?_; clear hk; intro a w hk
        refine FW.lend (hK12 _ _ ?_); clear hK12 K'
        refine FW.wcondF (b := (decide (v8 < (List.length y1.Loose : Int)))) hk h rfl (fun h hb => ?_) (fun h hb => ?_)
        · skip
          refine wp_skip ?_
          (repeat first | refine FW.then_normal ?_ | refine FW.block_normal ?_); refine hK11 _ _ ?_
          refine FW.wseq ?_; intro K' hK13
          refine wp_block ?_
          refine FW.wreg ?_; intro K' hK14
          refine FW.lfun (y := .lit (.int .i64 v8)) hk rfl rfl rfl rfl (FW.f_move hk (FW.holds_nil _) rfl) ?_; clear hk; intro a w hk
          refine FW.lfun (y := .lit (.int .i64 v8)) hk rfl rfl rfl rfl (FW.f_assign hk (FW.holds_nil _) rfl) ?_; clear hk; intro a w hk
          refine FW.lend (hK14 _ _ ?_); clear hK14 K'
          refine FW.wseqJ (fun a w => ∃ (v1 : Int) (v7 : Int) (v8 : Int) (v9 : Int), FW.S M w0 a w 68 [FW.blk bx2 65 ((Offshootref03Dev.cells (⟨[], [], 0, [], false⟩ : Offshootref03Dev))), FW.blk bx1 65 ((Offshootref03Dev.cells y1))] [(1, [], .lit (.int .u64 v1)), (3, [], .lit (.pointer (some ⟨bx1, 0, none⟩))), (6, [], .lit (.pointer (some ⟨bx2, 0, none⟩))), (7, [], .lit (.int .i64 v7)), (8, [], .lit (.int .i64 v8)), (9, [], .lit (.int .i64 v9))] ∧ offshootref03_Dev_Crash.j3 (offshootref03_Dev_Crash.l1 K kl1) K y1 v1 v7 v8 v9 = some r) ?_ ?_
          · clear hk h
            rintro a w ⟨v1, v7, v8, v9, hk, h⟩
            unfold offshootref03_Dev_Crash.j3 at h
            obtain ⟨hc1, h⟩ := FW.chk h
            obtain ⟨hc2, h⟩ := FW.chk h
            refine FW.wdraw (by kernel_rfl) (by kernel_rfl) hk ?_; clear hk
            refine FW.dfun (y := .lit (.pointer (some ⟨bx1, 1, none⟩))) rfl rfl rfl rfl (fun a w hk => FW.f_fieldPtr hk (FW.holds_nil _) rfl Go.Proofs.Try.underlying65 rfl (by kernel_rfl) rfl) ?_
            refine FW.dfun (y := .row (r_Offshootref03Loose_cells y1.Loose)) rfl rfl rfl rfl (fun a w hk => FW.f_loadBlk1 hk (FW.holds_nil _) (j := 1) rfl rfl Go.Proofs.Try.underlying62 rfl rfl) ?_
            refine FW.dfun (y := .lit (.int .i64 v8)) rfl rfl rfl rfl (fun a w hk => FW.f_move hk (FW.holds_nil _) rfl) ?_
            refine FW.dfun (y := .ref (Offshootref03Loose.cells (List.getD y1.Loose (Int.toNat v8) default))) rfl rfl rfl rfl (fun a w hk => FW.f_indexAddr (R := r_Offshootref03Loose_cells) (f := Offshootref03Loose.cells) (l := y1.Loose) (sz := 2) r_Offshootref03Loose_cells_eq (fun _ => rfl) hk (FW.holds_nil _) rfl rfl Go.Proofs.Try.underlying62 (by kernel_rfl) hc1) ?_
            refine FW.dfun (y := .ref (List.drop 0 (Offshootref03Loose.cells (List.getD y1.Loose (Int.toNat v8) default)))) rfl rfl rfl rfl (fun a w hk => FW.f_fieldAddr hk (FW.holds_nil _) rfl Go.Proofs.Try.underlying152 rfl (by kernel_rfl) rfl) ?_
            refine FW.dfun (y := .lit (.int .i64 ((List.getD y1.Loose (Int.toNat v8) default).At))) rfl rfl rfl rfl (fun a w hk => FW.f_load1 hk (FW.holds_nil _) rfl rfl Go.Proofs.Try.underlying3 rfl) ?_
            refine FW.dfun (y := .lit (.pointer (some ⟨bx1, 1, none⟩))) rfl rfl rfl rfl (fun a w hk => FW.f_fieldPtr hk (FW.holds_nil _) rfl Go.Proofs.Try.underlying65 rfl (by kernel_rfl) rfl) ?_
            refine FW.dfun (y := .row (r_Offshootref03Loose_cells y1.Loose)) rfl rfl rfl rfl (fun a w hk => FW.f_loadBlk1 hk (FW.holds_nil _) (j := 1) rfl rfl Go.Proofs.Try.underlying62 rfl rfl) ?_
            refine FW.dfun (y := .lit (.int .i64 v8)) rfl rfl rfl rfl (fun a w hk => FW.f_move hk (FW.holds_nil _) rfl) ?_
            refine FW.dfun (y := .ref (Offshootref03Loose.cells (List.getD y1.Loose (Int.toNat v8) default))) rfl rfl rfl rfl (fun a w hk => FW.f_indexAddr (R := r_Offshootref03Loose_cells) (f := Offshootref03Loose.cells) (l := y1.Loose) (sz := 2) r_Offshootref03Loose_cells_eq (fun _ => rfl) hk (FW.holds_nil _) rfl rfl Go.Proofs.Try.underlying62 (by kernel_rfl) hc2) ?_
            refine FW.dfun (y := .ref (List.drop 1 (Offshootref03Loose.cells (List.getD y1.Loose (Int.toNat v8) default)))) rfl rfl rfl rfl (fun a w hk => FW.f_fieldAddr hk (FW.holds_nil _) rfl Go.Proofs.Try.underlying152 rfl (by kernel_rfl) rfl) ?_
            refine FW.dfun (y := .lit (.string (FW.B ((List.getD y1.Loose (Int.toNat v8) default).S)))) rfl rfl rfl rfl (fun a w hk => FW.f_load1 hk (FW.holds_nil _) rfl rfl Go.Proofs.Try.underlying9 rfl) ?_
            refine FW.dfun (y := .lit (.int .i64 ((List.getD y1.Loose (Int.toNat v8) default).At))) rfl rfl rfl rfl (fun a w hk => FW.f_assign hk (FW.holds_nil _) rfl) ?_
            refine FW.dfun (y := .lit (.string (FW.B ((List.getD y1.Loose (Int.toNat v8) default).S)))) rfl rfl rfl rfl (fun a w hk => FW.f_assign hk (FW.holds_nil _) rfl) ?_
            refine FW.dend ?_; intro a w hk
            refine FW.wseqJ (fun a w => ∃ (v1 : Int) (v7 : Int) (v8 : Int) (v10 : Int) (v11 : List UInt8), FW.S M w0 a w 68 [FW.blk bx2 65 ((Offshootref03Dev.cells (⟨[], [], 0, [], false⟩ : Offshootref03Dev))), FW.blk bx1 65 ((Offshootref03Dev.cells y1))] [(1, [], .lit (.int .u64 v1)), (3, [], .lit (.pointer (some ⟨bx1, 0, none⟩))), (6, [], .lit (.pointer (some ⟨bx2, 0, none⟩))), (7, [], .lit (.int .i64 v7)), (8, [], .lit (.int .i64 v8)), (10, [], .lit (.int .i64 v10)), (11, [], .lit (.string (FW.B v11)))] ∧ offshootref03_Dev_Crash.j4 (offshootref03_Dev_Crash.l1 K kl1) K y1 v1 v7 v8 v10 v11 = some r) ?_ ?_
            · clear hk h
              rintro a w ⟨v1, v7, v8, v10, v11, hk, h⟩
              unfold offshootref03_Dev_Crash.j4 at h
              refine FW.wreg1 ?_
              refine FW.lfun (y := .lit (.pointer (some ⟨bx1, 0, none⟩))) hk rfl rfl rfl rfl (FW.f_fieldPtr hk (FW.holds_nil _) rfl Go.Proofs.Try.underlying65 rfl (by kernel_rfl) rfl) ?_; clear hk; intro a w hk
              refine FW.lfun (y := .row (r_c_str y1.Sure)) hk rfl rfl rfl rfl (FW.f_loadBlk1 hk (FW.holds_nil _) (j := 1) rfl rfl Go.Proofs.Try.underlying61 rfl rfl) ?_; clear hk; intro a w hk
              refine FW.lfun (y := .lit (.int .i64 v10)) hk rfl rfl rfl rfl (FW.f_move hk (FW.holds_nil _) rfl) ?_; clear hk; intro a w hk
              refine FW.lfun (y := .lit (.string (FW.B v11))) hk rfl rfl rfl rfl (FW.f_move hk (FW.holds_nil _) rfl) ?_; clear hk; intro a w hk
              obtain ⟨t1, hr_t1, h⟩ := FW.bnd h
              refine FW.lfun (y := .row (r_c_str t1)) hk rfl rfl rfl rfl (FW.f_call hk (FW.holds_nil _) rfl rfl Go.Proofs.Try.func94 rfl (by kernel_rfl) (offshootref03_laid.ok y1.Sure v10 v11 _ hr_t1)) ?_; clear hk; intro a w hk
              refine FW.lfun (y := .lit (.pointer (some ⟨bx1, 0, none⟩))) hk rfl rfl rfl rfl (FW.f_fieldPtr hk (FW.holds_nil _) rfl Go.Proofs.Try.underlying65 rfl (by kernel_rfl) rfl) ?_; clear hk; intro a w hk
              refine FW.l_store (I' := [FW.blk bx2 65 ((Offshootref03Dev.cells (⟨[], [], 0, [], false⟩ : Offshootref03Dev))), FW.blk bx1 65 ((Offshootref03Dev.cells (⟨t1, y1.Loose, y1.Steps, y1.Falls, y1.Off⟩ : Offshootref03Dev)))]) (cs' := (Offshootref03Dev.cells (⟨t1, y1.Loose, y1.Steps, y1.Falls, y1.Off⟩ : Offshootref03Dev))) (j := 1) hk rfl rfl rfl rfl rfl (by kernel_rfl) rfl rfl ?_; clear hk; intro w hk
              refine wpList_nil ?_
              (repeat first | refine FW.then_normal ?_ | refine FW.block_normal ?_); refine hK13 _ _ ?_
              refine FW.wreg1 ?_
              refine FW.lfun (y := .lit (.int .i64 v8)) hk rfl rfl rfl rfl (FW.f_move hk (FW.holds_nil _) rfl) ?_; clear hk; intro a w hk
              refine FW.lfun (y := .lit (.int .i64 (IntKind.wrap .i64 (v8 + 1)))) hk rfl rfl rfl rfl ((FW.f_pure (FW.p_add hk.kn (FW.holds_nil _) rfl rfl))) ?_; clear hk; intro a w hk
              refine FW.lfun (y := .lit (.int .i64 (IntKind.wrap .i64 (v8 + 1)))) hk rfl rfl rfl rfl (FW.f_assign hk (FW.holds_nil _) rfl) ?_; clear hk; intro a w hk
              refine wpList_nil ?_
              (repeat first | refine FW.then_normal ?_ | refine FW.block_normal ?_); exact hK10 (kl1, (⟨t1, y1.Loose, y1.Steps, y1.Falls, y1.Off⟩ : Offshootref03Dev), v1, v7, (IntKind.wrap .i64 (v8 + 1))) _ _ (Nat.lt_succ_self _) ⟨hk.sub ⟨rfl, rfl, rfl, rfl, rfl, trivial⟩, h⟩
            · intro K' hK17
              refine FW.wreg ?_; intro K' hK20
              refine FW.lfun (y := .lit (.int .u64 v1)) hk rfl rfl rfl rfl (FW.f_move hk (FW.holds_nil _) rfl) ?_; clear hk; intro a w hk
              refine FW.lfun (y := .lit (.int .i64 v9)) hk rfl rfl rfl rfl (FW.f_move hk (FW.holds_nil _) rfl) ?_; clear hk; intro a w hk
              refine FW.lfun (y := .lit (.int .u64 (IntKind.wrap .u64 v9))) hk rfl rfl rfl rfl ((FW.f_pure (FW.p_conv Go.Proofs.Try.underlying3 Go.Proofs.Try.underlying133 hk.kn (FW.holds_nil _) rfl))) ?_; clear hk; intro a w hk
              obtain ⟨hc3, h⟩ := FW.chk h
              refine FW.lfun (y := .lit (.int .u64 (FW.shrI .u64 v1 (IntKind.wrap .u64 v9)))) hk rfl rfl rfl rfl ((FW.f_pure (FW.p_shr hk.kn (FW.holds_nil _) rfl rfl hc3))) ?_; clear hk; intro a w hk
              refine FW.lfun (y := .lit (.int .u64 (Int.tmod (FW.shrI .u64 v1 (IntKind.wrap .u64 v9)) 2))) hk rfl rfl rfl rfl ((FW.f_pure (FW.p_rem hk.kn (FW.holds_nil _) rfl rfl (show ¬ (2 : Int) = 0 from by decide)))) ?_; clear hk; intro a w hk
              refine FW.lfun (y := .lit (.bool (decide ((Int.tmod (FW.shrI .u64 v1 (IntKind.wrap .u64 v9)) 2) = 0)))) hk rfl rfl rfl rfl ((FW.f_pure (FW.p_eql hk.kn (FW.holds_nil _) rfl rfl))) ?_; clear hk; intro a w hk
              refine FW.lend (hK20 _ _ ?_); clear hK20 K'
              refine FW.wcondF (b := (decide ((Int.tmod (FW.shrI .u64 v1 (IntKind.wrap .u64 v9)) 2) = 0))) hk h rfl (fun h hb => ?_) (fun h hb => ?_)
              · skip
                obtain ⟨hc4, h⟩ := FW.chk h
                obtain ⟨hc5, h⟩ := FW.chk h
                obtain ⟨hc6, h⟩ := FW.chk h
                obtain ⟨hc7, h⟩ := FW.chk h
                refine FW.wdraw (by kernel_rfl) (by kernel_rfl) hk ?_; clear hk
                refine FW.dfun (y := .lit (.string (FW.B ((List.getD y1.Loose (Int.toNat v8) default).S)))) rfl rfl rfl rfl (fun a w hk => FW.f_move hk (FW.holds_nil _) rfl) ?_
                refine FW.dfun (y := .lit (.int .i64 v7)) rfl rfl rfl rfl (fun a w hk => FW.f_move hk (FW.holds_nil _) rfl) ?_
                refine FW.dfun (y := .lit (.string (FW.B (List.take (Int.toNat v7) ((List.getD y1.Loose (Int.toNat v8) default).S))))) rfl rfl rfl rfl (fun a w hk => (FW.f_pure (FW.p_slice_hi Go.Proofs.Try.underlying9 hk.kn (FW.holds_nil _) rfl rfl hc4))) ?_
                refine FW.dfun (y := .lit (.pointer (some ⟨bx1, 0, none⟩))) rfl rfl rfl rfl (fun a w hk => FW.f_fieldPtr hk (FW.holds_nil _) rfl Go.Proofs.Try.underlying65 rfl (by kernel_rfl) rfl) ?_
                refine FW.dfun (y := .row (r_c_str y1.Sure)) rfl rfl rfl rfl (fun a w hk => FW.f_loadBlk1 hk (FW.holds_nil _) (j := 1) rfl rfl Go.Proofs.Try.underlying61 rfl rfl) ?_
                refine FW.dfun (y := .lit (.int .i64 ((List.getD y1.Loose (Int.toNat v8) default).At))) rfl rfl rfl rfl (fun a w hk => FW.f_move hk (FW.holds_nil _) rfl) ?_
                refine FW.dfun (y := .ref (c_str (List.getD y1.Sure (Int.toNat ((List.getD y1.Loose (Int.toNat v8) default).At)) default))) rfl rfl rfl rfl (fun a w hk => FW.f_indexAddr (R := r_c_str) (f := c_str) (l := y1.Sure) (sz := 1) r_c_str_eq (fun _ => rfl) hk (FW.holds_nil _) rfl rfl Go.Proofs.Try.underlying61 (by kernel_rfl) hc5) ?_
                refine FW.dfun (y := .lit (.string (FW.B (List.getD y1.Sure (Int.toNat ((List.getD y1.Loose (Int.toNat v8) default).At)) default)))) rfl rfl rfl rfl (fun a w hk => FW.f_load1 hk (FW.holds_nil _) rfl rfl Go.Proofs.Try.underlying9 rfl) ?_
                refine FW.dfun (y := .lit (.int .i64 v7)) rfl rfl rfl rfl (fun a w hk => FW.f_move hk (FW.holds_nil _) rfl) ?_
                refine FW.dfun (y := .lit (.string (FW.B (List.drop (Int.toNat v7) (List.getD y1.Sure (Int.toNat ((List.getD y1.Loose (Int.toNat v8) default).At)) default))))) rfl rfl rfl rfl (fun a w hk => (FW.f_pure (FW.p_slice_lo Go.Proofs.Try.underlying9 hk.kn (FW.holds_nil _) rfl rfl hc6))) ?_
                refine FW.dfun (y := .lit (.string (FW.B ((List.take (Int.toNat v7) ((List.getD y1.Loose (Int.toNat v8) default).S)) ++ (List.drop (Int.toNat v7) (List.getD y1.Sure (Int.toNat ((List.getD y1.Loose (Int.toNat v8) default).At)) default)))))) rfl rfl rfl rfl (fun a w hk => (FW.f_pure (FW.p_sadd hk.kn (FW.holds_nil _) rfl rfl hc7))) ?_
                refine FW.dfun (y := .lit (.string (FW.B ((List.take (Int.toNat v7) ((List.getD y1.Loose (Int.toNat v8) default).S)) ++ (List.drop (Int.toNat v7) (List.getD y1.Sure (Int.toNat ((List.getD y1.Loose (Int.toNat v8) default).At)) default)))))) rfl rfl rfl rfl (fun a w hk => FW.f_assign hk (FW.holds_nil _) rfl) ?_
                refine FW.dend ?_; intro a w hk
                refine FW.wreg1 ?_
                refine FW.lfun (y := .lit (.int .i64 0)) hk rfl rfl rfl rfl (FW.f_assign hk (FW.holds_nil _) rfl) ?_; clear hk; intro a w hk
                refine wpList_nil ?_
                (repeat first | refine FW.then_normal ?_ | refine FW.block_normal ?_); exact hK17 _ _ ⟨v1, 0, v8, (List.getD y1.Loose (Int.toNat v8) default).At, ((List.take (Int.toNat v7) ((List.getD y1.Loose (Int.toNat v8) default).S)) ++ (List.drop (Int.toNat v7) (List.getD y1.Sure (Int.toNat ((List.getD y1.Loose (Int.toNat v8) default).At)) default))), hk.sub ⟨rfl, rfl, rfl, rfl, rfl, rfl, rfl, trivial⟩, h⟩
              · skip
                refine wp_skip ?_
                (repeat first | refine FW.then_normal ?_ | refine FW.block_normal ?_); exact hK17 _ _ ⟨v1, v7, v8, (List.getD y1.Loose (Int.toNat v8) default).At, (List.getD y1.Loose (Int.toNat v8) default).S, hk.sub ⟨rfl, rfl, rfl, rfl, rfl, rfl, rfl, trivial⟩, h⟩
          · intro K' hK15
            refine FW.wreg ?_; intro K' hK23
            refine FW.lfun (y := .lit (.int .i64 v8)) hk rfl rfl rfl rfl (FW.f_move hk (FW.holds_nil _) rfl) ?_; clear hk; intro a w hk
            refine FW.lfun (y := .lit (.bool (decide (63 < v8)))) hk rfl rfl rfl rfl ((FW.f_pure (FW.p_gtr hk.kn (FW.holds_nil _) rfl rfl))) ?_; clear hk; intro a w hk
            refine FW.lend (hK23 _ _ ?_); clear hK23 K'
            refine FW.wcondF (b := (decide (63 < v8))) hk h rfl (fun h hb => ?_) (fun h hb => ?_)
            · skip
              refine FW.wreg1 ?_
              refine FW.lfun (y := .lit (.int .i64 63)) hk rfl rfl rfl rfl (FW.f_assign hk (FW.holds_nil _) rfl) ?_; clear hk; intro a w hk
              refine wpList_nil ?_
              (repeat first | refine FW.then_normal ?_ | refine FW.block_normal ?_); exact hK15 _ _ ⟨v1, v7, v8, 63, hk.sub ⟨rfl, rfl, rfl, rfl, rfl, rfl, trivial⟩, h⟩
            · skip
              refine wp_skip ?_
              (repeat first | refine FW.then_normal ?_ | refine FW.block_normal ?_); exact hK15 _ _ ⟨v1, v7, v8, v8, hk.sub ⟨rfl, rfl, rfl, rfl, rfl, rfl, trivial⟩, h⟩
        · skip
          refine wp_exit ?_; (repeat first | refine FW.then_exit ?_ | refine FW.block_exit_ne rfl ?_); refine FW.block_exit ?_
          (repeat first | refine FW.then_normal ?_ | refine FW.block_normal ?_); refine hK8 _ _ ?_
          refine FW.wreg ?_; intro K' hK25
          refine FW.lfun (y := .lit (.pointer (some ⟨bx1, 1, none⟩))) hk rfl rfl rfl rfl (FW.f_fieldPtr hk (FW.holds_nil _) rfl Go.Proofs.Try.underlying65 rfl (by kernel_rfl) rfl) ?_; clear hk; intro a w hk
          refine FW.l_storeV (u := .row (r_Offshootref03Loose_cells [])) (I' := [FW.blk bx2 65 ((Offshootref03Dev.cells (⟨[], [], 0, [], false⟩ : Offshootref03Dev))), FW.blk bx1 65 ((Offshootref03Dev.cells (⟨y1.Sure, [], y1.Steps, y1.Falls, y1.Off⟩ : Offshootref03Dev)))]) (cs' := (Offshootref03Dev.cells (⟨y1.Sure, [], y1.Steps, y1.Falls, y1.Off⟩ : Offshootref03Dev))) (j := 1) hk rfl rfl (FW.rep_nilc hk rfl) rfl rfl (by kernel_rfl) rfl rfl ?_; clear hk; intro w hk
          refine FW.lfun (y := .lit (.pointer (some ⟨bx1, 4, none⟩))) hk rfl rfl rfl rfl (FW.f_fieldPtr hk (FW.holds_nil _) rfl Go.Proofs.Try.underlying65 rfl (by kernel_rfl) rfl) ?_; clear hk; intro a w hk
          refine FW.l_store (I' := [FW.blk bx2 65 ((Offshootref03Dev.cells (⟨[], [], 0, [], false⟩ : Offshootref03Dev))), FW.blk bx1 65 ((Offshootref03Dev.cells (⟨y1.Sure, [], y1.Steps, y1.Falls, true⟩ : Offshootref03Dev)))]) (cs' := (Offshootref03Dev.cells (⟨y1.Sure, [], y1.Steps, y1.Falls, true⟩ : Offshootref03Dev))) (j := 1) hk rfl rfl rfl rfl rfl (by kernel_rfl) rfl rfl ?_; clear hk; intro w hk
          refine FW.lend (hK25 _ _ ?_); clear hK25 K'
          refine FW.wreg ?_; intro K' hK26
          refine FW.lfun (y := .agg ((Offshootref03Dev.cells (⟨y1.Sure, [], y1.Steps, y1.Falls, true⟩ : Offshootref03Dev)))) hk rfl rfl rfl rfl (FW.f_loadBlk hk (FW.holds_nil _) (j := 1) rfl rfl Go.Proofs.Try.underlying65 rfl rfl rfl rfl) ?_; clear hk; intro a w hk
          refine FW.l_store (I' := [FW.blk bx2 65 ((Offshootref03Dev.cells (⟨y1.Sure, [], y1.Steps, y1.Falls, true⟩ : Offshootref03Dev))), FW.blk bx1 65 ((Offshootref03Dev.cells (⟨y1.Sure, [], y1.Steps, y1.Falls, true⟩ : Offshootref03Dev)))]) (cs' := (Offshootref03Dev.cells (⟨y1.Sure, [], y1.Steps, y1.Falls, true⟩ : Offshootref03Dev))) (j := 0) hk rfl rfl rfl rfl rfl (by kernel_rfl) rfl rfl ?_; clear hk; intro w hk
          refine FW.lend (hK26 _ _ ?_); clear hK26 K'
          refine wp_ret ?_
          (repeat first | refine FW.then_ret ?_ | refine FW.block_ret ?_)
          obtain rfl := Option.some.inj h
          exact FW.fretR1 hk rfl (FW.rcell hk rfl (j := 0) rfl Go.Proofs.Try.underlying65 rfl (by kernel_rfl))
      · intro K' hK7
        refine FW.wreg ?_; intro K' hK27
        refine FW.lfun (y := .lit (.int .i64 v7)) hk rfl rfl rfl rfl (FW.f_move hk (FW.holds_nil _) rfl) ?_; clear hk; intro a w hk
        refine FW.lfun (y := .lit (.bool (decide (128 < v7)))) hk rfl rfl rfl rfl ((FW.f_pure (FW.p_gtr hk.kn (FW.holds_nil _) rfl rfl))) ?_; clear hk; intro a w hk
        refine FW.lend (hK27 _ _ ?_); clear hK27 K'
        refine FW.wcondF (b := (decide (128 < v7))) hk h rfl (fun h hb => ?_) (fun h hb => ?_)
        · skip
          refine FW.wreg1 ?_
          refine FW.lfun (y := .lit (.int .i64 128)) hk rfl rfl rfl rfl (FW.f_assign hk (FW.holds_nil _) rfl) ?_; clear hk; intro a w hk
          refine wpList_nil ?_
          (repeat first | refine FW.then_normal ?_ | refine FW.block_normal ?_); exact hK7 _ _ ⟨v1, 128, hk.sub ⟨rfl, rfl, rfl, rfl, trivial⟩, h⟩
        · skip
          refine wp_skip ?_
          (repeat first | refine FW.then_normal ?_ | refine FW.block_normal ?_); exact hK7 _ _ ⟨v1, v7, hk.sub ⟨rfl, rfl, rfl, rfl, trivial⟩, h⟩
    · intro K' hK6
      refine FW.wreg ?_; intro K' hK29
      refine FW.lfun (y := .lit (.int .i64 v2)) hk rfl rfl rfl rfl (FW.f_move hk (FW.holds_nil _) rfl) ?_; clear hk; intro a w hk
      refine FW.lfun (y := .lit (.bool (decide (v2 < 0)))) hk rfl rfl rfl rfl ((FW.f_pure (FW.p_lss hk.kn (FW.holds_nil _) rfl rfl))) ?_; clear hk; intro a w hk
      refine FW.lend (hK29 _ _ ?_); clear hK29 K'
      refine FW.wcondF (b := (decide (v2 < 0))) hk h rfl (fun h hb => ?_) (fun h hb => ?_)
      · skip
        refine FW.wreg1 ?_
        refine FW.lfun (y := .lit (.int .i64 0)) hk rfl rfl rfl rfl (FW.f_assign hk (FW.holds_nil _) rfl) ?_; clear hk; intro a w hk
        refine wpList_nil ?_
        (repeat first | refine FW.then_normal ?_ | refine FW.block_normal ?_); exact hK6 _ _ ⟨v0, v1, 0, hk.sub ⟨rfl, rfl, rfl, rfl, trivial⟩, h⟩
      · skip
        refine wp_skip ?_
        (repeat first | refine FW.then_normal ?_ | refine FW.block_normal ?_); exact hK6 _ _ ⟨v0, v1, v2, hk.sub ⟨rfl, rfl, rfl, rfl, trivial⟩, h⟩

theorem offshootref03_Dev_step.ok (K : Nat) (v0 : Offshootref03Dev) (r : Offshootref03Dev × Int) (h : offshootref03_Dev_step.f K v0 = some r) :
    FW.Ok Go.Proofs.Try.prog 93 [.agg (Offshootref03Dev.cells v0)] (.tup [.agg (Offshootref03Dev.cells r.1), .lit (.int .i64 r.2)]) := by
  refine FW.enter (xs := [.agg (Offshootref03Dev.cells v0)]) Go.Proofs.Try.func93 rfl Go.Proofs.Try.ntmps93 rfl ?_
  intro M w0 a hk
  unfold offshootref03_Dev_step.f at h
  refine FW.wreg ?_; intro K' hK1
  refine FW.l_box (cs := (Offshootref03Dev.cells v0)) hk rfl rfl rfl rfl rfl ?_; clear hk; intro bx1 a w hk
  refine FW.l_alloc (zs := (Offshootref03Dev.cells (⟨[], [], 0, [], false⟩ : Offshootref03Dev))) [] hk rfl rfl rfl rfl ?_; clear hk; intro bx2 a w hk
  refine FW.lfun (y := .lit (.int .i64 0)) hk rfl rfl rfl rfl (FW.f_assign hk (FW.holds_nil _) rfl) ?_; clear hk; intro a w hk
  refine FW.lend (hK1 _ _ ?_); clear hK1 K'
  refine FW.wseq ?_; intro K' hK2
  refine FW.wreg ?_; intro K' hK3
  refine FW.lfun (y := .lit (.int .i64 0)) hk rfl rfl rfl rfl (FW.f_assign hk (FW.holds_nil _) rfl) ?_; clear hk; intro a w hk
  refine FW.lend (hK3 _ _ ?_); clear hK3 K'
  refine wp_block ?_
  refine FW.wloop (T := Nat × Offshootref03Dev × Int) (fun x a w => match x with | (kl1, y1, v4) => FW.S M w0 a w 47 [FW.blk bx2 65 ((Offshootref03Dev.cells (⟨[], [], 0, [], false⟩ : Offshootref03Dev))), FW.blk bx1 65 ((Offshootref03Dev.cells y1))] [(1, [], .lit (.pointer (some ⟨bx1, 0, none⟩))), (2, [], .lit (.pointer (some ⟨bx2, 0, none⟩))), (4, [], .lit (.int .i64 v4))] ∧ offshootref03_Dev_step.l1 K kl1 y1 v4 = some r) (fun x => x.1) (K, v0, 0) ⟨hk.sub ⟨rfl, rfl, rfl, trivial⟩, h⟩ ?_
  clear hk h
  rintro ⟨kl1, y1, v4⟩ a w ⟨hk, h⟩ K' hK4
  cases kl1 with
  | zero => simp [offshootref03_Dev_step.l1] at h
  | succ kl1 =>
  rw [offshootref03_Dev_step.l1.eq_2] at h
  refine FW.wseq ?_; intro K' hK5
  refine FW.wreg ?_; intro K' hK6
  refine FW.lfun (y := .lit (.int .i64 v4)) hk rfl rfl rfl rfl (FW.f_move hk (FW.holds_nil _) rfl) ?_; clear hk; intro a w hk
  refine FW.lfun (y := .lit (.pointer (some ⟨bx1, 3, none⟩))) hk rfl rfl rfl rfl (FW.f_fieldPtr hk (FW.holds_nil _) rfl Go.Proofs.Try.underlying65 rfl (by kernel_rfl) rfl) ?_; clear hk; intro a w hk
  refine FW.lfun (y := .row (r_ApiFall_cells y1.Falls)) hk rfl rfl rfl rfl (FW.f_loadBlk1 hk (FW.holds_nil _) (j := 1) rfl rfl Go.Proofs.Try.underlying63 rfl rfl) ?_; clear hk; intro a w hk
  refine FW.lfun (y := .lit (.int .i64 (List.length y1.Falls : Int))) hk rfl rfl rfl rfl (FW.f_len (R := r_ApiFall_cells) (f := ApiFall.cells) (l := y1.Falls) r_ApiFall_cells_eq Go.Proofs.Try.underlying63 hk (FW.holds_nil _) rfl) ?_; clear hk; intro a w hk
  refine FW.lfun (y := .lit (.bool (decide (v4 < (List.length y1.Falls : Int))))) hk rfl rfl rfl rfl ((FW.f_pure (FW.p_lss hk.kn (FW.holds_nil _) rfl rfl))) ?_; clear hk; intro a w hk
  refine FW.lend (hK6 _ _ ?_); clear hK6 K'
  refine FW.wcondF (b := (decide (v4 < (List.length y1.Falls : Int)))) hk h rfl (fun h hb => ?_) (fun h hb => ?_)
  · skip
    refine wp_skip ?_
    (repeat first | refine FW.then_normal ?_ | refine FW.block_normal ?_); refine hK5 _ _ ?_
    refine FW.wseq ?_; intro K' hK7
    refine wp_block ?_
    refine FW.wreg ?_; intro K' hK8
    refine FW.lfun (y := .lit (.pointer (some ⟨bx1, 3, none⟩))) hk rfl rfl rfl rfl (FW.f_fieldPtr hk (FW.holds_nil _) rfl Go.Proofs.Try.underlying65 rfl (by kernel_rfl) rfl) ?_; clear hk; intro a w hk
    refine FW.lfun (y := .row (r_ApiFall_cells y1.Falls)) hk rfl rfl rfl rfl (FW.f_loadBlk1 hk (FW.holds_nil _) (j := 1) rfl rfl Go.Proofs.Try.underlying63 rfl rfl) ?_; clear hk; intro a w hk
    refine FW.lfun (y := .lit (.int .i64 v4)) hk rfl rfl rfl rfl (FW.f_move hk (FW.holds_nil _) rfl) ?_; clear hk; intro a w hk
    obtain ⟨hc1, h⟩ := FW.chk h
    refine FW.lfun (y := .ref (ApiFall.cells (List.getD y1.Falls (Int.toNat v4) default))) hk rfl rfl rfl rfl (FW.f_indexAddr (R := r_ApiFall_cells) (f := ApiFall.cells) (l := y1.Falls) (sz := 3) r_ApiFall_cells_eq (fun _ => rfl) hk (FW.holds_nil _) rfl rfl Go.Proofs.Try.underlying63 (by kernel_rfl) hc1) ?_; clear hk; intro a w hk
    refine FW.lfun (y := .agg ((ApiFall.cells (List.getD y1.Falls (Int.toNat v4) default)))) hk rfl rfl rfl rfl (FW.f_load hk (FW.holds_nil _) rfl Go.Proofs.Try.underlying119 rfl rfl rfl rfl) ?_; clear hk; intro a w hk
    refine FW.l_alloc (zs := (ApiFall.cells (⟨0, 0, 0⟩ : ApiFall))) [] hk rfl rfl rfl rfl ?_; clear hk; intro bx3 a w hk
    refine FW.l_store (I' := [FW.blk bx3 119 ((ApiFall.cells (List.getD y1.Falls (Int.toNat v4) default))), FW.blk bx2 65 ((Offshootref03Dev.cells (⟨[], [], 0, [], false⟩ : Offshootref03Dev))), FW.blk bx1 65 ((Offshootref03Dev.cells y1))]) (cs' := (ApiFall.cells (List.getD y1.Falls (Int.toNat v4) default))) (j := 0) hk rfl rfl rfl rfl rfl (by kernel_rfl) rfl rfl ?_; clear hk; intro w hk
    refine FW.lend (hK8 _ _ ?_); clear hK8 K'
    refine FW.wreg ?_; intro K' hK9
    refine FW.lfun (y := .lit (.pointer (some ⟨bx3, 0, none⟩))) hk rfl rfl rfl rfl (FW.f_fieldPtr hk (FW.holds_nil _) rfl Go.Proofs.Try.underlying119 rfl (by kernel_rfl) rfl) ?_; clear hk; intro a w hk
    refine FW.lfun (y := .lit (.int .i64 ((List.getD y1.Falls (Int.toNat v4) default).At))) hk rfl rfl rfl rfl (FW.f_loadBlk1 hk (FW.holds_nil _) (j := 0) rfl rfl Go.Proofs.Try.underlying3 rfl rfl) ?_; clear hk; intro a w hk
    refine FW.lfun (y := .lit (.pointer (some ⟨bx1, 2, none⟩))) hk rfl rfl rfl rfl (FW.f_fieldPtr hk (FW.holds_nil _) rfl Go.Proofs.Try.underlying65 rfl (by kernel_rfl) rfl) ?_; clear hk; intro a w hk
    refine FW.lfun (y := .lit (.int .i64 y1.Steps)) hk rfl rfl rfl rfl (FW.f_loadBlk1 hk (FW.holds_nil _) (j := 2) rfl rfl Go.Proofs.Try.underlying3 rfl rfl) ?_; clear hk; intro a w hk
    refine FW.lfun (y := .lit (.bool (decide (((List.getD y1.Falls (Int.toNat v4) default).At) = y1.Steps)))) hk rfl rfl rfl rfl ((FW.f_pure (FW.p_eql hk.kn (FW.holds_nil _) rfl rfl))) ?_; clear hk; intro a w hk
    refine FW.lend (hK9 _ _ ?_); clear hK9 K'
    refine FW.wcondF (b := (decide (((List.getD y1.Falls (Int.toNat v4) default).At) = y1.Steps))) hk h rfl (fun h hb => ?_) (fun h hb => ?_)
    · skip
      obtain ⟨hc2, h⟩ := FW.chk h
      obtain ⟨hc3, h⟩ := FW.chk h
      obtain ⟨hc4, h⟩ := FW.chk h
      obtain ⟨hc5, h⟩ := FW.chk h
      refine FW.wdrawE (.next [false, true, true, true, true, false, true, true, true, true, true, false, false, false] 0 [false, true, true, true, true, false, true, true, true, true, true, false, false, false] (.next [false, true, true, true, true, false, true, true, true, true, true, false, false, false] 5 [true, true, true, true, true, false, true, true, true, true, true, false, false, false] (.next [false, false, false, false, false, false, true, true, true, true, true, false, false, false] 11 [true, true, true, true, true, true, true, true, true, true, true, false, false, false] (.next [false, false, false, false, false, false, false, false, false, false, false, false, true, false] 13 [true, true, true, true, true, true, true, true, true, true, true, true, true, false] (.leaf [false, false, false, false, false, false, false, false, false, false, false, false, false, false]))))) [(23, [], .agg []), (24, [], .lit (.pointer (some ⟨bx1, 3, none⟩))), (25, [], .row (r_ApiFall_cells y1.Falls)), (26, [], .lit (.int .i64 v4)), (27, [], .row (r_ApiFall_cells (List.take (Int.toNat v4 - Int.toNat 0) (List.drop (Int.toNat 0) y1.Falls)))), (28, [], .agg []), (29, [], .lit (.pointer (some ⟨bx1, 3, none⟩))), (30, [], .row (r_ApiFall_cells y1.Falls)), (31, [], .lit (.int .i64 v4)), (32, [], .lit (.int .i64 (IntKind.wrap .i64 (v4 + 1)))), (33, [], .row (r_ApiFall_cells (List.take (Int.toNat (List.length y1.Falls : Int) - Int.toNat (IntKind.wrap .i64 (v4 + 1))) (List.drop (Int.toNat (IntKind.wrap .i64 (v4 + 1))) y1.Falls)))), (34, [], .agg []), (35, [], .agg []), (47, [], .lit undef)] (by kernel_rfl) (by kernel_rfl) (by kernel_rfl) (by kernel_rfl) hk ?_; clear hk
      refine FW.gnext ?_ rfl rfl rfl rfl rfl ?_
      · skip
        refine FW.gskip rfl rfl ?_
        refine FW.gfun (y := .lit (.pointer (some ⟨bx1, 3, none⟩))) rfl rfl rfl rfl (fun a w hk => FW.f_fieldPtr hk (FW.holds_nil _) rfl Go.Proofs.Try.underlying65 rfl (by kernel_rfl) rfl) ?_
        refine FW.gfun (y := .row (r_ApiFall_cells y1.Falls)) rfl rfl rfl rfl (fun a w hk => FW.f_loadBlk1 hk (FW.holds_nil _) (j := 2) rfl rfl Go.Proofs.Try.underlying63 rfl rfl) ?_
        refine FW.gfun (y := .lit (.int .i64 v4)) rfl rfl rfl rfl (fun a w hk => FW.f_move hk (FW.holds_nil _) rfl) ?_
        refine FW.gfun (y := .row (r_ApiFall_cells (List.take (Int.toNat v4 - Int.toNat 0) (List.drop (Int.toNat 0) y1.Falls)))) rfl rfl rfl rfl (fun a w hk => FW.f_part (R := r_ApiFall_cells) (f := ApiFall.cells) (l := y1.Falls) (sz := 3) r_ApiFall_cells_eq (fun _ => rfl) hk (FW.holds_nil _) rfl Go.Proofs.Try.underlying63 (by kernel_rfl) rfl rfl hc2) ?_
        refine FW.gskip rfl rfl ?_
        refine FW.gfun (y := .lit (.pointer (some ⟨bx1, 3, none⟩))) rfl rfl rfl rfl (fun a w hk => FW.f_fieldPtr hk (FW.holds_nil _) rfl Go.Proofs.Try.underlying65 rfl (by kernel_rfl) rfl) ?_
        refine FW.gfun (y := .row (r_ApiFall_cells y1.Falls)) rfl rfl rfl rfl (fun a w hk => FW.f_loadBlk1 hk (FW.holds_nil _) (j := 2) rfl rfl Go.Proofs.Try.underlying63 rfl rfl) ?_
        refine FW.gfun (y := .lit (.int .i64 v4)) rfl rfl rfl rfl (fun a w hk => FW.f_move hk (FW.holds_nil _) rfl) ?_
        refine FW.gfun (y := .lit (.int .i64 (IntKind.wrap .i64 (v4 + 1)))) rfl rfl rfl rfl (fun a w hk => (FW.f_pure (FW.p_add hk.kn (FW.holds_nil _) rfl rfl))) ?_
        refine FW.gfun (y := .row (r_ApiFall_cells (List.take (Int.toNat (List.length y1.Falls : Int) - Int.toNat (IntKind.wrap .i64 (v4 + 1))) (List.drop (Int.toNat (IntKind.wrap .i64 (v4 + 1))) y1.Falls)))) rfl rfl rfl rfl (fun a w hk => FW.f_part (R := r_ApiFall_cells) (f := ApiFall.cells) (l := y1.Falls) (sz := 3) r_ApiFall_cells_eq (fun _ => rfl) hk (FW.holds_nil _) rfl Go.Proofs.Try.underlying63 (by kernel_rfl) rfl rfl hc4) ?_
        refine FW.gskip rfl rfl ?_
        refine FW.gskip rfl rfl ?_
        refine FW.gskip0 rfl ?_
        exact FW.gend
      · skip
        intro σD a w opsD QD hk hf hQ hX
        refine FW.l_buildSlice0 (f := ApiFall.cells) hk rfl hf Go.Proofs.Try.underlying63 rfl (fun _ => rfl) ?_; clear hk; intro bx4 a w hk
        refine hQ _ _ a w ?_ hk; clear hk hQ hf hX
        refine ⟨[(23, [], .lit (.slice (some ⟨bx4, 0, none⟩) (List.length ([] : List ApiFall)) 0)), (24, [], .lit (.pointer (some ⟨bx1, 3, none⟩))), (25, [], .row (r_ApiFall_cells y1.Falls)), (26, [], .lit (.int .i64 v4)), (27, [], .row (r_ApiFall_cells (List.take (Int.toNat v4 - Int.toNat 0) (List.drop (Int.toNat 0) y1.Falls)))), (28, [], .agg []), (29, [], .lit (.pointer (some ⟨bx1, 3, none⟩))), (30, [], .row (r_ApiFall_cells y1.Falls)), (31, [], .lit (.int .i64 v4)), (32, [], .lit (.int .i64 (IntKind.wrap .i64 (v4 + 1)))), (33, [], .row (r_ApiFall_cells (List.take (Int.toNat (List.length y1.Falls : Int) - Int.toNat (IntKind.wrap .i64 (v4 + 1))) (List.drop (Int.toNat (IntKind.wrap .i64 (v4 + 1))) y1.Falls)))), (34, [], .agg []), (35, [], .agg []), (47, [], .lit undef)], And.intro rfl (And.intro rfl (And.intro rfl (And.intro rfl (And.intro rfl (And.intro rfl (And.intro rfl (And.intro rfl (And.intro rfl (trivial))))))))), rfl, ?_⟩
        refine FW.gnext ?_ rfl rfl rfl rfl rfl ?_
        · skip
          refine FW.gskip rfl rfl ?_
          refine FW.gfun (y := .lit (.pointer (some ⟨bx1, 3, none⟩))) rfl rfl rfl rfl (fun a w hk => FW.f_fieldPtr hk (FW.holds_nil _) rfl Go.Proofs.Try.underlying65 rfl (by kernel_rfl) rfl) ?_
          refine FW.gfun (y := .row (r_ApiFall_cells y1.Falls)) rfl rfl rfl rfl (fun a w hk => FW.f_loadBlk1 hk (FW.holds_nil _) (j := 3) rfl rfl Go.Proofs.Try.underlying63 rfl rfl) ?_
          refine FW.gfun (y := .lit (.int .i64 v4)) rfl rfl rfl rfl (fun a w hk => FW.f_move hk (FW.holds_nil _) rfl) ?_
          refine FW.gfun (y := .row (r_ApiFall_cells (List.take (Int.toNat v4 - Int.toNat 0) (List.drop (Int.toNat 0) y1.Falls)))) rfl rfl rfl rfl (fun a w hk => FW.f_part (R := r_ApiFall_cells) (f := ApiFall.cells) (l := y1.Falls) (sz := 3) r_ApiFall_cells_eq (fun _ => rfl) hk (FW.holds_nil _) rfl Go.Proofs.Try.underlying63 (by kernel_rfl) rfl rfl hc2) ?_
          refine FW.gskip rfl rfl ?_
          refine FW.gfun (y := .lit (.pointer (some ⟨bx1, 3, none⟩))) rfl rfl rfl rfl (fun a w hk => FW.f_fieldPtr hk (FW.holds_nil _) rfl Go.Proofs.Try.underlying65 rfl (by kernel_rfl) rfl) ?_
          refine FW.gfun (y := .row (r_ApiFall_cells y1.Falls)) rfl rfl rfl rfl (fun a w hk => FW.f_loadBlk1 hk (FW.holds_nil _) (j := 3) rfl rfl Go.Proofs.Try.underlying63 rfl rfl) ?_
          refine FW.gfun (y := .lit (.int .i64 v4)) rfl rfl rfl rfl (fun a w hk => FW.f_move hk (FW.holds_nil _) rfl) ?_
          refine FW.gfun (y := .lit (.int .i64 (IntKind.wrap .i64 (v4 + 1)))) rfl rfl rfl rfl (fun a w hk => (FW.f_pure (FW.p_add hk.kn (FW.holds_nil _) rfl rfl))) ?_
          refine FW.gfun (y := .row (r_ApiFall_cells (List.take (Int.toNat (List.length y1.Falls : Int) - Int.toNat (IntKind.wrap .i64 (v4 + 1))) (List.drop (Int.toNat (IntKind.wrap .i64 (v4 + 1))) y1.Falls)))) rfl rfl rfl rfl (fun a w hk => FW.f_part (R := r_ApiFall_cells) (f := ApiFall.cells) (l := y1.Falls) (sz := 3) r_ApiFall_cells_eq (fun _ => rfl) hk (FW.holds_nil _) rfl Go.Proofs.Try.underlying63 (by kernel_rfl) rfl rfl hc4) ?_
          refine FW.gskip rfl rfl ?_
          refine FW.gskip rfl rfl ?_
          refine FW.gskip0 rfl ?_
          exact FW.gend
        · skip
          intro σD a w opsD QD hk hf hQ hX
          refine FW.l_append (l2 := (List.take (Int.toNat v4 - Int.toNat 0) (List.drop (Int.toNat 0) y1.Falls))) (l3 := (([] : List ApiFall) ++ (List.take (Int.toNat v4 - Int.toNat 0) (List.drop (Int.toNat 0) y1.Falls)))) (I' := fun ad1 cap1 => [FW.orow ad1 cap1 119 3 ApiFall.cells (([] : List ApiFall) ++ (List.take (Int.toNat v4 - Int.toNat 0) (List.drop (Int.toNat 0) y1.Falls))), FW.blk bx3 119 ((ApiFall.cells (List.getD y1.Falls (Int.toNat v4) default))), FW.blk bx2 65 ((Offshootref03Dev.cells (⟨[], [], 0, [], false⟩ : Offshootref03Dev))), FW.blk bx1 65 ((Offshootref03Dev.cells y1))]) (j := 0) hk rfl rfl hf rfl (FW.imm_src (sz := 3) hk r_ApiFall_cells_eq rfl (fun _ => rfl) (fun _ => rfl) Go.Proofs.Try.underlying63) Go.Proofs.Try.underlying63 (by kernel_rfl) hc3 rfl (fun _ _ => rfl) ?_; clear hk; intro ad1 cap1 a w hk
          refine hQ _ _ a w ?_ hk; clear hk hQ hf hX
          refine ⟨[(23, [], .lit (.slice (some ⟨bx4, 0, none⟩) (List.length ([] : List ApiFall)) 0)), (24, [], .lit (.pointer (some ⟨bx1, 3, none⟩))), (25, [], .row (r_ApiFall_cells y1.Falls)), (26, [], .lit (.int .i64 v4)), (27, [], .row (r_ApiFall_cells (List.take (Int.toNat v4 - Int.toNat 0) (List.drop (Int.toNat 0) y1.Falls)))), (28, [], .lit (.slice ad1 (List.length (([] : List ApiFall) ++ (List.take (Int.toNat v4 - Int.toNat 0) (List.drop (Int.toNat 0) y1.Falls)))) cap1)), (29, [], .lit (.pointer (some ⟨bx1, 3, none⟩))), (30, [], .row (r_ApiFall_cells y1.Falls)), (31, [], .lit (.int .i64 v4)), (32, [], .lit (.int .i64 (IntKind.wrap .i64 (v4 + 1)))), (33, [], .row (r_ApiFall_cells (List.take (Int.toNat (List.length y1.Falls : Int) - Int.toNat (IntKind.wrap .i64 (v4 + 1))) (List.drop (Int.toNat (IntKind.wrap .i64 (v4 + 1))) y1.Falls)))), (34, [], .agg []), (35, [], .agg []), (47, [], .lit undef)], And.intro rfl (And.intro rfl (And.intro rfl (And.intro rfl (And.intro rfl (And.intro rfl (And.intro rfl (And.intro rfl (And.intro rfl (And.intro rfl (trivial)))))))))), rfl, ?_⟩
          refine FW.gnext ?_ rfl rfl rfl rfl rfl ?_
          · skip
            refine FW.gskip rfl rfl ?_
            refine FW.gskip rfl rfl ?_
            refine FW.gskip rfl rfl ?_
            refine FW.gskip rfl rfl ?_
            refine FW.gskip rfl rfl ?_
            refine FW.gskip rfl rfl ?_
            refine FW.gfun (y := .lit (.pointer (some ⟨bx1, 3, none⟩))) rfl rfl rfl rfl (fun a w hk => FW.f_fieldPtr hk (FW.holds_nil _) rfl Go.Proofs.Try.underlying65 rfl (by kernel_rfl) rfl) ?_
            refine FW.gfun (y := .row (r_ApiFall_cells y1.Falls)) rfl rfl rfl rfl (fun a w hk => FW.f_loadBlk1 hk (FW.holds_nil _) (j := 3) rfl rfl Go.Proofs.Try.underlying63 rfl rfl) ?_
            refine FW.gfun (y := .lit (.int .i64 v4)) rfl rfl rfl rfl (fun a w hk => FW.f_move hk (FW.holds_nil _) rfl) ?_
            refine FW.gfun (y := .lit (.int .i64 (IntKind.wrap .i64 (v4 + 1)))) rfl rfl rfl rfl (fun a w hk => (FW.f_pure (FW.p_add hk.kn (FW.holds_nil _) rfl rfl))) ?_
            refine FW.gfun (y := .row (r_ApiFall_cells (List.take (Int.toNat (List.length y1.Falls : Int) - Int.toNat (IntKind.wrap .i64 (v4 + 1))) (List.drop (Int.toNat (IntKind.wrap .i64 (v4 + 1))) y1.Falls)))) rfl rfl rfl rfl (fun a w hk => FW.f_part (R := r_ApiFall_cells) (f := ApiFall.cells) (l := y1.Falls) (sz := 3) r_ApiFall_cells_eq (fun _ => rfl) hk (FW.holds_nil _) rfl Go.Proofs.Try.underlying63 (by kernel_rfl) rfl rfl hc4) ?_
            refine FW.gskip rfl rfl ?_
            refine FW.gskip rfl rfl ?_
            refine FW.gskip0 rfl ?_
            exact FW.gend
          · skip
            intro σD a w opsD QD hk hf hQ hX
            refine FW.l_append (l2 := (List.take (Int.toNat (List.length y1.Falls : Int) - Int.toNat (IntKind.wrap .i64 (v4 + 1))) (List.drop (Int.toNat (IntKind.wrap .i64 (v4 + 1))) y1.Falls))) (l3 := ((([] : List ApiFall) ++ (List.take (Int.toNat v4 - Int.toNat 0) (List.drop (Int.toNat 0) y1.Falls))) ++ (List.take (Int.toNat (List.length y1.Falls : Int) - Int.toNat (IntKind.wrap .i64 (v4 + 1))) (List.drop (Int.toNat (IntKind.wrap .i64 (v4 + 1))) y1.Falls)))) (I' := fun ad2 cap2 => [FW.orow ad2 cap2 119 3 ApiFall.cells ((([] : List ApiFall) ++ (List.take (Int.toNat v4 - Int.toNat 0) (List.drop (Int.toNat 0) y1.Falls))) ++ (List.take (Int.toNat (List.length y1.Falls : Int) - Int.toNat (IntKind.wrap .i64 (v4 + 1))) (List.drop (Int.toNat (IntKind.wrap .i64 (v4 + 1))) y1.Falls))), FW.blk bx3 119 ((ApiFall.cells (List.getD y1.Falls (Int.toNat v4) default))), FW.blk bx2 65 ((Offshootref03Dev.cells (⟨[], [], 0, [], false⟩ : Offshootref03Dev))), FW.blk bx1 65 ((Offshootref03Dev.cells y1))]) (j := 0) hk rfl rfl hf rfl (FW.imm_src (sz := 3) hk r_ApiFall_cells_eq rfl (fun _ => rfl) (fun _ => rfl) Go.Proofs.Try.underlying63) Go.Proofs.Try.underlying63 (by kernel_rfl) hc5 rfl (fun _ _ => rfl) ?_; clear hk; intro ad2 cap2 a w hk
            replace hk := (FW.S.freezeR (I' := [FW.blk bx3 119 ((ApiFall.cells (List.getD y1.Falls (Int.toNat v4) default))), FW.blk bx2 65 ((Offshootref03Dev.cells (⟨[], [], 0, [], false⟩ : Offshootref03Dev))), FW.blk bx1 65 ((Offshootref03Dev.cells y1))]) r_ApiFall_cells_eq hk (j := 0) rfl (t := 34) rfl rfl).squash
            refine hQ _ _ a w ?_ hk; clear hk hQ hf hX
            refine ⟨[(23, [], .lit (.slice (some ⟨bx4, 0, none⟩) (List.length ([] : List ApiFall)) 0)), (24, [], .lit (.pointer (some ⟨bx1, 3, none⟩))), (25, [], .row (r_ApiFall_cells y1.Falls)), (26, [], .lit (.int .i64 v4)), (27, [], .row (r_ApiFall_cells (List.take (Int.toNat v4 - Int.toNat 0) (List.drop (Int.toNat 0) y1.Falls)))), (28, [], .lit (.slice ad1 (List.length (([] : List ApiFall) ++ (List.take (Int.toNat v4 - Int.toNat 0) (List.drop (Int.toNat 0) y1.Falls)))) cap1)), (29, [], .lit (.pointer (some ⟨bx1, 3, none⟩))), (30, [], .row (r_ApiFall_cells y1.Falls)), (31, [], .lit (.int .i64 v4)), (32, [], .lit (.int .i64 (IntKind.wrap .i64 (v4 + 1)))), (33, [], .row (r_ApiFall_cells (List.take (Int.toNat (List.length y1.Falls : Int) - Int.toNat (IntKind.wrap .i64 (v4 + 1))) (List.drop (Int.toNat (IntKind.wrap .i64 (v4 + 1))) y1.Falls)))), (34, [], .row (r_ApiFall_cells ((([] : List ApiFall) ++ (List.take (Int.toNat v4 - Int.toNat 0) (List.drop (Int.toNat 0) y1.Falls))) ++ (List.take (Int.toNat (List.length y1.Falls : Int) - Int.toNat (IntKind.wrap .i64 (v4 + 1))) (List.drop (Int.toNat (IntKind.wrap .i64 (v4 + 1))) y1.Falls))))), (35, [], .lit (.pointer (some ⟨bx1, 3, none⟩))), (47, [], .lit undef)], And.intro rfl (And.intro rfl (And.intro rfl (And.intro rfl (And.intro rfl (And.intro rfl (And.intro rfl (And.intro rfl (And.intro rfl (And.intro rfl (And.intro rfl (trivial))))))))))), rfl, ?_⟩
            refine FW.gnext0 ?_ rfl rfl rfl ?_
            · skip
              refine FW.gskip rfl rfl ?_
              refine FW.gskip rfl rfl ?_
              refine FW.gskip rfl rfl ?_
              refine FW.gskip rfl rfl ?_
              refine FW.gskip rfl rfl ?_
              refine FW.gskip rfl rfl ?_
              refine FW.gskip rfl rfl ?_
              refine FW.gskip rfl rfl ?_
              refine FW.gskip rfl rfl ?_
              refine FW.gskip rfl rfl ?_
              refine FW.gskip rfl rfl ?_
              refine FW.gskip rfl rfl ?_
              refine FW.gfun (y := .lit (.pointer (some ⟨bx1, 3, none⟩))) rfl rfl rfl rfl (fun a w hk => FW.f_fieldPtr hk (FW.holds_nil _) rfl Go.Proofs.Try.underlying65 rfl (by kernel_rfl) rfl) ?_
              refine FW.gskip0 rfl ?_
              exact FW.gend
            · skip
              intro σD a w opsD QD hk hQ hX
              refine FW.l_store (I' := [FW.blk bx3 119 ((ApiFall.cells (List.getD y1.Falls (Int.toNat v4) default))), FW.blk bx2 65 ((Offshootref03Dev.cells (⟨[], [], 0, [], false⟩ : Offshootref03Dev))), FW.blk bx1 65 ((Offshootref03Dev.cells (⟨y1.Sure, y1.Loose, y1.Steps, ((([] : List ApiFall) ++ (List.take (Int.toNat v4 - Int.toNat 0) (List.drop (Int.toNat 0) y1.Falls))) ++ (List.take (Int.toNat (List.length y1.Falls : Int) - Int.toNat (IntKind.wrap .i64 (v4 + 1))) (List.drop (Int.toNat (IntKind.wrap .i64 (v4 + 1))) y1.Falls))), y1.Off⟩ : Offshootref03Dev)))]) (cs' := (Offshootref03Dev.cells (⟨y1.Sure, y1.Loose, y1.Steps, ((([] : List ApiFall) ++ (List.take (Int.toNat v4 - Int.toNat 0) (List.drop (Int.toNat 0) y1.Falls))) ++ (List.take (Int.toNat (List.length y1.Falls : Int) - Int.toNat (IntKind.wrap .i64 (v4 + 1))) (List.drop (Int.toNat (IntKind.wrap .i64 (v4 + 1))) y1.Falls))), y1.Off⟩ : Offshootref03Dev))) (j := 2) hk rfl rfl rfl rfl rfl (by kernel_rfl) rfl rfl ?_; clear hk; intro w hk
              refine hQ _ a w ?_ hk; clear hk hQ hX
              refine ⟨[(23, [], .lit (.slice (some ⟨bx4, 0, none⟩) (List.length ([] : List ApiFall)) 0)), (24, [], .lit (.pointer (some ⟨bx1, 3, none⟩))), (25, [], .row (r_ApiFall_cells y1.Falls)), (26, [], .lit (.int .i64 v4)), (27, [], .row (r_ApiFall_cells (List.take (Int.toNat v4 - Int.toNat 0) (List.drop (Int.toNat 0) y1.Falls)))), (28, [], .lit (.slice ad1 (List.length (([] : List ApiFall) ++ (List.take (Int.toNat v4 - Int.toNat 0) (List.drop (Int.toNat 0) y1.Falls)))) cap1)), (29, [], .lit (.pointer (some ⟨bx1, 3, none⟩))), (30, [], .row (r_ApiFall_cells y1.Falls)), (31, [], .lit (.int .i64 v4)), (32, [], .lit (.int .i64 (IntKind.wrap .i64 (v4 + 1)))), (33, [], .row (r_ApiFall_cells (List.take (Int.toNat (List.length y1.Falls : Int) - Int.toNat (IntKind.wrap .i64 (v4 + 1))) (List.drop (Int.toNat (IntKind.wrap .i64 (v4 + 1))) y1.Falls)))), (34, [], .row (r_ApiFall_cells ((([] : List ApiFall) ++ (List.take (Int.toNat v4 - Int.toNat 0) (List.drop (Int.toNat 0) y1.Falls))) ++ (List.take (Int.toNat (List.length y1.Falls : Int) - Int.toNat (IntKind.wrap .i64 (v4 + 1))) (List.drop (Int.toNat (IntKind.wrap .i64 (v4 + 1))) y1.Falls))))), (35, [], .lit (.pointer (some ⟨bx1, 3, none⟩))), (47, [], .lit undef)], And.intro rfl (And.intro rfl (And.intro rfl (And.intro rfl (And.intro rfl (And.intro rfl (And.intro rfl (And.intro rfl (And.intro rfl (And.intro rfl (And.intro rfl (And.intro rfl (And.intro rfl (trivial))))))))))))), rfl, ?_⟩
              refine FW.glast ?_ ?_
              · skip
                refine FW.gskip rfl rfl ?_
                refine FW.gskip rfl rfl ?_
                refine FW.gskip rfl rfl ?_
                refine FW.gskip rfl rfl ?_
                refine FW.gskip rfl rfl ?_
                refine FW.gskip rfl rfl ?_
                refine FW.gskip rfl rfl ?_
                refine FW.gskip rfl rfl ?_
                refine FW.gskip rfl rfl ?_
                refine FW.gskip rfl rfl ?_
                refine FW.gskip rfl rfl ?_
                refine FW.gskip rfl rfl ?_
                refine FW.gskip rfl rfl ?_
                refine FW.gskip0 rfl ?_
                exact FW.gend
              · skip
                intro a w hk; simp only [FW.stD, cond_true] at hk
                refine FW.wreg ?_; intro K' hK11
                refine FW.lfun (y := .agg ((Offshootref03Dev.cells (⟨y1.Sure, y1.Loose, y1.Steps, ((([] : List ApiFall) ++ (List.take (Int.toNat v4 - Int.toNat 0) (List.drop (Int.toNat 0) y1.Falls))) ++ (List.take (Int.toNat (List.length y1.Falls : Int) - Int.toNat (IntKind.wrap .i64 (v4 + 1))) (List.drop (Int.toNat (IntKind.wrap .i64 (v4 + 1))) y1.Falls))), y1.Off⟩ : Offshootref03Dev)))) hk rfl rfl rfl rfl (FW.f_loadBlk hk (FW.holds_nil _) (j := 2) rfl rfl Go.Proofs.Try.underlying65 rfl rfl rfl rfl) ?_; clear hk; intro a w hk
                refine FW.lfun (y := .lit (.pointer (some ⟨bx3, 1, none⟩))) hk rfl rfl rfl rfl (FW.f_fieldPtr hk (FW.holds_nil _) rfl Go.Proofs.Try.underlying119 rfl (by kernel_rfl) rfl) ?_; clear hk; intro a w hk
                refine FW.lfun (y := .lit (.int .u64 ((List.getD y1.Falls (Int.toNat v4) default).Keep))) hk rfl rfl rfl rfl (FW.f_loadBlk1 hk (FW.holds_nil _) (j := 0) rfl rfl Go.Proofs.Try.underlying29 rfl rfl) ?_; clear hk; intro a w hk
                refine FW.lfun (y := .lit (.pointer (some ⟨bx3, 2, none⟩))) hk rfl rfl rfl rfl (FW.f_fieldPtr hk (FW.holds_nil _) rfl Go.Proofs.Try.underlying119 rfl (by kernel_rfl) rfl) ?_; clear hk; intro a w hk
                refine FW.lfun (y := .lit (.int .i64 ((List.getD y1.Falls (Int.toNat v4) default).Torn))) hk rfl rfl rfl rfl (FW.f_loadBlk1 hk (FW.holds_nil _) (j := 0) rfl rfl Go.Proofs.Try.underlying3 rfl rfl) ?_; clear hk; intro a w hk
                obtain ⟨t1, hr_t1, h⟩ := FW.bnd h
                refine FW.lfun (y := .agg ((Offshootref03Dev.cells t1))) hk rfl rfl rfl rfl (FW.f_call hk (FW.holds_nil _) rfl rfl Go.Proofs.Try.func67 rfl (by kernel_rfl) (offshootref03_Dev_Crash.ok K (⟨y1.Sure, y1.Loose, y1.Steps, ((([] : List ApiFall) ++ (List.take (Int.toNat v4 - Int.toNat 0) (List.drop (Int.toNat 0) y1.Falls))) ++ (List.take (Int.toNat (List.length y1.Falls : Int) - Int.toNat (IntKind.wrap .i64 (v4 + 1))) (List.drop (Int.toNat (IntKind.wrap .i64 (v4 + 1))) y1.Falls))), y1.Off⟩ : Offshootref03Dev) ((List.getD y1.Falls (Int.toNat v4) default).Keep) ((List.getD y1.Falls (Int.toNat v4) default).Torn) _ hr_t1)) ?_; clear hk; intro a w hk
                refine FW.l_store (I' := [FW.blk bx3 119 ((ApiFall.cells (List.getD y1.Falls (Int.toNat v4) default))), FW.blk bx2 65 ((Offshootref03Dev.cells t1)), FW.blk bx1 65 ((Offshootref03Dev.cells (⟨y1.Sure, y1.Loose, y1.Steps, ((([] : List ApiFall) ++ (List.take (Int.toNat v4 - Int.toNat 0) (List.drop (Int.toNat 0) y1.Falls))) ++ (List.take (Int.toNat (List.length y1.Falls : Int) - Int.toNat (IntKind.wrap .i64 (v4 + 1))) (List.drop (Int.toNat (IntKind.wrap .i64 (v4 + 1))) y1.Falls))), y1.Off⟩ : Offshootref03Dev)))]) (cs' := (Offshootref03Dev.cells t1)) (j := 1) hk rfl rfl rfl rfl rfl (by kernel_rfl) rfl rfl ?_; clear hk; intro w hk
                refine FW.lfun (y := .lit (.int .i64 7)) hk rfl rfl rfl rfl (FW.f_assign hk (FW.holds_nil _) rfl) ?_; clear hk; intro a w hk
                refine FW.lend (hK11 _ _ ?_); clear hK11 K'
                refine wp_ret ?_
                (repeat first | refine FW.then_ret ?_ | refine FW.block_ret ?_)
                obtain rfl := Option.some.inj h
                exact FW.fretR2 hk rfl (FW.rcell hk rfl (j := 1) rfl Go.Proofs.Try.underlying65 rfl (by kernel_rfl)) (FW.rtmp hk rfl)
    · skip
      refine wp_skip ?_
      (repeat first | refine FW.then_normal ?_ | refine FW.block_normal ?_); refine hK7 _ _ ?_
      refine FW.wreg1 ?_
      refine FW.lfun (y := .lit (.int .i64 v4)) hk rfl rfl rfl rfl (FW.f_move hk (FW.holds_nil _) rfl) ?_; clear hk; intro a w hk
      refine FW.lfun (y := .lit (.int .i64 (IntKind.wrap .i64 (v4 + 1)))) hk rfl rfl rfl rfl ((FW.f_pure (FW.p_add hk.kn (FW.holds_nil _) rfl rfl))) ?_; clear hk; intro a w hk
      refine FW.lfun (y := .lit (.int .i64 (IntKind.wrap .i64 (v4 + 1)))) hk rfl rfl rfl rfl (FW.f_assign hk (FW.holds_nil _) rfl) ?_; clear hk; intro a w hk
      refine wpList_nil ?_
      (repeat first | refine FW.then_normal ?_ | refine FW.block_normal ?_); exact hK4 (kl1, y1, (IntKind.wrap .i64 (v4 + 1))) _ _ (Nat.lt_succ_self _) ⟨(hk.drop 0).sub ⟨rfl, rfl, rfl, trivial⟩, h⟩
  · skip
    refine wp_exit ?_; (repeat first | refine FW.then_exit ?_ | refine FW.block_exit_ne rfl ?_); refine FW.block_exit ?_
    (repeat first | refine FW.then_normal ?_ | refine FW.block_normal ?_); refine hK2 _ _ ?_
    refine FW.wreg ?_; intro K' hK13
    refine FW.lfun (y := .lit (.pointer (some ⟨bx1, 2, none⟩))) hk rfl rfl rfl rfl (FW.f_fieldPtr hk (FW.holds_nil _) rfl Go.Proofs.Try.underlying65 rfl (by kernel_rfl) rfl) ?_; clear hk; intro a w hk
    refine FW.lfun (y := .lit (.int .i64 y1.Steps)) hk rfl rfl rfl rfl (FW.f_loadBlk1 hk (FW.holds_nil _) (j := 1) rfl rfl Go.Proofs.Try.underlying3 rfl rfl) ?_; clear hk; intro a w hk
    refine FW.lfun (y := .lit (.int .i64 (IntKind.wrap .i64 (y1.Steps + 1)))) hk rfl rfl rfl rfl ((FW.f_pure (FW.p_add hk.kn (FW.holds_nil _) rfl rfl))) ?_; clear hk; intro a w hk
    refine FW.lfun (y := .lit (.pointer (some ⟨bx1, 2, none⟩))) hk rfl rfl rfl rfl (FW.f_fieldPtr hk (FW.holds_nil _) rfl Go.Proofs.Try.underlying65 rfl (by kernel_rfl) rfl) ?_; clear hk; intro a w hk
    refine FW.l_store (I' := [FW.blk bx2 65 ((Offshootref03Dev.cells (⟨[], [], 0, [], false⟩ : Offshootref03Dev))), FW.blk bx1 65 ((Offshootref03Dev.cells (⟨y1.Sure, y1.Loose, (IntKind.wrap .i64 (y1.Steps + 1)), y1.Falls, y1.Off⟩ : Offshootref03Dev)))]) (cs' := (Offshootref03Dev.cells (⟨y1.Sure, y1.Loose, (IntKind.wrap .i64 (y1.Steps + 1)), y1.Falls, y1.Off⟩ : Offshootref03Dev))) (j := 1) hk rfl rfl rfl rfl rfl (by kernel_rfl) rfl rfl ?_; clear hk; intro w hk
    refine FW.lend (hK13 _ _ ?_); clear hK13 K'
    refine FW.wreg ?_; intro K' hK14
    refine FW.lfun (y := .agg ((Offshootref03Dev.cells (⟨y1.Sure, y1.Loose, (IntKind.wrap .i64 (y1.Steps + 1)), y1.Falls, y1.Off⟩ : Offshootref03Dev)))) hk rfl rfl rfl rfl (FW.f_loadBlk hk (FW.holds_nil _) (j := 1) rfl rfl Go.Proofs.Try.underlying65 rfl rfl rfl rfl) ?_; clear hk; intro a w hk
    refine FW.l_store (I' := [FW.blk bx2 65 ((Offshootref03Dev.cells (⟨y1.Sure, y1.Loose, (IntKind.wrap .i64 (y1.Steps + 1)), y1.Falls, y1.Off⟩ : Offshootref03Dev))), FW.blk bx1 65 ((Offshootref03Dev.cells (⟨y1.Sure, y1.Loose, (IntKind.wrap .i64 (y1.Steps + 1)), y1.Falls, y1.Off⟩ : Offshootref03Dev)))]) (cs' := (Offshootref03Dev.cells (⟨y1.Sure, y1.Loose, (IntKind.wrap .i64 (y1.Steps + 1)), y1.Falls, y1.Off⟩ : Offshootref03Dev))) (j := 0) hk rfl rfl rfl rfl rfl (by kernel_rfl) rfl rfl ?_; clear hk; intro w hk
    refine FW.lfun (y := .lit (.int .i64 0)) hk rfl rfl rfl rfl (FW.f_assign hk (FW.holds_nil _) rfl) ?_; clear hk; intro a w hk
    refine FW.lend (hK14 _ _ ?_); clear hK14 K'
    refine wp_ret ?_
    (repeat first | refine FW.then_ret ?_ | refine FW.block_ret ?_)
    obtain rfl := Option.some.inj h
    exact FW.fretR2 hk rfl (FW.rcell hk rfl (j := 0) rfl Go.Proofs.Try.underlying65 rfl (by kernel_rfl)) (FW.rtmp hk rfl)
end Go.Proofs.Ytimaibcaehagjaa

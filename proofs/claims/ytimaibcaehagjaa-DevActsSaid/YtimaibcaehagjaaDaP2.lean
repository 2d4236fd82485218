/- Written by a program of this session (gen.py): the contracts of functions of the program. -/
import Derived.KernelRfl
import Derived.Test.YtimaibcaehagjaaProg
import Derived.Test.YtimaibcaehagjaaAvFun
import Derived.Test.YtimaibcaehagjaaAvMan
import Derived.Test.YtimaibcaehagjaaAvMore
import Derived.Test.YtimaibcaehagjaaAvDraw2
import Derived.Test.YtimaibcaehagjaaAvRow
import Derived.Test.YtimaibcaehagjaaHn
import Derived.Test.YtimaibcaehagjaaHg
import Derived.Test.YtimaibcaehagjaaHar
import Derived.Test.YtimaibcaehagjaaHc
import Derived.Test.YtimaibcaehagjaaFx
import Derived.Test.YtimaibcaehagjaaDxP1
import Derived.Test.YtimaibcaehagjaaFy2
import Derived.Test.YtimaibcaehagjaaDaD
import Derived.Test.YtimaibcaehagjaaDaP1
namespace Go.Proofs.Ytimaibcaehagjaa
set_option linter.unusedVariables false
set_option maxRecDepth 20000
set_option maxHeartbeats 10000000
theorem offshootref03_Dev_Flush.ok (K : Nat) (v0 : Offshootref03Dev) (r : Offshootref03Dev × Int) (h : offshootref03_Dev_Flush.f K v0 = some r) :
    FW.Ok Go.Proofs.Try.prog 66 [.agg (Offshootref03Dev.cells v0)] (.tup [.agg (Offshootref03Dev.cells r.1), .lit (.int .i64 r.2)]) := by
  refine FW.enter (xs := [.agg (Offshootref03Dev.cells v0)]) Go.Proofs.Try.func66 rfl Go.Proofs.Try.ntmps66 rfl ?_
  intro M w0 a hk
  unfold offshootref03_Dev_Flush.f at h
  refine FW.wreg ?_; intro K' hK1
  refine FW.l_box (cs := (Offshootref03Dev.cells v0)) hk rfl rfl rfl rfl rfl ?_; clear hk; intro bx1 a w hk
  refine FW.l_alloc (zs := (Offshootref03Dev.cells (⟨[], [], 0, [], false⟩ : Offshootref03Dev))) [] hk rfl rfl rfl rfl ?_; clear hk; intro bx2 a w hk
  refine FW.lfun (y := .lit (.int .i64 0)) hk rfl rfl rfl rfl (FW.f_assign hk (FW.holds_nil _) rfl) ?_; clear hk; intro a w hk
  refine FW.lend (hK1 _ _ ?_); clear hK1 K'
  refine FW.wseq ?_; intro K' hK2
  refine FW.wreg ?_; intro K' hK3
  refine FW.lfun (y := .lit (.pointer (some ⟨bx1, 4, none⟩))) hk rfl rfl rfl rfl (FW.f_fieldPtr hk (FW.holds_nil _) rfl Go.Proofs.Try.underlying65 rfl (by kernel_rfl) rfl) ?_; clear hk; intro a w hk
  refine FW.lfun (y := .lit (.bool v0.Off)) hk rfl rfl rfl rfl (FW.f_loadBlk1 hk (FW.holds_nil _) (j := 1) rfl rfl Go.Proofs.Try.underlying4 rfl rfl) ?_; clear hk; intro a w hk
  refine FW.lend (hK3 _ _ ?_); clear hK3 K'
  refine FW.wcondF (b := v0.Off) hk h rfl (fun h hb => ?_) (fun h hb => ?_)
  · skip
    refine FW.wreg ?_; intro K' hK4
    refine FW.lfun (y := .agg ((Offshootref03Dev.cells v0))) hk rfl rfl rfl rfl (FW.f_loadBlk hk (FW.holds_nil _) (j := 1) rfl rfl Go.Proofs.Try.underlying65 rfl rfl rfl rfl) ?_; clear hk; intro a w hk
    refine FW.l_store (I' := [FW.blk bx2 65 ((Offshootref03Dev.cells v0)), FW.blk bx1 65 ((Offshootref03Dev.cells v0))]) (cs' := (Offshootref03Dev.cells v0)) (j := 0) hk rfl rfl rfl rfl rfl (by kernel_rfl) rfl rfl ?_; clear hk; intro w hk
    refine FW.lfun (y := .lit (.int .i64 7)) hk rfl rfl rfl rfl (FW.f_assign hk (FW.holds_nil _) rfl) ?_; clear hk; intro a w hk
    refine FW.lend (hK4 _ _ ?_); clear hK4 K'
    refine wp_ret ?_
    (repeat first | refine FW.then_ret ?_ | refine FW.block_ret ?_)
    obtain rfl := Option.some.inj h
    exact FW.fretR2 hk rfl (FW.rcell hk rfl (j := 0) rfl Go.Proofs.Try.underlying65 rfl (by kernel_rfl)) (FW.rtmp hk rfl)
  · skip
    refine wp_skip ?_
    (repeat first | refine FW.then_normal ?_ | refine FW.block_normal ?_); refine hK2 _ _ ?_
    refine FW.wreg ?_; intro K' hK5
    refine FW.lfun (y := .agg ((Offshootref03Dev.cells v0))) hk rfl rfl rfl rfl (FW.f_loadBlk hk (FW.holds_nil _) (j := 1) rfl rfl Go.Proofs.Try.underlying65 rfl rfl rfl rfl) ?_; clear hk; intro a w hk
    obtain ⟨t1, hr_t1, h⟩ := FW.bnd h
    refine FW.lfun (y := .tup [.agg ((Offshootref03Dev.cells t1.1)), .lit (.int .i64 t1.2)]) hk rfl rfl rfl rfl (FW.f_call hk (FW.holds_nil _) rfl rfl Go.Proofs.Try.func93 rfl (by kernel_rfl) (offshootref03_Dev_step.ok K v0 _ hr_t1)) ?_; clear hk; intro a w hk
    refine FW.lfun (y := .tup [.agg ((Offshootref03Dev.cells t1.1)), .lit (.int .i64 t1.2)]) hk rfl rfl rfl rfl (FW.f_move hk (FW.holds_nil _) rfl) ?_; clear hk; intro a w hk
    refine FW.lfun (y := .agg ((Offshootref03Dev.cells t1.1))) hk rfl rfl rfl rfl (FW.f_extract hk (FW.holds_nil _) rfl rfl) ?_; clear hk; intro a w hk
    refine FW.lfun (y := .lit (.int .i64 t1.2)) hk rfl rfl rfl rfl (FW.f_extract hk (FW.holds_nil _) rfl rfl) ?_; clear hk; intro a w hk
    refine FW.l_store (I' := [FW.blk bx2 65 ((Offshootref03Dev.cells (⟨[], [], 0, [], false⟩ : Offshootref03Dev))), FW.blk bx1 65 ((Offshootref03Dev.cells t1.1))]) (cs' := (Offshootref03Dev.cells t1.1)) (j := 1) hk rfl rfl rfl rfl rfl (by kernel_rfl) rfl rfl ?_; clear hk; intro w hk
    refine FW.lfun (y := .lit (.int .i64 t1.2)) hk rfl rfl rfl rfl (FW.f_assign hk (FW.holds_nil _) rfl) ?_; clear hk; intro a w hk
    refine FW.lend (hK5 _ _ ?_); clear hK5 K'
    refine FW.wseq ?_; intro K' hK6
    refine FW.wreg ?_; intro K' hK7
    refine FW.lfun (y := .lit (.int .i64 t1.2)) hk rfl rfl rfl rfl (FW.f_move hk (FW.holds_nil _) rfl) ?_; clear hk; intro a w hk
    refine FW.lfun (y := .lit (.bool (!decide (t1.2 = 0)))) hk rfl rfl rfl rfl ((FW.f_pure (FW.p_neq hk.kn (FW.holds_nil _) rfl rfl))) ?_; clear hk; intro a w hk
    refine FW.lend (hK7 _ _ ?_); clear hK7 K'
    refine FW.wcondF (b := (!decide (t1.2 = 0))) hk h rfl (fun h hb => ?_) (fun h hb => ?_)
    · skip
      refine FW.wreg ?_; intro K' hK8
      refine FW.lfun (y := .agg ((Offshootref03Dev.cells t1.1))) hk rfl rfl rfl rfl (FW.f_loadBlk hk (FW.holds_nil _) (j := 1) rfl rfl Go.Proofs.Try.underlying65 rfl rfl rfl rfl) ?_; clear hk; intro a w hk
      refine FW.lfun (y := .lit (.int .i64 t1.2)) hk rfl rfl rfl rfl (FW.f_move hk (FW.holds_nil _) rfl) ?_; clear hk; intro a w hk
      refine FW.l_store (I' := [FW.blk bx2 65 ((Offshootref03Dev.cells t1.1)), FW.blk bx1 65 ((Offshootref03Dev.cells t1.1))]) (cs' := (Offshootref03Dev.cells t1.1)) (j := 0) hk rfl rfl rfl rfl rfl (by kernel_rfl) rfl rfl ?_; clear hk; intro w hk
      refine FW.lfun (y := .lit (.int .i64 t1.2)) hk rfl rfl rfl rfl (FW.f_assign hk (FW.holds_nil _) rfl) ?_; clear hk; intro a w hk
      refine FW.lend (hK8 _ _ ?_); clear hK8 K'
      refine wp_ret ?_
      (repeat first | refine FW.then_ret ?_ | refine FW.block_ret ?_)
      obtain rfl := Option.some.inj h
      exact FW.fretR2 hk rfl (FW.rcell hk rfl (j := 0) rfl Go.Proofs.Try.underlying65 rfl (by kernel_rfl)) (FW.rtmp hk rfl)
    · skip
      refine wp_skip ?_
      (repeat first | refine FW.then_normal ?_ | refine FW.block_normal ?_); refine hK6 _ _ ?_
      refine FW.wseq ?_; intro K' hK9
      refine FW.wreg ?_; intro K' hK10
      refine FW.lfun (y := .lit (.int .i64 0)) hk rfl rfl rfl rfl (FW.f_assign hk (FW.holds_nil _) rfl) ?_; clear hk; intro a w hk
      refine FW.lend (hK10 _ _ ?_); clear hK10 K'
      refine wp_block ?_
      refine FW.wloop (T := Nat × Offshootref03Dev × Int) (fun x a w => match x with | (kl1, y1, v5) => FW.S M w0 a w 43 [FW.blk bx2 65 ((Offshootref03Dev.cells (⟨[], [], 0, [], false⟩ : Offshootref03Dev))), FW.blk bx1 65 ((Offshootref03Dev.cells y1))] [(1, [], .lit (.pointer (some ⟨bx1, 0, none⟩))), (2, [], .lit (.pointer (some ⟨bx2, 0, none⟩))), (5, [], .lit (.int .i64 v5))] ∧ offshootref03_Dev_Flush.l1 K kl1 y1 v5 = some r) (fun x => x.1) (K, t1.1, 0) ⟨hk.sub ⟨rfl, rfl, rfl, trivial⟩, h⟩ ?_
      clear hk h
      rintro ⟨kl1, y1, v5⟩ a w ⟨hk, h⟩ K' hK11
      cases kl1 with
      | zero => simp [offshootref03_Dev_Flush.l1] at h
      | succ kl1 =>
      rw [offshootref03_Dev_Flush.l1.eq_2] at h
      refine FW.wseq ?_; intro K' hK12
      refine FW.wreg ?_; intro K' hK13
      refine FW.lfun (y := .lit (.int .i64 v5)) hk rfl rfl rfl rfl (FW.f_move hk (FW.holds_nil _) rfl) ?_; clear hk; intro a w hk
      refine FW.lfun (y := .lit (.pointer (some ⟨bx1, 1, none⟩))) hk rfl rfl rfl rfl (FW.f_fieldPtr hk (FW.holds_nil _) rfl Go.Proofs.Try.underlying65 rfl (by kernel_rfl) rfl) ?_; clear hk; intro a w hk
      refine FW.lfun (y := .row (r_Offshootref03Loose_cells y1.Loose)) hk rfl rfl rfl rfl (FW.f_loadBlk1 hk (FW.holds_nil _) (j := 1) rfl rfl Go.Proofs.Try.underlying62 rfl rfl) ?_; clear hk; intro a w hk
      refine FW.lfun (y := .lit (.int .i64 (List.length y1.Loose : Int))) hk rfl rfl rfl rfl (FW.f_len (R := r_Offshootref03Loose_cells) (f := Offshootref03Loose.cells) (l := y1.Loose) r_Offshootref03Loose_cells_eq Go.Proofs.Try.underlying62 hk (FW.holds_nil _) rfl) ?_; clear hk; intro a w hk
      refine FW.lfun (y := .lit (.bool (decide (v5 < (List.length y1.Loose : Int))))) hk rfl rfl rfl rfl ((FW.f_pure (FW.p_lss hk.kn (FW.holds_nil _) rfl rfl))) ?_; clear hk; intro a w hk
      refine FW.lend (hK13 _ _ ?_); clear hK13 K'
      refine FW.wcondF (b := (decide (v5 < (List.length y1.Loose : Int)))) hk h rfl (fun h hb => ?_) (fun h hb => ?_)
      · skip
        refine wp_skip ?_
        (repeat first | refine FW.then_normal ?_ | refine FW.block_normal ?_); refine hK12 _ _ ?_
        refine FW.wseq ?_; intro K' hK14
        refine wp_block ?_
        obtain ⟨hc1, h⟩ := FW.chk h
        obtain ⟨hc2, h⟩ := FW.chk h
        obtain ⟨t2, hr_t2, h⟩ := FW.bnd h
        refine FW.wdrawE1 (.next [true, true, true, true, true, true, true, true, true, true, true, true, true, true, true, true, false] 16 [true, true, true, true, true, true, true, true, true, true, true, true, true, true, true, true, false] (.leaf [false, false, false, false, false, false, false, false, false, false, false, false, false, false, false, false, false])) [(25, [], .lit (.pointer (some ⟨bx1, 0, none⟩))), (26, [], .row (r_c_str y1.Sure)), (27, [], .lit (.pointer (some ⟨bx1, 1, none⟩))), (28, [], .row (r_Offshootref03Loose_cells y1.Loose)), (29, [], .lit (.int .i64 v5)), (30, [], .ref (Offshootref03Loose.cells (List.getD y1.Loose (Int.toNat v5) default))), (31, [], .ref (List.drop 0 (Offshootref03Loose.cells (List.getD y1.Loose (Int.toNat v5) default)))), (32, [], .lit (.int .i64 ((List.getD y1.Loose (Int.toNat v5) default).At))), (33, [], .lit (.pointer (some ⟨bx1, 1, none⟩))), (34, [], .row (r_Offshootref03Loose_cells y1.Loose)), (35, [], .lit (.int .i64 v5)), (36, [], .ref (Offshootref03Loose.cells (List.getD y1.Loose (Int.toNat v5) default))), (37, [], .ref (List.drop 1 (Offshootref03Loose.cells (List.getD y1.Loose (Int.toNat v5) default)))), (38, [], .lit (.string (FW.B ((List.getD y1.Loose (Int.toNat v5) default).S)))), (39, [], .row (r_c_str t2)), (40, [], .lit (.pointer (some ⟨bx1, 0, none⟩))), (43, [], .lit undef)] (by kernel_rfl) (by kernel_rfl) (by kernel_rfl) (by kernel_rfl) hk ?_; clear hk
        refine FW.gnext0 ?_ rfl rfl rfl ?_
        · skip
          refine FW.gfun (y := .lit (.pointer (some ⟨bx1, 0, none⟩))) rfl rfl rfl rfl (fun a w hk => FW.f_fieldPtr hk (FW.holds_nil _) rfl Go.Proofs.Try.underlying65 rfl (by kernel_rfl) rfl) ?_
          refine FW.gfun (y := .row (r_c_str y1.Sure)) rfl rfl rfl rfl (fun a w hk => FW.f_loadBlk1 hk (FW.holds_nil _) (j := 1) rfl rfl Go.Proofs.Try.underlying61 rfl rfl) ?_
          refine FW.gfun (y := .lit (.pointer (some ⟨bx1, 1, none⟩))) rfl rfl rfl rfl (fun a w hk => FW.f_fieldPtr hk (FW.holds_nil _) rfl Go.Proofs.Try.underlying65 rfl (by kernel_rfl) rfl) ?_
          refine FW.gfun (y := .row (r_Offshootref03Loose_cells y1.Loose)) rfl rfl rfl rfl (fun a w hk => FW.f_loadBlk1 hk (FW.holds_nil _) (j := 1) rfl rfl Go.Proofs.Try.underlying62 rfl rfl) ?_
          refine FW.gfun (y := .lit (.int .i64 v5)) rfl rfl rfl rfl (fun a w hk => FW.f_move hk (FW.holds_nil _) rfl) ?_
          refine FW.gfun (y := .ref (Offshootref03Loose.cells (List.getD y1.Loose (Int.toNat v5) default))) rfl rfl rfl rfl (fun a w hk => FW.f_indexAddr (R := r_Offshootref03Loose_cells) (f := Offshootref03Loose.cells) (l := y1.Loose) (sz := 2) r_Offshootref03Loose_cells_eq (fun _ => rfl) hk (FW.holds_nil _) rfl rfl Go.Proofs.Try.underlying62 (by kernel_rfl) hc1) ?_
          refine FW.gfun (y := .ref (List.drop 0 (Offshootref03Loose.cells (List.getD y1.Loose (Int.toNat v5) default)))) rfl rfl rfl rfl (fun a w hk => FW.f_fieldAddr hk (FW.holds_nil _) rfl Go.Proofs.Try.underlying152 rfl (by kernel_rfl) rfl) ?_
          refine FW.gfun (y := .lit (.int .i64 ((List.getD y1.Loose (Int.toNat v5) default).At))) rfl rfl rfl rfl (fun a w hk => FW.f_load1 hk (FW.holds_nil _) rfl rfl Go.Proofs.Try.underlying3 rfl) ?_
          refine FW.gfun (y := .lit (.pointer (some ⟨bx1, 1, none⟩))) rfl rfl rfl rfl (fun a w hk => FW.f_fieldPtr hk (FW.holds_nil _) rfl Go.Proofs.Try.underlying65 rfl (by kernel_rfl) rfl) ?_
          refine FW.gfun (y := .row (r_Offshootref03Loose_cells y1.Loose)) rfl rfl rfl rfl (fun a w hk => FW.f_loadBlk1 hk (FW.holds_nil _) (j := 1) rfl rfl Go.Proofs.Try.underlying62 rfl rfl) ?_
          refine FW.gfun (y := .lit (.int .i64 v5)) rfl rfl rfl rfl (fun a w hk => FW.f_move hk (FW.holds_nil _) rfl) ?_
          refine FW.gfun (y := .ref (Offshootref03Loose.cells (List.getD y1.Loose (Int.toNat v5) default))) rfl rfl rfl rfl (fun a w hk => FW.f_indexAddr (R := r_Offshootref03Loose_cells) (f := Offshootref03Loose.cells) (l := y1.Loose) (sz := 2) r_Offshootref03Loose_cells_eq (fun _ => rfl) hk (FW.holds_nil _) rfl rfl Go.Proofs.Try.underlying62 (by kernel_rfl) hc2) ?_
          refine FW.gfun (y := .ref (List.drop 1 (Offshootref03Loose.cells (List.getD y1.Loose (Int.toNat v5) default)))) rfl rfl rfl rfl (fun a w hk => FW.f_fieldAddr hk (FW.holds_nil _) rfl Go.Proofs.Try.underlying152 rfl (by kernel_rfl) rfl) ?_
          refine FW.gfun (y := .lit (.string (FW.B ((List.getD y1.Loose (Int.toNat v5) default).S)))) rfl rfl rfl rfl (fun a w hk => FW.f_load1 hk (FW.holds_nil _) rfl rfl Go.Proofs.Try.underlying9 rfl) ?_
          refine FW.gfun (y := .row (r_c_str t2)) rfl rfl rfl rfl (fun a w hk => FW.f_call hk (FW.holds_nil _) rfl rfl Go.Proofs.Try.func94 rfl (by kernel_rfl) (offshootref03_laid.ok y1.Sure ((List.getD y1.Loose (Int.toNat v5) default).At) ((List.getD y1.Loose (Int.toNat v5) default).S) _ hr_t2)) ?_
          refine FW.gfun (y := .lit (.pointer (some ⟨bx1, 0, none⟩))) rfl rfl rfl rfl (fun a w hk => FW.f_fieldPtr hk (FW.holds_nil _) rfl Go.Proofs.Try.underlying65 rfl (by kernel_rfl) rfl) ?_
          refine FW.gskip0 rfl ?_
          exact FW.gend
        · skip
          intro σD a w opsD QD hk hQ hX
          refine FW.l_store (I' := [FW.blk bx2 65 ((Offshootref03Dev.cells (⟨[], [], 0, [], false⟩ : Offshootref03Dev))), FW.blk bx1 65 ((Offshootref03Dev.cells (⟨t2, y1.Loose, y1.Steps, y1.Falls, y1.Off⟩ : Offshootref03Dev)))]) (cs' := (Offshootref03Dev.cells (⟨t2, y1.Loose, y1.Steps, y1.Falls, y1.Off⟩ : Offshootref03Dev))) (j := 1) hk rfl rfl rfl rfl rfl (by kernel_rfl) rfl rfl ?_; clear hk; intro w hk
          refine hQ _ a w ?_ hk; clear hk hQ hX
          refine ⟨[(25, [], .lit (.pointer (some ⟨bx1, 0, none⟩))), (26, [], .row (r_c_str y1.Sure)), (27, [], .lit (.pointer (some ⟨bx1, 1, none⟩))), (28, [], .row (r_Offshootref03Loose_cells y1.Loose)), (29, [], .lit (.int .i64 v5)), (30, [], .ref (Offshootref03Loose.cells (List.getD y1.Loose (Int.toNat v5) default))), (31, [], .ref (List.drop 0 (Offshootref03Loose.cells (List.getD y1.Loose (Int.toNat v5) default)))), (32, [], .lit (.int .i64 ((List.getD y1.Loose (Int.toNat v5) default).At))), (33, [], .lit (.pointer (some ⟨bx1, 1, none⟩))), (34, [], .row (r_Offshootref03Loose_cells y1.Loose)), (35, [], .lit (.int .i64 v5)), (36, [], .ref (Offshootref03Loose.cells (List.getD y1.Loose (Int.toNat v5) default))), (37, [], .ref (List.drop 1 (Offshootref03Loose.cells (List.getD y1.Loose (Int.toNat v5) default)))), (38, [], .lit (.string (FW.B ((List.getD y1.Loose (Int.toNat v5) default).S)))), (39, [], .row (r_c_str t2)), (40, [], .lit (.pointer (some ⟨bx1, 0, none⟩))), (43, [], .lit undef)], And.intro rfl (And.intro rfl (And.intro rfl (And.intro rfl (And.intro rfl (And.intro rfl (And.intro rfl (And.intro rfl (And.intro rfl (And.intro rfl (And.intro rfl (And.intro rfl (And.intro rfl (And.intro rfl (And.intro rfl (And.intro rfl (trivial)))))))))))))))), rfl, ?_⟩
          refine FW.glast ?_ ?_
          · skip
            refine FW.gskip rfl rfl ?_
            refine FW.gskip rfl rfl ?_
            refine FW.gskip rfl rfl ?_
            refine FW.gskip rfl rfl ?_
            refine FW.gskip rfl rfl ?_
            refine FW.gskip rfl rfl ?_
            refine FW.gskip rfl rfl ?_
            refine FW.gskip rfl rfl ?_
            refine FW.gskip rfl rfl ?_
            refine FW.gskip rfl rfl ?_
            refine FW.gskip rfl rfl ?_
            refine FW.gskip rfl rfl ?_
            refine FW.gskip rfl rfl ?_
            refine FW.gskip rfl rfl ?_
            refine FW.gskip rfl rfl ?_
            refine FW.gskip rfl rfl ?_
            refine FW.gskip0 rfl ?_
            exact FW.gend
          · skip
            intro a w hk; simp only [FW.stD, cond_true] at hk
            (repeat first | refine FW.then_normal ?_ | refine FW.block_normal ?_); refine hK14 _ _ ?_
            refine FW.wreg1 ?_
            refine FW.lfun (y := .lit (.int .i64 v5)) hk rfl rfl rfl rfl (FW.f_move hk (FW.holds_nil _) rfl) ?_; clear hk; intro a w hk
            refine FW.lfun (y := .lit (.int .i64 (IntKind.wrap .i64 (v5 + 1)))) hk rfl rfl rfl rfl ((FW.f_pure (FW.p_add hk.kn (FW.holds_nil _) rfl rfl))) ?_; clear hk; intro a w hk
            refine FW.lfun (y := .lit (.int .i64 (IntKind.wrap .i64 (v5 + 1)))) hk rfl rfl rfl rfl (FW.f_assign hk (FW.holds_nil _) rfl) ?_; clear hk; intro a w hk
            refine wpList_nil ?_
            (repeat first | refine FW.then_normal ?_ | refine FW.block_normal ?_); exact hK11 (kl1, (⟨t2, y1.Loose, y1.Steps, y1.Falls, y1.Off⟩ : Offshootref03Dev), (IntKind.wrap .i64 (v5 + 1))) _ _ (Nat.lt_succ_self _) ⟨hk.sub ⟨rfl, rfl, rfl, trivial⟩, h⟩
      · skip
        refine wp_exit ?_; (repeat first | refine FW.then_exit ?_ | refine FW.block_exit_ne rfl ?_); refine FW.block_exit ?_
        (repeat first | refine FW.then_normal ?_ | refine FW.block_normal ?_); refine hK9 _ _ ?_
        refine FW.wreg ?_; intro K' hK17
        refine FW.lfun (y := .lit (.pointer (some ⟨bx1, 1, none⟩))) hk rfl rfl rfl rfl (FW.f_fieldPtr hk (FW.holds_nil _) rfl Go.Proofs.Try.underlying65 rfl (by kernel_rfl) rfl) ?_; clear hk; intro a w hk
        refine FW.l_storeV (u := .row (r_Offshootref03Loose_cells [])) (I' := [FW.blk bx2 65 ((Offshootref03Dev.cells (⟨[], [], 0, [], false⟩ : Offshootref03Dev))), FW.blk bx1 65 ((Offshootref03Dev.cells (⟨y1.Sure, [], y1.Steps, y1.Falls, y1.Off⟩ : Offshootref03Dev)))]) (cs' := (Offshootref03Dev.cells (⟨y1.Sure, [], y1.Steps, y1.Falls, y1.Off⟩ : Offshootref03Dev))) (j := 1) hk rfl rfl (FW.rep_nilc hk rfl) rfl rfl (by kernel_rfl) rfl rfl ?_; clear hk; intro w hk
        refine FW.lend (hK17 _ _ ?_); clear hK17 K'
        refine FW.wreg ?_; intro K' hK18
        refine FW.lfun (y := .agg ((Offshootref03Dev.cells (⟨y1.Sure, [], y1.Steps, y1.Falls, y1.Off⟩ : Offshootref03Dev)))) hk rfl rfl rfl rfl (FW.f_loadBlk hk (FW.holds_nil _) (j := 1) rfl rfl Go.Proofs.Try.underlying65 rfl rfl rfl rfl) ?_; clear hk; intro a w hk
        refine FW.l_store (I' := [FW.blk bx2 65 ((Offshootref03Dev.cells (⟨y1.Sure, [], y1.Steps, y1.Falls, y1.Off⟩ : Offshootref03Dev))), FW.blk bx1 65 ((Offshootref03Dev.cells (⟨y1.Sure, [], y1.Steps, y1.Falls, y1.Off⟩ : Offshootref03Dev)))]) (cs' := (Offshootref03Dev.cells (⟨y1.Sure, [], y1.Steps, y1.Falls, y1.Off⟩ : Offshootref03Dev))) (j := 0) hk rfl rfl rfl rfl rfl (by kernel_rfl) rfl rfl ?_; clear hk; intro w hk
        refine FW.lfun (y := .lit (.int .i64 0)) hk rfl rfl rfl rfl (FW.f_assign hk (FW.holds_nil _) rfl) ?_; clear hk; intro a w hk
        refine FW.lend (hK18 _ _ ?_); clear hK18 K'
        refine wp_ret ?_
        (repeat first | refine FW.then_ret ?_ | refine FW.block_ret ?_)
        obtain rfl := Option.some.inj h
        exact FW.fretR2 hk rfl (FW.rcell hk rfl (j := 0) rfl Go.Proofs.Try.underlying65 rfl (by kernel_rfl)) (FW.rtmp hk rfl)

theorem offshootref03_Dev_Write.ok (K : Nat) (v0 : Offshootref03Dev) (v1 : Int) (v2 : List UInt8) (r : Offshootref03Dev × Int) (h : offshootref03_Dev_Write.f K v0 v1 v2 = some r) :
    FW.Ok Go.Proofs.Try.prog 68 [.agg (Offshootref03Dev.cells v0), .lit (.int .i64 v1), .lit (.string (FW.B v2))] (.tup [.agg (Offshootref03Dev.cells r.1), .lit (.int .i64 r.2)]) := by
  refine FW.enter (xs := [.agg (Offshootref03Dev.cells v0), .lit (.int .i64 v1), .lit (.string (FW.B v2))]) Go.Proofs.Try.func68 rfl Go.Proofs.Try.ntmps68 rfl ?_
  intro M w0 a hk
  unfold offshootref03_Dev_Write.f at h
  refine FW.wreg ?_; intro K' hK1
  refine FW.l_box (cs := (Offshootref03Dev.cells v0)) hk rfl rfl rfl rfl rfl ?_; clear hk; intro bx1 a w hk
  refine FW.l_alloc (zs := (Offshootref03Dev.cells (⟨[], [], 0, [], false⟩ : Offshootref03Dev))) [] hk rfl rfl rfl rfl ?_; clear hk; intro bx2 a w hk
  refine FW.lfun (y := .lit (.int .i64 0)) hk rfl rfl rfl rfl (FW.f_assign hk (FW.holds_nil _) rfl) ?_; clear hk; intro a w hk
  refine FW.lend (hK1 _ _ ?_); clear hK1 K'
  refine FW.wseq ?_; intro K' hK2
  refine FW.wreg ?_; intro K' hK3
  refine FW.lfun (y := .lit (.pointer (some ⟨bx1, 4, none⟩))) hk rfl rfl rfl rfl (FW.f_fieldPtr hk (FW.holds_nil _) rfl Go.Proofs.Try.underlying65 rfl (by kernel_rfl) rfl) ?_; clear hk; intro a w hk
  refine FW.lfun (y := .lit (.bool v0.Off)) hk rfl rfl rfl rfl (FW.f_loadBlk1 hk (FW.holds_nil _) (j := 1) rfl rfl Go.Proofs.Try.underlying4 rfl rfl) ?_; clear hk; intro a w hk
  refine FW.lend (hK3 _ _ ?_); clear hK3 K'
  refine FW.wcondF (b := v0.Off) hk h rfl (fun h hb => ?_) (fun h hb => ?_)
  · skip
    refine FW.wreg ?_; intro K' hK4
    refine FW.lfun (y := .agg ((Offshootref03Dev.cells v0))) hk rfl rfl rfl rfl (FW.f_loadBlk hk (FW.holds_nil _) (j := 1) rfl rfl Go.Proofs.Try.underlying65 rfl rfl rfl rfl) ?_; clear hk; intro a w hk
    refine FW.l_store (I' := [FW.blk bx2 65 ((Offshootref03Dev.cells v0)), FW.blk bx1 65 ((Offshootref03Dev.cells v0))]) (cs' := (Offshootref03Dev.cells v0)) (j := 0) hk rfl rfl rfl rfl rfl (by kernel_rfl) rfl rfl ?_; clear hk; intro w hk
    refine FW.lfun (y := .lit (.int .i64 7)) hk rfl rfl rfl rfl (FW.f_assign hk (FW.holds_nil _) rfl) ?_; clear hk; intro a w hk
    refine FW.lend (hK4 _ _ ?_); clear hK4 K'
    refine wp_ret ?_
    (repeat first | refine FW.then_ret ?_ | refine FW.block_ret ?_)
    obtain rfl := Option.some.inj h
    exact FW.fretR2 hk rfl (FW.rcell hk rfl (j := 0) rfl Go.Proofs.Try.underlying65 rfl (by kernel_rfl)) (FW.rtmp hk rfl)
  · skip
    refine wp_skip ?_
    (repeat first | refine FW.then_normal ?_ | refine FW.block_normal ?_); refine hK2 _ _ ?_
    refine FW.wseq ?_; intro K' hK5
    refine FW.wreg ?_; intro K' hK6
    refine FW.lfun (y := .lit (.int .i64 v1)) hk rfl rfl rfl rfl (FW.f_move hk (FW.holds_nil _) rfl) ?_; clear hk; intro a w hk
    refine FW.lfun (y := .lit (.bool (decide (v1 < 0)))) hk rfl rfl rfl rfl ((FW.f_pure (FW.p_lss hk.kn (FW.holds_nil _) rfl rfl))) ?_; clear hk; intro a w hk
    refine FW.lfun (y := .lit (.bool (decide (v1 < 0)))) hk rfl rfl rfl rfl (FW.f_move hk (FW.holds_nil _) rfl) ?_; clear hk; intro a w hk
    refine FW.lfunG (y := .lit (.int .i64 v1)) hk rfl rfl rfl rfl rfl rfl rfl rfl (fun hc => FW.f_move hk hc rfl) ?_; clear hk; intro a w hk
    refine FW.lfunG (y := .lit (.pointer (some ⟨bx1, 0, none⟩))) hk rfl rfl rfl rfl rfl rfl rfl rfl (fun hc => FW.f_fieldPtr hk hc rfl Go.Proofs.Try.underlying65 rfl (by kernel_rfl) rfl) ?_; clear hk; intro a w hk
    refine FW.lfunG (y := .row (r_c_str v0.Sure)) hk rfl rfl rfl rfl rfl rfl rfl rfl (fun hc => FW.f_loadBlk1 hk hc (j := 1) rfl rfl Go.Proofs.Try.underlying61 rfl rfl) ?_; clear hk; intro a w hk
    refine FW.lfunG (y := .lit (.int .i64 (List.length v0.Sure : Int))) hk rfl rfl rfl rfl rfl rfl rfl rfl (fun hc => FW.f_len (R := r_c_str) (f := c_str) (l := v0.Sure) r_c_str_eq Go.Proofs.Try.underlying61 hk hc rfl) ?_; clear hk; intro a w hk
    refine FW.lfunG (y := .lit (.bool (decide ((List.length v0.Sure : Int) ≤ v1)))) hk rfl rfl rfl rfl rfl rfl rfl rfl (fun hc => (FW.f_pure (FW.p_geq hk.kn hc rfl rfl))) ?_; clear hk; intro a w hk
    refine FW.lfun (y := .lit (.bool ((decide (v1 < 0)) || (decide ((List.length v0.Sure : Int) ≤ v1))))) hk rfl rfl rfl rfl ((FW.f_pure (FW.p_pick_or hk.kn (FW.holds_nil _) rfl rfl))) ?_; clear hk; intro a w hk
    refine FW.lfun (y := .lit (.bool ((decide (v1 < 0)) || (decide ((List.length v0.Sure : Int) ≤ v1))))) hk rfl rfl rfl rfl (FW.f_move hk (FW.holds_nil _) rfl) ?_; clear hk; intro a w hk
    refine FW.lfunG (y := .lit (.string (FW.B v2))) hk rfl rfl rfl rfl rfl rfl rfl rfl (fun hc => FW.f_move hk hc rfl) ?_; clear hk; intro a w hk
    refine FW.lfunG (y := .lit (.int .i64 (List.length v2 : Int))) hk rfl rfl rfl rfl rfl rfl rfl rfl (fun hc => (FW.f_pure (FW.p_slen Go.Proofs.Try.underlying9 hk.kn hc rfl))) ?_; clear hk; intro a w hk
    refine FW.lfunG (y := .lit (.bool (!decide ((List.length v2 : Int) = 128)))) hk rfl rfl rfl rfl rfl rfl rfl rfl (fun hc => (FW.f_pure (FW.p_neq hk.kn hc rfl rfl))) ?_; clear hk; intro a w hk
    refine FW.lfun (y := .lit (.bool (((decide (v1 < 0)) || (decide ((List.length v0.Sure : Int) ≤ v1))) || (!decide ((List.length v2 : Int) = 128))))) hk rfl rfl rfl rfl ((FW.f_pure (FW.p_pick_or hk.kn (FW.holds_nil _) rfl rfl))) ?_; clear hk; intro a w hk
    refine FW.lend (hK6 _ _ ?_); clear hK6 K'
    refine FW.wcondF (b := (((decide (v1 < 0)) || (decide ((List.length v0.Sure : Int) ≤ v1))) || (!decide ((List.length v2 : Int) = 128)))) hk h rfl (fun h hb => ?_) (fun h hb => ?_)
    · skip
      refine FW.wreg ?_; intro K' hK7
      refine FW.lfun (y := .agg ((Offshootref03Dev.cells v0))) hk rfl rfl rfl rfl (FW.f_loadBlk hk (FW.holds_nil _) (j := 1) rfl rfl Go.Proofs.Try.underlying65 rfl rfl rfl rfl) ?_; clear hk; intro a w hk
      refine FW.l_store (I' := [FW.blk bx2 65 ((Offshootref03Dev.cells v0)), FW.blk bx1 65 ((Offshootref03Dev.cells v0))]) (cs' := (Offshootref03Dev.cells v0)) (j := 0) hk rfl rfl rfl rfl rfl (by kernel_rfl) rfl rfl ?_; clear hk; intro w hk
      refine FW.lfun (y := .lit (.int .i64 1)) hk rfl rfl rfl rfl (FW.f_assign hk (FW.holds_nil _) rfl) ?_; clear hk; intro a w hk
      refine FW.lend (hK7 _ _ ?_); clear hK7 K'
      refine wp_ret ?_
      (repeat first | refine FW.then_ret ?_ | refine FW.block_ret ?_)
      obtain rfl := Option.some.inj h
      exact FW.fretR2 hk rfl (FW.rcell hk rfl (j := 0) rfl Go.Proofs.Try.underlying65 rfl (by kernel_rfl)) (FW.rtmp hk rfl)
    · skip
      refine wp_skip ?_
      (repeat first | refine FW.then_normal ?_ | refine FW.block_normal ?_); refine hK5 _ _ ?_
      refine FW.wreg ?_; intro K' hK8
      refine FW.lfun (y := .agg ((Offshootref03Dev.cells v0))) hk rfl rfl rfl rfl (FW.f_loadBlk hk (FW.holds_nil _) (j := 1) rfl rfl Go.Proofs.Try.underlying65 rfl rfl rfl rfl) ?_; clear hk; intro a w hk
      obtain ⟨t1, hr_t1, h⟩ := FW.bnd h
      refine FW.lfun (y := .tup [.agg ((Offshootref03Dev.cells t1.1)), .lit (.int .i64 t1.2)]) hk rfl rfl rfl rfl (FW.f_call hk (FW.holds_nil _) rfl rfl Go.Proofs.Try.func93 rfl (by kernel_rfl) (offshootref03_Dev_step.ok K v0 _ hr_t1)) ?_; clear hk; intro a w hk
      refine FW.lfun (y := .tup [.agg ((Offshootref03Dev.cells t1.1)), .lit (.int .i64 t1.2)]) hk rfl rfl rfl rfl (FW.f_move hk (FW.holds_nil _) rfl) ?_; clear hk; intro a w hk
      refine FW.lfun (y := .agg ((Offshootref03Dev.cells t1.1))) hk rfl rfl rfl rfl (FW.f_extract hk (FW.holds_nil _) rfl rfl) ?_; clear hk; intro a w hk
      refine FW.lfun (y := .lit (.int .i64 t1.2)) hk rfl rfl rfl rfl (FW.f_extract hk (FW.holds_nil _) rfl rfl) ?_; clear hk; intro a w hk
      refine FW.l_store (I' := [FW.blk bx2 65 ((Offshootref03Dev.cells (⟨[], [], 0, [], false⟩ : Offshootref03Dev))), FW.blk bx1 65 ((Offshootref03Dev.cells t1.1))]) (cs' := (Offshootref03Dev.cells t1.1)) (j := 1) hk rfl rfl rfl rfl rfl (by kernel_rfl) rfl rfl ?_; clear hk; intro w hk
      refine FW.lfun (y := .lit (.int .i64 t1.2)) hk rfl rfl rfl rfl (FW.f_assign hk (FW.holds_nil _) rfl) ?_; clear hk; intro a w hk
      refine FW.lend (hK8 _ _ ?_); clear hK8 K'
      refine FW.wseq ?_; intro K' hK9
      refine FW.wreg ?_; intro K' hK10
      refine FW.lfun (y := .lit (.int .i64 t1.2)) hk rfl rfl rfl rfl (FW.f_move hk (FW.holds_nil _) rfl) ?_; clear hk; intro a w hk
      refine FW.lfun (y := .lit (.bool (!decide (t1.2 = 0)))) hk rfl rfl rfl rfl ((FW.f_pure (FW.p_neq hk.kn (FW.holds_nil _) rfl rfl))) ?_; clear hk; intro a w hk
      refine FW.lend (hK10 _ _ ?_); clear hK10 K'
      refine FW.wcondF (b := (!decide (t1.2 = 0))) hk h rfl (fun h hb => ?_) (fun h hb => ?_)
      · skip
        refine FW.wreg ?_; intro K' hK11
        refine FW.lfun (y := .agg ((Offshootref03Dev.cells t1.1))) hk rfl rfl rfl rfl (FW.f_loadBlk hk (FW.holds_nil _) (j := 1) rfl rfl Go.Proofs.Try.underlying65 rfl rfl rfl rfl) ?_; clear hk; intro a w hk
        refine FW.lfun (y := .lit (.int .i64 t1.2)) hk rfl rfl rfl rfl (FW.f_move hk (FW.holds_nil _) rfl) ?_; clear hk; intro a w hk
        refine FW.l_store (I' := [FW.blk bx2 65 ((Offshootref03Dev.cells t1.1)), FW.blk bx1 65 ((Offshootref03Dev.cells t1.1))]) (cs' := (Offshootref03Dev.cells t1.1)) (j := 0) hk rfl rfl rfl rfl rfl (by kernel_rfl) rfl rfl ?_; clear hk; intro w hk
        refine FW.lfun (y := .lit (.int .i64 t1.2)) hk rfl rfl rfl rfl (FW.f_assign hk (FW.holds_nil _) rfl) ?_; clear hk; intro a w hk
        refine FW.lend (hK11 _ _ ?_); clear hK11 K'
        refine wp_ret ?_
        (repeat first | refine FW.then_ret ?_ | refine FW.block_ret ?_)
        obtain rfl := Option.some.inj h
        exact FW.fretR2 hk rfl (FW.rcell hk rfl (j := 0) rfl Go.Proofs.Try.underlying65 rfl (by kernel_rfl)) (FW.rtmp hk rfl)
      · skip
        refine wp_skip ?_
        (repeat first | refine FW.then_normal ?_ | refine FW.block_normal ?_); refine hK9 _ _ ?_
        refine FW.wreg ?_; intro K' hK12
        refine FW.l_buildSlice0 (f := Offshootref03Loose.cells) hk rfl rfl Go.Proofs.Try.underlying62 rfl (fun _ => rfl) ?_; clear hk; intro bx3 a w hk
        refine FW.lfun (y := .lit (.slice (some ⟨bx3, 0, none⟩) (List.length ([] : List Offshootref03Loose)) 0)) hk rfl rfl rfl rfl (FW.f_assign hk (FW.holds_nil _) rfl) ?_; clear hk; intro a w hk
        refine FW.lfun (y := .lit (.bool false)) hk rfl rfl rfl rfl (FW.f_assign hk (FW.holds_nil _) rfl) ?_; clear hk; intro a w hk
        refine FW.lend (hK12 _ _ ?_); clear hK12 K'
        refine FW.wseq ?_; intro K' hK13
        refine FW.wreg ?_; intro K' hK14
        refine FW.lfun (y := .lit (.int .i64 0)) hk rfl rfl rfl rfl (FW.f_assign hk (FW.holds_nil _) rfl) ?_; clear hk; intro a w hk
        refine FW.lend (hK14 _ _ ?_); clear hK14 K'
        refine wp_block ?_
        refine FW.wloop (T := Nat × List Offshootref03Loose × Offshootref03Dev × Int × List UInt8 × Bool × Int × Option Addr × Nat) (fun x a w => match x with | (kl1, l3, y1, v1, v2, v10, v11, xd3, xc3) => FW.S M w0 a w 86 [FW.orow xd3 xc3 152 2 Offshootref03Loose.cells l3, FW.blk bx2 65 ((Offshootref03Dev.cells (⟨[], [], 0, [], false⟩ : Offshootref03Dev))), FW.blk bx1 65 ((Offshootref03Dev.cells y1))] [(1, [], .lit (.int .i64 v1)), (2, [], .lit (.string (FW.B v2))), (3, [], .lit (.pointer (some ⟨bx1, 0, none⟩))), (6, [], .lit (.pointer (some ⟨bx2, 0, none⟩))), (9, [], .lit (.slice xd3 (List.length l3) xc3)), (10, [], .lit (.bool v10)), (11, [], .lit (.int .i64 v11))] ∧ offshootref03_Dev_Write.l1 K kl1 l3 y1 v1 v2 v10 v11 = some r) (fun x => x.1) (K, ([] : List Offshootref03Loose), t1.1, v1, v2, false, 0, (some ⟨bx3, 0, none⟩), 0) ⟨hk.sub ⟨rfl, rfl, rfl, rfl, rfl, rfl, rfl, trivial⟩, h⟩ ?_
        clear hk h
        rintro ⟨kl1, l3, y1, v1, v2, v10, v11, xd3, xc3⟩ a w ⟨hk, h⟩ K' hK15
        cases kl1 with
        | zero => simp [offshootref03_Dev_Write.l1] at h
        | succ kl1 =>
        rw [offshootref03_Dev_Write.l1.eq_2] at h
        refine FW.wseq ?_; intro K' hK16
        refine FW.wreg ?_; intro K' hK17
        refine FW.lfun (y := .lit (.int .i64 v11)) hk rfl rfl rfl rfl (FW.f_move hk (FW.holds_nil _) rfl) ?_; clear hk; intro a w hk
        refine FW.lfun (y := .lit (.pointer (some ⟨bx1, 1, none⟩))) hk rfl rfl rfl rfl (FW.f_fieldPtr hk (FW.holds_nil _) rfl Go.Proofs.Try.underlying65 rfl (by kernel_rfl) rfl) ?_; clear hk; intro a w hk
        refine FW.lfun (y := .row (r_Offshootref03Loose_cells y1.Loose)) hk rfl rfl rfl rfl (FW.f_loadBlk1 hk (FW.holds_nil _) (j := 2) rfl rfl Go.Proofs.Try.underlying62 rfl rfl) ?_; clear hk; intro a w hk
        refine FW.lfun (y := .lit (.int .i64 (List.length y1.Loose : Int))) hk rfl rfl rfl rfl (FW.f_len (R := r_Offshootref03Loose_cells) (f := Offshootref03Loose.cells) (l := y1.Loose) r_Offshootref03Loose_cells_eq Go.Proofs.Try.underlying62 hk (FW.holds_nil _) rfl) ?_; clear hk; intro a w hk
        refine FW.lfun (y := .lit (.bool (decide (v11 < (List.length y1.Loose : Int))))) hk rfl rfl rfl rfl ((FW.f_pure (FW.p_lss hk.kn (FW.holds_nil _) rfl rfl))) ?_; clear hk; intro a w hk
        refine FW.lend (hK17 _ _ ?_); clear hK17 K'
        refine FW.wcondF (b := (decide (v11 < (List.length y1.Loose : Int)))) hk h rfl (fun h hb => ?_) (fun h hb => ?_)
        · skip
          refine wp_skip ?_
          (repeat first | refine FW.then_normal ?_ | refine FW.block_normal ?_); refine hK16 _ _ ?_
          refine FW.wseqJ (fun a w => ∃ (l3 : List Offshootref03Loose) (v1 : Int) (v2 : List UInt8) (v10 : Bool) (v11 : Int) (xd3 : Option Addr) (xc3 : Nat), FW.S M w0 a w 86 [FW.orow xd3 xc3 152 2 Offshootref03Loose.cells l3, FW.blk bx2 65 ((Offshootref03Dev.cells (⟨[], [], 0, [], false⟩ : Offshootref03Dev))), FW.blk bx1 65 ((Offshootref03Dev.cells y1))] [(1, [], .lit (.int .i64 v1)), (2, [], .lit (.string (FW.B v2))), (3, [], .lit (.pointer (some ⟨bx1, 0, none⟩))), (6, [], .lit (.pointer (some ⟨bx2, 0, none⟩))), (9, [], .lit (.slice xd3 (List.length l3) xc3)), (10, [], .lit (.bool v10)), (11, [], .lit (.int .i64 v11))] ∧ offshootref03_Dev_Write.j1 (offshootref03_Dev_Write.l1 K kl1) K y1 l3 v1 v2 v10 v11 = some r) ?_ ?_
          · clear hk h
            rintro a w ⟨l3, v1, v2, v10, v11, xd3, xc3, hk, h⟩
            unfold offshootref03_Dev_Write.j1 at h
            refine FW.wreg1 ?_
            refine FW.lfun (y := .lit (.int .i64 v11)) hk rfl rfl rfl rfl (FW.f_move hk (FW.holds_nil _) rfl) ?_; clear hk; intro a w hk
            refine FW.lfun (y := .lit (.int .i64 (IntKind.wrap .i64 (v11 + 1)))) hk rfl rfl rfl rfl ((FW.f_pure (FW.p_add hk.kn (FW.holds_nil _) rfl rfl))) ?_; clear hk; intro a w hk
            refine FW.lfun (y := .lit (.int .i64 (IntKind.wrap .i64 (v11 + 1)))) hk rfl rfl rfl rfl (FW.f_assign hk (FW.holds_nil _) rfl) ?_; clear hk; intro a w hk
            refine wpList_nil ?_
            (repeat first | refine FW.then_normal ?_ | refine FW.block_normal ?_); exact hK15 (kl1, l3, y1, v1, v2, v10, (IntKind.wrap .i64 (v11 + 1)), xd3, xc3) _ _ (Nat.lt_succ_self _) ⟨hk.sub ⟨rfl, rfl, rfl, rfl, rfl, rfl, rfl, trivial⟩, h⟩
          · intro K' hK18
            refine wp_block ?_
            refine FW.wreg ?_; intro K' hK20
            refine FW.lfun (y := .lit (.pointer (some ⟨bx1, 1, none⟩))) hk rfl rfl rfl rfl (FW.f_fieldPtr hk (FW.holds_nil _) rfl Go.Proofs.Try.underlying65 rfl (by kernel_rfl) rfl) ?_; clear hk; intro a w hk
            refine FW.lfun (y := .row (r_Offshootref03Loose_cells y1.Loose)) hk rfl rfl rfl rfl (FW.f_loadBlk1 hk (FW.holds_nil _) (j := 2) rfl rfl Go.Proofs.Try.underlying62 rfl rfl) ?_; clear hk; intro a w hk
            refine FW.lfun (y := .lit (.int .i64 v11)) hk rfl rfl rfl rfl (FW.f_move hk (FW.holds_nil _) rfl) ?_; clear hk; intro a w hk
            obtain ⟨hc1, h⟩ := FW.chk h
            refine FW.lfun (y := .ref (Offshootref03Loose.cells (List.getD y1.Loose (Int.toNat v11) default))) hk rfl rfl rfl rfl (FW.f_indexAddr (R := r_Offshootref03Loose_cells) (f := Offshootref03Loose.cells) (l := y1.Loose) (sz := 2) r_Offshootref03Loose_cells_eq (fun _ => rfl) hk (FW.holds_nil _) rfl rfl Go.Proofs.Try.underlying62 (by kernel_rfl) hc1) ?_; clear hk; intro a w hk
            refine FW.lfun (y := .agg ((Offshootref03Loose.cells (List.getD y1.Loose (Int.toNat v11) default)))) hk rfl rfl rfl rfl (FW.f_load hk (FW.holds_nil _) rfl Go.Proofs.Try.underlying152 rfl rfl rfl rfl) ?_; clear hk; intro a w hk
            refine FW.l_alloc (zs := (Offshootref03Loose.cells (⟨0, []⟩ : Offshootref03Loose))) [] hk rfl rfl rfl rfl ?_; clear hk; intro bx4 a w hk
            refine FW.l_store (I' := [FW.blk bx4 152 ((Offshootref03Loose.cells (List.getD y1.Loose (Int.toNat v11) default))), FW.orow xd3 xc3 152 2 Offshootref03Loose.cells l3, FW.blk bx2 65 ((Offshootref03Dev.cells (⟨[], [], 0, [], false⟩ : Offshootref03Dev))), FW.blk bx1 65 ((Offshootref03Dev.cells y1))]) (cs' := (Offshootref03Loose.cells (List.getD y1.Loose (Int.toNat v11) default))) (j := 0) hk rfl rfl rfl rfl rfl (by kernel_rfl) rfl rfl ?_; clear hk; intro w hk
            refine FW.lend (hK20 _ _ ?_); clear hK20 K'
            refine FW.wseqJ (fun a w => ∃ (l3 : List Offshootref03Loose) (v1 : Int) (v2 : List UInt8) (v10 : Bool) (v11 : Int) (xd3 : Option Addr) (xc3 : Nat), FW.S M w0 a w 86 [FW.blk bx4 152 ((Offshootref03Loose.cells (List.getD y1.Loose (Int.toNat v11) default))), FW.orow xd3 xc3 152 2 Offshootref03Loose.cells l3, FW.blk bx2 65 ((Offshootref03Dev.cells (⟨[], [], 0, [], false⟩ : Offshootref03Dev))), FW.blk bx1 65 ((Offshootref03Dev.cells y1))] [(1, [], .lit (.int .i64 v1)), (2, [], .lit (.string (FW.B v2))), (3, [], .lit (.pointer (some ⟨bx1, 0, none⟩))), (6, [], .lit (.pointer (some ⟨bx2, 0, none⟩))), (9, [], .lit (.slice xd3 (List.length l3) xc3)), (10, [], .lit (.bool v10)), (11, [], .lit (.int .i64 v11)), (12, [], .lit (.pointer (some ⟨bx4, 0, none⟩)))] ∧ offshootref03_Dev_Write.j2 (offshootref03_Dev_Write.l1 K kl1) K v11 y1 l3 v1 v2 v10 v11 = some r) ?_ ?_
            · clear hk h
              rintro a w ⟨l3, v1, v2, v10, v11, xd3, xc3, hk, h⟩
              unfold offshootref03_Dev_Write.j2 at h
              refine FW.wreg ?_; intro K' hK22
              refine FW.lfun (y := .lit (.pointer (some ⟨bx4, 0, none⟩))) hk rfl rfl rfl rfl (FW.f_fieldPtr hk (FW.holds_nil _) rfl Go.Proofs.Try.underlying152 rfl (by kernel_rfl) rfl) ?_; clear hk; intro a w hk
              refine FW.lfun (y := .lit (.int .i64 ((List.getD y1.Loose (Int.toNat v11) default).At))) hk rfl rfl rfl rfl (FW.f_loadBlk1 hk (FW.holds_nil _) (j := 0) rfl rfl Go.Proofs.Try.underlying3 rfl rfl) ?_; clear hk; intro a w hk
              refine FW.lfun (y := .lit (.int .i64 v1)) hk rfl rfl rfl rfl (FW.f_move hk (FW.holds_nil _) rfl) ?_; clear hk; intro a w hk
              refine FW.lfun (y := .lit (.bool (!decide (((List.getD y1.Loose (Int.toNat v11) default).At) = v1)))) hk rfl rfl rfl rfl ((FW.f_pure (FW.p_neq hk.kn (FW.holds_nil _) rfl rfl))) ?_; clear hk; intro a w hk
              refine FW.lend (hK22 _ _ ?_); clear hK22 K'
              refine FW.wcondF (b := (!decide (((List.getD y1.Loose (Int.toNat v11) default).At) = v1))) hk h rfl (fun h hb => ?_) (fun h hb => ?_)
              · skip
                refine FW.wreg1 ?_
                refine FW.lfun (y := .lit (.slice xd3 (List.length l3) xc3)) hk rfl rfl rfl rfl (FW.f_move hk (FW.holds_nil _) rfl) ?_; clear hk; intro a w hk
                refine FW.lfun (y := .agg ((Offshootref03Loose.cells (List.getD y1.Loose (Int.toNat v11) default)))) hk rfl rfl rfl rfl (FW.f_loadBlk hk (FW.holds_nil _) (j := 0) rfl rfl Go.Proofs.Try.underlying152 rfl rfl rfl rfl) ?_; clear hk; intro a w hk
                refine FW.l_buildSlice (f := Offshootref03Loose.cells) (l := ([(List.getD y1.Loose (Int.toNat v11) default)] : List Offshootref03Loose)) hk rfl rfl rfl Go.Proofs.Try.underlying62 rfl rfl rfl rfl (fun _ => rfl) rfl ?_; clear hk; intro bx5 a w hk
                obtain ⟨hc2, h⟩ := FW.chk h
                refine FW.l_append (l2 := ([(List.getD y1.Loose (Int.toNat v11) default)] : List Offshootref03Loose)) (l3 := (l3 ++ ([(List.getD y1.Loose (Int.toNat v11) default)] : List Offshootref03Loose))) (I' := fun ad1 cap1 => [FW.orow (some ⟨bx5, 0, none⟩) 1 152 2 Offshootref03Loose.cells ([(List.getD y1.Loose (Int.toNat v11) default)] : List Offshootref03Loose), FW.blk bx4 152 ((Offshootref03Loose.cells (List.getD y1.Loose (Int.toNat v11) default))), FW.orow ad1 cap1 152 2 Offshootref03Loose.cells (l3 ++ ([(List.getD y1.Loose (Int.toNat v11) default)] : List Offshootref03Loose)), FW.blk bx2 65 ((Offshootref03Dev.cells (⟨[], [], 0, [], false⟩ : Offshootref03Dev))), FW.blk bx1 65 ((Offshootref03Dev.cells y1))]) (j := 2) hk rfl rfl rfl rfl (FW.own_src hk (j := 0) rfl rfl (fun _ => rfl) Go.Proofs.Try.underlying62) Go.Proofs.Try.underlying62 (by kernel_rfl) hc2 rfl (fun _ _ => rfl) ?_; clear hk; intro ad1 cap1 a w hk
                replace hk := FW.S.dropI (I' := [FW.blk bx4 152 ((Offshootref03Loose.cells (List.getD y1.Loose (Int.toNat v11) default))), FW.orow ad1 cap1 152 2 Offshootref03Loose.cells (l3 ++ ([(List.getD y1.Loose (Int.toNat v11) default)] : List Offshootref03Loose)), FW.blk bx2 65 ((Offshootref03Dev.cells (⟨[], [], 0, [], false⟩ : Offshootref03Dev))), FW.blk bx1 65 ((Offshootref03Dev.cells y1))]) hk 0 rfl
                refine FW.lfun (y := .lit (.slice ad1 (List.length (l3 ++ ([(List.getD y1.Loose (Int.toNat v11) default)] : List Offshootref03Loose))) cap1)) hk rfl rfl rfl rfl (FW.f_assign hk (FW.holds_nil _) rfl) ?_; clear hk; intro a w hk
                refine wpList_nil ?_
                (repeat first | refine FW.then_normal ?_ | refine FW.block_normal ?_); exact hK18 _ _ ⟨(l3 ++ ([(List.getD y1.Loose (Int.toNat v11) default)] : List Offshootref03Loose)), v1, v2, v10, v11, ad1, cap1, (hk.drop 0).sub ⟨rfl, rfl, rfl, rfl, rfl, rfl, rfl, trivial⟩, h⟩
              · skip
                refine wp_skip ?_
                (repeat first | refine FW.then_normal ?_ | refine FW.block_normal ?_); exact hK18 _ _ ⟨l3, v1, v2, v10, v11, xd3, xc3, (hk.drop 0).sub ⟨rfl, rfl, rfl, rfl, rfl, rfl, rfl, trivial⟩, h⟩
            · intro K' hK21
              refine FW.wreg ?_; intro K' hK24
              refine FW.lfun (y := .lit (.bool v10)) hk rfl rfl rfl rfl (FW.f_move hk (FW.holds_nil _) rfl) ?_; clear hk; intro a w hk
              refine FW.lfun (y := .lit (.bool (!v10))) hk rfl rfl rfl rfl ((FW.f_pure (FW.p_not hk.kn (FW.holds_nil _) rfl))) ?_; clear hk; intro a w hk
              refine FW.lfun (y := .lit (.bool (!v10))) hk rfl rfl rfl rfl (FW.f_move hk (FW.holds_nil _) rfl) ?_; clear hk; intro a w hk
              refine FW.lfunG (y := .lit (.pointer (some ⟨bx4, 0, none⟩))) hk rfl rfl rfl rfl rfl rfl rfl rfl (fun hc => FW.f_fieldPtr hk hc rfl Go.Proofs.Try.underlying152 rfl (by kernel_rfl) rfl) ?_; clear hk; intro a w hk
              refine FW.lfunG (y := .lit (.int .i64 ((List.getD y1.Loose (Int.toNat v11) default).At))) hk rfl rfl rfl rfl rfl rfl rfl rfl (fun hc => FW.f_loadBlk1 hk hc (j := 0) rfl rfl Go.Proofs.Try.underlying3 rfl rfl) ?_; clear hk; intro a w hk
              refine FW.lfunG (y := .lit (.int .i64 v1)) hk rfl rfl rfl rfl rfl rfl rfl rfl (fun hc => FW.f_move hk hc rfl) ?_; clear hk; intro a w hk
              refine FW.lfunG (y := .lit (.bool (decide (v1 ≤ ((List.getD y1.Loose (Int.toNat v11) default).At))))) hk rfl rfl rfl rfl rfl rfl rfl rfl (fun hc => (FW.f_pure (FW.p_geq hk.kn hc rfl rfl))) ?_; clear hk; intro a w hk
              refine FW.lfun (y := .lit (.bool ((!v10) && (decide (v1 ≤ ((List.getD y1.Loose (Int.toNat v11) default).At)))))) hk rfl rfl rfl rfl ((FW.f_pure (FW.p_pick_and hk.kn (FW.holds_nil _) rfl rfl))) ?_; clear hk; intro a w hk
              refine FW.lend (hK24 _ _ ?_); clear hK24 K'
              refine FW.wcondF (b := ((!v10) && (decide (v1 ≤ ((List.getD y1.Loose (Int.toNat v11) default).At))))) hk h rfl (fun h hb => ?_) (fun h hb => ?_)
              · skip
                refine FW.wreg1 ?_
                refine FW.lfun (y := .lit (.slice xd3 (List.length l3) xc3)) hk rfl rfl rfl rfl (FW.f_move hk (FW.holds_nil _) rfl) ?_; clear hk; intro a w hk
                refine FW.lfun (y := .lit (.int .i64 v1)) hk rfl rfl rfl rfl (FW.f_move hk (FW.holds_nil _) rfl) ?_; clear hk; intro a w hk
                refine FW.lfun (y := .lit (.string (FW.B v2))) hk rfl rfl rfl rfl (FW.f_move hk (FW.holds_nil _) rfl) ?_; clear hk; intro a w hk
                refine FW.lfun (y := .agg ((Offshootref03Loose.cells (⟨v1, v2⟩ : Offshootref03Loose)))) hk rfl rfl rfl rfl (FW.f_build hk (FW.holds_nil _) rfl rfl) ?_; clear hk; intro a w hk
                refine FW.l_buildSlice (f := Offshootref03Loose.cells) (l := ([(⟨v1, v2⟩ : Offshootref03Loose)] : List Offshootref03Loose)) hk rfl rfl rfl Go.Proofs.Try.underlying62 rfl rfl rfl rfl (fun _ => rfl) rfl ?_; clear hk; intro bx6 a w hk
                obtain ⟨hc3, h⟩ := FW.chk h
                refine FW.l_append (l2 := ([(⟨v1, v2⟩ : Offshootref03Loose)] : List Offshootref03Loose)) (l3 := (l3 ++ ([(⟨v1, v2⟩ : Offshootref03Loose)] : List Offshootref03Loose))) (I' := fun ad2 cap2 => [FW.orow (some ⟨bx6, 0, none⟩) 1 152 2 Offshootref03Loose.cells ([(⟨v1, v2⟩ : Offshootref03Loose)] : List Offshootref03Loose), FW.blk bx4 152 ((Offshootref03Loose.cells (List.getD y1.Loose (Int.toNat v11) default))), FW.orow ad2 cap2 152 2 Offshootref03Loose.cells (l3 ++ ([(⟨v1, v2⟩ : Offshootref03Loose)] : List Offshootref03Loose)), FW.blk bx2 65 ((Offshootref03Dev.cells (⟨[], [], 0, [], false⟩ : Offshootref03Dev))), FW.blk bx1 65 ((Offshootref03Dev.cells y1))]) (j := 2) hk rfl rfl rfl rfl (FW.own_src hk (j := 0) rfl rfl (fun _ => rfl) Go.Proofs.Try.underlying62) Go.Proofs.Try.underlying62 (by kernel_rfl) hc3 rfl (fun _ _ => rfl) ?_; clear hk; intro ad2 cap2 a w hk
                replace hk := FW.S.dropI (I' := [FW.blk bx4 152 ((Offshootref03Loose.cells (List.getD y1.Loose (Int.toNat v11) default))), FW.orow ad2 cap2 152 2 Offshootref03Loose.cells (l3 ++ ([(⟨v1, v2⟩ : Offshootref03Loose)] : List Offshootref03Loose)), FW.blk bx2 65 ((Offshootref03Dev.cells (⟨[], [], 0, [], false⟩ : Offshootref03Dev))), FW.blk bx1 65 ((Offshootref03Dev.cells y1))]) hk 0 rfl
                refine FW.lfun (y := .lit (.slice ad2 (List.length (l3 ++ ([(⟨v1, v2⟩ : Offshootref03Loose)] : List Offshootref03Loose))) cap2)) hk rfl rfl rfl rfl (FW.f_assign hk (FW.holds_nil _) rfl) ?_; clear hk; intro a w hk
                refine FW.lfun (y := .lit (.bool true)) hk rfl rfl rfl rfl (FW.f_assign hk (FW.holds_nil _) rfl) ?_; clear hk; intro a w hk
                refine wpList_nil ?_
                (repeat first | refine FW.then_normal ?_ | refine FW.block_normal ?_); exact hK21 _ _ ⟨(l3 ++ ([(⟨v1, v2⟩ : Offshootref03Loose)] : List Offshootref03Loose)), v1, v2, true, v11, ad2, cap2, hk.sub ⟨rfl, rfl, rfl, rfl, rfl, rfl, rfl, rfl, trivial⟩, h⟩
              · skip
                refine wp_skip ?_
                (repeat first | refine FW.then_normal ?_ | refine FW.block_normal ?_); exact hK21 _ _ ⟨l3, v1, v2, v10, v11, xd3, xc3, hk.sub ⟨rfl, rfl, rfl, rfl, rfl, rfl, rfl, rfl, trivial⟩, h⟩
        · skip
          refine wp_exit ?_; (repeat first | refine FW.then_exit ?_ | refine FW.block_exit_ne rfl ?_); refine FW.block_exit ?_
          (repeat first | refine FW.then_normal ?_ | refine FW.block_normal ?_); refine hK13 _ _ ?_
          refine FW.wseqJ (fun a w => ∃ (l3 : List Offshootref03Loose) (xd3 : Option Addr) (xc3 : Nat), FW.S M w0 a w 86 [FW.orow xd3 xc3 152 2 Offshootref03Loose.cells l3, FW.blk bx2 65 ((Offshootref03Dev.cells (⟨[], [], 0, [], false⟩ : Offshootref03Dev))), FW.blk bx1 65 ((Offshootref03Dev.cells y1))] [(3, [], .lit (.pointer (some ⟨bx1, 0, none⟩))), (6, [], .lit (.pointer (some ⟨bx2, 0, none⟩))), (9, [], .lit (.slice xd3 (List.length l3) xc3))] ∧ offshootref03_Dev_Write.j3 (offshootref03_Dev_Write.l1 K kl1) K y1 l3 = some r) ?_ ?_
          · clear hk h
            rintro a w ⟨l3, xd3, xc3, hk, h⟩
            unfold offshootref03_Dev_Write.j3 at h
            refine FW.wreg ?_; intro K' hK27
            refine FW.lfun (y := .lit (.slice xd3 (List.length l3) xc3)) hk rfl rfl rfl rfl (FW.f_move hk (FW.holds_nil _) rfl) ?_; clear hk; intro a w hk
            refine FW.lfun (y := .lit (.pointer (some ⟨bx1, 1, none⟩))) hk rfl rfl rfl rfl (FW.f_fieldPtr hk (FW.holds_nil _) rfl Go.Proofs.Try.underlying65 rfl (by kernel_rfl) rfl) ?_; clear hk; intro a w hk
            replace hk := FW.S.freezeR (I' := [FW.blk bx2 65 ((Offshootref03Dev.cells (⟨[], [], 0, [], false⟩ : Offshootref03Dev))), FW.blk bx1 65 ((Offshootref03Dev.cells y1))]) r_Offshootref03Loose_cells_eq hk (j := 0) rfl (t := 83) rfl rfl
            refine FW.l_store (I' := [FW.blk bx2 65 ((Offshootref03Dev.cells (⟨[], [], 0, [], false⟩ : Offshootref03Dev))), FW.blk bx1 65 ((Offshootref03Dev.cells (⟨y1.Sure, l3, y1.Steps, y1.Falls, y1.Off⟩ : Offshootref03Dev)))]) (cs' := (Offshootref03Dev.cells (⟨y1.Sure, l3, y1.Steps, y1.Falls, y1.Off⟩ : Offshootref03Dev))) (j := 1) hk rfl rfl rfl rfl rfl (by kernel_rfl) rfl rfl ?_; clear hk; intro w hk
            refine FW.lend (hK27 _ _ ?_); clear hK27 K'
            refine FW.wreg ?_; intro K' hK28
            refine FW.lfun (y := .agg ((Offshootref03Dev.cells (⟨y1.Sure, l3, y1.Steps, y1.Falls, y1.Off⟩ : Offshootref03Dev)))) hk rfl rfl rfl rfl (FW.f_loadBlk hk (FW.holds_nil _) (j := 1) rfl rfl Go.Proofs.Try.underlying65 rfl rfl rfl rfl) ?_; clear hk; intro a w hk
            refine FW.l_store (I' := [FW.blk bx2 65 ((Offshootref03Dev.cells (⟨y1.Sure, l3, y1.Steps, y1.Falls, y1.Off⟩ : Offshootref03Dev))), FW.blk bx1 65 ((Offshootref03Dev.cells (⟨y1.Sure, l3, y1.Steps, y1.Falls, y1.Off⟩ : Offshootref03Dev)))]) (cs' := (Offshootref03Dev.cells (⟨y1.Sure, l3, y1.Steps, y1.Falls, y1.Off⟩ : Offshootref03Dev))) (j := 0) hk rfl rfl rfl rfl rfl (by kernel_rfl) rfl rfl ?_; clear hk; intro w hk
            refine FW.lfun (y := .lit (.int .i64 0)) hk rfl rfl rfl rfl (FW.f_assign hk (FW.holds_nil _) rfl) ?_; clear hk; intro a w hk
            refine FW.lend (hK28 _ _ ?_); clear hK28 K'
            refine wp_ret ?_
            (repeat first | refine FW.then_ret ?_ | refine FW.block_ret ?_)
            obtain rfl := Option.some.inj h
            exact FW.fretR2 hk rfl (FW.rcell hk rfl (j := 0) rfl Go.Proofs.Try.underlying65 rfl (by kernel_rfl)) (FW.rtmp hk rfl)
          · intro K' hK26
            refine FW.wreg ?_; intro K' hK29
            refine FW.lfun (y := .lit (.bool v10)) hk rfl rfl rfl rfl (FW.f_move hk (FW.holds_nil _) rfl) ?_; clear hk; intro a w hk
            refine FW.lfun (y := .lit (.bool (!v10))) hk rfl rfl rfl rfl ((FW.f_pure (FW.p_not hk.kn (FW.holds_nil _) rfl))) ?_; clear hk; intro a w hk
            refine FW.lend (hK29 _ _ ?_); clear hK29 K'
            refine FW.wcondF (b := (!v10)) hk h rfl (fun h hb => ?_) (fun h hb => ?_)
            · skip
              refine FW.wreg1 ?_
              refine FW.lfun (y := .lit (.slice xd3 (List.length l3) xc3)) hk rfl rfl rfl rfl (FW.f_move hk (FW.holds_nil _) rfl) ?_; clear hk; intro a w hk
              refine FW.lfun (y := .lit (.int .i64 v1)) hk rfl rfl rfl rfl (FW.f_move hk (FW.holds_nil _) rfl) ?_; clear hk; intro a w hk
              refine FW.lfun (y := .lit (.string (FW.B v2))) hk rfl rfl rfl rfl (FW.f_move hk (FW.holds_nil _) rfl) ?_; clear hk; intro a w hk
              refine FW.lfun (y := .agg ((Offshootref03Loose.cells (⟨v1, v2⟩ : Offshootref03Loose)))) hk rfl rfl rfl rfl (FW.f_build hk (FW.holds_nil _) rfl rfl) ?_; clear hk; intro a w hk
              refine FW.l_buildSlice (f := Offshootref03Loose.cells) (l := ([(⟨v1, v2⟩ : Offshootref03Loose)] : List Offshootref03Loose)) hk rfl rfl rfl Go.Proofs.Try.underlying62 rfl rfl rfl rfl (fun _ => rfl) rfl ?_; clear hk; intro bx7 a w hk
              obtain ⟨hc4, h⟩ := FW.chk h
              refine FW.l_append (l2 := ([(⟨v1, v2⟩ : Offshootref03Loose)] : List Offshootref03Loose)) (l3 := (l3 ++ ([(⟨v1, v2⟩ : Offshootref03Loose)] : List Offshootref03Loose))) (I' := fun ad3 cap3 => [FW.orow (some ⟨bx7, 0, none⟩) 1 152 2 Offshootref03Loose.cells ([(⟨v1, v2⟩ : Offshootref03Loose)] : List Offshootref03Loose), FW.orow ad3 cap3 152 2 Offshootref03Loose.cells (l3 ++ ([(⟨v1, v2⟩ : Offshootref03Loose)] : List Offshootref03Loose)), FW.blk bx2 65 ((Offshootref03Dev.cells (⟨[], [], 0, [], false⟩ : Offshootref03Dev))), FW.blk bx1 65 ((Offshootref03Dev.cells y1))]) (j := 1) hk rfl rfl rfl rfl (FW.own_src hk (j := 0) rfl rfl (fun _ => rfl) Go.Proofs.Try.underlying62) Go.Proofs.Try.underlying62 (by kernel_rfl) hc4 rfl (fun _ _ => rfl) ?_; clear hk; intro ad3 cap3 a w hk
              replace hk := FW.S.dropI (I' := [FW.orow ad3 cap3 152 2 Offshootref03Loose.cells (l3 ++ ([(⟨v1, v2⟩ : Offshootref03Loose)] : List Offshootref03Loose)), FW.blk bx2 65 ((Offshootref03Dev.cells (⟨[], [], 0, [], false⟩ : Offshootref03Dev))), FW.blk bx1 65 ((Offshootref03Dev.cells y1))]) hk 0 rfl
              refine FW.lfun (y := .lit (.slice ad3 (List.length (l3 ++ ([(⟨v1, v2⟩ : Offshootref03Loose)] : List Offshootref03Loose))) cap3)) hk rfl rfl rfl rfl (FW.f_assign hk (FW.holds_nil _) rfl) ?_; clear hk; intro a w hk
              refine wpList_nil ?_
              (repeat first | refine FW.then_normal ?_ | refine FW.block_normal ?_); exact hK26 _ _ ⟨(l3 ++ ([(⟨v1, v2⟩ : Offshootref03Loose)] : List Offshootref03Loose)), ad3, cap3, hk.sub ⟨rfl, rfl, rfl, trivial⟩, h⟩
            · skip
              refine wp_skip ?_
              (repeat first | refine FW.then_normal ?_ | refine FW.block_normal ?_); exact hK26 _ _ ⟨l3, xd3, xc3, hk.sub ⟨rfl, rfl, rfl, trivial⟩, h⟩
end Go.Proofs.Ytimaibcaehagjaa

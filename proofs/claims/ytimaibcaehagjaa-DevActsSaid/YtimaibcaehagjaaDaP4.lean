/- Written by a program of this session (gen.py): the contracts of functions of the program. -/
import Derived.KernelRfl
import Derived.Test.YtimaibcaehagjaaProg
import Derived.Test.YtimaibcaehagjaaAvFun
import Derived.Test.YtimaibcaehagjaaAvMan
import Derived.Test.YtimaibcaehagjaaAvMore
import Derived.Test.YtimaibcaehagjaaAvDraw2
import Derived.Test.YtimaibcaehagjaaAvRow
import Derived.Test.YtimaibcaehagjaaHn
import Derived.Test.YtimaibcaehagjaaHg
import Derived.Test.YtimaibcaehagjaaHar
import Derived.Test.YtimaibcaehagjaaHc
import Derived.Test.YtimaibcaehagjaaFx
import Derived.Test.YtimaibcaehagjaaDxP1
import Derived.Test.YtimaibcaehagjaaFy2
import Derived.Test.YtimaibcaehagjaaDaD
import Derived.Test.YtimaibcaehagjaaDaP3
namespace Go.Proofs.Ytimaibcaehagjaa
set_option linter.unusedVariables false
set_option maxRecDepth 20000
set_option maxHeartbeats 10000000
theorem offshootref03_Dev_Read.ok (K : Nat) (v0 : Offshootref03Dev) (v1 : Int) (r : List UInt8 × Int) (h : offshootref03_Dev_Read.f K v0 v1 = some r) :
    FW.Ok Go.Proofs.Try.prog 69 [.agg (Offshootref03Dev.cells v0), .lit (.int .i64 v1)] (.tup [.lit (.string (FW.B r.1)), .lit (.int .i64 r.2)]) := by
  refine FW.enter (xs := [.agg (Offshootref03Dev.cells v0), .lit (.int .i64 v1)]) Go.Proofs.Try.func69 rfl Go.Proofs.Try.ntmps69 rfl ?_
  intro M w0 a hk
  unfold offshootref03_Dev_Read.f at h
  refine FW.wreg ?_; intro K' hK1
  refine FW.l_box (cs := (Offshootref03Dev.cells v0)) hk rfl rfl rfl rfl rfl ?_; clear hk; intro bx1 a w hk
  refine FW.lfun (y := .lit (.string (FW.B ([] : List UInt8)))) hk rfl rfl rfl rfl (FW.f_assign hk (FW.holds_nil _) rfl) ?_; clear hk; intro a w hk
  refine FW.lfun (y := .lit (.int .i64 0)) hk rfl rfl rfl rfl (FW.f_assign hk (FW.holds_nil _) rfl) ?_; clear hk; intro a w hk
  refine FW.lend (hK1 _ _ ?_); clear hK1 K'
  refine FW.wseq ?_; intro K' hK2
  refine FW.wreg ?_; intro K' hK3
  refine FW.lfun (y := .lit (.pointer (some ⟨bx1, 4, none⟩))) hk rfl rfl rfl rfl (FW.f_fieldPtr hk (FW.holds_nil _) rfl Go.Proofs.Try.underlying65 rfl (by kernel_rfl) rfl) ?_; clear hk; intro a w hk
  refine FW.lfun (y := .lit (.bool v0.Off)) hk rfl rfl rfl rfl (FW.f_loadBlk1 hk (FW.holds_nil _) (j := 0) rfl rfl Go.Proofs.Try.underlying4 rfl rfl) ?_; clear hk; intro a w hk
  refine FW.lend (hK3 _ _ ?_); clear hK3 K'
  refine FW.wcondF (b := v0.Off) hk h rfl (fun h hb => ?_) (fun h hb => ?_)
  · skip
    refine FW.wreg ?_; intro K' hK4
    refine FW.lfun (y := .lit (.string (FW.B ([] : List UInt8)))) hk rfl rfl rfl rfl (FW.f_assign hk (FW.holds_nil _) rfl) ?_; clear hk; intro a w hk
    refine FW.lfun (y := .lit (.int .i64 7)) hk rfl rfl rfl rfl (FW.f_assign hk (FW.holds_nil _) rfl) ?_; clear hk; intro a w hk
    refine FW.lend (hK4 _ _ ?_); clear hK4 K'
    refine wp_ret ?_
    (repeat first | refine FW.then_ret ?_ | refine FW.block_ret ?_)
    obtain rfl := Option.some.inj h
    exact FW.fret2 hk rfl rfl rfl
  · skip
    refine wp_skip ?_
    (repeat first | refine FW.then_normal ?_ | refine FW.block_normal ?_); refine hK2 _ _ ?_
    refine FW.wseq ?_; intro K' hK5
    refine FW.wreg ?_; intro K' hK6
    refine FW.lfun (y := .lit (.int .i64 v1)) hk rfl rfl rfl rfl (FW.f_move hk (FW.holds_nil _) rfl) ?_; clear hk; intro a w hk
    refine FW.lfun (y := .lit (.bool (decide (v1 < 0)))) hk rfl rfl rfl rfl ((FW.f_pure (FW.p_lss hk.kn (FW.holds_nil _) rfl rfl))) ?_; clear hk; intro a w hk
    refine FW.lfun (y := .lit (.bool (decide (v1 < 0)))) hk rfl rfl rfl rfl (FW.f_move hk (FW.holds_nil _) rfl) ?_; clear hk; intro a w hk
    refine FW.lfunG (y := .lit (.int .i64 v1)) hk rfl rfl rfl rfl rfl rfl rfl rfl (fun hc => FW.f_move hk hc rfl) ?_; clear hk; intro a w hk
    refine FW.lfunG (y := .lit (.pointer (some ⟨bx1, 0, none⟩))) hk rfl rfl rfl rfl rfl rfl rfl rfl (fun hc => FW.f_fieldPtr hk hc rfl Go.Proofs.Try.underlying65 rfl (by kernel_rfl) rfl) ?_; clear hk; intro a w hk
    refine FW.lfunG (y := .row (r_c_str v0.Sure)) hk rfl rfl rfl rfl rfl rfl rfl rfl (fun hc => FW.f_loadBlk1 hk hc (j := 0) rfl rfl Go.Proofs.Try.underlying61 rfl rfl) ?_; clear hk; intro a w hk
    refine FW.lfunG (y := .lit (.int .i64 (List.length v0.Sure : Int))) hk rfl rfl rfl rfl rfl rfl rfl rfl (fun hc => FW.f_len (R := r_c_str) (f := c_str) (l := v0.Sure) r_c_str_eq Go.Proofs.Try.underlying61 hk hc rfl) ?_; clear hk; intro a w hk
    refine FW.lfunG (y := .lit (.bool (decide ((List.length v0.Sure : Int) ≤ v1)))) hk rfl rfl rfl rfl rfl rfl rfl rfl (fun hc => (FW.f_pure (FW.p_geq hk.kn hc rfl rfl))) ?_; clear hk; intro a w hk
    refine FW.lfun (y := .lit (.bool ((decide (v1 < 0)) || (decide ((List.length v0.Sure : Int) ≤ v1))))) hk rfl rfl rfl rfl ((FW.f_pure (FW.p_pick_or hk.kn (FW.holds_nil _) rfl rfl))) ?_; clear hk; intro a w hk
    refine FW.lend (hK6 _ _ ?_); clear hK6 K'
    refine FW.wcondF (b := ((decide (v1 < 0)) || (decide ((List.length v0.Sure : Int) ≤ v1)))) hk h rfl (fun h hb => ?_) (fun h hb => ?_)
    · skip
      refine FW.wreg ?_; intro K' hK7
      refine FW.lfun (y := .lit (.string (FW.B ([] : List UInt8)))) hk rfl rfl rfl rfl (FW.f_assign hk (FW.holds_nil _) rfl) ?_; clear hk; intro a w hk
      refine FW.lfun (y := .lit (.int .i64 1)) hk rfl rfl rfl rfl (FW.f_assign hk (FW.holds_nil _) rfl) ?_; clear hk; intro a w hk
      refine FW.lend (hK7 _ _ ?_); clear hK7 K'
      refine wp_ret ?_
      (repeat first | refine FW.then_ret ?_ | refine FW.block_ret ?_)
      obtain rfl := Option.some.inj h
      exact FW.fret2 hk rfl rfl rfl
    · skip
      refine wp_skip ?_
      (repeat first | refine FW.then_normal ?_ | refine FW.block_normal ?_); refine hK5 _ _ ?_
      refine FW.wseq ?_; intro K' hK8
      refine FW.wreg ?_; intro K' hK9
      refine FW.lfun (y := .lit (.int .i64 0)) hk rfl rfl rfl rfl (FW.f_assign hk (FW.holds_nil _) rfl) ?_; clear hk; intro a w hk
      refine FW.lend (hK9 _ _ ?_); clear hK9 K'
      refine wp_block ?_
      refine FW.wloop (T := Nat × Offshootref03Dev × Int × Int) (fun x a w => match x with | (kl1, y1, v1, v6) => FW.S M w0 a w 44 [FW.blk bx1 65 ((Offshootref03Dev.cells y1))] [(1, [], .lit (.int .i64 v1)), (2, [], .lit (.pointer (some ⟨bx1, 0, none⟩))), (6, [], .lit (.int .i64 v6))] ∧ offshootref03_Dev_Read.l1 K kl1 y1 v1 v6 = some r) (fun x => x.1) (K, v0, v1, 0) ⟨hk.sub ⟨rfl, rfl, rfl, trivial⟩, h⟩ ?_
      clear hk h
      rintro ⟨kl1, y1, v1, v6⟩ a w ⟨hk, h⟩ K' hK10
      cases kl1 with
      | zero => simp [offshootref03_Dev_Read.l1] at h
      | succ kl1 =>
      rw [offshootref03_Dev_Read.l1.eq_2] at h
      refine FW.wseq ?_; intro K' hK11
      refine FW.wreg ?_; intro K' hK12
      refine FW.lfun (y := .lit (.int .i64 v6)) hk rfl rfl rfl rfl (FW.f_move hk (FW.holds_nil _) rfl) ?_; clear hk; intro a w hk
      refine FW.lfun (y := .lit (.pointer (some ⟨bx1, 1, none⟩))) hk rfl rfl rfl rfl (FW.f_fieldPtr hk (FW.holds_nil _) rfl Go.Proofs.Try.underlying65 rfl (by kernel_rfl) rfl) ?_; clear hk; intro a w hk
      refine FW.lfun (y := .row (r_Offshootref03Loose_cells y1.Loose)) hk rfl rfl rfl rfl (FW.f_loadBlk1 hk (FW.holds_nil _) (j := 0) rfl rfl Go.Proofs.Try.underlying62 rfl rfl) ?_; clear hk; intro a w hk
      refine FW.lfun (y := .lit (.int .i64 (List.length y1.Loose : Int))) hk rfl rfl rfl rfl (FW.f_len (R := r_Offshootref03Loose_cells) (f := Offshootref03Loose.cells) (l := y1.Loose) r_Offshootref03Loose_cells_eq Go.Proofs.Try.underlying62 hk (FW.holds_nil _) rfl) ?_; clear hk; intro a w hk
      refine FW.lfun (y := .lit (.bool (decide (v6 < (List.length y1.Loose : Int))))) hk rfl rfl rfl rfl ((FW.f_pure (FW.p_lss hk.kn (FW.holds_nil _) rfl rfl))) ?_; clear hk; intro a w hk
      refine FW.lend (hK12 _ _ ?_); clear hK12 K'
      refine FW.wcondF (b := (decide (v6 < (List.length y1.Loose : Int)))) hk h rfl (fun h hb => ?_) (fun h hb => ?_)
      · skip
        refine wp_skip ?_
        (repeat first | refine FW.then_normal ?_ | refine FW.block_normal ?_); refine hK11 _ _ ?_
        refine FW.wseq ?_; intro K' hK13
        refine wp_block ?_
        refine FW.wreg ?_; intro K' hK14
        refine FW.lfun (y := .lit (.pointer (some ⟨bx1, 1, none⟩))) hk rfl rfl rfl rfl (FW.f_fieldPtr hk (FW.holds_nil _) rfl Go.Proofs.Try.underlying65 rfl (by kernel_rfl) rfl) ?_; clear hk; intro a w hk
        refine FW.lfun (y := .row (r_Offshootref03Loose_cells y1.Loose)) hk rfl rfl rfl rfl (FW.f_loadBlk1 hk (FW.holds_nil _) (j := 0) rfl rfl Go.Proofs.Try.underlying62 rfl rfl) ?_; clear hk; intro a w hk
        refine FW.lfun (y := .lit (.int .i64 v6)) hk rfl rfl rfl rfl (FW.f_move hk (FW.holds_nil _) rfl) ?_; clear hk; intro a w hk
        obtain ⟨hc1, h⟩ := FW.chk h
        refine FW.lfun (y := .ref (Offshootref03Loose.cells (List.getD y1.Loose (Int.toNat v6) default))) hk rfl rfl rfl rfl (FW.f_indexAddr (R := r_Offshootref03Loose_cells) (f := Offshootref03Loose.cells) (l := y1.Loose) (sz := 2) r_Offshootref03Loose_cells_eq (fun _ => rfl) hk (FW.holds_nil _) rfl rfl Go.Proofs.Try.underlying62 (by kernel_rfl) hc1) ?_; clear hk; intro a w hk
        refine FW.lfun (y := .ref (List.drop 0 (Offshootref03Loose.cells (List.getD y1.Loose (Int.toNat v6) default)))) hk rfl rfl rfl rfl (FW.f_fieldAddr hk (FW.holds_nil _) rfl Go.Proofs.Try.underlying152 rfl (by kernel_rfl) rfl) ?_; clear hk; intro a w hk
        refine FW.lfun (y := .lit (.int .i64 ((List.getD y1.Loose (Int.toNat v6) default).At))) hk rfl rfl rfl rfl (FW.f_load1 hk (FW.holds_nil _) rfl rfl Go.Proofs.Try.underlying3 rfl) ?_; clear hk; intro a w hk
        refine FW.lfun (y := .lit (.int .i64 v1)) hk rfl rfl rfl rfl (FW.f_move hk (FW.holds_nil _) rfl) ?_; clear hk; intro a w hk
        refine FW.lfun (y := .lit (.bool (decide (((List.getD y1.Loose (Int.toNat v6) default).At) = v1)))) hk rfl rfl rfl rfl ((FW.f_pure (FW.p_eql hk.kn (FW.holds_nil _) rfl rfl))) ?_; clear hk; intro a w hk
        refine FW.lend (hK14 _ _ ?_); clear hK14 K'
        refine FW.wcondF (b := (decide (((List.getD y1.Loose (Int.toNat v6) default).At) = v1))) hk h rfl (fun h hb => ?_) (fun h hb => ?_)
        · skip
          refine FW.wreg ?_; intro K' hK15
          refine FW.lfun (y := .lit (.pointer (some ⟨bx1, 1, none⟩))) hk rfl rfl rfl rfl (FW.f_fieldPtr hk (FW.holds_nil _) rfl Go.Proofs.Try.underlying65 rfl (by kernel_rfl) rfl) ?_; clear hk; intro a w hk
          refine FW.lfun (y := .row (r_Offshootref03Loose_cells y1.Loose)) hk rfl rfl rfl rfl (FW.f_loadBlk1 hk (FW.holds_nil _) (j := 0) rfl rfl Go.Proofs.Try.underlying62 rfl rfl) ?_; clear hk; intro a w hk
          refine FW.lfun (y := .lit (.int .i64 v6)) hk rfl rfl rfl rfl (FW.f_move hk (FW.holds_nil _) rfl) ?_; clear hk; intro a w hk
          obtain ⟨hc2, h⟩ := FW.chk h
          refine FW.lfun (y := .ref (Offshootref03Loose.cells (List.getD y1.Loose (Int.toNat v6) default))) hk rfl rfl rfl rfl (FW.f_indexAddr (R := r_Offshootref03Loose_cells) (f := Offshootref03Loose.cells) (l := y1.Loose) (sz := 2) r_Offshootref03Loose_cells_eq (fun _ => rfl) hk (FW.holds_nil _) rfl rfl Go.Proofs.Try.underlying62 (by kernel_rfl) hc2) ?_; clear hk; intro a w hk
          refine FW.lfun (y := .ref (List.drop 1 (Offshootref03Loose.cells (List.getD y1.Loose (Int.toNat v6) default)))) hk rfl rfl rfl rfl (FW.f_fieldAddr hk (FW.holds_nil _) rfl Go.Proofs.Try.underlying152 rfl (by kernel_rfl) rfl) ?_; clear hk; intro a w hk
          refine FW.lfun (y := .lit (.string (FW.B ((List.getD y1.Loose (Int.toNat v6) default).S)))) hk rfl rfl rfl rfl (FW.f_load1 hk (FW.holds_nil _) rfl rfl Go.Proofs.Try.underlying9 rfl) ?_; clear hk; intro a w hk
          refine FW.lfun (y := .lit (.string (FW.B ((List.getD y1.Loose (Int.toNat v6) default).S)))) hk rfl rfl rfl rfl (FW.f_assign hk (FW.holds_nil _) rfl) ?_; clear hk; intro a w hk
          refine FW.lfun (y := .lit (.int .i64 0)) hk rfl rfl rfl rfl (FW.f_assign hk (FW.holds_nil _) rfl) ?_; clear hk; intro a w hk
          refine FW.lend (hK15 _ _ ?_); clear hK15 K'
          refine wp_ret ?_
          (repeat first | refine FW.then_ret ?_ | refine FW.block_ret ?_)
          obtain rfl := Option.some.inj h
          exact FW.fret2 hk rfl rfl rfl
        · skip
          refine wp_skip ?_
          (repeat first | refine FW.then_normal ?_ | refine FW.block_normal ?_); refine hK13 _ _ ?_
          refine FW.wreg1 ?_
          refine FW.lfun (y := .lit (.int .i64 v6)) hk rfl rfl rfl rfl (FW.f_move hk (FW.holds_nil _) rfl) ?_; clear hk; intro a w hk
          refine FW.lfun (y := .lit (.int .i64 (IntKind.wrap .i64 (v6 + 1)))) hk rfl rfl rfl rfl ((FW.f_pure (FW.p_add hk.kn (FW.holds_nil _) rfl rfl))) ?_; clear hk; intro a w hk
          refine FW.lfun (y := .lit (.int .i64 (IntKind.wrap .i64 (v6 + 1)))) hk rfl rfl rfl rfl (FW.f_assign hk (FW.holds_nil _) rfl) ?_; clear hk; intro a w hk
          refine wpList_nil ?_
          (repeat first | refine FW.then_normal ?_ | refine FW.block_normal ?_); exact hK10 (kl1, y1, v1, (IntKind.wrap .i64 (v6 + 1))) _ _ (Nat.lt_succ_self _) ⟨hk.sub ⟨rfl, rfl, rfl, trivial⟩, h⟩
      · skip
        refine wp_exit ?_; (repeat first | refine FW.then_exit ?_ | refine FW.block_exit_ne rfl ?_); refine FW.block_exit ?_
        (repeat first | refine FW.then_normal ?_ | refine FW.block_normal ?_); refine hK8 _ _ ?_
        refine FW.wreg ?_; intro K' hK17
        refine FW.lfun (y := .lit (.pointer (some ⟨bx1, 0, none⟩))) hk rfl rfl rfl rfl (FW.f_fieldPtr hk (FW.holds_nil _) rfl Go.Proofs.Try.underlying65 rfl (by kernel_rfl) rfl) ?_; clear hk; intro a w hk
        refine FW.lfun (y := .row (r_c_str y1.Sure)) hk rfl rfl rfl rfl (FW.f_loadBlk1 hk (FW.holds_nil _) (j := 0) rfl rfl Go.Proofs.Try.underlying61 rfl rfl) ?_; clear hk; intro a w hk
        refine FW.lfun (y := .lit (.int .i64 v1)) hk rfl rfl rfl rfl (FW.f_move hk (FW.holds_nil _) rfl) ?_; clear hk; intro a w hk
        obtain ⟨hc3, h⟩ := FW.chk h
        refine FW.lfun (y := .ref (c_str (List.getD y1.Sure (Int.toNat v1) default))) hk rfl rfl rfl rfl (FW.f_indexAddr (R := r_c_str) (f := c_str) (l := y1.Sure) (sz := 1) r_c_str_eq (fun _ => rfl) hk (FW.holds_nil _) rfl rfl Go.Proofs.Try.underlying61 (by kernel_rfl) hc3) ?_; clear hk; intro a w hk
        refine FW.lfun (y := .lit (.string (FW.B (List.getD y1.Sure (Int.toNat v1) default)))) hk rfl rfl rfl rfl (FW.f_load1 hk (FW.holds_nil _) rfl rfl Go.Proofs.Try.underlying9 rfl) ?_; clear hk; intro a w hk
        refine FW.lfun (y := .lit (.string (FW.B (List.getD y1.Sure (Int.toNat v1) default)))) hk rfl rfl rfl rfl (FW.f_assign hk (FW.holds_nil _) rfl) ?_; clear hk; intro a w hk
        refine FW.lfun (y := .lit (.int .i64 0)) hk rfl rfl rfl rfl (FW.f_assign hk (FW.holds_nil _) rfl) ?_; clear hk; intro a w hk
        refine FW.lend (hK17 _ _ ?_); clear hK17 K'
        refine wp_ret ?_
        (repeat first | refine FW.then_ret ?_ | refine FW.block_ret ?_)
        obtain rfl := Option.some.inj h
        exact FW.fret2 hk rfl rfl rfl

theorem offshootlaw03_both_same.ok (K : Nat) (v0 : Offshootlaw03Both) (v0_0 : ODevDev) (r : Bool) (h : offshootlaw03_both_same.f K v0 v0_0 = some r) :
    ∀ (b0_0 : Nat) (xd0_0_0 : Option Addr) (xc0_0_0 : Nat) (xr0_0_1 : Nat) (xd0_0_3 : Option Addr) (xc0_0_3 : Nat), FW.OkH Go.Proofs.Try.prog 38 [.agg (([.lit (.pointer (some ⟨b0_0, 0, none⟩))] : List FW.AV) ++ (Offshootref03Dev.cells v0.m))] (ODevDev.items b0_0 xd0_0_0 xc0_0_0 xr0_0_1 xd0_0_3 xc0_0_3 v0_0) (fun y I => y = .lit (.bool r) ∧ I = ODevDev.items b0_0 xd0_0_0 xc0_0_0 xr0_0_1 xd0_0_3 xc0_0_3 v0_0) := by
  intro b0_0 xd0_0_0 xc0_0_0 xr0_0_1 xd0_0_3 xc0_0_3
  refine FW.enterH (xs := [.agg (([.lit (.pointer (some ⟨b0_0, 0, none⟩))] : List FW.AV) ++ (Offshootref03Dev.cells v0.m))]) Go.Proofs.Try.func38 rfl Go.Proofs.Try.ntmps38 rfl ?_
  intro M w0 a hk
  replace hk : FW.S M w0 a w0.toWorld 74 [FW.blk b0_0 109 ([.lit (.slice xd0_0_0 (List.length v0_0.sure) xc0_0_0), .lit (.map (some xr0_0_1)), .lit (.int .i64 v0_0.steps), .lit (.slice xd0_0_3 (List.length v0_0.falls) xc0_0_3), .lit (.bool v0_0.off)]), FW.orow xd0_0_0 xc0_0_0 9 1 c_str v0_0.sure, FW.mapI (.int .i64) (Value.int .i64) FW.evS xr0_0_1 v0_0.cache, FW.orow xd0_0_3 xc0_0_3 45 3 ApiFall.cells v0_0.falls] [(0, [], .agg (([.lit (.pointer (some ⟨b0_0, 0, none⟩))] : List FW.AV) ++ (Offshootref03Dev.cells v0.m)))] := hk
  unfold offshootlaw03_both_same.f at h
  refine FW.wreg ?_; intro K' hK1
  refine FW.l_box (cs := ([.lit (.pointer (some ⟨b0_0, 0, none⟩))] : List FW.AV) ++ (Offshootref03Dev.cells v0.m)) hk rfl rfl rfl rfl rfl ?_; clear hk; intro bx1 a w hk
  refine FW.lfun (y := .lit (.bool false)) hk rfl rfl rfl rfl (FW.f_assign hk (FW.holds_nil _) rfl) ?_; clear hk; intro a w hk
  refine FW.lend (hK1 _ _ ?_); clear hK1 K'
  refine FW.wseq ?_; intro K' hK2
  obtain ⟨t1, hr_t1, h⟩ := FW.bnd h
  refine FW.wdrawE (.next [true, true, false, true, true, true, false, false, false, false, false, false, false, false, false, false, false, false, false, false, false, false, false, false, false, false, false, false, false, false, false, false, false, false, false, false] 2 [true, true, false, true, true, true, false, false, false, false, false, false, false, false, false, false, false, false, false, false, false, false, false, false, false, false, false, false, false, false, false, false, false, false, false, false] (.next [false, false, false, true, true, true, true, true, true, true, false, true, true, true, false, false, false, false, false, false, false, false, false, false, false, false, false, false, false, false, false, false, false, false, false, false] 10 [true, true, true, true, true, true, true, true, true, true, false, true, true, true, false, false, false, false, false, false, false, false, false, false, false, false, false, false, false, false, false, false, false, false, false, false] (.next [false, false, false, false, false, false, false, false, false, false, false, true, true, true, true, true, true, true, true, false, true, true, true, true, false, false, false, false, false, false, false, false, false, false, false, false] 19 [true, true, true, true, true, true, true, true, true, true, true, true, true, true, true, true, true, true, true, false, true, true, true, true, false, false, false, false, false, false, false, false, false, false, false, false] (.next [false, false, false, false, false, false, false, false, false, false, false, false, false, false, false, false, false, false, false, false, true, true, true, true, true, true, true, true, true, false, true, true, true, true, false, false] 29 [true, true, true, true, true, true, true, true, true, true, true, true, true, true, true, true, true, true, true, true, true, true, true, true, true, true, true, true, true, false, true, true, true, true, false, false] (.leaf [false, false, false, false, false, false, false, false, false, false, false, false, false, false, false, false, false, false, false, false, false, false, false, false, false, false, false, false, false, false, true, true, true, true, true, true]))))) [(8, [], .lit (.pointer (some ⟨bx1, 0, none⟩))), (9, [], .lit (.pointer (some ⟨b0_0, 0, none⟩))), (10, [], .agg []), (11, [], .lit (.pointer (some ⟨bx1, 1, none⟩))), (12, [], .lit (.pointer (some ⟨bx1, 5, none⟩))), (13, [], .lit (.bool v0.m.Off)), (14, [], .agg []), (15, [], .agg []), (16, [], .agg []), (17, [], .agg []), (18, [], .agg []), (19, [], .agg []), (20, [], .agg []), (21, [], .agg []), (22, [], .agg []), (23, [], .agg []), (24, [], .agg []), (25, [], .agg []), (26, [], .agg []), (27, [], .agg []), (28, [], .agg []), (29, [], .agg []), (30, [], .agg []), (31, [], .agg []), (32, [], .agg []), (33, [], .agg []), (34, [], .agg []), (35, [], .agg []), (36, [], .agg []), (37, [], .agg []), (38, [], .agg []), (39, [], .agg []), (40, [], .agg []), (41, [], .agg []), (42, [], .agg []), (43, [], .agg [])] (by kernel_rfl) (by kernel_rfl) (by kernel_rfl) (by kernel_rfl) hk ?_; clear hk
  refine FW.gnext ?_ rfl rfl rfl rfl rfl ?_
  · skip
    refine FW.gfun (y := .lit (.pointer (some ⟨bx1, 0, none⟩))) rfl rfl rfl rfl (fun a w hk => FW.f_fieldPtr hk (FW.holds_nil _) rfl Go.Proofs.Try.underlying68 rfl (by kernel_rfl) rfl) ?_
    refine FW.gfun (y := .lit (.pointer (some ⟨b0_0, 0, none⟩))) rfl rfl rfl rfl (fun a w hk => FW.f_loadBlk1 hk (FW.holds_nil _) (j := 0) rfl rfl Go.Proofs.Try.underlying46 rfl rfl) ?_
    refine FW.gskip rfl rfl ?_
    refine FW.gfun (y := .lit (.pointer (some ⟨bx1, 1, none⟩))) rfl rfl rfl rfl (fun a w hk => FW.f_fieldPtr hk (FW.holds_nil _) rfl Go.Proofs.Try.underlying68 rfl (by kernel_rfl) rfl) ?_
    refine FW.gfun (y := .lit (.pointer (some ⟨bx1, 5, none⟩))) rfl rfl rfl rfl (fun a w hk => FW.f_fieldPtr hk (FW.holds_nil _) rfl Go.Proofs.Try.underlying65 rfl (by kernel_rfl) rfl) ?_
    refine FW.gfun (y := .lit (.bool v0.m.Off)) rfl rfl rfl rfl (fun a w hk => FW.f_loadBlk1 hk (FW.holds_nil _) (j := 0) rfl rfl Go.Proofs.Try.underlying4 rfl rfl) ?_
    refine FW.gskip rfl rfl ?_
    refine FW.gskip rfl rfl ?_
    refine FW.gskip rfl rfl ?_
    refine FW.gskip rfl rfl ?_
    refine FW.gskip rfl rfl ?_
    refine FW.gskip rfl rfl ?_
    refine FW.gskip rfl rfl ?_
    refine FW.gskip rfl rfl ?_
    refine FW.gskip rfl rfl ?_
    refine FW.gskip rfl rfl ?_
    refine FW.gskip rfl rfl ?_
    refine FW.gskip rfl rfl ?_
    refine FW.gskip rfl rfl ?_
    refine FW.gskip rfl rfl ?_
    refine FW.gskip rfl rfl ?_
    refine FW.gskip rfl rfl ?_
    refine FW.gskip rfl rfl ?_
    refine FW.gskip rfl rfl ?_
    refine FW.gskip rfl rfl ?_
    refine FW.gskip rfl rfl ?_
    refine FW.gskip rfl rfl ?_
    refine FW.gskip rfl rfl ?_
    refine FW.gskip rfl rfl ?_
    refine FW.gskip rfl rfl ?_
    refine FW.gskip rfl rfl ?_
    refine FW.gskip rfl rfl ?_
    refine FW.gskip rfl rfl ?_
    refine FW.gskip rfl rfl ?_
    refine FW.gskip rfl rfl ?_
    refine FW.gskip rfl rfl ?_
    exact FW.gend
  · skip
    intro σD a w opsD QD hk hf hQ hX
    refine FW.l_callH (I1 := (ODevDev.items b0_0 xd0_0_0 xc0_0_0 xr0_0_1 xd0_0_3 xc0_0_3 v0_0)) (I2 := [FW.blk bx1 68 (([.lit (.pointer (some ⟨b0_0, 0, none⟩))] : List FW.AV) ++ (Offshootref03Dev.cells v0.m))]) (js := [4, 4, 4, 4]) hk rfl rfl hf rfl rfl Go.Proofs.Try.func41 rfl (by kernel_rfl) (dev_Dev_Off.ok v0_0 _ hr_t1 b0_0 xd0_0_0 xc0_0_0 xr0_0_1 xd0_0_3 xc0_0_3) ?_; clear hk
    rintro _ _ ⟨rfl, rfl⟩ a w hk
    refine hQ _ _ a w ?_ hk; clear hk hQ hf hX
    refine ⟨[(8, [], .lit (.pointer (some ⟨bx1, 0, none⟩))), (9, [], .lit (.pointer (some ⟨b0_0, 0, none⟩))), (10, [], .lit (.bool t1)), (11, [], .lit (.pointer (some ⟨bx1, 1, none⟩))), (12, [], .lit (.pointer (some ⟨bx1, 5, none⟩))), (13, [], .lit (.bool v0.m.Off)), (14, [], .lit (.bool (!(t1 == v0.m.Off)))), (15, [], .lit (.bool (!(t1 == v0.m.Off)))), (16, [(15, false)], .lit (.pointer (some ⟨bx1, 0, none⟩))), (17, [(15, false)], .lit (.pointer (some ⟨b0_0, 0, none⟩))), (18, [], .agg []), (19, [(15, false)], .lit (.pointer (some ⟨bx1, 1, none⟩))), (20, [(15, false)], .lit (.pointer (some ⟨bx1, 3, none⟩))), (21, [(15, false)], .lit (.int .i64 v0.m.Steps)), (22, [], .agg []), (23, [], .agg []), (24, [], .agg []), (25, [], .agg []), (26, [], .agg []), (27, [], .agg []), (28, [], .agg []), (29, [], .agg []), (30, [], .agg []), (31, [], .agg []), (32, [], .agg []), (33, [], .agg []), (34, [], .agg []), (35, [], .agg []), (36, [], .agg []), (37, [], .agg []), (38, [], .agg []), (39, [], .agg []), (40, [], .agg []), (41, [], .agg []), (42, [], .agg []), (43, [], .agg [])], And.intro rfl (And.intro rfl (And.intro rfl (And.intro rfl (And.intro rfl (trivial))))), rfl, ?_⟩
    refine FW.gnextG [(15, false)] ?_ rfl rfl rfl rfl ?_
    · skip
      refine FW.gskip rfl rfl ?_
      refine FW.gskip rfl rfl ?_
      refine FW.gskip rfl rfl ?_
      refine FW.gfun (y := .lit (.pointer (some ⟨bx1, 1, none⟩))) rfl rfl rfl rfl (fun a w hk => FW.f_fieldPtr hk (FW.holds_nil _) rfl Go.Proofs.Try.underlying68 rfl (by kernel_rfl) rfl) ?_
      refine FW.gfun (y := .lit (.pointer (some ⟨bx1, 5, none⟩))) rfl rfl rfl rfl (fun a w hk => FW.f_fieldPtr hk (FW.holds_nil _) rfl Go.Proofs.Try.underlying65 rfl (by kernel_rfl) rfl) ?_
      refine FW.gfun (y := .lit (.bool v0.m.Off)) rfl rfl rfl rfl (fun a w hk => FW.f_loadBlk1 hk (FW.holds_nil _) (j := 4) rfl rfl Go.Proofs.Try.underlying4 rfl rfl) ?_
      refine FW.gfun (y := .lit (.bool (!(t1 == v0.m.Off)))) rfl rfl rfl rfl (fun a w hk => (FW.f_pure (FW.p_bneq Go.Proofs.Try.underlying4 hk.kn (FW.holds_nil _) rfl rfl))) ?_
      refine FW.gfun (y := .lit (.bool (!(t1 == v0.m.Off)))) rfl rfl rfl rfl (fun a w hk => FW.f_move hk (FW.holds_nil _) rfl) ?_
      refine FW.gfunG (y := .lit (.pointer (some ⟨bx1, 0, none⟩))) rfl rfl rfl rfl rfl rfl rfl rfl rfl (fun a w hk hc => FW.f_fieldPtr hk hc rfl Go.Proofs.Try.underlying68 rfl (by kernel_rfl) rfl) ?_
      refine FW.gfunG (y := .lit (.pointer (some ⟨b0_0, 0, none⟩))) rfl rfl rfl rfl rfl rfl rfl rfl rfl (fun a w hk hc => FW.f_loadBlk1 hk hc (j := 4) rfl rfl Go.Proofs.Try.underlying46 rfl rfl) ?_
      refine FW.gskip rfl rfl ?_
      refine FW.gfunG (y := .lit (.pointer (some ⟨bx1, 1, none⟩))) rfl rfl rfl rfl rfl rfl rfl rfl rfl (fun a w hk hc => FW.f_fieldPtr hk hc rfl Go.Proofs.Try.underlying68 rfl (by kernel_rfl) rfl) ?_
      refine FW.gfunG (y := .lit (.pointer (some ⟨bx1, 3, none⟩))) rfl rfl rfl rfl rfl rfl rfl rfl rfl (fun a w hk hc => FW.f_fieldPtr hk hc rfl Go.Proofs.Try.underlying65 rfl (by kernel_rfl) rfl) ?_
      refine FW.gfunG (y := .lit (.int .i64 v0.m.Steps)) rfl rfl rfl rfl rfl rfl rfl rfl rfl (fun a w hk hc => FW.f_loadBlk1 hk hc (j := 4) rfl rfl Go.Proofs.Try.underlying3 rfl rfl) ?_
      refine FW.gskip rfl rfl ?_
      refine FW.gskip rfl rfl ?_
      refine FW.gskip rfl rfl ?_
      refine FW.gskip rfl rfl ?_
      refine FW.gskip rfl rfl ?_
      refine FW.gskip rfl rfl ?_
      refine FW.gskip rfl rfl ?_
      refine FW.gskip rfl rfl ?_
      refine FW.gskip rfl rfl ?_
      refine FW.gskip rfl rfl ?_
      refine FW.gskip rfl rfl ?_
      refine FW.gskip rfl rfl ?_
      refine FW.gskip rfl rfl ?_
      refine FW.gskip rfl rfl ?_
      refine FW.gskip rfl rfl ?_
      refine FW.gskip rfl rfl ?_
      refine FW.gskip rfl rfl ?_
      refine FW.gskip rfl rfl ?_
      refine FW.gskip rfl rfl ?_
      refine FW.gskip rfl rfl ?_
      refine FW.gskip rfl rfl ?_
      refine FW.gskip rfl rfl ?_
      exact FW.gend
    · skip
      intro σD a w QD hk hf hQ hX
      obtain ⟨t2, hr_t2, hn_t2, h⟩ := FW.bndG2 h
      refine FW.l_callHG (I1 := (ODevDev.items b0_0 xd0_0_0 xc0_0_0 xr0_0_1 xd0_0_3 xc0_0_3 v0_0)) (I2 := [FW.blk bx1 68 (([.lit (.pointer (some ⟨b0_0, 0, none⟩))] : List FW.AV) ++ (Offshootref03Dev.cells v0.m))]) (js := [3, 3, 3, 3]) hk rfl rfl rfl rfl rfl hf rfl rfl rfl Go.Proofs.Try.func43 rfl (by kernel_rfl) (fun hc => dev_Dev_Steps.ok v0_0 _ (hr_t2 (FW.asm_out (p := (!(t1 == v0.m.Off)) = false) hk.kn hc (fun e0 => e0))) b0_0 xd0_0_0 xc0_0_0 xr0_0_1 xd0_0_3 xc0_0_3) (fun hn => by obtain rfl := hn_t2 (fun hp => hn (FW.asm_in hk.kn (by have e0 := hp; exact ⟨e0, rfl, trivial⟩))); exact ⟨_, rfl, rfl⟩) ?_; clear hk
      rintro _ _ ⟨rfl, rfl⟩ a w hk
      refine hQ _ _ a w ?_ hk; clear hk hQ hf hX
      refine ⟨[(8, [], .lit (.pointer (some ⟨bx1, 0, none⟩))), (9, [], .lit (.pointer (some ⟨b0_0, 0, none⟩))), (10, [], .lit (.bool t1)), (11, [], .lit (.pointer (some ⟨bx1, 1, none⟩))), (12, [], .lit (.pointer (some ⟨bx1, 5, none⟩))), (13, [], .lit (.bool v0.m.Off)), (14, [], .lit (.bool (!(t1 == v0.m.Off)))), (15, [], .lit (.bool (!(t1 == v0.m.Off)))), (16, [(15, false)], .lit (.pointer (some ⟨bx1, 0, none⟩))), (17, [(15, false)], .lit (.pointer (some ⟨b0_0, 0, none⟩))), (18, [(15, false)], .lit (.int .i64 t2)), (19, [(15, false)], .lit (.pointer (some ⟨bx1, 1, none⟩))), (20, [(15, false)], .lit (.pointer (some ⟨bx1, 3, none⟩))), (21, [(15, false)], .lit (.int .i64 v0.m.Steps)), (22, [(15, false)], .lit (.bool (!decide (t2 = v0.m.Steps)))), (23, [], .lit (.bool ((!(t1 == v0.m.Off)) || (!decide (t2 = v0.m.Steps))))), (24, [], .lit (.bool ((!(t1 == v0.m.Off)) || (!decide (t2 = v0.m.Steps))))), (25, [(24, false)], .lit (.pointer (some ⟨bx1, 0, none⟩))), (26, [(24, false)], .lit (.pointer (some ⟨b0_0, 0, none⟩))), (27, [], .agg []), (28, [(24, false)], .lit (.pointer (some ⟨bx1, 1, none⟩))), (29, [(24, false)], .lit (.pointer (some ⟨bx1, 2, none⟩))), (30, [(24, false)], .row (r_Offshootref03Loose_cells v0.m.Loose)), (31, [(24, false)], .lit (.int .i64 (List.length v0.m.Loose : Int))), (32, [], .agg []), (33, [], .agg []), (34, [], .agg []), (35, [], .agg []), (36, [], .agg []), (37, [], .agg []), (38, [], .agg []), (39, [], .agg []), (40, [], .agg []), (41, [], .agg []), (42, [], .agg []), (43, [], .agg [])], And.intro rfl (And.intro rfl (And.intro rfl (And.intro rfl (And.intro rfl (And.intro rfl (And.intro rfl (And.intro rfl (And.intro rfl (And.intro rfl (And.intro rfl (And.intro rfl (And.intro rfl (trivial))))))))))))), rfl, ?_⟩
      refine FW.gnextG [(24, false)] ?_ rfl rfl rfl rfl ?_
      · skip
        refine FW.gskip rfl rfl ?_
        refine FW.gskip rfl rfl ?_
        refine FW.gskip rfl rfl ?_
        refine FW.gskip rfl rfl ?_
        refine FW.gskip rfl rfl ?_
        refine FW.gskip rfl rfl ?_
        refine FW.gskip rfl rfl ?_
        refine FW.gskip rfl rfl ?_
        refine FW.gskip rfl rfl ?_
        refine FW.gskip rfl rfl ?_
        refine FW.gskip rfl rfl ?_
        refine FW.gfunG (y := .lit (.pointer (some ⟨bx1, 1, none⟩))) rfl rfl rfl rfl rfl rfl rfl rfl rfl (fun a w hk hc => FW.f_fieldPtr hk hc rfl Go.Proofs.Try.underlying68 rfl (by kernel_rfl) rfl) ?_
        refine FW.gfunG (y := .lit (.pointer (some ⟨bx1, 3, none⟩))) rfl rfl rfl rfl rfl rfl rfl rfl rfl (fun a w hk hc => FW.f_fieldPtr hk hc rfl Go.Proofs.Try.underlying65 rfl (by kernel_rfl) rfl) ?_
        refine FW.gfunG (y := .lit (.int .i64 v0.m.Steps)) rfl rfl rfl rfl rfl rfl rfl rfl rfl (fun a w hk hc => FW.f_loadBlk1 hk hc (j := 4) rfl rfl Go.Proofs.Try.underlying3 rfl rfl) ?_
        refine FW.gfunG (y := .lit (.bool (!decide (t2 = v0.m.Steps)))) rfl rfl rfl rfl rfl rfl rfl rfl rfl (fun a w hk hc => (FW.f_pure (FW.p_neq hk.kn hc rfl rfl))) ?_
        refine FW.gfun (y := .lit (.bool ((!(t1 == v0.m.Off)) || (!decide (t2 = v0.m.Steps))))) rfl rfl rfl rfl (fun a w hk => (FW.f_pure (FW.p_pick_or hk.kn (FW.holds_nil _) rfl rfl))) ?_
        refine FW.gfun (y := .lit (.bool ((!(t1 == v0.m.Off)) || (!decide (t2 = v0.m.Steps))))) rfl rfl rfl rfl (fun a w hk => FW.f_move hk (FW.holds_nil _) rfl) ?_
        refine FW.gfunG (y := .lit (.pointer (some ⟨bx1, 0, none⟩))) rfl rfl rfl rfl rfl rfl rfl rfl rfl (fun a w hk hc => FW.f_fieldPtr hk hc rfl Go.Proofs.Try.underlying68 rfl (by kernel_rfl) rfl) ?_
        refine FW.gfunG (y := .lit (.pointer (some ⟨b0_0, 0, none⟩))) rfl rfl rfl rfl rfl rfl rfl rfl rfl (fun a w hk hc => FW.f_loadBlk1 hk hc (j := 4) rfl rfl Go.Proofs.Try.underlying46 rfl rfl) ?_
        refine FW.gskip rfl rfl ?_
        refine FW.gfunG (y := .lit (.pointer (some ⟨bx1, 1, none⟩))) rfl rfl rfl rfl rfl rfl rfl rfl rfl (fun a w hk hc => FW.f_fieldPtr hk hc rfl Go.Proofs.Try.underlying68 rfl (by kernel_rfl) rfl) ?_
        refine FW.gfunG (y := .lit (.pointer (some ⟨bx1, 2, none⟩))) rfl rfl rfl rfl rfl rfl rfl rfl rfl (fun a w hk hc => FW.f_fieldPtr hk hc rfl Go.Proofs.Try.underlying65 rfl (by kernel_rfl) rfl) ?_
        refine FW.gfunG (y := .row (r_Offshootref03Loose_cells v0.m.Loose)) rfl rfl rfl rfl rfl rfl rfl rfl rfl (fun a w hk hc => FW.f_loadBlk1 hk hc (j := 4) rfl rfl Go.Proofs.Try.underlying62 rfl rfl) ?_
        refine FW.gfunG (y := .lit (.int .i64 (List.length v0.m.Loose : Int))) rfl rfl rfl rfl rfl rfl rfl rfl rfl (fun a w hk hc => FW.f_len (R := r_Offshootref03Loose_cells) (f := Offshootref03Loose.cells) (l := v0.m.Loose) r_Offshootref03Loose_cells_eq Go.Proofs.Try.underlying62 hk hc rfl) ?_
        refine FW.gskip rfl rfl ?_
        refine FW.gskip rfl rfl ?_
        refine FW.gskip rfl rfl ?_
        refine FW.gskip rfl rfl ?_
        refine FW.gskip rfl rfl ?_
        refine FW.gskip rfl rfl ?_
        refine FW.gskip rfl rfl ?_
        refine FW.gskip rfl rfl ?_
        refine FW.gskip rfl rfl ?_
        refine FW.gskip rfl rfl ?_
        refine FW.gskip rfl rfl ?_
        refine FW.gskip rfl rfl ?_
        exact FW.gend
      · skip
        intro σD a w QD hk hf hQ hX
        obtain ⟨t3, hr_t3, hn_t3, h⟩ := FW.bndG2 h
        refine FW.l_callHG (I1 := (ODevDev.items b0_0 xd0_0_0 xc0_0_0 xr0_0_1 xd0_0_3 xc0_0_3 v0_0)) (I2 := [FW.blk bx1 68 (([.lit (.pointer (some ⟨b0_0, 0, none⟩))] : List FW.AV) ++ (Offshootref03Dev.cells v0.m))]) (js := [3, 3, 3, 3]) hk rfl rfl rfl rfl rfl hf rfl rfl rfl Go.Proofs.Try.func35 rfl (by kernel_rfl) (fun hc => dev_Dev_Loose.ok v0_0 _ (hr_t3 (FW.asm_out (p := ((!(t1 == v0.m.Off)) || (!decide (t2 = v0.m.Steps))) = false) hk.kn hc (fun e0 => e0))) b0_0 xd0_0_0 xc0_0_0 xr0_0_1 xd0_0_3 xc0_0_3) (fun hn => by obtain rfl := hn_t3 (fun hp => hn (FW.asm_in hk.kn (by have e0 := hp; exact ⟨e0, rfl, trivial⟩))); exact ⟨_, rfl, rfl⟩) ?_; clear hk
        rintro _ _ ⟨rfl, rfl⟩ a w hk
        refine hQ _ _ a w ?_ hk; clear hk hQ hf hX
        refine ⟨[(8, [], .lit (.pointer (some ⟨bx1, 0, none⟩))), (9, [], .lit (.pointer (some ⟨b0_0, 0, none⟩))), (10, [], .lit (.bool t1)), (11, [], .lit (.pointer (some ⟨bx1, 1, none⟩))), (12, [], .lit (.pointer (some ⟨bx1, 5, none⟩))), (13, [], .lit (.bool v0.m.Off)), (14, [], .lit (.bool (!(t1 == v0.m.Off)))), (15, [], .lit (.bool (!(t1 == v0.m.Off)))), (16, [(15, false)], .lit (.pointer (some ⟨bx1, 0, none⟩))), (17, [(15, false)], .lit (.pointer (some ⟨b0_0, 0, none⟩))), (18, [(15, false)], .lit (.int .i64 t2)), (19, [(15, false)], .lit (.pointer (some ⟨bx1, 1, none⟩))), (20, [(15, false)], .lit (.pointer (some ⟨bx1, 3, none⟩))), (21, [(15, false)], .lit (.int .i64 v0.m.Steps)), (22, [(15, false)], .lit (.bool (!decide (t2 = v0.m.Steps)))), (23, [], .lit (.bool ((!(t1 == v0.m.Off)) || (!decide (t2 = v0.m.Steps))))), (24, [], .lit (.bool ((!(t1 == v0.m.Off)) || (!decide (t2 = v0.m.Steps))))), (25, [(24, false)], .lit (.pointer (some ⟨bx1, 0, none⟩))), (26, [(24, false)], .lit (.pointer (some ⟨b0_0, 0, none⟩))), (27, [(24, false)], .lit (.int .i64 t3)), (28, [(24, false)], .lit (.pointer (some ⟨bx1, 1, none⟩))), (29, [(24, false)], .lit (.pointer (some ⟨bx1, 2, none⟩))), (30, [(24, false)], .row (r_Offshootref03Loose_cells v0.m.Loose)), (31, [(24, false)], .lit (.int .i64 (List.length v0.m.Loose : Int))), (32, [(24, false)], .lit (.bool (!decide (t3 = (List.length v0.m.Loose : Int))))), (33, [], .lit (.bool (((!(t1 == v0.m.Off)) || (!decide (t2 = v0.m.Steps))) || (!decide (t3 = (List.length v0.m.Loose : Int)))))), (34, [], .lit (.bool (((!(t1 == v0.m.Off)) || (!decide (t2 = v0.m.Steps))) || (!decide (t3 = (List.length v0.m.Loose : Int)))))), (35, [(34, false)], .lit (.pointer (some ⟨bx1, 0, none⟩))), (36, [(34, false)], .lit (.pointer (some ⟨b0_0, 0, none⟩))), (37, [], .agg []), (38, [(34, false)], .lit (.pointer (some ⟨bx1, 1, none⟩))), (39, [(34, false)], .lit (.pointer (some ⟨bx1, 1, none⟩))), (40, [(34, false)], .row (r_c_str v0.m.Sure)), (41, [(34, false)], .lit (.int .i64 (List.length v0.m.Sure : Int))), (42, [], .agg []), (43, [], .agg [])], And.intro rfl (And.intro rfl (And.intro rfl (And.intro rfl (And.intro rfl (And.intro rfl (And.intro rfl (And.intro rfl (And.intro rfl (And.intro rfl (And.intro rfl (And.intro rfl (And.intro rfl (And.intro rfl (And.intro rfl (And.intro rfl (And.intro rfl (And.intro rfl (And.intro rfl (And.intro rfl (And.intro rfl (And.intro rfl (And.intro rfl (trivial))))))))))))))))))))))), rfl, ?_⟩
        refine FW.gnextG [(34, false)] ?_ rfl rfl rfl rfl ?_
        · skip
          refine FW.gskip rfl rfl ?_
          refine FW.gskip rfl rfl ?_
          refine FW.gskip rfl rfl ?_
          refine FW.gskip rfl rfl ?_
          refine FW.gskip rfl rfl ?_
          refine FW.gskip rfl rfl ?_
          refine FW.gskip rfl rfl ?_
          refine FW.gskip rfl rfl ?_
          refine FW.gskip rfl rfl ?_
          refine FW.gskip rfl rfl ?_
          refine FW.gskip rfl rfl ?_
          refine FW.gskip rfl rfl ?_
          refine FW.gskip rfl rfl ?_
          refine FW.gskip rfl rfl ?_
          refine FW.gskip rfl rfl ?_
          refine FW.gskip rfl rfl ?_
          refine FW.gskip rfl rfl ?_
          refine FW.gskip rfl rfl ?_
          refine FW.gskip rfl rfl ?_
          refine FW.gskip rfl rfl ?_
          refine FW.gfunG (y := .lit (.pointer (some ⟨bx1, 1, none⟩))) rfl rfl rfl rfl rfl rfl rfl rfl rfl (fun a w hk hc => FW.f_fieldPtr hk hc rfl Go.Proofs.Try.underlying68 rfl (by kernel_rfl) rfl) ?_
          refine FW.gfunG (y := .lit (.pointer (some ⟨bx1, 2, none⟩))) rfl rfl rfl rfl rfl rfl rfl rfl rfl (fun a w hk hc => FW.f_fieldPtr hk hc rfl Go.Proofs.Try.underlying65 rfl (by kernel_rfl) rfl) ?_
          refine FW.gfunG (y := .row (r_Offshootref03Loose_cells v0.m.Loose)) rfl rfl rfl rfl rfl rfl rfl rfl rfl (fun a w hk hc => FW.f_loadBlk1 hk hc (j := 4) rfl rfl Go.Proofs.Try.underlying62 rfl rfl) ?_
          refine FW.gfunG (y := .lit (.int .i64 (List.length v0.m.Loose : Int))) rfl rfl rfl rfl rfl rfl rfl rfl rfl (fun a w hk hc => FW.f_len (R := r_Offshootref03Loose_cells) (f := Offshootref03Loose.cells) (l := v0.m.Loose) r_Offshootref03Loose_cells_eq Go.Proofs.Try.underlying62 hk hc rfl) ?_
          refine FW.gfunG (y := .lit (.bool (!decide (t3 = (List.length v0.m.Loose : Int))))) rfl rfl rfl rfl rfl rfl rfl rfl rfl (fun a w hk hc => (FW.f_pure (FW.p_neq hk.kn hc rfl rfl))) ?_
          refine FW.gfun (y := .lit (.bool (((!(t1 == v0.m.Off)) || (!decide (t2 = v0.m.Steps))) || (!decide (t3 = (List.length v0.m.Loose : Int)))))) rfl rfl rfl rfl (fun a w hk => (FW.f_pure (FW.p_pick_or hk.kn (FW.holds_nil _) rfl rfl))) ?_
          refine FW.gfun (y := .lit (.bool (((!(t1 == v0.m.Off)) || (!decide (t2 = v0.m.Steps))) || (!decide (t3 = (List.length v0.m.Loose : Int)))))) rfl rfl rfl rfl (fun a w hk => FW.f_move hk (FW.holds_nil _) rfl) ?_
          refine FW.gfunG (y := .lit (.pointer (some ⟨bx1, 0, none⟩))) rfl rfl rfl rfl rfl rfl rfl rfl rfl (fun a w hk hc => FW.f_fieldPtr hk hc rfl Go.Proofs.Try.underlying68 rfl (by kernel_rfl) rfl) ?_
          refine FW.gfunG (y := .lit (.pointer (some ⟨b0_0, 0, none⟩))) rfl rfl rfl rfl rfl rfl rfl rfl rfl (fun a w hk hc => FW.f_loadBlk1 hk hc (j := 4) rfl rfl Go.Proofs.Try.underlying46 rfl rfl) ?_
          refine FW.gskip rfl rfl ?_
          refine FW.gfunG (y := .lit (.pointer (some ⟨bx1, 1, none⟩))) rfl rfl rfl rfl rfl rfl rfl rfl rfl (fun a w hk hc => FW.f_fieldPtr hk hc rfl Go.Proofs.Try.underlying68 rfl (by kernel_rfl) rfl) ?_
          refine FW.gfunG (y := .lit (.pointer (some ⟨bx1, 1, none⟩))) rfl rfl rfl rfl rfl rfl rfl rfl rfl (fun a w hk hc => FW.f_fieldPtr hk hc rfl Go.Proofs.Try.underlying65 rfl (by kernel_rfl) rfl) ?_
          refine FW.gfunG (y := .row (r_c_str v0.m.Sure)) rfl rfl rfl rfl rfl rfl rfl rfl rfl (fun a w hk hc => FW.f_loadBlk1 hk hc (j := 4) rfl rfl Go.Proofs.Try.underlying61 rfl rfl) ?_
          refine FW.gfunG (y := .lit (.int .i64 (List.length v0.m.Sure : Int))) rfl rfl rfl rfl rfl rfl rfl rfl rfl (fun a w hk hc => FW.f_len (R := r_c_str) (f := c_str) (l := v0.m.Sure) r_c_str_eq Go.Proofs.Try.underlying61 hk hc rfl) ?_
          refine FW.gskip rfl rfl ?_
          refine FW.gskip rfl rfl ?_
          exact FW.gend
        · skip
          intro σD a w QD hk hf hQ hX
          obtain ⟨t4, hr_t4, hn_t4, h⟩ := FW.bndG2 h
          refine FW.l_callHG (I1 := (ODevDev.items b0_0 xd0_0_0 xc0_0_0 xr0_0_1 xd0_0_3 xc0_0_3 v0_0)) (I2 := [FW.blk bx1 68 (([.lit (.pointer (some ⟨b0_0, 0, none⟩))] : List FW.AV) ++ (Offshootref03Dev.cells v0.m))]) (js := [3, 3, 3, 3]) hk rfl rfl rfl rfl rfl hf rfl rfl rfl Go.Proofs.Try.func42 rfl (by kernel_rfl) (fun hc => dev_Dev_Len.ok v0_0 _ (hr_t4 (FW.asm_out (p := (((!(t1 == v0.m.Off)) || (!decide (t2 = v0.m.Steps))) || (!decide (t3 = (List.length v0.m.Loose : Int)))) = false) hk.kn hc (fun e0 => e0))) b0_0 xd0_0_0 xc0_0_0 xr0_0_1 xd0_0_3 xc0_0_3) (fun hn => by obtain rfl := hn_t4 (fun hp => hn (FW.asm_in hk.kn (by have e0 := hp; exact ⟨e0, rfl, trivial⟩))); exact ⟨_, rfl, rfl⟩) ?_; clear hk
          rintro _ _ ⟨rfl, rfl⟩ a w hk
          refine hQ _ _ a w ?_ hk; clear hk hQ hf hX
          refine ⟨[(8, [], .lit (.pointer (some ⟨bx1, 0, none⟩))), (9, [], .lit (.pointer (some ⟨b0_0, 0, none⟩))), (10, [], .lit (.bool t1)), (11, [], .lit (.pointer (some ⟨bx1, 1, none⟩))), (12, [], .lit (.pointer (some ⟨bx1, 5, none⟩))), (13, [], .lit (.bool v0.m.Off)), (14, [], .lit (.bool (!(t1 == v0.m.Off)))), (15, [], .lit (.bool (!(t1 == v0.m.Off)))), (16, [(15, false)], .lit (.pointer (some ⟨bx1, 0, none⟩))), (17, [(15, false)], .lit (.pointer (some ⟨b0_0, 0, none⟩))), (18, [(15, false)], .lit (.int .i64 t2)), (19, [(15, false)], .lit (.pointer (some ⟨bx1, 1, none⟩))), (20, [(15, false)], .lit (.pointer (some ⟨bx1, 3, none⟩))), (21, [(15, false)], .lit (.int .i64 v0.m.Steps)), (22, [(15, false)], .lit (.bool (!decide (t2 = v0.m.Steps)))), (23, [], .lit (.bool ((!(t1 == v0.m.Off)) || (!decide (t2 = v0.m.Steps))))), (24, [], .lit (.bool ((!(t1 == v0.m.Off)) || (!decide (t2 = v0.m.Steps))))), (25, [(24, false)], .lit (.pointer (some ⟨bx1, 0, none⟩))), (26, [(24, false)], .lit (.pointer (some ⟨b0_0, 0, none⟩))), (27, [(24, false)], .lit (.int .i64 t3)), (28, [(24, false)], .lit (.pointer (some ⟨bx1, 1, none⟩))), (29, [(24, false)], .lit (.pointer (some ⟨bx1, 2, none⟩))), (30, [(24, false)], .row (r_Offshootref03Loose_cells v0.m.Loose)), (31, [(24, false)], .lit (.int .i64 (List.length v0.m.Loose : Int))), (32, [(24, false)], .lit (.bool (!decide (t3 = (List.length v0.m.Loose : Int))))), (33, [], .lit (.bool (((!(t1 == v0.m.Off)) || (!decide (t2 = v0.m.Steps))) || (!decide (t3 = (List.length v0.m.Loose : Int)))))), (34, [], .lit (.bool (((!(t1 == v0.m.Off)) || (!decide (t2 = v0.m.Steps))) || (!decide (t3 = (List.length v0.m.Loose : Int)))))), (35, [(34, false)], .lit (.pointer (some ⟨bx1, 0, none⟩))), (36, [(34, false)], .lit (.pointer (some ⟨b0_0, 0, none⟩))), (37, [(34, false)], .lit (.int .i64 t4)), (38, [(34, false)], .lit (.pointer (some ⟨bx1, 1, none⟩))), (39, [(34, false)], .lit (.pointer (some ⟨bx1, 1, none⟩))), (40, [(34, false)], .row (r_c_str v0.m.Sure)), (41, [(34, false)], .lit (.int .i64 (List.length v0.m.Sure : Int))), (42, [(34, false)], .lit (.bool (!decide (t4 = (List.length v0.m.Sure : Int))))), (43, [], .lit (.bool ((((!(t1 == v0.m.Off)) || (!decide (t2 = v0.m.Steps))) || (!decide (t3 = (List.length v0.m.Loose : Int)))) || (!decide (t4 = (List.length v0.m.Sure : Int))))))], And.intro rfl (And.intro rfl (And.intro rfl (And.intro rfl (And.intro rfl (And.intro rfl (And.intro rfl (And.intro rfl (And.intro rfl (And.intro rfl (And.intro rfl (And.intro rfl (And.intro rfl (And.intro rfl (And.intro rfl (And.intro rfl (And.intro rfl (And.intro rfl (And.intro rfl (And.intro rfl (And.intro rfl (And.intro rfl (And.intro rfl (And.intro rfl (And.intro rfl (And.intro rfl (And.intro rfl (And.intro rfl (And.intro rfl (And.intro rfl (And.intro rfl (And.intro rfl (And.intro rfl (trivial))))))))))))))))))))))))))))))))), rfl, ?_⟩
          refine FW.glast ?_ ?_
          · skip
            refine FW.gskip rfl rfl ?_
            refine FW.gskip rfl rfl ?_
            refine FW.gskip rfl rfl ?_
            refine FW.gskip rfl rfl ?_
            refine FW.gskip rfl rfl ?_
            refine FW.gskip rfl rfl ?_
            refine FW.gskip rfl rfl ?_
            refine FW.gskip rfl rfl ?_
            refine FW.gskip rfl rfl ?_
            refine FW.gskip rfl rfl ?_
            refine FW.gskip rfl rfl ?_
            refine FW.gskip rfl rfl ?_
            refine FW.gskip rfl rfl ?_
            refine FW.gskip rfl rfl ?_
            refine FW.gskip rfl rfl ?_
            refine FW.gskip rfl rfl ?_
            refine FW.gskip rfl rfl ?_
            refine FW.gskip rfl rfl ?_
            refine FW.gskip rfl rfl ?_
            refine FW.gskip rfl rfl ?_
            refine FW.gskip rfl rfl ?_
            refine FW.gskip rfl rfl ?_
            refine FW.gskip rfl rfl ?_
            refine FW.gskip rfl rfl ?_
            refine FW.gskip rfl rfl ?_
            refine FW.gskip rfl rfl ?_
            refine FW.gskip rfl rfl ?_
            refine FW.gskip rfl rfl ?_
            refine FW.gskip rfl rfl ?_
            refine FW.gskip rfl rfl ?_
            refine FW.gfunG (y := .lit (.pointer (some ⟨bx1, 1, none⟩))) rfl rfl rfl rfl rfl rfl rfl rfl rfl (fun a w hk hc => FW.f_fieldPtr hk hc rfl Go.Proofs.Try.underlying68 rfl (by kernel_rfl) rfl) ?_
            refine FW.gfunG (y := .lit (.pointer (some ⟨bx1, 1, none⟩))) rfl rfl rfl rfl rfl rfl rfl rfl rfl (fun a w hk hc => FW.f_fieldPtr hk hc rfl Go.Proofs.Try.underlying65 rfl (by kernel_rfl) rfl) ?_
            refine FW.gfunG (y := .row (r_c_str v0.m.Sure)) rfl rfl rfl rfl rfl rfl rfl rfl rfl (fun a w hk hc => FW.f_loadBlk1 hk hc (j := 4) rfl rfl Go.Proofs.Try.underlying61 rfl rfl) ?_
            refine FW.gfunG (y := .lit (.int .i64 (List.length v0.m.Sure : Int))) rfl rfl rfl rfl rfl rfl rfl rfl rfl (fun a w hk hc => FW.f_len (R := r_c_str) (f := c_str) (l := v0.m.Sure) r_c_str_eq Go.Proofs.Try.underlying61 hk hc rfl) ?_
            refine FW.gfunG (y := .lit (.bool (!decide (t4 = (List.length v0.m.Sure : Int))))) rfl rfl rfl rfl rfl rfl rfl rfl rfl (fun a w hk hc => (FW.f_pure (FW.p_neq hk.kn hc rfl rfl))) ?_
            refine FW.gfun (y := .lit (.bool ((((!(t1 == v0.m.Off)) || (!decide (t2 = v0.m.Steps))) || (!decide (t3 = (List.length v0.m.Loose : Int)))) || (!decide (t4 = (List.length v0.m.Sure : Int)))))) rfl rfl rfl rfl (fun a w hk => (FW.f_pure (FW.p_pick_or hk.kn (FW.holds_nil _) rfl rfl))) ?_
            exact FW.gend
          · skip
            intro a w hk; simp only [FW.stD, cond_true] at hk
            refine FW.wcondF (b := ((((!(t1 == v0.m.Off)) || (!decide (t2 = v0.m.Steps))) || (!decide (t3 = (List.length v0.m.Loose : Int)))) || (!decide (t4 = (List.length v0.m.Sure : Int))))) hk h rfl (fun h hb => ?_) (fun h hb => ?_)
            · skip
              refine FW.wreg ?_; intro K' hK4
              refine FW.lfun (y := .lit (.bool false)) hk rfl rfl rfl rfl (FW.f_assign hk (FW.holds_nil _) rfl) ?_; clear hk; intro a w hk
              refine FW.lend (hK4 _ _ ?_); clear hK4 K'
              refine wp_ret ?_
              (repeat first | refine FW.then_ret ?_ | refine FW.block_ret ?_)
              obtain rfl := Option.some.inj h
              replace hk := FW.S.keep (I1 := [FW.blk b0_0 109 ([.lit (.slice xd0_0_0 (List.length v0_0.sure) xc0_0_0), .lit (.map (some xr0_0_1)), .lit (.int .i64 v0_0.steps), .lit (.slice xd0_0_3 (List.length v0_0.falls) xc0_0_3), .lit (.bool v0_0.off)]), FW.orow xd0_0_0 xc0_0_0 9 1 c_str v0_0.sure, FW.mapI (.int .i64) (Value.int .i64) FW.evS xr0_0_1 v0_0.cache, FW.orow xd0_0_3 xc0_0_3 45 3 ApiFall.cells v0_0.falls]) (I2 := [FW.blk bx1 68 (([.lit (.pointer (some ⟨b0_0, 0, none⟩))] : List FW.AV) ++ (Offshootref03Dev.cells v0.m))]) (js := [3, 3, 3, 3]) hk rfl
              exact FW.fretH1 hk rfl (FW.rtmp hk rfl) ⟨rfl, rfl⟩
            · skip
              refine wp_skip ?_
              (repeat first | refine FW.then_normal ?_ | refine FW.block_normal ?_); refine hK2 _ _ ?_
              refine FW.wseq ?_; intro K' hK5
              refine FW.wreg ?_; intro K' hK6
              refine FW.lfun (y := .lit (.int .i64 (-1))) hk rfl rfl rfl rfl (FW.f_assign hk (FW.holds_nil _) rfl) ?_; clear hk; intro a w hk
              refine FW.lend (hK6 _ _ ?_); clear hK6 K'
              refine wp_block ?_
              refine FW.wloop (T := Nat × Offshootref03Dev × Int) (fun x a w => match x with | (kl1, y5_1, v3) => FW.S M w0 a w 74 [FW.blk b0_0 109 ([.lit (.slice xd0_0_0 (List.length v0_0.sure) xc0_0_0), .lit (.map (some xr0_0_1)), .lit (.int .i64 v0_0.steps), .lit (.slice xd0_0_3 (List.length v0_0.falls) xc0_0_3), .lit (.bool v0_0.off)]), FW.orow xd0_0_0 xc0_0_0 9 1 c_str v0_0.sure, FW.mapI (.int .i64) (Value.int .i64) FW.evS xr0_0_1 v0_0.cache, FW.orow xd0_0_3 xc0_0_3 45 3 ApiFall.cells v0_0.falls, FW.blk bx1 68 (([.lit (.pointer (some ⟨b0_0, 0, none⟩))] : List FW.AV) ++ (Offshootref03Dev.cells y5_1))] [(1, [], .lit (.pointer (some ⟨bx1, 0, none⟩))), (3, [], .lit (.int .i64 v3))] ∧ offshootlaw03_both_same.l1 K v0_0 kl1 y5_1 v3 = some r) (fun x => x.1) (K, v0.m, (-1)) ⟨hk.sub ⟨rfl, rfl, trivial⟩, h⟩ ?_
              clear hk h
              rintro ⟨kl1, y5_1, v3⟩ a w ⟨hk, h⟩ K' hK7
              cases kl1 with
              | zero => simp [offshootlaw03_both_same.l1] at h
              | succ kl1 =>
              rw [offshootlaw03_both_same.l1.eq_2] at h
              refine FW.wseq ?_; intro K' hK8
              refine FW.wreg ?_; intro K' hK9
              refine FW.lfun (y := .lit (.int .i64 v3)) hk rfl rfl rfl rfl (FW.f_move hk (FW.holds_nil _) rfl) ?_; clear hk; intro a w hk
              refine FW.lfun (y := .lit (.pointer (some ⟨bx1, 1, none⟩))) hk rfl rfl rfl rfl (FW.f_fieldPtr hk (FW.holds_nil _) rfl Go.Proofs.Try.underlying68 rfl (by kernel_rfl) rfl) ?_; clear hk; intro a w hk
              refine FW.lfun (y := .lit (.pointer (some ⟨bx1, 1, none⟩))) hk rfl rfl rfl rfl (FW.f_fieldPtr hk (FW.holds_nil _) rfl Go.Proofs.Try.underlying65 rfl (by kernel_rfl) rfl) ?_; clear hk; intro a w hk
              refine FW.lfun (y := .row (r_c_str y5_1.Sure)) hk rfl rfl rfl rfl (FW.f_loadBlk1 hk (FW.holds_nil _) (j := 4) rfl rfl Go.Proofs.Try.underlying61 rfl rfl) ?_; clear hk; intro a w hk
              refine FW.lfun (y := .lit (.int .i64 (List.length y5_1.Sure : Int))) hk rfl rfl rfl rfl (FW.f_len (R := r_c_str) (f := c_str) (l := y5_1.Sure) r_c_str_eq Go.Proofs.Try.underlying61 hk (FW.holds_nil _) rfl) ?_; clear hk; intro a w hk
              refine FW.lfun (y := .lit (.bool (decide (v3 ≤ (List.length y5_1.Sure : Int))))) hk rfl rfl rfl rfl ((FW.f_pure (FW.p_leq hk.kn (FW.holds_nil _) rfl rfl))) ?_; clear hk; intro a w hk
              refine FW.lend (hK9 _ _ ?_); clear hK9 K'
              refine FW.wcondF (b := (decide (v3 ≤ (List.length y5_1.Sure : Int)))) hk h rfl (fun h hb => ?_) (fun h hb => ?_)
              · skip
                refine wp_skip ?_
                (repeat first | refine FW.then_normal ?_ | refine FW.block_normal ?_); refine hK8 _ _ ?_
                refine FW.wseq ?_; intro K' hK10
                refine wp_block ?_
                refine FW.wreg ?_; intro K' hK11
                refine FW.lfun (y := .lit (.pointer (some ⟨bx1, 0, none⟩))) hk rfl rfl rfl rfl (FW.f_fieldPtr hk (FW.holds_nil _) rfl Go.Proofs.Try.underlying68 rfl (by kernel_rfl) rfl) ?_; clear hk; intro a w hk
                refine FW.lfun (y := .lit (.pointer (some ⟨b0_0, 0, none⟩))) hk rfl rfl rfl rfl (FW.f_loadBlk1 hk (FW.holds_nil _) (j := 4) rfl rfl Go.Proofs.Try.underlying46 rfl rfl) ?_; clear hk; intro a w hk
                refine FW.lfun (y := .lit (.int .i64 v3)) hk rfl rfl rfl rfl (FW.f_move hk (FW.holds_nil _) rfl) ?_; clear hk; intro a w hk
                obtain ⟨t5, hr_t5, h⟩ := FW.bnd h
                refine FW.l_callH (I1 := (ODevDev.items b0_0 xd0_0_0 xc0_0_0 xr0_0_1 xd0_0_3 xc0_0_3 v0_0)) (I2 := [FW.blk bx1 68 (([.lit (.pointer (some ⟨b0_0, 0, none⟩))] : List FW.AV) ++ (Offshootref03Dev.cells y5_1))]) (js := [3, 3, 3, 3]) hk rfl rfl rfl rfl rfl Go.Proofs.Try.func34 rfl (by kernel_rfl) (dev_Dev_Read.ok v0_0 v3 _ hr_t5 b0_0 xd0_0_0 xc0_0_0 xr0_0_1 xd0_0_3 xc0_0_3) ?_; clear hk
                rintro _ _ ⟨rfl, rfl⟩ a w hk
                refine FW.lfun (y := .tup [.lit (.string (FW.B t5.1)), .lit (.int .i64 t5.2)]) hk rfl rfl rfl rfl (FW.f_move hk (FW.holds_nil _) rfl) ?_; clear hk; intro a w hk
                refine FW.lfun (y := .lit (.string (FW.B t5.1))) hk rfl rfl rfl rfl (FW.f_extract hk (FW.holds_nil _) rfl rfl) ?_; clear hk; intro a w hk
                refine FW.lfun (y := .lit (.int .i64 t5.2)) hk rfl rfl rfl rfl (FW.f_extract hk (FW.holds_nil _) rfl rfl) ?_; clear hk; intro a w hk
                refine FW.lfun (y := .lit (.string (FW.B t5.1))) hk rfl rfl rfl rfl (FW.f_assign hk (FW.holds_nil _) rfl) ?_; clear hk; intro a w hk
                refine FW.lfun (y := .lit (.int .i64 t5.2)) hk rfl rfl rfl rfl (FW.f_assign hk (FW.holds_nil _) rfl) ?_; clear hk; intro a w hk
                refine FW.lend (hK11 _ _ ?_); clear hK11 K'
                refine FW.wreg ?_; intro K' hK12
                refine FW.lfun (y := .lit (.pointer (some ⟨bx1, 1, none⟩))) hk rfl rfl rfl rfl (FW.f_fieldPtr hk (FW.holds_nil _) rfl Go.Proofs.Try.underlying68 rfl (by kernel_rfl) rfl) ?_; clear hk; intro a w hk
                refine FW.lfun (y := .agg ((Offshootref03Dev.cells y5_1))) hk rfl rfl rfl rfl (FW.f_loadBlk hk (FW.holds_nil _) (j := 4) rfl rfl Go.Proofs.Try.underlying65 rfl rfl rfl rfl) ?_; clear hk; intro a w hk
                refine FW.lfun (y := .lit (.int .i64 v3)) hk rfl rfl rfl rfl (FW.f_move hk (FW.holds_nil _) rfl) ?_; clear hk; intro a w hk
                obtain ⟨t6, hr_t6, h⟩ := FW.bnd h
                refine FW.lfun (y := .tup [.lit (.string (FW.B t6.1)), .lit (.int .i64 t6.2)]) hk rfl rfl rfl rfl (FW.f_call hk (FW.holds_nil _) rfl rfl Go.Proofs.Try.func69 rfl (by kernel_rfl) (offshootref03_Dev_Read.ok K y5_1 v3 _ hr_t6)) ?_; clear hk; intro a w hk
                refine FW.lfun (y := .tup [.lit (.string (FW.B t6.1)), .lit (.int .i64 t6.2)]) hk rfl rfl rfl rfl (FW.f_move hk (FW.holds_nil _) rfl) ?_; clear hk; intro a w hk
                refine FW.lfun (y := .lit (.string (FW.B t6.1))) hk rfl rfl rfl rfl (FW.f_extract hk (FW.holds_nil _) rfl rfl) ?_; clear hk; intro a w hk
                refine FW.lfun (y := .lit (.int .i64 t6.2)) hk rfl rfl rfl rfl (FW.f_extract hk (FW.holds_nil _) rfl rfl) ?_; clear hk; intro a w hk
                refine FW.lfun (y := .lit (.string (FW.B t6.1))) hk rfl rfl rfl rfl (FW.f_assign hk (FW.holds_nil _) rfl) ?_; clear hk; intro a w hk
                refine FW.lfun (y := .lit (.int .i64 t6.2)) hk rfl rfl rfl rfl (FW.f_assign hk (FW.holds_nil _) rfl) ?_; clear hk; intro a w hk
                refine FW.lend (hK12 _ _ ?_); clear hK12 K'
                refine FW.wreg ?_; intro K' hK13
                refine FW.lfun (y := .lit (.int .i64 t5.2)) hk rfl rfl rfl rfl (FW.f_move hk (FW.holds_nil _) rfl) ?_; clear hk; intro a w hk
                refine FW.lfun (y := .lit (.int .i64 t6.2)) hk rfl rfl rfl rfl (FW.f_move hk (FW.holds_nil _) rfl) ?_; clear hk; intro a w hk
                refine FW.lfun (y := .lit (.bool (!decide (t5.2 = t6.2)))) hk rfl rfl rfl rfl ((FW.f_pure (FW.p_neq hk.kn (FW.holds_nil _) rfl rfl))) ?_; clear hk; intro a w hk
                refine FW.lfun (y := .lit (.bool (!decide (t5.2 = t6.2)))) hk rfl rfl rfl rfl (FW.f_move hk (FW.holds_nil _) rfl) ?_; clear hk; intro a w hk
                refine FW.lfunG (y := .lit (.string (FW.B t5.1))) hk rfl rfl rfl rfl rfl rfl rfl rfl (fun hc => FW.f_move hk hc rfl) ?_; clear hk; intro a w hk
                refine FW.lfunG (y := .lit (.string (FW.B t6.1))) hk rfl rfl rfl rfl rfl rfl rfl rfl (fun hc => FW.f_move hk hc rfl) ?_; clear hk; intro a w hk
                refine FW.lfunG (y := .lit (.bool (!decide (t5.1 = t6.1)))) hk rfl rfl rfl rfl rfl rfl rfl rfl (fun hc => (FW.f_pure (FW.p_sneq hk.kn hc rfl rfl))) ?_; clear hk; intro a w hk
                refine FW.lfun (y := .lit (.bool ((!decide (t5.2 = t6.2)) || (!decide (t5.1 = t6.1))))) hk rfl rfl rfl rfl ((FW.f_pure (FW.p_pick_or hk.kn (FW.holds_nil _) rfl rfl))) ?_; clear hk; intro a w hk
                refine FW.lend (hK13 _ _ ?_); clear hK13 K'
                refine FW.wcondF (b := ((!decide (t5.2 = t6.2)) || (!decide (t5.1 = t6.1)))) hk h rfl (fun h hb => ?_) (fun h hb => ?_)
                · skip
                  refine FW.wreg ?_; intro K' hK14
                  refine FW.lfun (y := .lit (.bool false)) hk rfl rfl rfl rfl (FW.f_assign hk (FW.holds_nil _) rfl) ?_; clear hk; intro a w hk
                  refine FW.lend (hK14 _ _ ?_); clear hK14 K'
                  refine wp_ret ?_
                  (repeat first | refine FW.then_ret ?_ | refine FW.block_ret ?_)
                  obtain rfl := Option.some.inj h
                  replace hk := FW.S.keep (I1 := [FW.blk b0_0 109 ([.lit (.slice xd0_0_0 (List.length v0_0.sure) xc0_0_0), .lit (.map (some xr0_0_1)), .lit (.int .i64 v0_0.steps), .lit (.slice xd0_0_3 (List.length v0_0.falls) xc0_0_3), .lit (.bool v0_0.off)]), FW.orow xd0_0_0 xc0_0_0 9 1 c_str v0_0.sure, FW.mapI (.int .i64) (Value.int .i64) FW.evS xr0_0_1 v0_0.cache, FW.orow xd0_0_3 xc0_0_3 45 3 ApiFall.cells v0_0.falls]) (I2 := [FW.blk bx1 68 (([.lit (.pointer (some ⟨b0_0, 0, none⟩))] : List FW.AV) ++ (Offshootref03Dev.cells y5_1))]) (js := [3, 3, 3, 3]) hk rfl
                  exact FW.fretH1 hk rfl (FW.rtmp hk rfl) ⟨rfl, rfl⟩
                · skip
                  refine wp_skip ?_
                  (repeat first | refine FW.then_normal ?_ | refine FW.block_normal ?_); refine hK10 _ _ ?_
                  refine FW.wreg1 ?_
                  refine FW.lfun (y := .lit (.int .i64 v3)) hk rfl rfl rfl rfl (FW.f_move hk (FW.holds_nil _) rfl) ?_; clear hk; intro a w hk
                  refine FW.lfun (y := .lit (.int .i64 (IntKind.wrap .i64 (v3 + 1)))) hk rfl rfl rfl rfl ((FW.f_pure (FW.p_add hk.kn (FW.holds_nil _) rfl rfl))) ?_; clear hk; intro a w hk
                  refine FW.lfun (y := .lit (.int .i64 (IntKind.wrap .i64 (v3 + 1)))) hk rfl rfl rfl rfl (FW.f_assign hk (FW.holds_nil _) rfl) ?_; clear hk; intro a w hk
                  refine wpList_nil ?_
                  (repeat first | refine FW.then_normal ?_ | refine FW.block_normal ?_); exact hK7 (kl1, y5_1, (IntKind.wrap .i64 (v3 + 1))) _ _ (Nat.lt_succ_self _) ⟨hk.sub ⟨rfl, rfl, trivial⟩, h⟩
              · skip
                refine wp_exit ?_; (repeat first | refine FW.then_exit ?_ | refine FW.block_exit_ne rfl ?_); refine FW.block_exit ?_
                (repeat first | refine FW.then_normal ?_ | refine FW.block_normal ?_); refine hK5 _ _ ?_
                refine FW.wreg ?_; intro K' hK16
                refine FW.lfun (y := .lit (.bool true)) hk rfl rfl rfl rfl (FW.f_assign hk (FW.holds_nil _) rfl) ?_; clear hk; intro a w hk
                refine FW.lend (hK16 _ _ ?_); clear hK16 K'
                refine wp_ret ?_
                (repeat first | refine FW.then_ret ?_ | refine FW.block_ret ?_)
                obtain rfl := Option.some.inj h
                replace hk := FW.S.keep (I1 := [FW.blk b0_0 109 ([.lit (.slice xd0_0_0 (List.length v0_0.sure) xc0_0_0), .lit (.map (some xr0_0_1)), .lit (.int .i64 v0_0.steps), .lit (.slice xd0_0_3 (List.length v0_0.falls) xc0_0_3), .lit (.bool v0_0.off)]), FW.orow xd0_0_0 xc0_0_0 9 1 c_str v0_0.sure, FW.mapI (.int .i64) (Value.int .i64) FW.evS xr0_0_1 v0_0.cache, FW.orow xd0_0_3 xc0_0_3 45 3 ApiFall.cells v0_0.falls]) (I2 := [FW.blk bx1 68 (([.lit (.pointer (some ⟨b0_0, 0, none⟩))] : List FW.AV) ++ (Offshootref03Dev.cells y5_1))]) (js := [3, 3, 3, 3]) hk rfl
                exact FW.fretH1 hk rfl (FW.rtmp hk rfl) ⟨rfl, rfl⟩
end Go.Proofs.Ytimaibcaehagjaa

/- Written by a program of this session (gen.py): the contracts of functions of the program. -/
import Derived.KernelRfl
import Derived.Test.YtbjbgodcenopnaaProg
import Derived.Test.YtbjbgodcenopnaaAvFun
import Derived.Test.YtbjbgodcenopnaaAvMan
import Derived.Test.YtbjbgodcenopnaaAvMore
import Derived.Test.YtbjbgodcenopnaaAvDraw2
import Derived.Test.YtbjbgodcenopnaaAvRow
import Derived.Test.YtbjbgodcenopnaaAvBld
import Derived.Test.YtbjbgodcenopnaaHrd
import Derived.Test.YtbjbgodcenopnaaHcl
import Derived.Test.YtbjbgodcenopnaaPaP6
import Derived.Test.YtbjbgodcenopnaaPdD
import Derived.Test.YtbjbgodcenopnaaPdP2
namespace Go.Proofs.Ytbjbgodcenopnaa
set_option linter.unusedVariables false
set_option maxRecDepth 20000
set_option maxHeartbeats 10000000
theorem offshootref12_Same.bok (s_offshootref12_Same : List ApiStep → List ApiStep → Option Bool) (hs_offshootref12_Same : ∀ (v0 : List ApiStep) (v1 : List ApiStep) (r : Bool), s_offshootref12_Same v0 v1 = some r → FW.Ok Go.Proofs.Try.prog 20 [.row (r_ApiStep_cells v0), .row (r_ApiStep_cells v1)] (.lit (.bool r))) (K : Nat) (v0 : List ApiStep) (v1 : List ApiStep) (r : Bool) (h : offshootref12_Same.b s_offshootref12_Same K v0 v1 = some r) :
    FW.Ok Go.Proofs.Try.prog 20 [.row (r_ApiStep_cells v0), .row (r_ApiStep_cells v1)] (.lit (.bool r)) := by
  refine FW.enter (xs := [.row (r_ApiStep_cells v0), .row (r_ApiStep_cells v1)]) Go.Proofs.Try.func20 rfl Go.Proofs.Try.ntmps20 rfl ?_
  intro M w0 a hk
  unfold offshootref12_Same.b at h
  refine FW.wreg ?_; intro K' hK1
  refine FW.lfun (y := .lit (.bool false)) hk rfl rfl rfl rfl (FW.f_assign hk (FW.holds_nil _) rfl) ?_; clear hk; intro a w hk
  refine FW.lend (hK1 _ _ ?_); clear hK1 K'
  refine FW.wseq ?_; intro K' hK2
  refine FW.wreg ?_; intro K' hK3
  refine FW.lfun (y := .row (r_ApiStep_cells v0)) hk rfl rfl rfl rfl (FW.f_move hk (FW.holds_nil _) rfl) ?_; clear hk; intro a w hk
  refine FW.lfun (y := .lit (.int .i64 (List.length v0 : Int))) hk rfl rfl rfl rfl (FW.f_len (R := r_ApiStep_cells) (f := ApiStep.cells) (l := v0) r_ApiStep_cells_eq Go.Proofs.Try.underlying22 hk (FW.holds_nil _) rfl) ?_; clear hk; intro a w hk
  refine FW.lfun (y := .row (r_ApiStep_cells v1)) hk rfl rfl rfl rfl (FW.f_move hk (FW.holds_nil _) rfl) ?_; clear hk; intro a w hk
  refine FW.lfun (y := .lit (.int .i64 (List.length v1 : Int))) hk rfl rfl rfl rfl (FW.f_len (R := r_ApiStep_cells) (f := ApiStep.cells) (l := v1) r_ApiStep_cells_eq Go.Proofs.Try.underlying22 hk (FW.holds_nil _) rfl) ?_; clear hk; intro a w hk
  refine FW.lfun (y := .lit (.bool (!decide ((List.length v0 : Int) = (List.length v1 : Int))))) hk rfl rfl rfl rfl ((FW.f_pure (FW.p_neq hk.kn (FW.holds_nil _) rfl rfl))) ?_; clear hk; intro a w hk
  refine FW.lend (hK3 _ _ ?_); clear hK3 K'
  refine FW.wcondF (b := (!decide ((List.length v0 : Int) = (List.length v1 : Int)))) hk h rfl (fun h hb => ?_) (fun h hb => ?_)
  · skip
    refine FW.wreg ?_; intro K' hK4
    refine FW.lfun (y := .lit (.bool false)) hk rfl rfl rfl rfl (FW.f_assign hk (FW.holds_nil _) rfl) ?_; clear hk; intro a w hk
    refine FW.lend (hK4 _ _ ?_); clear hK4 K'
    refine wp_ret ?_
    (repeat first | refine FW.then_ret ?_ | refine FW.block_ret ?_)
    obtain rfl := Option.some.inj h
    exact FW.fret1 hk rfl rfl
  · skip
    refine wp_skip ?_
    (repeat first | refine FW.then_normal ?_ | refine FW.block_normal ?_); refine hK2 _ _ ?_
    refine FW.wseq ?_; intro K' hK5
    refine FW.wreg ?_; intro K' hK6
    refine FW.lfun (y := .lit (.int .i64 0)) hk rfl rfl rfl rfl (FW.f_assign hk (FW.holds_nil _) rfl) ?_; clear hk; intro a w hk
    refine FW.lend (hK6 _ _ ?_); clear hK6 K'
    refine wp_block ?_
    refine FW.wloop (T := Nat × List ApiStep × List ApiStep × Int) (fun x a w => match x with | (kl1, v0, v1, v5) => FW.S M w0 a w 101 [] [(0, [], .row (r_ApiStep_cells v0)), (1, [], .row (r_ApiStep_cells v1)), (5, [], .lit (.int .i64 v5))] ∧ offshootref12_Same.l1 s_offshootref12_Same K kl1 v0 v1 v5 = some r) (fun x => x.1) (K, v0, v1, 0) ⟨hk.sub ⟨rfl, rfl, rfl, trivial⟩, h⟩ ?_
    clear hk h
    rintro ⟨kl1, v0, v1, v5⟩ a w ⟨hk, h⟩ K' hK7
    cases kl1 with
    | zero => simp [offshootref12_Same.l1] at h
    | succ kl1 =>
    rw [offshootref12_Same.l1.eq_2] at h
    refine FW.wseq ?_; intro K' hK8
    refine FW.wreg ?_; intro K' hK9
    refine FW.lfun (y := .lit (.int .i64 v5)) hk rfl rfl rfl rfl (FW.f_move hk (FW.holds_nil _) rfl) ?_; clear hk; intro a w hk
    refine FW.lfun (y := .row (r_ApiStep_cells v0)) hk rfl rfl rfl rfl (FW.f_move hk (FW.holds_nil _) rfl) ?_; clear hk; intro a w hk
    refine FW.lfun (y := .lit (.int .i64 (List.length v0 : Int))) hk rfl rfl rfl rfl (FW.f_len (R := r_ApiStep_cells) (f := ApiStep.cells) (l := v0) r_ApiStep_cells_eq Go.Proofs.Try.underlying22 hk (FW.holds_nil _) rfl) ?_; clear hk; intro a w hk
    refine FW.lfun (y := .lit (.bool (decide (v5 < (List.length v0 : Int))))) hk rfl rfl rfl rfl ((FW.f_pure (FW.p_lss hk.kn (FW.holds_nil _) rfl rfl))) ?_; clear hk; intro a w hk
    refine FW.lend (hK9 _ _ ?_); clear hK9 K'
    refine FW.wcondF (b := (decide (v5 < (List.length v0 : Int)))) hk h rfl (fun h hb => ?_) (fun h hb => ?_)
    · skip
      refine wp_skip ?_
      (repeat first | refine FW.then_normal ?_ | refine FW.block_normal ?_); refine hK8 _ _ ?_
      refine FW.wseq ?_; intro K' hK10
      refine wp_block ?_
      refine FW.wseq ?_; intro K' hK11
      obtain ⟨hc1, h⟩ := FW.chk h
      obtain ⟨hc2, h⟩ := FW.chk h
      obtain ⟨hc3, h⟩ := FW.chk h
      obtain ⟨hc4, h⟩ := FW.chk h
      refine FW.wdraw (by kernel_rfl) (by kernel_rfl) hk ?_; clear hk
      refine FW.dfun (y := .row (r_ApiStep_cells v0)) rfl rfl rfl rfl (fun a w hk => FW.f_move hk (FW.holds_nil _) rfl) ?_
      refine FW.dfun (y := .lit (.int .i64 v5)) rfl rfl rfl rfl (fun a w hk => FW.f_move hk (FW.holds_nil _) rfl) ?_
      refine FW.dfun (y := .ref (ApiStep.cells (List.getD v0 (Int.toNat v5) default))) rfl rfl rfl rfl (fun a w hk => FW.f_indexAddr (R := r_ApiStep_cells) (f := ApiStep.cells) (l := v0) (sz := 2) r_ApiStep_cells_eq (fun _ => rfl) hk (FW.holds_nil _) rfl rfl Go.Proofs.Try.underlying22 (by kernel_rfl) hc1) ?_
      refine FW.dfun (y := .ref (List.drop 0 (ApiStep.cells (List.getD v0 (Int.toNat v5) default)))) rfl rfl rfl rfl (fun a w hk => FW.f_fieldAddr hk (FW.holds_nil _) rfl Go.Proofs.Try.underlying29 rfl (by kernel_rfl) rfl) ?_
      refine FW.dfun (y := .lit (.string (FW.B ((List.getD v0 (Int.toNat v5) default).Name)))) rfl rfl rfl rfl (fun a w hk => FW.f_load1 hk (FW.holds_nil _) rfl rfl Go.Proofs.Try.underlying9 rfl) ?_
      refine FW.dfun (y := .row (r_ApiStep_cells v1)) rfl rfl rfl rfl (fun a w hk => FW.f_move hk (FW.holds_nil _) rfl) ?_
      refine FW.dfun (y := .lit (.int .i64 v5)) rfl rfl rfl rfl (fun a w hk => FW.f_move hk (FW.holds_nil _) rfl) ?_
      refine FW.dfun (y := .ref (ApiStep.cells (List.getD v1 (Int.toNat v5) default))) rfl rfl rfl rfl (fun a w hk => FW.f_indexAddr (R := r_ApiStep_cells) (f := ApiStep.cells) (l := v1) (sz := 2) r_ApiStep_cells_eq (fun _ => rfl) hk (FW.holds_nil _) rfl rfl Go.Proofs.Try.underlying22 (by kernel_rfl) hc2) ?_
      refine FW.dfun (y := .ref (List.drop 0 (ApiStep.cells (List.getD v1 (Int.toNat v5) default)))) rfl rfl rfl rfl (fun a w hk => FW.f_fieldAddr hk (FW.holds_nil _) rfl Go.Proofs.Try.underlying29 rfl (by kernel_rfl) rfl) ?_
      refine FW.dfun (y := .lit (.string (FW.B ((List.getD v1 (Int.toNat v5) default).Name)))) rfl rfl rfl rfl (fun a w hk => FW.f_load1 hk (FW.holds_nil _) rfl rfl Go.Proofs.Try.underlying9 rfl) ?_
      refine FW.dfun (y := .lit (.bool (!decide (((List.getD v0 (Int.toNat v5) default).Name) = ((List.getD v1 (Int.toNat v5) default).Name))))) rfl rfl rfl rfl (fun a w hk => (FW.f_pure (FW.p_sneq hk.kn (FW.holds_nil _) rfl rfl))) ?_
      refine FW.dfun (y := .lit (.bool (!decide (((List.getD v0 (Int.toNat v5) default).Name) = ((List.getD v1 (Int.toNat v5) default).Name))))) rfl rfl rfl rfl (fun a w hk => FW.f_move hk (FW.holds_nil _) rfl) ?_
      refine FW.dfunG (y := .row (r_ApiStep_cells v0)) rfl rfl rfl rfl rfl rfl rfl rfl rfl (fun a w hk hc => FW.f_move hk hc rfl) ?_
      refine FW.dfunG (y := .lit (.int .i64 v5)) rfl rfl rfl rfl rfl rfl rfl rfl rfl (fun a w hk hc => FW.f_move hk hc rfl) ?_
      refine FW.dfunG (y := .ref (ApiStep.cells (List.getD v0 (Int.toNat v5) default))) rfl rfl rfl rfl rfl rfl rfl rfl rfl (fun a w hk hc => FW.f_indexAddr (R := r_ApiStep_cells) (f := ApiStep.cells) (l := v0) (sz := 2) r_ApiStep_cells_eq (fun _ => rfl) hk hc rfl rfl Go.Proofs.Try.underlying22 (by kernel_rfl) hc3) ?_
      refine FW.dfunG (y := .ref (List.drop 1 (ApiStep.cells (List.getD v0 (Int.toNat v5) default)))) rfl rfl rfl rfl rfl rfl rfl rfl rfl (fun a w hk hc => FW.f_fieldAddr hk hc rfl Go.Proofs.Try.underlying29 rfl (by kernel_rfl) rfl) ?_
      refine FW.dfunG (y := .row (r_ApiArg_cells ((List.getD v0 (Int.toNat v5) default).Args))) rfl rfl rfl rfl rfl rfl rfl rfl rfl (fun a w hk hc => FW.f_load1 hk hc rfl rfl Go.Proofs.Try.underlying27 rfl) ?_
      refine FW.dfunG (y := .lit (.int .i64 (List.length ((List.getD v0 (Int.toNat v5) default).Args) : Int))) rfl rfl rfl rfl rfl rfl rfl rfl rfl (fun a w hk hc => FW.f_len (R := r_ApiArg_cells) (f := ApiArg.cells) (l := (List.getD v0 (Int.toNat v5) default).Args) r_ApiArg_cells_eq Go.Proofs.Try.underlying27 hk hc rfl) ?_
      refine FW.dfunG (y := .row (r_ApiStep_cells v1)) rfl rfl rfl rfl rfl rfl rfl rfl rfl (fun a w hk hc => FW.f_move hk hc rfl) ?_
      refine FW.dfunG (y := .lit (.int .i64 v5)) rfl rfl rfl rfl rfl rfl rfl rfl rfl (fun a w hk hc => FW.f_move hk hc rfl) ?_
      refine FW.dfunG (y := .ref (ApiStep.cells (List.getD v1 (Int.toNat v5) default))) rfl rfl rfl rfl rfl rfl rfl rfl rfl (fun a w hk hc => FW.f_indexAddr (R := r_ApiStep_cells) (f := ApiStep.cells) (l := v1) (sz := 2) r_ApiStep_cells_eq (fun _ => rfl) hk hc rfl rfl Go.Proofs.Try.underlying22 (by kernel_rfl) hc4) ?_
      refine FW.dfunG (y := .ref (List.drop 1 (ApiStep.cells (List.getD v1 (Int.toNat v5) default)))) rfl rfl rfl rfl rfl rfl rfl rfl rfl (fun a w hk hc => FW.f_fieldAddr hk hc rfl Go.Proofs.Try.underlying29 rfl (by kernel_rfl) rfl) ?_
      refine FW.dfunG (y := .row (r_ApiArg_cells ((List.getD v1 (Int.toNat v5) default).Args))) rfl rfl rfl rfl rfl rfl rfl rfl rfl (fun a w hk hc => FW.f_load1 hk hc rfl rfl Go.Proofs.Try.underlying27 rfl) ?_
      refine FW.dfunG (y := .lit (.int .i64 (List.length ((List.getD v1 (Int.toNat v5) default).Args) : Int))) rfl rfl rfl rfl rfl rfl rfl rfl rfl (fun a w hk hc => FW.f_len (R := r_ApiArg_cells) (f := ApiArg.cells) (l := (List.getD v1 (Int.toNat v5) default).Args) r_ApiArg_cells_eq Go.Proofs.Try.underlying27 hk hc rfl) ?_
      refine FW.dfunG (y := .lit (.bool (!decide ((List.length ((List.getD v0 (Int.toNat v5) default).Args) : Int) = (List.length ((List.getD v1 (Int.toNat v5) default).Args) : Int))))) rfl rfl rfl rfl rfl rfl rfl rfl rfl (fun a w hk hc => (FW.f_pure (FW.p_neq hk.kn hc rfl rfl))) ?_
      refine FW.dfun (y := .lit (.bool ((!decide (((List.getD v0 (Int.toNat v5) default).Name) = ((List.getD v1 (Int.toNat v5) default).Name))) || (!decide ((List.length ((List.getD v0 (Int.toNat v5) default).Args) : Int) = (List.length ((List.getD v1 (Int.toNat v5) default).Args) : Int)))))) rfl rfl rfl rfl (fun a w hk => (FW.f_pure (FW.p_pick_or hk.kn (FW.holds_nil _) rfl rfl))) ?_
      refine FW.dend ?_; intro a w hk
      refine FW.wcondF (b := ((!decide (((List.getD v0 (Int.toNat v5) default).Name) = ((List.getD v1 (Int.toNat v5) default).Name))) || (!decide ((List.length ((List.getD v0 (Int.toNat v5) default).Args) : Int) = (List.length ((List.getD v1 (Int.toNat v5) default).Args) : Int))))) hk h rfl (fun h hb => ?_) (fun h hb => ?_)
      · skip
        refine FW.wreg ?_; intro K' hK13
        refine FW.lfun (y := .lit (.bool false)) hk rfl rfl rfl rfl (FW.f_assign hk (FW.holds_nil _) rfl) ?_; clear hk; intro a w hk
        refine FW.lend (hK13 _ _ ?_); clear hK13 K'
        refine wp_ret ?_
        (repeat first | refine FW.then_ret ?_ | refine FW.block_ret ?_)
        obtain rfl := Option.some.inj h
        exact FW.fret1 hk rfl rfl
      · skip
        refine wp_skip ?_
        (repeat first | refine FW.then_normal ?_ | refine FW.block_normal ?_); refine hK11 _ _ ?_
        refine FW.wreg ?_; intro K' hK14
        refine FW.lfun (y := .lit (.int .i64 0)) hk rfl rfl rfl rfl (FW.f_assign hk (FW.holds_nil _) rfl) ?_; clear hk; intro a w hk
        refine FW.lend (hK14 _ _ ?_); clear hK14 K'
        refine wp_block ?_
        refine FW.wloop (T := Nat × List ApiStep × List ApiStep × Int × Int) (fun x a w => match x with | (kl2, v0, v1, v5, v6) => FW.S M w0 a w 101 [] [(0, [], .row (r_ApiStep_cells v0)), (1, [], .row (r_ApiStep_cells v1)), (5, [], .lit (.int .i64 v5)), (6, [], .lit (.int .i64 v6))] ∧ offshootref12_Same.l2 s_offshootref12_Same (offshootref12_Same.l1 s_offshootref12_Same K kl1) K kl2 v0 v1 v5 v6 = some r) (fun x => x.1) (K, v0, v1, v5, 0) ⟨hk.sub ⟨rfl, rfl, rfl, rfl, trivial⟩, h⟩ ?_
        clear hk h
        rintro ⟨kl2, v0, v1, v5, v6⟩ a w ⟨hk, h⟩ K' hK15
        cases kl2 with
        | zero => simp [offshootref12_Same.l2] at h
        | succ kl2 =>
        rw [offshootref12_Same.l2.eq_2] at h
        refine FW.wseq ?_; intro K' hK16
        refine FW.wreg ?_; intro K' hK17
        refine FW.lfun (y := .lit (.int .i64 v6)) hk rfl rfl rfl rfl (FW.f_move hk (FW.holds_nil _) rfl) ?_; clear hk; intro a w hk
        refine FW.lfun (y := .row (r_ApiStep_cells v0)) hk rfl rfl rfl rfl (FW.f_move hk (FW.holds_nil _) rfl) ?_; clear hk; intro a w hk
        refine FW.lfun (y := .lit (.int .i64 v5)) hk rfl rfl rfl rfl (FW.f_move hk (FW.holds_nil _) rfl) ?_; clear hk; intro a w hk
        obtain ⟨hc5, h⟩ := FW.chk h
        refine FW.lfun (y := .ref (ApiStep.cells (List.getD v0 (Int.toNat v5) default))) hk rfl rfl rfl rfl (FW.f_indexAddr (R := r_ApiStep_cells) (f := ApiStep.cells) (l := v0) (sz := 2) r_ApiStep_cells_eq (fun _ => rfl) hk (FW.holds_nil _) rfl rfl Go.Proofs.Try.underlying22 (by kernel_rfl) hc5) ?_; clear hk; intro a w hk
        refine FW.lfun (y := .ref (List.drop 1 (ApiStep.cells (List.getD v0 (Int.toNat v5) default)))) hk rfl rfl rfl rfl (FW.f_fieldAddr hk (FW.holds_nil _) rfl Go.Proofs.Try.underlying29 rfl (by kernel_rfl) rfl) ?_; clear hk; intro a w hk
        refine FW.lfun (y := .row (r_ApiArg_cells ((List.getD v0 (Int.toNat v5) default).Args))) hk rfl rfl rfl rfl (FW.f_load1 hk (FW.holds_nil _) rfl rfl Go.Proofs.Try.underlying27 rfl) ?_; clear hk; intro a w hk
        refine FW.lfun (y := .lit (.int .i64 (List.length ((List.getD v0 (Int.toNat v5) default).Args) : Int))) hk rfl rfl rfl rfl (FW.f_len (R := r_ApiArg_cells) (f := ApiArg.cells) (l := (List.getD v0 (Int.toNat v5) default).Args) r_ApiArg_cells_eq Go.Proofs.Try.underlying27 hk (FW.holds_nil _) rfl) ?_; clear hk; intro a w hk
        refine FW.lfun (y := .lit (.bool (decide (v6 < (List.length ((List.getD v0 (Int.toNat v5) default).Args) : Int))))) hk rfl rfl rfl rfl ((FW.f_pure (FW.p_lss hk.kn (FW.holds_nil _) rfl rfl))) ?_; clear hk; intro a w hk
        refine FW.lend (hK17 _ _ ?_); clear hK17 K'
        refine FW.wcondF (b := (decide (v6 < (List.length ((List.getD v0 (Int.toNat v5) default).Args) : Int)))) hk h rfl (fun h hb => ?_) (fun h hb => ?_)
        · skip
          refine wp_skip ?_
          (repeat first | refine FW.then_normal ?_ | refine FW.block_normal ?_); refine hK16 _ _ ?_
          refine FW.wseq ?_; intro K' hK18
          refine wp_block ?_
          refine FW.wseqJ (fun a w => ∃ (y2 : ApiArg) (y1 : ApiArg) (v0 : List ApiStep) (v1 : List ApiStep) (v5 : Int) (v6 : Int) (xn2 : Nat) (xn1 : Nat), FW.S M w0 a w 101 [FW.blk xn2 38 ((ApiArg.cells y2)), FW.blk xn1 38 ((ApiArg.cells y1))] [(0, [], .row (r_ApiStep_cells v0)), (1, [], .row (r_ApiStep_cells v1)), (5, [], .lit (.int .i64 v5)), (6, [], .lit (.int .i64 v6)), (7, [], .lit (.pointer (some ⟨xn1, 0, none⟩))), (8, [], .lit (.pointer (some ⟨xn2, 0, none⟩)))] ∧ offshootref12_Same.j1 s_offshootref12_Same (offshootref12_Same.l1 s_offshootref12_Same K kl1) (offshootref12_Same.l2 s_offshootref12_Same (offshootref12_Same.l1 s_offshootref12_Same K kl1) K kl2) K y2 y1 v0 v1 v5 v6 = some r) ?_ ?_
          · clear hk h
            rintro a w ⟨y2, y1, v0, v1, v5, v6, xn2, xn1, hk, h⟩
            unfold offshootref12_Same.j1 at h
            refine FW.wreg ?_; intro K' hK20
            refine FW.lfun (y := .lit (.pointer (some ⟨xn1, 0, none⟩))) hk rfl rfl rfl rfl (FW.f_fieldPtr hk (FW.holds_nil _) rfl Go.Proofs.Try.underlying38 rfl (by kernel_rfl) rfl) ?_; clear hk; intro a w hk
            refine FW.lfun (y := .lit (.int .i64 y1.Kind)) hk rfl rfl rfl rfl (FW.f_loadBlk1 hk (FW.holds_nil _) (j := 1) rfl rfl Go.Proofs.Try.underlying3 rfl rfl) ?_; clear hk; intro a w hk
            refine FW.lfun (y := .lit (.pointer (some ⟨xn2, 0, none⟩))) hk rfl rfl rfl rfl (FW.f_fieldPtr hk (FW.holds_nil _) rfl Go.Proofs.Try.underlying38 rfl (by kernel_rfl) rfl) ?_; clear hk; intro a w hk
            refine FW.lfun (y := .lit (.int .i64 y2.Kind)) hk rfl rfl rfl rfl (FW.f_loadBlk1 hk (FW.holds_nil _) (j := 0) rfl rfl Go.Proofs.Try.underlying3 rfl rfl) ?_; clear hk; intro a w hk
            refine FW.lfun (y := .lit (.bool (!decide (y1.Kind = y2.Kind)))) hk rfl rfl rfl rfl ((FW.f_pure (FW.p_neq hk.kn (FW.holds_nil _) rfl rfl))) ?_; clear hk; intro a w hk
            refine FW.lfun (y := .lit (.bool (!decide (y1.Kind = y2.Kind)))) hk rfl rfl rfl rfl (FW.f_move hk (FW.holds_nil _) rfl) ?_; clear hk; intro a w hk
            refine FW.lfunG (y := .lit (.pointer (some ⟨xn1, 1, none⟩))) hk rfl rfl rfl rfl rfl rfl rfl rfl (fun hc => FW.f_fieldPtr hk hc rfl Go.Proofs.Try.underlying38 rfl (by kernel_rfl) rfl) ?_; clear hk; intro a w hk
            refine FW.lfunG (y := .agg ((ApiValue.cells y1.V))) hk rfl rfl rfl rfl rfl rfl rfl rfl (fun hc => FW.f_loadBlk hk hc (j := 1) rfl rfl Go.Proofs.Try.underlying33 rfl rfl rfl rfl) ?_; clear hk; intro a w hk
            refine FW.lfunG (y := .lit (.pointer (some ⟨xn2, 1, none⟩))) hk rfl rfl rfl rfl rfl rfl rfl rfl (fun hc => FW.f_fieldPtr hk hc rfl Go.Proofs.Try.underlying38 rfl (by kernel_rfl) rfl) ?_; clear hk; intro a w hk
            refine FW.lfunG (y := .agg ((ApiValue.cells y2.V))) hk rfl rfl rfl rfl rfl rfl rfl rfl (fun hc => FW.f_loadBlk hk hc (j := 0) rfl rfl Go.Proofs.Try.underlying33 rfl rfl rfl rfl) ?_; clear hk; intro a w hk
            obtain ⟨t1, hr_t1, h⟩ := FW.bndG h
            refine FW.lfunG (y := .lit (.bool t1)) hk rfl rfl rfl rfl rfl rfl rfl rfl (fun hc => FW.f_call hk hc rfl rfl Go.Proofs.Try.func17 rfl (by kernel_rfl) (offshootref02_Same.ok K y1.V y2.V _ (hr_t1 (FW.asm_out (p := (!decide (y1.Kind = y2.Kind)) = false) hk.kn hc (fun e0 => e0))))) ?_; clear hk; intro a w hk
            refine FW.lfunG (y := .lit (.bool (!t1))) hk rfl rfl rfl rfl rfl rfl rfl rfl (fun hc => (FW.f_pure (FW.p_not hk.kn hc rfl))) ?_; clear hk; intro a w hk
            refine FW.lfun (y := .lit (.bool ((!decide (y1.Kind = y2.Kind)) || (!t1)))) hk rfl rfl rfl rfl ((FW.f_pure (FW.p_pick_or hk.kn (FW.holds_nil _) rfl rfl))) ?_; clear hk; intro a w hk
            refine FW.lfun (y := .lit (.bool ((!decide (y1.Kind = y2.Kind)) || (!t1)))) hk rfl rfl rfl rfl (FW.f_move hk (FW.holds_nil _) rfl) ?_; clear hk; intro a w hk
            refine FW.lfunG (y := .lit (.pointer (some ⟨xn1, 7, none⟩))) hk rfl rfl rfl rfl rfl rfl rfl rfl (fun hc => FW.f_fieldPtr hk hc rfl Go.Proofs.Try.underlying38 rfl (by kernel_rfl) rfl) ?_; clear hk; intro a w hk
            refine FW.lfunG (y := .agg ((ApiPred.cells y1.P))) hk rfl rfl rfl rfl rfl rfl rfl rfl (fun hc => FW.f_loadBlk hk hc (j := 1) rfl rfl Go.Proofs.Try.underlying36 rfl rfl rfl rfl) ?_; clear hk; intro a w hk
            refine FW.lfunG (y := .lit (.pointer (some ⟨xn2, 7, none⟩))) hk rfl rfl rfl rfl rfl rfl rfl rfl (fun hc => FW.f_fieldPtr hk hc rfl Go.Proofs.Try.underlying38 rfl (by kernel_rfl) rfl) ?_; clear hk; intro a w hk
            refine FW.lfunG (y := .agg ((ApiPred.cells y2.P))) hk rfl rfl rfl rfl rfl rfl rfl rfl (fun hc => FW.f_loadBlk hk hc (j := 0) rfl rfl Go.Proofs.Try.underlying36 rfl rfl rfl rfl) ?_; clear hk; intro a w hk
            obtain ⟨t2, hr_t2, h⟩ := FW.bndG h
            refine FW.lfunG (y := .lit (.bool t2)) hk rfl rfl rfl rfl rfl rfl rfl rfl (fun hc => FW.f_call hk hc rfl rfl Go.Proofs.Try.func46 rfl (by kernel_rfl) (offshootref12_SamePred.ok K y1.P y2.P _ (hr_t2 (FW.asm_out (p := ((!decide (y1.Kind = y2.Kind)) || (!t1)) = false) hk.kn hc (fun e0 => e0))))) ?_; clear hk; intro a w hk
            refine FW.lfunG (y := .lit (.bool (!t2))) hk rfl rfl rfl rfl rfl rfl rfl rfl (fun hc => (FW.f_pure (FW.p_not hk.kn hc rfl))) ?_; clear hk; intro a w hk
            refine FW.lfun (y := .lit (.bool (((!decide (y1.Kind = y2.Kind)) || (!t1)) || (!t2)))) hk rfl rfl rfl rfl ((FW.f_pure (FW.p_pick_or hk.kn (FW.holds_nil _) rfl rfl))) ?_; clear hk; intro a w hk
            refine FW.lfun (y := .lit (.bool (((!decide (y1.Kind = y2.Kind)) || (!t1)) || (!t2)))) hk rfl rfl rfl rfl (FW.f_move hk (FW.holds_nil _) rfl) ?_; clear hk; intro a w hk
            refine FW.lfunG (y := .lit (.pointer (some ⟨xn1, 10, none⟩))) hk rfl rfl rfl rfl rfl rfl rfl rfl (fun hc => FW.f_fieldPtr hk hc rfl Go.Proofs.Try.underlying38 rfl (by kernel_rfl) rfl) ?_; clear hk; intro a w hk
            refine FW.lfunG (y := .row (r_ApiStep_cells y1.T)) hk rfl rfl rfl rfl rfl rfl rfl rfl (fun hc => FW.f_loadBlk1 hk hc (j := 1) rfl rfl Go.Proofs.Try.underlying22 rfl rfl) ?_; clear hk; intro a w hk
            refine FW.lfunG (y := .lit (.pointer (some ⟨xn2, 10, none⟩))) hk rfl rfl rfl rfl rfl rfl rfl rfl (fun hc => FW.f_fieldPtr hk hc rfl Go.Proofs.Try.underlying38 rfl (by kernel_rfl) rfl) ?_; clear hk; intro a w hk
            refine FW.lfunG (y := .row (r_ApiStep_cells y2.T)) hk rfl rfl rfl rfl rfl rfl rfl rfl (fun hc => FW.f_loadBlk1 hk hc (j := 0) rfl rfl Go.Proofs.Try.underlying22 rfl rfl) ?_; clear hk; intro a w hk
            obtain ⟨t3, hr_t3, h⟩ := FW.bndG h
            refine FW.lfunG (y := .lit (.bool t3)) hk rfl rfl rfl rfl rfl rfl rfl rfl (fun hc => FW.f_call hk hc rfl rfl Go.Proofs.Try.func20 rfl (by kernel_rfl) (hs_offshootref12_Same y1.T y2.T _ (hr_t3 (FW.asm_out (p := (((!decide (y1.Kind = y2.Kind)) || (!t1)) || (!t2)) = false) hk.kn hc (fun e0 => e0))))) ?_; clear hk; intro a w hk
            refine FW.lfunG (y := .lit (.bool (!t3))) hk rfl rfl rfl rfl rfl rfl rfl rfl (fun hc => (FW.f_pure (FW.p_not hk.kn hc rfl))) ?_; clear hk; intro a w hk
            refine FW.lfun (y := .lit (.bool ((((!decide (y1.Kind = y2.Kind)) || (!t1)) || (!t2)) || (!t3)))) hk rfl rfl rfl rfl ((FW.f_pure (FW.p_pick_or hk.kn (FW.holds_nil _) rfl rfl))) ?_; clear hk; intro a w hk
            refine FW.lend (hK20 _ _ ?_); clear hK20 K'
            refine FW.wcondF (b := ((((!decide (y1.Kind = y2.Kind)) || (!t1)) || (!t2)) || (!t3))) hk h rfl (fun h hb => ?_) (fun h hb => ?_)
            · skip
              refine FW.wreg ?_; intro K' hK21
              refine FW.lfun (y := .lit (.bool false)) hk rfl rfl rfl rfl (FW.f_assign hk (FW.holds_nil _) rfl) ?_; clear hk; intro a w hk
              refine FW.lend (hK21 _ _ ?_); clear hK21 K'
              refine wp_ret ?_
              (repeat first | refine FW.then_ret ?_ | refine FW.block_ret ?_)
              obtain rfl := Option.some.inj h
              exact FW.fret1 hk rfl rfl
            · skip
              refine wp_skip ?_
              (repeat first | refine FW.then_normal ?_ | refine FW.block_normal ?_); refine hK18 _ _ ?_
              refine FW.wreg1 ?_
              refine FW.lfun (y := .lit (.int .i64 v6)) hk rfl rfl rfl rfl (FW.f_move hk (FW.holds_nil _) rfl) ?_; clear hk; intro a w hk
              refine FW.lfun (y := .lit (.int .i64 (IntKind.wrap .i64 (v6 + 1)))) hk rfl rfl rfl rfl ((FW.f_pure (FW.p_add hk.kn (FW.holds_nil _) rfl rfl))) ?_; clear hk; intro a w hk
              refine FW.lfun (y := .lit (.int .i64 (IntKind.wrap .i64 (v6 + 1)))) hk rfl rfl rfl rfl (FW.f_assign hk (FW.holds_nil _) rfl) ?_; clear hk; intro a w hk
              refine wpList_nil ?_
              (repeat first | refine FW.then_normal ?_ | refine FW.block_normal ?_); exact hK15 (kl2, v0, v1, v5, (IntKind.wrap .i64 (v6 + 1))) _ _ (Nat.lt_succ_self _) ⟨((hk.drop 1).drop 0).sub ⟨rfl, rfl, rfl, rfl, trivial⟩, h⟩
          · intro K' hK19
            obtain ⟨hc6, h⟩ := FW.chk h
            obtain ⟨hc7, h⟩ := FW.chk h
            obtain ⟨hc8, h⟩ := FW.chk h
            obtain ⟨hc9, h⟩ := FW.chk h
            refine FW.wdrawE1 (.or (.next [true, true, true, true, true, true, true, true, true, true, true, true, true, true, true, true, false, false, false, false] 16 [true, true, true, true, true, true, true, true, true, true, true, true, true, true, true, true, false, false, false, false] (.next [true, true, true, true, true, true, true, true, true, true, true, true, true, true, true, true, false, false, false, false] 17 [true, true, true, true, true, true, true, true, true, true, true, true, true, true, true, true, true, false, false, false] (.next [true, true, true, true, true, true, true, true, true, true, true, true, true, true, true, true, false, false, false, false] 18 [true, true, true, true, true, true, true, true, true, true, true, true, true, true, true, true, true, true, false, false] (.next [false, false, false, false, false, false, false, false, true, true, true, true, true, true, true, true, false, false, false, false] 19 [true, true, true, true, true, true, true, true, true, true, true, true, true, true, true, true, true, true, true, false] (.leaf [false, false, false, false, false, false, false, false, false, false, false, false, false, false, false, false, false, false, false, false]))))) (.next [true, true, true, true, true, true, true, true, true, true, true, true, true, true, true, true, false, false, false, false] 17 [true, true, true, true, true, true, true, true, true, true, true, true, true, true, true, true, false, false, false, false] (.next [true, true, true, true, true, true, true, true, true, true, true, true, true, true, true, true, false, false, false, false] 16 [true, true, true, true, true, true, true, true, true, true, true, true, true, true, true, true, false, true, false, false] (.next [true, true, true, true, true, true, true, true, true, true, true, true, true, true, true, true, false, false, false, false] 18 [true, true, true, true, true, true, true, true, true, true, true, true, true, true, true, true, true, true, false, false] (.next [false, false, false, false, false, false, false, false, true, true, true, true, true, true, true, true, false, false, false, false] 19 [true, true, true, true, true, true, true, true, true, true, true, true, true, true, true, true, true, true, true, false] (.leaf [false, false, false, false, false, false, false, false, false, false, false, false, false, false, false, false, false, false, false, false])))))) [(56, [], .row (r_ApiStep_cells v0)), (57, [], .lit (.int .i64 v5)), (58, [], .ref (ApiStep.cells (List.getD v0 (Int.toNat v5) default))), (59, [], .ref (List.drop 1 (ApiStep.cells (List.getD v0 (Int.toNat v5) default)))), (60, [], .row (r_ApiArg_cells ((List.getD v0 (Int.toNat v5) default).Args))), (61, [], .lit (.int .i64 v6)), (62, [], .ref (ApiArg.cells (List.getD ((List.getD v0 (Int.toNat v5) default).Args) (Int.toNat v6) default))), (63, [], .agg ((ApiArg.cells (List.getD ((List.getD v0 (Int.toNat v5) default).Args) (Int.toNat v6) default)))), (64, [], .row (r_ApiStep_cells v1)), (65, [], .lit (.int .i64 v5)), (66, [], .ref (ApiStep.cells (List.getD v1 (Int.toNat v5) default))), (67, [], .ref (List.drop 1 (ApiStep.cells (List.getD v1 (Int.toNat v5) default)))), (68, [], .row (r_ApiArg_cells ((List.getD v1 (Int.toNat v5) default).Args))), (69, [], .lit (.int .i64 v6)), (70, [], .ref (ApiArg.cells (List.getD ((List.getD v1 (Int.toNat v5) default).Args) (Int.toNat v6) default))), (71, [], .agg ((ApiArg.cells (List.getD ((List.getD v1 (Int.toNat v5) default).Args) (Int.toNat v6) default)))), (7, [], .agg []), (8, [], .agg []), (101, [], .lit undef), (101, [], .lit undef)] (by kernel_rfl) (by kernel_rfl) (by kernel_rfl) (by kernel_rfl) hk ?_; clear hk
            refine FW.gor ?_ ?_
            · skip
              refine FW.gnext ?_ rfl rfl rfl rfl rfl ?_
              · skip
                refine FW.gfun (y := .row (r_ApiStep_cells v0)) rfl rfl rfl rfl (fun a w hk => FW.f_move hk (FW.holds_nil _) rfl) ?_
                refine FW.gfun (y := .lit (.int .i64 v5)) rfl rfl rfl rfl (fun a w hk => FW.f_move hk (FW.holds_nil _) rfl) ?_
                refine FW.gfun (y := .ref (ApiStep.cells (List.getD v0 (Int.toNat v5) default))) rfl rfl rfl rfl (fun a w hk => FW.f_indexAddr (R := r_ApiStep_cells) (f := ApiStep.cells) (l := v0) (sz := 2) r_ApiStep_cells_eq (fun _ => rfl) hk (FW.holds_nil _) rfl rfl Go.Proofs.Try.underlying22 (by kernel_rfl) hc6) ?_
                refine FW.gfun (y := .ref (List.drop 1 (ApiStep.cells (List.getD v0 (Int.toNat v5) default)))) rfl rfl rfl rfl (fun a w hk => FW.f_fieldAddr hk (FW.holds_nil _) rfl Go.Proofs.Try.underlying29 rfl (by kernel_rfl) rfl) ?_
                refine FW.gfun (y := .row (r_ApiArg_cells ((List.getD v0 (Int.toNat v5) default).Args))) rfl rfl rfl rfl (fun a w hk => FW.f_load1 hk (FW.holds_nil _) rfl rfl Go.Proofs.Try.underlying27 rfl) ?_
                refine FW.gfun (y := .lit (.int .i64 v6)) rfl rfl rfl rfl (fun a w hk => FW.f_move hk (FW.holds_nil _) rfl) ?_
                refine FW.gfun (y := .ref (ApiArg.cells (List.getD ((List.getD v0 (Int.toNat v5) default).Args) (Int.toNat v6) default))) rfl rfl rfl rfl (fun a w hk => FW.f_indexAddr (R := r_ApiArg_cells) (f := ApiArg.cells) (l := (List.getD v0 (Int.toNat v5) default).Args) (sz := 11) r_ApiArg_cells_eq (fun _ => rfl) hk (FW.holds_nil _) rfl rfl Go.Proofs.Try.underlying27 (by kernel_rfl) hc7) ?_
                refine FW.gfun (y := .agg ((ApiArg.cells (List.getD ((List.getD v0 (Int.toNat v5) default).Args) (Int.toNat v6) default)))) rfl rfl rfl rfl (fun a w hk => FW.f_load hk (FW.holds_nil _) rfl Go.Proofs.Try.underlying38 rfl rfl rfl rfl) ?_
                refine FW.gfun (y := .row (r_ApiStep_cells v1)) rfl rfl rfl rfl (fun a w hk => FW.f_move hk (FW.holds_nil _) rfl) ?_
                refine FW.gfun (y := .lit (.int .i64 v5)) rfl rfl rfl rfl (fun a w hk => FW.f_move hk (FW.holds_nil _) rfl) ?_
                refine FW.gfun (y := .ref (ApiStep.cells (List.getD v1 (Int.toNat v5) default))) rfl rfl rfl rfl (fun a w hk => FW.f_indexAddr (R := r_ApiStep_cells) (f := ApiStep.cells) (l := v1) (sz := 2) r_ApiStep_cells_eq (fun _ => rfl) hk (FW.holds_nil _) rfl rfl Go.Proofs.Try.underlying22 (by kernel_rfl) hc8) ?_
                refine FW.gfun (y := .ref (List.drop 1 (ApiStep.cells (List.getD v1 (Int.toNat v5) default)))) rfl rfl rfl rfl (fun a w hk => FW.f_fieldAddr hk (FW.holds_nil _) rfl Go.Proofs.Try.underlying29 rfl (by kernel_rfl) rfl) ?_
                refine FW.gfun (y := .row (r_ApiArg_cells ((List.getD v1 (Int.toNat v5) default).Args))) rfl rfl rfl rfl (fun a w hk => FW.f_load1 hk (FW.holds_nil _) rfl rfl Go.Proofs.Try.underlying27 rfl) ?_
                refine FW.gfun (y := .lit (.int .i64 v6)) rfl rfl rfl rfl (fun a w hk => FW.f_move hk (FW.holds_nil _) rfl) ?_
                refine FW.gfun (y := .ref (ApiArg.cells (List.getD ((List.getD v1 (Int.toNat v5) default).Args) (Int.toNat v6) default))) rfl rfl rfl rfl (fun a w hk => FW.f_indexAddr (R := r_ApiArg_cells) (f := ApiArg.cells) (l := (List.getD v1 (Int.toNat v5) default).Args) (sz := 11) r_ApiArg_cells_eq (fun _ => rfl) hk (FW.holds_nil _) rfl rfl Go.Proofs.Try.underlying27 (by kernel_rfl) hc9) ?_
                refine FW.gfun (y := .agg ((ApiArg.cells (List.getD ((List.getD v1 (Int.toNat v5) default).Args) (Int.toNat v6) default)))) rfl rfl rfl rfl (fun a w hk => FW.f_load hk (FW.holds_nil _) rfl Go.Proofs.Try.underlying38 rfl rfl rfl rfl) ?_
                refine FW.gskip rfl rfl ?_
                refine FW.gskip rfl rfl ?_
                refine FW.gskip0 rfl ?_
                refine FW.gskip0 rfl ?_
                exact FW.gend
              · skip
                intro σD a w opsD QD hk hf hQ hX
                refine FW.l_alloc (zs := (ApiArg.cells (⟨0, (⟨0, false, 0, 0, [], []⟩ : ApiValue), (⟨[], [], []⟩ : ApiPred), []⟩ : ApiArg))) [] hk rfl hf rfl rfl ?_; clear hk; intro bx1 a w hk
                refine hQ _ _ a w ?_ hk; clear hk hQ hf hX
                refine ⟨[(56, [], .row (r_ApiStep_cells v0)), (57, [], .lit (.int .i64 v5)), (58, [], .ref (ApiStep.cells (List.getD v0 (Int.toNat v5) default))), (59, [], .ref (List.drop 1 (ApiStep.cells (List.getD v0 (Int.toNat v5) default)))), (60, [], .row (r_ApiArg_cells ((List.getD v0 (Int.toNat v5) default).Args))), (61, [], .lit (.int .i64 v6)), (62, [], .ref (ApiArg.cells (List.getD ((List.getD v0 (Int.toNat v5) default).Args) (Int.toNat v6) default))), (63, [], .agg ((ApiArg.cells (List.getD ((List.getD v0 (Int.toNat v5) default).Args) (Int.toNat v6) default)))), (64, [], .row (r_ApiStep_cells v1)), (65, [], .lit (.int .i64 v5)), (66, [], .ref (ApiStep.cells (List.getD v1 (Int.toNat v5) default))), (67, [], .ref (List.drop 1 (ApiStep.cells (List.getD v1 (Int.toNat v5) default)))), (68, [], .row (r_ApiArg_cells ((List.getD v1 (Int.toNat v5) default).Args))), (69, [], .lit (.int .i64 v6)), (70, [], .ref (ApiArg.cells (List.getD ((List.getD v1 (Int.toNat v5) default).Args) (Int.toNat v6) default))), (71, [], .agg ((ApiArg.cells (List.getD ((List.getD v1 (Int.toNat v5) default).Args) (Int.toNat v6) default)))), (7, [], .lit (.pointer (some ⟨bx1, 0, none⟩))), (8, [], .agg []), (101, [], .lit undef), (101, [], .lit undef)], And.intro rfl (And.intro rfl (And.intro rfl (And.intro rfl (And.intro rfl (And.intro rfl (And.intro rfl (And.intro rfl (And.intro rfl (And.intro rfl (And.intro rfl (And.intro rfl (And.intro rfl (And.intro rfl (And.intro rfl (And.intro rfl (trivial)))))))))))))))), rfl, ?_⟩
                refine FW.gnext ?_ rfl rfl rfl rfl rfl ?_
                · skip
                  refine FW.gfun (y := .row (r_ApiStep_cells v0)) rfl rfl rfl rfl (fun a w hk => FW.f_move hk (FW.holds_nil _) rfl) ?_
                  refine FW.gfun (y := .lit (.int .i64 v5)) rfl rfl rfl rfl (fun a w hk => FW.f_move hk (FW.holds_nil _) rfl) ?_
                  refine FW.gfun (y := .ref (ApiStep.cells (List.getD v0 (Int.toNat v5) default))) rfl rfl rfl rfl (fun a w hk => FW.f_indexAddr (R := r_ApiStep_cells) (f := ApiStep.cells) (l := v0) (sz := 2) r_ApiStep_cells_eq (fun _ => rfl) hk (FW.holds_nil _) rfl rfl Go.Proofs.Try.underlying22 (by kernel_rfl) hc6) ?_
                  refine FW.gfun (y := .ref (List.drop 1 (ApiStep.cells (List.getD v0 (Int.toNat v5) default)))) rfl rfl rfl rfl (fun a w hk => FW.f_fieldAddr hk (FW.holds_nil _) rfl Go.Proofs.Try.underlying29 rfl (by kernel_rfl) rfl) ?_
                  refine FW.gfun (y := .row (r_ApiArg_cells ((List.getD v0 (Int.toNat v5) default).Args))) rfl rfl rfl rfl (fun a w hk => FW.f_load1 hk (FW.holds_nil _) rfl rfl Go.Proofs.Try.underlying27 rfl) ?_
                  refine FW.gfun (y := .lit (.int .i64 v6)) rfl rfl rfl rfl (fun a w hk => FW.f_move hk (FW.holds_nil _) rfl) ?_
                  refine FW.gfun (y := .ref (ApiArg.cells (List.getD ((List.getD v0 (Int.toNat v5) default).Args) (Int.toNat v6) default))) rfl rfl rfl rfl (fun a w hk => FW.f_indexAddr (R := r_ApiArg_cells) (f := ApiArg.cells) (l := (List.getD v0 (Int.toNat v5) default).Args) (sz := 11) r_ApiArg_cells_eq (fun _ => rfl) hk (FW.holds_nil _) rfl rfl Go.Proofs.Try.underlying27 (by kernel_rfl) hc7) ?_
                  refine FW.gfun (y := .agg ((ApiArg.cells (List.getD ((List.getD v0 (Int.toNat v5) default).Args) (Int.toNat v6) default)))) rfl rfl rfl rfl (fun a w hk => FW.f_load hk (FW.holds_nil _) rfl Go.Proofs.Try.underlying38 rfl rfl rfl rfl) ?_
                  refine FW.gfun (y := .row (r_ApiStep_cells v1)) rfl rfl rfl rfl (fun a w hk => FW.f_move hk (FW.holds_nil _) rfl) ?_
                  refine FW.gfun (y := .lit (.int .i64 v5)) rfl rfl rfl rfl (fun a w hk => FW.f_move hk (FW.holds_nil _) rfl) ?_
                  refine FW.gfun (y := .ref (ApiStep.cells (List.getD v1 (Int.toNat v5) default))) rfl rfl rfl rfl (fun a w hk => FW.f_indexAddr (R := r_ApiStep_cells) (f := ApiStep.cells) (l := v1) (sz := 2) r_ApiStep_cells_eq (fun _ => rfl) hk (FW.holds_nil _) rfl rfl Go.Proofs.Try.underlying22 (by kernel_rfl) hc8) ?_
                  refine FW.gfun (y := .ref (List.drop 1 (ApiStep.cells (List.getD v1 (Int.toNat v5) default)))) rfl rfl rfl rfl (fun a w hk => FW.f_fieldAddr hk (FW.holds_nil _) rfl Go.Proofs.Try.underlying29 rfl (by kernel_rfl) rfl) ?_
                  refine FW.gfun (y := .row (r_ApiArg_cells ((List.getD v1 (Int.toNat v5) default).Args))) rfl rfl rfl rfl (fun a w hk => FW.f_load1 hk (FW.holds_nil _) rfl rfl Go.Proofs.Try.underlying27 rfl) ?_
                  refine FW.gfun (y := .lit (.int .i64 v6)) rfl rfl rfl rfl (fun a w hk => FW.f_move hk (FW.holds_nil _) rfl) ?_
                  refine FW.gfun (y := .ref (ApiArg.cells (List.getD ((List.getD v1 (Int.toNat v5) default).Args) (Int.toNat v6) default))) rfl rfl rfl rfl (fun a w hk => FW.f_indexAddr (R := r_ApiArg_cells) (f := ApiArg.cells) (l := (List.getD v1 (Int.toNat v5) default).Args) (sz := 11) r_ApiArg_cells_eq (fun _ => rfl) hk (FW.holds_nil _) rfl rfl Go.Proofs.Try.underlying27 (by kernel_rfl) hc9) ?_
                  refine FW.gfun (y := .agg ((ApiArg.cells (List.getD ((List.getD v1 (Int.toNat v5) default).Args) (Int.toNat v6) default)))) rfl rfl rfl rfl (fun a w hk => FW.f_load hk (FW.holds_nil _) rfl Go.Proofs.Try.underlying38 rfl rfl rfl rfl) ?_
                  refine FW.gskip rfl rfl ?_
                  refine FW.gskip rfl rfl ?_
                  refine FW.gskip0 rfl ?_
                  refine FW.gskip0 rfl ?_
                  exact FW.gend
                · skip
                  intro σD a w opsD QD hk hf hQ hX
                  refine FW.l_alloc (zs := (ApiArg.cells (⟨0, (⟨0, false, 0, 0, [], []⟩ : ApiValue), (⟨[], [], []⟩ : ApiPred), []⟩ : ApiArg))) [] hk rfl hf rfl rfl ?_; clear hk; intro bx2 a w hk
                  refine hQ _ _ a w ?_ hk; clear hk hQ hf hX
                  refine ⟨[(56, [], .row (r_ApiStep_cells v0)), (57, [], .lit (.int .i64 v5)), (58, [], .ref (ApiStep.cells (List.getD v0 (Int.toNat v5) default))), (59, [], .ref (List.drop 1 (ApiStep.cells (List.getD v0 (Int.toNat v5) default)))), (60, [], .row (r_ApiArg_cells ((List.getD v0 (Int.toNat v5) default).Args))), (61, [], .lit (.int .i64 v6)), (62, [], .ref (ApiArg.cells (List.getD ((List.getD v0 (Int.toNat v5) default).Args) (Int.toNat v6) default))), (63, [], .agg ((ApiArg.cells (List.getD ((List.getD v0 (Int.toNat v5) default).Args) (Int.toNat v6) default)))), (64, [], .row (r_ApiStep_cells v1)), (65, [], .lit (.int .i64 v5)), (66, [], .ref (ApiStep.cells (List.getD v1 (Int.toNat v5) default))), (67, [], .ref (List.drop 1 (ApiStep.cells (List.getD v1 (Int.toNat v5) default)))), (68, [], .row (r_ApiArg_cells ((List.getD v1 (Int.toNat v5) default).Args))), (69, [], .lit (.int .i64 v6)), (70, [], .ref (ApiArg.cells (List.getD ((List.getD v1 (Int.toNat v5) default).Args) (Int.toNat v6) default))), (71, [], .agg ((ApiArg.cells (List.getD ((List.getD v1 (Int.toNat v5) default).Args) (Int.toNat v6) default)))), (7, [], .lit (.pointer (some ⟨bx1, 0, none⟩))), (8, [], .lit (.pointer (some ⟨bx2, 0, none⟩))), (101, [], .lit undef), (101, [], .lit undef)], And.intro rfl (And.intro rfl (And.intro rfl (And.intro rfl (And.intro rfl (And.intro rfl (And.intro rfl (And.intro rfl (And.intro rfl (And.intro rfl (And.intro rfl (And.intro rfl (And.intro rfl (And.intro rfl (And.intro rfl (And.intro rfl (And.intro rfl (trivial))))))))))))))))), rfl, ?_⟩
                  refine FW.gnext0 ?_ rfl rfl rfl ?_
                  · skip
                    refine FW.gfun (y := .row (r_ApiStep_cells v0)) rfl rfl rfl rfl (fun a w hk => FW.f_move hk (FW.holds_nil _) rfl) ?_
                    refine FW.gfun (y := .lit (.int .i64 v5)) rfl rfl rfl rfl (fun a w hk => FW.f_move hk (FW.holds_nil _) rfl) ?_
                    refine FW.gfun (y := .ref (ApiStep.cells (List.getD v0 (Int.toNat v5) default))) rfl rfl rfl rfl (fun a w hk => FW.f_indexAddr (R := r_ApiStep_cells) (f := ApiStep.cells) (l := v0) (sz := 2) r_ApiStep_cells_eq (fun _ => rfl) hk (FW.holds_nil _) rfl rfl Go.Proofs.Try.underlying22 (by kernel_rfl) hc6) ?_
                    refine FW.gfun (y := .ref (List.drop 1 (ApiStep.cells (List.getD v0 (Int.toNat v5) default)))) rfl rfl rfl rfl (fun a w hk => FW.f_fieldAddr hk (FW.holds_nil _) rfl Go.Proofs.Try.underlying29 rfl (by kernel_rfl) rfl) ?_
                    refine FW.gfun (y := .row (r_ApiArg_cells ((List.getD v0 (Int.toNat v5) default).Args))) rfl rfl rfl rfl (fun a w hk => FW.f_load1 hk (FW.holds_nil _) rfl rfl Go.Proofs.Try.underlying27 rfl) ?_
                    refine FW.gfun (y := .lit (.int .i64 v6)) rfl rfl rfl rfl (fun a w hk => FW.f_move hk (FW.holds_nil _) rfl) ?_
                    refine FW.gfun (y := .ref (ApiArg.cells (List.getD ((List.getD v0 (Int.toNat v5) default).Args) (Int.toNat v6) default))) rfl rfl rfl rfl (fun a w hk => FW.f_indexAddr (R := r_ApiArg_cells) (f := ApiArg.cells) (l := (List.getD v0 (Int.toNat v5) default).Args) (sz := 11) r_ApiArg_cells_eq (fun _ => rfl) hk (FW.holds_nil _) rfl rfl Go.Proofs.Try.underlying27 (by kernel_rfl) hc7) ?_
                    refine FW.gfun (y := .agg ((ApiArg.cells (List.getD ((List.getD v0 (Int.toNat v5) default).Args) (Int.toNat v6) default)))) rfl rfl rfl rfl (fun a w hk => FW.f_load hk (FW.holds_nil _) rfl Go.Proofs.Try.underlying38 rfl rfl rfl rfl) ?_
                    refine FW.gfun (y := .row (r_ApiStep_cells v1)) rfl rfl rfl rfl (fun a w hk => FW.f_move hk (FW.holds_nil _) rfl) ?_
                    refine FW.gfun (y := .lit (.int .i64 v5)) rfl rfl rfl rfl (fun a w hk => FW.f_move hk (FW.holds_nil _) rfl) ?_
                    refine FW.gfun (y := .ref (ApiStep.cells (List.getD v1 (Int.toNat v5) default))) rfl rfl rfl rfl (fun a w hk => FW.f_indexAddr (R := r_ApiStep_cells) (f := ApiStep.cells) (l := v1) (sz := 2) r_ApiStep_cells_eq (fun _ => rfl) hk (FW.holds_nil _) rfl rfl Go.Proofs.Try.underlying22 (by kernel_rfl) hc8) ?_
                    refine FW.gfun (y := .ref (List.drop 1 (ApiStep.cells (List.getD v1 (Int.toNat v5) default)))) rfl rfl rfl rfl (fun a w hk => FW.f_fieldAddr hk (FW.holds_nil _) rfl Go.Proofs.Try.underlying29 rfl (by kernel_rfl) rfl) ?_
                    refine FW.gfun (y := .row (r_ApiArg_cells ((List.getD v1 (Int.toNat v5) default).Args))) rfl rfl rfl rfl (fun a w hk => FW.f_load1 hk (FW.holds_nil _) rfl rfl Go.Proofs.Try.underlying27 rfl) ?_
                    refine FW.gfun (y := .lit (.int .i64 v6)) rfl rfl rfl rfl (fun a w hk => FW.f_move hk (FW.holds_nil _) rfl) ?_
                    refine FW.gfun (y := .ref (ApiArg.cells (List.getD ((List.getD v1 (Int.toNat v5) default).Args) (Int.toNat v6) default))) rfl rfl rfl rfl (fun a w hk => FW.f_indexAddr (R := r_ApiArg_cells) (f := ApiArg.cells) (l := (List.getD v1 (Int.toNat v5) default).Args) (sz := 11) r_ApiArg_cells_eq (fun _ => rfl) hk (FW.holds_nil _) rfl rfl Go.Proofs.Try.underlying27 (by kernel_rfl) hc9) ?_
                    refine FW.gfun (y := .agg ((ApiArg.cells (List.getD ((List.getD v1 (Int.toNat v5) default).Args) (Int.toNat v6) default)))) rfl rfl rfl rfl (fun a w hk => FW.f_load hk (FW.holds_nil _) rfl Go.Proofs.Try.underlying38 rfl rfl rfl rfl) ?_
                    refine FW.gskip rfl rfl ?_
                    refine FW.gskip rfl rfl ?_
                    refine FW.gskip0 rfl ?_
                    refine FW.gskip0 rfl ?_
                    exact FW.gend
                  · skip
                    intro σD a w opsD QD hk hQ hX
                    refine FW.l_store (I' := [FW.blk bx2 38 ((ApiArg.cells (⟨0, (⟨0, false, 0, 0, [], []⟩ : ApiValue), (⟨[], [], []⟩ : ApiPred), []⟩ : ApiArg))), FW.blk bx1 38 ((ApiArg.cells (List.getD ((List.getD v0 (Int.toNat v5) default).Args) (Int.toNat v6) default)))]) (cs' := (ApiArg.cells (List.getD ((List.getD v0 (Int.toNat v5) default).Args) (Int.toNat v6) default))) (j := 1) hk rfl rfl rfl rfl rfl (by kernel_rfl) rfl rfl ?_; clear hk; intro w hk
                    refine hQ _ a w ?_ hk; clear hk hQ hX
                    refine ⟨[(56, [], .row (r_ApiStep_cells v0)), (57, [], .lit (.int .i64 v5)), (58, [], .ref (ApiStep.cells (List.getD v0 (Int.toNat v5) default))), (59, [], .ref (List.drop 1 (ApiStep.cells (List.getD v0 (Int.toNat v5) default)))), (60, [], .row (r_ApiArg_cells ((List.getD v0 (Int.toNat v5) default).Args))), (61, [], .lit (.int .i64 v6)), (62, [], .ref (ApiArg.cells (List.getD ((List.getD v0 (Int.toNat v5) default).Args) (Int.toNat v6) default))), (63, [], .agg ((ApiArg.cells (List.getD ((List.getD v0 (Int.toNat v5) default).Args) (Int.toNat v6) default)))), (64, [], .row (r_ApiStep_cells v1)), (65, [], .lit (.int .i64 v5)), (66, [], .ref (ApiStep.cells (List.getD v1 (Int.toNat v5) default))), (67, [], .ref (List.drop 1 (ApiStep.cells (List.getD v1 (Int.toNat v5) default)))), (68, [], .row (r_ApiArg_cells ((List.getD v1 (Int.toNat v5) default).Args))), (69, [], .lit (.int .i64 v6)), (70, [], .ref (ApiArg.cells (List.getD ((List.getD v1 (Int.toNat v5) default).Args) (Int.toNat v6) default))), (71, [], .agg ((ApiArg.cells (List.getD ((List.getD v1 (Int.toNat v5) default).Args) (Int.toNat v6) default)))), (7, [], .lit (.pointer (some ⟨bx1, 0, none⟩))), (8, [], .lit (.pointer (some ⟨bx2, 0, none⟩))), (101, [], .lit undef), (101, [], .lit undef)], And.intro rfl (And.intro rfl (And.intro rfl (And.intro rfl (And.intro rfl (And.intro rfl (And.intro rfl (And.intro rfl (And.intro rfl (And.intro rfl (And.intro rfl (And.intro rfl (And.intro rfl (And.intro rfl (And.intro rfl (And.intro rfl (And.intro rfl (And.intro rfl (trivial)))))))))))))))))), rfl, ?_⟩
                    refine FW.gnext0 ?_ rfl rfl rfl ?_
                    · skip
                      refine FW.gskip rfl rfl ?_
                      refine FW.gskip rfl rfl ?_
                      refine FW.gskip rfl rfl ?_
                      refine FW.gskip rfl rfl ?_
                      refine FW.gskip rfl rfl ?_
                      refine FW.gskip rfl rfl ?_
                      refine FW.gskip rfl rfl ?_
                      refine FW.gskip rfl rfl ?_
                      refine FW.gfun (y := .row (r_ApiStep_cells v1)) rfl rfl rfl rfl (fun a w hk => FW.f_move hk (FW.holds_nil _) rfl) ?_
                      refine FW.gfun (y := .lit (.int .i64 v5)) rfl rfl rfl rfl (fun a w hk => FW.f_move hk (FW.holds_nil _) rfl) ?_
                      refine FW.gfun (y := .ref (ApiStep.cells (List.getD v1 (Int.toNat v5) default))) rfl rfl rfl rfl (fun a w hk => FW.f_indexAddr (R := r_ApiStep_cells) (f := ApiStep.cells) (l := v1) (sz := 2) r_ApiStep_cells_eq (fun _ => rfl) hk (FW.holds_nil _) rfl rfl Go.Proofs.Try.underlying22 (by kernel_rfl) hc8) ?_
                      refine FW.gfun (y := .ref (List.drop 1 (ApiStep.cells (List.getD v1 (Int.toNat v5) default)))) rfl rfl rfl rfl (fun a w hk => FW.f_fieldAddr hk (FW.holds_nil _) rfl Go.Proofs.Try.underlying29 rfl (by kernel_rfl) rfl) ?_
                      refine FW.gfun (y := .row (r_ApiArg_cells ((List.getD v1 (Int.toNat v5) default).Args))) rfl rfl rfl rfl (fun a w hk => FW.f_load1 hk (FW.holds_nil _) rfl rfl Go.Proofs.Try.underlying27 rfl) ?_
                      refine FW.gfun (y := .lit (.int .i64 v6)) rfl rfl rfl rfl (fun a w hk => FW.f_move hk (FW.holds_nil _) rfl) ?_
                      refine FW.gfun (y := .ref (ApiArg.cells (List.getD ((List.getD v1 (Int.toNat v5) default).Args) (Int.toNat v6) default))) rfl rfl rfl rfl (fun a w hk => FW.f_indexAddr (R := r_ApiArg_cells) (f := ApiArg.cells) (l := (List.getD v1 (Int.toNat v5) default).Args) (sz := 11) r_ApiArg_cells_eq (fun _ => rfl) hk (FW.holds_nil _) rfl rfl Go.Proofs.Try.underlying27 (by kernel_rfl) hc9) ?_
                      refine FW.gfun (y := .agg ((ApiArg.cells (List.getD ((List.getD v1 (Int.toNat v5) default).Args) (Int.toNat v6) default)))) rfl rfl rfl rfl (fun a w hk => FW.f_load hk (FW.holds_nil _) rfl Go.Proofs.Try.underlying38 rfl rfl rfl rfl) ?_
                      refine FW.gskip rfl rfl ?_
                      refine FW.gskip rfl rfl ?_
                      refine FW.gskip0 rfl ?_
                      refine FW.gskip0 rfl ?_
                      exact FW.gend
                    · skip
                      intro σD a w opsD QD hk hQ hX
                      refine FW.l_store (I' := [FW.blk bx2 38 ((ApiArg.cells (List.getD ((List.getD v1 (Int.toNat v5) default).Args) (Int.toNat v6) default))), FW.blk bx1 38 ((ApiArg.cells (List.getD ((List.getD v0 (Int.toNat v5) default).Args) (Int.toNat v6) default)))]) (cs' := (ApiArg.cells (List.getD ((List.getD v1 (Int.toNat v5) default).Args) (Int.toNat v6) default))) (j := 0) hk rfl rfl rfl rfl rfl (by kernel_rfl) rfl rfl ?_; clear hk; intro w hk
                      refine hQ _ a w ?_ hk; clear hk hQ hX
                      refine ⟨[(56, [], .row (r_ApiStep_cells v0)), (57, [], .lit (.int .i64 v5)), (58, [], .ref (ApiStep.cells (List.getD v0 (Int.toNat v5) default))), (59, [], .ref (List.drop 1 (ApiStep.cells (List.getD v0 (Int.toNat v5) default)))), (60, [], .row (r_ApiArg_cells ((List.getD v0 (Int.toNat v5) default).Args))), (61, [], .lit (.int .i64 v6)), (62, [], .ref (ApiArg.cells (List.getD ((List.getD v0 (Int.toNat v5) default).Args) (Int.toNat v6) default))), (63, [], .agg ((ApiArg.cells (List.getD ((List.getD v0 (Int.toNat v5) default).Args) (Int.toNat v6) default)))), (64, [], .row (r_ApiStep_cells v1)), (65, [], .lit (.int .i64 v5)), (66, [], .ref (ApiStep.cells (List.getD v1 (Int.toNat v5) default))), (67, [], .ref (List.drop 1 (ApiStep.cells (List.getD v1 (Int.toNat v5) default)))), (68, [], .row (r_ApiArg_cells ((List.getD v1 (Int.toNat v5) default).Args))), (69, [], .lit (.int .i64 v6)), (70, [], .ref (ApiArg.cells (List.getD ((List.getD v1 (Int.toNat v5) default).Args) (Int.toNat v6) default))), (71, [], .agg ((ApiArg.cells (List.getD ((List.getD v1 (Int.toNat v5) default).Args) (Int.toNat v6) default)))), (7, [], .lit (.pointer (some ⟨bx1, 0, none⟩))), (8, [], .lit (.pointer (some ⟨bx2, 0, none⟩))), (101, [], .lit undef), (101, [], .lit undef)], And.intro rfl (And.intro rfl (And.intro rfl (And.intro rfl (And.intro rfl (And.intro rfl (And.intro rfl (And.intro rfl (And.intro rfl (And.intro rfl (And.intro rfl (And.intro rfl (And.intro rfl (And.intro rfl (And.intro rfl (And.intro rfl (And.intro rfl (And.intro rfl (And.intro rfl (trivial))))))))))))))))))), rfl, ?_⟩
                      refine FW.glast ?_ ?_
                      · skip
                        refine FW.gskip rfl rfl ?_
                        refine FW.gskip rfl rfl ?_
                        refine FW.gskip rfl rfl ?_
                        refine FW.gskip rfl rfl ?_
                        refine FW.gskip rfl rfl ?_
                        refine FW.gskip rfl rfl ?_
                        refine FW.gskip rfl rfl ?_
                        refine FW.gskip rfl rfl ?_
                        refine FW.gskip rfl rfl ?_
                        refine FW.gskip rfl rfl ?_
                        refine FW.gskip rfl rfl ?_
                        refine FW.gskip rfl rfl ?_
                        refine FW.gskip rfl rfl ?_
                        refine FW.gskip rfl rfl ?_
                        refine FW.gskip rfl rfl ?_
                        refine FW.gskip rfl rfl ?_
                        refine FW.gskip rfl rfl ?_
                        refine FW.gskip rfl rfl ?_
                        refine FW.gskip0 rfl ?_
                        refine FW.gskip0 rfl ?_
                        exact FW.gend
                      · skip
                        intro a w hk; simp only [FW.stD, cond_true] at hk
                        (repeat first | refine FW.then_normal ?_ | refine FW.block_normal ?_); exact hK19 _ _ ⟨(List.getD ((List.getD v1 (Int.toNat v5) default).Args) (Int.toNat v6) default), (List.getD ((List.getD v0 (Int.toNat v5) default).Args) (Int.toNat v6) default), v0, v1, v5, v6, bx2, bx1, hk.sub ⟨rfl, rfl, rfl, rfl, rfl, rfl, trivial⟩, h⟩
            · skip
              refine FW.gnext ?_ rfl rfl rfl rfl rfl ?_
              · skip
                refine FW.gfun (y := .row (r_ApiStep_cells v0)) rfl rfl rfl rfl (fun a w hk => FW.f_move hk (FW.holds_nil _) rfl) ?_
                refine FW.gfun (y := .lit (.int .i64 v5)) rfl rfl rfl rfl (fun a w hk => FW.f_move hk (FW.holds_nil _) rfl) ?_
                refine FW.gfun (y := .ref (ApiStep.cells (List.getD v0 (Int.toNat v5) default))) rfl rfl rfl rfl (fun a w hk => FW.f_indexAddr (R := r_ApiStep_cells) (f := ApiStep.cells) (l := v0) (sz := 2) r_ApiStep_cells_eq (fun _ => rfl) hk (FW.holds_nil _) rfl rfl Go.Proofs.Try.underlying22 (by kernel_rfl) hc6) ?_
                refine FW.gfun (y := .ref (List.drop 1 (ApiStep.cells (List.getD v0 (Int.toNat v5) default)))) rfl rfl rfl rfl (fun a w hk => FW.f_fieldAddr hk (FW.holds_nil _) rfl Go.Proofs.Try.underlying29 rfl (by kernel_rfl) rfl) ?_
                refine FW.gfun (y := .row (r_ApiArg_cells ((List.getD v0 (Int.toNat v5) default).Args))) rfl rfl rfl rfl (fun a w hk => FW.f_load1 hk (FW.holds_nil _) rfl rfl Go.Proofs.Try.underlying27 rfl) ?_
                refine FW.gfun (y := .lit (.int .i64 v6)) rfl rfl rfl rfl (fun a w hk => FW.f_move hk (FW.holds_nil _) rfl) ?_
                refine FW.gfun (y := .ref (ApiArg.cells (List.getD ((List.getD v0 (Int.toNat v5) default).Args) (Int.toNat v6) default))) rfl rfl rfl rfl (fun a w hk => FW.f_indexAddr (R := r_ApiArg_cells) (f := ApiArg.cells) (l := (List.getD v0 (Int.toNat v5) default).Args) (sz := 11) r_ApiArg_cells_eq (fun _ => rfl) hk (FW.holds_nil _) rfl rfl Go.Proofs.Try.underlying27 (by kernel_rfl) hc7) ?_
                refine FW.gfun (y := .agg ((ApiArg.cells (List.getD ((List.getD v0 (Int.toNat v5) default).Args) (Int.toNat v6) default)))) rfl rfl rfl rfl (fun a w hk => FW.f_load hk (FW.holds_nil _) rfl Go.Proofs.Try.underlying38 rfl rfl rfl rfl) ?_
                refine FW.gfun (y := .row (r_ApiStep_cells v1)) rfl rfl rfl rfl (fun a w hk => FW.f_move hk (FW.holds_nil _) rfl) ?_
                refine FW.gfun (y := .lit (.int .i64 v5)) rfl rfl rfl rfl (fun a w hk => FW.f_move hk (FW.holds_nil _) rfl) ?_
                refine FW.gfun (y := .ref (ApiStep.cells (List.getD v1 (Int.toNat v5) default))) rfl rfl rfl rfl (fun a w hk => FW.f_indexAddr (R := r_ApiStep_cells) (f := ApiStep.cells) (l := v1) (sz := 2) r_ApiStep_cells_eq (fun _ => rfl) hk (FW.holds_nil _) rfl rfl Go.Proofs.Try.underlying22 (by kernel_rfl) hc8) ?_
                refine FW.gfun (y := .ref (List.drop 1 (ApiStep.cells (List.getD v1 (Int.toNat v5) default)))) rfl rfl rfl rfl (fun a w hk => FW.f_fieldAddr hk (FW.holds_nil _) rfl Go.Proofs.Try.underlying29 rfl (by kernel_rfl) rfl) ?_
                refine FW.gfun (y := .row (r_ApiArg_cells ((List.getD v1 (Int.toNat v5) default).Args))) rfl rfl rfl rfl (fun a w hk => FW.f_load1 hk (FW.holds_nil _) rfl rfl Go.Proofs.Try.underlying27 rfl) ?_
                refine FW.gfun (y := .lit (.int .i64 v6)) rfl rfl rfl rfl (fun a w hk => FW.f_move hk (FW.holds_nil _) rfl) ?_
                refine FW.gfun (y := .ref (ApiArg.cells (List.getD ((List.getD v1 (Int.toNat v5) default).Args) (Int.toNat v6) default))) rfl rfl rfl rfl (fun a w hk => FW.f_indexAddr (R := r_ApiArg_cells) (f := ApiArg.cells) (l := (List.getD v1 (Int.toNat v5) default).Args) (sz := 11) r_ApiArg_cells_eq (fun _ => rfl) hk (FW.holds_nil _) rfl rfl Go.Proofs.Try.underlying27 (by kernel_rfl) hc9) ?_
                refine FW.gfun (y := .agg ((ApiArg.cells (List.getD ((List.getD v1 (Int.toNat v5) default).Args) (Int.toNat v6) default)))) rfl rfl rfl rfl (fun a w hk => FW.f_load hk (FW.holds_nil _) rfl Go.Proofs.Try.underlying38 rfl rfl rfl rfl) ?_
                refine FW.gskip rfl rfl ?_
                refine FW.gskip rfl rfl ?_
                refine FW.gskip0 rfl ?_
                refine FW.gskip0 rfl ?_
                exact FW.gend
              · skip
                intro σD a w opsD QD hk hf hQ hX
                refine FW.l_alloc (zs := (ApiArg.cells (⟨0, (⟨0, false, 0, 0, [], []⟩ : ApiValue), (⟨[], [], []⟩ : ApiPred), []⟩ : ApiArg))) [] hk rfl hf rfl rfl ?_; clear hk; intro bx2 a w hk
                refine hQ _ _ a w ?_ hk; clear hk hQ hf hX
                refine ⟨[(56, [], .row (r_ApiStep_cells v0)), (57, [], .lit (.int .i64 v5)), (58, [], .ref (ApiStep.cells (List.getD v0 (Int.toNat v5) default))), (59, [], .ref (List.drop 1 (ApiStep.cells (List.getD v0 (Int.toNat v5) default)))), (60, [], .row (r_ApiArg_cells ((List.getD v0 (Int.toNat v5) default).Args))), (61, [], .lit (.int .i64 v6)), (62, [], .ref (ApiArg.cells (List.getD ((List.getD v0 (Int.toNat v5) default).Args) (Int.toNat v6) default))), (63, [], .agg ((ApiArg.cells (List.getD ((List.getD v0 (Int.toNat v5) default).Args) (Int.toNat v6) default)))), (64, [], .row (r_ApiStep_cells v1)), (65, [], .lit (.int .i64 v5)), (66, [], .ref (ApiStep.cells (List.getD v1 (Int.toNat v5) default))), (67, [], .ref (List.drop 1 (ApiStep.cells (List.getD v1 (Int.toNat v5) default)))), (68, [], .row (r_ApiArg_cells ((List.getD v1 (Int.toNat v5) default).Args))), (69, [], .lit (.int .i64 v6)), (70, [], .ref (ApiArg.cells (List.getD ((List.getD v1 (Int.toNat v5) default).Args) (Int.toNat v6) default))), (71, [], .agg ((ApiArg.cells (List.getD ((List.getD v1 (Int.toNat v5) default).Args) (Int.toNat v6) default)))), (7, [], .agg []), (8, [], .lit (.pointer (some ⟨bx2, 0, none⟩))), (101, [], .lit undef), (101, [], .lit undef)], And.intro rfl (And.intro rfl (And.intro rfl (And.intro rfl (And.intro rfl (And.intro rfl (And.intro rfl (And.intro rfl (And.intro rfl (And.intro rfl (And.intro rfl (And.intro rfl (And.intro rfl (And.intro rfl (And.intro rfl (And.intro rfl (trivial)))))))))))))))), rfl, ?_⟩
                refine FW.gnext ?_ rfl rfl rfl rfl rfl ?_
                · skip
                  refine FW.gfun (y := .row (r_ApiStep_cells v0)) rfl rfl rfl rfl (fun a w hk => FW.f_move hk (FW.holds_nil _) rfl) ?_
                  refine FW.gfun (y := .lit (.int .i64 v5)) rfl rfl rfl rfl (fun a w hk => FW.f_move hk (FW.holds_nil _) rfl) ?_
                  refine FW.gfun (y := .ref (ApiStep.cells (List.getD v0 (Int.toNat v5) default))) rfl rfl rfl rfl (fun a w hk => FW.f_indexAddr (R := r_ApiStep_cells) (f := ApiStep.cells) (l := v0) (sz := 2) r_ApiStep_cells_eq (fun _ => rfl) hk (FW.holds_nil _) rfl rfl Go.Proofs.Try.underlying22 (by kernel_rfl) hc6) ?_
                  refine FW.gfun (y := .ref (List.drop 1 (ApiStep.cells (List.getD v0 (Int.toNat v5) default)))) rfl rfl rfl rfl (fun a w hk => FW.f_fieldAddr hk (FW.holds_nil _) rfl Go.Proofs.Try.underlying29 rfl (by kernel_rfl) rfl) ?_
                  refine FW.gfun (y := .row (r_ApiArg_cells ((List.getD v0 (Int.toNat v5) default).Args))) rfl rfl rfl rfl (fun a w hk => FW.f_load1 hk (FW.holds_nil _) rfl rfl Go.Proofs.Try.underlying27 rfl) ?_
                  refine FW.gfun (y := .lit (.int .i64 v6)) rfl rfl rfl rfl (fun a w hk => FW.f_move hk (FW.holds_nil _) rfl) ?_
                  refine FW.gfun (y := .ref (ApiArg.cells (List.getD ((List.getD v0 (Int.toNat v5) default).Args) (Int.toNat v6) default))) rfl rfl rfl rfl (fun a w hk => FW.f_indexAddr (R := r_ApiArg_cells) (f := ApiArg.cells) (l := (List.getD v0 (Int.toNat v5) default).Args) (sz := 11) r_ApiArg_cells_eq (fun _ => rfl) hk (FW.holds_nil _) rfl rfl Go.Proofs.Try.underlying27 (by kernel_rfl) hc7) ?_
                  refine FW.gfun (y := .agg ((ApiArg.cells (List.getD ((List.getD v0 (Int.toNat v5) default).Args) (Int.toNat v6) default)))) rfl rfl rfl rfl (fun a w hk => FW.f_load hk (FW.holds_nil _) rfl Go.Proofs.Try.underlying38 rfl rfl rfl rfl) ?_
                  refine FW.gfun (y := .row (r_ApiStep_cells v1)) rfl rfl rfl rfl (fun a w hk => FW.f_move hk (FW.holds_nil _) rfl) ?_
                  refine FW.gfun (y := .lit (.int .i64 v5)) rfl rfl rfl rfl (fun a w hk => FW.f_move hk (FW.holds_nil _) rfl) ?_
                  refine FW.gfun (y := .ref (ApiStep.cells (List.getD v1 (Int.toNat v5) default))) rfl rfl rfl rfl (fun a w hk => FW.f_indexAddr (R := r_ApiStep_cells) (f := ApiStep.cells) (l := v1) (sz := 2) r_ApiStep_cells_eq (fun _ => rfl) hk (FW.holds_nil _) rfl rfl Go.Proofs.Try.underlying22 (by kernel_rfl) hc8) ?_
                  refine FW.gfun (y := .ref (List.drop 1 (ApiStep.cells (List.getD v1 (Int.toNat v5) default)))) rfl rfl rfl rfl (fun a w hk => FW.f_fieldAddr hk (FW.holds_nil _) rfl Go.Proofs.Try.underlying29 rfl (by kernel_rfl) rfl) ?_
                  refine FW.gfun (y := .row (r_ApiArg_cells ((List.getD v1 (Int.toNat v5) default).Args))) rfl rfl rfl rfl (fun a w hk => FW.f_load1 hk (FW.holds_nil _) rfl rfl Go.Proofs.Try.underlying27 rfl) ?_
                  refine FW.gfun (y := .lit (.int .i64 v6)) rfl rfl rfl rfl (fun a w hk => FW.f_move hk (FW.holds_nil _) rfl) ?_
                  refine FW.gfun (y := .ref (ApiArg.cells (List.getD ((List.getD v1 (Int.toNat v5) default).Args) (Int.toNat v6) default))) rfl rfl rfl rfl (fun a w hk => FW.f_indexAddr (R := r_ApiArg_cells) (f := ApiArg.cells) (l := (List.getD v1 (Int.toNat v5) default).Args) (sz := 11) r_ApiArg_cells_eq (fun _ => rfl) hk (FW.holds_nil _) rfl rfl Go.Proofs.Try.underlying27 (by kernel_rfl) hc9) ?_
                  refine FW.gfun (y := .agg ((ApiArg.cells (List.getD ((List.getD v1 (Int.toNat v5) default).Args) (Int.toNat v6) default)))) rfl rfl rfl rfl (fun a w hk => FW.f_load hk (FW.holds_nil _) rfl Go.Proofs.Try.underlying38 rfl rfl rfl rfl) ?_
                  refine FW.gskip rfl rfl ?_
                  refine FW.gskip rfl rfl ?_
                  refine FW.gskip0 rfl ?_
                  refine FW.gskip0 rfl ?_
                  exact FW.gend
                · skip
                  intro σD a w opsD QD hk hf hQ hX
                  refine FW.l_alloc (zs := (ApiArg.cells (⟨0, (⟨0, false, 0, 0, [], []⟩ : ApiValue), (⟨[], [], []⟩ : ApiPred), []⟩ : ApiArg))) [] hk rfl hf rfl rfl ?_; clear hk; intro bx1 a w hk
                  refine hQ _ _ a w ?_ hk; clear hk hQ hf hX
                  refine ⟨[(56, [], .row (r_ApiStep_cells v0)), (57, [], .lit (.int .i64 v5)), (58, [], .ref (ApiStep.cells (List.getD v0 (Int.toNat v5) default))), (59, [], .ref (List.drop 1 (ApiStep.cells (List.getD v0 (Int.toNat v5) default)))), (60, [], .row (r_ApiArg_cells ((List.getD v0 (Int.toNat v5) default).Args))), (61, [], .lit (.int .i64 v6)), (62, [], .ref (ApiArg.cells (List.getD ((List.getD v0 (Int.toNat v5) default).Args) (Int.toNat v6) default))), (63, [], .agg ((ApiArg.cells (List.getD ((List.getD v0 (Int.toNat v5) default).Args) (Int.toNat v6) default)))), (64, [], .row (r_ApiStep_cells v1)), (65, [], .lit (.int .i64 v5)), (66, [], .ref (ApiStep.cells (List.getD v1 (Int.toNat v5) default))), (67, [], .ref (List.drop 1 (ApiStep.cells (List.getD v1 (Int.toNat v5) default)))), (68, [], .row (r_ApiArg_cells ((List.getD v1 (Int.toNat v5) default).Args))), (69, [], .lit (.int .i64 v6)), (70, [], .ref (ApiArg.cells (List.getD ((List.getD v1 (Int.toNat v5) default).Args) (Int.toNat v6) default))), (71, [], .agg ((ApiArg.cells (List.getD ((List.getD v1 (Int.toNat v5) default).Args) (Int.toNat v6) default)))), (7, [], .lit (.pointer (some ⟨bx1, 0, none⟩))), (8, [], .lit (.pointer (some ⟨bx2, 0, none⟩))), (101, [], .lit undef), (101, [], .lit undef)], And.intro rfl (And.intro rfl (And.intro rfl (And.intro rfl (And.intro rfl (And.intro rfl (And.intro rfl (And.intro rfl (And.intro rfl (And.intro rfl (And.intro rfl (And.intro rfl (And.intro rfl (And.intro rfl (And.intro rfl (And.intro rfl (And.intro rfl (trivial))))))))))))))))), rfl, ?_⟩
                  refine FW.gnext0 ?_ rfl rfl rfl ?_
                  · skip
                    refine FW.gfun (y := .row (r_ApiStep_cells v0)) rfl rfl rfl rfl (fun a w hk => FW.f_move hk (FW.holds_nil _) rfl) ?_
                    refine FW.gfun (y := .lit (.int .i64 v5)) rfl rfl rfl rfl (fun a w hk => FW.f_move hk (FW.holds_nil _) rfl) ?_
                    refine FW.gfun (y := .ref (ApiStep.cells (List.getD v0 (Int.toNat v5) default))) rfl rfl rfl rfl (fun a w hk => FW.f_indexAddr (R := r_ApiStep_cells) (f := ApiStep.cells) (l := v0) (sz := 2) r_ApiStep_cells_eq (fun _ => rfl) hk (FW.holds_nil _) rfl rfl Go.Proofs.Try.underlying22 (by kernel_rfl) hc6) ?_
                    refine FW.gfun (y := .ref (List.drop 1 (ApiStep.cells (List.getD v0 (Int.toNat v5) default)))) rfl rfl rfl rfl (fun a w hk => FW.f_fieldAddr hk (FW.holds_nil _) rfl Go.Proofs.Try.underlying29 rfl (by kernel_rfl) rfl) ?_
                    refine FW.gfun (y := .row (r_ApiArg_cells ((List.getD v0 (Int.toNat v5) default).Args))) rfl rfl rfl rfl (fun a w hk => FW.f_load1 hk (FW.holds_nil _) rfl rfl Go.Proofs.Try.underlying27 rfl) ?_
                    refine FW.gfun (y := .lit (.int .i64 v6)) rfl rfl rfl rfl (fun a w hk => FW.f_move hk (FW.holds_nil _) rfl) ?_
                    refine FW.gfun (y := .ref (ApiArg.cells (List.getD ((List.getD v0 (Int.toNat v5) default).Args) (Int.toNat v6) default))) rfl rfl rfl rfl (fun a w hk => FW.f_indexAddr (R := r_ApiArg_cells) (f := ApiArg.cells) (l := (List.getD v0 (Int.toNat v5) default).Args) (sz := 11) r_ApiArg_cells_eq (fun _ => rfl) hk (FW.holds_nil _) rfl rfl Go.Proofs.Try.underlying27 (by kernel_rfl) hc7) ?_
                    refine FW.gfun (y := .agg ((ApiArg.cells (List.getD ((List.getD v0 (Int.toNat v5) default).Args) (Int.toNat v6) default)))) rfl rfl rfl rfl (fun a w hk => FW.f_load hk (FW.holds_nil _) rfl Go.Proofs.Try.underlying38 rfl rfl rfl rfl) ?_
                    refine FW.gfun (y := .row (r_ApiStep_cells v1)) rfl rfl rfl rfl (fun a w hk => FW.f_move hk (FW.holds_nil _) rfl) ?_
                    refine FW.gfun (y := .lit (.int .i64 v5)) rfl rfl rfl rfl (fun a w hk => FW.f_move hk (FW.holds_nil _) rfl) ?_
                    refine FW.gfun (y := .ref (ApiStep.cells (List.getD v1 (Int.toNat v5) default))) rfl rfl rfl rfl (fun a w hk => FW.f_indexAddr (R := r_ApiStep_cells) (f := ApiStep.cells) (l := v1) (sz := 2) r_ApiStep_cells_eq (fun _ => rfl) hk (FW.holds_nil _) rfl rfl Go.Proofs.Try.underlying22 (by kernel_rfl) hc8) ?_
                    refine FW.gfun (y := .ref (List.drop 1 (ApiStep.cells (List.getD v1 (Int.toNat v5) default)))) rfl rfl rfl rfl (fun a w hk => FW.f_fieldAddr hk (FW.holds_nil _) rfl Go.Proofs.Try.underlying29 rfl (by kernel_rfl) rfl) ?_
                    refine FW.gfun (y := .row (r_ApiArg_cells ((List.getD v1 (Int.toNat v5) default).Args))) rfl rfl rfl rfl (fun a w hk => FW.f_load1 hk (FW.holds_nil _) rfl rfl Go.Proofs.Try.underlying27 rfl) ?_
                    refine FW.gfun (y := .lit (.int .i64 v6)) rfl rfl rfl rfl (fun a w hk => FW.f_move hk (FW.holds_nil _) rfl) ?_
                    refine FW.gfun (y := .ref (ApiArg.cells (List.getD ((List.getD v1 (Int.toNat v5) default).Args) (Int.toNat v6) default))) rfl rfl rfl rfl (fun a w hk => FW.f_indexAddr (R := r_ApiArg_cells) (f := ApiArg.cells) (l := (List.getD v1 (Int.toNat v5) default).Args) (sz := 11) r_ApiArg_cells_eq (fun _ => rfl) hk (FW.holds_nil _) rfl rfl Go.Proofs.Try.underlying27 (by kernel_rfl) hc9) ?_
                    refine FW.gfun (y := .agg ((ApiArg.cells (List.getD ((List.getD v1 (Int.toNat v5) default).Args) (Int.toNat v6) default)))) rfl rfl rfl rfl (fun a w hk => FW.f_load hk (FW.holds_nil _) rfl Go.Proofs.Try.underlying38 rfl rfl rfl rfl) ?_
                    refine FW.gskip rfl rfl ?_
                    refine FW.gskip rfl rfl ?_
                    refine FW.gskip0 rfl ?_
                    refine FW.gskip0 rfl ?_
                    exact FW.gend
                  · skip
                    intro σD a w opsD QD hk hQ hX
                    refine FW.l_store (I' := [FW.blk bx1 38 ((ApiArg.cells (List.getD ((List.getD v0 (Int.toNat v5) default).Args) (Int.toNat v6) default))), FW.blk bx2 38 ((ApiArg.cells (⟨0, (⟨0, false, 0, 0, [], []⟩ : ApiValue), (⟨[], [], []⟩ : ApiPred), []⟩ : ApiArg)))]) (cs' := (ApiArg.cells (List.getD ((List.getD v0 (Int.toNat v5) default).Args) (Int.toNat v6) default))) (j := 0) hk rfl rfl rfl rfl rfl (by kernel_rfl) rfl rfl ?_; clear hk; intro w hk
                    refine hQ _ a w ?_ hk; clear hk hQ hX
                    refine ⟨[(56, [], .row (r_ApiStep_cells v0)), (57, [], .lit (.int .i64 v5)), (58, [], .ref (ApiStep.cells (List.getD v0 (Int.toNat v5) default))), (59, [], .ref (List.drop 1 (ApiStep.cells (List.getD v0 (Int.toNat v5) default)))), (60, [], .row (r_ApiArg_cells ((List.getD v0 (Int.toNat v5) default).Args))), (61, [], .lit (.int .i64 v6)), (62, [], .ref (ApiArg.cells (List.getD ((List.getD v0 (Int.toNat v5) default).Args) (Int.toNat v6) default))), (63, [], .agg ((ApiArg.cells (List.getD ((List.getD v0 (Int.toNat v5) default).Args) (Int.toNat v6) default)))), (64, [], .row (r_ApiStep_cells v1)), (65, [], .lit (.int .i64 v5)), (66, [], .ref (ApiStep.cells (List.getD v1 (Int.toNat v5) default))), (67, [], .ref (List.drop 1 (ApiStep.cells (List.getD v1 (Int.toNat v5) default)))), (68, [], .row (r_ApiArg_cells ((List.getD v1 (Int.toNat v5) default).Args))), (69, [], .lit (.int .i64 v6)), (70, [], .ref (ApiArg.cells (List.getD ((List.getD v1 (Int.toNat v5) default).Args) (Int.toNat v6) default))), (71, [], .agg ((ApiArg.cells (List.getD ((List.getD v1 (Int.toNat v5) default).Args) (Int.toNat v6) default)))), (7, [], .lit (.pointer (some ⟨bx1, 0, none⟩))), (8, [], .lit (.pointer (some ⟨bx2, 0, none⟩))), (101, [], .lit undef), (101, [], .lit undef)], And.intro rfl (And.intro rfl (And.intro rfl (And.intro rfl (And.intro rfl (And.intro rfl (And.intro rfl (And.intro rfl (And.intro rfl (And.intro rfl (And.intro rfl (And.intro rfl (And.intro rfl (And.intro rfl (And.intro rfl (And.intro rfl (And.intro rfl (And.intro rfl (trivial)))))))))))))))))), rfl, ?_⟩
                    refine FW.gnext0 ?_ rfl rfl rfl ?_
                    · skip
                      refine FW.gskip rfl rfl ?_
                      refine FW.gskip rfl rfl ?_
                      refine FW.gskip rfl rfl ?_
                      refine FW.gskip rfl rfl ?_
                      refine FW.gskip rfl rfl ?_
                      refine FW.gskip rfl rfl ?_
                      refine FW.gskip rfl rfl ?_
                      refine FW.gskip rfl rfl ?_
                      refine FW.gfun (y := .row (r_ApiStep_cells v1)) rfl rfl rfl rfl (fun a w hk => FW.f_move hk (FW.holds_nil _) rfl) ?_
                      refine FW.gfun (y := .lit (.int .i64 v5)) rfl rfl rfl rfl (fun a w hk => FW.f_move hk (FW.holds_nil _) rfl) ?_
                      refine FW.gfun (y := .ref (ApiStep.cells (List.getD v1 (Int.toNat v5) default))) rfl rfl rfl rfl (fun a w hk => FW.f_indexAddr (R := r_ApiStep_cells) (f := ApiStep.cells) (l := v1) (sz := 2) r_ApiStep_cells_eq (fun _ => rfl) hk (FW.holds_nil _) rfl rfl Go.Proofs.Try.underlying22 (by kernel_rfl) hc8) ?_
                      refine FW.gfun (y := .ref (List.drop 1 (ApiStep.cells (List.getD v1 (Int.toNat v5) default)))) rfl rfl rfl rfl (fun a w hk => FW.f_fieldAddr hk (FW.holds_nil _) rfl Go.Proofs.Try.underlying29 rfl (by kernel_rfl) rfl) ?_
                      refine FW.gfun (y := .row (r_ApiArg_cells ((List.getD v1 (Int.toNat v5) default).Args))) rfl rfl rfl rfl (fun a w hk => FW.f_load1 hk (FW.holds_nil _) rfl rfl Go.Proofs.Try.underlying27 rfl) ?_
                      refine FW.gfun (y := .lit (.int .i64 v6)) rfl rfl rfl rfl (fun a w hk => FW.f_move hk (FW.holds_nil _) rfl) ?_
                      refine FW.gfun (y := .ref (ApiArg.cells (List.getD ((List.getD v1 (Int.toNat v5) default).Args) (Int.toNat v6) default))) rfl rfl rfl rfl (fun a w hk => FW.f_indexAddr (R := r_ApiArg_cells) (f := ApiArg.cells) (l := (List.getD v1 (Int.toNat v5) default).Args) (sz := 11) r_ApiArg_cells_eq (fun _ => rfl) hk (FW.holds_nil _) rfl rfl Go.Proofs.Try.underlying27 (by kernel_rfl) hc9) ?_
                      refine FW.gfun (y := .agg ((ApiArg.cells (List.getD ((List.getD v1 (Int.toNat v5) default).Args) (Int.toNat v6) default)))) rfl rfl rfl rfl (fun a w hk => FW.f_load hk (FW.holds_nil _) rfl Go.Proofs.Try.underlying38 rfl rfl rfl rfl) ?_
                      refine FW.gskip rfl rfl ?_
                      refine FW.gskip rfl rfl ?_
                      refine FW.gskip0 rfl ?_
                      refine FW.gskip0 rfl ?_
                      exact FW.gend
                    · skip
                      intro σD a w opsD QD hk hQ hX
                      refine FW.l_store (I' := [FW.blk bx1 38 ((ApiArg.cells (List.getD ((List.getD v0 (Int.toNat v5) default).Args) (Int.toNat v6) default))), FW.blk bx2 38 ((ApiArg.cells (List.getD ((List.getD v1 (Int.toNat v5) default).Args) (Int.toNat v6) default)))]) (cs' := (ApiArg.cells (List.getD ((List.getD v1 (Int.toNat v5) default).Args) (Int.toNat v6) default))) (j := 1) hk rfl rfl rfl rfl rfl (by kernel_rfl) rfl rfl ?_; clear hk; intro w hk
                      refine hQ _ a w ?_ hk; clear hk hQ hX
                      refine ⟨[(56, [], .row (r_ApiStep_cells v0)), (57, [], .lit (.int .i64 v5)), (58, [], .ref (ApiStep.cells (List.getD v0 (Int.toNat v5) default))), (59, [], .ref (List.drop 1 (ApiStep.cells (List.getD v0 (Int.toNat v5) default)))), (60, [], .row (r_ApiArg_cells ((List.getD v0 (Int.toNat v5) default).Args))), (61, [], .lit (.int .i64 v6)), (62, [], .ref (ApiArg.cells (List.getD ((List.getD v0 (Int.toNat v5) default).Args) (Int.toNat v6) default))), (63, [], .agg ((ApiArg.cells (List.getD ((List.getD v0 (Int.toNat v5) default).Args) (Int.toNat v6) default)))), (64, [], .row (r_ApiStep_cells v1)), (65, [], .lit (.int .i64 v5)), (66, [], .ref (ApiStep.cells (List.getD v1 (Int.toNat v5) default))), (67, [], .ref (List.drop 1 (ApiStep.cells (List.getD v1 (Int.toNat v5) default)))), (68, [], .row (r_ApiArg_cells ((List.getD v1 (Int.toNat v5) default).Args))), (69, [], .lit (.int .i64 v6)), (70, [], .ref (ApiArg.cells (List.getD ((List.getD v1 (Int.toNat v5) default).Args) (Int.toNat v6) default))), (71, [], .agg ((ApiArg.cells (List.getD ((List.getD v1 (Int.toNat v5) default).Args) (Int.toNat v6) default)))), (7, [], .lit (.pointer (some ⟨bx1, 0, none⟩))), (8, [], .lit (.pointer (some ⟨bx2, 0, none⟩))), (101, [], .lit undef), (101, [], .lit undef)], And.intro rfl (And.intro rfl (And.intro rfl (And.intro rfl (And.intro rfl (And.intro rfl (And.intro rfl (And.intro rfl (And.intro rfl (And.intro rfl (And.intro rfl (And.intro rfl (And.intro rfl (And.intro rfl (And.intro rfl (And.intro rfl (And.intro rfl (And.intro rfl (And.intro rfl (trivial))))))))))))))))))), rfl, ?_⟩
                      refine FW.glast ?_ ?_
                      · skip
                        refine FW.gskip rfl rfl ?_
                        refine FW.gskip rfl rfl ?_
                        refine FW.gskip rfl rfl ?_
                        refine FW.gskip rfl rfl ?_
                        refine FW.gskip rfl rfl ?_
                        refine FW.gskip rfl rfl ?_
                        refine FW.gskip rfl rfl ?_
                        refine FW.gskip rfl rfl ?_
                        refine FW.gskip rfl rfl ?_
                        refine FW.gskip rfl rfl ?_
                        refine FW.gskip rfl rfl ?_
                        refine FW.gskip rfl rfl ?_
                        refine FW.gskip rfl rfl ?_
                        refine FW.gskip rfl rfl ?_
                        refine FW.gskip rfl rfl ?_
                        refine FW.gskip rfl rfl ?_
                        refine FW.gskip rfl rfl ?_
                        refine FW.gskip rfl rfl ?_
                        refine FW.gskip0 rfl ?_
                        refine FW.gskip0 rfl ?_
                        exact FW.gend
                      · skip
                        intro a w hk; simp only [FW.stD, cond_true] at hk
                        (repeat first | refine FW.then_normal ?_ | refine FW.block_normal ?_); exact hK19 _ _ ⟨(List.getD ((List.getD v1 (Int.toNat v5) default).Args) (Int.toNat v6) default), (List.getD ((List.getD v0 (Int.toNat v5) default).Args) (Int.toNat v6) default), v0, v1, v5, v6, bx2, bx1, (FW.S.pick hk (js := [0, 1]) rfl).sub ⟨rfl, rfl, rfl, rfl, rfl, rfl, trivial⟩, h⟩
        · skip
          refine wp_exit ?_; (repeat first | refine FW.then_exit ?_ | refine FW.block_exit_ne rfl ?_); refine FW.block_exit ?_
          (repeat first | refine FW.then_normal ?_ | refine FW.block_normal ?_); refine hK10 _ _ ?_
          refine FW.wreg1 ?_
          refine FW.lfun (y := .lit (.int .i64 v5)) hk rfl rfl rfl rfl (FW.f_move hk (FW.holds_nil _) rfl) ?_; clear hk; intro a w hk
          refine FW.lfun (y := .lit (.int .i64 (IntKind.wrap .i64 (v5 + 1)))) hk rfl rfl rfl rfl ((FW.f_pure (FW.p_add hk.kn (FW.holds_nil _) rfl rfl))) ?_; clear hk; intro a w hk
          refine FW.lfun (y := .lit (.int .i64 (IntKind.wrap .i64 (v5 + 1)))) hk rfl rfl rfl rfl (FW.f_assign hk (FW.holds_nil _) rfl) ?_; clear hk; intro a w hk
          refine wpList_nil ?_
          (repeat first | refine FW.then_normal ?_ | refine FW.block_normal ?_); exact hK7 (kl1, v0, v1, (IntKind.wrap .i64 (v5 + 1))) _ _ (Nat.lt_succ_self _) ⟨hk.sub ⟨rfl, rfl, rfl, trivial⟩, h⟩
    · skip
      refine wp_exit ?_; (repeat first | refine FW.then_exit ?_ | refine FW.block_exit_ne rfl ?_); refine FW.block_exit ?_
      (repeat first | refine FW.then_normal ?_ | refine FW.block_normal ?_); refine hK5 _ _ ?_
      refine FW.wreg ?_; intro K' hK25
      refine FW.lfun (y := .lit (.bool true)) hk rfl rfl rfl rfl (FW.f_assign hk (FW.holds_nil _) rfl) ?_; clear hk; intro a w hk
      refine FW.lend (hK25 _ _ ?_); clear hK25 K'
      refine wp_ret ?_
      (repeat first | refine FW.then_ret ?_ | refine FW.block_ret ?_)
      obtain rfl := Option.some.inj h
      exact FW.fret1 hk rfl rfl
theorem offshootref12_Same_knot : ∀ K : Nat, (∀ (v0 : List ApiStep) (v1 : List ApiStep) (r : Bool), offshootref12_Same.f K v0 v1 = some r → FW.Ok Go.Proofs.Try.prog 20 [.row (r_ApiStep_cells v0), .row (r_ApiStep_cells v1)] (.lit (.bool r)))
  | 0 => fun v0 v1 r h => by simp [offshootref12_Same.f] at h
  | K + 1 => fun v0 v1 r h => by rw [offshootref12_Same.f] at h; exact offshootref12_Same.bok _ (offshootref12_Same_knot K) K v0 v1 r h
theorem offshootref12_Same.ok (K : Nat) (v0 : List ApiStep) (v1 : List ApiStep) (r : Bool) (h : offshootref12_Same.f K v0 v1 = some r) : FW.Ok Go.Proofs.Try.prog 20 [.row (r_ApiStep_cells v0), .row (r_ApiStep_cells v1)] (.lit (.bool r)) := (offshootref12_Same_knot K) v0 v1 r h

theorem offshootlaw12_ParseSame.ok (K : Nat) (v0 : List UInt8) (r : Bool) (h : offshootlaw12_ParseSame.f K v0 = some r) :
    FW.Ok Go.Proofs.Try.prog 6 [.lit (.string (FW.B v0))] (.lit (.bool r)) := by
  refine FW.enter (xs := [.lit (.string (FW.B v0))]) Go.Proofs.Try.func6 rfl Go.Proofs.Try.ntmps6 rfl ?_
  intro M w0 a hk
  unfold offshootlaw12_ParseSame.f at h
  refine FW.wreg ?_; intro K' hK1
  refine FW.lfun (y := .lit (.bool false)) hk rfl rfl rfl rfl (FW.f_assign hk (FW.holds_nil _) rfl) ?_; clear hk; intro a w hk
  refine FW.lend (hK1 _ _ ?_); clear hK1 K'
  refine FW.wseqJ (fun a w => ∃ (v0 : List UInt8), FW.S M w0 a w 63 [] [(0, [], .lit (.string (FW.B v0)))] ∧ offshootlaw12_ParseSame.j1 K v0 = some r) ?_ ?_
  · clear hk h
    rintro a w ⟨v0, hk, h⟩
    unfold offshootlaw12_ParseSame.j1 at h
    refine FW.wreg ?_; intro K' hK3
    refine FW.lfun (y := .lit (.string (FW.B v0))) hk rfl rfl rfl rfl (FW.f_move hk (FW.holds_nil _) rfl) ?_; clear hk; intro a w hk
    obtain ⟨t1, hr_t1, h⟩ := FW.bnd h
    refine FW.lfun (y := .tup [.row (r_ApiStep_cells t1.1), .lit (.int .i64 t1.2.1), .lit (.int .i64 t1.2.2)]) hk rfl rfl rfl rfl (FW.f_call hk (FW.holds_nil _) rfl rfl Go.Proofs.Try.func18 rfl (by kernel_rfl) (parse_Parse.ok K v0 _ hr_t1)) ?_; clear hk; intro a w hk
    refine FW.lfun (y := .tup [.row (r_ApiStep_cells t1.1), .lit (.int .i64 t1.2.1), .lit (.int .i64 t1.2.2)]) hk rfl rfl rfl rfl (FW.f_move hk (FW.holds_nil _) rfl) ?_; clear hk; intro a w hk
    refine FW.lfun (y := .row (r_ApiStep_cells t1.1)) hk rfl rfl rfl rfl (FW.f_extract hk (FW.holds_nil _) rfl rfl) ?_; clear hk; intro a w hk
    refine FW.lfun (y := .lit (.int .i64 t1.2.1)) hk rfl rfl rfl rfl (FW.f_extract hk (FW.holds_nil _) rfl rfl) ?_; clear hk; intro a w hk
    refine FW.lfun (y := .lit (.int .i64 t1.2.2)) hk rfl rfl rfl rfl (FW.f_extract hk (FW.holds_nil _) rfl rfl) ?_; clear hk; intro a w hk
    refine FW.lfun (y := .row (r_ApiStep_cells t1.1)) hk rfl rfl rfl rfl (FW.f_assign hk (FW.holds_nil _) rfl) ?_; clear hk; intro a w hk
    refine FW.lfun (y := .lit (.int .i64 t1.2.1)) hk rfl rfl rfl rfl (FW.f_assign hk (FW.holds_nil _) rfl) ?_; clear hk; intro a w hk
    refine FW.lfun (y := .lit (.int .i64 t1.2.2)) hk rfl rfl rfl rfl (FW.f_assign hk (FW.holds_nil _) rfl) ?_; clear hk; intro a w hk
    refine FW.lend (hK3 _ _ ?_); clear hK3 K'
    refine FW.wreg ?_; intro K' hK4
    refine FW.lfun (y := .lit (.string (FW.B v0))) hk rfl rfl rfl rfl (FW.f_move hk (FW.holds_nil _) rfl) ?_; clear hk; intro a w hk
    obtain ⟨t2, hr_t2, h⟩ := FW.bnd h
    refine FW.lfun (y := .tup [.row (r_ApiStep_cells t2.1), .lit (.int .i64 t2.2.1), .lit (.int .i64 t2.2.2)]) hk rfl rfl rfl rfl (FW.f_call hk (FW.holds_nil _) rfl rfl Go.Proofs.Try.func18 rfl (by kernel_rfl) (parse_Parse.ok K v0 _ hr_t2)) ?_; clear hk; intro a w hk
    refine FW.lfun (y := .tup [.row (r_ApiStep_cells t2.1), .lit (.int .i64 t2.2.1), .lit (.int .i64 t2.2.2)]) hk rfl rfl rfl rfl (FW.f_move hk (FW.holds_nil _) rfl) ?_; clear hk; intro a w hk
    refine FW.lfun (y := .row (r_ApiStep_cells t2.1)) hk rfl rfl rfl rfl (FW.f_extract hk (FW.holds_nil _) rfl rfl) ?_; clear hk; intro a w hk
    refine FW.lfun (y := .lit (.int .i64 t2.2.1)) hk rfl rfl rfl rfl (FW.f_extract hk (FW.holds_nil _) rfl rfl) ?_; clear hk; intro a w hk
    refine FW.lfun (y := .lit (.int .i64 t2.2.2)) hk rfl rfl rfl rfl (FW.f_extract hk (FW.holds_nil _) rfl rfl) ?_; clear hk; intro a w hk
    refine FW.lfun (y := .row (r_ApiStep_cells t2.1)) hk rfl rfl rfl rfl (FW.f_assign hk (FW.holds_nil _) rfl) ?_; clear hk; intro a w hk
    refine FW.lfun (y := .lit (.int .i64 t2.2.1)) hk rfl rfl rfl rfl (FW.f_assign hk (FW.holds_nil _) rfl) ?_; clear hk; intro a w hk
    refine FW.lfun (y := .lit (.int .i64 t2.2.2)) hk rfl rfl rfl rfl (FW.f_assign hk (FW.holds_nil _) rfl) ?_; clear hk; intro a w hk
    refine FW.lend (hK4 _ _ ?_); clear hK4 K'
    refine FW.wreg ?_; intro K' hK5
    refine FW.lfun (y := .lit (.string (FW.B v0))) hk rfl rfl rfl rfl (FW.f_move hk (FW.holds_nil _) rfl) ?_; clear hk; intro a w hk
    obtain ⟨hc1, h⟩ := FW.chk h
    refine FW.lfun (y := .lit (.string (FW.B (([32] : List UInt8) ++ v0)))) hk rfl rfl rfl rfl ((FW.f_pure (FW.p_sadd hk.kn (FW.holds_nil _) rfl rfl hc1))) ?_; clear hk; intro a w hk
    obtain ⟨hc2, h⟩ := FW.chk h
    refine FW.lfun (y := .lit (.string (FW.B ((([32] : List UInt8) ++ v0) ++ ([32] : List UInt8))))) hk rfl rfl rfl rfl ((FW.f_pure (FW.p_sadd hk.kn (FW.holds_nil _) rfl rfl hc2))) ?_; clear hk; intro a w hk
    obtain ⟨t3, hr_t3, h⟩ := FW.bnd h
    refine FW.lfun (y := .tup [.row (r_ApiStep_cells t3.1), .lit (.int .i64 t3.2.1), .lit (.int .i64 t3.2.2)]) hk rfl rfl rfl rfl (FW.f_call hk (FW.holds_nil _) rfl rfl Go.Proofs.Try.func18 rfl (by kernel_rfl) (parse_Parse.ok K ((([32] : List UInt8) ++ v0) ++ ([32] : List UInt8)) _ hr_t3)) ?_; clear hk; intro a w hk
    refine FW.lfun (y := .tup [.row (r_ApiStep_cells t3.1), .lit (.int .i64 t3.2.1), .lit (.int .i64 t3.2.2)]) hk rfl rfl rfl rfl (FW.f_move hk (FW.holds_nil _) rfl) ?_; clear hk; intro a w hk
    refine FW.lfun (y := .row (r_ApiStep_cells t3.1)) hk rfl rfl rfl rfl (FW.f_extract hk (FW.holds_nil _) rfl rfl) ?_; clear hk; intro a w hk
    refine FW.lfun (y := .lit (.int .i64 t3.2.1)) hk rfl rfl rfl rfl (FW.f_extract hk (FW.holds_nil _) rfl rfl) ?_; clear hk; intro a w hk
    refine FW.lfun (y := .lit (.int .i64 t3.2.2)) hk rfl rfl rfl rfl (FW.f_extract hk (FW.holds_nil _) rfl rfl) ?_; clear hk; intro a w hk
    refine FW.lfun (y := .row (r_ApiStep_cells t3.1)) hk rfl rfl rfl rfl (FW.f_assign hk (FW.holds_nil _) rfl) ?_; clear hk; intro a w hk
    refine FW.lfun (y := .lit (.int .i64 t3.2.1)) hk rfl rfl rfl rfl (FW.f_assign hk (FW.holds_nil _) rfl) ?_; clear hk; intro a w hk
    refine FW.lfun (y := .lit (.int .i64 t3.2.2)) hk rfl rfl rfl rfl (FW.f_assign hk (FW.holds_nil _) rfl) ?_; clear hk; intro a w hk
    refine FW.lend (hK5 _ _ ?_); clear hK5 K'
    refine FW.wreg ?_; intro K' hK6
    obtain ⟨t4, hr_t4, h⟩ := FW.bnd h
    refine FW.lfun (y := .lit (.bool t4)) hk rfl rfl rfl rfl (FW.f_call hk (FW.holds_nil _) rfl rfl Go.Proofs.Try.func19 rfl (by kernel_rfl) (offshootlaw12_awake.ok K  _ hr_t4)) ?_; clear hk; intro a w hk
    refine FW.lfun (y := .lit (.bool t4)) hk rfl rfl rfl rfl (FW.f_move hk (FW.holds_nil _) rfl) ?_; clear hk; intro a w hk
    refine FW.lfunG (y := .lit (.int .i64 t1.2.2)) hk rfl rfl rfl rfl rfl rfl rfl rfl (fun hc => FW.f_move hk hc rfl) ?_; clear hk; intro a w hk
    refine FW.lfunG (y := .lit (.int .i64 t2.2.2)) hk rfl rfl rfl rfl rfl rfl rfl rfl (fun hc => FW.f_move hk hc rfl) ?_; clear hk; intro a w hk
    refine FW.lfunG (y := .lit (.bool (decide (t1.2.2 = t2.2.2)))) hk rfl rfl rfl rfl rfl rfl rfl rfl (fun hc => (FW.f_pure (FW.p_eql hk.kn hc rfl rfl))) ?_; clear hk; intro a w hk
    refine FW.lfun (y := .lit (.bool (t4 && (decide (t1.2.2 = t2.2.2))))) hk rfl rfl rfl rfl ((FW.f_pure (FW.p_pick_and hk.kn (FW.holds_nil _) rfl rfl))) ?_; clear hk; intro a w hk
    refine FW.lfun (y := .lit (.bool (t4 && (decide (t1.2.2 = t2.2.2))))) hk rfl rfl rfl rfl (FW.f_move hk (FW.holds_nil _) rfl) ?_; clear hk; intro a w hk
    refine FW.lfunG (y := .lit (.int .i64 t1.2.1)) hk rfl rfl rfl rfl rfl rfl rfl rfl (fun hc => FW.f_move hk hc rfl) ?_; clear hk; intro a w hk
    refine FW.lfunG (y := .lit (.int .i64 t2.2.1)) hk rfl rfl rfl rfl rfl rfl rfl rfl (fun hc => FW.f_move hk hc rfl) ?_; clear hk; intro a w hk
    refine FW.lfunG (y := .lit (.bool (decide (t1.2.1 = t2.2.1)))) hk rfl rfl rfl rfl rfl rfl rfl rfl (fun hc => (FW.f_pure (FW.p_eql hk.kn hc rfl rfl))) ?_; clear hk; intro a w hk
    refine FW.lfun (y := .lit (.bool ((t4 && (decide (t1.2.2 = t2.2.2))) && (decide (t1.2.1 = t2.2.1))))) hk rfl rfl rfl rfl ((FW.f_pure (FW.p_pick_and hk.kn (FW.holds_nil _) rfl rfl))) ?_; clear hk; intro a w hk
    refine FW.lfun (y := .lit (.bool ((t4 && (decide (t1.2.2 = t2.2.2))) && (decide (t1.2.1 = t2.2.1))))) hk rfl rfl rfl rfl (FW.f_move hk (FW.holds_nil _) rfl) ?_; clear hk; intro a w hk
    refine FW.lfunG (y := .row (r_ApiStep_cells t1.1)) hk rfl rfl rfl rfl rfl rfl rfl rfl (fun hc => FW.f_move hk hc rfl) ?_; clear hk; intro a w hk
    refine FW.lfunG (y := .row (r_ApiStep_cells t2.1)) hk rfl rfl rfl rfl rfl rfl rfl rfl (fun hc => FW.f_move hk hc rfl) ?_; clear hk; intro a w hk
    obtain ⟨t5, hr_t5, h⟩ := FW.bndG h
    refine FW.lfunG (y := .lit (.bool t5)) hk rfl rfl rfl rfl rfl rfl rfl rfl (fun hc => FW.f_call hk hc rfl rfl Go.Proofs.Try.func20 rfl (by kernel_rfl) (offshootref12_Same.ok K t1.1 t2.1 _ (hr_t5 (FW.asm_out (p := ((t4 && (decide (t1.2.2 = t2.2.2))) && (decide (t1.2.1 = t2.2.1))) = true) hk.kn hc (fun e0 => e0))))) ?_; clear hk; intro a w hk
    refine FW.lfun (y := .lit (.bool (((t4 && (decide (t1.2.2 = t2.2.2))) && (decide (t1.2.1 = t2.2.1))) && t5))) hk rfl rfl rfl rfl ((FW.f_pure (FW.p_pick_and hk.kn (FW.holds_nil _) rfl rfl))) ?_; clear hk; intro a w hk
    refine FW.lfun (y := .lit (.bool (((t4 && (decide (t1.2.2 = t2.2.2))) && (decide (t1.2.1 = t2.2.1))) && t5))) hk rfl rfl rfl rfl (FW.f_move hk (FW.holds_nil _) rfl) ?_; clear hk; intro a w hk
    refine FW.lfunG (y := .lit (.int .i64 t3.2.2)) hk rfl rfl rfl rfl rfl rfl rfl rfl (fun hc => FW.f_move hk hc rfl) ?_; clear hk; intro a w hk
    refine FW.lfunG (y := .lit (.int .i64 t1.2.2)) hk rfl rfl rfl rfl rfl rfl rfl rfl (fun hc => FW.f_move hk hc rfl) ?_; clear hk; intro a w hk
    refine FW.lfunG (y := .lit (.bool (decide (t3.2.2 = t1.2.2)))) hk rfl rfl rfl rfl rfl rfl rfl rfl (fun hc => (FW.f_pure (FW.p_eql hk.kn hc rfl rfl))) ?_; clear hk; intro a w hk
    refine FW.lfun (y := .lit (.bool ((((t4 && (decide (t1.2.2 = t2.2.2))) && (decide (t1.2.1 = t2.2.1))) && t5) && (decide (t3.2.2 = t1.2.2))))) hk rfl rfl rfl rfl ((FW.f_pure (FW.p_pick_and hk.kn (FW.holds_nil _) rfl rfl))) ?_; clear hk; intro a w hk
    refine FW.lfun (y := .lit (.bool ((((t4 && (decide (t1.2.2 = t2.2.2))) && (decide (t1.2.1 = t2.2.1))) && t5) && (decide (t3.2.2 = t1.2.2))))) hk rfl rfl rfl rfl (FW.f_move hk (FW.holds_nil _) rfl) ?_; clear hk; intro a w hk
    refine FW.lfunG (y := .row (r_ApiStep_cells t3.1)) hk rfl rfl rfl rfl rfl rfl rfl rfl (fun hc => FW.f_move hk hc rfl) ?_; clear hk; intro a w hk
    refine FW.lfunG (y := .row (r_ApiStep_cells t1.1)) hk rfl rfl rfl rfl rfl rfl rfl rfl (fun hc => FW.f_move hk hc rfl) ?_; clear hk; intro a w hk
    obtain ⟨t6, hr_t6, h⟩ := FW.bndG h
    refine FW.lfunG (y := .lit (.bool t6)) hk rfl rfl rfl rfl rfl rfl rfl rfl (fun hc => FW.f_call hk hc rfl rfl Go.Proofs.Try.func20 rfl (by kernel_rfl) (offshootref12_Same.ok K t3.1 t1.1 _ (hr_t6 (FW.asm_out (p := ((((t4 && (decide (t1.2.2 = t2.2.2))) && (decide (t1.2.1 = t2.2.1))) && t5) && (decide (t3.2.2 = t1.2.2))) = true) hk.kn hc (fun e0 => e0))))) ?_; clear hk; intro a w hk
    refine FW.lfun (y := .lit (.bool (((((t4 && (decide (t1.2.2 = t2.2.2))) && (decide (t1.2.1 = t2.2.1))) && t5) && (decide (t3.2.2 = t1.2.2))) && t6))) hk rfl rfl rfl rfl ((FW.f_pure (FW.p_pick_and hk.kn (FW.holds_nil _) rfl rfl))) ?_; clear hk; intro a w hk
    refine FW.lfun (y := .lit (.bool (((((t4 && (decide (t1.2.2 = t2.2.2))) && (decide (t1.2.1 = t2.2.1))) && t5) && (decide (t3.2.2 = t1.2.2))) && t6))) hk rfl rfl rfl rfl (FW.f_assign hk (FW.holds_nil _) rfl) ?_; clear hk; intro a w hk
    refine FW.lend (hK6 _ _ ?_); clear hK6 K'
    refine wp_ret ?_
    (repeat first | refine FW.then_ret ?_ | refine FW.block_ret ?_)
    obtain rfl := Option.some.inj h
    exact FW.fret1 hk rfl rfl
  · intro K' hK2
    refine FW.wreg ?_; intro K' hK7
    refine FW.lfun (y := .lit (.string (FW.B v0))) hk rfl rfl rfl rfl (FW.f_move hk (FW.holds_nil _) rfl) ?_; clear hk; intro a w hk
    refine FW.lfun (y := .lit (.int .i64 (List.length v0 : Int))) hk rfl rfl rfl rfl ((FW.f_pure (FW.p_slen Go.Proofs.Try.underlying9 hk.kn (FW.holds_nil _) rfl))) ?_; clear hk; intro a w hk
    refine FW.lfun (y := .lit (.bool (decide (1000 < (List.length v0 : Int))))) hk rfl rfl rfl rfl ((FW.f_pure (FW.p_gtr hk.kn (FW.holds_nil _) rfl rfl))) ?_; clear hk; intro a w hk
    refine FW.lend (hK7 _ _ ?_); clear hK7 K'
    refine FW.wcondF (b := (decide (1000 < (List.length v0 : Int)))) hk h rfl (fun h hb => ?_) (fun h hb => ?_)
    · skip
      refine FW.wreg1 ?_
      refine FW.lfun (y := .lit (.string (FW.B v0))) hk rfl rfl rfl rfl (FW.f_move hk (FW.holds_nil _) rfl) ?_; clear hk; intro a w hk
      obtain ⟨hc3, h⟩ := FW.chk h
      refine FW.lfun (y := .lit (.string (FW.B (List.take (Int.toNat 1000) v0)))) hk rfl rfl rfl rfl ((FW.f_pure (FW.p_slice_hi Go.Proofs.Try.underlying9 hk.kn (FW.holds_nil _) rfl rfl hc3))) ?_; clear hk; intro a w hk
      refine FW.lfun (y := .lit (.string (FW.B (List.take (Int.toNat 1000) v0)))) hk rfl rfl rfl rfl (FW.f_assign hk (FW.holds_nil _) rfl) ?_; clear hk; intro a w hk
      refine wpList_nil ?_
      (repeat first | refine FW.then_normal ?_ | refine FW.block_normal ?_); exact hK2 _ _ ⟨(List.take (Int.toNat 1000) v0), hk.sub ⟨rfl, trivial⟩, h⟩
    · skip
      refine wp_skip ?_
      (repeat first | refine FW.then_normal ?_ | refine FW.block_normal ?_); exact hK2 _ _ ⟨v0, hk.sub ⟨rfl, trivial⟩, h⟩
end Go.Proofs.Ytbjbgodcenopnaa

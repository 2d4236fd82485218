/- Written by a program of this session (gen.py): the contracts of functions of the program. -/
import Derived.KernelRfl
import Derived.Test.YtbjbgodcenopnaaProg
import Derived.Test.YtbjbgodcenopnaaAvFun
import Derived.Test.YtbjbgodcenopnaaAvMan
import Derived.Test.YtbjbgodcenopnaaAvMore
import Derived.Test.YtbjbgodcenopnaaAvDraw2
import Derived.Test.YtbjbgodcenopnaaAvRow
import Derived.Test.YtbjbgodcenopnaaAvBld
import Derived.Test.YtbjbgodcenopnaaHcl
import Derived.Test.YtbjbgodcenopnaaAvFl
import Derived.Test.YtbjbgodcenopnaaSvD
import Derived.Test.YtbjbgodcenopnaaSvP15
namespace Go.Proofs.Ytbjbgodcenopnaa
set_option linter.unusedVariables false
set_option maxRecDepth 20000
set_option maxHeartbeats 10000000
theorem offshootref02_Same.bok (s_offshootref02_Same : ApiValue → ApiValue → Option Bool) (hs_offshootref02_Same : ∀ (v0 : ApiValue) (v1 : ApiValue) (r : Bool), s_offshootref02_Same v0 v1 = some r → FW.Ok Try.prog 17 [.agg (ApiValue.cells v0), .agg (ApiValue.cells v1)] (.lit (.bool r))) (K : Nat) (v0 : ApiValue) (v1 : ApiValue) (r : Bool) (h : offshootref02_Same.b s_offshootref02_Same K v0 v1 = some r) :
  FW.Ok Try.prog 17 [.agg (ApiValue.cells v0), .agg (ApiValue.cells v1)] (.lit (.bool r)) := by
 refine FW.enter (xs := [.agg (ApiValue.cells v0), .agg (ApiValue.cells v1)]) Try.func17 rfl Try.ntmps17 rfl ?_
 intro M w0 a hk
 unfold offshootref02_Same.b at h
 refine FW.wreg ?_; intro K' hK1
 refine FW.l_box (cs := (ApiValue.cells v0)) hk rfl rfl rfl rfl rfl ?_; clear hk; intro bx1 a w hk
 refine FW.l_box (cs := (ApiValue.cells v1)) hk rfl rfl rfl rfl rfl ?_; clear hk; intro bx2 a w hk
 refine FW.lfun (y := .lit (.bool false)) hk rfl rfl rfl rfl (FW.f_assign hk FW.h0 rfl) ?_; clear hk; intro a w hk
 refine FW.lend (hK1 _ _ ?_); clear hK1 K'
 refine FW.wseq ?_; intro K' hK2
 obtain ⟨t1, hr_t1, h⟩ := FW.bndG h
 obtain ⟨t2, hr_t2, h⟩ := FW.bndG h
 refine FW.wdraw (by kernel_rfl) (by kernel_rfl) hk ?_; clear hk
 refine FW.dfun (y := .lit (.pointer (some ⟨bx1, 0, none⟩))) rfl rfl rfl rfl (fun a w hk => FW.f_fieldPtr hk FW.h0 rfl Try.underlying33 rfl (by kernel_rfl) rfl) ?_
 refine FW.dfun (y := .lit (.int .i64 v0.Kind)) rfl rfl rfl rfl (fun a w hk => FW.f_loadBlk1 hk FW.h0 (j := 1) rfl rfl Try.underlying3 rfl rfl) ?_
 refine FW.dfun (y := .lit (.pointer (some ⟨bx2, 0, none⟩))) rfl rfl rfl rfl (fun a w hk => FW.f_fieldPtr hk FW.h0 rfl Try.underlying33 rfl (by kernel_rfl) rfl) ?_
 refine FW.dfun (y := .lit (.int .i64 v1.Kind)) rfl rfl rfl rfl (fun a w hk => FW.f_loadBlk1 hk FW.h0 (j := 0) rfl rfl Try.underlying3 rfl rfl) ?_
 refine FW.dfun (y := .lit (.bool (!decide (v0.Kind = v1.Kind)))) rfl rfl rfl rfl (fun a w hk => (FW.f_pure (FW.p_neq hk.kn FW.h0 rfl rfl))) ?_
 refine FW.dfun (y := .lit (.bool (!decide (v0.Kind = v1.Kind)))) rfl rfl rfl rfl (fun a w hk => FW.f_move hk FW.h0 rfl) ?_
 refine FW.dfunG (y := .lit (.pointer (some ⟨bx1, 1, none⟩))) rfl rfl rfl rfl rfl rfl rfl rfl rfl (fun a w hk hc => FW.f_fieldPtr hk hc rfl Try.underlying33 rfl (by kernel_rfl) rfl) ?_
 refine FW.dfunG (y := .lit (.bool v0.B)) rfl rfl rfl rfl rfl rfl rfl rfl rfl (fun a w hk hc => FW.f_loadBlk1 hk hc (j := 1) rfl rfl Try.underlying4 rfl rfl) ?_
 refine FW.dfunG (y := .lit (.pointer (some ⟨bx2, 1, none⟩))) rfl rfl rfl rfl rfl rfl rfl rfl rfl (fun a w hk hc => FW.f_fieldPtr hk hc rfl Try.underlying33 rfl (by kernel_rfl) rfl) ?_
 refine FW.dfunG (y := .lit (.bool v1.B)) rfl rfl rfl rfl rfl rfl rfl rfl rfl (fun a w hk hc => FW.f_loadBlk1 hk hc (j := 0) rfl rfl Try.underlying4 rfl rfl) ?_
 refine FW.dfunG (y := .lit (.bool (!(v0.B == v1.B)))) rfl rfl rfl rfl rfl rfl rfl rfl rfl (fun a w hk hc => (FW.f_pure (FW.p_bneq Try.underlying4 hk.kn hc rfl rfl))) ?_
 refine FW.dfun (y := .lit (.bool ((!decide (v0.Kind = v1.Kind)) || (!(v0.B == v1.B))))) rfl rfl rfl rfl (fun a w hk => (FW.f_pure (FW.p_pick_or hk.kn FW.h0 rfl rfl))) ?_
 refine FW.dfun (y := .lit (.bool ((!decide (v0.Kind = v1.Kind)) || (!(v0.B == v1.B))))) rfl rfl rfl rfl (fun a w hk => FW.f_move hk FW.h0 rfl) ?_
 refine FW.dfunG (y := .lit (.pointer (some ⟨bx1, 2, none⟩))) rfl rfl rfl rfl rfl rfl rfl rfl rfl (fun a w hk hc => FW.f_fieldPtr hk hc rfl Try.underlying33 rfl (by kernel_rfl) rfl) ?_
 refine FW.dfunG (y := .lit (.int .i64 v0.N)) rfl rfl rfl rfl rfl rfl rfl rfl rfl (fun a w hk hc => FW.f_loadBlk1 hk hc (j := 1) rfl rfl Try.underlying2 rfl rfl) ?_
 refine FW.dfunG (y := .lit (.pointer (some ⟨bx2, 2, none⟩))) rfl rfl rfl rfl rfl rfl rfl rfl rfl (fun a w hk hc => FW.f_fieldPtr hk hc rfl Try.underlying33 rfl (by kernel_rfl) rfl) ?_
 refine FW.dfunG (y := .lit (.int .i64 v1.N)) rfl rfl rfl rfl rfl rfl rfl rfl rfl (fun a w hk hc => FW.f_loadBlk1 hk hc (j := 0) rfl rfl Try.underlying2 rfl rfl) ?_
 refine FW.dfunG (y := .lit (.bool (!decide (v0.N = v1.N)))) rfl rfl rfl rfl rfl rfl rfl rfl rfl (fun a w hk hc => (FW.f_pure (FW.p_neq hk.kn hc rfl rfl))) ?_
 refine FW.dfun (y := .lit (.bool (((!decide (v0.Kind = v1.Kind)) || (!(v0.B == v1.B))) || (!decide (v0.N = v1.N))))) rfl rfl rfl rfl (fun a w hk => (FW.f_pure (FW.p_pick_or hk.kn FW.h0 rfl rfl))) ?_
 refine FW.dfun (y := .lit (.bool (((!decide (v0.Kind = v1.Kind)) || (!(v0.B == v1.B))) || (!decide (v0.N = v1.N))))) rfl rfl rfl rfl (fun a w hk => FW.f_move hk FW.h0 rfl) ?_
 refine FW.dfunG (y := .lit (.pointer (some ⟨bx1, 3, none⟩))) rfl rfl rfl rfl rfl rfl rfl rfl rfl (fun a w hk hc => FW.f_fieldPtr hk hc rfl Try.underlying33 rfl (by kernel_rfl) rfl) ?_
 refine FW.dfunG (y := .lit (.float .f64 v0.F)) rfl rfl rfl rfl rfl rfl rfl rfl rfl (fun a w hk hc => FW.f_loadBlk1 hk hc (j := 1) rfl rfl Try.underlying30 rfl rfl) ?_
 refine FW.dfunG (y := .lit (.int .u64 t1)) rfl rfl rfl rfl rfl rfl rfl rfl rfl (fun a w hk hc => FW.f_call hk hc rfl rfl Try.func35 rfl (by kernel_rfl) (offshootref01_Canon.ok v0.F _ (hr_t1 (FW.asm_out (p := (((!decide (v0.Kind = v1.Kind)) || (!(v0.B == v1.B))) || (!decide (v0.N = v1.N))) = false) hk.kn hc (fun e0 => e0))))) ?_
 refine FW.dfunG (y := .lit (.pointer (some ⟨bx2, 3, none⟩))) rfl rfl rfl rfl rfl rfl rfl rfl rfl (fun a w hk hc => FW.f_fieldPtr hk hc rfl Try.underlying33 rfl (by kernel_rfl) rfl) ?_
 refine FW.dfunG (y := .lit (.float .f64 v1.F)) rfl rfl rfl rfl rfl rfl rfl rfl rfl (fun a w hk hc => FW.f_loadBlk1 hk hc (j := 0) rfl rfl Try.underlying30 rfl rfl) ?_
 refine FW.dfunG (y := .lit (.int .u64 t2)) rfl rfl rfl rfl rfl rfl rfl rfl rfl (fun a w hk hc => FW.f_call hk hc rfl rfl Try.func35 rfl (by kernel_rfl) (offshootref01_Canon.ok v1.F _ (hr_t2 (FW.asm_out (p := (((!decide (v0.Kind = v1.Kind)) || (!(v0.B == v1.B))) || (!decide (v0.N = v1.N))) = false) hk.kn hc (fun e0 => e0))))) ?_
 refine FW.dfunG (y := .lit (.bool (!decide (t1 = t2)))) rfl rfl rfl rfl rfl rfl rfl rfl rfl (fun a w hk hc => (FW.f_pure (FW.p_neq hk.kn hc rfl rfl))) ?_
 refine FW.dfun (y := .lit (.bool ((((!decide (v0.Kind = v1.Kind)) || (!(v0.B == v1.B))) || (!decide (v0.N = v1.N))) || (!decide (t1 = t2))))) rfl rfl rfl rfl (fun a w hk => (FW.f_pure (FW.p_pick_or hk.kn FW.h0 rfl rfl))) ?_
 refine FW.dfun (y := .lit (.bool ((((!decide (v0.Kind = v1.Kind)) || (!(v0.B == v1.B))) || (!decide (v0.N = v1.N))) || (!decide (t1 = t2))))) rfl rfl rfl rfl (fun a w hk => FW.f_move hk FW.h0 rfl) ?_
 refine FW.dfunG (y := .lit (.pointer (some ⟨bx1, 4, none⟩))) rfl rfl rfl rfl rfl rfl rfl rfl rfl (fun a w hk hc => FW.f_fieldPtr hk hc rfl Try.underlying33 rfl (by kernel_rfl) rfl) ?_
 refine FW.dfunG (y := .lit (.string (FW.B v0.S))) rfl rfl rfl rfl rfl rfl rfl rfl rfl (fun a w hk hc => FW.f_loadBlk1 hk hc (j := 1) rfl rfl Try.underlying9 rfl rfl) ?_
 refine FW.dfunG (y := .lit (.pointer (some ⟨bx2, 4, none⟩))) rfl rfl rfl rfl rfl rfl rfl rfl rfl (fun a w hk hc => FW.f_fieldPtr hk hc rfl Try.underlying33 rfl (by kernel_rfl) rfl) ?_
 refine FW.dfunG (y := .lit (.string (FW.B v1.S))) rfl rfl rfl rfl rfl rfl rfl rfl rfl (fun a w hk hc => FW.f_loadBlk1 hk hc (j := 0) rfl rfl Try.underlying9 rfl rfl) ?_
 refine FW.dfunG (y := .lit (.bool (!decide (v0.S = v1.S)))) rfl rfl rfl rfl rfl rfl rfl rfl rfl (fun a w hk hc => (FW.f_pure (FW.p_sneq hk.kn hc rfl rfl))) ?_
 refine FW.dfun (y := .lit (.bool (((((!decide (v0.Kind = v1.Kind)) || (!(v0.B == v1.B))) || (!decide (v0.N = v1.N))) || (!decide (t1 = t2))) || (!decide (v0.S = v1.S))))) rfl rfl rfl rfl (fun a w hk => (FW.f_pure (FW.p_pick_or hk.kn FW.h0 rfl rfl))) ?_
 refine FW.dfun (y := .lit (.bool (((((!decide (v0.Kind = v1.Kind)) || (!(v0.B == v1.B))) || (!decide (v0.N = v1.N))) || (!decide (t1 = t2))) || (!decide (v0.S = v1.S))))) rfl rfl rfl rfl (fun a w hk => FW.f_move hk FW.h0 rfl) ?_
 refine FW.dfunG (y := .lit (.pointer (some ⟨bx1, 5, none⟩))) rfl rfl rfl rfl rfl rfl rfl rfl rfl (fun a w hk hc => FW.f_fieldPtr hk hc rfl Try.underlying33 rfl (by kernel_rfl) rfl) ?_
 refine FW.dfunG (y := .row (r_ApiValue_cells v0.L)) rfl rfl rfl rfl rfl rfl rfl rfl rfl (fun a w hk hc => FW.f_loadBlk1 hk hc (j := 1) rfl rfl Try.underlying31 rfl rfl) ?_
 refine FW.dfunG (y := .lit (.int .i64 (List.length v0.L : Int))) rfl rfl rfl rfl rfl rfl rfl rfl rfl (fun a w hk hc => FW.f_len (R := r_ApiValue_cells) (f := ApiValue.cells) (l := v0.L) r_ApiValue_cells_eq Try.underlying31 hk hc rfl) ?_
 refine FW.dfunG (y := .lit (.pointer (some ⟨bx2, 5, none⟩))) rfl rfl rfl rfl rfl rfl rfl rfl rfl (fun a w hk hc => FW.f_fieldPtr hk hc rfl Try.underlying33 rfl (by kernel_rfl) rfl) ?_
 refine FW.dfunG (y := .row (r_ApiValue_cells v1.L)) rfl rfl rfl rfl rfl rfl rfl rfl rfl (fun a w hk hc => FW.f_loadBlk1 hk hc (j := 0) rfl rfl Try.underlying31 rfl rfl) ?_
 refine FW.dfunG (y := .lit (.int .i64 (List.length v1.L : Int))) rfl rfl rfl rfl rfl rfl rfl rfl rfl (fun a w hk hc => FW.f_len (R := r_ApiValue_cells) (f := ApiValue.cells) (l := v1.L) r_ApiValue_cells_eq Try.underlying31 hk hc rfl) ?_
 refine FW.dfunG (y := .lit (.bool (!decide ((List.length v0.L : Int) = (List.length v1.L : Int))))) rfl rfl rfl rfl rfl rfl rfl rfl rfl (fun a w hk hc => (FW.f_pure (FW.p_neq hk.kn hc rfl rfl))) ?_
 refine FW.dfun (y := .lit (.bool ((((((!decide (v0.Kind = v1.Kind)) || (!(v0.B == v1.B))) || (!decide (v0.N = v1.N))) || (!decide (t1 = t2))) || (!decide (v0.S = v1.S))) || (!decide ((List.length v0.L : Int) = (List.length v1.L : Int)))))) rfl rfl rfl rfl (fun a w hk => (FW.f_pure (FW.p_pick_or hk.kn FW.h0 rfl rfl))) ?_
 refine FW.dend ?_; intro a w hk
 refine FW.wcondF (b := ((((((!decide (v0.Kind = v1.Kind)) || (!(v0.B == v1.B))) || (!decide (v0.N = v1.N))) || (!decide (t1 = t2))) || (!decide (v0.S = v1.S))) || (!decide ((List.length v0.L : Int) = (List.length v1.L : Int))))) hk h rfl (fun h hb => ?_) (fun h hb => ?_)
 ·skip
  refine FW.wreg ?_; intro K' hK4
  refine FW.lfun (y := .lit (.bool false)) hk rfl rfl rfl rfl (FW.f_assign hk FW.h0 rfl) ?_; clear hk; intro a w hk
  refine FW.lend (hK4 _ _ ?_); clear hK4 K'
  refine wp_ret ?_
  (repeat first | refine FW.then_ret ?_ | refine FW.block_ret ?_)
  obtain rfl := Option.some.inj h
  exact FW.fret1 hk rfl rfl
 ·skip
  refine wp_skip ?_
  (repeat first | refine FW.then_normal ?_ | refine FW.block_normal ?_); refine hK2 _ _ ?_
  refine FW.wseq ?_; intro K' hK5
  refine FW.wreg ?_; intro K' hK6
  refine FW.lfun (y := .lit (.int .i64 0)) hk rfl rfl rfl rfl (FW.f_assign hk FW.h0 rfl) ?_; clear hk; intro a w hk
  refine FW.lend (hK6 _ _ ?_); clear hK6 K'
  refine wp_block ?_
  refine FW.wloop (T := Nat × ApiValue × ApiValue × Int) (fun x a w => match x with | (kl1, y2, y1, v5) => FW.S M w0 a w 69 [FW.blk bx2 33 ((ApiValue.cells y2)), FW.blk bx1 33 ((ApiValue.cells y1))] [(2, [], .lit (.pointer (some ⟨bx1, 0, none⟩))), (3, [], .lit (.pointer (some ⟨bx2, 0, none⟩))), (5, [], .lit (.int .i64 v5))] ∧ offshootref02_Same.l1 s_offshootref02_Same K kl1 y2 y1 v5 = some r) (fun x => x.1) (K, v1, v0, 0) ⟨hk.sub ⟨rfl, rfl, rfl, trivial⟩, h⟩ ?_
  clear hk h
  rintro ⟨kl1, y2, y1, v5⟩ a w ⟨hk, h⟩ K' hK7
  cases kl1 with
  | zero => simp [offshootref02_Same.l1] at h
  | succ kl1 =>
  rw [offshootref02_Same.l1.eq_2] at h
  refine FW.wseq ?_; intro K' hK8
  refine FW.wreg ?_; intro K' hK9
  refine FW.lfun (y := .lit (.int .i64 v5)) hk rfl rfl rfl rfl (FW.f_move hk FW.h0 rfl) ?_; clear hk; intro a w hk
  refine FW.lfun (y := .lit (.pointer (some ⟨bx1, 5, none⟩))) hk rfl rfl rfl rfl (FW.f_fieldPtr hk FW.h0 rfl Try.underlying33 rfl (by kernel_rfl) rfl) ?_; clear hk; intro a w hk
  refine FW.lfun (y := .row (r_ApiValue_cells y1.L)) hk rfl rfl rfl rfl (FW.f_loadBlk1 hk FW.h0 (j := 1) rfl rfl Try.underlying31 rfl rfl) ?_; clear hk; intro a w hk
  refine FW.lfun (y := .lit (.int .i64 (List.length y1.L : Int))) hk rfl rfl rfl rfl (FW.f_len (R := r_ApiValue_cells) (f := ApiValue.cells) (l := y1.L) r_ApiValue_cells_eq Try.underlying31 hk FW.h0 rfl) ?_; clear hk; intro a w hk
  refine FW.lfun (y := .lit (.bool (decide (v5 < (List.length y1.L : Int))))) hk rfl rfl rfl rfl ((FW.f_pure (FW.p_lss hk.kn FW.h0 rfl rfl))) ?_; clear hk; intro a w hk
  refine FW.lend (hK9 _ _ ?_); clear hK9 K'
  refine FW.wcondF (b := (decide (v5 < (List.length y1.L : Int)))) hk h rfl (fun h hb => ?_) (fun h hb => ?_)
  ·skip
   refine wp_skip ?_
   (repeat first | refine FW.then_normal ?_ | refine FW.block_normal ?_); refine hK8 _ _ ?_
   refine FW.wseq ?_; intro K' hK10
   refine wp_block ?_
   obtain ⟨hc1, h⟩ := FW.chk h
   obtain ⟨hc2, h⟩ := FW.chk h
   obtain ⟨t3, hr_t3, h⟩ := FW.bnd h
   refine FW.wdraw (by kernel_rfl) (by kernel_rfl) hk ?_; clear hk
   refine FW.dfun (y := .lit (.pointer (some ⟨bx1, 5, none⟩))) rfl rfl rfl rfl (fun a w hk => FW.f_fieldPtr hk FW.h0 rfl Try.underlying33 rfl (by kernel_rfl) rfl) ?_
   refine FW.dfun (y := .row (r_ApiValue_cells y1.L)) rfl rfl rfl rfl (fun a w hk => FW.f_loadBlk1 hk FW.h0 (j := 1) rfl rfl Try.underlying31 rfl rfl) ?_
   refine FW.dfun (y := .lit (.int .i64 v5)) rfl rfl rfl rfl (fun a w hk => FW.f_move hk FW.h0 rfl) ?_
   refine FW.dfun (y := .ref (ApiValue.cells (List.getD y1.L (Int.toNat v5) default))) rfl rfl rfl rfl (fun a w hk => FW.f_indexAddr (R := r_ApiValue_cells) (f := ApiValue.cells) (l := y1.L) (sz := 6) r_ApiValue_cells_eq (fun _ => rfl) hk FW.h0 rfl rfl Try.underlying31 (by kernel_rfl) hc1) ?_
   refine FW.dfun (y := .agg ((ApiValue.cells (List.getD y1.L (Int.toNat v5) default)))) rfl rfl rfl rfl (fun a w hk => FW.f_load hk FW.h0 rfl Try.underlying33 rfl rfl rfl rfl) ?_
   refine FW.dfun (y := .lit (.pointer (some ⟨bx2, 5, none⟩))) rfl rfl rfl rfl (fun a w hk => FW.f_fieldPtr hk FW.h0 rfl Try.underlying33 rfl (by kernel_rfl) rfl) ?_
   refine FW.dfun (y := .row (r_ApiValue_cells y2.L)) rfl rfl rfl rfl (fun a w hk => FW.f_loadBlk1 hk FW.h0 (j := 0) rfl rfl Try.underlying31 rfl rfl) ?_
   refine FW.dfun (y := .lit (.int .i64 v5)) rfl rfl rfl rfl (fun a w hk => FW.f_move hk FW.h0 rfl) ?_
   refine FW.dfun (y := .ref (ApiValue.cells (List.getD y2.L (Int.toNat v5) default))) rfl rfl rfl rfl (fun a w hk => FW.f_indexAddr (R := r_ApiValue_cells) (f := ApiValue.cells) (l := y2.L) (sz := 6) r_ApiValue_cells_eq (fun _ => rfl) hk FW.h0 rfl rfl Try.underlying31 (by kernel_rfl) hc2) ?_
   refine FW.dfun (y := .agg ((ApiValue.cells (List.getD y2.L (Int.toNat v5) default)))) rfl rfl rfl rfl (fun a w hk => FW.f_load hk FW.h0 rfl Try.underlying33 rfl rfl rfl rfl) ?_
   refine FW.dfun (y := .lit (.bool t3)) rfl rfl rfl rfl (fun a w hk => FW.f_call hk FW.h0 rfl rfl Try.func17 rfl (by kernel_rfl) (hs_offshootref02_Same (List.getD y1.L (Int.toNat v5) default) (List.getD y2.L (Int.toNat v5) default) _ hr_t3)) ?_
   refine FW.dfun (y := .lit (.bool (!t3))) rfl rfl rfl rfl (fun a w hk => (FW.f_pure (FW.p_not hk.kn FW.h0 rfl))) ?_
   refine FW.dend ?_; intro a w hk
   refine FW.wcondF (b := (!t3)) hk h rfl (fun h hb => ?_) (fun h hb => ?_)
   ·skip
    refine FW.wreg ?_; intro K' hK12
    refine FW.lfun (y := .lit (.bool false)) hk rfl rfl rfl rfl (FW.f_assign hk FW.h0 rfl) ?_; clear hk; intro a w hk
    refine FW.lend (hK12 _ _ ?_); clear hK12 K'
    refine wp_ret ?_
    (repeat first | refine FW.then_ret ?_ | refine FW.block_ret ?_)
    obtain rfl := Option.some.inj h
    exact FW.fret1 hk rfl rfl
   ·skip
    refine wp_skip ?_
    (repeat first | refine FW.then_normal ?_ | refine FW.block_normal ?_); refine hK10 _ _ ?_
    refine FW.wreg1 ?_
    refine FW.lfun (y := .lit (.int .i64 v5)) hk rfl rfl rfl rfl (FW.f_move hk FW.h0 rfl) ?_; clear hk; intro a w hk
    refine FW.lfun (y := .lit (.int .i64 (IntKind.wrap .i64 (v5 + 1)))) hk rfl rfl rfl rfl ((FW.f_pure (FW.p_add hk.kn FW.h0 rfl rfl))) ?_; clear hk; intro a w hk
    refine FW.lfun (y := .lit (.int .i64 (IntKind.wrap .i64 (v5 + 1)))) hk rfl rfl rfl rfl (FW.f_assign hk FW.h0 rfl) ?_; clear hk; intro a w hk
    refine wpList_nil ?_
    (repeat first | refine FW.then_normal ?_ | refine FW.block_normal ?_); exact hK7 (kl1, y2, y1, (IntKind.wrap .i64 (v5 + 1))) _ _ (Nat.lt_succ_self _) ⟨hk.sub ⟨rfl, rfl, rfl, trivial⟩, h⟩
  ·skip
   refine wp_exit ?_; (repeat first | refine FW.then_exit ?_ | refine FW.block_exit_ne rfl ?_); refine FW.block_exit ?_
   (repeat first | refine FW.then_normal ?_ | refine FW.block_normal ?_); refine hK5 _ _ ?_
   refine FW.wreg ?_; intro K' hK14
   refine FW.lfun (y := .lit (.bool true)) hk rfl rfl rfl rfl (FW.f_assign hk FW.h0 rfl) ?_; clear hk; intro a w hk
   refine FW.lend (hK14 _ _ ?_); clear hK14 K'
   refine wp_ret ?_
   (repeat first | refine FW.then_ret ?_ | refine FW.block_ret ?_)
   obtain rfl := Option.some.inj h
   exact FW.fret1 hk rfl rfl
theorem offshootref02_Same_knot : ∀ K : Nat, (∀ (v0 : ApiValue) (v1 : ApiValue) (r : Bool), offshootref02_Same.f K v0 v1 = some r → FW.Ok Try.prog 17 [.agg (ApiValue.cells v0), .agg (ApiValue.cells v1)] (.lit (.bool r)))
 | 0 => fun v0 v1 r h => by simp [offshootref02_Same.f] at h
 | K + 1 => fun v0 v1 r h => by rw [offshootref02_Same.f] at h; exact offshootref02_Same.bok _ (offshootref02_Same_knot K) K v0 v1 r h
theorem offshootref02_Same.ok (K : Nat) (v0 : ApiValue) (v1 : ApiValue) (r : Bool) (h : offshootref02_Same.f K v0 v1 = some r) : FW.Ok Try.prog 17 [.agg (ApiValue.cells v0), .agg (ApiValue.cells v1)] (.lit (.bool r)) := (offshootref02_Same_knot K) v0 v1 r h

theorem offshootlaw13_ShowValues.ok (K : Nat) (v0 : ApiValue) (r : Bool) (h : offshootlaw13_ShowValues.f K v0 = some r) :
  FW.Ok Try.prog 4 [.agg (ApiValue.cells v0)] (.lit (.bool r)) := by
 refine FW.enter (xs := [.agg (ApiValue.cells v0)]) Try.func4 rfl Try.ntmps4 rfl ?_
 intro M w0 a hk
 unfold offshootlaw13_ShowValues.f at h
 refine FW.wreg ?_; intro K' hK1
 refine FW.l_box (cs := (ApiValue.cells v0)) hk rfl rfl rfl rfl rfl ?_; clear hk; intro bx1 a w hk
 refine FW.lfun (y := .lit (.bool false)) hk rfl rfl rfl rfl (FW.f_assign hk FW.h0 rfl) ?_; clear hk; intro a w hk
 refine FW.lend (hK1 _ _ ?_); clear hK1 K'
 refine FW.wseq ?_; intro K' hK2
 refine FW.wreg ?_; intro K' hK3
 refine FW.lfun (y := .agg ((ApiValue.cells v0))) hk rfl rfl rfl rfl (FW.f_loadBlk hk FW.h0 (j := 0) rfl rfl Try.underlying33 rfl rfl rfl rfl) ?_; clear hk; intro a w hk
 obtain ⟨t1, hr_t1, h⟩ := FW.bnd h
 refine FW.lfun (y := .lit (.int .i64 t1)) hk rfl rfl rfl rfl (FW.f_call hk FW.h0 rfl rfl Try.func13 rfl (by kernel_rfl) (offshootref02_Check.ok K v0 _ hr_t1)) ?_; clear hk; intro a w hk
 refine FW.lfun (y := .lit (.bool (!decide (t1 = 0)))) hk rfl rfl rfl rfl ((FW.f_pure (FW.p_neq hk.kn FW.h0 rfl rfl))) ?_; clear hk; intro a w hk
 refine FW.lfun (y := .lit (.bool (!decide (t1 = 0)))) hk rfl rfl rfl rfl (FW.f_move hk FW.h0 rfl) ?_; clear hk; intro a w hk
 refine FW.lfunG (y := .agg ((ApiValue.cells v0))) hk rfl rfl rfl rfl rfl rfl rfl rfl (fun hc => FW.f_loadBlk hk hc (j := 0) rfl rfl Try.underlying33 rfl rfl rfl rfl) ?_; clear hk; intro a w hk
 obtain ⟨t2, hr_t2, h⟩ := FW.bndG h
 refine FW.lfunG (y := .lit (.string (FW.B t2))) hk rfl rfl rfl rfl rfl rfl rfl rfl (fun hc => FW.f_call hk hc rfl rfl Try.func14 rfl (by kernel_rfl) (offshootref02_Put.ok K v0 _ (hr_t2 (FW.asm_out (p := (!decide (t1 = 0)) = false) hk.kn hc (fun e0 => e0))))) ?_; clear hk; intro a w hk
 refine FW.lfunG (y := .lit (.int .i64 (List.length t2 : Int))) hk rfl rfl rfl rfl rfl rfl rfl rfl (fun hc => (FW.f_pure (FW.p_slen Try.underlying9 hk.kn hc rfl))) ?_; clear hk; intro a w hk
 refine FW.lfunG (y := .lit (.bool (decide (2000 < (List.length t2 : Int))))) hk rfl rfl rfl rfl rfl rfl rfl rfl (fun hc => (FW.f_pure (FW.p_gtr hk.kn hc rfl rfl))) ?_; clear hk; intro a w hk
 refine FW.lfun (y := .lit (.bool ((!decide (t1 = 0)) || (decide (2000 < (List.length t2 : Int)))))) hk rfl rfl rfl rfl ((FW.f_pure (FW.p_pick_or hk.kn FW.h0 rfl rfl))) ?_; clear hk; intro a w hk
 refine FW.lend (hK3 _ _ ?_); clear hK3 K'
 refine FW.wcondF (b := ((!decide (t1 = 0)) || (decide (2000 < (List.length t2 : Int))))) hk h rfl (fun h hb => ?_) (fun h hb => ?_)
 ·skip
  refine FW.wreg ?_; intro K' hK4
  obtain ⟨t3, hr_t3, h⟩ := FW.bnd h
  refine FW.lfun (y := .lit (.bool t3)) hk rfl rfl rfl rfl (FW.f_call hk FW.h0 rfl rfl Try.func10 rfl (by kernel_rfl) (offshootlaw13_awake.ok K  _ hr_t3)) ?_; clear hk; intro a w hk
  refine FW.lfun (y := .lit (.bool t3)) hk rfl rfl rfl rfl (FW.f_assign hk FW.h0 rfl) ?_; clear hk; intro a w hk
  refine FW.lend (hK4 _ _ ?_); clear hK4 K'
  refine wp_ret ?_
  (repeat first | refine FW.then_ret ?_ | refine FW.block_ret ?_)
  obtain rfl := Option.some.inj h
  exact FW.fret1 hk rfl rfl
 ·skip
  refine wp_skip ?_
  (repeat first | refine FW.then_normal ?_ | refine FW.block_normal ?_); refine hK2 _ _ ?_
  refine FW.wreg ?_; intro K' hK5
  refine FW.lfun (y := .agg ((ApiValue.cells v0))) hk rfl rfl rfl rfl (FW.f_loadBlk hk FW.h0 (j := 0) rfl rfl Try.underlying33 rfl rfl rfl rfl) ?_; clear hk; intro a w hk
  obtain ⟨t4, hr_t4, h⟩ := FW.bnd h
  refine FW.lfun (y := .lit (.string (FW.B t4))) hk rfl rfl rfl rfl (FW.f_call hk FW.h0 rfl rfl Try.func15 rfl (by kernel_rfl) (show_Value.ok K v0 _ hr_t4)) ?_; clear hk; intro a w hk
  refine FW.lfun (y := .lit (.string (FW.B t4))) hk rfl rfl rfl rfl (FW.f_assign hk FW.h0 rfl) ?_; clear hk; intro a w hk
  refine FW.lend (hK5 _ _ ?_); clear hK5 K'
  refine FW.wseq ?_; intro K' hK6
  refine FW.wreg ?_; intro K' hK7
  obtain ⟨t5, hr_t5, h⟩ := FW.bnd h
  refine FW.lfun (y := .lit (.bool t5)) hk rfl rfl rfl rfl (FW.f_call hk FW.h0 rfl rfl Try.func10 rfl (by kernel_rfl) (offshootlaw13_awake.ok K  _ hr_t5)) ?_; clear hk; intro a w hk
  refine FW.lfun (y := .lit (.bool (!t5))) hk rfl rfl rfl rfl ((FW.f_pure (FW.p_not hk.kn FW.h0 rfl))) ?_; clear hk; intro a w hk
  refine FW.lfun (y := .lit (.bool (!t5))) hk rfl rfl rfl rfl (FW.f_move hk FW.h0 rfl) ?_; clear hk; intro a w hk
  refine FW.lfunG (y := .lit (.string (FW.B t4))) hk rfl rfl rfl rfl rfl rfl rfl rfl (fun hc => FW.f_move hk hc rfl) ?_; clear hk; intro a w hk
  refine FW.lfunG (y := .agg ((ApiValue.cells v0))) hk rfl rfl rfl rfl rfl rfl rfl rfl (fun hc => FW.f_loadBlk hk hc (j := 0) rfl rfl Try.underlying33 rfl rfl rfl rfl) ?_; clear hk; intro a w hk
  obtain ⟨t6, hr_t6, h⟩ := FW.bndG h
  refine FW.lfunG (y := .lit (.string (FW.B t6))) hk rfl rfl rfl rfl rfl rfl rfl rfl (fun hc => FW.f_call hk hc rfl rfl Try.func16 rfl (by kernel_rfl) (offshootref13_Value.ok K v0 _ (hr_t6 (FW.asm_out (p := (!t5) = false) hk.kn hc (fun e0 => e0))))) ?_; clear hk; intro a w hk
  refine FW.lfunG (y := .lit (.bool (!decide (t4 = t6)))) hk rfl rfl rfl rfl rfl rfl rfl rfl (fun hc => (FW.f_pure (FW.p_sneq hk.kn hc rfl rfl))) ?_; clear hk; intro a w hk
  refine FW.lfun (y := .lit (.bool ((!t5) || (!decide (t4 = t6))))) hk rfl rfl rfl rfl ((FW.f_pure (FW.p_pick_or hk.kn FW.h0 rfl rfl))) ?_; clear hk; intro a w hk
  refine FW.lend (hK7 _ _ ?_); clear hK7 K'
  refine FW.wcondF (b := ((!t5) || (!decide (t4 = t6)))) hk h rfl (fun h hb => ?_) (fun h hb => ?_)
  ·skip
   refine FW.wreg ?_; intro K' hK8
   refine FW.lfun (y := .lit (.bool false)) hk rfl rfl rfl rfl (FW.f_assign hk FW.h0 rfl) ?_; clear hk; intro a w hk
   refine FW.lend (hK8 _ _ ?_); clear hK8 K'
   refine wp_ret ?_
   (repeat first | refine FW.then_ret ?_ | refine FW.block_ret ?_)
   obtain rfl := Option.some.inj h
   exact FW.fret1 hk rfl rfl
  ·skip
   refine wp_skip ?_
   (repeat first | refine FW.then_normal ?_ | refine FW.block_normal ?_); refine hK6 _ _ ?_
   refine FW.wreg ?_; intro K' hK9
   refine FW.lfun (y := .lit (.string (FW.B t4))) hk rfl rfl rfl rfl (FW.f_move hk FW.h0 rfl) ?_; clear hk; intro a w hk
   obtain ⟨hc1, h⟩ := FW.chk h
   refine FW.lfun (y := .lit (.string (FW.B (([103, 46, 105, 110, 106, 101, 99, 116, 40] : List UInt8) ++ t4)))) hk rfl rfl rfl rfl ((FW.f_pure (FW.p_sadd hk.kn FW.h0 rfl rfl hc1))) ?_; clear hk; intro a w hk
   obtain ⟨hc2, h⟩ := FW.chk h
   refine FW.lfun (y := .lit (.string (FW.B ((([103, 46, 105, 110, 106, 101, 99, 116, 40] : List UInt8) ++ t4) ++ ([41] : List UInt8))))) hk rfl rfl rfl rfl ((FW.f_pure (FW.p_sadd hk.kn FW.h0 rfl rfl hc2))) ?_; clear hk; intro a w hk
   obtain ⟨t7, hr_t7, h⟩ := FW.bnd h
   refine FW.lfun (y := .tup [.row (r_ApiStep_cells t7.1), .lit (.int .i64 t7.2.1), .lit (.int .i64 t7.2.2)]) hk rfl rfl rfl rfl (FW.f_call hk FW.h0 rfl rfl Try.func9 rfl (by kernel_rfl) (offshootref12_Parse.ok K ((([103, 46, 105, 110, 106, 101, 99, 116, 40] : List UInt8) ++ t4) ++ ([41] : List UInt8)) _ hr_t7)) ?_; clear hk; intro a w hk
   refine FW.lfun (y := .tup [.row (r_ApiStep_cells t7.1), .lit (.int .i64 t7.2.1), .lit (.int .i64 t7.2.2)]) hk rfl rfl rfl rfl (FW.f_move hk FW.h0 rfl) ?_; clear hk; intro a w hk
   refine FW.lfun (y := .row (r_ApiStep_cells t7.1)) hk rfl rfl rfl rfl (FW.f_extract hk FW.h0 rfl rfl) ?_; clear hk; intro a w hk
   refine FW.lfun (y := .lit (.int .i64 t7.2.1)) hk rfl rfl rfl rfl (FW.f_extract hk FW.h0 rfl rfl) ?_; clear hk; intro a w hk
   refine FW.lfun (y := .lit (.int .i64 t7.2.2)) hk rfl rfl rfl rfl (FW.f_extract hk FW.h0 rfl rfl) ?_; clear hk; intro a w hk
   refine FW.lfun (y := .row (r_ApiStep_cells t7.1)) hk rfl rfl rfl rfl (FW.f_assign hk FW.h0 rfl) ?_; clear hk; intro a w hk
   refine FW.lfun (y := .lit (.int .i64 t7.2.1)) hk rfl rfl rfl rfl (FW.f_assign hk FW.h0 rfl) ?_; clear hk; intro a w hk
   refine FW.lfun (y := .lit (.int .i64 t7.2.2)) hk rfl rfl rfl rfl (FW.f_assign hk FW.h0 rfl) ?_; clear hk; intro a w hk
   refine FW.lend (hK9 _ _ ?_); clear hK9 K'
   refine FW.wseq ?_; intro K' hK10
   refine FW.wreg ?_; intro K' hK11
   refine FW.lfun (y := .lit (.int .i64 t7.2.2)) hk rfl rfl rfl rfl (FW.f_move hk FW.h0 rfl) ?_; clear hk; intro a w hk
   refine FW.lfun (y := .lit (.bool (!decide (t7.2.2 = 0)))) hk rfl rfl rfl rfl ((FW.f_pure (FW.p_neq hk.kn FW.h0 rfl rfl))) ?_; clear hk; intro a w hk
   refine FW.lfun (y := .lit (.bool (!decide (t7.2.2 = 0)))) hk rfl rfl rfl rfl (FW.f_move hk FW.h0 rfl) ?_; clear hk; intro a w hk
   refine FW.lfunG (y := .row (r_ApiStep_cells t7.1)) hk rfl rfl rfl rfl rfl rfl rfl rfl (fun hc => FW.f_move hk hc rfl) ?_; clear hk; intro a w hk
   refine FW.lfunG (y := .lit (.int .i64 (List.length t7.1 : Int))) hk rfl rfl rfl rfl rfl rfl rfl rfl (fun hc => FW.f_len (R := r_ApiStep_cells) (f := ApiStep.cells) (l := t7.1) r_ApiStep_cells_eq Try.underlying22 hk hc rfl) ?_; clear hk; intro a w hk
   refine FW.lfunG (y := .lit (.bool (!decide ((List.length t7.1 : Int) = 1)))) hk rfl rfl rfl rfl rfl rfl rfl rfl (fun hc => (FW.f_pure (FW.p_neq hk.kn hc rfl rfl))) ?_; clear hk; intro a w hk
   refine FW.lfun (y := .lit (.bool ((!decide (t7.2.2 = 0)) || (!decide ((List.length t7.1 : Int) = 1))))) hk rfl rfl rfl rfl ((FW.f_pure (FW.p_pick_or hk.kn FW.h0 rfl rfl))) ?_; clear hk; intro a w hk
   refine FW.lfun (y := .lit (.bool ((!decide (t7.2.2 = 0)) || (!decide ((List.length t7.1 : Int) = 1))))) hk rfl rfl rfl rfl (FW.f_move hk FW.h0 rfl) ?_; clear hk; intro a w hk
   refine FW.lfunG (y := .row (r_ApiStep_cells t7.1)) hk rfl rfl rfl rfl rfl rfl rfl rfl (fun hc => FW.f_move hk hc rfl) ?_; clear hk; intro a w hk
   obtain ⟨hc3, h⟩ := FW.chk h
   refine FW.lfunG (y := .ref (ApiStep.cells (List.getD t7.1 (Int.toNat 0) default))) hk rfl rfl rfl rfl rfl rfl rfl rfl (fun hc => FW.f_indexAddr (R := r_ApiStep_cells) (f := ApiStep.cells) (l := t7.1) (sz := 2) r_ApiStep_cells_eq (fun _ => rfl) hk hc rfl rfl Try.underlying22 (by kernel_rfl) hc3) ?_; clear hk; intro a w hk
   refine FW.lfunG (y := .ref (List.drop 1 (ApiStep.cells (List.getD t7.1 (Int.toNat 0) default)))) hk rfl rfl rfl rfl rfl rfl rfl rfl (fun hc => FW.f_fieldAddr hk hc rfl Try.underlying29 rfl (by kernel_rfl) rfl) ?_; clear hk; intro a w hk
   refine FW.lfunG (y := .row (r_ApiArg_cells ((List.getD t7.1 (Int.toNat 0) default).Args))) hk rfl rfl rfl rfl rfl rfl rfl rfl (fun hc => FW.f_load1 hk hc rfl rfl Try.underlying27 rfl) ?_; clear hk; intro a w hk
   refine FW.lfunG (y := .lit (.int .i64 (List.length ((List.getD t7.1 (Int.toNat 0) default).Args) : Int))) hk rfl rfl rfl rfl rfl rfl rfl rfl (fun hc => FW.f_len (R := r_ApiArg_cells) (f := ApiArg.cells) (l := (List.getD t7.1 (Int.toNat 0) default).Args) r_ApiArg_cells_eq Try.underlying27 hk hc rfl) ?_; clear hk; intro a w hk
   refine FW.lfunG (y := .lit (.bool (!decide ((List.length ((List.getD t7.1 (Int.toNat 0) default).Args) : Int) = 1)))) hk rfl rfl rfl rfl rfl rfl rfl rfl (fun hc => (FW.f_pure (FW.p_neq hk.kn hc rfl rfl))) ?_; clear hk; intro a w hk
   refine FW.lfun (y := .lit (.bool (((!decide (t7.2.2 = 0)) || (!decide ((List.length t7.1 : Int) = 1))) || (!decide ((List.length ((List.getD t7.1 (Int.toNat 0) default).Args) : Int) = 1))))) hk rfl rfl rfl rfl ((FW.f_pure (FW.p_pick_or hk.kn FW.h0 rfl rfl))) ?_; clear hk; intro a w hk
   refine FW.lfun (y := .lit (.bool (((!decide (t7.2.2 = 0)) || (!decide ((List.length t7.1 : Int) = 1))) || (!decide ((List.length ((List.getD t7.1 (Int.toNat 0) default).Args) : Int) = 1))))) hk rfl rfl rfl rfl (FW.f_move hk FW.h0 rfl) ?_; clear hk; intro a w hk
   refine FW.lfunG (y := .row (r_ApiStep_cells t7.1)) hk rfl rfl rfl rfl rfl rfl rfl rfl (fun hc => FW.f_move hk hc rfl) ?_; clear hk; intro a w hk
   obtain ⟨hc4, h⟩ := FW.chk h
   refine FW.lfunG (y := .ref (ApiStep.cells (List.getD t7.1 (Int.toNat 0) default))) hk rfl rfl rfl rfl rfl rfl rfl rfl (fun hc => FW.f_indexAddr (R := r_ApiStep_cells) (f := ApiStep.cells) (l := t7.1) (sz := 2) r_ApiStep_cells_eq (fun _ => rfl) hk hc rfl rfl Try.underlying22 (by kernel_rfl) hc4) ?_; clear hk; intro a w hk
   refine FW.lfunG (y := .ref (List.drop 1 (ApiStep.cells (List.getD t7.1 (Int.toNat 0) default)))) hk rfl rfl rfl rfl rfl rfl rfl rfl (fun hc => FW.f_fieldAddr hk hc rfl Try.underlying29 rfl (by kernel_rfl) rfl) ?_; clear hk; intro a w hk
   refine FW.lfunG (y := .row (r_ApiArg_cells ((List.getD t7.1 (Int.toNat 0) default).Args))) hk rfl rfl rfl rfl rfl rfl rfl rfl (fun hc => FW.f_load1 hk hc rfl rfl Try.underlying27 rfl) ?_; clear hk; intro a w hk
   obtain ⟨hc5, h⟩ := FW.chk h
   refine FW.lfunG (y := .ref (ApiArg.cells (List.getD ((List.getD t7.1 (Int.toNat 0) default).Args) (Int.toNat 0) default))) hk rfl rfl rfl rfl rfl rfl rfl rfl (fun hc => FW.f_indexAddr (R := r_ApiArg_cells) (f := ApiArg.cells) (l := (List.getD t7.1 (Int.toNat 0) default).Args) (sz := 11) r_ApiArg_cells_eq (fun _ => rfl) hk hc rfl rfl Try.underlying27 (by kernel_rfl) hc5) ?_; clear hk; intro a w hk
   refine FW.lfunG (y := .ref (List.drop 0 (ApiArg.cells (List.getD ((List.getD t7.1 (Int.toNat 0) default).Args) (Int.toNat 0) default)))) hk rfl rfl rfl rfl rfl rfl rfl rfl (fun hc => FW.f_fieldAddr hk hc rfl Try.underlying38 rfl (by kernel_rfl) rfl) ?_; clear hk; intro a w hk
   refine FW.lfunG (y := .lit (.int .i64 ((List.getD ((List.getD t7.1 (Int.toNat 0) default).Args) (Int.toNat 0) default).Kind))) hk rfl rfl rfl rfl rfl rfl rfl rfl (fun hc => FW.f_load1 hk hc rfl rfl Try.underlying3 rfl) ?_; clear hk; intro a w hk
   refine FW.lfunG (y := .lit (.bool (!decide (((List.getD ((List.getD t7.1 (Int.toNat 0) default).Args) (Int.toNat 0) default).Kind) = 1)))) hk rfl rfl rfl rfl rfl rfl rfl rfl (fun hc => (FW.f_pure (FW.p_neq hk.kn hc rfl rfl))) ?_; clear hk; intro a w hk
   refine FW.lfun (y := .lit (.bool ((((!decide (t7.2.2 = 0)) || (!decide ((List.length t7.1 : Int) = 1))) || (!decide ((List.length ((List.getD t7.1 (Int.toNat 0) default).Args) : Int) = 1))) || (!decide (((List.getD ((List.getD t7.1 (Int.toNat 0) default).Args) (Int.toNat 0) default).Kind) = 1))))) hk rfl rfl rfl rfl ((FW.f_pure (FW.p_pick_or hk.kn FW.h0 rfl rfl))) ?_; clear hk; intro a w hk
   refine FW.lend (hK11 _ _ ?_); clear hK11 K'
   refine FW.wcondF (b := ((((!decide (t7.2.2 = 0)) || (!decide ((List.length t7.1 : Int) = 1))) || (!decide ((List.length ((List.getD t7.1 (Int.toNat 0) default).Args) : Int) = 1))) || (!decide (((List.getD ((List.getD t7.1 (Int.toNat 0) default).Args) (Int.toNat 0) default).Kind) = 1)))) hk h rfl (fun h hb => ?_) (fun h hb => ?_)
   ·skip
    refine FW.wreg ?_; intro K' hK12
    refine FW.lfun (y := .lit (.bool true)) hk rfl rfl rfl rfl (FW.f_assign hk FW.h0 rfl) ?_; clear hk; intro a w hk
    refine FW.lend (hK12 _ _ ?_); clear hK12 K'
    refine wp_ret ?_
    (repeat first | refine FW.then_ret ?_ | refine FW.block_ret ?_)
    obtain rfl := Option.some.inj h
    exact FW.fret1 hk rfl rfl
   ·skip
    refine wp_skip ?_
    (repeat first | refine FW.then_normal ?_ | refine FW.block_normal ?_); refine hK10 _ _ ?_
    obtain ⟨hc6, h⟩ := FW.chk h
    obtain ⟨hc7, h⟩ := FW.chk h
    obtain ⟨t8, hr_t8, h⟩ := FW.bnd h
    refine FW.wdraw (by kernel_rfl) (by kernel_rfl) hk ?_; clear hk
    refine FW.dfun (y := .row (r_ApiStep_cells t7.1)) rfl rfl rfl rfl (fun a w hk => FW.f_move hk FW.h0 rfl) ?_
    refine FW.dfun (y := .ref (ApiStep.cells (List.getD t7.1 (Int.toNat 0) default))) rfl rfl rfl rfl (fun a w hk => FW.f_indexAddr (R := r_ApiStep_cells) (f := ApiStep.cells) (l := t7.1) (sz := 2) r_ApiStep_cells_eq (fun _ => rfl) hk FW.h0 rfl rfl Try.underlying22 (by kernel_rfl) hc6) ?_
    refine FW.dfun (y := .ref (List.drop 1 (ApiStep.cells (List.getD t7.1 (Int.toNat 0) default)))) rfl rfl rfl rfl (fun a w hk => FW.f_fieldAddr hk FW.h0 rfl Try.underlying29 rfl (by kernel_rfl) rfl) ?_
    refine FW.dfun (y := .row (r_ApiArg_cells ((List.getD t7.1 (Int.toNat 0) default).Args))) rfl rfl rfl rfl (fun a w hk => FW.f_load1 hk FW.h0 rfl rfl Try.underlying27 rfl) ?_
    refine FW.dfun (y := .ref (ApiArg.cells (List.getD ((List.getD t7.1 (Int.toNat 0) default).Args) (Int.toNat 0) default))) rfl rfl rfl rfl (fun a w hk => FW.f_indexAddr (R := r_ApiArg_cells) (f := ApiArg.cells) (l := (List.getD t7.1 (Int.toNat 0) default).Args) (sz := 11) r_ApiArg_cells_eq (fun _ => rfl) hk FW.h0 rfl rfl Try.underlying27 (by kernel_rfl) hc7) ?_
    refine FW.dfun (y := .ref (List.drop 1 (ApiArg.cells (List.getD ((List.getD t7.1 (Int.toNat 0) default).Args) (Int.toNat 0) default)))) rfl rfl rfl rfl (fun a w hk => FW.f_fieldAddr hk FW.h0 rfl Try.underlying38 rfl (by kernel_rfl) rfl) ?_
    refine FW.dfun (y := .agg ((ApiValue.cells ((List.getD ((List.getD t7.1 (Int.toNat 0) default).Args) (Int.toNat 0) default).V)))) rfl rfl rfl rfl (fun a w hk => FW.f_load hk FW.h0 rfl Try.underlying33 rfl rfl rfl rfl) ?_
    refine FW.dfun (y := .agg ((ApiValue.cells v0))) rfl rfl rfl rfl (fun a w hk => FW.f_loadBlk hk FW.h0 (j := 0) rfl rfl Try.underlying33 rfl rfl rfl rfl) ?_
    refine FW.dfun (y := .lit (.bool t8)) rfl rfl rfl rfl (fun a w hk => FW.f_call hk FW.h0 rfl rfl Try.func17 rfl (by kernel_rfl) (offshootref02_Same.ok K ((List.getD ((List.getD t7.1 (Int.toNat 0) default).Args) (Int.toNat 0) default).V) v0 _ hr_t8)) ?_
    refine FW.dfun (y := .lit (.bool t8)) rfl rfl rfl rfl (fun a w hk => FW.f_assign hk FW.h0 rfl) ?_
    refine FW.dend ?_; intro a w hk
    refine wp_ret ?_
    (repeat first | refine FW.then_ret ?_ | refine FW.block_ret ?_)
    obtain rfl := Option.some.inj h
    exact FW.fret1 hk rfl rfl
end Go.Proofs.Ytbjbgodcenopnaa

/- Written by a program of this session (gen.py): the contracts of functions of the program. -/
import Derived.KernelRfl
import Derived.Test.YtfmabehmohbahaaProg
import Derived.Test.YtfmabehmohbahaaAvFun
import Derived.Test.YtfmabehmohbahaaAvMan
import Derived.Test.YtfmabehmohbahaaAvDraw
import Derived.Test.YtfmabehmohbahaaAvRow
import Derived.Test.YtfmabehmohbahaaAvBld
import Derived.Test.YtfmabehmohbahaaLexD
import Derived.Test.YtfmabehmohbahaaLexP0
namespace Go.Proofs.Ytfmabehmohbahaa
set_option linter.unusedVariables false
set_option maxRecDepth 20000
set_option maxHeartbeats 1000000
theorem offshootlaw11_LexPlaces.ok (K : Nat) (v0 : List UInt8) (r : Bool) (h : offshootlaw11_LexPlaces.f K v0 = some r) :
    FW.Ok Go.Proofs.Try.prog 6 [.lit (.string (FW.B v0))] (.lit (.bool r)) := by
  refine FW.enter (xs := [.lit (.string (FW.B v0))]) Go.Proofs.Try.func6 rfl Go.Proofs.Try.ntmps6 rfl ?_
  intro M w0 a hk
  unfold offshootlaw11_LexPlaces.f at h
  refine FW.wreg ?_; intro K' hK1
  refine FW.lfun (y := .lit (.bool false)) hk rfl rfl rfl rfl (FW.f_assign hk (FW.holds_nil _) rfl) ?_; clear hk; intro a w hk
  refine FW.lend (hK1 _ _ ?_); clear hK1 K'
  refine FW.wreg ?_; intro K' hK2
  refine FW.lfun (y := .lit (.string (FW.B v0))) hk rfl rfl rfl rfl (FW.f_move hk (FW.holds_nil _) rfl) ?_; clear hk; intro a w hk
  obtain ⟨t1, hr_t1, h⟩ := FW.bnd h
  refine FW.lfun (y := .tup [.row (r_ApiWord_cells t1.1), .lit (.int .i64 t1.2.1), .lit (.int .i64 t1.2.2)]) hk rfl rfl rfl rfl (FW.f_call hk (FW.holds_nil _) rfl rfl Go.Proofs.Try.func19 rfl (by kernel_rfl) (lex_Words.ok K v0 _ hr_t1)) ?_; clear hk; intro a w hk
  refine FW.lfun (y := .tup [.row (r_ApiWord_cells t1.1), .lit (.int .i64 t1.2.1), .lit (.int .i64 t1.2.2)]) hk rfl rfl rfl rfl (FW.f_move hk (FW.holds_nil _) rfl) ?_; clear hk; intro a w hk
  refine FW.lfun (y := .row (r_ApiWord_cells t1.1)) hk rfl rfl rfl rfl (FW.f_extract hk (FW.holds_nil _) rfl rfl) ?_; clear hk; intro a w hk
  refine FW.lfun (y := .lit (.int .i64 t1.2.1)) hk rfl rfl rfl rfl (FW.f_extract hk (FW.holds_nil _) rfl rfl) ?_; clear hk; intro a w hk
  refine FW.lfun (y := .lit (.int .i64 t1.2.2)) hk rfl rfl rfl rfl (FW.f_extract hk (FW.holds_nil _) rfl rfl) ?_; clear hk; intro a w hk
  refine FW.lfun (y := .row (r_ApiWord_cells t1.1)) hk rfl rfl rfl rfl (FW.f_assign hk (FW.holds_nil _) rfl) ?_; clear hk; intro a w hk
  refine FW.lfun (y := .lit (.int .i64 t1.2.1)) hk rfl rfl rfl rfl (FW.f_assign hk (FW.holds_nil _) rfl) ?_; clear hk; intro a w hk
  refine FW.lfun (y := .lit (.int .i64 t1.2.2)) hk rfl rfl rfl rfl (FW.f_assign hk (FW.holds_nil _) rfl) ?_; clear hk; intro a w hk
  refine FW.lend (hK2 _ _ ?_); clear hK2 K'
  refine FW.wseq ?_; intro K' hK3
  refine FW.wreg ?_; intro K' hK4
  obtain ⟨t2, hr_t2, h⟩ := FW.bnd h
  refine FW.lfun (y := .lit (.bool t2)) hk rfl rfl rfl rfl (FW.f_call hk (FW.holds_nil _) rfl rfl Go.Proofs.Try.func20 rfl (by kernel_rfl) (offshootlaw11_awake.ok K  _ hr_t2)) ?_; clear hk; intro a w hk
  refine FW.lfun (y := .lit (.bool (!t2))) hk rfl rfl rfl rfl ((FW.f_pure (FW.p_not hk.kn (FW.holds_nil _) rfl))) ?_; clear hk; intro a w hk
  refine FW.lfun (y := .lit (.bool (!t2))) hk rfl rfl rfl rfl (FW.f_move hk (FW.holds_nil _) rfl) ?_; clear hk; intro a w hk
  refine FW.lfunG (y := .lit (.int .i64 t1.2.2)) hk rfl rfl rfl rfl rfl rfl rfl rfl (fun hc => FW.f_move hk hc rfl) ?_; clear hk; intro a w hk
  refine FW.lfunG (y := .lit (.bool (!decide (t1.2.2 = 0)))) hk rfl rfl rfl rfl rfl rfl rfl rfl (fun hc => (FW.f_pure (FW.p_neq hk.kn hc rfl rfl))) ?_; clear hk; intro a w hk
  refine FW.lfun (y := .lit (.bool ((!t2) || (!decide (t1.2.2 = 0))))) hk rfl rfl rfl rfl ((FW.f_pure (FW.p_pick_or hk.kn (FW.holds_nil _) rfl rfl))) ?_; clear hk; intro a w hk
  refine FW.lfun (y := .lit (.bool ((!t2) || (!decide (t1.2.2 = 0))))) hk rfl rfl rfl rfl (FW.f_move hk (FW.holds_nil _) rfl) ?_; clear hk; intro a w hk
  refine FW.lfunG (y := .row (r_ApiWord_cells t1.1)) hk rfl rfl rfl rfl rfl rfl rfl rfl (fun hc => FW.f_move hk hc rfl) ?_; clear hk; intro a w hk
  refine FW.lfunG (y := .lit (.int .i64 (List.length t1.1 : Int))) hk rfl rfl rfl rfl rfl rfl rfl rfl (fun hc => FW.f_len (R := r_ApiWord_cells) (f := ApiWord.cells) (l := t1.1) r_ApiWord_cells_eq Go.Proofs.Try.underlying48 hk hc rfl) ?_; clear hk; intro a w hk
  refine FW.lfunG (y := .lit (.bool (decide ((List.length t1.1 : Int) = 0)))) hk rfl rfl rfl rfl rfl rfl rfl rfl (fun hc => (FW.f_pure (FW.p_eql hk.kn hc rfl rfl))) ?_; clear hk; intro a w hk
  refine FW.lfun (y := .lit (.bool (((!t2) || (!decide (t1.2.2 = 0))) || (decide ((List.length t1.1 : Int) = 0))))) hk rfl rfl rfl rfl ((FW.f_pure (FW.p_pick_or hk.kn (FW.holds_nil _) rfl rfl))) ?_; clear hk; intro a w hk
  refine FW.lend (hK4 _ _ ?_); clear hK4 K'
  refine FW.wcondF (b := (((!t2) || (!decide (t1.2.2 = 0))) || (decide ((List.length t1.1 : Int) = 0)))) hk h rfl (fun h hb => ?_) (fun h hb => ?_)
  · skip
    refine FW.wreg ?_; intro K' hK5
    obtain ⟨t3, hr_t3, h⟩ := FW.bnd h
    refine FW.lfun (y := .lit (.bool t3)) hk rfl rfl rfl rfl (FW.f_call hk (FW.holds_nil _) rfl rfl Go.Proofs.Try.func20 rfl (by kernel_rfl) (offshootlaw11_awake.ok K  _ hr_t3)) ?_; clear hk; intro a w hk
    refine FW.lfun (y := .lit (.bool t3)) hk rfl rfl rfl rfl (FW.f_move hk (FW.holds_nil _) rfl) ?_; clear hk; intro a w hk
    refine FW.lfunG (y := .lit (.int .i64 t1.2.2)) hk rfl rfl rfl rfl rfl rfl rfl rfl (fun hc => FW.f_move hk hc rfl) ?_; clear hk; intro a w hk
    refine FW.lfunG (y := .lit (.bool (!decide (t1.2.2 = 0)))) hk rfl rfl rfl rfl rfl rfl rfl rfl (fun hc => (FW.f_pure (FW.p_neq hk.kn hc rfl rfl))) ?_; clear hk; intro a w hk
    refine FW.lfun (y := .lit (.bool (t3 && (!decide (t1.2.2 = 0))))) hk rfl rfl rfl rfl ((FW.f_pure (FW.p_pick_and hk.kn (FW.holds_nil _) rfl rfl))) ?_; clear hk; intro a w hk
    refine FW.lfun (y := .lit (.bool (t3 && (!decide (t1.2.2 = 0))))) hk rfl rfl rfl rfl (FW.f_assign hk (FW.holds_nil _) rfl) ?_; clear hk; intro a w hk
    refine FW.lend (hK5 _ _ ?_); clear hK5 K'
    refine wp_ret ?_
    (repeat first | refine FW.then_ret ?_ | refine FW.block_ret ?_)
    obtain rfl := Option.some.inj h
    exact FW.fret1 hk rfl rfl
  · skip
    refine wp_skip ?_
    (repeat first | refine FW.then_normal ?_ | refine FW.block_normal ?_); refine hK3 _ _ ?_
    refine FW.wseq ?_; intro K' hK6
    refine FW.wreg ?_; intro K' hK7
    refine FW.lfun (y := .lit (.int .i64 0)) hk rfl rfl rfl rfl (FW.f_assign hk (FW.holds_nil _) rfl) ?_; clear hk; intro a w hk
    refine FW.lend (hK7 _ _ ?_); clear hK7 K'
    refine wp_block ?_
    refine FW.wloop (T := Nat × List UInt8 × List ApiWord × Int) (fun x a w => match x with | (kl1, v0, v3, v6) => FW.S M w0 a w 128 [] [(0, [], .lit (.string (FW.B v0))), (3, [], .row (r_ApiWord_cells v3)), (6, [], .lit (.int .i64 v6))] ∧ offshootlaw11_LexPlaces.l1 K kl1 v0 v3 v6 = some r) (fun x => x.1) (K, v0, t1.1, 0) ⟨hk.sub ⟨rfl, rfl, rfl, trivial⟩, h⟩ ?_
    clear hk h
    rintro ⟨kl1, v0, v3, v6⟩ a w ⟨hk, h⟩ K' hK8
    cases kl1 with
    | zero => simp [offshootlaw11_LexPlaces.l1] at h
    | succ kl1 =>
    rw [offshootlaw11_LexPlaces.l1.eq_2] at h
    refine FW.wseq ?_; intro K' hK9
    refine FW.wreg ?_; intro K' hK10
    refine FW.lfun (y := .lit (.int .i64 v6)) hk rfl rfl rfl rfl (FW.f_move hk (FW.holds_nil _) rfl) ?_; clear hk; intro a w hk
    refine FW.lfun (y := .row (r_ApiWord_cells v3)) hk rfl rfl rfl rfl (FW.f_move hk (FW.holds_nil _) rfl) ?_; clear hk; intro a w hk
    refine FW.lfun (y := .lit (.int .i64 (List.length v3 : Int))) hk rfl rfl rfl rfl (FW.f_len (R := r_ApiWord_cells) (f := ApiWord.cells) (l := v3) r_ApiWord_cells_eq Go.Proofs.Try.underlying48 hk (FW.holds_nil _) rfl) ?_; clear hk; intro a w hk
    refine FW.lfun (y := .lit (.bool (decide (v6 < (List.length v3 : Int))))) hk rfl rfl rfl rfl ((FW.f_pure (FW.p_lss hk.kn (FW.holds_nil _) rfl rfl))) ?_; clear hk; intro a w hk
    refine FW.lend (hK10 _ _ ?_); clear hK10 K'
    refine FW.wcondF (b := (decide (v6 < (List.length v3 : Int)))) hk h rfl (fun h hb => ?_) (fun h hb => ?_)
    · skip
      refine wp_skip ?_
      (repeat first | refine FW.then_normal ?_ | refine FW.block_normal ?_); refine hK9 _ _ ?_
      refine FW.wseq ?_; intro K' hK11
      refine wp_block ?_
      refine FW.wreg ?_; intro K' hK12
      refine FW.lfun (y := .row (r_ApiWord_cells v3)) hk rfl rfl rfl rfl (FW.f_move hk (FW.holds_nil _) rfl) ?_; clear hk; intro a w hk
      refine FW.lfun (y := .lit (.int .i64 v6)) hk rfl rfl rfl rfl (FW.f_move hk (FW.holds_nil _) rfl) ?_; clear hk; intro a w hk
      obtain ⟨hc1, h⟩ := FW.chk h
      refine FW.lfun (y := .ref (ApiWord.cells (List.getD v3 (Int.toNat v6) default))) hk rfl rfl rfl rfl (FW.f_indexAddr (R := r_ApiWord_cells) (f := ApiWord.cells) (l := v3) (sz := 5) r_ApiWord_cells_eq (fun _ => rfl) hk (FW.holds_nil _) rfl rfl Go.Proofs.Try.underlying48 (by kernel_rfl) hc1) ?_; clear hk; intro a w hk
      refine FW.lfun (y := .agg ((ApiWord.cells (List.getD v3 (Int.toNat v6) default)))) hk rfl rfl rfl rfl (FW.f_load hk (FW.holds_nil _) rfl Go.Proofs.Try.underlying52 rfl rfl rfl rfl) ?_; clear hk; intro a w hk
      refine FW.l_alloc (zs := (ApiWord.cells (⟨0, [], 0, 0, 0⟩ : ApiWord))) [] hk rfl rfl rfl rfl ?_; clear hk; intro b1 a w hk
      refine FW.l_store (I' := [FW.blk b1 52 ((ApiWord.cells (List.getD v3 (Int.toNat v6) default)))]) (cs' := (ApiWord.cells (List.getD v3 (Int.toNat v6) default))) (j := 0) hk rfl rfl rfl rfl rfl (by kernel_rfl) rfl rfl ?_; clear hk; intro w hk
      refine FW.lend (hK12 _ _ ?_); clear hK12 K'
      refine FW.wseq ?_; intro K' hK13
      refine FW.wdraw (by kernel_rfl) (by kernel_rfl) hk ?_; clear hk
      refine FW.dfun (y := .lit (.pointer (some ⟨b1, 4, none⟩))) rfl rfl rfl rfl (fun a w hk => FW.f_fieldPtr hk (FW.holds_nil _) rfl Go.Proofs.Try.underlying52 rfl (by kernel_rfl) rfl) ?_
      refine FW.dfun (y := .lit (.int .i64 ((List.getD v3 (Int.toNat v6) default).At))) rfl rfl rfl rfl (fun a w hk => FW.f_loadBlk1 hk (FW.holds_nil _) (j := 0) rfl rfl Go.Proofs.Try.underlying3 rfl rfl) ?_
      refine FW.dfun (y := .lit (.bool (decide (((List.getD v3 (Int.toNat v6) default).At) < 0)))) rfl rfl rfl rfl (fun a w hk => (FW.f_pure (FW.p_lss hk.kn (FW.holds_nil _) rfl rfl))) ?_
      refine FW.dfun (y := .lit (.bool (decide (((List.getD v3 (Int.toNat v6) default).At) < 0)))) rfl rfl rfl rfl (fun a w hk => FW.f_move hk (FW.holds_nil _) rfl) ?_
      refine FW.dfunG (y := .lit (.pointer (some ⟨b1, 4, none⟩))) rfl rfl rfl rfl rfl rfl rfl rfl rfl (fun a w hk hc => FW.f_fieldPtr hk hc rfl Go.Proofs.Try.underlying52 rfl (by kernel_rfl) rfl) ?_
      refine FW.dfunG (y := .lit (.int .i64 ((List.getD v3 (Int.toNat v6) default).At))) rfl rfl rfl rfl rfl rfl rfl rfl rfl (fun a w hk hc => FW.f_loadBlk1 hk hc (j := 0) rfl rfl Go.Proofs.Try.underlying3 rfl rfl) ?_
      refine FW.dfunG (y := .lit (.string (FW.B v0))) rfl rfl rfl rfl rfl rfl rfl rfl rfl (fun a w hk hc => FW.f_move hk hc rfl) ?_
      refine FW.dfunG (y := .lit (.int .i64 (List.length v0 : Int))) rfl rfl rfl rfl rfl rfl rfl rfl rfl (fun a w hk hc => (FW.f_pure (FW.p_slen Go.Proofs.Try.underlying9 hk.kn hc rfl))) ?_
      refine FW.dfunG (y := .lit (.bool (decide ((List.length v0 : Int) < ((List.getD v3 (Int.toNat v6) default).At))))) rfl rfl rfl rfl rfl rfl rfl rfl rfl (fun a w hk hc => (FW.f_pure (FW.p_gtr hk.kn hc rfl rfl))) ?_
      refine FW.dfun (y := .lit (.bool ((decide (((List.getD v3 (Int.toNat v6) default).At) < 0)) || (decide ((List.length v0 : Int) < ((List.getD v3 (Int.toNat v6) default).At)))))) rfl rfl rfl rfl (fun a w hk => (FW.f_pure (FW.p_pick_or hk.kn (FW.holds_nil _) rfl rfl))) ?_
      refine FW.dfun (y := .lit (.bool ((decide (((List.getD v3 (Int.toNat v6) default).At) < 0)) || (decide ((List.length v0 : Int) < ((List.getD v3 (Int.toNat v6) default).At)))))) rfl rfl rfl rfl (fun a w hk => FW.f_move hk (FW.holds_nil _) rfl) ?_
      refine FW.dfunG (y := .lit (.int .i64 v6)) rfl rfl rfl rfl rfl rfl rfl rfl rfl (fun a w hk hc => FW.f_move hk hc rfl) ?_
      refine FW.dfunG (y := .lit (.bool (decide (0 < v6)))) rfl rfl rfl rfl rfl rfl rfl rfl rfl (fun a w hk hc => (FW.f_pure (FW.p_gtr hk.kn hc rfl rfl))) ?_
      refine FW.dfunG (y := .lit (.bool (decide (0 < v6)))) rfl rfl rfl rfl rfl rfl rfl rfl rfl (fun a w hk hc => FW.f_move hk hc rfl) ?_
      refine FW.dfunG (y := .lit (.pointer (some ⟨b1, 4, none⟩))) rfl rfl rfl rfl rfl rfl rfl rfl rfl (fun a w hk hc => FW.f_fieldPtr hk hc rfl Go.Proofs.Try.underlying52 rfl (by kernel_rfl) rfl) ?_
      refine FW.dfunG (y := .lit (.int .i64 ((List.getD v3 (Int.toNat v6) default).At))) rfl rfl rfl rfl rfl rfl rfl rfl rfl (fun a w hk hc => FW.f_loadBlk1 hk hc (j := 0) rfl rfl Go.Proofs.Try.underlying3 rfl rfl) ?_
      refine FW.dfunG (y := .row (r_ApiWord_cells v3)) rfl rfl rfl rfl rfl rfl rfl rfl rfl (fun a w hk hc => FW.f_move hk hc rfl) ?_
      refine FW.dfunG (y := .lit (.int .i64 v6)) rfl rfl rfl rfl rfl rfl rfl rfl rfl (fun a w hk hc => FW.f_move hk hc rfl) ?_
      refine FW.dfunG (y := .lit (.int .i64 (IntKind.wrap .i64 (v6 - 1)))) rfl rfl rfl rfl rfl rfl rfl rfl rfl (fun a w hk hc => (FW.f_pure (FW.p_sub hk.kn hc rfl rfl))) ?_
      obtain ⟨hc2, h⟩ := FW.chk h
      refine FW.dfunG (y := .ref (ApiWord.cells (List.getD v3 (Int.toNat (IntKind.wrap .i64 (v6 - 1))) default))) rfl rfl rfl rfl rfl rfl rfl rfl rfl (fun a w hk hc => FW.f_indexAddr (R := r_ApiWord_cells) (f := ApiWord.cells) (l := v3) (sz := 5) r_ApiWord_cells_eq (fun _ => rfl) hk hc rfl rfl Go.Proofs.Try.underlying48 (by kernel_rfl) hc2) ?_
      refine FW.dfunG (y := .ref (List.drop 4 (ApiWord.cells (List.getD v3 (Int.toNat (IntKind.wrap .i64 (v6 - 1))) default)))) rfl rfl rfl rfl rfl rfl rfl rfl rfl (fun a w hk hc => FW.f_fieldAddr hk hc rfl Go.Proofs.Try.underlying52 rfl (by kernel_rfl) rfl) ?_
      refine FW.dfunG (y := .lit (.int .i64 ((List.getD v3 (Int.toNat (IntKind.wrap .i64 (v6 - 1))) default).At))) rfl rfl rfl rfl rfl rfl rfl rfl rfl (fun a w hk hc => FW.f_load1 hk hc rfl rfl Go.Proofs.Try.underlying3 rfl) ?_
      refine FW.dfunG (y := .lit (.bool (decide (((List.getD v3 (Int.toNat v6) default).At) ≤ ((List.getD v3 (Int.toNat (IntKind.wrap .i64 (v6 - 1))) default).At))))) rfl rfl rfl rfl rfl rfl rfl rfl rfl (fun a w hk hc => (FW.f_pure (FW.p_leq hk.kn hc rfl rfl))) ?_
      refine FW.dfunG (y := .lit (.bool ((decide (0 < v6)) && (decide (((List.getD v3 (Int.toNat v6) default).At) ≤ ((List.getD v3 (Int.toNat (IntKind.wrap .i64 (v6 - 1))) default).At)))))) rfl rfl rfl rfl rfl rfl rfl rfl rfl (fun a w hk hc => (FW.f_pure (FW.p_pick_and hk.kn hc rfl rfl))) ?_
      refine FW.dfunG (y := .lit (.bool ((decide (0 < v6)) && (decide (((List.getD v3 (Int.toNat v6) default).At) ≤ ((List.getD v3 (Int.toNat (IntKind.wrap .i64 (v6 - 1))) default).At)))))) rfl rfl rfl rfl rfl rfl rfl rfl rfl (fun a w hk hc => FW.f_move hk hc rfl) ?_
      refine FW.dfunG (y := .lit (.string (FW.B v0))) rfl rfl rfl rfl rfl rfl rfl rfl rfl (fun a w hk hc => FW.f_move hk hc rfl) ?_
      refine FW.dfunG (y := .lit (.int .i64 (List.length v0 : Int))) rfl rfl rfl rfl rfl rfl rfl rfl rfl (fun a w hk hc => (FW.f_pure (FW.p_slen Go.Proofs.Try.underlying9 hk.kn hc rfl))) ?_
      refine FW.dfunG (y := .lit (.bool (decide (0 < (List.length v0 : Int))))) rfl rfl rfl rfl rfl rfl rfl rfl rfl (fun a w hk hc => (FW.f_pure (FW.p_gtr hk.kn hc rfl rfl))) ?_
      refine FW.dfunG (y := .lit (.bool (((decide (0 < v6)) && (decide (((List.getD v3 (Int.toNat v6) default).At) ≤ ((List.getD v3 (Int.toNat (IntKind.wrap .i64 (v6 - 1))) default).At)))) && (decide (0 < (List.length v0 : Int)))))) rfl rfl rfl rfl rfl rfl rfl rfl rfl (fun a w hk hc => (FW.f_pure (FW.p_pick_and hk.kn hc rfl rfl))) ?_
      refine FW.dfunG (y := .lit (.bool (((decide (0 < v6)) && (decide (((List.getD v3 (Int.toNat v6) default).At) ≤ ((List.getD v3 (Int.toNat (IntKind.wrap .i64 (v6 - 1))) default).At)))) && (decide (0 < (List.length v0 : Int)))))) rfl rfl rfl rfl rfl rfl rfl rfl rfl (fun a w hk hc => FW.f_move hk hc rfl) ?_
      refine FW.dfunG (y := .lit (.pointer (some ⟨b1, 4, none⟩))) rfl rfl rfl rfl rfl rfl rfl rfl rfl (fun a w hk hc => FW.f_fieldPtr hk hc rfl Go.Proofs.Try.underlying52 rfl (by kernel_rfl) rfl) ?_
      refine FW.dfunG (y := .lit (.int .i64 ((List.getD v3 (Int.toNat v6) default).At))) rfl rfl rfl rfl rfl rfl rfl rfl rfl (fun a w hk hc => FW.f_loadBlk1 hk hc (j := 0) rfl rfl Go.Proofs.Try.underlying3 rfl rfl) ?_
      refine FW.dfunG (y := .lit (.string (FW.B v0))) rfl rfl rfl rfl rfl rfl rfl rfl rfl (fun a w hk hc => FW.f_move hk hc rfl) ?_
      refine FW.dfunG (y := .lit (.int .i64 (List.length v0 : Int))) rfl rfl rfl rfl rfl rfl rfl rfl rfl (fun a w hk hc => (FW.f_pure (FW.p_slen Go.Proofs.Try.underlying9 hk.kn hc rfl))) ?_
      refine FW.dfunG (y := .lit (.bool (decide (((List.getD v3 (Int.toNat v6) default).At) < (List.length v0 : Int))))) rfl rfl rfl rfl rfl rfl rfl rfl rfl (fun a w hk hc => (FW.f_pure (FW.p_lss hk.kn hc rfl rfl))) ?_
      refine FW.dfunG (y := .lit (.bool ((((decide (0 < v6)) && (decide (((List.getD v3 (Int.toNat v6) default).At) ≤ ((List.getD v3 (Int.toNat (IntKind.wrap .i64 (v6 - 1))) default).At)))) && (decide (0 < (List.length v0 : Int)))) && (decide (((List.getD v3 (Int.toNat v6) default).At) < (List.length v0 : Int)))))) rfl rfl rfl rfl rfl rfl rfl rfl rfl (fun a w hk hc => (FW.f_pure (FW.p_pick_and hk.kn hc rfl rfl))) ?_
      refine FW.dfun (y := .lit (.bool (((decide (((List.getD v3 (Int.toNat v6) default).At) < 0)) || (decide ((List.length v0 : Int) < ((List.getD v3 (Int.toNat v6) default).At)))) || ((((decide (0 < v6)) && (decide (((List.getD v3 (Int.toNat v6) default).At) ≤ ((List.getD v3 (Int.toNat (IntKind.wrap .i64 (v6 - 1))) default).At)))) && (decide (0 < (List.length v0 : Int)))) && (decide (((List.getD v3 (Int.toNat v6) default).At) < (List.length v0 : Int))))))) rfl rfl rfl rfl (fun a w hk => (FW.f_pure (FW.p_pick_or hk.kn (FW.holds_nil _) rfl rfl))) ?_
      refine FW.dend ?_; intro a w hk
      refine FW.wcondF (b := (((decide (((List.getD v3 (Int.toNat v6) default).At) < 0)) || (decide ((List.length v0 : Int) < ((List.getD v3 (Int.toNat v6) default).At)))) || ((((decide (0 < v6)) && (decide (((List.getD v3 (Int.toNat v6) default).At) ≤ ((List.getD v3 (Int.toNat (IntKind.wrap .i64 (v6 - 1))) default).At)))) && (decide (0 < (List.length v0 : Int)))) && (decide (((List.getD v3 (Int.toNat v6) default).At) < (List.length v0 : Int)))))) hk h rfl (fun h hb => ?_) (fun h hb => ?_)
      · skip
        refine FW.wreg ?_; intro K' hK15
        refine FW.lfun (y := .lit (.bool false)) hk rfl rfl rfl rfl (FW.f_assign hk (FW.holds_nil _) rfl) ?_; clear hk; intro a w hk
        refine FW.lend (hK15 _ _ ?_); clear hK15 K'
        refine wp_ret ?_
        (repeat first | refine FW.then_ret ?_ | refine FW.block_ret ?_)
        obtain rfl := Option.some.inj h
        exact FW.fret1 hk rfl rfl
      · skip
        refine wp_skip ?_
        (repeat first | refine FW.then_normal ?_ | refine FW.block_normal ?_); refine hK13 _ _ ?_
        refine FW.wdraw (by kernel_rfl) (by kernel_rfl) hk ?_; clear hk
        refine FW.dfun (y := .lit (.pointer (some ⟨b1, 0, none⟩))) rfl rfl rfl rfl (fun a w hk => FW.f_fieldPtr hk (FW.holds_nil _) rfl Go.Proofs.Try.underlying52 rfl (by kernel_rfl) rfl) ?_
        refine FW.dfun (y := .lit (.int .i64 ((List.getD v3 (Int.toNat v6) default).Kind))) rfl rfl rfl rfl (fun a w hk => FW.f_loadBlk1 hk (FW.holds_nil _) (j := 0) rfl rfl Go.Proofs.Try.underlying3 rfl rfl) ?_
        refine FW.dfun (y := .lit (.bool (decide (((List.getD v3 (Int.toNat v6) default).Kind) = 1)))) rfl rfl rfl rfl (fun a w hk => (FW.f_pure (FW.p_eql hk.kn (FW.holds_nil _) rfl rfl))) ?_
        refine FW.dfun (y := .lit (.bool (decide (((List.getD v3 (Int.toNat v6) default).Kind) = 1)))) rfl rfl rfl rfl (fun a w hk => FW.f_move hk (FW.holds_nil _) rfl) ?_
        refine FW.dfunG (y := .lit (.pointer (some ⟨b1, 0, none⟩))) rfl rfl rfl rfl rfl rfl rfl rfl rfl (fun a w hk hc => FW.f_fieldPtr hk hc rfl Go.Proofs.Try.underlying52 rfl (by kernel_rfl) rfl) ?_
        refine FW.dfunG (y := .lit (.int .i64 ((List.getD v3 (Int.toNat v6) default).Kind))) rfl rfl rfl rfl rfl rfl rfl rfl rfl (fun a w hk hc => FW.f_loadBlk1 hk hc (j := 0) rfl rfl Go.Proofs.Try.underlying3 rfl rfl) ?_
        refine FW.dfunG (y := .lit (.bool (decide (((List.getD v3 (Int.toNat v6) default).Kind) = 5)))) rfl rfl rfl rfl rfl rfl rfl rfl rfl (fun a w hk hc => (FW.f_pure (FW.p_eql hk.kn hc rfl rfl))) ?_
        refine FW.dfun (y := .lit (.bool ((decide (((List.getD v3 (Int.toNat v6) default).Kind) = 1)) || (decide (((List.getD v3 (Int.toNat v6) default).Kind) = 5))))) rfl rfl rfl rfl (fun a w hk => (FW.f_pure (FW.p_pick_or hk.kn (FW.holds_nil _) rfl rfl))) ?_
        refine FW.dfun (y := .lit (.bool ((decide (((List.getD v3 (Int.toNat v6) default).Kind) = 1)) || (decide (((List.getD v3 (Int.toNat v6) default).Kind) = 5))))) rfl rfl rfl rfl (fun a w hk => FW.f_move hk (FW.holds_nil _) rfl) ?_
        refine FW.dfunG (y := .lit (.pointer (some ⟨b1, 4, none⟩))) rfl rfl rfl rfl rfl rfl rfl rfl rfl (fun a w hk hc => FW.f_fieldPtr hk hc rfl Go.Proofs.Try.underlying52 rfl (by kernel_rfl) rfl) ?_
        refine FW.dfunG (y := .lit (.int .i64 ((List.getD v3 (Int.toNat v6) default).At))) rfl rfl rfl rfl rfl rfl rfl rfl rfl (fun a w hk hc => FW.f_loadBlk1 hk hc (j := 0) rfl rfl Go.Proofs.Try.underlying3 rfl rfl) ?_
        refine FW.dfunG (y := .lit (.pointer (some ⟨b1, 1, none⟩))) rfl rfl rfl rfl rfl rfl rfl rfl rfl (fun a w hk hc => FW.f_fieldPtr hk hc rfl Go.Proofs.Try.underlying52 rfl (by kernel_rfl) rfl) ?_
        refine FW.dfunG (y := .lit (.string (FW.B ((List.getD v3 (Int.toNat v6) default).S)))) rfl rfl rfl rfl rfl rfl rfl rfl rfl (fun a w hk hc => FW.f_loadBlk1 hk hc (j := 0) rfl rfl Go.Proofs.Try.underlying9 rfl rfl) ?_
        refine FW.dfunG (y := .lit (.int .i64 (List.length ((List.getD v3 (Int.toNat v6) default).S) : Int))) rfl rfl rfl rfl rfl rfl rfl rfl rfl (fun a w hk hc => (FW.f_pure (FW.p_slen Go.Proofs.Try.underlying9 hk.kn hc rfl))) ?_
        refine FW.dfunG (y := .lit (.int .i64 (IntKind.wrap .i64 (((List.getD v3 (Int.toNat v6) default).At) + (List.length ((List.getD v3 (Int.toNat v6) default).S) : Int))))) rfl rfl rfl rfl rfl rfl rfl rfl rfl (fun a w hk hc => (FW.f_pure (FW.p_add hk.kn hc rfl rfl))) ?_
        refine FW.dfunG (y := .lit (.string (FW.B v0))) rfl rfl rfl rfl rfl rfl rfl rfl rfl (fun a w hk hc => FW.f_move hk hc rfl) ?_
        refine FW.dfunG (y := .lit (.int .i64 (List.length v0 : Int))) rfl rfl rfl rfl rfl rfl rfl rfl rfl (fun a w hk hc => (FW.f_pure (FW.p_slen Go.Proofs.Try.underlying9 hk.kn hc rfl))) ?_
        refine FW.dfunG (y := .lit (.bool (decide ((List.length v0 : Int) < (IntKind.wrap .i64 (((List.getD v3 (Int.toNat v6) default).At) + (List.length ((List.getD v3 (Int.toNat v6) default).S) : Int))))))) rfl rfl rfl rfl rfl rfl rfl rfl rfl (fun a w hk hc => (FW.f_pure (FW.p_gtr hk.kn hc rfl rfl))) ?_
        refine FW.dfunG (y := .lit (.bool (decide ((List.length v0 : Int) < (IntKind.wrap .i64 (((List.getD v3 (Int.toNat v6) default).At) + (List.length ((List.getD v3 (Int.toNat v6) default).S) : Int))))))) rfl rfl rfl rfl rfl rfl rfl rfl rfl (fun a w hk hc => FW.f_move hk hc rfl) ?_
        refine FW.dfunG (y := .lit (.string (FW.B v0))) rfl rfl rfl rfl rfl rfl rfl rfl rfl (fun a w hk hc => FW.f_move hk hc rfl) ?_
        refine FW.dfunG (y := .lit (.pointer (some ⟨b1, 4, none⟩))) rfl rfl rfl rfl rfl rfl rfl rfl rfl (fun a w hk hc => FW.f_fieldPtr hk hc rfl Go.Proofs.Try.underlying52 rfl (by kernel_rfl) rfl) ?_
        refine FW.dfunG (y := .lit (.int .i64 ((List.getD v3 (Int.toNat v6) default).At))) rfl rfl rfl rfl rfl rfl rfl rfl rfl (fun a w hk hc => FW.f_loadBlk1 hk hc (j := 0) rfl rfl Go.Proofs.Try.underlying3 rfl rfl) ?_
        refine FW.dfunG (y := .lit (.pointer (some ⟨b1, 4, none⟩))) rfl rfl rfl rfl rfl rfl rfl rfl rfl (fun a w hk hc => FW.f_fieldPtr hk hc rfl Go.Proofs.Try.underlying52 rfl (by kernel_rfl) rfl) ?_
        refine FW.dfunG (y := .lit (.int .i64 ((List.getD v3 (Int.toNat v6) default).At))) rfl rfl rfl rfl rfl rfl rfl rfl rfl (fun a w hk hc => FW.f_loadBlk1 hk hc (j := 0) rfl rfl Go.Proofs.Try.underlying3 rfl rfl) ?_
        refine FW.dfunG (y := .lit (.pointer (some ⟨b1, 1, none⟩))) rfl rfl rfl rfl rfl rfl rfl rfl rfl (fun a w hk hc => FW.f_fieldPtr hk hc rfl Go.Proofs.Try.underlying52 rfl (by kernel_rfl) rfl) ?_
        refine FW.dfunG (y := .lit (.string (FW.B ((List.getD v3 (Int.toNat v6) default).S)))) rfl rfl rfl rfl rfl rfl rfl rfl rfl (fun a w hk hc => FW.f_loadBlk1 hk hc (j := 0) rfl rfl Go.Proofs.Try.underlying9 rfl rfl) ?_
        refine FW.dfunG (y := .lit (.int .i64 (List.length ((List.getD v3 (Int.toNat v6) default).S) : Int))) rfl rfl rfl rfl rfl rfl rfl rfl rfl (fun a w hk hc => (FW.f_pure (FW.p_slen Go.Proofs.Try.underlying9 hk.kn hc rfl))) ?_
        refine FW.dfunG (y := .lit (.int .i64 (IntKind.wrap .i64 (((List.getD v3 (Int.toNat v6) default).At) + (List.length ((List.getD v3 (Int.toNat v6) default).S) : Int))))) rfl rfl rfl rfl rfl rfl rfl rfl rfl (fun a w hk hc => (FW.f_pure (FW.p_add hk.kn hc rfl rfl))) ?_
        obtain ⟨hc3, h⟩ := FW.chk h
        refine FW.dfunG (y := .lit (.string (FW.B (List.take (Int.toNat (IntKind.wrap .i64 (((List.getD v3 (Int.toNat v6) default).At) + (List.length ((List.getD v3 (Int.toNat v6) default).S) : Int))) - Int.toNat ((List.getD v3 (Int.toNat v6) default).At)) (List.drop (Int.toNat ((List.getD v3 (Int.toNat v6) default).At)) v0))))) rfl rfl rfl rfl rfl rfl rfl rfl rfl (fun a w hk hc => (FW.f_pure (FW.p_slice Go.Proofs.Try.underlying9 hk.kn hc rfl rfl rfl hc3))) ?_
        refine FW.dfunG (y := .lit (.pointer (some ⟨b1, 1, none⟩))) rfl rfl rfl rfl rfl rfl rfl rfl rfl (fun a w hk hc => FW.f_fieldPtr hk hc rfl Go.Proofs.Try.underlying52 rfl (by kernel_rfl) rfl) ?_
        refine FW.dfunG (y := .lit (.string (FW.B ((List.getD v3 (Int.toNat v6) default).S)))) rfl rfl rfl rfl rfl rfl rfl rfl rfl (fun a w hk hc => FW.f_loadBlk1 hk hc (j := 0) rfl rfl Go.Proofs.Try.underlying9 rfl rfl) ?_
        refine FW.dfunG (y := .lit (.bool (!decide ((List.take (Int.toNat (IntKind.wrap .i64 (((List.getD v3 (Int.toNat v6) default).At) + (List.length ((List.getD v3 (Int.toNat v6) default).S) : Int))) - Int.toNat ((List.getD v3 (Int.toNat v6) default).At)) (List.drop (Int.toNat ((List.getD v3 (Int.toNat v6) default).At)) v0)) = ((List.getD v3 (Int.toNat v6) default).S))))) rfl rfl rfl rfl rfl rfl rfl rfl rfl (fun a w hk hc => (FW.f_pure (FW.p_sneq hk.kn hc rfl rfl))) ?_
        refine FW.dfunG (y := .lit (.bool ((decide ((List.length v0 : Int) < (IntKind.wrap .i64 (((List.getD v3 (Int.toNat v6) default).At) + (List.length ((List.getD v3 (Int.toNat v6) default).S) : Int))))) || (!decide ((List.take (Int.toNat (IntKind.wrap .i64 (((List.getD v3 (Int.toNat v6) default).At) + (List.length ((List.getD v3 (Int.toNat v6) default).S) : Int))) - Int.toNat ((List.getD v3 (Int.toNat v6) default).At)) (List.drop (Int.toNat ((List.getD v3 (Int.toNat v6) default).At)) v0)) = ((List.getD v3 (Int.toNat v6) default).S)))))) rfl rfl rfl rfl rfl rfl rfl rfl rfl (fun a w hk hc => (FW.f_pure (FW.p_pick_or hk.kn hc rfl rfl))) ?_
        refine FW.dfun (y := .lit (.bool (((decide (((List.getD v3 (Int.toNat v6) default).Kind) = 1)) || (decide (((List.getD v3 (Int.toNat v6) default).Kind) = 5))) && ((decide ((List.length v0 : Int) < (IntKind.wrap .i64 (((List.getD v3 (Int.toNat v6) default).At) + (List.length ((List.getD v3 (Int.toNat v6) default).S) : Int))))) || (!decide ((List.take (Int.toNat (IntKind.wrap .i64 (((List.getD v3 (Int.toNat v6) default).At) + (List.length ((List.getD v3 (Int.toNat v6) default).S) : Int))) - Int.toNat ((List.getD v3 (Int.toNat v6) default).At)) (List.drop (Int.toNat ((List.getD v3 (Int.toNat v6) default).At)) v0)) = ((List.getD v3 (Int.toNat v6) default).S))))))) rfl rfl rfl rfl (fun a w hk => (FW.f_pure (FW.p_pick_and hk.kn (FW.holds_nil _) rfl rfl))) ?_
        refine FW.dend ?_; intro a w hk
        refine FW.wcondF (b := (((decide (((List.getD v3 (Int.toNat v6) default).Kind) = 1)) || (decide (((List.getD v3 (Int.toNat v6) default).Kind) = 5))) && ((decide ((List.length v0 : Int) < (IntKind.wrap .i64 (((List.getD v3 (Int.toNat v6) default).At) + (List.length ((List.getD v3 (Int.toNat v6) default).S) : Int))))) || (!decide ((List.take (Int.toNat (IntKind.wrap .i64 (((List.getD v3 (Int.toNat v6) default).At) + (List.length ((List.getD v3 (Int.toNat v6) default).S) : Int))) - Int.toNat ((List.getD v3 (Int.toNat v6) default).At)) (List.drop (Int.toNat ((List.getD v3 (Int.toNat v6) default).At)) v0)) = ((List.getD v3 (Int.toNat v6) default).S)))))) hk h rfl (fun h hb => ?_) (fun h hb => ?_)
        · skip
          refine FW.wreg ?_; intro K' hK17
          refine FW.lfun (y := .lit (.bool false)) hk rfl rfl rfl rfl (FW.f_assign hk (FW.holds_nil _) rfl) ?_; clear hk; intro a w hk
          refine FW.lend (hK17 _ _ ?_); clear hK17 K'
          refine wp_ret ?_
          (repeat first | refine FW.then_ret ?_ | refine FW.block_ret ?_)
          obtain rfl := Option.some.inj h
          exact FW.fret1 hk rfl rfl
        · skip
          refine wp_skip ?_
          (repeat first | refine FW.then_normal ?_ | refine FW.block_normal ?_); refine hK11 _ _ ?_
          refine FW.wreg1 ?_
          refine FW.lfun (y := .lit (.int .i64 v6)) hk rfl rfl rfl rfl (FW.f_move hk (FW.holds_nil _) rfl) ?_; clear hk; intro a w hk
          refine FW.lfun (y := .lit (.int .i64 (IntKind.wrap .i64 (v6 + 1)))) hk rfl rfl rfl rfl ((FW.f_pure (FW.p_add hk.kn (FW.holds_nil _) rfl rfl))) ?_; clear hk; intro a w hk
          refine FW.lfun (y := .lit (.int .i64 (IntKind.wrap .i64 (v6 + 1)))) hk rfl rfl rfl rfl (FW.f_assign hk (FW.holds_nil _) rfl) ?_; clear hk; intro a w hk
          refine wpList_nil ?_
          (repeat first | refine FW.then_normal ?_ | refine FW.block_normal ?_); exact hK8 (kl1, v0, v3, (IntKind.wrap .i64 (v6 + 1))) _ _ (Nat.lt_succ_self _) ⟨(hk.drop 0).sub ⟨rfl, rfl, rfl, trivial⟩, h⟩
    · skip
      refine wp_exit ?_; (repeat first | refine FW.then_exit ?_ | refine FW.block_exit_ne rfl ?_); refine FW.block_exit ?_
      (repeat first | refine FW.then_normal ?_ | refine FW.block_normal ?_); refine hK6 _ _ ?_
      refine FW.wreg ?_; intro K' hK19
      refine FW.lfun (y := .row (r_ApiWord_cells v3)) hk rfl rfl rfl rfl (FW.f_move hk (FW.holds_nil _) rfl) ?_; clear hk; intro a w hk
      refine FW.lfun (y := .row (r_ApiWord_cells v3)) hk rfl rfl rfl rfl (FW.f_move hk (FW.holds_nil _) rfl) ?_; clear hk; intro a w hk
      refine FW.lfun (y := .lit (.int .i64 (List.length v3 : Int))) hk rfl rfl rfl rfl (FW.f_len (R := r_ApiWord_cells) (f := ApiWord.cells) (l := v3) r_ApiWord_cells_eq Go.Proofs.Try.underlying48 hk (FW.holds_nil _) rfl) ?_; clear hk; intro a w hk
      refine FW.lfun (y := .lit (.int .i64 (IntKind.wrap .i64 ((List.length v3 : Int) - 1)))) hk rfl rfl rfl rfl ((FW.f_pure (FW.p_sub hk.kn (FW.holds_nil _) rfl rfl))) ?_; clear hk; intro a w hk
      obtain ⟨hc4, h⟩ := FW.chk h
      refine FW.lfun (y := .ref (ApiWord.cells (List.getD v3 (Int.toNat (IntKind.wrap .i64 ((List.length v3 : Int) - 1))) default))) hk rfl rfl rfl rfl (FW.f_indexAddr (R := r_ApiWord_cells) (f := ApiWord.cells) (l := v3) (sz := 5) r_ApiWord_cells_eq (fun _ => rfl) hk (FW.holds_nil _) rfl rfl Go.Proofs.Try.underlying48 (by kernel_rfl) hc4) ?_; clear hk; intro a w hk
      refine FW.lfun (y := .agg ((ApiWord.cells (List.getD v3 (Int.toNat (IntKind.wrap .i64 ((List.length v3 : Int) - 1))) default)))) hk rfl rfl rfl rfl (FW.f_load hk (FW.holds_nil _) rfl Go.Proofs.Try.underlying52 rfl rfl rfl rfl) ?_; clear hk; intro a w hk
      refine FW.l_alloc (zs := (ApiWord.cells (⟨0, [], 0, 0, 0⟩ : ApiWord))) [] hk rfl rfl rfl rfl ?_; clear hk; intro b2 a w hk
      refine FW.l_store (I' := [FW.blk b2 52 ((ApiWord.cells (List.getD v3 (Int.toNat (IntKind.wrap .i64 ((List.length v3 : Int) - 1))) default)))]) (cs' := (ApiWord.cells (List.getD v3 (Int.toNat (IntKind.wrap .i64 ((List.length v3 : Int) - 1))) default))) (j := 0) hk rfl rfl rfl rfl rfl (by kernel_rfl) rfl rfl ?_; clear hk; intro w hk
      refine FW.lend (hK19 _ _ ?_); clear hK19 K'
      refine FW.wreg ?_; intro K' hK20
      refine FW.lfun (y := .lit (.pointer (some ⟨b2, 0, none⟩))) hk rfl rfl rfl rfl (FW.f_fieldPtr hk (FW.holds_nil _) rfl Go.Proofs.Try.underlying52 rfl (by kernel_rfl) rfl) ?_; clear hk; intro a w hk
      refine FW.lfun (y := .lit (.int .i64 ((List.getD v3 (Int.toNat (IntKind.wrap .i64 ((List.length v3 : Int) - 1))) default).Kind))) hk rfl rfl rfl rfl (FW.f_loadBlk1 hk (FW.holds_nil _) (j := 0) rfl rfl Go.Proofs.Try.underlying3 rfl rfl) ?_; clear hk; intro a w hk
      refine FW.lfun (y := .lit (.bool (decide (((List.getD v3 (Int.toNat (IntKind.wrap .i64 ((List.length v3 : Int) - 1))) default).Kind) = 0)))) hk rfl rfl rfl rfl ((FW.f_pure (FW.p_eql hk.kn (FW.holds_nil _) rfl rfl))) ?_; clear hk; intro a w hk
      refine FW.lfun (y := .lit (.bool (decide (((List.getD v3 (Int.toNat (IntKind.wrap .i64 ((List.length v3 : Int) - 1))) default).Kind) = 0)))) hk rfl rfl rfl rfl (FW.f_move hk (FW.holds_nil _) rfl) ?_; clear hk; intro a w hk
      refine FW.lfunG (y := .lit (.pointer (some ⟨b2, 4, none⟩))) hk rfl rfl rfl rfl rfl rfl rfl rfl (fun hc => FW.f_fieldPtr hk hc rfl Go.Proofs.Try.underlying52 rfl (by kernel_rfl) rfl) ?_; clear hk; intro a w hk
      refine FW.lfunG (y := .lit (.int .i64 ((List.getD v3 (Int.toNat (IntKind.wrap .i64 ((List.length v3 : Int) - 1))) default).At))) hk rfl rfl rfl rfl rfl rfl rfl rfl (fun hc => FW.f_loadBlk1 hk hc (j := 0) rfl rfl Go.Proofs.Try.underlying3 rfl rfl) ?_; clear hk; intro a w hk
      refine FW.lfunG (y := .lit (.string (FW.B v0))) hk rfl rfl rfl rfl rfl rfl rfl rfl (fun hc => FW.f_move hk hc rfl) ?_; clear hk; intro a w hk
      refine FW.lfunG (y := .lit (.int .i64 (List.length v0 : Int))) hk rfl rfl rfl rfl rfl rfl rfl rfl (fun hc => (FW.f_pure (FW.p_slen Go.Proofs.Try.underlying9 hk.kn hc rfl))) ?_; clear hk; intro a w hk
      refine FW.lfunG (y := .lit (.bool (decide (((List.getD v3 (Int.toNat (IntKind.wrap .i64 ((List.length v3 : Int) - 1))) default).At) = (List.length v0 : Int))))) hk rfl rfl rfl rfl rfl rfl rfl rfl (fun hc => (FW.f_pure (FW.p_eql hk.kn hc rfl rfl))) ?_; clear hk; intro a w hk
      refine FW.lfun (y := .lit (.bool ((decide (((List.getD v3 (Int.toNat (IntKind.wrap .i64 ((List.length v3 : Int) - 1))) default).Kind) = 0)) && (decide (((List.getD v3 (Int.toNat (IntKind.wrap .i64 ((List.length v3 : Int) - 1))) default).At) = (List.length v0 : Int)))))) hk rfl rfl rfl rfl ((FW.f_pure (FW.p_pick_and hk.kn (FW.holds_nil _) rfl rfl))) ?_; clear hk; intro a w hk
      refine FW.lfun (y := .lit (.bool ((decide (((List.getD v3 (Int.toNat (IntKind.wrap .i64 ((List.length v3 : Int) - 1))) default).Kind) = 0)) && (decide (((List.getD v3 (Int.toNat (IntKind.wrap .i64 ((List.length v3 : Int) - 1))) default).At) = (List.length v0 : Int)))))) hk rfl rfl rfl rfl (FW.f_assign hk (FW.holds_nil _) rfl) ?_; clear hk; intro a w hk
      refine FW.lend (hK20 _ _ ?_); clear hK20 K'
      refine wp_ret ?_
      (repeat first | refine FW.then_ret ?_ | refine FW.block_ret ?_)
      obtain rfl := Option.some.inj h
      exact FW.fret1 hk rfl rfl

theorem lex_Number.ok (K : Nat) (v0 : Int) (r : List UInt8) (h : lex_Number.f K v0 = some r) :
    FW.Ok Go.Proofs.Try.prog 23 [.lit (.int .i64 v0)] (.lit (.string (FW.B r))) := by
  refine FW.enter (xs := [.lit (.int .i64 v0)]) Go.Proofs.Try.func23 rfl Go.Proofs.Try.ntmps23 rfl ?_
  intro M w0 a hk
  unfold lex_Number.f at h
  refine FW.wreg ?_; intro K' hK1
  refine FW.lfun (y := .lit (.string (FW.B ([] : List UInt8)))) hk rfl rfl rfl rfl (FW.f_assign hk (FW.holds_nil _) rfl) ?_; clear hk; intro a w hk
  refine FW.lend (hK1 _ _ ?_); clear hK1 K'
  refine FW.wseq ?_; intro K' hK2
  refine FW.wreg ?_; intro K' hK3
  refine FW.lfun (y := .lit (.int .i64 v0)) hk rfl rfl rfl rfl (FW.f_move hk (FW.holds_nil _) rfl) ?_; clear hk; intro a w hk
  refine FW.lfun (y := .lit (.bool (decide (v0 = 0)))) hk rfl rfl rfl rfl ((FW.f_pure (FW.p_eql hk.kn (FW.holds_nil _) rfl rfl))) ?_; clear hk; intro a w hk
  refine FW.lend (hK3 _ _ ?_); clear hK3 K'
  refine FW.wcondF (b := (decide (v0 = 0))) hk h rfl (fun h hb => ?_) (fun h hb => ?_)
  · skip
    refine FW.wreg ?_; intro K' hK4
    refine FW.lfun (y := .lit (.string (FW.B ([48] : List UInt8)))) hk rfl rfl rfl rfl (FW.f_assign hk (FW.holds_nil _) rfl) ?_; clear hk; intro a w hk
    refine FW.lend (hK4 _ _ ?_); clear hK4 K'
    refine wp_ret ?_
    (repeat first | refine FW.then_ret ?_ | refine FW.block_ret ?_)
    obtain rfl := Option.some.inj h
    exact FW.fret1 hk rfl rfl
  · skip
    refine wp_skip ?_
    (repeat first | refine FW.then_normal ?_ | refine FW.block_normal ?_); refine hK2 _ _ ?_
    refine FW.wreg ?_; intro K' hK5
    refine FW.lfun (y := .lit (.int .i64 v0)) hk rfl rfl rfl rfl (FW.f_move hk (FW.holds_nil _) rfl) ?_; clear hk; intro a w hk
    refine FW.lfun (y := .lit (.bool (decide (v0 < 0)))) hk rfl rfl rfl rfl ((FW.f_pure (FW.p_lss hk.kn (FW.holds_nil _) rfl rfl))) ?_; clear hk; intro a w hk
    refine FW.lfun (y := .lit (.string (FW.B ([] : List UInt8)))) hk rfl rfl rfl rfl (FW.f_assign hk (FW.holds_nil _) rfl) ?_; clear hk; intro a w hk
    refine FW.lfun (y := .lit (.bool (decide (v0 < 0)))) hk rfl rfl rfl rfl (FW.f_assign hk (FW.holds_nil _) rfl) ?_; clear hk; intro a w hk
    refine FW.lend (hK5 _ _ ?_); clear hK5 K'
    refine FW.wseq ?_; intro K' hK6
    refine wp_block ?_
    refine FW.wloop (T := Nat × Int × List UInt8 × Bool) (fun x a w => match x with | (kl1, v0, v3, v4) => FW.S M w0 a w 29 [] [(0, [], .lit (.int .i64 v0)), (3, [], .lit (.string (FW.B v3))), (4, [], .lit (.bool v4))] ∧ lex_Number.l1 K kl1 v0 v3 v4 = some r) (fun x => x.1) (K, v0, ([] : List UInt8), (decide (v0 < 0))) ⟨hk.sub ⟨rfl, rfl, rfl, trivial⟩, h⟩ ?_
    clear hk h
    rintro ⟨kl1, v0, v3, v4⟩ a w ⟨hk, h⟩ K' hK7
    cases kl1 with
    | zero => simp [lex_Number.l1] at h
    | succ kl1 =>
    rw [lex_Number.l1.eq_2] at h
    refine FW.wseq ?_; intro K' hK8
    refine FW.wreg ?_; intro K' hK9
    refine FW.lfun (y := .lit (.int .i64 v0)) hk rfl rfl rfl rfl (FW.f_move hk (FW.holds_nil _) rfl) ?_; clear hk; intro a w hk
    refine FW.lfun (y := .lit (.bool (!decide (v0 = 0)))) hk rfl rfl rfl rfl ((FW.f_pure (FW.p_neq hk.kn (FW.holds_nil _) rfl rfl))) ?_; clear hk; intro a w hk
    refine FW.lend (hK9 _ _ ?_); clear hK9 K'
    refine FW.wcondF (b := (!decide (v0 = 0))) hk h rfl (fun h hb => ?_) (fun h hb => ?_)
    · skip
      refine wp_skip ?_
      (repeat first | refine FW.then_normal ?_ | refine FW.block_normal ?_); refine hK8 _ _ ?_
      refine FW.wseq ?_; intro K' hK10
      refine wp_block ?_
      refine FW.wreg ?_; intro K' hK11
      refine FW.lfun (y := .lit (.int .i64 v0)) hk rfl rfl rfl rfl (FW.f_move hk (FW.holds_nil _) rfl) ?_; clear hk; intro a w hk
      refine FW.lfun (y := .lit (.int .i64 (Int.tmod v0 10))) hk rfl rfl rfl rfl ((FW.f_pure (FW.p_rem hk.kn (FW.holds_nil _) rfl rfl (show ¬ (10 : Int) = 0 from by decide)))) ?_; clear hk; intro a w hk
      refine FW.lfun (y := .lit (.int .i64 (Int.tmod v0 10))) hk rfl rfl rfl rfl (FW.f_assign hk (FW.holds_nil _) rfl) ?_; clear hk; intro a w hk
      refine FW.lend (hK11 _ _ ?_); clear hK11 K'
      refine FW.wseqJ (fun a w => ∃ (v0 : Int) (v3 : List UInt8) (v4 : Bool) (v5 : Int), FW.S M w0 a w 29 [] [(0, [], .lit (.int .i64 v0)), (3, [], .lit (.string (FW.B v3))), (4, [], .lit (.bool v4)), (5, [], .lit (.int .i64 v5))] ∧ lex_Number.j1 (lex_Number.l1 K kl1) K v0 v3 v4 v5 = some r) ?_ ?_
      · clear hk h
        rintro a w ⟨v0, v3, v4, v5, hk, h⟩
        unfold lex_Number.j1 at h
        refine FW.wreg1 ?_
        refine FW.lfun (y := .lit (.int .i64 v5)) hk rfl rfl rfl rfl (FW.f_move hk (FW.holds_nil _) rfl) ?_; clear hk; intro a w hk
        refine FW.lfun (y := .lit (.int .i64 v5)) hk rfl rfl rfl rfl (FW.f_move hk (FW.holds_nil _) rfl) ?_; clear hk; intro a w hk
        refine FW.lfun (y := .lit (.int .i64 (IntKind.wrap .i64 (v5 + 1)))) hk rfl rfl rfl rfl ((FW.f_pure (FW.p_add hk.kn (FW.holds_nil _) rfl rfl))) ?_; clear hk; intro a w hk
        obtain ⟨hc1, h⟩ := FW.chk h
        refine FW.lfun (y := .lit (.string (FW.B (List.take (Int.toNat (IntKind.wrap .i64 (v5 + 1)) - Int.toNat v5) (List.drop (Int.toNat v5) ([48, 49, 50, 51, 52, 53, 54, 55, 56, 57, 97, 98, 99, 100, 101, 102] : List UInt8)))))) hk rfl rfl rfl rfl ((FW.f_pure (FW.p_slice Go.Proofs.Try.underlying9 hk.kn (FW.holds_nil _) rfl rfl rfl hc1))) ?_; clear hk; intro a w hk
        refine FW.lfun (y := .lit (.string (FW.B v3))) hk rfl rfl rfl rfl (FW.f_move hk (FW.holds_nil _) rfl) ?_; clear hk; intro a w hk
        obtain ⟨hc2, h⟩ := FW.chk h
        refine FW.lfun (y := .lit (.string (FW.B ((List.take (Int.toNat (IntKind.wrap .i64 (v5 + 1)) - Int.toNat v5) (List.drop (Int.toNat v5) ([48, 49, 50, 51, 52, 53, 54, 55, 56, 57, 97, 98, 99, 100, 101, 102] : List UInt8))) ++ v3)))) hk rfl rfl rfl rfl ((FW.f_pure (FW.p_sadd hk.kn (FW.holds_nil _) rfl rfl hc2))) ?_; clear hk; intro a w hk
        refine FW.lfun (y := .lit (.string (FW.B ((List.take (Int.toNat (IntKind.wrap .i64 (v5 + 1)) - Int.toNat v5) (List.drop (Int.toNat v5) ([48, 49, 50, 51, 52, 53, 54, 55, 56, 57, 97, 98, 99, 100, 101, 102] : List UInt8))) ++ v3)))) hk rfl rfl rfl rfl (FW.f_assign hk (FW.holds_nil _) rfl) ?_; clear hk; intro a w hk
        refine wpList_nil ?_
        (repeat first | refine FW.then_normal ?_ | refine FW.block_normal ?_); refine hK10 _ _ ?_
        refine FW.wreg1 ?_
        refine FW.lfun (y := .lit (.int .i64 v0)) hk rfl rfl rfl rfl (FW.f_move hk (FW.holds_nil _) rfl) ?_; clear hk; intro a w hk
        refine FW.lfun (y := .lit (.int .i64 (IntKind.wrap .i64 (Int.tdiv v0 10)))) hk rfl rfl rfl rfl ((FW.f_pure (FW.p_quo hk.kn (FW.holds_nil _) rfl rfl (show ¬ (10 : Int) = 0 from by decide)))) ?_; clear hk; intro a w hk
        refine FW.lfun (y := .lit (.int .i64 (IntKind.wrap .i64 (Int.tdiv v0 10)))) hk rfl rfl rfl rfl (FW.f_assign hk (FW.holds_nil _) rfl) ?_; clear hk; intro a w hk
        refine wpList_nil ?_
        (repeat first | refine FW.then_normal ?_ | refine FW.block_normal ?_); exact hK7 (kl1, (IntKind.wrap .i64 (Int.tdiv v0 10)), ((List.take (Int.toNat (IntKind.wrap .i64 (v5 + 1)) - Int.toNat v5) (List.drop (Int.toNat v5) ([48, 49, 50, 51, 52, 53, 54, 55, 56, 57, 97, 98, 99, 100, 101, 102] : List UInt8))) ++ v3), v4) _ _ (Nat.lt_succ_self _) ⟨hk.sub ⟨rfl, rfl, rfl, trivial⟩, h⟩
      · intro K' hK12
        refine FW.wreg ?_; intro K' hK15
        refine FW.lfun (y := .lit (.bool v4)) hk rfl rfl rfl rfl (FW.f_move hk (FW.holds_nil _) rfl) ?_; clear hk; intro a w hk
        refine FW.lend (hK15 _ _ ?_); clear hK15 K'
        refine FW.wcondF (b := v4) hk h rfl (fun h hb => ?_) (fun h hb => ?_)
        · skip
          refine FW.wreg1 ?_
          refine FW.lfun (y := .lit (.int .i64 (Int.tmod v0 10))) hk rfl rfl rfl rfl (FW.f_move hk (FW.holds_nil _) rfl) ?_; clear hk; intro a w hk
          refine FW.lfun (y := .lit (.int .i64 (IntKind.wrap .i64 (0 - (Int.tmod v0 10))))) hk rfl rfl rfl rfl ((FW.f_pure (FW.p_neg hk.kn (FW.holds_nil _) rfl))) ?_; clear hk; intro a w hk
          refine FW.lfun (y := .lit (.int .i64 (IntKind.wrap .i64 (0 - (Int.tmod v0 10))))) hk rfl rfl rfl rfl (FW.f_assign hk (FW.holds_nil _) rfl) ?_; clear hk; intro a w hk
          refine wpList_nil ?_
          (repeat first | refine FW.then_normal ?_ | refine FW.block_normal ?_); exact hK12 _ _ ⟨v0, v3, v4, (IntKind.wrap .i64 (0 - (Int.tmod v0 10))), hk.sub ⟨rfl, rfl, rfl, rfl, trivial⟩, h⟩
        · skip
          refine wp_skip ?_
          (repeat first | refine FW.then_normal ?_ | refine FW.block_normal ?_); exact hK12 _ _ ⟨v0, v3, v4, (Int.tmod v0 10), hk.sub ⟨rfl, rfl, rfl, rfl, trivial⟩, h⟩
    · skip
      refine wp_exit ?_; (repeat first | refine FW.then_exit ?_ | refine FW.block_exit_ne rfl ?_); refine FW.block_exit ?_
      (repeat first | refine FW.then_normal ?_ | refine FW.block_normal ?_); refine hK6 _ _ ?_
      refine FW.wseq ?_; intro K' hK17
      refine FW.wreg ?_; intro K' hK18
      refine FW.lfun (y := .lit (.bool v4)) hk rfl rfl rfl rfl (FW.f_move hk (FW.holds_nil _) rfl) ?_; clear hk; intro a w hk
      refine FW.lend (hK18 _ _ ?_); clear hK18 K'
      refine FW.wcondF (b := v4) hk h rfl (fun h hb => ?_) (fun h hb => ?_)
      · skip
        refine FW.wreg ?_; intro K' hK19
        refine FW.lfun (y := .lit (.string (FW.B v3))) hk rfl rfl rfl rfl (FW.f_move hk (FW.holds_nil _) rfl) ?_; clear hk; intro a w hk
        obtain ⟨hc3, h⟩ := FW.chk h
        refine FW.lfun (y := .lit (.string (FW.B (([45] : List UInt8) ++ v3)))) hk rfl rfl rfl rfl ((FW.f_pure (FW.p_sadd hk.kn (FW.holds_nil _) rfl rfl hc3))) ?_; clear hk; intro a w hk
        refine FW.lfun (y := .lit (.string (FW.B (([45] : List UInt8) ++ v3)))) hk rfl rfl rfl rfl (FW.f_assign hk (FW.holds_nil _) rfl) ?_; clear hk; intro a w hk
        refine FW.lend (hK19 _ _ ?_); clear hK19 K'
        refine wp_ret ?_
        (repeat first | refine FW.then_ret ?_ | refine FW.block_ret ?_)
        obtain rfl := Option.some.inj h
        exact FW.fret1 hk rfl rfl
      · skip
        refine wp_skip ?_
        (repeat first | refine FW.then_normal ?_ | refine FW.block_normal ?_); refine hK17 _ _ ?_
        refine FW.wreg ?_; intro K' hK20
        refine FW.lfun (y := .lit (.string (FW.B v3))) hk rfl rfl rfl rfl (FW.f_move hk (FW.holds_nil _) rfl) ?_; clear hk; intro a w hk
        refine FW.lfun (y := .lit (.string (FW.B v3))) hk rfl rfl rfl rfl (FW.f_assign hk (FW.holds_nil _) rfl) ?_; clear hk; intro a w hk
        refine FW.lend (hK20 _ _ ?_); clear hK20 K'
        refine wp_ret ?_
        (repeat first | refine FW.then_ret ?_ | refine FW.block_ret ?_)
        obtain rfl := Option.some.inj h
        exact FW.fret1 hk rfl rfl

theorem lex_Float.ok (K : Nat) (v0 : Nat) (r : List UInt8) (h : lex_Float.f K v0 = some r) :
    FW.Ok Go.Proofs.Try.prog 24 [.lit (.float .f64 v0)] (.lit (.string (FW.B r))) := by
  refine FW.enter (xs := [.lit (.float .f64 v0)]) Go.Proofs.Try.func24 rfl Go.Proofs.Try.ntmps24 rfl ?_
  intro M w0 a hk
  unfold lex_Float.f at h
  refine FW.wreg ?_; intro K' hK1
  refine FW.lfun (y := .lit (.string (FW.B ([] : List UInt8)))) hk rfl rfl rfl rfl (FW.f_assign hk (FW.holds_nil _) rfl) ?_; clear hk; intro a w hk
  refine FW.lend (hK1 _ _ ?_); clear hK1 K'
  refine FW.wreg ?_; intro K' hK2
  refine FW.lfun (y := .lit (.float .f64 v0)) hk rfl rfl rfl rfl (FW.f_move hk (FW.holds_nil _) rfl) ?_; clear hk; intro a w hk
  obtain ⟨t1, hr_t1, h⟩ := FW.bnd h
  refine FW.lfun (y := .lit (.float .f64 t1)) hk rfl rfl rfl rfl (FW.f_call hk (FW.holds_nil _) rfl rfl Go.Proofs.Try.func46 rfl (by kernel_rfl) (num_Canon.ok v0 _ hr_t1)) ?_; clear hk; intro a w hk
  refine FW.lfun (y := .lit (.int .u64 ((t1 : Nat) : Int))) hk rfl rfl rfl rfl (FW.f_bits hk (FW.holds_nil _) rfl rfl Go.Proofs.Try.func25 (by kernel_rfl) (by kernel_rfl) (by kernel_rfl) (by kernel_rfl)) ?_; clear hk; intro a w hk
  refine FW.lfun (y := .lit (.int .u64 ((t1 : Nat) : Int))) hk rfl rfl rfl rfl (FW.f_assign hk (FW.holds_nil _) rfl) ?_; clear hk; intro a w hk
  refine FW.lfun (y := .lit (.string (FW.B ([] : List UInt8)))) hk rfl rfl rfl rfl (FW.f_assign hk (FW.holds_nil _) rfl) ?_; clear hk; intro a w hk
  refine FW.lend (hK2 _ _ ?_); clear hK2 K'
  refine FW.wseq ?_; intro K' hK3
  refine FW.wreg ?_; intro K' hK4
  refine FW.lfun (y := .lit (.int .i64 0)) hk rfl rfl rfl rfl (FW.f_move hk (FW.holds_nil _) rfl) ?_; clear hk; intro a w hk
  refine FW.lend (hK4 _ _ ?_); clear hK4 K'
  refine wp_block ?_
  refine FW.wloop (T := Nat × Int × List UInt8 × Int) (fun x a w => match x with | (kl1, v3, v4, v8) => FW.S M w0 a w 24 [] [(3, [], .lit (.int .u64 v3)), (4, [], .lit (.string (FW.B v4))), (8, [], .lit (.int .i64 v8))] ∧ lex_Float.l1 K kl1 v3 v4 v8 = some r) (fun x => x.1) (K, ((t1 : Nat) : Int), ([] : List UInt8), 0) ⟨hk.sub ⟨rfl, rfl, rfl, trivial⟩, h⟩ ?_
  clear hk h
  rintro ⟨kl1, v3, v4, v8⟩ a w ⟨hk, h⟩ K' hK5
  cases kl1 with
  | zero => simp [lex_Float.l1] at h
  | succ kl1 =>
  rw [lex_Float.l1.eq_2] at h
  refine FW.wreg ?_; intro K' hK6
  refine FW.lfun (y := .lit (.bool (decide (v8 < 16)))) hk rfl rfl rfl rfl ((FW.f_pure (FW.p_lss hk.kn (FW.holds_nil _) rfl rfl))) ?_; clear hk; intro a w hk
  refine FW.lend (hK6 _ _ ?_); clear hK6 K'
  refine FW.wseq ?_; intro K' hK7
  refine FW.wcondF (b := (decide (v8 < 16))) hk h rfl (fun h hb => ?_) (fun h hb => ?_)
  · skip
    refine wp_skip ?_
    (repeat first | refine FW.then_normal ?_ | refine FW.block_normal ?_); refine hK7 _ _ ?_
    refine FW.wseq ?_; intro K' hK8
    refine wp_block ?_
    refine FW.wreg ?_; intro K' hK9
    refine FW.lfun (y := .lit (.int .u64 v3)) hk rfl rfl rfl rfl (FW.f_move hk (FW.holds_nil _) rfl) ?_; clear hk; intro a w hk
    refine FW.lfun (y := .lit (.int .u64 (Int.tmod v3 16))) hk rfl rfl rfl rfl ((FW.f_pure (FW.p_rem hk.kn (FW.holds_nil _) rfl rfl (show ¬ (16 : Int) = 0 from by decide)))) ?_; clear hk; intro a w hk
    refine FW.lfun (y := .lit (.int .u64 v3)) hk rfl rfl rfl rfl (FW.f_move hk (FW.holds_nil _) rfl) ?_; clear hk; intro a w hk
    refine FW.lfun (y := .lit (.int .u64 (Int.tmod v3 16))) hk rfl rfl rfl rfl ((FW.f_pure (FW.p_rem hk.kn (FW.holds_nil _) rfl rfl (show ¬ (16 : Int) = 0 from by decide)))) ?_; clear hk; intro a w hk
    refine FW.lfun (y := .lit (.int .u64 (IntKind.wrap .u64 ((Int.tmod v3 16) + 1)))) hk rfl rfl rfl rfl ((FW.f_pure (FW.p_add hk.kn (FW.holds_nil _) rfl rfl))) ?_; clear hk; intro a w hk
    obtain ⟨hc1, h⟩ := FW.chk h
    refine FW.lfun (y := .lit (.string (FW.B (List.take (Int.toNat (IntKind.wrap .u64 ((Int.tmod v3 16) + 1)) - Int.toNat (Int.tmod v3 16)) (List.drop (Int.toNat (Int.tmod v3 16)) ([48, 49, 50, 51, 52, 53, 54, 55, 56, 57, 97, 98, 99, 100, 101, 102] : List UInt8)))))) hk rfl rfl rfl rfl ((FW.f_pure (FW.p_slice Go.Proofs.Try.underlying9 hk.kn (FW.holds_nil _) rfl rfl rfl hc1))) ?_; clear hk; intro a w hk
    refine FW.lfun (y := .lit (.string (FW.B v4))) hk rfl rfl rfl rfl (FW.f_move hk (FW.holds_nil _) rfl) ?_; clear hk; intro a w hk
    obtain ⟨hc2, h⟩ := FW.chk h
    refine FW.lfun (y := .lit (.string (FW.B ((List.take (Int.toNat (IntKind.wrap .u64 ((Int.tmod v3 16) + 1)) - Int.toNat (Int.tmod v3 16)) (List.drop (Int.toNat (Int.tmod v3 16)) ([48, 49, 50, 51, 52, 53, 54, 55, 56, 57, 97, 98, 99, 100, 101, 102] : List UInt8))) ++ v4)))) hk rfl rfl rfl rfl ((FW.f_pure (FW.p_sadd hk.kn (FW.holds_nil _) rfl rfl hc2))) ?_; clear hk; intro a w hk
    refine FW.lfun (y := .lit (.string (FW.B ((List.take (Int.toNat (IntKind.wrap .u64 ((Int.tmod v3 16) + 1)) - Int.toNat (Int.tmod v3 16)) (List.drop (Int.toNat (Int.tmod v3 16)) ([48, 49, 50, 51, 52, 53, 54, 55, 56, 57, 97, 98, 99, 100, 101, 102] : List UInt8))) ++ v4)))) hk rfl rfl rfl rfl (FW.f_assign hk (FW.holds_nil _) rfl) ?_; clear hk; intro a w hk
    refine FW.lend (hK9 _ _ ?_); clear hK9 K'
    refine FW.wreg1 ?_
    refine FW.lfun (y := .lit (.int .u64 v3)) hk rfl rfl rfl rfl (FW.f_move hk (FW.holds_nil _) rfl) ?_; clear hk; intro a w hk
    refine FW.lfun (y := .lit (.int .u64 (IntKind.wrap .u64 (Int.tdiv v3 16)))) hk rfl rfl rfl rfl ((FW.f_pure (FW.p_quo hk.kn (FW.holds_nil _) rfl rfl (show ¬ (16 : Int) = 0 from by decide)))) ?_; clear hk; intro a w hk
    refine FW.lfun (y := .lit (.int .u64 (IntKind.wrap .u64 (Int.tdiv v3 16)))) hk rfl rfl rfl rfl (FW.f_assign hk (FW.holds_nil _) rfl) ?_; clear hk; intro a w hk
    refine wpList_nil ?_
    (repeat first | refine FW.then_normal ?_ | refine FW.block_normal ?_); refine hK8 _ _ ?_
    refine FW.wreg1 ?_
    refine FW.lfun (y := .lit (.int .i64 (IntKind.wrap .i64 (v8 + 1)))) hk rfl rfl rfl rfl ((FW.f_pure (FW.p_add hk.kn (FW.holds_nil _) rfl rfl))) ?_; clear hk; intro a w hk
    refine FW.lfun (y := .lit (.int .i64 (IntKind.wrap .i64 (v8 + 1)))) hk rfl rfl rfl rfl (FW.f_move hk (FW.holds_nil _) rfl) ?_; clear hk; intro a w hk
    refine wpList_nil ?_
    (repeat first | refine FW.then_normal ?_ | refine FW.block_normal ?_); exact hK5 (kl1, (IntKind.wrap .u64 (Int.tdiv v3 16)), ((List.take (Int.toNat (IntKind.wrap .u64 ((Int.tmod v3 16) + 1)) - Int.toNat (Int.tmod v3 16)) (List.drop (Int.toNat (Int.tmod v3 16)) ([48, 49, 50, 51, 52, 53, 54, 55, 56, 57, 97, 98, 99, 100, 101, 102] : List UInt8))) ++ v4), (IntKind.wrap .i64 (v8 + 1))) _ _ (Nat.lt_succ_self _) ⟨hk.sub ⟨rfl, rfl, rfl, trivial⟩, h⟩
  · skip
    refine wp_exit ?_; (repeat first | refine FW.then_exit ?_ | refine FW.block_exit_ne rfl ?_); refine FW.block_exit ?_
    (repeat first | refine FW.then_normal ?_ | refine FW.block_normal ?_); refine hK3 _ _ ?_
    refine FW.wreg ?_; intro K' hK12
    refine FW.lfun (y := .lit (.string (FW.B v4))) hk rfl rfl rfl rfl (FW.f_move hk (FW.holds_nil _) rfl) ?_; clear hk; intro a w hk
    obtain ⟨hc3, h⟩ := FW.chk h
    refine FW.lfun (y := .lit (.string (FW.B (([102, 39] : List UInt8) ++ v4)))) hk rfl rfl rfl rfl ((FW.f_pure (FW.p_sadd hk.kn (FW.holds_nil _) rfl rfl hc3))) ?_; clear hk; intro a w hk
    obtain ⟨hc4, h⟩ := FW.chk h
    refine FW.lfun (y := .lit (.string (FW.B ((([102, 39] : List UInt8) ++ v4) ++ ([39] : List UInt8))))) hk rfl rfl rfl rfl ((FW.f_pure (FW.p_sadd hk.kn (FW.holds_nil _) rfl rfl hc4))) ?_; clear hk; intro a w hk
    refine FW.lfun (y := .lit (.string (FW.B ((([102, 39] : List UInt8) ++ v4) ++ ([39] : List UInt8))))) hk rfl rfl rfl rfl (FW.f_assign hk (FW.holds_nil _) rfl) ?_; clear hk; intro a w hk
    refine FW.lend (hK12 _ _ ?_); clear hK12 K'
    refine wp_ret ?_
    (repeat first | refine FW.then_ret ?_ | refine FW.block_ret ?_)
    obtain rfl := Option.some.inj h
    exact FW.fret1 hk rfl rfl

theorem offshootref01_Canon.ok  (v0 : Nat) (r : Int) (h : offshootref01_Canon.f v0 = some r) :
    FW.Ok Go.Proofs.Try.prog 26 [.lit (.float .f64 v0)] (.lit (.int .u64 r)) := by
  refine FW.enter (xs := [.lit (.float .f64 v0)]) Go.Proofs.Try.func26 rfl Go.Proofs.Try.ntmps26 rfl ?_
  intro M w0 a hk
  unfold offshootref01_Canon.f at h
  refine FW.wreg ?_; intro K' hK1
  refine FW.lfun (y := .lit (.int .u64 0)) hk rfl rfl rfl rfl (FW.f_assign hk (FW.holds_nil _) rfl) ?_; clear hk; intro a w hk
  refine FW.lend (hK1 _ _ ?_); clear hK1 K'
  refine FW.wseq ?_; intro K' hK2
  refine FW.wreg ?_; intro K' hK3
  refine FW.lfun (y := .lit (.float .f64 v0)) hk rfl rfl rfl rfl (FW.f_move hk (FW.holds_nil _) rfl) ?_; clear hk; intro a w hk
  refine FW.lfun (y := .lit (.float .f64 v0)) hk rfl rfl rfl rfl (FW.f_move hk (FW.holds_nil _) rfl) ?_; clear hk; intro a w hk
  refine FW.lfun (y := .lit (.bool (FW.fneq v0 v0))) hk rfl rfl rfl rfl ((FW.f_pure (FW.p_fneq hk.kn (FW.holds_nil _) rfl rfl))) ?_; clear hk; intro a w hk
  refine FW.lend (hK3 _ _ ?_); clear hK3 K'
  refine FW.wcondF (b := (FW.fneq v0 v0)) hk h rfl (fun h hb => ?_) (fun h hb => ?_)
  · skip
    refine FW.wreg ?_; intro K' hK4
    refine FW.lfun (y := .lit (.int .u64 9221120237041090561)) hk rfl rfl rfl rfl (FW.f_assign hk (FW.holds_nil _) rfl) ?_; clear hk; intro a w hk
    refine FW.lend (hK4 _ _ ?_); clear hK4 K'
    refine wp_ret ?_
    (repeat first | refine FW.then_ret ?_ | refine FW.block_ret ?_)
    obtain rfl := Option.some.inj h
    exact FW.fret1 hk rfl rfl
  · skip
    refine wp_skip ?_
    (repeat first | refine FW.then_normal ?_ | refine FW.block_normal ?_); refine hK2 _ _ ?_
    refine FW.wreg ?_; intro K' hK5
    refine FW.lfun (y := .lit (.float .f64 v0)) hk rfl rfl rfl rfl (FW.f_move hk (FW.holds_nil _) rfl) ?_; clear hk; intro a w hk
    refine FW.lfun (y := .lit (.int .u64 ((v0 : Nat) : Int))) hk rfl rfl rfl rfl (FW.f_bits hk (FW.holds_nil _) rfl rfl Go.Proofs.Try.func25 (by kernel_rfl) (by kernel_rfl) (by kernel_rfl) (by kernel_rfl)) ?_; clear hk; intro a w hk
    refine FW.lfun (y := .lit (.int .u64 ((v0 : Nat) : Int))) hk rfl rfl rfl rfl (FW.f_assign hk (FW.holds_nil _) rfl) ?_; clear hk; intro a w hk
    refine FW.lend (hK5 _ _ ?_); clear hK5 K'
    refine wp_ret ?_
    (repeat first | refine FW.then_ret ?_ | refine FW.block_ret ?_)
    obtain rfl := Option.some.inj h
    exact FW.fret1 hk rfl rfl

theorem offshootlaw11_LexNumbers.ok (K : Nat) (v0 : Int) (v1 : Nat) (r : Bool) (h : offshootlaw11_LexNumbers.f K v0 v1 = some r) :
    FW.Ok Go.Proofs.Try.prog 8 [.lit (.int .i64 v0), .lit (.float .f64 v1)] (.lit (.bool r)) := by
  refine FW.enter (xs := [.lit (.int .i64 v0), .lit (.float .f64 v1)]) Go.Proofs.Try.func8 rfl Go.Proofs.Try.ntmps8 rfl ?_
  intro M w0 a hk
  unfold offshootlaw11_LexNumbers.f at h
  refine FW.wreg ?_; intro K' hK1
  refine FW.lfun (y := .lit (.bool false)) hk rfl rfl rfl rfl (FW.f_assign hk (FW.holds_nil _) rfl) ?_; clear hk; intro a w hk
  refine FW.lend (hK1 _ _ ?_); clear hK1 K'
  refine FW.wreg ?_; intro K' hK2
  refine FW.lfun (y := .lit (.int .i64 v0)) hk rfl rfl rfl rfl (FW.f_move hk (FW.holds_nil _) rfl) ?_; clear hk; intro a w hk
  obtain ⟨t1, hr_t1, h⟩ := FW.bnd h
  refine FW.lfun (y := .lit (.string (FW.B t1))) hk rfl rfl rfl rfl (FW.f_call hk (FW.holds_nil _) rfl rfl Go.Proofs.Try.func23 rfl (by kernel_rfl) (lex_Number.ok K v0 _ hr_t1)) ?_; clear hk; intro a w hk
  obtain ⟨hc1, h⟩ := FW.chk h
  refine FW.lfun (y := .lit (.string (FW.B (t1 ++ ([32] : List UInt8))))) hk rfl rfl rfl rfl ((FW.f_pure (FW.p_sadd hk.kn (FW.holds_nil _) rfl rfl hc1))) ?_; clear hk; intro a w hk
  refine FW.lfun (y := .lit (.float .f64 v1)) hk rfl rfl rfl rfl (FW.f_move hk (FW.holds_nil _) rfl) ?_; clear hk; intro a w hk
  obtain ⟨t2, hr_t2, h⟩ := FW.bnd h
  refine FW.lfun (y := .lit (.string (FW.B t2))) hk rfl rfl rfl rfl (FW.f_call hk (FW.holds_nil _) rfl rfl Go.Proofs.Try.func24 rfl (by kernel_rfl) (lex_Float.ok K v1 _ hr_t2)) ?_; clear hk; intro a w hk
  obtain ⟨hc2, h⟩ := FW.chk h
  refine FW.lfun (y := .lit (.string (FW.B ((t1 ++ ([32] : List UInt8)) ++ t2)))) hk rfl rfl rfl rfl ((FW.f_pure (FW.p_sadd hk.kn (FW.holds_nil _) rfl rfl hc2))) ?_; clear hk; intro a w hk
  obtain ⟨t3, hr_t3, h⟩ := FW.bnd h
  refine FW.lfun (y := .tup [.row (r_ApiWord_cells t3.1), .lit (.int .i64 t3.2.1), .lit (.int .i64 t3.2.2)]) hk rfl rfl rfl rfl (FW.f_call hk (FW.holds_nil _) rfl rfl Go.Proofs.Try.func19 rfl (by kernel_rfl) (lex_Words.ok K ((t1 ++ ([32] : List UInt8)) ++ t2) _ hr_t3)) ?_; clear hk; intro a w hk
  refine FW.lfun (y := .tup [.row (r_ApiWord_cells t3.1), .lit (.int .i64 t3.2.1), .lit (.int .i64 t3.2.2)]) hk rfl rfl rfl rfl (FW.f_move hk (FW.holds_nil _) rfl) ?_; clear hk; intro a w hk
  refine FW.lfun (y := .row (r_ApiWord_cells t3.1)) hk rfl rfl rfl rfl (FW.f_extract hk (FW.holds_nil _) rfl rfl) ?_; clear hk; intro a w hk
  refine FW.lfun (y := .lit (.int .i64 t3.2.1)) hk rfl rfl rfl rfl (FW.f_extract hk (FW.holds_nil _) rfl rfl) ?_; clear hk; intro a w hk
  refine FW.lfun (y := .lit (.int .i64 t3.2.2)) hk rfl rfl rfl rfl (FW.f_extract hk (FW.holds_nil _) rfl rfl) ?_; clear hk; intro a w hk
  refine FW.lfun (y := .row (r_ApiWord_cells t3.1)) hk rfl rfl rfl rfl (FW.f_assign hk (FW.holds_nil _) rfl) ?_; clear hk; intro a w hk
  refine FW.lfun (y := .lit (.int .i64 t3.2.1)) hk rfl rfl rfl rfl (FW.f_assign hk (FW.holds_nil _) rfl) ?_; clear hk; intro a w hk
  refine FW.lfun (y := .lit (.int .i64 t3.2.2)) hk rfl rfl rfl rfl (FW.f_assign hk (FW.holds_nil _) rfl) ?_; clear hk; intro a w hk
  refine FW.lend (hK2 _ _ ?_); clear hK2 K'
  refine FW.wreg ?_; intro K' hK3
  refine FW.lfun (y := .lit (.int .i64 v0)) hk rfl rfl rfl rfl (FW.f_move hk (FW.holds_nil _) rfl) ?_; clear hk; intro a w hk
  obtain ⟨t4, hr_t4, h⟩ := FW.bnd h
  refine FW.lfun (y := .lit (.string (FW.B t4))) hk rfl rfl rfl rfl (FW.f_call hk (FW.holds_nil _) rfl rfl Go.Proofs.Try.func23 rfl (by kernel_rfl) (lex_Number.ok K v0 _ hr_t4)) ?_; clear hk; intro a w hk
  obtain ⟨t5, hr_t5, h⟩ := FW.bnd h
  refine FW.lfun (y := .tup [.lit (.int .i64 t5.1), .lit (.bool t5.2)]) hk rfl rfl rfl rfl (FW.f_call hk (FW.holds_nil _) rfl rfl Go.Proofs.Try.func18 rfl (by kernel_rfl) (offshootref11_Int.ok K t4 _ hr_t5)) ?_; clear hk; intro a w hk
  refine FW.lfun (y := .tup [.lit (.int .i64 t5.1), .lit (.bool t5.2)]) hk rfl rfl rfl rfl (FW.f_move hk (FW.holds_nil _) rfl) ?_; clear hk; intro a w hk
  refine FW.lfun (y := .lit (.int .i64 t5.1)) hk rfl rfl rfl rfl (FW.f_extract hk (FW.holds_nil _) rfl rfl) ?_; clear hk; intro a w hk
  refine FW.lfun (y := .lit (.bool t5.2)) hk rfl rfl rfl rfl (FW.f_extract hk (FW.holds_nil _) rfl rfl) ?_; clear hk; intro a w hk
  refine FW.lfun (y := .lit (.int .i64 t5.1)) hk rfl rfl rfl rfl (FW.f_assign hk (FW.holds_nil _) rfl) ?_; clear hk; intro a w hk
  refine FW.lfun (y := .lit (.bool t5.2)) hk rfl rfl rfl rfl (FW.f_assign hk (FW.holds_nil _) rfl) ?_; clear hk; intro a w hk
  refine FW.lend (hK3 _ _ ?_); clear hK3 K'
  refine FW.wreg ?_; intro K' hK4
  obtain ⟨t6, hr_t6, h⟩ := FW.bnd h
  refine FW.lfun (y := .lit (.bool t6)) hk rfl rfl rfl rfl (FW.f_call hk (FW.holds_nil _) rfl rfl Go.Proofs.Try.func20 rfl (by kernel_rfl) (offshootlaw11_awake.ok K  _ hr_t6)) ?_; clear hk; intro a w hk
  refine FW.lfun (y := .lit (.bool t6)) hk rfl rfl rfl rfl (FW.f_move hk (FW.holds_nil _) rfl) ?_; clear hk; intro a w hk
  refine FW.lfunG (y := .lit (.bool t5.2)) hk rfl rfl rfl rfl rfl rfl rfl rfl (fun hc => FW.f_move hk hc rfl) ?_; clear hk; intro a w hk
  refine FW.lfun (y := .lit (.bool (t6 && t5.2))) hk rfl rfl rfl rfl ((FW.f_pure (FW.p_pick_and hk.kn (FW.holds_nil _) rfl rfl))) ?_; clear hk; intro a w hk
  refine FW.lfun (y := .lit (.bool (t6 && t5.2))) hk rfl rfl rfl rfl (FW.f_move hk (FW.holds_nil _) rfl) ?_; clear hk; intro a w hk
  refine FW.lfunG (y := .lit (.int .i64 t5.1)) hk rfl rfl rfl rfl rfl rfl rfl rfl (fun hc => FW.f_move hk hc rfl) ?_; clear hk; intro a w hk
  refine FW.lfunG (y := .lit (.int .i64 v0)) hk rfl rfl rfl rfl rfl rfl rfl rfl (fun hc => FW.f_move hk hc rfl) ?_; clear hk; intro a w hk
  refine FW.lfunG (y := .lit (.bool (decide (t5.1 = v0)))) hk rfl rfl rfl rfl rfl rfl rfl rfl (fun hc => (FW.f_pure (FW.p_eql hk.kn hc rfl rfl))) ?_; clear hk; intro a w hk
  refine FW.lfun (y := .lit (.bool ((t6 && t5.2) && (decide (t5.1 = v0))))) hk rfl rfl rfl rfl ((FW.f_pure (FW.p_pick_and hk.kn (FW.holds_nil _) rfl rfl))) ?_; clear hk; intro a w hk
  refine FW.lfun (y := .lit (.bool ((t6 && t5.2) && (decide (t5.1 = v0))))) hk rfl rfl rfl rfl (FW.f_move hk (FW.holds_nil _) rfl) ?_; clear hk; intro a w hk
  refine FW.lfunG (y := .lit (.int .i64 t3.2.2)) hk rfl rfl rfl rfl rfl rfl rfl rfl (fun hc => FW.f_move hk hc rfl) ?_; clear hk; intro a w hk
  refine FW.lfunG (y := .lit (.bool (decide (t3.2.2 = 0)))) hk rfl rfl rfl rfl rfl rfl rfl rfl (fun hc => (FW.f_pure (FW.p_eql hk.kn hc rfl rfl))) ?_; clear hk; intro a w hk
  refine FW.lfun (y := .lit (.bool (((t6 && t5.2) && (decide (t5.1 = v0))) && (decide (t3.2.2 = 0))))) hk rfl rfl rfl rfl ((FW.f_pure (FW.p_pick_and hk.kn (FW.holds_nil _) rfl rfl))) ?_; clear hk; intro a w hk
  refine FW.lfun (y := .lit (.bool (((t6 && t5.2) && (decide (t5.1 = v0))) && (decide (t3.2.2 = 0))))) hk rfl rfl rfl rfl (FW.f_move hk (FW.holds_nil _) rfl) ?_; clear hk; intro a w hk
  refine FW.lfunG (y := .row (r_ApiWord_cells t3.1)) hk rfl rfl rfl rfl rfl rfl rfl rfl (fun hc => FW.f_move hk hc rfl) ?_; clear hk; intro a w hk
  refine FW.lfunG (y := .lit (.int .i64 (List.length t3.1 : Int))) hk rfl rfl rfl rfl rfl rfl rfl rfl (fun hc => FW.f_len (R := r_ApiWord_cells) (f := ApiWord.cells) (l := t3.1) r_ApiWord_cells_eq Go.Proofs.Try.underlying48 hk hc rfl) ?_; clear hk; intro a w hk
  refine FW.lfunG (y := .lit (.bool (decide ((List.length t3.1 : Int) = 3)))) hk rfl rfl rfl rfl rfl rfl rfl rfl (fun hc => (FW.f_pure (FW.p_eql hk.kn hc rfl rfl))) ?_; clear hk; intro a w hk
  refine FW.lfun (y := .lit (.bool ((((t6 && t5.2) && (decide (t5.1 = v0))) && (decide (t3.2.2 = 0))) && (decide ((List.length t3.1 : Int) = 3))))) hk rfl rfl rfl rfl ((FW.f_pure (FW.p_pick_and hk.kn (FW.holds_nil _) rfl rfl))) ?_; clear hk; intro a w hk
  refine FW.lfun (y := .lit (.bool ((((t6 && t5.2) && (decide (t5.1 = v0))) && (decide (t3.2.2 = 0))) && (decide ((List.length t3.1 : Int) = 3))))) hk rfl rfl rfl rfl (FW.f_move hk (FW.holds_nil _) rfl) ?_; clear hk; intro a w hk
  refine FW.lfunG (y := .row (r_ApiWord_cells t3.1)) hk rfl rfl rfl rfl rfl rfl rfl rfl (fun hc => FW.f_move hk hc rfl) ?_; clear hk; intro a w hk
  obtain ⟨hc3, h⟩ := FW.chk h
  refine FW.lfunG (y := .ref (ApiWord.cells (List.getD t3.1 (Int.toNat 0) default))) hk rfl rfl rfl rfl rfl rfl rfl rfl (fun hc => FW.f_indexAddr (R := r_ApiWord_cells) (f := ApiWord.cells) (l := t3.1) (sz := 5) r_ApiWord_cells_eq (fun _ => rfl) hk hc rfl rfl Go.Proofs.Try.underlying48 (by kernel_rfl) hc3) ?_; clear hk; intro a w hk
  refine FW.lfunG (y := .ref (List.drop 0 (ApiWord.cells (List.getD t3.1 (Int.toNat 0) default)))) hk rfl rfl rfl rfl rfl rfl rfl rfl (fun hc => FW.f_fieldAddr hk hc rfl Go.Proofs.Try.underlying52 rfl (by kernel_rfl) rfl) ?_; clear hk; intro a w hk
  refine FW.lfunG (y := .lit (.int .i64 ((List.getD t3.1 (Int.toNat 0) default).Kind))) hk rfl rfl rfl rfl rfl rfl rfl rfl (fun hc => FW.f_load1 hk hc rfl rfl Go.Proofs.Try.underlying3 rfl) ?_; clear hk; intro a w hk
  refine FW.lfunG (y := .lit (.bool (decide (((List.getD t3.1 (Int.toNat 0) default).Kind) = 2)))) hk rfl rfl rfl rfl rfl rfl rfl rfl (fun hc => (FW.f_pure (FW.p_eql hk.kn hc rfl rfl))) ?_; clear hk; intro a w hk
  refine FW.lfun (y := .lit (.bool (((((t6 && t5.2) && (decide (t5.1 = v0))) && (decide (t3.2.2 = 0))) && (decide ((List.length t3.1 : Int) = 3))) && (decide (((List.getD t3.1 (Int.toNat 0) default).Kind) = 2))))) hk rfl rfl rfl rfl ((FW.f_pure (FW.p_pick_and hk.kn (FW.holds_nil _) rfl rfl))) ?_; clear hk; intro a w hk
  refine FW.lfun (y := .lit (.bool (((((t6 && t5.2) && (decide (t5.1 = v0))) && (decide (t3.2.2 = 0))) && (decide ((List.length t3.1 : Int) = 3))) && (decide (((List.getD t3.1 (Int.toNat 0) default).Kind) = 2))))) hk rfl rfl rfl rfl (FW.f_move hk (FW.holds_nil _) rfl) ?_; clear hk; intro a w hk
  refine FW.lfunG (y := .row (r_ApiWord_cells t3.1)) hk rfl rfl rfl rfl rfl rfl rfl rfl (fun hc => FW.f_move hk hc rfl) ?_; clear hk; intro a w hk
  obtain ⟨hc4, h⟩ := FW.chk h
  refine FW.lfunG (y := .ref (ApiWord.cells (List.getD t3.1 (Int.toNat 0) default))) hk rfl rfl rfl rfl rfl rfl rfl rfl (fun hc => FW.f_indexAddr (R := r_ApiWord_cells) (f := ApiWord.cells) (l := t3.1) (sz := 5) r_ApiWord_cells_eq (fun _ => rfl) hk hc rfl rfl Go.Proofs.Try.underlying48 (by kernel_rfl) hc4) ?_; clear hk; intro a w hk
  refine FW.lfunG (y := .ref (List.drop 2 (ApiWord.cells (List.getD t3.1 (Int.toNat 0) default)))) hk rfl rfl rfl rfl rfl rfl rfl rfl (fun hc => FW.f_fieldAddr hk hc rfl Go.Proofs.Try.underlying52 rfl (by kernel_rfl) rfl) ?_; clear hk; intro a w hk
  refine FW.lfunG (y := .lit (.int .i64 ((List.getD t3.1 (Int.toNat 0) default).N))) hk rfl rfl rfl rfl rfl rfl rfl rfl (fun hc => FW.f_load1 hk hc rfl rfl Go.Proofs.Try.underlying2 rfl) ?_; clear hk; intro a w hk
  refine FW.lfunG (y := .lit (.int .i64 v0)) hk rfl rfl rfl rfl rfl rfl rfl rfl (fun hc => FW.f_move hk hc rfl) ?_; clear hk; intro a w hk
  refine FW.lfunG (y := .lit (.bool (decide (((List.getD t3.1 (Int.toNat 0) default).N) = v0)))) hk rfl rfl rfl rfl rfl rfl rfl rfl (fun hc => (FW.f_pure (FW.p_eql hk.kn hc rfl rfl))) ?_; clear hk; intro a w hk
  refine FW.lfun (y := .lit (.bool ((((((t6 && t5.2) && (decide (t5.1 = v0))) && (decide (t3.2.2 = 0))) && (decide ((List.length t3.1 : Int) = 3))) && (decide (((List.getD t3.1 (Int.toNat 0) default).Kind) = 2))) && (decide (((List.getD t3.1 (Int.toNat 0) default).N) = v0))))) hk rfl rfl rfl rfl ((FW.f_pure (FW.p_pick_and hk.kn (FW.holds_nil _) rfl rfl))) ?_; clear hk; intro a w hk
  refine FW.lfun (y := .lit (.bool ((((((t6 && t5.2) && (decide (t5.1 = v0))) && (decide (t3.2.2 = 0))) && (decide ((List.length t3.1 : Int) = 3))) && (decide (((List.getD t3.1 (Int.toNat 0) default).Kind) = 2))) && (decide (((List.getD t3.1 (Int.toNat 0) default).N) = v0))))) hk rfl rfl rfl rfl (FW.f_move hk (FW.holds_nil _) rfl) ?_; clear hk; intro a w hk
  refine FW.lfunG (y := .row (r_ApiWord_cells t3.1)) hk rfl rfl rfl rfl rfl rfl rfl rfl (fun hc => FW.f_move hk hc rfl) ?_; clear hk; intro a w hk
  obtain ⟨hc5, h⟩ := FW.chk h
  refine FW.lfunG (y := .ref (ApiWord.cells (List.getD t3.1 (Int.toNat 1) default))) hk rfl rfl rfl rfl rfl rfl rfl rfl (fun hc => FW.f_indexAddr (R := r_ApiWord_cells) (f := ApiWord.cells) (l := t3.1) (sz := 5) r_ApiWord_cells_eq (fun _ => rfl) hk hc rfl rfl Go.Proofs.Try.underlying48 (by kernel_rfl) hc5) ?_; clear hk; intro a w hk
  refine FW.lfunG (y := .ref (List.drop 0 (ApiWord.cells (List.getD t3.1 (Int.toNat 1) default)))) hk rfl rfl rfl rfl rfl rfl rfl rfl (fun hc => FW.f_fieldAddr hk hc rfl Go.Proofs.Try.underlying52 rfl (by kernel_rfl) rfl) ?_; clear hk; intro a w hk
  refine FW.lfunG (y := .lit (.int .i64 ((List.getD t3.1 (Int.toNat 1) default).Kind))) hk rfl rfl rfl rfl rfl rfl rfl rfl (fun hc => FW.f_load1 hk hc rfl rfl Go.Proofs.Try.underlying3 rfl) ?_; clear hk; intro a w hk
  refine FW.lfunG (y := .lit (.bool (decide (((List.getD t3.1 (Int.toNat 1) default).Kind) = 3)))) hk rfl rfl rfl rfl rfl rfl rfl rfl (fun hc => (FW.f_pure (FW.p_eql hk.kn hc rfl rfl))) ?_; clear hk; intro a w hk
  refine FW.lfun (y := .lit (.bool (((((((t6 && t5.2) && (decide (t5.1 = v0))) && (decide (t3.2.2 = 0))) && (decide ((List.length t3.1 : Int) = 3))) && (decide (((List.getD t3.1 (Int.toNat 0) default).Kind) = 2))) && (decide (((List.getD t3.1 (Int.toNat 0) default).N) = v0))) && (decide (((List.getD t3.1 (Int.toNat 1) default).Kind) = 3))))) hk rfl rfl rfl rfl ((FW.f_pure (FW.p_pick_and hk.kn (FW.holds_nil _) rfl rfl))) ?_; clear hk; intro a w hk
  refine FW.lfun (y := .lit (.bool (((((((t6 && t5.2) && (decide (t5.1 = v0))) && (decide (t3.2.2 = 0))) && (decide ((List.length t3.1 : Int) = 3))) && (decide (((List.getD t3.1 (Int.toNat 0) default).Kind) = 2))) && (decide (((List.getD t3.1 (Int.toNat 0) default).N) = v0))) && (decide (((List.getD t3.1 (Int.toNat 1) default).Kind) = 3))))) hk rfl rfl rfl rfl (FW.f_move hk (FW.holds_nil _) rfl) ?_; clear hk; intro a w hk
  refine FW.lfunG (y := .row (r_ApiWord_cells t3.1)) hk rfl rfl rfl rfl rfl rfl rfl rfl (fun hc => FW.f_move hk hc rfl) ?_; clear hk; intro a w hk
  obtain ⟨hc6, h⟩ := FW.chk h
  refine FW.lfunG (y := .ref (ApiWord.cells (List.getD t3.1 (Int.toNat 1) default))) hk rfl rfl rfl rfl rfl rfl rfl rfl (fun hc => FW.f_indexAddr (R := r_ApiWord_cells) (f := ApiWord.cells) (l := t3.1) (sz := 5) r_ApiWord_cells_eq (fun _ => rfl) hk hc rfl rfl Go.Proofs.Try.underlying48 (by kernel_rfl) hc6) ?_; clear hk; intro a w hk
  refine FW.lfunG (y := .ref (List.drop 3 (ApiWord.cells (List.getD t3.1 (Int.toNat 1) default)))) hk rfl rfl rfl rfl rfl rfl rfl rfl (fun hc => FW.f_fieldAddr hk hc rfl Go.Proofs.Try.underlying52 rfl (by kernel_rfl) rfl) ?_; clear hk; intro a w hk
  refine FW.lfunG (y := .lit (.float .f64 ((List.getD t3.1 (Int.toNat 1) default).F))) hk rfl rfl rfl rfl rfl rfl rfl rfl (fun hc => FW.f_load1 hk hc rfl rfl Go.Proofs.Try.underlying30 rfl) ?_; clear hk; intro a w hk
  refine FW.lfunG (y := .lit (.int .u64 ((((List.getD t3.1 (Int.toNat 1) default).F) : Nat) : Int))) hk rfl rfl rfl rfl rfl rfl rfl rfl (fun hc => FW.f_bits hk hc rfl rfl Go.Proofs.Try.func25 (by kernel_rfl) (by kernel_rfl) (by kernel_rfl) (by kernel_rfl)) ?_; clear hk; intro a w hk
  refine FW.lfunG (y := .lit (.float .f64 v1)) hk rfl rfl rfl rfl rfl rfl rfl rfl (fun hc => FW.f_move hk hc rfl) ?_; clear hk; intro a w hk
  obtain ⟨t7, hr_t7, h⟩ := FW.bndG h
  refine FW.lfunG (y := .lit (.int .u64 t7)) hk rfl rfl rfl rfl rfl rfl rfl rfl (fun hc => FW.f_call hk hc rfl rfl Go.Proofs.Try.func26 rfl (by kernel_rfl) (offshootref01_Canon.ok v1 _ (hr_t7 (FW.asm_out (p := (((((((t6 && t5.2) && (decide (t5.1 = v0))) && (decide (t3.2.2 = 0))) && (decide ((List.length t3.1 : Int) = 3))) && (decide (((List.getD t3.1 (Int.toNat 0) default).Kind) = 2))) && (decide (((List.getD t3.1 (Int.toNat 0) default).N) = v0))) && (decide (((List.getD t3.1 (Int.toNat 1) default).Kind) = 3))) = true) hk.kn hc (fun e0 => e0))))) ?_; clear hk; intro a w hk
  refine FW.lfunG (y := .lit (.bool (decide (((((List.getD t3.1 (Int.toNat 1) default).F) : Nat) : Int) = t7)))) hk rfl rfl rfl rfl rfl rfl rfl rfl (fun hc => (FW.f_pure (FW.p_eql hk.kn hc rfl rfl))) ?_; clear hk; intro a w hk
  refine FW.lfun (y := .lit (.bool ((((((((t6 && t5.2) && (decide (t5.1 = v0))) && (decide (t3.2.2 = 0))) && (decide ((List.length t3.1 : Int) = 3))) && (decide (((List.getD t3.1 (Int.toNat 0) default).Kind) = 2))) && (decide (((List.getD t3.1 (Int.toNat 0) default).N) = v0))) && (decide (((List.getD t3.1 (Int.toNat 1) default).Kind) = 3))) && (decide (((((List.getD t3.1 (Int.toNat 1) default).F) : Nat) : Int) = t7))))) hk rfl rfl rfl rfl ((FW.f_pure (FW.p_pick_and hk.kn (FW.holds_nil _) rfl rfl))) ?_; clear hk; intro a w hk
  refine FW.lfun (y := .lit (.bool ((((((((t6 && t5.2) && (decide (t5.1 = v0))) && (decide (t3.2.2 = 0))) && (decide ((List.length t3.1 : Int) = 3))) && (decide (((List.getD t3.1 (Int.toNat 0) default).Kind) = 2))) && (decide (((List.getD t3.1 (Int.toNat 0) default).N) = v0))) && (decide (((List.getD t3.1 (Int.toNat 1) default).Kind) = 3))) && (decide (((((List.getD t3.1 (Int.toNat 1) default).F) : Nat) : Int) = t7))))) hk rfl rfl rfl rfl (FW.f_move hk (FW.holds_nil _) rfl) ?_; clear hk; intro a w hk
  refine FW.lfunG (y := .lit (.float .f64 v1)) hk rfl rfl rfl rfl rfl rfl rfl rfl (fun hc => FW.f_move hk hc rfl) ?_; clear hk; intro a w hk
  obtain ⟨t8, hr_t8, h⟩ := FW.bndG h
  refine FW.lfunG (y := .lit (.string (FW.B t8))) hk rfl rfl rfl rfl rfl rfl rfl rfl (fun hc => FW.f_call hk hc rfl rfl Go.Proofs.Try.func24 rfl (by kernel_rfl) (lex_Float.ok K v1 _ (hr_t8 (FW.asm_out (p := ((((((((t6 && t5.2) && (decide (t5.1 = v0))) && (decide (t3.2.2 = 0))) && (decide ((List.length t3.1 : Int) = 3))) && (decide (((List.getD t3.1 (Int.toNat 0) default).Kind) = 2))) && (decide (((List.getD t3.1 (Int.toNat 0) default).N) = v0))) && (decide (((List.getD t3.1 (Int.toNat 1) default).Kind) = 3))) && (decide (((((List.getD t3.1 (Int.toNat 1) default).F) : Nat) : Int) = t7))) = true) hk.kn hc (fun e0 => e0))))) ?_; clear hk; intro a w hk
  refine FW.lfunG (y := .lit (.int .i64 (List.length t8 : Int))) hk rfl rfl rfl rfl rfl rfl rfl rfl (fun hc => (FW.f_pure (FW.p_slen Go.Proofs.Try.underlying9 hk.kn hc rfl))) ?_; clear hk; intro a w hk
  refine FW.lfunG (y := .lit (.bool (decide ((List.length t8 : Int) = 19)))) hk rfl rfl rfl rfl rfl rfl rfl rfl (fun hc => (FW.f_pure (FW.p_eql hk.kn hc rfl rfl))) ?_; clear hk; intro a w hk
  refine FW.lfun (y := .lit (.bool (((((((((t6 && t5.2) && (decide (t5.1 = v0))) && (decide (t3.2.2 = 0))) && (decide ((List.length t3.1 : Int) = 3))) && (decide (((List.getD t3.1 (Int.toNat 0) default).Kind) = 2))) && (decide (((List.getD t3.1 (Int.toNat 0) default).N) = v0))) && (decide (((List.getD t3.1 (Int.toNat 1) default).Kind) = 3))) && (decide (((((List.getD t3.1 (Int.toNat 1) default).F) : Nat) : Int) = t7))) && (decide ((List.length t8 : Int) = 19))))) hk rfl rfl rfl rfl ((FW.f_pure (FW.p_pick_and hk.kn (FW.holds_nil _) rfl rfl))) ?_; clear hk; intro a w hk
  refine FW.lfun (y := .lit (.bool (((((((((t6 && t5.2) && (decide (t5.1 = v0))) && (decide (t3.2.2 = 0))) && (decide ((List.length t3.1 : Int) = 3))) && (decide (((List.getD t3.1 (Int.toNat 0) default).Kind) = 2))) && (decide (((List.getD t3.1 (Int.toNat 0) default).N) = v0))) && (decide (((List.getD t3.1 (Int.toNat 1) default).Kind) = 3))) && (decide (((((List.getD t3.1 (Int.toNat 1) default).F) : Nat) : Int) = t7))) && (decide ((List.length t8 : Int) = 19))))) hk rfl rfl rfl rfl (FW.f_assign hk (FW.holds_nil _) rfl) ?_; clear hk; intro a w hk
  refine FW.lend (hK4 _ _ ?_); clear hK4 K'
  refine wp_ret ?_
  (repeat first | refine FW.then_ret ?_ | refine FW.block_ret ?_)
  obtain rfl := Option.some.inj h
  exact FW.fret1 hk rfl rfl
end Go.Proofs.Ytfmabehmohbahaa

/- Written by a program of this session (gen.py): the contracts of functions of the program. -/
import Derived.KernelRfl
import Derived.Test.YtfmabehmohbahaaProg
import Derived.Test.YtfmabehmohbahaaAvFun
import Derived.Test.YtfmabehmohbahaaAvMan
import Derived.Test.YtfmabehmohbahaaAvDraw2
import Derived.Test.YtfmabehmohbahaaAvRow
import Derived.Test.YtfmabehmohbahaaAvBld
import Derived.Test.YtfmabehmohbahaaLexD
import Derived.Test.YtfmabehmohbahaaLexP0
namespace Go.Proofs.Ytfmabehmohbahaa
set_option linter.unusedVariables false
set_option maxRecDepth 20000
set_option maxHeartbeats 1000000
theorem offshootlaw11_LexPlaces.ok (K : Nat) (v0 : List UInt8) (r : Bool) (h : offshootlaw11_LexPlaces.f K v0 = some r) :
    FW.Ok Go.Proofs.Try.prog 6 [.lit (.string (FW.B v0))] (.lit (.bool r)) := by
  refine FW.enter (xs := [.lit (.string (FW.B v0))]) Go.Proofs.Try.func6 rfl Go.Proofs.Try.ntmps6 rfl ?_
  intro M w0 a hk
  unfold offshootlaw11_LexPlaces.f at h
  refine FW.wreg ?_; intro K' hK1
  refine FW.lfun (y := .lit (.bool false)) hk rfl rfl rfl rfl (FW.f_assign hk (FW.holds_nil _) rfl) ?_; clear hk; intro a w hk
  refine FW.lend (hK1 _ _ ?_); clear hK1 K'
  refine FW.wreg ?_; intro K' hK2
  refine FW.lfun (y := .lit (.string (FW.B v0))) hk rfl rfl rfl rfl (FW.f_move hk (FW.holds_nil _) rfl) ?_; clear hk; intro a w hk
  obtain ⟨t1, hr_t1, h⟩ := FW.bnd h
  refine FW.lfun (y := .tup [.row (r_ApiWord_cells t1.1), .lit (.int .i64 t1.2.1), .lit (.int .i64 t1.2.2)]) hk rfl rfl rfl rfl (FW.f_call hk (FW.holds_nil _) rfl rfl Go.Proofs.Try.func19 rfl (by kernel_rfl) (lex_Words.ok K v0 _ hr_t1)) ?_; clear hk; intro a w hk
  refine FW.lfun (y := .tup [.row (r_ApiWord_cells t1.1), .lit (.int .i64 t1.2.1), .lit (.int .i64 t1.2.2)]) hk rfl rfl rfl rfl (FW.f_move hk (FW.holds_nil _) rfl) ?_; clear hk; intro a w hk
  refine FW.lfun (y := .row (r_ApiWord_cells t1.1)) hk rfl rfl rfl rfl (FW.f_extract hk (FW.holds_nil _) rfl rfl) ?_; clear hk; intro a w hk
  refine FW.lfun (y := .lit (.int .i64 t1.2.1)) hk rfl rfl rfl rfl (FW.f_extract hk (FW.holds_nil _) rfl rfl) ?_; clear hk; intro a w hk
  refine FW.lfun (y := .lit (.int .i64 t1.2.2)) hk rfl rfl rfl rfl (FW.f_extract hk (FW.holds_nil _) rfl rfl) ?_; clear hk; intro a w hk
  refine FW.lfun (y := .row (r_ApiWord_cells t1.1)) hk rfl rfl rfl rfl (FW.f_assign hk (FW.holds_nil _) rfl) ?_; clear hk; intro a w hk
  refine FW.lfun (y := .lit (.int .i64 t1.2.1)) hk rfl rfl rfl rfl (FW.f_assign hk (FW.holds_nil _) rfl) ?_; clear hk; intro a w hk
  refine FW.lfun (y := .lit (.int .i64 t1.2.2)) hk rfl rfl rfl rfl (FW.f_assign hk (FW.holds_nil _) rfl) ?_; clear hk; intro a w hk
  refine FW.lend (hK2 _ _ ?_); clear hK2 K'
  refine FW.wseq ?_; intro K' hK3
  refine FW.wreg ?_; intro K' hK4
  obtain ⟨t2, hr_t2, h⟩ := FW.bnd h
  refine FW.lfun (y := .lit (.bool t2)) hk rfl rfl rfl rfl (FW.f_call hk (FW.holds_nil _) rfl rfl Go.Proofs.Try.func20 rfl (by kernel_rfl) (offshootlaw11_awake.ok K  _ hr_t2)) ?_; clear hk; intro a w hk
  refine FW.lfun (y := .lit (.bool (!t2))) hk rfl rfl rfl rfl ((FW.f_pure (FW.p_not hk.kn (FW.holds_nil _) rfl))) ?_; clear hk; intro a w hk
  refine FW.lfun (y := .lit (.bool (!t2))) hk rfl rfl rfl rfl (FW.f_move hk (FW.holds_nil _) rfl) ?_; clear hk; intro a w hk
  refine FW.lfunG (y := .lit (.int .i64 t1.2.2)) hk rfl rfl rfl rfl rfl rfl rfl rfl (fun hc => FW.f_move hk hc rfl) ?_; clear hk; intro a w hk
  refine FW.lfunG (y := .lit (.bool (!decide (t1.2.2 = 0)))) hk rfl rfl rfl rfl rfl rfl rfl rfl (fun hc => (FW.f_pure (FW.p_neq hk.kn hc rfl rfl))) ?_; clear hk; intro a w hk
  refine FW.lfun (y := .lit (.bool ((!t2) || (!decide (t1.2.2 = 0))))) hk rfl rfl rfl rfl ((FW.f_pure (FW.p_pick_or hk.kn (FW.holds_nil _) rfl rfl))) ?_; clear hk; intro a w hk
  refine FW.lfun (y := .lit (.bool ((!t2) || (!decide (t1.2.2 = 0))))) hk rfl rfl rfl rfl (FW.f_move hk (FW.holds_nil _) rfl) ?_; clear hk; intro a w hk
  refine FW.lfunG (y := .row (r_ApiWord_cells t1.1)) hk rfl rfl rfl rfl rfl rfl rfl rfl (fun hc => FW.f_move hk hc rfl) ?_; clear hk; intro a w hk
  refine FW.lfunG (y := .lit (.int .i64 (List.length t1.1 : Int))) hk rfl rfl rfl rfl rfl rfl rfl rfl (fun hc => FW.f_len (R := r_ApiWord_cells) (f := ApiWord.cells) (l := t1.1) r_ApiWord_cells_eq Go.Proofs.Try.underlying48 hk hc rfl) ?_; clear hk; intro a w hk
  refine FW.lfunG (y := .lit (.bool (decide ((List.length t1.1 : Int) = 0)))) hk rfl rfl rfl rfl rfl rfl rfl rfl (fun hc => (FW.f_pure (FW.p_eql hk.kn hc rfl rfl))) ?_; clear hk; intro a w hk
  refine FW.lfun (y := .lit (.bool (((!t2) || (!decide (t1.2.2 = 0))) || (decide ((List.length t1.1 : Int) = 0))))) hk rfl rfl rfl rfl ((FW.f_pure (FW.p_pick_or hk.kn (FW.holds_nil _) rfl rfl))) ?_; clear hk; intro a w hk
  refine FW.lend (hK4 _ _ ?_); clear hK4 K'
  refine FW.wcondF (b := (((!t2) || (!decide (t1.2.2 = 0))) || (decide ((List.length t1.1 : Int) = 0)))) hk h rfl (fun h hb => ?_) (fun h hb => ?_)
  · skip
    refine FW.wreg ?_; intro K' hK5
    obtain ⟨t3, hr_t3, h⟩ := FW.bnd h
    refine FW.lfun (y := .lit (.bool t3)) hk rfl rfl rfl rfl (FW.f_call hk (FW.holds_nil _) rfl rfl Go.Proofs.Try.func20 rfl (by kernel_rfl) (offshootlaw11_awake.ok K  _ hr_t3)) ?_; clear hk; intro a w hk
    refine FW.lfun (y := .lit (.bool t3)) hk rfl rfl rfl rfl (FW.f_move hk (FW.holds_nil _) rfl) ?_; clear hk; intro a w hk
    refine FW.lfunG (y := .lit (.int .i64 t1.2.2)) hk rfl rfl rfl rfl rfl rfl rfl rfl (fun hc => FW.f_move hk hc rfl) ?_; clear hk; intro a w hk
    refine FW.lfunG (y := .lit (.bool (!decide (t1.2.2 = 0)))) hk rfl rfl rfl rfl rfl rfl rfl rfl (fun hc => (FW.f_pure (FW.p_neq hk.kn hc rfl rfl))) ?_; clear hk; intro a w hk
    refine FW.lfun (y := .lit (.bool (t3 && (!decide (t1.2.2 = 0))))) hk rfl rfl rfl rfl ((FW.f_pure (FW.p_pick_and hk.kn (FW.holds_nil _) rfl rfl))) ?_; clear hk; intro a w hk
    refine FW.lfun (y := .lit (.bool (t3 && (!decide (t1.2.2 = 0))))) hk rfl rfl rfl rfl (FW.f_assign hk (FW.holds_nil _) rfl) ?_; clear hk; intro a w hk
    refine FW.lend (hK5 _ _ ?_); clear hK5 K'
    refine wp_ret ?_
    (repeat first | refine FW.then_ret ?_ | refine FW.block_ret ?_)
    obtain rfl := Option.some.inj h
    exact FW.fret1 hk rfl rfl
  · skip
    refine wp_skip ?_
    (repeat first | refine FW.then_normal ?_ | refine FW.block_normal ?_); refine hK3 _ _ ?_
    refine FW.wseq ?_; intro K' hK6
    refine FW.wreg ?_; intro K' hK7
    refine FW.lfun (y := .lit (.int .i64 0)) hk rfl rfl rfl rfl (FW.f_assign hk (FW.holds_nil _) rfl) ?_; clear hk; intro a w hk
    refine FW.lend (hK7 _ _ ?_); clear hK7 K'
    refine wp_block ?_
    refine FW.wloop (T := Nat × List UInt8 × List ApiWord × Int) (fun x a w => match x with | (kl1, v0, v3, v6) => FW.S M w0 a w 128 [] [(0, [], .lit (.string (FW.B v0))), (3, [], .row (r_ApiWord_cells v3)), (6, [], .lit (.int .i64 v6))] ∧ offshootlaw11_LexPlaces.l1 K kl1 v0 v3 v6 = some r) (fun x => x.1) (K, v0, t1.1, 0) ⟨hk.sub ⟨rfl, rfl, rfl, trivial⟩, h⟩ ?_
    clear hk h
    rintro ⟨kl1, v0, v3, v6⟩ a w ⟨hk, h⟩ K' hK8
    cases kl1 with
    | zero => simp [offshootlaw11_LexPlaces.l1] at h
    | succ kl1 =>
    rw [offshootlaw11_LexPlaces.l1.eq_2] at h
    refine FW.wseq ?_; intro K' hK9
    refine FW.wreg ?_; intro K' hK10
    refine FW.lfun (y := .lit (.int .i64 v6)) hk rfl rfl rfl rfl (FW.f_move hk (FW.holds_nil _) rfl) ?_; clear hk; intro a w hk
    refine FW.lfun (y := .row (r_ApiWord_cells v3)) hk rfl rfl rfl rfl (FW.f_move hk (FW.holds_nil _) rfl) ?_; clear hk; intro a w hk
    refine FW.lfun (y := .lit (.int .i64 (List.length v3 : Int))) hk rfl rfl rfl rfl (FW.f_len (R := r_ApiWord_cells) (f := ApiWord.cells) (l := v3) r_ApiWord_cells_eq Go.Proofs.Try.underlying48 hk (FW.holds_nil _) rfl) ?_; clear hk; intro a w hk
    refine FW.lfun (y := .lit (.bool (decide (v6 < (List.length v3 : Int))))) hk rfl rfl rfl rfl ((FW.f_pure (FW.p_lss hk.kn (FW.holds_nil _) rfl rfl))) ?_; clear hk; intro a w hk
    refine FW.lend (hK10 _ _ ?_); clear hK10 K'
    refine FW.wcondF (b := (decide (v6 < (List.length v3 : Int)))) hk h rfl (fun h hb => ?_) (fun h hb => ?_)
    · skip
      refine wp_skip ?_
      (repeat first | refine FW.then_normal ?_ | refine FW.block_normal ?_); refine hK9 _ _ ?_
      refine FW.wseq ?_; intro K' hK11
      refine wp_block ?_
      refine FW.wreg ?_; intro K' hK12
      refine FW.lfun (y := .row (r_ApiWord_cells v3)) hk rfl rfl rfl rfl (FW.f_move hk (FW.holds_nil _) rfl) ?_; clear hk; intro a w hk
      refine FW.lfun (y := .lit (.int .i64 v6)) hk rfl rfl rfl rfl (FW.f_move hk (FW.holds_nil _) rfl) ?_; clear hk; intro a w hk
      obtain ⟨hc1, h⟩ := FW.chk h
      refine FW.lfun (y := .ref (ApiWord.cells (List.getD v3 (Int.toNat v6) default))) hk rfl rfl rfl rfl (FW.f_indexAddr (R := r_ApiWord_cells) (f := ApiWord.cells) (l := v3) (sz := 5) r_ApiWord_cells_eq (fun _ => rfl) hk (FW.holds_nil _) rfl rfl Go.Proofs.Try.underlying48 (by kernel_rfl) hc1) ?_; clear hk; intro a w hk
      refine FW.lfun (y := .agg ((ApiWord.cells (List.getD v3 (Int.toNat v6) default)))) hk rfl rfl rfl rfl (FW.f_load hk (FW.holds_nil _) rfl Go.Proofs.Try.underlying52 rfl rfl rfl rfl) ?_; clear hk; intro a w hk
      refine FW.l_alloc (zs := (ApiWord.cells (⟨0, [], 0, 0, 0⟩ : ApiWord))) [] hk rfl rfl rfl rfl ?_; clear hk; intro b1 a w hk
      refine FW.l_store (I' := [FW.blk b1 52 ((ApiWord.cells (List.getD v3 (Int.toNat v6) default)))]) (cs' := (ApiWord.cells (List.getD v3 (Int.toNat v6) default))) (j := 0) hk rfl rfl rfl rfl rfl (by kernel_rfl) rfl rfl ?_; clear hk; intro w hk
      refine FW.lend (hK12 _ _ ?_); clear hK12 K'
      refine FW.wseq ?_; intro K' hK13
      obtain ⟨hc2, h⟩ := FW.chk h
      refine FW.wdraw (by kernel_rfl) (by kernel_rfl) hk ?_; clear hk
      refine FW.dfun (y := .lit (.pointer (some ⟨b1, 4, none⟩))) rfl rfl rfl rfl (fun a w hk => FW.f_fieldPtr hk (FW.holds_nil _) rfl Go.Proofs.Try.underlying52 rfl (by kernel_rfl) rfl) ?_
      refine FW.dfun (y := .lit (.int .i64 ((List.getD v3 (Int.toNat v6) default).At))) rfl rfl rfl rfl (fun a w hk => FW.f_loadBlk1 hk (FW.holds_nil _) (j := 0) rfl rfl Go.Proofs.Try.underlying3 rfl rfl) ?_
      refine FW.dfun (y := .lit (.bool (decide (((List.getD v3 (Int.toNat v6) default).At) < 0)))) rfl rfl rfl rfl (fun a w hk => (FW.f_pure (FW.p_lss hk.kn (FW.holds_nil _) rfl rfl))) ?_
      refine FW.dfun (y := .lit (.bool (decide (((List.getD v3 (Int.toNat v6) default).At) < 0)))) rfl rfl rfl rfl (fun a w hk => FW.f_move hk (FW.holds_nil _) rfl) ?_
      refine FW.dfunG (y := .lit (.pointer (some ⟨b1, 4, none⟩))) rfl rfl rfl rfl rfl rfl rfl rfl rfl (fun a w hk hc => FW.f_fieldPtr hk hc rfl Go.Proofs.Try.underlying52 rfl (by kernel_rfl) rfl) ?_
      refine FW.dfunG (y := .lit (.int .i64 ((List.getD v3 (Int.toNat v6) default).At))) rfl rfl rfl rfl rfl rfl rfl rfl rfl (fun a w hk hc => FW.f_loadBlk1 hk hc (j := 0) rfl rfl Go.Proofs.Try.underlying3 rfl rfl) ?_
      refine FW.dfunG (y := .lit (.string (FW.B v0))) rfl rfl rfl rfl rfl rfl rfl rfl rfl (fun a w hk hc => FW.f_move hk hc rfl) ?_
      refine FW.dfunG (y := .lit (.int .i64 (List.length v0 : Int))) rfl rfl rfl rfl rfl rfl rfl rfl rfl (fun a w hk hc => (FW.f_pure (FW.p_slen Go.Proofs.Try.underlying9 hk.kn hc rfl))) ?_
      refine FW.dfunG (y := .lit (.bool (decide ((List.length v0 : Int) < ((List.getD v3 (Int.toNat v6) default).At))))) rfl rfl rfl rfl rfl rfl rfl rfl rfl (fun a w hk hc => (FW.f_pure (FW.p_gtr hk.kn hc rfl rfl))) ?_
      refine FW.dfun (y := .lit (.bool ((decide (((List.getD v3 (Int.toNat v6) default).At) < 0)) || (decide ((List.length v0 : Int) < ((List.getD v3 (Int.toNat v6) default).At)))))) rfl rfl rfl rfl (fun a w hk => (FW.f_pure (FW.p_pick_or hk.kn (FW.holds_nil _) rfl rfl))) ?_
      refine FW.dfun (y := .lit (.bool ((decide (((List.getD v3 (Int.toNat v6) default).At) < 0)) || (decide ((List.length v0 : Int) < ((List.getD v3 (Int.toNat v6) default).At)))))) rfl rfl rfl rfl (fun a w hk => FW.f_move hk (FW.holds_nil _) rfl) ?_
      refine FW.dfunG (y := .lit (.int .i64 v6)) rfl rfl rfl rfl rfl rfl rfl rfl rfl (fun a w hk hc => FW.f_move hk hc rfl) ?_
      refine FW.dfunG (y := .lit (.bool (decide (0 < v6)))) rfl rfl rfl rfl rfl rfl rfl rfl rfl (fun a w hk hc => (FW.f_pure (FW.p_gtr hk.kn hc rfl rfl))) ?_
      refine FW.dfunG (y := .lit (.bool (decide (0 < v6)))) rfl rfl rfl rfl rfl rfl rfl rfl rfl (fun a w hk hc => FW.f_move hk hc rfl) ?_
      refine FW.dfunG (y := .lit (.pointer (some ⟨b1, 4, none⟩))) rfl rfl rfl rfl rfl rfl rfl rfl rfl (fun a w hk hc => FW.f_fieldPtr hk hc rfl Go.Proofs.Try.underlying52 rfl (by kernel_rfl) rfl) ?_
      refine FW.dfunG (y := .lit (.int .i64 ((List.getD v3 (Int.toNat v6) default).At))) rfl rfl rfl rfl rfl rfl rfl rfl rfl (fun a w hk hc => FW.f_loadBlk1 hk hc (j := 0) rfl rfl Go.Proofs.Try.underlying3 rfl rfl) ?_
      refine FW.dfunG (y := .row (r_ApiWord_cells v3)) rfl rfl rfl rfl rfl rfl rfl rfl rfl (fun a w hk hc => FW.f_move hk hc rfl) ?_
      refine FW.dfunG (y := .lit (.int .i64 v6)) rfl rfl rfl rfl rfl rfl rfl rfl rfl (fun a w hk hc => FW.f_move hk hc rfl) ?_
      refine FW.dfunG (y := .lit (.int .i64 (IntKind.wrap .i64 (v6 - 1)))) rfl rfl rfl rfl rfl rfl rfl rfl rfl (fun a w hk hc => (FW.f_pure (FW.p_sub hk.kn hc rfl rfl))) ?_
      refine FW.dfunG (y := .ref (ApiWord.cells (List.getD v3 (Int.toNat (IntKind.wrap .i64 (v6 - 1))) default))) rfl rfl rfl rfl rfl rfl rfl rfl rfl (fun a w hk hc => FW.f_indexAddr (R := r_ApiWord_cells) (f := ApiWord.cells) (l := v3) (sz := 5) r_ApiWord_cells_eq (fun _ => rfl) hk hc rfl rfl Go.Proofs.Try.underlying48 (by kernel_rfl) hc2) ?_
      refine FW.dfunG (y := .ref (List.drop 4 (ApiWord.cells (List.getD v3 (Int.toNat (IntKind.wrap .i64 (v6 - 1))) default)))) rfl rfl rfl rfl rfl rfl rfl rfl rfl (fun a w hk hc => FW.f_fieldAddr hk hc rfl Go.Proofs.Try.underlying52 rfl (by kernel_rfl) rfl) ?_
      refine FW.dfunG (y := .lit (.int .i64 ((List.getD v3 (Int.toNat (IntKind.wrap .i64 (v6 - 1))) default).At))) rfl rfl rfl rfl rfl rfl rfl rfl rfl (fun a w hk hc => FW.f_load1 hk hc rfl rfl Go.Proofs.Try.underlying3 rfl) ?_
      refine FW.dfunG (y := .lit (.bool (decide (((List.getD v3 (Int.toNat v6) default).At) ≤ ((List.getD v3 (Int.toNat (IntKind.wrap .i64 (v6 - 1))) default).At))))) rfl rfl rfl rfl rfl rfl rfl rfl rfl (fun a w hk hc => (FW.f_pure (FW.p_leq hk.kn hc rfl rfl))) ?_
      refine FW.dfunG (y := .lit (.bool ((decide (0 < v6)) && (decide (((List.getD v3 (Int.toNat v6) default).At) ≤ ((List.getD v3 (Int.toNat (IntKind.wrap .i64 (v6 - 1))) default).At)))))) rfl rfl rfl rfl rfl rfl rfl rfl rfl (fun a w hk hc => (FW.f_pure (FW.p_pick_and hk.kn hc rfl rfl))) ?_
      refine FW.dfunG (y := .lit (.bool ((decide (0 < v6)) && (decide (((List.getD v3 (Int.toNat v6) default).At) ≤ ((List.getD v3 (Int.toNat (IntKind.wrap .i64 (v6 - 1))) default).At)))))) rfl rfl rfl rfl rfl rfl rfl rfl rfl (fun a w hk hc => FW.f_move hk hc rfl) ?_
      refine FW.dfunG (y := .lit (.string (FW.B v0))) rfl rfl rfl rfl rfl rfl rfl rfl rfl (fun a w hk hc => FW.f_move hk hc rfl) ?_
      refine FW.dfunG (y := .lit (.int .i64 (List.length v0 : Int))) rfl rfl rfl rfl rfl rfl rfl rfl rfl (fun a w hk hc => (FW.f_pure (FW.p_slen Go.Proofs.Try.underlying9 hk.kn hc rfl))) ?_
      refine FW.dfunG (y := .lit (.bool (decide (0 < (List.length v0 : Int))))) rfl rfl rfl rfl rfl rfl rfl rfl rfl (fun a w hk hc => (FW.f_pure (FW.p_gtr hk.kn hc rfl rfl))) ?_
      refine FW.dfunG (y := .lit (.bool (((decide (0 < v6)) && (decide (((List.getD v3 (Int.toNat v6) default).At) ≤ ((List.getD v3 (Int.toNat (IntKind.wrap .i64 (v6 - 1))) default).At)))) && (decide (0 < (List.length v0 : Int)))))) rfl rfl rfl rfl rfl rfl rfl rfl rfl (fun a w hk hc => (FW.f_pure (FW.p_pick_and hk.kn hc rfl rfl))) ?_
      refine FW.dfunG (y := .lit (.bool (((decide (0 < v6)) && (decide (((List.getD v3 (Int.toNat v6) default).At) ≤ ((List.getD v3 (Int.toNat (IntKind.wrap .i64 (v6 - 1))) default).At)))) && (decide (0 < (List.length v0 : Int)))))) rfl rfl rfl rfl rfl rfl rfl rfl rfl (fun a w hk hc => FW.f_move hk hc rfl) ?_
      refine FW.dfunG (y := .lit (.pointer (some ⟨b1, 4, none⟩))) rfl rfl rfl rfl rfl rfl rfl rfl rfl (fun a w hk hc => FW.f_fieldPtr hk hc rfl Go.Proofs.Try.underlying52 rfl (by kernel_rfl) rfl) ?_
      refine FW.dfunG (y := .lit (.int .i64 ((List.getD v3 (Int.toNat v6) default).At))) rfl rfl rfl rfl rfl rfl rfl rfl rfl (fun a w hk hc => FW.f_loadBlk1 hk hc (j := 0) rfl rfl Go.Proofs.Try.underlying3 rfl rfl) ?_
      refine FW.dfunG (y := .lit (.string (FW.B v0))) rfl rfl rfl rfl rfl rfl rfl rfl rfl (fun a w hk hc => FW.f_move hk hc rfl) ?_
      refine FW.dfunG (y := .lit (.int .i64 (List.length v0 : Int))) rfl rfl rfl rfl rfl rfl rfl rfl rfl (fun a w hk hc => (FW.f_pure (FW.p_slen Go.Proofs.Try.underlying9 hk.kn hc rfl))) ?_
      refine FW.dfunG (y := .lit (.bool (decide (((List.getD v3 (Int.toNat v6) default).At) < (List.length v0 : Int))))) rfl rfl rfl rfl rfl rfl rfl rfl rfl (fun a w hk hc => (FW.f_pure (FW.p_lss hk.kn hc rfl rfl))) ?_
      refine FW.dfunG (y := .lit (.bool ((((decide (0 < v6)) && (decide (((List.getD v3 (Int.toNat v6) default).At) ≤ ((List.getD v3 (Int.toNat (IntKind.wrap .i64 (v6 - 1))) default).At)))) && (decide (0 < (List.length v0 : Int)))) && (decide (((List.getD v3 (Int.toNat v6) default).At) < (List.length v0 : Int)))))) rfl rfl rfl rfl rfl rfl rfl rfl rfl (fun a w hk hc => (FW.f_pure (FW.p_pick_and hk.kn hc rfl rfl))) ?_
      refine FW.dfun (y := .lit (.bool (((decide (((List.getD v3 (Int.toNat v6) default).At) < 0)) || (decide ((List.length v0 : Int) < ((List.getD v3 (Int.toNat v6) default).At)))) || ((((decide (0 < v6)) && (decide (((List.getD v3 (Int.toNat v6) default).At) ≤ ((List.getD v3 (Int.toNat (IntKind.wrap .i64 (v6 - 1))) default).At)))) && (decide (0 < (List.length v0 : Int)))) && (decide (((List.getD v3 (Int.toNat v6) default).At) < (List.length v0 : Int))))))) rfl rfl rfl rfl (fun a w hk => (FW.f_pure (FW.p_pick_or hk.kn (FW.holds_nil _) rfl rfl))) ?_
      refine FW.dend ?_; intro a w hk
      refine FW.wcondF (b := (((decide (((List.getD v3 (Int.toNat v6) default).At) < 0)) || (decide ((List.length v0 : Int) < ((List.getD v3 (Int.toNat v6) default).At)))) || ((((decide (0 < v6)) && (decide (((List.getD v3 (Int.toNat v6) default).At) ≤ ((List.getD v3 (Int.toNat (IntKind.wrap .i64 (v6 - 1))) default).At)))) && (decide (0 < (List.length v0 : Int)))) && (decide (((List.getD v3 (Int.toNat v6) default).At) < (List.length v0 : Int)))))) hk h rfl (fun h hb => ?_) (fun h hb => ?_)
      · skip
        refine FW.wreg ?_; intro K' hK15
        refine FW.lfun (y := .lit (.bool false)) hk rfl rfl rfl rfl (FW.f_assign hk (FW.holds_nil _) rfl) ?_; clear hk; intro a w hk
        refine FW.lend (hK15 _ _ ?_); clear hK15 K'
        refine wp_ret ?_
        (repeat first | refine FW.then_ret ?_ | refine FW.block_ret ?_)
        obtain rfl := Option.some.inj h
        exact FW.fret1 hk rfl rfl
      · skip
        refine wp_skip ?_
        (repeat first | refine FW.then_normal ?_ | refine FW.block_normal ?_); refine hK13 _ _ ?_
        obtain ⟨hc3, h⟩ := FW.chk h
        refine FW.wdraw (by kernel_rfl) (by kernel_rfl) hk ?_; clear hk
        refine FW.dfun (y := .lit (.pointer (some ⟨b1, 0, none⟩))) rfl rfl rfl rfl (fun a w hk => FW.f_fieldPtr hk (FW.holds_nil _) rfl Go.Proofs.Try.underlying52 rfl (by kernel_rfl) rfl) ?_
        refine FW.dfun (y := .lit (.int .i64 ((List.getD v3 (Int.toNat v6) default).Kind))) rfl rfl rfl rfl (fun a w hk => FW.f_loadBlk1 hk (FW.holds_nil _) (j := 0) rfl rfl Go.Proofs.Try.underlying3 rfl rfl) ?_
        refine FW.dfun (y := .lit (.bool (decide (((List.getD v3 (Int.toNat v6) default).Kind) = 1)))) rfl rfl rfl rfl (fun a w hk => (FW.f_pure (FW.p_eql hk.kn (FW.holds_nil _) rfl rfl))) ?_
        refine FW.dfun (y := .lit (.bool (decide (((List.getD v3 (Int.toNat v6) default).Kind) = 1)))) rfl rfl rfl rfl (fun a w hk => FW.f_move hk (FW.holds_nil _) rfl) ?_
        refine FW.dfunG (y := .lit (.pointer (some ⟨b1, 0, none⟩))) rfl rfl rfl rfl rfl rfl rfl rfl rfl (fun a w hk hc => FW.f_fieldPtr hk hc rfl Go.Proofs.Try.underlying52 rfl (by kernel_rfl) rfl) ?_
        refine FW.dfunG (y := .lit (.int .i64 ((List.getD v3 (Int.toNat v6) default).Kind))) rfl rfl rfl rfl rfl rfl rfl rfl rfl (fun a w hk hc => FW.f_loadBlk1 hk hc (j := 0) rfl rfl Go.Proofs.Try.underlying3 rfl rfl) ?_
        refine FW.dfunG (y := .lit (.bool (decide (((List.getD v3 (Int.toNat v6) default).Kind) = 5)))) rfl rfl rfl rfl rfl rfl rfl rfl rfl (fun a w hk hc => (FW.f_pure (FW.p_eql hk.kn hc rfl rfl))) ?_
        refine FW.dfun (y := .lit (.bool ((decide (((List.getD v3 (Int.toNat v6) default).Kind) = 1)) || (decide (((List.getD v3 (Int.toNat v6) default).Kind) = 5))))) rfl rfl rfl rfl (fun a w hk => (FW.f_pure (FW.p_pick_or hk.kn (FW.holds_nil _) rfl rfl))) ?_
        refine FW.dfun (y := .lit (.bool ((decide (((List.getD v3 (Int.toNat v6) default).Kind) = 1)) || (decide (((List.getD v3 (Int.toNat v6) default).Kind) = 5))))) rfl rfl rfl rfl (fun a w hk => FW.f_move hk (FW.holds_nil _) rfl) ?_
        refine FW.dfunG (y := .lit (.pointer (some ⟨b1, 4, none⟩))) rfl rfl rfl rfl rfl rfl rfl rfl rfl (fun a w hk hc => FW.f_fieldPtr hk hc rfl Go.Proofs.Try.underlying52 rfl (by kernel_rfl) rfl) ?_
        refine FW.dfunG (y := .lit (.int .i64 ((List.getD v3 (Int.toNat v6) default).At))) rfl rfl rfl rfl rfl rfl rfl rfl rfl (fun a w hk hc => FW.f_loadBlk1 hk hc (j := 0) rfl rfl Go.Proofs.Try.underlying3 rfl rfl) ?_
        refine FW.dfunG (y := .lit (.pointer (some ⟨b1, 1, none⟩))) rfl rfl rfl rfl rfl rfl rfl rfl rfl (fun a w hk hc => FW.f_fieldPtr hk hc rfl Go.Proofs.Try.underlying52 rfl (by kernel_rfl) rfl) ?_
        refine FW.dfunG (y := .lit (.string (FW.B ((List.getD v3 (Int.toNat v6) default).S)))) rfl rfl rfl rfl rfl rfl rfl rfl rfl (fun a w hk hc => FW.f_loadBlk1 hk hc (j := 0) rfl rfl Go.Proofs.Try.underlying9 rfl rfl) ?_
        refine FW.dfunG (y := .lit (.int .i64 (List.length ((List.getD v3 (Int.toNat v6) default).S) : Int))) rfl rfl rfl rfl rfl rfl rfl rfl rfl (fun a w hk hc => (FW.f_pure (FW.p_slen Go.Proofs.Try.underlying9 hk.kn hc rfl))) ?_
        refine FW.dfunG (y := .lit (.int .i64 (IntKind.wrap .i64 (((List.getD v3 (Int.toNat v6) default).At) + (List.length ((List.getD v3 (Int.toNat v6) default).S) : Int))))) rfl rfl rfl rfl rfl rfl rfl rfl rfl (fun a w hk hc => (FW.f_pure (FW.p_add hk.kn hc rfl rfl))) ?_
        refine FW.dfunG (y := .lit (.string (FW.B v0))) rfl rfl rfl rfl rfl rfl rfl rfl rfl (fun a w hk hc => FW.f_move hk hc rfl) ?_
        refine FW.dfunG (y := .lit (.int .i64 (List.length v0 : Int))) rfl rfl rfl rfl rfl rfl rfl rfl rfl (fun a w hk hc => (FW.f_pure (FW.p_slen Go.Proofs.Try.underlying9 hk.kn hc rfl))) ?_
        refine FW.dfunG (y := .lit (.bool (decide ((List.length v0 : Int) < (IntKind.wrap .i64 (((List.getD v3 (Int.toNat v6) default).At) + (List.length ((List.getD v3 (Int.toNat v6) default).S) : Int))))))) rfl rfl rfl rfl rfl rfl rfl rfl rfl (fun a w hk hc => (FW.f_pure (FW.p_gtr hk.kn hc rfl rfl))) ?_
        refine FW.dfunG (y := .lit (.bool (decide ((List.length v0 : Int) < (IntKind.wrap .i64 (((List.getD v3 (Int.toNat v6) default).At) + (List.length ((List.getD v3 (Int.toNat v6) default).S) : Int))))))) rfl rfl rfl rfl rfl rfl rfl rfl rfl (fun a w hk hc => FW.f_move hk hc rfl) ?_
        refine FW.dfunG (y := .lit (.string (FW.B v0))) rfl rfl rfl rfl rfl rfl rfl rfl rfl (fun a w hk hc => FW.f_move hk hc rfl) ?_
        refine FW.dfunG (y := .lit (.pointer (some ⟨b1, 4, none⟩))) rfl rfl rfl rfl rfl rfl rfl rfl rfl (fun a w hk hc => FW.f_fieldPtr hk hc rfl Go.Proofs.Try.underlying52 rfl (by kernel_rfl) rfl) ?_
        refine FW.dfunG (y := .lit (.int .i64 ((List.getD v3 (Int.toNat v6) default).At))) rfl rfl rfl rfl rfl rfl rfl rfl rfl (fun a w hk hc => FW.f_loadBlk1 hk hc (j := 0) rfl rfl Go.Proofs.Try.underlying3 rfl rfl) ?_
        refine FW.dfunG (y := .lit (.pointer (some ⟨b1, 4, none⟩))) rfl rfl rfl rfl rfl rfl rfl rfl rfl (fun a w hk hc => FW.f_fieldPtr hk hc rfl Go.Proofs.Try.underlying52 rfl (by kernel_rfl) rfl) ?_
        refine FW.dfunG (y := .lit (.int .i64 ((List.getD v3 (Int.toNat v6) default).At))) rfl rfl rfl rfl rfl rfl rfl rfl rfl (fun a w hk hc => FW.f_loadBlk1 hk hc (j := 0) rfl rfl Go.Proofs.Try.underlying3 rfl rfl) ?_
        refine FW.dfunG (y := .lit (.pointer (some ⟨b1, 1, none⟩))) rfl rfl rfl rfl rfl rfl rfl rfl rfl (fun a w hk hc => FW.f_fieldPtr hk hc rfl Go.Proofs.Try.underlying52 rfl (by kernel_rfl) rfl) ?_
        refine FW.dfunG (y := .lit (.string (FW.B ((List.getD v3 (Int.toNat v6) default).S)))) rfl rfl rfl rfl rfl rfl rfl rfl rfl (fun a w hk hc => FW.f_loadBlk1 hk hc (j := 0) rfl rfl Go.Proofs.Try.underlying9 rfl rfl) ?_
        refine FW.dfunG (y := .lit (.int .i64 (List.length ((List.getD v3 (Int.toNat v6) default).S) : Int))) rfl rfl rfl rfl rfl rfl rfl rfl rfl (fun a w hk hc => (FW.f_pure (FW.p_slen Go.Proofs.Try.underlying9 hk.kn hc rfl))) ?_
        refine FW.dfunG (y := .lit (.int .i64 (IntKind.wrap .i64 (((List.getD v3 (Int.toNat v6) default).At) + (List.length ((List.getD v3 (Int.toNat v6) default).S) : Int))))) rfl rfl rfl rfl rfl rfl rfl rfl rfl (fun a w hk hc => (FW.f_pure (FW.p_add hk.kn hc rfl rfl))) ?_
        refine FW.dfunG (y := .lit (.string (FW.B (List.take (Int.toNat (IntKind.wrap .i64 (((List.getD v3 (Int.toNat v6) default).At) + (List.length ((List.getD v3 (Int.toNat v6) default).S) : Int))) - Int.toNat ((List.getD v3 (Int.toNat v6) default).At)) (List.drop (Int.toNat ((List.getD v3 (Int.toNat v6) default).At)) v0))))) rfl rfl rfl rfl rfl rfl rfl rfl rfl (fun a w hk hc => (FW.f_pure (FW.p_slice Go.Proofs.Try.underlying9 hk.kn hc rfl rfl rfl hc3))) ?_
        refine FW.dfunG (y := .lit (.pointer (some ⟨b1, 1, none⟩))) rfl rfl rfl rfl rfl rfl rfl rfl rfl (fun a w hk hc => FW.f_fieldPtr hk hc rfl Go.Proofs.Try.underlying52 rfl (by kernel_rfl) rfl) ?_
        refine FW.dfunG (y := .lit (.string (FW.B ((List.getD v3 (Int.toNat v6) default).S)))) rfl rfl rfl rfl rfl rfl rfl rfl rfl (fun a w hk hc => FW.f_loadBlk1 hk hc (j := 0) rfl rfl Go.Proofs.Try.underlying9 rfl rfl) ?_
        refine FW.dfunG (y := .lit (.bool (!decide ((List.take (Int.toNat (IntKind.wrap .i64 (((List.getD v3 (Int.toNat v6) default).At) + (List.length ((List.getD v3 (Int.toNat v6) default).S) : Int))) - Int.toNat ((List.getD v3 (Int.toNat v6) default).At)) (List.drop (Int.toNat ((List.getD v3 (Int.toNat v6) default).At)) v0)) = ((List.getD v3 (Int.toNat v6) default).S))))) rfl rfl rfl rfl rfl rfl rfl rfl rfl (fun a w hk hc => (FW.f_pure (FW.p_sneq hk.kn hc rfl rfl))) ?_
        refine FW.dfunG (y := .lit (.bool ((decide ((List.length v0 : Int) < (IntKind.wrap .i64 (((List.getD v3 (Int.toNat v6) default).At) + (List.length ((List.getD v3 (Int.toNat v6) default).S) : Int))))) || (!decide ((List.take (Int.toNat (IntKind.wrap .i64 (((List.getD v3 (Int.toNat v6) default).At) + (List.length ((List.getD v3 (Int.toNat v6) default).S) : Int))) - Int.toNat ((List.getD v3 (Int.toNat v6) default).At)) (List.drop (Int.toNat ((List.getD v3 (Int.toNat v6) default).At)) v0)) = ((List.getD v3 (Int.toNat v6) default).S)))))) rfl rfl rfl rfl rfl rfl rfl rfl rfl (fun a w hk hc => (FW.f_pure (FW.p_pick_or hk.kn hc rfl rfl))) ?_
        refine FW.dfun (y := .lit (.bool (((decide (((List.getD v3 (Int.toNat v6) default).Kind) = 1)) || (decide (((List.getD v3 (Int.toNat v6) default).Kind) = 5))) && ((decide ((List.length v0 : Int) < (IntKind.wrap .i64 (((List.getD v3 (Int.toNat v6) default).At) + (List.length ((List.getD v3 (Int.toNat v6) default).S) : Int))))) || (!decide ((List.take (Int.toNat (IntKind.wrap .i64 (((List.getD v3 (Int.toNat v6) default).At) + (List.length ((List.getD v3 (Int.toNat v6) default).S) : Int))) - Int.toNat ((List.getD v3 (Int.toNat v6) default).At)) (List.drop (Int.toNat ((List.getD v3 (Int.toNat v6) default).At)) v0)) = ((List.getD v3 (Int.toNat v6) default).S))))))) rfl rfl rfl rfl (fun a w hk => (FW.f_pure (FW.p_pick_and hk.kn (FW.holds_nil _) rfl rfl))) ?_
        refine FW.dend ?_; intro a w hk
        refine FW.wcondF (b := (((decide (((List.getD v3 (Int.toNat v6) default).Kind) = 1)) || (decide (((List.getD v3 (Int.toNat v6) default).Kind) = 5))) && ((decide ((List.length v0 : Int) < (IntKind.wrap .i64 (((List.getD v3 (Int.toNat v6) default).At) + (List.length ((List.getD v3 (Int.toNat v6) default).S) : Int))))) || (!decide ((List.take (Int.toNat (IntKind.wrap .i64 (((List.getD v3 (Int.toNat v6) default).At) + (List.length ((List.getD v3 (Int.toNat v6) default).S) : Int))) - Int.toNat ((List.getD v3 (Int.toNat v6) default).At)) (List.drop (Int.toNat ((List.getD v3 (Int.toNat v6) default).At)) v0)) = ((List.getD v3 (Int.toNat v6) default).S)))))) hk h rfl (fun h hb => ?_) (fun h hb => ?_)
        · skip
          refine FW.wreg ?_; intro K' hK17
          refine FW.lfun (y := .lit (.bool false)) hk rfl rfl rfl rfl (FW.f_assign hk (FW.holds_nil _) rfl) ?_; clear hk; intro a w hk
          refine FW.lend (hK17 _ _ ?_); clear hK17 K'
          refine wp_ret ?_
          (repeat first | refine FW.then_ret ?_ | refine FW.block_ret ?_)
          obtain rfl := Option.some.inj h
          exact FW.fret1 hk rfl rfl
        · skip
          refine wp_skip ?_
          (repeat first | refine FW.then_normal ?_ | refine FW.block_normal ?_); refine hK11 _ _ ?_
          refine FW.wreg1 ?_
          refine FW.lfun (y := .lit (.int .i64 v6)) hk rfl rfl rfl rfl (FW.f_move hk (FW.holds_nil _) rfl) ?_; clear hk; intro a w hk
          refine FW.lfun (y := .lit (.int .i64 (IntKind.wrap .i64 (v6 + 1)))) hk rfl rfl rfl rfl ((FW.f_pure (FW.p_add hk.kn (FW.holds_nil _) rfl rfl))) ?_; clear hk; intro a w hk
          refine FW.lfun (y := .lit (.int .i64 (IntKind.wrap .i64 (v6 + 1)))) hk rfl rfl rfl rfl (FW.f_assign hk (FW.holds_nil _) rfl) ?_; clear hk; intro a w hk
          refine wpList_nil ?_
          (repeat first | refine FW.then_normal ?_ | refine FW.block_normal ?_); exact hK8 (kl1, v0, v3, (IntKind.wrap .i64 (v6 + 1))) _ _ (Nat.lt_succ_self _) ⟨(hk.drop 0).sub ⟨rfl, rfl, rfl, trivial⟩, h⟩
    · skip
      refine wp_exit ?_; (repeat first | refine FW.then_exit ?_ | refine FW.block_exit_ne rfl ?_); refine FW.block_exit ?_
      (repeat first | refine FW.then_normal ?_ | refine FW.block_normal ?_); refine hK6 _ _ ?_
      refine FW.wreg ?_; intro K' hK19
      refine FW.lfun (y := .row (r_ApiWord_cells v3)) hk rfl rfl rfl rfl (FW.f_move hk (FW.holds_nil _) rfl) ?_; clear hk; intro a w hk
      refine FW.lfun (y := .row (r_ApiWord_cells v3)) hk rfl rfl rfl rfl (FW.f_move hk (FW.holds_nil _) rfl) ?_; clear hk; intro a w hk
      refine FW.lfun (y := .lit (.int .i64 (List.length v3 : Int))) hk rfl rfl rfl rfl (FW.f_len (R := r_ApiWord_cells) (f := ApiWord.cells) (l := v3) r_ApiWord_cells_eq Go.Proofs.Try.underlying48 hk (FW.holds_nil _) rfl) ?_; clear hk; intro a w hk
      refine FW.lfun (y := .lit (.int .i64 (IntKind.wrap .i64 ((List.length v3 : Int) - 1)))) hk rfl rfl rfl rfl ((FW.f_pure (FW.p_sub hk.kn (FW.holds_nil _) rfl rfl))) ?_; clear hk; intro a w hk
      obtain ⟨hc4, h⟩ := FW.chk h
      refine FW.lfun (y := .ref (ApiWord.cells (List.getD v3 (Int.toNat (IntKind.wrap .i64 ((List.length v3 : Int) - 1))) default))) hk rfl rfl rfl rfl (FW.f_indexAddr (R := r_ApiWord_cells) (f := ApiWord.cells) (l := v3) (sz := 5) r_ApiWord_cells_eq (fun _ => rfl) hk (FW.holds_nil _) rfl rfl Go.Proofs.Try.underlying48 (by kernel_rfl) hc4) ?_; clear hk; intro a w hk
      refine FW.lfun (y := .agg ((ApiWord.cells (List.getD v3 (Int.toNat (IntKind.wrap .i64 ((List.length v3 : Int) - 1))) default)))) hk rfl rfl rfl rfl (FW.f_load hk (FW.holds_nil _) rfl Go.Proofs.Try.underlying52 rfl rfl rfl rfl) ?_; clear hk; intro a w hk
      refine FW.l_alloc (zs := (ApiWord.cells (⟨0, [], 0, 0, 0⟩ : ApiWord))) [] hk rfl rfl rfl rfl ?_; clear hk; intro b2 a w hk
      refine FW.l_store (I' := [FW.blk b2 52 ((ApiWord.cells (List.getD v3 (Int.toNat (IntKind.wrap .i64 ((List.length v3 : Int) - 1))) default)))]) (cs' := (ApiWord.cells (List.getD v3 (Int.toNat (IntKind.wrap .i64 ((List.length v3 : Int) - 1))) default))) (j := 0) hk rfl rfl rfl rfl rfl (by kernel_rfl) rfl rfl ?_; clear hk; intro w hk
      refine FW.lend (hK19 _ _ ?_); clear hK19 K'
      refine FW.wreg ?_; intro K' hK20
      refine FW.lfun (y := .lit (.pointer (some ⟨b2, 0, none⟩))) hk rfl rfl rfl rfl (FW.f_fieldPtr hk (FW.holds_nil _) rfl Go.Proofs.Try.underlying52 rfl (by kernel_rfl) rfl) ?_; clear hk; intro a w hk
      refine FW.lfun (y := .lit (.int .i64 ((List.getD v3 (Int.toNat (IntKind.wrap .i64 ((List.length v3 : Int) - 1))) default).Kind))) hk rfl rfl rfl rfl (FW.f_loadBlk1 hk (FW.holds_nil _) (j := 0) rfl rfl Go.Proofs.Try.underlying3 rfl rfl) ?_; clear hk; intro a w hk
      refine FW.lfun (y := .lit (.bool (decide (((List.getD v3 (Int.toNat (IntKind.wrap .i64 ((List.length v3 : Int) - 1))) default).Kind) = 0)))) hk rfl rfl rfl rfl ((FW.f_pure (FW.p_eql hk.kn (FW.holds_nil _) rfl rfl))) ?_; clear hk; intro a w hk
      refine FW.lfun (y := .lit (.bool (decide (((List.getD v3 (Int.toNat (IntKind.wrap .i64 ((List.length v3 : Int) - 1))) default).Kind) = 0)))) hk rfl rfl rfl rfl (FW.f_move hk (FW.holds_nil _) rfl) ?_; clear hk; intro a w hk
      refine FW.lfunG (y := .lit (.pointer (some ⟨b2, 4, none⟩))) hk rfl rfl rfl rfl rfl rfl rfl rfl (fun hc => FW.f_fieldPtr hk hc rfl Go.Proofs.Try.underlying52 rfl (by kernel_rfl) rfl) ?_; clear hk; intro a w hk
      refine FW.lfunG (y := .lit (.int .i64 ((List.getD v3 (Int.toNat (IntKind.wrap .i64 ((List.length v3 : Int) - 1))) default).At))) hk rfl rfl rfl rfl rfl rfl rfl rfl (fun hc => FW.f_loadBlk1 hk hc (j := 0) rfl rfl Go.Proofs.Try.underlying3 rfl rfl) ?_; clear hk; intro a w hk
      refine FW.lfunG (y := .lit (.string (FW.B v0))) hk rfl rfl rfl rfl rfl rfl rfl rfl (fun hc => FW.f_move hk hc rfl) ?_; clear hk; intro a w hk
      refine FW.lfunG (y := .lit (.int .i64 (List.length v0 : Int))) hk rfl rfl rfl rfl rfl rfl rfl rfl (fun hc => (FW.f_pure (FW.p_slen Go.Proofs.Try.underlying9 hk.kn hc rfl))) ?_; clear hk; intro a w hk
      refine FW.lfunG (y := .lit (.bool (decide (((List.getD v3 (Int.toNat (IntKind.wrap .i64 ((List.length v3 : Int) - 1))) default).At) = (List.length v0 : Int))))) hk rfl rfl rfl rfl rfl rfl rfl rfl (fun hc => (FW.f_pure (FW.p_eql hk.kn hc rfl rfl))) ?_; clear hk; intro a w hk
      refine FW.lfun (y := .lit (.bool ((decide (((List.getD v3 (Int.toNat (IntKind.wrap .i64 ((List.length v3 : Int) - 1))) default).Kind) = 0)) && (decide (((List.getD v3 (Int.toNat (IntKind.wrap .i64 ((List.length v3 : Int) - 1))) default).At) = (List.length v0 : Int)))))) hk rfl rfl rfl rfl ((FW.f_pure (FW.p_pick_and hk.kn (FW.holds_nil _) rfl rfl))) ?_; clear hk; intro a w hk
      refine FW.lfun (y := .lit (.bool ((decide (((List.getD v3 (Int.toNat (IntKind.wrap .i64 ((List.length v3 : Int) - 1))) default).Kind) = 0)) && (decide (((List.getD v3 (Int.toNat (IntKind.wrap .i64 ((List.length v3 : Int) - 1))) default).At) = (List.length v0 : Int)))))) hk rfl rfl rfl rfl (FW.f_assign hk (FW.holds_nil _) rfl) ?_; clear hk; intro a w hk
      refine FW.lend (hK20 _ _ ?_); clear hK20 K'
      refine wp_ret ?_
      (repeat first | refine FW.then_ret ?_ | refine FW.block_ret ?_)
      obtain rfl := Option.some.inj h
      exact FW.fret1 hk rfl rfl

theorem lex_Number.ok (K : Nat) (v0 : Int) (r : List UInt8) (h : lex_Number.f K v0 = some r) :
    FW.Ok Go.Proofs.Try.prog 23 [.lit (.int .i64 v0)] (.lit (.string (FW.B r))) := by
  refine FW.enter (xs := [.lit (.int .i64 v0)]) Go.Proofs.Try.func23 rfl Go.Proofs.Try.ntmps23 rfl ?_
  intro M w0 a hk
  unfold lex_Number.f at h
  refine FW.wreg ?_; intro K' hK1
  refine FW.lfun (y := .lit (.string (FW.B ([] : List UInt8)))) hk rfl rfl rfl rfl (FW.f_assign hk (FW.holds_nil _) rfl) ?_; clear hk; intro a w hk
  refine FW.lend (hK1 _ _ ?_); clear hK1 K'
  refine FW.wseq ?_; intro K' hK2
  refine FW.wreg ?_; intro K' hK3
  refine FW.lfun (y := .lit (.int .i64 v0)) hk rfl rfl rfl rfl (FW.f_move hk (FW.holds_nil _) rfl) ?_; clear hk; intro a w hk
  refine FW.lfun (y := .lit (.bool (decide (v0 = 0)))) hk rfl rfl rfl rfl ((FW.f_pure (FW.p_eql hk.kn (FW.holds_nil _) rfl rfl))) ?_; clear hk; intro a w hk
  refine FW.lend (hK3 _ _ ?_); clear hK3 K'
  refine FW.wcondF (b := (decide (v0 = 0))) hk h rfl (fun h hb => ?_) (fun h hb => ?_)
  · skip
    refine FW.wreg ?_; intro K' hK4
    refine FW.lfun (y := .lit (.string (FW.B ([48] : List UInt8)))) hk rfl rfl rfl rfl (FW.f_assign hk (FW.holds_nil _) rfl) ?_; clear hk; intro a w hk
    refine FW.lend (hK4 _ _ ?_); clear hK4 K'
    refine wp_ret ?_
    (repeat first | refine FW.then_ret ?_ | refine FW.block_ret ?_)
    obtain rfl := Option.some.inj h
    exact FW.fret1 hk rfl rfl
  · skip
    refine wp_skip ?_
    (repeat first | refine FW.then_normal ?_ | refine FW.block_normal ?_); refine hK2 _ _ ?_
    refine FW.wreg ?_; intro K' hK5
    refine FW.lfun (y := .lit (.int .i64 v0)) hk rfl rfl rfl rfl (FW.f_move hk (FW.holds_nil _) rfl) ?_; clear hk; intro a w hk
    refine FW.lfun (y := .lit (.bool (decide (v0 < 0)))) hk rfl rfl rfl rfl ((FW.f_pure (FW.p_lss hk.kn (FW.holds_nil _) rfl rfl))) ?_; clear hk; intro a w hk
    refine FW.lfun (y := .lit (.string (FW.B ([] : List UInt8)))) hk rfl rfl rfl rfl (FW.f_assign hk (FW.holds_nil _) rfl) ?_; clear hk; intro a w hk
    refine FW.lfun (y := .lit (.bool (decide (v0 < 0)))) hk rfl rfl rfl rfl (FW.f_assign hk (FW.holds_nil _) rfl) ?_; clear hk; intro a w hk
    refine FW.lend (hK5 _ _ ?_); clear hK5 K'
    refine FW.wseq ?_; intro K' hK6
    refine wp_block ?_
    refine FW.wloop (T := Nat × Int × List UInt8 × Bool) (fun x a w => match x with | (kl1, v0, v3, v4) => FW.S M w0 a w 29 [] [(0, [], .lit (.int .i64 v0)), (3, [], .lit (.string (FW.B v3))), (4, [], .lit (.bool v4))] ∧ lex_Number.l1 K kl1 v0 v3 v4 = some r) (fun x => x.1) (K, v0, ([] : List UInt8), (decide (v0 < 0))) ⟨hk.sub ⟨rfl, rfl, rfl, trivial⟩, h⟩ ?_
    clear hk h
    rintro ⟨kl1, v0, v3, v4⟩ a w ⟨hk, h⟩ K' hK7
    cases kl1 with
    | zero => simp [lex_Number.l1] at h
    | succ kl1 =>
    rw [lex_Number.l1.eq_2] at h
    refine FW.wseq ?_; intro K' hK8
    refine FW.wreg ?_; intro K' hK9
    refine FW.lfun (y := .lit (.int .i64 v0)) hk rfl rfl rfl rfl (FW.f_move hk (FW.holds_nil _) rfl) ?_; clear hk; intro a w hk
    refine FW.lfun (y := .lit (.bool (!decide (v0 = 0)))) hk rfl rfl rfl rfl ((FW.f_pure (FW.p_neq hk.kn (FW.holds_nil _) rfl rfl))) ?_; clear hk; intro a w hk
    refine FW.lend (hK9 _ _ ?_); clear hK9 K'
    refine FW.wcondF (b := (!decide (v0 = 0))) hk h rfl (fun h hb => ?_) (fun h hb => ?_)
    · skip
      refine wp_skip ?_
      (repeat first | refine FW.then_normal ?_ | refine FW.block_normal ?_); refine hK8 _ _ ?_
      refine FW.wseq ?_; intro K' hK10
      refine wp_block ?_
      refine FW.wreg ?_; intro K' hK11
      refine FW.lfun (y := .lit (.int .i64 v0)) hk rfl rfl rfl rfl (FW.f_move hk (FW.holds_nil _) rfl) ?_; clear hk; intro a w hk
      refine FW.lfun (y := .lit (.int .i64 (Int.tmod v0 10))) hk rfl rfl rfl rfl ((FW.f_pure (FW.p_rem hk.kn (FW.holds_nil _) rfl rfl (show ¬ (10 : Int) = 0 from by decide)))) ?_; clear hk; intro a w hk
      refine FW.lfun (y := .lit (.int .i64 (Int.tmod v0 10))) hk rfl rfl rfl rfl (FW.f_assign hk (FW.holds_nil _) rfl) ?_; clear hk; intro a w hk
      refine FW.lend (hK11 _ _ ?_); clear hK11 K'
      refine FW.wseqJ (fun a w => ∃ (v0 : Int) (v3 : List UInt8) (v4 : Bool) (v5 : Int), FW.S M w0 a w 29 [] [(0, [], .lit (.int .i64 v0)), (3, [], .lit (.string (FW.B v3))), (4, [], .lit (.bool v4)), (5, [], .lit (.int .i64 v5))] ∧ lex_Number.j1 (lex_Number.l1 K kl1) K v0 v3 v4 v5 = some r) ?_ ?_
      · clear hk h
        rintro a w ⟨v0, v3, v4, v5, hk, h⟩
        unfold lex_Number.j1 at h
        refine FW.wreg1 ?_
        refine FW.lfun (y := .lit (.int .i64 v5)) hk rfl rfl rfl rfl (FW.f_move hk (FW.holds_nil _) rfl) ?_; clear hk; intro a w hk
        refine FW.lfun (y := .lit (.int .i64 v5)) hk rfl rfl rfl rfl (FW.f_move hk (FW.holds_nil _) rfl) ?_; clear hk; intro a w hk
        refine FW.lfun (y := .lit (.int .i64 (IntKind.wrap .i64 (v5 + 1)))) hk rfl rfl rfl rfl ((FW.f_pure (FW.p_add hk.kn (FW.holds_nil _) rfl rfl))) ?_; clear hk; intro a w hk
        obtain ⟨hc1, h⟩ := FW.chk h
        refine FW.lfun (y := .lit (.string (FW.B (List.take (Int.toNat (IntKind.wrap .i64 (v5 + 1)) - Int.toNat v5) (List.drop (Int.toNat v5) ([48, 49, 50, 51, 52, 53, 54, 55, 56, 57, 97, 98, 99, 100, 101, 102] : List UInt8)))))) hk rfl rfl rfl rfl ((FW.f_pure (FW.p_slice Go.Proofs.Try.underlying9 hk.kn (FW.holds_nil _) rfl rfl rfl hc1))) ?_; clear hk; intro a w hk
        refine FW.lfun (y := .lit (.string (FW.B v3))) hk rfl rfl rfl rfl (FW.f_move hk (FW.holds_nil _) rfl) ?_; clear hk; intro a w hk
        obtain ⟨hc2, h⟩ := FW.chk h
        refine FW.lfun (y := .lit (.string (FW.B ((List.take (Int.toNat (IntKind.wrap .i64 (v5 + 1)) - Int.toNat v5) (List.drop (Int.toNat v5) ([48, 49, 50, 51, 52, 53, 54, 55, 56, 57, 97, 98, 99, 100, 101, 102] : List UInt8))) ++ v3)))) hk rfl rfl rfl rfl ((FW.f_pure (FW.p_sadd hk.kn (FW.holds_nil _) rfl rfl hc2))) ?_; clear hk; intro a w hk
        refine FW.lfun (y := .lit (.string (FW.B ((List.take (Int.toNat (IntKind.wrap .i64 (v5 + 1)) - Int.toNat v5) (List.drop (Int.toNat v5) ([48, 49, 50, 51, 52, 53, 54, 55, 56, 57, 97, 98, 99, 100, 101, 102] : List UInt8))) ++ v3)))) hk rfl rfl rfl rfl (FW.f_assign hk (FW.holds_nil _) rfl) ?_; clear hk; intro a w hk
        refine wpList_nil ?_
        (repeat first | refine FW.then_normal ?_ | refine FW.block_normal ?_); refine hK10 _ _ ?_
        refine FW.wreg1 ?_
        refine FW.lfun (y := .lit (.int .i64 v0)) hk rfl rfl rfl rfl (FW.f_move hk (FW.holds_nil _) rfl) ?_; clear hk; intro a w hk
        refine FW.lfun (y := .lit (.int .i64 (IntKind.wrap .i64 (Int.tdiv v0 10)))) hk rfl rfl rfl rfl ((FW.f_pure (FW.p_quo hk.kn (FW.holds_nil _) rfl rfl (show ¬ (10 : Int) = 0 from by decide)))) ?_; clear hk; intro a w hk
        refine FW.lfun (y := .lit (.int .i64 (IntKind.wrap .i64 (Int.tdiv v0 10)))) hk rfl rfl rfl rfl (FW.f_assign hk (FW.holds_nil _) rfl) ?_; clear hk; intro a w hk
        refine wpList_nil ?_
        (repeat first | refine FW.then_normal ?_ | refine FW.block_normal ?_); exact hK7 (kl1, (IntKind.wrap .i64 (Int.tdiv v0 10)), ((List.take (Int.toNat (IntKind.wrap .i64 (v5 + 1)) - Int.toNat v5) (List.drop (Int.toNat v5) ([48, 49, 50, 51, 52, 53, 54, 55, 56, 57, 97, 98, 99, 100, 101, 102] : List UInt8))) ++ v3), v4) _ _ (Nat.lt_succ_self _) ⟨hk.sub ⟨rfl, rfl, rfl, trivial⟩, h⟩
      · intro K' hK12
        refine FW.wreg ?_; intro K' hK15
        refine FW.lfun (y := .lit (.bool v4)) hk rfl rfl rfl rfl (FW.f_move hk (FW.holds_nil _) rfl) ?_; clear hk; intro a w hk
        refine FW.lend (hK15 _ _ ?_); clear hK15 K'
        refine FW.wcondF (b := v4) hk h rfl (fun h hb => ?_) (fun h hb => ?_)
        · skip
          refine FW.wreg1 ?_
          refine FW.lfun (y := .lit (.int .i64 (Int.tmod v0 10))) hk rfl rfl rfl rfl (FW.f_move hk (FW.holds_nil _) rfl) ?_; clear hk; intro a w hk
          refine FW.lfun (y := .lit (.int .i64 (IntKind.wrap .i64 (0 - (Int.tmod v0 10))))) hk rfl rfl rfl rfl ((FW.f_pure (FW.p_neg hk.kn (FW.holds_nil _) rfl))) ?_; clear hk; intro a w hk
          refine FW.lfun (y := .lit (.int .i64 (IntKind.wrap .i64 (0 - (Int.tmod v0 10))))) hk rfl rfl rfl rfl (FW.f_assign hk (FW.holds_nil _) rfl) ?_; clear hk; intro a w hk
          refine wpList_nil ?_
          (repeat first | refine FW.then_normal ?_ | refine FW.block_normal ?_); exact hK12 _ _ ⟨v0, v3, v4, (IntKind.wrap .i64 (0 - (Int.tmod v0 10))), hk.sub ⟨rfl, rfl, rfl, rfl, trivial⟩, h⟩
        · skip
          refine wp_skip ?_
          (repeat first | refine FW.then_normal ?_ | refine FW.block_normal ?_); exact hK12 _ _ ⟨v0, v3, v4, (Int.tmod v0 10), hk.sub ⟨rfl, rfl, rfl, rfl, trivial⟩, h⟩
    · skip
      refine wp_exit ?_; (repeat first | refine FW.then_exit ?_ | refine FW.block_exit_ne rfl ?_); refine FW.block_exit ?_
      (repeat first | refine FW.then_normal ?_ | refine FW.block_normal ?_); refine hK6 _ _ ?_
      refine FW.wseq ?_; intro K' hK17
      refine FW.wreg ?_; intro K' hK18
      refine FW.lfun (y := .lit (.bool v4)) hk rfl rfl rfl rfl (FW.f_move hk (FW.holds_nil _) rfl) ?_; clear hk; intro a w hk
      refine FW.lend (hK18 _ _ ?_); clear hK18 K'
      refine FW.wcondF (b := v4) hk h rfl (fun h hb => ?_) (fun h hb => ?_)
      · skip
        refine FW.wreg ?_; intro K' hK19
        refine FW.lfun (y := .lit (.string (FW.B v3))) hk rfl rfl rfl rfl (FW.f_move hk (FW.holds_nil _) rfl) ?_; clear hk; intro a w hk
        obtain ⟨hc3, h⟩ := FW.chk h
        refine FW.lfun (y := .lit (.string (FW.B (([45] : List UInt8) ++ v3)))) hk rfl rfl rfl rfl ((FW.f_pure (FW.p_sadd hk.kn (FW.holds_nil _) rfl rfl hc3))) ?_; clear hk; intro a w hk
        refine FW.lfun (y := .lit (.string (FW.B (([45] : List UInt8) ++ v3)))) hk rfl rfl rfl rfl (FW.f_assign hk (FW.holds_nil _) rfl) ?_; clear hk; intro a w hk
        refine FW.lend (hK19 _ _ ?_); clear hK19 K'
        refine wp_ret ?_
        (repeat first | refine FW.then_ret ?_ | refine FW.block_ret ?_)
        obtain rfl := Option.some.inj h
        exact FW.fret1 hk rfl rfl
      · skip
        refine wp_skip ?_
        (repeat first | refine FW.then_normal ?_ | refine FW.block_normal ?_); refine hK17 _ _ ?_
        refine FW.wreg ?_; intro K' hK20
        refine FW.lfun (y := .lit (.string (FW.B v3))) hk rfl rfl rfl rfl (FW.f_move hk (FW.holds_nil _) rfl) ?_; clear hk; intro a w hk
        refine FW.lfun (y := .lit (.string (FW.B v3))) hk rfl rfl rfl rfl (FW.f_assign hk (FW.holds_nil _) rfl) ?_; clear hk; intro a w hk
        refine FW.lend (hK20 _ _ ?_); clear hK20 K'
        refine wp_ret ?_
        (repeat first | refine FW.then_ret ?_ | refine FW.block_ret ?_)
        obtain rfl := Option.some.inj h
        exact FW.fret1 hk rfl rfl

theorem lex_Float.ok (K : Nat) (v0 : Nat) (r : List UInt8) (h : lex_Float.f K v0 = some r) :
    FW.Ok Go.Proofs.Try.prog 24 [.lit (.float .f64 v0)] (.lit (.string (FW.B r))) := by
  refine FW.enter (xs := [.lit (.float .f64 v0)]) Go.Proofs.Try.func24 rfl Go.Proofs.Try.ntmps24 rfl ?_
  intro M w0 a hk
  unfold lex_Float.f at h
  refine FW.wreg ?_; intro K' hK1
  refine FW.lfun (y := .lit (.string (FW.B ([] : List UInt8)))) hk rfl rfl rfl rfl (FW.f_assign hk (FW.holds_nil _) rfl) ?_; clear hk; intro a w hk
  refine FW.lend (hK1 _ _ ?_); clear hK1 K'
  refine FW.wreg ?_; intro K' hK2
  refine FW.lfun (y := .lit (.float .f64 v0)) hk rfl rfl rfl rfl (FW.f_move hk (FW.holds_nil _) rfl) ?_; clear hk; intro a w hk
  obtain ⟨t1, hr_t1, h⟩ := FW.bnd h
  refine FW.lfun (y := .lit (.float .f64 t1)) hk rfl rfl rfl rfl (FW.f_call hk (FW.holds_nil _) rfl rfl Go.Proofs.Try.func46 rfl (by kernel_rfl) (num_Canon.ok v0 _ hr_t1)) ?_; clear hk; intro a w hk
  refine FW.lfun (y := .lit (.int .u64 ((t1 : Nat) : Int))) hk rfl rfl rfl rfl (FW.f_bits hk (FW.holds_nil _) rfl rfl Go.Proofs.Try.func25 (by kernel_rfl) (by kernel_rfl) (by kernel_rfl) (by kernel_rfl)) ?_; clear hk; intro a w hk
  refine FW.lfun (y := .lit (.int .u64 ((t1 : Nat) : Int))) hk rfl rfl rfl rfl (FW.f_assign hk (FW.holds_nil _) rfl) ?_; clear hk; intro a w hk
  refine FW.lfun (y := .lit (.string (FW.B ([] : List UInt8)))) hk rfl rfl rfl rfl (FW.f_assign hk (FW.holds_nil _) rfl) ?_; clear hk; intro a w hk
  refine FW.lend (hK2 _ _ ?_); clear hK2 K'
  refine FW.wseq ?_; intro K' hK3
  refine FW.wreg ?_; intro K' hK4
  refine FW.lfun (y := .lit (.int .i64 0)) hk rfl rfl rfl rfl (FW.f_move hk (FW.holds_nil _) rfl) ?_; clear hk; intro a w hk
  refine FW.lend (hK4 _ _ ?_); clear hK4 K'
  refine wp_block ?_
  refine FW.wloop (T := Nat × Int × List UInt8 × Int) (fun x a w => match x with | (kl1, v3, v4, v8) => FW.S M w0 a w 24 [] [(3, [], .lit (.int .u64 v3)), (4, [], .lit (.string (FW.B v4))), (8, [], .lit (.int .i64 v8))] ∧ lex_Float.l1 K kl1 v3 v4 v8 = some r) (fun x => x.1) (K, ((t1 : Nat) : Int), ([] : List UInt8), 0) ⟨hk.sub ⟨rfl, rfl, rfl, trivial⟩, h⟩ ?_
  clear hk h
  rintro ⟨kl1, v3, v4, v8⟩ a w ⟨hk, h⟩ K' hK5
  cases kl1 with
  | zero => simp [lex_Float.l1] at h
  | succ kl1 =>
  rw [lex_Float.l1.eq_2] at h
  refine FW.wreg ?_; intro K' hK6
  refine FW.lfun (y := .lit (.bool (decide (v8 < 16)))) hk rfl rfl rfl rfl ((FW.f_pure (FW.p_lss hk.kn (FW.holds_nil _) rfl rfl))) ?_; clear hk; intro a w hk
  refine FW.lend (hK6 _ _ ?_); clear hK6 K'
  refine FW.wseq ?_; intro K' hK7
  refine FW.wcondF (b := (decide (v8 < 16))) hk h rfl (fun h hb => ?_) (fun h hb => ?_)
  · skip
    refine wp_skip ?_
    (repeat first | refine FW.then_normal ?_ | refine FW.block_normal ?_); refine hK7 _ _ ?_
    refine FW.wseq ?_; intro K' hK8
    refine wp_block ?_
    refine FW.wreg ?_; intro K' hK9
    refine FW.lfun (y := .lit (.int .u64 v3)) hk rfl rfl rfl rfl (FW.f_move hk (FW.holds_nil _) rfl) ?_; clear hk; intro a w hk
    refine FW.lfun (y := .lit (.int .u64 (Int.tmod v3 16))) hk rfl rfl rfl rfl ((FW.f_pure (FW.p_rem hk.kn (FW.holds_nil _) rfl rfl (show ¬ (16 : Int) = 0 from by decide)))) ?_; clear hk; intro a w hk
    refine FW.lfun (y := .lit (.int .u64 v3)) hk rfl rfl rfl rfl (FW.f_move hk (FW.holds_nil _) rfl) ?_; clear hk; intro a w hk
    refine FW.lfun (y := .lit (.int .u64 (Int.tmod v3 16))) hk rfl rfl rfl rfl ((FW.f_pure (FW.p_rem hk.kn (FW.holds_nil _) rfl rfl (show ¬ (16 : Int) = 0 from by decide)))) ?_; clear hk; intro a w hk
    refine FW.lfun (y := .lit (.int .u64 (IntKind.wrap .u64 ((Int.tmod v3 16) + 1)))) hk rfl rfl rfl rfl ((FW.f_pure (FW.p_add hk.kn (FW.holds_nil _) rfl rfl))) ?_; clear hk; intro a w hk
    obtain ⟨hc1, h⟩ := FW.chk h
    refine FW.lfun (y := .lit (.string (FW.B (List.take (Int.toNat (IntKind.wrap .u64 ((Int.tmod v3 16) + 1)) - Int.toNat (Int.tmod v3 16)) (List.drop (Int.toNat (Int.tmod v3 16)) ([48, 49, 50, 51, 52, 53, 54, 55, 56, 57, 97, 98, 99, 100, 101, 102] : List UInt8)))))) hk rfl rfl rfl rfl ((FW.f_pure (FW.p_slice Go.Proofs.Try.underlying9 hk.kn (FW.holds_nil _) rfl rfl rfl hc1))) ?_; clear hk; intro a w hk
    refine FW.lfun (y := .lit (.string (FW.B v4))) hk rfl rfl rfl rfl (FW.f_move hk (FW.holds_nil _) rfl) ?_; clear hk; intro a w hk
    obtain ⟨hc2, h⟩ := FW.chk h
    refine FW.lfun (y := .lit (.string (FW.B ((List.take (Int.toNat (IntKind.wrap .u64 ((Int.tmod v3 16) + 1)) - Int.toNat (Int.tmod v3 16)) (List.drop (Int.toNat (Int.tmod v3 16)) ([48, 49, 50, 51, 52, 53, 54, 55, 56, 57, 97, 98, 99, 100, 101, 102] : List UInt8))) ++ v4)))) hk rfl rfl rfl rfl ((FW.f_pure (FW.p_sadd hk.kn (FW.holds_nil _) rfl rfl hc2))) ?_; clear hk; intro a w hk
    refine FW.lfun (y := .lit (.string (FW.B ((List.take (Int.toNat (IntKind.wrap .u64 ((Int.tmod v3 16) + 1)) - Int.toNat (Int.tmod v3 16)) (List.drop (Int.toNat (Int.tmod v3 16)) ([48, 49, 50, 51, 52, 53, 54, 55, 56, 57, 97, 98, 99, 100, 101, 102] : List UInt8))) ++ v4)))) hk rfl rfl rfl rfl (FW.f_assign hk (FW.holds_nil _) rfl) ?_; clear hk; intro a w hk
    refine FW.lend (hK9 _ _ ?_); clear hK9 K'
    refine FW.wreg1 ?_
    refine FW.lfun (y := .lit (.int .u64 v3)) hk rfl rfl rfl rfl (FW.f_move hk (FW.holds_nil _) rfl) ?_; clear hk; intro a w hk
    refine FW.lfun (y := .lit (.int .u64 (IntKind.wrap .u64 (Int.tdiv v3 16)))) hk rfl rfl rfl rfl ((FW.f_pure (FW.p_quo hk.kn (FW.holds_nil _) rfl rfl (show ¬ (16 : Int) = 0 from by decide)))) ?_; clear hk; intro a w hk
    refine FW.lfun (y := .lit (.int .u64 (IntKind.wrap .u64 (Int.tdiv v3 16)))) hk rfl rfl rfl rfl (FW.f_assign hk (FW.holds_nil _) rfl) ?_; clear hk; intro a w hk
    refine wpList_nil ?_
    (repeat first | refine FW.then_normal ?_ | refine FW.block_normal ?_); refine hK8 _ _ ?_
    refine FW.wreg1 ?_
    refine FW.lfun (y := .lit (.int .i64 (IntKind.wrap .i64 (v8 + 1)))) hk rfl rfl rfl rfl ((FW.f_pure (FW.p_add hk.kn (FW.holds_nil _) rfl rfl))) ?_; clear hk; intro a w hk
    refine FW.lfun (y := .lit (.int .i64 (IntKind.wrap .i64 (v8 + 1)))) hk rfl rfl rfl rfl (FW.f_move hk (FW.holds_nil _) rfl) ?_; clear hk; intro a w hk
    refine wpList_nil ?_
    (repeat first | refine FW.then_normal ?_ | refine FW.block_normal ?_); exact hK5 (kl1, (IntKind.wrap .u64 (Int.tdiv v3 16)), ((List.take (Int.toNat (IntKind.wrap .u64 ((Int.tmod v3 16) + 1)) - Int.toNat (Int.tmod v3 16)) (List.drop (Int.toNat (Int.tmod v3 16)) ([48, 49, 50, 51, 52, 53, 54, 55, 56, 57, 97, 98, 99, 100, 101, 102] : List UInt8))) ++ v4), (IntKind.wrap .i64 (v8 + 1))) _ _ (Nat.lt_succ_self _) ⟨hk.sub ⟨rfl, rfl, rfl, trivial⟩, h⟩
  · skip
    refine wp_exit ?_; (repeat first | refine FW.then_exit ?_ | refine FW.block_exit_ne rfl ?_); refine FW.block_exit ?_
    (repeat first | refine FW.then_normal ?_ | refine FW.block_normal ?_); refine hK3 _ _ ?_
    refine FW.wreg ?_; intro K' hK12
    refine FW.lfun (y := .lit (.string (FW.B v4))) hk rfl rfl rfl rfl (FW.f_move hk (FW.holds_nil _) rfl) ?_; clear hk; intro a w hk
    obtain ⟨hc3, h⟩ := FW.chk h
    refine FW.lfun (y := .lit (.string (FW.B (([102, 39] : List UInt8) ++ v4)))) hk rfl rfl rfl rfl ((FW.f_pure (FW.p_sadd hk.kn (FW.holds_nil _) rfl rfl hc3))) ?_; clear hk; intro a w hk
    obtain ⟨hc4, h⟩ := FW.chk h
    refine FW.lfun (y := .lit (.string (FW.B ((([102, 39] : List UInt8) ++ v4) ++ ([39] : List UInt8))))) hk rfl rfl rfl rfl ((FW.f_pure (FW.p_sadd hk.kn (FW.holds_nil _) rfl rfl hc4))) ?_; clear hk; intro a w hk
    refine FW.lfun (y := .lit (.string (FW.B ((([102, 39] : List UInt8) ++ v4) ++ ([39] : List UInt8))))) hk rfl rfl rfl rfl (FW.f_assign hk (FW.holds_nil _) rfl) ?_; clear hk; intro a w hk
    refine FW.lend (hK12 _ _ ?_); clear hK12 K'
    refine wp_ret ?_
    (repeat first | refine FW.then_ret ?_ | refine FW.block_ret ?_)
    obtain rfl := Option.some.inj h
    exact FW.fret1 hk rfl rfl

theorem offshootref01_Canon.ok  (v0 : Nat) (r : Int) (h : offshootref01_Canon.f v0 = some r) :
    FW.Ok Go.Proofs.Try.prog 26 [.lit (.float .f64 v0)] (.lit (.int .u64 r)) := by
  refine FW.enter (xs := [.lit (.float .f64 v0)]) Go.Proofs.Try.func26 rfl Go.Proofs.Try.ntmps26 rfl ?_
  intro M w0 a hk
  unfold offshootref01_Canon.f at h
  refine FW.wreg ?_; intro K' hK1
  refine FW.lfun (y := .lit (.int .u64 0)) hk rfl rfl rfl rfl (FW.f_assign hk (FW.holds_nil _) rfl) ?_; clear hk; intro a w hk
  refine FW.lend (hK1 _ _ ?_); clear hK1 K'
  refine FW.wseq ?_; intro K' hK2
  refine FW.wreg ?_; intro K' hK3
  refine FW.lfun (y := .lit (.float .f64 v0)) hk rfl rfl rfl rfl (FW.f_move hk (FW.holds_nil _) rfl) ?_; clear hk; intro a w hk
  refine FW.lfun (y := .lit (.float .f64 v0)) hk rfl rfl rfl rfl (FW.f_move hk (FW.holds_nil _) rfl) ?_; clear hk; intro a w hk
  refine FW.lfun (y := .lit (.bool (FW.fneq v0 v0))) hk rfl rfl rfl rfl ((FW.f_pure (FW.p_fneq hk.kn (FW.holds_nil _) rfl rfl))) ?_; clear hk; intro a w hk
  refine FW.lend (hK3 _ _ ?_); clear hK3 K'
  refine FW.wcondF (b := (FW.fneq v0 v0)) hk h rfl (fun h hb => ?_) (fun h hb => ?_)
  · skip
    refine FW.wreg ?_; intro K' hK4
    refine FW.lfun (y := .lit (.int .u64 9221120237041090561)) hk rfl rfl rfl rfl (FW.f_assign hk (FW.holds_nil _) rfl) ?_; clear hk; intro a w hk
    refine FW.lend (hK4 _ _ ?_); clear hK4 K'
    refine wp_ret ?_
    (repeat first | refine FW.then_ret ?_ | refine FW.block_ret ?_)
    obtain rfl := Option.some.inj h
    exact FW.fret1 hk rfl rfl
  · skip
    refine wp_skip ?_
    (repeat first | refine FW.then_normal ?_ | refine FW.block_normal ?_); refine hK2 _ _ ?_
    refine FW.wreg ?_; intro K' hK5
    refine FW.lfun (y := .lit (.float .f64 v0)) hk rfl rfl rfl rfl (FW.f_move hk (FW.holds_nil _) rfl) ?_; clear hk; intro a w hk
    refine FW.lfun (y := .lit (.int .u64 ((v0 : Nat) : Int))) hk rfl rfl rfl rfl (FW.f_bits hk (FW.holds_nil _) rfl rfl Go.Proofs.Try.func25 (by kernel_rfl) (by kernel_rfl) (by kernel_rfl) (by kernel_rfl)) ?_; clear hk; intro a w hk
    refine FW.lfun (y := .lit (.int .u64 ((v0 : Nat) : Int))) hk rfl rfl rfl rfl (FW.f_assign hk (FW.holds_nil _) rfl) ?_; clear hk; intro a w hk
    refine FW.lend (hK5 _ _ ?_); clear hK5 K'
    refine wp_ret ?_
    (repeat first | refine FW.then_ret ?_ | refine FW.block_ret ?_)
    obtain rfl := Option.some.inj h
    exact FW.fret1 hk rfl rfl

theorem offshootlaw11_LexNumbers.ok (K : Nat) (v0 : Int) (v1 : Nat) (r : Bool) (h : offshootlaw11_LexNumbers.f K v0 v1 = some r) :
    FW.Ok Go.Proofs.Try.prog 8 [.lit (.int .i64 v0), .lit (.float .f64 v1)] (.lit (.bool r)) := by
  refine FW.enter (xs := [.lit (.int .i64 v0), .lit (.float .f64 v1)]) Go.Proofs.Try.func8 rfl Go.Proofs.Try.ntmps8 rfl ?_
  intro M w0 a hk
  unfold offshootlaw11_LexNumbers.f at h
  refine FW.wreg ?_; intro K' hK1
  refine FW.lfun (y := .lit (.bool false)) hk rfl rfl rfl rfl (FW.f_assign hk (FW.holds_nil _) rfl) ?_; clear hk; intro a w hk
  refine FW.lend (hK1 _ _ ?_); clear hK1 K'
  refine FW.wreg ?_; intro K' hK2
  refine FW.lfun (y := .lit (.int .i64 v0)) hk rfl rfl rfl rfl (FW.f_move hk (FW.holds_nil _) rfl) ?_; clear hk; intro a w hk
  obtain ⟨t1, hr_t1, h⟩ := FW.bnd h
  refine FW.lfun (y := .lit (.string (FW.B t1))) hk rfl rfl rfl rfl (FW.f_call hk (FW.holds_nil _) rfl rfl Go.Proofs.Try.func23 rfl (by kernel_rfl) (lex_Number.ok K v0 _ hr_t1)) ?_; clear hk; intro a w hk
  obtain ⟨hc1, h⟩ := FW.chk h
  refine FW.lfun (y := .lit (.string (FW.B (t1 ++ ([32] : List UInt8))))) hk rfl rfl rfl rfl ((FW.f_pure (FW.p_sadd hk.kn (FW.holds_nil _) rfl rfl hc1))) ?_; clear hk; intro a w hk
  refine FW.lfun (y := .lit (.float .f64 v1)) hk rfl rfl rfl rfl (FW.f_move hk (FW.holds_nil _) rfl) ?_; clear hk; intro a w hk
  obtain ⟨t2, hr_t2, h⟩ := FW.bnd h
  refine FW.lfun (y := .lit (.string (FW.B t2))) hk rfl rfl rfl rfl (FW.f_call hk (FW.holds_nil _) rfl rfl Go.Proofs.Try.func24 rfl (by kernel_rfl) (lex_Float.ok K v1 _ hr_t2)) ?_; clear hk; intro a w hk
  obtain ⟨hc2, h⟩ := FW.chk h
  refine FW.lfun (y := .lit (.string (FW.B ((t1 ++ ([32] : List UInt8)) ++ t2)))) hk rfl rfl rfl rfl ((FW.f_pure (FW.p_sadd hk.kn (FW.holds_nil _) rfl rfl hc2))) ?_; clear hk; intro a w hk
  obtain ⟨t3, hr_t3, h⟩ := FW.bnd h
  refine FW.lfun (y := .tup [.row (r_ApiWord_cells t3.1), .lit (.int .i64 t3.2.1), .lit (.int .i64 t3.2.2)]) hk rfl rfl rfl rfl (FW.f_call hk (FW.holds_nil _) rfl rfl Go.Proofs.Try.func19 rfl (by kernel_rfl) (lex_Words.ok K ((t1 ++ ([32] : List UInt8)) ++ t2) _ hr_t3)) ?_; clear hk; intro a w hk
  refine FW.lfun (y := .tup [.row (r_ApiWord_cells t3.1), .lit (.int .i64 t3.2.1), .lit (.int .i64 t3.2.2)]) hk rfl rfl rfl rfl (FW.f_move hk (FW.holds_nil _) rfl) ?_; clear hk; intro a w hk
  refine FW.lfun (y := .row (r_ApiWord_cells t3.1)) hk rfl rfl rfl rfl (FW.f_extract hk (FW.holds_nil _) rfl rfl) ?_; clear hk; intro a w hk
  refine FW.lfun (y := .lit (.int .i64 t3.2.1)) hk rfl rfl rfl rfl (FW.f_extract hk (FW.holds_nil _) rfl rfl) ?_; clear hk; intro a w hk
  refine FW.lfun (y := .lit (.int .i64 t3.2.2)) hk rfl rfl rfl rfl (FW.f_extract hk (FW.holds_nil _) rfl rfl) ?_; clear hk; intro a w hk
  refine FW.lfun (y := .row (r_ApiWord_cells t3.1)) hk rfl rfl rfl rfl (FW.f_assign hk (FW.holds_nil _) rfl) ?_; clear hk; intro a w hk
  refine FW.lfun (y := .lit (.int .i64 t3.2.1)) hk rfl rfl rfl rfl (FW.f_assign hk (FW.holds_nil _) rfl) ?_; clear hk; intro a w hk
  refine FW.lfun (y := .lit (.int .i64 t3.2.2)) hk rfl rfl rfl rfl (FW.f_assign hk (FW.holds_nil _) rfl) ?_; clear hk; intro a w hk
  refine FW.lend (hK2 _ _ ?_); clear hK2 K'
  refine FW.wreg ?_; intro K' hK3
  refine FW.lfun (y := .lit (.int .i64 v0)) hk rfl rfl rfl rfl (FW.f_move hk (FW.holds_nil _) rfl) ?_; clear hk; intro a w hk
  obtain ⟨t4, hr_t4, h⟩ := FW.bnd h
  refine FW.lfun (y := .lit (.string (FW.B t4))) hk rfl rfl rfl rfl (FW.f_call hk (FW.holds_nil _) rfl rfl Go.Proofs.Try.func23 rfl (by kernel_rfl) (lex_Number.ok K v0 _ hr_t4)) ?_; clear hk; intro a w hk
  obtain ⟨t5, hr_t5, h⟩ := FW.bnd h
  refine FW.lfun (y := .tup [.lit (.int .i64 t5.1), .lit (.bool t5.2)]) hk rfl rfl rfl rfl (FW.f_call hk (FW.holds_nil _) rfl rfl Go.Proofs.Try.func18 rfl (by kernel_rfl) (offshootref11_Int.ok K t4 _ hr_t5)) ?_; clear hk; intro a w hk
  refine FW.lfun (y := .tup [.lit (.int .i64 t5.1), .lit (.bool t5.2)]) hk rfl rfl rfl rfl (FW.f_move hk (FW.holds_nil _) rfl) ?_; clear hk; intro a w hk
  refine FW.lfun (y := .lit (.int .i64 t5.1)) hk rfl rfl rfl rfl (FW.f_extract hk (FW.holds_nil _) rfl rfl) ?_; clear hk; intro a w hk
  refine FW.lfun (y := .lit (.bool t5.2)) hk rfl rfl rfl rfl (FW.f_extract hk (FW.holds_nil _) rfl rfl) ?_; clear hk; intro a w hk
  refine FW.lfun (y := .lit (.int .i64 t5.1)) hk rfl rfl rfl rfl (FW.f_assign hk (FW.holds_nil _) rfl) ?_; clear hk; intro a w hk
  refine FW.lfun (y := .lit (.bool t5.2)) hk rfl rfl rfl rfl (FW.f_assign hk (FW.holds_nil _) rfl) ?_; clear hk; intro a w hk
  refine FW.lend (hK3 _ _ ?_); clear hK3 K'
  refine FW.wreg ?_; intro K' hK4
  obtain ⟨t6, hr_t6, h⟩ := FW.bnd h
  refine FW.lfun (y := .lit (.bool t6)) hk rfl rfl rfl rfl (FW.f_call hk (FW.holds_nil _) rfl rfl Go.Proofs.Try.func20 rfl (by kernel_rfl) (offshootlaw11_awake.ok K  _ hr_t6)) ?_; clear hk; intro a w hk
  refine FW.lfun (y := .lit (.bool t6)) hk rfl rfl rfl rfl (FW.f_move hk (FW.holds_nil _) rfl) ?_; clear hk; intro a w hk
  refine FW.lfunG (y := .lit (.bool t5.2)) hk rfl rfl rfl rfl rfl rfl rfl rfl (fun hc => FW.f_move hk hc rfl) ?_; clear hk; intro a w hk
  refine FW.lfun (y := .lit (.bool (t6 && t5.2))) hk rfl rfl rfl rfl ((FW.f_pure (FW.p_pick_and hk.kn (FW.holds_nil _) rfl rfl))) ?_; clear hk; intro a w hk
  refine FW.lfun (y := .lit (.bool (t6 && t5.2))) hk rfl rfl rfl rfl (FW.f_move hk (FW.holds_nil _) rfl) ?_; clear hk; intro a w hk
  refine FW.lfunG (y := .lit (.int .i64 t5.1)) hk rfl rfl rfl rfl rfl rfl rfl rfl (fun hc => FW.f_move hk hc rfl) ?_; clear hk; intro a w hk
  refine FW.lfunG (y := .lit (.int .i64 v0)) hk rfl rfl rfl rfl rfl rfl rfl rfl (fun hc => FW.f_move hk hc rfl) ?_; clear hk; intro a w hk
  refine FW.lfunG (y := .lit (.bool (decide (t5.1 = v0)))) hk rfl rfl rfl rfl rfl rfl rfl rfl (fun hc => (FW.f_pure (FW.p_eql hk.kn hc rfl rfl))) ?_; clear hk; intro a w hk
  refine FW.lfun (y := .lit (.bool ((t6 && t5.2) && (decide (t5.1 = v0))))) hk rfl rfl rfl rfl ((FW.f_pure (FW.p_pick_and hk.kn (FW.holds_nil _) rfl rfl))) ?_; clear hk; intro a w hk
  refine FW.lfun (y := .lit (.bool ((t6 && t5.2) && (decide (t5.1 = v0))))) hk rfl rfl rfl rfl (FW.f_move hk (FW.holds_nil _) rfl) ?_; clear hk; intro a w hk
  refine FW.lfunG (y := .lit (.int .i64 t3.2.2)) hk rfl rfl rfl rfl rfl rfl rfl rfl (fun hc => FW.f_move hk hc rfl) ?_; clear hk; intro a w hk
  refine FW.lfunG (y := .lit (.bool (decide (t3.2.2 = 0)))) hk rfl rfl rfl rfl rfl rfl rfl rfl (fun hc => (FW.f_pure (FW.p_eql hk.kn hc rfl rfl))) ?_; clear hk; intro a w hk
  refine FW.lfun (y := .lit (.bool (((t6 && t5.2) && (decide (t5.1 = v0))) && (decide (t3.2.2 = 0))))) hk rfl rfl rfl rfl ((FW.f_pure (FW.p_pick_and hk.kn (FW.holds_nil _) rfl rfl))) ?_; clear hk; intro a w hk
  refine FW.lfun (y := .lit (.bool (((t6 && t5.2) && (decide (t5.1 = v0))) && (decide (t3.2.2 = 0))))) hk rfl rfl rfl rfl (FW.f_move hk (FW.holds_nil _) rfl) ?_; clear hk; intro a w hk
  refine FW.lfunG (y := .row (r_ApiWord_cells t3.1)) hk rfl rfl rfl rfl rfl rfl rfl rfl (fun hc => FW.f_move hk hc rfl) ?_; clear hk; intro a w hk
  refine FW.lfunG (y := .lit (.int .i64 (List.length t3.1 : Int))) hk rfl rfl rfl rfl rfl rfl rfl rfl (fun hc => FW.f_len (R := r_ApiWord_cells) (f := ApiWord.cells) (l := t3.1) r_ApiWord_cells_eq Go.Proofs.Try.underlying48 hk hc rfl) ?_; clear hk; intro a w hk
  refine FW.lfunG (y := .lit (.bool (decide ((List.length t3.1 : Int) = 3)))) hk rfl rfl rfl rfl rfl rfl rfl rfl (fun hc => (FW.f_pure (FW.p_eql hk.kn hc rfl rfl))) ?_; clear hk; intro a w hk
  refine FW.lfun (y := .lit (.bool ((((t6 && t5.2) && (decide (t5.1 = v0))) && (decide (t3.2.2 = 0))) && (decide ((List.length t3.1 : Int) = 3))))) hk rfl rfl rfl rfl ((FW.f_pure (FW.p_pick_and hk.kn (FW.holds_nil _) rfl rfl))) ?_; clear hk; intro a w hk
  refine FW.lfun (y := .lit (.bool ((((t6 && t5.2) && (decide (t5.1 = v0))) && (decide (t3.2.2 = 0))) && (decide ((List.length t3.1 : Int) = 3))))) hk rfl rfl rfl rfl (FW.f_move hk (FW.holds_nil _) rfl) ?_; clear hk; intro a w hk
  refine FW.lfunG (y := .row (r_ApiWord_cells t3.1)) hk rfl rfl rfl rfl rfl rfl rfl rfl (fun hc => FW.f_move hk hc rfl) ?_; clear hk; intro a w hk
  obtain ⟨hc3, h⟩ := FW.chk h
  refine FW.lfunG (y := .ref (ApiWord.cells (List.getD t3.1 (Int.toNat 0) default))) hk rfl rfl rfl rfl rfl rfl rfl rfl (fun hc => FW.f_indexAddr (R := r_ApiWord_cells) (f := ApiWord.cells) (l := t3.1) (sz := 5) r_ApiWord_cells_eq (fun _ => rfl) hk hc rfl rfl Go.Proofs.Try.underlying48 (by kernel_rfl) hc3) ?_; clear hk; intro a w hk
  refine FW.lfunG (y := .ref (List.drop 0 (ApiWord.cells (List.getD t3.1 (Int.toNat 0) default)))) hk rfl rfl rfl rfl rfl rfl rfl rfl (fun hc => FW.f_fieldAddr hk hc rfl Go.Proofs.Try.underlying52 rfl (by kernel_rfl) rfl) ?_; clear hk; intro a w hk
  refine FW.lfunG (y := .lit (.int .i64 ((List.getD t3.1 (Int.toNat 0) default).Kind))) hk rfl rfl rfl rfl rfl rfl rfl rfl (fun hc => FW.f_load1 hk hc rfl rfl Go.Proofs.Try.underlying3 rfl) ?_; clear hk; intro a w hk
  refine FW.lfunG (y := .lit (.bool (decide (((List.getD t3.1 (Int.toNat 0) default).Kind) = 2)))) hk rfl rfl rfl rfl rfl rfl rfl rfl (fun hc => (FW.f_pure (FW.p_eql hk.kn hc rfl rfl))) ?_; clear hk; intro a w hk
  refine FW.lfun (y := .lit (.bool (((((t6 && t5.2) && (decide (t5.1 = v0))) && (decide (t3.2.2 = 0))) && (decide ((List.length t3.1 : Int) = 3))) && (decide (((List.getD t3.1 (Int.toNat 0) default).Kind) = 2))))) hk rfl rfl rfl rfl ((FW.f_pure (FW.p_pick_and hk.kn (FW.holds_nil _) rfl rfl))) ?_; clear hk; intro a w hk
  refine FW.lfun (y := .lit (.bool (((((t6 && t5.2) && (decide (t5.1 = v0))) && (decide (t3.2.2 = 0))) && (decide ((List.length t3.1 : Int) = 3))) && (decide (((List.getD t3.1 (Int.toNat 0) default).Kind) = 2))))) hk rfl rfl rfl rfl (FW.f_move hk (FW.holds_nil _) rfl) ?_; clear hk; intro a w hk
  refine FW.lfunG (y := .row (r_ApiWord_cells t3.1)) hk rfl rfl rfl rfl rfl rfl rfl rfl (fun hc => FW.f_move hk hc rfl) ?_; clear hk; intro a w hk
  obtain ⟨hc4, h⟩ := FW.chk h
  refine FW.lfunG (y := .ref (ApiWord.cells (List.getD t3.1 (Int.toNat 0) default))) hk rfl rfl rfl rfl rfl rfl rfl rfl (fun hc => FW.f_indexAddr (R := r_ApiWord_cells) (f := ApiWord.cells) (l := t3.1) (sz := 5) r_ApiWord_cells_eq (fun _ => rfl) hk hc rfl rfl Go.Proofs.Try.underlying48 (by kernel_rfl) hc4) ?_; clear hk; intro a w hk
  refine FW.lfunG (y := .ref (List.drop 2 (ApiWord.cells (List.getD t3.1 (Int.toNat 0) default)))) hk rfl rfl rfl rfl rfl rfl rfl rfl (fun hc => FW.f_fieldAddr hk hc rfl Go.Proofs.Try.underlying52 rfl (by kernel_rfl) rfl) ?_; clear hk; intro a w hk
  refine FW.lfunG (y := .lit (.int .i64 ((List.getD t3.1 (Int.toNat 0) default).N))) hk rfl rfl rfl rfl rfl rfl rfl rfl (fun hc => FW.f_load1 hk hc rfl rfl Go.Proofs.Try.underlying2 rfl) ?_; clear hk; intro a w hk
  refine FW.lfunG (y := .lit (.int .i64 v0)) hk rfl rfl rfl rfl rfl rfl rfl rfl (fun hc => FW.f_move hk hc rfl) ?_; clear hk; intro a w hk
  refine FW.lfunG (y := .lit (.bool (decide (((List.getD t3.1 (Int.toNat 0) default).N) = v0)))) hk rfl rfl rfl rfl rfl rfl rfl rfl (fun hc => (FW.f_pure (FW.p_eql hk.kn hc rfl rfl))) ?_; clear hk; intro a w hk
  refine FW.lfun (y := .lit (.bool ((((((t6 && t5.2) && (decide (t5.1 = v0))) && (decide (t3.2.2 = 0))) && (decide ((List.length t3.1 : Int) = 3))) && (decide (((List.getD t3.1 (Int.toNat 0) default).Kind) = 2))) && (decide (((List.getD t3.1 (Int.toNat 0) default).N) = v0))))) hk rfl rfl rfl rfl ((FW.f_pure (FW.p_pick_and hk.kn (FW.holds_nil _) rfl rfl))) ?_; clear hk; intro a w hk
  refine FW.lfun (y := .lit (.bool ((((((t6 && t5.2) && (decide (t5.1 = v0))) && (decide (t3.2.2 = 0))) && (decide ((List.length t3.1 : Int) = 3))) && (decide (((List.getD t3.1 (Int.toNat 0) default).Kind) = 2))) && (decide (((List.getD t3.1 (Int.toNat 0) default).N) = v0))))) hk rfl rfl rfl rfl (FW.f_move hk (FW.holds_nil _) rfl) ?_; clear hk; intro a w hk
  refine FW.lfunG (y := .row (r_ApiWord_cells t3.1)) hk rfl rfl rfl rfl rfl rfl rfl rfl (fun hc => FW.f_move hk hc rfl) ?_; clear hk; intro a w hk
  obtain ⟨hc5, h⟩ := FW.chk h
  refine FW.lfunG (y := .ref (ApiWord.cells (List.getD t3.1 (Int.toNat 1) default))) hk rfl rfl rfl rfl rfl rfl rfl rfl (fun hc => FW.f_indexAddr (R := r_ApiWord_cells) (f := ApiWord.cells) (l := t3.1) (sz := 5) r_ApiWord_cells_eq (fun _ => rfl) hk hc rfl rfl Go.Proofs.Try.underlying48 (by kernel_rfl) hc5) ?_; clear hk; intro a w hk
  refine FW.lfunG (y := .ref (List.drop 0 (ApiWord.cells (List.getD t3.1 (Int.toNat 1) default)))) hk rfl rfl rfl rfl rfl rfl rfl rfl (fun hc => FW.f_fieldAddr hk hc rfl Go.Proofs.Try.underlying52 rfl (by kernel_rfl) rfl) ?_; clear hk; intro a w hk
  refine FW.lfunG (y := .lit (.int .i64 ((List.getD t3.1 (Int.toNat 1) default).Kind))) hk rfl rfl rfl rfl rfl rfl rfl rfl (fun hc => FW.f_load1 hk hc rfl rfl Go.Proofs.Try.underlying3 rfl) ?_; clear hk; intro a w hk
  refine FW.lfunG (y := .lit (.bool (decide (((List.getD t3.1 (Int.toNat 1) default).Kind) = 3)))) hk rfl rfl rfl rfl rfl rfl rfl rfl (fun hc => (FW.f_pure (FW.p_eql hk.kn hc rfl rfl))) ?_; clear hk; intro a w hk
  refine FW.lfun (y := .lit (.bool (((((((t6 && t5.2) && (decide (t5.1 = v0))) && (decide (t3.2.2 = 0))) && (decide ((List.length t3.1 : Int) = 3))) && (decide (((List.getD t3.1 (Int.toNat 0) default).Kind) = 2))) && (decide (((List.getD t3.1 (Int.toNat 0) default).N) = v0))) && (decide (((List.getD t3.1 (Int.toNat 1) default).Kind) = 3))))) hk rfl rfl rfl rfl ((FW.f_pure (FW.p_pick_and hk.kn (FW.holds_nil _) rfl rfl))) ?_; clear hk; intro a w hk
  refine FW.lfun (y := .lit (.bool (((((((t6 && t5.2) && (decide (t5.1 = v0))) && (decide (t3.2.2 = 0))) && (decide ((List.length t3.1 : Int) = 3))) && (decide (((List.getD t3.1 (Int.toNat 0) default).Kind) = 2))) && (decide (((List.getD t3.1 (Int.toNat 0) default).N) = v0))) && (decide (((List.getD t3.1 (Int.toNat 1) default).Kind) = 3))))) hk rfl rfl rfl rfl (FW.f_move hk (FW.holds_nil _) rfl) ?_; clear hk; intro a w hk
  refine FW.lfunG (y := .row (r_ApiWord_cells t3.1)) hk rfl rfl rfl rfl rfl rfl rfl rfl (fun hc => FW.f_move hk hc rfl) ?_; clear hk; intro a w hk
  obtain ⟨hc6, h⟩ := FW.chk h
  refine FW.lfunG (y := .ref (ApiWord.cells (List.getD t3.1 (Int.toNat 1) default))) hk rfl rfl rfl rfl rfl rfl rfl rfl (fun hc => FW.f_indexAddr (R := r_ApiWord_cells) (f := ApiWord.cells) (l := t3.1) (sz := 5) r_ApiWord_cells_eq (fun _ => rfl) hk hc rfl rfl Go.Proofs.Try.underlying48 (by kernel_rfl) hc6) ?_; clear hk; intro a w hk
  refine FW.lfunG (y := .ref (List.drop 3 (ApiWord.cells (List.getD t3.1 (Int.toNat 1) default)))) hk rfl rfl rfl rfl rfl rfl rfl rfl (fun hc => FW.f_fieldAddr hk hc rfl Go.Proofs.Try.underlying52 rfl (by kernel_rfl) rfl) ?_; clear hk; intro a w hk
  refine FW.lfunG (y := .lit (.float .f64 ((List.getD t3.1 (Int.toNat 1) default).F))) hk rfl rfl rfl rfl rfl rfl rfl rfl (fun hc => FW.f_load1 hk hc rfl rfl Go.Proofs.Try.underlying30 rfl) ?_; clear hk; intro a w hk
  refine FW.lfunG (y := .lit (.int .u64 ((((List.getD t3.1 (Int.toNat 1) default).F) : Nat) : Int))) hk rfl rfl rfl rfl rfl rfl rfl rfl (fun hc => FW.f_bits hk hc rfl rfl Go.Proofs.Try.func25 (by kernel_rfl) (by kernel_rfl) (by kernel_rfl) (by kernel_rfl)) ?_; clear hk; intro a w hk
  refine FW.lfunG (y := .lit (.float .f64 v1)) hk rfl rfl rfl rfl rfl rfl rfl rfl (fun hc => FW.f_move hk hc rfl) ?_; clear hk; intro a w hk
  obtain ⟨t7, hr_t7, h⟩ := FW.bndG h
  refine FW.lfunG (y := .lit (.int .u64 t7)) hk rfl rfl rfl rfl rfl rfl rfl rfl (fun hc => FW.f_call hk hc rfl rfl Go.Proofs.Try.func26 rfl (by kernel_rfl) (offshootref01_Canon.ok v1 _ (hr_t7 (FW.asm_out (p := (((((((t6 && t5.2) && (decide (t5.1 = v0))) && (decide (t3.2.2 = 0))) && (decide ((List.length t3.1 : Int) = 3))) && (decide (((List.getD t3.1 (Int.toNat 0) default).Kind) = 2))) && (decide (((List.getD t3.1 (Int.toNat 0) default).N) = v0))) && (decide (((List.getD t3.1 (Int.toNat 1) default).Kind) = 3))) = true) hk.kn hc (fun e0 => e0))))) ?_; clear hk; intro a w hk
  refine FW.lfunG (y := .lit (.bool (decide (((((List.getD t3.1 (Int.toNat 1) default).F) : Nat) : Int) = t7)))) hk rfl rfl rfl rfl rfl rfl rfl rfl (fun hc => (FW.f_pure (FW.p_eql hk.kn hc rfl rfl))) ?_; clear hk; intro a w hk
  refine FW.lfun (y := .lit (.bool ((((((((t6 && t5.2) && (decide (t5.1 = v0))) && (decide (t3.2.2 = 0))) && (decide ((List.length t3.1 : Int) = 3))) && (decide (((List.getD t3.1 (Int.toNat 0) default).Kind) = 2))) && (decide (((List.getD t3.1 (Int.toNat 0) default).N) = v0))) && (decide (((List.getD t3.1 (Int.toNat 1) default).Kind) = 3))) && (decide (((((List.getD t3.1 (Int.toNat 1) default).F) : Nat) : Int) = t7))))) hk rfl rfl rfl rfl ((FW.f_pure (FW.p_pick_and hk.kn (FW.holds_nil _) rfl rfl))) ?_; clear hk; intro a w hk
  refine FW.lfun (y := .lit (.bool ((((((((t6 && t5.2) && (decide (t5.1 = v0))) && (decide (t3.2.2 = 0))) && (decide ((List.length t3.1 : Int) = 3))) && (decide (((List.getD t3.1 (Int.toNat 0) default).Kind) = 2))) && (decide (((List.getD t3.1 (Int.toNat 0) default).N) = v0))) && (decide (((List.getD t3.1 (Int.toNat 1) default).Kind) = 3))) && (decide (((((List.getD t3.1 (Int.toNat 1) default).F) : Nat) : Int) = t7))))) hk rfl rfl rfl rfl (FW.f_move hk (FW.holds_nil _) rfl) ?_; clear hk; intro a w hk
  refine FW.lfunG (y := .lit (.float .f64 v1)) hk rfl rfl rfl rfl rfl rfl rfl rfl (fun hc => FW.f_move hk hc rfl) ?_; clear hk; intro a w hk
  obtain ⟨t8, hr_t8, h⟩ := FW.bndG h
  refine FW.lfunG (y := .lit (.string (FW.B t8))) hk rfl rfl rfl rfl rfl rfl rfl rfl (fun hc => FW.f_call hk hc rfl rfl Go.Proofs.Try.func24 rfl (by kernel_rfl) (lex_Float.ok K v1 _ (hr_t8 (FW.asm_out (p := ((((((((t6 && t5.2) && (decide (t5.1 = v0))) && (decide (t3.2.2 = 0))) && (decide ((List.length t3.1 : Int) = 3))) && (decide (((List.getD t3.1 (Int.toNat 0) default).Kind) = 2))) && (decide (((List.getD t3.1 (Int.toNat 0) default).N) = v0))) && (decide (((List.getD t3.1 (Int.toNat 1) default).Kind) = 3))) && (decide (((((List.getD t3.1 (Int.toNat 1) default).F) : Nat) : Int) = t7))) = true) hk.kn hc (fun e0 => e0))))) ?_; clear hk; intro a w hk
  refine FW.lfunG (y := .lit (.int .i64 (List.length t8 : Int))) hk rfl rfl rfl rfl rfl rfl rfl rfl (fun hc => (FW.f_pure (FW.p_slen Go.Proofs.Try.underlying9 hk.kn hc rfl))) ?_; clear hk; intro a w hk
  refine FW.lfunG (y := .lit (.bool (decide ((List.length t8 : Int) = 19)))) hk rfl rfl rfl rfl rfl rfl rfl rfl (fun hc => (FW.f_pure (FW.p_eql hk.kn hc rfl rfl))) ?_; clear hk; intro a w hk
  refine FW.lfun (y := .lit (.bool (((((((((t6 && t5.2) && (decide (t5.1 = v0))) && (decide (t3.2.2 = 0))) && (decide ((List.length t3.1 : Int) = 3))) && (decide (((List.getD t3.1 (Int.toNat 0) default).Kind) = 2))) && (decide (((List.getD t3.1 (Int.toNat 0) default).N) = v0))) && (decide (((List.getD t3.1 (Int.toNat 1) default).Kind) = 3))) && (decide (((((List.getD t3.1 (Int.toNat 1) default).F) : Nat) : Int) = t7))) && (decide ((List.length t8 : Int) = 19))))) hk rfl rfl rfl rfl ((FW.f_pure (FW.p_pick_and hk.kn (FW.holds_nil _) rfl rfl))) ?_; clear hk; intro a w hk
  refine FW.lfun (y := .lit (.bool (((((((((t6 && t5.2) && (decide (t5.1 = v0))) && (decide (t3.2.2 = 0))) && (decide ((List.length t3.1 : Int) = 3))) && (decide (((List.getD t3.1 (Int.toNat 0) default).Kind) = 2))) && (decide (((List.getD t3.1 (Int.toNat 0) default).N) = v0))) && (decide (((List.getD t3.1 (Int.toNat 1) default).Kind) = 3))) && (decide (((((List.getD t3.1 (Int.toNat 1) default).F) : Nat) : Int) = t7))) && (decide ((List.length t8 : Int) = 19))))) hk rfl rfl rfl rfl (FW.f_assign hk (FW.holds_nil _) rfl) ?_; clear hk; intro a w hk
  refine FW.lend (hK4 _ _ ?_); clear hK4 K'
  refine wp_ret ?_
  (repeat first | refine FW.then_ret ?_ | refine FW.block_ret ?_)
  obtain rfl := Option.some.inj h
  exact FW.fret1 hk rfl rfl

theorem lex_Text.ok (K : Nat) (v0 : List UInt8) (r : List UInt8) (h : lex_Text.f K v0 = some r) :
    FW.Ok Go.Proofs.Try.prog 21 [.lit (.string (FW.B v0))] (.lit (.string (FW.B r))) := by
  refine FW.enter (xs := [.lit (.string (FW.B v0))]) Go.Proofs.Try.func21 rfl Go.Proofs.Try.ntmps21 rfl ?_
  intro M w0 a hk
  unfold lex_Text.f at h
  refine FW.wreg ?_; intro K' hK1
  refine FW.lfun (y := .lit (.string (FW.B ([] : List UInt8)))) hk rfl rfl rfl rfl (FW.f_assign hk (FW.holds_nil _) rfl) ?_; clear hk; intro a w hk
  refine FW.lend (hK1 _ _ ?_); clear hK1 K'
  refine FW.wreg ?_; intro K' hK2
  refine l_bldNew hk rfl rfl ?_; clear hk; intro b1 a w hk
  refine FW.lend (hK2 _ _ ?_); clear hK2 K'
  refine FW.wreg ?_; intro K' hK3
  obtain ⟨hc1, h⟩ := FW.chk h
  refine l_bldByte (I' := fun bv1 => [bldI w0.heap.size b1 bv1 (([] : List UInt8) ++ [UInt8.ofNat (Int.toNat 39)])]) (j := 0) hk rfl rfl rfl rfl rfl hc1 (fun _ => rfl) ?_; clear hk; intro bv1 a w hk
  refine FW.lend (hK3 _ _ ?_); clear hK3 K'
  refine FW.wseq ?_; intro K' hK4
  refine FW.wreg ?_; intro K' hK5
  refine FW.lfun (y := .lit (.string (FW.B v0))) hk rfl rfl rfl rfl (FW.f_move hk (FW.holds_nil _) rfl) ?_; clear hk; intro a w hk
  refine FW.lfun (y := .row (r_c_u8 (FW.bytesI v0))) hk rfl rfl rfl rfl (FW.f_bytes hk (FW.holds_nil _) Go.Proofs.Try.underlying9 Go.Proofs.Try.underlying45 Go.Proofs.Try.underlying5 rfl) ?_; clear hk; intro a w hk
  refine FW.lfun (y := .lit (.int .i64 (List.length (FW.bytesI v0) : Int))) hk rfl rfl rfl rfl (FW.f_len (R := r_c_u8) (f := c_u8) (l := (FW.bytesI v0)) r_c_u8_eq Go.Proofs.Try.underlying45 hk (FW.holds_nil _) rfl) ?_; clear hk; intro a w hk
  refine FW.lfun (y := .lit (.int .i64 0)) hk rfl rfl rfl rfl (FW.f_move hk (FW.holds_nil _) rfl) ?_; clear hk; intro a w hk
  refine FW.lend (hK5 _ _ ?_); clear hK5 K'
  refine wp_block ?_
  refine FW.wloop (T := Nat × List UInt8 × List Int × Int × Int × Value) (fun x a w => match x with | (kl1, l1, v8, v9, v10, bv1) => FW.S M w0 a w 45 [bldI w0.heap.size b1 bv1 l1] [(3, [], .lit (.pointer (some ⟨b1, 0, none⟩))), (8, [], .row (r_c_u8 v8)), (9, [], .lit (.int .i64 v9)), (10, [], .lit (.int .i64 v10))] ∧ lex_Text.l1 K kl1 l1 v8 v9 v10 = some r) (fun x => x.1) (K, (([] : List UInt8) ++ [UInt8.ofNat (Int.toNat 39)]), (FW.bytesI v0), (List.length (FW.bytesI v0) : Int), 0, bv1) ⟨hk.sub ⟨rfl, rfl, rfl, rfl, trivial⟩, h⟩ ?_
  clear hk h
  rintro ⟨kl1, l1, v8, v9, v10, bv1⟩ a w ⟨hk, h⟩ K' hK6
  cases kl1 with
  | zero => simp [lex_Text.l1] at h
  | succ kl1 =>
  rw [lex_Text.l1.eq_2] at h
  refine FW.wreg ?_; intro K' hK7
  refine FW.lfun (y := .lit (.bool (decide (v10 < v9)))) hk rfl rfl rfl rfl ((FW.f_pure (FW.p_lss hk.kn (FW.holds_nil _) rfl rfl))) ?_; clear hk; intro a w hk
  refine FW.lend (hK7 _ _ ?_); clear hK7 K'
  refine FW.wseq ?_; intro K' hK8
  refine FW.wcondF (b := (decide (v10 < v9))) hk h rfl (fun h hb => ?_) (fun h hb => ?_)
  · skip
    refine wp_skip ?_
    (repeat first | refine FW.then_normal ?_ | refine FW.block_normal ?_); refine hK8 _ _ ?_
    refine FW.wseqJ (fun a w => ∃ (l1 : List UInt8) (v8 : List Int) (v9 : Int) (v10 : Int) (bv1 : Value), FW.S M w0 a w 45 [bldI w0.heap.size b1 bv1 l1] [(3, [], .lit (.pointer (some ⟨b1, 0, none⟩))), (8, [], .row (r_c_u8 v8)), (9, [], .lit (.int .i64 v9)), (10, [], .lit (.int .i64 v10))] ∧ lex_Text.j1 (lex_Text.l1 K kl1) K l1 v8 v9 v10 = some r) ?_ ?_
    · clear hk h
      rintro a w ⟨l1, v8, v9, v10, bv1, hk, h⟩
      unfold lex_Text.j1 at h
      refine FW.wreg1 ?_
      refine FW.lfun (y := .lit (.int .i64 (IntKind.wrap .i64 (v10 + 1)))) hk rfl rfl rfl rfl ((FW.f_pure (FW.p_add hk.kn (FW.holds_nil _) rfl rfl))) ?_; clear hk; intro a w hk
      refine FW.lfun (y := .lit (.int .i64 (IntKind.wrap .i64 (v10 + 1)))) hk rfl rfl rfl rfl (FW.f_move hk (FW.holds_nil _) rfl) ?_; clear hk; intro a w hk
      refine wpList_nil ?_
      (repeat first | refine FW.then_normal ?_ | refine FW.block_normal ?_); exact hK6 (kl1, l1, v8, v9, (IntKind.wrap .i64 (v10 + 1)), bv1) _ _ (Nat.lt_succ_self _) ⟨hk.sub ⟨rfl, rfl, rfl, rfl, trivial⟩, h⟩
    · intro K' hK9
      refine wp_block ?_
      refine FW.wreg ?_; intro K' hK11
      obtain ⟨hc2, h⟩ := FW.chk h
      refine FW.lfun (y := .ref (c_u8 (List.getD v8 (Int.toNat v10) default))) hk rfl rfl rfl rfl (FW.f_indexAddr (R := r_c_u8) (f := c_u8) (l := v8) (sz := 1) r_c_u8_eq (fun _ => rfl) hk (FW.holds_nil _) rfl rfl Go.Proofs.Try.underlying45 (by kernel_rfl) hc2) ?_; clear hk; intro a w hk
      refine FW.lfun (y := .lit (.int .u8 (List.getD v8 (Int.toNat v10) default))) hk rfl rfl rfl rfl (FW.f_load1 hk (FW.holds_nil _) rfl rfl Go.Proofs.Try.underlying5 rfl) ?_; clear hk; intro a w hk
      refine FW.lfun (y := .lit (.int .u8 (List.getD v8 (Int.toNat v10) default))) hk rfl rfl rfl rfl (FW.f_assign hk (FW.holds_nil _) rfl) ?_; clear hk; intro a w hk
      refine FW.lend (hK11 _ _ ?_); clear hK11 K'
      refine wp_block ?_
      refine FW.wreg ?_; intro K' hK12
      refine FW.lfun (y := .lit (.int .u8 (List.getD v8 (Int.toNat v10) default))) hk rfl rfl rfl rfl (FW.f_move hk (FW.holds_nil _) rfl) ?_; clear hk; intro a w hk
      refine FW.lfun (y := .lit (.bool (decide ((List.getD v8 (Int.toNat v10) default) = 39)))) hk rfl rfl rfl rfl ((FW.f_pure (FW.p_eql hk.kn (FW.holds_nil _) rfl rfl))) ?_; clear hk; intro a w hk
      refine FW.lfun (y := .lit (.bool (decide ((List.getD v8 (Int.toNat v10) default) = 39)))) hk rfl rfl rfl rfl (FW.f_move hk (FW.holds_nil _) rfl) ?_; clear hk; intro a w hk
      refine FW.lfunG (y := .lit (.int .u8 (List.getD v8 (Int.toNat v10) default))) hk rfl rfl rfl rfl rfl rfl rfl rfl (fun hc => FW.f_move hk hc rfl) ?_; clear hk; intro a w hk
      refine FW.lfunG (y := .lit (.bool (decide ((List.getD v8 (Int.toNat v10) default) = 92)))) hk rfl rfl rfl rfl rfl rfl rfl rfl (fun hc => (FW.f_pure (FW.p_eql hk.kn hc rfl rfl))) ?_; clear hk; intro a w hk
      refine FW.lfun (y := .lit (.bool ((decide ((List.getD v8 (Int.toNat v10) default) = 39)) || (decide ((List.getD v8 (Int.toNat v10) default) = 92))))) hk rfl rfl rfl rfl ((FW.f_pure (FW.p_pick_or hk.kn (FW.holds_nil _) rfl rfl))) ?_; clear hk; intro a w hk
      refine FW.lfun (y := .lit (.bool ((decide ((List.getD v8 (Int.toNat v10) default) = 39)) || (decide ((List.getD v8 (Int.toNat v10) default) = 92))))) hk rfl rfl rfl rfl (FW.f_assign hk (FW.holds_nil _) rfl) ?_; clear hk; intro a w hk
      refine FW.lend (hK12 _ _ ?_); clear hK12 K'
      refine FW.wcondF (b := ((decide ((List.getD v8 (Int.toNat v10) default) = 39)) || (decide ((List.getD v8 (Int.toNat v10) default) = 92)))) hk h rfl (fun h hb => ?_) (fun h hb => ?_)
      · skip
        refine FW.wreg ?_; intro K' hK13
        obtain ⟨hc3, h⟩ := FW.chk h
        refine l_bldByte (I' := fun bv2 => [bldI w0.heap.size b1 bv2 (l1 ++ [UInt8.ofNat (Int.toNat 92)])]) (j := 0) hk rfl rfl rfl rfl rfl hc3 (fun _ => rfl) ?_; clear hk; intro bv2 a w hk
        refine FW.lend (hK13 _ _ ?_); clear hK13 K'
        refine FW.wreg1 ?_
        refine FW.lfun (y := .lit (.int .u8 (List.getD v8 (Int.toNat v10) default))) hk rfl rfl rfl rfl (FW.f_move hk (FW.holds_nil _) rfl) ?_; clear hk; intro a w hk
        obtain ⟨hc4, h⟩ := FW.chk h
        refine l_bldByte (I' := fun bv3 => [bldI w0.heap.size b1 bv3 ((l1 ++ [UInt8.ofNat (Int.toNat 92)]) ++ [UInt8.ofNat (Int.toNat (List.getD v8 (Int.toNat v10) default))])]) (j := 0) hk rfl rfl rfl rfl rfl hc4 (fun _ => rfl) ?_; clear hk; intro bv3 a w hk
        refine wpList_nil ?_
        (repeat first | refine FW.then_normal ?_ | refine FW.block_normal ?_); exact hK9 _ _ ⟨((l1 ++ [UInt8.ofNat (Int.toNat 92)]) ++ [UInt8.ofNat (Int.toNat (List.getD v8 (Int.toNat v10) default))]), v8, v9, v10, bv3, hk.sub ⟨rfl, rfl, rfl, rfl, trivial⟩, h⟩
      · skip
        refine FW.wreg ?_; intro K' hK15
        refine FW.lfun (y := .lit (.int .u8 (List.getD v8 (Int.toNat v10) default))) hk rfl rfl rfl rfl (FW.f_move hk (FW.holds_nil _) rfl) ?_; clear hk; intro a w hk
        refine FW.lfun (y := .lit (.bool (decide ((List.getD v8 (Int.toNat v10) default) < 32)))) hk rfl rfl rfl rfl ((FW.f_pure (FW.p_lss hk.kn (FW.holds_nil _) rfl rfl))) ?_; clear hk; intro a w hk
        refine FW.lfun (y := .lit (.bool (decide ((List.getD v8 (Int.toNat v10) default) < 32)))) hk rfl rfl rfl rfl (FW.f_move hk (FW.holds_nil _) rfl) ?_; clear hk; intro a w hk
        refine FW.lfunG (y := .lit (.int .u8 (List.getD v8 (Int.toNat v10) default))) hk rfl rfl rfl rfl rfl rfl rfl rfl (fun hc => FW.f_move hk hc rfl) ?_; clear hk; intro a w hk
        refine FW.lfunG (y := .lit (.bool (decide (126 < (List.getD v8 (Int.toNat v10) default))))) hk rfl rfl rfl rfl rfl rfl rfl rfl (fun hc => (FW.f_pure (FW.p_gtr hk.kn hc rfl rfl))) ?_; clear hk; intro a w hk
        refine FW.lfun (y := .lit (.bool ((decide ((List.getD v8 (Int.toNat v10) default) < 32)) || (decide (126 < (List.getD v8 (Int.toNat v10) default)))))) hk rfl rfl rfl rfl ((FW.f_pure (FW.p_pick_or hk.kn (FW.holds_nil _) rfl rfl))) ?_; clear hk; intro a w hk
        refine FW.lfun (y := .lit (.bool ((decide ((List.getD v8 (Int.toNat v10) default) < 32)) || (decide (126 < (List.getD v8 (Int.toNat v10) default)))))) hk rfl rfl rfl rfl (FW.f_assign hk (FW.holds_nil _) rfl) ?_; clear hk; intro a w hk
        refine FW.lend (hK15 _ _ ?_); clear hK15 K'
        refine FW.wcondF (b := ((decide ((List.getD v8 (Int.toNat v10) default) < 32)) || (decide (126 < (List.getD v8 (Int.toNat v10) default))))) hk h rfl (fun h hb => ?_) (fun h hb => ?_)
        · skip
          refine FW.wreg ?_; intro K' hK16
          obtain ⟨hc5, h⟩ := FW.chk h
          refine l_bldStr (I' := fun bv4 => [bldI w0.heap.size b1 bv4 (l1 ++ ([92, 120] : List UInt8))]) (j := 0) hk rfl rfl rfl rfl rfl hc5 (fun _ => rfl) ?_; clear hk; intro bv4 a w hk
          refine FW.lend (hK16 _ _ ?_); clear hK16 K'
          refine FW.wreg ?_; intro K' hK17
          refine FW.lfun (y := .lit (.int .u8 (List.getD v8 (Int.toNat v10) default))) hk rfl rfl rfl rfl (FW.f_move hk (FW.holds_nil _) rfl) ?_; clear hk; intro a w hk
          refine FW.lfun (y := .lit (.int .u8 (IntKind.wrap .u8 (Int.tdiv (List.getD v8 (Int.toNat v10) default) 16)))) hk rfl rfl rfl rfl ((FW.f_pure (FW.p_quo hk.kn (FW.holds_nil _) rfl rfl (show ¬ (16 : Int) = 0 from by decide)))) ?_; clear hk; intro a w hk
          obtain ⟨hc6, h⟩ := FW.chk h
          refine FW.lfun (y := .lit (.int .u8 (FW.bt ([48, 49, 50, 51, 52, 53, 54, 55, 56, 57, 97, 98, 99, 100, 101, 102] : List UInt8) (IntKind.wrap .u8 (Int.tdiv (List.getD v8 (Int.toNat v10) default) 16))))) hk rfl rfl rfl rfl ((FW.f_pure (FW.p_index Go.Proofs.Try.underlying9 hk.kn (FW.holds_nil _) rfl rfl hc6))) ?_; clear hk; intro a w hk
          obtain ⟨hc7, h⟩ := FW.chk h
          refine l_bldByte (I' := fun bv5 => [bldI w0.heap.size b1 bv5 ((l1 ++ ([92, 120] : List UInt8)) ++ [UInt8.ofNat (Int.toNat (FW.bt ([48, 49, 50, 51, 52, 53, 54, 55, 56, 57, 97, 98, 99, 100, 101, 102] : List UInt8) (IntKind.wrap .u8 (Int.tdiv (List.getD v8 (Int.toNat v10) default) 16))))])]) (j := 0) hk rfl rfl rfl rfl rfl hc7 (fun _ => rfl) ?_; clear hk; intro bv5 a w hk
          refine FW.lend (hK17 _ _ ?_); clear hK17 K'
          refine FW.wreg1 ?_
          refine FW.lfun (y := .lit (.int .u8 (List.getD v8 (Int.toNat v10) default))) hk rfl rfl rfl rfl (FW.f_move hk (FW.holds_nil _) rfl) ?_; clear hk; intro a w hk
          refine FW.lfun (y := .lit (.int .u8 (Int.tmod (List.getD v8 (Int.toNat v10) default) 16))) hk rfl rfl rfl rfl ((FW.f_pure (FW.p_rem hk.kn (FW.holds_nil _) rfl rfl (show ¬ (16 : Int) = 0 from by decide)))) ?_; clear hk; intro a w hk
          obtain ⟨hc8, h⟩ := FW.chk h
          refine FW.lfun (y := .lit (.int .u8 (FW.bt ([48, 49, 50, 51, 52, 53, 54, 55, 56, 57, 97, 98, 99, 100, 101, 102] : List UInt8) (Int.tmod (List.getD v8 (Int.toNat v10) default) 16)))) hk rfl rfl rfl rfl ((FW.f_pure (FW.p_index Go.Proofs.Try.underlying9 hk.kn (FW.holds_nil _) rfl rfl hc8))) ?_; clear hk; intro a w hk
          obtain ⟨hc9, h⟩ := FW.chk h
          refine l_bldByte (I' := fun bv6 => [bldI w0.heap.size b1 bv6 (((l1 ++ ([92, 120] : List UInt8)) ++ [UInt8.ofNat (Int.toNat (FW.bt ([48, 49, 50, 51, 52, 53, 54, 55, 56, 57, 97, 98, 99, 100, 101, 102] : List UInt8) (IntKind.wrap .u8 (Int.tdiv (List.getD v8 (Int.toNat v10) default) 16))))]) ++ [UInt8.ofNat (Int.toNat (FW.bt ([48, 49, 50, 51, 52, 53, 54, 55, 56, 57, 97, 98, 99, 100, 101, 102] : List UInt8) (Int.tmod (List.getD v8 (Int.toNat v10) default) 16)))])]) (j := 0) hk rfl rfl rfl rfl rfl hc9 (fun _ => rfl) ?_; clear hk; intro bv6 a w hk
          refine wpList_nil ?_
          (repeat first | refine FW.then_normal ?_ | refine FW.block_normal ?_); exact hK9 _ _ ⟨(((l1 ++ ([92, 120] : List UInt8)) ++ [UInt8.ofNat (Int.toNat (FW.bt ([48, 49, 50, 51, 52, 53, 54, 55, 56, 57, 97, 98, 99, 100, 101, 102] : List UInt8) (IntKind.wrap .u8 (Int.tdiv (List.getD v8 (Int.toNat v10) default) 16))))]) ++ [UInt8.ofNat (Int.toNat (FW.bt ([48, 49, 50, 51, 52, 53, 54, 55, 56, 57, 97, 98, 99, 100, 101, 102] : List UInt8) (Int.tmod (List.getD v8 (Int.toNat v10) default) 16)))]), v8, v9, v10, bv6, hk.sub ⟨rfl, rfl, rfl, rfl, trivial⟩, h⟩
        · skip
          refine FW.wreg1 ?_
          refine FW.lfun (y := .lit (.int .u8 (List.getD v8 (Int.toNat v10) default))) hk rfl rfl rfl rfl (FW.f_move hk (FW.holds_nil _) rfl) ?_; clear hk; intro a w hk
          obtain ⟨hc10, h⟩ := FW.chk h
          refine l_bldByte (I' := fun bv7 => [bldI w0.heap.size b1 bv7 (l1 ++ [UInt8.ofNat (Int.toNat (List.getD v8 (Int.toNat v10) default))])]) (j := 0) hk rfl rfl rfl rfl rfl hc10 (fun _ => rfl) ?_; clear hk; intro bv7 a w hk
          refine wpList_nil ?_
          (repeat first | refine FW.then_normal ?_ | refine FW.block_normal ?_); exact hK9 _ _ ⟨(l1 ++ [UInt8.ofNat (Int.toNat (List.getD v8 (Int.toNat v10) default))]), v8, v9, v10, bv7, hk.sub ⟨rfl, rfl, rfl, rfl, trivial⟩, h⟩
  · skip
    refine wp_exit ?_; (repeat first | refine FW.then_exit ?_ | refine FW.block_exit_ne rfl ?_); refine FW.block_exit ?_
    (repeat first | refine FW.then_normal ?_ | refine FW.block_normal ?_); refine hK4 _ _ ?_
    refine FW.wreg ?_; intro K' hK20
    obtain ⟨hc11, h⟩ := FW.chk h
    refine l_bldByte (I' := fun bv8 => [bldI w0.heap.size b1 bv8 (l1 ++ [UInt8.ofNat (Int.toNat 39)])]) (j := 0) hk rfl rfl rfl rfl rfl hc11 (fun _ => rfl) ?_; clear hk; intro bv8 a w hk
    refine FW.lend (hK20 _ _ ?_); clear hK20 K'
    refine FW.wreg ?_; intro K' hK21
    refine l_bldString (σ' := [(9, [], .lit (.int .i64 v9)), (10, [], .lit (.int .i64 v10)), (11, [], .lit (.bool (decide (v10 < v9)))), (43, [], .lit .nilIface)]) (j := 0) hk rfl rfl rfl rfl ⟨rfl, rfl, rfl, rfl, trivial⟩ rfl ?_; clear hk; intro a w hk
    refine FW.lfun (y := .lit (.string (FW.B (l1 ++ [UInt8.ofNat (Int.toNat 39)])))) hk rfl rfl rfl rfl (FW.f_assign hk (FW.holds_nil _) rfl) ?_; clear hk; intro a w hk
    refine FW.lend (hK21 _ _ ?_); clear hK21 K'
    refine wp_ret ?_
    (repeat first | refine FW.then_ret ?_ | refine FW.block_ret ?_)
    obtain rfl := Option.some.inj h
    exact FW.fret1 hk rfl rfl

theorem offshootref11_digit.ok  (v0 : Int) (r : Int) (h : offshootref11_digit.f v0 = some r) :
    FW.Ok Go.Proofs.Try.prog 45 [.lit (.int .u8 v0)] (.lit (.int .i64 r)) := by
  refine FW.enter (xs := [.lit (.int .u8 v0)]) Go.Proofs.Try.func45 rfl Go.Proofs.Try.ntmps45 rfl ?_
  intro M w0 a hk
  unfold offshootref11_digit.f at h
  refine FW.wreg ?_; intro K' hK1
  refine FW.lfun (y := .lit (.int .i64 0)) hk rfl rfl rfl rfl (FW.f_assign hk (FW.holds_nil _) rfl) ?_; clear hk; intro a w hk
  refine FW.lend (hK1 _ _ ?_); clear hK1 K'
  refine FW.wseq ?_; intro K' hK2
  refine FW.wreg ?_; intro K' hK3
  refine FW.lfun (y := .lit (.int .u8 v0)) hk rfl rfl rfl rfl (FW.f_move hk (FW.holds_nil _) rfl) ?_; clear hk; intro a w hk
  refine FW.lfun (y := .lit (.bool (decide (48 ≤ v0)))) hk rfl rfl rfl rfl ((FW.f_pure (FW.p_geq hk.kn (FW.holds_nil _) rfl rfl))) ?_; clear hk; intro a w hk
  refine FW.lfun (y := .lit (.bool (decide (48 ≤ v0)))) hk rfl rfl rfl rfl (FW.f_move hk (FW.holds_nil _) rfl) ?_; clear hk; intro a w hk
  refine FW.lfunG (y := .lit (.int .u8 v0)) hk rfl rfl rfl rfl rfl rfl rfl rfl (fun hc => FW.f_move hk hc rfl) ?_; clear hk; intro a w hk
  refine FW.lfunG (y := .lit (.bool (decide (v0 ≤ 57)))) hk rfl rfl rfl rfl rfl rfl rfl rfl (fun hc => (FW.f_pure (FW.p_leq hk.kn hc rfl rfl))) ?_; clear hk; intro a w hk
  refine FW.lfun (y := .lit (.bool ((decide (48 ≤ v0)) && (decide (v0 ≤ 57))))) hk rfl rfl rfl rfl ((FW.f_pure (FW.p_pick_and hk.kn (FW.holds_nil _) rfl rfl))) ?_; clear hk; intro a w hk
  refine FW.lend (hK3 _ _ ?_); clear hK3 K'
  refine FW.wcondF (b := ((decide (48 ≤ v0)) && (decide (v0 ≤ 57)))) hk h rfl (fun h hb => ?_) (fun h hb => ?_)
  · skip
    refine FW.wreg ?_; intro K' hK4
    refine FW.lfun (y := .lit (.int .u8 v0)) hk rfl rfl rfl rfl (FW.f_move hk (FW.holds_nil _) rfl) ?_; clear hk; intro a w hk
    refine FW.lfun (y := .lit (.int .i64 (IntKind.wrap .i64 v0))) hk rfl rfl rfl rfl ((FW.f_pure (FW.p_conv Go.Proofs.Try.underlying5 Go.Proofs.Try.underlying3 hk.kn (FW.holds_nil _) rfl))) ?_; clear hk; intro a w hk
    refine FW.lfun (y := .lit (.int .i64 (IntKind.wrap .i64 ((IntKind.wrap .i64 v0) - 48)))) hk rfl rfl rfl rfl ((FW.f_pure (FW.p_sub hk.kn (FW.holds_nil _) rfl rfl))) ?_; clear hk; intro a w hk
    refine FW.lfun (y := .lit (.int .i64 (IntKind.wrap .i64 ((IntKind.wrap .i64 v0) - 48)))) hk rfl rfl rfl rfl (FW.f_assign hk (FW.holds_nil _) rfl) ?_; clear hk; intro a w hk
    refine FW.lend (hK4 _ _ ?_); clear hK4 K'
    refine wp_ret ?_
    (repeat first | refine FW.then_ret ?_ | refine FW.block_ret ?_)
    obtain rfl := Option.some.inj h
    exact FW.fret1 hk rfl rfl
  · skip
    refine wp_skip ?_
    (repeat first | refine FW.then_normal ?_ | refine FW.block_normal ?_); refine hK2 _ _ ?_
    refine FW.wseq ?_; intro K' hK5
    refine FW.wreg ?_; intro K' hK6
    refine FW.lfun (y := .lit (.int .u8 v0)) hk rfl rfl rfl rfl (FW.f_move hk (FW.holds_nil _) rfl) ?_; clear hk; intro a w hk
    refine FW.lfun (y := .lit (.bool (decide (97 ≤ v0)))) hk rfl rfl rfl rfl ((FW.f_pure (FW.p_geq hk.kn (FW.holds_nil _) rfl rfl))) ?_; clear hk; intro a w hk
    refine FW.lfun (y := .lit (.bool (decide (97 ≤ v0)))) hk rfl rfl rfl rfl (FW.f_move hk (FW.holds_nil _) rfl) ?_; clear hk; intro a w hk
    refine FW.lfunG (y := .lit (.int .u8 v0)) hk rfl rfl rfl rfl rfl rfl rfl rfl (fun hc => FW.f_move hk hc rfl) ?_; clear hk; intro a w hk
    refine FW.lfunG (y := .lit (.bool (decide (v0 ≤ 102)))) hk rfl rfl rfl rfl rfl rfl rfl rfl (fun hc => (FW.f_pure (FW.p_leq hk.kn hc rfl rfl))) ?_; clear hk; intro a w hk
    refine FW.lfun (y := .lit (.bool ((decide (97 ≤ v0)) && (decide (v0 ≤ 102))))) hk rfl rfl rfl rfl ((FW.f_pure (FW.p_pick_and hk.kn (FW.holds_nil _) rfl rfl))) ?_; clear hk; intro a w hk
    refine FW.lend (hK6 _ _ ?_); clear hK6 K'
    refine FW.wcondF (b := ((decide (97 ≤ v0)) && (decide (v0 ≤ 102)))) hk h rfl (fun h hb => ?_) (fun h hb => ?_)
    · skip
      refine FW.wreg ?_; intro K' hK7
      refine FW.lfun (y := .lit (.int .u8 v0)) hk rfl rfl rfl rfl (FW.f_move hk (FW.holds_nil _) rfl) ?_; clear hk; intro a w hk
      refine FW.lfun (y := .lit (.int .i64 (IntKind.wrap .i64 v0))) hk rfl rfl rfl rfl ((FW.f_pure (FW.p_conv Go.Proofs.Try.underlying5 Go.Proofs.Try.underlying3 hk.kn (FW.holds_nil _) rfl))) ?_; clear hk; intro a w hk
      refine FW.lfun (y := .lit (.int .i64 (IntKind.wrap .i64 ((IntKind.wrap .i64 v0) - 97)))) hk rfl rfl rfl rfl ((FW.f_pure (FW.p_sub hk.kn (FW.holds_nil _) rfl rfl))) ?_; clear hk; intro a w hk
      refine FW.lfun (y := .lit (.int .i64 (IntKind.wrap .i64 ((IntKind.wrap .i64 ((IntKind.wrap .i64 v0) - 97)) + 10)))) hk rfl rfl rfl rfl ((FW.f_pure (FW.p_add hk.kn (FW.holds_nil _) rfl rfl))) ?_; clear hk; intro a w hk
      refine FW.lfun (y := .lit (.int .i64 (IntKind.wrap .i64 ((IntKind.wrap .i64 ((IntKind.wrap .i64 v0) - 97)) + 10)))) hk rfl rfl rfl rfl (FW.f_assign hk (FW.holds_nil _) rfl) ?_; clear hk; intro a w hk
      refine FW.lend (hK7 _ _ ?_); clear hK7 K'
      refine wp_ret ?_
      (repeat first | refine FW.then_ret ?_ | refine FW.block_ret ?_)
      obtain rfl := Option.some.inj h
      exact FW.fret1 hk rfl rfl
    · skip
      refine wp_skip ?_
      (repeat first | refine FW.then_normal ?_ | refine FW.block_normal ?_); refine hK5 _ _ ?_
      refine FW.wreg ?_; intro K' hK8
      refine FW.lfun (y := .lit (.int .i64 16)) hk rfl rfl rfl rfl (FW.f_assign hk (FW.holds_nil _) rfl) ?_; clear hk; intro a w hk
      refine FW.lend (hK8 _ _ ?_); clear hK8 K'
      refine wp_ret ?_
      (repeat first | refine FW.then_ret ?_ | refine FW.block_ret ?_)
      obtain rfl := Option.some.inj h
      exact FW.fret1 hk rfl rfl

theorem offshootref11_Quoted.ok (K : Nat) (v0 : List UInt8) (r : List UInt8 × Int) (h : offshootref11_Quoted.f K v0 = some r) :
    FW.Ok Go.Proofs.Try.prog 22 [.lit (.string (FW.B v0))] (.tup [.lit (.string (FW.B r.1)), .lit (.int .i64 r.2)]) := by
  refine FW.enter (xs := [.lit (.string (FW.B v0))]) Go.Proofs.Try.func22 rfl Go.Proofs.Try.ntmps22 rfl ?_
  intro M w0 a hk
  unfold offshootref11_Quoted.f at h
  refine FW.wreg ?_; intro K' hK1
  refine FW.lfun (y := .lit (.string (FW.B ([] : List UInt8)))) hk rfl rfl rfl rfl (FW.f_assign hk (FW.holds_nil _) rfl) ?_; clear hk; intro a w hk
  refine FW.lfun (y := .lit (.int .i64 0)) hk rfl rfl rfl rfl (FW.f_assign hk (FW.holds_nil _) rfl) ?_; clear hk; intro a w hk
  refine FW.lend (hK1 _ _ ?_); clear hK1 K'
  refine FW.wreg ?_; intro K' hK2
  refine FW.l_buildSlice0 (f := c_u8) hk rfl rfl Go.Proofs.Try.underlying45 rfl (fun _ => rfl) ?_; clear hk; intro b1 a w hk
  refine FW.lfun (y := .lit (.slice (some ⟨b1, 0, none⟩) (List.length ([] : List Int)) 0)) hk rfl rfl rfl rfl (FW.f_assign hk (FW.holds_nil _) rfl) ?_; clear hk; intro a w hk
  refine FW.lend (hK2 _ _ ?_); clear hK2 K'
  refine FW.wseq ?_; intro K' hK3
  refine FW.wreg ?_; intro K' hK4
  refine FW.lfun (y := .lit (.string (FW.B v0))) hk rfl rfl rfl rfl (FW.f_move hk (FW.holds_nil _) rfl) ?_; clear hk; intro a w hk
  refine FW.lfun (y := .lit (.bool (decide (v0 = ([] : List UInt8))))) hk rfl rfl rfl rfl ((FW.f_pure (FW.p_seql hk.kn (FW.holds_nil _) rfl rfl))) ?_; clear hk; intro a w hk
  refine FW.lfun (y := .lit (.bool (decide (v0 = ([] : List UInt8))))) hk rfl rfl rfl rfl (FW.f_move hk (FW.holds_nil _) rfl) ?_; clear hk; intro a w hk
  refine FW.lfunG (y := .lit (.string (FW.B v0))) hk rfl rfl rfl rfl rfl rfl rfl rfl (fun hc => FW.f_move hk hc rfl) ?_; clear hk; intro a w hk
  obtain ⟨hc1, h⟩ := FW.chk h
  refine FW.lfunG (y := .lit (.int .u8 (FW.bt v0 0))) hk rfl rfl rfl rfl rfl rfl rfl rfl (fun hc => (FW.f_pure (FW.p_index Go.Proofs.Try.underlying9 hk.kn hc rfl rfl hc1))) ?_; clear hk; intro a w hk
  refine FW.lfunG (y := .lit (.bool (!decide ((FW.bt v0 0) = 39)))) hk rfl rfl rfl rfl rfl rfl rfl rfl (fun hc => (FW.f_pure (FW.p_neq hk.kn hc rfl rfl))) ?_; clear hk; intro a w hk
  refine FW.lfun (y := .lit (.bool ((decide (v0 = ([] : List UInt8))) || (!decide ((FW.bt v0 0) = 39))))) hk rfl rfl rfl rfl ((FW.f_pure (FW.p_pick_or hk.kn (FW.holds_nil _) rfl rfl))) ?_; clear hk; intro a w hk
  refine FW.lend (hK4 _ _ ?_); clear hK4 K'
  refine FW.wcondF (b := ((decide (v0 = ([] : List UInt8))) || (!decide ((FW.bt v0 0) = 39)))) hk h rfl (fun h hb => ?_) (fun h hb => ?_)
  · skip
    refine FW.wreg ?_; intro K' hK5
    refine FW.lfun (y := .lit (.string (FW.B ([] : List UInt8)))) hk rfl rfl rfl rfl (FW.f_assign hk (FW.holds_nil _) rfl) ?_; clear hk; intro a w hk
    refine FW.lfun (y := .lit (.int .i64 0)) hk rfl rfl rfl rfl (FW.f_assign hk (FW.holds_nil _) rfl) ?_; clear hk; intro a w hk
    refine FW.lend (hK5 _ _ ?_); clear hK5 K'
    refine wp_ret ?_
    (repeat first | refine FW.then_ret ?_ | refine FW.block_ret ?_)
    obtain rfl := Option.some.inj h
    exact FW.fret2 hk rfl rfl rfl
  · skip
    refine wp_skip ?_
    (repeat first | refine FW.then_normal ?_ | refine FW.block_normal ?_); refine hK3 _ _ ?_
    refine FW.wseq ?_; intro K' hK6
    refine FW.wreg ?_; intro K' hK7
    refine FW.lfun (y := .lit (.int .i64 1)) hk rfl rfl rfl rfl (FW.f_assign hk (FW.holds_nil _) rfl) ?_; clear hk; intro a w hk
    refine FW.lend (hK7 _ _ ?_); clear hK7 K'
    refine wp_block ?_
    refine FW.wloop (T := Nat × List Int × List UInt8 × Int × Option Addr × Nat) (fun x a w => match x with | (kl1, l1, v0, v5, ad1, cap1) => FW.S M w0 a w 116 [FW.orow ad1 cap1 5 1 c_u8 l1] [(0, [], .lit (.string (FW.B v0))), (4, [], .lit (.slice ad1 (List.length l1) cap1)), (5, [], .lit (.int .i64 v5))] ∧ offshootref11_Quoted.l1 K kl1 l1 v0 v5 = some r) (fun x => x.1) (K, ([] : List Int), v0, 1, (some ⟨b1, 0, none⟩), 0) ⟨hk.sub ⟨rfl, rfl, rfl, trivial⟩, h⟩ ?_
    clear hk h
    rintro ⟨kl1, l1, v0, v5, ad1, cap1⟩ a w ⟨hk, h⟩ K' hK8
    cases kl1 with
    | zero => simp [offshootref11_Quoted.l1] at h
    | succ kl1 =>
    rw [offshootref11_Quoted.l1.eq_2] at h
    refine FW.wseq ?_; intro K' hK9
    refine FW.wreg ?_; intro K' hK10
    refine FW.lfun (y := .lit (.int .i64 v5)) hk rfl rfl rfl rfl (FW.f_move hk (FW.holds_nil _) rfl) ?_; clear hk; intro a w hk
    refine FW.lfun (y := .lit (.string (FW.B v0))) hk rfl rfl rfl rfl (FW.f_move hk (FW.holds_nil _) rfl) ?_; clear hk; intro a w hk
    refine FW.lfun (y := .lit (.int .i64 (List.length v0 : Int))) hk rfl rfl rfl rfl ((FW.f_pure (FW.p_slen Go.Proofs.Try.underlying9 hk.kn (FW.holds_nil _) rfl))) ?_; clear hk; intro a w hk
    refine FW.lfun (y := .lit (.bool (decide (v5 < (List.length v0 : Int))))) hk rfl rfl rfl rfl ((FW.f_pure (FW.p_lss hk.kn (FW.holds_nil _) rfl rfl))) ?_; clear hk; intro a w hk
    refine FW.lend (hK10 _ _ ?_); clear hK10 K'
    refine FW.wcondF (b := (decide (v5 < (List.length v0 : Int)))) hk h rfl (fun h hb => ?_) (fun h hb => ?_)
    · skip
      refine wp_skip ?_
      (repeat first | refine FW.then_normal ?_ | refine FW.block_normal ?_); refine hK9 _ _ ?_
      refine wp_block ?_
      refine FW.wreg ?_; intro K' hK11
      refine FW.lfun (y := .lit (.string (FW.B v0))) hk rfl rfl rfl rfl (FW.f_move hk (FW.holds_nil _) rfl) ?_; clear hk; intro a w hk
      refine FW.lfun (y := .lit (.int .i64 v5)) hk rfl rfl rfl rfl (FW.f_move hk (FW.holds_nil _) rfl) ?_; clear hk; intro a w hk
      obtain ⟨hc2, h⟩ := FW.chk h
      refine FW.lfun (y := .lit (.int .u8 (FW.bt v0 v5))) hk rfl rfl rfl rfl ((FW.f_pure (FW.p_index Go.Proofs.Try.underlying9 hk.kn (FW.holds_nil _) rfl rfl hc2))) ?_; clear hk; intro a w hk
      refine FW.lfun (y := .lit (.int .u8 (FW.bt v0 v5))) hk rfl rfl rfl rfl (FW.f_assign hk (FW.holds_nil _) rfl) ?_; clear hk; intro a w hk
      refine FW.lend (hK11 _ _ ?_); clear hK11 K'
      refine FW.wseq ?_; intro K' hK12
      refine FW.wreg ?_; intro K' hK13
      refine FW.lfun (y := .lit (.int .u8 (FW.bt v0 v5))) hk rfl rfl rfl rfl (FW.f_move hk (FW.holds_nil _) rfl) ?_; clear hk; intro a w hk
      refine FW.lfun (y := .lit (.bool (decide ((FW.bt v0 v5) = 39)))) hk rfl rfl rfl rfl ((FW.f_pure (FW.p_eql hk.kn (FW.holds_nil _) rfl rfl))) ?_; clear hk; intro a w hk
      refine FW.lend (hK13 _ _ ?_); clear hK13 K'
      refine FW.wcondF (b := (decide ((FW.bt v0 v5) = 39))) hk h rfl (fun h hb => ?_) (fun h hb => ?_)
      · skip
        refine FW.wreg ?_; intro K' hK14
        refine FW.lfun (y := .lit (.slice ad1 (List.length l1) cap1)) hk rfl rfl rfl rfl (FW.f_move hk (FW.holds_nil _) rfl) ?_; clear hk; intro a w hk
        refine FW.lfun (y := .lit (.string (FW.B (FW.toB l1)))) hk rfl rfl rfl rfl (FW.f_toBown (f := c_u8) rfl hk (FW.holds_nil _) (j := 0) rfl rfl Go.Proofs.Try.underlying45 Go.Proofs.Try.underlying5 Go.Proofs.Try.underlying9) ?_; clear hk; intro a w hk
        refine FW.lfun (y := .lit (.int .i64 v5)) hk rfl rfl rfl rfl (FW.f_move hk (FW.holds_nil _) rfl) ?_; clear hk; intro a w hk
        refine FW.lfun (y := .lit (.int .i64 (IntKind.wrap .i64 (v5 + 1)))) hk rfl rfl rfl rfl ((FW.f_pure (FW.p_add hk.kn (FW.holds_nil _) rfl rfl))) ?_; clear hk; intro a w hk
        refine FW.lfun (y := .lit (.string (FW.B (FW.toB l1)))) hk rfl rfl rfl rfl (FW.f_assign hk (FW.holds_nil _) rfl) ?_; clear hk; intro a w hk
        refine FW.lfun (y := .lit (.int .i64 (IntKind.wrap .i64 (v5 + 1)))) hk rfl rfl rfl rfl (FW.f_assign hk (FW.holds_nil _) rfl) ?_; clear hk; intro a w hk
        refine FW.lend (hK14 _ _ ?_); clear hK14 K'
        refine wp_ret ?_
        (repeat first | refine FW.then_ret ?_ | refine FW.block_ret ?_)
        obtain rfl := Option.some.inj h
        exact FW.fret2 hk rfl rfl rfl
      · skip
        refine wp_skip ?_
        (repeat first | refine FW.then_normal ?_ | refine FW.block_normal ?_); refine hK12 _ _ ?_
        refine FW.wseq ?_; intro K' hK15
        refine FW.wreg ?_; intro K' hK16
        refine FW.lfun (y := .lit (.int .u8 (FW.bt v0 v5))) hk rfl rfl rfl rfl (FW.f_move hk (FW.holds_nil _) rfl) ?_; clear hk; intro a w hk
        refine FW.lfun (y := .lit (.bool (decide ((FW.bt v0 v5) < 32)))) hk rfl rfl rfl rfl ((FW.f_pure (FW.p_lss hk.kn (FW.holds_nil _) rfl rfl))) ?_; clear hk; intro a w hk
        refine FW.lfun (y := .lit (.bool (decide ((FW.bt v0 v5) < 32)))) hk rfl rfl rfl rfl (FW.f_move hk (FW.holds_nil _) rfl) ?_; clear hk; intro a w hk
        refine FW.lfunG (y := .lit (.int .u8 (FW.bt v0 v5))) hk rfl rfl rfl rfl rfl rfl rfl rfl (fun hc => FW.f_move hk hc rfl) ?_; clear hk; intro a w hk
        refine FW.lfunG (y := .lit (.bool (decide (126 < (FW.bt v0 v5))))) hk rfl rfl rfl rfl rfl rfl rfl rfl (fun hc => (FW.f_pure (FW.p_gtr hk.kn hc rfl rfl))) ?_; clear hk; intro a w hk
        refine FW.lfun (y := .lit (.bool ((decide ((FW.bt v0 v5) < 32)) || (decide (126 < (FW.bt v0 v5)))))) hk rfl rfl rfl rfl ((FW.f_pure (FW.p_pick_or hk.kn (FW.holds_nil _) rfl rfl))) ?_; clear hk; intro a w hk
        refine FW.lend (hK16 _ _ ?_); clear hK16 K'
        refine FW.wcondF (b := ((decide ((FW.bt v0 v5) < 32)) || (decide (126 < (FW.bt v0 v5))))) hk h rfl (fun h hb => ?_) (fun h hb => ?_)
        · skip
          refine FW.wreg ?_; intro K' hK17
          refine FW.lfun (y := .lit (.string (FW.B ([] : List UInt8)))) hk rfl rfl rfl rfl (FW.f_assign hk (FW.holds_nil _) rfl) ?_; clear hk; intro a w hk
          refine FW.lfun (y := .lit (.int .i64 0)) hk rfl rfl rfl rfl (FW.f_assign hk (FW.holds_nil _) rfl) ?_; clear hk; intro a w hk
          refine FW.lend (hK17 _ _ ?_); clear hK17 K'
          refine wp_ret ?_
          (repeat first | refine FW.then_ret ?_ | refine FW.block_ret ?_)
          obtain rfl := Option.some.inj h
          exact FW.fret2 hk rfl rfl rfl
        · skip
          refine wp_skip ?_
          (repeat first | refine FW.then_normal ?_ | refine FW.block_normal ?_); refine hK15 _ _ ?_
          refine FW.wseq ?_; intro K' hK18
          refine FW.wreg ?_; intro K' hK19
          refine FW.lfun (y := .lit (.int .u8 (FW.bt v0 v5))) hk rfl rfl rfl rfl (FW.f_move hk (FW.holds_nil _) rfl) ?_; clear hk; intro a w hk
          refine FW.lfun (y := .lit (.bool (!decide ((FW.bt v0 v5) = 92)))) hk rfl rfl rfl rfl ((FW.f_pure (FW.p_neq hk.kn (FW.holds_nil _) rfl rfl))) ?_; clear hk; intro a w hk
          refine FW.lend (hK19 _ _ ?_); clear hK19 K'
          refine FW.wcondF (b := (!decide ((FW.bt v0 v5) = 92))) hk h rfl (fun h hb => ?_) (fun h hb => ?_)
          · skip
            refine FW.wreg ?_; intro K' hK20
            refine FW.lfun (y := .lit (.slice ad1 (List.length l1) cap1)) hk rfl rfl rfl rfl (FW.f_move hk (FW.holds_nil _) rfl) ?_; clear hk; intro a w hk
            refine FW.lfun (y := .lit (.int .u8 (FW.bt v0 v5))) hk rfl rfl rfl rfl (FW.f_move hk (FW.holds_nil _) rfl) ?_; clear hk; intro a w hk
            refine FW.l_buildSlice (f := c_u8) (l := ([(FW.bt v0 v5)] : List Int)) hk rfl rfl rfl Go.Proofs.Try.underlying45 rfl rfl rfl rfl (fun _ => rfl) rfl ?_; clear hk; intro b2 a w hk
            obtain ⟨hc3, h⟩ := FW.chk h
            refine FW.l_append (l2 := ([(FW.bt v0 v5)] : List Int)) (l3 := (l1 ++ ([(FW.bt v0 v5)] : List Int))) (I' := fun ad1 cap1 => [FW.orow (some ⟨b2, 0, none⟩) 1 5 1 c_u8 ([(FW.bt v0 v5)] : List Int), FW.orow ad1 cap1 5 1 c_u8 (l1 ++ ([(FW.bt v0 v5)] : List Int))]) (j := 1) hk rfl rfl rfl rfl (FW.own_src hk (j := 0) rfl rfl (fun _ => rfl) Go.Proofs.Try.underlying45) Go.Proofs.Try.underlying45 (by kernel_rfl) hc3 rfl (fun _ _ => rfl) ?_; clear hk; intro ad1 cap1 a w hk
            replace hk := FW.S.dropI (I' := [FW.orow ad1 cap1 5 1 c_u8 (l1 ++ ([(FW.bt v0 v5)] : List Int))]) hk 0 rfl
            refine FW.lfun (y := .lit (.int .i64 v5)) hk rfl rfl rfl rfl (FW.f_move hk (FW.holds_nil _) rfl) ?_; clear hk; intro a w hk
            refine FW.lfun (y := .lit (.int .i64 (IntKind.wrap .i64 (v5 + 1)))) hk rfl rfl rfl rfl ((FW.f_pure (FW.p_add hk.kn (FW.holds_nil _) rfl rfl))) ?_; clear hk; intro a w hk
            refine FW.lfun (y := .lit (.slice ad1 (List.length (l1 ++ ([(FW.bt v0 v5)] : List Int))) cap1)) hk rfl rfl rfl rfl (FW.f_assign hk (FW.holds_nil _) rfl) ?_; clear hk; intro a w hk
            refine FW.lfun (y := .lit (.int .i64 (IntKind.wrap .i64 (v5 + 1)))) hk rfl rfl rfl rfl (FW.f_assign hk (FW.holds_nil _) rfl) ?_; clear hk; intro a w hk
            refine FW.lend (hK20 _ _ ?_); clear hK20 K'
            refine wp_exit ?_; (repeat first | refine FW.then_exit ?_ | refine FW.block_exit_ne rfl ?_); refine FW.block_exit ?_
            (repeat first | refine FW.then_normal ?_ | refine FW.block_normal ?_); exact hK8 (kl1, (l1 ++ ([(FW.bt v0 v5)] : List Int)), v0, (IntKind.wrap .i64 (v5 + 1)), ad1, cap1) _ _ (Nat.lt_succ_self _) ⟨hk.sub ⟨rfl, rfl, rfl, trivial⟩, h⟩
          · skip
            refine wp_skip ?_
            (repeat first | refine FW.then_normal ?_ | refine FW.block_normal ?_); refine hK18 _ _ ?_
            refine FW.wseq ?_; intro K' hK21
            refine FW.wreg ?_; intro K' hK22
            refine FW.lfun (y := .lit (.int .i64 v5)) hk rfl rfl rfl rfl (FW.f_move hk (FW.holds_nil _) rfl) ?_; clear hk; intro a w hk
            refine FW.lfun (y := .lit (.int .i64 (IntKind.wrap .i64 (v5 + 1)))) hk rfl rfl rfl rfl ((FW.f_pure (FW.p_add hk.kn (FW.holds_nil _) rfl rfl))) ?_; clear hk; intro a w hk
            refine FW.lfun (y := .lit (.string (FW.B v0))) hk rfl rfl rfl rfl (FW.f_move hk (FW.holds_nil _) rfl) ?_; clear hk; intro a w hk
            refine FW.lfun (y := .lit (.int .i64 (List.length v0 : Int))) hk rfl rfl rfl rfl ((FW.f_pure (FW.p_slen Go.Proofs.Try.underlying9 hk.kn (FW.holds_nil _) rfl))) ?_; clear hk; intro a w hk
            refine FW.lfun (y := .lit (.bool (decide ((IntKind.wrap .i64 (v5 + 1)) < (List.length v0 : Int))))) hk rfl rfl rfl rfl ((FW.f_pure (FW.p_lss hk.kn (FW.holds_nil _) rfl rfl))) ?_; clear hk; intro a w hk
            refine FW.lfun (y := .lit (.bool (decide ((IntKind.wrap .i64 (v5 + 1)) < (List.length v0 : Int))))) hk rfl rfl rfl rfl (FW.f_move hk (FW.holds_nil _) rfl) ?_; clear hk; intro a w hk
            refine FW.lfunG (y := .lit (.string (FW.B v0))) hk rfl rfl rfl rfl rfl rfl rfl rfl (fun hc => FW.f_move hk hc rfl) ?_; clear hk; intro a w hk
            refine FW.lfunG (y := .lit (.int .i64 v5)) hk rfl rfl rfl rfl rfl rfl rfl rfl (fun hc => FW.f_move hk hc rfl) ?_; clear hk; intro a w hk
            refine FW.lfunG (y := .lit (.int .i64 (IntKind.wrap .i64 (v5 + 1)))) hk rfl rfl rfl rfl rfl rfl rfl rfl (fun hc => (FW.f_pure (FW.p_add hk.kn hc rfl rfl))) ?_; clear hk; intro a w hk
            obtain ⟨hc4, h⟩ := FW.chk h
            refine FW.lfunG (y := .lit (.int .u8 (FW.bt v0 (IntKind.wrap .i64 (v5 + 1))))) hk rfl rfl rfl rfl rfl rfl rfl rfl (fun hc => (FW.f_pure (FW.p_index Go.Proofs.Try.underlying9 hk.kn hc rfl rfl hc4))) ?_; clear hk; intro a w hk
            refine FW.lfunG (y := .lit (.bool (decide ((FW.bt v0 (IntKind.wrap .i64 (v5 + 1))) = 39)))) hk rfl rfl rfl rfl rfl rfl rfl rfl (fun hc => (FW.f_pure (FW.p_eql hk.kn hc rfl rfl))) ?_; clear hk; intro a w hk
            refine FW.lfunG (y := .lit (.bool (decide ((FW.bt v0 (IntKind.wrap .i64 (v5 + 1))) = 39)))) hk rfl rfl rfl rfl rfl rfl rfl rfl (fun hc => FW.f_move hk hc rfl) ?_; clear hk; intro a w hk
            refine FW.lfunG (y := .lit (.string (FW.B v0))) hk rfl rfl rfl rfl rfl rfl rfl rfl (fun hc => FW.f_move hk hc rfl) ?_; clear hk; intro a w hk
            refine FW.lfunG (y := .lit (.int .i64 v5)) hk rfl rfl rfl rfl rfl rfl rfl rfl (fun hc => FW.f_move hk hc rfl) ?_; clear hk; intro a w hk
            refine FW.lfunG (y := .lit (.int .i64 (IntKind.wrap .i64 (v5 + 1)))) hk rfl rfl rfl rfl rfl rfl rfl rfl (fun hc => (FW.f_pure (FW.p_add hk.kn hc rfl rfl))) ?_; clear hk; intro a w hk
            obtain ⟨hc5, h⟩ := FW.chk h
            refine FW.lfunG (y := .lit (.int .u8 (FW.bt v0 (IntKind.wrap .i64 (v5 + 1))))) hk rfl rfl rfl rfl rfl rfl rfl rfl (fun hc => (FW.f_pure (FW.p_index Go.Proofs.Try.underlying9 hk.kn hc rfl rfl hc5))) ?_; clear hk; intro a w hk
            refine FW.lfunG (y := .lit (.bool (decide ((FW.bt v0 (IntKind.wrap .i64 (v5 + 1))) = 92)))) hk rfl rfl rfl rfl rfl rfl rfl rfl (fun hc => (FW.f_pure (FW.p_eql hk.kn hc rfl rfl))) ?_; clear hk; intro a w hk
            refine FW.lfunG (y := .lit (.bool ((decide ((FW.bt v0 (IntKind.wrap .i64 (v5 + 1))) = 39)) || (decide ((FW.bt v0 (IntKind.wrap .i64 (v5 + 1))) = 92))))) hk rfl rfl rfl rfl rfl rfl rfl rfl (fun hc => (FW.f_pure (FW.p_pick_or hk.kn hc rfl rfl))) ?_; clear hk; intro a w hk
            refine FW.lfun (y := .lit (.bool ((decide ((IntKind.wrap .i64 (v5 + 1)) < (List.length v0 : Int))) && ((decide ((FW.bt v0 (IntKind.wrap .i64 (v5 + 1))) = 39)) || (decide ((FW.bt v0 (IntKind.wrap .i64 (v5 + 1))) = 92)))))) hk rfl rfl rfl rfl ((FW.f_pure (FW.p_pick_and hk.kn (FW.holds_nil _) rfl rfl))) ?_; clear hk; intro a w hk
            refine FW.lend (hK22 _ _ ?_); clear hK22 K'
            refine FW.wcondF (b := ((decide ((IntKind.wrap .i64 (v5 + 1)) < (List.length v0 : Int))) && ((decide ((FW.bt v0 (IntKind.wrap .i64 (v5 + 1))) = 39)) || (decide ((FW.bt v0 (IntKind.wrap .i64 (v5 + 1))) = 92))))) hk h rfl (fun h hb => ?_) (fun h hb => ?_)
            · skip
              refine FW.wreg ?_; intro K' hK23
              refine FW.lfun (y := .lit (.slice ad1 (List.length l1) cap1)) hk rfl rfl rfl rfl (FW.f_move hk (FW.holds_nil _) rfl) ?_; clear hk; intro a w hk
              refine FW.lfun (y := .lit (.string (FW.B v0))) hk rfl rfl rfl rfl (FW.f_move hk (FW.holds_nil _) rfl) ?_; clear hk; intro a w hk
              refine FW.lfun (y := .lit (.int .i64 v5)) hk rfl rfl rfl rfl (FW.f_move hk (FW.holds_nil _) rfl) ?_; clear hk; intro a w hk
              refine FW.lfun (y := .lit (.int .i64 (IntKind.wrap .i64 (v5 + 1)))) hk rfl rfl rfl rfl ((FW.f_pure (FW.p_add hk.kn (FW.holds_nil _) rfl rfl))) ?_; clear hk; intro a w hk
              obtain ⟨hc6, h⟩ := FW.chk h
              refine FW.lfun (y := .lit (.int .u8 (FW.bt v0 (IntKind.wrap .i64 (v5 + 1))))) hk rfl rfl rfl rfl ((FW.f_pure (FW.p_index Go.Proofs.Try.underlying9 hk.kn (FW.holds_nil _) rfl rfl hc6))) ?_; clear hk; intro a w hk
              refine FW.l_buildSlice (f := c_u8) (l := ([(FW.bt v0 (IntKind.wrap .i64 (v5 + 1)))] : List Int)) hk rfl rfl rfl Go.Proofs.Try.underlying45 rfl rfl rfl rfl (fun _ => rfl) rfl ?_; clear hk; intro b3 a w hk
              obtain ⟨hc7, h⟩ := FW.chk h
              refine FW.l_append (l2 := ([(FW.bt v0 (IntKind.wrap .i64 (v5 + 1)))] : List Int)) (l3 := (l1 ++ ([(FW.bt v0 (IntKind.wrap .i64 (v5 + 1)))] : List Int))) (I' := fun ad2 cap2 => [FW.orow (some ⟨b3, 0, none⟩) 1 5 1 c_u8 ([(FW.bt v0 (IntKind.wrap .i64 (v5 + 1)))] : List Int), FW.orow ad2 cap2 5 1 c_u8 (l1 ++ ([(FW.bt v0 (IntKind.wrap .i64 (v5 + 1)))] : List Int))]) (j := 1) hk rfl rfl rfl rfl (FW.own_src hk (j := 0) rfl rfl (fun _ => rfl) Go.Proofs.Try.underlying45) Go.Proofs.Try.underlying45 (by kernel_rfl) hc7 rfl (fun _ _ => rfl) ?_; clear hk; intro ad2 cap2 a w hk
              replace hk := FW.S.dropI (I' := [FW.orow ad2 cap2 5 1 c_u8 (l1 ++ ([(FW.bt v0 (IntKind.wrap .i64 (v5 + 1)))] : List Int))]) hk 0 rfl
              refine FW.lfun (y := .lit (.int .i64 v5)) hk rfl rfl rfl rfl (FW.f_move hk (FW.holds_nil _) rfl) ?_; clear hk; intro a w hk
              refine FW.lfun (y := .lit (.int .i64 (IntKind.wrap .i64 (v5 + 2)))) hk rfl rfl rfl rfl ((FW.f_pure (FW.p_add hk.kn (FW.holds_nil _) rfl rfl))) ?_; clear hk; intro a w hk
              refine FW.lfun (y := .lit (.slice ad2 (List.length (l1 ++ ([(FW.bt v0 (IntKind.wrap .i64 (v5 + 1)))] : List Int))) cap2)) hk rfl rfl rfl rfl (FW.f_assign hk (FW.holds_nil _) rfl) ?_; clear hk; intro a w hk
              refine FW.lfun (y := .lit (.int .i64 (IntKind.wrap .i64 (v5 + 2)))) hk rfl rfl rfl rfl (FW.f_assign hk (FW.holds_nil _) rfl) ?_; clear hk; intro a w hk
              refine FW.lend (hK23 _ _ ?_); clear hK23 K'
              refine wp_exit ?_; (repeat first | refine FW.then_exit ?_ | refine FW.block_exit_ne rfl ?_); refine FW.block_exit ?_
              (repeat first | refine FW.then_normal ?_ | refine FW.block_normal ?_); exact hK8 (kl1, (l1 ++ ([(FW.bt v0 (IntKind.wrap .i64 (v5 + 1)))] : List Int)), v0, (IntKind.wrap .i64 (v5 + 2)), ad2, cap2) _ _ (Nat.lt_succ_self _) ⟨hk.sub ⟨rfl, rfl, rfl, trivial⟩, h⟩
            · skip
              refine wp_skip ?_
              (repeat first | refine FW.then_normal ?_ | refine FW.block_normal ?_); refine hK21 _ _ ?_
              refine FW.wseq ?_; intro K' hK24
              refine FW.wreg ?_; intro K' hK25
              refine FW.lfun (y := .lit (.int .i64 v5)) hk rfl rfl rfl rfl (FW.f_move hk (FW.holds_nil _) rfl) ?_; clear hk; intro a w hk
              refine FW.lfun (y := .lit (.int .i64 (IntKind.wrap .i64 (v5 + 3)))) hk rfl rfl rfl rfl ((FW.f_pure (FW.p_add hk.kn (FW.holds_nil _) rfl rfl))) ?_; clear hk; intro a w hk
              refine FW.lfun (y := .lit (.string (FW.B v0))) hk rfl rfl rfl rfl (FW.f_move hk (FW.holds_nil _) rfl) ?_; clear hk; intro a w hk
              refine FW.lfun (y := .lit (.int .i64 (List.length v0 : Int))) hk rfl rfl rfl rfl ((FW.f_pure (FW.p_slen Go.Proofs.Try.underlying9 hk.kn (FW.holds_nil _) rfl))) ?_; clear hk; intro a w hk
              refine FW.lfun (y := .lit (.bool (decide ((List.length v0 : Int) ≤ (IntKind.wrap .i64 (v5 + 3)))))) hk rfl rfl rfl rfl ((FW.f_pure (FW.p_geq hk.kn (FW.holds_nil _) rfl rfl))) ?_; clear hk; intro a w hk
              refine FW.lfun (y := .lit (.bool (decide ((List.length v0 : Int) ≤ (IntKind.wrap .i64 (v5 + 3)))))) hk rfl rfl rfl rfl (FW.f_move hk (FW.holds_nil _) rfl) ?_; clear hk; intro a w hk
              refine FW.lfunG (y := .lit (.string (FW.B v0))) hk rfl rfl rfl rfl rfl rfl rfl rfl (fun hc => FW.f_move hk hc rfl) ?_; clear hk; intro a w hk
              refine FW.lfunG (y := .lit (.int .i64 v5)) hk rfl rfl rfl rfl rfl rfl rfl rfl (fun hc => FW.f_move hk hc rfl) ?_; clear hk; intro a w hk
              refine FW.lfunG (y := .lit (.int .i64 (IntKind.wrap .i64 (v5 + 1)))) hk rfl rfl rfl rfl rfl rfl rfl rfl (fun hc => (FW.f_pure (FW.p_add hk.kn hc rfl rfl))) ?_; clear hk; intro a w hk
              obtain ⟨hc8, h⟩ := FW.chk h
              refine FW.lfunG (y := .lit (.int .u8 (FW.bt v0 (IntKind.wrap .i64 (v5 + 1))))) hk rfl rfl rfl rfl rfl rfl rfl rfl (fun hc => (FW.f_pure (FW.p_index Go.Proofs.Try.underlying9 hk.kn hc rfl rfl hc8))) ?_; clear hk; intro a w hk
              refine FW.lfunG (y := .lit (.bool (!decide ((FW.bt v0 (IntKind.wrap .i64 (v5 + 1))) = 120)))) hk rfl rfl rfl rfl rfl rfl rfl rfl (fun hc => (FW.f_pure (FW.p_neq hk.kn hc rfl rfl))) ?_; clear hk; intro a w hk
              refine FW.lfun (y := .lit (.bool ((decide ((List.length v0 : Int) ≤ (IntKind.wrap .i64 (v5 + 3)))) || (!decide ((FW.bt v0 (IntKind.wrap .i64 (v5 + 1))) = 120))))) hk rfl rfl rfl rfl ((FW.f_pure (FW.p_pick_or hk.kn (FW.holds_nil _) rfl rfl))) ?_; clear hk; intro a w hk
              refine FW.lfun (y := .lit (.bool ((decide ((List.length v0 : Int) ≤ (IntKind.wrap .i64 (v5 + 3)))) || (!decide ((FW.bt v0 (IntKind.wrap .i64 (v5 + 1))) = 120))))) hk rfl rfl rfl rfl (FW.f_move hk (FW.holds_nil _) rfl) ?_; clear hk; intro a w hk
              refine FW.lfunG (y := .lit (.string (FW.B v0))) hk rfl rfl rfl rfl rfl rfl rfl rfl (fun hc => FW.f_move hk hc rfl) ?_; clear hk; intro a w hk
              refine FW.lfunG (y := .lit (.int .i64 v5)) hk rfl rfl rfl rfl rfl rfl rfl rfl (fun hc => FW.f_move hk hc rfl) ?_; clear hk; intro a w hk
              refine FW.lfunG (y := .lit (.int .i64 (IntKind.wrap .i64 (v5 + 2)))) hk rfl rfl rfl rfl rfl rfl rfl rfl (fun hc => (FW.f_pure (FW.p_add hk.kn hc rfl rfl))) ?_; clear hk; intro a w hk
              obtain ⟨hc9, h⟩ := FW.chk h
              refine FW.lfunG (y := .lit (.int .u8 (FW.bt v0 (IntKind.wrap .i64 (v5 + 2))))) hk rfl rfl rfl rfl rfl rfl rfl rfl (fun hc => (FW.f_pure (FW.p_index Go.Proofs.Try.underlying9 hk.kn hc rfl rfl hc9))) ?_; clear hk; intro a w hk
              obtain ⟨t1, hr_t1, h⟩ := FW.bndG h
              refine FW.lfunG (y := .lit (.int .i64 t1)) hk rfl rfl rfl rfl rfl rfl rfl rfl (fun hc => FW.f_call hk hc rfl rfl Go.Proofs.Try.func45 rfl (by kernel_rfl) (offshootref11_digit.ok (FW.bt v0 (IntKind.wrap .i64 (v5 + 2))) _ (hr_t1 (FW.asm_out (p := ((decide ((List.length v0 : Int) ≤ (IntKind.wrap .i64 (v5 + 3)))) || (!decide ((FW.bt v0 (IntKind.wrap .i64 (v5 + 1))) = 120))) = false) hk.kn hc (fun e0 => e0))))) ?_; clear hk; intro a w hk
              refine FW.lfunG (y := .lit (.bool (decide (15 < t1)))) hk rfl rfl rfl rfl rfl rfl rfl rfl (fun hc => (FW.f_pure (FW.p_gtr hk.kn hc rfl rfl))) ?_; clear hk; intro a w hk
              refine FW.lfun (y := .lit (.bool (((decide ((List.length v0 : Int) ≤ (IntKind.wrap .i64 (v5 + 3)))) || (!decide ((FW.bt v0 (IntKind.wrap .i64 (v5 + 1))) = 120))) || (decide (15 < t1))))) hk rfl rfl rfl rfl ((FW.f_pure (FW.p_pick_or hk.kn (FW.holds_nil _) rfl rfl))) ?_; clear hk; intro a w hk
              refine FW.lfun (y := .lit (.bool (((decide ((List.length v0 : Int) ≤ (IntKind.wrap .i64 (v5 + 3)))) || (!decide ((FW.bt v0 (IntKind.wrap .i64 (v5 + 1))) = 120))) || (decide (15 < t1))))) hk rfl rfl rfl rfl (FW.f_move hk (FW.holds_nil _) rfl) ?_; clear hk; intro a w hk
              refine FW.lfunG (y := .lit (.string (FW.B v0))) hk rfl rfl rfl rfl rfl rfl rfl rfl (fun hc => FW.f_move hk hc rfl) ?_; clear hk; intro a w hk
              refine FW.lfunG (y := .lit (.int .i64 v5)) hk rfl rfl rfl rfl rfl rfl rfl rfl (fun hc => FW.f_move hk hc rfl) ?_; clear hk; intro a w hk
              refine FW.lfunG (y := .lit (.int .i64 (IntKind.wrap .i64 (v5 + 3)))) hk rfl rfl rfl rfl rfl rfl rfl rfl (fun hc => (FW.f_pure (FW.p_add hk.kn hc rfl rfl))) ?_; clear hk; intro a w hk
              obtain ⟨hc10, h⟩ := FW.chk h
              refine FW.lfunG (y := .lit (.int .u8 (FW.bt v0 (IntKind.wrap .i64 (v5 + 3))))) hk rfl rfl rfl rfl rfl rfl rfl rfl (fun hc => (FW.f_pure (FW.p_index Go.Proofs.Try.underlying9 hk.kn hc rfl rfl hc10))) ?_; clear hk; intro a w hk
              obtain ⟨t2, hr_t2, h⟩ := FW.bndG h
              refine FW.lfunG (y := .lit (.int .i64 t2)) hk rfl rfl rfl rfl rfl rfl rfl rfl (fun hc => FW.f_call hk hc rfl rfl Go.Proofs.Try.func45 rfl (by kernel_rfl) (offshootref11_digit.ok (FW.bt v0 (IntKind.wrap .i64 (v5 + 3))) _ (hr_t2 (FW.asm_out (p := (((decide ((List.length v0 : Int) ≤ (IntKind.wrap .i64 (v5 + 3)))) || (!decide ((FW.bt v0 (IntKind.wrap .i64 (v5 + 1))) = 120))) || (decide (15 < t1))) = false) hk.kn hc (fun e0 => e0))))) ?_; clear hk; intro a w hk
              refine FW.lfunG (y := .lit (.bool (decide (15 < t2)))) hk rfl rfl rfl rfl rfl rfl rfl rfl (fun hc => (FW.f_pure (FW.p_gtr hk.kn hc rfl rfl))) ?_; clear hk; intro a w hk
              refine FW.lfun (y := .lit (.bool ((((decide ((List.length v0 : Int) ≤ (IntKind.wrap .i64 (v5 + 3)))) || (!decide ((FW.bt v0 (IntKind.wrap .i64 (v5 + 1))) = 120))) || (decide (15 < t1))) || (decide (15 < t2))))) hk rfl rfl rfl rfl ((FW.f_pure (FW.p_pick_or hk.kn (FW.holds_nil _) rfl rfl))) ?_; clear hk; intro a w hk
              refine FW.lend (hK25 _ _ ?_); clear hK25 K'
              refine FW.wcondF (b := ((((decide ((List.length v0 : Int) ≤ (IntKind.wrap .i64 (v5 + 3)))) || (!decide ((FW.bt v0 (IntKind.wrap .i64 (v5 + 1))) = 120))) || (decide (15 < t1))) || (decide (15 < t2)))) hk h rfl (fun h hb => ?_) (fun h hb => ?_)
              · skip
                refine FW.wreg ?_; intro K' hK26
                refine FW.lfun (y := .lit (.string (FW.B ([] : List UInt8)))) hk rfl rfl rfl rfl (FW.f_assign hk (FW.holds_nil _) rfl) ?_; clear hk; intro a w hk
                refine FW.lfun (y := .lit (.int .i64 0)) hk rfl rfl rfl rfl (FW.f_assign hk (FW.holds_nil _) rfl) ?_; clear hk; intro a w hk
                refine FW.lend (hK26 _ _ ?_); clear hK26 K'
                refine wp_ret ?_
                (repeat first | refine FW.then_ret ?_ | refine FW.block_ret ?_)
                obtain rfl := Option.some.inj h
                exact FW.fret2 hk rfl rfl rfl
              · skip
                refine wp_skip ?_
                (repeat first | refine FW.then_normal ?_ | refine FW.block_normal ?_); refine hK24 _ _ ?_
                obtain ⟨hc11, h⟩ := FW.chk h
                obtain ⟨t3, hr_t3, h⟩ := FW.bnd h
                obtain ⟨hc12, h⟩ := FW.chk h
                obtain ⟨t4, hr_t4, h⟩ := FW.bnd h
                obtain ⟨hc13, h⟩ := FW.chk h
                refine FW.wdrawE1 (need := [false, false, false, false, false, false, false, false, false, false, false, false, false, false, false, false, true, true, true, true]) [(14, [true, true, true, true, true, true, true, true, true, true, true, true, true, true, false, false, true, true, false, false], [true, true, true, true, true, true, true, true, true, true, true, true, true, true, false, false, true, true, false, false]), (15, [true, false, false, false, false, false, false, false, false, false, false, false, false, false, false, false, true, true, false, false], [true, true, true, true, true, true, true, true, true, true, true, true, true, true, true, false, true, true, false, false])] [(98, [], .lit (.slice ad1 (List.length l1) cap1)), (99, [], .lit (.string (FW.B v0))), (100, [], .lit (.int .i64 v5)), (101, [], .lit (.int .i64 (IntKind.wrap .i64 (v5 + 2)))), (102, [], .lit (.int .u8 (FW.bt v0 (IntKind.wrap .i64 (v5 + 2))))), (103, [], .lit (.int .i64 t3)), (104, [], .lit (.int .i64 (IntKind.wrap .i64 (16 * t3)))), (105, [], .lit (.string (FW.B v0))), (106, [], .lit (.int .i64 v5)), (107, [], .lit (.int .i64 (IntKind.wrap .i64 (v5 + 3)))), (108, [], .lit (.int .u8 (FW.bt v0 (IntKind.wrap .i64 (v5 + 3))))), (109, [], .lit (.int .i64 t4)), (110, [], .lit (.int .i64 (IntKind.wrap .i64 ((IntKind.wrap .i64 (16 * t3)) + t4)))), (111, [], .lit (.int .u8 (IntKind.wrap .u8 (IntKind.wrap .i64 ((IntKind.wrap .i64 (16 * t3)) + t4))))), (112, [], .agg []), (113, [], .agg []), (114, [], .lit (.int .i64 v5)), (115, [], .lit (.int .i64 (IntKind.wrap .i64 (v5 + 4)))), (4, [], .agg []), (5, [], .agg [])] (by kernel_rfl) (by kernel_rfl) (by kernel_rfl) hk ?_; clear hk
                refine FW.gnext ?_ rfl rfl rfl rfl rfl ?_
                · skip
                  refine FW.gfun (y := .lit (.slice ad1 (List.length l1) cap1)) rfl rfl rfl rfl (fun a w hk => FW.f_move hk (FW.holds_nil _) rfl) ?_
                  refine FW.gfun (y := .lit (.string (FW.B v0))) rfl rfl rfl rfl (fun a w hk => FW.f_move hk (FW.holds_nil _) rfl) ?_
                  refine FW.gfun (y := .lit (.int .i64 v5)) rfl rfl rfl rfl (fun a w hk => FW.f_move hk (FW.holds_nil _) rfl) ?_
                  refine FW.gfun (y := .lit (.int .i64 (IntKind.wrap .i64 (v5 + 2)))) rfl rfl rfl rfl (fun a w hk => (FW.f_pure (FW.p_add hk.kn (FW.holds_nil _) rfl rfl))) ?_
                  refine FW.gfun (y := .lit (.int .u8 (FW.bt v0 (IntKind.wrap .i64 (v5 + 2))))) rfl rfl rfl rfl (fun a w hk => (FW.f_pure (FW.p_index Go.Proofs.Try.underlying9 hk.kn (FW.holds_nil _) rfl rfl hc11))) ?_
                  refine FW.gfun (y := .lit (.int .i64 t3)) rfl rfl rfl rfl (fun a w hk => FW.f_call hk (FW.holds_nil _) rfl rfl Go.Proofs.Try.func45 rfl (by kernel_rfl) (offshootref11_digit.ok (FW.bt v0 (IntKind.wrap .i64 (v5 + 2))) _ hr_t3)) ?_
                  refine FW.gfun (y := .lit (.int .i64 (IntKind.wrap .i64 (16 * t3)))) rfl rfl rfl rfl (fun a w hk => (FW.f_pure (FW.p_mul hk.kn (FW.holds_nil _) rfl rfl))) ?_
                  refine FW.gfun (y := .lit (.string (FW.B v0))) rfl rfl rfl rfl (fun a w hk => FW.f_move hk (FW.holds_nil _) rfl) ?_
                  refine FW.gfun (y := .lit (.int .i64 v5)) rfl rfl rfl rfl (fun a w hk => FW.f_move hk (FW.holds_nil _) rfl) ?_
                  refine FW.gfun (y := .lit (.int .i64 (IntKind.wrap .i64 (v5 + 3)))) rfl rfl rfl rfl (fun a w hk => (FW.f_pure (FW.p_add hk.kn (FW.holds_nil _) rfl rfl))) ?_
                  refine FW.gfun (y := .lit (.int .u8 (FW.bt v0 (IntKind.wrap .i64 (v5 + 3))))) rfl rfl rfl rfl (fun a w hk => (FW.f_pure (FW.p_index Go.Proofs.Try.underlying9 hk.kn (FW.holds_nil _) rfl rfl hc12))) ?_
                  refine FW.gfun (y := .lit (.int .i64 t4)) rfl rfl rfl rfl (fun a w hk => FW.f_call hk (FW.holds_nil _) rfl rfl Go.Proofs.Try.func45 rfl (by kernel_rfl) (offshootref11_digit.ok (FW.bt v0 (IntKind.wrap .i64 (v5 + 3))) _ hr_t4)) ?_
                  refine FW.gfun (y := .lit (.int .i64 (IntKind.wrap .i64 ((IntKind.wrap .i64 (16 * t3)) + t4)))) rfl rfl rfl rfl (fun a w hk => (FW.f_pure (FW.p_add hk.kn (FW.holds_nil _) rfl rfl))) ?_
                  refine FW.gfun (y := .lit (.int .u8 (IntKind.wrap .u8 (IntKind.wrap .i64 ((IntKind.wrap .i64 (16 * t3)) + t4))))) rfl rfl rfl rfl (fun a w hk => (FW.f_pure (FW.p_conv Go.Proofs.Try.underlying3 Go.Proofs.Try.underlying5 hk.kn (FW.holds_nil _) rfl))) ?_
                  refine FW.gskip rfl rfl ?_
                  refine FW.gskip rfl rfl ?_
                  refine FW.gfun (y := .lit (.int .i64 v5)) rfl rfl rfl rfl (fun a w hk => FW.f_move hk (FW.holds_nil _) rfl) ?_
                  refine FW.gfun (y := .lit (.int .i64 (IntKind.wrap .i64 (v5 + 4)))) rfl rfl rfl rfl (fun a w hk => (FW.f_pure (FW.p_add hk.kn (FW.holds_nil _) rfl rfl))) ?_
                  refine FW.gskip rfl rfl ?_
                  refine FW.gskip rfl rfl ?_
                  exact FW.gend
                · skip
                  intro σD a w opsD QD hk hf hQ
                  refine FW.l_buildSlice (f := c_u8) (l := ([(IntKind.wrap .u8 (IntKind.wrap .i64 ((IntKind.wrap .i64 (16 * t3)) + t4)))] : List Int)) hk rfl hf rfl Go.Proofs.Try.underlying45 rfl rfl rfl rfl (fun _ => rfl) rfl ?_; clear hk; intro b4 a w hk
                  refine hQ _ _ a w ?_ hk; clear hk hQ hf
                  refine ⟨[(98, [], .lit (.slice ad1 (List.length l1) cap1)), (99, [], .lit (.string (FW.B v0))), (100, [], .lit (.int .i64 v5)), (101, [], .lit (.int .i64 (IntKind.wrap .i64 (v5 + 2)))), (102, [], .lit (.int .u8 (FW.bt v0 (IntKind.wrap .i64 (v5 + 2))))), (103, [], .lit (.int .i64 t3)), (104, [], .lit (.int .i64 (IntKind.wrap .i64 (16 * t3)))), (105, [], .lit (.string (FW.B v0))), (106, [], .lit (.int .i64 v5)), (107, [], .lit (.int .i64 (IntKind.wrap .i64 (v5 + 3)))), (108, [], .lit (.int .u8 (FW.bt v0 (IntKind.wrap .i64 (v5 + 3))))), (109, [], .lit (.int .i64 t4)), (110, [], .lit (.int .i64 (IntKind.wrap .i64 ((IntKind.wrap .i64 (16 * t3)) + t4)))), (111, [], .lit (.int .u8 (IntKind.wrap .u8 (IntKind.wrap .i64 ((IntKind.wrap .i64 (16 * t3)) + t4))))), (112, [], .lit (.slice (some ⟨b4, 0, none⟩) (List.length ([(IntKind.wrap .u8 (IntKind.wrap .i64 ((IntKind.wrap .i64 (16 * t3)) + t4)))] : List Int)) 1)), (113, [], .agg []), (114, [], .lit (.int .i64 v5)), (115, [], .lit (.int .i64 (IntKind.wrap .i64 (v5 + 4)))), (4, [], .agg []), (5, [], .agg [])], And.intro rfl (And.intro rfl (And.intro rfl (And.intro rfl (And.intro rfl (And.intro rfl (And.intro rfl (And.intro rfl (And.intro rfl (And.intro rfl (And.intro rfl (And.intro rfl (And.intro rfl (And.intro rfl (And.intro rfl (And.intro rfl (trivial)))))))))))))))), rfl, ?_⟩
                  refine FW.gnext ?_ rfl rfl rfl rfl rfl ?_
                  · skip
                    refine FW.gfun (y := .lit (.slice ad1 (List.length l1) cap1)) rfl rfl rfl rfl (fun a w hk => FW.f_move hk (FW.holds_nil _) rfl) ?_
                    refine FW.gskip rfl rfl ?_
                    refine FW.gskip rfl rfl ?_
                    refine FW.gskip rfl rfl ?_
                    refine FW.gskip rfl rfl ?_
                    refine FW.gskip rfl rfl ?_
                    refine FW.gskip rfl rfl ?_
                    refine FW.gskip rfl rfl ?_
                    refine FW.gskip rfl rfl ?_
                    refine FW.gskip rfl rfl ?_
                    refine FW.gskip rfl rfl ?_
                    refine FW.gskip rfl rfl ?_
                    refine FW.gskip rfl rfl ?_
                    refine FW.gskip rfl rfl ?_
                    refine FW.gskip rfl rfl ?_
                    refine FW.gskip rfl rfl ?_
                    refine FW.gfun (y := .lit (.int .i64 v5)) rfl rfl rfl rfl (fun a w hk => FW.f_move hk (FW.holds_nil _) rfl) ?_
                    refine FW.gfun (y := .lit (.int .i64 (IntKind.wrap .i64 (v5 + 4)))) rfl rfl rfl rfl (fun a w hk => (FW.f_pure (FW.p_add hk.kn (FW.holds_nil _) rfl rfl))) ?_
                    refine FW.gskip rfl rfl ?_
                    refine FW.gskip rfl rfl ?_
                    exact FW.gend
                  · skip
                    intro σD a w opsD QD hk hf hQ
                    refine FW.l_append (l2 := ([(IntKind.wrap .u8 (IntKind.wrap .i64 ((IntKind.wrap .i64 (16 * t3)) + t4)))] : List Int)) (l3 := (l1 ++ ([(IntKind.wrap .u8 (IntKind.wrap .i64 ((IntKind.wrap .i64 (16 * t3)) + t4)))] : List Int))) (I' := fun ad3 cap3 => [FW.orow (some ⟨b4, 0, none⟩) 1 5 1 c_u8 ([(IntKind.wrap .u8 (IntKind.wrap .i64 ((IntKind.wrap .i64 (16 * t3)) + t4)))] : List Int), FW.orow ad3 cap3 5 1 c_u8 (l1 ++ ([(IntKind.wrap .u8 (IntKind.wrap .i64 ((IntKind.wrap .i64 (16 * t3)) + t4)))] : List Int))]) (j := 1) hk rfl rfl hf rfl (FW.own_src hk (j := 0) rfl rfl (fun _ => rfl) Go.Proofs.Try.underlying45) Go.Proofs.Try.underlying45 (by kernel_rfl) hc13 rfl (fun _ _ => rfl) ?_; clear hk; intro ad3 cap3 a w hk
                    replace hk := FW.S.dropI (I' := [FW.orow ad3 cap3 5 1 c_u8 (l1 ++ ([(IntKind.wrap .u8 (IntKind.wrap .i64 ((IntKind.wrap .i64 (16 * t3)) + t4)))] : List Int))]) hk 0 rfl
                    refine hQ _ _ a w ?_ hk; clear hk hQ hf
                    refine ⟨[(98, [], .lit (.slice ad1 (List.length l1) cap1)), (99, [], .lit (.string (FW.B v0))), (100, [], .lit (.int .i64 v5)), (101, [], .lit (.int .i64 (IntKind.wrap .i64 (v5 + 2)))), (102, [], .lit (.int .u8 (FW.bt v0 (IntKind.wrap .i64 (v5 + 2))))), (103, [], .lit (.int .i64 t3)), (104, [], .lit (.int .i64 (IntKind.wrap .i64 (16 * t3)))), (105, [], .lit (.string (FW.B v0))), (106, [], .lit (.int .i64 v5)), (107, [], .lit (.int .i64 (IntKind.wrap .i64 (v5 + 3)))), (108, [], .lit (.int .u8 (FW.bt v0 (IntKind.wrap .i64 (v5 + 3))))), (109, [], .lit (.int .i64 t4)), (110, [], .lit (.int .i64 (IntKind.wrap .i64 ((IntKind.wrap .i64 (16 * t3)) + t4)))), (111, [], .lit (.int .u8 (IntKind.wrap .u8 (IntKind.wrap .i64 ((IntKind.wrap .i64 (16 * t3)) + t4))))), (112, [], .lit (.slice (some ⟨b4, 0, none⟩) (List.length ([(IntKind.wrap .u8 (IntKind.wrap .i64 ((IntKind.wrap .i64 (16 * t3)) + t4)))] : List Int)) 1)), (113, [], .lit (.slice ad3 (List.length (l1 ++ ([(IntKind.wrap .u8 (IntKind.wrap .i64 ((IntKind.wrap .i64 (16 * t3)) + t4)))] : List Int))) cap3)), (114, [], .lit (.int .i64 v5)), (115, [], .lit (.int .i64 (IntKind.wrap .i64 (v5 + 4)))), (4, [], .lit (.slice ad3 (List.length (l1 ++ ([(IntKind.wrap .u8 (IntKind.wrap .i64 ((IntKind.wrap .i64 (16 * t3)) + t4)))] : List Int))) cap3)), (5, [], .lit (.int .i64 (IntKind.wrap .i64 (v5 + 4))))], And.intro rfl (And.intro rfl (And.intro rfl (And.intro rfl (And.intro rfl (And.intro rfl (And.intro rfl (And.intro rfl (And.intro rfl (And.intro rfl (And.intro rfl (And.intro rfl (And.intro rfl (And.intro rfl (And.intro rfl (And.intro rfl (And.intro rfl (trivial))))))))))))))))), rfl, ?_⟩
                    refine FW.glast ?_ ?_
                    · skip
                      refine FW.gskip rfl rfl ?_
                      refine FW.gskip rfl rfl ?_
                      refine FW.gskip rfl rfl ?_
                      refine FW.gskip rfl rfl ?_
                      refine FW.gskip rfl rfl ?_
                      refine FW.gskip rfl rfl ?_
                      refine FW.gskip rfl rfl ?_
                      refine FW.gskip rfl rfl ?_
                      refine FW.gskip rfl rfl ?_
                      refine FW.gskip rfl rfl ?_
                      refine FW.gskip rfl rfl ?_
                      refine FW.gskip rfl rfl ?_
                      refine FW.gskip rfl rfl ?_
                      refine FW.gskip rfl rfl ?_
                      refine FW.gskip rfl rfl ?_
                      refine FW.gskip rfl rfl ?_
                      refine FW.gfun (y := .lit (.int .i64 v5)) rfl rfl rfl rfl (fun a w hk => FW.f_move hk (FW.holds_nil _) rfl) ?_
                      refine FW.gfun (y := .lit (.int .i64 (IntKind.wrap .i64 (v5 + 4)))) rfl rfl rfl rfl (fun a w hk => (FW.f_pure (FW.p_add hk.kn (FW.holds_nil _) rfl rfl))) ?_
                      refine FW.gfun (y := .lit (.slice ad3 (List.length (l1 ++ ([(IntKind.wrap .u8 (IntKind.wrap .i64 ((IntKind.wrap .i64 (16 * t3)) + t4)))] : List Int))) cap3)) rfl rfl rfl rfl (fun a w hk => FW.f_assign hk (FW.holds_nil _) rfl) ?_
                      refine FW.gfun (y := .lit (.int .i64 (IntKind.wrap .i64 (v5 + 4)))) rfl rfl rfl rfl (fun a w hk => FW.f_assign hk (FW.holds_nil _) rfl) ?_
                      exact FW.gend
                    · skip
                      intro a w hk; simp only [FW.stD, cond_true] at hk
                      (repeat first | refine FW.then_normal ?_ | refine FW.block_normal ?_); exact hK8 (kl1, (l1 ++ ([(IntKind.wrap .u8 (IntKind.wrap .i64 ((IntKind.wrap .i64 (16 * t3)) + t4)))] : List Int)), v0, (IntKind.wrap .i64 (v5 + 4)), ad3, cap3) _ _ (Nat.lt_succ_self _) ⟨hk.sub ⟨rfl, rfl, rfl, trivial⟩, h⟩
    · skip
      refine wp_exit ?_; (repeat first | refine FW.then_exit ?_ | refine FW.block_exit_ne rfl ?_); refine FW.block_exit ?_
      (repeat first | refine FW.then_normal ?_ | refine FW.block_normal ?_); refine hK6 _ _ ?_
      refine FW.wreg ?_; intro K' hK28
      refine FW.lfun (y := .lit (.string (FW.B ([] : List UInt8)))) hk rfl rfl rfl rfl (FW.f_assign hk (FW.holds_nil _) rfl) ?_; clear hk; intro a w hk
      refine FW.lfun (y := .lit (.int .i64 0)) hk rfl rfl rfl rfl (FW.f_assign hk (FW.holds_nil _) rfl) ?_; clear hk; intro a w hk
      refine FW.lend (hK28 _ _ ?_); clear hK28 K'
      refine wp_ret ?_
      (repeat first | refine FW.then_ret ?_ | refine FW.block_ret ?_)
      obtain rfl := Option.some.inj h
      exact FW.fret2 hk rfl rfl rfl

theorem offshootlaw11_LexTexts.ok (K : Nat) (v0 : List UInt8) (r : Bool) (h : offshootlaw11_LexTexts.f K v0 = some r) :
    FW.Ok Go.Proofs.Try.prog 7 [.lit (.string (FW.B v0))] (.lit (.bool r)) := by
  refine FW.enter (xs := [.lit (.string (FW.B v0))]) Go.Proofs.Try.func7 rfl Go.Proofs.Try.ntmps7 rfl ?_
  intro M w0 a hk
  unfold offshootlaw11_LexTexts.f at h
  refine FW.wreg ?_; intro K' hK1
  refine FW.lfun (y := .lit (.bool false)) hk rfl rfl rfl rfl (FW.f_assign hk (FW.holds_nil _) rfl) ?_; clear hk; intro a w hk
  refine FW.lend (hK1 _ _ ?_); clear hK1 K'
  refine FW.wreg ?_; intro K' hK2
  refine FW.lfun (y := .lit (.string (FW.B v0))) hk rfl rfl rfl rfl (FW.f_move hk (FW.holds_nil _) rfl) ?_; clear hk; intro a w hk
  refine FW.lfun (y := .lit (.string (FW.B v0))) hk rfl rfl rfl rfl (FW.f_assign hk (FW.holds_nil _) rfl) ?_; clear hk; intro a w hk
  refine FW.lend (hK2 _ _ ?_); clear hK2 K'
  refine FW.wseqJ (fun a w => ∃ (v3 : List UInt8), FW.S M w0 a w 65 [] [(3, [], .lit (.string (FW.B v3)))] ∧ offshootlaw11_LexTexts.j1 K v3 = some r) ?_ ?_
  · clear hk h
    rintro a w ⟨v3, hk, h⟩
    unfold offshootlaw11_LexTexts.j1 at h
    refine FW.wreg ?_; intro K' hK4
    refine FW.lfun (y := .lit (.string (FW.B v3))) hk rfl rfl rfl rfl (FW.f_move hk (FW.holds_nil _) rfl) ?_; clear hk; intro a w hk
    obtain ⟨t1, hr_t1, h⟩ := FW.bnd h
    refine FW.lfun (y := .lit (.string (FW.B t1))) hk rfl rfl rfl rfl (FW.f_call hk (FW.holds_nil _) rfl rfl Go.Proofs.Try.func21 rfl (by kernel_rfl) (lex_Text.ok K v3 _ hr_t1)) ?_; clear hk; intro a w hk
    refine FW.lfun (y := .lit (.string (FW.B t1))) hk rfl rfl rfl rfl (FW.f_assign hk (FW.holds_nil _) rfl) ?_; clear hk; intro a w hk
    refine FW.lend (hK4 _ _ ?_); clear hK4 K'
    refine FW.wreg ?_; intro K' hK5
    refine FW.lfun (y := .lit (.string (FW.B t1))) hk rfl rfl rfl rfl (FW.f_move hk (FW.holds_nil _) rfl) ?_; clear hk; intro a w hk
    obtain ⟨t2, hr_t2, h⟩ := FW.bnd h
    refine FW.lfun (y := .tup [.lit (.string (FW.B t2.1)), .lit (.int .i64 t2.2)]) hk rfl rfl rfl rfl (FW.f_call hk (FW.holds_nil _) rfl rfl Go.Proofs.Try.func22 rfl (by kernel_rfl) (offshootref11_Quoted.ok K t1 _ hr_t2)) ?_; clear hk; intro a w hk
    refine FW.lfun (y := .tup [.lit (.string (FW.B t2.1)), .lit (.int .i64 t2.2)]) hk rfl rfl rfl rfl (FW.f_move hk (FW.holds_nil _) rfl) ?_; clear hk; intro a w hk
    refine FW.lfun (y := .lit (.string (FW.B t2.1))) hk rfl rfl rfl rfl (FW.f_extract hk (FW.holds_nil _) rfl rfl) ?_; clear hk; intro a w hk
    refine FW.lfun (y := .lit (.int .i64 t2.2)) hk rfl rfl rfl rfl (FW.f_extract hk (FW.holds_nil _) rfl rfl) ?_; clear hk; intro a w hk
    refine FW.lfun (y := .lit (.string (FW.B t2.1))) hk rfl rfl rfl rfl (FW.f_assign hk (FW.holds_nil _) rfl) ?_; clear hk; intro a w hk
    refine FW.lfun (y := .lit (.int .i64 t2.2)) hk rfl rfl rfl rfl (FW.f_assign hk (FW.holds_nil _) rfl) ?_; clear hk; intro a w hk
    refine FW.lend (hK5 _ _ ?_); clear hK5 K'
    refine FW.wreg ?_; intro K' hK6
    refine FW.lfun (y := .lit (.string (FW.B t1))) hk rfl rfl rfl rfl (FW.f_move hk (FW.holds_nil _) rfl) ?_; clear hk; intro a w hk
    obtain ⟨t3, hr_t3, h⟩ := FW.bnd h
    refine FW.lfun (y := .tup [.row (r_ApiWord_cells t3.1), .lit (.int .i64 t3.2.1), .lit (.int .i64 t3.2.2)]) hk rfl rfl rfl rfl (FW.f_call hk (FW.holds_nil _) rfl rfl Go.Proofs.Try.func19 rfl (by kernel_rfl) (lex_Words.ok K t1 _ hr_t3)) ?_; clear hk; intro a w hk
    refine FW.lfun (y := .tup [.row (r_ApiWord_cells t3.1), .lit (.int .i64 t3.2.1), .lit (.int .i64 t3.2.2)]) hk rfl rfl rfl rfl (FW.f_move hk (FW.holds_nil _) rfl) ?_; clear hk; intro a w hk
    refine FW.lfun (y := .row (r_ApiWord_cells t3.1)) hk rfl rfl rfl rfl (FW.f_extract hk (FW.holds_nil _) rfl rfl) ?_; clear hk; intro a w hk
    refine FW.lfun (y := .lit (.int .i64 t3.2.1)) hk rfl rfl rfl rfl (FW.f_extract hk (FW.holds_nil _) rfl rfl) ?_; clear hk; intro a w hk
    refine FW.lfun (y := .lit (.int .i64 t3.2.2)) hk rfl rfl rfl rfl (FW.f_extract hk (FW.holds_nil _) rfl rfl) ?_; clear hk; intro a w hk
    refine FW.lfun (y := .row (r_ApiWord_cells t3.1)) hk rfl rfl rfl rfl (FW.f_assign hk (FW.holds_nil _) rfl) ?_; clear hk; intro a w hk
    refine FW.lfun (y := .lit (.int .i64 t3.2.1)) hk rfl rfl rfl rfl (FW.f_assign hk (FW.holds_nil _) rfl) ?_; clear hk; intro a w hk
    refine FW.lfun (y := .lit (.int .i64 t3.2.2)) hk rfl rfl rfl rfl (FW.f_assign hk (FW.holds_nil _) rfl) ?_; clear hk; intro a w hk
    refine FW.lend (hK6 _ _ ?_); clear hK6 K'
    refine FW.wreg ?_; intro K' hK7
    obtain ⟨t4, hr_t4, h⟩ := FW.bnd h
    refine FW.lfun (y := .lit (.bool t4)) hk rfl rfl rfl rfl (FW.f_call hk (FW.holds_nil _) rfl rfl Go.Proofs.Try.func20 rfl (by kernel_rfl) (offshootlaw11_awake.ok K  _ hr_t4)) ?_; clear hk; intro a w hk
    refine FW.lfun (y := .lit (.bool t4)) hk rfl rfl rfl rfl (FW.f_move hk (FW.holds_nil _) rfl) ?_; clear hk; intro a w hk
    refine FW.lfunG (y := .lit (.string (FW.B t2.1))) hk rfl rfl rfl rfl rfl rfl rfl rfl (fun hc => FW.f_move hk hc rfl) ?_; clear hk; intro a w hk
    refine FW.lfunG (y := .lit (.string (FW.B v3))) hk rfl rfl rfl rfl rfl rfl rfl rfl (fun hc => FW.f_move hk hc rfl) ?_; clear hk; intro a w hk
    refine FW.lfunG (y := .lit (.bool (decide (t2.1 = v3)))) hk rfl rfl rfl rfl rfl rfl rfl rfl (fun hc => (FW.f_pure (FW.p_seql hk.kn hc rfl rfl))) ?_; clear hk; intro a w hk
    refine FW.lfun (y := .lit (.bool (t4 && (decide (t2.1 = v3))))) hk rfl rfl rfl rfl ((FW.f_pure (FW.p_pick_and hk.kn (FW.holds_nil _) rfl rfl))) ?_; clear hk; intro a w hk
    refine FW.lfun (y := .lit (.bool (t4 && (decide (t2.1 = v3))))) hk rfl rfl rfl rfl (FW.f_move hk (FW.holds_nil _) rfl) ?_; clear hk; intro a w hk
    refine FW.lfunG (y := .lit (.int .i64 t2.2)) hk rfl rfl rfl rfl rfl rfl rfl rfl (fun hc => FW.f_move hk hc rfl) ?_; clear hk; intro a w hk
    refine FW.lfunG (y := .lit (.string (FW.B t1))) hk rfl rfl rfl rfl rfl rfl rfl rfl (fun hc => FW.f_move hk hc rfl) ?_; clear hk; intro a w hk
    refine FW.lfunG (y := .lit (.int .i64 (List.length t1 : Int))) hk rfl rfl rfl rfl rfl rfl rfl rfl (fun hc => (FW.f_pure (FW.p_slen Go.Proofs.Try.underlying9 hk.kn hc rfl))) ?_; clear hk; intro a w hk
    refine FW.lfunG (y := .lit (.bool (decide (t2.2 = (List.length t1 : Int))))) hk rfl rfl rfl rfl rfl rfl rfl rfl (fun hc => (FW.f_pure (FW.p_eql hk.kn hc rfl rfl))) ?_; clear hk; intro a w hk
    refine FW.lfun (y := .lit (.bool ((t4 && (decide (t2.1 = v3))) && (decide (t2.2 = (List.length t1 : Int)))))) hk rfl rfl rfl rfl ((FW.f_pure (FW.p_pick_and hk.kn (FW.holds_nil _) rfl rfl))) ?_; clear hk; intro a w hk
    refine FW.lfun (y := .lit (.bool ((t4 && (decide (t2.1 = v3))) && (decide (t2.2 = (List.length t1 : Int)))))) hk rfl rfl rfl rfl (FW.f_move hk (FW.holds_nil _) rfl) ?_; clear hk; intro a w hk
    refine FW.lfunG (y := .lit (.int .i64 t3.2.2)) hk rfl rfl rfl rfl rfl rfl rfl rfl (fun hc => FW.f_move hk hc rfl) ?_; clear hk; intro a w hk
    refine FW.lfunG (y := .lit (.bool (decide (t3.2.2 = 0)))) hk rfl rfl rfl rfl rfl rfl rfl rfl (fun hc => (FW.f_pure (FW.p_eql hk.kn hc rfl rfl))) ?_; clear hk; intro a w hk
    refine FW.lfun (y := .lit (.bool (((t4 && (decide (t2.1 = v3))) && (decide (t2.2 = (List.length t1 : Int)))) && (decide (t3.2.2 = 0))))) hk rfl rfl rfl rfl ((FW.f_pure (FW.p_pick_and hk.kn (FW.holds_nil _) rfl rfl))) ?_; clear hk; intro a w hk
    refine FW.lfun (y := .lit (.bool (((t4 && (decide (t2.1 = v3))) && (decide (t2.2 = (List.length t1 : Int)))) && (decide (t3.2.2 = 0))))) hk rfl rfl rfl rfl (FW.f_move hk (FW.holds_nil _) rfl) ?_; clear hk; intro a w hk
    refine FW.lfunG (y := .row (r_ApiWord_cells t3.1)) hk rfl rfl rfl rfl rfl rfl rfl rfl (fun hc => FW.f_move hk hc rfl) ?_; clear hk; intro a w hk
    refine FW.lfunG (y := .lit (.int .i64 (List.length t3.1 : Int))) hk rfl rfl rfl rfl rfl rfl rfl rfl (fun hc => FW.f_len (R := r_ApiWord_cells) (f := ApiWord.cells) (l := t3.1) r_ApiWord_cells_eq Go.Proofs.Try.underlying48 hk hc rfl) ?_; clear hk; intro a w hk
    refine FW.lfunG (y := .lit (.bool (decide ((List.length t3.1 : Int) = 2)))) hk rfl rfl rfl rfl rfl rfl rfl rfl (fun hc => (FW.f_pure (FW.p_eql hk.kn hc rfl rfl))) ?_; clear hk; intro a w hk
    refine FW.lfun (y := .lit (.bool ((((t4 && (decide (t2.1 = v3))) && (decide (t2.2 = (List.length t1 : Int)))) && (decide (t3.2.2 = 0))) && (decide ((List.length t3.1 : Int) = 2))))) hk rfl rfl rfl rfl ((FW.f_pure (FW.p_pick_and hk.kn (FW.holds_nil _) rfl rfl))) ?_; clear hk; intro a w hk
    refine FW.lfun (y := .lit (.bool ((((t4 && (decide (t2.1 = v3))) && (decide (t2.2 = (List.length t1 : Int)))) && (decide (t3.2.2 = 0))) && (decide ((List.length t3.1 : Int) = 2))))) hk rfl rfl rfl rfl (FW.f_move hk (FW.holds_nil _) rfl) ?_; clear hk; intro a w hk
    refine FW.lfunG (y := .row (r_ApiWord_cells t3.1)) hk rfl rfl rfl rfl rfl rfl rfl rfl (fun hc => FW.f_move hk hc rfl) ?_; clear hk; intro a w hk
    obtain ⟨hc1, h⟩ := FW.chk h
    refine FW.lfunG (y := .ref (ApiWord.cells (List.getD t3.1 (Int.toNat 0) default))) hk rfl rfl rfl rfl rfl rfl rfl rfl (fun hc => FW.f_indexAddr (R := r_ApiWord_cells) (f := ApiWord.cells) (l := t3.1) (sz := 5) r_ApiWord_cells_eq (fun _ => rfl) hk hc rfl rfl Go.Proofs.Try.underlying48 (by kernel_rfl) hc1) ?_; clear hk; intro a w hk
    refine FW.lfunG (y := .ref (List.drop 0 (ApiWord.cells (List.getD t3.1 (Int.toNat 0) default)))) hk rfl rfl rfl rfl rfl rfl rfl rfl (fun hc => FW.f_fieldAddr hk hc rfl Go.Proofs.Try.underlying52 rfl (by kernel_rfl) rfl) ?_; clear hk; intro a w hk
    refine FW.lfunG (y := .lit (.int .i64 ((List.getD t3.1 (Int.toNat 0) default).Kind))) hk rfl rfl rfl rfl rfl rfl rfl rfl (fun hc => FW.f_load1 hk hc rfl rfl Go.Proofs.Try.underlying3 rfl) ?_; clear hk; intro a w hk
    refine FW.lfunG (y := .lit (.bool (decide (((List.getD t3.1 (Int.toNat 0) default).Kind) = 4)))) hk rfl rfl rfl rfl rfl rfl rfl rfl (fun hc => (FW.f_pure (FW.p_eql hk.kn hc rfl rfl))) ?_; clear hk; intro a w hk
    refine FW.lfun (y := .lit (.bool (((((t4 && (decide (t2.1 = v3))) && (decide (t2.2 = (List.length t1 : Int)))) && (decide (t3.2.2 = 0))) && (decide ((List.length t3.1 : Int) = 2))) && (decide (((List.getD t3.1 (Int.toNat 0) default).Kind) = 4))))) hk rfl rfl rfl rfl ((FW.f_pure (FW.p_pick_and hk.kn (FW.holds_nil _) rfl rfl))) ?_; clear hk; intro a w hk
    refine FW.lfun (y := .lit (.bool (((((t4 && (decide (t2.1 = v3))) && (decide (t2.2 = (List.length t1 : Int)))) && (decide (t3.2.2 = 0))) && (decide ((List.length t3.1 : Int) = 2))) && (decide (((List.getD t3.1 (Int.toNat 0) default).Kind) = 4))))) hk rfl rfl rfl rfl (FW.f_move hk (FW.holds_nil _) rfl) ?_; clear hk; intro a w hk
    refine FW.lfunG (y := .row (r_ApiWord_cells t3.1)) hk rfl rfl rfl rfl rfl rfl rfl rfl (fun hc => FW.f_move hk hc rfl) ?_; clear hk; intro a w hk
    obtain ⟨hc2, h⟩ := FW.chk h
    refine FW.lfunG (y := .ref (ApiWord.cells (List.getD t3.1 (Int.toNat 0) default))) hk rfl rfl rfl rfl rfl rfl rfl rfl (fun hc => FW.f_indexAddr (R := r_ApiWord_cells) (f := ApiWord.cells) (l := t3.1) (sz := 5) r_ApiWord_cells_eq (fun _ => rfl) hk hc rfl rfl Go.Proofs.Try.underlying48 (by kernel_rfl) hc2) ?_; clear hk; intro a w hk
    refine FW.lfunG (y := .ref (List.drop 1 (ApiWord.cells (List.getD t3.1 (Int.toNat 0) default)))) hk rfl rfl rfl rfl rfl rfl rfl rfl (fun hc => FW.f_fieldAddr hk hc rfl Go.Proofs.Try.underlying52 rfl (by kernel_rfl) rfl) ?_; clear hk; intro a w hk
    refine FW.lfunG (y := .lit (.string (FW.B ((List.getD t3.1 (Int.toNat 0) default).S)))) hk rfl rfl rfl rfl rfl rfl rfl rfl (fun hc => FW.f_load1 hk hc rfl rfl Go.Proofs.Try.underlying9 rfl) ?_; clear hk; intro a w hk
    refine FW.lfunG (y := .lit (.string (FW.B v3))) hk rfl rfl rfl rfl rfl rfl rfl rfl (fun hc => FW.f_move hk hc rfl) ?_; clear hk; intro a w hk
    refine FW.lfunG (y := .lit (.bool (decide (((List.getD t3.1 (Int.toNat 0) default).S) = v3)))) hk rfl rfl rfl rfl rfl rfl rfl rfl (fun hc => (FW.f_pure (FW.p_seql hk.kn hc rfl rfl))) ?_; clear hk; intro a w hk
    refine FW.lfun (y := .lit (.bool ((((((t4 && (decide (t2.1 = v3))) && (decide (t2.2 = (List.length t1 : Int)))) && (decide (t3.2.2 = 0))) && (decide ((List.length t3.1 : Int) = 2))) && (decide (((List.getD t3.1 (Int.toNat 0) default).Kind) = 4))) && (decide (((List.getD t3.1 (Int.toNat 0) default).S) = v3))))) hk rfl rfl rfl rfl ((FW.f_pure (FW.p_pick_and hk.kn (FW.holds_nil _) rfl rfl))) ?_; clear hk; intro a w hk
    refine FW.lfun (y := .lit (.bool ((((((t4 && (decide (t2.1 = v3))) && (decide (t2.2 = (List.length t1 : Int)))) && (decide (t3.2.2 = 0))) && (decide ((List.length t3.1 : Int) = 2))) && (decide (((List.getD t3.1 (Int.toNat 0) default).Kind) = 4))) && (decide (((List.getD t3.1 (Int.toNat 0) default).S) = v3))))) hk rfl rfl rfl rfl (FW.f_assign hk (FW.holds_nil _) rfl) ?_; clear hk; intro a w hk
    refine FW.lend (hK7 _ _ ?_); clear hK7 K'
    refine wp_ret ?_
    (repeat first | refine FW.then_ret ?_ | refine FW.block_ret ?_)
    obtain rfl := Option.some.inj h
    exact FW.fret1 hk rfl rfl
  · intro K' hK3
    refine FW.wreg ?_; intro K' hK8
    refine FW.lfun (y := .lit (.string (FW.B v0))) hk rfl rfl rfl rfl (FW.f_move hk (FW.holds_nil _) rfl) ?_; clear hk; intro a w hk
    refine FW.lfun (y := .lit (.int .i64 (List.length v0 : Int))) hk rfl rfl rfl rfl ((FW.f_pure (FW.p_slen Go.Proofs.Try.underlying9 hk.kn (FW.holds_nil _) rfl))) ?_; clear hk; intro a w hk
    refine FW.lfun (y := .lit (.bool (decide (500 < (List.length v0 : Int))))) hk rfl rfl rfl rfl ((FW.f_pure (FW.p_gtr hk.kn (FW.holds_nil _) rfl rfl))) ?_; clear hk; intro a w hk
    refine FW.lend (hK8 _ _ ?_); clear hK8 K'
    refine FW.wcondF (b := (decide (500 < (List.length v0 : Int)))) hk h rfl (fun h hb => ?_) (fun h hb => ?_)
    · skip
      refine FW.wreg1 ?_
      refine FW.lfun (y := .lit (.string (FW.B v0))) hk rfl rfl rfl rfl (FW.f_move hk (FW.holds_nil _) rfl) ?_; clear hk; intro a w hk
      obtain ⟨hc3, h⟩ := FW.chk h
      refine FW.lfun (y := .lit (.string (FW.B (List.take (Int.toNat 500) v0)))) hk rfl rfl rfl rfl ((FW.f_pure (FW.p_slice_hi Go.Proofs.Try.underlying9 hk.kn (FW.holds_nil _) rfl rfl hc3))) ?_; clear hk; intro a w hk
      refine FW.lfun (y := .lit (.string (FW.B (List.take (Int.toNat 500) v0)))) hk rfl rfl rfl rfl (FW.f_assign hk (FW.holds_nil _) rfl) ?_; clear hk; intro a w hk
      refine wpList_nil ?_
      (repeat first | refine FW.then_normal ?_ | refine FW.block_normal ?_); exact hK3 _ _ ⟨(List.take (Int.toNat 500) v0), hk.sub ⟨rfl, trivial⟩, h⟩
    · skip
      refine wp_skip ?_
      (repeat first | refine FW.then_normal ?_ | refine FW.block_normal ?_); exact hK3 _ _ ⟨v0, hk.sub ⟨rfl, trivial⟩, h⟩
end Go.Proofs.Ytfmabehmohbahaa

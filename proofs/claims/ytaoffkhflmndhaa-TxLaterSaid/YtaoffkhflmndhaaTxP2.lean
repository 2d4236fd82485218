/- Written by a program of this session (gen.py): the contracts of functions of the program. -/
import Derived.Test.YtaoffkhflmndhaaTxP1
namespace Go.Proofs.Ytaoffkhflmndhaa
set_option linter.unusedVariables false
set_option maxRecDepth 20000
set_option maxHeartbeats 10000000
theorem offshootref06_Do.ok (K : Nat) (v0 : List ApiBody) (v1 : List ApiChange) (r : List ApiBody) (h : offshootref06_Do.f K v0 v1 = some r) :
    FW.Ok Go.Proofs.Try.prog 9 [.row (r_ApiBody_cells v0), .row (r_ApiChange_cells v1)] (.row (r_ApiBody_cells r)) := by
  refine FW.enter (xs := [.row (r_ApiBody_cells v0), .row (r_ApiChange_cells v1)]) Go.Proofs.Try.func9 rfl Go.Proofs.Try.ntmps9 rfl ?_
  intro M w0 a hk
  unfold offshootref06_Do.f at h
  refine FW.wreg ?_; intro K' hK1
  refine FW.lfun (y := .row (r_ApiBody_cells [])) hk rfl rfl rfl rfl (FW.f_assignNil) ?_; clear hk; intro a w hk
  refine FW.lend (hK1 _ _ ?_); clear hK1 K'
  refine FW.wseq ?_; intro K' hK2
  refine FW.wreg ?_; intro K' hK3
  refine FW.lfun (y := .lit (.int .i64 0)) hk rfl rfl rfl rfl (FW.f_assign hk (FW.holds_nil _) rfl) ?_; clear hk; intro a w hk
  refine FW.lend (hK3 _ _ ?_); clear hK3 K'
  refine wp_block ?_
  refine FW.wloop (T := Nat × List ApiBody × List ApiChange × Int) (fun x a w => match x with | (kl1, v0, v1, v5) => FW.S M w0 a w 92 [] [(0, [], .row (r_ApiBody_cells v0)), (1, [], .row (r_ApiChange_cells v1)), (5, [], .lit (.int .i64 v5))] ∧ offshootref06_Do.l1 K kl1 v0 v1 v5 = some r) (fun x => x.1) (K, v0, v1, 0) ⟨hk.sub ⟨rfl, rfl, rfl, trivial⟩, h⟩ ?_
  clear hk h
  rintro ⟨kl1, v0, v1, v5⟩ a w ⟨hk, h⟩ K' hK4
  cases kl1 with
  | zero => simp [offshootref06_Do.l1] at h
  | succ kl1 =>
  rw [offshootref06_Do.l1.eq_2] at h
  refine FW.wseq ?_; intro K' hK5
  refine FW.wreg ?_; intro K' hK6
  refine FW.lfun (y := .lit (.int .i64 v5)) hk rfl rfl rfl rfl (FW.f_move hk (FW.holds_nil _) rfl) ?_; clear hk; intro a w hk
  refine FW.lfun (y := .row (r_ApiChange_cells v1)) hk rfl rfl rfl rfl (FW.f_move hk (FW.holds_nil _) rfl) ?_; clear hk; intro a w hk
  refine FW.lfun (y := .lit (.int .i64 (List.length v1 : Int))) hk rfl rfl rfl rfl (FW.f_len (R := r_ApiChange_cells) (f := ApiChange.cells) (l := v1) r_ApiChange_cells_eq Go.Proofs.Try.underlying22 hk (FW.holds_nil _) rfl) ?_; clear hk; intro a w hk
  refine FW.lfun (y := .lit (.bool (decide (v5 < (List.length v1 : Int))))) hk rfl rfl rfl rfl ((FW.f_pure (FW.p_lss hk.kn (FW.holds_nil _) rfl rfl))) ?_; clear hk; intro a w hk
  refine FW.lend (hK6 _ _ ?_); clear hK6 K'
  refine FW.wcondF (b := (decide (v5 < (List.length v1 : Int)))) hk h rfl (fun h hb => ?_) (fun h hb => ?_)
  · skip
    refine wp_skip ?_
    (repeat first | refine FW.then_normal ?_ | refine FW.block_normal ?_); refine hK5 _ _ ?_
    refine FW.wseq ?_; intro K' hK7
    refine wp_block ?_
    obtain ⟨hc1, h⟩ := FW.chk h
    refine FW.wdrawE (.next [false, true, true, true, true, true, false, false] 0 [false, true, true, true, true, true, false, false] (.leaf [false, true, true, true, true, true, true, true])) [(15, [], .agg []), (16, [], .row (r_ApiChange_cells v1)), (17, [], .lit (.int .i64 v5)), (18, [], .ref (ApiChange.cells (List.getD v1 (Int.toNat v5) default))), (19, [], .ref (List.drop 2 (ApiChange.cells (List.getD v1 (Int.toNat v5) default)))), (20, [], .lit (.bool ((List.getD v1 (Int.toNat v5) default).Gone))), (6, [], .agg []), (7, [], .agg [])] (by kernel_rfl) (by kernel_rfl) (by kernel_rfl) (by kernel_rfl) hk ?_; clear hk
    refine FW.gnext ?_ rfl rfl rfl rfl rfl ?_
    · skip
      refine FW.gskip rfl rfl ?_
      refine FW.gfun (y := .row (r_ApiChange_cells v1)) rfl rfl rfl rfl (fun a w hk => FW.f_move hk (FW.holds_nil _) rfl) ?_
      refine FW.gfun (y := .lit (.int .i64 v5)) rfl rfl rfl rfl (fun a w hk => FW.f_move hk (FW.holds_nil _) rfl) ?_
      refine FW.gfun (y := .ref (ApiChange.cells (List.getD v1 (Int.toNat v5) default))) rfl rfl rfl rfl (fun a w hk => FW.f_indexAddr (R := r_ApiChange_cells) (f := ApiChange.cells) (l := v1) (sz := 3) r_ApiChange_cells_eq (fun _ => rfl) hk (FW.holds_nil _) rfl rfl Go.Proofs.Try.underlying22 (by kernel_rfl) hc1) ?_
      refine FW.gfun (y := .ref (List.drop 2 (ApiChange.cells (List.getD v1 (Int.toNat v5) default)))) rfl rfl rfl rfl (fun a w hk => FW.f_fieldAddr hk (FW.holds_nil _) rfl Go.Proofs.Try.underlying31 rfl (by kernel_rfl) rfl) ?_
      refine FW.gfun (y := .lit (.bool ((List.getD v1 (Int.toNat v5) default).Gone))) rfl rfl rfl rfl (fun a w hk => FW.f_load1 hk (FW.holds_nil _) rfl rfl Go.Proofs.Try.underlying4 rfl) ?_
      refine FW.gskip rfl rfl ?_
      refine FW.gskip rfl rfl ?_
      exact FW.gend
    · skip
      intro σD a w opsD QD hk hf hQ hX
      refine FW.l_buildSlice0 (f := ApiBody.cells) hk rfl hf Go.Proofs.Try.underlying23 rfl (fun _ => rfl) ?_; clear hk; intro bx1 a w hk
      refine hQ _ _ a w ?_ hk; clear hk hQ hf hX
      refine ⟨[(15, [], .lit (.slice (some ⟨bx1, 0, none⟩) (List.length ([] : List ApiBody)) 0)), (16, [], .row (r_ApiChange_cells v1)), (17, [], .lit (.int .i64 v5)), (18, [], .ref (ApiChange.cells (List.getD v1 (Int.toNat v5) default))), (19, [], .ref (List.drop 2 (ApiChange.cells (List.getD v1 (Int.toNat v5) default)))), (20, [], .lit (.bool ((List.getD v1 (Int.toNat v5) default).Gone))), (6, [], .lit (.slice (some ⟨bx1, 0, none⟩) (List.length ([] : List ApiBody)) 0)), (7, [], .lit (.bool ((List.getD v1 (Int.toNat v5) default).Gone)))], And.intro rfl (And.intro rfl (And.intro rfl (And.intro rfl (And.intro rfl (trivial))))), rfl, ?_⟩
      refine FW.glast ?_ ?_
      · skip
        refine FW.gskip rfl rfl ?_
        refine FW.gfun (y := .row (r_ApiChange_cells v1)) rfl rfl rfl rfl (fun a w hk => FW.f_move hk (FW.holds_nil _) rfl) ?_
        refine FW.gfun (y := .lit (.int .i64 v5)) rfl rfl rfl rfl (fun a w hk => FW.f_move hk (FW.holds_nil _) rfl) ?_
        refine FW.gfun (y := .ref (ApiChange.cells (List.getD v1 (Int.toNat v5) default))) rfl rfl rfl rfl (fun a w hk => FW.f_indexAddr (R := r_ApiChange_cells) (f := ApiChange.cells) (l := v1) (sz := 3) r_ApiChange_cells_eq (fun _ => rfl) hk (FW.holds_nil _) rfl rfl Go.Proofs.Try.underlying22 (by kernel_rfl) hc1) ?_
        refine FW.gfun (y := .ref (List.drop 2 (ApiChange.cells (List.getD v1 (Int.toNat v5) default)))) rfl rfl rfl rfl (fun a w hk => FW.f_fieldAddr hk (FW.holds_nil _) rfl Go.Proofs.Try.underlying31 rfl (by kernel_rfl) rfl) ?_
        refine FW.gfun (y := .lit (.bool ((List.getD v1 (Int.toNat v5) default).Gone))) rfl rfl rfl rfl (fun a w hk => FW.f_load1 hk (FW.holds_nil _) rfl rfl Go.Proofs.Try.underlying4 rfl) ?_
        refine FW.gfun (y := .lit (.slice (some ⟨bx1, 0, none⟩) (List.length ([] : List ApiBody)) 0)) rfl rfl rfl rfl (fun a w hk => FW.f_assign hk (FW.holds_nil _) rfl) ?_
        refine FW.gfun (y := .lit (.bool ((List.getD v1 (Int.toNat v5) default).Gone))) rfl rfl rfl rfl (fun a w hk => FW.f_assign hk (FW.holds_nil _) rfl) ?_
        exact FW.gend
      · skip
        intro a w hk; simp only [FW.stD, cond_true] at hk
        refine FW.wseq ?_; intro K' hK9
        refine FW.wreg ?_; intro K' hK10
        refine FW.lfun (y := .lit (.int .i64 0)) hk rfl rfl rfl rfl (FW.f_assign hk (FW.holds_nil _) rfl) ?_; clear hk; intro a w hk
        refine FW.lend (hK10 _ _ ?_); clear hK10 K'
        refine wp_block ?_
        refine FW.wloop (T := Nat × List ApiBody × List ApiBody × List ApiChange × Int × Bool × Int × Option Addr × Nat) (fun x a w => match x with | (kl2, l1, v0, v1, v5, v7, v8, xd1, xc1) => FW.S M w0 a w 92 [FW.orow xd1 xc1 48 2 ApiBody.cells l1] [(0, [], .row (r_ApiBody_cells v0)), (1, [], .row (r_ApiChange_cells v1)), (5, [], .lit (.int .i64 v5)), (6, [], .lit (.slice xd1 (List.length l1) xc1)), (7, [], .lit (.bool v7)), (8, [], .lit (.int .i64 v8))] ∧ offshootref06_Do.l2 (offshootref06_Do.l1 K kl1) K kl2 l1 v0 v1 v5 v7 v8 = some r) (fun x => x.1) (K, ([] : List ApiBody), v0, v1, v5, (List.getD v1 (Int.toNat v5) default).Gone, 0, (some ⟨bx1, 0, none⟩), 0) ⟨hk.sub ⟨rfl, rfl, rfl, rfl, rfl, rfl, trivial⟩, h⟩ ?_
        clear hk h
        rintro ⟨kl2, l1, v0, v1, v5, v7, v8, xd1, xc1⟩ a w ⟨hk, h⟩ K' hK11
        cases kl2 with
        | zero => simp [offshootref06_Do.l2] at h
        | succ kl2 =>
        rw [offshootref06_Do.l2.eq_2] at h
        refine FW.wseq ?_; intro K' hK12
        refine FW.wreg ?_; intro K' hK13
        refine FW.lfun (y := .lit (.int .i64 v8)) hk rfl rfl rfl rfl (FW.f_move hk (FW.holds_nil _) rfl) ?_; clear hk; intro a w hk
        refine FW.lfun (y := .row (r_ApiBody_cells v0)) hk rfl rfl rfl rfl (FW.f_move hk (FW.holds_nil _) rfl) ?_; clear hk; intro a w hk
        refine FW.lfun (y := .lit (.int .i64 (List.length v0 : Int))) hk rfl rfl rfl rfl (FW.f_len (R := r_ApiBody_cells) (f := ApiBody.cells) (l := v0) r_ApiBody_cells_eq Go.Proofs.Try.underlying23 hk (FW.holds_nil _) rfl) ?_; clear hk; intro a w hk
        refine FW.lfun (y := .lit (.bool (decide (v8 < (List.length v0 : Int))))) hk rfl rfl rfl rfl ((FW.f_pure (FW.p_lss hk.kn (FW.holds_nil _) rfl rfl))) ?_; clear hk; intro a w hk
        refine FW.lend (hK13 _ _ ?_); clear hK13 K'
        refine FW.wcondF (b := (decide (v8 < (List.length v0 : Int)))) hk h rfl (fun h hb => ?_) (fun h hb => ?_)
        · skip
          refine wp_skip ?_
          (repeat first | refine FW.then_normal ?_ | refine FW.block_normal ?_); refine hK12 _ _ ?_
          refine FW.wseqJ (fun a w => ∃ (l1 : List ApiBody) (v0 : List ApiBody) (v1 : List ApiChange) (v5 : Int) (v7 : Bool) (v8 : Int) (xd1 : Option Addr) (xc1 : Nat), FW.S M w0 a w 92 [FW.orow xd1 xc1 48 2 ApiBody.cells l1] [(0, [], .row (r_ApiBody_cells v0)), (1, [], .row (r_ApiChange_cells v1)), (5, [], .lit (.int .i64 v5)), (6, [], .lit (.slice xd1 (List.length l1) xc1)), (7, [], .lit (.bool v7)), (8, [], .lit (.int .i64 v8))] ∧ offshootref06_Do.j1 (offshootref06_Do.l1 K kl1) (offshootref06_Do.l2 (offshootref06_Do.l1 K kl1) K kl2) K l1 v0 v1 v5 v7 v8 = some r) ?_ ?_
          · clear hk h
            rintro a w ⟨l1, v0, v1, v5, v7, v8, xd1, xc1, hk, h⟩
            unfold offshootref06_Do.j1 at h
            refine FW.wreg1 ?_
            refine FW.lfun (y := .lit (.int .i64 v8)) hk rfl rfl rfl rfl (FW.f_move hk (FW.holds_nil _) rfl) ?_; clear hk; intro a w hk
            refine FW.lfun (y := .lit (.int .i64 (IntKind.wrap .i64 (v8 + 1)))) hk rfl rfl rfl rfl ((FW.f_pure (FW.p_add hk.kn (FW.holds_nil _) rfl rfl))) ?_; clear hk; intro a w hk
            refine FW.lfun (y := .lit (.int .i64 (IntKind.wrap .i64 (v8 + 1)))) hk rfl rfl rfl rfl (FW.f_assign hk (FW.holds_nil _) rfl) ?_; clear hk; intro a w hk
            refine wpList_nil ?_
            (repeat first | refine FW.then_normal ?_ | refine FW.block_normal ?_); exact hK11 (kl2, l1, v0, v1, v5, v7, (IntKind.wrap .i64 (v8 + 1)), xd1, xc1) _ _ (Nat.lt_succ_self _) ⟨hk.sub ⟨rfl, rfl, rfl, rfl, rfl, rfl, trivial⟩, h⟩
          · intro K' hK14
            refine wp_block ?_
            refine FW.wseqJ (fun a w => ∃ (l1 : List ApiBody) (v0 : List ApiBody) (v1 : List ApiChange) (v5 : Int) (v7 : Bool) (v8 : Int) (xd1 : Option Addr) (xc1 : Nat), FW.S M w0 a w 92 [FW.orow xd1 xc1 48 2 ApiBody.cells l1] [(0, [], .row (r_ApiBody_cells v0)), (1, [], .row (r_ApiChange_cells v1)), (5, [], .lit (.int .i64 v5)), (6, [], .lit (.slice xd1 (List.length l1) xc1)), (7, [], .lit (.bool v7)), (8, [], .lit (.int .i64 v8))] ∧ offshootref06_Do.j2 (offshootref06_Do.l1 K kl1) (offshootref06_Do.l2 (offshootref06_Do.l1 K kl1) K kl2) K l1 v0 v1 v5 v7 v8 = some r) ?_ ?_
            · clear hk h
              rintro a w ⟨l1, v0, v1, v5, v7, v8, xd1, xc1, hk, h⟩
              unfold offshootref06_Do.j2 at h
              obtain ⟨hc2, h⟩ := FW.chk h
              obtain ⟨hc3, h⟩ := FW.chk h
              refine FW.wdraw (by kernel_rfl) (by kernel_rfl) hk ?_; clear hk
              refine FW.dfun (y := .row (r_ApiBody_cells v0)) rfl rfl rfl rfl (fun a w hk => FW.f_move hk (FW.holds_nil _) rfl) ?_
              refine FW.dfun (y := .lit (.int .i64 v8)) rfl rfl rfl rfl (fun a w hk => FW.f_move hk (FW.holds_nil _) rfl) ?_
              refine FW.dfun (y := .ref (ApiBody.cells (List.getD v0 (Int.toNat v8) default))) rfl rfl rfl rfl (fun a w hk => FW.f_indexAddr (R := r_ApiBody_cells) (f := ApiBody.cells) (l := v0) (sz := 2) r_ApiBody_cells_eq (fun _ => rfl) hk (FW.holds_nil _) rfl rfl Go.Proofs.Try.underlying23 (by kernel_rfl) hc2) ?_
              refine FW.dfun (y := .ref (List.drop 0 (ApiBody.cells (List.getD v0 (Int.toNat v8) default)))) rfl rfl rfl rfl (fun a w hk => FW.f_fieldAddr hk (FW.holds_nil _) rfl Go.Proofs.Try.underlying48 rfl (by kernel_rfl) rfl) ?_
              refine FW.dfun (y := .lit (.int .u64 ((List.getD v0 (Int.toNat v8) default).ID))) rfl rfl rfl rfl (fun a w hk => FW.f_load1 hk (FW.holds_nil _) rfl rfl Go.Proofs.Try.underlying29 rfl) ?_
              refine FW.dfun (y := .row (r_ApiChange_cells v1)) rfl rfl rfl rfl (fun a w hk => FW.f_move hk (FW.holds_nil _) rfl) ?_
              refine FW.dfun (y := .lit (.int .i64 v5)) rfl rfl rfl rfl (fun a w hk => FW.f_move hk (FW.holds_nil _) rfl) ?_
              refine FW.dfun (y := .ref (ApiChange.cells (List.getD v1 (Int.toNat v5) default))) rfl rfl rfl rfl (fun a w hk => FW.f_indexAddr (R := r_ApiChange_cells) (f := ApiChange.cells) (l := v1) (sz := 3) r_ApiChange_cells_eq (fun _ => rfl) hk (FW.holds_nil _) rfl rfl Go.Proofs.Try.underlying22 (by kernel_rfl) hc3) ?_
              refine FW.dfun (y := .ref (List.drop 0 (ApiChange.cells (List.getD v1 (Int.toNat v5) default)))) rfl rfl rfl rfl (fun a w hk => FW.f_fieldAddr hk (FW.holds_nil _) rfl Go.Proofs.Try.underlying31 rfl (by kernel_rfl) rfl) ?_
              refine FW.dfun (y := .lit (.int .u64 ((List.getD v1 (Int.toNat v5) default).ID))) rfl rfl rfl rfl (fun a w hk => FW.f_load1 hk (FW.holds_nil _) rfl rfl Go.Proofs.Try.underlying29 rfl) ?_
              refine FW.dfun (y := .lit (.bool (!decide (((List.getD v0 (Int.toNat v8) default).ID) = ((List.getD v1 (Int.toNat v5) default).ID))))) rfl rfl rfl rfl (fun a w hk => (FW.f_pure (FW.p_neq hk.kn (FW.holds_nil _) rfl rfl))) ?_
              refine FW.dend ?_; intro a w hk
              refine FW.wcondF (b := (!decide (((List.getD v0 (Int.toNat v8) default).ID) = ((List.getD v1 (Int.toNat v5) default).ID)))) hk h rfl (fun h hb => ?_) (fun h hb => ?_)
              · skip
                refine FW.wreg1 ?_
                refine FW.lfun (y := .lit (.slice xd1 (List.length l1) xc1)) hk rfl rfl rfl rfl (FW.f_move hk (FW.holds_nil _) rfl) ?_; clear hk; intro a w hk
                refine FW.lfun (y := .row (r_ApiBody_cells v0)) hk rfl rfl rfl rfl (FW.f_move hk (FW.holds_nil _) rfl) ?_; clear hk; intro a w hk
                refine FW.lfun (y := .lit (.int .i64 v8)) hk rfl rfl rfl rfl (FW.f_move hk (FW.holds_nil _) rfl) ?_; clear hk; intro a w hk
                obtain ⟨hc4, h⟩ := FW.chk h
                refine FW.lfun (y := .ref (ApiBody.cells (List.getD v0 (Int.toNat v8) default))) hk rfl rfl rfl rfl (FW.f_indexAddr (R := r_ApiBody_cells) (f := ApiBody.cells) (l := v0) (sz := 2) r_ApiBody_cells_eq (fun _ => rfl) hk (FW.holds_nil _) rfl rfl Go.Proofs.Try.underlying23 (by kernel_rfl) hc4) ?_; clear hk; intro a w hk
                refine FW.lfun (y := .agg ((ApiBody.cells (List.getD v0 (Int.toNat v8) default)))) hk rfl rfl rfl rfl (FW.f_load hk (FW.holds_nil _) rfl Go.Proofs.Try.underlying48 rfl rfl rfl rfl) ?_; clear hk; intro a w hk
                refine FW.l_buildSlice (f := ApiBody.cells) (l := ([(List.getD v0 (Int.toNat v8) default)] : List ApiBody)) hk rfl rfl rfl Go.Proofs.Try.underlying23 rfl rfl rfl rfl (fun _ => rfl) rfl ?_; clear hk; intro bx2 a w hk
                obtain ⟨hc5, h⟩ := FW.chk h
                refine FW.l_append (l2 := ([(List.getD v0 (Int.toNat v8) default)] : List ApiBody)) (l3 := (l1 ++ ([(List.getD v0 (Int.toNat v8) default)] : List ApiBody))) (I' := fun ad1 cap1 => [FW.orow (some ⟨bx2, 0, none⟩) 1 48 2 ApiBody.cells ([(List.getD v0 (Int.toNat v8) default)] : List ApiBody), FW.orow ad1 cap1 48 2 ApiBody.cells (l1 ++ ([(List.getD v0 (Int.toNat v8) default)] : List ApiBody))]) (j := 1) hk rfl rfl rfl rfl (FW.own_src hk (j := 0) rfl rfl (fun _ => rfl) Go.Proofs.Try.underlying23) Go.Proofs.Try.underlying23 (by kernel_rfl) hc5 rfl (fun _ _ => rfl) ?_; clear hk; intro ad1 cap1 a w hk
                replace hk := FW.S.dropI (I' := [FW.orow ad1 cap1 48 2 ApiBody.cells (l1 ++ ([(List.getD v0 (Int.toNat v8) default)] : List ApiBody))]) hk 0 rfl
                refine FW.lfun (y := .lit (.slice ad1 (List.length (l1 ++ ([(List.getD v0 (Int.toNat v8) default)] : List ApiBody))) cap1)) hk rfl rfl rfl rfl (FW.f_assign hk (FW.holds_nil _) rfl) ?_; clear hk; intro a w hk
                refine wpList_nil ?_
                (repeat first | refine FW.then_normal ?_ | refine FW.block_normal ?_); exact hK14 _ _ ⟨(l1 ++ ([(List.getD v0 (Int.toNat v8) default)] : List ApiBody)), v0, v1, v5, v7, v8, ad1, cap1, hk.sub ⟨rfl, rfl, rfl, rfl, rfl, rfl, trivial⟩, h⟩
              refine wp_skip ?_
              (repeat first | refine FW.then_normal ?_ | refine FW.block_normal ?_); exact hK14 _ _ ⟨l1, v0, v1, v5, v7, v8, xd1, xc1, hk.sub ⟨rfl, rfl, rfl, rfl, rfl, rfl, trivial⟩, h⟩
            · intro K' hK16
              obtain ⟨hc6, h⟩ := FW.chk h
              obtain ⟨hc7, h⟩ := FW.chk h
              refine FW.wdraw (by kernel_rfl) (by kernel_rfl) hk ?_; clear hk
              refine FW.dfun (y := .lit (.bool v7)) rfl rfl rfl rfl (fun a w hk => FW.f_move hk (FW.holds_nil _) rfl) ?_
              refine FW.dfun (y := .lit (.bool (!v7))) rfl rfl rfl rfl (fun a w hk => (FW.f_pure (FW.p_not hk.kn (FW.holds_nil _) rfl))) ?_
              refine FW.dfun (y := .lit (.bool (!v7))) rfl rfl rfl rfl (fun a w hk => FW.f_move hk (FW.holds_nil _) rfl) ?_
              refine FW.dfunG (y := .row (r_ApiBody_cells v0)) rfl rfl rfl rfl rfl rfl rfl rfl rfl (fun a w hk hc => FW.f_move hk hc rfl) ?_
              refine FW.dfunG (y := .lit (.int .i64 v8)) rfl rfl rfl rfl rfl rfl rfl rfl rfl (fun a w hk hc => FW.f_move hk hc rfl) ?_
              refine FW.dfunG (y := .ref (ApiBody.cells (List.getD v0 (Int.toNat v8) default))) rfl rfl rfl rfl rfl rfl rfl rfl rfl (fun a w hk hc => FW.f_indexAddr (R := r_ApiBody_cells) (f := ApiBody.cells) (l := v0) (sz := 2) r_ApiBody_cells_eq (fun _ => rfl) hk hc rfl rfl Go.Proofs.Try.underlying23 (by kernel_rfl) hc6) ?_
              refine FW.dfunG (y := .ref (List.drop 0 (ApiBody.cells (List.getD v0 (Int.toNat v8) default)))) rfl rfl rfl rfl rfl rfl rfl rfl rfl (fun a w hk hc => FW.f_fieldAddr hk hc rfl Go.Proofs.Try.underlying48 rfl (by kernel_rfl) rfl) ?_
              refine FW.dfunG (y := .lit (.int .u64 ((List.getD v0 (Int.toNat v8) default).ID))) rfl rfl rfl rfl rfl rfl rfl rfl rfl (fun a w hk hc => FW.f_load1 hk hc rfl rfl Go.Proofs.Try.underlying29 rfl) ?_
              refine FW.dfunG (y := .row (r_ApiChange_cells v1)) rfl rfl rfl rfl rfl rfl rfl rfl rfl (fun a w hk hc => FW.f_move hk hc rfl) ?_
              refine FW.dfunG (y := .lit (.int .i64 v5)) rfl rfl rfl rfl rfl rfl rfl rfl rfl (fun a w hk hc => FW.f_move hk hc rfl) ?_
              refine FW.dfunG (y := .ref (ApiChange.cells (List.getD v1 (Int.toNat v5) default))) rfl rfl rfl rfl rfl rfl rfl rfl rfl (fun a w hk hc => FW.f_indexAddr (R := r_ApiChange_cells) (f := ApiChange.cells) (l := v1) (sz := 3) r_ApiChange_cells_eq (fun _ => rfl) hk hc rfl rfl Go.Proofs.Try.underlying22 (by kernel_rfl) hc7) ?_
              refine FW.dfunG (y := .ref (List.drop 0 (ApiChange.cells (List.getD v1 (Int.toNat v5) default)))) rfl rfl rfl rfl rfl rfl rfl rfl rfl (fun a w hk hc => FW.f_fieldAddr hk hc rfl Go.Proofs.Try.underlying31 rfl (by kernel_rfl) rfl) ?_
              refine FW.dfunG (y := .lit (.int .u64 ((List.getD v1 (Int.toNat v5) default).ID))) rfl rfl rfl rfl rfl rfl rfl rfl rfl (fun a w hk hc => FW.f_load1 hk hc rfl rfl Go.Proofs.Try.underlying29 rfl) ?_
              refine FW.dfunG (y := .lit (.bool (decide (((List.getD v1 (Int.toNat v5) default).ID) ≤ ((List.getD v0 (Int.toNat v8) default).ID))))) rfl rfl rfl rfl rfl rfl rfl rfl rfl (fun a w hk hc => (FW.f_pure (FW.p_geq hk.kn hc rfl rfl))) ?_
              refine FW.dfun (y := .lit (.bool ((!v7) && (decide (((List.getD v1 (Int.toNat v5) default).ID) ≤ ((List.getD v0 (Int.toNat v8) default).ID)))))) rfl rfl rfl rfl (fun a w hk => (FW.f_pure (FW.p_pick_and hk.kn (FW.holds_nil _) rfl rfl))) ?_
              refine FW.dend ?_; intro a w hk
              refine FW.wcondF (b := ((!v7) && (decide (((List.getD v1 (Int.toNat v5) default).ID) ≤ ((List.getD v0 (Int.toNat v8) default).ID))))) hk h rfl (fun h hb => ?_) (fun h hb => ?_)
              · skip
                obtain ⟨hc8, h⟩ := FW.chk h
                obtain ⟨hc9, h⟩ := FW.chk h
                obtain ⟨hc10, h⟩ := FW.chk h
                refine FW.wdrawE1 (.next [true, true, true, true, true, true, true, true, true, true, true, true, false, false, false, false] 12 [true, true, true, true, true, true, true, true, true, true, true, true, false, false, false, false] (.next [true, false, false, false, false, false, false, false, false, false, false, false, false, false, false, false] 13 [true, true, true, true, true, true, true, true, true, true, true, true, true, false, false, false] (.leaf [false, false, false, false, false, false, false, false, false, false, false, false, false, false, true, true]))) [(42, [], .lit (.slice xd1 (List.length l1) xc1)), (43, [], .row (r_ApiChange_cells v1)), (44, [], .lit (.int .i64 v5)), (45, [], .ref (ApiChange.cells (List.getD v1 (Int.toNat v5) default))), (46, [], .ref (List.drop 0 (ApiChange.cells (List.getD v1 (Int.toNat v5) default)))), (47, [], .lit (.int .u64 ((List.getD v1 (Int.toNat v5) default).ID))), (48, [], .row (r_ApiChange_cells v1)), (49, [], .lit (.int .i64 v5)), (50, [], .ref (ApiChange.cells (List.getD v1 (Int.toNat v5) default))), (51, [], .ref (List.drop 1 (ApiChange.cells (List.getD v1 (Int.toNat v5) default)))), (52, [], .lit (.string (FW.B ((List.getD v1 (Int.toNat v5) default).S)))), (53, [], .agg ((ApiBody.cells (⟨(List.getD v1 (Int.toNat v5) default).ID, (List.getD v1 (Int.toNat v5) default).S⟩ : ApiBody)))), (54, [], .agg []), (55, [], .agg []), (6, [], .agg []), (7, [], .agg [])] (by kernel_rfl) (by kernel_rfl) (by kernel_rfl) (by kernel_rfl) hk ?_; clear hk
                refine FW.gnext ?_ rfl rfl rfl rfl rfl ?_
                · skip
                  refine FW.gfun (y := .lit (.slice xd1 (List.length l1) xc1)) rfl rfl rfl rfl (fun a w hk => FW.f_move hk (FW.holds_nil _) rfl) ?_
                  refine FW.gfun (y := .row (r_ApiChange_cells v1)) rfl rfl rfl rfl (fun a w hk => FW.f_move hk (FW.holds_nil _) rfl) ?_
                  refine FW.gfun (y := .lit (.int .i64 v5)) rfl rfl rfl rfl (fun a w hk => FW.f_move hk (FW.holds_nil _) rfl) ?_
                  refine FW.gfun (y := .ref (ApiChange.cells (List.getD v1 (Int.toNat v5) default))) rfl rfl rfl rfl (fun a w hk => FW.f_indexAddr (R := r_ApiChange_cells) (f := ApiChange.cells) (l := v1) (sz := 3) r_ApiChange_cells_eq (fun _ => rfl) hk (FW.holds_nil _) rfl rfl Go.Proofs.Try.underlying22 (by kernel_rfl) hc8) ?_
                  refine FW.gfun (y := .ref (List.drop 0 (ApiChange.cells (List.getD v1 (Int.toNat v5) default)))) rfl rfl rfl rfl (fun a w hk => FW.f_fieldAddr hk (FW.holds_nil _) rfl Go.Proofs.Try.underlying31 rfl (by kernel_rfl) rfl) ?_
                  refine FW.gfun (y := .lit (.int .u64 ((List.getD v1 (Int.toNat v5) default).ID))) rfl rfl rfl rfl (fun a w hk => FW.f_load1 hk (FW.holds_nil _) rfl rfl Go.Proofs.Try.underlying29 rfl) ?_
                  refine FW.gfun (y := .row (r_ApiChange_cells v1)) rfl rfl rfl rfl (fun a w hk => FW.f_move hk (FW.holds_nil _) rfl) ?_
                  refine FW.gfun (y := .lit (.int .i64 v5)) rfl rfl rfl rfl (fun a w hk => FW.f_move hk (FW.holds_nil _) rfl) ?_
                  refine FW.gfun (y := .ref (ApiChange.cells (List.getD v1 (Int.toNat v5) default))) rfl rfl rfl rfl (fun a w hk => FW.f_indexAddr (R := r_ApiChange_cells) (f := ApiChange.cells) (l := v1) (sz := 3) r_ApiChange_cells_eq (fun _ => rfl) hk (FW.holds_nil _) rfl rfl Go.Proofs.Try.underlying22 (by kernel_rfl) hc9) ?_
                  refine FW.gfun (y := .ref (List.drop 1 (ApiChange.cells (List.getD v1 (Int.toNat v5) default)))) rfl rfl rfl rfl (fun a w hk => FW.f_fieldAddr hk (FW.holds_nil _) rfl Go.Proofs.Try.underlying31 rfl (by kernel_rfl) rfl) ?_
                  refine FW.gfun (y := .lit (.string (FW.B ((List.getD v1 (Int.toNat v5) default).S)))) rfl rfl rfl rfl (fun a w hk => FW.f_load1 hk (FW.holds_nil _) rfl rfl Go.Proofs.Try.underlying9 rfl) ?_
                  refine FW.gfun (y := .agg ((ApiBody.cells (⟨(List.getD v1 (Int.toNat v5) default).ID, (List.getD v1 (Int.toNat v5) default).S⟩ : ApiBody)))) rfl rfl rfl rfl (fun a w hk => FW.f_build hk (FW.holds_nil _) rfl rfl) ?_
                  refine FW.gskip rfl rfl ?_
                  refine FW.gskip rfl rfl ?_
                  refine FW.gskip rfl rfl ?_
                  refine FW.gskip rfl rfl ?_
                  exact FW.gend
                · skip
                  intro σD a w opsD QD hk hf hQ hX
                  refine FW.l_buildSlice (f := ApiBody.cells) (l := ([(⟨(List.getD v1 (Int.toNat v5) default).ID, (List.getD v1 (Int.toNat v5) default).S⟩ : ApiBody)] : List ApiBody)) hk rfl hf rfl Go.Proofs.Try.underlying23 rfl rfl rfl rfl (fun _ => rfl) rfl ?_; clear hk; intro bx3 a w hk
                  refine hQ _ _ a w ?_ hk; clear hk hQ hf hX
                  refine ⟨[(42, [], .lit (.slice xd1 (List.length l1) xc1)), (43, [], .row (r_ApiChange_cells v1)), (44, [], .lit (.int .i64 v5)), (45, [], .ref (ApiChange.cells (List.getD v1 (Int.toNat v5) default))), (46, [], .ref (List.drop 0 (ApiChange.cells (List.getD v1 (Int.toNat v5) default)))), (47, [], .lit (.int .u64 ((List.getD v1 (Int.toNat v5) default).ID))), (48, [], .row (r_ApiChange_cells v1)), (49, [], .lit (.int .i64 v5)), (50, [], .ref (ApiChange.cells (List.getD v1 (Int.toNat v5) default))), (51, [], .ref (List.drop 1 (ApiChange.cells (List.getD v1 (Int.toNat v5) default)))), (52, [], .lit (.string (FW.B ((List.getD v1 (Int.toNat v5) default).S)))), (53, [], .agg ((ApiBody.cells (⟨(List.getD v1 (Int.toNat v5) default).ID, (List.getD v1 (Int.toNat v5) default).S⟩ : ApiBody)))), (54, [], .lit (.slice (some ⟨bx3, 0, none⟩) (List.length ([(⟨(List.getD v1 (Int.toNat v5) default).ID, (List.getD v1 (Int.toNat v5) default).S⟩ : ApiBody)] : List ApiBody)) 1)), (55, [], .agg []), (6, [], .agg []), (7, [], .agg [])], And.intro rfl (And.intro rfl (And.intro rfl (And.intro rfl (And.intro rfl (And.intro rfl (And.intro rfl (And.intro rfl (And.intro rfl (And.intro rfl (And.intro rfl (And.intro rfl (trivial)))))))))))), rfl, ?_⟩
                  refine FW.gnext ?_ rfl rfl rfl rfl rfl ?_
                  · skip
                    refine FW.gfun (y := .lit (.slice xd1 (List.length l1) xc1)) rfl rfl rfl rfl (fun a w hk => FW.f_move hk (FW.holds_nil _) rfl) ?_
                    refine FW.gskip rfl rfl ?_
                    refine FW.gskip rfl rfl ?_
                    refine FW.gskip rfl rfl ?_
                    refine FW.gskip rfl rfl ?_
                    refine FW.gskip rfl rfl ?_
                    refine FW.gskip rfl rfl ?_
                    refine FW.gskip rfl rfl ?_
                    refine FW.gskip rfl rfl ?_
                    refine FW.gskip rfl rfl ?_
                    refine FW.gskip rfl rfl ?_
                    refine FW.gskip rfl rfl ?_
                    refine FW.gskip rfl rfl ?_
                    refine FW.gskip rfl rfl ?_
                    refine FW.gskip rfl rfl ?_
                    refine FW.gskip rfl rfl ?_
                    exact FW.gend
                  · skip
                    intro σD a w opsD QD hk hf hQ hX
                    refine FW.l_append (l2 := ([(⟨(List.getD v1 (Int.toNat v5) default).ID, (List.getD v1 (Int.toNat v5) default).S⟩ : ApiBody)] : List ApiBody)) (l3 := (l1 ++ ([(⟨(List.getD v1 (Int.toNat v5) default).ID, (List.getD v1 (Int.toNat v5) default).S⟩ : ApiBody)] : List ApiBody))) (I' := fun ad2 cap2 => [FW.orow (some ⟨bx3, 0, none⟩) 1 48 2 ApiBody.cells ([(⟨(List.getD v1 (Int.toNat v5) default).ID, (List.getD v1 (Int.toNat v5) default).S⟩ : ApiBody)] : List ApiBody), FW.orow ad2 cap2 48 2 ApiBody.cells (l1 ++ ([(⟨(List.getD v1 (Int.toNat v5) default).ID, (List.getD v1 (Int.toNat v5) default).S⟩ : ApiBody)] : List ApiBody))]) (j := 1) hk rfl rfl hf rfl (FW.own_src hk (j := 0) rfl rfl (fun _ => rfl) Go.Proofs.Try.underlying23) Go.Proofs.Try.underlying23 (by kernel_rfl) hc10 rfl (fun _ _ => rfl) ?_; clear hk; intro ad2 cap2 a w hk
                    replace hk := FW.S.dropI (I' := [FW.orow ad2 cap2 48 2 ApiBody.cells (l1 ++ ([(⟨(List.getD v1 (Int.toNat v5) default).ID, (List.getD v1 (Int.toNat v5) default).S⟩ : ApiBody)] : List ApiBody))]) hk 0 rfl
                    refine hQ _ _ a w ?_ hk; clear hk hQ hf hX
                    refine ⟨[(42, [], .lit (.slice xd1 (List.length l1) xc1)), (43, [], .row (r_ApiChange_cells v1)), (44, [], .lit (.int .i64 v5)), (45, [], .ref (ApiChange.cells (List.getD v1 (Int.toNat v5) default))), (46, [], .ref (List.drop 0 (ApiChange.cells (List.getD v1 (Int.toNat v5) default)))), (47, [], .lit (.int .u64 ((List.getD v1 (Int.toNat v5) default).ID))), (48, [], .row (r_ApiChange_cells v1)), (49, [], .lit (.int .i64 v5)), (50, [], .ref (ApiChange.cells (List.getD v1 (Int.toNat v5) default))), (51, [], .ref (List.drop 1 (ApiChange.cells (List.getD v1 (Int.toNat v5) default)))), (52, [], .lit (.string (FW.B ((List.getD v1 (Int.toNat v5) default).S)))), (53, [], .agg ((ApiBody.cells (⟨(List.getD v1 (Int.toNat v5) default).ID, (List.getD v1 (Int.toNat v5) default).S⟩ : ApiBody)))), (54, [], .lit (.slice (some ⟨bx3, 0, none⟩) (List.length ([(⟨(List.getD v1 (Int.toNat v5) default).ID, (List.getD v1 (Int.toNat v5) default).S⟩ : ApiBody)] : List ApiBody)) 1)), (55, [], .lit (.slice ad2 (List.length (l1 ++ ([(⟨(List.getD v1 (Int.toNat v5) default).ID, (List.getD v1 (Int.toNat v5) default).S⟩ : ApiBody)] : List ApiBody))) cap2)), (6, [], .lit (.slice ad2 (List.length (l1 ++ ([(⟨(List.getD v1 (Int.toNat v5) default).ID, (List.getD v1 (Int.toNat v5) default).S⟩ : ApiBody)] : List ApiBody))) cap2)), (7, [], .lit (.bool true))], And.intro rfl (And.intro rfl (And.intro rfl (And.intro rfl (And.intro rfl (And.intro rfl (And.intro rfl (And.intro rfl (And.intro rfl (And.intro rfl (And.intro rfl (And.intro rfl (And.intro rfl (trivial))))))))))))), rfl, ?_⟩
                    refine FW.glast ?_ ?_
                    · skip
                      refine FW.gskip rfl rfl ?_
                      refine FW.gskip rfl rfl ?_
                      refine FW.gskip rfl rfl ?_
                      refine FW.gskip rfl rfl ?_
                      refine FW.gskip rfl rfl ?_
                      refine FW.gskip rfl rfl ?_
                      refine FW.gskip rfl rfl ?_
                      refine FW.gskip rfl rfl ?_
                      refine FW.gskip rfl rfl ?_
                      refine FW.gskip rfl rfl ?_
                      refine FW.gskip rfl rfl ?_
                      refine FW.gskip rfl rfl ?_
                      refine FW.gskip rfl rfl ?_
                      refine FW.gskip rfl rfl ?_
                      refine FW.gfun (y := .lit (.slice ad2 (List.length (l1 ++ ([(⟨(List.getD v1 (Int.toNat v5) default).ID, (List.getD v1 (Int.toNat v5) default).S⟩ : ApiBody)] : List ApiBody))) cap2)) rfl rfl rfl rfl (fun a w hk => FW.f_assign hk (FW.holds_nil _) rfl) ?_
                      refine FW.gfun (y := .lit (.bool true)) rfl rfl rfl rfl (fun a w hk => FW.f_assign hk (FW.holds_nil _) rfl) ?_
                      exact FW.gend
                    · skip
                      intro a w hk; simp only [FW.stD, cond_true] at hk
                      (repeat first | refine FW.then_normal ?_ | refine FW.block_normal ?_); exact hK16 _ _ ⟨(l1 ++ ([(⟨(List.getD v1 (Int.toNat v5) default).ID, (List.getD v1 (Int.toNat v5) default).S⟩ : ApiBody)] : List ApiBody)), v0, v1, v5, true, v8, ad2, cap2, hk.sub ⟨rfl, rfl, rfl, rfl, rfl, rfl, trivial⟩, h⟩
              refine wp_skip ?_
              (repeat first | refine FW.then_normal ?_ | refine FW.block_normal ?_); exact hK16 _ _ ⟨l1, v0, v1, v5, v7, v8, xd1, xc1, hk.sub ⟨rfl, rfl, rfl, rfl, rfl, rfl, trivial⟩, h⟩
        refine wp_exit ?_; (repeat first | refine FW.then_exit ?_ | refine FW.block_exit_ne rfl ?_); refine FW.block_exit ?_
        (repeat first | refine FW.then_normal ?_ | refine FW.block_normal ?_); refine hK9 _ _ ?_
        refine FW.wseqJ (fun a w => ∃ (l1 : List ApiBody) (v1 : List ApiChange) (v5 : Int) (xd1 : Option Addr) (xc1 : Nat), FW.S M w0 a w 92 [FW.orow xd1 xc1 48 2 ApiBody.cells l1] [(1, [], .row (r_ApiChange_cells v1)), (5, [], .lit (.int .i64 v5)), (6, [], .lit (.slice xd1 (List.length l1) xc1))] ∧ offshootref06_Do.j3 (offshootref06_Do.l1 K kl1) (offshootref06_Do.l2 (offshootref06_Do.l1 K kl1) K kl2) K l1 v1 v5 = some r) ?_ ?_
        · clear hk h
          rintro a w ⟨l1, v1, v5, xd1, xc1, hk, h⟩
          unfold offshootref06_Do.j3 at h
          refine FW.wreg1 ?_
          refine FW.lfun (y := .lit (.slice xd1 (List.length l1) xc1)) hk rfl rfl rfl rfl (FW.f_move hk (FW.holds_nil _) rfl) ?_; clear hk; intro a w hk
          replace hk := FW.S.freezeR (I' := []) r_ApiBody_cells_eq hk (j := 0) rfl (t := 90) rfl rfl
          refine FW.lfun (y := .row (r_ApiBody_cells l1)) hk rfl rfl rfl rfl (FW.f_assign hk (FW.holds_nil _) rfl) ?_; clear hk; intro a w hk
          refine wpList_nil ?_
          (repeat first | refine FW.then_normal ?_ | refine FW.block_normal ?_); refine hK7 _ _ ?_
          refine FW.wreg1 ?_
          refine FW.lfun (y := .lit (.int .i64 v5)) hk rfl rfl rfl rfl (FW.f_move hk (FW.holds_nil _) rfl) ?_; clear hk; intro a w hk
          refine FW.lfun (y := .lit (.int .i64 (IntKind.wrap .i64 (v5 + 1)))) hk rfl rfl rfl rfl ((FW.f_pure (FW.p_add hk.kn (FW.holds_nil _) rfl rfl))) ?_; clear hk; intro a w hk
          refine FW.lfun (y := .lit (.int .i64 (IntKind.wrap .i64 (v5 + 1)))) hk rfl rfl rfl rfl (FW.f_assign hk (FW.holds_nil _) rfl) ?_; clear hk; intro a w hk
          refine wpList_nil ?_
          (repeat first | refine FW.then_normal ?_ | refine FW.block_normal ?_); exact hK4 (kl1, l1, v1, (IntKind.wrap .i64 (v5 + 1))) _ _ (Nat.lt_succ_self _) ⟨hk.sub ⟨rfl, rfl, rfl, trivial⟩, h⟩
        · intro K' hK21
          refine FW.wreg ?_; intro K' hK24
          refine FW.lfun (y := .lit (.bool v7)) hk rfl rfl rfl rfl (FW.f_move hk (FW.holds_nil _) rfl) ?_; clear hk; intro a w hk
          refine FW.lfun (y := .lit (.bool (!v7))) hk rfl rfl rfl rfl ((FW.f_pure (FW.p_not hk.kn (FW.holds_nil _) rfl))) ?_; clear hk; intro a w hk
          refine FW.lend (hK24 _ _ ?_); clear hK24 K'
          refine FW.wcondF (b := (!v7)) hk h rfl (fun h hb => ?_) (fun h hb => ?_)
          · skip
            obtain ⟨hc11, h⟩ := FW.chk h
            obtain ⟨hc12, h⟩ := FW.chk h
            obtain ⟨hc13, h⟩ := FW.chk h
            refine FW.wdrawE1 (.next [true, true, true, true, true, true, true, true, true, true, true, true, false, false, false] 12 [true, true, true, true, true, true, true, true, true, true, true, true, false, false, false] (.next [true, false, false, false, false, false, false, false, false, false, false, false, false, false, false] 13 [true, true, true, true, true, true, true, true, true, true, true, true, true, false, false] (.leaf [false, false, false, false, false, false, false, false, false, false, false, false, false, false, true]))) [(76, [], .lit (.slice xd1 (List.length l1) xc1)), (77, [], .row (r_ApiChange_cells v1)), (78, [], .lit (.int .i64 v5)), (79, [], .ref (ApiChange.cells (List.getD v1 (Int.toNat v5) default))), (80, [], .ref (List.drop 0 (ApiChange.cells (List.getD v1 (Int.toNat v5) default)))), (81, [], .lit (.int .u64 ((List.getD v1 (Int.toNat v5) default).ID))), (82, [], .row (r_ApiChange_cells v1)), (83, [], .lit (.int .i64 v5)), (84, [], .ref (ApiChange.cells (List.getD v1 (Int.toNat v5) default))), (85, [], .ref (List.drop 1 (ApiChange.cells (List.getD v1 (Int.toNat v5) default)))), (86, [], .lit (.string (FW.B ((List.getD v1 (Int.toNat v5) default).S)))), (87, [], .agg ((ApiBody.cells (⟨(List.getD v1 (Int.toNat v5) default).ID, (List.getD v1 (Int.toNat v5) default).S⟩ : ApiBody)))), (88, [], .agg []), (89, [], .agg []), (6, [], .agg [])] (by kernel_rfl) (by kernel_rfl) (by kernel_rfl) (by kernel_rfl) hk ?_; clear hk
            refine FW.gnext ?_ rfl rfl rfl rfl rfl ?_
            · skip
              refine FW.gfun (y := .lit (.slice xd1 (List.length l1) xc1)) rfl rfl rfl rfl (fun a w hk => FW.f_move hk (FW.holds_nil _) rfl) ?_
              refine FW.gfun (y := .row (r_ApiChange_cells v1)) rfl rfl rfl rfl (fun a w hk => FW.f_move hk (FW.holds_nil _) rfl) ?_
              refine FW.gfun (y := .lit (.int .i64 v5)) rfl rfl rfl rfl (fun a w hk => FW.f_move hk (FW.holds_nil _) rfl) ?_
              refine FW.gfun (y := .ref (ApiChange.cells (List.getD v1 (Int.toNat v5) default))) rfl rfl rfl rfl (fun a w hk => FW.f_indexAddr (R := r_ApiChange_cells) (f := ApiChange.cells) (l := v1) (sz := 3) r_ApiChange_cells_eq (fun _ => rfl) hk (FW.holds_nil _) rfl rfl Go.Proofs.Try.underlying22 (by kernel_rfl) hc11) ?_
              refine FW.gfun (y := .ref (List.drop 0 (ApiChange.cells (List.getD v1 (Int.toNat v5) default)))) rfl rfl rfl rfl (fun a w hk => FW.f_fieldAddr hk (FW.holds_nil _) rfl Go.Proofs.Try.underlying31 rfl (by kernel_rfl) rfl) ?_
              refine FW.gfun (y := .lit (.int .u64 ((List.getD v1 (Int.toNat v5) default).ID))) rfl rfl rfl rfl (fun a w hk => FW.f_load1 hk (FW.holds_nil _) rfl rfl Go.Proofs.Try.underlying29 rfl) ?_
              refine FW.gfun (y := .row (r_ApiChange_cells v1)) rfl rfl rfl rfl (fun a w hk => FW.f_move hk (FW.holds_nil _) rfl) ?_
              refine FW.gfun (y := .lit (.int .i64 v5)) rfl rfl rfl rfl (fun a w hk => FW.f_move hk (FW.holds_nil _) rfl) ?_
              refine FW.gfun (y := .ref (ApiChange.cells (List.getD v1 (Int.toNat v5) default))) rfl rfl rfl rfl (fun a w hk => FW.f_indexAddr (R := r_ApiChange_cells) (f := ApiChange.cells) (l := v1) (sz := 3) r_ApiChange_cells_eq (fun _ => rfl) hk (FW.holds_nil _) rfl rfl Go.Proofs.Try.underlying22 (by kernel_rfl) hc12) ?_
              refine FW.gfun (y := .ref (List.drop 1 (ApiChange.cells (List.getD v1 (Int.toNat v5) default)))) rfl rfl rfl rfl (fun a w hk => FW.f_fieldAddr hk (FW.holds_nil _) rfl Go.Proofs.Try.underlying31 rfl (by kernel_rfl) rfl) ?_
              refine FW.gfun (y := .lit (.string (FW.B ((List.getD v1 (Int.toNat v5) default).S)))) rfl rfl rfl rfl (fun a w hk => FW.f_load1 hk (FW.holds_nil _) rfl rfl Go.Proofs.Try.underlying9 rfl) ?_
              refine FW.gfun (y := .agg ((ApiBody.cells (⟨(List.getD v1 (Int.toNat v5) default).ID, (List.getD v1 (Int.toNat v5) default).S⟩ : ApiBody)))) rfl rfl rfl rfl (fun a w hk => FW.f_build hk (FW.holds_nil _) rfl rfl) ?_
              refine FW.gskip rfl rfl ?_
              refine FW.gskip rfl rfl ?_
              refine FW.gskip rfl rfl ?_
              exact FW.gend
            · skip
              intro σD a w opsD QD hk hf hQ hX
              refine FW.l_buildSlice (f := ApiBody.cells) (l := ([(⟨(List.getD v1 (Int.toNat v5) default).ID, (List.getD v1 (Int.toNat v5) default).S⟩ : ApiBody)] : List ApiBody)) hk rfl hf rfl Go.Proofs.Try.underlying23 rfl rfl rfl rfl (fun _ => rfl) rfl ?_; clear hk; intro bx4 a w hk
              refine hQ _ _ a w ?_ hk; clear hk hQ hf hX
              refine ⟨[(76, [], .lit (.slice xd1 (List.length l1) xc1)), (77, [], .row (r_ApiChange_cells v1)), (78, [], .lit (.int .i64 v5)), (79, [], .ref (ApiChange.cells (List.getD v1 (Int.toNat v5) default))), (80, [], .ref (List.drop 0 (ApiChange.cells (List.getD v1 (Int.toNat v5) default)))), (81, [], .lit (.int .u64 ((List.getD v1 (Int.toNat v5) default).ID))), (82, [], .row (r_ApiChange_cells v1)), (83, [], .lit (.int .i64 v5)), (84, [], .ref (ApiChange.cells (List.getD v1 (Int.toNat v5) default))), (85, [], .ref (List.drop 1 (ApiChange.cells (List.getD v1 (Int.toNat v5) default)))), (86, [], .lit (.string (FW.B ((List.getD v1 (Int.toNat v5) default).S)))), (87, [], .agg ((ApiBody.cells (⟨(List.getD v1 (Int.toNat v5) default).ID, (List.getD v1 (Int.toNat v5) default).S⟩ : ApiBody)))), (88, [], .lit (.slice (some ⟨bx4, 0, none⟩) (List.length ([(⟨(List.getD v1 (Int.toNat v5) default).ID, (List.getD v1 (Int.toNat v5) default).S⟩ : ApiBody)] : List ApiBody)) 1)), (89, [], .agg []), (6, [], .agg [])], And.intro rfl (And.intro rfl (And.intro rfl (And.intro rfl (And.intro rfl (And.intro rfl (And.intro rfl (And.intro rfl (And.intro rfl (And.intro rfl (And.intro rfl (And.intro rfl (trivial)))))))))))), rfl, ?_⟩
              refine FW.gnext ?_ rfl rfl rfl rfl rfl ?_
              · skip
                refine FW.gfun (y := .lit (.slice xd1 (List.length l1) xc1)) rfl rfl rfl rfl (fun a w hk => FW.f_move hk (FW.holds_nil _) rfl) ?_
                refine FW.gskip rfl rfl ?_
                refine FW.gskip rfl rfl ?_
                refine FW.gskip rfl rfl ?_
                refine FW.gskip rfl rfl ?_
                refine FW.gskip rfl rfl ?_
                refine FW.gskip rfl rfl ?_
                refine FW.gskip rfl rfl ?_
                refine FW.gskip rfl rfl ?_
                refine FW.gskip rfl rfl ?_
                refine FW.gskip rfl rfl ?_
                refine FW.gskip rfl rfl ?_
                refine FW.gskip rfl rfl ?_
                refine FW.gskip rfl rfl ?_
                refine FW.gskip rfl rfl ?_
                exact FW.gend
              · skip
                intro σD a w opsD QD hk hf hQ hX
                refine FW.l_append (l2 := ([(⟨(List.getD v1 (Int.toNat v5) default).ID, (List.getD v1 (Int.toNat v5) default).S⟩ : ApiBody)] : List ApiBody)) (l3 := (l1 ++ ([(⟨(List.getD v1 (Int.toNat v5) default).ID, (List.getD v1 (Int.toNat v5) default).S⟩ : ApiBody)] : List ApiBody))) (I' := fun ad3 cap3 => [FW.orow (some ⟨bx4, 0, none⟩) 1 48 2 ApiBody.cells ([(⟨(List.getD v1 (Int.toNat v5) default).ID, (List.getD v1 (Int.toNat v5) default).S⟩ : ApiBody)] : List ApiBody), FW.orow ad3 cap3 48 2 ApiBody.cells (l1 ++ ([(⟨(List.getD v1 (Int.toNat v5) default).ID, (List.getD v1 (Int.toNat v5) default).S⟩ : ApiBody)] : List ApiBody))]) (j := 1) hk rfl rfl hf rfl (FW.own_src hk (j := 0) rfl rfl (fun _ => rfl) Go.Proofs.Try.underlying23) Go.Proofs.Try.underlying23 (by kernel_rfl) hc13 rfl (fun _ _ => rfl) ?_; clear hk; intro ad3 cap3 a w hk
                replace hk := FW.S.dropI (I' := [FW.orow ad3 cap3 48 2 ApiBody.cells (l1 ++ ([(⟨(List.getD v1 (Int.toNat v5) default).ID, (List.getD v1 (Int.toNat v5) default).S⟩ : ApiBody)] : List ApiBody))]) hk 0 rfl
                refine hQ _ _ a w ?_ hk; clear hk hQ hf hX
                refine ⟨[(76, [], .lit (.slice xd1 (List.length l1) xc1)), (77, [], .row (r_ApiChange_cells v1)), (78, [], .lit (.int .i64 v5)), (79, [], .ref (ApiChange.cells (List.getD v1 (Int.toNat v5) default))), (80, [], .ref (List.drop 0 (ApiChange.cells (List.getD v1 (Int.toNat v5) default)))), (81, [], .lit (.int .u64 ((List.getD v1 (Int.toNat v5) default).ID))), (82, [], .row (r_ApiChange_cells v1)), (83, [], .lit (.int .i64 v5)), (84, [], .ref (ApiChange.cells (List.getD v1 (Int.toNat v5) default))), (85, [], .ref (List.drop 1 (ApiChange.cells (List.getD v1 (Int.toNat v5) default)))), (86, [], .lit (.string (FW.B ((List.getD v1 (Int.toNat v5) default).S)))), (87, [], .agg ((ApiBody.cells (⟨(List.getD v1 (Int.toNat v5) default).ID, (List.getD v1 (Int.toNat v5) default).S⟩ : ApiBody)))), (88, [], .lit (.slice (some ⟨bx4, 0, none⟩) (List.length ([(⟨(List.getD v1 (Int.toNat v5) default).ID, (List.getD v1 (Int.toNat v5) default).S⟩ : ApiBody)] : List ApiBody)) 1)), (89, [], .lit (.slice ad3 (List.length (l1 ++ ([(⟨(List.getD v1 (Int.toNat v5) default).ID, (List.getD v1 (Int.toNat v5) default).S⟩ : ApiBody)] : List ApiBody))) cap3)), (6, [], .lit (.slice ad3 (List.length (l1 ++ ([(⟨(List.getD v1 (Int.toNat v5) default).ID, (List.getD v1 (Int.toNat v5) default).S⟩ : ApiBody)] : List ApiBody))) cap3))], And.intro rfl (And.intro rfl (And.intro rfl (And.intro rfl (And.intro rfl (And.intro rfl (And.intro rfl (And.intro rfl (And.intro rfl (And.intro rfl (And.intro rfl (And.intro rfl (And.intro rfl (trivial))))))))))))), rfl, ?_⟩
                refine FW.glast ?_ ?_
                · skip
                  refine FW.gskip rfl rfl ?_
                  refine FW.gskip rfl rfl ?_
                  refine FW.gskip rfl rfl ?_
                  refine FW.gskip rfl rfl ?_
                  refine FW.gskip rfl rfl ?_
                  refine FW.gskip rfl rfl ?_
                  refine FW.gskip rfl rfl ?_
                  refine FW.gskip rfl rfl ?_
                  refine FW.gskip rfl rfl ?_
                  refine FW.gskip rfl rfl ?_
                  refine FW.gskip rfl rfl ?_
                  refine FW.gskip rfl rfl ?_
                  refine FW.gskip rfl rfl ?_
                  refine FW.gskip rfl rfl ?_
                  refine FW.gfun (y := .lit (.slice ad3 (List.length (l1 ++ ([(⟨(List.getD v1 (Int.toNat v5) default).ID, (List.getD v1 (Int.toNat v5) default).S⟩ : ApiBody)] : List ApiBody))) cap3)) rfl rfl rfl rfl (fun a w hk => FW.f_assign hk (FW.holds_nil _) rfl) ?_
                  exact FW.gend
                · skip
                  intro a w hk; simp only [FW.stD, cond_true] at hk
                  (repeat first | refine FW.then_normal ?_ | refine FW.block_normal ?_); exact hK21 _ _ ⟨(l1 ++ ([(⟨(List.getD v1 (Int.toNat v5) default).ID, (List.getD v1 (Int.toNat v5) default).S⟩ : ApiBody)] : List ApiBody)), v1, v5, ad3, cap3, hk.sub ⟨rfl, rfl, rfl, trivial⟩, h⟩
          refine wp_skip ?_
          (repeat first | refine FW.then_normal ?_ | refine FW.block_normal ?_); exact hK21 _ _ ⟨l1, v1, v5, xd1, xc1, hk.sub ⟨rfl, rfl, rfl, trivial⟩, h⟩
  refine wp_exit ?_; (repeat first | refine FW.then_exit ?_ | refine FW.block_exit_ne rfl ?_); refine FW.block_exit ?_
  (repeat first | refine FW.then_normal ?_ | refine FW.block_normal ?_); refine hK2 _ _ ?_
  refine FW.wreg ?_; intro K' hK26
  refine FW.lfun (y := .row (r_ApiBody_cells v0)) hk rfl rfl rfl rfl (FW.f_move hk (FW.holds_nil _) rfl) ?_; clear hk; intro a w hk
  refine FW.lfun (y := .row (r_ApiBody_cells v0)) hk rfl rfl rfl rfl (FW.f_assign hk (FW.holds_nil _) rfl) ?_; clear hk; intro a w hk
  refine FW.lend (hK26 _ _ ?_); clear hK26 K'
  refine wp_ret ?_
  (repeat first | refine FW.then_ret ?_ | refine FW.block_ret ?_)
  obtain rfl := Option.some.inj h
  exact FW.fret1 hk rfl rfl

theorem offshootlaw09_base.ok (K : Nat) (v0 : List ApiChange) (r : List ApiBody) (h : offshootlaw09_base.f K v0 = some r) :
    FW.Ok Go.Proofs.Try.prog 5 [.row (r_ApiChange_cells v0)] (.row (r_ApiBody_cells r)) := by
  refine FW.enter (xs := [.row (r_ApiChange_cells v0)]) Go.Proofs.Try.func5 rfl Go.Proofs.Try.ntmps5 rfl ?_
  intro M w0 a hk
  unfold offshootlaw09_base.f at h
  refine FW.wreg ?_; intro K' hK1
  refine FW.lfun (y := .row (r_ApiBody_cells [])) hk rfl rfl rfl rfl (FW.f_assignNil) ?_; clear hk; intro a w hk
  refine FW.lend (hK1 _ _ ?_); clear hK1 K'
  refine FW.wreg ?_; intro K' hK2
  refine FW.l_buildSlice0 (f := ApiChange.cells) hk rfl rfl Go.Proofs.Try.underlying22 rfl (fun _ => rfl) ?_; clear hk; intro bx1 a w hk
  refine FW.lfun (y := .lit (.slice (some ⟨bx1, 0, none⟩) (List.length ([] : List ApiChange)) 0)) hk rfl rfl rfl rfl (FW.f_assign hk (FW.holds_nil _) rfl) ?_; clear hk; intro a w hk
  refine FW.lend (hK2 _ _ ?_); clear hK2 K'
  refine FW.wseq ?_; intro K' hK3
  refine FW.wreg ?_; intro K' hK4
  refine FW.lfun (y := .lit (.int .i64 0)) hk rfl rfl rfl rfl (FW.f_assign hk (FW.holds_nil _) rfl) ?_; clear hk; intro a w hk
  refine FW.lend (hK4 _ _ ?_); clear hK4 K'
  refine wp_block ?_
  refine FW.wloop (T := Nat × List ApiChange × List ApiChange × Int × Option Addr × Nat) (fun x a w => match x with | (kl1, l1, v0, v4, xd1, xc1) => FW.S M w0 a w 39 [FW.orow xd1 xc1 31 3 ApiChange.cells l1] [(0, [], .row (r_ApiChange_cells v0)), (3, [], .lit (.slice xd1 (List.length l1) xc1)), (4, [], .lit (.int .i64 v4))] ∧ offshootlaw09_base.l1 K kl1 l1 v0 v4 = some r) (fun x => x.1) (K, ([] : List ApiChange), v0, 0, (some ⟨bx1, 0, none⟩), 0) ⟨hk.sub ⟨rfl, rfl, rfl, trivial⟩, h⟩ ?_
  clear hk h
  rintro ⟨kl1, l1, v0, v4, xd1, xc1⟩ a w ⟨hk, h⟩ K' hK5
  cases kl1 with
  | zero => simp [offshootlaw09_base.l1] at h
  | succ kl1 =>
  rw [offshootlaw09_base.l1.eq_2] at h
  refine FW.wseq ?_; intro K' hK6
  refine FW.wreg ?_; intro K' hK7
  refine FW.lfun (y := .lit (.int .i64 v4)) hk rfl rfl rfl rfl (FW.f_move hk (FW.holds_nil _) rfl) ?_; clear hk; intro a w hk
  refine FW.lfun (y := .row (r_ApiChange_cells v0)) hk rfl rfl rfl rfl (FW.f_move hk (FW.holds_nil _) rfl) ?_; clear hk; intro a w hk
  refine FW.lfun (y := .lit (.int .i64 (List.length v0 : Int))) hk rfl rfl rfl rfl (FW.f_len (R := r_ApiChange_cells) (f := ApiChange.cells) (l := v0) r_ApiChange_cells_eq Go.Proofs.Try.underlying22 hk (FW.holds_nil _) rfl) ?_; clear hk; intro a w hk
  refine FW.lfun (y := .lit (.bool (decide (v4 < (List.length v0 : Int))))) hk rfl rfl rfl rfl ((FW.f_pure (FW.p_lss hk.kn (FW.holds_nil _) rfl rfl))) ?_; clear hk; intro a w hk
  refine FW.lfun (y := .lit (.bool (decide (v4 < (List.length v0 : Int))))) hk rfl rfl rfl rfl (FW.f_move hk (FW.holds_nil _) rfl) ?_; clear hk; intro a w hk
  refine FW.lfunG (y := .lit (.int .i64 v4)) hk rfl rfl rfl rfl rfl rfl rfl rfl (fun hc => FW.f_move hk hc rfl) ?_; clear hk; intro a w hk
  refine FW.lfunG (y := .lit (.bool (decide (v4 < 12)))) hk rfl rfl rfl rfl rfl rfl rfl rfl (fun hc => (FW.f_pure (FW.p_lss hk.kn hc rfl rfl))) ?_; clear hk; intro a w hk
  refine FW.lfun (y := .lit (.bool ((decide (v4 < (List.length v0 : Int))) && (decide (v4 < 12))))) hk rfl rfl rfl rfl ((FW.f_pure (FW.p_pick_and hk.kn (FW.holds_nil _) rfl rfl))) ?_; clear hk; intro a w hk
  refine FW.lend (hK7 _ _ ?_); clear hK7 K'
  refine FW.wcondF (b := ((decide (v4 < (List.length v0 : Int))) && (decide (v4 < 12)))) hk h rfl (fun h hb => ?_) (fun h hb => ?_)
  · skip
    refine wp_skip ?_
    (repeat first | refine FW.then_normal ?_ | refine FW.block_normal ?_); refine hK6 _ _ ?_
    refine FW.wseqJ (fun a w => ∃ (l1 : List ApiChange) (v0 : List ApiChange) (v4 : Int) (xd1 : Option Addr) (xc1 : Nat), FW.S M w0 a w 39 [FW.orow xd1 xc1 31 3 ApiChange.cells l1] [(0, [], .row (r_ApiChange_cells v0)), (3, [], .lit (.slice xd1 (List.length l1) xc1)), (4, [], .lit (.int .i64 v4))] ∧ offshootlaw09_base.j1 (offshootlaw09_base.l1 K kl1) K l1 v0 v4 = some r) ?_ ?_
    · clear hk h
      rintro a w ⟨l1, v0, v4, xd1, xc1, hk, h⟩
      unfold offshootlaw09_base.j1 at h
      refine FW.wreg1 ?_
      refine FW.lfun (y := .lit (.int .i64 v4)) hk rfl rfl rfl rfl (FW.f_move hk (FW.holds_nil _) rfl) ?_; clear hk; intro a w hk
      refine FW.lfun (y := .lit (.int .i64 (IntKind.wrap .i64 (v4 + 1)))) hk rfl rfl rfl rfl ((FW.f_pure (FW.p_add hk.kn (FW.holds_nil _) rfl rfl))) ?_; clear hk; intro a w hk
      refine FW.lfun (y := .lit (.int .i64 (IntKind.wrap .i64 (v4 + 1)))) hk rfl rfl rfl rfl (FW.f_assign hk (FW.holds_nil _) rfl) ?_; clear hk; intro a w hk
      refine wpList_nil ?_
      (repeat first | refine FW.then_normal ?_ | refine FW.block_normal ?_); exact hK5 (kl1, l1, v0, (IntKind.wrap .i64 (v4 + 1)), xd1, xc1) _ _ (Nat.lt_succ_self _) ⟨hk.sub ⟨rfl, rfl, rfl, trivial⟩, h⟩
    · intro K' hK8
      refine wp_block ?_
      refine FW.wreg ?_; intro K' hK10
      refine FW.lfun (y := .row (r_ApiChange_cells v0)) hk rfl rfl rfl rfl (FW.f_move hk (FW.holds_nil _) rfl) ?_; clear hk; intro a w hk
      refine FW.lfun (y := .lit (.int .i64 v4)) hk rfl rfl rfl rfl (FW.f_move hk (FW.holds_nil _) rfl) ?_; clear hk; intro a w hk
      obtain ⟨hc1, h⟩ := FW.chk h
      refine FW.lfun (y := .ref (ApiChange.cells (List.getD v0 (Int.toNat v4) default))) hk rfl rfl rfl rfl (FW.f_indexAddr (R := r_ApiChange_cells) (f := ApiChange.cells) (l := v0) (sz := 3) r_ApiChange_cells_eq (fun _ => rfl) hk (FW.holds_nil _) rfl rfl Go.Proofs.Try.underlying22 (by kernel_rfl) hc1) ?_; clear hk; intro a w hk
      refine FW.lfun (y := .ref (List.drop 2 (ApiChange.cells (List.getD v0 (Int.toNat v4) default)))) hk rfl rfl rfl rfl (FW.f_fieldAddr hk (FW.holds_nil _) rfl Go.Proofs.Try.underlying31 rfl (by kernel_rfl) rfl) ?_; clear hk; intro a w hk
      refine FW.lfun (y := .lit (.bool ((List.getD v0 (Int.toNat v4) default).Gone))) hk rfl rfl rfl rfl (FW.f_load1 hk (FW.holds_nil _) rfl rfl Go.Proofs.Try.underlying4 rfl) ?_; clear hk; intro a w hk
      refine FW.lfun (y := .lit (.bool (!((List.getD v0 (Int.toNat v4) default).Gone)))) hk rfl rfl rfl rfl ((FW.f_pure (FW.p_not hk.kn (FW.holds_nil _) rfl))) ?_; clear hk; intro a w hk
      refine FW.lfun (y := .lit (.bool (!((List.getD v0 (Int.toNat v4) default).Gone)))) hk rfl rfl rfl rfl (FW.f_move hk (FW.holds_nil _) rfl) ?_; clear hk; intro a w hk
      refine FW.lfunG (y := .row (r_ApiChange_cells v0)) hk rfl rfl rfl rfl rfl rfl rfl rfl (fun hc => FW.f_move hk hc rfl) ?_; clear hk; intro a w hk
      refine FW.lfunG (y := .lit (.int .i64 v4)) hk rfl rfl rfl rfl rfl rfl rfl rfl (fun hc => FW.f_move hk hc rfl) ?_; clear hk; intro a w hk
      obtain ⟨hc2, h⟩ := FW.chk h
      refine FW.lfunG (y := .ref (ApiChange.cells (List.getD v0 (Int.toNat v4) default))) hk rfl rfl rfl rfl rfl rfl rfl rfl (fun hc => FW.f_indexAddr (R := r_ApiChange_cells) (f := ApiChange.cells) (l := v0) (sz := 3) r_ApiChange_cells_eq (fun _ => rfl) hk hc rfl rfl Go.Proofs.Try.underlying22 (by kernel_rfl) hc2) ?_; clear hk; intro a w hk
      refine FW.lfunG (y := .ref (List.drop 0 (ApiChange.cells (List.getD v0 (Int.toNat v4) default)))) hk rfl rfl rfl rfl rfl rfl rfl rfl (fun hc => FW.f_fieldAddr hk hc rfl Go.Proofs.Try.underlying31 rfl (by kernel_rfl) rfl) ?_; clear hk; intro a w hk
      refine FW.lfunG (y := .lit (.int .u64 ((List.getD v0 (Int.toNat v4) default).ID))) hk rfl rfl rfl rfl rfl rfl rfl rfl (fun hc => FW.f_load1 hk hc rfl rfl Go.Proofs.Try.underlying29 rfl) ?_; clear hk; intro a w hk
      refine FW.lfunG (y := .lit (.bool (decide (((List.getD v0 (Int.toNat v4) default).ID) < 8)))) hk rfl rfl rfl rfl rfl rfl rfl rfl (fun hc => (FW.f_pure (FW.p_lss hk.kn hc rfl rfl))) ?_; clear hk; intro a w hk
      refine FW.lfun (y := .lit (.bool ((!((List.getD v0 (Int.toNat v4) default).Gone)) && (decide (((List.getD v0 (Int.toNat v4) default).ID) < 8))))) hk rfl rfl rfl rfl ((FW.f_pure (FW.p_pick_and hk.kn (FW.holds_nil _) rfl rfl))) ?_; clear hk; intro a w hk
      refine FW.lend (hK10 _ _ ?_); clear hK10 K'
      refine FW.wcondF (b := ((!((List.getD v0 (Int.toNat v4) default).Gone)) && (decide (((List.getD v0 (Int.toNat v4) default).ID) < 8)))) hk h rfl (fun h hb => ?_) (fun h hb => ?_)
      · skip
        refine FW.wreg1 ?_
        refine FW.lfun (y := .lit (.slice xd1 (List.length l1) xc1)) hk rfl rfl rfl rfl (FW.f_move hk (FW.holds_nil _) rfl) ?_; clear hk; intro a w hk
        refine FW.lfun (y := .row (r_ApiChange_cells v0)) hk rfl rfl rfl rfl (FW.f_move hk (FW.holds_nil _) rfl) ?_; clear hk; intro a w hk
        refine FW.lfun (y := .lit (.int .i64 v4)) hk rfl rfl rfl rfl (FW.f_move hk (FW.holds_nil _) rfl) ?_; clear hk; intro a w hk
        obtain ⟨hc3, h⟩ := FW.chk h
        refine FW.lfun (y := .ref (ApiChange.cells (List.getD v0 (Int.toNat v4) default))) hk rfl rfl rfl rfl (FW.f_indexAddr (R := r_ApiChange_cells) (f := ApiChange.cells) (l := v0) (sz := 3) r_ApiChange_cells_eq (fun _ => rfl) hk (FW.holds_nil _) rfl rfl Go.Proofs.Try.underlying22 (by kernel_rfl) hc3) ?_; clear hk; intro a w hk
        refine FW.lfun (y := .agg ((ApiChange.cells (List.getD v0 (Int.toNat v4) default)))) hk rfl rfl rfl rfl (FW.f_load hk (FW.holds_nil _) rfl Go.Proofs.Try.underlying31 rfl rfl rfl rfl) ?_; clear hk; intro a w hk
        refine FW.l_buildSlice (f := ApiChange.cells) (l := ([(List.getD v0 (Int.toNat v4) default)] : List ApiChange)) hk rfl rfl rfl Go.Proofs.Try.underlying22 rfl rfl rfl rfl (fun _ => rfl) rfl ?_; clear hk; intro bx2 a w hk
        obtain ⟨hc4, h⟩ := FW.chk h
        refine FW.l_append (l2 := ([(List.getD v0 (Int.toNat v4) default)] : List ApiChange)) (l3 := (l1 ++ ([(List.getD v0 (Int.toNat v4) default)] : List ApiChange))) (I' := fun ad1 cap1 => [FW.orow (some ⟨bx2, 0, none⟩) 1 31 3 ApiChange.cells ([(List.getD v0 (Int.toNat v4) default)] : List ApiChange), FW.orow ad1 cap1 31 3 ApiChange.cells (l1 ++ ([(List.getD v0 (Int.toNat v4) default)] : List ApiChange))]) (j := 1) hk rfl rfl rfl rfl (FW.own_src hk (j := 0) rfl rfl (fun _ => rfl) Go.Proofs.Try.underlying22) Go.Proofs.Try.underlying22 (by kernel_rfl) hc4 rfl (fun _ _ => rfl) ?_; clear hk; intro ad1 cap1 a w hk
        replace hk := FW.S.dropI (I' := [FW.orow ad1 cap1 31 3 ApiChange.cells (l1 ++ ([(List.getD v0 (Int.toNat v4) default)] : List ApiChange))]) hk 0 rfl
        refine FW.lfun (y := .lit (.slice ad1 (List.length (l1 ++ ([(List.getD v0 (Int.toNat v4) default)] : List ApiChange))) cap1)) hk rfl rfl rfl rfl (FW.f_assign hk (FW.holds_nil _) rfl) ?_; clear hk; intro a w hk
        refine wpList_nil ?_
        (repeat first | refine FW.then_normal ?_ | refine FW.block_normal ?_); exact hK8 _ _ ⟨(l1 ++ ([(List.getD v0 (Int.toNat v4) default)] : List ApiChange)), v0, v4, ad1, cap1, hk.sub ⟨rfl, rfl, rfl, trivial⟩, h⟩
      refine wp_skip ?_
      (repeat first | refine FW.then_normal ?_ | refine FW.block_normal ?_); exact hK8 _ _ ⟨l1, v0, v4, xd1, xc1, hk.sub ⟨rfl, rfl, rfl, trivial⟩, h⟩
  refine wp_exit ?_; (repeat first | refine FW.then_exit ?_ | refine FW.block_exit_ne rfl ?_); refine FW.block_exit ?_
  (repeat first | refine FW.then_normal ?_ | refine FW.block_normal ?_); refine hK3 _ _ ?_
  refine FW.wreg ?_; intro K' hK12
  refine FW.lfun (y := .lit (.slice xd1 (List.length l1) xc1)) hk rfl rfl rfl rfl (FW.f_move hk (FW.holds_nil _) rfl) ?_; clear hk; intro a w hk
  replace hk := FW.S.freezeR (I' := []) r_ApiChange_cells_eq hk (j := 0) rfl (t := 37) rfl rfl
  obtain ⟨t1, hr_t1, h⟩ := FW.bnd h
  refine FW.lfun (y := .row (r_ApiBody_cells t1)) hk rfl rfl rfl rfl (FW.f_call hk (FW.holds_nil _) rfl rfl Go.Proofs.Try.func9 rfl (by kernel_rfl) (FW.Ok.nil0 (offshootref06_Do.ok K [] l1 _ hr_t1))) ?_; clear hk; intro a w hk
  refine FW.lfun (y := .row (r_ApiBody_cells t1)) hk rfl rfl rfl rfl (FW.f_assign hk (FW.holds_nil _) rfl) ?_; clear hk; intro a w hk
  refine FW.lend (hK12 _ _ ?_); clear hK12 K'
  refine wp_ret ?_
  (repeat first | refine FW.then_ret ?_ | refine FW.block_ret ?_)
  obtain rfl := Option.some.inj h
  exact FW.fret1 hk rfl rfl
end Go.Proofs.Ytaoffkhflmndhaa

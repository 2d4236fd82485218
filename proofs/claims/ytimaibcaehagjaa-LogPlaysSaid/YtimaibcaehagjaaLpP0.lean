/- Written by a program of this session (gen.py): the contracts of functions of the program. -/
import Derived.KernelRfl
import Derived.Test.YtimaibcaehagjaaProg
import Derived.Test.YtimaibcaehagjaaAvFun
import Derived.Test.YtimaibcaehagjaaAvMan
import Derived.Test.YtimaibcaehagjaaAvMore
import Derived.Test.YtimaibcaehagjaaAvDraw2
import Derived.Test.YtimaibcaehagjaaAvRow
import Derived.Test.YtimaibcaehagjaaHn
import Derived.Test.YtimaibcaehagjaaDvP0
import Derived.Test.YtimaibcaehagjaaFl2
import Derived.Test.YtimaibcaehagjaaHg
import Derived.Test.YtimaibcaehagjaaHar
import Derived.Test.YtimaibcaehagjaaLgP1
import Derived.Test.YtimaibcaehagjaaLsP0
import Derived.Test.YtimaibcaehagjaaLpD
namespace Go.Proofs.Ytimaibcaehagjaa
set_option linter.unusedVariables false
set_option maxRecDepth 20000
set_option maxHeartbeats 10000000
theorem offshootlaw04_few.ok  (v0 : List UInt8) (r : List UInt8) (h : offshootlaw04_few.f v0 = some r) :
    FW.Ok Go.Proofs.Try.prog 49 [.lit (.string (FW.B v0))] (.lit (.string (FW.B r))) := by
  refine FW.enter (xs := [.lit (.string (FW.B v0))]) Go.Proofs.Try.func49 rfl Go.Proofs.Try.ntmps49 rfl ?_
  intro M w0 a hk
  unfold offshootlaw04_few.f at h
  refine FW.wreg ?_; intro K' hK1
  refine FW.lfun (y := .lit (.string (FW.B ([] : List UInt8)))) hk rfl rfl rfl rfl (FW.f_assign hk (FW.holds_nil _) rfl) ?_; clear hk; intro a w hk
  refine FW.lend (hK1 _ _ ?_); clear hK1 K'
  refine FW.wseq ?_; intro K' hK2
  refine FW.wreg ?_; intro K' hK3
  refine FW.lfun (y := .lit (.string (FW.B v0))) hk rfl rfl rfl rfl (FW.f_move hk (FW.holds_nil _) rfl) ?_; clear hk; intro a w hk
  refine FW.lfun (y := .lit (.int .i64 (List.length v0 : Int))) hk rfl rfl rfl rfl ((FW.f_pure (FW.p_slen Go.Proofs.Try.underlying9 hk.kn (FW.holds_nil _) rfl))) ?_; clear hk; intro a w hk
  refine FW.lfun (y := .lit (.bool (decide (500 < (List.length v0 : Int))))) hk rfl rfl rfl rfl ((FW.f_pure (FW.p_gtr hk.kn (FW.holds_nil _) rfl rfl))) ?_; clear hk; intro a w hk
  refine FW.lend (hK3 _ _ ?_); clear hK3 K'
  refine FW.wcondF (b := (decide (500 < (List.length v0 : Int)))) hk h rfl (fun h hb => ?_) (fun h hb => ?_)
  · skip
    refine FW.wreg ?_; intro K' hK4
    refine FW.lfun (y := .lit (.string (FW.B v0))) hk rfl rfl rfl rfl (FW.f_move hk (FW.holds_nil _) rfl) ?_; clear hk; intro a w hk
    obtain ⟨hc1, h⟩ := FW.chk h
    refine FW.lfun (y := .lit (.string (FW.B (List.take (Int.toNat 500) v0)))) hk rfl rfl rfl rfl ((FW.f_pure (FW.p_slice_hi Go.Proofs.Try.underlying9 hk.kn (FW.holds_nil _) rfl rfl hc1))) ?_; clear hk; intro a w hk
    refine FW.lfun (y := .lit (.string (FW.B (List.take (Int.toNat 500) v0)))) hk rfl rfl rfl rfl (FW.f_assign hk (FW.holds_nil _) rfl) ?_; clear hk; intro a w hk
    refine FW.lend (hK4 _ _ ?_); clear hK4 K'
    refine wp_ret ?_
    (repeat first | refine FW.then_ret ?_ | refine FW.block_ret ?_)
    obtain rfl := Option.some.inj h
    exact FW.fret1 hk rfl rfl
  · skip
    refine wp_skip ?_
    (repeat first | refine FW.then_normal ?_ | refine FW.block_normal ?_); refine hK2 _ _ ?_
    refine FW.wreg ?_; intro K' hK5
    refine FW.lfun (y := .lit (.string (FW.B v0))) hk rfl rfl rfl rfl (FW.f_move hk (FW.holds_nil _) rfl) ?_; clear hk; intro a w hk
    refine FW.lfun (y := .lit (.string (FW.B v0))) hk rfl rfl rfl rfl (FW.f_assign hk (FW.holds_nil _) rfl) ?_; clear hk; intro a w hk
    refine FW.lend (hK5 _ _ ?_); clear hK5 K'
    refine wp_ret ?_
    (repeat first | refine FW.then_ret ?_ | refine FW.block_ret ?_)
    obtain rfl := Option.some.inj h
    exact FW.fret1 hk rfl rfl

theorem offshootref02_Eight.ok (K : Nat) (v0 : Int) (r : List UInt8) (h : offshootref02_Eight.f K v0 = some r) :
    FW.Ok Go.Proofs.Try.prog 76 [.lit (.int .u64 v0)] (.lit (.string (FW.B r))) := by
  refine FW.enter (xs := [.lit (.int .u64 v0)]) Go.Proofs.Try.func76 rfl Go.Proofs.Try.ntmps76 rfl ?_
  intro M w0 a hk
  unfold offshootref02_Eight.f at h
  refine FW.wreg ?_; intro K' hK1
  refine FW.lfun (y := .lit (.string (FW.B ([] : List UInt8)))) hk rfl rfl rfl rfl (FW.f_assign hk (FW.holds_nil _) rfl) ?_; clear hk; intro a w hk
  refine FW.lend (hK1 _ _ ?_); clear hK1 K'
  refine FW.wreg ?_; intro K' hK2
  refine FW.lfun (y := .lit (.string (FW.B ([] : List UInt8)))) hk rfl rfl rfl rfl (FW.f_assign hk (FW.holds_nil _) rfl) ?_; clear hk; intro a w hk
  refine FW.lend (hK2 _ _ ?_); clear hK2 K'
  refine FW.wseq ?_; intro K' hK3
  refine FW.wreg ?_; intro K' hK4
  refine FW.lfun (y := .lit (.int .i64 0)) hk rfl rfl rfl rfl (FW.f_assign hk (FW.holds_nil _) rfl) ?_; clear hk; intro a w hk
  refine FW.lend (hK4 _ _ ?_); clear hK4 K'
  refine wp_block ?_
  refine FW.wloop (T := Nat × Int × List UInt8 × Int) (fun x a w => match x with | (kl1, v0, v3, v4) => FW.S M w0 a w 19 [] [(0, [], .lit (.int .u64 v0)), (3, [], .lit (.string (FW.B v3))), (4, [], .lit (.int .i64 v4))] ∧ offshootref02_Eight.l1 K kl1 v0 v3 v4 = some r) (fun x => x.1) (K, v0, ([] : List UInt8), 0) ⟨hk.sub ⟨rfl, rfl, rfl, trivial⟩, h⟩ ?_
  clear hk h
  rintro ⟨kl1, v0, v3, v4⟩ a w ⟨hk, h⟩ K' hK5
  cases kl1 with
  | zero => simp [offshootref02_Eight.l1] at h
  | succ kl1 =>
  rw [offshootref02_Eight.l1.eq_2] at h
  refine FW.wseq ?_; intro K' hK6
  refine FW.wreg ?_; intro K' hK7
  refine FW.lfun (y := .lit (.int .i64 v4)) hk rfl rfl rfl rfl (FW.f_move hk (FW.holds_nil _) rfl) ?_; clear hk; intro a w hk
  refine FW.lfun (y := .lit (.bool (decide (v4 < 8)))) hk rfl rfl rfl rfl ((FW.f_pure (FW.p_lss hk.kn (FW.holds_nil _) rfl rfl))) ?_; clear hk; intro a w hk
  refine FW.lend (hK7 _ _ ?_); clear hK7 K'
  refine FW.wcondF (b := (decide (v4 < 8))) hk h rfl (fun h hb => ?_) (fun h hb => ?_)
  · skip
    refine wp_skip ?_
    (repeat first | refine FW.then_normal ?_ | refine FW.block_normal ?_); refine hK6 _ _ ?_
    refine FW.wseq ?_; intro K' hK8
    refine wp_block ?_
    refine FW.wreg ?_; intro K' hK9
    refine FW.lfun (y := .lit (.int .u64 v0)) hk rfl rfl rfl rfl (FW.f_move hk (FW.holds_nil _) rfl) ?_; clear hk; intro a w hk
    refine FW.lfun (y := .lit (.int .u64 (Int.tmod v0 256))) hk rfl rfl rfl rfl ((FW.f_pure (FW.p_rem hk.kn (FW.holds_nil _) rfl rfl (show ¬ (256 : Int) = 0 from by decide)))) ?_; clear hk; intro a w hk
    refine FW.lfun (y := .lit (.int .u8 (IntKind.wrap .u8 (Int.tmod v0 256)))) hk rfl rfl rfl rfl ((FW.f_pure (FW.p_conv Go.Proofs.Try.underlying29 Go.Proofs.Try.underlying5 hk.kn (FW.holds_nil _) rfl))) ?_; clear hk; intro a w hk
    refine FW.l_buildSlice (f := c_u8) (l := ([(IntKind.wrap .u8 (Int.tmod v0 256))] : List Int)) hk rfl rfl rfl Go.Proofs.Try.underlying92 rfl rfl rfl rfl (fun _ => rfl) rfl ?_; clear hk; intro b1 a w hk
    refine FW.lfun (y := .lit (.string (FW.B (FW.toB ([(IntKind.wrap .u8 (Int.tmod v0 256))] : List Int))))) hk rfl rfl rfl rfl (FW.f_toBown (f := c_u8) rfl hk (FW.holds_nil _) (j := 0) rfl rfl Go.Proofs.Try.underlying92 Go.Proofs.Try.underlying5 Go.Proofs.Try.underlying9) ?_; clear hk; intro a w hk
    refine FW.lfun (y := .lit (.string (FW.B v3))) hk rfl rfl rfl rfl (FW.f_move hk (FW.holds_nil _) rfl) ?_; clear hk; intro a w hk
    obtain ⟨hc1, h⟩ := FW.chk h
    refine FW.lfun (y := .lit (.string (FW.B ((FW.toB ([(IntKind.wrap .u8 (Int.tmod v0 256))] : List Int)) ++ v3)))) hk rfl rfl rfl rfl ((FW.f_pure (FW.p_sadd hk.kn (FW.holds_nil _) rfl rfl hc1))) ?_; clear hk; intro a w hk
    refine FW.lfun (y := .lit (.string (FW.B ((FW.toB ([(IntKind.wrap .u8 (Int.tmod v0 256))] : List Int)) ++ v3)))) hk rfl rfl rfl rfl (FW.f_assign hk (FW.holds_nil _) rfl) ?_; clear hk; intro a w hk
    refine FW.lend (hK9 _ _ ?_); clear hK9 K'
    refine FW.wreg1 ?_
    refine FW.lfun (y := .lit (.int .u64 v0)) hk rfl rfl rfl rfl (FW.f_move hk (FW.holds_nil _) rfl) ?_; clear hk; intro a w hk
    refine FW.lfun (y := .lit (.int .u64 (IntKind.wrap .u64 (Int.tdiv v0 256)))) hk rfl rfl rfl rfl ((FW.f_pure (FW.p_quo hk.kn (FW.holds_nil _) rfl rfl (show ¬ (256 : Int) = 0 from by decide)))) ?_; clear hk; intro a w hk
    refine FW.lfun (y := .lit (.int .u64 (IntKind.wrap .u64 (Int.tdiv v0 256)))) hk rfl rfl rfl rfl (FW.f_assign hk (FW.holds_nil _) rfl) ?_; clear hk; intro a w hk
    refine wpList_nil ?_
    (repeat first | refine FW.then_normal ?_ | refine FW.block_normal ?_); refine hK8 _ _ ?_
    refine FW.wreg1 ?_
    refine FW.lfun (y := .lit (.int .i64 v4)) hk rfl rfl rfl rfl (FW.f_move hk (FW.holds_nil _) rfl) ?_; clear hk; intro a w hk
    refine FW.lfun (y := .lit (.int .i64 (IntKind.wrap .i64 (v4 + 1)))) hk rfl rfl rfl rfl ((FW.f_pure (FW.p_add hk.kn (FW.holds_nil _) rfl rfl))) ?_; clear hk; intro a w hk
    refine FW.lfun (y := .lit (.int .i64 (IntKind.wrap .i64 (v4 + 1)))) hk rfl rfl rfl rfl (FW.f_assign hk (FW.holds_nil _) rfl) ?_; clear hk; intro a w hk
    refine wpList_nil ?_
    (repeat first | refine FW.then_normal ?_ | refine FW.block_normal ?_); exact hK5 (kl1, (IntKind.wrap .u64 (Int.tdiv v0 256)), ((FW.toB ([(IntKind.wrap .u8 (Int.tmod v0 256))] : List Int)) ++ v3), (IntKind.wrap .i64 (v4 + 1))) _ _ (Nat.lt_succ_self _) ⟨(hk.drop 0).sub ⟨rfl, rfl, rfl, trivial⟩, h⟩
  · skip
    refine wp_exit ?_; (repeat first | refine FW.then_exit ?_ | refine FW.block_exit_ne rfl ?_); refine FW.block_exit ?_
    (repeat first | refine FW.then_normal ?_ | refine FW.block_normal ?_); refine hK3 _ _ ?_
    refine FW.wreg ?_; intro K' hK12
    refine FW.lfun (y := .lit (.string (FW.B v3))) hk rfl rfl rfl rfl (FW.f_move hk (FW.holds_nil _) rfl) ?_; clear hk; intro a w hk
    refine FW.lfun (y := .lit (.string (FW.B v3))) hk rfl rfl rfl rfl (FW.f_assign hk (FW.holds_nil _) rfl) ?_; clear hk; intro a w hk
    refine FW.lend (hK12 _ _ ?_); clear hK12 K'
    refine wp_ret ?_
    (repeat first | refine FW.then_ret ?_ | refine FW.block_ret ?_)
    obtain rfl := Option.some.inj h
    exact FW.fret1 hk rfl rfl

theorem offshootref04_Laid.ok (K : Nat) (v0 : Int) (v1 : List UInt8) (r : List (List UInt8)) (h : offshootref04_Laid.f K v0 v1 = some r) :
    FW.Ok Go.Proofs.Try.prog 51 [.lit (.int .u64 v0), .lit (.string (FW.B v1))] (.row (r_c_str r)) := by
  refine FW.enter (xs := [.lit (.int .u64 v0), .lit (.string (FW.B v1))]) Go.Proofs.Try.func51 rfl Go.Proofs.Try.ntmps51 rfl ?_
  intro M w0 a hk
  unfold offshootref04_Laid.f at h
  refine FW.wreg ?_; intro K' hK1
  refine FW.lfun (y := .row (r_c_str [])) hk rfl rfl rfl rfl (FW.f_assignNil) ?_; clear hk; intro a w hk
  refine FW.lend (hK1 _ _ ?_); clear hK1 K'
  refine FW.wreg ?_; intro K' hK2
  refine FW.lfun (y := .lit (.string (FW.B v1))) hk rfl rfl rfl rfl (FW.f_move hk (FW.holds_nil _) rfl) ?_; clear hk; intro a w hk
  refine FW.lfun (y := .lit (.int .i64 (List.length v1 : Int))) hk rfl rfl rfl rfl ((FW.f_pure (FW.p_slen Go.Proofs.Try.underlying9 hk.kn (FW.holds_nil _) rfl))) ?_; clear hk; intro a w hk
  refine FW.lfun (y := .lit (.int .i64 (List.length v1 : Int))) hk rfl rfl rfl rfl (FW.f_assign hk (FW.holds_nil _) rfl) ?_; clear hk; intro a w hk
  refine FW.lend (hK2 _ _ ?_); clear hK2 K'
  refine FW.wreg ?_; intro K' hK3
  refine FW.lfun (y := .lit (.int .i64 (List.length v1 : Int))) hk rfl rfl rfl rfl (FW.f_move hk (FW.holds_nil _) rfl) ?_; clear hk; intro a w hk
  obtain ⟨t1, hr_t1, h⟩ := FW.bnd h
  refine FW.lfun (y := .lit (.int .i64 t1)) hk rfl rfl rfl rfl (FW.f_call hk (FW.holds_nil _) rfl rfl Go.Proofs.Try.func46 rfl (by kernel_rfl) (offshootref04_Sectors.ok K (List.length v1 : Int) _ hr_t1)) ?_; clear hk; intro a w hk
  refine FW.lfun (y := .lit (.int .i64 t1)) hk rfl rfl rfl rfl (FW.f_assign hk (FW.holds_nil _) rfl) ?_; clear hk; intro a w hk
  refine FW.lend (hK3 _ _ ?_); clear hK3 K'
  refine FW.wseq ?_; intro K' hK4
  refine wp_block ?_
  refine FW.wloop (T := Nat × Int × List UInt8 × Int × Int) (fun x a w => match x with | (kl1, v0, v1, v5, v6) => FW.S M w0 a w 53 [] [(0, [], .lit (.int .u64 v0)), (1, [], .lit (.string (FW.B v1))), (5, [], .lit (.int .i64 v5)), (6, [], .lit (.int .i64 v6))] ∧ offshootref04_Laid.l1 K kl1 v0 v1 v5 v6 = some r) (fun x => x.1) (K, v0, v1, (List.length v1 : Int), t1) ⟨hk.sub ⟨rfl, rfl, rfl, rfl, trivial⟩, h⟩ ?_
  clear hk h
  rintro ⟨kl1, v0, v1, v5, v6⟩ a w ⟨hk, h⟩ K' hK5
  cases kl1 with
  | zero => simp [offshootref04_Laid.l1] at h
  | succ kl1 =>
  rw [offshootref04_Laid.l1.eq_2] at h
  refine FW.wseq ?_; intro K' hK6
  refine FW.wreg ?_; intro K' hK7
  refine FW.lfun (y := .lit (.string (FW.B v1))) hk rfl rfl rfl rfl (FW.f_move hk (FW.holds_nil _) rfl) ?_; clear hk; intro a w hk
  refine FW.lfun (y := .lit (.int .i64 (List.length v1 : Int))) hk rfl rfl rfl rfl ((FW.f_pure (FW.p_slen Go.Proofs.Try.underlying9 hk.kn (FW.holds_nil _) rfl))) ?_; clear hk; intro a w hk
  refine FW.lfun (y := .lit (.int .i64 v6)) hk rfl rfl rfl rfl (FW.f_move hk (FW.holds_nil _) rfl) ?_; clear hk; intro a w hk
  refine FW.lfun (y := .lit (.int .i64 (IntKind.wrap .i64 (v6 - 1)))) hk rfl rfl rfl rfl ((FW.f_pure (FW.p_sub hk.kn (FW.holds_nil _) rfl rfl))) ?_; clear hk; intro a w hk
  refine FW.lfun (y := .lit (.int .i64 (IntKind.wrap .i64 (128 * (IntKind.wrap .i64 (v6 - 1)))))) hk rfl rfl rfl rfl ((FW.f_pure (FW.p_mul hk.kn (FW.holds_nil _) rfl rfl))) ?_; clear hk; intro a w hk
  refine FW.lfun (y := .lit (.int .i64 (IntKind.wrap .i64 (104 + (IntKind.wrap .i64 (128 * (IntKind.wrap .i64 (v6 - 1)))))))) hk rfl rfl rfl rfl ((FW.f_pure (FW.p_add hk.kn (FW.holds_nil _) rfl rfl))) ?_; clear hk; intro a w hk
  refine FW.lfun (y := .lit (.bool (decide ((List.length v1 : Int) < (IntKind.wrap .i64 (104 + (IntKind.wrap .i64 (128 * (IntKind.wrap .i64 (v6 - 1)))))))))) hk rfl rfl rfl rfl ((FW.f_pure (FW.p_lss hk.kn (FW.holds_nil _) rfl rfl))) ?_; clear hk; intro a w hk
  refine FW.lend (hK7 _ _ ?_); clear hK7 K'
  refine FW.wcondF (b := (decide ((List.length v1 : Int) < (IntKind.wrap .i64 (104 + (IntKind.wrap .i64 (128 * (IntKind.wrap .i64 (v6 - 1))))))))) hk h rfl (fun h hb => ?_) (fun h hb => ?_)
  · skip
    refine wp_skip ?_
    (repeat first | refine FW.then_normal ?_ | refine FW.block_normal ?_); refine hK6 _ _ ?_
    refine wp_block ?_
    refine FW.wreg1 ?_
    refine FW.lfun (y := .lit (.string (FW.B v1))) hk rfl rfl rfl rfl (FW.f_move hk (FW.holds_nil _) rfl) ?_; clear hk; intro a w hk
    obtain ⟨hc1, h⟩ := FW.chk h
    refine FW.lfun (y := .lit (.string (FW.B (v1 ++ ([0] : List UInt8))))) hk rfl rfl rfl rfl ((FW.f_pure (FW.p_sadd hk.kn (FW.holds_nil _) rfl rfl hc1))) ?_; clear hk; intro a w hk
    refine FW.lfun (y := .lit (.string (FW.B (v1 ++ ([0] : List UInt8))))) hk rfl rfl rfl rfl (FW.f_assign hk (FW.holds_nil _) rfl) ?_; clear hk; intro a w hk
    refine wpList_nil ?_
    (repeat first | refine FW.then_normal ?_ | refine FW.block_normal ?_); exact hK5 (kl1, v0, (v1 ++ ([0] : List UInt8)), v5, v6) _ _ (Nat.lt_succ_self _) ⟨hk.sub ⟨rfl, rfl, rfl, rfl, trivial⟩, h⟩
  · skip
    refine wp_exit ?_; (repeat first | refine FW.then_exit ?_ | refine FW.block_exit_ne rfl ?_); refine FW.block_exit ?_
    (repeat first | refine FW.then_normal ?_ | refine FW.block_normal ?_); refine hK4 _ _ ?_
    obtain ⟨t2, hr_t2, h⟩ := FW.bnd h
    obtain ⟨t3, hr_t3, h⟩ := FW.bnd h
    obtain ⟨hc2, h⟩ := FW.chk h
    obtain ⟨hc3, h⟩ := FW.chk h
    obtain ⟨hc4, h⟩ := FW.chk h
    obtain ⟨t4, hr_t4, h⟩ := FW.bnd h
    obtain ⟨hc5, h⟩ := FW.chk h
    refine FW.wdrawE (need := [false, false, false, false, false, false, false, false, false, false, false, false, false, true]) [(12, [true, true, true, true, true, true, true, true, true, true, true, true, false, false], [true, true, true, true, true, true, true, true, true, true, true, true, false, false])] [(22, [], .lit (.int .u64 v0)), (23, [], .lit (.string (FW.B t2))), (24, [], .lit (.int .i64 v5)), (25, [], .lit (.int .u64 (IntKind.wrap .u64 v5))), (26, [], .lit (.string (FW.B t3))), (27, [], .lit (.string (FW.B (t2 ++ t3)))), (28, [], .lit (.string (FW.B v1))), (29, [], .lit (.string (FW.B (List.take (Int.toNat 104) v1)))), (30, [], .lit (.string (FW.B ((t2 ++ t3) ++ (List.take (Int.toNat 104) v1))))), (31, [], .lit (.int .u64 v0)), (32, [], .lit (.string (FW.B t4))), (33, [], .lit (.string (FW.B (((t2 ++ t3) ++ (List.take (Int.toNat 104) v1)) ++ t4)))), (34, [], .agg []), (7, [], .agg [])] (by kernel_rfl) (by kernel_rfl) (by kernel_rfl) (by kernel_rfl) hk ?_; clear hk
    refine FW.gnext ?_ rfl rfl rfl rfl rfl ?_
    · skip
      refine FW.gfun (y := .lit (.int .u64 v0)) rfl rfl rfl rfl (fun a w hk => FW.f_move hk (FW.holds_nil _) rfl) ?_
      refine FW.gfun (y := .lit (.string (FW.B t2))) rfl rfl rfl rfl (fun a w hk => FW.f_call hk (FW.holds_nil _) rfl rfl Go.Proofs.Try.func76 rfl (by kernel_rfl) (offshootref02_Eight.ok K v0 _ hr_t2)) ?_
      refine FW.gfun (y := .lit (.int .i64 v5)) rfl rfl rfl rfl (fun a w hk => FW.f_move hk (FW.holds_nil _) rfl) ?_
      refine FW.gfun (y := .lit (.int .u64 (IntKind.wrap .u64 v5))) rfl rfl rfl rfl (fun a w hk => (FW.f_pure (FW.p_conv Go.Proofs.Try.underlying3 Go.Proofs.Try.underlying29 hk.kn (FW.holds_nil _) rfl))) ?_
      refine FW.gfun (y := .lit (.string (FW.B t3))) rfl rfl rfl rfl (fun a w hk => FW.f_call hk (FW.holds_nil _) rfl rfl Go.Proofs.Try.func76 rfl (by kernel_rfl) (offshootref02_Eight.ok K (IntKind.wrap .u64 v5) _ hr_t3)) ?_
      refine FW.gfun (y := .lit (.string (FW.B (t2 ++ t3)))) rfl rfl rfl rfl (fun a w hk => (FW.f_pure (FW.p_sadd hk.kn (FW.holds_nil _) rfl rfl hc2))) ?_
      refine FW.gfun (y := .lit (.string (FW.B v1))) rfl rfl rfl rfl (fun a w hk => FW.f_move hk (FW.holds_nil _) rfl) ?_
      refine FW.gfun (y := .lit (.string (FW.B (List.take (Int.toNat 104) v1)))) rfl rfl rfl rfl (fun a w hk => (FW.f_pure (FW.p_slice_hi Go.Proofs.Try.underlying9 hk.kn (FW.holds_nil _) rfl rfl hc3))) ?_
      refine FW.gfun (y := .lit (.string (FW.B ((t2 ++ t3) ++ (List.take (Int.toNat 104) v1))))) rfl rfl rfl rfl (fun a w hk => (FW.f_pure (FW.p_sadd hk.kn (FW.holds_nil _) rfl rfl hc4))) ?_
      refine FW.gfun (y := .lit (.int .u64 v0)) rfl rfl rfl rfl (fun a w hk => FW.f_move hk (FW.holds_nil _) rfl) ?_
      refine FW.gfun (y := .lit (.string (FW.B t4))) rfl rfl rfl rfl (fun a w hk => FW.f_call hk (FW.holds_nil _) rfl rfl Go.Proofs.Try.func76 rfl (by kernel_rfl) (offshootref02_Eight.ok K v0 _ hr_t4)) ?_
      refine FW.gfun (y := .lit (.string (FW.B (((t2 ++ t3) ++ (List.take (Int.toNat 104) v1)) ++ t4)))) rfl rfl rfl rfl (fun a w hk => (FW.f_pure (FW.p_sadd hk.kn (FW.holds_nil _) rfl rfl hc5))) ?_
      refine FW.gskip rfl rfl ?_
      refine FW.gskip rfl rfl ?_
      exact FW.gend
    · skip
      intro σD a w opsD QD hk hf hQ
      refine FW.l_buildSlice (f := c_str) (l := ([(((t2 ++ t3) ++ (List.take (Int.toNat 104) v1)) ++ t4)] : List (List UInt8))) hk rfl hf rfl Go.Proofs.Try.underlying61 rfl rfl rfl rfl (fun _ => rfl) rfl ?_; clear hk; intro b1 a w hk
      refine hQ _ _ a w ?_ hk; clear hk hQ hf
      refine ⟨[(22, [], .lit (.int .u64 v0)), (23, [], .lit (.string (FW.B t2))), (24, [], .lit (.int .i64 v5)), (25, [], .lit (.int .u64 (IntKind.wrap .u64 v5))), (26, [], .lit (.string (FW.B t3))), (27, [], .lit (.string (FW.B (t2 ++ t3)))), (28, [], .lit (.string (FW.B v1))), (29, [], .lit (.string (FW.B (List.take (Int.toNat 104) v1)))), (30, [], .lit (.string (FW.B ((t2 ++ t3) ++ (List.take (Int.toNat 104) v1))))), (31, [], .lit (.int .u64 v0)), (32, [], .lit (.string (FW.B t4))), (33, [], .lit (.string (FW.B (((t2 ++ t3) ++ (List.take (Int.toNat 104) v1)) ++ t4)))), (34, [], .lit (.slice (some ⟨b1, 0, none⟩) (List.length ([(((t2 ++ t3) ++ (List.take (Int.toNat 104) v1)) ++ t4)] : List (List UInt8))) 1)), (7, [], .lit (.slice (some ⟨b1, 0, none⟩) (List.length ([(((t2 ++ t3) ++ (List.take (Int.toNat 104) v1)) ++ t4)] : List (List UInt8))) 1))], And.intro rfl (And.intro rfl (And.intro rfl (And.intro rfl (And.intro rfl (And.intro rfl (And.intro rfl (And.intro rfl (And.intro rfl (And.intro rfl (And.intro rfl (And.intro rfl (trivial)))))))))))), rfl, ?_⟩
      refine FW.glast ?_ ?_
      · skip
        refine FW.gskip rfl rfl ?_
        refine FW.gskip rfl rfl ?_
        refine FW.gskip rfl rfl ?_
        refine FW.gskip rfl rfl ?_
        refine FW.gskip rfl rfl ?_
        refine FW.gskip rfl rfl ?_
        refine FW.gskip rfl rfl ?_
        refine FW.gskip rfl rfl ?_
        refine FW.gskip rfl rfl ?_
        refine FW.gskip rfl rfl ?_
        refine FW.gskip rfl rfl ?_
        refine FW.gskip rfl rfl ?_
        refine FW.gskip rfl rfl ?_
        refine FW.gfun (y := .lit (.slice (some ⟨b1, 0, none⟩) (List.length ([(((t2 ++ t3) ++ (List.take (Int.toNat 104) v1)) ++ t4)] : List (List UInt8))) 1)) rfl rfl rfl rfl (fun a w hk => FW.f_assign hk (FW.holds_nil _) rfl) ?_
        exact FW.gend
      · skip
        intro a w hk; simp only [FW.stD, cond_true] at hk
        refine FW.wseq ?_; intro K' hK10
        refine FW.wreg ?_; intro K' hK11
        refine FW.lfun (y := .lit (.int .i64 1)) hk rfl rfl rfl rfl (FW.f_assign hk (FW.holds_nil _) rfl) ?_; clear hk; intro a w hk
        refine FW.lend (hK11 _ _ ?_); clear hK11 K'
        refine wp_block ?_
        refine FW.wloop (T := Nat × List (List UInt8) × List UInt8 × Int × Int × Option Addr × Nat) (fun x a w => match x with | (kl2, l1, v1, v6, v8, xd1, xc1) => FW.S M w0 a w 53 [FW.orow xd1 xc1 9 1 c_str l1] [(1, [], .lit (.string (FW.B v1))), (6, [], .lit (.int .i64 v6)), (7, [], .lit (.slice xd1 (List.length l1) xc1)), (8, [], .lit (.int .i64 v8))] ∧ offshootref04_Laid.l2 (offshootref04_Laid.l1 K kl1) K kl2 l1 v1 v6 v8 = some r) (fun x => x.1) (K, ([(((t2 ++ t3) ++ (List.take (Int.toNat 104) v1)) ++ t4)] : List (List UInt8)), v1, v6, 1, (some ⟨b1, 0, none⟩), 1) ⟨hk.sub ⟨rfl, rfl, rfl, rfl, trivial⟩, h⟩ ?_
        clear hk h
        rintro ⟨kl2, l1, v1, v6, v8, xd1, xc1⟩ a w ⟨hk, h⟩ K' hK12
        cases kl2 with
        | zero => simp [offshootref04_Laid.l2] at h
        | succ kl2 =>
        rw [offshootref04_Laid.l2.eq_2] at h
        refine FW.wseq ?_; intro K' hK13
        refine FW.wreg ?_; intro K' hK14
        refine FW.lfun (y := .lit (.int .i64 v8)) hk rfl rfl rfl rfl (FW.f_move hk (FW.holds_nil _) rfl) ?_; clear hk; intro a w hk
        refine FW.lfun (y := .lit (.int .i64 v6)) hk rfl rfl rfl rfl (FW.f_move hk (FW.holds_nil _) rfl) ?_; clear hk; intro a w hk
        refine FW.lfun (y := .lit (.bool (decide (v8 < v6)))) hk rfl rfl rfl rfl ((FW.f_pure (FW.p_lss hk.kn (FW.holds_nil _) rfl rfl))) ?_; clear hk; intro a w hk
        refine FW.lend (hK14 _ _ ?_); clear hK14 K'
        refine FW.wcondF (b := (decide (v8 < v6))) hk h rfl (fun h hb => ?_) (fun h hb => ?_)
        · skip
          refine wp_skip ?_
          (repeat first | refine FW.then_normal ?_ | refine FW.block_normal ?_); refine hK13 _ _ ?_
          refine FW.wseq ?_; intro K' hK15
          refine wp_block ?_
          refine FW.wreg1 ?_
          refine FW.lfun (y := .lit (.slice xd1 (List.length l1) xc1)) hk rfl rfl rfl rfl (FW.f_move hk (FW.holds_nil _) rfl) ?_; clear hk; intro a w hk
          refine FW.lfun (y := .lit (.string (FW.B v1))) hk rfl rfl rfl rfl (FW.f_move hk (FW.holds_nil _) rfl) ?_; clear hk; intro a w hk
          refine FW.lfun (y := .lit (.int .i64 v8)) hk rfl rfl rfl rfl (FW.f_move hk (FW.holds_nil _) rfl) ?_; clear hk; intro a w hk
          refine FW.lfun (y := .lit (.int .i64 (IntKind.wrap .i64 (v8 - 1)))) hk rfl rfl rfl rfl ((FW.f_pure (FW.p_sub hk.kn (FW.holds_nil _) rfl rfl))) ?_; clear hk; intro a w hk
          refine FW.lfun (y := .lit (.int .i64 (IntKind.wrap .i64 (128 * (IntKind.wrap .i64 (v8 - 1)))))) hk rfl rfl rfl rfl ((FW.f_pure (FW.p_mul hk.kn (FW.holds_nil _) rfl rfl))) ?_; clear hk; intro a w hk
          refine FW.lfun (y := .lit (.int .i64 (IntKind.wrap .i64 (104 + (IntKind.wrap .i64 (128 * (IntKind.wrap .i64 (v8 - 1)))))))) hk rfl rfl rfl rfl ((FW.f_pure (FW.p_add hk.kn (FW.holds_nil _) rfl rfl))) ?_; clear hk; intro a w hk
          refine FW.lfun (y := .lit (.int .i64 v8)) hk rfl rfl rfl rfl (FW.f_move hk (FW.holds_nil _) rfl) ?_; clear hk; intro a w hk
          refine FW.lfun (y := .lit (.int .i64 (IntKind.wrap .i64 (128 * v8)))) hk rfl rfl rfl rfl ((FW.f_pure (FW.p_mul hk.kn (FW.holds_nil _) rfl rfl))) ?_; clear hk; intro a w hk
          refine FW.lfun (y := .lit (.int .i64 (IntKind.wrap .i64 (104 + (IntKind.wrap .i64 (128 * v8)))))) hk rfl rfl rfl rfl ((FW.f_pure (FW.p_add hk.kn (FW.holds_nil _) rfl rfl))) ?_; clear hk; intro a w hk
          obtain ⟨hc6, h⟩ := FW.chk h
          refine FW.lfun (y := .lit (.string (FW.B (List.take (Int.toNat (IntKind.wrap .i64 (104 + (IntKind.wrap .i64 (128 * v8)))) - Int.toNat (IntKind.wrap .i64 (104 + (IntKind.wrap .i64 (128 * (IntKind.wrap .i64 (v8 - 1))))))) (List.drop (Int.toNat (IntKind.wrap .i64 (104 + (IntKind.wrap .i64 (128 * (IntKind.wrap .i64 (v8 - 1))))))) v1))))) hk rfl rfl rfl rfl ((FW.f_pure (FW.p_slice Go.Proofs.Try.underlying9 hk.kn (FW.holds_nil _) rfl rfl rfl hc6))) ?_; clear hk; intro a w hk
          refine FW.l_buildSlice (f := c_str) (l := ([(List.take (Int.toNat (IntKind.wrap .i64 (104 + (IntKind.wrap .i64 (128 * v8)))) - Int.toNat (IntKind.wrap .i64 (104 + (IntKind.wrap .i64 (128 * (IntKind.wrap .i64 (v8 - 1))))))) (List.drop (Int.toNat (IntKind.wrap .i64 (104 + (IntKind.wrap .i64 (128 * (IntKind.wrap .i64 (v8 - 1))))))) v1))] : List (List UInt8))) hk rfl rfl rfl Go.Proofs.Try.underlying61 rfl rfl rfl rfl (fun _ => rfl) rfl ?_; clear hk; intro b2 a w hk
          obtain ⟨hc7, h⟩ := FW.chk h
          refine FW.l_append (l2 := ([(List.take (Int.toNat (IntKind.wrap .i64 (104 + (IntKind.wrap .i64 (128 * v8)))) - Int.toNat (IntKind.wrap .i64 (104 + (IntKind.wrap .i64 (128 * (IntKind.wrap .i64 (v8 - 1))))))) (List.drop (Int.toNat (IntKind.wrap .i64 (104 + (IntKind.wrap .i64 (128 * (IntKind.wrap .i64 (v8 - 1))))))) v1))] : List (List UInt8))) (l3 := (l1 ++ ([(List.take (Int.toNat (IntKind.wrap .i64 (104 + (IntKind.wrap .i64 (128 * v8)))) - Int.toNat (IntKind.wrap .i64 (104 + (IntKind.wrap .i64 (128 * (IntKind.wrap .i64 (v8 - 1))))))) (List.drop (Int.toNat (IntKind.wrap .i64 (104 + (IntKind.wrap .i64 (128 * (IntKind.wrap .i64 (v8 - 1))))))) v1))] : List (List UInt8)))) (I' := fun ad1 cap1 => [FW.orow (some ⟨b2, 0, none⟩) 1 9 1 c_str ([(List.take (Int.toNat (IntKind.wrap .i64 (104 + (IntKind.wrap .i64 (128 * v8)))) - Int.toNat (IntKind.wrap .i64 (104 + (IntKind.wrap .i64 (128 * (IntKind.wrap .i64 (v8 - 1))))))) (List.drop (Int.toNat (IntKind.wrap .i64 (104 + (IntKind.wrap .i64 (128 * (IntKind.wrap .i64 (v8 - 1))))))) v1))] : List (List UInt8)), FW.orow ad1 cap1 9 1 c_str (l1 ++ ([(List.take (Int.toNat (IntKind.wrap .i64 (104 + (IntKind.wrap .i64 (128 * v8)))) - Int.toNat (IntKind.wrap .i64 (104 + (IntKind.wrap .i64 (128 * (IntKind.wrap .i64 (v8 - 1))))))) (List.drop (Int.toNat (IntKind.wrap .i64 (104 + (IntKind.wrap .i64 (128 * (IntKind.wrap .i64 (v8 - 1))))))) v1))] : List (List UInt8)))]) (j := 1) hk rfl rfl rfl rfl (FW.own_src hk (j := 0) rfl rfl (fun _ => rfl) Go.Proofs.Try.underlying61) Go.Proofs.Try.underlying61 (by kernel_rfl) hc7 rfl (fun _ _ => rfl) ?_; clear hk; intro ad1 cap1 a w hk
          replace hk := FW.S.dropI (I' := [FW.orow ad1 cap1 9 1 c_str (l1 ++ ([(List.take (Int.toNat (IntKind.wrap .i64 (104 + (IntKind.wrap .i64 (128 * v8)))) - Int.toNat (IntKind.wrap .i64 (104 + (IntKind.wrap .i64 (128 * (IntKind.wrap .i64 (v8 - 1))))))) (List.drop (Int.toNat (IntKind.wrap .i64 (104 + (IntKind.wrap .i64 (128 * (IntKind.wrap .i64 (v8 - 1))))))) v1))] : List (List UInt8)))]) hk 0 rfl
          refine FW.lfun (y := .lit (.slice ad1 (List.length (l1 ++ ([(List.take (Int.toNat (IntKind.wrap .i64 (104 + (IntKind.wrap .i64 (128 * v8)))) - Int.toNat (IntKind.wrap .i64 (104 + (IntKind.wrap .i64 (128 * (IntKind.wrap .i64 (v8 - 1))))))) (List.drop (Int.toNat (IntKind.wrap .i64 (104 + (IntKind.wrap .i64 (128 * (IntKind.wrap .i64 (v8 - 1))))))) v1))] : List (List UInt8)))) cap1)) hk rfl rfl rfl rfl (FW.f_assign hk (FW.holds_nil _) rfl) ?_; clear hk; intro a w hk
          refine wpList_nil ?_
          (repeat first | refine FW.then_normal ?_ | refine FW.block_normal ?_); refine hK15 _ _ ?_
          refine FW.wreg1 ?_
          refine FW.lfun (y := .lit (.int .i64 v8)) hk rfl rfl rfl rfl (FW.f_move hk (FW.holds_nil _) rfl) ?_; clear hk; intro a w hk
          refine FW.lfun (y := .lit (.int .i64 (IntKind.wrap .i64 (v8 + 1)))) hk rfl rfl rfl rfl ((FW.f_pure (FW.p_add hk.kn (FW.holds_nil _) rfl rfl))) ?_; clear hk; intro a w hk
          refine FW.lfun (y := .lit (.int .i64 (IntKind.wrap .i64 (v8 + 1)))) hk rfl rfl rfl rfl (FW.f_assign hk (FW.holds_nil _) rfl) ?_; clear hk; intro a w hk
          refine wpList_nil ?_
          (repeat first | refine FW.then_normal ?_ | refine FW.block_normal ?_); exact hK12 (kl2, (l1 ++ ([(List.take (Int.toNat (IntKind.wrap .i64 (104 + (IntKind.wrap .i64 (128 * v8)))) - Int.toNat (IntKind.wrap .i64 (104 + (IntKind.wrap .i64 (128 * (IntKind.wrap .i64 (v8 - 1))))))) (List.drop (Int.toNat (IntKind.wrap .i64 (104 + (IntKind.wrap .i64 (128 * (IntKind.wrap .i64 (v8 - 1))))))) v1))] : List (List UInt8))), v1, v6, (IntKind.wrap .i64 (v8 + 1)), ad1, cap1) _ _ (Nat.lt_succ_self _) ⟨hk.sub ⟨rfl, rfl, rfl, rfl, trivial⟩, h⟩
        · skip
          refine wp_exit ?_; (repeat first | refine FW.then_exit ?_ | refine FW.block_exit_ne rfl ?_); refine FW.block_exit ?_
          (repeat first | refine FW.then_normal ?_ | refine FW.block_normal ?_); refine hK10 _ _ ?_
          refine FW.wreg ?_; intro K' hK18
          refine FW.lfun (y := .lit (.slice xd1 (List.length l1) xc1)) hk rfl rfl rfl rfl (FW.f_move hk (FW.holds_nil _) rfl) ?_; clear hk; intro a w hk
          refine FW.lfun (y := .lit (.slice xd1 (List.length l1) xc1)) hk rfl rfl rfl rfl (FW.f_assign hk (FW.holds_nil _) rfl) ?_; clear hk; intro a w hk
          refine FW.lend (hK18 _ _ ?_); clear hK18 K'
          refine wp_ret ?_
          (repeat first | refine FW.then_ret ?_ | refine FW.block_ret ?_)
          replace hk := FW.S.freezeR (I' := []) r_c_str_eq hk (j := 0) rfl (t := 4) rfl rfl
          obtain rfl := Option.some.inj h
          exact FW.fret1 hk rfl rfl

theorem offshootlaw04_sectors.ok (K : Nat) (v0 : ODevDev) (v1 : Int) (v2 : Int) (r : List (List UInt8) × ODevDev) (h : offshootlaw04_sectors.f K v0 v1 v2 = some r) :
    ∀ (b0 : Nat) (xd0_0 : Option Addr) (xc0_0 : Nat) (xr0_1 : Nat), FW.OkH Go.Proofs.Try.prog 53 [.lit (.pointer (some ⟨b0, 0, none⟩)), .lit (.int .i64 v1), .lit (.int .i64 v2)] (ODevDev.items b0 xd0_0 xc0_0 xr0_1 v0) (fun y I => ∃ (zxd0_0 : Option Addr) (zxc0_0 : Nat) (zxr0_1 : Nat), y = .row (r_c_str r.1) ∧ I = ODevDev.items b0 zxd0_0 zxc0_0 zxr0_1 r.2) := by
  intro b0 xd0_0 xc0_0 xr0_1
  refine FW.enterH (xs := [.lit (.pointer (some ⟨b0, 0, none⟩)), .lit (.int .i64 v1), .lit (.int .i64 v2)]) Go.Proofs.Try.func53 rfl Go.Proofs.Try.ntmps53 rfl ?_
  intro M w0 a hk
  replace hk : FW.S M w0 a w0.toWorld 29 [FW.blk b0 109 ([.lit (.slice xd0_0 (List.length v0.sure) xc0_0)] ++ [.lit (.map (some xr0_1))] ++ [.lit (.int .i64 v0.steps)] ++ [.lit (.slice none 0 0)] ++ [.lit (.bool v0.off)]), FW.orow xd0_0 xc0_0 9 1 c_str v0.sure, FW.mapI (.int .i64) (Value.int .i64) FW.evS xr0_1 v0.cache] [(0, [], .lit (.pointer (some ⟨b0, 0, none⟩))), (1, [], .lit (.int .i64 v1)), (2, [], .lit (.int .i64 v2))] := hk
  unfold offshootlaw04_sectors.f at h
  refine FW.wreg ?_; intro K' hK1
  refine FW.lfun (y := .row (r_c_str [])) hk rfl rfl rfl rfl (FW.f_assignNil) ?_; clear hk; intro a w hk
  refine FW.lend (hK1 _ _ ?_); clear hK1 K'
  refine FW.wreg ?_; intro K' hK2
  refine FW.l_buildSlice0 (f := c_str) hk rfl rfl Go.Proofs.Try.underlying61 rfl (fun _ => rfl) ?_; clear hk; intro b1 a w hk
  refine FW.lfun (y := .lit (.slice (some ⟨b1, 0, none⟩) (List.length ([] : List (List UInt8))) 0)) hk rfl rfl rfl rfl (FW.f_assign hk (FW.holds_nil _) rfl) ?_; clear hk; intro a w hk
  refine FW.lend (hK2 _ _ ?_); clear hK2 K'
  refine FW.wseq ?_; intro K' hK3
  refine FW.wreg ?_; intro K' hK4
  refine FW.lfun (y := .lit (.int .i64 v1)) hk rfl rfl rfl rfl (FW.f_move hk (FW.holds_nil _) rfl) ?_; clear hk; intro a w hk
  refine FW.lfun (y := .lit (.int .i64 v1)) hk rfl rfl rfl rfl (FW.f_assign hk (FW.holds_nil _) rfl) ?_; clear hk; intro a w hk
  refine FW.lend (hK4 _ _ ?_); clear hK4 K'
  refine wp_block ?_
  refine FW.wloop (T := Nat × List (List UInt8) × Int × Bool × List (List UInt8) × (List (Int × (List UInt8))) × Int × Int × Option Addr × Nat × Option Addr × Nat × Nat) (fun x a w => match x with | (kl1, l4, y1_2, y1_4, l2, m3, v2, v8, xd4, xc4, xd2, xc2, xr3) => FW.S M w0 a w 29 [FW.orow xd4 xc4 9 1 c_str l4, FW.blk b0 109 ([.lit (.slice xd2 (List.length l2) xc2)] ++ [.lit (.map (some xr3))] ++ [.lit (.int .i64 y1_2)] ++ [.lit (.slice none 0 0)] ++ [.lit (.bool y1_4)]), FW.orow xd2 xc2 9 1 c_str l2, FW.mapI (.int .i64) (Value.int .i64) FW.evS xr3 m3] [(0, [], .lit (.pointer (some ⟨b0, 0, none⟩))), (2, [], .lit (.int .i64 v2)), (7, [], .lit (.slice xd4 (List.length l4) xc4)), (8, [], .lit (.int .i64 v8))] ∧ offshootlaw04_sectors.l1 K kl1 l4 y1_2 y1_4 l2 m3 v2 v8 = some r) (fun x => x.1) (K, ([] : List (List UInt8)), v0.steps, v0.off, v0.sure, v0.cache, v2, v1, (some ⟨b1, 0, none⟩), 0, xd0_0, xc0_0, xr0_1) ⟨hk.sub ⟨rfl, rfl, rfl, rfl, trivial⟩, h⟩ ?_
  clear hk h
  rintro ⟨kl1, l4, y1_2, y1_4, l2, m3, v2, v8, xd4, xc4, xd2, xc2, xr3⟩ a w ⟨hk, h⟩ K' hK5
  cases kl1 with
  | zero => simp [offshootlaw04_sectors.l1] at h
  | succ kl1 =>
  rw [offshootlaw04_sectors.l1.eq_2] at h
  refine FW.wseq ?_; intro K' hK6
  refine FW.wreg ?_; intro K' hK7
  refine FW.lfun (y := .lit (.int .i64 v8)) hk rfl rfl rfl rfl (FW.f_move hk (FW.holds_nil _) rfl) ?_; clear hk; intro a w hk
  refine FW.lfun (y := .lit (.int .i64 v2)) hk rfl rfl rfl rfl (FW.f_move hk (FW.holds_nil _) rfl) ?_; clear hk; intro a w hk
  refine FW.lfun (y := .lit (.bool (decide (v8 < v2)))) hk rfl rfl rfl rfl ((FW.f_pure (FW.p_lss hk.kn (FW.holds_nil _) rfl rfl))) ?_; clear hk; intro a w hk
  refine FW.lend (hK7 _ _ ?_); clear hK7 K'
  refine FW.wcondF (b := (decide (v8 < v2))) hk h rfl (fun h hb => ?_) (fun h hb => ?_)
  · skip
    refine wp_skip ?_
    (repeat first | refine FW.then_normal ?_ | refine FW.block_normal ?_); refine hK6 _ _ ?_
    refine FW.wseq ?_; intro K' hK8
    refine wp_block ?_
    refine FW.wreg ?_; intro K' hK9
    refine FW.lfun (y := .lit (.pointer (some ⟨b0, 0, none⟩))) hk rfl rfl rfl rfl (FW.f_move hk (FW.holds_nil _) rfl) ?_; clear hk; intro a w hk
    refine FW.lfun (y := .lit (.int .i64 v8)) hk rfl rfl rfl rfl (FW.f_move hk (FW.holds_nil _) rfl) ?_; clear hk; intro a w hk
    obtain ⟨t1, hr_t1, h⟩ := FW.bnd h
    refine FW.l_callH (I1 := (ODevDev.items b0 xd2 xc2 xr3 (⟨l2, m3, y1_2, y1_4⟩ : ODevDev))) (I2 := [FW.orow xd4 xc4 9 1 c_str l4]) (js := [3, 3, 3]) hk rfl rfl rfl rfl rfl Go.Proofs.Try.func34 rfl (by kernel_rfl) (dev_Dev_Read.ok (⟨l2, m3, y1_2, y1_4⟩ : ODevDev) v8 _ hr_t1 b0 xd2 xc2 xr3) ?_; clear hk
    rintro _ _ ⟨zd1, zc1, zr1, rfl, rfl⟩ a w hk
    refine FW.lfun (y := .tup [.lit (.string (FW.B t1.1)), .lit (.int .i64 t1.2.1)]) hk rfl rfl rfl rfl (FW.f_move hk (FW.holds_nil _) rfl) ?_; clear hk; intro a w hk
    refine FW.lfun (y := .lit (.string (FW.B t1.1))) hk rfl rfl rfl rfl (FW.f_extract hk (FW.holds_nil _) rfl rfl) ?_; clear hk; intro a w hk
    refine FW.lfun (y := .lit (.int .i64 t1.2.1)) hk rfl rfl rfl rfl (FW.f_extract hk (FW.holds_nil _) rfl rfl) ?_; clear hk; intro a w hk
    refine FW.lfun (y := .lit (.string (FW.B t1.1))) hk rfl rfl rfl rfl (FW.f_assign hk (FW.holds_nil _) rfl) ?_; clear hk; intro a w hk
    refine FW.lfun (y := .lit (.int .i64 t1.2.1)) hk rfl rfl rfl rfl (FW.f_assign hk (FW.holds_nil _) rfl) ?_; clear hk; intro a w hk
    refine FW.lend (hK9 _ _ ?_); clear hK9 K'
    refine FW.wreg1 ?_
    refine FW.lfun (y := .lit (.slice xd4 (List.length l4) xc4)) hk rfl rfl rfl rfl (FW.f_move hk (FW.holds_nil _) rfl) ?_; clear hk; intro a w hk
    refine FW.lfun (y := .lit (.string (FW.B t1.1))) hk rfl rfl rfl rfl (FW.f_move hk (FW.holds_nil _) rfl) ?_; clear hk; intro a w hk
    refine FW.l_buildSlice (f := c_str) (l := ([t1.1] : List (List UInt8))) hk rfl rfl rfl Go.Proofs.Try.underlying61 rfl rfl rfl rfl (fun _ => rfl) rfl ?_; clear hk; intro b2 a w hk
    obtain ⟨hc1, h⟩ := FW.chk h
    refine FW.l_append (l2 := ([t1.1] : List (List UInt8))) (l3 := (l4 ++ ([t1.1] : List (List UInt8)))) (I' := fun ad1 cap1 => [FW.orow (some ⟨b2, 0, none⟩) 1 9 1 c_str ([t1.1] : List (List UInt8)), FW.blk b0 109 ([.lit (.slice zd1 (List.length t1.2.2.sure) zc1)] ++ [.lit (.map (some zr1))] ++ [.lit (.int .i64 t1.2.2.steps)] ++ [.lit (.slice none 0 0)] ++ [.lit (.bool t1.2.2.off)]), FW.orow zd1 zc1 9 1 c_str t1.2.2.sure, FW.mapI (.int .i64) (Value.int .i64) FW.evS zr1 t1.2.2.cache, FW.orow ad1 cap1 9 1 c_str (l4 ++ ([t1.1] : List (List UInt8)))]) (j := 4) hk rfl rfl rfl rfl (FW.own_src hk (j := 0) rfl rfl (fun _ => rfl) Go.Proofs.Try.underlying61) Go.Proofs.Try.underlying61 (by kernel_rfl) hc1 rfl (fun _ _ => rfl) ?_; clear hk; intro ad1 cap1 a w hk
    replace hk := FW.S.dropI (I' := [FW.blk b0 109 ([.lit (.slice zd1 (List.length t1.2.2.sure) zc1)] ++ [.lit (.map (some zr1))] ++ [.lit (.int .i64 t1.2.2.steps)] ++ [.lit (.slice none 0 0)] ++ [.lit (.bool t1.2.2.off)]), FW.orow zd1 zc1 9 1 c_str t1.2.2.sure, FW.mapI (.int .i64) (Value.int .i64) FW.evS zr1 t1.2.2.cache, FW.orow ad1 cap1 9 1 c_str (l4 ++ ([t1.1] : List (List UInt8)))]) hk 0 rfl
    refine FW.lfun (y := .lit (.slice ad1 (List.length (l4 ++ ([t1.1] : List (List UInt8)))) cap1)) hk rfl rfl rfl rfl (FW.f_assign hk (FW.holds_nil _) rfl) ?_; clear hk; intro a w hk
    refine wpList_nil ?_
    (repeat first | refine FW.then_normal ?_ | refine FW.block_normal ?_); refine hK8 _ _ ?_
    refine FW.wreg1 ?_
    refine FW.lfun (y := .lit (.int .i64 v8)) hk rfl rfl rfl rfl (FW.f_move hk (FW.holds_nil _) rfl) ?_; clear hk; intro a w hk
    refine FW.lfun (y := .lit (.int .i64 (IntKind.wrap .i64 (v8 + 1)))) hk rfl rfl rfl rfl ((FW.f_pure (FW.p_add hk.kn (FW.holds_nil _) rfl rfl))) ?_; clear hk; intro a w hk
    refine FW.lfun (y := .lit (.int .i64 (IntKind.wrap .i64 (v8 + 1)))) hk rfl rfl rfl rfl (FW.f_assign hk (FW.holds_nil _) rfl) ?_; clear hk; intro a w hk
    refine wpList_nil ?_
    (repeat first | refine FW.then_normal ?_ | refine FW.block_normal ?_); exact hK5 (kl1, (l4 ++ ([t1.1] : List (List UInt8))), t1.2.2.steps, t1.2.2.off, t1.2.2.sure, t1.2.2.cache, v2, (IntKind.wrap .i64 (v8 + 1)), ad1, cap1, zd1, zc1, zr1) _ _ (Nat.lt_succ_self _) ⟨(FW.S.pick hk (js := [2, 2, 2, 3]) rfl).sub ⟨rfl, rfl, rfl, rfl, trivial⟩, h⟩
  · skip
    refine wp_exit ?_; (repeat first | refine FW.then_exit ?_ | refine FW.block_exit_ne rfl ?_); refine FW.block_exit ?_
    (repeat first | refine FW.then_normal ?_ | refine FW.block_normal ?_); refine hK3 _ _ ?_
    refine FW.wreg ?_; intro K' hK12
    refine FW.lfun (y := .lit (.slice xd4 (List.length l4) xc4)) hk rfl rfl rfl rfl (FW.f_move hk (FW.holds_nil _) rfl) ?_; clear hk; intro a w hk
    refine FW.lfun (y := .lit (.slice xd4 (List.length l4) xc4)) hk rfl rfl rfl rfl (FW.f_assign hk (FW.holds_nil _) rfl) ?_; clear hk; intro a w hk
    refine FW.lend (hK12 _ _ ?_); clear hK12 K'
    refine wp_ret ?_
    (repeat first | refine FW.then_ret ?_ | refine FW.block_ret ?_)
    replace hk := FW.S.freezeR (I' := [FW.blk b0 109 ([.lit (.slice xd2 (List.length l2) xc2)] ++ [.lit (.map (some xr3))] ++ [.lit (.int .i64 y1_2)] ++ [.lit (.slice none 0 0)] ++ [.lit (.bool y1_4)]), FW.orow xd2 xc2 9 1 c_str l2, FW.mapI (.int .i64) (Value.int .i64) FW.evS xr3 m3]) r_c_str_eq hk (j := 0) rfl (t := 6) rfl rfl
    obtain rfl := Option.some.inj h
    replace hk := FW.S.keep (I1 := [FW.blk b0 109 ([.lit (.slice xd2 (List.length l2) xc2)] ++ [.lit (.map (some xr3))] ++ [.lit (.int .i64 y1_2)] ++ [.lit (.slice none 0 0)] ++ [.lit (.bool y1_4)]), FW.orow xd2 xc2 9 1 c_str l2, FW.mapI (.int .i64) (Value.int .i64) FW.evS xr3 m3]) (I2 := []) (js := [2, 2, 2]) hk rfl
    exact FW.fretH1 hk rfl (FW.rtmp hk rfl) ⟨xd2, xc2, xr3, rfl, rfl⟩

theorem offshootlaw04_same.ok (K : Nat) (v0 : List (List UInt8)) (v1 : List (List UInt8)) (r : Bool) (h : offshootlaw04_same.f K v0 v1 = some r) :
    FW.Ok Go.Proofs.Try.prog 52 [.row (r_c_str v0), .row (r_c_str v1)] (.lit (.bool r)) := by
  refine FW.enter (xs := [.row (r_c_str v0), .row (r_c_str v1)]) Go.Proofs.Try.func52 rfl Go.Proofs.Try.ntmps52 rfl ?_
  intro M w0 a hk
  unfold offshootlaw04_same.f at h
  refine FW.wreg ?_; intro K' hK1
  refine FW.lfun (y := .lit (.bool false)) hk rfl rfl rfl rfl (FW.f_assign hk (FW.holds_nil _) rfl) ?_; clear hk; intro a w hk
  refine FW.lend (hK1 _ _ ?_); clear hK1 K'
  refine FW.wseq ?_; intro K' hK2
  refine FW.wreg ?_; intro K' hK3
  refine FW.lfun (y := .row (r_c_str v0)) hk rfl rfl rfl rfl (FW.f_move hk (FW.holds_nil _) rfl) ?_; clear hk; intro a w hk
  refine FW.lfun (y := .lit (.int .i64 (List.length v0 : Int))) hk rfl rfl rfl rfl (FW.f_len (R := r_c_str) (f := c_str) (l := v0) r_c_str_eq Go.Proofs.Try.underlying61 hk (FW.holds_nil _) rfl) ?_; clear hk; intro a w hk
  refine FW.lfun (y := .row (r_c_str v1)) hk rfl rfl rfl rfl (FW.f_move hk (FW.holds_nil _) rfl) ?_; clear hk; intro a w hk
  refine FW.lfun (y := .lit (.int .i64 (List.length v1 : Int))) hk rfl rfl rfl rfl (FW.f_len (R := r_c_str) (f := c_str) (l := v1) r_c_str_eq Go.Proofs.Try.underlying61 hk (FW.holds_nil _) rfl) ?_; clear hk; intro a w hk
  refine FW.lfun (y := .lit (.bool (!decide ((List.length v0 : Int) = (List.length v1 : Int))))) hk rfl rfl rfl rfl ((FW.f_pure (FW.p_neq hk.kn (FW.holds_nil _) rfl rfl))) ?_; clear hk; intro a w hk
  refine FW.lend (hK3 _ _ ?_); clear hK3 K'
  refine FW.wcondF (b := (!decide ((List.length v0 : Int) = (List.length v1 : Int)))) hk h rfl (fun h hb => ?_) (fun h hb => ?_)
  · skip
    refine FW.wreg ?_; intro K' hK4
    refine FW.lfun (y := .lit (.bool false)) hk rfl rfl rfl rfl (FW.f_assign hk (FW.holds_nil _) rfl) ?_; clear hk; intro a w hk
    refine FW.lend (hK4 _ _ ?_); clear hK4 K'
    refine wp_ret ?_
    (repeat first | refine FW.then_ret ?_ | refine FW.block_ret ?_)
    obtain rfl := Option.some.inj h
    exact FW.fret1 hk rfl rfl
  · skip
    refine wp_skip ?_
    (repeat first | refine FW.then_normal ?_ | refine FW.block_normal ?_); refine hK2 _ _ ?_
    refine FW.wseq ?_; intro K' hK5
    refine FW.wreg ?_; intro K' hK6
    refine FW.lfun (y := .lit (.int .i64 0)) hk rfl rfl rfl rfl (FW.f_assign hk (FW.holds_nil _) rfl) ?_; clear hk; intro a w hk
    refine FW.lend (hK6 _ _ ?_); clear hK6 K'
    refine wp_block ?_
    refine FW.wloop (T := Nat × List (List UInt8) × List (List UInt8) × Int) (fun x a w => match x with | (kl1, v0, v1, v5) => FW.S M w0 a w 26 [] [(0, [], .row (r_c_str v0)), (1, [], .row (r_c_str v1)), (5, [], .lit (.int .i64 v5))] ∧ offshootlaw04_same.l1 K kl1 v0 v1 v5 = some r) (fun x => x.1) (K, v0, v1, 0) ⟨hk.sub ⟨rfl, rfl, rfl, trivial⟩, h⟩ ?_
    clear hk h
    rintro ⟨kl1, v0, v1, v5⟩ a w ⟨hk, h⟩ K' hK7
    cases kl1 with
    | zero => simp [offshootlaw04_same.l1] at h
    | succ kl1 =>
    rw [offshootlaw04_same.l1.eq_2] at h
    refine FW.wseq ?_; intro K' hK8
    refine FW.wreg ?_; intro K' hK9
    refine FW.lfun (y := .lit (.int .i64 v5)) hk rfl rfl rfl rfl (FW.f_move hk (FW.holds_nil _) rfl) ?_; clear hk; intro a w hk
    refine FW.lfun (y := .row (r_c_str v0)) hk rfl rfl rfl rfl (FW.f_move hk (FW.holds_nil _) rfl) ?_; clear hk; intro a w hk
    refine FW.lfun (y := .lit (.int .i64 (List.length v0 : Int))) hk rfl rfl rfl rfl (FW.f_len (R := r_c_str) (f := c_str) (l := v0) r_c_str_eq Go.Proofs.Try.underlying61 hk (FW.holds_nil _) rfl) ?_; clear hk; intro a w hk
    refine FW.lfun (y := .lit (.bool (decide (v5 < (List.length v0 : Int))))) hk rfl rfl rfl rfl ((FW.f_pure (FW.p_lss hk.kn (FW.holds_nil _) rfl rfl))) ?_; clear hk; intro a w hk
    refine FW.lend (hK9 _ _ ?_); clear hK9 K'
    refine FW.wcondF (b := (decide (v5 < (List.length v0 : Int)))) hk h rfl (fun h hb => ?_) (fun h hb => ?_)
    · skip
      refine wp_skip ?_
      (repeat first | refine FW.then_normal ?_ | refine FW.block_normal ?_); refine hK8 _ _ ?_
      refine FW.wseq ?_; intro K' hK10
      refine wp_block ?_
      obtain ⟨hc1, h⟩ := FW.chk h
      obtain ⟨hc2, h⟩ := FW.chk h
      refine FW.wdraw (by kernel_rfl) (by kernel_rfl) hk ?_; clear hk
      refine FW.dfun (y := .row (r_c_str v0)) rfl rfl rfl rfl (fun a w hk => FW.f_move hk (FW.holds_nil _) rfl) ?_
      refine FW.dfun (y := .lit (.int .i64 v5)) rfl rfl rfl rfl (fun a w hk => FW.f_move hk (FW.holds_nil _) rfl) ?_
      refine FW.dfun (y := .ref (c_str (List.getD v0 (Int.toNat v5) default))) rfl rfl rfl rfl (fun a w hk => FW.f_indexAddr (R := r_c_str) (f := c_str) (l := v0) (sz := 1) r_c_str_eq (fun _ => rfl) hk (FW.holds_nil _) rfl rfl Go.Proofs.Try.underlying61 (by kernel_rfl) hc1) ?_
      refine FW.dfun (y := .lit (.string (FW.B (List.getD v0 (Int.toNat v5) default)))) rfl rfl rfl rfl (fun a w hk => FW.f_load1 hk (FW.holds_nil _) rfl rfl Go.Proofs.Try.underlying9 rfl) ?_
      refine FW.dfun (y := .row (r_c_str v1)) rfl rfl rfl rfl (fun a w hk => FW.f_move hk (FW.holds_nil _) rfl) ?_
      refine FW.dfun (y := .lit (.int .i64 v5)) rfl rfl rfl rfl (fun a w hk => FW.f_move hk (FW.holds_nil _) rfl) ?_
      refine FW.dfun (y := .ref (c_str (List.getD v1 (Int.toNat v5) default))) rfl rfl rfl rfl (fun a w hk => FW.f_indexAddr (R := r_c_str) (f := c_str) (l := v1) (sz := 1) r_c_str_eq (fun _ => rfl) hk (FW.holds_nil _) rfl rfl Go.Proofs.Try.underlying61 (by kernel_rfl) hc2) ?_
      refine FW.dfun (y := .lit (.string (FW.B (List.getD v1 (Int.toNat v5) default)))) rfl rfl rfl rfl (fun a w hk => FW.f_load1 hk (FW.holds_nil _) rfl rfl Go.Proofs.Try.underlying9 rfl) ?_
      refine FW.dfun (y := .lit (.bool (!decide ((List.getD v0 (Int.toNat v5) default) = (List.getD v1 (Int.toNat v5) default))))) rfl rfl rfl rfl (fun a w hk => (FW.f_pure (FW.p_sneq hk.kn (FW.holds_nil _) rfl rfl))) ?_
      refine FW.dend ?_; intro a w hk
      refine FW.wcondF (b := (!decide ((List.getD v0 (Int.toNat v5) default) = (List.getD v1 (Int.toNat v5) default)))) hk h rfl (fun h hb => ?_) (fun h hb => ?_)
      · skip
        refine FW.wreg ?_; intro K' hK12
        refine FW.lfun (y := .lit (.bool false)) hk rfl rfl rfl rfl (FW.f_assign hk (FW.holds_nil _) rfl) ?_; clear hk; intro a w hk
        refine FW.lend (hK12 _ _ ?_); clear hK12 K'
        refine wp_ret ?_
        (repeat first | refine FW.then_ret ?_ | refine FW.block_ret ?_)
        obtain rfl := Option.some.inj h
        exact FW.fret1 hk rfl rfl
      · skip
        refine wp_skip ?_
        (repeat first | refine FW.then_normal ?_ | refine FW.block_normal ?_); refine hK10 _ _ ?_
        refine FW.wreg1 ?_
        refine FW.lfun (y := .lit (.int .i64 v5)) hk rfl rfl rfl rfl (FW.f_move hk (FW.holds_nil _) rfl) ?_; clear hk; intro a w hk
        refine FW.lfun (y := .lit (.int .i64 (IntKind.wrap .i64 (v5 + 1)))) hk rfl rfl rfl rfl ((FW.f_pure (FW.p_add hk.kn (FW.holds_nil _) rfl rfl))) ?_; clear hk; intro a w hk
        refine FW.lfun (y := .lit (.int .i64 (IntKind.wrap .i64 (v5 + 1)))) hk rfl rfl rfl rfl (FW.f_assign hk (FW.holds_nil _) rfl) ?_; clear hk; intro a w hk
        refine wpList_nil ?_
        (repeat first | refine FW.then_normal ?_ | refine FW.block_normal ?_); exact hK7 (kl1, v0, v1, (IntKind.wrap .i64 (v5 + 1))) _ _ (Nat.lt_succ_self _) ⟨hk.sub ⟨rfl, rfl, rfl, trivial⟩, h⟩
    · skip
      refine wp_exit ?_; (repeat first | refine FW.then_exit ?_ | refine FW.block_exit_ne rfl ?_); refine FW.block_exit ?_
      (repeat first | refine FW.then_normal ?_ | refine FW.block_normal ?_); refine hK5 _ _ ?_
      refine FW.wreg ?_; intro K' hK14
      refine FW.lfun (y := .lit (.bool true)) hk rfl rfl rfl rfl (FW.f_assign hk (FW.holds_nil _) rfl) ?_; clear hk; intro a w hk
      refine FW.lend (hK14 _ _ ?_); clear hK14 K'
      refine wp_ret ?_
      (repeat first | refine FW.then_ret ?_ | refine FW.block_ret ?_)
      obtain rfl := Option.some.inj h
      exact FW.fret1 hk rfl rfl

theorem offshootlaw04_LogPlays.ok (K : Nat) (v0 : List (List UInt8)) (v1 : Int) (v2 : Int) (r : Bool) (h : offshootlaw04_LogPlays.f K v0 v1 v2 = some r) :
    FW.Ok Go.Proofs.Try.prog 11 [.row (r_c_str v0), .lit (.int .i64 v1), .lit (.int .i64 v2)] (.lit (.bool r)) := by
  refine FW.enter (xs := [.row (r_c_str v0), .lit (.int .i64 v1), .lit (.int .i64 v2)]) Go.Proofs.Try.func11 rfl Go.Proofs.Try.ntmps11 rfl ?_
  intro M w0 a hk
  unfold offshootlaw04_LogPlays.f at h
  refine FW.wreg ?_; intro K' hK1
  refine FW.lfun (y := .lit (.bool false)) hk rfl rfl rfl rfl (FW.f_assign hk (FW.holds_nil _) rfl) ?_; clear hk; intro a w hk
  refine FW.lend (hK1 _ _ ?_); clear hK1 K'
  refine FW.wreg ?_; intro K' hK2
  refine FW.lfun (y := .lit (.int .i64 v1)) hk rfl rfl rfl rfl (FW.f_move hk (FW.holds_nil _) rfl) ?_; clear hk; intro a w hk
  refine FW.lfun (y := .lit (.int .i64 (FW.andI .i64 v1 31))) hk rfl rfl rfl rfl ((FW.f_pure (FW.p_and hk.kn (FW.holds_nil _) rfl rfl))) ?_; clear hk; intro a w hk
  refine FW.lfun (y := .lit (.int .i64 (IntKind.wrap .i64 (2 + (FW.andI .i64 v1 31))))) hk rfl rfl rfl rfl ((FW.f_pure (FW.p_add hk.kn (FW.holds_nil _) rfl rfl))) ?_; clear hk; intro a w hk
  refine FW.lfun (y := .lit (.int .i64 (IntKind.wrap .i64 (2 + (FW.andI .i64 v1 31))))) hk rfl rfl rfl rfl (FW.f_assign hk (FW.holds_nil _) rfl) ?_; clear hk; intro a w hk
  refine FW.lend (hK2 _ _ ?_); clear hK2 K'
  refine FW.wreg ?_; intro K' hK3
  refine FW.lfun (y := .lit (.int .i64 (IntKind.wrap .i64 (2 + (FW.andI .i64 v1 31))))) hk rfl rfl rfl rfl (FW.f_move hk (FW.holds_nil _) rfl) ?_; clear hk; intro a w hk
  refine FW.lfun (y := .lit (.int .i64 (IntKind.wrap .i64 ((IntKind.wrap .i64 (2 + (FW.andI .i64 v1 31))) + 2)))) hk rfl rfl rfl rfl ((FW.f_pure (FW.p_add hk.kn (FW.holds_nil _) rfl rfl))) ?_; clear hk; intro a w hk
  obtain ⟨t1, hr_t1, h⟩ := FW.bnd h
  refine FW.l_callH (I1 := ([] : List FW.It)) (I2 := []) (js := []) hk rfl rfl rfl rfl rfl Go.Proofs.Try.func27 rfl (by kernel_rfl) (dev_New.ok K (IntKind.wrap .i64 ((IntKind.wrap .i64 (2 + (FW.andI .i64 v1 31))) + 2)) _ hr_t1 ) ?_; clear hk
  rintro _ _ ⟨b1, xdNt1_0_0, xcNt1_0_0, xrNt1_0_1, rfl, rfl⟩ a w hk
  refine FW.lfun (y := .tup [.lit (.pointer (some ⟨b1, 0, none⟩)), .lit (.int .i64 t1.2)]) hk rfl rfl rfl rfl (FW.f_move hk (FW.holds_nil _) rfl) ?_; clear hk; intro a w hk
  refine FW.lfun (y := .lit (.pointer (some ⟨b1, 0, none⟩))) hk rfl rfl rfl rfl (FW.f_extract hk (FW.holds_nil _) rfl rfl) ?_; clear hk; intro a w hk
  refine FW.lfun (y := .lit (.int .i64 t1.2)) hk rfl rfl rfl rfl (FW.f_extract hk (FW.holds_nil _) rfl rfl) ?_; clear hk; intro a w hk
  refine FW.lfun (y := .lit (.pointer (some ⟨b1, 0, none⟩))) hk rfl rfl rfl rfl (FW.f_assign hk (FW.holds_nil _) rfl) ?_; clear hk; intro a w hk
  refine FW.lfun (y := .lit (.int .i64 t1.2)) hk rfl rfl rfl rfl (FW.f_assign hk (FW.holds_nil _) rfl) ?_; clear hk; intro a w hk
  refine FW.lend (hK3 _ _ ?_); clear hK3 K'
  refine FW.wreg ?_; intro K' hK4
  refine FW.lfun (y := .lit (.pointer (some ⟨b1, 0, none⟩))) hk rfl rfl rfl rfl (FW.f_move hk (FW.holds_nil _) rfl) ?_; clear hk; intro a w hk
  refine FW.lfun (y := .lit (.int .i64 (IntKind.wrap .i64 (2 + (FW.andI .i64 v1 31))))) hk rfl rfl rfl rfl (FW.f_move hk (FW.holds_nil _) rfl) ?_; clear hk; intro a w hk
  refine FW.lfun (y := .lit (.int .i64 (IntKind.wrap .i64 ((IntKind.wrap .i64 (2 + (FW.andI .i64 v1 31))) + 1)))) hk rfl rfl rfl rfl ((FW.f_pure (FW.p_add hk.kn (FW.holds_nil _) rfl rfl))) ?_; clear hk; intro a w hk
  obtain ⟨t2, hr_t2, h⟩ := FW.bnd h
  refine FW.l_callH (I1 := (ODevDev.items b1 xdNt1_0_0 xcNt1_0_0 xrNt1_0_1 t1.1)) (I2 := []) (js := [2, 2, 2]) hk rfl rfl rfl rfl rfl Go.Proofs.Try.func47 rfl (by kernel_rfl) (log_Open.ok K t1.1 1 (IntKind.wrap .i64 ((IntKind.wrap .i64 (2 + (FW.andI .i64 v1 31))) + 1)) 7 _ hr_t2 b1 xdNt1_0_0 xcNt1_0_0 xrNt1_0_1) ?_; clear hk
  rintro _ _ ⟨b2, zd1, zc1, zr1, rfl, rfl⟩ a w hk
  refine FW.lfun (y := .tup [.lit (.pointer (some ⟨b2, 0, none⟩)), .row (r_c_str t2.2.1), .lit (.int .i64 t2.2.2.1)]) hk rfl rfl rfl rfl (FW.f_move hk (FW.holds_nil _) rfl) ?_; clear hk; intro a w hk
  refine FW.lfun (y := .lit (.pointer (some ⟨b2, 0, none⟩))) hk rfl rfl rfl rfl (FW.f_extract hk (FW.holds_nil _) rfl rfl) ?_; clear hk; intro a w hk
  refine FW.lfun (y := .row (r_c_str t2.2.1)) hk rfl rfl rfl rfl (FW.f_extract hk (FW.holds_nil _) rfl rfl) ?_; clear hk; intro a w hk
  refine FW.lfun (y := .lit (.int .i64 t2.2.2.1)) hk rfl rfl rfl rfl (FW.f_extract hk (FW.holds_nil _) rfl rfl) ?_; clear hk; intro a w hk
  refine FW.lfun (y := .lit (.pointer (some ⟨b2, 0, none⟩))) hk rfl rfl rfl rfl (FW.f_assign hk (FW.holds_nil _) rfl) ?_; clear hk; intro a w hk
  refine FW.lfun (y := .row (r_c_str t2.2.1)) hk rfl rfl rfl rfl (FW.f_assign hk (FW.holds_nil _) rfl) ?_; clear hk; intro a w hk
  refine FW.lfun (y := .lit (.int .i64 t2.2.2.1)) hk rfl rfl rfl rfl (FW.f_assign hk (FW.holds_nil _) rfl) ?_; clear hk; intro a w hk
  refine FW.lend (hK4 _ _ ?_); clear hK4 K'
  refine FW.wseq ?_; intro K' hK5
  refine FW.wreg ?_; intro K' hK6
  obtain ⟨t3, hr_t3, h⟩ := FW.bnd h
  refine FW.lfun (y := .lit (.bool t3)) hk rfl rfl rfl rfl (FW.f_call hk (FW.holds_nil _) rfl rfl Go.Proofs.Try.func44 rfl (by kernel_rfl) (offshootlaw04_awake.ok K  _ hr_t3)) ?_; clear hk; intro a w hk
  refine FW.lfun (y := .lit (.bool (!t3))) hk rfl rfl rfl rfl ((FW.f_pure (FW.p_not hk.kn (FW.holds_nil _) rfl))) ?_; clear hk; intro a w hk
  refine FW.lfun (y := .lit (.bool (!t3))) hk rfl rfl rfl rfl (FW.f_move hk (FW.holds_nil _) rfl) ?_; clear hk; intro a w hk
  refine FW.lfunG (y := .lit (.int .i64 t1.2)) hk rfl rfl rfl rfl rfl rfl rfl rfl (fun hc => FW.f_move hk hc rfl) ?_; clear hk; intro a w hk
  refine FW.lfunG (y := .lit (.bool (!decide (t1.2 = 0)))) hk rfl rfl rfl rfl rfl rfl rfl rfl (fun hc => (FW.f_pure (FW.p_neq hk.kn hc rfl rfl))) ?_; clear hk; intro a w hk
  refine FW.lfun (y := .lit (.bool ((!t3) || (!decide (t1.2 = 0))))) hk rfl rfl rfl rfl ((FW.f_pure (FW.p_pick_or hk.kn (FW.holds_nil _) rfl rfl))) ?_; clear hk; intro a w hk
  refine FW.lfun (y := .lit (.bool ((!t3) || (!decide (t1.2 = 0))))) hk rfl rfl rfl rfl (FW.f_move hk (FW.holds_nil _) rfl) ?_; clear hk; intro a w hk
  refine FW.lfunG (y := .lit (.int .i64 t2.2.2.1)) hk rfl rfl rfl rfl rfl rfl rfl rfl (fun hc => FW.f_move hk hc rfl) ?_; clear hk; intro a w hk
  refine FW.lfunG (y := .lit (.bool (!decide (t2.2.2.1 = 0)))) hk rfl rfl rfl rfl rfl rfl rfl rfl (fun hc => (FW.f_pure (FW.p_neq hk.kn hc rfl rfl))) ?_; clear hk; intro a w hk
  refine FW.lfun (y := .lit (.bool (((!t3) || (!decide (t1.2 = 0))) || (!decide (t2.2.2.1 = 0))))) hk rfl rfl rfl rfl ((FW.f_pure (FW.p_pick_or hk.kn (FW.holds_nil _) rfl rfl))) ?_; clear hk; intro a w hk
  refine FW.lend (hK6 _ _ ?_); clear hK6 K'
  refine FW.wcondF (b := (((!t3) || (!decide (t1.2 = 0))) || (!decide (t2.2.2.1 = 0)))) hk h rfl (fun h hb => ?_) (fun h hb => ?_)
  · skip
    refine FW.wreg ?_; intro K' hK7
    refine FW.lfun (y := .lit (.bool false)) hk rfl rfl rfl rfl (FW.f_assign hk (FW.holds_nil _) rfl) ?_; clear hk; intro a w hk
    refine FW.lend (hK7 _ _ ?_); clear hK7 K'
    refine wp_ret ?_
    (repeat first | refine FW.then_ret ?_ | refine FW.block_ret ?_)
    obtain rfl := Option.some.inj h
    exact FW.fret1 hk rfl rfl
  · skip
    refine wp_skip ?_
    (repeat first | refine FW.then_normal ?_ | refine FW.block_normal ?_); refine hK5 _ _ ?_
    refine FW.wreg ?_; intro K' hK8
    refine FW.l_buildSlice0 (f := c_str) hk rfl rfl Go.Proofs.Try.underlying61 rfl (fun _ => rfl) ?_; clear hk; intro b3 a w hk
    refine FW.lfun (y := .lit (.int .i64 (IntKind.wrap .i64 (2 + (FW.andI .i64 v1 31))))) hk rfl rfl rfl rfl (FW.f_move hk (FW.holds_nil _) rfl) ?_; clear hk; intro a w hk
    refine FW.lfun (y := .lit (.slice (some ⟨b3, 0, none⟩) (List.length ([] : List (List UInt8))) 0)) hk rfl rfl rfl rfl (FW.f_assign hk (FW.holds_nil _) rfl) ?_; clear hk; intro a w hk
    refine FW.lfun (y := .lit (.int .i64 (IntKind.wrap .i64 (2 + (FW.andI .i64 v1 31))))) hk rfl rfl rfl rfl (FW.f_assign hk (FW.holds_nil _) rfl) ?_; clear hk; intro a w hk
    refine FW.lfun (y := .lit (.int .u64 7)) hk rfl rfl rfl rfl (FW.f_assign hk (FW.holds_nil _) rfl) ?_; clear hk; intro a w hk
    refine FW.lfun (y := .lit (.int .u64 7)) hk rfl rfl rfl rfl (FW.f_assign hk (FW.holds_nil _) rfl) ?_; clear hk; intro a w hk
    refine FW.lend (hK8 _ _ ?_); clear hK8 K'
    refine FW.wseq ?_; intro K' hK9
    refine FW.wreg ?_; intro K' hK10
    refine FW.lfun (y := .lit (.int .i64 0)) hk rfl rfl rfl rfl (FW.f_assign hk (FW.holds_nil _) rfl) ?_; clear hk; intro a w hk
    refine FW.lend (hK10 _ _ ?_); clear hK10 K'
    refine wp_block ?_
    refine FW.wloop (T := Nat × List (List UInt8) × Int × Int × Int × Int × Int × Bool × List (List UInt8) × (List (Int × (List UInt8))) × List (List UInt8) × Int × Int × Int × Int × Int × Int × Option Addr × Nat × Option Addr × Nat × Nat) (fun x a w => match x with | (kl1, l5, y4_1, y4_2, y4_3, y4_4, y1_2, y1_4, l2, m3, v0, v2, v7, v14, v15, v16, v17, xd5, xc5, xd2, xc2, xr3) => FW.S M w0 a w 178 [FW.orow xd5 xc5 9 1 c_str l5, FW.blk b2 127 ([.lit (.pointer (some ⟨b1, 0, none⟩))] ++ [.lit (.int .i64 y4_1)] ++ [.lit (.int .i64 y4_2)] ++ [.lit (.int .i64 y4_3)] ++ [.lit (.int .u64 y4_4)]), FW.blk b1 109 ([.lit (.slice xd2 (List.length l2) xc2)] ++ [.lit (.map (some xr3))] ++ [.lit (.int .i64 y1_2)] ++ [.lit (.slice none 0 0)] ++ [.lit (.bool y1_4)]), FW.orow xd2 xc2 9 1 c_str l2, FW.mapI (.int .i64) (Value.int .i64) FW.evS xr3 m3] [(0, [], .row (r_c_str v0)), (2, [], .lit (.int .i64 v2)), (7, [], .lit (.int .i64 v7)), (8, [], .lit (.pointer (some ⟨b1, 0, none⟩))), (10, [], .lit (.pointer (some ⟨b2, 0, none⟩))), (13, [], .lit (.slice xd5 (List.length l5) xc5)), (14, [], .lit (.int .i64 v14)), (15, [], .lit (.int .u64 v15)), (16, [], .lit (.int .u64 v16)), (17, [], .lit (.int .i64 v17))] ∧ offshootlaw04_LogPlays.l1 K kl1 l5 y4_1 y4_2 y4_3 y4_4 y1_2 y1_4 l2 m3 v0 v2 v7 v14 v15 v16 v17 = some r) (fun x => x.1) (K, ([] : List (List UInt8)), t2.1.from_, t2.1.to_, t2.1.at_, t2.1.next, t2.2.2.2.steps, t2.2.2.2.off, t2.2.2.2.sure, t2.2.2.2.cache, v0, v2, (IntKind.wrap .i64 (2 + (FW.andI .i64 v1 31))), (IntKind.wrap .i64 (2 + (FW.andI .i64 v1 31))), 7, 7, 0, (some ⟨b3, 0, none⟩), 0, zd1, zc1, zr1) ⟨hk.sub ⟨rfl, rfl, rfl, rfl, rfl, rfl, rfl, rfl, rfl, rfl, trivial⟩, h⟩ ?_
    clear hk h
    rintro ⟨kl1, l5, y4_1, y4_2, y4_3, y4_4, y1_2, y1_4, l2, m3, v0, v2, v7, v14, v15, v16, v17, xd5, xc5, xd2, xc2, xr3⟩ a w ⟨hk, h⟩ K' hK11
    cases kl1 with
    | zero => simp [offshootlaw04_LogPlays.l1] at h
    | succ kl1 =>
    rw [offshootlaw04_LogPlays.l1.eq_2] at h
    refine FW.wseq ?_; intro K' hK12
    refine FW.wreg ?_; intro K' hK13
    refine FW.lfun (y := .lit (.int .i64 v17)) hk rfl rfl rfl rfl (FW.f_move hk (FW.holds_nil _) rfl) ?_; clear hk; intro a w hk
    refine FW.lfun (y := .row (r_c_str v0)) hk rfl rfl rfl rfl (FW.f_move hk (FW.holds_nil _) rfl) ?_; clear hk; intro a w hk
    refine FW.lfun (y := .lit (.int .i64 (List.length v0 : Int))) hk rfl rfl rfl rfl (FW.f_len (R := r_c_str) (f := c_str) (l := v0) r_c_str_eq Go.Proofs.Try.underlying61 hk (FW.holds_nil _) rfl) ?_; clear hk; intro a w hk
    refine FW.lfun (y := .lit (.bool (decide (v17 < (List.length v0 : Int))))) hk rfl rfl rfl rfl ((FW.f_pure (FW.p_lss hk.kn (FW.holds_nil _) rfl rfl))) ?_; clear hk; intro a w hk
    refine FW.lfun (y := .lit (.bool (decide (v17 < (List.length v0 : Int))))) hk rfl rfl rfl rfl (FW.f_move hk (FW.holds_nil _) rfl) ?_; clear hk; intro a w hk
    refine FW.lfunG (y := .lit (.int .i64 v17)) hk rfl rfl rfl rfl rfl rfl rfl rfl (fun hc => FW.f_move hk hc rfl) ?_; clear hk; intro a w hk
    refine FW.lfunG (y := .lit (.bool (decide (v17 < 12)))) hk rfl rfl rfl rfl rfl rfl rfl rfl (fun hc => (FW.f_pure (FW.p_lss hk.kn hc rfl rfl))) ?_; clear hk; intro a w hk
    refine FW.lfun (y := .lit (.bool ((decide (v17 < (List.length v0 : Int))) && (decide (v17 < 12))))) hk rfl rfl rfl rfl ((FW.f_pure (FW.p_pick_and hk.kn (FW.holds_nil _) rfl rfl))) ?_; clear hk; intro a w hk
    refine FW.lend (hK13 _ _ ?_); clear hK13 K'
    refine FW.wcondF (b := ((decide (v17 < (List.length v0 : Int))) && (decide (v17 < 12)))) hk h rfl (fun h hb => ?_) (fun h hb => ?_)
    · skip
      refine wp_skip ?_
      (repeat first | refine FW.then_normal ?_ | refine FW.block_normal ?_); refine hK12 _ _ ?_
      refine FW.wseq ?_; intro K' hK14
      refine wp_block ?_
      refine FW.wseqJ (fun a w => ∃ (l6 : List (List UInt8)) (y4_1 : Int) (y4_2 : Int) (y4_3 : Int) (y4_4 : Int) (y1_2 : Int) (y1_4 : Bool) (l2 : List (List UInt8)) (m3 : List (Int × (List UInt8))) (v0 : List (List UInt8)) (v2 : Int) (v7 : Int) (v14 : Int) (v15 : Int) (v16 : Int) (v17 : Int) (xd6 : Option Addr) (xc6 : Nat) (xd2 : Option Addr) (xc2 : Nat) (xr3 : Nat), FW.S M w0 a w 178 [FW.orow xd6 xc6 9 1 c_str l6, FW.blk b2 127 ([.lit (.pointer (some ⟨b1, 0, none⟩))] ++ [.lit (.int .i64 y4_1)] ++ [.lit (.int .i64 y4_2)] ++ [.lit (.int .i64 y4_3)] ++ [.lit (.int .u64 y4_4)]), FW.blk b1 109 ([.lit (.slice xd2 (List.length l2) xc2)] ++ [.lit (.map (some xr3))] ++ [.lit (.int .i64 y1_2)] ++ [.lit (.slice none 0 0)] ++ [.lit (.bool y1_4)]), FW.orow xd2 xc2 9 1 c_str l2, FW.mapI (.int .i64) (Value.int .i64) FW.evS xr3 m3] [(0, [], .row (r_c_str v0)), (2, [], .lit (.int .i64 v2)), (7, [], .lit (.int .i64 v7)), (8, [], .lit (.pointer (some ⟨b1, 0, none⟩))), (10, [], .lit (.pointer (some ⟨b2, 0, none⟩))), (13, [], .lit (.slice xd6 (List.length l6) xc6)), (14, [], .lit (.int .i64 v14)), (15, [], .lit (.int .u64 v15)), (16, [], .lit (.int .u64 v16)), (17, [], .lit (.int .i64 v17))] ∧ offshootlaw04_LogPlays.j1 (offshootlaw04_LogPlays.l1 K kl1) K l6 y4_1 y4_2 y4_3 y4_4 y1_2 y1_4 l2 m3 v0 v2 v7 v14 v15 v16 v17 = some r) ?_ ?_
      · clear hk h
        rintro a w ⟨l6, y4_1, y4_2, y4_3, y4_4, y1_2, y1_4, l2, m3, v0, v2, v7, v14, v15, v16, v17, xd6, xc6, xd2, xc2, xr3, hk, h⟩
        unfold offshootlaw04_LogPlays.j1 at h
        refine FW.wreg ?_; intro K' hK16
        refine FW.lfun (y := .row (r_c_str v0)) hk rfl rfl rfl rfl (FW.f_move hk (FW.holds_nil _) rfl) ?_; clear hk; intro a w hk
        refine FW.lfun (y := .lit (.int .i64 v17)) hk rfl rfl rfl rfl (FW.f_move hk (FW.holds_nil _) rfl) ?_; clear hk; intro a w hk
        obtain ⟨hc1, h⟩ := FW.chk h
        refine FW.lfun (y := .ref (c_str (List.getD v0 (Int.toNat v17) default))) hk rfl rfl rfl rfl (FW.f_indexAddr (R := r_c_str) (f := c_str) (l := v0) (sz := 1) r_c_str_eq (fun _ => rfl) hk (FW.holds_nil _) rfl rfl Go.Proofs.Try.underlying61 (by kernel_rfl) hc1) ?_; clear hk; intro a w hk
        refine FW.lfun (y := .lit (.string (FW.B (List.getD v0 (Int.toNat v17) default)))) hk rfl rfl rfl rfl (FW.f_load1 hk (FW.holds_nil _) rfl rfl Go.Proofs.Try.underlying9 rfl) ?_; clear hk; intro a w hk
        obtain ⟨t4, hr_t4, h⟩ := FW.bnd h
        refine FW.lfun (y := .lit (.string (FW.B t4))) hk rfl rfl rfl rfl (FW.f_call hk (FW.holds_nil _) rfl rfl Go.Proofs.Try.func49 rfl (by kernel_rfl) (offshootlaw04_few.ok (List.getD v0 (Int.toNat v17) default) _ hr_t4)) ?_; clear hk; intro a w hk
        refine FW.lfun (y := .lit (.string (FW.B t4))) hk rfl rfl rfl rfl (FW.f_assign hk (FW.holds_nil _) rfl) ?_; clear hk; intro a w hk
        refine FW.lend (hK16 _ _ ?_); clear hK16 K'
        refine FW.wreg ?_; intro K' hK17
        refine FW.lfun (y := .lit (.string (FW.B t4))) hk rfl rfl rfl rfl (FW.f_move hk (FW.holds_nil _) rfl) ?_; clear hk; intro a w hk
        refine FW.lfun (y := .lit (.int .i64 (List.length t4 : Int))) hk rfl rfl rfl rfl ((FW.f_pure (FW.p_slen Go.Proofs.Try.underlying9 hk.kn (FW.holds_nil _) rfl))) ?_; clear hk; intro a w hk
        obtain ⟨t5, hr_t5, h⟩ := FW.bnd h
        refine FW.lfun (y := .lit (.int .i64 t5)) hk rfl rfl rfl rfl (FW.f_call hk (FW.holds_nil _) rfl rfl Go.Proofs.Try.func46 rfl (by kernel_rfl) (offshootref04_Sectors.ok K (List.length t4 : Int) _ hr_t5)) ?_; clear hk; intro a w hk
        refine FW.lfun (y := .lit (.int .i64 t5)) hk rfl rfl rfl rfl (FW.f_assign hk (FW.holds_nil _) rfl) ?_; clear hk; intro a w hk
        refine FW.lend (hK17 _ _ ?_); clear hK17 K'
        refine FW.wreg ?_; intro K' hK18
        refine FW.lfun (y := .lit (.pointer (some ⟨b2, 0, none⟩))) hk rfl rfl rfl rfl (FW.f_move hk (FW.holds_nil _) rfl) ?_; clear hk; intro a w hk
        refine FW.lfun (y := .lit (.string (FW.B t4))) hk rfl rfl rfl rfl (FW.f_move hk (FW.holds_nil _) rfl) ?_; clear hk; intro a w hk
        obtain ⟨t6, hr_t6, h⟩ := FW.bnd h
        refine FW.l_callH (I1 := (OLogLog.items b2 b1 (⟨y4_1, y4_2, y4_3, y4_4⟩ : OLogLog)) ++ (ODevDev.items b1 xd2 xc2 xr3 (⟨l2, m3, y1_2, y1_4⟩ : ODevDev))) (I2 := [FW.orow xd6 xc6 9 1 c_str l6]) (js := [4, 4, 4, 4]) hk rfl rfl rfl rfl rfl Go.Proofs.Try.func50 rfl (by kernel_rfl) (log_Log_Add.ok K (⟨y4_1, y4_2, y4_3, y4_4⟩ : OLogLog) (⟨l2, m3, y1_2, y1_4⟩ : ODevDev) t4 _ hr_t6 b2 b1 xd2 xc2 xr3) ?_; clear hk
        rintro _ _ ⟨zd2, zc2, zr2, rfl, rfl⟩ a w hk
        refine FW.lfun (y := .lit (.int .i64 t6.1)) hk rfl rfl rfl rfl (FW.f_assign hk (FW.holds_nil _) rfl) ?_; clear hk; intro a w hk
        refine FW.lend (hK18 _ _ ?_); clear hK18 K'
        refine FW.wseq ?_; intro K' hK19
        refine FW.wreg ?_; intro K' hK20
        refine FW.lfun (y := .lit (.int .i64 t6.1)) hk rfl rfl rfl rfl (FW.f_move hk (FW.holds_nil _) rfl) ?_; clear hk; intro a w hk
        refine FW.lfun (y := .lit (.bool (decide (t6.1 = 0)))) hk rfl rfl rfl rfl ((FW.f_pure (FW.p_eql hk.kn (FW.holds_nil _) rfl rfl))) ?_; clear hk; intro a w hk
        refine FW.lfun (y := .lit (.int .i64 t5)) hk rfl rfl rfl rfl (FW.f_move hk (FW.holds_nil _) rfl) ?_; clear hk; intro a w hk
        refine FW.lfun (y := .lit (.int .i64 v14)) hk rfl rfl rfl rfl (FW.f_move hk (FW.holds_nil _) rfl) ?_; clear hk; intro a w hk
        refine FW.lfun (y := .lit (.bool (decide (t5 ≤ v14)))) hk rfl rfl rfl rfl ((FW.f_pure (FW.p_leq hk.kn (FW.holds_nil _) rfl rfl))) ?_; clear hk; intro a w hk
        refine FW.lfun (y := .lit (.bool (!((decide (t6.1 = 0)) == (decide (t5 ≤ v14)))))) hk rfl rfl rfl rfl ((FW.f_pure (FW.p_bneq Go.Proofs.Try.underlying4 hk.kn (FW.holds_nil _) rfl rfl))) ?_; clear hk; intro a w hk
        refine FW.lfun (y := .lit (.bool (!((decide (t6.1 = 0)) == (decide (t5 ≤ v14)))))) hk rfl rfl rfl rfl (FW.f_move hk (FW.holds_nil _) rfl) ?_; clear hk; intro a w hk
        refine FW.lfunG (y := .lit (.int .i64 t6.1)) hk rfl rfl rfl rfl rfl rfl rfl rfl (fun hc => FW.f_move hk hc rfl) ?_; clear hk; intro a w hk
        refine FW.lfunG (y := .lit (.bool (!decide (t6.1 = 0)))) hk rfl rfl rfl rfl rfl rfl rfl rfl (fun hc => (FW.f_pure (FW.p_neq hk.kn hc rfl rfl))) ?_; clear hk; intro a w hk
        refine FW.lfunG (y := .lit (.bool (!decide (t6.1 = 0)))) hk rfl rfl rfl rfl rfl rfl rfl rfl (fun hc => FW.f_move hk hc rfl) ?_; clear hk; intro a w hk
        refine FW.lfunG (y := .lit (.int .i64 t6.1)) hk rfl rfl rfl rfl rfl rfl rfl rfl (fun hc => FW.f_move hk hc rfl) ?_; clear hk; intro a w hk
        refine FW.lfunG (y := .lit (.bool (!decide (t6.1 = 40)))) hk rfl rfl rfl rfl rfl rfl rfl rfl (fun hc => (FW.f_pure (FW.p_neq hk.kn hc rfl rfl))) ?_; clear hk; intro a w hk
        refine FW.lfunG (y := .lit (.bool ((!decide (t6.1 = 0)) && (!decide (t6.1 = 40))))) hk rfl rfl rfl rfl rfl rfl rfl rfl (fun hc => (FW.f_pure (FW.p_pick_and hk.kn hc rfl rfl))) ?_; clear hk; intro a w hk
        refine FW.lfun (y := .lit (.bool ((!((decide (t6.1 = 0)) == (decide (t5 ≤ v14)))) || ((!decide (t6.1 = 0)) && (!decide (t6.1 = 40)))))) hk rfl rfl rfl rfl ((FW.f_pure (FW.p_pick_or hk.kn (FW.holds_nil _) rfl rfl))) ?_; clear hk; intro a w hk
        refine FW.lfun (y := .lit (.bool ((!((decide (t6.1 = 0)) == (decide (t5 ≤ v14)))) || ((!decide (t6.1 = 0)) && (!decide (t6.1 = 40)))))) hk rfl rfl rfl rfl (FW.f_move hk (FW.holds_nil _) rfl) ?_; clear hk; intro a w hk
        refine FW.lfunG (y := .lit (.string (FW.B t4))) hk rfl rfl rfl rfl rfl rfl rfl rfl (fun hc => FW.f_move hk hc rfl) ?_; clear hk; intro a w hk
        refine FW.lfunG (y := .lit (.int .i64 (List.length t4 : Int))) hk rfl rfl rfl rfl rfl rfl rfl rfl (fun hc => (FW.f_pure (FW.p_slen Go.Proofs.Try.underlying9 hk.kn hc rfl))) ?_; clear hk; intro a w hk
        obtain ⟨t7, hr_t7, h⟩ := FW.bndG h
        refine FW.lfunG (y := .lit (.int .i64 t7)) hk rfl rfl rfl rfl rfl rfl rfl rfl (fun hc => FW.f_call hk hc rfl rfl Go.Proofs.Try.func45 rfl (by kernel_rfl) (log_Sectors.ok (List.length t4 : Int) _ (hr_t7 (FW.asm_out (p := ((!((decide (t6.1 = 0)) == (decide (t5 ≤ v14)))) || ((!decide (t6.1 = 0)) && (!decide (t6.1 = 40)))) = false) hk.kn hc (fun e0 => e0))))) ?_; clear hk; intro a w hk
        refine FW.lfunG (y := .lit (.int .i64 t5)) hk rfl rfl rfl rfl rfl rfl rfl rfl (fun hc => FW.f_move hk hc rfl) ?_; clear hk; intro a w hk
        refine FW.lfunG (y := .lit (.bool (!decide (t7 = t5)))) hk rfl rfl rfl rfl rfl rfl rfl rfl (fun hc => (FW.f_pure (FW.p_neq hk.kn hc rfl rfl))) ?_; clear hk; intro a w hk
        refine FW.lfun (y := .lit (.bool (((!((decide (t6.1 = 0)) == (decide (t5 ≤ v14)))) || ((!decide (t6.1 = 0)) && (!decide (t6.1 = 40)))) || (!decide (t7 = t5))))) hk rfl rfl rfl rfl ((FW.f_pure (FW.p_pick_or hk.kn (FW.holds_nil _) rfl rfl))) ?_; clear hk; intro a w hk
        refine FW.lend (hK20 _ _ ?_); clear hK20 K'
        refine FW.wcondF (b := (((!((decide (t6.1 = 0)) == (decide (t5 ≤ v14)))) || ((!decide (t6.1 = 0)) && (!decide (t6.1 = 40)))) || (!decide (t7 = t5)))) hk h rfl (fun h hb => ?_) (fun h hb => ?_)
        · skip
          refine FW.wreg ?_; intro K' hK21
          refine FW.lfun (y := .lit (.bool false)) hk rfl rfl rfl rfl (FW.f_assign hk (FW.holds_nil _) rfl) ?_; clear hk; intro a w hk
          refine FW.lend (hK21 _ _ ?_); clear hK21 K'
          refine wp_ret ?_
          (repeat first | refine FW.then_ret ?_ | refine FW.block_ret ?_)
          obtain rfl := Option.some.inj h
          exact FW.fret1 hk rfl rfl
        · skip
          refine wp_skip ?_
          (repeat first | refine FW.then_normal ?_ | refine FW.block_normal ?_); refine hK19 _ _ ?_
          refine FW.wseqJ (fun a w => ∃ (y1_2 : Int) (y1_4 : Bool) (l2 : List (List UInt8)) (m3 : List (Int × (List UInt8))) (y4_1 : Int) (y4_2 : Int) (y4_3 : Int) (y4_4 : Int) (l6 : List (List UInt8)) (v0 : List (List UInt8)) (v2 : Int) (v7 : Int) (v14 : Int) (v15 : Int) (v16 : Int) (v17 : Int) (xd2 : Option Addr) (xc2 : Nat) (xr3 : Nat) (xd6 : Option Addr) (xc6 : Nat), FW.S M w0 a w 178 [FW.blk b1 109 ([.lit (.slice xd2 (List.length l2) xc2)] ++ [.lit (.map (some xr3))] ++ [.lit (.int .i64 y1_2)] ++ [.lit (.slice none 0 0)] ++ [.lit (.bool y1_4)]), FW.orow xd2 xc2 9 1 c_str l2, FW.mapI (.int .i64) (Value.int .i64) FW.evS xr3 m3, FW.blk b2 127 ([.lit (.pointer (some ⟨b1, 0, none⟩))] ++ [.lit (.int .i64 y4_1)] ++ [.lit (.int .i64 y4_2)] ++ [.lit (.int .i64 y4_3)] ++ [.lit (.int .u64 y4_4)]), FW.orow xd6 xc6 9 1 c_str l6] [(0, [], .row (r_c_str v0)), (2, [], .lit (.int .i64 v2)), (7, [], .lit (.int .i64 v7)), (8, [], .lit (.pointer (some ⟨b1, 0, none⟩))), (10, [], .lit (.pointer (some ⟨b2, 0, none⟩))), (13, [], .lit (.slice xd6 (List.length l6) xc6)), (14, [], .lit (.int .i64 v14)), (15, [], .lit (.int .u64 v15)), (16, [], .lit (.int .u64 v16)), (17, [], .lit (.int .i64 v17))] ∧ offshootlaw04_LogPlays.j2 (offshootlaw04_LogPlays.l1 K kl1) K y1_2 y1_4 l2 m3 y4_1 y4_2 y4_3 y4_4 l6 v0 v2 v7 v14 v15 v16 v17 = some r) ?_ ?_
          · clear hk h
            rintro a w ⟨y1_2, y1_4, l2, m3, y4_1, y4_2, y4_3, y4_4, l6, v0, v2, v7, v14, v15, v16, v17, xd2, xc2, xr3, xd6, xc6, hk, h⟩
            unfold offshootlaw04_LogPlays.j2 at h
            refine FW.wreg ?_; intro K' hK23
            refine FW.lfun (y := .lit (.pointer (some ⟨b2, 0, none⟩))) hk rfl rfl rfl rfl (FW.f_move hk (FW.holds_nil _) rfl) ?_; clear hk; intro a w hk
            obtain ⟨t8, hr_t8, h⟩ := FW.bnd h
            refine FW.l_callH (I1 := (OLogLog.items b2 b1 (⟨y4_1, y4_2, y4_3, y4_4⟩ : OLogLog)) ++ (ODevDev.items b1 xd2 xc2 xr3 (⟨l2, m3, y1_2, y1_4⟩ : ODevDev))) (I2 := [FW.orow xd6 xc6 9 1 c_str l6]) (js := [2, 2, 2, 3]) hk rfl rfl rfl rfl rfl Go.Proofs.Try.func54 rfl (by kernel_rfl) (log_Log_Next.ok (⟨y4_1, y4_2, y4_3, y4_4⟩ : OLogLog) (⟨l2, m3, y1_2, y1_4⟩ : ODevDev) _ hr_t8 b2 b1 xd2 xc2 xr3) ?_; clear hk
            rintro _ _ ⟨zd3, zc3, zr3, rfl, rfl⟩ a w hk
            refine FW.lfun (y := .lit (.int .u64 v15)) hk rfl rfl rfl rfl (FW.f_move hk (FW.holds_nil _) rfl) ?_; clear hk; intro a w hk
            refine FW.lfun (y := .lit (.bool (!decide (t8.1 = v15)))) hk rfl rfl rfl rfl ((FW.f_pure (FW.p_neq hk.kn (FW.holds_nil _) rfl rfl))) ?_; clear hk; intro a w hk
            refine FW.lfun (y := .lit (.bool (!decide (t8.1 = v15)))) hk rfl rfl rfl rfl (FW.f_move hk (FW.holds_nil _) rfl) ?_; clear hk; intro a w hk
            refine FW.lfunG (y := .lit (.pointer (some ⟨b2, 0, none⟩))) hk rfl rfl rfl rfl rfl rfl rfl rfl (fun hc => FW.f_move hk hc rfl) ?_; clear hk; intro a w hk
            obtain ⟨t9, hr_t9, hn_t9, h⟩ := FW.bndG2 h
            refine FW.l_callHG (I1 := (OLogLog.items b2 b1 t8.2.1) ++ (ODevDev.items b1 zd3 zc3 zr3 t8.2.2)) (I2 := [FW.orow xd6 xc6 9 1 c_str l6]) (js := [3, 3, 3, 3]) hk rfl rfl rfl rfl rfl rfl rfl rfl rfl Go.Proofs.Try.func55 rfl (by kernel_rfl) (fun hc => log_Log_Room.ok t8.2.1 t8.2.2 _ (hr_t9 (FW.asm_out (p := (!decide (t8.1 = v15)) = false) hk.kn hc (fun e0 => e0))) b2 b1 zd3 zc3 zr3) (fun hn => by obtain rfl := hn_t9 (fun hp => hn (FW.asm_in hk.kn (by have e0 := hp; exact ⟨e0, rfl, trivial⟩))); exact ⟨_, zd3, zc3, zr3, rfl, rfl⟩) ?_; clear hk
            rintro _ _ ⟨zd4, zc4, zr4, rfl, rfl⟩ a w hk
            refine FW.lfunG (y := .lit (.int .i64 v14)) hk rfl rfl rfl rfl rfl rfl rfl rfl (fun hc => FW.f_move hk hc rfl) ?_; clear hk; intro a w hk
            refine FW.lfunG (y := .lit (.bool (!decide (t9.1 = v14)))) hk rfl rfl rfl rfl rfl rfl rfl rfl (fun hc => (FW.f_pure (FW.p_neq hk.kn hc rfl rfl))) ?_; clear hk; intro a w hk
            refine FW.lfun (y := .lit (.bool ((!decide (t8.1 = v15)) || (!decide (t9.1 = v14))))) hk rfl rfl rfl rfl ((FW.f_pure (FW.p_pick_or hk.kn (FW.holds_nil _) rfl rfl))) ?_; clear hk; intro a w hk
            refine FW.lend (hK23 _ _ ?_); clear hK23 K'
            refine FW.wcondF (b := ((!decide (t8.1 = v15)) || (!decide (t9.1 = v14)))) hk h rfl (fun h hb => ?_) (fun h hb => ?_)
            · skip
              refine FW.wreg ?_; intro K' hK24
              refine FW.lfun (y := .lit (.bool false)) hk rfl rfl rfl rfl (FW.f_assign hk (FW.holds_nil _) rfl) ?_; clear hk; intro a w hk
              refine FW.lend (hK24 _ _ ?_); clear hK24 K'
              refine wp_ret ?_
              (repeat first | refine FW.then_ret ?_ | refine FW.block_ret ?_)
              obtain rfl := Option.some.inj h
              exact FW.fret1 hk rfl rfl
            · skip
              refine wp_skip ?_
              (repeat first | refine FW.then_normal ?_ | refine FW.block_normal ?_); refine hK14 _ _ ?_
              refine FW.wreg1 ?_
              refine FW.lfun (y := .lit (.int .i64 v17)) hk rfl rfl rfl rfl (FW.f_move hk (FW.holds_nil _) rfl) ?_; clear hk; intro a w hk
              refine FW.lfun (y := .lit (.int .i64 (IntKind.wrap .i64 (v17 + 1)))) hk rfl rfl rfl rfl ((FW.f_pure (FW.p_add hk.kn (FW.holds_nil _) rfl rfl))) ?_; clear hk; intro a w hk
              refine FW.lfun (y := .lit (.int .i64 (IntKind.wrap .i64 (v17 + 1)))) hk rfl rfl rfl rfl (FW.f_assign hk (FW.holds_nil _) rfl) ?_; clear hk; intro a w hk
              refine wpList_nil ?_
              (repeat first | refine FW.then_normal ?_ | refine FW.block_normal ?_); exact hK11 (kl1, l6, t9.2.1.from_, t9.2.1.to_, t9.2.1.at_, t9.2.1.next, t9.2.2.steps, t9.2.2.off, t9.2.2.sure, t9.2.2.cache, v0, v2, v7, v14, v15, v16, (IntKind.wrap .i64 (v17 + 1)), xd6, xc6, zd4, zc4, zr4) _ _ (Nat.lt_succ_self _) ⟨(FW.S.pick hk (js := [3, 3, 3, 3, 4]) rfl).sub ⟨rfl, rfl, rfl, rfl, rfl, rfl, rfl, rfl, rfl, rfl, trivial⟩, h⟩
          · intro K' hK22
            refine FW.wreg ?_; intro K' hK26
            refine FW.lfun (y := .lit (.int .i64 t6.1)) hk rfl rfl rfl rfl (FW.f_move hk (FW.holds_nil _) rfl) ?_; clear hk; intro a w hk
            refine FW.lfun (y := .lit (.bool (decide (t6.1 = 0)))) hk rfl rfl rfl rfl ((FW.f_pure (FW.p_eql hk.kn (FW.holds_nil _) rfl rfl))) ?_; clear hk; intro a w hk
            refine FW.lend (hK26 _ _ ?_); clear hK26 K'
            refine FW.wcondF (b := (decide (t6.1 = 0))) hk h rfl (fun h hb => ?_) (fun h hb => ?_)
            · skip
              refine FW.wreg ?_; intro K' hK27
              refine FW.lfun (y := .lit (.int .u64 v15)) hk rfl rfl rfl rfl (FW.f_move hk (FW.holds_nil _) rfl) ?_; clear hk; intro a w hk
              refine FW.lfun (y := .lit (.string (FW.B t4))) hk rfl rfl rfl rfl (FW.f_move hk (FW.holds_nil _) rfl) ?_; clear hk; intro a w hk
              obtain ⟨t10, hr_t10, h⟩ := FW.bnd h
              refine FW.lfun (y := .row (r_c_str t10)) hk rfl rfl rfl rfl (FW.f_call hk (FW.holds_nil _) rfl rfl Go.Proofs.Try.func51 rfl (by kernel_rfl) (offshootref04_Laid.ok K v15 t4 _ hr_t10)) ?_; clear hk; intro a w hk
              refine FW.lfun (y := .row (r_c_str t10)) hk rfl rfl rfl rfl (FW.f_assign hk (FW.holds_nil _) rfl) ?_; clear hk; intro a w hk
              refine FW.lend (hK27 _ _ ?_); clear hK27 K'
              refine FW.wseq ?_; intro K' hK28
              refine FW.wreg ?_; intro K' hK29
              refine FW.lfun (y := .lit (.pointer (some ⟨b1, 0, none⟩))) hk rfl rfl rfl rfl (FW.f_move hk (FW.holds_nil _) rfl) ?_; clear hk; intro a w hk
              refine FW.lfun (y := .lit (.int .i64 v7)) hk rfl rfl rfl rfl (FW.f_move hk (FW.holds_nil _) rfl) ?_; clear hk; intro a w hk
              refine FW.lfun (y := .lit (.int .i64 (IntKind.wrap .i64 (1 + v7)))) hk rfl rfl rfl rfl ((FW.f_pure (FW.p_add hk.kn (FW.holds_nil _) rfl rfl))) ?_; clear hk; intro a w hk
              refine FW.lfun (y := .lit (.int .i64 v14)) hk rfl rfl rfl rfl (FW.f_move hk (FW.holds_nil _) rfl) ?_; clear hk; intro a w hk
              refine FW.lfun (y := .lit (.int .i64 (IntKind.wrap .i64 ((IntKind.wrap .i64 (1 + v7)) - v14)))) hk rfl rfl rfl rfl ((FW.f_pure (FW.p_sub hk.kn (FW.holds_nil _) rfl rfl))) ?_; clear hk; intro a w hk
              refine FW.lfun (y := .lit (.int .i64 v7)) hk rfl rfl rfl rfl (FW.f_move hk (FW.holds_nil _) rfl) ?_; clear hk; intro a w hk
              refine FW.lfun (y := .lit (.int .i64 (IntKind.wrap .i64 (1 + v7)))) hk rfl rfl rfl rfl ((FW.f_pure (FW.p_add hk.kn (FW.holds_nil _) rfl rfl))) ?_; clear hk; intro a w hk
              refine FW.lfun (y := .lit (.int .i64 v14)) hk rfl rfl rfl rfl (FW.f_move hk (FW.holds_nil _) rfl) ?_; clear hk; intro a w hk
              refine FW.lfun (y := .lit (.int .i64 (IntKind.wrap .i64 ((IntKind.wrap .i64 (1 + v7)) - v14)))) hk rfl rfl rfl rfl ((FW.f_pure (FW.p_sub hk.kn (FW.holds_nil _) rfl rfl))) ?_; clear hk; intro a w hk
              refine FW.lfun (y := .lit (.int .i64 t5)) hk rfl rfl rfl rfl (FW.f_move hk (FW.holds_nil _) rfl) ?_; clear hk; intro a w hk
              refine FW.lfun (y := .lit (.int .i64 (IntKind.wrap .i64 ((IntKind.wrap .i64 ((IntKind.wrap .i64 (1 + v7)) - v14)) + t5)))) hk rfl rfl rfl rfl ((FW.f_pure (FW.p_add hk.kn (FW.holds_nil _) rfl rfl))) ?_; clear hk; intro a w hk
              obtain ⟨t11, hr_t11, h⟩ := FW.bnd h
              refine FW.l_callH (I1 := (ODevDev.items b1 zd2 zc2 zr2 t6.2.2)) (I2 := [FW.blk b2 127 ([.lit (.pointer (some ⟨b1, 0, none⟩))] ++ [.lit (.int .i64 t6.2.1.from_)] ++ [.lit (.int .i64 t6.2.1.to_)] ++ [.lit (.int .i64 t6.2.1.at_)] ++ [.lit (.int .u64 t6.2.1.next)]), FW.orow xd6 xc6 9 1 c_str l6]) (js := [3, 3, 3]) hk rfl rfl rfl rfl rfl Go.Proofs.Try.func53 rfl (by kernel_rfl) (offshootlaw04_sectors.ok K t6.2.2 (IntKind.wrap .i64 ((IntKind.wrap .i64 (1 + v7)) - v14)) (IntKind.wrap .i64 ((IntKind.wrap .i64 ((IntKind.wrap .i64 (1 + v7)) - v14)) + t5)) _ hr_t11 b1 zd2 zc2 zr2) ?_; clear hk
              rintro _ _ ⟨zd5, zc5, zr5, rfl, rfl⟩ a w hk
              refine FW.lfun (y := .row (r_c_str t10)) hk rfl rfl rfl rfl (FW.f_move hk (FW.holds_nil _) rfl) ?_; clear hk; intro a w hk
              obtain ⟨t12, hr_t12, h⟩ := FW.bnd h
              refine FW.lfun (y := .lit (.bool t12)) hk rfl rfl rfl rfl (FW.f_call hk (FW.holds_nil _) rfl rfl Go.Proofs.Try.func52 rfl (by kernel_rfl) (offshootlaw04_same.ok K t11.1 t10 _ hr_t12)) ?_; clear hk; intro a w hk
              refine FW.lfun (y := .lit (.bool (!t12))) hk rfl rfl rfl rfl ((FW.f_pure (FW.p_not hk.kn (FW.holds_nil _) rfl))) ?_; clear hk; intro a w hk
              refine FW.lend (hK29 _ _ ?_); clear hK29 K'
              refine FW.wcondF (b := (!t12)) hk h rfl (fun h hb => ?_) (fun h hb => ?_)
              · skip
                refine FW.wreg ?_; intro K' hK30
                refine FW.lfun (y := .lit (.bool false)) hk rfl rfl rfl rfl (FW.f_assign hk (FW.holds_nil _) rfl) ?_; clear hk; intro a w hk
                refine FW.lend (hK30 _ _ ?_); clear hK30 K'
                refine wp_ret ?_
                (repeat first | refine FW.then_ret ?_ | refine FW.block_ret ?_)
                obtain rfl := Option.some.inj h
                exact FW.fret1 hk rfl rfl
              · skip
                refine wp_skip ?_
                (repeat first | refine FW.then_normal ?_ | refine FW.block_normal ?_); refine hK28 _ _ ?_
                refine FW.wreg1 ?_
                refine FW.lfun (y := .lit (.slice xd6 (List.length l6) xc6)) hk rfl rfl rfl rfl (FW.f_move hk (FW.holds_nil _) rfl) ?_; clear hk; intro a w hk
                refine FW.lfun (y := .lit (.string (FW.B t4))) hk rfl rfl rfl rfl (FW.f_move hk (FW.holds_nil _) rfl) ?_; clear hk; intro a w hk
                refine FW.l_buildSlice (f := c_str) (l := ([t4] : List (List UInt8))) hk rfl rfl rfl Go.Proofs.Try.underlying61 rfl rfl rfl rfl (fun _ => rfl) rfl ?_; clear hk; intro b4 a w hk
                obtain ⟨hc2, h⟩ := FW.chk h
                refine FW.l_append (l2 := ([t4] : List (List UInt8))) (l3 := (l6 ++ ([t4] : List (List UInt8)))) (I' := fun ad1 cap1 => [FW.orow (some ⟨b4, 0, none⟩) 1 9 1 c_str ([t4] : List (List UInt8)), FW.blk b1 109 ([.lit (.slice zd5 (List.length t11.2.sure) zc5)] ++ [.lit (.map (some zr5))] ++ [.lit (.int .i64 t11.2.steps)] ++ [.lit (.slice none 0 0)] ++ [.lit (.bool t11.2.off)]), FW.orow zd5 zc5 9 1 c_str t11.2.sure, FW.mapI (.int .i64) (Value.int .i64) FW.evS zr5 t11.2.cache, FW.blk b2 127 ([.lit (.pointer (some ⟨b1, 0, none⟩))] ++ [.lit (.int .i64 t6.2.1.from_)] ++ [.lit (.int .i64 t6.2.1.to_)] ++ [.lit (.int .i64 t6.2.1.at_)] ++ [.lit (.int .u64 t6.2.1.next)]), FW.orow ad1 cap1 9 1 c_str (l6 ++ ([t4] : List (List UInt8)))]) (j := 5) hk rfl rfl rfl rfl (FW.own_src hk (j := 0) rfl rfl (fun _ => rfl) Go.Proofs.Try.underlying61) Go.Proofs.Try.underlying61 (by kernel_rfl) hc2 rfl (fun _ _ => rfl) ?_; clear hk; intro ad1 cap1 a w hk
                replace hk := FW.S.dropI (I' := [FW.blk b1 109 ([.lit (.slice zd5 (List.length t11.2.sure) zc5)] ++ [.lit (.map (some zr5))] ++ [.lit (.int .i64 t11.2.steps)] ++ [.lit (.slice none 0 0)] ++ [.lit (.bool t11.2.off)]), FW.orow zd5 zc5 9 1 c_str t11.2.sure, FW.mapI (.int .i64) (Value.int .i64) FW.evS zr5 t11.2.cache, FW.blk b2 127 ([.lit (.pointer (some ⟨b1, 0, none⟩))] ++ [.lit (.int .i64 t6.2.1.from_)] ++ [.lit (.int .i64 t6.2.1.to_)] ++ [.lit (.int .i64 t6.2.1.at_)] ++ [.lit (.int .u64 t6.2.1.next)]), FW.orow ad1 cap1 9 1 c_str (l6 ++ ([t4] : List (List UInt8)))]) hk 0 rfl
                refine FW.lfun (y := .lit (.int .i64 v14)) hk rfl rfl rfl rfl (FW.f_move hk (FW.holds_nil _) rfl) ?_; clear hk; intro a w hk
                refine FW.lfun (y := .lit (.int .i64 t5)) hk rfl rfl rfl rfl (FW.f_move hk (FW.holds_nil _) rfl) ?_; clear hk; intro a w hk
                refine FW.lfun (y := .lit (.int .i64 (IntKind.wrap .i64 (v14 - t5)))) hk rfl rfl rfl rfl ((FW.f_pure (FW.p_sub hk.kn (FW.holds_nil _) rfl rfl))) ?_; clear hk; intro a w hk
                refine FW.lfun (y := .lit (.int .u64 v15)) hk rfl rfl rfl rfl (FW.f_move hk (FW.holds_nil _) rfl) ?_; clear hk; intro a w hk
                refine FW.lfun (y := .lit (.int .u64 (IntKind.wrap .u64 (v15 + 1)))) hk rfl rfl rfl rfl ((FW.f_pure (FW.p_add hk.kn (FW.holds_nil _) rfl rfl))) ?_; clear hk; intro a w hk
                refine FW.lfun (y := .lit (.slice ad1 (List.length (l6 ++ ([t4] : List (List UInt8)))) cap1)) hk rfl rfl rfl rfl (FW.f_assign hk (FW.holds_nil _) rfl) ?_; clear hk; intro a w hk
                refine FW.lfun (y := .lit (.int .i64 (IntKind.wrap .i64 (v14 - t5)))) hk rfl rfl rfl rfl (FW.f_assign hk (FW.holds_nil _) rfl) ?_; clear hk; intro a w hk
                refine FW.lfun (y := .lit (.int .u64 (IntKind.wrap .u64 (v15 + 1)))) hk rfl rfl rfl rfl (FW.f_assign hk (FW.holds_nil _) rfl) ?_; clear hk; intro a w hk
                refine wpList_nil ?_
                (repeat first | refine FW.then_normal ?_ | refine FW.block_normal ?_); exact hK22 _ _ ⟨t11.2.steps, t11.2.off, t11.2.sure, t11.2.cache, t6.2.1.from_, t6.2.1.to_, t6.2.1.at_, t6.2.1.next, (l6 ++ ([t4] : List (List UInt8))), v0, v2, v7, (IntKind.wrap .i64 (v14 - t5)), (IntKind.wrap .u64 (v15 + 1)), v16, v17, zd5, zc5, zr5, ad1, cap1, hk.sub ⟨rfl, rfl, rfl, rfl, rfl, rfl, rfl, rfl, rfl, rfl, trivial⟩, h⟩
            · skip
              refine wp_skip ?_
              (repeat first | refine FW.then_normal ?_ | refine FW.block_normal ?_); exact hK22 _ _ ⟨t6.2.2.steps, t6.2.2.off, t6.2.2.sure, t6.2.2.cache, t6.2.1.from_, t6.2.1.to_, t6.2.1.at_, t6.2.1.next, l6, v0, v2, v7, v14, v15, v16, v17, zd2, zc2, zr2, xd6, xc6, (FW.S.pick hk (js := [4, 1, 4, 4, 4]) rfl).sub ⟨rfl, rfl, rfl, rfl, rfl, rfl, rfl, rfl, rfl, rfl, trivial⟩, h⟩
      · intro K' hK15
        refine FW.wreg ?_; intro K' hK32
        refine FW.lfun (y := .lit (.int .i64 v17)) hk rfl rfl rfl rfl (FW.f_move hk (FW.holds_nil _) rfl) ?_; clear hk; intro a w hk
        refine FW.lfun (y := .lit (.int .i64 v2)) hk rfl rfl rfl rfl (FW.f_move hk (FW.holds_nil _) rfl) ?_; clear hk; intro a w hk
        refine FW.lfun (y := .lit (.bool (decide (v17 = v2)))) hk rfl rfl rfl rfl ((FW.f_pure (FW.p_eql hk.kn (FW.holds_nil _) rfl rfl))) ?_; clear hk; intro a w hk
        refine FW.lend (hK32 _ _ ?_); clear hK32 K'
        refine FW.wcondF (b := (decide (v17 = v2))) hk h rfl (fun h hb => ?_) (fun h hb => ?_)
        · skip
          refine FW.wreg ?_; intro K' hK33
          refine FW.lfun (y := .lit (.pointer (some ⟨b2, 0, none⟩))) hk rfl rfl rfl rfl (FW.f_move hk (FW.holds_nil _) rfl) ?_; clear hk; intro a w hk
          obtain ⟨t13, hr_t13, h⟩ := FW.bnd h
          refine FW.l_callH (I1 := (OLogLog.items b2 b1 (⟨y4_1, y4_2, y4_3, y4_4⟩ : OLogLog)) ++ (ODevDev.items b1 xd2 xc2 xr3 (⟨l2, m3, y1_2, y1_4⟩ : ODevDev))) (I2 := [FW.orow xd5 xc5 9 1 c_str l5]) (js := [4, 4, 4, 4]) hk rfl rfl rfl rfl rfl Go.Proofs.Try.func48 rfl (by kernel_rfl) (log_Log_Reset.ok (⟨y4_1, y4_2, y4_3, y4_4⟩ : OLogLog) (⟨l2, m3, y1_2, y1_4⟩ : ODevDev) _ hr_t13 b2 b1 xd2 xc2 xr3) ?_; clear hk
          rintro _ _ ⟨zd6, zc6, zr6, rfl, rfl⟩ a w hk
          refine FW.lend (hK33 _ _ ?_); clear hK33 K'
          refine FW.wreg1 ?_
          refine FW.l_buildSlice0 (f := c_str) hk rfl rfl Go.Proofs.Try.underlying61 rfl (fun _ => rfl) ?_; clear hk; intro b5 a w hk
          refine FW.lfun (y := .lit (.int .i64 v7)) hk rfl rfl rfl rfl (FW.f_move hk (FW.holds_nil _) rfl) ?_; clear hk; intro a w hk
          refine FW.lfun (y := .lit (.int .u64 v15)) hk rfl rfl rfl rfl (FW.f_move hk (FW.holds_nil _) rfl) ?_; clear hk; intro a w hk
          refine FW.lfun (y := .lit (.slice (some ⟨b5, 0, none⟩) (List.length ([] : List (List UInt8))) 0)) hk rfl rfl rfl rfl (FW.f_assign hk (FW.holds_nil _) rfl) ?_; clear hk; intro a w hk
          refine FW.lfun (y := .lit (.int .i64 v7)) hk rfl rfl rfl rfl (FW.f_assign hk (FW.holds_nil _) rfl) ?_; clear hk; intro a w hk
          refine FW.lfun (y := .lit (.int .u64 v15)) hk rfl rfl rfl rfl (FW.f_assign hk (FW.holds_nil _) rfl) ?_; clear hk; intro a w hk
          refine wpList_nil ?_
          (repeat first | refine FW.then_normal ?_ | refine FW.block_normal ?_); exact hK15 _ _ ⟨([] : List (List UInt8)), t13.1.from_, t13.1.to_, t13.1.at_, t13.1.next, t13.2.steps, t13.2.off, t13.2.sure, t13.2.cache, v0, v2, v7, v7, v15, v15, v17, (some ⟨b5, 0, none⟩), 0, zd6, zc6, zr6, (hk.drop 5).sub ⟨rfl, rfl, rfl, rfl, rfl, rfl, rfl, rfl, rfl, rfl, trivial⟩, h⟩
        · skip
          refine wp_skip ?_
          (repeat first | refine FW.then_normal ?_ | refine FW.block_normal ?_); exact hK15 _ _ ⟨l5, y4_1, y4_2, y4_3, y4_4, y1_2, y1_4, l2, m3, v0, v2, v7, v14, v15, v16, v17, xd5, xc5, xd2, xc2, xr3, hk.sub ⟨rfl, rfl, rfl, rfl, rfl, rfl, rfl, rfl, rfl, rfl, trivial⟩, h⟩
    · skip
      refine wp_exit ?_; (repeat first | refine FW.then_exit ?_ | refine FW.block_exit_ne rfl ?_); refine FW.block_exit ?_
      (repeat first | refine FW.then_normal ?_ | refine FW.block_normal ?_); refine hK9 _ _ ?_
      refine FW.wseq ?_; intro K' hK35
      refine FW.wreg ?_; intro K' hK36
      refine FW.lfun (y := .lit (.int .u64 v16)) hk rfl rfl rfl rfl (FW.f_move hk (FW.holds_nil _) rfl) ?_; clear hk; intro a w hk
      refine FW.lfun (y := .lit (.bool (!decide (v16 = 7)))) hk rfl rfl rfl rfl ((FW.f_pure (FW.p_neq hk.kn (FW.holds_nil _) rfl rfl))) ?_; clear hk; intro a w hk
      refine FW.lfun (y := .lit (.bool (!decide (v16 = 7)))) hk rfl rfl rfl rfl (FW.f_move hk (FW.holds_nil _) rfl) ?_; clear hk; intro a w hk
      refine FW.lfunG (y := .lit (.slice xd5 (List.length l5) xc5)) hk rfl rfl rfl rfl rfl rfl rfl rfl (fun hc => FW.f_move hk hc rfl) ?_; clear hk; intro a w hk
      refine FW.lfunG (y := .lit (.int .i64 (List.length l5 : Int))) hk rfl rfl rfl rfl rfl rfl rfl rfl (fun hc => (FW.f_pure (FW.p_len Go.Proofs.Try.underlying61 hk.kn hc rfl))) ?_; clear hk; intro a w hk
      refine FW.lfunG (y := .lit (.bool (decide ((List.length l5 : Int) = 0)))) hk rfl rfl rfl rfl rfl rfl rfl rfl (fun hc => (FW.f_pure (FW.p_eql hk.kn hc rfl rfl))) ?_; clear hk; intro a w hk
      refine FW.lfun (y := .lit (.bool ((!decide (v16 = 7)) && (decide ((List.length l5 : Int) = 0))))) hk rfl rfl rfl rfl ((FW.f_pure (FW.p_pick_and hk.kn (FW.holds_nil _) rfl rfl))) ?_; clear hk; intro a w hk
      refine FW.lend (hK36 _ _ ?_); clear hK36 K'
      refine FW.wcondF (b := ((!decide (v16 = 7)) && (decide ((List.length l5 : Int) = 0)))) hk h rfl (fun h hb => ?_) (fun h hb => ?_)
      · skip
        refine FW.wreg ?_; intro K' hK37
        refine FW.lfun (y := .lit (.bool true)) hk rfl rfl rfl rfl (FW.f_assign hk (FW.holds_nil _) rfl) ?_; clear hk; intro a w hk
        refine FW.lend (hK37 _ _ ?_); clear hK37 K'
        refine wp_ret ?_
        (repeat first | refine FW.then_ret ?_ | refine FW.block_ret ?_)
        obtain rfl := Option.some.inj h
        exact FW.fret1 hk rfl rfl
      · skip
        refine wp_skip ?_
        (repeat first | refine FW.then_normal ?_ | refine FW.block_normal ?_); refine hK35 _ _ ?_
        refine FW.wreg ?_; intro K' hK38
        refine FW.lfun (y := .lit (.pointer (some ⟨b1, 0, none⟩))) hk rfl rfl rfl rfl (FW.f_move hk (FW.holds_nil _) rfl) ?_; clear hk; intro a w hk
        refine FW.lfun (y := .lit (.int .i64 v7)) hk rfl rfl rfl rfl (FW.f_move hk (FW.holds_nil _) rfl) ?_; clear hk; intro a w hk
        refine FW.lfun (y := .lit (.int .i64 (IntKind.wrap .i64 (v7 + 1)))) hk rfl rfl rfl rfl ((FW.f_pure (FW.p_add hk.kn (FW.holds_nil _) rfl rfl))) ?_; clear hk; intro a w hk
        refine FW.lfun (y := .lit (.int .u64 v16)) hk rfl rfl rfl rfl (FW.f_move hk (FW.holds_nil _) rfl) ?_; clear hk; intro a w hk
        obtain ⟨t14, hr_t14, h⟩ := FW.bnd h
        refine FW.l_callH (I1 := (ODevDev.items b1 xd2 xc2 xr3 (⟨l2, m3, y1_2, y1_4⟩ : ODevDev))) (I2 := [FW.orow xd5 xc5 9 1 c_str l5, FW.blk b2 127 ([.lit (.pointer (some ⟨b1, 0, none⟩))] ++ [.lit (.int .i64 y4_1)] ++ [.lit (.int .i64 y4_2)] ++ [.lit (.int .i64 y4_3)] ++ [.lit (.int .u64 y4_4)])]) (js := [4, 4, 4]) hk rfl rfl rfl rfl rfl Go.Proofs.Try.func47 rfl (by kernel_rfl) (log_Open.ok K (⟨l2, m3, y1_2, y1_4⟩ : ODevDev) 1 (IntKind.wrap .i64 (v7 + 1)) v16 _ hr_t14 b1 xd2 xc2 xr3) ?_; clear hk
        rintro _ _ ⟨b6, zd7, zc7, zr7, rfl, rfl⟩ a w hk
        refine FW.lfun (y := .tup [.lit (.pointer (some ⟨b6, 0, none⟩)), .row (r_c_str t14.2.1), .lit (.int .i64 t14.2.2.1)]) hk rfl rfl rfl rfl (FW.f_move hk (FW.holds_nil _) rfl) ?_; clear hk; intro a w hk
        refine FW.lfun (y := .lit (.pointer (some ⟨b6, 0, none⟩))) hk rfl rfl rfl rfl (FW.f_extract hk (FW.holds_nil _) rfl rfl) ?_; clear hk; intro a w hk
        refine FW.lfun (y := .row (r_c_str t14.2.1)) hk rfl rfl rfl rfl (FW.f_extract hk (FW.holds_nil _) rfl rfl) ?_; clear hk; intro a w hk
        refine FW.lfun (y := .lit (.int .i64 t14.2.2.1)) hk rfl rfl rfl rfl (FW.f_extract hk (FW.holds_nil _) rfl rfl) ?_; clear hk; intro a w hk
        refine FW.lfun (y := .lit (.pointer (some ⟨b6, 0, none⟩))) hk rfl rfl rfl rfl (FW.f_assign hk (FW.holds_nil _) rfl) ?_; clear hk; intro a w hk
        refine FW.lfun (y := .row (r_c_str t14.2.1)) hk rfl rfl rfl rfl (FW.f_assign hk (FW.holds_nil _) rfl) ?_; clear hk; intro a w hk
        refine FW.lfun (y := .lit (.int .i64 t14.2.2.1)) hk rfl rfl rfl rfl (FW.f_assign hk (FW.holds_nil _) rfl) ?_; clear hk; intro a w hk
        refine FW.lend (hK38 _ _ ?_); clear hK38 K'
        replace hk := FW.S.freezeR (I' := [FW.blk b6 127 ([.lit (.pointer (some ⟨b1, 0, none⟩))] ++ [.lit (.int .i64 t14.1.from_)] ++ [.lit (.int .i64 t14.1.to_)] ++ [.lit (.int .i64 t14.1.at_)] ++ [.lit (.int .u64 t14.1.next)]), FW.blk b1 109 ([.lit (.slice zd7 (List.length t14.2.2.2.sure) zc7)] ++ [.lit (.map (some zr7))] ++ [.lit (.int .i64 t14.2.2.2.steps)] ++ [.lit (.slice none 0 0)] ++ [.lit (.bool t14.2.2.2.off)]), FW.orow zd7 zc7 9 1 c_str t14.2.2.2.sure, FW.mapI (.int .i64) (Value.int .i64) FW.evS zr7 t14.2.2.2.cache, FW.blk b2 127 ([.lit (.pointer (some ⟨b1, 0, none⟩))] ++ [.lit (.int .i64 y4_1)] ++ [.lit (.int .i64 y4_2)] ++ [.lit (.int .i64 y4_3)] ++ [.lit (.int .u64 y4_4)])]) r_c_str_eq hk (j := 4) rfl (t := 13) rfl rfl
        refine FW.wreg ?_; intro K' hK39
        refine FW.lfun (y := .lit (.int .i64 t14.2.2.1)) hk rfl rfl rfl rfl (FW.f_move hk (FW.holds_nil _) rfl) ?_; clear hk; intro a w hk
        refine FW.lfun (y := .lit (.bool (decide (t14.2.2.1 = 0)))) hk rfl rfl rfl rfl ((FW.f_pure (FW.p_eql hk.kn (FW.holds_nil _) rfl rfl))) ?_; clear hk; intro a w hk
        refine FW.lfun (y := .lit (.bool (decide (t14.2.2.1 = 0)))) hk rfl rfl rfl rfl (FW.f_move hk (FW.holds_nil _) rfl) ?_; clear hk; intro a w hk
        refine FW.lfunG (y := .row (r_c_str t14.2.1)) hk rfl rfl rfl rfl rfl rfl rfl rfl (fun hc => FW.f_move hk hc rfl) ?_; clear hk; intro a w hk
        refine FW.lfunG (y := .row (r_c_str l5)) hk rfl rfl rfl rfl rfl rfl rfl rfl (fun hc => FW.f_move hk hc rfl) ?_; clear hk; intro a w hk
        obtain ⟨t15, hr_t15, h⟩ := FW.bndG h
        refine FW.lfunG (y := .lit (.bool t15)) hk rfl rfl rfl rfl rfl rfl rfl rfl (fun hc => FW.f_call hk hc rfl rfl Go.Proofs.Try.func52 rfl (by kernel_rfl) (offshootlaw04_same.ok K t14.2.1 l5 _ (hr_t15 (FW.asm_out (p := (decide (t14.2.2.1 = 0)) = true) hk.kn hc (fun e0 => e0))))) ?_; clear hk; intro a w hk
        refine FW.lfun (y := .lit (.bool ((decide (t14.2.2.1 = 0)) && t15))) hk rfl rfl rfl rfl ((FW.f_pure (FW.p_pick_and hk.kn (FW.holds_nil _) rfl rfl))) ?_; clear hk; intro a w hk
        refine FW.lfun (y := .lit (.bool ((decide (t14.2.2.1 = 0)) && t15))) hk rfl rfl rfl rfl (FW.f_move hk (FW.holds_nil _) rfl) ?_; clear hk; intro a w hk
        refine FW.lfunG (y := .lit (.pointer (some ⟨b6, 0, none⟩))) hk rfl rfl rfl rfl rfl rfl rfl rfl (fun hc => FW.f_move hk hc rfl) ?_; clear hk; intro a w hk
        obtain ⟨t16, hr_t16, hn_t16, h⟩ := FW.bndG2 h
        refine FW.l_callHG (I1 := (OLogLog.items b6 b1 t14.1) ++ (ODevDev.items b1 zd7 zc7 zr7 t14.2.2.2)) (I2 := [FW.blk b2 127 ([.lit (.pointer (some ⟨b1, 0, none⟩))] ++ [.lit (.int .i64 y4_1)] ++ [.lit (.int .i64 y4_2)] ++ [.lit (.int .i64 y4_3)] ++ [.lit (.int .u64 y4_4)])]) (js := [3, 3, 3, 3]) hk rfl rfl rfl rfl rfl rfl rfl rfl rfl Go.Proofs.Try.func54 rfl (by kernel_rfl) (fun hc => log_Log_Next.ok t14.1 t14.2.2.2 _ (hr_t16 (FW.asm_out (p := ((decide (t14.2.2.1 = 0)) && t15) = true) hk.kn hc (fun e0 => e0))) b6 b1 zd7 zc7 zr7) (fun hn => by obtain rfl := hn_t16 (fun hp => hn (FW.asm_in hk.kn (by have e0 := hp; exact ⟨e0, rfl, trivial⟩))); exact ⟨_, zd7, zc7, zr7, rfl, rfl⟩) ?_; clear hk
        rintro _ _ ⟨zd8, zc8, zr8, rfl, rfl⟩ a w hk
        refine FW.lfunG (y := .lit (.int .u64 v15)) hk rfl rfl rfl rfl rfl rfl rfl rfl (fun hc => FW.f_move hk hc rfl) ?_; clear hk; intro a w hk
        refine FW.lfunG (y := .lit (.bool (decide (t16.1 = v15)))) hk rfl rfl rfl rfl rfl rfl rfl rfl (fun hc => (FW.f_pure (FW.p_eql hk.kn hc rfl rfl))) ?_; clear hk; intro a w hk
        refine FW.lfun (y := .lit (.bool (((decide (t14.2.2.1 = 0)) && t15) && (decide (t16.1 = v15))))) hk rfl rfl rfl rfl ((FW.f_pure (FW.p_pick_and hk.kn (FW.holds_nil _) rfl rfl))) ?_; clear hk; intro a w hk
        refine FW.lfun (y := .lit (.bool (((decide (t14.2.2.1 = 0)) && t15) && (decide (t16.1 = v15))))) hk rfl rfl rfl rfl (FW.f_move hk (FW.holds_nil _) rfl) ?_; clear hk; intro a w hk
        refine FW.lfunG (y := .lit (.pointer (some ⟨b6, 0, none⟩))) hk rfl rfl rfl rfl rfl rfl rfl rfl (fun hc => FW.f_move hk hc rfl) ?_; clear hk; intro a w hk
        obtain ⟨t17, hr_t17, hn_t17, h⟩ := FW.bndG2 h
        refine FW.l_callHG (I1 := (OLogLog.items b6 b1 t16.2.1) ++ (ODevDev.items b1 zd8 zc8 zr8 t16.2.2)) (I2 := [FW.blk b2 127 ([.lit (.pointer (some ⟨b1, 0, none⟩))] ++ [.lit (.int .i64 y4_1)] ++ [.lit (.int .i64 y4_2)] ++ [.lit (.int .i64 y4_3)] ++ [.lit (.int .u64 y4_4)])]) (js := [3, 3, 3, 3]) hk rfl rfl rfl rfl rfl rfl rfl rfl rfl Go.Proofs.Try.func55 rfl (by kernel_rfl) (fun hc => log_Log_Room.ok t16.2.1 t16.2.2 _ (hr_t17 (FW.asm_out (p := (((decide (t14.2.2.1 = 0)) && t15) && (decide (t16.1 = v15))) = true) hk.kn hc (fun e0 => e0))) b6 b1 zd8 zc8 zr8) (fun hn => by obtain rfl := hn_t17 (fun hp => hn (FW.asm_in hk.kn (by have e0 := hp; exact ⟨e0, rfl, trivial⟩))); exact ⟨_, zd8, zc8, zr8, rfl, rfl⟩) ?_; clear hk
        rintro _ _ ⟨zd9, zc9, zr9, rfl, rfl⟩ a w hk
        refine FW.lfunG (y := .lit (.int .i64 v14)) hk rfl rfl rfl rfl rfl rfl rfl rfl (fun hc => FW.f_move hk hc rfl) ?_; clear hk; intro a w hk
        refine FW.lfunG (y := .lit (.bool (decide (t17.1 = v14)))) hk rfl rfl rfl rfl rfl rfl rfl rfl (fun hc => (FW.f_pure (FW.p_eql hk.kn hc rfl rfl))) ?_; clear hk; intro a w hk
        refine FW.lfun (y := .lit (.bool ((((decide (t14.2.2.1 = 0)) && t15) && (decide (t16.1 = v15))) && (decide (t17.1 = v14))))) hk rfl rfl rfl rfl ((FW.f_pure (FW.p_pick_and hk.kn (FW.holds_nil _) rfl rfl))) ?_; clear hk; intro a w hk
        refine FW.lfun (y := .lit (.bool ((((decide (t14.2.2.1 = 0)) && t15) && (decide (t16.1 = v15))) && (decide (t17.1 = v14))))) hk rfl rfl rfl rfl (FW.f_assign hk (FW.holds_nil _) rfl) ?_; clear hk; intro a w hk
        refine FW.lend (hK39 _ _ ?_); clear hK39 K'
        refine wp_ret ?_
        (repeat first | refine FW.then_ret ?_ | refine FW.block_ret ?_)
        obtain rfl := Option.some.inj h
        exact FW.fret1 hk rfl rfl
end Go.Proofs.Ytimaibcaehagjaa

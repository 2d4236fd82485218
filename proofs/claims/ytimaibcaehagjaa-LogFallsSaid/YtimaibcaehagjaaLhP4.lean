/- Written by a program of this session (gen.py): the contracts of functions of the program. -/
import Derived.KernelRfl
import Derived.Test.YtimaibcaehagjaaProg
import Derived.Test.YtimaibcaehagjaaAvFun
import Derived.Test.YtimaibcaehagjaaAvMan
import Derived.Test.YtimaibcaehagjaaAvMore
import Derived.Test.YtimaibcaehagjaaAvDraw2
import Derived.Test.YtimaibcaehagjaaAvRow
import Derived.Test.YtimaibcaehagjaaHn
import Derived.Test.YtimaibcaehagjaaHg
import Derived.Test.YtimaibcaehagjaaHar
import Derived.Test.YtimaibcaehagjaaHc
import Derived.Test.YtimaibcaehagjaaFx
import Derived.Test.YtimaibcaehagjaaDxP1
import Derived.Test.YtimaibcaehagjaaFy2
import Derived.Test.YtimaibcaehagjaaHl
import Derived.Test.YtimaibcaehagjaaHnl
import Derived.Test.YtimaibcaehagjaaLhD
import Derived.Test.YtimaibcaehagjaaLhP3
namespace Go.Proofs.Ytimaibcaehagjaa
set_option linter.unusedVariables false
set_option maxRecDepth 20000
set_option maxHeartbeats 10000000
theorem offshootref04_Laid.ok (K : Nat) (v0 : Int) (v1 : List UInt8) (r : List (List UInt8)) (h : offshootref04_Laid.f K v0 v1 = some r) :
    FW.Ok Go.Proofs.Try.prog 51 [.lit (.int .u64 v0), .lit (.string (FW.B v1))] (.row (r_c_str r)) := by
  refine FW.enter (xs := [.lit (.int .u64 v0), .lit (.string (FW.B v1))]) Go.Proofs.Try.func51 rfl Go.Proofs.Try.ntmps51 rfl ?_
  intro M w0 a hk
  unfold offshootref04_Laid.f at h
  refine FW.wreg ?_; intro K' hK1
  refine FW.lfun (y := .row (r_c_str [])) hk rfl rfl rfl rfl (FW.f_assignNil) ?_; clear hk; intro a w hk
  refine FW.lend (hK1 _ _ ?_); clear hK1 K'
  refine FW.wreg ?_; intro K' hK2
  refine FW.lfun (y := .lit (.string (FW.B v1))) hk rfl rfl rfl rfl (FW.f_move hk (FW.holds_nil _) rfl) ?_; clear hk; intro a w hk
  refine FW.lfun (y := .lit (.int .i64 (List.length v1 : Int))) hk rfl rfl rfl rfl ((FW.f_pure (FW.p_slen Go.Proofs.Try.underlying9 hk.kn (FW.holds_nil _) rfl))) ?_; clear hk; intro a w hk
  refine FW.lfun (y := .lit (.int .i64 (List.length v1 : Int))) hk rfl rfl rfl rfl (FW.f_assign hk (FW.holds_nil _) rfl) ?_; clear hk; intro a w hk
  refine FW.lend (hK2 _ _ ?_); clear hK2 K'
  refine FW.wreg ?_; intro K' hK3
  refine FW.lfun (y := .lit (.int .i64 (List.length v1 : Int))) hk rfl rfl rfl rfl (FW.f_move hk (FW.holds_nil _) rfl) ?_; clear hk; intro a w hk
  obtain ⟨t1, hr_t1, h⟩ := FW.bnd h
  refine FW.lfun (y := .lit (.int .i64 t1)) hk rfl rfl rfl rfl (FW.f_call hk (FW.holds_nil _) rfl rfl Go.Proofs.Try.func46 rfl (by kernel_rfl) (offshootref04_Sectors.ok K (List.length v1 : Int) _ hr_t1)) ?_; clear hk; intro a w hk
  refine FW.lfun (y := .lit (.int .i64 t1)) hk rfl rfl rfl rfl (FW.f_assign hk (FW.holds_nil _) rfl) ?_; clear hk; intro a w hk
  refine FW.lend (hK3 _ _ ?_); clear hK3 K'
  refine FW.wseq ?_; intro K' hK4
  refine wp_block ?_
  refine FW.wloop (T := Nat × Int × List UInt8 × Int × Int) (fun x a w => match x with | (kl1, v0, v1, v5, v6) => FW.S M w0 a w 53 [] [(0, [], .lit (.int .u64 v0)), (1, [], .lit (.string (FW.B v1))), (5, [], .lit (.int .i64 v5)), (6, [], .lit (.int .i64 v6))] ∧ offshootref04_Laid.l1 K kl1 v0 v1 v5 v6 = some r) (fun x => x.1) (K, v0, v1, (List.length v1 : Int), t1) ⟨hk.sub ⟨rfl, rfl, rfl, rfl, trivial⟩, h⟩ ?_
  clear hk h
  rintro ⟨kl1, v0, v1, v5, v6⟩ a w ⟨hk, h⟩ K' hK5
  cases kl1 with
  | zero => simp [offshootref04_Laid.l1] at h
  | succ kl1 =>
  rw [offshootref04_Laid.l1.eq_2] at h
  refine FW.wseq ?_; intro K' hK6
  refine FW.wreg ?_; intro K' hK7
  refine FW.lfun (y := .lit (.string (FW.B v1))) hk rfl rfl rfl rfl (FW.f_move hk (FW.holds_nil _) rfl) ?_; clear hk; intro a w hk
  refine FW.lfun (y := .lit (.int .i64 (List.length v1 : Int))) hk rfl rfl rfl rfl ((FW.f_pure (FW.p_slen Go.Proofs.Try.underlying9 hk.kn (FW.holds_nil _) rfl))) ?_; clear hk; intro a w hk
  refine FW.lfun (y := .lit (.int .i64 v6)) hk rfl rfl rfl rfl (FW.f_move hk (FW.holds_nil _) rfl) ?_; clear hk; intro a w hk
  refine FW.lfun (y := .lit (.int .i64 (IntKind.wrap .i64 (v6 - 1)))) hk rfl rfl rfl rfl ((FW.f_pure (FW.p_sub hk.kn (FW.holds_nil _) rfl rfl))) ?_; clear hk; intro a w hk
  refine FW.lfun (y := .lit (.int .i64 (IntKind.wrap .i64 (128 * (IntKind.wrap .i64 (v6 - 1)))))) hk rfl rfl rfl rfl ((FW.f_pure (FW.p_mul hk.kn (FW.holds_nil _) rfl rfl))) ?_; clear hk; intro a w hk
  refine FW.lfun (y := .lit (.int .i64 (IntKind.wrap .i64 (104 + (IntKind.wrap .i64 (128 * (IntKind.wrap .i64 (v6 - 1)))))))) hk rfl rfl rfl rfl ((FW.f_pure (FW.p_add hk.kn (FW.holds_nil _) rfl rfl))) ?_; clear hk; intro a w hk
  refine FW.lfun (y := .lit (.bool (decide ((List.length v1 : Int) < (IntKind.wrap .i64 (104 + (IntKind.wrap .i64 (128 * (IntKind.wrap .i64 (v6 - 1)))))))))) hk rfl rfl rfl rfl ((FW.f_pure (FW.p_lss hk.kn (FW.holds_nil _) rfl rfl))) ?_; clear hk; intro a w hk
  refine FW.lend (hK7 _ _ ?_); clear hK7 K'
  refine FW.wcondF (b := (decide ((List.length v1 : Int) < (IntKind.wrap .i64 (104 + (IntKind.wrap .i64 (128 * (IntKind.wrap .i64 (v6 - 1))))))))) hk h rfl (fun h hb => ?_) (fun h hb => ?_)
  · skip
    refine wp_skip ?_
    (repeat first | refine FW.then_normal ?_ | refine FW.block_normal ?_); refine hK6 _ _ ?_
    refine wp_block ?_
    refine FW.wreg1 ?_
    refine FW.lfun (y := .lit (.string (FW.B v1))) hk rfl rfl rfl rfl (FW.f_move hk (FW.holds_nil _) rfl) ?_; clear hk; intro a w hk
    obtain ⟨hc1, h⟩ := FW.chk h
    refine FW.lfun (y := .lit (.string (FW.B (v1 ++ ([0] : List UInt8))))) hk rfl rfl rfl rfl ((FW.f_pure (FW.p_sadd hk.kn (FW.holds_nil _) rfl rfl hc1))) ?_; clear hk; intro a w hk
    refine FW.lfun (y := .lit (.string (FW.B (v1 ++ ([0] : List UInt8))))) hk rfl rfl rfl rfl (FW.f_assign hk (FW.holds_nil _) rfl) ?_; clear hk; intro a w hk
    refine wpList_nil ?_
    (repeat first | refine FW.then_normal ?_ | refine FW.block_normal ?_); exact hK5 (kl1, v0, (v1 ++ ([0] : List UInt8)), v5, v6) _ _ (Nat.lt_succ_self _) ⟨hk.sub ⟨rfl, rfl, rfl, rfl, trivial⟩, h⟩
  · skip
    refine wp_exit ?_; (repeat first | refine FW.then_exit ?_ | refine FW.block_exit_ne rfl ?_); refine FW.block_exit ?_
    (repeat first | refine FW.then_normal ?_ | refine FW.block_normal ?_); refine hK4 _ _ ?_
    obtain ⟨t2, hr_t2, h⟩ := FW.bnd h
    obtain ⟨t3, hr_t3, h⟩ := FW.bnd h
    obtain ⟨hc2, h⟩ := FW.chk h
    obtain ⟨hc3, h⟩ := FW.chk h
    obtain ⟨hc4, h⟩ := FW.chk h
    obtain ⟨t4, hr_t4, h⟩ := FW.bnd h
    obtain ⟨hc5, h⟩ := FW.chk h
    refine FW.wdrawE (.next [true, true, true, true, true, true, true, true, true, true, true, true, false, false] 12 [true, true, true, true, true, true, true, true, true, true, true, true, false, false] (.leaf [false, false, false, false, false, false, false, false, false, false, false, false, false, true])) [(22, [], .lit (.int .u64 v0)), (23, [], .lit (.string (FW.B t2))), (24, [], .lit (.int .i64 v5)), (25, [], .lit (.int .u64 (IntKind.wrap .u64 v5))), (26, [], .lit (.string (FW.B t3))), (27, [], .lit (.string (FW.B (t2 ++ t3)))), (28, [], .lit (.string (FW.B v1))), (29, [], .lit (.string (FW.B (List.take (Int.toNat 104) v1)))), (30, [], .lit (.string (FW.B ((t2 ++ t3) ++ (List.take (Int.toNat 104) v1))))), (31, [], .lit (.int .u64 v0)), (32, [], .lit (.string (FW.B t4))), (33, [], .lit (.string (FW.B (((t2 ++ t3) ++ (List.take (Int.toNat 104) v1)) ++ t4)))), (34, [], .agg []), (7, [], .agg [])] (by kernel_rfl) (by kernel_rfl) (by kernel_rfl) (by kernel_rfl) hk ?_; clear hk
    refine FW.gnext ?_ rfl rfl rfl rfl rfl ?_
    · skip
      refine FW.gfun (y := .lit (.int .u64 v0)) rfl rfl rfl rfl (fun a w hk => FW.f_move hk (FW.holds_nil _) rfl) ?_
      refine FW.gfun (y := .lit (.string (FW.B t2))) rfl rfl rfl rfl (fun a w hk => FW.f_call hk (FW.holds_nil _) rfl rfl Go.Proofs.Try.func76 rfl (by kernel_rfl) (offshootref02_Eight.ok K v0 _ hr_t2)) ?_
      refine FW.gfun (y := .lit (.int .i64 v5)) rfl rfl rfl rfl (fun a w hk => FW.f_move hk (FW.holds_nil _) rfl) ?_
      refine FW.gfun (y := .lit (.int .u64 (IntKind.wrap .u64 v5))) rfl rfl rfl rfl (fun a w hk => (FW.f_pure (FW.p_conv Go.Proofs.Try.underlying3 Go.Proofs.Try.underlying29 hk.kn (FW.holds_nil _) rfl))) ?_
      refine FW.gfun (y := .lit (.string (FW.B t3))) rfl rfl rfl rfl (fun a w hk => FW.f_call hk (FW.holds_nil _) rfl rfl Go.Proofs.Try.func76 rfl (by kernel_rfl) (offshootref02_Eight.ok K (IntKind.wrap .u64 v5) _ hr_t3)) ?_
      refine FW.gfun (y := .lit (.string (FW.B (t2 ++ t3)))) rfl rfl rfl rfl (fun a w hk => (FW.f_pure (FW.p_sadd hk.kn (FW.holds_nil _) rfl rfl hc2))) ?_
      refine FW.gfun (y := .lit (.string (FW.B v1))) rfl rfl rfl rfl (fun a w hk => FW.f_move hk (FW.holds_nil _) rfl) ?_
      refine FW.gfun (y := .lit (.string (FW.B (List.take (Int.toNat 104) v1)))) rfl rfl rfl rfl (fun a w hk => (FW.f_pure (FW.p_slice_hi Go.Proofs.Try.underlying9 hk.kn (FW.holds_nil _) rfl rfl hc3))) ?_
      refine FW.gfun (y := .lit (.string (FW.B ((t2 ++ t3) ++ (List.take (Int.toNat 104) v1))))) rfl rfl rfl rfl (fun a w hk => (FW.f_pure (FW.p_sadd hk.kn (FW.holds_nil _) rfl rfl hc4))) ?_
      refine FW.gfun (y := .lit (.int .u64 v0)) rfl rfl rfl rfl (fun a w hk => FW.f_move hk (FW.holds_nil _) rfl) ?_
      refine FW.gfun (y := .lit (.string (FW.B t4))) rfl rfl rfl rfl (fun a w hk => FW.f_call hk (FW.holds_nil _) rfl rfl Go.Proofs.Try.func76 rfl (by kernel_rfl) (offshootref02_Eight.ok K v0 _ hr_t4)) ?_
      refine FW.gfun (y := .lit (.string (FW.B (((t2 ++ t3) ++ (List.take (Int.toNat 104) v1)) ++ t4)))) rfl rfl rfl rfl (fun a w hk => (FW.f_pure (FW.p_sadd hk.kn (FW.holds_nil _) rfl rfl hc5))) ?_
      refine FW.gskip rfl rfl ?_
      refine FW.gskip rfl rfl ?_
      exact FW.gend
    · skip
      intro σD a w opsD QD hk hf hQ hX
      refine FW.l_buildSlice (f := c_str) (l := ([(((t2 ++ t3) ++ (List.take (Int.toNat 104) v1)) ++ t4)] : List (List UInt8))) hk rfl hf rfl Go.Proofs.Try.underlying61 rfl rfl rfl rfl (fun _ => rfl) rfl ?_; clear hk; intro bx1 a w hk
      refine hQ _ _ a w ?_ hk; clear hk hQ hf hX
      refine ⟨[(22, [], .lit (.int .u64 v0)), (23, [], .lit (.string (FW.B t2))), (24, [], .lit (.int .i64 v5)), (25, [], .lit (.int .u64 (IntKind.wrap .u64 v5))), (26, [], .lit (.string (FW.B t3))), (27, [], .lit (.string (FW.B (t2 ++ t3)))), (28, [], .lit (.string (FW.B v1))), (29, [], .lit (.string (FW.B (List.take (Int.toNat 104) v1)))), (30, [], .lit (.string (FW.B ((t2 ++ t3) ++ (List.take (Int.toNat 104) v1))))), (31, [], .lit (.int .u64 v0)), (32, [], .lit (.string (FW.B t4))), (33, [], .lit (.string (FW.B (((t2 ++ t3) ++ (List.take (Int.toNat 104) v1)) ++ t4)))), (34, [], .lit (.slice (some ⟨bx1, 0, none⟩) (List.length ([(((t2 ++ t3) ++ (List.take (Int.toNat 104) v1)) ++ t4)] : List (List UInt8))) 1)), (7, [], .lit (.slice (some ⟨bx1, 0, none⟩) (List.length ([(((t2 ++ t3) ++ (List.take (Int.toNat 104) v1)) ++ t4)] : List (List UInt8))) 1))], And.intro rfl (And.intro rfl (And.intro rfl (And.intro rfl (And.intro rfl (And.intro rfl (And.intro rfl (And.intro rfl (And.intro rfl (And.intro rfl (And.intro rfl (And.intro rfl (trivial)))))))))))), rfl, ?_⟩
      refine FW.glast ?_ ?_
      · skip
        refine FW.gskip rfl rfl ?_
        refine FW.gskip rfl rfl ?_
        refine FW.gskip rfl rfl ?_
        refine FW.gskip rfl rfl ?_
        refine FW.gskip rfl rfl ?_
        refine FW.gskip rfl rfl ?_
        refine FW.gskip rfl rfl ?_
        refine FW.gskip rfl rfl ?_
        refine FW.gskip rfl rfl ?_
        refine FW.gskip rfl rfl ?_
        refine FW.gskip rfl rfl ?_
        refine FW.gskip rfl rfl ?_
        refine FW.gskip rfl rfl ?_
        refine FW.gfun (y := .lit (.slice (some ⟨bx1, 0, none⟩) (List.length ([(((t2 ++ t3) ++ (List.take (Int.toNat 104) v1)) ++ t4)] : List (List UInt8))) 1)) rfl rfl rfl rfl (fun a w hk => FW.f_assign hk (FW.holds_nil _) rfl) ?_
        exact FW.gend
      · skip
        intro a w hk; simp only [FW.stD, cond_true] at hk
        refine FW.wseq ?_; intro K' hK10
        refine FW.wreg ?_; intro K' hK11
        refine FW.lfun (y := .lit (.int .i64 1)) hk rfl rfl rfl rfl (FW.f_assign hk (FW.holds_nil _) rfl) ?_; clear hk; intro a w hk
        refine FW.lend (hK11 _ _ ?_); clear hK11 K'
        refine wp_block ?_
        refine FW.wloop (T := Nat × List (List UInt8) × List UInt8 × Int × Int × Option Addr × Nat) (fun x a w => match x with | (kl2, l1, v1, v6, v8, xd1, xc1) => FW.S M w0 a w 53 [FW.orow xd1 xc1 9 1 c_str l1] [(1, [], .lit (.string (FW.B v1))), (6, [], .lit (.int .i64 v6)), (7, [], .lit (.slice xd1 (List.length l1) xc1)), (8, [], .lit (.int .i64 v8))] ∧ offshootref04_Laid.l2 (offshootref04_Laid.l1 K kl1) K kl2 l1 v1 v6 v8 = some r) (fun x => x.1) (K, ([(((t2 ++ t3) ++ (List.take (Int.toNat 104) v1)) ++ t4)] : List (List UInt8)), v1, v6, 1, (some ⟨bx1, 0, none⟩), 1) ⟨hk.sub ⟨rfl, rfl, rfl, rfl, trivial⟩, h⟩ ?_
        clear hk h
        rintro ⟨kl2, l1, v1, v6, v8, xd1, xc1⟩ a w ⟨hk, h⟩ K' hK12
        cases kl2 with
        | zero => simp [offshootref04_Laid.l2] at h
        | succ kl2 =>
        rw [offshootref04_Laid.l2.eq_2] at h
        refine FW.wseq ?_; intro K' hK13
        refine FW.wreg ?_; intro K' hK14
        refine FW.lfun (y := .lit (.int .i64 v8)) hk rfl rfl rfl rfl (FW.f_move hk (FW.holds_nil _) rfl) ?_; clear hk; intro a w hk
        refine FW.lfun (y := .lit (.int .i64 v6)) hk rfl rfl rfl rfl (FW.f_move hk (FW.holds_nil _) rfl) ?_; clear hk; intro a w hk
        refine FW.lfun (y := .lit (.bool (decide (v8 < v6)))) hk rfl rfl rfl rfl ((FW.f_pure (FW.p_lss hk.kn (FW.holds_nil _) rfl rfl))) ?_; clear hk; intro a w hk
        refine FW.lend (hK14 _ _ ?_); clear hK14 K'
        refine FW.wcondF (b := (decide (v8 < v6))) hk h rfl (fun h hb => ?_) (fun h hb => ?_)
        · skip
          refine wp_skip ?_
          (repeat first | refine FW.then_normal ?_ | refine FW.block_normal ?_); refine hK13 _ _ ?_
          refine FW.wseq ?_; intro K' hK15
          refine wp_block ?_
          refine FW.wreg1 ?_
          refine FW.lfun (y := .lit (.slice xd1 (List.length l1) xc1)) hk rfl rfl rfl rfl (FW.f_move hk (FW.holds_nil _) rfl) ?_; clear hk; intro a w hk
          refine FW.lfun (y := .lit (.string (FW.B v1))) hk rfl rfl rfl rfl (FW.f_move hk (FW.holds_nil _) rfl) ?_; clear hk; intro a w hk
          refine FW.lfun (y := .lit (.int .i64 v8)) hk rfl rfl rfl rfl (FW.f_move hk (FW.holds_nil _) rfl) ?_; clear hk; intro a w hk
          refine FW.lfun (y := .lit (.int .i64 (IntKind.wrap .i64 (v8 - 1)))) hk rfl rfl rfl rfl ((FW.f_pure (FW.p_sub hk.kn (FW.holds_nil _) rfl rfl))) ?_; clear hk; intro a w hk
          refine FW.lfun (y := .lit (.int .i64 (IntKind.wrap .i64 (128 * (IntKind.wrap .i64 (v8 - 1)))))) hk rfl rfl rfl rfl ((FW.f_pure (FW.p_mul hk.kn (FW.holds_nil _) rfl rfl))) ?_; clear hk; intro a w hk
          refine FW.lfun (y := .lit (.int .i64 (IntKind.wrap .i64 (104 + (IntKind.wrap .i64 (128 * (IntKind.wrap .i64 (v8 - 1)))))))) hk rfl rfl rfl rfl ((FW.f_pure (FW.p_add hk.kn (FW.holds_nil _) rfl rfl))) ?_; clear hk; intro a w hk
          refine FW.lfun (y := .lit (.int .i64 v8)) hk rfl rfl rfl rfl (FW.f_move hk (FW.holds_nil _) rfl) ?_; clear hk; intro a w hk
          refine FW.lfun (y := .lit (.int .i64 (IntKind.wrap .i64 (128 * v8)))) hk rfl rfl rfl rfl ((FW.f_pure (FW.p_mul hk.kn (FW.holds_nil _) rfl rfl))) ?_; clear hk; intro a w hk
          refine FW.lfun (y := .lit (.int .i64 (IntKind.wrap .i64 (104 + (IntKind.wrap .i64 (128 * v8)))))) hk rfl rfl rfl rfl ((FW.f_pure (FW.p_add hk.kn (FW.holds_nil _) rfl rfl))) ?_; clear hk; intro a w hk
          obtain ⟨hc6, h⟩ := FW.chk h
          refine FW.lfun (y := .lit (.string (FW.B (List.take (Int.toNat (IntKind.wrap .i64 (104 + (IntKind.wrap .i64 (128 * v8)))) - Int.toNat (IntKind.wrap .i64 (104 + (IntKind.wrap .i64 (128 * (IntKind.wrap .i64 (v8 - 1))))))) (List.drop (Int.toNat (IntKind.wrap .i64 (104 + (IntKind.wrap .i64 (128 * (IntKind.wrap .i64 (v8 - 1))))))) v1))))) hk rfl rfl rfl rfl ((FW.f_pure (FW.p_slice Go.Proofs.Try.underlying9 hk.kn (FW.holds_nil _) rfl rfl rfl hc6))) ?_; clear hk; intro a w hk
          refine FW.l_buildSlice (f := c_str) (l := ([(List.take (Int.toNat (IntKind.wrap .i64 (104 + (IntKind.wrap .i64 (128 * v8)))) - Int.toNat (IntKind.wrap .i64 (104 + (IntKind.wrap .i64 (128 * (IntKind.wrap .i64 (v8 - 1))))))) (List.drop (Int.toNat (IntKind.wrap .i64 (104 + (IntKind.wrap .i64 (128 * (IntKind.wrap .i64 (v8 - 1))))))) v1))] : List (List UInt8))) hk rfl rfl rfl Go.Proofs.Try.underlying61 rfl rfl rfl rfl (fun _ => rfl) rfl ?_; clear hk; intro bx2 a w hk
          obtain ⟨hc7, h⟩ := FW.chk h
          refine FW.l_append (l2 := ([(List.take (Int.toNat (IntKind.wrap .i64 (104 + (IntKind.wrap .i64 (128 * v8)))) - Int.toNat (IntKind.wrap .i64 (104 + (IntKind.wrap .i64 (128 * (IntKind.wrap .i64 (v8 - 1))))))) (List.drop (Int.toNat (IntKind.wrap .i64 (104 + (IntKind.wrap .i64 (128 * (IntKind.wrap .i64 (v8 - 1))))))) v1))] : List (List UInt8))) (l3 := (l1 ++ ([(List.take (Int.toNat (IntKind.wrap .i64 (104 + (IntKind.wrap .i64 (128 * v8)))) - Int.toNat (IntKind.wrap .i64 (104 + (IntKind.wrap .i64 (128 * (IntKind.wrap .i64 (v8 - 1))))))) (List.drop (Int.toNat (IntKind.wrap .i64 (104 + (IntKind.wrap .i64 (128 * (IntKind.wrap .i64 (v8 - 1))))))) v1))] : List (List UInt8)))) (I' := fun ad1 cap1 => [FW.orow (some ⟨bx2, 0, none⟩) 1 9 1 c_str ([(List.take (Int.toNat (IntKind.wrap .i64 (104 + (IntKind.wrap .i64 (128 * v8)))) - Int.toNat (IntKind.wrap .i64 (104 + (IntKind.wrap .i64 (128 * (IntKind.wrap .i64 (v8 - 1))))))) (List.drop (Int.toNat (IntKind.wrap .i64 (104 + (IntKind.wrap .i64 (128 * (IntKind.wrap .i64 (v8 - 1))))))) v1))] : List (List UInt8)), FW.orow ad1 cap1 9 1 c_str (l1 ++ ([(List.take (Int.toNat (IntKind.wrap .i64 (104 + (IntKind.wrap .i64 (128 * v8)))) - Int.toNat (IntKind.wrap .i64 (104 + (IntKind.wrap .i64 (128 * (IntKind.wrap .i64 (v8 - 1))))))) (List.drop (Int.toNat (IntKind.wrap .i64 (104 + (IntKind.wrap .i64 (128 * (IntKind.wrap .i64 (v8 - 1))))))) v1))] : List (List UInt8)))]) (j := 1) hk rfl rfl rfl rfl (FW.own_src hk (j := 0) rfl rfl (fun _ => rfl) Go.Proofs.Try.underlying61) Go.Proofs.Try.underlying61 (by kernel_rfl) hc7 rfl (fun _ _ => rfl) ?_; clear hk; intro ad1 cap1 a w hk
          replace hk := FW.S.dropI (I' := [FW.orow ad1 cap1 9 1 c_str (l1 ++ ([(List.take (Int.toNat (IntKind.wrap .i64 (104 + (IntKind.wrap .i64 (128 * v8)))) - Int.toNat (IntKind.wrap .i64 (104 + (IntKind.wrap .i64 (128 * (IntKind.wrap .i64 (v8 - 1))))))) (List.drop (Int.toNat (IntKind.wrap .i64 (104 + (IntKind.wrap .i64 (128 * (IntKind.wrap .i64 (v8 - 1))))))) v1))] : List (List UInt8)))]) hk 0 rfl
          refine FW.lfun (y := .lit (.slice ad1 (List.length (l1 ++ ([(List.take (Int.toNat (IntKind.wrap .i64 (104 + (IntKind.wrap .i64 (128 * v8)))) - Int.toNat (IntKind.wrap .i64 (104 + (IntKind.wrap .i64 (128 * (IntKind.wrap .i64 (v8 - 1))))))) (List.drop (Int.toNat (IntKind.wrap .i64 (104 + (IntKind.wrap .i64 (128 * (IntKind.wrap .i64 (v8 - 1))))))) v1))] : List (List UInt8)))) cap1)) hk rfl rfl rfl rfl (FW.f_assign hk (FW.holds_nil _) rfl) ?_; clear hk; intro a w hk
          refine wpList_nil ?_
          (repeat first | refine FW.then_normal ?_ | refine FW.block_normal ?_); refine hK15 _ _ ?_
          refine FW.wreg1 ?_
          refine FW.lfun (y := .lit (.int .i64 v8)) hk rfl rfl rfl rfl (FW.f_move hk (FW.holds_nil _) rfl) ?_; clear hk; intro a w hk
          refine FW.lfun (y := .lit (.int .i64 (IntKind.wrap .i64 (v8 + 1)))) hk rfl rfl rfl rfl ((FW.f_pure (FW.p_add hk.kn (FW.holds_nil _) rfl rfl))) ?_; clear hk; intro a w hk
          refine FW.lfun (y := .lit (.int .i64 (IntKind.wrap .i64 (v8 + 1)))) hk rfl rfl rfl rfl (FW.f_assign hk (FW.holds_nil _) rfl) ?_; clear hk; intro a w hk
          refine wpList_nil ?_
          (repeat first | refine FW.then_normal ?_ | refine FW.block_normal ?_); exact hK12 (kl2, (l1 ++ ([(List.take (Int.toNat (IntKind.wrap .i64 (104 + (IntKind.wrap .i64 (128 * v8)))) - Int.toNat (IntKind.wrap .i64 (104 + (IntKind.wrap .i64 (128 * (IntKind.wrap .i64 (v8 - 1))))))) (List.drop (Int.toNat (IntKind.wrap .i64 (104 + (IntKind.wrap .i64 (128 * (IntKind.wrap .i64 (v8 - 1))))))) v1))] : List (List UInt8))), v1, v6, (IntKind.wrap .i64 (v8 + 1)), ad1, cap1) _ _ (Nat.lt_succ_self _) ⟨hk.sub ⟨rfl, rfl, rfl, rfl, trivial⟩, h⟩
        · skip
          refine wp_exit ?_; (repeat first | refine FW.then_exit ?_ | refine FW.block_exit_ne rfl ?_); refine FW.block_exit ?_
          (repeat first | refine FW.then_normal ?_ | refine FW.block_normal ?_); refine hK10 _ _ ?_
          refine FW.wreg ?_; intro K' hK18
          refine FW.lfun (y := .lit (.slice xd1 (List.length l1) xc1)) hk rfl rfl rfl rfl (FW.f_move hk (FW.holds_nil _) rfl) ?_; clear hk; intro a w hk
          refine FW.lfun (y := .lit (.slice xd1 (List.length l1) xc1)) hk rfl rfl rfl rfl (FW.f_assign hk (FW.holds_nil _) rfl) ?_; clear hk; intro a w hk
          refine FW.lend (hK18 _ _ ?_); clear hK18 K'
          refine wp_ret ?_
          (repeat first | refine FW.then_ret ?_ | refine FW.block_ret ?_)
          replace hk := FW.S.freezeR (I' := []) r_c_str_eq hk (j := 0) rfl (t := 4) rfl rfl
          obtain rfl := Option.some.inj h
          exact FW.fret1 hk rfl rfl

theorem log_Log_Reset.ok  (v0 : OLogLog) (v0_0 : ODevDev) (r : OLogLog × ODevDev) (h : log_Log_Reset.f v0 v0_0 = some r) :
    ∀ (b0 : Nat) (b0_0 : Nat) (xd0_0_0 : Option Addr) (xc0_0_0 : Nat) (xr0_0_1 : Nat) (xd0_0_3 : Option Addr) (xc0_0_3 : Nat), FW.OkH Go.Proofs.Try.prog 48 [.lit (.pointer (some ⟨b0, 0, none⟩))] ((OLogLog.items b0 b0_0 v0) ++ (ODevDev.items b0_0 xd0_0_0 xc0_0_0 xr0_0_1 xd0_0_3 xc0_0_3 v0_0)) (fun y I => ∃ (zxd0_0_0 : Option Addr) (zxc0_0_0 : Nat) (zxr0_0_1 : Nat) (zxd0_0_3 : Option Addr) (zxc0_0_3 : Nat), y = .tup [] ∧ I = (OLogLog.items b0 b0_0 r.1) ++ (ODevDev.items b0_0 zxd0_0_0 zxc0_0_0 zxr0_0_1 zxd0_0_3 zxc0_0_3 r.2)) := by
  intro b0 b0_0 xd0_0_0 xc0_0_0 xr0_0_1 xd0_0_3 xc0_0_3
  refine FW.enterH (xs := [.lit (.pointer (some ⟨b0, 0, none⟩))]) Go.Proofs.Try.func48 rfl Go.Proofs.Try.ntmps48 rfl ?_
  intro M w0 a hk
  replace hk : FW.S M w0 a w0.toWorld 11 [FW.blk b0 127 ([.lit (.pointer (some ⟨b0_0, 0, none⟩)), .lit (.int .i64 v0.from_), .lit (.int .i64 v0.to_), .lit (.int .i64 v0.at_), .lit (.int .u64 v0.next)]), FW.blk b0_0 109 ([.lit (.slice xd0_0_0 (List.length v0_0.sure) xc0_0_0), .lit (.map (some xr0_0_1)), .lit (.int .i64 v0_0.steps), .lit (.slice xd0_0_3 (List.length v0_0.falls) xc0_0_3), .lit (.bool v0_0.off)]), FW.orow xd0_0_0 xc0_0_0 9 1 c_str v0_0.sure, FW.mapI (.int .i64) (Value.int .i64) FW.evS xr0_0_1 v0_0.cache, FW.orow xd0_0_3 xc0_0_3 45 3 ApiFall.cells v0_0.falls] [(0, [], .lit (.pointer (some ⟨b0, 0, none⟩)))] := hk
  unfold log_Log_Reset.f at h
  refine FW.wreg ?_; intro K' hK1
  refine FW.lfun (y := .lit (.pointer (some ⟨b0, 0, none⟩))) hk rfl rfl rfl rfl (FW.f_move hk (FW.holds_nil _) rfl) ?_; clear hk; intro a w hk
  refine FW.lfun (y := .lit (.bool true)) hk rfl rfl rfl rfl ((FW.f_pure (FW.p_ptrNe Go.Proofs.Try.underlying79 hk.kn (FW.holds_nil _) rfl rfl rfl))) ?_; clear hk; intro a w hk
  refine FW.lend (hK1 _ _ ?_); clear hK1 K'
  refine FW.wcondT hk rfl ?_
  refine FW.wreg1 ?_
  refine FW.lfun (y := .lit (.pointer (some ⟨b0, 0, none⟩))) hk rfl rfl rfl rfl (FW.f_move hk (FW.holds_nil _) rfl) ?_; clear hk; intro a w hk
  refine FW.lfun (y := .lit (.pointer (some ⟨b0, 0, none⟩))) hk rfl rfl rfl rfl (FW.f_move hk (FW.holds_nil _) rfl) ?_; clear hk; intro a w hk
  refine FW.lfun (y := .lit (.pointer (some ⟨b0, 0, none⟩))) hk rfl rfl rfl rfl ((FW.f_pure (FW.p_nilCheck hk.kn (FW.holds_nil _) rfl))) ?_; clear hk; intro a w hk
  refine FW.lfun (y := .lit (.pointer (some ⟨b0, 1, none⟩))) hk rfl rfl rfl rfl (FW.f_fieldPtr hk (FW.holds_nil _) rfl Go.Proofs.Try.underlying127 rfl (by kernel_rfl) rfl) ?_; clear hk; intro a w hk
  refine FW.lfun (y := .lit (.int .i64 v0.from_)) hk rfl rfl rfl rfl (FW.f_loadBlk1 hk (FW.holds_nil _) (j := 0) rfl rfl Go.Proofs.Try.underlying3 rfl rfl) ?_; clear hk; intro a w hk
  refine FW.lfun (y := .lit (.pointer (some ⟨b0, 0, none⟩))) hk rfl rfl rfl rfl ((FW.f_pure (FW.p_nilCheck hk.kn (FW.holds_nil _) rfl))) ?_; clear hk; intro a w hk
  refine FW.lfun (y := .lit (.pointer (some ⟨b0, 3, none⟩))) hk rfl rfl rfl rfl (FW.f_fieldPtr hk (FW.holds_nil _) rfl Go.Proofs.Try.underlying127 rfl (by kernel_rfl) rfl) ?_; clear hk; intro a w hk
  refine FW.l_store (I' := [FW.blk b0 127 ([.lit (.pointer (some ⟨b0_0, 0, none⟩)), .lit (.int .i64 v0.from_), .lit (.int .i64 v0.to_), .lit (.int .i64 v0.from_), .lit (.int .u64 v0.next)]), FW.blk b0_0 109 ([.lit (.slice xd0_0_0 (List.length v0_0.sure) xc0_0_0), .lit (.map (some xr0_0_1)), .lit (.int .i64 v0_0.steps), .lit (.slice xd0_0_3 (List.length v0_0.falls) xc0_0_3), .lit (.bool v0_0.off)]), FW.orow xd0_0_0 xc0_0_0 9 1 c_str v0_0.sure, FW.mapI (.int .i64) (Value.int .i64) FW.evS xr0_0_1 v0_0.cache, FW.orow xd0_0_3 xc0_0_3 45 3 ApiFall.cells v0_0.falls]) (cs' := [.lit (.pointer (some ⟨b0_0, 0, none⟩)), .lit (.int .i64 v0.from_), .lit (.int .i64 v0.to_), .lit (.int .i64 v0.from_), .lit (.int .u64 v0.next)]) (j := 0) hk rfl rfl rfl rfl rfl (by kernel_rfl) rfl rfl ?_; clear hk; intro w hk
  refine wpList_nil ?_
  (repeat first | refine FW.then_normal ?_ | refine FW.block_normal ?_)
  refine FW.fnorm ?_
  obtain rfl := Option.some.inj h
  replace hk := FW.S.keep (I1 := [FW.blk b0 127 ([.lit (.pointer (some ⟨b0_0, 0, none⟩)), .lit (.int .i64 v0.from_), .lit (.int .i64 v0.to_), .lit (.int .i64 v0.from_), .lit (.int .u64 v0.next)]), FW.blk b0_0 109 ([.lit (.slice xd0_0_0 (List.length v0_0.sure) xc0_0_0), .lit (.map (some xr0_0_1)), .lit (.int .i64 v0_0.steps), .lit (.slice xd0_0_3 (List.length v0_0.falls) xc0_0_3), .lit (.bool v0_0.off)]), FW.orow xd0_0_0 xc0_0_0 9 1 c_str v0_0.sure, FW.mapI (.int .i64) (Value.int .i64) FW.evS xr0_0_1 v0_0.cache, FW.orow xd0_0_3 xc0_0_3 45 3 ApiFall.cells v0_0.falls]) (I2 := []) (js := [4, 4, 4, 4, 4]) hk rfl
  exact FW.fretH0 hk rfl ⟨xd0_0_0, xc0_0_0, xr0_0_1, xd0_0_3, xc0_0_3, rfl, rfl⟩

theorem log_Log_Next.ok  (v0 : OLogLog) (v0_0 : ODevDev) (r : Int) (h : log_Log_Next.f v0 v0_0 = some r) :
    ∀ (b0 : Nat) (b0_0 : Nat) (xd0_0_0 : Option Addr) (xc0_0_0 : Nat) (xr0_0_1 : Nat) (xd0_0_3 : Option Addr) (xc0_0_3 : Nat), FW.OkH Go.Proofs.Try.prog 54 [.lit (.pointer (some ⟨b0, 0, none⟩))] ((OLogLog.items b0 b0_0 v0) ++ (ODevDev.items b0_0 xd0_0_0 xc0_0_0 xr0_0_1 xd0_0_3 xc0_0_3 v0_0)) (fun y I => y = .lit (.int .u64 r) ∧ I = (OLogLog.items b0 b0_0 v0) ++ (ODevDev.items b0_0 xd0_0_0 xc0_0_0 xr0_0_1 xd0_0_3 xc0_0_3 v0_0)) := by
  intro b0 b0_0 xd0_0_0 xc0_0_0 xr0_0_1 xd0_0_3 xc0_0_3
  refine FW.enterH (xs := [.lit (.pointer (some ⟨b0, 0, none⟩))]) Go.Proofs.Try.func54 rfl Go.Proofs.Try.ntmps54 rfl ?_
  intro M w0 a hk
  replace hk : FW.S M w0 a w0.toWorld 9 [FW.blk b0 127 ([.lit (.pointer (some ⟨b0_0, 0, none⟩)), .lit (.int .i64 v0.from_), .lit (.int .i64 v0.to_), .lit (.int .i64 v0.at_), .lit (.int .u64 v0.next)]), FW.blk b0_0 109 ([.lit (.slice xd0_0_0 (List.length v0_0.sure) xc0_0_0), .lit (.map (some xr0_0_1)), .lit (.int .i64 v0_0.steps), .lit (.slice xd0_0_3 (List.length v0_0.falls) xc0_0_3), .lit (.bool v0_0.off)]), FW.orow xd0_0_0 xc0_0_0 9 1 c_str v0_0.sure, FW.mapI (.int .i64) (Value.int .i64) FW.evS xr0_0_1 v0_0.cache, FW.orow xd0_0_3 xc0_0_3 45 3 ApiFall.cells v0_0.falls] [(0, [], .lit (.pointer (some ⟨b0, 0, none⟩)))] := hk
  unfold log_Log_Next.f at h
  refine FW.wreg ?_; intro K' hK1
  refine FW.lfun (y := .lit (.int .u64 0)) hk rfl rfl rfl rfl (FW.f_assign hk (FW.holds_nil _) rfl) ?_; clear hk; intro a w hk
  refine FW.lend (hK1 _ _ ?_); clear hK1 K'
  refine FW.wseq ?_; intro K' hK2
  refine FW.wreg ?_; intro K' hK3
  refine FW.lfun (y := .lit (.pointer (some ⟨b0, 0, none⟩))) hk rfl rfl rfl rfl (FW.f_move hk (FW.holds_nil _) rfl) ?_; clear hk; intro a w hk
  refine FW.lfun (y := .lit (.bool false)) hk rfl rfl rfl rfl ((FW.f_pure (FW.p_ptrEq Go.Proofs.Try.underlying79 hk.kn (FW.holds_nil _) rfl rfl rfl))) ?_; clear hk; intro a w hk
  refine FW.lend (hK3 _ _ ?_); clear hK3 K'
  refine FW.wcondX hk rfl ?_
  refine wp_skip ?_
  (repeat first | refine FW.then_normal ?_ | refine FW.block_normal ?_); refine hK2 _ _ ?_
  refine FW.wreg ?_; intro K' hK4
  refine FW.lfun (y := .lit (.pointer (some ⟨b0, 0, none⟩))) hk rfl rfl rfl rfl (FW.f_move hk (FW.holds_nil _) rfl) ?_; clear hk; intro a w hk
  refine FW.lfun (y := .lit (.pointer (some ⟨b0, 0, none⟩))) hk rfl rfl rfl rfl ((FW.f_pure (FW.p_nilCheck hk.kn (FW.holds_nil _) rfl))) ?_; clear hk; intro a w hk
  refine FW.lfun (y := .lit (.pointer (some ⟨b0, 4, none⟩))) hk rfl rfl rfl rfl (FW.f_fieldPtr hk (FW.holds_nil _) rfl Go.Proofs.Try.underlying127 rfl (by kernel_rfl) rfl) ?_; clear hk; intro a w hk
  refine FW.lfun (y := .lit (.int .u64 v0.next)) hk rfl rfl rfl rfl (FW.f_loadBlk1 hk (FW.holds_nil _) (j := 0) rfl rfl Go.Proofs.Try.underlying29 rfl rfl) ?_; clear hk; intro a w hk
  refine FW.lfun (y := .lit (.int .u64 v0.next)) hk rfl rfl rfl rfl (FW.f_assign hk (FW.holds_nil _) rfl) ?_; clear hk; intro a w hk
  refine FW.lend (hK4 _ _ ?_); clear hK4 K'
  refine wp_ret ?_
  (repeat first | refine FW.then_ret ?_ | refine FW.block_ret ?_)
  obtain rfl := Option.some.inj h
  replace hk := FW.S.keep (I1 := [FW.blk b0 127 ([.lit (.pointer (some ⟨b0_0, 0, none⟩)), .lit (.int .i64 v0.from_), .lit (.int .i64 v0.to_), .lit (.int .i64 v0.at_), .lit (.int .u64 v0.next)]), FW.blk b0_0 109 ([.lit (.slice xd0_0_0 (List.length v0_0.sure) xc0_0_0), .lit (.map (some xr0_0_1)), .lit (.int .i64 v0_0.steps), .lit (.slice xd0_0_3 (List.length v0_0.falls) xc0_0_3), .lit (.bool v0_0.off)]), FW.orow xd0_0_0 xc0_0_0 9 1 c_str v0_0.sure, FW.mapI (.int .i64) (Value.int .i64) FW.evS xr0_0_1 v0_0.cache, FW.orow xd0_0_3 xc0_0_3 45 3 ApiFall.cells v0_0.falls]) (I2 := []) (js := [4, 4, 4, 4, 4]) hk rfl
  exact FW.fretH1 hk rfl (FW.rtmp hk rfl) ⟨rfl, rfl⟩
end Go.Proofs.Ytimaibcaehagjaa

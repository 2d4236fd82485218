/- Written by a program of this session (gen.py): the contracts of functions of the program. -/
import Derived.Test.YtbjbgodcenopnaaCbP15
namespace Go.Proofs.Ytbjbgodcenopnaa
set_option linter.unusedVariables false
set_option maxRecDepth 20000
set_option maxHeartbeats 10000000
theorem code_nested.ok  (v0 : List UInt8) (r : Int) (h : code_nested.f v0 = some r) :
  FW.Ok Try.prog 103 [.lit (.string (FW.B v0))] (.lit (.int .i64 r)) := by
 refine FW.enter (xs := [.lit (.string (FW.B v0))]) Try.func103 rfl Try.ntmps103 rfl ?_
 intro M w0 a hk
 unfold code_nested.f at h
 refine FW.wreg fun _ q1 => ?_
 refine FW.sA hk fun a w hk => ?_
 refine FW.lend (q1 _ _ ?_)
 refine FW.wseq fun _ q2 => ?_
 refine FW.wreg fun _ q3 => ?_
 refine FW.sM hk fun a w hk => ?_
 refine FW.lend (q3 _ _ ?_)
 refine wp_block ?_
 refine FW.wreg fun _ q4 => ?_
 refine FW.sSe hk fun a w hk => ?_
 refine FW.sA hk fun a w hk => ?_
 refine FW.lend (q4 _ _ ?_)
 refine FW.wcondF (b := (decide (v0 = ([119, 104, 101, 114, 101] : List UInt8)))) hk h rfl (fun h hb => ?_) (fun h hb => ?_)
 ·skip
  refine FW.wreg fun _ q5 => ?_
  refine FW.sA hk fun a w hk => ?_
  refine FW.lend (q5 _ _ ?_)
  refine wp_ret ?_
  (repeat first | refine FW.then_ret ?_ | refine FW.block_ret ?_)
  obtain rfl := Option.some.inj h
  exact FW.fret1 hk rfl rfl
 refine FW.wreg fun _ q6 => ?_
 refine FW.sSe hk fun a w hk => ?_
 refine FW.sA hk fun a w hk => ?_
 refine FW.lend (q6 _ _ ?_)
 refine FW.wcondF (b := (decide (v0 = ([110, 111, 116] : List UInt8)))) hk h rfl (fun h hb => ?_) (fun h hb => ?_)
 ·skip
  refine FW.wreg fun _ q7 => ?_
  refine FW.sA hk fun a w hk => ?_
  refine FW.lend (q7 _ _ ?_)
  refine wp_ret ?_
  (repeat first | refine FW.then_ret ?_ | refine FW.block_ret ?_)
  obtain rfl := Option.some.inj h
  exact FW.fret1 hk rfl rfl
 refine FW.wreg fun _ q8 => ?_
 refine FW.sSe hk fun a w hk => ?_
 refine FW.sA hk fun a w hk => ?_
 refine FW.lend (q8 _ _ ?_)
 refine FW.wcondF (b := (decide (v0 = ([97, 110, 100] : List UInt8)))) hk h rfl (fun h hb => ?_) (fun h hb => ?_)
 ·skip
  refine FW.wreg fun _ q9 => ?_
  refine FW.sA hk fun a w hk => ?_
  refine FW.lend (q9 _ _ ?_)
  refine wp_ret ?_
  (repeat first | refine FW.then_ret ?_ | refine FW.block_ret ?_)
  obtain rfl := Option.some.inj h
  exact FW.fret1 hk rfl rfl
 refine FW.wreg fun _ q10 => ?_
 refine FW.sSe hk fun a w hk => ?_
 refine FW.sA hk fun a w hk => ?_
 refine FW.lend (q10 _ _ ?_)
 refine FW.wcondF (b := (decide (v0 = ([111, 114] : List UInt8)))) hk h rfl (fun h hb => ?_) (fun h hb => ?_)
 ·skip
  refine FW.wreg fun _ q11 => ?_
  refine FW.sA hk fun a w hk => ?_
  refine FW.lend (q11 _ _ ?_)
  refine wp_ret ?_
  (repeat first | refine FW.then_ret ?_ | refine FW.block_ret ?_)
  obtain rfl := Option.some.inj h
  exact FW.fret1 hk rfl rfl
 refine FW.wreg fun _ q12 => ?_
 refine FW.sSe hk fun a w hk => ?_
 refine FW.sA hk fun a w hk => ?_
 refine FW.lend (q12 _ _ ?_)
 refine FW.wcondF (b := (decide (v0 = ([117, 110, 105, 111, 110] : List UInt8)))) hk h rfl (fun h hb => ?_) (fun h hb => ?_)
 ·skip
  refine FW.wreg fun _ q13 => ?_
  refine FW.sA hk fun a w hk => ?_
  refine FW.lend (q13 _ _ ?_)
  refine wp_ret ?_
  (repeat first | refine FW.then_ret ?_ | refine FW.block_ret ?_)
  obtain rfl := Option.some.inj h
  exact FW.fret1 hk rfl rfl
 refine FW.wreg fun _ q14 => ?_
 refine FW.sSe hk fun a w hk => ?_
 refine FW.sA hk fun a w hk => ?_
 refine FW.lend (q14 _ _ ?_)
 refine FW.wcondF (b := (decide (v0 = ([99, 111, 97, 108, 101, 115, 99, 101] : List UInt8)))) hk h rfl (fun h hb => ?_) (fun h hb => ?_)
 ·skip
  refine FW.wreg fun _ q15 => ?_
  refine FW.sA hk fun a w hk => ?_
  refine FW.lend (q15 _ _ ?_)
  refine wp_ret ?_
  (repeat first | refine FW.then_ret ?_ | refine FW.block_ret ?_)
  obtain rfl := Option.some.inj h
  exact FW.fret1 hk rfl rfl
 refine FW.wreg fun _ q16 => ?_
 refine FW.sSe hk fun a w hk => ?_
 refine FW.sA hk fun a w hk => ?_
 refine FW.lend (q16 _ _ ?_)
 refine FW.wcondF (b := (decide (v0 = ([111, 112, 116, 105, 111, 110, 97, 108] : List UInt8)))) hk h rfl (fun h hb => ?_) (fun h hb => ?_)
 ·skip
  refine FW.wreg fun _ q17 => ?_
  refine FW.sA hk fun a w hk => ?_
  refine FW.lend (q17 _ _ ?_)
  refine wp_ret ?_
  (repeat first | refine FW.then_ret ?_ | refine FW.block_ret ?_)
  obtain rfl := Option.some.inj h
  exact FW.fret1 hk rfl rfl
 refine FW.wreg fun _ q18 => ?_
 refine FW.sSe hk fun a w hk => ?_
 refine FW.sA hk fun a w hk => ?_
 refine FW.lend (q18 _ _ ?_)
 refine FW.wcondF (b := (decide (v0 = ([99, 104, 111, 111, 115, 101] : List UInt8)))) hk h rfl (fun h hb => ?_) (fun h hb => ?_)
 ·skip
  refine FW.wreg fun _ q19 => ?_
  refine FW.sA hk fun a w hk => ?_
  refine FW.lend (q19 _ _ ?_)
  refine wp_ret ?_
  (repeat first | refine FW.then_ret ?_ | refine FW.block_ret ?_)
  obtain rfl := Option.some.inj h
  exact FW.fret1 hk rfl rfl
 refine FW.wreg fun _ q20 => ?_
 refine FW.sSe hk fun a w hk => ?_
 refine FW.sA hk fun a w hk => ?_
 refine FW.lend (q20 _ _ ?_)
 refine FW.wcondF (b := (decide (v0 = ([108, 111, 99, 97, 108] : List UInt8)))) hk h rfl (fun h hb => ?_) (fun h hb => ?_)
 ·skip
  refine FW.wreg fun _ q21 => ?_
  refine FW.sA hk fun a w hk => ?_
  refine FW.lend (q21 _ _ ?_)
  refine wp_ret ?_
  (repeat first | refine FW.then_ret ?_ | refine FW.block_ret ?_)
  obtain rfl := Option.some.inj h
  exact FW.fret1 hk rfl rfl
 refine wp_skip ?_
 (repeat first | refine FW.tn ?_ | refine FW.bn ?_); refine q2 _ _ ?_
 refine FW.wreg fun _ q22 => ?_
 refine FW.sA hk fun a w hk => ?_
 refine FW.lend (q22 _ _ ?_)
 refine wp_ret ?_
 (repeat first | refine FW.then_ret ?_ | refine FW.block_ret ?_)
 obtain rfl := Option.some.inj h
 exact FW.fret1 hk rfl rfl

theorem code_walk.ok  (v0 : List UInt8) (r : List Int × Bool) (h : code_walk.f v0 = some r) :
  FW.Ok Try.prog 105 [.lit (.string (FW.B v0))] (.tup [.row (r_c_i64 r.1), .lit (.bool r.2)]) := by
 refine FW.enter (xs := [.lit (.string (FW.B v0))]) Try.func105 rfl Try.ntmps105 rfl ?_
 intro M w0 a hk
 unfold code_walk.f at h
 refine FW.wreg fun _ q1 => ?_
 refine FW.lf (y := .row (r_c_i64 [])) hk (FW.f_assignNil) fun a w hk => ?_
 refine FW.sA hk fun a w hk => ?_
 refine FW.lend (q1 _ _ ?_)
 refine FW.wseq fun _ q2 => ?_
 refine FW.wreg fun _ q3 => ?_
 refine FW.sM hk fun a w hk => ?_
 refine FW.lend (q3 _ _ ?_)
 refine wp_block ?_
 refine FW.wreg fun _ q4 => ?_
 refine FW.sSe hk fun a w hk => ?_
 refine FW.sA hk fun a w hk => ?_
 refine FW.lend (q4 _ _ ?_)
 refine FW.wcondF (b := (decide (v0 = ([111, 117, 116] : List UInt8)))) hk h rfl (fun h hb => ?_) (fun h hb => ?_)
 ·skip
  refine FW.wreg fun _ q5 => ?_
  refine FW.l_buildSlice (f := c_i64) (l := ([1, 0] : List Int)) hk rfl rfl rfl Try.underlying57 rfl rfl rfl rfl (fun _ => rfl) rfl ?_; clear hk; intro bx1 a w hk
  replace hk := (FW.S.freezeR (I' := []) r_c_i64_eq hk (j := 0) rfl (t := 7) rfl rfl).squash
  refine FW.sA hk fun a w hk => ?_
  refine FW.sA hk fun a w hk => ?_
  refine FW.lend (q5 _ _ ?_)
  refine wp_ret ?_
  (repeat first | refine FW.then_ret ?_ | refine FW.block_ret ?_)
  obtain rfl := Option.some.inj h
  exact FW.fret2 hk rfl rfl rfl
 refine FW.wreg fun _ q6 => ?_
 refine FW.sSe hk fun a w hk => ?_
 refine FW.sA hk fun a w hk => ?_
 refine FW.lend (q6 _ _ ?_)
 refine FW.wcondF (b := (decide (v0 = ([105, 110] : List UInt8)))) hk h rfl (fun h hb => ?_) (fun h hb => ?_)
 ·skip
  refine FW.wreg fun _ q7 => ?_
  refine FW.l_buildSlice (f := c_i64) (l := ([2, 0] : List Int)) hk rfl rfl rfl Try.underlying57 rfl rfl rfl rfl (fun _ => rfl) rfl ?_; clear hk; intro bx2 a w hk
  replace hk := (FW.S.freezeR (I' := []) r_c_i64_eq hk (j := 0) rfl (t := 10) rfl rfl).squash
  refine FW.sA hk fun a w hk => ?_
  refine FW.sA hk fun a w hk => ?_
  refine FW.lend (q7 _ _ ?_)
  refine wp_ret ?_
  (repeat first | refine FW.then_ret ?_ | refine FW.block_ret ?_)
  obtain rfl := Option.some.inj h
  exact FW.fret2 hk rfl rfl rfl
 refine FW.wreg fun _ q8 => ?_
 refine FW.sSe hk fun a w hk => ?_
 refine FW.sA hk fun a w hk => ?_
 refine FW.lend (q8 _ _ ?_)
 refine FW.wcondF (b := (decide (v0 = ([98, 111, 116, 104] : List UInt8)))) hk h rfl (fun h hb => ?_) (fun h hb => ?_)
 ·skip
  refine FW.wreg fun _ q9 => ?_
  refine FW.l_buildSlice (f := c_i64) (l := ([3, 0] : List Int)) hk rfl rfl rfl Try.underlying57 rfl rfl rfl rfl (fun _ => rfl) rfl ?_; clear hk; intro bx3 a w hk
  replace hk := (FW.S.freezeR (I' := []) r_c_i64_eq hk (j := 0) rfl (t := 13) rfl rfl).squash
  refine FW.sA hk fun a w hk => ?_
  refine FW.sA hk fun a w hk => ?_
  refine FW.lend (q9 _ _ ?_)
  refine wp_ret ?_
  (repeat first | refine FW.then_ret ?_ | refine FW.block_ret ?_)
  obtain rfl := Option.some.inj h
  exact FW.fret2 hk rfl rfl rfl
 refine FW.wreg fun _ q10 => ?_
 refine FW.sSe hk fun a w hk => ?_
 refine FW.sA hk fun a w hk => ?_
 refine FW.lend (q10 _ _ ?_)
 refine FW.wcondF (b := (decide (v0 = ([111, 117, 116, 69] : List UInt8)))) hk h rfl (fun h hb => ?_) (fun h hb => ?_)
 ·skip
  refine FW.wreg fun _ q11 => ?_
  refine FW.l_buildSlice (f := c_i64) (l := ([1, 1] : List Int)) hk rfl rfl rfl Try.underlying57 rfl rfl rfl rfl (fun _ => rfl) rfl ?_; clear hk; intro bx4 a w hk
  replace hk := (FW.S.freezeR (I' := []) r_c_i64_eq hk (j := 0) rfl (t := 16) rfl rfl).squash
  refine FW.sA hk fun a w hk => ?_
  refine FW.sA hk fun a w hk => ?_
  refine FW.lend (q11 _ _ ?_)
  refine wp_ret ?_
  (repeat first | refine FW.then_ret ?_ | refine FW.block_ret ?_)
  obtain rfl := Option.some.inj h
  exact FW.fret2 hk rfl rfl rfl
 refine FW.wreg fun _ q12 => ?_
 refine FW.sSe hk fun a w hk => ?_
 refine FW.sA hk fun a w hk => ?_
 refine FW.lend (q12 _ _ ?_)
 refine FW.wcondF (b := (decide (v0 = ([105, 110, 69] : List UInt8)))) hk h rfl (fun h hb => ?_) (fun h hb => ?_)
 ·skip
  refine FW.wreg fun _ q13 => ?_
  refine FW.l_buildSlice (f := c_i64) (l := ([2, 1] : List Int)) hk rfl rfl rfl Try.underlying57 rfl rfl rfl rfl (fun _ => rfl) rfl ?_; clear hk; intro bx5 a w hk
  replace hk := (FW.S.freezeR (I' := []) r_c_i64_eq hk (j := 0) rfl (t := 19) rfl rfl).squash
  refine FW.sA hk fun a w hk => ?_
  refine FW.sA hk fun a w hk => ?_
  refine FW.lend (q13 _ _ ?_)
  refine wp_ret ?_
  (repeat first | refine FW.then_ret ?_ | refine FW.block_ret ?_)
  obtain rfl := Option.some.inj h
  exact FW.fret2 hk rfl rfl rfl
 refine FW.wreg fun _ q14 => ?_
 refine FW.sSe hk fun a w hk => ?_
 refine FW.sA hk fun a w hk => ?_
 refine FW.lend (q14 _ _ ?_)
 refine FW.wcondF (b := (decide (v0 = ([98, 111, 116, 104, 69] : List UInt8)))) hk h rfl (fun h hb => ?_) (fun h hb => ?_)
 ·skip
  refine FW.wreg fun _ q15 => ?_
  refine FW.l_buildSlice (f := c_i64) (l := ([3, 1] : List Int)) hk rfl rfl rfl Try.underlying57 rfl rfl rfl rfl (fun _ => rfl) rfl ?_; clear hk; intro bx6 a w hk
  replace hk := (FW.S.freezeR (I' := []) r_c_i64_eq hk (j := 0) rfl (t := 22) rfl rfl).squash
  refine FW.sA hk fun a w hk => ?_
  refine FW.sA hk fun a w hk => ?_
  refine FW.lend (q15 _ _ ?_)
  refine wp_ret ?_
  (repeat first | refine FW.then_ret ?_ | refine FW.block_ret ?_)
  obtain rfl := Option.some.inj h
  exact FW.fret2 hk rfl rfl rfl
 refine wp_skip ?_
 (repeat first | refine FW.tn ?_ | refine FW.bn ?_); refine q2 _ _ ?_
 refine FW.wreg fun _ q16 => ?_
 refine FW.lf (y := .row (r_c_i64 [])) hk (FW.f_assignNil) fun a w hk => ?_
 refine FW.sA hk fun a w hk => ?_
 refine FW.lend (q16 _ _ ?_)
 refine wp_ret ?_
 (repeat first | refine FW.then_ret ?_ | refine FW.block_ret ?_)
 obtain rfl := Option.some.inj h
 exact FW.fret2 hk rfl rfl rfl

theorem code_reduce.ok  (v0 : List UInt8) (r : Int) (h : code_reduce.f v0 = some r) :
  FW.Ok Try.prog 106 [.lit (.string (FW.B v0))] (.lit (.int .i64 r)) := by
 refine FW.enter (xs := [.lit (.string (FW.B v0))]) Try.func106 rfl Try.ntmps106 rfl ?_
 intro M w0 a hk
 unfold code_reduce.f at h
 refine FW.wreg fun _ q1 => ?_
 refine FW.sA hk fun a w hk => ?_
 refine FW.lend (q1 _ _ ?_)
 refine FW.wseq fun _ q2 => ?_
 refine FW.wreg fun _ q3 => ?_
 refine FW.sM hk fun a w hk => ?_
 refine FW.lend (q3 _ _ ?_)
 refine wp_block ?_
 refine FW.wreg fun _ q4 => ?_
 refine FW.sSe hk fun a w hk => ?_
 refine FW.sA hk fun a w hk => ?_
 refine FW.lend (q4 _ _ ?_)
 refine FW.wcondF (b := (decide (v0 = ([99, 111, 117, 110, 116] : List UInt8)))) hk h rfl (fun h hb => ?_) (fun h hb => ?_)
 ·skip
  refine FW.wreg fun _ q5 => ?_
  refine FW.sA hk fun a w hk => ?_
  refine FW.lend (q5 _ _ ?_)
  refine wp_ret ?_
  (repeat first | refine FW.then_ret ?_ | refine FW.block_ret ?_)
  obtain rfl := Option.some.inj h
  exact FW.fret1 hk rfl rfl
 refine FW.wreg fun _ q6 => ?_
 refine FW.sSe hk fun a w hk => ?_
 refine FW.sA hk fun a w hk => ?_
 refine FW.lend (q6 _ _ ?_)
 refine FW.wcondF (b := (decide (v0 = ([115, 117, 109] : List UInt8)))) hk h rfl (fun h hb => ?_) (fun h hb => ?_)
 ·skip
  refine FW.wreg fun _ q7 => ?_
  refine FW.sA hk fun a w hk => ?_
  refine FW.lend (q7 _ _ ?_)
  refine wp_ret ?_
  (repeat first | refine FW.then_ret ?_ | refine FW.block_ret ?_)
  obtain rfl := Option.some.inj h
  exact FW.fret1 hk rfl rfl
 refine FW.wreg fun _ q8 => ?_
 refine FW.sSe hk fun a w hk => ?_
 refine FW.sA hk fun a w hk => ?_
 refine FW.lend (q8 _ _ ?_)
 refine FW.wcondF (b := (decide (v0 = ([109, 105, 110] : List UInt8)))) hk h rfl (fun h hb => ?_) (fun h hb => ?_)
 ·skip
  refine FW.wreg fun _ q9 => ?_
  refine FW.sA hk fun a w hk => ?_
  refine FW.lend (q9 _ _ ?_)
  refine wp_ret ?_
  (repeat first | refine FW.then_ret ?_ | refine FW.block_ret ?_)
  obtain rfl := Option.some.inj h
  exact FW.fret1 hk rfl rfl
 refine FW.wreg fun _ q10 => ?_
 refine FW.sSe hk fun a w hk => ?_
 refine FW.sA hk fun a w hk => ?_
 refine FW.lend (q10 _ _ ?_)
 refine FW.wcondF (b := (decide (v0 = ([109, 97, 120] : List UInt8)))) hk h rfl (fun h hb => ?_) (fun h hb => ?_)
 ·skip
  refine FW.wreg fun _ q11 => ?_
  refine FW.sA hk fun a w hk => ?_
  refine FW.lend (q11 _ _ ?_)
  refine wp_ret ?_
  (repeat first | refine FW.then_ret ?_ | refine FW.block_ret ?_)
  obtain rfl := Option.some.inj h
  exact FW.fret1 hk rfl rfl
 refine FW.wreg fun _ q12 => ?_
 refine FW.sSe hk fun a w hk => ?_
 refine FW.sA hk fun a w hk => ?_
 refine FW.lend (q12 _ _ ?_)
 refine FW.wcondF (b := (decide (v0 = ([109, 101, 97, 110] : List UInt8)))) hk h rfl (fun h hb => ?_) (fun h hb => ?_)
 ·skip
  refine FW.wreg fun _ q13 => ?_
  refine FW.sA hk fun a w hk => ?_
  refine FW.lend (q13 _ _ ?_)
  refine wp_ret ?_
  (repeat first | refine FW.then_ret ?_ | refine FW.block_ret ?_)
  obtain rfl := Option.some.inj h
  exact FW.fret1 hk rfl rfl
 refine wp_skip ?_
 (repeat first | refine FW.tn ?_ | refine FW.bn ?_); refine q2 _ _ ?_
 refine FW.wreg fun _ q14 => ?_
 refine FW.sA hk fun a w hk => ?_
 refine FW.lend (q14 _ _ ?_)
 refine wp_ret ?_
 (repeat first | refine FW.then_ret ?_ | refine FW.block_ret ?_)
 obtain rfl := Option.some.inj h
 exact FW.fret1 hk rfl rfl

theorem code_pred.ok (K : Nat) (v0 : ApiArg) (r : ApiPred) (h : code_pred.f K v0 = some r) :
  FW.Ok Try.prog 130 [.agg (ApiArg.cells v0)] (.agg (ApiPred.cells r)) := by
 refine FW.enter (xs := [.agg (ApiArg.cells v0)]) Try.func130 rfl Try.ntmps130 rfl ?_
 intro M w0 a hk
 unfold code_pred.f at h
 refine FW.wreg fun _ q1 => ?_
 refine FW.l_box (cs := (ApiArg.cells v0)) hk rfl rfl rfl rfl rfl ?_; clear hk; intro bx1 a w hk
 refine FW.l_alloc (zs := (ApiPred.cells (⟨[], [], []⟩ : ApiPred))) [] hk rfl rfl rfl rfl ?_; clear hk; intro bx2 a w hk
 refine FW.lend (q1 _ _ ?_)
 refine FW.wseq fun _ q2 => ?_
 refine FW.wreg fun _ q3 => ?_
 refine FW.sFp 0 hk Try.underlying38 fun a w hk => ?_
 refine FW.lf (y := .lit (.int .i64 v0.Kind)) hk (FW.f_loadBlk1 hk FW.h0 (j := 1) rfl rfl Try.underlying3 rfl rfl) fun a w hk => ?_
 refine FW.sEq hk fun a w hk => ?_
 refine FW.lend (q3 _ _ ?_)
 refine FW.wcondF (b := (decide (v0.Kind = 1))) hk h rfl (fun h hb => ?_) (fun h hb => ?_)
 ·skip
  refine FW.wreg fun _ q4 => ?_
  refine FW.sFp 1 hk Try.underlying38 fun a w hk => ?_
  refine FW.lf (y := .agg ((ApiValue.cells v0.V))) hk (FW.f_loadBlk hk FW.h0 (j := 1) rfl rfl Try.underlying33 rfl rfl rfl rfl) fun a w hk => ?_
  obtain ⟨t1, hr_t1, h⟩ := FW.bnd h
  refine FW.lf (y := .agg ((ApiValue.cells t1))) hk (FW.f_call hk FW.h0 rfl rfl Try.func129 rfl (by kernel_rfl) (val_Copy.ok K v0.V _ hr_t1)) fun a w hk => ?_
  refine FW.l_buildSlice (f := ApiValue.cells) (l := ([t1] : List ApiValue)) hk rfl rfl rfl Try.underlying31 rfl rfl rfl rfl (fun _ => rfl) rfl ?_; clear hk; intro bx3 a w hk
  replace hk := (FW.S.freezeR (I' := [FW.blk bx2 36 ((ApiPred.cells (⟨[], [], []⟩ : ApiPred))), FW.blk bx1 38 ((ApiArg.cells v0))]) r_ApiValue_cells_eq hk (j := 0) rfl (t := 9) rfl rfl).squash
  refine FW.lf (y := .agg ((ApiPred.cells (⟨([101, 113] : List UInt8), ([t1] : List ApiValue), []⟩ : ApiPred)))) hk (FW.f_buildN [] hk FW.h0 rfl rfl rfl) fun a w hk => ?_
  refine FW.st0 (cs' := (ApiPred.cells (⟨([101, 113] : List UInt8), ([t1] : List ApiValue), []⟩ : ApiPred))) hk rfl (by kernel_rfl) fun w hk => ?_
  refine FW.lend (q4 _ _ ?_)
  refine wp_ret ?_
  (repeat first | refine FW.then_ret ?_ | refine FW.block_ret ?_)
  obtain rfl := Option.some.inj h
  exact FW.fretR1 hk rfl (FW.rcell hk rfl (j := 0) rfl Try.underlying36 rfl (by kernel_rfl))
 refine wp_skip ?_
 (repeat first | refine FW.tn ?_ | refine FW.bn ?_); refine q2 _ _ ?_
 refine FW.wreg fun _ q5 => ?_
 refine FW.sFp 7 hk Try.underlying38 fun a w hk => ?_
 refine FW.lf (y := .agg ((ApiPred.cells v0.P))) hk (FW.f_loadBlk hk FW.h0 (j := 1) rfl rfl Try.underlying36 rfl rfl rfl rfl) fun a w hk => ?_
 refine FW.st0 (cs' := (ApiPred.cells v0.P)) hk rfl (by kernel_rfl) fun w hk => ?_
 refine FW.lend (q5 _ _ ?_)
 refine wp_ret ?_
 (repeat first | refine FW.then_ret ?_ | refine FW.block_ret ?_)
 obtain rfl := Option.some.inj h
 exact FW.fretR1 hk rfl (FW.rcell hk rfl (j := 0) rfl Try.underlying36 rfl (by kernel_rfl))
end Go.Proofs.Ytbjbgodcenopnaa

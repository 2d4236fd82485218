/- Written by a program of this session (gen.py): the contracts of functions of the program. -/
import Derived.Test.YtbjbgodcenopnaaCbP14
namespace Go.Proofs.Ytbjbgodcenopnaa
set_option linter.unusedVariables false
set_option maxRecDepth 20000
set_option maxHeartbeats 10000000
theorem code_simple.ok  (v0 : List UInt8) (r : Int) (h : code_simple.f v0 = some r) :
  FW.Ok Try.prog 99 [.lit (.string (FW.B v0))] (.lit (.int .i64 r)) := by
 refine FW.enter (xs := [.lit (.string (FW.B v0))]) Try.func99 rfl Try.ntmps99 rfl ?_
 intro M w0 a hk
 unfold code_simple.f at h
 refine FW.wreg fun _ q1 => ?_
 refine FW.sA hk fun a w hk => ?_
 refine FW.lend (q1 _ _ ?_)
 refine FW.wseq fun _ q2 => ?_
 refine FW.wreg fun _ q3 => ?_
 refine FW.sM hk fun a w hk => ?_
 refine FW.lend (q3 _ _ ?_)
 refine wp_block ?_
 refine FW.wreg fun _ q4 => ?_
 refine FW.sSe hk fun a w hk => ?_
 refine FW.sA hk fun a w hk => ?_
 refine FW.lend (q4 _ _ ?_)
 refine FW.wcondF (b := (decide (v0 = ([86] : List UInt8)))) hk h rfl (fun h hb => ?_) (fun h hb => ?_)
 ·skip
  refine FW.wreg fun _ q5 => ?_
  refine FW.sA hk fun a w hk => ?_
  refine FW.lend (q5 _ _ ?_)
  refine wp_ret ?_
  (repeat first | refine FW.then_ret ?_ | refine FW.block_ret ?_)
  obtain rfl := Option.some.inj h
  exact FW.fret1 hk rfl rfl
 refine FW.wreg fun _ q6 => ?_
 refine FW.sSe hk fun a w hk => ?_
 refine FW.sA hk fun a w hk => ?_
 refine FW.lend (q6 _ _ ?_)
 refine FW.wcondF (b := (decide (v0 = ([69] : List UInt8)))) hk h rfl (fun h hb => ?_) (fun h hb => ?_)
 ·skip
  refine FW.wreg fun _ q7 => ?_
  refine FW.sA hk fun a w hk => ?_
  refine FW.lend (q7 _ _ ?_)
  refine wp_ret ?_
  (repeat first | refine FW.then_ret ?_ | refine FW.block_ret ?_)
  obtain rfl := Option.some.inj h
  exact FW.fret1 hk rfl rfl
 refine FW.wreg fun _ q8 => ?_
 refine FW.sSe hk fun a w hk => ?_
 refine FW.sA hk fun a w hk => ?_
 refine FW.lend (q8 _ _ ?_)
 refine FW.wcondF (b := (decide (v0 = ([105, 110, 106, 101, 99, 116] : List UInt8)))) hk h rfl (fun h hb => ?_) (fun h hb => ?_)
 ·skip
  refine FW.wreg fun _ q9 => ?_
  refine FW.sA hk fun a w hk => ?_
  refine FW.lend (q9 _ _ ?_)
  refine wp_ret ?_
  (repeat first | refine FW.then_ret ?_ | refine FW.block_ret ?_)
  obtain rfl := Option.some.inj h
  exact FW.fret1 hk rfl rfl
 refine FW.wreg fun _ q10 => ?_
 refine FW.sSe hk fun a w hk => ?_
 refine FW.sA hk fun a w hk => ?_
 refine FW.lend (q10 _ _ ?_)
 refine FW.wcondF (b := (decide (v0 = ([97, 100, 100, 86] : List UInt8)))) hk h rfl (fun h hb => ?_) (fun h hb => ?_)
 ·skip
  refine FW.wreg fun _ q11 => ?_
  refine FW.sA hk fun a w hk => ?_
  refine FW.lend (q11 _ _ ?_)
  refine wp_ret ?_
  (repeat first | refine FW.then_ret ?_ | refine FW.block_ret ?_)
  obtain rfl := Option.some.inj h
  exact FW.fret1 hk rfl rfl
 refine FW.wreg fun _ q12 => ?_
 refine FW.sSe hk fun a w hk => ?_
 refine FW.sA hk fun a w hk => ?_
 refine FW.lend (q12 _ _ ?_)
 refine FW.wcondF (b := (decide (v0 = ([104, 97, 115, 78, 111, 116] : List UInt8)))) hk h rfl (fun h hb => ?_) (fun h hb => ?_)
 ·skip
  refine FW.wreg fun _ q13 => ?_
  refine FW.sA hk fun a w hk => ?_
  refine FW.lend (q13 _ _ ?_)
  refine wp_ret ?_
  (repeat first | refine FW.then_ret ?_ | refine FW.block_ret ?_)
  obtain rfl := Option.some.inj h
  exact FW.fret1 hk rfl rfl
 refine FW.wreg fun _ q14 => ?_
 refine FW.sSe hk fun a w hk => ?_
 refine FW.sA hk fun a w hk => ?_
 refine FW.lend (q14 _ _ ?_)
 refine FW.wcondF (b := (decide (v0 = ([104, 97, 115, 76, 97, 98, 101, 108] : List UInt8)))) hk h rfl (fun h hb => ?_) (fun h hb => ?_)
 ·skip
  refine FW.wreg fun _ q15 => ?_
  refine FW.sA hk fun a w hk => ?_
  refine FW.lend (q15 _ _ ?_)
  refine wp_ret ?_
  (repeat first | refine FW.then_ret ?_ | refine FW.block_ret ?_)
  obtain rfl := Option.some.inj h
  exact FW.fret1 hk rfl rfl
 refine FW.wreg fun _ q16 => ?_
 refine FW.sSe hk fun a w hk => ?_
 refine FW.sA hk fun a w hk => ?_
 refine FW.lend (q16 _ _ ?_)
 refine FW.wcondF (b := (decide (v0 = ([104, 97, 115, 73, 100] : List UInt8)))) hk h rfl (fun h hb => ?_) (fun h hb => ?_)
 ·skip
  refine FW.wreg fun _ q17 => ?_
  refine FW.sA hk fun a w hk => ?_
  refine FW.lend (q17 _ _ ?_)
  refine wp_ret ?_
  (repeat first | refine FW.then_ret ?_ | refine FW.block_ret ?_)
  obtain rfl := Option.some.inj h
  exact FW.fret1 hk rfl rfl
 refine FW.wreg fun _ q18 => ?_
 refine FW.sSe hk fun a w hk => ?_
 refine FW.sA hk fun a w hk => ?_
 refine FW.lend (q18 _ _ ?_)
 refine FW.wcondF (b := (decide (v0 = ([116, 97, 105, 108] : List UInt8)))) hk h rfl (fun h hb => ?_) (fun h hb => ?_)
 ·skip
  refine FW.wreg fun _ q19 => ?_
  refine FW.sA hk fun a w hk => ?_
  refine FW.lend (q19 _ _ ?_)
  refine wp_ret ?_
  (repeat first | refine FW.then_ret ?_ | refine FW.block_ret ?_)
  obtain rfl := Option.some.inj h
  exact FW.fret1 hk rfl rfl
 refine FW.wreg fun _ q20 => ?_
 refine FW.sSe hk fun a w hk => ?_
 refine FW.sA hk fun a w hk => ?_
 refine FW.lend (q20 _ _ ?_)
 refine FW.wcondF (b := (decide (v0 = ([115, 105, 109, 112, 108, 101, 80, 97, 116, 104] : List UInt8)))) hk h rfl (fun h hb => ?_) (fun h hb => ?_)
 ·skip
  refine FW.wreg fun _ q21 => ?_
  refine FW.sA hk fun a w hk => ?_
  refine FW.lend (q21 _ _ ?_)
  refine wp_ret ?_
  (repeat first | refine FW.then_ret ?_ | refine FW.block_ret ?_)
  obtain rfl := Option.some.inj h
  exact FW.fret1 hk rfl rfl
 refine FW.wreg fun _ q22 => ?_
 refine FW.sSe hk fun a w hk => ?_
 refine FW.sA hk fun a w hk => ?_
 refine FW.lend (q22 _ _ ?_)
 refine FW.wcondF (b := (decide (v0 = ([118, 97, 108, 117, 101, 115] : List UInt8)))) hk h rfl (fun h hb => ?_) (fun h hb => ?_)
 ·skip
  refine FW.wreg fun _ q23 => ?_
  refine FW.sA hk fun a w hk => ?_
  refine FW.lend (q23 _ _ ?_)
  refine wp_ret ?_
  (repeat first | refine FW.then_ret ?_ | refine FW.block_ret ?_)
  obtain rfl := Option.some.inj h
  exact FW.fret1 hk rfl rfl
 refine FW.wreg fun _ q24 => ?_
 refine FW.sSe hk fun a w hk => ?_
 refine FW.sA hk fun a w hk => ?_
 refine FW.lend (q24 _ _ ?_)
 refine FW.wcondF (b := (decide (v0 = ([105, 100] : List UInt8)))) hk h rfl (fun h hb => ?_) (fun h hb => ?_)
 ·skip
  refine FW.wreg fun _ q25 => ?_
  refine FW.sA hk fun a w hk => ?_
  refine FW.lend (q25 _ _ ?_)
  refine wp_ret ?_
  (repeat first | refine FW.then_ret ?_ | refine FW.block_ret ?_)
  obtain rfl := Option.some.inj h
  exact FW.fret1 hk rfl rfl
 refine FW.wreg fun _ q26 => ?_
 refine FW.sSe hk fun a w hk => ?_
 refine FW.sA hk fun a w hk => ?_
 refine FW.lend (q26 _ _ ?_)
 refine FW.wcondF (b := (decide (v0 = ([108, 97, 98, 101, 108] : List UInt8)))) hk h rfl (fun h hb => ?_) (fun h hb => ?_)
 ·skip
  refine FW.wreg fun _ q27 => ?_
  refine FW.sA hk fun a w hk => ?_
  refine FW.lend (q27 _ _ ?_)
  refine wp_ret ?_
  (repeat first | refine FW.then_ret ?_ | refine FW.block_ret ?_)
  obtain rfl := Option.some.inj h
  exact FW.fret1 hk rfl rfl
 refine FW.wreg fun _ q28 => ?_
 refine FW.sSe hk fun a w hk => ?_
 refine FW.sA hk fun a w hk => ?_
 refine FW.lend (q28 _ _ ?_)
 refine FW.wcondF (b := (decide (v0 = ([99, 111, 110, 115, 116, 97, 110, 116] : List UInt8)))) hk h rfl (fun h hb => ?_) (fun h hb => ?_)
 ·skip
  refine FW.wreg fun _ q29 => ?_
  refine FW.sA hk fun a w hk => ?_
  refine FW.lend (q29 _ _ ?_)
  refine wp_ret ?_
  (repeat first | refine FW.then_ret ?_ | refine FW.block_ret ?_)
  obtain rfl := Option.some.inj h
  exact FW.fret1 hk rfl rfl
 refine FW.wreg fun _ q30 => ?_
 refine FW.sSe hk fun a w hk => ?_
 refine FW.sA hk fun a w hk => ?_
 refine FW.lend (q30 _ _ ?_)
 refine FW.wcondF (b := (decide (v0 = ([105, 100, 101, 110, 116, 105, 116, 121] : List UInt8)))) hk h rfl (fun h hb => ?_) (fun h hb => ?_)
 ·skip
  refine FW.wreg fun _ q31 => ?_
  refine FW.sA hk fun a w hk => ?_
  refine FW.lend (q31 _ _ ?_)
  refine wp_ret ?_
  (repeat first | refine FW.then_ret ?_ | refine FW.block_ret ?_)
  obtain rfl := Option.some.inj h
  exact FW.fret1 hk rfl rfl
 refine FW.wreg fun _ q32 => ?_
 refine FW.sSe hk fun a w hk => ?_
 refine FW.sA hk fun a w hk => ?_
 refine FW.lend (q32 _ _ ?_)
 refine FW.wcondF (b := (decide (v0 = ([112, 97, 116, 104] : List UInt8)))) hk h rfl (fun h hb => ?_) (fun h hb => ?_)
 ·skip
  refine FW.wreg fun _ q33 => ?_
  refine FW.sA hk fun a w hk => ?_
  refine FW.lend (q33 _ _ ?_)
  refine wp_ret ?_
  (repeat first | refine FW.then_ret ?_ | refine FW.block_ret ?_)
  obtain rfl := Option.some.inj h
  exact FW.fret1 hk rfl rfl
 refine FW.wreg fun _ q34 => ?_
 refine FW.sSe hk fun a w hk => ?_
 refine FW.sA hk fun a w hk => ?_
 refine FW.lend (q34 _ _ ?_)
 refine FW.wcondF (b := (decide (v0 = ([115, 101, 108, 101, 99, 116] : List UInt8)))) hk h rfl (fun h hb => ?_) (fun h hb => ?_)
 ·skip
  refine FW.wreg fun _ q35 => ?_
  refine FW.sA hk fun a w hk => ?_
  refine FW.lend (q35 _ _ ?_)
  refine wp_ret ?_
  (repeat first | refine FW.then_ret ?_ | refine FW.block_ret ?_)
  obtain rfl := Option.some.inj h
  exact FW.fret1 hk rfl rfl
 refine FW.wreg fun _ q36 => ?_
 refine FW.sSe hk fun a w hk => ?_
 refine FW.sA hk fun a w hk => ?_
 refine FW.lend (q36 _ _ ?_)
 refine FW.wcondF (b := (decide (v0 = ([97, 100, 100] : List UInt8)))) hk h rfl (fun h hb => ?_) (fun h hb => ?_)
 ·skip
  refine FW.wreg fun _ q37 => ?_
  refine FW.sA hk fun a w hk => ?_
  refine FW.lend (q37 _ _ ?_)
  refine wp_ret ?_
  (repeat first | refine FW.then_ret ?_ | refine FW.block_ret ?_)
  obtain rfl := Option.some.inj h
  exact FW.fret1 hk rfl rfl
 refine FW.wreg fun _ q38 => ?_
 refine FW.sSe hk fun a w hk => ?_
 refine FW.sA hk fun a w hk => ?_
 refine FW.lend (q38 _ _ ?_)
 refine FW.wcondF (b := (decide (v0 = ([109, 117, 108] : List UInt8)))) hk h rfl (fun h hb => ?_) (fun h hb => ?_)
 ·skip
  refine FW.wreg fun _ q39 => ?_
  refine FW.sA hk fun a w hk => ?_
  refine FW.lend (q39 _ _ ?_)
  refine wp_ret ?_
  (repeat first | refine FW.then_ret ?_ | refine FW.block_ret ?_)
  obtain rfl := Option.some.inj h
  exact FW.fret1 hk rfl rfl
 refine FW.wreg fun _ q40 => ?_
 refine FW.sSe hk fun a w hk => ?_
 refine FW.sA hk fun a w hk => ?_
 refine FW.lend (q40 _ _ ?_)
 refine FW.wcondF (b := (decide (v0 = ([102, 111, 108, 100] : List UInt8)))) hk h rfl (fun h hb => ?_) (fun h hb => ?_)
 ·skip
  refine FW.wreg fun _ q41 => ?_
  refine FW.sA hk fun a w hk => ?_
  refine FW.lend (q41 _ _ ?_)
  refine wp_ret ?_
  (repeat first | refine FW.then_ret ?_ | refine FW.block_ret ?_)
  obtain rfl := Option.some.inj h
  exact FW.fret1 hk rfl rfl
 refine FW.wreg fun _ q42 => ?_
 refine FW.sSe hk fun a w hk => ?_
 refine FW.sA hk fun a w hk => ?_
 refine FW.lend (q42 _ _ ?_)
 refine FW.wcondF (b := (decide (v0 = ([117, 110, 102, 111, 108, 100] : List UInt8)))) hk h rfl (fun h hb => ?_) (fun h hb => ?_)
 ·skip
  refine FW.wreg fun _ q43 => ?_
  refine FW.sA hk fun a w hk => ?_
  refine FW.lend (q43 _ _ ?_)
  refine wp_ret ?_
  (repeat first | refine FW.then_ret ?_ | refine FW.block_ret ?_)
  obtain rfl := Option.some.inj h
  exact FW.fret1 hk rfl rfl
 refine FW.wreg fun _ q44 => ?_
 refine FW.sSe hk fun a w hk => ?_
 refine FW.sA hk fun a w hk => ?_
 refine FW.lend (q44 _ _ ?_)
 refine FW.wcondF (b := (decide (v0 = ([98, 97, 114, 114, 105, 101, 114] : List UInt8)))) hk h rfl (fun h hb => ?_) (fun h hb => ?_)
 ·skip
  refine FW.wreg fun _ q45 => ?_
  refine FW.sA hk fun a w hk => ?_
  refine FW.lend (q45 _ _ ?_)
  refine wp_ret ?_
  (repeat first | refine FW.then_ret ?_ | refine FW.block_ret ?_)
  obtain rfl := Option.some.inj h
  exact FW.fret1 hk rfl rfl
 refine FW.wreg fun _ q46 => ?_
 refine FW.sSe hk fun a w hk => ?_
 refine FW.sA hk fun a w hk => ?_
 refine FW.lend (q46 _ _ ?_)
 refine FW.wcondF (b := (decide (v0 = ([97, 115] : List UInt8)))) hk h rfl (fun h hb => ?_) (fun h hb => ?_)
 ·skip
  refine FW.wreg fun _ q47 => ?_
  refine FW.sA hk fun a w hk => ?_
  refine FW.lend (q47 _ _ ?_)
  refine wp_ret ?_
  (repeat first | refine FW.then_ret ?_ | refine FW.block_ret ?_)
  obtain rfl := Option.some.inj h
  exact FW.fret1 hk rfl rfl
 refine FW.wreg fun _ q48 => ?_
 refine FW.sSe hk fun a w hk => ?_
 refine FW.sA hk fun a w hk => ?_
 refine FW.lend (q48 _ _ ?_)
 refine FW.wcondF (b := (decide (v0 = ([100, 114, 111, 112] : List UInt8)))) hk h rfl (fun h hb => ?_) (fun h hb => ?_)
 ·skip
  refine FW.wreg fun _ q49 => ?_
  refine FW.sA hk fun a w hk => ?_
  refine FW.lend (q49 _ _ ?_)
  refine wp_ret ?_
  (repeat first | refine FW.then_ret ?_ | refine FW.block_ret ?_)
  obtain rfl := Option.some.inj h
  exact FW.fret1 hk rfl rfl
 refine wp_skip ?_
 (repeat first | refine FW.tn ?_ | refine FW.bn ?_); refine q2 _ _ ?_
 refine FW.wreg fun _ q50 => ?_
 refine FW.sA hk fun a w hk => ?_
 refine FW.lend (q50 _ _ ?_)
 refine wp_ret ?_
 (repeat first | refine FW.then_ret ?_ | refine FW.block_ret ?_)
 obtain rfl := Option.some.inj h
 exact FW.fret1 hk rfl rfl

theorem code_numbers.ok (K : Nat) (v0 : List ApiArg) (r : List Int) (h : code_numbers.f K v0 = some r) :
  FW.Ok Try.prog 100 [.row (r_ApiArg_cells v0)] (.row (r_c_i64 r)) := by
 refine FW.enter (xs := [.row (r_ApiArg_cells v0)]) Try.func100 rfl Try.ntmps100 rfl ?_
 intro M w0 a hk
 unfold code_numbers.f at h
 refine FW.wreg fun _ q1 => ?_
 refine FW.lf (y := .row (r_c_i64 [])) hk (FW.f_assignNil) fun a w hk => ?_
 refine FW.lend (q1 _ _ ?_)
 refine FW.wreg fun _ q2 => ?_
 refine FW.sA hk fun a w hk => ?_
 replace hk := hk.nilRow 2 1 c_i64 (fun _ => rfl)
 refine FW.lend (q2 _ _ ?_)
 refine FW.wseq fun _ q3 => ?_
 refine FW.wreg fun _ q4 => ?_
 refine FW.sM hk fun a w hk => ?_
 refine FW.lf (y := .lit (.int .i64 (List.length v0 : Int))) hk (FW.f_len (R := r_ApiArg_cells) (f := ApiArg.cells) (l := v0) r_ApiArg_cells_eq Try.underlying27 hk FW.h0 rfl) fun a w hk => ?_
 refine FW.sM hk fun a w hk => ?_
 refine FW.lend (q4 _ _ ?_)
 refine wp_block ?_
 refine FW.wloop (T := Nat × List Int × List ApiArg × Int × Int × Option Addr × Nat) (fun x a w => match x with | (kl1, l1, v6, v7, v8, xd1, xc1) => FW.S M w0 a w 20 [FW.orow xd1 xc1 2 1 c_i64 l1] [(3, [], .lit (.slice xd1 (List.length l1) xc1)), (6, [], .row (r_ApiArg_cells v6)), (7, [], .lit (.int .i64 v7)), (8, [], .lit (.int .i64 v8))] ∧ code_numbers.l1 K kl1 l1 v6 v7 v8 = some r) (fun x => x.1) (K, ([] : List Int), v0, (List.length v0 : Int), 0, none, 0) ⟨hk.sub ⟨rfl, rfl, rfl, rfl, trivial⟩, h⟩ ?_
 clear hk h
 rintro ⟨kl1, l1, v6, v7, v8, xd1, xc1⟩ a w ⟨hk, h⟩ K' q5
 cases kl1 with
 | zero => simp [code_numbers.l1] at h
 | succ kl1 =>
 rw [code_numbers.l1.eq_2] at h
 refine FW.wreg fun _ q6 => ?_
 refine FW.sLt hk fun a w hk => ?_
 refine FW.lend (q6 _ _ ?_)
 refine FW.wseq fun _ q7 => ?_
 refine FW.wcondF (b := (decide (v8 < v7))) hk h rfl (fun h hb => ?_) (fun h hb => ?_)
 ·skip
  refine wp_skip ?_
  (repeat first | refine FW.tn ?_ | refine FW.bn ?_); refine q7 _ _ ?_
  refine FW.wseq fun _ q8 => ?_
  refine wp_block ?_
  refine FW.wreg fun _ q9 => ?_
  obtain ⟨hc1, h⟩ := FW.chk h
  refine FW.lf (y := .ref (ApiArg.cells (List.getD v6 (Int.toNat v8) default))) hk (FW.f_indexAddr (R := r_ApiArg_cells) (f := ApiArg.cells) (l := v6) (sz := 11) r_ApiArg_cells_eq (fun _ => rfl) hk FW.h0 rfl rfl Try.underlying27 (by kernel_rfl) hc1) fun a w hk => ?_
  refine FW.lf (y := .agg ((ApiArg.cells (List.getD v6 (Int.toNat v8) default)))) hk (FW.f_load hk FW.h0 rfl Try.underlying38 rfl rfl rfl rfl) fun a w hk => ?_
  refine FW.l_alloc (zs := (ApiArg.cells (⟨0, (⟨0, false, 0, 0, [], []⟩ : ApiValue), (⟨[], [], []⟩ : ApiPred), []⟩ : ApiArg))) [] hk rfl rfl rfl rfl ?_; clear hk; intro bx1 a w hk
  refine FW.st0 (cs' := (ApiArg.cells (List.getD v6 (Int.toNat v8) default))) hk rfl (by kernel_rfl) fun w hk => ?_
  refine FW.lend (q9 _ _ ?_)
  refine FW.wreg1 ?_
  refine FW.sM hk fun a w hk => ?_
  refine FW.sFp 1 hk Try.underlying38 fun a w hk => ?_
  refine FW.sFp 3 hk Try.underlying33 fun a w hk => ?_
  refine FW.lf (y := .lit (.int .i64 (((List.getD v6 (Int.toNat v8) default).V).N))) hk (FW.f_loadBlk1 hk FW.h0 (j := 0) rfl rfl Try.underlying2 rfl rfl) fun a w hk => ?_
  refine FW.l_buildSlice (f := c_i64) (l := ([((List.getD v6 (Int.toNat v8) default).V).N] : List Int)) hk rfl rfl rfl Try.underlying57 rfl rfl rfl rfl (fun _ => rfl) rfl ?_; clear hk; intro bx2 a w hk
  obtain ⟨hc2, h⟩ := FW.chk h
  refine FW.l_append (l2 := ([((List.getD v6 (Int.toNat v8) default).V).N] : List Int)) (l3 := (l1 ++ ([((List.getD v6 (Int.toNat v8) default).V).N] : List Int))) (I' := fun ad1 cap1 => [FW.orow (some ⟨bx2, 0, none⟩) 1 2 1 c_i64 ([((List.getD v6 (Int.toNat v8) default).V).N] : List Int), FW.blk bx1 38 ((ApiArg.cells (List.getD v6 (Int.toNat v8) default))), FW.orow ad1 cap1 2 1 c_i64 (l1 ++ ([((List.getD v6 (Int.toNat v8) default).V).N] : List Int))]) (j := 2) hk rfl rfl rfl rfl (FW.own_src hk (j := 0) rfl rfl (fun _ => rfl) Try.underlying57) Try.underlying57 (by kernel_rfl) hc2 rfl (fun _ _ => rfl) ?_; clear hk; intro ad1 cap1 a w hk
  replace hk := FW.S.dropI (I' := [FW.blk bx1 38 ((ApiArg.cells (List.getD v6 (Int.toNat v8) default))), FW.orow ad1 cap1 2 1 c_i64 (l1 ++ ([((List.getD v6 (Int.toNat v8) default).V).N] : List Int))]) hk 0 rfl
  refine FW.sA hk fun a w hk => ?_
  refine wpList_nil ?_
  (repeat first | refine FW.tn ?_ | refine FW.bn ?_); refine q8 _ _ ?_
  refine FW.wreg1 ?_
  refine FW.sAd hk fun a w hk => ?_
  refine FW.sM hk fun a w hk => ?_
  refine wpList_nil ?_
  (repeat first | refine FW.tn ?_ | refine FW.bn ?_); exact q5 (kl1, (l1 ++ ([((List.getD v6 (Int.toNat v8) default).V).N] : List Int)), v6, v7, (IntKind.wrap .i64 (v8 + 1)), ad1, cap1) _ _ (Nat.lt_succ_self _) ⟨(hk.drop 0).sub ⟨rfl, rfl, rfl, rfl, trivial⟩, h⟩
 refine wp_exit ?_; (repeat first | refine FW.then_exit ?_ | refine FW.block_exit_ne rfl ?_); refine FW.block_exit ?_
 (repeat first | refine FW.tn ?_ | refine FW.bn ?_); refine q3 _ _ ?_
 refine FW.wreg fun _ q12 => ?_
 refine FW.sM hk fun a w hk => ?_
 refine FW.sA hk fun a w hk => ?_
 refine FW.lend (q12 _ _ ?_)
 refine wp_ret ?_
 (repeat first | refine FW.then_ret ?_ | refine FW.block_ret ?_)
 replace hk := FW.S.freezeR (I' := []) r_c_i64_eq hk (j := 0) rfl (t := 2) rfl rfl
 obtain rfl := Option.some.inj h
 exact FW.fret1 hk rfl rfl

theorem val_Copy.bok (s_val_Copy : ApiValue → Option ApiValue) (hs_val_Copy : ∀ (v0 : ApiValue) (r : ApiValue), s_val_Copy v0 = some r → FW.Ok Try.prog 129 [.agg (ApiValue.cells v0)] (.agg (ApiValue.cells r))) (K : Nat) (v0 : ApiValue) (r : ApiValue) (h : val_Copy.b s_val_Copy K v0 = some r) :
  FW.Ok Try.prog 129 [.agg (ApiValue.cells v0)] (.agg (ApiValue.cells r)) := by
 refine FW.enter (xs := [.agg (ApiValue.cells v0)]) Try.func129 rfl Try.ntmps129 rfl ?_
 intro M w0 a hk
 unfold val_Copy.b at h
 refine FW.wreg fun _ q1 => ?_
 refine FW.l_box (cs := (ApiValue.cells v0)) hk rfl rfl rfl rfl rfl ?_; clear hk; intro bx1 a w hk
 refine FW.l_alloc (zs := (ApiValue.cells (⟨0, false, 0, 0, [], []⟩ : ApiValue))) [] hk rfl rfl rfl rfl ?_; clear hk; intro bx2 a w hk
 refine FW.lend (q1 _ _ ?_)
 refine FW.wseqJ (fun a w => ∃ (y1 : ApiValue), FW.S M w0 a w 30 [FW.blk bx2 33 ((ApiValue.cells (⟨0, false, 0, 0, [], []⟩ : ApiValue))), FW.blk bx1 33 ((ApiValue.cells y1))] [(1, [], .lit (.pointer (some ⟨bx1, 0, none⟩))), (2, [], .lit (.pointer (some ⟨bx2, 0, none⟩)))] ∧ val_Copy.j1 s_val_Copy K y1 = some r) ?_ ?_
 ·clear hk h
  rintro a w ⟨y1, hk, h⟩
  unfold val_Copy.j1 at h
  refine FW.wreg fun _ q3 => ?_
  refine FW.lf (y := .agg ((ApiValue.cells y1))) hk (FW.f_loadBlk hk FW.h0 (j := 1) rfl rfl Try.underlying33 rfl rfl rfl rfl) fun a w hk => ?_
  refine FW.st0 (cs' := (ApiValue.cells y1)) hk rfl (by kernel_rfl) fun w hk => ?_
  refine FW.lend (q3 _ _ ?_)
  refine wp_ret ?_
  (repeat first | refine FW.then_ret ?_ | refine FW.block_ret ?_)
  obtain rfl := Option.some.inj h
  exact FW.fretR1 hk rfl (FW.rcell hk rfl (j := 0) rfl Try.underlying33 rfl (by kernel_rfl))
 ·intro K' q2
  refine FW.wreg fun _ q4 => ?_
  refine FW.sFp 5 hk Try.underlying33 fun a w hk => ?_
  refine FW.lf (y := .row (r_ApiValue_cells v0.L)) hk (FW.f_loadBlk1 hk FW.h0 (j := 1) rfl rfl Try.underlying31 rfl rfl) fun a w hk => ?_
  refine FW.l_nilAny hk rfl rfl rfl rfl Try.underlying31 ?_; clear hk; intro bn1 a w hbn1 hk
  refine FW.lend (q4 _ _ ?_)
  cases bn1 with
  | false =>
   replace h := val_Copy.nil s_val_Copy K v0 r (hbn1 rfl) h
   refine FW.wcondX hk rfl ?_
   refine wp_skip ?_
   (repeat first | refine FW.tn ?_ | refine FW.bn ?_); exact q2 _ _ ⟨v0, hk.sub ⟨rfl, rfl, trivial⟩, h⟩
  | true =>
   refine FW.wcondT hk rfl ?_
   refine FW.wreg fun _ q5 => ?_
   refine FW.sFp 5 hk Try.underlying33 fun a w hk => ?_
   refine FW.lf (y := .row (r_ApiValue_cells v0.L)) hk (FW.f_loadBlk1 hk FW.h0 (j := 1) rfl rfl Try.underlying31 rfl rfl) fun a w hk => ?_
   refine FW.lf (y := .lit (.int .i64 (List.length v0.L : Int))) hk (FW.f_len (R := r_ApiValue_cells) (f := ApiValue.cells) (l := v0.L) r_ApiValue_cells_eq Try.underlying31 hk FW.h0 rfl) fun a w hk => ?_
   obtain ⟨hc1, h⟩ := FW.chk h
   refine FW.l_makeSliceN (zv := (.agg #[.int .i64 0, .bool false, .int .i64 0, .float .f64 0, .string ⟨#[]⟩, .slice none 0 0])) (f := ApiValue.cells) (z := (default : ApiValue)) (sz := 6) (by decide) (fun _ => rfl) hk rfl rfl rfl rfl Try.underlying31 (by kernel_rfl) (fun _ _ => (FW.repL_cons (FW.rep_lit rfl) (FW.repL_cons (FW.rep_lit rfl) (FW.repL_cons (FW.rep_lit rfl) (FW.repL_cons (FW.rep_lit rfl) (FW.repL_cons (FW.rep_lit rfl) (FW.repL_cons FW.rep_nil FW.repL_nil))))))) (by kernel_rfl) hc1 ?_; clear hk; intro bx3 a w hk
   refine FW.sA hk fun a w hk => ?_
   refine FW.lend (q5 _ _ ?_)
   refine FW.wseq fun _ q6 => ?_
   refine FW.wreg fun _ q7 => ?_
   refine FW.sFp 5 hk Try.underlying33 fun a w hk => ?_
   refine FW.lf (y := .row (r_ApiValue_cells v0.L)) hk (FW.f_loadBlk1 hk FW.h0 (j := 2) rfl rfl Try.underlying31 rfl rfl) fun a w hk => ?_
   refine FW.lf (y := .lit (.int .i64 (List.length v0.L : Int))) hk (FW.f_len (R := r_ApiValue_cells) (f := ApiValue.cells) (l := v0.L) r_ApiValue_cells_eq Try.underlying31 hk FW.h0 rfl) fun a w hk => ?_
   refine FW.sM hk fun a w hk => ?_
   refine FW.lend (q7 _ _ ?_)
   refine wp_block ?_
   refine FW.wloop (T := Nat × List ApiValue × ApiValue × List ApiValue × Int × Int × Option Addr × Nat) (fun x a w => match x with | (kl1, l3, y1, v14, v15, v16, xd3, xc3) => FW.S M w0 a w 30 [FW.orow xd3 xc3 33 6 ApiValue.cells l3, FW.blk bx2 33 ((ApiValue.cells (⟨0, false, 0, 0, [], []⟩ : ApiValue))), FW.blk bx1 33 ((ApiValue.cells y1))] [(1, [], .lit (.pointer (some ⟨bx1, 0, none⟩))), (2, [], .lit (.pointer (some ⟨bx2, 0, none⟩))), (3, [], .lit (.slice xd3 (List.length l3) xc3)), (14, [], .row (r_ApiValue_cells v14)), (15, [], .lit (.int .i64 v15)), (16, [], .lit (.int .i64 v16))] ∧ val_Copy.l1 s_val_Copy K kl1 l3 y1 v14 v15 v16 = some r) (fun x => x.1) (K, (List.replicate (Int.toNat (List.length v0.L : Int)) (default : ApiValue)), v0, v0.L, (List.length v0.L : Int), 0, (some ⟨bx3, 0, none⟩), (Int.toNat (List.length v0.L : Int))) ⟨hk.sub ⟨rfl, rfl, rfl, rfl, rfl, rfl, trivial⟩, h⟩ ?_
   clear hk h
   rintro ⟨kl1, l3, y1, v14, v15, v16, xd3, xc3⟩ a w ⟨hk, h⟩ K' q8
   cases kl1 with
   | zero => simp [val_Copy.l1] at h
   | succ kl1 =>
   rw [val_Copy.l1.eq_2] at h
   refine FW.wreg fun _ q9 => ?_
   refine FW.sLt hk fun a w hk => ?_
   refine FW.lend (q9 _ _ ?_)
   refine FW.wseq fun _ q10 => ?_
   refine FW.wcondF (b := (decide (v16 < v15))) hk h rfl (fun h hb => ?_) (fun h hb => ?_)
   ·skip
    refine wp_skip ?_
    (repeat first | refine FW.tn ?_ | refine FW.bn ?_); refine q10 _ _ ?_
    refine FW.wseq fun _ q11 => ?_
    refine wp_block ?_
    refine FW.wreg fun _ q12 => ?_
    refine FW.sM hk fun a w hk => ?_
    obtain ⟨hc2, h⟩ := FW.chk h
    refine FW.lf (y := .ref (ApiValue.cells (List.getD v14 (Int.toNat v16) default))) hk (FW.f_indexAddr (R := r_ApiValue_cells) (f := ApiValue.cells) (l := v14) (sz := 6) r_ApiValue_cells_eq (fun _ => rfl) hk FW.h0 rfl rfl Try.underlying31 (by kernel_rfl) hc2) fun a w hk => ?_
    refine FW.lf (y := .agg ((ApiValue.cells (List.getD v14 (Int.toNat v16) default)))) hk (FW.f_load hk FW.h0 rfl Try.underlying33 rfl rfl rfl rfl) fun a w hk => ?_
    refine FW.l_alloc (zs := (ApiValue.cells (⟨0, false, 0, 0, [], []⟩ : ApiValue))) [] hk rfl rfl rfl rfl ?_; clear hk; intro bx4 a w hk
    refine FW.sA hk fun a w hk => ?_
    refine FW.st0 (cs' := (ApiValue.cells (List.getD v14 (Int.toNat v16) default))) hk rfl (by kernel_rfl) fun w hk => ?_
    refine FW.lend (q12 _ _ ?_)
    refine FW.wreg1 ?_
    refine FW.sM hk fun a w hk => ?_
    refine FW.sM hk fun a w hk => ?_
    refine FW.lf (y := .agg ((ApiValue.cells (List.getD v14 (Int.toNat v16) default)))) hk (FW.f_loadBlk hk FW.h0 (j := 0) rfl rfl Try.underlying33 rfl rfl rfl rfl) fun a w hk => ?_
    obtain ⟨t1, hr_t1, h⟩ := FW.bnd h
    refine FW.lf (y := .agg ((ApiValue.cells t1))) hk (FW.f_call hk FW.h0 rfl rfl Try.func129 rfl (by kernel_rfl) (hs_val_Copy (List.getD v14 (Int.toNat v16) default) _ hr_t1)) fun a w hk => ?_
    obtain ⟨hc3, h⟩ := FW.chk h
    refine FW.lf (y := FW.elA xd3 6 v16) hk (FW.f_idxOwn (f := ApiValue.cells) (l := l3) hk FW.h0 (j := 1) rfl rfl (by first | rfl | simp only [List.length_set]) rfl Try.underlying31 (by kernel_rfl) hc3) fun a w hk => ?_
    refine FW.l_storeOwn (f := ApiValue.cells) (l := l3) (v := t1) (I' := [FW.blk bx4 33 ((ApiValue.cells (List.getD v14 (Int.toNat v16) default))), FW.orow xd3 xc3 33 6 ApiValue.cells (List.set l3 (Int.toNat v16) t1), FW.blk bx2 33 ((ApiValue.cells (⟨0, false, 0, 0, [], []⟩ : ApiValue))), FW.blk bx1 33 ((ApiValue.cells y1))]) (j := 1) hk rfl rfl hc3 rfl rfl rfl (by kernel_rfl) rfl fun w hk => ?_
    refine wpList_nil ?_
    (repeat first | refine FW.tn ?_ | refine FW.bn ?_); refine q11 _ _ ?_
    refine FW.wreg1 ?_
    refine FW.sAd hk fun a w hk => ?_
    refine FW.sM hk fun a w hk => ?_
    refine wpList_nil ?_
    replace hk := hk.as (i := 3) (y := .lit (.slice xd3 (List.length (List.set l3 (Int.toNat v16) t1)) xc3)) rfl (fun v hv => by simpa only [List.length_set] using hv)
    (repeat first | refine FW.tn ?_ | refine FW.bn ?_); exact q8 (kl1, (List.set l3 (Int.toNat v16) t1), y1, v14, v15, (IntKind.wrap .i64 (v16 + 1)), xd3, xc3) _ _ (Nat.lt_succ_self _) ⟨(hk.drop 0).sub ⟨rfl, rfl, rfl, rfl, rfl, rfl, trivial⟩, h⟩
   refine wp_exit ?_; (repeat first | refine FW.then_exit ?_ | refine FW.block_exit_ne rfl ?_); refine FW.block_exit ?_
   (repeat first | refine FW.tn ?_ | refine FW.bn ?_); refine q6 _ _ ?_
   refine FW.wreg1 ?_
   refine FW.sM hk fun a w hk => ?_
   refine FW.sFp 5 hk Try.underlying33 fun a w hk => ?_
   replace hk := FW.S.freezeR (I' := [FW.blk bx2 33 ((ApiValue.cells (⟨0, false, 0, 0, [], []⟩ : ApiValue))), FW.blk bx1 33 ((ApiValue.cells y1))]) r_ApiValue_cells_eq hk (j := 0) rfl (t := 27) rfl rfl
   refine FW.st1 (cs' := (ApiValue.cells (⟨y1.Kind, y1.B, y1.N, y1.F, y1.S, l3⟩ : ApiValue))) hk rfl (by kernel_rfl) fun w hk => ?_
   refine wpList_nil ?_
   (repeat first | refine FW.tn ?_ | refine FW.bn ?_); exact q2 _ _ ⟨(⟨y1.Kind, y1.B, y1.N, y1.F, y1.S, l3⟩ : ApiValue), hk.sub ⟨rfl, rfl, trivial⟩, h⟩

theorem val_Copy_knot : ∀ K : Nat, (∀ (v0 : ApiValue) (r : ApiValue), val_Copy.f K v0 = some r → FW.Ok Try.prog 129 [.agg (ApiValue.cells v0)] (.agg (ApiValue.cells r)))
 | 0 => fun v0 r h => by simp [val_Copy.f] at h
 | K + 1 => fun v0 r h => by rw [val_Copy.f] at h; exact val_Copy.bok _ (val_Copy_knot K) K v0 r h

theorem val_Copy.ok (K : Nat) (v0 : ApiValue) (r : ApiValue) (h : val_Copy.f K v0 = some r) : FW.Ok Try.prog 129 [.agg (ApiValue.cells v0)] (.agg (ApiValue.cells r)) := (val_Copy_knot K) v0 r h

theorem code_values.ok (K : Nat) (v0 : List ApiArg) (r : List ApiValue) (h : code_values.f K v0 = some r) :
  FW.Ok Try.prog 101 [.row (r_ApiArg_cells v0)] (.row (r_ApiValue_cells r)) := by
 refine FW.enter (xs := [.row (r_ApiArg_cells v0)]) Try.func101 rfl Try.ntmps101 rfl ?_
 intro M w0 a hk
 unfold code_values.f at h
 refine FW.wreg fun _ q1 => ?_
 refine FW.lf (y := .row (r_ApiValue_cells [])) hk (FW.f_assignNil) fun a w hk => ?_
 refine FW.lend (q1 _ _ ?_)
 refine FW.wreg fun _ q2 => ?_
 refine FW.sA hk fun a w hk => ?_
 replace hk := hk.nilRow 33 6 ApiValue.cells (fun _ => rfl)
 refine FW.lend (q2 _ _ ?_)
 refine FW.wseq fun _ q3 => ?_
 refine FW.wreg fun _ q4 => ?_
 refine FW.sM hk fun a w hk => ?_
 refine FW.lf (y := .lit (.int .i64 (List.length v0 : Int))) hk (FW.f_len (R := r_ApiArg_cells) (f := ApiArg.cells) (l := v0) r_ApiArg_cells_eq Try.underlying27 hk FW.h0 rfl) fun a w hk => ?_
 refine FW.sM hk fun a w hk => ?_
 refine FW.lend (q4 _ _ ?_)
 refine wp_block ?_
 refine FW.wloop (T := Nat × List ApiValue × List ApiArg × Int × Int × Option Addr × Nat) (fun x a w => match x with | (kl1, l1, v6, v7, v8, xd1, xc1) => FW.S M w0 a w 20 [FW.orow xd1 xc1 33 6 ApiValue.cells l1] [(3, [], .lit (.slice xd1 (List.length l1) xc1)), (6, [], .row (r_ApiArg_cells v6)), (7, [], .lit (.int .i64 v7)), (8, [], .lit (.int .i64 v8))] ∧ code_values.l1 K kl1 l1 v6 v7 v8 = some r) (fun x => x.1) (K, ([] : List ApiValue), v0, (List.length v0 : Int), 0, none, 0) ⟨hk.sub ⟨rfl, rfl, rfl, rfl, trivial⟩, h⟩ ?_
 clear hk h
 rintro ⟨kl1, l1, v6, v7, v8, xd1, xc1⟩ a w ⟨hk, h⟩ K' q5
 cases kl1 with
 | zero => simp [code_values.l1] at h
 | succ kl1 =>
 rw [code_values.l1.eq_2] at h
 refine FW.wreg fun _ q6 => ?_
 refine FW.sLt hk fun a w hk => ?_
 refine FW.lend (q6 _ _ ?_)
 refine FW.wseq fun _ q7 => ?_
 refine FW.wcondF (b := (decide (v8 < v7))) hk h rfl (fun h hb => ?_) (fun h hb => ?_)
 ·skip
  refine wp_skip ?_
  (repeat first | refine FW.tn ?_ | refine FW.bn ?_); refine q7 _ _ ?_
  refine FW.wseq fun _ q8 => ?_
  refine wp_block ?_
  refine FW.wreg fun _ q9 => ?_
  obtain ⟨hc1, h⟩ := FW.chk h
  refine FW.lf (y := .ref (ApiArg.cells (List.getD v6 (Int.toNat v8) default))) hk (FW.f_indexAddr (R := r_ApiArg_cells) (f := ApiArg.cells) (l := v6) (sz := 11) r_ApiArg_cells_eq (fun _ => rfl) hk FW.h0 rfl rfl Try.underlying27 (by kernel_rfl) hc1) fun a w hk => ?_
  refine FW.lf (y := .agg ((ApiArg.cells (List.getD v6 (Int.toNat v8) default)))) hk (FW.f_load hk FW.h0 rfl Try.underlying38 rfl rfl rfl rfl) fun a w hk => ?_
  refine FW.l_alloc (zs := (ApiArg.cells (⟨0, (⟨0, false, 0, 0, [], []⟩ : ApiValue), (⟨[], [], []⟩ : ApiPred), []⟩ : ApiArg))) [] hk rfl rfl rfl rfl ?_; clear hk; intro bx1 a w hk
  refine FW.st0 (cs' := (ApiArg.cells (List.getD v6 (Int.toNat v8) default))) hk rfl (by kernel_rfl) fun w hk => ?_
  refine FW.lend (q9 _ _ ?_)
  refine FW.wreg1 ?_
  refine FW.sM hk fun a w hk => ?_
  refine FW.sFp 1 hk Try.underlying38 fun a w hk => ?_
  refine FW.lf (y := .agg ((ApiValue.cells ((List.getD v6 (Int.toNat v8) default).V)))) hk (FW.f_loadBlk hk FW.h0 (j := 0) rfl rfl Try.underlying33 rfl rfl rfl rfl) fun a w hk => ?_
  obtain ⟨t1, hr_t1, h⟩ := FW.bnd h
  refine FW.lf (y := .agg ((ApiValue.cells t1))) hk (FW.f_call hk FW.h0 rfl rfl Try.func129 rfl (by kernel_rfl) (val_Copy.ok K ((List.getD v6 (Int.toNat v8) default).V) _ hr_t1)) fun a w hk => ?_
  refine FW.l_buildSlice (f := ApiValue.cells) (l := ([t1] : List ApiValue)) hk rfl rfl rfl Try.underlying31 rfl rfl rfl rfl (fun _ => rfl) rfl ?_; clear hk; intro bx2 a w hk
  obtain ⟨hc2, h⟩ := FW.chk h
  refine FW.l_append (l2 := ([t1] : List ApiValue)) (l3 := (l1 ++ ([t1] : List ApiValue))) (I' := fun ad1 cap1 => [FW.orow (some ⟨bx2, 0, none⟩) 1 33 6 ApiValue.cells ([t1] : List ApiValue), FW.blk bx1 38 ((ApiArg.cells (List.getD v6 (Int.toNat v8) default))), FW.orow ad1 cap1 33 6 ApiValue.cells (l1 ++ ([t1] : List ApiValue))]) (j := 2) hk rfl rfl rfl rfl (FW.own_src hk (j := 0) rfl rfl (fun _ => rfl) Try.underlying31) Try.underlying31 (by kernel_rfl) hc2 rfl (fun _ _ => rfl) ?_; clear hk; intro ad1 cap1 a w hk
  replace hk := FW.S.dropI (I' := [FW.blk bx1 38 ((ApiArg.cells (List.getD v6 (Int.toNat v8) default))), FW.orow ad1 cap1 33 6 ApiValue.cells (l1 ++ ([t1] : List ApiValue))]) hk 0 rfl
  refine FW.sA hk fun a w hk => ?_
  refine wpList_nil ?_
  (repeat first | refine FW.tn ?_ | refine FW.bn ?_); refine q8 _ _ ?_
  refine FW.wreg1 ?_
  refine FW.sAd hk fun a w hk => ?_
  refine FW.sM hk fun a w hk => ?_
  refine wpList_nil ?_
  (repeat first | refine FW.tn ?_ | refine FW.bn ?_); exact q5 (kl1, (l1 ++ ([t1] : List ApiValue)), v6, v7, (IntKind.wrap .i64 (v8 + 1)), ad1, cap1) _ _ (Nat.lt_succ_self _) ⟨(hk.drop 0).sub ⟨rfl, rfl, rfl, rfl, trivial⟩, h⟩
 refine wp_exit ?_; (repeat first | refine FW.then_exit ?_ | refine FW.block_exit_ne rfl ?_); refine FW.block_exit ?_
 (repeat first | refine FW.tn ?_ | refine FW.bn ?_); refine q3 _ _ ?_
 refine FW.wreg fun _ q12 => ?_
 refine FW.sM hk fun a w hk => ?_
 refine FW.sA hk fun a w hk => ?_
 refine FW.lend (q12 _ _ ?_)
 refine wp_ret ?_
 (repeat first | refine FW.then_ret ?_ | refine FW.block_ret ?_)
 replace hk := FW.S.freezeR (I' := []) r_ApiValue_cells_eq hk (j := 0) rfl (t := 2) rfl rfl
 obtain rfl := Option.some.inj h
 exact FW.fret1 hk rfl rfl

theorem code_names.ok (K : Nat) (v0 : List ApiArg) (r : List (List UInt8)) (h : code_names.f K v0 = some r) :
  FW.Ok Try.prog 102 [.row (r_ApiArg_cells v0)] (.row (r_c_str r)) := by
 refine FW.enter (xs := [.row (r_ApiArg_cells v0)]) Try.func102 rfl Try.ntmps102 rfl ?_
 intro M w0 a hk
 unfold code_names.f at h
 refine FW.wreg fun _ q1 => ?_
 refine FW.lf (y := .row (r_c_str [])) hk (FW.f_assignNil) fun a w hk => ?_
 refine FW.lend (q1 _ _ ?_)
 refine FW.wreg fun _ q2 => ?_
 refine FW.sA hk fun a w hk => ?_
 replace hk := hk.nilRow 9 1 c_str (fun _ => rfl)
 refine FW.lend (q2 _ _ ?_)
 refine FW.wseq fun _ q3 => ?_
 refine FW.wreg fun _ q4 => ?_
 refine FW.sM hk fun a w hk => ?_
 refine FW.lf (y := .lit (.int .i64 (List.length v0 : Int))) hk (FW.f_len (R := r_ApiArg_cells) (f := ApiArg.cells) (l := v0) r_ApiArg_cells_eq Try.underlying27 hk FW.h0 rfl) fun a w hk => ?_
 refine FW.sM hk fun a w hk => ?_
 refine FW.lend (q4 _ _ ?_)
 refine wp_block ?_
 refine FW.wloop (T := Nat × List (List UInt8) × List ApiArg × Int × Int × Option Addr × Nat) (fun x a w => match x with | (kl1, l1, v6, v7, v8, xd1, xc1) => FW.S M w0 a w 20 [FW.orow xd1 xc1 9 1 c_str l1] [(3, [], .lit (.slice xd1 (List.length l1) xc1)), (6, [], .row (r_ApiArg_cells v6)), (7, [], .lit (.int .i64 v7)), (8, [], .lit (.int .i64 v8))] ∧ code_names.l1 K kl1 l1 v6 v7 v8 = some r) (fun x => x.1) (K, ([] : List (List UInt8)), v0, (List.length v0 : Int), 0, none, 0) ⟨hk.sub ⟨rfl, rfl, rfl, rfl, trivial⟩, h⟩ ?_
 clear hk h
 rintro ⟨kl1, l1, v6, v7, v8, xd1, xc1⟩ a w ⟨hk, h⟩ K' q5
 cases kl1 with
 | zero => simp [code_names.l1] at h
 | succ kl1 =>
 rw [code_names.l1.eq_2] at h
 refine FW.wreg fun _ q6 => ?_
 refine FW.sLt hk fun a w hk => ?_
 refine FW.lend (q6 _ _ ?_)
 refine FW.wseq fun _ q7 => ?_
 refine FW.wcondF (b := (decide (v8 < v7))) hk h rfl (fun h hb => ?_) (fun h hb => ?_)
 ·skip
  refine wp_skip ?_
  (repeat first | refine FW.tn ?_ | refine FW.bn ?_); refine q7 _ _ ?_
  refine FW.wseq fun _ q8 => ?_
  refine wp_block ?_
  refine FW.wreg fun _ q9 => ?_
  obtain ⟨hc1, h⟩ := FW.chk h
  refine FW.lf (y := .ref (ApiArg.cells (List.getD v6 (Int.toNat v8) default))) hk (FW.f_indexAddr (R := r_ApiArg_cells) (f := ApiArg.cells) (l := v6) (sz := 11) r_ApiArg_cells_eq (fun _ => rfl) hk FW.h0 rfl rfl Try.underlying27 (by kernel_rfl) hc1) fun a w hk => ?_
  refine FW.lf (y := .agg ((ApiArg.cells (List.getD v6 (Int.toNat v8) default)))) hk (FW.f_load hk FW.h0 rfl Try.underlying38 rfl rfl rfl rfl) fun a w hk => ?_
  refine FW.l_alloc (zs := (ApiArg.cells (⟨0, (⟨0, false, 0, 0, [], []⟩ : ApiValue), (⟨[], [], []⟩ : ApiPred), []⟩ : ApiArg))) [] hk rfl rfl rfl rfl ?_; clear hk; intro bx1 a w hk
  refine FW.st0 (cs' := (ApiArg.cells (List.getD v6 (Int.toNat v8) default))) hk rfl (by kernel_rfl) fun w hk => ?_
  refine FW.lend (q9 _ _ ?_)
  refine FW.wreg1 ?_
  refine FW.sM hk fun a w hk => ?_
  refine FW.sFp 1 hk Try.underlying38 fun a w hk => ?_
  refine FW.sFp 5 hk Try.underlying33 fun a w hk => ?_
  refine FW.lf (y := .lit (.string (FW.B (((List.getD v6 (Int.toNat v8) default).V).S)))) hk (FW.f_loadBlk1 hk FW.h0 (j := 0) rfl rfl Try.underlying9 rfl rfl) fun a w hk => ?_
  refine FW.l_buildSlice (f := c_str) (l := ([((List.getD v6 (Int.toNat v8) default).V).S] : List (List UInt8))) hk rfl rfl rfl Try.underlying56 rfl rfl rfl rfl (fun _ => rfl) rfl ?_; clear hk; intro bx2 a w hk
  obtain ⟨hc2, h⟩ := FW.chk h
  refine FW.l_append (l2 := ([((List.getD v6 (Int.toNat v8) default).V).S] : List (List UInt8))) (l3 := (l1 ++ ([((List.getD v6 (Int.toNat v8) default).V).S] : List (List UInt8)))) (I' := fun ad1 cap1 => [FW.orow (some ⟨bx2, 0, none⟩) 1 9 1 c_str ([((List.getD v6 (Int.toNat v8) default).V).S] : List (List UInt8)), FW.blk bx1 38 ((ApiArg.cells (List.getD v6 (Int.toNat v8) default))), FW.orow ad1 cap1 9 1 c_str (l1 ++ ([((List.getD v6 (Int.toNat v8) default).V).S] : List (List UInt8)))]) (j := 2) hk rfl rfl rfl rfl (FW.own_src hk (j := 0) rfl rfl (fun _ => rfl) Try.underlying56) Try.underlying56 (by kernel_rfl) hc2 rfl (fun _ _ => rfl) ?_; clear hk; intro ad1 cap1 a w hk
  replace hk := FW.S.dropI (I' := [FW.blk bx1 38 ((ApiArg.cells (List.getD v6 (Int.toNat v8) default))), FW.orow ad1 cap1 9 1 c_str (l1 ++ ([((List.getD v6 (Int.toNat v8) default).V).S] : List (List UInt8)))]) hk 0 rfl
  refine FW.sA hk fun a w hk => ?_
  refine wpList_nil ?_
  (repeat first | refine FW.tn ?_ | refine FW.bn ?_); refine q8 _ _ ?_
  refine FW.wreg1 ?_
  refine FW.sAd hk fun a w hk => ?_
  refine FW.sM hk fun a w hk => ?_
  refine wpList_nil ?_
  (repeat first | refine FW.tn ?_ | refine FW.bn ?_); exact q5 (kl1, (l1 ++ ([((List.getD v6 (Int.toNat v8) default).V).S] : List (List UInt8))), v6, v7, (IntKind.wrap .i64 (v8 + 1)), ad1, cap1) _ _ (Nat.lt_succ_self _) ⟨(hk.drop 0).sub ⟨rfl, rfl, rfl, rfl, trivial⟩, h⟩
 refine wp_exit ?_; (repeat first | refine FW.then_exit ?_ | refine FW.block_exit_ne rfl ?_); refine FW.block_exit ?_
 (repeat first | refine FW.tn ?_ | refine FW.bn ?_); refine q3 _ _ ?_
 refine FW.wreg fun _ q12 => ?_
 refine FW.sM hk fun a w hk => ?_
 refine FW.sA hk fun a w hk => ?_
 refine FW.lend (q12 _ _ ?_)
 refine wp_ret ?_
 (repeat first | refine FW.then_ret ?_ | refine FW.block_ret ?_)
 replace hk := FW.S.freezeR (I' := []) r_c_str_eq hk (j := 0) rfl (t := 2) rfl rfl
 obtain rfl := Option.some.inj h
 exact FW.fret1 hk rfl rfl
end Go.Proofs.Ytbjbgodcenopnaa

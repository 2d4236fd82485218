/- Written by a program of this session (gen.py): the contracts of functions of the program. -/
import Derived.KernelRfl
import Derived.Test.YtbjbgodcenopnaaProg
import Derived.Test.YtbjbgodcenopnaaAvFun
import Derived.Test.YtbjbgodcenopnaaAvMan
import Derived.Test.YtbjbgodcenopnaaAvMore
import Derived.Test.YtbjbgodcenopnaaAvDraw2
import Derived.Test.YtbjbgodcenopnaaAvRow
import Derived.Test.YtbjbgodcenopnaaAvBld
import Derived.Test.YtbjbgodcenopnaaHrd
import Derived.Test.YtbjbgodcenopnaaHcl
import Derived.Test.YtbjbgodcenopnaaPaP6
import Derived.Test.YtbjbgodcenopnaaPdD
import Derived.Test.YtbjbgodcenopnaaPdP0
namespace Go.Proofs.Ytbjbgodcenopnaa
set_option linter.unusedVariables false
set_option maxRecDepth 20000
set_option maxHeartbeats 10000000
theorem lex_many_of_lex_wordy.ok (K : Nat) (v0 : List UInt8) (v1 : Int) (r : Int) (h : lex_many_of_lex_wordy.f K v0 v1 = some r) :
    FW.Ok Go.Proofs.Try.prog 88 [.lit (.string (FW.B v0)), .lit (.int .i64 v1), .lit (.func (.func 90) #[] #[])] (.lit (.int .i64 r)) := by
  refine FW.enter (xs := [.lit (.string (FW.B v0)), .lit (.int .i64 v1), .lit (.func (.func 90) #[] #[])]) Go.Proofs.Try.func88 rfl Go.Proofs.Try.ntmps88 rfl ?_
  intro M w0 a hk
  unfold lex_many_of_lex_wordy.f at h
  refine FW.wreg ?_; intro K' hK1
  refine FW.lfun (y := .lit (.int .i64 0)) hk rfl rfl rfl rfl (FW.f_assign hk (FW.holds_nil _) rfl) ?_; clear hk; intro a w hk
  refine FW.lend (hK1 _ _ ?_); clear hK1 K'
  refine FW.wreg ?_; intro K' hK2
  refine FW.lfun (y := .lit (.int .i64 0)) hk rfl rfl rfl rfl (FW.f_assign hk (FW.holds_nil _) rfl) ?_; clear hk; intro a w hk
  refine FW.lend (hK2 _ _ ?_); clear hK2 K'
  refine FW.wseq ?_; intro K' hK3
  refine wp_block ?_
  refine FW.wloop (T := Nat × List UInt8 × Int × Int) (fun x a w => match x with | (kl1, v0, v1, v7) => FW.S M w0 a w 26 [] [(0, [], .lit (.string (FW.B v0))), (1, [], .lit (.int .i64 v1)), (2, [], .lit (.func (.func 90) #[] #[])), (7, [], .lit (.int .i64 v7))] ∧ lex_many_of_lex_wordy.l1 K kl1 v0 v1 v7 = some r) (fun x => x.1) (K, v0, v1, 0) ⟨hk.sub ⟨rfl, rfl, rfl, rfl, trivial⟩, h⟩ ?_
  clear hk h
  rintro ⟨kl1, v0, v1, v7⟩ a w ⟨hk, h⟩ K' hK4
  cases kl1 with
  | zero => simp [lex_many_of_lex_wordy.l1] at h
  | succ kl1 =>
  rw [lex_many_of_lex_wordy.l1.eq_2] at h
  refine FW.wseq ?_; intro K' hK5
  refine FW.wreg ?_; intro K' hK6
  refine FW.lfun (y := .lit (.int .i64 v1)) hk rfl rfl rfl rfl (FW.f_move hk (FW.holds_nil _) rfl) ?_; clear hk; intro a w hk
  refine FW.lfun (y := .lit (.int .i64 v7)) hk rfl rfl rfl rfl (FW.f_move hk (FW.holds_nil _) rfl) ?_; clear hk; intro a w hk
  refine FW.lfun (y := .lit (.int .i64 (IntKind.wrap .i64 (v1 + v7)))) hk rfl rfl rfl rfl ((FW.f_pure (FW.p_add hk.kn (FW.holds_nil _) rfl rfl))) ?_; clear hk; intro a w hk
  refine FW.lfun (y := .lit (.string (FW.B v0))) hk rfl rfl rfl rfl (FW.f_move hk (FW.holds_nil _) rfl) ?_; clear hk; intro a w hk
  refine FW.lfun (y := .lit (.int .i64 (List.length v0 : Int))) hk rfl rfl rfl rfl ((FW.f_pure (FW.p_slen Go.Proofs.Try.underlying9 hk.kn (FW.holds_nil _) rfl))) ?_; clear hk; intro a w hk
  refine FW.lfun (y := .lit (.bool (decide ((IntKind.wrap .i64 (v1 + v7)) < (List.length v0 : Int))))) hk rfl rfl rfl rfl ((FW.f_pure (FW.p_lss hk.kn (FW.holds_nil _) rfl rfl))) ?_; clear hk; intro a w hk
  refine FW.lfun (y := .lit (.bool (decide ((IntKind.wrap .i64 (v1 + v7)) < (List.length v0 : Int))))) hk rfl rfl rfl rfl (FW.f_move hk (FW.holds_nil _) rfl) ?_; clear hk; intro a w hk
  refine FW.lfunG (y := .lit (.func (.func 90) #[] #[])) hk rfl rfl rfl rfl rfl rfl rfl rfl (fun hc => FW.f_move hk hc rfl) ?_; clear hk; intro a w hk
  refine FW.lfunG (y := .lit (.string (FW.B v0))) hk rfl rfl rfl rfl rfl rfl rfl rfl (fun hc => FW.f_move hk hc rfl) ?_; clear hk; intro a w hk
  refine FW.lfunG (y := .lit (.int .i64 v1)) hk rfl rfl rfl rfl rfl rfl rfl rfl (fun hc => FW.f_move hk hc rfl) ?_; clear hk; intro a w hk
  refine FW.lfunG (y := .lit (.int .i64 v7)) hk rfl rfl rfl rfl rfl rfl rfl rfl (fun hc => FW.f_move hk hc rfl) ?_; clear hk; intro a w hk
  refine FW.lfunG (y := .lit (.int .i64 (IntKind.wrap .i64 (v1 + v7)))) hk rfl rfl rfl rfl rfl rfl rfl rfl (fun hc => (FW.f_pure (FW.p_add hk.kn hc rfl rfl))) ?_; clear hk; intro a w hk
  obtain ⟨hc1, h⟩ := FW.chk h
  refine FW.lfunG (y := .lit (.int .u8 (FW.bt v0 (IntKind.wrap .i64 (v1 + v7))))) hk rfl rfl rfl rfl rfl rfl rfl rfl (fun hc => (FW.f_pure (FW.p_index Go.Proofs.Try.underlying9 hk.kn hc rfl rfl hc1))) ?_; clear hk; intro a w hk
  obtain ⟨t1, hr_t1, h⟩ := FW.bndG h
  refine FW.lfunG (y := .lit (.bool t1)) hk rfl rfl rfl rfl rfl rfl rfl rfl (fun hc => FW.f_call hk hc rfl rfl Go.Proofs.Try.func90 rfl (by kernel_rfl) (lex_wordy.ok (FW.bt v0 (IntKind.wrap .i64 (v1 + v7))) _ (hr_t1 (FW.asm_out (p := (decide ((IntKind.wrap .i64 (v1 + v7)) < (List.length v0 : Int))) = true) hk.kn hc (fun e0 => e0))))) ?_; clear hk; intro a w hk
  refine FW.lfun (y := .lit (.bool ((decide ((IntKind.wrap .i64 (v1 + v7)) < (List.length v0 : Int))) && t1))) hk rfl rfl rfl rfl ((FW.f_pure (FW.p_pick_and hk.kn (FW.holds_nil _) rfl rfl))) ?_; clear hk; intro a w hk
  refine FW.lend (hK6 _ _ ?_); clear hK6 K'
  refine FW.wcondF (b := ((decide ((IntKind.wrap .i64 (v1 + v7)) < (List.length v0 : Int))) && t1)) hk h rfl (fun h hb => ?_) (fun h hb => ?_)
  · skip
    refine wp_skip ?_
    (repeat first | refine FW.then_normal ?_ | refine FW.block_normal ?_); refine hK5 _ _ ?_
    refine wp_block ?_
    refine FW.wreg1 ?_
    refine FW.lfun (y := .lit (.int .i64 v7)) hk rfl rfl rfl rfl (FW.f_move hk (FW.holds_nil _) rfl) ?_; clear hk; intro a w hk
    refine FW.lfun (y := .lit (.int .i64 (IntKind.wrap .i64 (v7 + 1)))) hk rfl rfl rfl rfl ((FW.f_pure (FW.p_add hk.kn (FW.holds_nil _) rfl rfl))) ?_; clear hk; intro a w hk
    refine FW.lfun (y := .lit (.int .i64 (IntKind.wrap .i64 (v7 + 1)))) hk rfl rfl rfl rfl (FW.f_assign hk (FW.holds_nil _) rfl) ?_; clear hk; intro a w hk
    refine wpList_nil ?_
    (repeat first | refine FW.then_normal ?_ | refine FW.block_normal ?_); exact hK4 (kl1, v0, v1, (IntKind.wrap .i64 (v7 + 1))) _ _ (Nat.lt_succ_self _) ⟨hk.sub ⟨rfl, rfl, rfl, rfl, trivial⟩, h⟩
  · skip
    refine wp_exit ?_; (repeat first | refine FW.then_exit ?_ | refine FW.block_exit_ne rfl ?_); refine FW.block_exit ?_
    (repeat first | refine FW.then_normal ?_ | refine FW.block_normal ?_); refine hK3 _ _ ?_
    refine FW.wreg ?_; intro K' hK8
    refine FW.lfun (y := .lit (.int .i64 v7)) hk rfl rfl rfl rfl (FW.f_move hk (FW.holds_nil _) rfl) ?_; clear hk; intro a w hk
    refine FW.lfun (y := .lit (.int .i64 v7)) hk rfl rfl rfl rfl (FW.f_assign hk (FW.holds_nil _) rfl) ?_; clear hk; intro a w hk
    refine FW.lend (hK8 _ _ ?_); clear hK8 K'
    refine wp_ret ?_
    (repeat first | refine FW.then_ret ?_ | refine FW.block_ret ?_)
    obtain rfl := Option.some.inj h
    exact FW.fret1 hk rfl rfl

theorem lex_word.ok (K : Nat) (v0 : List UInt8) (v1 : Int) (r : ApiWord × Int) (h : lex_word.f K v0 v1 = some r) :
    FW.Ok Go.Proofs.Try.prog 62 [.lit (.string (FW.B v0)), .lit (.int .i64 v1)] (.tup [.agg (ApiWord.cells r.1), .lit (.int .i64 r.2)]) := by
  refine FW.enter (xs := [.lit (.string (FW.B v0)), .lit (.int .i64 v1)]) Go.Proofs.Try.func62 rfl Go.Proofs.Try.ntmps62 rfl ?_
  intro M w0 a hk
  unfold lex_word.f at h
  refine FW.wreg ?_; intro K' hK1
  refine FW.l_alloc (zs := (ApiWord.cells (⟨0, [], 0, 0, 0⟩ : ApiWord))) [] hk rfl rfl rfl rfl ?_; clear hk; intro bx1 a w hk
  refine FW.lfun (y := .lit (.int .i64 0)) hk rfl rfl rfl rfl (FW.f_assign hk (FW.holds_nil _) rfl) ?_; clear hk; intro a w hk
  refine FW.lend (hK1 _ _ ?_); clear hK1 K'
  refine FW.wreg ?_; intro K' hK2
  refine FW.lfun (y := .lit (.string (FW.B v0))) hk rfl rfl rfl rfl (FW.f_move hk (FW.holds_nil _) rfl) ?_; clear hk; intro a w hk
  refine FW.lfun (y := .lit (.int .i64 v1)) hk rfl rfl rfl rfl (FW.f_move hk (FW.holds_nil _) rfl) ?_; clear hk; intro a w hk
  obtain ⟨hc1, h⟩ := FW.chk h
  refine FW.lfun (y := .lit (.int .u8 (FW.bt v0 v1))) hk rfl rfl rfl rfl ((FW.f_pure (FW.p_index Go.Proofs.Try.underlying9 hk.kn (FW.holds_nil _) rfl rfl hc1))) ?_; clear hk; intro a w hk
  refine FW.lfun (y := .lit (.int .u8 (FW.bt v0 v1))) hk rfl rfl rfl rfl (FW.f_assign hk (FW.holds_nil _) rfl) ?_; clear hk; intro a w hk
  refine FW.lend (hK2 _ _ ?_); clear hK2 K'
  refine FW.wreg ?_; intro K' hK3
  refine FW.lfun (y := .lit (.func (.func 85) #[] #[])) hk rfl rfl rfl rfl (FW.f_assign hk (FW.holds_nil _) rfl) ?_; clear hk; intro a w hk
  refine FW.lend (hK3 _ _ ?_); clear hK3 K'
  refine FW.wseq ?_; intro K' hK4
  refine wp_block ?_
  refine FW.wreg ?_; intro K' hK5
  refine FW.lfun (y := .lit (.int .u8 (FW.bt v0 v1))) hk rfl rfl rfl rfl (FW.f_move hk (FW.holds_nil _) rfl) ?_; clear hk; intro a w hk
  refine FW.lfun (y := .lit (.bool (decide ((FW.bt v0 v1) = 102)))) hk rfl rfl rfl rfl ((FW.f_pure (FW.p_eql hk.kn (FW.holds_nil _) rfl rfl))) ?_; clear hk; intro a w hk
  refine FW.lfun (y := .lit (.bool (decide ((FW.bt v0 v1) = 102)))) hk rfl rfl rfl rfl (FW.f_move hk (FW.holds_nil _) rfl) ?_; clear hk; intro a w hk
  refine FW.lfunG (y := .lit (.int .i64 v1)) hk rfl rfl rfl rfl rfl rfl rfl rfl (fun hc => FW.f_move hk hc rfl) ?_; clear hk; intro a w hk
  refine FW.lfunG (y := .lit (.int .i64 (IntKind.wrap .i64 (v1 + 1)))) hk rfl rfl rfl rfl rfl rfl rfl rfl (fun hc => (FW.f_pure (FW.p_add hk.kn hc rfl rfl))) ?_; clear hk; intro a w hk
  refine FW.lfunG (y := .lit (.string (FW.B v0))) hk rfl rfl rfl rfl rfl rfl rfl rfl (fun hc => FW.f_move hk hc rfl) ?_; clear hk; intro a w hk
  refine FW.lfunG (y := .lit (.int .i64 (List.length v0 : Int))) hk rfl rfl rfl rfl rfl rfl rfl rfl (fun hc => (FW.f_pure (FW.p_slen Go.Proofs.Try.underlying9 hk.kn hc rfl))) ?_; clear hk; intro a w hk
  refine FW.lfunG (y := .lit (.bool (decide ((IntKind.wrap .i64 (v1 + 1)) < (List.length v0 : Int))))) hk rfl rfl rfl rfl rfl rfl rfl rfl (fun hc => (FW.f_pure (FW.p_lss hk.kn hc rfl rfl))) ?_; clear hk; intro a w hk
  refine FW.lfun (y := .lit (.bool ((decide ((FW.bt v0 v1) = 102)) && (decide ((IntKind.wrap .i64 (v1 + 1)) < (List.length v0 : Int)))))) hk rfl rfl rfl rfl ((FW.f_pure (FW.p_pick_and hk.kn (FW.holds_nil _) rfl rfl))) ?_; clear hk; intro a w hk
  refine FW.lfun (y := .lit (.bool ((decide ((FW.bt v0 v1) = 102)) && (decide ((IntKind.wrap .i64 (v1 + 1)) < (List.length v0 : Int)))))) hk rfl rfl rfl rfl (FW.f_move hk (FW.holds_nil _) rfl) ?_; clear hk; intro a w hk
  refine FW.lfunG (y := .lit (.string (FW.B v0))) hk rfl rfl rfl rfl rfl rfl rfl rfl (fun hc => FW.f_move hk hc rfl) ?_; clear hk; intro a w hk
  refine FW.lfunG (y := .lit (.int .i64 v1)) hk rfl rfl rfl rfl rfl rfl rfl rfl (fun hc => FW.f_move hk hc rfl) ?_; clear hk; intro a w hk
  refine FW.lfunG (y := .lit (.int .i64 (IntKind.wrap .i64 (v1 + 1)))) hk rfl rfl rfl rfl rfl rfl rfl rfl (fun hc => (FW.f_pure (FW.p_add hk.kn hc rfl rfl))) ?_; clear hk; intro a w hk
  obtain ⟨hc2, h⟩ := FW.chk h
  refine FW.lfunG (y := .lit (.int .u8 (FW.bt v0 (IntKind.wrap .i64 (v1 + 1))))) hk rfl rfl rfl rfl rfl rfl rfl rfl (fun hc => (FW.f_pure (FW.p_index Go.Proofs.Try.underlying9 hk.kn hc rfl rfl hc2))) ?_; clear hk; intro a w hk
  refine FW.lfunG (y := .lit (.bool (decide ((FW.bt v0 (IntKind.wrap .i64 (v1 + 1))) = 39)))) hk rfl rfl rfl rfl rfl rfl rfl rfl (fun hc => (FW.f_pure (FW.p_eql hk.kn hc rfl rfl))) ?_; clear hk; intro a w hk
  refine FW.lfun (y := .lit (.bool (((decide ((FW.bt v0 v1) = 102)) && (decide ((IntKind.wrap .i64 (v1 + 1)) < (List.length v0 : Int)))) && (decide ((FW.bt v0 (IntKind.wrap .i64 (v1 + 1))) = 39))))) hk rfl rfl rfl rfl ((FW.f_pure (FW.p_pick_and hk.kn (FW.holds_nil _) rfl rfl))) ?_; clear hk; intro a w hk
  refine FW.lfun (y := .lit (.bool (((decide ((FW.bt v0 v1) = 102)) && (decide ((IntKind.wrap .i64 (v1 + 1)) < (List.length v0 : Int)))) && (decide ((FW.bt v0 (IntKind.wrap .i64 (v1 + 1))) = 39))))) hk rfl rfl rfl rfl (FW.f_assign hk (FW.holds_nil _) rfl) ?_; clear hk; intro a w hk
  refine FW.lend (hK5 _ _ ?_); clear hK5 K'
  refine FW.wcondF (b := (((decide ((FW.bt v0 v1) = 102)) && (decide ((IntKind.wrap .i64 (v1 + 1)) < (List.length v0 : Int)))) && (decide ((FW.bt v0 (IntKind.wrap .i64 (v1 + 1))) = 39)))) hk h rfl (fun h hb => ?_) (fun h hb => ?_)
  · skip
    refine FW.wreg ?_; intro K' hK6
    refine FW.lfun (y := .lit (.string (FW.B v0))) hk rfl rfl rfl rfl (FW.f_move hk (FW.holds_nil _) rfl) ?_; clear hk; intro a w hk
    refine FW.lfun (y := .lit (.int .i64 v1)) hk rfl rfl rfl rfl (FW.f_move hk (FW.holds_nil _) rfl) ?_; clear hk; intro a w hk
    refine FW.lfun (y := .lit (.int .i64 (IntKind.wrap .i64 (v1 + 1)))) hk rfl rfl rfl rfl ((FW.f_pure (FW.p_add hk.kn (FW.holds_nil _) rfl rfl))) ?_; clear hk; intro a w hk
    obtain ⟨hc3, h⟩ := FW.chk h
    refine FW.lfun (y := .lit (.string (FW.B (List.drop (Int.toNat (IntKind.wrap .i64 (v1 + 1))) v0)))) hk rfl rfl rfl rfl ((FW.f_pure (FW.p_slice_lo Go.Proofs.Try.underlying9 hk.kn (FW.holds_nil _) rfl rfl hc3))) ?_; clear hk; intro a w hk
    obtain ⟨t1, hr_t1, h⟩ := FW.bnd h
    refine FW.lfun (y := .tup [.lit (.string (FW.B t1.1)), .lit (.int .i64 t1.2)]) hk rfl rfl rfl rfl (FW.f_call hk (FW.holds_nil _) rfl rfl Go.Proofs.Try.func86 rfl (by kernel_rfl) (lex_quoted.ok K (List.drop (Int.toNat (IntKind.wrap .i64 (v1 + 1))) v0) _ hr_t1)) ?_; clear hk; intro a w hk
    refine FW.lfun (y := .tup [.lit (.string (FW.B t1.1)), .lit (.int .i64 t1.2)]) hk rfl rfl rfl rfl (FW.f_move hk (FW.holds_nil _) rfl) ?_; clear hk; intro a w hk
    refine FW.lfun (y := .lit (.string (FW.B t1.1))) hk rfl rfl rfl rfl (FW.f_extract hk (FW.holds_nil _) rfl rfl) ?_; clear hk; intro a w hk
    refine FW.lfun (y := .lit (.int .i64 t1.2)) hk rfl rfl rfl rfl (FW.f_extract hk (FW.holds_nil _) rfl rfl) ?_; clear hk; intro a w hk
    refine FW.lfun (y := .lit (.string (FW.B t1.1))) hk rfl rfl rfl rfl (FW.f_assign hk (FW.holds_nil _) rfl) ?_; clear hk; intro a w hk
    refine FW.lfun (y := .lit (.int .i64 t1.2)) hk rfl rfl rfl rfl (FW.f_assign hk (FW.holds_nil _) rfl) ?_; clear hk; intro a w hk
    refine FW.lend (hK6 _ _ ?_); clear hK6 K'
    refine FW.wreg ?_; intro K' hK7
    refine FW.lfun (y := .lit (.string (FW.B t1.1))) hk rfl rfl rfl rfl (FW.f_move hk (FW.holds_nil _) rfl) ?_; clear hk; intro a w hk
    obtain ⟨t2, hr_t2, h⟩ := FW.bnd h
    refine FW.lfun (y := .tup [.lit (.float .f64 t2.1), .lit (.bool t2.2)]) hk rfl rfl rfl rfl (FW.f_call hk (FW.holds_nil _) rfl rfl Go.Proofs.Try.func87 rfl (by kernel_rfl) (lex_float.ok K t1.1 _ hr_t2)) ?_; clear hk; intro a w hk
    refine FW.lfun (y := .tup [.lit (.float .f64 t2.1), .lit (.bool t2.2)]) hk rfl rfl rfl rfl (FW.f_move hk (FW.holds_nil _) rfl) ?_; clear hk; intro a w hk
    refine FW.lfun (y := .lit (.float .f64 t2.1)) hk rfl rfl rfl rfl (FW.f_extract hk (FW.holds_nil _) rfl rfl) ?_; clear hk; intro a w hk
    refine FW.lfun (y := .lit (.bool t2.2)) hk rfl rfl rfl rfl (FW.f_extract hk (FW.holds_nil _) rfl rfl) ?_; clear hk; intro a w hk
    refine FW.lfun (y := .lit (.float .f64 t2.1)) hk rfl rfl rfl rfl (FW.f_assign hk (FW.holds_nil _) rfl) ?_; clear hk; intro a w hk
    refine FW.lfun (y := .lit (.bool t2.2)) hk rfl rfl rfl rfl (FW.f_assign hk (FW.holds_nil _) rfl) ?_; clear hk; intro a w hk
    refine FW.lend (hK7 _ _ ?_); clear hK7 K'
    refine FW.wseq ?_; intro K' hK8
    refine FW.wreg ?_; intro K' hK9
    refine FW.lfun (y := .lit (.int .i64 t1.2)) hk rfl rfl rfl rfl (FW.f_move hk (FW.holds_nil _) rfl) ?_; clear hk; intro a w hk
    refine FW.lfun (y := .lit (.bool (decide (t1.2 = 0)))) hk rfl rfl rfl rfl ((FW.f_pure (FW.p_eql hk.kn (FW.holds_nil _) rfl rfl))) ?_; clear hk; intro a w hk
    refine FW.lfun (y := .lit (.bool (decide (t1.2 = 0)))) hk rfl rfl rfl rfl (FW.f_move hk (FW.holds_nil _) rfl) ?_; clear hk; intro a w hk
    refine FW.lfunG (y := .lit (.bool t2.2)) hk rfl rfl rfl rfl rfl rfl rfl rfl (fun hc => FW.f_move hk hc rfl) ?_; clear hk; intro a w hk
    refine FW.lfunG (y := .lit (.bool (!t2.2))) hk rfl rfl rfl rfl rfl rfl rfl rfl (fun hc => (FW.f_pure (FW.p_not hk.kn hc rfl))) ?_; clear hk; intro a w hk
    refine FW.lfun (y := .lit (.bool ((decide (t1.2 = 0)) || (!t2.2)))) hk rfl rfl rfl rfl ((FW.f_pure (FW.p_pick_or hk.kn (FW.holds_nil _) rfl rfl))) ?_; clear hk; intro a w hk
    refine FW.lend (hK9 _ _ ?_); clear hK9 K'
    refine FW.wcondF (b := ((decide (t1.2 = 0)) || (!t2.2))) hk h rfl (fun h hb => ?_) (fun h hb => ?_)
    · skip
      refine FW.wreg ?_; intro K' hK10
      refine FW.lfun (y := .agg ((ApiWord.cells (⟨0, [], 0, 0, 0⟩ : ApiWord)))) hk rfl rfl rfl rfl (FW.f_build hk (FW.holds_nil _) rfl rfl) ?_; clear hk; intro a w hk
      refine FW.l_store (I' := [FW.blk bx1 66 ((ApiWord.cells (⟨0, [], 0, 0, 0⟩ : ApiWord)))]) (cs' := (ApiWord.cells (⟨0, [], 0, 0, 0⟩ : ApiWord))) (j := 0) hk rfl rfl rfl rfl rfl (by kernel_rfl) rfl rfl ?_; clear hk; intro w hk
      refine FW.lfun (y := .lit (.int .i64 0)) hk rfl rfl rfl rfl (FW.f_assign hk (FW.holds_nil _) rfl) ?_; clear hk; intro a w hk
      refine FW.lend (hK10 _ _ ?_); clear hK10 K'
      refine wp_ret ?_
      (repeat first | refine FW.then_ret ?_ | refine FW.block_ret ?_)
      obtain rfl := Option.some.inj h
      exact FW.fretR2 hk rfl (FW.rcell hk rfl (j := 0) rfl Go.Proofs.Try.underlying66 rfl (by kernel_rfl)) (FW.rtmp hk rfl)
    · skip
      refine wp_skip ?_
      (repeat first | refine FW.then_normal ?_ | refine FW.block_normal ?_); refine hK8 _ _ ?_
      refine FW.wreg ?_; intro K' hK11
      refine FW.lfun (y := .lit (.float .f64 t2.1)) hk rfl rfl rfl rfl (FW.f_move hk (FW.holds_nil _) rfl) ?_; clear hk; intro a w hk
      refine FW.lfun (y := .lit (.int .i64 v1)) hk rfl rfl rfl rfl (FW.f_move hk (FW.holds_nil _) rfl) ?_; clear hk; intro a w hk
      refine FW.lfun (y := .agg ((ApiWord.cells (⟨3, [], 0, t2.1, v1⟩ : ApiWord)))) hk rfl rfl rfl rfl (FW.f_build hk (FW.holds_nil _) rfl rfl) ?_; clear hk; intro a w hk
      refine FW.lfun (y := .lit (.int .i64 t1.2)) hk rfl rfl rfl rfl (FW.f_move hk (FW.holds_nil _) rfl) ?_; clear hk; intro a w hk
      refine FW.lfun (y := .lit (.int .i64 (IntKind.wrap .i64 (t1.2 + 1)))) hk rfl rfl rfl rfl ((FW.f_pure (FW.p_add hk.kn (FW.holds_nil _) rfl rfl))) ?_; clear hk; intro a w hk
      refine FW.l_store (I' := [FW.blk bx1 66 ((ApiWord.cells (⟨3, [], 0, t2.1, v1⟩ : ApiWord)))]) (cs' := (ApiWord.cells (⟨3, [], 0, t2.1, v1⟩ : ApiWord))) (j := 0) hk rfl rfl rfl rfl rfl (by kernel_rfl) rfl rfl ?_; clear hk; intro w hk
      refine FW.lfun (y := .lit (.int .i64 (IntKind.wrap .i64 (t1.2 + 1)))) hk rfl rfl rfl rfl (FW.f_assign hk (FW.holds_nil _) rfl) ?_; clear hk; intro a w hk
      refine FW.lend (hK11 _ _ ?_); clear hK11 K'
      refine wp_ret ?_
      (repeat first | refine FW.then_ret ?_ | refine FW.block_ret ?_)
      obtain rfl := Option.some.inj h
      exact FW.fretR2 hk rfl (FW.rcell hk rfl (j := 0) rfl Go.Proofs.Try.underlying66 rfl (by kernel_rfl)) (FW.rtmp hk rfl)
  · skip
    refine FW.wreg ?_; intro K' hK12
    refine FW.lfun (y := .lit (.int .u8 (FW.bt v0 v1))) hk rfl rfl rfl rfl (FW.f_move hk (FW.holds_nil _) rfl) ?_; clear hk; intro a w hk
    refine FW.lfun (y := .lit (.bool (decide ((FW.bt v0 v1) = 39)))) hk rfl rfl rfl rfl ((FW.f_pure (FW.p_eql hk.kn (FW.holds_nil _) rfl rfl))) ?_; clear hk; intro a w hk
    refine FW.lfun (y := .lit (.bool (decide ((FW.bt v0 v1) = 39)))) hk rfl rfl rfl rfl (FW.f_assign hk (FW.holds_nil _) rfl) ?_; clear hk; intro a w hk
    refine FW.lend (hK12 _ _ ?_); clear hK12 K'
    refine FW.wcondF (b := (decide ((FW.bt v0 v1) = 39))) hk h rfl (fun h hb => ?_) (fun h hb => ?_)
    · skip
      refine FW.wreg ?_; intro K' hK13
      refine FW.lfun (y := .lit (.string (FW.B v0))) hk rfl rfl rfl rfl (FW.f_move hk (FW.holds_nil _) rfl) ?_; clear hk; intro a w hk
      refine FW.lfun (y := .lit (.int .i64 v1)) hk rfl rfl rfl rfl (FW.f_move hk (FW.holds_nil _) rfl) ?_; clear hk; intro a w hk
      obtain ⟨hc4, h⟩ := FW.chk h
      refine FW.lfun (y := .lit (.string (FW.B (List.drop (Int.toNat v1) v0)))) hk rfl rfl rfl rfl ((FW.f_pure (FW.p_slice_lo Go.Proofs.Try.underlying9 hk.kn (FW.holds_nil _) rfl rfl hc4))) ?_; clear hk; intro a w hk
      obtain ⟨t3, hr_t3, h⟩ := FW.bnd h
      refine FW.lfun (y := .tup [.lit (.string (FW.B t3.1)), .lit (.int .i64 t3.2)]) hk rfl rfl rfl rfl (FW.f_call hk (FW.holds_nil _) rfl rfl Go.Proofs.Try.func86 rfl (by kernel_rfl) (lex_quoted.ok K (List.drop (Int.toNat v1) v0) _ hr_t3)) ?_; clear hk; intro a w hk
      refine FW.lfun (y := .tup [.lit (.string (FW.B t3.1)), .lit (.int .i64 t3.2)]) hk rfl rfl rfl rfl (FW.f_move hk (FW.holds_nil _) rfl) ?_; clear hk; intro a w hk
      refine FW.lfun (y := .lit (.string (FW.B t3.1))) hk rfl rfl rfl rfl (FW.f_extract hk (FW.holds_nil _) rfl rfl) ?_; clear hk; intro a w hk
      refine FW.lfun (y := .lit (.int .i64 t3.2)) hk rfl rfl rfl rfl (FW.f_extract hk (FW.holds_nil _) rfl rfl) ?_; clear hk; intro a w hk
      refine FW.lfun (y := .lit (.string (FW.B t3.1))) hk rfl rfl rfl rfl (FW.f_assign hk (FW.holds_nil _) rfl) ?_; clear hk; intro a w hk
      refine FW.lfun (y := .lit (.int .i64 t3.2)) hk rfl rfl rfl rfl (FW.f_assign hk (FW.holds_nil _) rfl) ?_; clear hk; intro a w hk
      refine FW.lend (hK13 _ _ ?_); clear hK13 K'
      refine FW.wseqJ (fun a w => ∃ (y1 : ApiWord) (v1 : Int) (v12 : List UInt8) (v13 : Int), FW.S M w0 a w 141 [FW.blk bx1 66 ((ApiWord.cells y1))] [(1, [], .lit (.int .i64 v1)), (4, [], .lit (.pointer (some ⟨bx1, 0, none⟩))), (12, [], .lit (.string (FW.B v12))), (13, [], .lit (.int .i64 v13))] ∧ lex_word.j1 K y1 v1 v12 v13 = some r) ?_ ?_
      · clear hk h
        rintro a w ⟨y1, v1, v12, v13, hk, h⟩
        unfold lex_word.j1 at h
        refine FW.wreg ?_; intro K' hK15
        refine FW.lfun (y := .lit (.string (FW.B v12))) hk rfl rfl rfl rfl (FW.f_move hk (FW.holds_nil _) rfl) ?_; clear hk; intro a w hk
        refine FW.lfun (y := .lit (.int .i64 v1)) hk rfl rfl rfl rfl (FW.f_move hk (FW.holds_nil _) rfl) ?_; clear hk; intro a w hk
        refine FW.lfun (y := .agg ((ApiWord.cells (⟨4, v12, 0, 0, v1⟩ : ApiWord)))) hk rfl rfl rfl rfl (FW.f_build hk (FW.holds_nil _) rfl rfl) ?_; clear hk; intro a w hk
        refine FW.lfun (y := .lit (.int .i64 v13)) hk rfl rfl rfl rfl (FW.f_move hk (FW.holds_nil _) rfl) ?_; clear hk; intro a w hk
        refine FW.l_store (I' := [FW.blk bx1 66 ((ApiWord.cells (⟨4, v12, 0, 0, v1⟩ : ApiWord)))]) (cs' := (ApiWord.cells (⟨4, v12, 0, 0, v1⟩ : ApiWord))) (j := 0) hk rfl rfl rfl rfl rfl (by kernel_rfl) rfl rfl ?_; clear hk; intro w hk
        refine FW.lfun (y := .lit (.int .i64 v13)) hk rfl rfl rfl rfl (FW.f_assign hk (FW.holds_nil _) rfl) ?_; clear hk; intro a w hk
        refine FW.lend (hK15 _ _ ?_); clear hK15 K'
        refine wp_ret ?_
        (repeat first | refine FW.then_ret ?_ | refine FW.block_ret ?_)
        obtain rfl := Option.some.inj h
        exact FW.fretR2 hk rfl (FW.rcell hk rfl (j := 0) rfl Go.Proofs.Try.underlying66 rfl (by kernel_rfl)) (FW.rtmp hk rfl)
      · intro K' hK14
        refine FW.wreg ?_; intro K' hK16
        refine FW.lfun (y := .lit (.string (FW.B t3.1))) hk rfl rfl rfl rfl (FW.f_move hk (FW.holds_nil _) rfl) ?_; clear hk; intro a w hk
        refine FW.lfun (y := .lit (.int .i64 (List.length t3.1 : Int))) hk rfl rfl rfl rfl ((FW.f_pure (FW.p_slen Go.Proofs.Try.underlying9 hk.kn (FW.holds_nil _) rfl))) ?_; clear hk; intro a w hk
        refine FW.lfun (y := .lit (.bool (decide (500 < (List.length t3.1 : Int))))) hk rfl rfl rfl rfl ((FW.f_pure (FW.p_gtr hk.kn (FW.holds_nil _) rfl rfl))) ?_; clear hk; intro a w hk
        refine FW.lend (hK16 _ _ ?_); clear hK16 K'
        refine FW.wcondF (b := (decide (500 < (List.length t3.1 : Int)))) hk h rfl (fun h hb => ?_) (fun h hb => ?_)
        · skip
          refine FW.wreg1 ?_
          refine FW.lfun (y := .lit (.int .i64 0)) hk rfl rfl rfl rfl (FW.f_assign hk (FW.holds_nil _) rfl) ?_; clear hk; intro a w hk
          refine wpList_nil ?_
          (repeat first | refine FW.then_normal ?_ | refine FW.block_normal ?_); exact hK14 _ _ ⟨(⟨0, [], 0, 0, 0⟩ : ApiWord), v1, t3.1, 0, hk.sub ⟨rfl, rfl, rfl, rfl, trivial⟩, h⟩
        · skip
          refine wp_skip ?_
          (repeat first | refine FW.then_normal ?_ | refine FW.block_normal ?_); exact hK14 _ _ ⟨(⟨0, [], 0, 0, 0⟩ : ApiWord), v1, t3.1, t3.2, hk.sub ⟨rfl, rfl, rfl, rfl, trivial⟩, h⟩
    · skip
      refine FW.wreg ?_; intro K' hK18
      refine FW.lfun (y := .lit (.func (.func 85) #[] #[])) hk rfl rfl rfl rfl (FW.f_move hk (FW.holds_nil _) rfl) ?_; clear hk; intro a w hk
      refine FW.lfun (y := .lit (.int .u8 (FW.bt v0 v1))) hk rfl rfl rfl rfl (FW.f_move hk (FW.holds_nil _) rfl) ?_; clear hk; intro a w hk
      obtain ⟨t4, hr_t4, h⟩ := FW.bnd h
      refine FW.lfun (y := .lit (.bool t4)) hk rfl rfl rfl rfl (FW.f_call hk (FW.holds_nil _) rfl rfl Go.Proofs.Try.func85 rfl (by kernel_rfl) (lex_word_1.ok (FW.bt v0 v1) _ hr_t4)) ?_; clear hk; intro a w hk
      refine FW.lfun (y := .lit (.bool t4)) hk rfl rfl rfl rfl (FW.f_move hk (FW.holds_nil _) rfl) ?_; clear hk; intro a w hk
      refine FW.lfunG (y := .lit (.int .u8 (FW.bt v0 v1))) hk rfl rfl rfl rfl rfl rfl rfl rfl (fun hc => FW.f_move hk hc rfl) ?_; clear hk; intro a w hk
      refine FW.lfunG (y := .lit (.bool (decide ((FW.bt v0 v1) = 45)))) hk rfl rfl rfl rfl rfl rfl rfl rfl (fun hc => (FW.f_pure (FW.p_eql hk.kn hc rfl rfl))) ?_; clear hk; intro a w hk
      refine FW.lfun (y := .lit (.bool (t4 || (decide ((FW.bt v0 v1) = 45))))) hk rfl rfl rfl rfl ((FW.f_pure (FW.p_pick_or hk.kn (FW.holds_nil _) rfl rfl))) ?_; clear hk; intro a w hk
      refine FW.lfun (y := .lit (.bool (t4 || (decide ((FW.bt v0 v1) = 45))))) hk rfl rfl rfl rfl (FW.f_assign hk (FW.holds_nil _) rfl) ?_; clear hk; intro a w hk
      refine FW.lend (hK18 _ _ ?_); clear hK18 K'
      refine FW.wcondF (b := (t4 || (decide ((FW.bt v0 v1) = 45)))) hk h rfl (fun h hb => ?_) (fun h hb => ?_)
      · skip
        refine FW.wreg ?_; intro K' hK19
        refine FW.lfun (y := .lit (.string (FW.B v0))) hk rfl rfl rfl rfl (FW.f_move hk (FW.holds_nil _) rfl) ?_; clear hk; intro a w hk
        refine FW.lfun (y := .lit (.int .i64 v1)) hk rfl rfl rfl rfl (FW.f_move hk (FW.holds_nil _) rfl) ?_; clear hk; intro a w hk
        refine FW.lfun (y := .lit (.int .i64 (IntKind.wrap .i64 (v1 + 1)))) hk rfl rfl rfl rfl ((FW.f_pure (FW.p_add hk.kn (FW.holds_nil _) rfl rfl))) ?_; clear hk; intro a w hk
        refine FW.lfun (y := .lit (.func (.func 85) #[] #[])) hk rfl rfl rfl rfl (FW.f_move hk (FW.holds_nil _) rfl) ?_; clear hk; intro a w hk
        obtain ⟨t5, hr_t5, h⟩ := FW.bnd h
        refine FW.lfun (y := .lit (.int .i64 t5)) hk rfl rfl rfl rfl (FW.f_call hk (FW.holds_nil _) rfl rfl Go.Proofs.Try.func88 rfl (by kernel_rfl) (lex_many_of_lex_word_1.ok K v0 (IntKind.wrap .i64 (v1 + 1)) _ hr_t5)) ?_; clear hk; intro a w hk
        refine FW.lfun (y := .lit (.int .i64 (IntKind.wrap .i64 (1 + t5)))) hk rfl rfl rfl rfl ((FW.f_pure (FW.p_add hk.kn (FW.holds_nil _) rfl rfl))) ?_; clear hk; intro a w hk
        refine FW.lfun (y := .lit (.int .i64 (IntKind.wrap .i64 (1 + t5)))) hk rfl rfl rfl rfl (FW.f_assign hk (FW.holds_nil _) rfl) ?_; clear hk; intro a w hk
        refine FW.lend (hK19 _ _ ?_); clear hK19 K'
        refine FW.wreg ?_; intro K' hK20
        refine FW.lfun (y := .lit (.string (FW.B v0))) hk rfl rfl rfl rfl (FW.f_move hk (FW.holds_nil _) rfl) ?_; clear hk; intro a w hk
        refine FW.lfun (y := .lit (.int .i64 v1)) hk rfl rfl rfl rfl (FW.f_move hk (FW.holds_nil _) rfl) ?_; clear hk; intro a w hk
        refine FW.lfun (y := .lit (.int .i64 v1)) hk rfl rfl rfl rfl (FW.f_move hk (FW.holds_nil _) rfl) ?_; clear hk; intro a w hk
        refine FW.lfun (y := .lit (.int .i64 (IntKind.wrap .i64 (1 + t5)))) hk rfl rfl rfl rfl (FW.f_move hk (FW.holds_nil _) rfl) ?_; clear hk; intro a w hk
        refine FW.lfun (y := .lit (.int .i64 (IntKind.wrap .i64 (v1 + (IntKind.wrap .i64 (1 + t5)))))) hk rfl rfl rfl rfl ((FW.f_pure (FW.p_add hk.kn (FW.holds_nil _) rfl rfl))) ?_; clear hk; intro a w hk
        obtain ⟨hc5, h⟩ := FW.chk h
        refine FW.lfun (y := .lit (.string (FW.B (List.take (Int.toNat (IntKind.wrap .i64 (v1 + (IntKind.wrap .i64 (1 + t5)))) - Int.toNat v1) (List.drop (Int.toNat v1) v0))))) hk rfl rfl rfl rfl ((FW.f_pure (FW.p_slice Go.Proofs.Try.underlying9 hk.kn (FW.holds_nil _) rfl rfl rfl hc5))) ?_; clear hk; intro a w hk
        obtain ⟨t6, hr_t6, h⟩ := FW.bnd h
        refine FW.lfun (y := .tup [.lit (.int .i64 t6.1), .lit (.bool t6.2)]) hk rfl rfl rfl rfl (FW.f_call hk (FW.holds_nil _) rfl rfl Go.Proofs.Try.func89 rfl (by kernel_rfl) (lex_integer.ok K (List.take (Int.toNat (IntKind.wrap .i64 (v1 + (IntKind.wrap .i64 (1 + t5)))) - Int.toNat v1) (List.drop (Int.toNat v1) v0)) _ hr_t6)) ?_; clear hk; intro a w hk
        refine FW.lfun (y := .tup [.lit (.int .i64 t6.1), .lit (.bool t6.2)]) hk rfl rfl rfl rfl (FW.f_move hk (FW.holds_nil _) rfl) ?_; clear hk; intro a w hk
        refine FW.lfun (y := .lit (.int .i64 t6.1)) hk rfl rfl rfl rfl (FW.f_extract hk (FW.holds_nil _) rfl rfl) ?_; clear hk; intro a w hk
        refine FW.lfun (y := .lit (.bool t6.2)) hk rfl rfl rfl rfl (FW.f_extract hk (FW.holds_nil _) rfl rfl) ?_; clear hk; intro a w hk
        refine FW.lfun (y := .lit (.int .i64 t6.1)) hk rfl rfl rfl rfl (FW.f_assign hk (FW.holds_nil _) rfl) ?_; clear hk; intro a w hk
        refine FW.lfun (y := .lit (.bool t6.2)) hk rfl rfl rfl rfl (FW.f_assign hk (FW.holds_nil _) rfl) ?_; clear hk; intro a w hk
        refine FW.lend (hK20 _ _ ?_); clear hK20 K'
        refine FW.wseq ?_; intro K' hK21
        refine FW.wreg ?_; intro K' hK22
        refine FW.lfun (y := .lit (.bool t6.2)) hk rfl rfl rfl rfl (FW.f_move hk (FW.holds_nil _) rfl) ?_; clear hk; intro a w hk
        refine FW.lfun (y := .lit (.bool (!t6.2))) hk rfl rfl rfl rfl ((FW.f_pure (FW.p_not hk.kn (FW.holds_nil _) rfl))) ?_; clear hk; intro a w hk
        refine FW.lend (hK22 _ _ ?_); clear hK22 K'
        refine FW.wcondF (b := (!t6.2)) hk h rfl (fun h hb => ?_) (fun h hb => ?_)
        · skip
          refine FW.wreg ?_; intro K' hK23
          refine FW.lfun (y := .agg ((ApiWord.cells (⟨0, [], 0, 0, 0⟩ : ApiWord)))) hk rfl rfl rfl rfl (FW.f_build hk (FW.holds_nil _) rfl rfl) ?_; clear hk; intro a w hk
          refine FW.l_store (I' := [FW.blk bx1 66 ((ApiWord.cells (⟨0, [], 0, 0, 0⟩ : ApiWord)))]) (cs' := (ApiWord.cells (⟨0, [], 0, 0, 0⟩ : ApiWord))) (j := 0) hk rfl rfl rfl rfl rfl (by kernel_rfl) rfl rfl ?_; clear hk; intro w hk
          refine FW.lfun (y := .lit (.int .i64 0)) hk rfl rfl rfl rfl (FW.f_assign hk (FW.holds_nil _) rfl) ?_; clear hk; intro a w hk
          refine FW.lend (hK23 _ _ ?_); clear hK23 K'
          refine wp_ret ?_
          (repeat first | refine FW.then_ret ?_ | refine FW.block_ret ?_)
          obtain rfl := Option.some.inj h
          exact FW.fretR2 hk rfl (FW.rcell hk rfl (j := 0) rfl Go.Proofs.Try.underlying66 rfl (by kernel_rfl)) (FW.rtmp hk rfl)
        · skip
          refine wp_skip ?_
          (repeat first | refine FW.then_normal ?_ | refine FW.block_normal ?_); refine hK21 _ _ ?_
          refine FW.wreg ?_; intro K' hK24
          refine FW.lfun (y := .lit (.int .i64 t6.1)) hk rfl rfl rfl rfl (FW.f_move hk (FW.holds_nil _) rfl) ?_; clear hk; intro a w hk
          refine FW.lfun (y := .lit (.int .i64 v1)) hk rfl rfl rfl rfl (FW.f_move hk (FW.holds_nil _) rfl) ?_; clear hk; intro a w hk
          refine FW.lfun (y := .agg ((ApiWord.cells (⟨2, [], t6.1, 0, v1⟩ : ApiWord)))) hk rfl rfl rfl rfl (FW.f_build hk (FW.holds_nil _) rfl rfl) ?_; clear hk; intro a w hk
          refine FW.lfun (y := .lit (.int .i64 (IntKind.wrap .i64 (1 + t5)))) hk rfl rfl rfl rfl (FW.f_move hk (FW.holds_nil _) rfl) ?_; clear hk; intro a w hk
          refine FW.l_store (I' := [FW.blk bx1 66 ((ApiWord.cells (⟨2, [], t6.1, 0, v1⟩ : ApiWord)))]) (cs' := (ApiWord.cells (⟨2, [], t6.1, 0, v1⟩ : ApiWord))) (j := 0) hk rfl rfl rfl rfl rfl (by kernel_rfl) rfl rfl ?_; clear hk; intro w hk
          refine FW.lfun (y := .lit (.int .i64 (IntKind.wrap .i64 (1 + t5)))) hk rfl rfl rfl rfl (FW.f_assign hk (FW.holds_nil _) rfl) ?_; clear hk; intro a w hk
          refine FW.lend (hK24 _ _ ?_); clear hK24 K'
          refine wp_ret ?_
          (repeat first | refine FW.then_ret ?_ | refine FW.block_ret ?_)
          obtain rfl := Option.some.inj h
          exact FW.fretR2 hk rfl (FW.rcell hk rfl (j := 0) rfl Go.Proofs.Try.underlying66 rfl (by kernel_rfl)) (FW.rtmp hk rfl)
      · skip
        refine FW.wreg ?_; intro K' hK25
        refine FW.lfun (y := .lit (.int .u8 (FW.bt v0 v1))) hk rfl rfl rfl rfl (FW.f_move hk (FW.holds_nil _) rfl) ?_; clear hk; intro a w hk
        obtain ⟨t7, hr_t7, h⟩ := FW.bnd h
        refine FW.lfun (y := .lit (.bool t7)) hk rfl rfl rfl rfl (FW.f_call hk (FW.holds_nil _) rfl rfl Go.Proofs.Try.func90 rfl (by kernel_rfl) (lex_wordy.ok (FW.bt v0 v1) _ hr_t7)) ?_; clear hk; intro a w hk
        refine FW.lfun (y := .lit (.bool t7)) hk rfl rfl rfl rfl (FW.f_assign hk (FW.holds_nil _) rfl) ?_; clear hk; intro a w hk
        refine FW.lend (hK25 _ _ ?_); clear hK25 K'
        refine FW.wcondF (b := t7) hk h rfl (fun h hb => ?_) (fun h hb => ?_)
        · skip
          refine FW.wreg ?_; intro K' hK26
          refine FW.lfun (y := .lit (.string (FW.B v0))) hk rfl rfl rfl rfl (FW.f_move hk (FW.holds_nil _) rfl) ?_; clear hk; intro a w hk
          refine FW.lfun (y := .lit (.int .i64 v1)) hk rfl rfl rfl rfl (FW.f_move hk (FW.holds_nil _) rfl) ?_; clear hk; intro a w hk
          obtain ⟨t8, hr_t8, h⟩ := FW.bnd h
          refine FW.lfun (y := .lit (.int .i64 t8)) hk rfl rfl rfl rfl (FW.f_call hk (FW.holds_nil _) rfl rfl Go.Proofs.Try.func88 rfl (by kernel_rfl) (lex_many_of_lex_wordy.ok K v0 v1 _ hr_t8)) ?_; clear hk; intro a w hk
          refine FW.lfun (y := .lit (.int .i64 t8)) hk rfl rfl rfl rfl (FW.f_assign hk (FW.holds_nil _) rfl) ?_; clear hk; intro a w hk
          refine FW.lend (hK26 _ _ ?_); clear hK26 K'
          refine FW.wseq ?_; intro K' hK27
          refine FW.wreg ?_; intro K' hK28
          refine FW.lfun (y := .lit (.int .i64 t8)) hk rfl rfl rfl rfl (FW.f_move hk (FW.holds_nil _) rfl) ?_; clear hk; intro a w hk
          refine FW.lfun (y := .lit (.bool (decide (16 < t8)))) hk rfl rfl rfl rfl ((FW.f_pure (FW.p_gtr hk.kn (FW.holds_nil _) rfl rfl))) ?_; clear hk; intro a w hk
          refine FW.lend (hK28 _ _ ?_); clear hK28 K'
          refine FW.wcondF (b := (decide (16 < t8))) hk h rfl (fun h hb => ?_) (fun h hb => ?_)
          · skip
            refine FW.wreg ?_; intro K' hK29
            refine FW.lfun (y := .agg ((ApiWord.cells (⟨0, [], 0, 0, 0⟩ : ApiWord)))) hk rfl rfl rfl rfl (FW.f_build hk (FW.holds_nil _) rfl rfl) ?_; clear hk; intro a w hk
            refine FW.l_store (I' := [FW.blk bx1 66 ((ApiWord.cells (⟨0, [], 0, 0, 0⟩ : ApiWord)))]) (cs' := (ApiWord.cells (⟨0, [], 0, 0, 0⟩ : ApiWord))) (j := 0) hk rfl rfl rfl rfl rfl (by kernel_rfl) rfl rfl ?_; clear hk; intro w hk
            refine FW.lfun (y := .lit (.int .i64 0)) hk rfl rfl rfl rfl (FW.f_assign hk (FW.holds_nil _) rfl) ?_; clear hk; intro a w hk
            refine FW.lend (hK29 _ _ ?_); clear hK29 K'
            refine wp_ret ?_
            (repeat first | refine FW.then_ret ?_ | refine FW.block_ret ?_)
            obtain rfl := Option.some.inj h
            exact FW.fretR2 hk rfl (FW.rcell hk rfl (j := 0) rfl Go.Proofs.Try.underlying66 rfl (by kernel_rfl)) (FW.rtmp hk rfl)
          · skip
            refine wp_skip ?_
            (repeat first | refine FW.then_normal ?_ | refine FW.block_normal ?_); refine hK27 _ _ ?_
            refine FW.wreg ?_; intro K' hK30
            refine FW.lfun (y := .lit (.string (FW.B v0))) hk rfl rfl rfl rfl (FW.f_move hk (FW.holds_nil _) rfl) ?_; clear hk; intro a w hk
            refine FW.lfun (y := .lit (.int .i64 v1)) hk rfl rfl rfl rfl (FW.f_move hk (FW.holds_nil _) rfl) ?_; clear hk; intro a w hk
            refine FW.lfun (y := .lit (.int .i64 v1)) hk rfl rfl rfl rfl (FW.f_move hk (FW.holds_nil _) rfl) ?_; clear hk; intro a w hk
            refine FW.lfun (y := .lit (.int .i64 t8)) hk rfl rfl rfl rfl (FW.f_move hk (FW.holds_nil _) rfl) ?_; clear hk; intro a w hk
            refine FW.lfun (y := .lit (.int .i64 (IntKind.wrap .i64 (v1 + t8)))) hk rfl rfl rfl rfl ((FW.f_pure (FW.p_add hk.kn (FW.holds_nil _) rfl rfl))) ?_; clear hk; intro a w hk
            obtain ⟨hc6, h⟩ := FW.chk h
            refine FW.lfun (y := .lit (.string (FW.B (List.take (Int.toNat (IntKind.wrap .i64 (v1 + t8)) - Int.toNat v1) (List.drop (Int.toNat v1) v0))))) hk rfl rfl rfl rfl ((FW.f_pure (FW.p_slice Go.Proofs.Try.underlying9 hk.kn (FW.holds_nil _) rfl rfl rfl hc6))) ?_; clear hk; intro a w hk
            refine FW.lfun (y := .lit (.int .i64 v1)) hk rfl rfl rfl rfl (FW.f_move hk (FW.holds_nil _) rfl) ?_; clear hk; intro a w hk
            refine FW.lfun (y := .agg ((ApiWord.cells (⟨1, (List.take (Int.toNat (IntKind.wrap .i64 (v1 + t8)) - Int.toNat v1) (List.drop (Int.toNat v1) v0)), 0, 0, v1⟩ : ApiWord)))) hk rfl rfl rfl rfl (FW.f_build hk (FW.holds_nil _) rfl rfl) ?_; clear hk; intro a w hk
            refine FW.lfun (y := .lit (.int .i64 t8)) hk rfl rfl rfl rfl (FW.f_move hk (FW.holds_nil _) rfl) ?_; clear hk; intro a w hk
            refine FW.l_store (I' := [FW.blk bx1 66 ((ApiWord.cells (⟨1, (List.take (Int.toNat (IntKind.wrap .i64 (v1 + t8)) - Int.toNat v1) (List.drop (Int.toNat v1) v0)), 0, 0, v1⟩ : ApiWord)))]) (cs' := (ApiWord.cells (⟨1, (List.take (Int.toNat (IntKind.wrap .i64 (v1 + t8)) - Int.toNat v1) (List.drop (Int.toNat v1) v0)), 0, 0, v1⟩ : ApiWord))) (j := 0) hk rfl rfl rfl rfl rfl (by kernel_rfl) rfl rfl ?_; clear hk; intro w hk
            refine FW.lfun (y := .lit (.int .i64 t8)) hk rfl rfl rfl rfl (FW.f_assign hk (FW.holds_nil _) rfl) ?_; clear hk; intro a w hk
            refine FW.lend (hK30 _ _ ?_); clear hK30 K'
            refine wp_ret ?_
            (repeat first | refine FW.then_ret ?_ | refine FW.block_ret ?_)
            obtain rfl := Option.some.inj h
            exact FW.fretR2 hk rfl (FW.rcell hk rfl (j := 0) rfl Go.Proofs.Try.underlying66 rfl (by kernel_rfl)) (FW.rtmp hk rfl)
        · skip
          refine FW.wreg ?_; intro K' hK31
          refine FW.lfun (y := .lit (.int .u8 (FW.bt v0 v1))) hk rfl rfl rfl rfl (FW.f_move hk (FW.holds_nil _) rfl) ?_; clear hk; intro a w hk
          obtain ⟨t9, hr_t9, h⟩ := FW.bnd h
          refine FW.lfun (y := .lit (.int .i64 t9)) hk rfl rfl rfl rfl (FW.f_call hk (FW.holds_nil _) rfl rfl Go.Proofs.Try.func91 rfl (by kernel_rfl) (strings_IndexByte.ok ([46, 40, 41, 44, 91, 93] : List UInt8) (FW.bt v0 v1) _ hr_t9)) ?_; clear hk; intro a w hk
          refine FW.lfun (y := .lit (.bool (decide (0 ≤ t9)))) hk rfl rfl rfl rfl ((FW.f_pure (FW.p_geq hk.kn (FW.holds_nil _) rfl rfl))) ?_; clear hk; intro a w hk
          refine FW.lfun (y := .lit (.bool (decide (0 ≤ t9)))) hk rfl rfl rfl rfl (FW.f_assign hk (FW.holds_nil _) rfl) ?_; clear hk; intro a w hk
          refine FW.lend (hK31 _ _ ?_); clear hK31 K'
          refine FW.wcondF (b := (decide (0 ≤ t9))) hk h rfl (fun h hb => ?_) (fun h hb => ?_)
          · skip
            refine FW.wreg ?_; intro K' hK32
            refine FW.lfun (y := .lit (.string (FW.B v0))) hk rfl rfl rfl rfl (FW.f_move hk (FW.holds_nil _) rfl) ?_; clear hk; intro a w hk
            refine FW.lfun (y := .lit (.int .i64 v1)) hk rfl rfl rfl rfl (FW.f_move hk (FW.holds_nil _) rfl) ?_; clear hk; intro a w hk
            refine FW.lfun (y := .lit (.int .i64 v1)) hk rfl rfl rfl rfl (FW.f_move hk (FW.holds_nil _) rfl) ?_; clear hk; intro a w hk
            refine FW.lfun (y := .lit (.int .i64 (IntKind.wrap .i64 (v1 + 1)))) hk rfl rfl rfl rfl ((FW.f_pure (FW.p_add hk.kn (FW.holds_nil _) rfl rfl))) ?_; clear hk; intro a w hk
            obtain ⟨hc7, h⟩ := FW.chk h
            refine FW.lfun (y := .lit (.string (FW.B (List.take (Int.toNat (IntKind.wrap .i64 (v1 + 1)) - Int.toNat v1) (List.drop (Int.toNat v1) v0))))) hk rfl rfl rfl rfl ((FW.f_pure (FW.p_slice Go.Proofs.Try.underlying9 hk.kn (FW.holds_nil _) rfl rfl rfl hc7))) ?_; clear hk; intro a w hk
            refine FW.lfun (y := .lit (.int .i64 v1)) hk rfl rfl rfl rfl (FW.f_move hk (FW.holds_nil _) rfl) ?_; clear hk; intro a w hk
            refine FW.lfun (y := .agg ((ApiWord.cells (⟨5, (List.take (Int.toNat (IntKind.wrap .i64 (v1 + 1)) - Int.toNat v1) (List.drop (Int.toNat v1) v0)), 0, 0, v1⟩ : ApiWord)))) hk rfl rfl rfl rfl (FW.f_build hk (FW.holds_nil _) rfl rfl) ?_; clear hk; intro a w hk
            refine FW.l_store (I' := [FW.blk bx1 66 ((ApiWord.cells (⟨5, (List.take (Int.toNat (IntKind.wrap .i64 (v1 + 1)) - Int.toNat v1) (List.drop (Int.toNat v1) v0)), 0, 0, v1⟩ : ApiWord)))]) (cs' := (ApiWord.cells (⟨5, (List.take (Int.toNat (IntKind.wrap .i64 (v1 + 1)) - Int.toNat v1) (List.drop (Int.toNat v1) v0)), 0, 0, v1⟩ : ApiWord))) (j := 0) hk rfl rfl rfl rfl rfl (by kernel_rfl) rfl rfl ?_; clear hk; intro w hk
            refine FW.lfun (y := .lit (.int .i64 1)) hk rfl rfl rfl rfl (FW.f_assign hk (FW.holds_nil _) rfl) ?_; clear hk; intro a w hk
            refine FW.lend (hK32 _ _ ?_); clear hK32 K'
            refine wp_ret ?_
            (repeat first | refine FW.then_ret ?_ | refine FW.block_ret ?_)
            obtain rfl := Option.some.inj h
            exact FW.fretR2 hk rfl (FW.rcell hk rfl (j := 0) rfl Go.Proofs.Try.underlying66 rfl (by kernel_rfl)) (FW.rtmp hk rfl)
          · skip
            refine wp_skip ?_
            (repeat first | refine FW.then_normal ?_ | refine FW.block_normal ?_); refine hK4 _ _ ?_
            refine FW.wreg ?_; intro K' hK33
            refine FW.lfun (y := .agg ((ApiWord.cells (⟨0, [], 0, 0, 0⟩ : ApiWord)))) hk rfl rfl rfl rfl (FW.f_build hk (FW.holds_nil _) rfl rfl) ?_; clear hk; intro a w hk
            refine FW.l_store (I' := [FW.blk bx1 66 ((ApiWord.cells (⟨0, [], 0, 0, 0⟩ : ApiWord)))]) (cs' := (ApiWord.cells (⟨0, [], 0, 0, 0⟩ : ApiWord))) (j := 0) hk rfl rfl rfl rfl rfl (by kernel_rfl) rfl rfl ?_; clear hk; intro w hk
            refine FW.lfun (y := .lit (.int .i64 0)) hk rfl rfl rfl rfl (FW.f_assign hk (FW.holds_nil _) rfl) ?_; clear hk; intro a w hk
            refine FW.lend (hK33 _ _ ?_); clear hK33 K'
            refine wp_ret ?_
            (repeat first | refine FW.then_ret ?_ | refine FW.block_ret ?_)
            obtain rfl := Option.some.inj h
            exact FW.fretR2 hk rfl (FW.rcell hk rfl (j := 0) rfl Go.Proofs.Try.underlying66 rfl (by kernel_rfl)) (FW.rtmp hk rfl)

theorem lex_Words.ok (K : Nat) (v0 : List UInt8) (r : List ApiWord × Int × Int) (h : lex_Words.f K v0 = some r) :
    FW.Ok Go.Proofs.Try.prog 43 [.lit (.string (FW.B v0))] (.tup [.row (r_ApiWord_cells r.1), .lit (.int .i64 r.2.1), .lit (.int .i64 r.2.2)]) := by
  refine FW.enter (xs := [.lit (.string (FW.B v0))]) Go.Proofs.Try.func43 rfl Go.Proofs.Try.ntmps43 rfl ?_
  intro M w0 a hk
  unfold lex_Words.f at h
  refine FW.wreg ?_; intro K' hK1
  refine FW.lfun (y := .row (r_ApiWord_cells [])) hk rfl rfl rfl rfl (FW.f_assignNil) ?_; clear hk; intro a w hk
  refine FW.lfun (y := .lit (.int .i64 0)) hk rfl rfl rfl rfl (FW.f_assign hk (FW.holds_nil _) rfl) ?_; clear hk; intro a w hk
  refine FW.lfun (y := .lit (.int .i64 0)) hk rfl rfl rfl rfl (FW.f_assign hk (FW.holds_nil _) rfl) ?_; clear hk; intro a w hk
  refine FW.lend (hK1 _ _ ?_); clear hK1 K'
  refine FW.wseq ?_; intro K' hK2
  refine FW.wreg ?_; intro K' hK3
  refine FW.lfun (y := .lit (.string (FW.B v0))) hk rfl rfl rfl rfl (FW.f_move hk (FW.holds_nil _) rfl) ?_; clear hk; intro a w hk
  refine FW.lfun (y := .lit (.int .i64 (List.length v0 : Int))) hk rfl rfl rfl rfl ((FW.f_pure (FW.p_slen Go.Proofs.Try.underlying9 hk.kn (FW.holds_nil _) rfl))) ?_; clear hk; intro a w hk
  refine FW.lfun (y := .lit (.bool (decide (3000 < (List.length v0 : Int))))) hk rfl rfl rfl rfl ((FW.f_pure (FW.p_gtr hk.kn (FW.holds_nil _) rfl rfl))) ?_; clear hk; intro a w hk
  refine FW.lend (hK3 _ _ ?_); clear hK3 K'
  refine FW.wcondF (b := (decide (3000 < (List.length v0 : Int)))) hk h rfl (fun h hb => ?_) (fun h hb => ?_)
  · skip
    refine FW.wreg ?_; intro K' hK4
    refine FW.lfun (y := .row (r_ApiWord_cells [])) hk rfl rfl rfl rfl (FW.f_assignNil) ?_; clear hk; intro a w hk
    refine FW.lfun (y := .lit (.int .i64 3000)) hk rfl rfl rfl rfl (FW.f_assign hk (FW.holds_nil _) rfl) ?_; clear hk; intro a w hk
    refine FW.lfun (y := .lit (.int .i64 3)) hk rfl rfl rfl rfl (FW.f_assign hk (FW.holds_nil _) rfl) ?_; clear hk; intro a w hk
    refine FW.lend (hK4 _ _ ?_); clear hK4 K'
    refine wp_ret ?_
    (repeat first | refine FW.then_ret ?_ | refine FW.block_ret ?_)
    obtain rfl := Option.some.inj h
    exact FW.fret3 hk rfl rfl rfl rfl
  · skip
    refine wp_skip ?_
    (repeat first | refine FW.then_normal ?_ | refine FW.block_normal ?_); refine hK2 _ _ ?_
    refine FW.wreg ?_; intro K' hK5
    refine FW.lfun (y := .lit (.slice none 0 0)) hk rfl rfl rfl rfl (FW.f_assign hk (FW.holds_nil _) rfl) ?_; clear hk; intro a w hk
    replace hk := hk.nilRow 66 5 ApiWord.cells (fun _ => rfl)
    refine FW.lend (hK5 _ _ ?_); clear hK5 K'
    refine FW.wseq ?_; intro K' hK6
    refine FW.wreg ?_; intro K' hK7
    refine FW.lfun (y := .lit (.int .i64 0)) hk rfl rfl rfl rfl (FW.f_assign hk (FW.holds_nil _) rfl) ?_; clear hk; intro a w hk
    refine FW.lend (hK7 _ _ ?_); clear hK7 K'
    refine wp_block ?_
    refine FW.wloop (T := Nat × List ApiWord × List UInt8 × Int × Option Addr × Nat) (fun x a w => match x with | (kl1, l1, v0, v6, xd1, xc1) => FW.S M w0 a w 48 [FW.orow xd1 xc1 66 5 ApiWord.cells l1] [(0, [], .lit (.string (FW.B v0))), (5, [], .lit (.slice xd1 (List.length l1) xc1)), (6, [], .lit (.int .i64 v6))] ∧ lex_Words.l1 K kl1 l1 v0 v6 = some r) (fun x => x.1) (K, ([] : List ApiWord), v0, 0, none, 0) ⟨hk.sub ⟨rfl, rfl, rfl, trivial⟩, h⟩ ?_
    clear hk h
    rintro ⟨kl1, l1, v0, v6, xd1, xc1⟩ a w ⟨hk, h⟩ K' hK8
    cases kl1 with
    | zero => simp [lex_Words.l1] at h
    | succ kl1 =>
    rw [lex_Words.l1.eq_2] at h
    refine FW.wseq ?_; intro K' hK9
    refine FW.wreg ?_; intro K' hK10
    refine FW.lfun (y := .lit (.int .i64 v6)) hk rfl rfl rfl rfl (FW.f_move hk (FW.holds_nil _) rfl) ?_; clear hk; intro a w hk
    refine FW.lfun (y := .lit (.string (FW.B v0))) hk rfl rfl rfl rfl (FW.f_move hk (FW.holds_nil _) rfl) ?_; clear hk; intro a w hk
    refine FW.lfun (y := .lit (.int .i64 (List.length v0 : Int))) hk rfl rfl rfl rfl ((FW.f_pure (FW.p_slen Go.Proofs.Try.underlying9 hk.kn (FW.holds_nil _) rfl))) ?_; clear hk; intro a w hk
    refine FW.lfun (y := .lit (.bool (decide (v6 < (List.length v0 : Int))))) hk rfl rfl rfl rfl ((FW.f_pure (FW.p_lss hk.kn (FW.holds_nil _) rfl rfl))) ?_; clear hk; intro a w hk
    refine FW.lend (hK10 _ _ ?_); clear hK10 K'
    refine FW.wcondF (b := (decide (v6 < (List.length v0 : Int)))) hk h rfl (fun h hb => ?_) (fun h hb => ?_)
    · skip
      refine wp_skip ?_
      (repeat first | refine FW.then_normal ?_ | refine FW.block_normal ?_); refine hK9 _ _ ?_
      refine wp_block ?_
      refine FW.wseq ?_; intro K' hK11
      refine FW.wreg ?_; intro K' hK12
      refine FW.lfun (y := .lit (.string (FW.B v0))) hk rfl rfl rfl rfl (FW.f_move hk (FW.holds_nil _) rfl) ?_; clear hk; intro a w hk
      refine FW.lfun (y := .lit (.int .i64 v6)) hk rfl rfl rfl rfl (FW.f_move hk (FW.holds_nil _) rfl) ?_; clear hk; intro a w hk
      obtain ⟨hc1, h⟩ := FW.chk h
      refine FW.lfun (y := .lit (.int .u8 (FW.bt v0 v6))) hk rfl rfl rfl rfl ((FW.f_pure (FW.p_index Go.Proofs.Try.underlying9 hk.kn (FW.holds_nil _) rfl rfl hc1))) ?_; clear hk; intro a w hk
      refine FW.lfun (y := .lit (.bool (decide ((FW.bt v0 v6) = 32)))) hk rfl rfl rfl rfl ((FW.f_pure (FW.p_eql hk.kn (FW.holds_nil _) rfl rfl))) ?_; clear hk; intro a w hk
      refine FW.lend (hK12 _ _ ?_); clear hK12 K'
      refine FW.wcondF (b := (decide ((FW.bt v0 v6) = 32))) hk h rfl (fun h hb => ?_) (fun h hb => ?_)
      · skip
        refine FW.wreg ?_; intro K' hK13
        refine FW.lfun (y := .lit (.int .i64 v6)) hk rfl rfl rfl rfl (FW.f_move hk (FW.holds_nil _) rfl) ?_; clear hk; intro a w hk
        refine FW.lfun (y := .lit (.int .i64 (IntKind.wrap .i64 (v6 + 1)))) hk rfl rfl rfl rfl ((FW.f_pure (FW.p_add hk.kn (FW.holds_nil _) rfl rfl))) ?_; clear hk; intro a w hk
        refine FW.lfun (y := .lit (.int .i64 (IntKind.wrap .i64 (v6 + 1)))) hk rfl rfl rfl rfl (FW.f_assign hk (FW.holds_nil _) rfl) ?_; clear hk; intro a w hk
        refine FW.lend (hK13 _ _ ?_); clear hK13 K'
        refine wp_exit ?_; (repeat first | refine FW.then_exit ?_ | refine FW.block_exit_ne rfl ?_); refine FW.block_exit ?_
        (repeat first | refine FW.then_normal ?_ | refine FW.block_normal ?_); exact hK8 (kl1, l1, v0, (IntKind.wrap .i64 (v6 + 1)), xd1, xc1) _ _ (Nat.lt_succ_self _) ⟨hk.sub ⟨rfl, rfl, rfl, trivial⟩, h⟩
      · skip
        refine wp_skip ?_
        (repeat first | refine FW.then_normal ?_ | refine FW.block_normal ?_); refine hK11 _ _ ?_
        refine FW.wreg ?_; intro K' hK14
        refine FW.lfun (y := .lit (.string (FW.B v0))) hk rfl rfl rfl rfl (FW.f_move hk (FW.holds_nil _) rfl) ?_; clear hk; intro a w hk
        refine FW.lfun (y := .lit (.int .i64 v6)) hk rfl rfl rfl rfl (FW.f_move hk (FW.holds_nil _) rfl) ?_; clear hk; intro a w hk
        obtain ⟨t1, hr_t1, h⟩ := FW.bnd h
        refine FW.lfun (y := .tup [.agg ((ApiWord.cells t1.1)), .lit (.int .i64 t1.2)]) hk rfl rfl rfl rfl (FW.f_call hk (FW.holds_nil _) rfl rfl Go.Proofs.Try.func62 rfl (by kernel_rfl) (lex_word.ok K v0 v6 _ hr_t1)) ?_; clear hk; intro a w hk
        refine FW.lfun (y := .tup [.agg ((ApiWord.cells t1.1)), .lit (.int .i64 t1.2)]) hk rfl rfl rfl rfl (FW.f_move hk (FW.holds_nil _) rfl) ?_; clear hk; intro a w hk
        refine FW.lfun (y := .agg ((ApiWord.cells t1.1))) hk rfl rfl rfl rfl (FW.f_extract hk (FW.holds_nil _) rfl rfl) ?_; clear hk; intro a w hk
        refine FW.lfun (y := .lit (.int .i64 t1.2)) hk rfl rfl rfl rfl (FW.f_extract hk (FW.holds_nil _) rfl rfl) ?_; clear hk; intro a w hk
        refine FW.l_alloc (zs := (ApiWord.cells (⟨0, [], 0, 0, 0⟩ : ApiWord))) [] hk rfl rfl rfl rfl ?_; clear hk; intro bx1 a w hk
        refine FW.l_store (I' := [FW.blk bx1 66 ((ApiWord.cells t1.1)), FW.orow xd1 xc1 66 5 ApiWord.cells l1]) (cs' := (ApiWord.cells t1.1)) (j := 0) hk rfl rfl rfl rfl rfl (by kernel_rfl) rfl rfl ?_; clear hk; intro w hk
        refine FW.lfun (y := .lit (.int .i64 t1.2)) hk rfl rfl rfl rfl (FW.f_assign hk (FW.holds_nil _) rfl) ?_; clear hk; intro a w hk
        refine FW.lend (hK14 _ _ ?_); clear hK14 K'
        refine FW.wseq ?_; intro K' hK15
        refine FW.wreg ?_; intro K' hK16
        refine FW.lfun (y := .lit (.int .i64 t1.2)) hk rfl rfl rfl rfl (FW.f_move hk (FW.holds_nil _) rfl) ?_; clear hk; intro a w hk
        refine FW.lfun (y := .lit (.bool (decide (t1.2 = 0)))) hk rfl rfl rfl rfl ((FW.f_pure (FW.p_eql hk.kn (FW.holds_nil _) rfl rfl))) ?_; clear hk; intro a w hk
        refine FW.lend (hK16 _ _ ?_); clear hK16 K'
        refine FW.wcondF (b := (decide (t1.2 = 0))) hk h rfl (fun h hb => ?_) (fun h hb => ?_)
        · skip
          refine FW.wreg ?_; intro K' hK17
          refine FW.lfun (y := .lit (.int .i64 v6)) hk rfl rfl rfl rfl (FW.f_move hk (FW.holds_nil _) rfl) ?_; clear hk; intro a w hk
          refine FW.lfun (y := .row (r_ApiWord_cells [])) hk rfl rfl rfl rfl (FW.f_assignNil) ?_; clear hk; intro a w hk
          refine FW.lfun (y := .lit (.int .i64 v6)) hk rfl rfl rfl rfl (FW.f_assign hk (FW.holds_nil _) rfl) ?_; clear hk; intro a w hk
          refine FW.lfun (y := .lit (.int .i64 110)) hk rfl rfl rfl rfl (FW.f_assign hk (FW.holds_nil _) rfl) ?_; clear hk; intro a w hk
          refine FW.lend (hK17 _ _ ?_); clear hK17 K'
          refine wp_ret ?_
          (repeat first | refine FW.then_ret ?_ | refine FW.block_ret ?_)
          obtain rfl := Option.some.inj h
          exact FW.fret3 hk rfl rfl rfl rfl
        · skip
          refine wp_skip ?_
          (repeat first | refine FW.then_normal ?_ | refine FW.block_normal ?_); refine hK15 _ _ ?_
          refine FW.wseq ?_; intro K' hK18
          refine FW.wreg ?_; intro K' hK19
          refine FW.lfun (y := .lit (.slice xd1 (List.length l1) xc1)) hk rfl rfl rfl rfl (FW.f_move hk (FW.holds_nil _) rfl) ?_; clear hk; intro a w hk
          refine FW.lfun (y := .lit (.int .i64 (List.length l1 : Int))) hk rfl rfl rfl rfl ((FW.f_pure (FW.p_len Go.Proofs.Try.underlying60 hk.kn (FW.holds_nil _) rfl))) ?_; clear hk; intro a w hk
          refine FW.lfun (y := .lit (.bool (decide (1500 ≤ (List.length l1 : Int))))) hk rfl rfl rfl rfl ((FW.f_pure (FW.p_geq hk.kn (FW.holds_nil _) rfl rfl))) ?_; clear hk; intro a w hk
          refine FW.lend (hK19 _ _ ?_); clear hK19 K'
          refine FW.wcondF (b := (decide (1500 ≤ (List.length l1 : Int)))) hk h rfl (fun h hb => ?_) (fun h hb => ?_)
          · skip
            refine FW.wreg ?_; intro K' hK20
            refine FW.lfun (y := .lit (.int .i64 v6)) hk rfl rfl rfl rfl (FW.f_move hk (FW.holds_nil _) rfl) ?_; clear hk; intro a w hk
            refine FW.lfun (y := .row (r_ApiWord_cells [])) hk rfl rfl rfl rfl (FW.f_assignNil) ?_; clear hk; intro a w hk
            refine FW.lfun (y := .lit (.int .i64 v6)) hk rfl rfl rfl rfl (FW.f_assign hk (FW.holds_nil _) rfl) ?_; clear hk; intro a w hk
            refine FW.lfun (y := .lit (.int .i64 3)) hk rfl rfl rfl rfl (FW.f_assign hk (FW.holds_nil _) rfl) ?_; clear hk; intro a w hk
            refine FW.lend (hK20 _ _ ?_); clear hK20 K'
            refine wp_ret ?_
            (repeat first | refine FW.then_ret ?_ | refine FW.block_ret ?_)
            obtain rfl := Option.some.inj h
            exact FW.fret3 hk rfl rfl rfl rfl
          · skip
            refine wp_skip ?_
            (repeat first | refine FW.then_normal ?_ | refine FW.block_normal ?_); refine hK18 _ _ ?_
            refine FW.wreg ?_; intro K' hK21
            refine FW.lfun (y := .lit (.slice xd1 (List.length l1) xc1)) hk rfl rfl rfl rfl (FW.f_move hk (FW.holds_nil _) rfl) ?_; clear hk; intro a w hk
            refine FW.lfun (y := .agg ((ApiWord.cells t1.1))) hk rfl rfl rfl rfl (FW.f_loadBlk hk (FW.holds_nil _) (j := 0) rfl rfl Go.Proofs.Try.underlying66 rfl rfl rfl rfl) ?_; clear hk; intro a w hk
            refine FW.l_buildSlice (f := ApiWord.cells) (l := ([t1.1] : List ApiWord)) hk rfl rfl rfl Go.Proofs.Try.underlying60 rfl rfl rfl rfl (fun _ => rfl) rfl ?_; clear hk; intro bx2 a w hk
            obtain ⟨hc2, h⟩ := FW.chk h
            refine FW.l_append (l2 := ([t1.1] : List ApiWord)) (l3 := (l1 ++ ([t1.1] : List ApiWord))) (I' := fun ad1 cap1 => [FW.orow (some ⟨bx2, 0, none⟩) 1 66 5 ApiWord.cells ([t1.1] : List ApiWord), FW.blk bx1 66 ((ApiWord.cells t1.1)), FW.orow ad1 cap1 66 5 ApiWord.cells (l1 ++ ([t1.1] : List ApiWord))]) (j := 2) hk rfl rfl rfl rfl (FW.own_src hk (j := 0) rfl rfl (fun _ => rfl) Go.Proofs.Try.underlying60) Go.Proofs.Try.underlying60 (by kernel_rfl) hc2 rfl (fun _ _ => rfl) ?_; clear hk; intro ad1 cap1 a w hk
            replace hk := FW.S.dropI (I' := [FW.blk bx1 66 ((ApiWord.cells t1.1)), FW.orow ad1 cap1 66 5 ApiWord.cells (l1 ++ ([t1.1] : List ApiWord))]) hk 0 rfl
            refine FW.lfun (y := .lit (.slice ad1 (List.length (l1 ++ ([t1.1] : List ApiWord))) cap1)) hk rfl rfl rfl rfl (FW.f_assign hk (FW.holds_nil _) rfl) ?_; clear hk; intro a w hk
            refine FW.lend (hK21 _ _ ?_); clear hK21 K'
            refine FW.wreg1 ?_
            refine FW.lfun (y := .lit (.int .i64 v6)) hk rfl rfl rfl rfl (FW.f_move hk (FW.holds_nil _) rfl) ?_; clear hk; intro a w hk
            refine FW.lfun (y := .lit (.int .i64 t1.2)) hk rfl rfl rfl rfl (FW.f_move hk (FW.holds_nil _) rfl) ?_; clear hk; intro a w hk
            refine FW.lfun (y := .lit (.int .i64 (IntKind.wrap .i64 (v6 + t1.2)))) hk rfl rfl rfl rfl ((FW.f_pure (FW.p_add hk.kn (FW.holds_nil _) rfl rfl))) ?_; clear hk; intro a w hk
            refine FW.lfun (y := .lit (.int .i64 (IntKind.wrap .i64 (v6 + t1.2)))) hk rfl rfl rfl rfl (FW.f_assign hk (FW.holds_nil _) rfl) ?_; clear hk; intro a w hk
            refine wpList_nil ?_
            (repeat first | refine FW.then_normal ?_ | refine FW.block_normal ?_); exact hK8 (kl1, (l1 ++ ([t1.1] : List ApiWord)), v0, (IntKind.wrap .i64 (v6 + t1.2)), ad1, cap1) _ _ (Nat.lt_succ_self _) ⟨(hk.drop 0).sub ⟨rfl, rfl, rfl, trivial⟩, h⟩
    · skip
      refine wp_exit ?_; (repeat first | refine FW.then_exit ?_ | refine FW.block_exit_ne rfl ?_); refine FW.block_exit ?_
      (repeat first | refine FW.then_normal ?_ | refine FW.block_normal ?_); refine hK6 _ _ ?_
      refine FW.wreg ?_; intro K' hK23
      refine FW.lfun (y := .lit (.slice xd1 (List.length l1) xc1)) hk rfl rfl rfl rfl (FW.f_move hk (FW.holds_nil _) rfl) ?_; clear hk; intro a w hk
      refine FW.lfun (y := .lit (.string (FW.B v0))) hk rfl rfl rfl rfl (FW.f_move hk (FW.holds_nil _) rfl) ?_; clear hk; intro a w hk
      refine FW.lfun (y := .lit (.int .i64 (List.length v0 : Int))) hk rfl rfl rfl rfl ((FW.f_pure (FW.p_slen Go.Proofs.Try.underlying9 hk.kn (FW.holds_nil _) rfl))) ?_; clear hk; intro a w hk
      refine FW.lfun (y := .agg ((ApiWord.cells (⟨0, [], 0, 0, (List.length v0 : Int)⟩ : ApiWord)))) hk rfl rfl rfl rfl (FW.f_build hk (FW.holds_nil _) rfl rfl) ?_; clear hk; intro a w hk
      refine FW.l_buildSlice (f := ApiWord.cells) (l := ([(⟨0, [], 0, 0, (List.length v0 : Int)⟩ : ApiWord)] : List ApiWord)) hk rfl rfl rfl Go.Proofs.Try.underlying60 rfl rfl rfl rfl (fun _ => rfl) rfl ?_; clear hk; intro bx3 a w hk
      obtain ⟨hc3, h⟩ := FW.chk h
      refine FW.l_append (l2 := ([(⟨0, [], 0, 0, (List.length v0 : Int)⟩ : ApiWord)] : List ApiWord)) (l3 := (l1 ++ ([(⟨0, [], 0, 0, (List.length v0 : Int)⟩ : ApiWord)] : List ApiWord))) (I' := fun ad2 cap2 => [FW.orow (some ⟨bx3, 0, none⟩) 1 66 5 ApiWord.cells ([(⟨0, [], 0, 0, (List.length v0 : Int)⟩ : ApiWord)] : List ApiWord), FW.orow ad2 cap2 66 5 ApiWord.cells (l1 ++ ([(⟨0, [], 0, 0, (List.length v0 : Int)⟩ : ApiWord)] : List ApiWord))]) (j := 1) hk rfl rfl rfl rfl (FW.own_src hk (j := 0) rfl rfl (fun _ => rfl) Go.Proofs.Try.underlying60) Go.Proofs.Try.underlying60 (by kernel_rfl) hc3 rfl (fun _ _ => rfl) ?_; clear hk; intro ad2 cap2 a w hk
      replace hk := FW.S.dropI (I' := [FW.orow ad2 cap2 66 5 ApiWord.cells (l1 ++ ([(⟨0, [], 0, 0, (List.length v0 : Int)⟩ : ApiWord)] : List ApiWord))]) hk 0 rfl
      refine FW.lfun (y := .lit (.slice ad2 (List.length (l1 ++ ([(⟨0, [], 0, 0, (List.length v0 : Int)⟩ : ApiWord)] : List ApiWord))) cap2)) hk rfl rfl rfl rfl (FW.f_assign hk (FW.holds_nil _) rfl) ?_; clear hk; intro a w hk
      refine FW.lfun (y := .lit (.int .i64 0)) hk rfl rfl rfl rfl (FW.f_assign hk (FW.holds_nil _) rfl) ?_; clear hk; intro a w hk
      refine FW.lfun (y := .lit (.int .i64 0)) hk rfl rfl rfl rfl (FW.f_assign hk (FW.holds_nil _) rfl) ?_; clear hk; intro a w hk
      refine FW.lend (hK23 _ _ ?_); clear hK23 K'
      refine wp_ret ?_
      (repeat first | refine FW.then_ret ?_ | refine FW.block_ret ?_)
      replace hk := FW.S.freezeR (I' := []) r_ApiWord_cells_eq hk (j := 0) rfl (t := 2) rfl rfl
      obtain rfl := Option.some.inj h
      exact FW.fret3 hk rfl rfl rfl rfl

theorem slices_Clip_api_Word_api_Word.ok  (v0 : List ApiWord) (r : List ApiWord) (h : slices_Clip_api_Word_api_Word.f v0 = some r) :
    FW.Ok Go.Proofs.Try.prog 44 [.row (r_ApiWord_cells v0)] (.row (r_ApiWord_cells r)) := by
  refine FW.enter (xs := [.row (r_ApiWord_cells v0)]) Go.Proofs.Try.func44 rfl Go.Proofs.Try.ntmps44 rfl ?_
  intro M w0 a hk
  unfold slices_Clip_api_Word_api_Word.f at h
  refine FW.wreg ?_; intro K' hK1
  refine FW.lfun (y := .row (r_ApiWord_cells [])) hk rfl rfl rfl rfl (FW.f_assignNil) ?_; clear hk; intro a w hk
  refine FW.lend (hK1 _ _ ?_); clear hK1 K'
  refine FW.wreg ?_; intro K' hK2
  refine FW.lfun (y := .row (r_ApiWord_cells v0)) hk rfl rfl rfl rfl (FW.f_move hk (FW.holds_nil _) rfl) ?_; clear hk; intro a w hk
  refine FW.lfun (y := .row (r_ApiWord_cells v0)) hk rfl rfl rfl rfl (FW.f_move hk (FW.holds_nil _) rfl) ?_; clear hk; intro a w hk
  refine FW.lfun (y := .lit (.int .i64 (List.length v0 : Int))) hk rfl rfl rfl rfl (FW.f_len (R := r_ApiWord_cells) (f := ApiWord.cells) (l := v0) r_ApiWord_cells_eq Go.Proofs.Try.underlying60 hk (FW.holds_nil _) rfl) ?_; clear hk; intro a w hk
  refine FW.lfun (y := .row (r_ApiWord_cells v0)) hk rfl rfl rfl rfl (FW.f_move hk (FW.holds_nil _) rfl) ?_; clear hk; intro a w hk
  refine FW.lfun (y := .lit (.int .i64 (List.length v0 : Int))) hk rfl rfl rfl rfl (FW.f_len (R := r_ApiWord_cells) (f := ApiWord.cells) (l := v0) r_ApiWord_cells_eq Go.Proofs.Try.underlying60 hk (FW.holds_nil _) rfl) ?_; clear hk; intro a w hk
  refine FW.lfun (y := .row (r_ApiWord_cells v0)) hk rfl rfl rfl rfl (FW.f_clip (R := r_ApiWord_cells) (f := ApiWord.cells) (l := v0) (sz := 5) r_ApiWord_cells_eq (fun _ => rfl) hk (FW.holds_nil _) rfl Go.Proofs.Try.underlying60 (by kernel_rfl) rfl rfl) ?_; clear hk; intro a w hk
  refine FW.lfun (y := .row (r_ApiWord_cells v0)) hk rfl rfl rfl rfl (FW.f_assign hk (FW.holds_nil _) rfl) ?_; clear hk; intro a w hk
  refine FW.lend (hK2 _ _ ?_); clear hK2 K'
  refine wp_ret ?_
  (repeat first | refine FW.then_ret ?_ | refine FW.block_ret ?_)
  obtain rfl := Option.some.inj h
  exact FW.fret1 hk rfl rfl

theorem parse_Parse.ok (K : Nat) (v0 : List UInt8) (r : List ApiStep × Int × Int) (h : parse_Parse.f K v0 = some r) :
    FW.Ok Go.Proofs.Try.prog 18 [.lit (.string (FW.B v0))] (.tup [.row (r_ApiStep_cells r.1), .lit (.int .i64 r.2.1), .lit (.int .i64 r.2.2)]) := by
  refine FW.enter (xs := [.lit (.string (FW.B v0))]) Go.Proofs.Try.func18 rfl Go.Proofs.Try.ntmps18 rfl ?_
  intro M w0 a hk
  unfold parse_Parse.f at h
  refine FW.wreg ?_; intro K' hK1
  refine FW.lfun (y := .row (r_ApiStep_cells [])) hk rfl rfl rfl rfl (FW.f_assignNil) ?_; clear hk; intro a w hk
  refine FW.lfun (y := .lit (.int .i64 0)) hk rfl rfl rfl rfl (FW.f_assign hk (FW.holds_nil _) rfl) ?_; clear hk; intro a w hk
  refine FW.lfun (y := .lit (.int .i64 0)) hk rfl rfl rfl rfl (FW.f_assign hk (FW.holds_nil _) rfl) ?_; clear hk; intro a w hk
  refine FW.lend (hK1 _ _ ?_); clear hK1 K'
  refine FW.wreg ?_; intro K' hK2
  refine FW.lfun (y := .lit (.string (FW.B v0))) hk rfl rfl rfl rfl (FW.f_move hk (FW.holds_nil _) rfl) ?_; clear hk; intro a w hk
  obtain ⟨t1, hr_t1, h⟩ := FW.bnd h
  refine FW.lfun (y := .tup [.row (r_ApiWord_cells t1.1), .lit (.int .i64 t1.2.1), .lit (.int .i64 t1.2.2)]) hk rfl rfl rfl rfl (FW.f_call hk (FW.holds_nil _) rfl rfl Go.Proofs.Try.func43 rfl (by kernel_rfl) (lex_Words.ok K v0 _ hr_t1)) ?_; clear hk; intro a w hk
  refine FW.lfun (y := .tup [.row (r_ApiWord_cells t1.1), .lit (.int .i64 t1.2.1), .lit (.int .i64 t1.2.2)]) hk rfl rfl rfl rfl (FW.f_move hk (FW.holds_nil _) rfl) ?_; clear hk; intro a w hk
  refine FW.lfun (y := .row (r_ApiWord_cells t1.1)) hk rfl rfl rfl rfl (FW.f_extract hk (FW.holds_nil _) rfl rfl) ?_; clear hk; intro a w hk
  refine FW.lfun (y := .lit (.int .i64 t1.2.1)) hk rfl rfl rfl rfl (FW.f_extract hk (FW.holds_nil _) rfl rfl) ?_; clear hk; intro a w hk
  refine FW.lfun (y := .lit (.int .i64 t1.2.2)) hk rfl rfl rfl rfl (FW.f_extract hk (FW.holds_nil _) rfl rfl) ?_; clear hk; intro a w hk
  refine FW.lfun (y := .row (r_ApiWord_cells t1.1)) hk rfl rfl rfl rfl (FW.f_assign hk (FW.holds_nil _) rfl) ?_; clear hk; intro a w hk
  refine FW.lfun (y := .lit (.int .i64 t1.2.1)) hk rfl rfl rfl rfl (FW.f_assign hk (FW.holds_nil _) rfl) ?_; clear hk; intro a w hk
  refine FW.lfun (y := .lit (.int .i64 t1.2.2)) hk rfl rfl rfl rfl (FW.f_assign hk (FW.holds_nil _) rfl) ?_; clear hk; intro a w hk
  refine FW.lend (hK2 _ _ ?_); clear hK2 K'
  refine FW.wseq ?_; intro K' hK3
  refine FW.wreg ?_; intro K' hK4
  refine FW.lfun (y := .lit (.int .i64 t1.2.2)) hk rfl rfl rfl rfl (FW.f_move hk (FW.holds_nil _) rfl) ?_; clear hk; intro a w hk
  refine FW.lfun (y := .lit (.bool (!decide (t1.2.2 = 0)))) hk rfl rfl rfl rfl ((FW.f_pure (FW.p_neq hk.kn (FW.holds_nil _) rfl rfl))) ?_; clear hk; intro a w hk
  refine FW.lend (hK4 _ _ ?_); clear hK4 K'
  refine FW.wcondF (b := (!decide (t1.2.2 = 0))) hk h rfl (fun h hb => ?_) (fun h hb => ?_)
  · skip
    refine FW.wreg ?_; intro K' hK5
    refine FW.lfun (y := .lit (.int .i64 t1.2.1)) hk rfl rfl rfl rfl (FW.f_move hk (FW.holds_nil _) rfl) ?_; clear hk; intro a w hk
    refine FW.lfun (y := .lit (.int .i64 t1.2.2)) hk rfl rfl rfl rfl (FW.f_move hk (FW.holds_nil _) rfl) ?_; clear hk; intro a w hk
    refine FW.lfun (y := .row (r_ApiStep_cells [])) hk rfl rfl rfl rfl (FW.f_assignNil) ?_; clear hk; intro a w hk
    refine FW.lfun (y := .lit (.int .i64 t1.2.1)) hk rfl rfl rfl rfl (FW.f_assign hk (FW.holds_nil _) rfl) ?_; clear hk; intro a w hk
    refine FW.lfun (y := .lit (.int .i64 t1.2.2)) hk rfl rfl rfl rfl (FW.f_assign hk (FW.holds_nil _) rfl) ?_; clear hk; intro a w hk
    refine FW.lend (hK5 _ _ ?_); clear hK5 K'
    refine wp_ret ?_
    (repeat first | refine FW.then_ret ?_ | refine FW.block_ret ?_)
    obtain rfl := Option.some.inj h
    exact FW.fret3 hk rfl rfl rfl rfl
  · skip
    refine wp_skip ?_
    (repeat first | refine FW.then_normal ?_ | refine FW.block_normal ?_); refine hK3 _ _ ?_
    refine FW.wreg ?_; intro K' hK6
    refine FW.lfun (y := .row (r_ApiWord_cells t1.1)) hk rfl rfl rfl rfl (FW.f_move hk (FW.holds_nil _) rfl) ?_; clear hk; intro a w hk
    obtain ⟨t2, hr_t2, h⟩ := FW.bnd h
    refine FW.lfun (y := .row (r_ApiWord_cells t2)) hk rfl rfl rfl rfl (FW.f_call hk (FW.holds_nil _) rfl rfl Go.Proofs.Try.func44 rfl (by kernel_rfl) (slices_Clip_api_Word_api_Word.ok t1.1 _ hr_t2)) ?_; clear hk; intro a w hk
    refine FW.lfun (y := .agg ([.row (r_ApiWord_cells t2), .lit (.int .i64 0), .lit (.int .i64 0), .lit (.int .i64 0)])) hk rfl rfl rfl rfl (FW.f_buildN [] hk (FW.holds_nil _) rfl rfl rfl) ?_; clear hk; intro a w hk
    refine FW.l_box (cs := [.row (r_ApiWord_cells t2), .lit (.int .i64 0), .lit (.int .i64 0), .lit (.int .i64 0)]) hk rfl rfl rfl rfl rfl ?_; clear hk; intro bx1 a w hk
    refine FW.lfun (y := .lit (.pointer (some ⟨bx1, 0, none⟩))) hk rfl rfl rfl rfl (FW.f_assign hk (FW.holds_nil _) rfl) ?_; clear hk; intro a w hk
    refine FW.lend (hK6 _ _ ?_); clear hK6 K'
    refine FW.wreg ?_; intro K' hK7
    refine FW.lfun (y := .lit (.pointer (some ⟨bx1, 0, none⟩))) hk rfl rfl rfl rfl (FW.f_move hk (FW.holds_nil _) rfl) ?_; clear hk; intro a w hk
    obtain ⟨t3, hr_t3, h⟩ := FW.bnd h
    refine FW.l_callH (I1 := (OParseParser.items bx1 (⟨t2, 0, 0, 0⟩ : OParseParser))) (I2 := []) (js := [0]) hk rfl rfl rfl rfl rfl Go.Proofs.Try.func45 rfl (by kernel_rfl) (parse_parser_all.ok K (⟨t2, 0, 0, 0⟩ : OParseParser) _ hr_t3 bx1) ?_; clear hk
    rintro _ _ ⟨vo1, rfl, rfl⟩ a w hk
    refine FW.lfun (y := .row (r_ApiStep_cells ((FW.caught t3).1))) hk rfl rfl rfl rfl (FW.f_extract hk (FW.holds_nil _) rfl rfl) ?_; clear hk; intro a w hk
    refine FW.lfun (y := .lit (.int .i64 ((FW.caught t3).2.1))) hk rfl rfl rfl rfl (FW.f_extract hk (FW.holds_nil _) rfl rfl) ?_; clear hk; intro a w hk
    refine FW.lfun (y := .lit (.int .i64 ((FW.caught t3).2.2))) hk rfl rfl rfl rfl (FW.f_extract hk (FW.holds_nil _) rfl rfl) ?_; clear hk; intro a w hk
    refine FW.lfun (y := .row (r_ApiStep_cells ((FW.caught t3).1))) hk rfl rfl rfl rfl (FW.f_assign hk (FW.holds_nil _) rfl) ?_; clear hk; intro a w hk
    refine FW.lfun (y := .lit (.int .i64 ((FW.caught t3).2.1))) hk rfl rfl rfl rfl (FW.f_assign hk (FW.holds_nil _) rfl) ?_; clear hk; intro a w hk
    refine FW.lfun (y := .lit (.int .i64 ((FW.caught t3).2.2))) hk rfl rfl rfl rfl (FW.f_assign hk (FW.holds_nil _) rfl) ?_; clear hk; intro a w hk
    refine FW.lend (hK7 _ _ ?_); clear hK7 K'
    refine wp_ret ?_
    (repeat first | refine FW.then_ret ?_ | refine FW.block_ret ?_)
    obtain rfl := Option.some.inj h
    exact FW.fret3 hk rfl rfl rfl rfl

theorem offshootlaw12_awake.ok (K : Nat)  (r : Bool) (h : offshootlaw12_awake.f K = some r) :
    FW.Ok Go.Proofs.Try.prog 19 [] (.lit (.bool r)) := by
  refine FW.enter (xs := []) Go.Proofs.Try.func19 rfl Go.Proofs.Try.ntmps19 rfl ?_
  intro M w0 a hk
  unfold offshootlaw12_awake.f at h
  refine FW.wreg ?_; intro K' hK1
  refine FW.lfun (y := .lit (.bool false)) hk rfl rfl rfl rfl (FW.f_assign hk (FW.holds_nil _) rfl) ?_; clear hk; intro a w hk
  refine FW.lend (hK1 _ _ ?_); clear hK1 K'
  refine FW.wreg ?_; intro K' hK2
  obtain ⟨t1, hr_t1, h⟩ := FW.bnd h
  refine FW.lfun (y := .tup [.row (r_ApiStep_cells t1.1), .lit (.int .i64 t1.2.1), .lit (.int .i64 t1.2.2)]) hk rfl rfl rfl rfl (FW.f_call hk (FW.holds_nil _) rfl rfl Go.Proofs.Try.func18 rfl (by kernel_rfl) (parse_Parse.ok K ([103, 46, 86, 40, 41, 46, 104, 97, 115, 40, 39, 97, 39, 44, 32, 103, 116, 40, 49, 41, 46, 97, 110, 100, 40, 108, 116, 40, 53, 41, 41, 41] : List UInt8) _ hr_t1)) ?_; clear hk; intro a w hk
  refine FW.lfun (y := .tup [.row (r_ApiStep_cells t1.1), .lit (.int .i64 t1.2.1), .lit (.int .i64 t1.2.2)]) hk rfl rfl rfl rfl (FW.f_move hk (FW.holds_nil _) rfl) ?_; clear hk; intro a w hk
  refine FW.lfun (y := .row (r_ApiStep_cells t1.1)) hk rfl rfl rfl rfl (FW.f_extract hk (FW.holds_nil _) rfl rfl) ?_; clear hk; intro a w hk
  refine FW.lfun (y := .lit (.int .i64 t1.2.1)) hk rfl rfl rfl rfl (FW.f_extract hk (FW.holds_nil _) rfl rfl) ?_; clear hk; intro a w hk
  refine FW.lfun (y := .lit (.int .i64 t1.2.2)) hk rfl rfl rfl rfl (FW.f_extract hk (FW.holds_nil _) rfl rfl) ?_; clear hk; intro a w hk
  refine FW.lfun (y := .row (r_ApiStep_cells t1.1)) hk rfl rfl rfl rfl (FW.f_assign hk (FW.holds_nil _) rfl) ?_; clear hk; intro a w hk
  refine FW.lfun (y := .lit (.int .i64 t1.2.1)) hk rfl rfl rfl rfl (FW.f_assign hk (FW.holds_nil _) rfl) ?_; clear hk; intro a w hk
  refine FW.lfun (y := .lit (.int .i64 t1.2.2)) hk rfl rfl rfl rfl (FW.f_assign hk (FW.holds_nil _) rfl) ?_; clear hk; intro a w hk
  refine FW.lend (hK2 _ _ ?_); clear hK2 K'
  refine FW.wreg ?_; intro K' hK3
  refine FW.lfun (y := .lit (.int .i64 t1.2.2)) hk rfl rfl rfl rfl (FW.f_move hk (FW.holds_nil _) rfl) ?_; clear hk; intro a w hk
  refine FW.lfun (y := .lit (.bool (decide (t1.2.2 = 0)))) hk rfl rfl rfl rfl ((FW.f_pure (FW.p_eql hk.kn (FW.holds_nil _) rfl rfl))) ?_; clear hk; intro a w hk
  refine FW.lfun (y := .lit (.bool (decide (t1.2.2 = 0)))) hk rfl rfl rfl rfl (FW.f_move hk (FW.holds_nil _) rfl) ?_; clear hk; intro a w hk
  refine FW.lfunG (y := .row (r_ApiStep_cells t1.1)) hk rfl rfl rfl rfl rfl rfl rfl rfl (fun hc => FW.f_move hk hc rfl) ?_; clear hk; intro a w hk
  refine FW.lfunG (y := .lit (.int .i64 (List.length t1.1 : Int))) hk rfl rfl rfl rfl rfl rfl rfl rfl (fun hc => FW.f_len (R := r_ApiStep_cells) (f := ApiStep.cells) (l := t1.1) r_ApiStep_cells_eq Go.Proofs.Try.underlying22 hk hc rfl) ?_; clear hk; intro a w hk
  refine FW.lfunG (y := .lit (.bool (decide ((List.length t1.1 : Int) = 2)))) hk rfl rfl rfl rfl rfl rfl rfl rfl (fun hc => (FW.f_pure (FW.p_eql hk.kn hc rfl rfl))) ?_; clear hk; intro a w hk
  refine FW.lfun (y := .lit (.bool ((decide (t1.2.2 = 0)) && (decide ((List.length t1.1 : Int) = 2))))) hk rfl rfl rfl rfl ((FW.f_pure (FW.p_pick_and hk.kn (FW.holds_nil _) rfl rfl))) ?_; clear hk; intro a w hk
  refine FW.lfun (y := .lit (.bool ((decide (t1.2.2 = 0)) && (decide ((List.length t1.1 : Int) = 2))))) hk rfl rfl rfl rfl (FW.f_move hk (FW.holds_nil _) rfl) ?_; clear hk; intro a w hk
  refine FW.lfunG (y := .row (r_ApiStep_cells t1.1)) hk rfl rfl rfl rfl rfl rfl rfl rfl (fun hc => FW.f_move hk hc rfl) ?_; clear hk; intro a w hk
  obtain ⟨hc1, h⟩ := FW.chk h
  refine FW.lfunG (y := .ref (ApiStep.cells (List.getD t1.1 (Int.toNat 1) default))) hk rfl rfl rfl rfl rfl rfl rfl rfl (fun hc => FW.f_indexAddr (R := r_ApiStep_cells) (f := ApiStep.cells) (l := t1.1) (sz := 2) r_ApiStep_cells_eq (fun _ => rfl) hk hc rfl rfl Go.Proofs.Try.underlying22 (by kernel_rfl) hc1) ?_; clear hk; intro a w hk
  refine FW.lfunG (y := .ref (List.drop 0 (ApiStep.cells (List.getD t1.1 (Int.toNat 1) default)))) hk rfl rfl rfl rfl rfl rfl rfl rfl (fun hc => FW.f_fieldAddr hk hc rfl Go.Proofs.Try.underlying29 rfl (by kernel_rfl) rfl) ?_; clear hk; intro a w hk
  refine FW.lfunG (y := .lit (.string (FW.B ((List.getD t1.1 (Int.toNat 1) default).Name)))) hk rfl rfl rfl rfl rfl rfl rfl rfl (fun hc => FW.f_load1 hk hc rfl rfl Go.Proofs.Try.underlying9 rfl) ?_; clear hk; intro a w hk
  refine FW.lfunG (y := .lit (.bool (decide (((List.getD t1.1 (Int.toNat 1) default).Name) = ([104, 97, 115] : List UInt8))))) hk rfl rfl rfl rfl rfl rfl rfl rfl (fun hc => (FW.f_pure (FW.p_seql hk.kn hc rfl rfl))) ?_; clear hk; intro a w hk
  refine FW.lfun (y := .lit (.bool (((decide (t1.2.2 = 0)) && (decide ((List.length t1.1 : Int) = 2))) && (decide (((List.getD t1.1 (Int.toNat 1) default).Name) = ([104, 97, 115] : List UInt8)))))) hk rfl rfl rfl rfl ((FW.f_pure (FW.p_pick_and hk.kn (FW.holds_nil _) rfl rfl))) ?_; clear hk; intro a w hk
  refine FW.lfun (y := .lit (.bool (((decide (t1.2.2 = 0)) && (decide ((List.length t1.1 : Int) = 2))) && (decide (((List.getD t1.1 (Int.toNat 1) default).Name) = ([104, 97, 115] : List UInt8)))))) hk rfl rfl rfl rfl (FW.f_move hk (FW.holds_nil _) rfl) ?_; clear hk; intro a w hk
  refine FW.lfunG (y := .row (r_ApiStep_cells t1.1)) hk rfl rfl rfl rfl rfl rfl rfl rfl (fun hc => FW.f_move hk hc rfl) ?_; clear hk; intro a w hk
  obtain ⟨hc2, h⟩ := FW.chk h
  refine FW.lfunG (y := .ref (ApiStep.cells (List.getD t1.1 (Int.toNat 1) default))) hk rfl rfl rfl rfl rfl rfl rfl rfl (fun hc => FW.f_indexAddr (R := r_ApiStep_cells) (f := ApiStep.cells) (l := t1.1) (sz := 2) r_ApiStep_cells_eq (fun _ => rfl) hk hc rfl rfl Go.Proofs.Try.underlying22 (by kernel_rfl) hc2) ?_; clear hk; intro a w hk
  refine FW.lfunG (y := .ref (List.drop 1 (ApiStep.cells (List.getD t1.1 (Int.toNat 1) default)))) hk rfl rfl rfl rfl rfl rfl rfl rfl (fun hc => FW.f_fieldAddr hk hc rfl Go.Proofs.Try.underlying29 rfl (by kernel_rfl) rfl) ?_; clear hk; intro a w hk
  refine FW.lfunG (y := .row (r_ApiArg_cells ((List.getD t1.1 (Int.toNat 1) default).Args))) hk rfl rfl rfl rfl rfl rfl rfl rfl (fun hc => FW.f_load1 hk hc rfl rfl Go.Proofs.Try.underlying27 rfl) ?_; clear hk; intro a w hk
  refine FW.lfunG (y := .lit (.int .i64 (List.length ((List.getD t1.1 (Int.toNat 1) default).Args) : Int))) hk rfl rfl rfl rfl rfl rfl rfl rfl (fun hc => FW.f_len (R := r_ApiArg_cells) (f := ApiArg.cells) (l := (List.getD t1.1 (Int.toNat 1) default).Args) r_ApiArg_cells_eq Go.Proofs.Try.underlying27 hk hc rfl) ?_; clear hk; intro a w hk
  refine FW.lfunG (y := .lit (.bool (decide ((List.length ((List.getD t1.1 (Int.toNat 1) default).Args) : Int) = 2)))) hk rfl rfl rfl rfl rfl rfl rfl rfl (fun hc => (FW.f_pure (FW.p_eql hk.kn hc rfl rfl))) ?_; clear hk; intro a w hk
  refine FW.lfun (y := .lit (.bool ((((decide (t1.2.2 = 0)) && (decide ((List.length t1.1 : Int) = 2))) && (decide (((List.getD t1.1 (Int.toNat 1) default).Name) = ([104, 97, 115] : List UInt8)))) && (decide ((List.length ((List.getD t1.1 (Int.toNat 1) default).Args) : Int) = 2))))) hk rfl rfl rfl rfl ((FW.f_pure (FW.p_pick_and hk.kn (FW.holds_nil _) rfl rfl))) ?_; clear hk; intro a w hk
  refine FW.lfun (y := .lit (.bool ((((decide (t1.2.2 = 0)) && (decide ((List.length t1.1 : Int) = 2))) && (decide (((List.getD t1.1 (Int.toNat 1) default).Name) = ([104, 97, 115] : List UInt8)))) && (decide ((List.length ((List.getD t1.1 (Int.toNat 1) default).Args) : Int) = 2))))) hk rfl rfl rfl rfl (FW.f_move hk (FW.holds_nil _) rfl) ?_; clear hk; intro a w hk
  refine FW.lfunG (y := .row (r_ApiStep_cells t1.1)) hk rfl rfl rfl rfl rfl rfl rfl rfl (fun hc => FW.f_move hk hc rfl) ?_; clear hk; intro a w hk
  obtain ⟨hc3, h⟩ := FW.chk h
  refine FW.lfunG (y := .ref (ApiStep.cells (List.getD t1.1 (Int.toNat 1) default))) hk rfl rfl rfl rfl rfl rfl rfl rfl (fun hc => FW.f_indexAddr (R := r_ApiStep_cells) (f := ApiStep.cells) (l := t1.1) (sz := 2) r_ApiStep_cells_eq (fun _ => rfl) hk hc rfl rfl Go.Proofs.Try.underlying22 (by kernel_rfl) hc3) ?_; clear hk; intro a w hk
  refine FW.lfunG (y := .ref (List.drop 1 (ApiStep.cells (List.getD t1.1 (Int.toNat 1) default)))) hk rfl rfl rfl rfl rfl rfl rfl rfl (fun hc => FW.f_fieldAddr hk hc rfl Go.Proofs.Try.underlying29 rfl (by kernel_rfl) rfl) ?_; clear hk; intro a w hk
  refine FW.lfunG (y := .row (r_ApiArg_cells ((List.getD t1.1 (Int.toNat 1) default).Args))) hk rfl rfl rfl rfl rfl rfl rfl rfl (fun hc => FW.f_load1 hk hc rfl rfl Go.Proofs.Try.underlying27 rfl) ?_; clear hk; intro a w hk
  obtain ⟨hc4, h⟩ := FW.chk h
  refine FW.lfunG (y := .ref (ApiArg.cells (List.getD ((List.getD t1.1 (Int.toNat 1) default).Args) (Int.toNat 1) default))) hk rfl rfl rfl rfl rfl rfl rfl rfl (fun hc => FW.f_indexAddr (R := r_ApiArg_cells) (f := ApiArg.cells) (l := (List.getD t1.1 (Int.toNat 1) default).Args) (sz := 11) r_ApiArg_cells_eq (fun _ => rfl) hk hc rfl rfl Go.Proofs.Try.underlying27 (by kernel_rfl) hc4) ?_; clear hk; intro a w hk
  refine FW.lfunG (y := .ref (List.drop 7 (ApiArg.cells (List.getD ((List.getD t1.1 (Int.toNat 1) default).Args) (Int.toNat 1) default)))) hk rfl rfl rfl rfl rfl rfl rfl rfl (fun hc => FW.f_fieldAddr hk hc rfl Go.Proofs.Try.underlying38 rfl (by kernel_rfl) rfl) ?_; clear hk; intro a w hk
  refine FW.lfunG (y := .ref (List.drop 0 (List.drop 7 (ApiArg.cells (List.getD ((List.getD t1.1 (Int.toNat 1) default).Args) (Int.toNat 1) default))))) hk rfl rfl rfl rfl rfl rfl rfl rfl (fun hc => FW.f_fieldAddr hk hc rfl Go.Proofs.Try.underlying36 rfl (by kernel_rfl) rfl) ?_; clear hk; intro a w hk
  refine FW.lfunG (y := .lit (.string (FW.B (((List.getD ((List.getD t1.1 (Int.toNat 1) default).Args) (Int.toNat 1) default).P).Op)))) hk rfl rfl rfl rfl rfl rfl rfl rfl (fun hc => FW.f_load1 hk hc rfl rfl Go.Proofs.Try.underlying9 rfl) ?_; clear hk; intro a w hk
  refine FW.lfunG (y := .lit (.bool (decide ((((List.getD ((List.getD t1.1 (Int.toNat 1) default).Args) (Int.toNat 1) default).P).Op) = ([97, 110, 100] : List UInt8))))) hk rfl rfl rfl rfl rfl rfl rfl rfl (fun hc => (FW.f_pure (FW.p_seql hk.kn hc rfl rfl))) ?_; clear hk; intro a w hk
  refine FW.lfun (y := .lit (.bool (((((decide (t1.2.2 = 0)) && (decide ((List.length t1.1 : Int) = 2))) && (decide (((List.getD t1.1 (Int.toNat 1) default).Name) = ([104, 97, 115] : List UInt8)))) && (decide ((List.length ((List.getD t1.1 (Int.toNat 1) default).Args) : Int) = 2))) && (decide ((((List.getD ((List.getD t1.1 (Int.toNat 1) default).Args) (Int.toNat 1) default).P).Op) = ([97, 110, 100] : List UInt8)))))) hk rfl rfl rfl rfl ((FW.f_pure (FW.p_pick_and hk.kn (FW.holds_nil _) rfl rfl))) ?_; clear hk; intro a w hk
  refine FW.lfun (y := .lit (.bool (((((decide (t1.2.2 = 0)) && (decide ((List.length t1.1 : Int) = 2))) && (decide (((List.getD t1.1 (Int.toNat 1) default).Name) = ([104, 97, 115] : List UInt8)))) && (decide ((List.length ((List.getD t1.1 (Int.toNat 1) default).Args) : Int) = 2))) && (decide ((((List.getD ((List.getD t1.1 (Int.toNat 1) default).Args) (Int.toNat 1) default).P).Op) = ([97, 110, 100] : List UInt8)))))) hk rfl rfl rfl rfl (FW.f_assign hk (FW.holds_nil _) rfl) ?_; clear hk; intro a w hk
  refine FW.lend (hK3 _ _ ?_); clear hK3 K'
  refine wp_ret ?_
  (repeat first | refine FW.then_ret ?_ | refine FW.block_ret ?_)
  obtain rfl := Option.some.inj h
  exact FW.fret1 hk rfl rfl
end Go.Proofs.Ytbjbgodcenopnaa

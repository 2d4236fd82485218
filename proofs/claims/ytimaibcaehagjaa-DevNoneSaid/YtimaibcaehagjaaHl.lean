/- Contracts of library functions, for functions that are handed objects. -/
import Derived.Test.YtimaibcaehagjaaHmf
import Derived.Test.YtimaibcaehagjaaAvMan
import Derived.Test.YtimaibcaehagjaaShelf
import Derived.Test.YtimaibcaehagjaaProg
import Derived.KernelRfl
namespace Go.Proofs.Ytimaibcaehagjaa
variable {Df : List Deferred}
open Go.RowKit
set_option linter.unusedVariables false
set_option maxHeartbeats 1000000 in
theorem indexFunc_nil (f : Value) : FW.Ok Go.Proofs.Try.prog 87 [.lit (.slice none 0 0), .lit f] (.lit (.int .i64 (-1))) := by
  refine FW.enter (xs := [.lit (.slice none 0 0), .lit f]) Try.func87 rfl Try.ntmps87 rfl ?_
  intro M w0 a hk
  refine FW.wreg ?_; intro K' hK1
  refine FW.lfun (y := .lit (.int .i64 0)) hk rfl rfl rfl rfl (FW.f_assign hk (FW.holds_nil _) rfl) ?_; clear hk; intro a w hk
  refine FW.lend (hK1 _ _ ?_); clear hK1 K'
  refine FW.wseq ?_; intro K' hK2
  refine FW.wreg ?_; intro K' hK3
  refine FW.lfun (y := .lit (.slice none 0 0)) hk rfl rfl rfl rfl (FW.f_move hk (FW.holds_nil _) rfl) ?_; clear hk; intro a w hk
  refine FW.lfun (y := .lit (.int .i64 0)) hk rfl rfl rfl rfl (FW.f_pure (FW.p_len Try.underlying74 hk.kn (FW.holds_nil _) rfl)) ?_; clear hk; intro a w hk
  refine FW.lfun (y := .lit (.int .i64 0)) hk rfl rfl rfl rfl (FW.f_move hk (FW.holds_nil _) rfl) ?_; clear hk; intro a w hk
  refine FW.lend (hK3 _ _ ?_); clear hK3 K'
  refine wp_block ?_
  refine FW.wloop (T := Nat) (fun _ a w => FW.S M w0 a w 19 [] [(7, [], .lit (.int .i64 0)), (8, [], .lit (.int .i64 0))]) (fun x => x) 0 (hk.sub ⟨rfl, rfl, trivial⟩) ?_
  clear hk
  intro s a w hk K' hK4
  refine FW.wreg ?_; intro K' hK5
  refine FW.lfun (y := .lit (.bool false)) hk rfl rfl rfl rfl (FW.f_pure (FW.p_lss (p := 0) (q := 0) hk.kn (FW.holds_nil _) rfl rfl)) ?_; clear hk; intro a w hk
  refine FW.lend (hK5 _ _ ?_); clear hK5 K'
  refine FW.wseq ?_; intro K' hK6
  refine FW.wcondX hk rfl ?_
  refine wp_exit ?_; (repeat first | refine FW.then_exit ?_ | refine FW.block_exit_ne rfl ?_); refine FW.block_exit ?_
  (repeat first | refine FW.then_normal ?_ | refine FW.block_normal ?_); refine hK2 _ _ ?_
  refine FW.wreg ?_; intro K' hK7
  refine FW.lfun (y := .lit (.int .i64 (-1))) hk rfl rfl rfl rfl (FW.f_assign hk (FW.holds_nil _) rfl) ?_; clear hk; intro a w hk
  refine FW.lend (hK7 _ _ ?_); clear hK7 K'
  refine wp_ret ?_
  (repeat first | refine FW.then_ret ?_ | refine FW.block_ret ?_)
  exact FW.fret1 hk rfl rfl
/-- Copies of a text. -/
def strings_Repeat.f (s : List UInt8) (c : Int) : Option (List UInt8) := if 0 ≤ c ∧ c ≤ 9223372036854775807 ∧ (s.length : Int) * c ≤ 140737488355328 then some (Lib.repeatL s c.toNat) else none
theorem strings_Repeat.ok (s : List UInt8) (c : Int) (r : List UInt8) (h : strings_Repeat.f s c = some r) : FW.Ok Go.Proofs.Try.prog 62 [.lit (.string (FW.B s)), .lit (.int .i64 c)] (.lit (.string (FW.B r))) := by
  obtain ⟨hc, h⟩ := FW.chk h
  obtain rfl := Option.some.inj h
  obtain ⟨n, rfl⟩ := Int.eq_ofNat_of_zero_le hc.1
  intro M w vs hM hL
  have hvs : vs = #[.string (FW.B s), .int .i64 (n : Int)] := by
    have := FW.repL_lits_eq (us := [.string (FW.B s), .int .i64 (n : Int)]) hL
    exact Array.ext' this
  subst hvs
  have h1 : (FW.B s).size * n ≤ 140737488355328 := by
    have := hc.2.2
    rw [FW.B_size]
    omega
  refine (Try.strings_Repeat (FW.B s) n w (by omega) h1).mono ?_
  rintro e w' ⟨rfl, hb⟩
  exact ⟨_, rfl, FW.New.of_below hb, FW.rep_lit rfl⟩
end Go.Proofs.Ytimaibcaehagjaa

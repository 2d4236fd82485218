/- The falls of a device, by hand: slices.Clone and slices.Delete of them. -/
import Derived.KernelRfl
import Derived.Test.YtimaibcaehagjaaProg
import Derived.Test.YtimaibcaehagjaaAvFun
import Derived.Test.YtimaibcaehagjaaAvMan
import Derived.Test.YtimaibcaehagjaaAvMore
import Derived.Test.YtimaibcaehagjaaAvDraw2
import Derived.Test.YtimaibcaehagjaaAvRow
import Derived.Test.YtimaibcaehagjaaHn
import Derived.Test.YtimaibcaehagjaaHc
import Derived.Test.YtimaibcaehagjaaHd
import Derived.Test.YtimaibcaehagjaaDxD
namespace Go.Proofs.Ytimaibcaehagjaa
open Go.RowKit
set_option linter.unusedVariables false
set_option maxRecDepth 20000
set_option maxHeartbeats 10000000
/-- slices.Clone of falls: a row of one's own. -/
theorem fallsClone.ok (l : List ApiFall) (hl : (0 + l.length) * 24 ≤ 140737488355328 ∧ 0 + l.length ≤ 140737488355328) :
    FW.OkH Go.Proofs.Try.prog 70 [.row (r_ApiFall_cells l)] [] (fun y I => ∃ (ad : Option Addr) (cap : Nat), y = .lit (.slice ad (List.length l) cap) ∧ I = [FW.orow ad cap 45 3 ApiFall.cells l]) := by
  refine FW.enterH (xs := [.row (r_ApiFall_cells l)]) Go.Proofs.Try.func70 rfl Go.Proofs.Try.ntmps70 rfl ?_
  intro M w0 a hk
  refine FW.wreg ?_; intro K' hK1
  refine FW.lfun (y := .lit (.slice none 0 0)) hk rfl rfl rfl rfl (FW.f_assign hk (FW.holds_nil _) rfl) ?_; clear hk; intro a w hk
  refine FW.lend (hK1 _ _ ?_); clear hK1 K'
  refine FW.wseq ?_; intro K' hK2
  refine FW.wreg ?_; intro K' hK3
  refine FW.lfun (y := .row (r_ApiFall_cells l)) hk rfl rfl rfl rfl (FW.f_move hk (FW.holds_nil _) rfl) ?_; clear hk; intro a w hk
  obtain ⟨ad, cp, had, hk⟩ := FW.S.asSlice (i := 3) r_ApiFall_cells_eq hk rfl
  refine FW.lfun (y := .lit (.bool ad.isNone)) hk rfl rfl rfl rfl (FW.f_eqSliceNil hk (FW.holds_nil _) rfl rfl Go.Proofs.Try.underlying74) ?_; clear hk; intro a w hk
  refine FW.lend (hK3 _ _ ?_); clear hK3 K'
  refine FW.wcond (b := ad.isNone) hk rfl (fun hb => ?_) (fun hb => ?_)
  · have hl0 : l = [] := had (Option.isNone_iff_eq_none.1 hb)
    subst hl0
    refine FW.wreg ?_; intro K' hK4
    refine FW.lfun (y := .lit (.slice none 0 0)) hk rfl rfl rfl rfl (FW.f_assign hk (FW.holds_nil _) rfl) ?_; clear hk; intro a w hk
    refine FW.lend (hK4 _ _ ?_); clear hK4 K'
    refine wp_ret ?_
    (repeat first | refine FW.then_ret ?_ | refine FW.block_ret ?_)
    replace hk := hk.nilRow 45 3 ApiFall.cells (fun _ => rfl)
    exact FW.fretH1 hk rfl (FW.rtmp hk rfl) ⟨none, 0, rfl, rfl⟩
  · refine wp_skip ?_
    (repeat first | refine FW.then_normal ?_ | refine FW.block_normal ?_); refine hK2 _ _ ?_
    clear hK2 K'
    refine FW.wreg ?_; intro K' hK4
    refine FW.l_buildSlice0 (f := ApiFall.cells) hk rfl rfl Go.Proofs.Try.underlying74 rfl (fun _ => rfl) ?_; clear hk; intro b1 a w hk
    refine FW.lfun (y := .row (r_ApiFall_cells l)) hk rfl rfl rfl rfl (FW.f_move hk (FW.holds_nil _) rfl) ?_; clear hk; intro a w hk
    refine FW.l_append (l2 := l) (l3 := (([] : List ApiFall) ++ l)) (I' := fun ad1 cap1 => [FW.orow ad1 cap1 45 3 ApiFall.cells (([] : List ApiFall) ++ l)]) (j := 0) hk rfl rfl rfl rfl (FW.imm_src (sz := 3) hk r_ApiFall_cells_eq rfl (fun _ => rfl) (fun _ => rfl) Go.Proofs.Try.underlying74) Go.Proofs.Try.underlying74 (by kernel_rfl) hl rfl (fun _ _ => rfl) ?_; clear hk; intro ad1 cap1 a w hk
    refine FW.lfun (y := .lit (.slice ad1 (List.length (([] : List ApiFall) ++ l)) cap1)) hk rfl rfl rfl rfl (FW.f_assign hk (FW.holds_nil _) rfl) ?_; clear hk; intro a w hk
    refine FW.lend (hK4 _ _ ?_); clear hK4 K'
    refine wp_ret ?_
    (repeat first | refine FW.then_ret ?_ | refine FW.block_ret ?_)
    exact FW.fretH1 hk rfl (FW.rtmp hk rfl) ⟨ad1, cap1, rfl, rfl⟩
/-- slices.Delete of the only fall. -/
theorem fallsDelete.ok (x0 : ApiFall) (xd : Option Addr) (xc : Nat) :
    FW.OkH Go.Proofs.Try.prog 89 [.lit (.slice xd 1 xc), .lit (.int .i64 0), .lit (.int .i64 1)] [FW.orow xd xc 45 3 ApiFall.cells [x0]] (fun y I => y = .lit (.slice xd 0 xc) ∧ I = [FW.orow xd xc 45 3 ApiFall.cells []]) := by
  refine FW.enterH (xs := [.lit (.slice xd 1 xc), .lit (.int .i64 0), .lit (.int .i64 1)]) Go.Proofs.Try.func89 rfl Go.Proofs.Try.ntmps89 rfl ?_
  intro M w0 a hk
  obtain ⟨b, rfl, hcp⟩ : ∃ b, xd = some ⟨b, 0, none⟩ ∧ 1 ≤ xc := by
    obtain ⟨_, vals, hown, _⟩ := hk.own.get (j := 0) rfl
    rcases hown.2 with ⟨hv, _⟩ | ⟨gb, cp, cur, hv, _, _, hle, _⟩
    · cases hv
    · injection hv with h3 _ h5
      subst h5
      exact ⟨gb, h3, by simpa using hle⟩
  refine FW.wreg ?_; intro K' hK1
  refine FW.lfun (y := .lit (.slice none 0 0)) hk rfl rfl rfl rfl (FW.f_assign hk (FW.holds_nil _) rfl) ?_; clear hk; intro a w hk
  refine FW.lend (hK1 _ _ ?_); clear hK1 K'
  refine FW.wreg ?_; intro K' hK2
  refine FW.lfun (y := .lit (.slice (some ⟨b, 0, none⟩) 1 xc)) hk rfl rfl rfl rfl (FW.f_move hk (FW.holds_nil _) rfl) ?_; clear hk; intro a w hk
  refine FW.lfun (y := .lit (.int .i64 0)) hk rfl rfl rfl rfl (FW.f_move hk (FW.holds_nil _) rfl) ?_; clear hk; intro a w hk
  refine FW.lfun (y := .lit (.int .i64 1)) hk rfl rfl rfl rfl (FW.f_move hk (FW.holds_nil _) rfl) ?_; clear hk; intro a w hk
  refine FW.lfun (y := .lit (.slice (some ⟨b, 0, none⟩) 1 xc)) hk rfl rfl rfl rfl (FW.f_move hk (FW.holds_nil _) rfl) ?_; clear hk; intro a w hk
  refine FW.lfun (y := .lit (.int .i64 1)) hk rfl rfl rfl rfl (FW.f_pure (FW.p_len Go.Proofs.Try.underlying74 hk.kn (FW.holds_nil _) rfl)) ?_; clear hk; intro a w hk
  refine FW.lfun (y := .lit (.slice ((some ⟨b, 0, none⟩ : Option Addr).map (·.add 0)) 1 1)) hk rfl rfl rfl rfl (FW.f_sl3 (sz := 3) hk (FW.holds_nil _) rfl rfl rfl rfl hcp Go.Proofs.Try.underlying74 (by kernel_rfl)) ?_; clear hk; intro a w hk
  refine FW.lend (hK2 _ _ ?_); clear hK2 K'
  refine FW.wseq ?_; intro K' hK3
  refine FW.wreg ?_; intro K' hK4
  refine FW.lfun (y := .lit (.int .i64 0)) hk rfl rfl rfl rfl (FW.f_move hk (FW.holds_nil _) rfl) ?_; clear hk; intro a w hk
  refine FW.lfun (y := .lit (.int .i64 1)) hk rfl rfl rfl rfl (FW.f_move hk (FW.holds_nil _) rfl) ?_; clear hk; intro a w hk
  refine FW.lfun (y := .lit (.bool false)) hk rfl rfl rfl rfl ((FW.f_pure (FW.p_eql (p := 0) (q := 1) hk.kn (FW.holds_nil _) rfl rfl))) ?_; clear hk; intro a w hk
  refine FW.lend (hK4 _ _ ?_); clear hK4 K'
  refine FW.wcondX hk rfl ?_
  refine wp_skip ?_
  (repeat first | refine FW.then_normal ?_ | refine FW.block_normal ?_); refine hK3 _ _ ?_; clear hK3 K'
  refine FW.wreg ?_; intro K' hK5
  refine FW.lfun (y := .lit (.slice (some ⟨b, 0, none⟩) 1 xc)) hk rfl rfl rfl rfl (FW.f_move hk (FW.holds_nil _) rfl) ?_; clear hk; intro a w hk
  refine FW.lfun (y := .lit (.int .i64 1)) hk rfl rfl rfl rfl (FW.f_pure (FW.p_len Go.Proofs.Try.underlying74 hk.kn (FW.holds_nil _) rfl)) ?_; clear hk; intro a w hk
  refine FW.lfun (y := .lit (.int .i64 1)) hk rfl rfl rfl rfl (FW.f_assign hk (FW.holds_nil _) rfl) ?_; clear hk; intro a w hk
  refine FW.lend (hK5 _ _ ?_); clear hK5 K'
  refine FW.wdraw (by kernel_rfl) (by kernel_rfl) hk ?_; clear hk
  refine FW.dfun (y := .lit (.slice (some ⟨b, 0, none⟩) 1 xc)) rfl rfl rfl rfl (fun a w hk => FW.f_move hk (FW.holds_nil _) rfl) ?_
  refine FW.dfun (y := .lit (.int .i64 0)) rfl rfl rfl rfl (fun a w hk => FW.f_move hk (FW.holds_nil _) rfl) ?_
  refine FW.dfun (y := .lit (.slice (some ⟨b, 0, none⟩) 0 xc)) rfl rfl rfl rfl (fun a w hk => FW.f_slTo (sz := 3) hk (FW.holds_nil _) rfl rfl Go.Proofs.Try.underlying74 (by kernel_rfl)) ?_
  refine FW.dfun (y := .lit (.slice (some ⟨b, 0, none⟩) 1 xc)) rfl rfl rfl rfl (fun a w hk => FW.f_move hk (FW.holds_nil _) rfl) ?_
  refine FW.dfun (y := .lit (.int .i64 1)) rfl rfl rfl rfl (fun a w hk => FW.f_move hk (FW.holds_nil _) rfl) ?_
  refine FW.dfun (y := .lit (.slice (if xc = 1 then some ⟨b, 0, none⟩ else (some ⟨b, 0, none⟩ : Option Addr).map (·.add (1 * 3))) 0 (xc - 1))) rfl rfl rfl rfl (fun a w hk => FW.f_slFrom (sz := 3) hk (FW.holds_nil _) rfl rfl Go.Proofs.Try.underlying74 (by kernel_rfl)) ?_
  refine FW.dfun (y := .lit (.slice (some ⟨b, 0, none⟩) 0 xc)) rfl rfl rfl rfl (fun a w hk => FW.f_append0 (sz := 3) hk (FW.holds_nil _) rfl rfl Go.Proofs.Try.underlying74 (by kernel_rfl)) ?_
  refine FW.dfun (y := .lit (.slice (some ⟨b, 0, none⟩) 0 xc)) rfl rfl rfl rfl (fun a w hk => FW.f_assign hk (FW.holds_nil _) rfl) ?_
  refine FW.dend ?_; intro a w hk
  refine FW.wreg ?_; intro K' hK6
  refine FW.lfun (y := .lit (.slice (some ⟨b, 0, none⟩) 0 xc)) hk rfl rfl rfl rfl (FW.f_move hk (FW.holds_nil _) rfl) ?_; clear hk; intro a w hk
  refine FW.lfun (y := .lit (.slice (some ⟨b, 0, none⟩) 0 xc)) hk rfl rfl rfl rfl (FW.f_move hk (FW.holds_nil _) rfl) ?_; clear hk; intro a w hk
  refine FW.lfun (y := .lit (.int .i64 0)) hk rfl rfl rfl rfl (FW.f_pure (FW.p_len Go.Proofs.Try.underlying74 hk.kn (FW.holds_nil _) rfl)) ?_; clear hk; intro a w hk
  refine FW.lfun (y := .lit (.int .i64 1)) hk rfl rfl rfl rfl (FW.f_move hk (FW.holds_nil _) rfl) ?_; clear hk; intro a w hk
  refine FW.lfun (y := .lit (.slice (some ⟨b, 0, none⟩) 1 xc)) hk rfl rfl rfl rfl (FW.f_slPart (sz := 3) hk (FW.holds_nil _) rfl rfl rfl hcp Go.Proofs.Try.underlying74 (by kernel_rfl)) ?_; clear hk; intro a w hk
  refine FW.l_clearOne (x0 := x0) (j := 0) (I' := [FW.orow (some ⟨b, 0, none⟩) xc 45 3 ApiFall.cells []]) hk rfl rfl Go.Proofs.Try.underlying74 rfl rfl rfl rfl ?_; clear hk; intro w hk
  refine FW.lend (hK6 _ _ ?_); clear hK6 K'
  refine FW.wreg ?_; intro K' hK7
  refine FW.lfun (y := .lit (.slice (some ⟨b, 0, none⟩) 0 xc)) hk rfl rfl rfl rfl (FW.f_move hk (FW.holds_nil _) rfl) ?_; clear hk; intro a w hk
  refine FW.lfun (y := .lit (.slice (some ⟨b, 0, none⟩) 0 xc)) hk rfl rfl rfl rfl (FW.f_assign hk (FW.holds_nil _) rfl) ?_; clear hk; intro a w hk
  refine FW.lend (hK7 _ _ ?_); clear hK7 K'
  refine wp_ret ?_
  (repeat first | refine FW.then_ret ?_ | refine FW.block_ret ?_)
  exact FW.fretH1 hk rfl (FW.rtmp hk rfl) ⟨rfl, rfl⟩
theorem fallsDelete.ok' (l : List ApiFall) (i j : Int) (hl : l.length = 1 ∧ i = 0 ∧ j = 1) (xd : Option Addr) (xc : Nat) :
    FW.OkH Go.Proofs.Try.prog 89 [.lit (.slice xd (List.length l) xc), .lit (.int .i64 i), .lit (.int .i64 j)] [FW.orow xd xc 45 3 ApiFall.cells l] (fun y I => y = .lit (.slice xd 0 xc) ∧ I = [FW.orow xd xc 45 3 ApiFall.cells []]) := by
  obtain ⟨h, rfl, rfl⟩ := hl
  match l, h with
  | [x0], _ => exact fallsDelete.ok x0 xd xc
end Go.Proofs.Ytimaibcaehagjaa

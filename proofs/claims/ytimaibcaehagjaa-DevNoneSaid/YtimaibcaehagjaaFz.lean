/- A device's copy, by hand: slices.Clone of rows of one's own, maps.Clone. -/
import Derived.KernelRfl
import Derived.Test.YtimaibcaehagjaaHmc
import Derived.Test.YtimaibcaehagjaaFx
namespace Go.Proofs.Ytimaibcaehagjaa
open Go.RowKit
set_option linter.unusedVariables false
set_option maxRecDepth 20000
set_option maxHeartbeats 10000000
/-- slices.Clone of a row of texts. -/
theorem textsCloneOwn.ok (l : List (List UInt8)) (hl : (0 + l.length) * 16 ≤ 140737488355328 ∧ 0 + l.length ≤ 140737488355328) (xd : Option Addr) (xc : Nat) :
    FW.OkH Go.Proofs.Try.prog 71 [.lit (.slice xd (List.length l) xc)] [FW.orow xd xc 9 1 c_str l] (fun y I => ∃ (ad : Option Addr) (cap : Nat), y = .lit (.slice ad (List.length l) cap) ∧ I = [FW.orow ad cap 9 1 c_str l, FW.orow xd xc 9 1 c_str l]) := by
  refine FW.enterH (xs := [.lit (.slice xd (List.length l) xc)]) Go.Proofs.Try.func71 rfl Go.Proofs.Try.ntmps71 rfl ?_
  intro M w0 a hk
  have hxn : xd = none → l = [] := by
    intro e
    obtain ⟨_, vals, hown, _⟩ := hk.own.get (j := 0) rfl
    rcases hown.2 with ⟨hv, hn⟩ | ⟨gb, cp, cur, hv, _⟩
    · exact List.eq_nil_of_length_eq_zero hn
    · injection hv with h3; rw [e] at h3; cases h3
  refine FW.wreg ?_; intro K' hK1
  refine FW.lfun (y := .lit (.slice none 0 0)) hk rfl rfl rfl rfl (FW.f_assign hk (FW.holds_nil _) rfl) ?_; clear hk; intro a w hk
  refine FW.lend (hK1 _ _ ?_); clear hK1 K'
  refine FW.wseq ?_; intro K' hK2
  refine FW.wreg ?_; intro K' hK3
  refine FW.lfun (y := .lit (.slice xd (List.length l) xc)) hk rfl rfl rfl rfl (FW.f_move hk (FW.holds_nil _) rfl) ?_; clear hk; intro a w hk
  refine FW.lfun (y := .lit (.bool xd.isNone)) hk rfl rfl rfl rfl (FW.f_eqSliceNil hk (FW.holds_nil _) rfl rfl Go.Proofs.Try.underlying61) ?_; clear hk; intro a w hk
  refine FW.lend (hK3 _ _ ?_); clear hK3 K'
  refine FW.wcond (b := xd.isNone) hk rfl (fun hb => ?_) (fun hb => ?_)
  · have hl0 : l = [] := hxn (Option.isNone_iff_eq_none.1 hb)
    subst hl0
    refine FW.wreg ?_; intro K' hK4
    refine FW.lfun (y := .lit (.slice none 0 0)) hk rfl rfl rfl rfl (FW.f_assign hk (FW.holds_nil _) rfl) ?_; clear hk; intro a w hk
    refine FW.lend (hK4 _ _ ?_); clear hK4 K'
    refine wp_ret ?_
    (repeat first | refine FW.then_ret ?_ | refine FW.block_ret ?_)
    replace hk := hk.nilRow 9 1 c_str (fun _ => rfl)
    exact FW.fretH1 hk rfl (FW.rtmp hk rfl) ⟨none, 0, rfl, rfl⟩
  · refine wp_skip ?_
    (repeat first | refine FW.then_normal ?_ | refine FW.block_normal ?_); refine hK2 _ _ ?_
    clear hK2 K'
    refine FW.wreg ?_; intro K' hK4
    refine FW.l_buildSlice0 (f := c_str) hk rfl rfl Go.Proofs.Try.underlying61 rfl (fun _ => rfl) ?_; clear hk; intro b1 a w hk
    refine FW.lfun (y := .lit (.slice xd (List.length l) xc)) hk rfl rfl rfl rfl (FW.f_move hk (FW.holds_nil _) rfl) ?_; clear hk; intro a w hk
    refine FW.l_append (l2 := l) (l3 := (([] : List (List UInt8)) ++ l)) (I' := fun ad1 cap1 => [FW.orow ad1 cap1 9 1 c_str (([] : List (List UInt8)) ++ l), FW.orow xd xc 9 1 c_str l]) (j := 0) hk rfl rfl rfl rfl (FW.own_src hk (j := 1) rfl rfl (fun _ => rfl) Go.Proofs.Try.underlying61) Go.Proofs.Try.underlying61 (by kernel_rfl) hl rfl (fun _ _ => rfl) ?_; clear hk; intro ad1 cap1 a w hk
    refine FW.lfun (y := .lit (.slice ad1 (List.length (([] : List (List UInt8)) ++ l)) cap1)) hk rfl rfl rfl rfl (FW.f_assign hk (FW.holds_nil _) rfl) ?_; clear hk; intro a w hk
    refine FW.lend (hK4 _ _ ?_); clear hK4 K'
    refine wp_ret ?_
    (repeat first | refine FW.then_ret ?_ | refine FW.block_ret ?_)
    exact FW.fretH1 hk rfl (FW.rtmp hk rfl) ⟨ad1, cap1, rfl, rfl⟩
/-- slices.Clone of a row of falls. -/
theorem fallsCloneOwn.ok (l : List ApiFall) (hl : (0 + l.length) * 24 ≤ 140737488355328 ∧ 0 + l.length ≤ 140737488355328) (xd : Option Addr) (xc : Nat) :
    FW.OkH Go.Proofs.Try.prog 70 [.lit (.slice xd (List.length l) xc)] [FW.orow xd xc 45 3 ApiFall.cells l] (fun y I => ∃ (ad : Option Addr) (cap : Nat), y = .lit (.slice ad (List.length l) cap) ∧ I = [FW.orow ad cap 45 3 ApiFall.cells l, FW.orow xd xc 45 3 ApiFall.cells l]) := by
  refine FW.enterH (xs := [.lit (.slice xd (List.length l) xc)]) Go.Proofs.Try.func70 rfl Go.Proofs.Try.ntmps70 rfl ?_
  intro M w0 a hk
  have hxn : xd = none → l = [] := by
    intro e
    obtain ⟨_, vals, hown, _⟩ := hk.own.get (j := 0) rfl
    rcases hown.2 with ⟨hv, hn⟩ | ⟨gb, cp, cur, hv, _⟩
    · exact List.eq_nil_of_length_eq_zero (by simpa using hn)
    · injection hv with h3; rw [e] at h3; cases h3
  refine FW.wreg ?_; intro K' hK1
  refine FW.lfun (y := .lit (.slice none 0 0)) hk rfl rfl rfl rfl (FW.f_assign hk (FW.holds_nil _) rfl) ?_; clear hk; intro a w hk
  refine FW.lend (hK1 _ _ ?_); clear hK1 K'
  refine FW.wseq ?_; intro K' hK2
  refine FW.wreg ?_; intro K' hK3
  refine FW.lfun (y := .lit (.slice xd (List.length l) xc)) hk rfl rfl rfl rfl (FW.f_move hk (FW.holds_nil _) rfl) ?_; clear hk; intro a w hk
  refine FW.lfun (y := .lit (.bool xd.isNone)) hk rfl rfl rfl rfl (FW.f_eqSliceNil hk (FW.holds_nil _) rfl rfl Go.Proofs.Try.underlying74) ?_; clear hk; intro a w hk
  refine FW.lend (hK3 _ _ ?_); clear hK3 K'
  refine FW.wcond (b := xd.isNone) hk rfl (fun hb => ?_) (fun hb => ?_)
  · have hl0 : l = [] := hxn (Option.isNone_iff_eq_none.1 hb)
    subst hl0
    refine FW.wreg ?_; intro K' hK4
    refine FW.lfun (y := .lit (.slice none 0 0)) hk rfl rfl rfl rfl (FW.f_assign hk (FW.holds_nil _) rfl) ?_; clear hk; intro a w hk
    refine FW.lend (hK4 _ _ ?_); clear hK4 K'
    refine wp_ret ?_
    (repeat first | refine FW.then_ret ?_ | refine FW.block_ret ?_)
    replace hk := hk.nilRow 45 3 ApiFall.cells (fun _ => rfl)
    exact FW.fretH1 hk rfl (FW.rtmp hk rfl) ⟨none, 0, rfl, rfl⟩
  · refine wp_skip ?_
    (repeat first | refine FW.then_normal ?_ | refine FW.block_normal ?_); refine hK2 _ _ ?_
    clear hK2 K'
    refine FW.wreg ?_; intro K' hK4
    refine FW.l_buildSlice0 (f := ApiFall.cells) hk rfl rfl Go.Proofs.Try.underlying74 rfl (fun _ => rfl) ?_; clear hk; intro b1 a w hk
    refine FW.lfun (y := .lit (.slice xd (List.length l) xc)) hk rfl rfl rfl rfl (FW.f_move hk (FW.holds_nil _) rfl) ?_; clear hk; intro a w hk
    refine FW.l_append (l2 := l) (l3 := (([] : List ApiFall) ++ l)) (I' := fun ad1 cap1 => [FW.orow ad1 cap1 45 3 ApiFall.cells (([] : List ApiFall) ++ l), FW.orow xd xc 45 3 ApiFall.cells l]) (j := 0) hk rfl rfl rfl rfl (FW.own_src hk (j := 1) rfl rfl (fun _ => rfl) Go.Proofs.Try.underlying74) Go.Proofs.Try.underlying74 (by kernel_rfl) hl rfl (fun _ _ => rfl) ?_; clear hk; intro ad1 cap1 a w hk
    refine FW.lfun (y := .lit (.slice ad1 (List.length (([] : List ApiFall) ++ l)) cap1)) hk rfl rfl rfl rfl (FW.f_assign hk (FW.holds_nil _) rfl) ?_; clear hk; intro a w hk
    refine FW.lend (hK4 _ _ ?_); clear hK4 K'
    refine wp_ret ?_
    (repeat first | refine FW.then_ret ?_ | refine FW.block_ret ?_)
    exact FW.fretH1 hk rfl (FW.rtmp hk rfl) ⟨ad1, cap1, rfl, rfl⟩
/-- maps.Clone of a map of one's own. -/
theorem mapsClone.ok (m : List (Int × List UInt8)) (r : Nat) :
    FW.OkH Go.Proofs.Try.prog 72 [.lit (.map (some r))] [FW.mapI (.int .i64) (Value.int .i64) FW.evS r m] (fun y I => ∃ r' : Nat, y = .lit (.map (some r')) ∧ I = [FW.mapI (.int .i64) (Value.int .i64) FW.evS r' m, FW.mapI (.int .i64) (Value.int .i64) FW.evS r m]) := by
  refine FW.enterH (xs := [.lit (.map (some r))]) Go.Proofs.Try.func72 rfl Go.Proofs.Try.ntmps72 rfl ?_
  intro M w0 a hk
  refine FW.wreg ?_; intro K' hK1
  refine FW.lfun (y := .lit (.map none)) hk rfl rfl rfl rfl (FW.f_assign hk (FW.holds_nil _) rfl) ?_; clear hk; intro a w hk
  refine FW.lend (hK1 _ _ ?_); clear hK1 K'
  refine FW.wseq ?_; intro K' hK2
  refine FW.wreg ?_; intro K' hK3
  refine FW.lfun (y := .lit (.map (some r))) hk rfl rfl rfl rfl (FW.f_move hk (FW.holds_nil _) rfl) ?_; clear hk; intro a w hk
  refine FW.lfun (y := .lit (.bool false)) hk rfl rfl rfl rfl (FW.f_eqMapNil (p := some r) hk (FW.holds_nil _) rfl rfl Go.Proofs.Try.underlying107) ?_; clear hk; intro a w hk
  refine FW.lend (hK3 _ _ ?_); clear hK3 K'
  refine FW.wcondX hk rfl ?_
  refine wp_skip ?_
  (repeat first | refine FW.then_normal ?_ | refine FW.block_normal ?_); refine hK2 _ _ ?_; clear hK2 K'
  refine FW.wreg ?_; intro K' hK4
  refine FW.lfun (y := .lit (.map (some r))) hk rfl rfl rfl rfl (FW.f_move hk (FW.holds_nil _) rfl) ?_; clear hk; intro a w hk
  refine FW.lfun (y := .lit (.iface 107 (.map (some r)))) hk rfl rfl rfl rfl (FW.f_ifaceMap hk (FW.holds_nil _) rfl Go.Proofs.Try.underlying107) ?_; clear hk; intro a w hk
  refine FW.l_mapsClone (j := 0) hk rfl rfl rfl rfl rfl Go.Proofs.Try.func80 rfl (by kernel_rfl) (by kernel_rfl) (by kernel_rfl) ?_; clear hk; intro r' a w hk
  refine FW.lfun (y := .lit (.map (some r'))) hk rfl rfl rfl rfl (FW.f_tassertMap hk (FW.holds_nil _) Go.Proofs.Try.underlying107 rfl) ?_; clear hk; intro a w hk
  refine FW.lfun (y := .lit (.map (some r'))) hk rfl rfl rfl rfl (FW.f_assign hk (FW.holds_nil _) rfl) ?_; clear hk; intro a w hk
  refine FW.lend (hK4 _ _ ?_); clear hK4 K'
  refine wp_ret ?_
  (repeat first | refine FW.then_ret ?_ | refine FW.block_ret ?_)
  exact FW.fretH1 hk rfl (FW.rtmp hk rfl) ⟨r', rfl, rfl⟩
/-- A copy of no device is none. -/
theorem copyNil.ok : FW.Ok Go.Proofs.Try.prog 40 [.lit (.pointer none)] (.lit (.pointer none)) := by
  refine FW.enter (xs := [.lit (.pointer none)]) Go.Proofs.Try.func40 rfl Go.Proofs.Try.ntmps40 rfl ?_
  intro M w0 a hk
  refine FW.wreg ?_; intro K' hK1
  refine FW.lfun (y := .lit (.pointer none)) hk rfl rfl rfl rfl (FW.f_assign hk (FW.holds_nil _) rfl) ?_; clear hk; intro a w hk
  refine FW.lend (hK1 _ _ ?_); clear hK1 K'
  refine FW.wseq ?_; intro K' hK2
  refine FW.wreg ?_; intro K' hK3
  refine FW.lfun (y := .lit (.pointer none)) hk rfl rfl rfl rfl (FW.f_move hk (FW.holds_nil _) rfl) ?_; clear hk; intro a w hk
  refine FW.lfun (y := .lit (.bool true)) hk rfl rfl rfl rfl ((FW.f_pure (FW.p_ptrEq Go.Proofs.Try.underlying46 hk.kn (FW.holds_nil _) rfl rfl rfl))) ?_; clear hk; intro a w hk
  refine FW.lend (hK3 _ _ ?_); clear hK3 K'
  refine FW.wcondT hk rfl ?_
  refine FW.wreg ?_; intro K' hK4
  refine FW.lfun (y := .lit (.pointer none)) hk rfl rfl rfl rfl (FW.f_assign hk (FW.holds_nil _) rfl) ?_; clear hk; intro a w hk
  refine FW.lend (hK4 _ _ ?_); clear hK4 K'
  refine wp_ret ?_
  (repeat first | refine FW.then_ret ?_ | refine FW.block_ret ?_)
  exact FW.fret1 hk rfl rfl
theorem offNil.ok : FW.Ok Go.Proofs.Try.prog 41 [.lit (.pointer none)] (.lit (.bool true)) := by
  refine FW.enter (xs := [.lit (.pointer none)]) Go.Proofs.Try.func41 rfl Go.Proofs.Try.ntmps41 rfl ?_
  intro M w0 a hk
  refine FW.wreg ?_; intro K' hK1
  refine FW.lfun (y := .lit (.bool false)) hk rfl rfl rfl rfl (FW.f_assign hk (FW.holds_nil _) rfl) ?_; clear hk; intro a w hk
  refine FW.lend (hK1 _ _ ?_); clear hK1 K'
  refine FW.wreg ?_; intro K' hK2
  refine FW.lfun (y := .lit (.pointer none)) hk rfl rfl rfl rfl (FW.f_move hk (FW.holds_nil _) rfl) ?_; clear hk; intro a w hk
  refine FW.lfun (y := .lit (.bool true)) hk rfl rfl rfl rfl ((FW.f_pure (FW.p_ptrEq Go.Proofs.Try.underlying46 hk.kn (FW.holds_nil _) rfl rfl rfl))) ?_; clear hk; intro a w hk
  refine FW.lfun (y := .lit (.bool true)) hk rfl rfl rfl rfl (FW.f_move hk (FW.holds_nil _) rfl) ?_; clear hk; intro a w hk
  refine FW.lfunG (y := .lit (.bool false)) hk rfl rfl rfl rfl rfl rfl rfl rfl (fun hc => (FW.noHold hk.kn rfl rfl hc).elim) ?_; clear hk; intro a w hk
  refine FW.lfunG (y := .lit (.bool false)) hk rfl rfl rfl rfl rfl rfl rfl rfl (fun hc => (FW.noHold hk.kn rfl rfl hc).elim) ?_; clear hk; intro a w hk
  refine FW.lfunG (y := .lit (.bool false)) hk rfl rfl rfl rfl rfl rfl rfl rfl (fun hc => (FW.noHold hk.kn rfl rfl hc).elim) ?_; clear hk; intro a w hk
  refine FW.lfunG (y := .lit (.bool false)) hk rfl rfl rfl rfl rfl rfl rfl rfl (fun hc => (FW.noHold hk.kn rfl rfl hc).elim) ?_; clear hk; intro a w hk
  refine FW.lfun (y := .lit (.bool true)) hk rfl rfl rfl rfl ((FW.f_pure (FW.p_pickT hk.kn (FW.holds_nil _) rfl rfl))) ?_; clear hk; intro a w hk
  refine FW.lfun (y := .lit (.bool true)) hk rfl rfl rfl rfl (FW.f_assign hk (FW.holds_nil _) rfl) ?_; clear hk; intro a w hk
  refine FW.lend (hK2 _ _ ?_); clear hK2 K'
  refine wp_ret ?_
  (repeat first | refine FW.then_ret ?_ | refine FW.block_ret ?_)
  exact FW.fret1 hk rfl rfl
def dev_Dev_Flush_nil.f (K : Nat) : Option Int :=
  some 7
theorem dev_Dev_Flush_nil.ok (K : Nat) (r : Int) (h : dev_Dev_Flush_nil.f K = some r) :
    FW.Ok Go.Proofs.Try.prog 31 [.lit (.pointer none)] (.lit (.int .i64 r)) := by
  refine FW.enter (xs := [.lit (.pointer none)]) Go.Proofs.Try.func31 rfl Go.Proofs.Try.ntmps31 rfl ?_
  intro M w0 a hk
  unfold dev_Dev_Flush_nil.f at h
  refine FW.wreg ?_; intro K' hK1
  refine FW.lfun (y := .lit (.int .i64 0)) hk rfl rfl rfl rfl (FW.f_assign hk (FW.holds_nil _) rfl) ?_; clear hk; intro a w hk
  refine FW.lend (hK1 _ _ ?_); clear hK1 K'
  refine FW.wseq ?_; intro K' hK2
  refine FW.wreg ?_; intro K' hK3
  refine FW.lfun (y := .lit (.pointer none)) hk rfl rfl rfl rfl (FW.f_move hk (FW.holds_nil _) rfl) ?_; clear hk; intro a w hk
  refine FW.lfun (y := .lit (.bool true)) hk rfl rfl rfl rfl (FW.f_call hk (FW.holds_nil _) rfl rfl Go.Proofs.Try.func41 rfl (by kernel_rfl) offNil.ok) ?_; clear hk; intro a w hk
  refine FW.lend (hK3 _ _ ?_); clear hK3 K'
  refine FW.wcondT hk rfl ?_
  refine FW.wreg ?_; intro K' hK4
  refine FW.lfun (y := .lit (.int .i64 7)) hk rfl rfl rfl rfl (FW.f_assign hk (FW.holds_nil _) rfl) ?_; clear hk; intro a w hk
  refine FW.lend (hK4 _ _ ?_); clear hK4 K'
  refine wp_ret ?_
  (repeat first | refine FW.then_ret ?_ | refine FW.block_ret ?_)
  obtain rfl := Option.some.inj h
  exact FW.fret1 hk rfl rfl
end Go.Proofs.Ytimaibcaehagjaa

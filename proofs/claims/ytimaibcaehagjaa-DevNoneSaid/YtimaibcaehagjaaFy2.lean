/- (*dev.Dev).Flush: its contract. -/
import Derived.Test.YtimaibcaehagjaaFy
namespace Go.Proofs.Ytimaibcaehagjaa
open Go.RowKit Go.MapKept
set_option linter.unusedVariables false
set_option maxRecDepth 20000
set_option maxHeartbeats 10000000
theorem mem_leftOf {es : Array MapEntry} {seen : Array Nat} {e : MapEntry} (h : e ∈ (leftOf es seen).toList) : e ∈ es.toList ∧ seen.contains e.born = false := by
  unfold leftOf at h
  simp at h ⊢
  exact h
theorem filter_less {α : Type} (p q : α → Bool) (e : α) (hqp : ∀ x, q x = true → p x = true) (hp : p e = true) (hq : q e = false) : ∀ l : List α, (l.filter q).length ≤ (l.filter p).length ∧ (e ∈ l → (l.filter q).length < (l.filter p).length)
  | [] => ⟨Nat.le_refl _, fun h => by cases h⟩
  | x :: l => by
    obtain ⟨h1, h2⟩ := filter_less p q e hqp hp hq l
    rw [List.filter_cons, List.filter_cons]
    have hx := hqp x
    cases hpx : p x with
    | true =>
      cases hqx : q x with
      | true =>
        simp only [if_true, List.length_cons]
        refine ⟨by omega, fun h => ?_⟩
        rcases List.mem_cons.1 h with rfl | h
        · rw [hq] at hqx; cases hqx
        · have := h2 h; omega
      | false =>
        simp only [if_true, Bool.false_eq_true, if_false, List.length_cons]
        exact ⟨by omega, fun _ => by omega⟩
    | false =>
      cases hqx : q x with
      | true => rw [hx hqx] at hpx; cases hpx
      | false =>
        simp only [Bool.false_eq_true, if_false]
        refine ⟨h1, fun h => ?_⟩
        rcases List.mem_cons.1 h with rfl | h
        · rw [hp] at hpx; cases hpx
        · exact h2 h
theorem left_less {es : Array MapEntry} {seen : Array Nat} {e : MapEntry} (h : e ∈ (leftOf es seen).toList) : (leftOf es (seen.push e.born)).size < (leftOf es seen).size := by
  obtain ⟨h1, h2⟩ := mem_leftOf h
  unfold leftOf
  have := (filter_less (fun x : MapEntry => !seen.contains x.born) (fun x => !(seen.push e.born).contains x.born) e (fun x hx => by
    rw [Array.contains_push] at hx
    simp at hx ⊢
    exact hx.1) (by rw [h2]; rfl) (by rw [Array.contains_push]; simp) es.toList).2 h1
  simpa [← Array.length_toList, Array.toList_filter] using this
theorem dev_Dev_Flush.ok (K : Nat) (v0 : ODevDev) (r : Int × ODevDev) (h : dev_Dev_Flush.f K v0 = some r) :
    ∀ (b0 : Nat) (xd0_0 : Option Addr) (xc0_0 : Nat) (xr0_1 : Nat) (xd0_3 : Option Addr) (xc0_3 : Nat), FW.OkH Go.Proofs.Try.prog 31 [.lit (.pointer (some ⟨b0, 0, none⟩))] (ODevDev.items b0 xd0_0 xc0_0 xr0_1 xd0_3 xc0_3 v0) (fun y I => ∃ (zxd0_0 : Option Addr) (zxc0_0 : Nat) (zxr0_1 : Nat) (zxd0_3 : Option Addr) (zxc0_3 : Nat), y = .lit (.int .i64 r.1) ∧ I = ODevDev.items b0 zxd0_0 zxc0_0 zxr0_1 zxd0_3 zxc0_3 r.2) := by
  intro b0 xd0_0 xc0_0 xr0_1 xd0_3 xc0_3
  refine FW.enterH (xs := [.lit (.pointer (some ⟨b0, 0, none⟩))]) Go.Proofs.Try.func31 rfl Go.Proofs.Try.ntmps31 rfl ?_
  intro M w0 a hk
  unfold dev_Dev_Flush.f at h
  refine FW.wreg ?_; intro K' hK1
  refine FW.lfun (y := .lit (.int .i64 0)) hk rfl rfl rfl rfl (FW.f_assign hk (FW.holds_nil _) rfl) ?_; clear hk; intro a w hk
  refine FW.lend (hK1 _ _ ?_); clear hK1 K'
  refine FW.wseq ?_; intro K' hK2
  refine FW.wreg ?_; intro K' hK3
  refine FW.lfun (y := .lit (.pointer (some ⟨b0, 0, none⟩))) hk rfl rfl rfl rfl (FW.f_move hk (FW.holds_nil _) rfl) ?_; clear hk; intro a w hk
  obtain ⟨t1, hr_t1, h⟩ := FW.bnd h
  refine FW.l_callH (I1 := (ODevDev.items b0 xd0_0 xc0_0 xr0_1 xd0_3 xc0_3 v0)) (I2 := []) (js := [3, 3, 3, 3]) hk rfl rfl rfl rfl rfl Go.Proofs.Try.func41 rfl (by kernel_rfl) (dev_Dev_Off.ok v0 _ hr_t1 b0 xd0_0 xc0_0 xr0_1 xd0_3 xc0_3) ?_; clear hk
  rintro _ _ ⟨rfl, rfl⟩ a w hk
  refine FW.lend (hK3 _ _ ?_); clear hK3 K'
  refine FW.wcondF (b := t1) hk h rfl (fun h hb => ?_) (fun h hb => ?_)
  · refine FW.wreg ?_; intro K' hK4
    refine FW.lfun (y := .lit (.int .i64 7)) hk rfl rfl rfl rfl (FW.f_assign hk (FW.holds_nil _) rfl) ?_; clear hk; intro a w hk
    refine FW.lend (hK4 _ _ ?_); clear hK4 K'
    refine wp_ret ?_
    (repeat first | refine FW.then_ret ?_ | refine FW.block_ret ?_)
    obtain rfl := Option.some.inj h
    replace hk := FW.S.keep (I1 := ODevDev.items b0 xd0_0 xc0_0 xr0_1 xd0_3 xc0_3 v0) (I2 := []) (js := [3, 3, 3, 3]) hk rfl
    exact FW.fretH1 hk rfl (FW.rtmp hk rfl) ⟨xd0_0, xc0_0, xr0_1, xd0_3, xc0_3, rfl, rfl⟩
  refine wp_skip ?_
  (repeat first | refine FW.then_normal ?_ | refine FW.block_normal ?_); refine hK2 _ _ ?_
  refine FW.wseq ?_; intro K' hK7
  refine FW.wreg ?_; intro K' hK8
  refine FW.lfun (y := .lit (.pointer (some ⟨b0, 0, none⟩))) hk rfl rfl rfl rfl (FW.f_move hk (FW.holds_nil _) rfl) ?_; clear hk; intro a w hk
  obtain ⟨t2, hr_t2, h⟩ := FW.bnd h
  refine FW.l_callH (I1 := (ODevDev.items b0 xd0_0 xc0_0 xr0_1 xd0_3 xc0_3 v0)) (I2 := []) (js := [3, 3, 3, 3]) hk rfl rfl rfl rfl rfl Go.Proofs.Try.func63 rfl (by kernel_rfl) (dev_Dev_step.ok K v0 _ hr_t2 b0 xd0_0 xc0_0 xr0_1 xd0_3 xc0_3) ?_; clear hk
  rintro _ _ ⟨zd2, zc2, zr2, zd3, zc3, rfl, rfl⟩ a w hk
  refine FW.lfun (y := .lit (.int .i64 t2.1)) hk rfl rfl rfl rfl (FW.f_assign hk (FW.holds_nil _) rfl) ?_; clear hk; intro a w hk
  refine FW.lend (hK8 _ _ ?_); clear hK8 K'
  refine FW.wreg ?_; intro K' hK9
  refine FW.lfun (y := .lit (.int .i64 t2.1)) hk rfl rfl rfl rfl (FW.f_move hk (FW.holds_nil _) rfl) ?_; clear hk; intro a w hk
  refine FW.lfun (y := .lit (.bool (!decide (t2.1 = 0)))) hk rfl rfl rfl rfl ((FW.f_pure (FW.p_neq hk.kn (FW.holds_nil _) rfl rfl))) ?_; clear hk; intro a w hk
  refine FW.lend (hK9 _ _ ?_); clear hK9 K'
  refine FW.wcondF (b := (!decide (t2.1 = 0))) hk h rfl (fun h hb => ?_) (fun h hb => ?_)
  · refine FW.wreg ?_; intro K' hK10
    refine FW.lfun (y := .lit (.int .i64 t2.1)) hk rfl rfl rfl rfl (FW.f_move hk (FW.holds_nil _) rfl) ?_; clear hk; intro a w hk
    refine FW.lfun (y := .lit (.int .i64 t2.1)) hk rfl rfl rfl rfl (FW.f_assign hk (FW.holds_nil _) rfl) ?_; clear hk; intro a w hk
    refine FW.lend (hK10 _ _ ?_); clear hK10 K'
    refine wp_ret ?_
    (repeat first | refine FW.then_ret ?_ | refine FW.block_ret ?_)
    obtain rfl := Option.some.inj h
    replace hk := FW.S.keep (I1 := ODevDev.items b0 zd2 zc2 zr2 zd3 zc3 t2.2) (I2 := []) (js := [3, 3, 3, 3]) hk rfl
    exact FW.fretH1 hk rfl (FW.rtmp hk rfl) ⟨zd2, zc2, zr2, zd3, zc3, rfl, rfl⟩
  refine wp_skip ?_
  (repeat first | refine FW.then_normal ?_ | refine FW.block_normal ?_); refine hK7 _ _ ?_
  obtain ⟨hok, h⟩ := FW.chk h
  obtain ⟨t21, sure, cache, steps, falls, off⟩ := t2
  dsimp only at hok h hk
  refine FW.wseq ?_; intro K' hK11
  refine FW.wreg ?_; intro K' hK12
  refine FW.lfun (y := .lit (.pointer (some ⟨b0, 0, none⟩))) hk rfl rfl rfl rfl (FW.f_move hk (FW.holds_nil _) rfl) ?_; clear hk; intro a w hk
  refine FW.lfun (y := .lit (.pointer (some ⟨b0, 0, none⟩))) hk rfl rfl rfl rfl ((FW.f_pure (FW.p_nilCheck hk.kn (FW.holds_nil _) rfl))) ?_; clear hk; intro a w hk
  refine FW.lfun (y := .lit (.pointer (some ⟨b0, 1, none⟩))) hk rfl rfl rfl rfl (FW.f_fieldPtr hk (FW.holds_nil _) rfl Go.Proofs.Try.underlying109 rfl (by kernel_rfl) rfl) ?_; clear hk; intro a w hk
  refine FW.lfun (y := .lit (.map (some zr2))) hk rfl rfl rfl rfl (FW.f_loadBlk1 hk (FW.holds_nil _) (j := 0) rfl rfl Go.Proofs.Try.underlying107 rfl rfl) ?_; clear hk; intro a w hk
  obtain ⟨es, clock, hk⟩ := FW.S.openMap (j := 2) (m := cache) hk rfl
  have hM := hk.own.get (j := 2) (it := FW.mapE zr2 cache es clock) rfl
  have hnd := FW.MapP.nodupN hM fun p hp => (flushOk_mem hok hp).1
  have hen : ∀ e ∈ es.toList, ∃ p ∈ cache, e.key = .int .i64 p.1 ∧ e.val = .string (FW.B p.2) ∧ FW.kOf e = p.1 ∧ FW.vOf e = p.2 := fun e he => FW.MapP.ent hM he
  have hall : ∀ p : MapEntry → Bool, (∀ e ∈ es.toList, p e = true) → FW.laid es.toList sure p = flushS sure cache := fun p hp => FW.MapP.laidAll hM sure p hp
  have hborn : (es.toList.map (·.born)).Nodup := hM.stamped.2.1
  clear hM
  refine FW.l_range (j := 2) (m := cache) (es := es) (clock := clock) hk rfl rfl rfl rfl Go.Proofs.Try.underlying107 ?_; clear hk; intro bi a w hk
  refine FW.lend (hK12 _ _ ?_); clear hK12 K'
  refine wp_block ?_
  refine FW.wloop (T := Array Nat) (fun seen a w => FW.S M w0 a w 34 [FW.iterI bi zr2 clock seen, FW.blk b0 109 [.lit (.slice zd2 (List.length sure) zc2), .lit (.map (some zr2)), .lit (.int .i64 steps), .lit (.slice zd3 (List.length falls) zc3), .lit (.bool off)], FW.orow zd2 zc2 9 1 c_str (FW.laid es.toList sure fun e => seen.contains e.born), FW.mapE zr2 cache es clock, FW.orow zd3 zc3 45 3 ApiFall.cells falls] [(0, [], .lit (.pointer (some ⟨b0, 0, none⟩))), (17, [], .lit (.pointer (some ⟨bi, 0, none⟩)))]) (fun seen => (leftOf es seen).size) #[] ?_ ?_
  · have e0 : FW.laid es.toList sure (fun e => (#[] : Array Nat).contains e.born) = sure := by
      unfold FW.laid
      rw [List.filter_eq_nil_iff.2 (by simp)]; rfl
    rw [e0]
    exact hk.sub ⟨rfl, rfl, trivial⟩
  clear hk
  intro seen a w hk K' hK13
  have hll : (FW.laid es.toList sure fun e => seen.contains e.born).length = sure.length := FW.laid_len _ _ _
  refine FW.wreg ?_; intro K' hK14
  refine FW.l_next (j := 3) (i := 0) (m := cache) (es := es) (clock := clock) (seen := seen) hk rfl rfl rfl rfl rfl ?_ ?_
  · intro hs a w hk
    refine FW.lfun (y := .lit (.bool false)) hk rfl rfl rfl rfl (FW.f_extract hk (FW.holds_nil _) rfl rfl) ?_; clear hk; intro a w hk
    refine FW.lend (hK14 _ _ ?_); clear hK14 K'
    refine FW.wseq ?_; intro K' hK15
    refine FW.wcondX hk rfl ?_
    refine wp_exit ?_; (repeat first | refine FW.then_exit ?_ | refine FW.block_exit_ne rfl ?_); refine FW.block_exit ?_
    (repeat first | refine FW.then_normal ?_ | refine FW.block_normal ?_); refine hK11 _ _ ?_
    have efull : (FW.laid es.toList sure fun e => seen.contains e.born) = flushS sure cache := by
      refine hall _ fun e he => ?_
      have h0 : (leftOf es seen) = #[] := Array.eq_empty_of_size_eq_zero hs
      cases hc : seen.contains e.born with
      | true => rfl
      | false =>
        exfalso
        have : e ∈ (leftOf es seen) := by unfold leftOf; simp at he hc ⊢; exact ⟨he, hc⟩
        rw [h0] at this
        simp at this
    rw [efull] at hk
    have hfl : (flushS sure cache).length = sure.length := by rw [← efull, hll]
    refine FW.wreg ?_; intro K' hK16
    refine FW.lfun (y := .lit (.pointer (some ⟨b0, 0, none⟩))) hk rfl rfl rfl rfl (FW.f_move hk (FW.holds_nil _) rfl) ?_; clear hk; intro a w hk
    refine FW.lfun (y := .lit (.pointer (some ⟨b0, 0, none⟩))) hk rfl rfl rfl rfl ((FW.f_pure (FW.p_nilCheck hk.kn (FW.holds_nil _) rfl))) ?_; clear hk; intro a w hk
    refine FW.lfun (y := .lit (.pointer (some ⟨b0, 1, none⟩))) hk rfl rfl rfl rfl (FW.f_fieldPtr hk (FW.holds_nil _) rfl Go.Proofs.Try.underlying109 rfl (by kernel_rfl) rfl) ?_; clear hk; intro a w hk
    refine FW.lfun (y := .lit (.map (some zr2))) hk rfl rfl rfl rfl (FW.f_loadBlk1 hk (FW.holds_nil _) (j := 1) rfl rfl Go.Proofs.Try.underlying107 rfl rfl) ?_; clear hk; intro a w hk
    replace hk := FW.S.closeMap (j := 3) (m := cache) (es := es) (clock := clock) hk rfl
    refine FW.l_clearMap (ev := FW.evS) (m := cache) (I' := [FW.iterI bi zr2 clock seen, FW.blk b0 109 [.lit (.slice zd2 (List.length sure) zc2), .lit (.map (some zr2)), .lit (.int .i64 steps), .lit (.slice zd3 (List.length falls) zc3), .lit (.bool off)], FW.orow zd2 zc2 9 1 c_str (flushS sure cache), FW.mapI (.int .i64) (Value.int .i64) FW.evS zr2 ([] : List (Int × List UInt8)), FW.orow zd3 zc3 45 3 ApiFall.cells falls]) (j := 3) hk rfl rfl Go.Proofs.Try.underlying107 rfl ?_; clear hk; intro w hk
    refine FW.lend (hK16 _ _ ?_); clear hK16 K'
    refine FW.wreg ?_; intro K' hK17
    refine FW.lfun (y := .lit (.int .i64 0)) hk rfl rfl rfl rfl (FW.f_assign hk (FW.holds_nil _) rfl) ?_; clear hk; intro a w hk
    refine FW.lend (hK17 _ _ ?_); clear hK17 K'
    refine wp_ret ?_
    (repeat first | refine FW.then_ret ?_ | refine FW.block_ret ?_)
    obtain rfl := Option.some.inj h
    replace hk := FW.S.cast (I' := [FW.iterI bi zr2 clock seen, FW.blk b0 109 [.lit (.slice zd2 (List.length (flushS sure cache)) zc2), .lit (.map (some zr2)), .lit (.int .i64 steps), .lit (.slice zd3 (List.length falls) zc3), .lit (.bool off)], FW.orow zd2 zc2 9 1 c_str (flushS sure cache), FW.mapI (.int .i64) (Value.int .i64) FW.evS zr2 ([] : List (Int × List UInt8)), FW.orow zd3 zc3 45 3 ApiFall.cells falls]) hk (by rw [hfl]) rfl
    replace hk := FW.S.keep (I1 := ODevDev.items b0 zd2 zc2 zr2 zd3 zc3 ⟨flushS sure cache, [], steps, falls, off⟩) (I2 := [FW.iterI bi zr2 clock seen]) (js := [4, 4, 4, 4]) hk rfl
    exact FW.fretH1 hk rfl (FW.rtmp hk rfl) ⟨zd2, zc2, zr2, zd3, zc3, rfl, rfl⟩
  · intro e he a w hk
    obtain ⟨he1, he2⟩ := mem_leftOf he
    obtain ⟨p, hp, ek, ev, hkp, hvp⟩ := hen e he1
    have hrange := flushOk_mem hok hp
    refine FW.lfun (y := .lit (.bool true)) hk rfl rfl rfl rfl (FW.f_extract hk (FW.holds_nil _) rfl rfl) ?_; clear hk; intro a w hk
    refine FW.lend (hK14 _ _ ?_); clear hK14 K'
    refine FW.wseq ?_; intro K' hK15
    refine FW.wcondT hk rfl ?_
    refine wp_skip ?_
    (repeat first | refine FW.then_normal ?_ | refine FW.block_normal ?_); refine hK15 _ _ ?_
    refine wp_block ?_
    refine FW.wreg ?_; intro K' hK18
    refine FW.lfun (y := .tup [.lit e.key, .lit e.val]) hk rfl rfl rfl rfl (FW.f_entry (j := 3) (i := 0) (m := cache) (es := es) (clock := clock) (seen := seen) hk (FW.holds_nil _) rfl rfl he1 rfl) ?_; clear hk; intro a w hk
    refine FW.lfun (y := .lit e.key) hk rfl rfl rfl rfl (FW.f_extract hk (FW.holds_nil _) rfl rfl) ?_; clear hk; intro a w hk
    refine FW.lfun (y := .lit e.val) hk rfl rfl rfl rfl (FW.f_extract hk (FW.holds_nil _) rfl rfl) ?_; clear hk; intro a w hk
    rw [ek, ev] at hk
    refine FW.lfun (y := .lit (.int .i64 p.1)) hk rfl rfl rfl rfl (FW.f_assign hk (FW.holds_nil _) rfl) ?_; clear hk; intro a w hk
    refine FW.lfun (y := .lit (.string (FW.B p.2))) hk rfl rfl rfl rfl (FW.f_assign hk (FW.holds_nil _) rfl) ?_; clear hk; intro a w hk
    refine FW.lend (hK18 _ _ ?_); clear hK18 K'
    have hmore : (FW.laid es.toList sure fun x => (seen.push e.born).contains x.born) = (FW.laid es.toList sure fun x => seen.contains x.born).set p.1.toNat p.2 := by
      rw [← hkp, ← hvp]
      refine FW.laid_more es.toList sure e _ _ hnd he1 he2 (by simp) fun x hx hne => ?_
      have hb : x.born ≠ e.born := by
        intro hbe
        obtain ⟨i, hi⟩ := List.mem_iff_getElem?.1 hx
        obtain ⟨j, hj⟩ := List.mem_iff_getElem?.1 he1
        have h1 : (es.toList.map (·.born))[i]? = some x.born := by rw [List.getElem?_map, hi]; rfl
        have h2 : (es.toList.map (·.born))[j]? = some x.born := by rw [List.getElem?_map, hj, hbe]; rfl
        have hij := (List.getElem?_inj (by have := (List.getElem?_eq_some_iff.1 h1).1; exact this) hborn).1 (h1.trans h2.symm)
        rw [hij, hj] at hi
        injection hi with hi
        exact hne hi.symm
      rw [Array.contains_push]
      simp [hb]
    refine FW.wreg1 ?_
    refine FW.lfun (y := .lit (.pointer (some ⟨b0, 0, none⟩))) hk rfl rfl rfl rfl (FW.f_move hk (FW.holds_nil _) rfl) ?_; clear hk; intro a w hk
    refine FW.lfun (y := .lit (.pointer (some ⟨b0, 0, none⟩))) hk rfl rfl rfl rfl ((FW.f_pure (FW.p_nilCheck hk.kn (FW.holds_nil _) rfl))) ?_; clear hk; intro a w hk
    refine FW.lfun (y := .lit (.pointer (some ⟨b0, 0, none⟩))) hk rfl rfl rfl rfl (FW.f_fieldPtr hk (FW.holds_nil _) rfl Go.Proofs.Try.underlying109 rfl (by kernel_rfl) rfl) ?_; clear hk; intro a w hk
    refine FW.lfun (y := .lit (.slice zd2 (List.length sure) zc2)) hk rfl rfl rfl rfl (FW.f_loadBlk1 hk (FW.holds_nil _) (j := 1) rfl rfl Go.Proofs.Try.underlying61 rfl rfl) ?_; clear hk; intro a w hk
    refine FW.lfun (y := .lit (.int .i64 p.1)) hk rfl rfl rfl rfl (FW.f_move hk (FW.holds_nil _) rfl) ?_; clear hk; intro a w hk
    refine FW.lfun (y := .lit (.string (FW.B p.2))) hk rfl rfl rfl rfl (FW.f_move hk (FW.holds_nil _) rfl) ?_; clear hk; intro a w hk
    have hc : 0 ≤ p.1 ∧ p.1 < ((FW.laid es.toList sure fun e => seen.contains e.born).length : Int) := by rw [hll]; exact hrange
    refine FW.lfun (y := FW.elA zd2 1 p.1) hk rfl rfl rfl rfl (FW.f_idxOwn (f := c_str) (l := FW.laid es.toList sure fun e => seen.contains e.born) hk (FW.holds_nil _) (j := 2) rfl rfl hll.symm rfl Go.Proofs.Try.underlying61 (by kernel_rfl) hc) ?_; clear hk; intro a w hk
    refine FW.l_storeOwn1 (f := c_str) (l := FW.laid es.toList sure fun e => seen.contains e.born) (v := p.2) (I' := [FW.iterI bi zr2 clock (seen.push e.born), FW.blk b0 109 [.lit (.slice zd2 (List.length sure) zc2), .lit (.map (some zr2)), .lit (.int .i64 steps), .lit (.slice zd3 (List.length falls) zc3), .lit (.bool off)], FW.orow zd2 zc2 9 1 c_str ((FW.laid es.toList sure fun e => seen.contains e.born).set p.1.toNat p.2), FW.mapE zr2 cache es clock, FW.orow zd3 zc3 45 3 ApiFall.cells falls]) (j := 2) hk rfl rfl hc rfl rfl rfl rfl (by kernel_rfl) rfl ?_; clear hk; intro w hk
    refine wpList_nil ?_
    rw [← hmore] at hk
    (repeat first | refine FW.then_normal ?_ | refine FW.block_normal ?_); exact hK13 (seen.push e.born) _ _ (left_less he) (hk.sub ⟨rfl, rfl, trivial⟩)
end Go.Proofs.Ytimaibcaehagjaa

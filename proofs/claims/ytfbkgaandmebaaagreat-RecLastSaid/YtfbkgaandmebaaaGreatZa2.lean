/- Put together by pack.py (my own program) of texts of mine: Fy2, Hmc, Rq, RtP0, RtP1, RtP2, RtP3. -/
import Derived.Laws.Externs
import Derived.KernelRfl
import Derived.Test.YtfbkgaandmebaaaGreatProg
import Derived.Test.YtfbkgaandmebaaaGreatZa1
namespace Go.Proofs.YtfbkgaandmebaaaGreat
open Go.RowKit Go.MapKept
set_option linter.unusedVariables false
set_option maxRecDepth 20000
set_option maxHeartbeats 10000000
theorem mem_leftOf {es : Array MapEntry} {seen : Array Nat} {e : MapEntry} (h : e ∈ (leftOf es seen).toList) : e ∈ es.toList ∧ seen.contains e.born = false := by
  unfold leftOf at h
  simp at h ⊢
  exact h
theorem filter_less {α : Type} (p q : α → Bool) (e : α) (hqp : ∀ x, q x = true → p x = true) (hp : p e = true) (hq : q e = false) : ∀ l : List α, (l.filter q).length ≤ (l.filter p).length ∧ (e ∈ l → (l.filter q).length < (l.filter p).length)
  | [] => ⟨Nat.le_refl _, fun h => by cases h⟩
  | x :: l => by
    obtain ⟨h1, h2⟩ := filter_less p q e hqp hp hq l
    rw [List.filter_cons, List.filter_cons]
    have hx := hqp x
    cases hpx : p x with
    | true =>
      cases hqx : q x with
      | true =>
        simp only [if_true, List.length_cons]
        refine ⟨by omega, fun h => ?_⟩
        rcases List.mem_cons.1 h with rfl | h
        · rw [hq] at hqx; cases hqx
        · have := h2 h; omega
      | false =>
        simp only [if_true, Bool.false_eq_true, if_false, List.length_cons]
        exact ⟨by omega, fun _ => by omega⟩
    | false =>
      cases hqx : q x with
      | true => rw [hx hqx] at hpx; cases hpx
      | false =>
        simp only [Bool.false_eq_true, if_false]
        refine ⟨h1, fun h => ?_⟩
        rcases List.mem_cons.1 h with rfl | h
        · rw [hp] at hpx; cases hpx
        · exact h2 h
theorem left_less {es : Array MapEntry} {seen : Array Nat} {e : MapEntry} (h : e ∈ (leftOf es seen).toList) : (leftOf es (seen.push e.born)).size < (leftOf es seen).size := by
  obtain ⟨h1, h2⟩ := mem_leftOf h
  unfold leftOf
  have := (filter_less (fun x : MapEntry => !seen.contains x.born) (fun x => !(seen.push e.born).contains x.born) e (fun x hx => by
    rw [Array.contains_push] at hx
    simp at hx ⊢
    exact hx.1) (by rw [h2]; rfl) (by rw [Array.contains_push]; simp) es.toList).2 h1
  simpa [← Array.length_toList, Array.toList_filter] using this
theorem dev_Dev_Flush.ok (K : Nat) (v0 : ODevDev) (r : Int × ODevDev) (h : dev_Dev_Flush.f K v0 = some r) :
    ∀ (b0 : Nat) (xd0_0 : Option Addr) (xc0_0 : Nat) (xr0_1 : Nat) (xd0_3 : Option Addr) (xc0_3 : Nat), FW.OkH Go.Proofs.Tryz.prog 55 [.lit (.pointer (some ⟨b0, 0, none⟩))] (ODevDev.items b0 xd0_0 xc0_0 xr0_1 xd0_3 xc0_3 v0) (fun y I => ∃ (zxd0_0 : Option Addr) (zxc0_0 : Nat) (zxr0_1 : Nat) (zxd0_3 : Option Addr) (zxc0_3 : Nat), y = .lit (.int .i64 r.1) ∧ I = ODevDev.items b0 zxd0_0 zxc0_0 zxr0_1 zxd0_3 zxc0_3 r.2) := by
  intro b0 xd0_0 xc0_0 xr0_1 xd0_3 xc0_3
  refine FW.enterH (xs := [.lit (.pointer (some ⟨b0, 0, none⟩))]) Go.Proofs.Tryz.func55 rfl Go.Proofs.Tryz.ntmps55 rfl ?_
  intro M w0 a hk
  unfold dev_Dev_Flush.f at h
  refine FW.wreg ?_; intro K' hK1
  refine FW.lfun (y := .lit (.int .i64 0)) hk rfl rfl rfl rfl (FW.f_assign hk (FW.holds_nil _) rfl) ?_; clear hk; intro a w hk
  refine FW.lend (hK1 _ _ ?_); clear hK1 K'
  refine FW.wseq ?_; intro K' hK2
  refine FW.wreg ?_; intro K' hK3
  refine FW.lfun (y := .lit (.pointer (some ⟨b0, 0, none⟩))) hk rfl rfl rfl rfl (FW.f_move hk (FW.holds_nil _) rfl) ?_; clear hk; intro a w hk
  obtain ⟨t1, hr_t1, h⟩ := FW.bnd h
  refine FW.l_callH (I1 := (ODevDev.items b0 xd0_0 xc0_0 xr0_1 xd0_3 xc0_3 v0)) (I2 := []) (js := [3, 3, 3, 3]) hk rfl rfl rfl rfl rfl Go.Proofs.Tryz.func13 rfl (by kernel_rfl) (dev_Dev_Off.ok v0 _ hr_t1 b0 xd0_0 xc0_0 xr0_1 xd0_3 xc0_3) ?_; clear hk
  rintro _ _ ⟨rfl, rfl⟩ a w hk
  refine FW.lend (hK3 _ _ ?_); clear hK3 K'
  refine FW.wcondF (b := t1) hk h rfl (fun h hb => ?_) (fun h hb => ?_)
  · refine FW.wreg ?_; intro K' hK4
    refine FW.lfun (y := .lit (.int .i64 7)) hk rfl rfl rfl rfl (FW.f_assign hk (FW.holds_nil _) rfl) ?_; clear hk; intro a w hk
    refine FW.lend (hK4 _ _ ?_); clear hK4 K'
    refine wp_ret ?_
    (repeat first | refine FW.then_ret ?_ | refine FW.block_ret ?_)
    obtain rfl := Option.some.inj h
    replace hk := FW.S.keep (I1 := ODevDev.items b0 xd0_0 xc0_0 xr0_1 xd0_3 xc0_3 v0) (I2 := []) (js := [3, 3, 3, 3]) hk rfl
    exact FW.fretH1 hk rfl (FW.rtmp hk rfl) ⟨xd0_0, xc0_0, xr0_1, xd0_3, xc0_3, rfl, rfl⟩
  refine wp_skip ?_
  (repeat first | refine FW.then_normal ?_ | refine FW.block_normal ?_); refine hK2 _ _ ?_
  refine FW.wseq ?_; intro K' hK7
  refine FW.wreg ?_; intro K' hK8
  refine FW.lfun (y := .lit (.pointer (some ⟨b0, 0, none⟩))) hk rfl rfl rfl rfl (FW.f_move hk (FW.holds_nil _) rfl) ?_; clear hk; intro a w hk
  obtain ⟨t2, hr_t2, h⟩ := FW.bnd h
  refine FW.l_callH (I1 := (ODevDev.items b0 xd0_0 xc0_0 xr0_1 xd0_3 xc0_3 v0)) (I2 := []) (js := [3, 3, 3, 3]) hk rfl rfl rfl rfl rfl Go.Proofs.Tryz.func79 rfl (by kernel_rfl) (dev_Dev_step.ok K v0 _ hr_t2 b0 xd0_0 xc0_0 xr0_1 xd0_3 xc0_3) ?_; clear hk
  rintro _ _ ⟨zd2, zc2, zr2, zd3, zc3, rfl, rfl⟩ a w hk
  refine FW.lfun (y := .lit (.int .i64 t2.1)) hk rfl rfl rfl rfl (FW.f_assign hk (FW.holds_nil _) rfl) ?_; clear hk; intro a w hk
  refine FW.lend (hK8 _ _ ?_); clear hK8 K'
  refine FW.wreg ?_; intro K' hK9
  refine FW.lfun (y := .lit (.int .i64 t2.1)) hk rfl rfl rfl rfl (FW.f_move hk (FW.holds_nil _) rfl) ?_; clear hk; intro a w hk
  refine FW.lfun (y := .lit (.bool (!decide (t2.1 = 0)))) hk rfl rfl rfl rfl ((FW.f_pure (FW.p_neq hk.kn (FW.holds_nil _) rfl rfl))) ?_; clear hk; intro a w hk
  refine FW.lend (hK9 _ _ ?_); clear hK9 K'
  refine FW.wcondF (b := (!decide (t2.1 = 0))) hk h rfl (fun h hb => ?_) (fun h hb => ?_)
  · refine FW.wreg ?_; intro K' hK10
    refine FW.lfun (y := .lit (.int .i64 t2.1)) hk rfl rfl rfl rfl (FW.f_move hk (FW.holds_nil _) rfl) ?_; clear hk; intro a w hk
    refine FW.lfun (y := .lit (.int .i64 t2.1)) hk rfl rfl rfl rfl (FW.f_assign hk (FW.holds_nil _) rfl) ?_; clear hk; intro a w hk
    refine FW.lend (hK10 _ _ ?_); clear hK10 K'
    refine wp_ret ?_
    (repeat first | refine FW.then_ret ?_ | refine FW.block_ret ?_)
    obtain rfl := Option.some.inj h
    replace hk := FW.S.keep (I1 := ODevDev.items b0 zd2 zc2 zr2 zd3 zc3 t2.2) (I2 := []) (js := [3, 3, 3, 3]) hk rfl
    exact FW.fretH1 hk rfl (FW.rtmp hk rfl) ⟨zd2, zc2, zr2, zd3, zc3, rfl, rfl⟩
  refine wp_skip ?_
  (repeat first | refine FW.then_normal ?_ | refine FW.block_normal ?_); refine hK7 _ _ ?_
  obtain ⟨hok, h⟩ := FW.chk h
  obtain ⟨t21, sure, cache, steps, falls, off⟩ := t2
  dsimp only at hok h hk
  refine FW.wseq ?_; intro K' hK11
  refine FW.wreg ?_; intro K' hK12
  refine FW.lfun (y := .lit (.pointer (some ⟨b0, 0, none⟩))) hk rfl rfl rfl rfl (FW.f_move hk (FW.holds_nil _) rfl) ?_; clear hk; intro a w hk
  refine FW.lfun (y := .lit (.pointer (some ⟨b0, 0, none⟩))) hk rfl rfl rfl rfl ((FW.f_pure (FW.p_nilCheck hk.kn (FW.holds_nil _) rfl))) ?_; clear hk; intro a w hk
  refine FW.lfun (y := .lit (.pointer (some ⟨b0, 1, none⟩))) hk rfl rfl rfl rfl (FW.f_fieldPtr hk (FW.holds_nil _) rfl Go.Proofs.Tryz.underlying75 rfl (by kernel_rfl) rfl) ?_; clear hk; intro a w hk
  refine FW.lfun (y := .lit (.map (some zr2))) hk rfl rfl rfl rfl (FW.f_loadBlk1 hk (FW.holds_nil _) (j := 0) rfl rfl Go.Proofs.Tryz.underlying73 rfl rfl) ?_; clear hk; intro a w hk
  obtain ⟨es, clock, hk⟩ := FW.S.openMap (j := 2) (m := cache) hk rfl
  have hM := hk.own.get (j := 2) (it := FW.mapE zr2 cache es clock) rfl
  have hnd := FW.MapP.nodupN hM fun p hp => (flushOk_mem hok hp).1
  have hen : ∀ e ∈ es.toList, ∃ p ∈ cache, e.key = .int .i64 p.1 ∧ e.val = .string (FW.B p.2) ∧ FW.kOf e = p.1 ∧ FW.vOf e = p.2 := fun e he => FW.MapP.ent hM he
  have hall : ∀ p : MapEntry → Bool, (∀ e ∈ es.toList, p e = true) → FW.laid es.toList sure p = flushS sure cache := fun p hp => FW.MapP.laidAll hM sure p hp
  have hborn : (es.toList.map (·.born)).Nodup := hM.stamped.2.1
  clear hM
  refine FW.l_range (j := 2) (m := cache) (es := es) (clock := clock) hk rfl rfl rfl rfl Go.Proofs.Tryz.underlying73 ?_; clear hk; intro bi a w hk
  refine FW.lend (hK12 _ _ ?_); clear hK12 K'
  refine wp_block ?_
  refine FW.wloop (T := Array Nat) (fun seen a w => FW.S M w0 a w 34 [FW.iterI bi zr2 clock seen, FW.blk b0 75 [.lit (.slice zd2 (List.length sure) zc2), .lit (.map (some zr2)), .lit (.int .i64 steps), .lit (.slice zd3 (List.length falls) zc3), .lit (.bool off)], FW.orow zd2 zc2 9 1 c_str (FW.laid es.toList sure fun e => seen.contains e.born), FW.mapE zr2 cache es clock, FW.orow zd3 zc3 52 3 ApiFall.cells falls] [(0, [], .lit (.pointer (some ⟨b0, 0, none⟩))), (17, [], .lit (.pointer (some ⟨bi, 0, none⟩)))]) (fun seen => (leftOf es seen).size) #[] ?_ ?_
  · have e0 : FW.laid es.toList sure (fun e => (#[] : Array Nat).contains e.born) = sure := by
      unfold FW.laid
      rw [List.filter_eq_nil_iff.2 (by simp)]; rfl
    rw [e0]
    exact hk.sub ⟨rfl, rfl, trivial⟩
  clear hk
  intro seen a w hk K' hK13
  have hll : (FW.laid es.toList sure fun e => seen.contains e.born).length = sure.length := FW.laid_len _ _ _
  refine FW.wreg ?_; intro K' hK14
  refine FW.l_next (j := 3) (i := 0) (m := cache) (es := es) (clock := clock) (seen := seen) hk rfl rfl rfl rfl rfl ?_ ?_
  · intro hs a w hk
    refine FW.lfun (y := .lit (.bool false)) hk rfl rfl rfl rfl (FW.f_extract hk (FW.holds_nil _) rfl rfl) ?_; clear hk; intro a w hk
    refine FW.lend (hK14 _ _ ?_); clear hK14 K'
    refine FW.wseq ?_; intro K' hK15
    refine FW.wcondX hk rfl ?_
    refine wp_exit ?_; (repeat first | refine FW.then_exit ?_ | refine FW.block_exit_ne rfl ?_); refine FW.block_exit ?_
    (repeat first | refine FW.then_normal ?_ | refine FW.block_normal ?_); refine hK11 _ _ ?_
    have efull : (FW.laid es.toList sure fun e => seen.contains e.born) = flushS sure cache := by
      refine hall _ fun e he => ?_
      have h0 : (leftOf es seen) = #[] := Array.eq_empty_of_size_eq_zero hs
      cases hc : seen.contains e.born with
      | true => rfl
      | false =>
        exfalso
        have : e ∈ (leftOf es seen) := by unfold leftOf; simp at he hc ⊢; exact ⟨he, hc⟩
        rw [h0] at this
        simp at this
    rw [efull] at hk
    have hfl : (flushS sure cache).length = sure.length := by rw [← efull, hll]
    refine FW.wreg ?_; intro K' hK16
    refine FW.lfun (y := .lit (.pointer (some ⟨b0, 0, none⟩))) hk rfl rfl rfl rfl (FW.f_move hk (FW.holds_nil _) rfl) ?_; clear hk; intro a w hk
    refine FW.lfun (y := .lit (.pointer (some ⟨b0, 0, none⟩))) hk rfl rfl rfl rfl ((FW.f_pure (FW.p_nilCheck hk.kn (FW.holds_nil _) rfl))) ?_; clear hk; intro a w hk
    refine FW.lfun (y := .lit (.pointer (some ⟨b0, 1, none⟩))) hk rfl rfl rfl rfl (FW.f_fieldPtr hk (FW.holds_nil _) rfl Go.Proofs.Tryz.underlying75 rfl (by kernel_rfl) rfl) ?_; clear hk; intro a w hk
    refine FW.lfun (y := .lit (.map (some zr2))) hk rfl rfl rfl rfl (FW.f_loadBlk1 hk (FW.holds_nil _) (j := 1) rfl rfl Go.Proofs.Tryz.underlying73 rfl rfl) ?_; clear hk; intro a w hk
    replace hk := FW.S.closeMap (j := 3) (m := cache) (es := es) (clock := clock) hk rfl
    refine FW.l_clearMap (ev := FW.evS) (m := cache) (I' := [FW.iterI bi zr2 clock seen, FW.blk b0 75 [.lit (.slice zd2 (List.length sure) zc2), .lit (.map (some zr2)), .lit (.int .i64 steps), .lit (.slice zd3 (List.length falls) zc3), .lit (.bool off)], FW.orow zd2 zc2 9 1 c_str (flushS sure cache), FW.mapI (.int .i64) (Value.int .i64) FW.evS zr2 ([] : List (Int × List UInt8)), FW.orow zd3 zc3 52 3 ApiFall.cells falls]) (j := 3) hk rfl rfl Go.Proofs.Tryz.underlying73 rfl ?_; clear hk; intro w hk
    refine FW.lend (hK16 _ _ ?_); clear hK16 K'
    refine FW.wreg ?_; intro K' hK17
    refine FW.lfun (y := .lit (.int .i64 0)) hk rfl rfl rfl rfl (FW.f_assign hk (FW.holds_nil _) rfl) ?_; clear hk; intro a w hk
    refine FW.lend (hK17 _ _ ?_); clear hK17 K'
    refine wp_ret ?_
    (repeat first | refine FW.then_ret ?_ | refine FW.block_ret ?_)
    obtain rfl := Option.some.inj h
    replace hk := FW.S.cast (I' := [FW.iterI bi zr2 clock seen, FW.blk b0 75 [.lit (.slice zd2 (List.length (flushS sure cache)) zc2), .lit (.map (some zr2)), .lit (.int .i64 steps), .lit (.slice zd3 (List.length falls) zc3), .lit (.bool off)], FW.orow zd2 zc2 9 1 c_str (flushS sure cache), FW.mapI (.int .i64) (Value.int .i64) FW.evS zr2 ([] : List (Int × List UInt8)), FW.orow zd3 zc3 52 3 ApiFall.cells falls]) hk (by rw [hfl]) rfl
    replace hk := FW.S.keep (I1 := ODevDev.items b0 zd2 zc2 zr2 zd3 zc3 ⟨flushS sure cache, [], steps, falls, off⟩) (I2 := [FW.iterI bi zr2 clock seen]) (js := [4, 4, 4, 4]) hk rfl
    exact FW.fretH1 hk rfl (FW.rtmp hk rfl) ⟨zd2, zc2, zr2, zd3, zc3, rfl, rfl⟩
  · intro e he a w hk
    obtain ⟨he1, he2⟩ := mem_leftOf he
    obtain ⟨p, hp, ek, ev, hkp, hvp⟩ := hen e he1
    have hrange := flushOk_mem hok hp
    refine FW.lfun (y := .lit (.bool true)) hk rfl rfl rfl rfl (FW.f_extract hk (FW.holds_nil _) rfl rfl) ?_; clear hk; intro a w hk
    refine FW.lend (hK14 _ _ ?_); clear hK14 K'
    refine FW.wseq ?_; intro K' hK15
    refine FW.wcondT hk rfl ?_
    refine wp_skip ?_
    (repeat first | refine FW.then_normal ?_ | refine FW.block_normal ?_); refine hK15 _ _ ?_
    refine wp_block ?_
    refine FW.wreg ?_; intro K' hK18
    refine FW.lfun (y := .tup [.lit e.key, .lit e.val]) hk rfl rfl rfl rfl (FW.f_entry (j := 3) (i := 0) (m := cache) (es := es) (clock := clock) (seen := seen) hk (FW.holds_nil _) rfl rfl he1 rfl) ?_; clear hk; intro a w hk
    refine FW.lfun (y := .lit e.key) hk rfl rfl rfl rfl (FW.f_extract hk (FW.holds_nil _) rfl rfl) ?_; clear hk; intro a w hk
    refine FW.lfun (y := .lit e.val) hk rfl rfl rfl rfl (FW.f_extract hk (FW.holds_nil _) rfl rfl) ?_; clear hk; intro a w hk
    rw [ek, ev] at hk
    refine FW.lfun (y := .lit (.int .i64 p.1)) hk rfl rfl rfl rfl (FW.f_assign hk (FW.holds_nil _) rfl) ?_; clear hk; intro a w hk
    refine FW.lfun (y := .lit (.string (FW.B p.2))) hk rfl rfl rfl rfl (FW.f_assign hk (FW.holds_nil _) rfl) ?_; clear hk; intro a w hk
    refine FW.lend (hK18 _ _ ?_); clear hK18 K'
    have hmore : (FW.laid es.toList sure fun x => (seen.push e.born).contains x.born) = (FW.laid es.toList sure fun x => seen.contains x.born).set p.1.toNat p.2 := by
      rw [← hkp, ← hvp]
      refine FW.laid_more es.toList sure e _ _ hnd he1 he2 (by simp) fun x hx hne => ?_
      have hb : x.born ≠ e.born := by
        intro hbe
        obtain ⟨i, hi⟩ := List.mem_iff_getElem?.1 hx
        obtain ⟨j, hj⟩ := List.mem_iff_getElem?.1 he1
        have h1 : (es.toList.map (·.born))[i]? = some x.born := by rw [List.getElem?_map, hi]; rfl
        have h2 : (es.toList.map (·.born))[j]? = some x.born := by rw [List.getElem?_map, hj, hbe]; rfl
        have hij := (List.getElem?_inj (by have := (List.getElem?_eq_some_iff.1 h1).1; exact this) hborn).1 (h1.trans h2.symm)
        rw [hij, hj] at hi
        injection hi with hi
        exact hne hi.symm
      rw [Array.contains_push]
      simp [hb]
    refine FW.wreg1 ?_
    refine FW.lfun (y := .lit (.pointer (some ⟨b0, 0, none⟩))) hk rfl rfl rfl rfl (FW.f_move hk (FW.holds_nil _) rfl) ?_; clear hk; intro a w hk
    refine FW.lfun (y := .lit (.pointer (some ⟨b0, 0, none⟩))) hk rfl rfl rfl rfl ((FW.f_pure (FW.p_nilCheck hk.kn (FW.holds_nil _) rfl))) ?_; clear hk; intro a w hk
    refine FW.lfun (y := .lit (.pointer (some ⟨b0, 0, none⟩))) hk rfl rfl rfl rfl (FW.f_fieldPtr hk (FW.holds_nil _) rfl Go.Proofs.Tryz.underlying75 rfl (by kernel_rfl) rfl) ?_; clear hk; intro a w hk
    refine FW.lfun (y := .lit (.slice zd2 (List.length sure) zc2)) hk rfl rfl rfl rfl (FW.f_loadBlk1 hk (FW.holds_nil _) (j := 1) rfl rfl Go.Proofs.Tryz.underlying72 rfl rfl) ?_; clear hk; intro a w hk
    refine FW.lfun (y := .lit (.int .i64 p.1)) hk rfl rfl rfl rfl (FW.f_move hk (FW.holds_nil _) rfl) ?_; clear hk; intro a w hk
    refine FW.lfun (y := .lit (.string (FW.B p.2))) hk rfl rfl rfl rfl (FW.f_move hk (FW.holds_nil _) rfl) ?_; clear hk; intro a w hk
    have hc : 0 ≤ p.1 ∧ p.1 < ((FW.laid es.toList sure fun e => seen.contains e.born).length : Int) := by rw [hll]; exact hrange
    refine FW.lfun (y := FW.elA zd2 1 p.1) hk rfl rfl rfl rfl (FW.f_idxOwn (f := c_str) (l := FW.laid es.toList sure fun e => seen.contains e.born) hk (FW.holds_nil _) (j := 2) rfl rfl hll.symm rfl Go.Proofs.Tryz.underlying72 (by kernel_rfl) hc) ?_; clear hk; intro a w hk
    refine FW.l_storeOwn1 (f := c_str) (l := FW.laid es.toList sure fun e => seen.contains e.born) (v := p.2) (I' := [FW.iterI bi zr2 clock (seen.push e.born), FW.blk b0 75 [.lit (.slice zd2 (List.length sure) zc2), .lit (.map (some zr2)), .lit (.int .i64 steps), .lit (.slice zd3 (List.length falls) zc3), .lit (.bool off)], FW.orow zd2 zc2 9 1 c_str ((FW.laid es.toList sure fun e => seen.contains e.born).set p.1.toNat p.2), FW.mapE zr2 cache es clock, FW.orow zd3 zc3 52 3 ApiFall.cells falls]) (j := 2) hk rfl rfl hc rfl rfl rfl rfl (by kernel_rfl) rfl ?_; clear hk; intro w hk
    refine wpList_nil ?_
    rw [← hmore] at hk
    (repeat first | refine FW.then_normal ?_ | refine FW.block_normal ?_); exact hK13 (seen.push e.born) _ _ (left_less he) (hk.sub ⟨rfl, rfl, trivial⟩)
end Go.Proofs.YtfbkgaandmebaaaGreat
namespace Go.Proofs.YtfbkgaandmebaaaGreat.FW
variable {Df : List Deferred}
open Go.RowKit Go.MapKept
set_option linter.unusedVariables false
set_option linter.unusedSimpArgs false
set_option linter.unusedSectionVars false
section
variable {P : Program} {M : Nat → Prop} {w0 : Bs} {w : World} {a : Act} {n : Nat} {I I' : List It} {σ : St} {c : Ch} {dst : Option Tmp} {ty : TypeId} {pos : String} {aft : Array Edge} {g : Option (Nat × Bool)} {x y z : Operand} {u : AV} {ops : Array Oper} {Q : Exit → Act → World → Prop} {rest : List Oper} {d j : Nat}
  {κ ν : Type} [DecidableEq κ] {D : TypeDesc} {ek : κ → Value} {ev : ν → Value} {r : Nat} {m : List (κ × ν)} {k : κ} {v : ν} {t kt et : TypeId}
theorem run_eqMap (w : World) (t kt et : TypeId) (p : Option Nat) (h : P.underlying t = some (.map kt et)) : (binOp .eql t (.map p) (.map none)).run P w = .ok (.bool p.isNone) w := by
  have e : ∀ d, (Op.equalIn (d + 1) t (.map p) (.map none)).run P w = .ok p.isNone w := fun d => by cases p <;> simp [Op.equalIn, run_underlying h]
  simp only [binOp]
  simp [show Op.equal t (.map p) (.map none) = Op.equalIn (9999 + 1) t (.map p) (.map none) from rfl, e 9999]
theorem eqGuard_map (op : BinOp) (t : TypeId) (x y : Operand) (A B : Option Nat) (w : World) : (eqGuard op t x y (.map A) (.map B)).run P w = .ok () w := by
  unfold eqGuard; cases op <;> simp
theorem f_eqMapNil {t' : TypeId} {p : Option Nat} (hk : S M w0 a w n I σ Df) (hc : holds a c) (hx : opvc σ c x = some (.lit (.map p))) (hy : opvc σ c y = some (.lit (.map none))) (hu : P.underlying t = some (.map kt et)) :
    Fun P (okM M I) ⟨dst, .binOp .eql t x y t', ty, pos, aft, g⟩ a w (.lit (.bool p.isNone)) := by
  refine .inl ⟨.bool p.isNone, w, ?_, New.refl w, rep_lit rfl⟩
  simp only [execOp, hk.kn.val hc hx, hk.kn.val hc hy, Sem.run_bind, eqGuard_map, Result.andThen_ok, run_eqMap w t kt et p hu, Sem.run_pure]
theorem f_ifaceMap {p : Option Nat} (hk : S M w0 a w n I σ Df) (hc : holds a c) (hx : opvc σ c x = some (.lit (.map p))) (hu : P.underlying t = some (.map kt et)) :
    Fun P (okM M I) ⟨dst, .makeInterface t x, ty, pos, aft, g⟩ a w (.lit (.iface t (.map p))) := by
  refine .inl ⟨.iface t (.map p), w, ?_, New.refl w, rep_lit rfl⟩
  simp [execOp, hk.kn.val hc hx, run_underlying hu, Instr.makeInterface]
theorem f_tassertMap {xt : TypeId} {p : Option Nat} (hk : S M w0 a w n I σ Df) (hc : holds a c) (hu : P.underlying t = some (.map kt et)) (hx : opvc σ c x = some (.lit (.iface t (.map p)))) :
    Fun P (okM M I) ⟨dst, .typeAssert x xt t false, ty, pos, aft, g⟩ a w (.lit (.map p)) := by
  refine .inl ⟨.map p, w, ?_, New.refl w, rep_lit rfl⟩
  simp [execOp, Instr.typeAssert, run_underlying hu, hk.kn.val hc hx]
theorem run_mapsClone {es : Array MapEntry} {clock : Nat} (t : TypeId) (hb : w.heap[r]? = some (.map es clock)) :
    (Extern.MapsClone.clone #[.iface t (.map (some r))]).run P w = .ok (.iface t (.map (some w.heap.size))) (w.alloc (.map es clock)) := by
  have e : Extern.MapsClone.clone #[.iface t (.map (some r))] = (getObj r >>= fun o => match o with
      | .map entries clock => (newObj (.map entries clock) >>= fun n => pure (.iface t (.map (some n))))
      | _ => stuck "maps.clone: a map expected") := rfl
  rw [e]
  simp [MapKept.run_getObj_map hb, Result.andThen, go_sem]
theorem l_mapsClone {f : Operand} {fid : FuncId} {tys : Array TypeId} {fn : Func} (hk : S M w0 a w n I σ Df) (hj : I[j]? = some (mapI D ek ev r m)) (hn : Nat.blt d n = true) (hf : chFree σ d = true)
    (hv : opvc σ [] f = some (.lit (.func (.func fid) #[] #[]))) (hx : opvc σ [] x = some (.lit (.iface t (.map (some r))))) (hfn : P.funcs[fid]? = some fn) (hname : (fn.name == "runtime.NumGoroutine") = false) (hb : fn.body.isNone = true) (hnx : Extern.findNext fn = none) (he : Extern.find fn = some Extern.MapsClone.clone)
    (h : ∀ r' a' w', S M w0 a' w' n (mapI D ek ev r' m :: I) ((d, [], .lit (.iface t (.map (some r')))) :: σ) Df → wpList P ops Q rest a' w') :
    wpList P ops Q (⟨some d, .call { callee := .value f, args := #[x], argTypes := tys }, ty, pos, aft, none⟩ :: rest) a w := by
  obtain ⟨es, clock, hm⟩ := hk.own.get hj
  have hr : (execOp a.eval ⟨some d, .call { callee := .value f, args := #[x], argTypes := tys }, ty, pos, aft, none⟩).run P w = .ok (.value (.iface t (.map (some w.heap.size)))) (w.alloc (.map es clock)) := by
    simp only [execOp, resolve, hk.kn.val (holds_nil a) hv, Deferred.ofValue, invoke]
    have h1 := run_callFunc_extern hfn hname hb hnx he #[.iface t (.map (some r))] w
    rw [run_mapsClone t hm.at_] at h1
    simpa [hk.kn.val (holds_nil a) hx] using h1
  refine leff hk rfl rfl hn hf hr ?_ (rep_lit rfl) (fun a' hk' => h _ _ _ hk')
  refine hk.push (New.alloc w _) ⟨es, clock, heap_alloc_new w _, hm.stamped, hm.ents, hm.key⟩ fun k hk' => ?_
  have hk' : k = w.heap.size := hk'
  subst hk'
  simp
end
end Go.Proofs.YtfbkgaandmebaaaGreat.FW
namespace Go.Proofs.YtfbkgaandmebaaaGreat
open Go.RowKit
set_option linter.unusedVariables false
set_option maxRecDepth 20000
set_option maxHeartbeats 10000000
theorem mapsCloneU.ok (m : List (Int × List UInt8)) (r : Nat) :
    FW.OkH Go.Proofs.Tryz.prog 56 [.lit (.map (some r))] [FW.mapI (.int .u64) (Value.int .u64) FW.evS r m] (fun y I => ∃ r' : Nat, y = .lit (.map (some r')) ∧ I = [FW.mapI (.int .u64) (Value.int .u64) FW.evS r' m, FW.mapI (.int .u64) (Value.int .u64) FW.evS r m]) := by
  refine FW.enterH (xs := [.lit (.map (some r))]) Go.Proofs.Tryz.func56 rfl Go.Proofs.Tryz.ntmps56 rfl ?_
  intro M w0 a hk
  refine FW.wreg ?_; intro K' hK1
  refine FW.lfun (y := .lit (.map none)) hk rfl rfl rfl rfl (FW.f_assign hk (FW.holds_nil _) rfl) ?_; clear hk; intro a w hk
  refine FW.lend (hK1 _ _ ?_); clear hK1 K'
  refine FW.wseq ?_; intro K' hK2
  refine FW.wreg ?_; intro K' hK3
  refine FW.lfun (y := .lit (.map (some r))) hk rfl rfl rfl rfl (FW.f_move hk (FW.holds_nil _) rfl) ?_; clear hk; intro a w hk
  refine FW.lfun (y := .lit (.bool false)) hk rfl rfl rfl rfl (FW.f_eqMapNil (p := some r) hk (FW.holds_nil _) rfl rfl Go.Proofs.Tryz.underlying67) ?_; clear hk; intro a w hk
  refine FW.lend (hK3 _ _ ?_); clear hK3 K'
  refine FW.wcondX hk rfl ?_
  refine wp_skip ?_
  (repeat first | refine FW.then_normal ?_ | refine FW.block_normal ?_); refine hK2 _ _ ?_; clear hK2 K'
  refine FW.wreg ?_; intro K' hK4
  refine FW.lfun (y := .lit (.map (some r))) hk rfl rfl rfl rfl (FW.f_move hk (FW.holds_nil _) rfl) ?_; clear hk; intro a w hk
  refine FW.lfun (y := .lit (.iface 67 (.map (some r)))) hk rfl rfl rfl rfl (FW.f_ifaceMap hk (FW.holds_nil _) rfl Go.Proofs.Tryz.underlying67) ?_; clear hk; intro a w hk
  refine FW.l_mapsClone (j := 0) hk rfl rfl rfl rfl rfl Go.Proofs.Tryz.func80 rfl (by kernel_rfl) (by kernel_rfl) (by kernel_rfl) ?_; clear hk; intro r' a w hk
  refine FW.lfun (y := .lit (.map (some r'))) hk rfl rfl rfl rfl (FW.f_tassertMap hk (FW.holds_nil _) Go.Proofs.Tryz.underlying67 rfl) ?_; clear hk; intro a w hk
  refine FW.lfun (y := .lit (.map (some r'))) hk rfl rfl rfl rfl (FW.f_assign hk (FW.holds_nil _) rfl) ?_; clear hk; intro a w hk
  refine FW.lend (hK4 _ _ ?_); clear hK4 K'
  refine wp_ret ?_
  (repeat first | refine FW.then_ret ?_ | refine FW.block_ret ?_)
  exact FW.fretH1 hk rfl (FW.rtmp hk rfl) ⟨r', rfl, rfl⟩
end Go.Proofs.YtfbkgaandmebaaaGreat
namespace Go.Proofs.YtfbkgaandmebaaaGreat
set_option linter.unusedVariables false
set_option maxRecDepth 20000
set_option maxHeartbeats 10000000
theorem rec_parts.ok  (v0 : ODevDev) (r : Int × Int × Int × Int) (h : rec_parts.f v0 = some r) :
    ∀ (b0 : Nat) (xd0_0 : Option Addr) (xc0_0 : Nat) (xr0_1 : Nat) (xd0_3 : Option Addr) (xc0_3 : Nat), FW.OkH Go.Proofs.Tryz.prog 40 [.lit (.pointer (some ⟨b0, 0, none⟩))] (ODevDev.items b0 xd0_0 xc0_0 xr0_1 xd0_3 xc0_3 v0) (fun y I => y = .agg [.lit (.int .i64 r.1), .lit (.int .i64 r.2.1), .lit (.int .i64 r.2.2.1), .lit (.int .i64 r.2.2.2)] ∧ I = ODevDev.items b0 xd0_0 xc0_0 xr0_1 xd0_3 xc0_3 v0) := by
  intro b0 xd0_0 xc0_0 xr0_1 xd0_3 xc0_3
  refine FW.enterH (xs := [.lit (.pointer (some ⟨b0, 0, none⟩))]) Go.Proofs.Tryz.func40 rfl Go.Proofs.Tryz.ntmps40 rfl ?_
  intro M w0 a hk
  replace hk : FW.S M w0 a w0.toWorld 14 [FW.blk b0 75 ([.lit (.slice xd0_0 (List.length v0.sure) xc0_0), .lit (.map (some xr0_1)), .lit (.int .i64 v0.steps), .lit (.slice xd0_3 (List.length v0.falls) xc0_3), .lit (.bool v0.off)]), FW.orow xd0_0 xc0_0 9 1 c_str v0.sure, FW.mapI (.int .i64) (Value.int .i64) FW.evS xr0_1 v0.cache, FW.orow xd0_3 xc0_3 52 3 ApiFall.cells v0.falls] [(0, [], .lit (.pointer (some ⟨b0, 0, none⟩)))] := hk
  unfold rec_parts.f at h
  refine FW.wreg ?_; intro K' hK1
  refine FW.l_alloc (zs := [.lit (.int .i64 0), .lit (.int .i64 0), .lit (.int .i64 0), .lit (.int .i64 0)]) [] hk rfl rfl rfl rfl ?_; clear hk; intro bx1 a w hk
  refine FW.lend (hK1 _ _ ?_); clear hK1 K'
  refine FW.wreg ?_; intro K' hK2
  refine FW.lfun (y := .lit (.pointer (some ⟨b0, 0, none⟩))) hk rfl rfl rfl rfl (FW.f_move hk (FW.holds_nil _) rfl) ?_; clear hk; intro a w hk
  obtain ⟨t1, hr_t1, h⟩ := FW.bnd h
  refine FW.l_callH (I1 := (ODevDev.items b0 xd0_0 xc0_0 xr0_1 xd0_3 xc0_3 v0)) (I2 := [FW.blk bx1 79 ([.lit (.int .i64 0), .lit (.int .i64 0), .lit (.int .i64 0), .lit (.int .i64 0)])]) (js := [4, 4, 4, 4]) hk rfl rfl rfl rfl rfl Go.Proofs.Tryz.func36 rfl (by kernel_rfl) (dev_Dev_Len.ok v0 _ hr_t1 b0 xd0_0 xc0_0 xr0_1 xd0_3 xc0_3) ?_; clear hk
  rintro _ _ ⟨rfl, rfl⟩ a w hk
  refine FW.lfun (y := .lit (.int .i64 (IntKind.wrap .i64 (t1 * 2)))) hk rfl rfl rfl rfl ((FW.f_pure (FW.p_mul hk.kn (FW.holds_nil _) rfl rfl))) ?_; clear hk; intro a w hk
  refine FW.lfun (y := .lit (.int .i64 (IntKind.wrap .i64 (Int.tdiv (IntKind.wrap .i64 (t1 * 2)) 5)))) hk rfl rfl rfl rfl ((FW.f_pure (FW.p_quo hk.kn (FW.holds_nil _) rfl rfl (show ¬ (5 : Int) = 0 from by decide)))) ?_; clear hk; intro a w hk
  refine FW.lfun (y := .lit (.int .i64 (IntKind.wrap .i64 (Int.tdiv (IntKind.wrap .i64 (t1 * 2)) 5)))) hk rfl rfl rfl rfl (FW.f_assign hk (FW.holds_nil _) rfl) ?_; clear hk; intro a w hk
  refine FW.lend (hK2 _ _ ?_); clear hK2 K'
  refine FW.wreg ?_; intro K' hK3
  refine FW.lfun (y := .lit (.int .i64 (IntKind.wrap .i64 (Int.tdiv (IntKind.wrap .i64 (t1 * 2)) 5)))) hk rfl rfl rfl rfl (FW.f_move hk (FW.holds_nil _) rfl) ?_; clear hk; intro a w hk
  refine FW.lfun (y := .lit (.int .i64 (IntKind.wrap .i64 (Int.tdiv (IntKind.wrap .i64 (t1 * 2)) 5)))) hk rfl rfl rfl rfl (FW.f_move hk (FW.holds_nil _) rfl) ?_; clear hk; intro a w hk
  refine FW.lfun (y := .lit (.int .i64 (IntKind.wrap .i64 (2 * (IntKind.wrap .i64 (Int.tdiv (IntKind.wrap .i64 (t1 * 2)) 5)))))) hk rfl rfl rfl rfl ((FW.f_pure (FW.p_mul hk.kn (FW.holds_nil _) rfl rfl))) ?_; clear hk; intro a w hk
  refine FW.lfun (y := .lit (.pointer (some ⟨b0, 0, none⟩))) hk rfl rfl rfl rfl (FW.f_move hk (FW.holds_nil _) rfl) ?_; clear hk; intro a w hk
  obtain ⟨t2, hr_t2, h⟩ := FW.bnd h
  refine FW.l_callH (I1 := (ODevDev.items b0 xd0_0 xc0_0 xr0_1 xd0_3 xc0_3 v0)) (I2 := [FW.blk bx1 79 ([.lit (.int .i64 0), .lit (.int .i64 0), .lit (.int .i64 0), .lit (.int .i64 0)])]) (js := [3, 3, 3, 3]) hk rfl rfl rfl rfl rfl Go.Proofs.Tryz.func36 rfl (by kernel_rfl) (dev_Dev_Len.ok v0 _ hr_t2 b0 xd0_0 xc0_0 xr0_1 xd0_3 xc0_3) ?_; clear hk
  rintro _ _ ⟨rfl, rfl⟩ a w hk
  refine FW.lfun (y := .agg [.lit (.int .i64 ((0, (IntKind.wrap .i64 (Int.tdiv (IntKind.wrap .i64 (t1 * 2)) 5)), (IntKind.wrap .i64 (2 * (IntKind.wrap .i64 (Int.tdiv (IntKind.wrap .i64 (t1 * 2)) 5)))), t2).1)), .lit (.int .i64 ((0, (IntKind.wrap .i64 (Int.tdiv (IntKind.wrap .i64 (t1 * 2)) 5)), (IntKind.wrap .i64 (2 * (IntKind.wrap .i64 (Int.tdiv (IntKind.wrap .i64 (t1 * 2)) 5)))), t2).2.1)), .lit (.int .i64 ((0, (IntKind.wrap .i64 (Int.tdiv (IntKind.wrap .i64 (t1 * 2)) 5)), (IntKind.wrap .i64 (2 * (IntKind.wrap .i64 (Int.tdiv (IntKind.wrap .i64 (t1 * 2)) 5)))), t2).2.2.1)), .lit (.int .i64 ((0, (IntKind.wrap .i64 (Int.tdiv (IntKind.wrap .i64 (t1 * 2)) 5)), (IntKind.wrap .i64 (2 * (IntKind.wrap .i64 (Int.tdiv (IntKind.wrap .i64 (t1 * 2)) 5)))), t2).2.2.2))]) hk rfl rfl rfl rfl (FW.f_build hk (FW.holds_nil _) rfl rfl) ?_; clear hk; intro a w hk
  refine FW.l_store (I' := [FW.blk b0 75 ([.lit (.slice xd0_0 (List.length v0.sure) xc0_0), .lit (.map (some xr0_1)), .lit (.int .i64 v0.steps), .lit (.slice xd0_3 (List.length v0.falls) xc0_3), .lit (.bool v0.off)]), FW.orow xd0_0 xc0_0 9 1 c_str v0.sure, FW.mapI (.int .i64) (Value.int .i64) FW.evS xr0_1 v0.cache, FW.orow xd0_3 xc0_3 52 3 ApiFall.cells v0.falls, FW.blk bx1 79 ([.lit (.int .i64 ((0, (IntKind.wrap .i64 (Int.tdiv (IntKind.wrap .i64 (t1 * 2)) 5)), (IntKind.wrap .i64 (2 * (IntKind.wrap .i64 (Int.tdiv (IntKind.wrap .i64 (t1 * 2)) 5)))), t2).1)), .lit (.int .i64 ((0, (IntKind.wrap .i64 (Int.tdiv (IntKind.wrap .i64 (t1 * 2)) 5)), (IntKind.wrap .i64 (2 * (IntKind.wrap .i64 (Int.tdiv (IntKind.wrap .i64 (t1 * 2)) 5)))), t2).2.1)), .lit (.int .i64 ((0, (IntKind.wrap .i64 (Int.tdiv (IntKind.wrap .i64 (t1 * 2)) 5)), (IntKind.wrap .i64 (2 * (IntKind.wrap .i64 (Int.tdiv (IntKind.wrap .i64 (t1 * 2)) 5)))), t2).2.2.1)), .lit (.int .i64 ((0, (IntKind.wrap .i64 (Int.tdiv (IntKind.wrap .i64 (t1 * 2)) 5)), (IntKind.wrap .i64 (2 * (IntKind.wrap .i64 (Int.tdiv (IntKind.wrap .i64 (t1 * 2)) 5)))), t2).2.2.2))])]) (cs' := [.lit (.int .i64 ((0, (IntKind.wrap .i64 (Int.tdiv (IntKind.wrap .i64 (t1 * 2)) 5)), (IntKind.wrap .i64 (2 * (IntKind.wrap .i64 (Int.tdiv (IntKind.wrap .i64 (t1 * 2)) 5)))), t2).1)), .lit (.int .i64 ((0, (IntKind.wrap .i64 (Int.tdiv (IntKind.wrap .i64 (t1 * 2)) 5)), (IntKind.wrap .i64 (2 * (IntKind.wrap .i64 (Int.tdiv (IntKind.wrap .i64 (t1 * 2)) 5)))), t2).2.1)), .lit (.int .i64 ((0, (IntKind.wrap .i64 (Int.tdiv (IntKind.wrap .i64 (t1 * 2)) 5)), (IntKind.wrap .i64 (2 * (IntKind.wrap .i64 (Int.tdiv (IntKind.wrap .i64 (t1 * 2)) 5)))), t2).2.2.1)), .lit (.int .i64 ((0, (IntKind.wrap .i64 (Int.tdiv (IntKind.wrap .i64 (t1 * 2)) 5)), (IntKind.wrap .i64 (2 * (IntKind.wrap .i64 (Int.tdiv (IntKind.wrap .i64 (t1 * 2)) 5)))), t2).2.2.2))]) (j := 4) hk rfl rfl rfl rfl rfl (by kernel_rfl) rfl rfl ?_; clear hk; intro w hk
  refine FW.lend (hK3 _ _ ?_); clear hK3 K'
  refine wp_ret ?_
  (repeat first | refine FW.then_ret ?_ | refine FW.block_ret ?_)
  obtain rfl := Option.some.inj h
  have hr_0 := FW.rres_keep (I1 := [FW.blk b0 75 ([.lit (.slice xd0_0 (List.length v0.sure) xc0_0), .lit (.map (some xr0_1)), .lit (.int .i64 v0.steps), .lit (.slice xd0_3 (List.length v0.falls) xc0_3), .lit (.bool v0.off)]), FW.orow xd0_0 xc0_0 9 1 c_str v0.sure, FW.mapI (.int .i64) (Value.int .i64) FW.evS xr0_1 v0.cache, FW.orow xd0_3 xc0_3 52 3 ApiFall.cells v0.falls]) (I2 := [FW.blk bx1 79 ([.lit (.int .i64 ((0, (IntKind.wrap .i64 (Int.tdiv (IntKind.wrap .i64 (t1 * 2)) 5)), (IntKind.wrap .i64 (2 * (IntKind.wrap .i64 (Int.tdiv (IntKind.wrap .i64 (t1 * 2)) 5)))), t2).1)), .lit (.int .i64 ((0, (IntKind.wrap .i64 (Int.tdiv (IntKind.wrap .i64 (t1 * 2)) 5)), (IntKind.wrap .i64 (2 * (IntKind.wrap .i64 (Int.tdiv (IntKind.wrap .i64 (t1 * 2)) 5)))), t2).2.1)), .lit (.int .i64 ((0, (IntKind.wrap .i64 (Int.tdiv (IntKind.wrap .i64 (t1 * 2)) 5)), (IntKind.wrap .i64 (2 * (IntKind.wrap .i64 (Int.tdiv (IntKind.wrap .i64 (t1 * 2)) 5)))), t2).2.2.1)), .lit (.int .i64 ((0, (IntKind.wrap .i64 (Int.tdiv (IntKind.wrap .i64 (t1 * 2)) 5)), (IntKind.wrap .i64 (2 * (IntKind.wrap .i64 (Int.tdiv (IntKind.wrap .i64 (t1 * 2)) 5)))), t2).2.2.2))])]) (js := [3, 3, 3, 3]) rfl (FW.rcell (tt := 2) hk rfl (j := 4) rfl Go.Proofs.Tryz.underlying79 rfl (by kernel_rfl))
  replace hk := FW.S.keep (I1 := [FW.blk b0 75 ([.lit (.slice xd0_0 (List.length v0.sure) xc0_0), .lit (.map (some xr0_1)), .lit (.int .i64 v0.steps), .lit (.slice xd0_3 (List.length v0.falls) xc0_3), .lit (.bool v0.off)]), FW.orow xd0_0 xc0_0 9 1 c_str v0.sure, FW.mapI (.int .i64) (Value.int .i64) FW.evS xr0_1 v0.cache, FW.orow xd0_3 xc0_3 52 3 ApiFall.cells v0.falls]) (I2 := [FW.blk bx1 79 ([.lit (.int .i64 ((0, (IntKind.wrap .i64 (Int.tdiv (IntKind.wrap .i64 (t1 * 2)) 5)), (IntKind.wrap .i64 (2 * (IntKind.wrap .i64 (Int.tdiv (IntKind.wrap .i64 (t1 * 2)) 5)))), t2).1)), .lit (.int .i64 ((0, (IntKind.wrap .i64 (Int.tdiv (IntKind.wrap .i64 (t1 * 2)) 5)), (IntKind.wrap .i64 (2 * (IntKind.wrap .i64 (Int.tdiv (IntKind.wrap .i64 (t1 * 2)) 5)))), t2).2.1)), .lit (.int .i64 ((0, (IntKind.wrap .i64 (Int.tdiv (IntKind.wrap .i64 (t1 * 2)) 5)), (IntKind.wrap .i64 (2 * (IntKind.wrap .i64 (Int.tdiv (IntKind.wrap .i64 (t1 * 2)) 5)))), t2).2.2.1)), .lit (.int .i64 ((0, (IntKind.wrap .i64 (Int.tdiv (IntKind.wrap .i64 (t1 * 2)) 5)), (IntKind.wrap .i64 (2 * (IntKind.wrap .i64 (Int.tdiv (IntKind.wrap .i64 (t1 * 2)) 5)))), t2).2.2.2))])]) (js := [3, 3, 3, 3]) hk rfl
  exact FW.fretH1 hk rfl hr_0 ⟨rfl, rfl⟩
theorem val_Wide.ok (K : Nat) (v0 : List UInt8) (r : Int) (h : val_Wide.f K v0 = some r) :
    FW.Ok Go.Proofs.Tryz.prog 38 [.lit (.string (FW.B v0))] (.lit (.int .u64 r)) := by
  refine FW.enter (xs := [.lit (.string (FW.B v0))]) Go.Proofs.Tryz.func38 rfl Go.Proofs.Tryz.ntmps38 rfl ?_
  intro M w0 a hk
  unfold val_Wide.f at h
  refine FW.wreg ?_; intro K' hK1
  refine FW.lfun (y := .lit (.int .u64 0)) hk rfl rfl rfl rfl (FW.f_assign hk (FW.holds_nil _) rfl) ?_; clear hk; intro a w hk
  refine FW.lend (hK1 _ _ ?_); clear hK1 K'
  refine FW.wreg ?_; intro K' hK2
  refine FW.lfun (y := .lit (.int .u64 0)) hk rfl rfl rfl rfl (FW.f_assign hk (FW.holds_nil _) rfl) ?_; clear hk; intro a w hk
  refine FW.lend (hK2 _ _ ?_); clear hK2 K'
  refine FW.wseq ?_; intro K' hK3
  refine FW.wreg ?_; intro K' hK4
  refine FW.lfun (y := .lit (.string (FW.B v0))) hk rfl rfl rfl rfl (FW.f_move hk (FW.holds_nil _) rfl) ?_; clear hk; intro a w hk
  refine FW.lfun (y := .lit (.int .i64 (List.length v0 : Int))) hk rfl rfl rfl rfl ((FW.f_pure (FW.p_slen Go.Proofs.Tryz.underlying9 hk.kn (FW.holds_nil _) rfl))) ?_; clear hk; intro a w hk
  refine FW.lfun (y := .lit (.int .i64 (if 8 < (List.length v0 : Int) then 8 else (List.length v0 : Int)))) hk rfl rfl rfl rfl ((FW.f_pure (FW.p_min hk.kn (FW.holds_nil _) rfl rfl))) ?_; clear hk; intro a w hk
  refine FW.lfun (y := .lit (.int .i64 0)) hk rfl rfl rfl rfl (FW.f_move hk (FW.holds_nil _) rfl) ?_; clear hk; intro a w hk
  refine FW.lend (hK4 _ _ ?_); clear hK4 K'
  refine wp_block ?_
  refine FW.wloop (T := Nat × List UInt8 × Int × Int × Int) (fun x a w => match x with | (kl1, v0, v3, v7, v8) => FW.S M w0 a w 20 [] [(0, [], .lit (.string (FW.B v0))), (3, [], .lit (.int .u64 v3)), (7, [], .lit (.int .i64 v7)), (8, [], .lit (.int .i64 v8))] ∧ val_Wide.l1 K kl1 v0 v3 v7 v8 = some r) (fun x => x.1) (K, v0, 0, (if 8 < (List.length v0 : Int) then 8 else (List.length v0 : Int)), 0) ⟨hk.sub ⟨rfl, rfl, rfl, rfl, trivial⟩, h⟩ ?_
  clear hk h
  rintro ⟨kl1, v0, v3, v7, v8⟩ a w ⟨hk, h⟩ K' hK5
  cases kl1 with
  | zero => simp [val_Wide.l1] at h
  | succ kl1 =>
  rw [val_Wide.l1.eq_2] at h
  refine FW.wreg ?_; intro K' hK6
  refine FW.lfun (y := .lit (.bool (decide (v8 < v7)))) hk rfl rfl rfl rfl ((FW.f_pure (FW.p_lss hk.kn (FW.holds_nil _) rfl rfl))) ?_; clear hk; intro a w hk
  refine FW.lend (hK6 _ _ ?_); clear hK6 K'
  refine FW.wseq ?_; intro K' hK7
  refine FW.wcondF (b := (decide (v8 < v7))) hk h rfl (fun h hb => ?_) (fun h hb => ?_)
  · skip
    refine wp_skip ?_
    (repeat first | refine FW.then_normal ?_ | refine FW.block_normal ?_); refine hK7 _ _ ?_
    refine FW.wseq ?_; intro K' hK8
    refine wp_block ?_
    refine FW.wreg ?_; intro K' hK9
    refine FW.lfun (y := .lit (.int .i64 v8)) hk rfl rfl rfl rfl (FW.f_move hk (FW.holds_nil _) rfl) ?_; clear hk; intro a w hk
    refine FW.lfun (y := .lit (.int .i64 v8)) hk rfl rfl rfl rfl (FW.f_assign hk (FW.holds_nil _) rfl) ?_; clear hk; intro a w hk
    refine FW.lend (hK9 _ _ ?_); clear hK9 K'
    refine FW.wreg1 ?_
    refine FW.lfun (y := .lit (.int .u64 v3)) hk rfl rfl rfl rfl (FW.f_move hk (FW.holds_nil _) rfl) ?_; clear hk; intro a w hk
    refine FW.lfun (y := .lit (.int .u64 (FW.shlI .u64 v3 8))) hk rfl rfl rfl rfl ((FW.f_pure (FW.p_shl hk.kn (FW.holds_nil _) rfl rfl (show (0 : Int) ≤ 8 from by decide)))) ?_; clear hk; intro a w hk
    refine FW.lfun (y := .lit (.string (FW.B v0))) hk rfl rfl rfl rfl (FW.f_move hk (FW.holds_nil _) rfl) ?_; clear hk; intro a w hk
    refine FW.lfun (y := .lit (.int .i64 v8)) hk rfl rfl rfl rfl (FW.f_move hk (FW.holds_nil _) rfl) ?_; clear hk; intro a w hk
    obtain ⟨hc1, h⟩ := FW.chk h
    refine FW.lfun (y := .lit (.int .u8 (FW.bt v0 v8))) hk rfl rfl rfl rfl ((FW.f_pure (FW.p_index Go.Proofs.Tryz.underlying9 hk.kn (FW.holds_nil _) rfl rfl hc1))) ?_; clear hk; intro a w hk
    refine FW.lfun (y := .lit (.int .u64 (IntKind.wrap .u64 (FW.bt v0 v8)))) hk rfl rfl rfl rfl ((FW.f_pure (FW.p_conv Go.Proofs.Tryz.underlying5 Go.Proofs.Tryz.underlying27 hk.kn (FW.holds_nil _) rfl))) ?_; clear hk; intro a w hk
    refine FW.lfun (y := .lit (.int .u64 (FW.orI .u64 (FW.shlI .u64 v3 8) (IntKind.wrap .u64 (FW.bt v0 v8))))) hk rfl rfl rfl rfl ((FW.f_pure (FW.p_or hk.kn (FW.holds_nil _) rfl rfl))) ?_; clear hk; intro a w hk
    refine FW.lfun (y := .lit (.int .u64 (FW.orI .u64 (FW.shlI .u64 v3 8) (IntKind.wrap .u64 (FW.bt v0 v8))))) hk rfl rfl rfl rfl (FW.f_assign hk (FW.holds_nil _) rfl) ?_; clear hk; intro a w hk
    refine wpList_nil ?_
    (repeat first | refine FW.then_normal ?_ | refine FW.block_normal ?_); refine hK8 _ _ ?_
    refine FW.wreg1 ?_
    refine FW.lfun (y := .lit (.int .i64 (IntKind.wrap .i64 (v8 + 1)))) hk rfl rfl rfl rfl ((FW.f_pure (FW.p_add hk.kn (FW.holds_nil _) rfl rfl))) ?_; clear hk; intro a w hk
    refine FW.lfun (y := .lit (.int .i64 (IntKind.wrap .i64 (v8 + 1)))) hk rfl rfl rfl rfl (FW.f_move hk (FW.holds_nil _) rfl) ?_; clear hk; intro a w hk
    refine wpList_nil ?_
    (repeat first | refine FW.then_normal ?_ | refine FW.block_normal ?_); exact hK5 (kl1, v0, (FW.orI .u64 (FW.shlI .u64 v3 8) (IntKind.wrap .u64 (FW.bt v0 v8))), v7, (IntKind.wrap .i64 (v8 + 1))) _ _ (Nat.lt_succ_self _) ⟨hk.sub ⟨rfl, rfl, rfl, rfl, trivial⟩, h⟩
  refine wp_exit ?_; (repeat first | refine FW.then_exit ?_ | refine FW.block_exit_ne rfl ?_); refine FW.block_exit ?_
  (repeat first | refine FW.then_normal ?_ | refine FW.block_normal ?_); refine hK3 _ _ ?_
  refine FW.wreg ?_; intro K' hK12
  refine FW.lfun (y := .lit (.int .u64 v3)) hk rfl rfl rfl rfl (FW.f_move hk (FW.holds_nil _) rfl) ?_; clear hk; intro a w hk
  refine FW.lfun (y := .lit (.int .u64 v3)) hk rfl rfl rfl rfl (FW.f_assign hk (FW.holds_nil _) rfl) ?_; clear hk; intro a w hk
  refine FW.lend (hK12 _ _ ?_); clear hK12 K'
  refine wp_ret ?_
  (repeat first | refine FW.then_ret ?_ | refine FW.block_ret ?_)
  obtain rfl := Option.some.inj h
  exact FW.fret1 hk rfl rfl
theorem log_Sectors.ok  (v0 : Int) (r : Int) (h : log_Sectors.f v0 = some r) :
    FW.Ok Go.Proofs.Tryz.prog 51 [.lit (.int .i64 v0)] (.lit (.int .i64 r)) := by
  refine FW.enter (xs := [.lit (.int .i64 v0)]) Go.Proofs.Tryz.func51 rfl Go.Proofs.Tryz.ntmps51 rfl ?_
  intro M w0 a hk
  unfold log_Sectors.f at h
  refine FW.wreg ?_; intro K' hK1
  refine FW.lfun (y := .lit (.int .i64 0)) hk rfl rfl rfl rfl (FW.f_assign hk (FW.holds_nil _) rfl) ?_; clear hk; intro a w hk
  refine FW.lend (hK1 _ _ ?_); clear hK1 K'
  refine FW.wreg ?_; intro K' hK2
  refine FW.lfun (y := .lit (.int .i64 v0)) hk rfl rfl rfl rfl (FW.f_move hk (FW.holds_nil _) rfl) ?_; clear hk; intro a w hk
  refine FW.lfun (y := .lit (.int .i64 (IntKind.wrap .i64 (v0 - 104)))) hk rfl rfl rfl rfl ((FW.f_pure (FW.p_sub hk.kn (FW.holds_nil _) rfl rfl))) ?_; clear hk; intro a w hk
  refine FW.lfun (y := .lit (.int .i64 (if (IntKind.wrap .i64 (v0 - 104)) < 0 then 0 else (IntKind.wrap .i64 (v0 - 104))))) hk rfl rfl rfl rfl ((FW.f_pure (FW.p_max hk.kn (FW.holds_nil _) rfl rfl))) ?_; clear hk; intro a w hk
  refine FW.lfun (y := .lit (.int .i64 (IntKind.wrap .i64 ((if (IntKind.wrap .i64 (v0 - 104)) < 0 then 0 else (IntKind.wrap .i64 (v0 - 104))) + 128)))) hk rfl rfl rfl rfl ((FW.f_pure (FW.p_add hk.kn (FW.holds_nil _) rfl rfl))) ?_; clear hk; intro a w hk
  refine FW.lfun (y := .lit (.int .i64 (IntKind.wrap .i64 ((IntKind.wrap .i64 ((if (IntKind.wrap .i64 (v0 - 104)) < 0 then 0 else (IntKind.wrap .i64 (v0 - 104))) + 128)) - 1)))) hk rfl rfl rfl rfl ((FW.f_pure (FW.p_sub hk.kn (FW.holds_nil _) rfl rfl))) ?_; clear hk; intro a w hk
  refine FW.lfun (y := .lit (.int .i64 (IntKind.wrap .i64 (Int.tdiv (IntKind.wrap .i64 ((IntKind.wrap .i64 ((if (IntKind.wrap .i64 (v0 - 104)) < 0 then 0 else (IntKind.wrap .i64 (v0 - 104))) + 128)) - 1)) 128)))) hk rfl rfl rfl rfl ((FW.f_pure (FW.p_quo hk.kn (FW.holds_nil _) rfl rfl (show ¬ (128 : Int) = 0 from by decide)))) ?_; clear hk; intro a w hk
  refine FW.lfun (y := .lit (.int .i64 (IntKind.wrap .i64 (1 + (IntKind.wrap .i64 (Int.tdiv (IntKind.wrap .i64 ((IntKind.wrap .i64 ((if (IntKind.wrap .i64 (v0 - 104)) < 0 then 0 else (IntKind.wrap .i64 (v0 - 104))) + 128)) - 1)) 128)))))) hk rfl rfl rfl rfl ((FW.f_pure (FW.p_add hk.kn (FW.holds_nil _) rfl rfl))) ?_; clear hk; intro a w hk
  refine FW.lfun (y := .lit (.int .i64 (IntKind.wrap .i64 (1 + (IntKind.wrap .i64 (Int.tdiv (IntKind.wrap .i64 ((IntKind.wrap .i64 ((if (IntKind.wrap .i64 (v0 - 104)) < 0 then 0 else (IntKind.wrap .i64 (v0 - 104))) + 128)) - 1)) 128)))))) hk rfl rfl rfl rfl (FW.f_assign hk (FW.holds_nil _) rfl) ?_; clear hk; intro a w hk
  refine FW.lend (hK2 _ _ ?_); clear hK2 K'
  refine wp_ret ?_
  (repeat first | refine FW.then_ret ?_ | refine FW.block_ret ?_)
  obtain rfl := Option.some.inj h
  exact FW.fret1 hk rfl rfl
theorem log_Log_read.ok (K : Nat) (v0 : OLogLog) (v0_0 : ODevDev) (r : List UInt8 × Bool) (h : log_Log_read.f K v0 v0_0 = some r) :
    ∀ (b0 : Nat) (b0_0 : Nat) (xd0_0_0 : Option Addr) (xc0_0_0 : Nat) (xr0_0_1 : Nat) (xd0_0_3 : Option Addr) (xc0_0_3 : Nat), FW.OkH Go.Proofs.Tryz.prog 65 [.lit (.pointer (some ⟨b0, 0, none⟩))] ((OLogLog.items b0 b0_0 v0) ++ (ODevDev.items b0_0 xd0_0_0 xc0_0_0 xr0_0_1 xd0_0_3 xc0_0_3 v0_0)) (fun y I => y = .tup [.lit (.string (FW.B r.1)), .lit (.bool r.2)] ∧ I = (OLogLog.items b0 b0_0 v0) ++ (ODevDev.items b0_0 xd0_0_0 xc0_0_0 xr0_0_1 xd0_0_3 xc0_0_3 v0_0)) := by
  intro b0 b0_0 xd0_0_0 xc0_0_0 xr0_0_1 xd0_0_3 xc0_0_3
  refine FW.enterH (xs := [.lit (.pointer (some ⟨b0, 0, none⟩))]) Go.Proofs.Tryz.func65 rfl Go.Proofs.Tryz.ntmps65 rfl ?_
  intro M w0 a hk
  replace hk : FW.S M w0 a w0.toWorld 113 [FW.blk b0 99 ([.lit (.pointer (some ⟨b0_0, 0, none⟩)), .lit (.int .i64 v0.from_), .lit (.int .i64 v0.to_), .lit (.int .i64 v0.at_), .lit (.int .u64 v0.next)]), FW.blk b0_0 75 ([.lit (.slice xd0_0_0 (List.length v0_0.sure) xc0_0_0), .lit (.map (some xr0_0_1)), .lit (.int .i64 v0_0.steps), .lit (.slice xd0_0_3 (List.length v0_0.falls) xc0_0_3), .lit (.bool v0_0.off)]), FW.orow xd0_0_0 xc0_0_0 9 1 c_str v0_0.sure, FW.mapI (.int .i64) (Value.int .i64) FW.evS xr0_0_1 v0_0.cache, FW.orow xd0_0_3 xc0_0_3 52 3 ApiFall.cells v0_0.falls] [(0, [], .lit (.pointer (some ⟨b0, 0, none⟩)))] := hk
  unfold log_Log_read.f at h
  refine FW.wreg ?_; intro K' hK1
  refine FW.lfun (y := .lit (.string (FW.B ([] : List UInt8)))) hk rfl rfl rfl rfl (FW.f_assign hk (FW.holds_nil _) rfl) ?_; clear hk; intro a w hk
  refine FW.lfun (y := .lit (.bool false)) hk rfl rfl rfl rfl (FW.f_assign hk (FW.holds_nil _) rfl) ?_; clear hk; intro a w hk
  refine FW.lend (hK1 _ _ ?_); clear hK1 K'
  refine FW.wseq ?_; intro K' hK2
  refine FW.wdraw (by kernel_rfl) (by kernel_rfl) hk ?_; clear hk
  refine FW.dfun (y := .lit (.pointer (some ⟨b0, 0, none⟩))) rfl rfl rfl rfl (fun a w hk => FW.f_move hk (FW.holds_nil _) rfl) ?_
  refine FW.dfun (y := .lit (.pointer (some ⟨b0, 0, none⟩))) rfl rfl rfl rfl (fun a w hk => (FW.f_pure (FW.p_nilCheck hk.kn (FW.holds_nil _) rfl))) ?_
  refine FW.dfun (y := .lit (.pointer (some ⟨b0, 3, none⟩))) rfl rfl rfl rfl (fun a w hk => FW.f_fieldPtr hk (FW.holds_nil _) rfl Go.Proofs.Tryz.underlying99 rfl (by kernel_rfl) rfl) ?_
  refine FW.dfun (y := .lit (.int .i64 v0.at_)) rfl rfl rfl rfl (fun a w hk => FW.f_loadBlk1 hk (FW.holds_nil _) (j := 0) rfl rfl Go.Proofs.Tryz.underlying3 rfl rfl) ?_
  refine FW.dfun (y := .lit (.pointer (some ⟨b0, 0, none⟩))) rfl rfl rfl rfl (fun a w hk => FW.f_move hk (FW.holds_nil _) rfl) ?_
  refine FW.dfun (y := .lit (.pointer (some ⟨b0, 0, none⟩))) rfl rfl rfl rfl (fun a w hk => (FW.f_pure (FW.p_nilCheck hk.kn (FW.holds_nil _) rfl))) ?_
  refine FW.dfun (y := .lit (.pointer (some ⟨b0, 2, none⟩))) rfl rfl rfl rfl (fun a w hk => FW.f_fieldPtr hk (FW.holds_nil _) rfl Go.Proofs.Tryz.underlying99 rfl (by kernel_rfl) rfl) ?_
  refine FW.dfun (y := .lit (.int .i64 v0.to_)) rfl rfl rfl rfl (fun a w hk => FW.f_loadBlk1 hk (FW.holds_nil _) (j := 0) rfl rfl Go.Proofs.Tryz.underlying3 rfl rfl) ?_
  refine FW.dfun (y := .lit (.bool (decide (v0.to_ ≤ v0.at_)))) rfl rfl rfl rfl (fun a w hk => (FW.f_pure (FW.p_geq hk.kn (FW.holds_nil _) rfl rfl))) ?_
  refine FW.dend ?_; intro a w hk
  refine FW.wcondF (b := (decide (v0.to_ ≤ v0.at_))) hk h rfl (fun h hb => ?_) (fun h hb => ?_)
  · skip
    refine FW.wreg ?_; intro K' hK4
    refine FW.lfun (y := .lit (.string (FW.B ([] : List UInt8)))) hk rfl rfl rfl rfl (FW.f_assign hk (FW.holds_nil _) rfl) ?_; clear hk; intro a w hk
    refine FW.lfun (y := .lit (.bool false)) hk rfl rfl rfl rfl (FW.f_assign hk (FW.holds_nil _) rfl) ?_; clear hk; intro a w hk
    refine FW.lend (hK4 _ _ ?_); clear hK4 K'
    refine wp_ret ?_
    (repeat first | refine FW.then_ret ?_ | refine FW.block_ret ?_)
    obtain rfl := Option.some.inj h
    replace hk := FW.S.keep (I1 := [FW.blk b0 99 ([.lit (.pointer (some ⟨b0_0, 0, none⟩)), .lit (.int .i64 v0.from_), .lit (.int .i64 v0.to_), .lit (.int .i64 v0.at_), .lit (.int .u64 v0.next)]), FW.blk b0_0 75 ([.lit (.slice xd0_0_0 (List.length v0_0.sure) xc0_0_0), .lit (.map (some xr0_0_1)), .lit (.int .i64 v0_0.steps), .lit (.slice xd0_0_3 (List.length v0_0.falls) xc0_0_3), .lit (.bool v0_0.off)]), FW.orow xd0_0_0 xc0_0_0 9 1 c_str v0_0.sure, FW.mapI (.int .i64) (Value.int .i64) FW.evS xr0_0_1 v0_0.cache, FW.orow xd0_0_3 xc0_0_3 52 3 ApiFall.cells v0_0.falls]) (I2 := []) (js := [4, 4, 4, 4, 4]) hk rfl
    exact FW.fretH2 hk rfl (FW.rtmp hk rfl) (FW.rtmp hk rfl) ⟨rfl, rfl⟩
  refine wp_skip ?_
  (repeat first | refine FW.then_normal ?_ | refine FW.block_normal ?_); refine hK2 _ _ ?_
  obtain ⟨t1, hr_t1, h⟩ := FW.bnd h
  refine FW.wdrawE (.next [true, true, true, true, true, true, true, true, false, false, false, false, false, false] 8 [true, true, true, true, true, true, true, true, false, false, false, false, false, false] (.leaf [false, false, false, false, false, false, false, false, false, true, true, true, true, true])) [(22, [], .lit (.pointer (some ⟨b0, 0, none⟩))), (23, [], .lit (.pointer (some ⟨b0, 0, none⟩))), (24, [], .lit (.pointer (some ⟨b0, 0, none⟩))), (25, [], .lit (.pointer (some ⟨b0_0, 0, none⟩))), (26, [], .lit (.pointer (some ⟨b0, 0, none⟩))), (27, [], .lit (.pointer (some ⟨b0, 0, none⟩))), (28, [], .lit (.pointer (some ⟨b0, 3, none⟩))), (29, [], .lit (.int .i64 v0.at_)), (30, [], .agg []), (21, [], .agg []), (31, [], .agg []), (32, [], .agg []), (4, [], .agg []), (5, [], .agg [])] (by kernel_rfl) (by kernel_rfl) (by kernel_rfl) (by kernel_rfl) hk ?_; clear hk
  refine FW.gnext ?_ rfl rfl rfl rfl rfl ?_
  · skip
    refine FW.gfun (y := .lit (.pointer (some ⟨b0, 0, none⟩))) rfl rfl rfl rfl (fun a w hk => FW.f_move hk (FW.holds_nil _) rfl) ?_
    refine FW.gfun (y := .lit (.pointer (some ⟨b0, 0, none⟩))) rfl rfl rfl rfl (fun a w hk => (FW.f_pure (FW.p_nilCheck hk.kn (FW.holds_nil _) rfl))) ?_
    refine FW.gfun (y := .lit (.pointer (some ⟨b0, 0, none⟩))) rfl rfl rfl rfl (fun a w hk => FW.f_fieldPtr hk (FW.holds_nil _) rfl Go.Proofs.Tryz.underlying99 rfl (by kernel_rfl) rfl) ?_
    refine FW.gfun (y := .lit (.pointer (some ⟨b0_0, 0, none⟩))) rfl rfl rfl rfl (fun a w hk => FW.f_loadBlk1 hk (FW.holds_nil _) (j := 0) rfl rfl Go.Proofs.Tryz.underlying24 rfl rfl) ?_
    refine FW.gfun (y := .lit (.pointer (some ⟨b0, 0, none⟩))) rfl rfl rfl rfl (fun a w hk => FW.f_move hk (FW.holds_nil _) rfl) ?_
    refine FW.gfun (y := .lit (.pointer (some ⟨b0, 0, none⟩))) rfl rfl rfl rfl (fun a w hk => (FW.f_pure (FW.p_nilCheck hk.kn (FW.holds_nil _) rfl))) ?_
    refine FW.gfun (y := .lit (.pointer (some ⟨b0, 3, none⟩))) rfl rfl rfl rfl (fun a w hk => FW.f_fieldPtr hk (FW.holds_nil _) rfl Go.Proofs.Tryz.underlying99 rfl (by kernel_rfl) rfl) ?_
    refine FW.gfun (y := .lit (.int .i64 v0.at_)) rfl rfl rfl rfl (fun a w hk => FW.f_loadBlk1 hk (FW.holds_nil _) (j := 0) rfl rfl Go.Proofs.Tryz.underlying3 rfl rfl) ?_
    refine FW.gskip rfl rfl ?_
    refine FW.gskip rfl rfl ?_
    refine FW.gskip rfl rfl ?_
    refine FW.gskip rfl rfl ?_
    refine FW.gskip rfl rfl ?_
    refine FW.gskip rfl rfl ?_
    exact FW.gend
  · skip
    intro σD a w opsD QD hk hf hQ hX
    refine FW.l_callH (I1 := (ODevDev.items b0_0 xd0_0_0 xc0_0_0 xr0_0_1 xd0_0_3 xc0_0_3 v0_0)) (I2 := [FW.blk b0 99 ([.lit (.pointer (some ⟨b0_0, 0, none⟩)), .lit (.int .i64 v0.from_), .lit (.int .i64 v0.to_), .lit (.int .i64 v0.at_), .lit (.int .u64 v0.next)])]) (js := [4, 4, 4, 4]) hk rfl rfl hf rfl rfl Go.Proofs.Tryz.func61 rfl (by kernel_rfl) (dev_Dev_Read.ok v0_0 v0.at_ _ hr_t1 b0_0 xd0_0_0 xc0_0_0 xr0_0_1 xd0_0_3 xc0_0_3) ?_; clear hk
    rintro _ _ ⟨rfl, rfl⟩ a w hk
    refine hQ _ _ a w ?_ hk; clear hk hQ hf hX
    refine ⟨[(22, [], .lit (.pointer (some ⟨b0, 0, none⟩))), (23, [], .lit (.pointer (some ⟨b0, 0, none⟩))), (24, [], .lit (.pointer (some ⟨b0, 0, none⟩))), (25, [], .lit (.pointer (some ⟨b0_0, 0, none⟩))), (26, [], .lit (.pointer (some ⟨b0, 0, none⟩))), (27, [], .lit (.pointer (some ⟨b0, 0, none⟩))), (28, [], .lit (.pointer (some ⟨b0, 3, none⟩))), (29, [], .lit (.int .i64 v0.at_)), (30, [], .tup [.lit (.string (FW.B t1.1)), .lit (.int .i64 t1.2)]), (21, [], .tup [.lit (.string (FW.B t1.1)), .lit (.int .i64 t1.2)]), (31, [], .lit (.string (FW.B t1.1))), (32, [], .lit (.int .i64 t1.2)), (4, [], .lit (.string (FW.B t1.1))), (5, [], .lit (.int .i64 t1.2))], And.intro rfl (And.intro rfl (And.intro rfl (And.intro rfl (And.intro rfl (And.intro rfl (And.intro rfl (And.intro rfl (trivial)))))))), rfl, ?_⟩
    refine FW.glast ?_ ?_
    · skip
      refine FW.gskip rfl rfl ?_
      refine FW.gskip rfl rfl ?_
      refine FW.gskip rfl rfl ?_
      refine FW.gskip rfl rfl ?_
      refine FW.gskip rfl rfl ?_
      refine FW.gskip rfl rfl ?_
      refine FW.gskip rfl rfl ?_
      refine FW.gskip rfl rfl ?_
      refine FW.gskip rfl rfl ?_
      refine FW.gfun (y := .tup [.lit (.string (FW.B t1.1)), .lit (.int .i64 t1.2)]) rfl rfl rfl rfl (fun a w hk => FW.f_move hk (FW.holds_nil _) rfl) ?_
      refine FW.gfun (y := .lit (.string (FW.B t1.1))) rfl rfl rfl rfl (fun a w hk => FW.f_extract hk (FW.holds_nil _) rfl rfl) ?_
      refine FW.gfun (y := .lit (.int .i64 t1.2)) rfl rfl rfl rfl (fun a w hk => FW.f_extract hk (FW.holds_nil _) rfl rfl) ?_
      refine FW.gfun (y := .lit (.string (FW.B t1.1))) rfl rfl rfl rfl (fun a w hk => FW.f_assign hk (FW.holds_nil _) rfl) ?_
      refine FW.gfun (y := .lit (.int .i64 t1.2)) rfl rfl rfl rfl (fun a w hk => FW.f_assign hk (FW.holds_nil _) rfl) ?_
      exact FW.gend
    · skip
      intro a w hk; simp only [FW.stD, cond_true] at hk
      refine FW.wreg ?_; intro K' hK6
      refine FW.lfun (y := .lit (.string (FW.B t1.1))) hk rfl rfl rfl rfl (FW.f_move hk (FW.holds_nil _) rfl) ?_; clear hk; intro a w hk
      obtain ⟨hc1, h⟩ := FW.chk h
      refine FW.lfun (y := .lit (.string (FW.B (List.take (Int.toNat 16 - Int.toNat 8) (List.drop (Int.toNat 8) t1.1))))) hk rfl rfl rfl rfl ((FW.f_pure (FW.p_slice Go.Proofs.Tryz.underlying9 hk.kn (FW.holds_nil _) rfl rfl rfl hc1))) ?_; clear hk; intro a w hk
      obtain ⟨t2, hr_t2, h⟩ := FW.bnd h
      refine FW.lfun (y := .lit (.int .u64 t2)) hk rfl rfl rfl rfl (FW.f_call hk (FW.holds_nil _) rfl rfl Go.Proofs.Tryz.func38 rfl (by kernel_rfl) (val_Wide.ok K (List.take (Int.toNat 16 - Int.toNat 8) (List.drop (Int.toNat 8) t1.1)) _ hr_t2)) ?_; clear hk; intro a w hk
      refine FW.lfun (y := .lit (.int .u64 t2)) hk rfl rfl rfl rfl (FW.f_assign hk (FW.holds_nil _) rfl) ?_; clear hk; intro a w hk
      refine FW.lend (hK6 _ _ ?_); clear hK6 K'
      refine FW.wseq ?_; intro K' hK7
      obtain ⟨hc2, h⟩ := FW.chk h
      obtain ⟨t3, hr_t3, h⟩ := FW.bnd h
      obtain ⟨hc3, h⟩ := FW.chk h
      obtain ⟨t4, hr_t4, h⟩ := FW.bndG h
      refine FW.wdraw (by kernel_rfl) (by kernel_rfl) hk ?_; clear hk
      refine FW.dfun (y := .lit (.string (FW.B t1.1))) rfl rfl rfl rfl (fun a w hk => FW.f_move hk (FW.holds_nil _) rfl) ?_
      refine FW.dfun (y := .lit (.string (FW.B (List.take (Int.toNat 8) t1.1)))) rfl rfl rfl rfl (fun a w hk => (FW.f_pure (FW.p_slice_hi Go.Proofs.Tryz.underlying9 hk.kn (FW.holds_nil _) rfl rfl hc2))) ?_
      refine FW.dfun (y := .lit (.int .u64 t3)) rfl rfl rfl rfl (fun a w hk => FW.f_call hk (FW.holds_nil _) rfl rfl Go.Proofs.Tryz.func38 rfl (by kernel_rfl) (val_Wide.ok K (List.take (Int.toNat 8) t1.1) _ hr_t3)) ?_
      refine FW.dfun (y := .lit (.pointer (some ⟨b0, 0, none⟩))) rfl rfl rfl rfl (fun a w hk => FW.f_move hk (FW.holds_nil _) rfl) ?_
      refine FW.dfun (y := .lit (.pointer (some ⟨b0, 0, none⟩))) rfl rfl rfl rfl (fun a w hk => (FW.f_pure (FW.p_nilCheck hk.kn (FW.holds_nil _) rfl))) ?_
      refine FW.dfun (y := .lit (.pointer (some ⟨b0, 4, none⟩))) rfl rfl rfl rfl (fun a w hk => FW.f_fieldPtr hk (FW.holds_nil _) rfl Go.Proofs.Tryz.underlying99 rfl (by kernel_rfl) rfl) ?_
      refine FW.dfun (y := .lit (.int .u64 v0.next)) rfl rfl rfl rfl (fun a w hk => FW.f_loadBlk1 hk (FW.holds_nil _) (j := 4) rfl rfl Go.Proofs.Tryz.underlying27 rfl rfl) ?_
      refine FW.dfun (y := .lit (.bool (!decide (t3 = v0.next)))) rfl rfl rfl rfl (fun a w hk => (FW.f_pure (FW.p_neq hk.kn (FW.holds_nil _) rfl rfl))) ?_
      refine FW.dfun (y := .lit (.bool (!decide (t3 = v0.next)))) rfl rfl rfl rfl (fun a w hk => FW.f_move hk (FW.holds_nil _) rfl) ?_
      refine FW.dfunG (y := .lit (.string (FW.B t1.1))) rfl rfl rfl rfl rfl rfl rfl rfl rfl (fun a w hk hc => FW.f_move hk hc rfl) ?_
      refine FW.dfunG (y := .lit (.string (FW.B t1.1))) rfl rfl rfl rfl rfl rfl rfl rfl rfl (fun a w hk hc => FW.f_move hk hc rfl) ?_
      refine FW.dfunG (y := .lit (.int .i64 (List.length t1.1 : Int))) rfl rfl rfl rfl rfl rfl rfl rfl rfl (fun a w hk hc => (FW.f_pure (FW.p_slen Go.Proofs.Tryz.underlying9 hk.kn hc rfl))) ?_
      refine FW.dfunG (y := .lit (.int .i64 (IntKind.wrap .i64 ((List.length t1.1 : Int) - 8)))) rfl rfl rfl rfl rfl rfl rfl rfl rfl (fun a w hk hc => (FW.f_pure (FW.p_sub hk.kn hc rfl rfl))) ?_
      refine FW.dfunG (y := .lit (.string (FW.B (List.drop (Int.toNat (IntKind.wrap .i64 ((List.length t1.1 : Int) - 8))) t1.1)))) rfl rfl rfl rfl rfl rfl rfl rfl rfl (fun a w hk hc => (FW.f_pure (FW.p_slice_lo Go.Proofs.Tryz.underlying9 hk.kn hc rfl rfl hc3))) ?_
      refine FW.dfunG (y := .lit (.int .u64 t4)) rfl rfl rfl rfl rfl rfl rfl rfl rfl (fun a w hk hc => FW.f_call hk hc rfl rfl Go.Proofs.Tryz.func38 rfl (by kernel_rfl) (val_Wide.ok K (List.drop (Int.toNat (IntKind.wrap .i64 ((List.length t1.1 : Int) - 8))) t1.1) _ (hr_t4 (FW.asm_out (p := (!decide (t3 = v0.next)) = false) hk.kn hc (fun e0 => e0))))) ?_
      refine FW.dfunG (y := .lit (.pointer (some ⟨b0, 0, none⟩))) rfl rfl rfl rfl rfl rfl rfl rfl rfl (fun a w hk hc => FW.f_move hk hc rfl) ?_
      refine FW.dfunG (y := .lit (.pointer (some ⟨b0, 0, none⟩))) rfl rfl rfl rfl rfl rfl rfl rfl rfl (fun a w hk hc => (FW.f_pure (FW.p_nilCheck hk.kn hc rfl))) ?_
      refine FW.dfunG (y := .lit (.pointer (some ⟨b0, 4, none⟩))) rfl rfl rfl rfl rfl rfl rfl rfl rfl (fun a w hk hc => FW.f_fieldPtr hk hc rfl Go.Proofs.Tryz.underlying99 rfl (by kernel_rfl) rfl) ?_
      refine FW.dfunG (y := .lit (.int .u64 v0.next)) rfl rfl rfl rfl rfl rfl rfl rfl rfl (fun a w hk hc => FW.f_loadBlk1 hk hc (j := 4) rfl rfl Go.Proofs.Tryz.underlying27 rfl rfl) ?_
      refine FW.dfunG (y := .lit (.bool (!decide (t4 = v0.next)))) rfl rfl rfl rfl rfl rfl rfl rfl rfl (fun a w hk hc => (FW.f_pure (FW.p_neq hk.kn hc rfl rfl))) ?_
      refine FW.dfun (y := .lit (.bool ((!decide (t3 = v0.next)) || (!decide (t4 = v0.next))))) rfl rfl rfl rfl (fun a w hk => (FW.f_pure (FW.p_pick_or hk.kn (FW.holds_nil _) rfl rfl))) ?_
      refine FW.dfun (y := .lit (.bool ((!decide (t3 = v0.next)) || (!decide (t4 = v0.next))))) rfl rfl rfl rfl (fun a w hk => FW.f_move hk (FW.holds_nil _) rfl) ?_
      refine FW.dfunG (y := .lit (.int .u64 t2)) rfl rfl rfl rfl rfl rfl rfl rfl rfl (fun a w hk hc => FW.f_move hk hc rfl) ?_
      refine FW.dfunG (y := .lit (.pointer (some ⟨b0, 0, none⟩))) rfl rfl rfl rfl rfl rfl rfl rfl rfl (fun a w hk hc => FW.f_move hk hc rfl) ?_
      refine FW.dfunG (y := .lit (.pointer (some ⟨b0, 0, none⟩))) rfl rfl rfl rfl rfl rfl rfl rfl rfl (fun a w hk hc => (FW.f_pure (FW.p_nilCheck hk.kn hc rfl))) ?_
      refine FW.dfunG (y := .lit (.pointer (some ⟨b0, 2, none⟩))) rfl rfl rfl rfl rfl rfl rfl rfl rfl (fun a w hk hc => FW.f_fieldPtr hk hc rfl Go.Proofs.Tryz.underlying99 rfl (by kernel_rfl) rfl) ?_
      refine FW.dfunG (y := .lit (.int .i64 v0.to_)) rfl rfl rfl rfl rfl rfl rfl rfl rfl (fun a w hk hc => FW.f_loadBlk1 hk hc (j := 4) rfl rfl Go.Proofs.Tryz.underlying3 rfl rfl) ?_
      refine FW.dfunG (y := .lit (.pointer (some ⟨b0, 0, none⟩))) rfl rfl rfl rfl rfl rfl rfl rfl rfl (fun a w hk hc => FW.f_move hk hc rfl) ?_
      refine FW.dfunG (y := .lit (.pointer (some ⟨b0, 0, none⟩))) rfl rfl rfl rfl rfl rfl rfl rfl rfl (fun a w hk hc => (FW.f_pure (FW.p_nilCheck hk.kn hc rfl))) ?_
      refine FW.dfunG (y := .lit (.pointer (some ⟨b0, 3, none⟩))) rfl rfl rfl rfl rfl rfl rfl rfl rfl (fun a w hk hc => FW.f_fieldPtr hk hc rfl Go.Proofs.Tryz.underlying99 rfl (by kernel_rfl) rfl) ?_
      refine FW.dfunG (y := .lit (.int .i64 v0.at_)) rfl rfl rfl rfl rfl rfl rfl rfl rfl (fun a w hk hc => FW.f_loadBlk1 hk hc (j := 4) rfl rfl Go.Proofs.Tryz.underlying3 rfl rfl) ?_
      refine FW.dfunG (y := .lit (.int .i64 (IntKind.wrap .i64 (v0.to_ - v0.at_)))) rfl rfl rfl rfl rfl rfl rfl rfl rfl (fun a w hk hc => (FW.f_pure (FW.p_sub hk.kn hc rfl rfl))) ?_
      refine FW.dfunG (y := .lit (.int .u64 (IntKind.wrap .u64 (IntKind.wrap .i64 (v0.to_ - v0.at_))))) rfl rfl rfl rfl rfl rfl rfl rfl rfl (fun a w hk hc => (FW.f_pure (FW.p_conv Go.Proofs.Tryz.underlying3 Go.Proofs.Tryz.underlying27 hk.kn hc rfl))) ?_
      refine FW.dfunG (y := .lit (.int .u64 (IntKind.wrap .u64 ((IntKind.wrap .u64 (IntKind.wrap .i64 (v0.to_ - v0.at_))) * 128)))) rfl rfl rfl rfl rfl rfl rfl rfl rfl (fun a w hk hc => (FW.f_pure (FW.p_mul hk.kn hc rfl rfl))) ?_
      refine FW.dfunG (y := .lit (.bool (decide ((IntKind.wrap .u64 ((IntKind.wrap .u64 (IntKind.wrap .i64 (v0.to_ - v0.at_))) * 128)) < t2)))) rfl rfl rfl rfl rfl rfl rfl rfl rfl (fun a w hk hc => (FW.f_pure (FW.p_gtr hk.kn hc rfl rfl))) ?_
      refine FW.dfun (y := .lit (.bool (((!decide (t3 = v0.next)) || (!decide (t4 = v0.next))) || (decide ((IntKind.wrap .u64 ((IntKind.wrap .u64 (IntKind.wrap .i64 (v0.to_ - v0.at_))) * 128)) < t2))))) rfl rfl rfl rfl (fun a w hk => (FW.f_pure (FW.p_pick_or hk.kn (FW.holds_nil _) rfl rfl))) ?_
      refine FW.dend ?_; intro a w hk
      refine FW.wcondF (b := (((!decide (t3 = v0.next)) || (!decide (t4 = v0.next))) || (decide ((IntKind.wrap .u64 ((IntKind.wrap .u64 (IntKind.wrap .i64 (v0.to_ - v0.at_))) * 128)) < t2)))) hk h rfl (fun h hb => ?_) (fun h hb => ?_)
      · skip
        refine FW.wreg ?_; intro K' hK9
        refine FW.lfun (y := .lit (.string (FW.B ([] : List UInt8)))) hk rfl rfl rfl rfl (FW.f_assign hk (FW.holds_nil _) rfl) ?_; clear hk; intro a w hk
        refine FW.lfun (y := .lit (.bool false)) hk rfl rfl rfl rfl (FW.f_assign hk (FW.holds_nil _) rfl) ?_; clear hk; intro a w hk
        refine FW.lend (hK9 _ _ ?_); clear hK9 K'
        refine wp_ret ?_
        (repeat first | refine FW.then_ret ?_ | refine FW.block_ret ?_)
        obtain rfl := Option.some.inj h
        replace hk := FW.S.keep (I1 := [FW.blk b0 99 ([.lit (.pointer (some ⟨b0_0, 0, none⟩)), .lit (.int .i64 v0.from_), .lit (.int .i64 v0.to_), .lit (.int .i64 v0.at_), .lit (.int .u64 v0.next)]), FW.blk b0_0 75 ([.lit (.slice xd0_0_0 (List.length v0_0.sure) xc0_0_0), .lit (.map (some xr0_0_1)), .lit (.int .i64 v0_0.steps), .lit (.slice xd0_0_3 (List.length v0_0.falls) xc0_0_3), .lit (.bool v0_0.off)]), FW.orow xd0_0_0 xc0_0_0 9 1 c_str v0_0.sure, FW.mapI (.int .i64) (Value.int .i64) FW.evS xr0_0_1 v0_0.cache, FW.orow xd0_0_3 xc0_0_3 52 3 ApiFall.cells v0_0.falls]) (I2 := []) (js := [3, 3, 3, 3, 4]) hk rfl
        exact FW.fretH2 hk rfl (FW.rtmp hk rfl) (FW.rtmp hk rfl) ⟨rfl, rfl⟩
      refine wp_skip ?_
      (repeat first | refine FW.then_normal ?_ | refine FW.block_normal ?_); refine hK7 _ _ ?_
      refine FW.wreg ?_; intro K' hK10
      refine FW.lfun (y := .lit (.int .u64 t2)) hk rfl rfl rfl rfl (FW.f_move hk (FW.holds_nil _) rfl) ?_; clear hk; intro a w hk
      refine FW.lfun (y := .lit (.int .i64 (IntKind.wrap .i64 t2))) hk rfl rfl rfl rfl ((FW.f_pure (FW.p_conv Go.Proofs.Tryz.underlying27 Go.Proofs.Tryz.underlying3 hk.kn (FW.holds_nil _) rfl))) ?_; clear hk; intro a w hk
      obtain ⟨t5, hr_t5, h⟩ := FW.bnd h
      refine FW.lfun (y := .lit (.int .i64 t5)) hk rfl rfl rfl rfl (FW.f_call hk (FW.holds_nil _) rfl rfl Go.Proofs.Tryz.func51 rfl (by kernel_rfl) (log_Sectors.ok (IntKind.wrap .i64 t2) _ hr_t5)) ?_; clear hk; intro a w hk
      refine FW.lfun (y := .lit (.int .i64 t5)) hk rfl rfl rfl rfl (FW.f_assign hk (FW.holds_nil _) rfl) ?_; clear hk; intro a w hk
      refine FW.lend (hK10 _ _ ?_); clear hK10 K'
      refine FW.wseq ?_; intro K' hK11
      refine FW.wdraw (by kernel_rfl) (by kernel_rfl) hk ?_; clear hk
      refine FW.dfun (y := .lit (.int .i64 t5)) rfl rfl rfl rfl (fun a w hk => FW.f_move hk (FW.holds_nil _) rfl) ?_
      refine FW.dfun (y := .lit (.pointer (some ⟨b0, 0, none⟩))) rfl rfl rfl rfl (fun a w hk => FW.f_move hk (FW.holds_nil _) rfl) ?_
      refine FW.dfun (y := .lit (.pointer (some ⟨b0, 0, none⟩))) rfl rfl rfl rfl (fun a w hk => (FW.f_pure (FW.p_nilCheck hk.kn (FW.holds_nil _) rfl))) ?_
      refine FW.dfun (y := .lit (.pointer (some ⟨b0, 2, none⟩))) rfl rfl rfl rfl (fun a w hk => FW.f_fieldPtr hk (FW.holds_nil _) rfl Go.Proofs.Tryz.underlying99 rfl (by kernel_rfl) rfl) ?_
      refine FW.dfun (y := .lit (.int .i64 v0.to_)) rfl rfl rfl rfl (fun a w hk => FW.f_loadBlk1 hk (FW.holds_nil _) (j := 4) rfl rfl Go.Proofs.Tryz.underlying3 rfl rfl) ?_
      refine FW.dfun (y := .lit (.pointer (some ⟨b0, 0, none⟩))) rfl rfl rfl rfl (fun a w hk => FW.f_move hk (FW.holds_nil _) rfl) ?_
      refine FW.dfun (y := .lit (.pointer (some ⟨b0, 0, none⟩))) rfl rfl rfl rfl (fun a w hk => (FW.f_pure (FW.p_nilCheck hk.kn (FW.holds_nil _) rfl))) ?_
      refine FW.dfun (y := .lit (.pointer (some ⟨b0, 3, none⟩))) rfl rfl rfl rfl (fun a w hk => FW.f_fieldPtr hk (FW.holds_nil _) rfl Go.Proofs.Tryz.underlying99 rfl (by kernel_rfl) rfl) ?_
      refine FW.dfun (y := .lit (.int .i64 v0.at_)) rfl rfl rfl rfl (fun a w hk => FW.f_loadBlk1 hk (FW.holds_nil _) (j := 4) rfl rfl Go.Proofs.Tryz.underlying3 rfl rfl) ?_
      refine FW.dfun (y := .lit (.int .i64 (IntKind.wrap .i64 (v0.to_ - v0.at_)))) rfl rfl rfl rfl (fun a w hk => (FW.f_pure (FW.p_sub hk.kn (FW.holds_nil _) rfl rfl))) ?_
      refine FW.dfun (y := .lit (.bool (decide ((IntKind.wrap .i64 (v0.to_ - v0.at_)) < t5)))) rfl rfl rfl rfl (fun a w hk => (FW.f_pure (FW.p_gtr hk.kn (FW.holds_nil _) rfl rfl))) ?_
      refine FW.dend ?_; intro a w hk
      refine FW.wcondF (b := (decide ((IntKind.wrap .i64 (v0.to_ - v0.at_)) < t5))) hk h rfl (fun h hb => ?_) (fun h hb => ?_)
      · skip
        refine FW.wreg ?_; intro K' hK13
        refine FW.lfun (y := .lit (.string (FW.B ([] : List UInt8)))) hk rfl rfl rfl rfl (FW.f_assign hk (FW.holds_nil _) rfl) ?_; clear hk; intro a w hk
        refine FW.lfun (y := .lit (.bool false)) hk rfl rfl rfl rfl (FW.f_assign hk (FW.holds_nil _) rfl) ?_; clear hk; intro a w hk
        refine FW.lend (hK13 _ _ ?_); clear hK13 K'
        refine wp_ret ?_
        (repeat first | refine FW.then_ret ?_ | refine FW.block_ret ?_)
        obtain rfl := Option.some.inj h
        replace hk := FW.S.keep (I1 := [FW.blk b0 99 ([.lit (.pointer (some ⟨b0_0, 0, none⟩)), .lit (.int .i64 v0.from_), .lit (.int .i64 v0.to_), .lit (.int .i64 v0.at_), .lit (.int .u64 v0.next)]), FW.blk b0_0 75 ([.lit (.slice xd0_0_0 (List.length v0_0.sure) xc0_0_0), .lit (.map (some xr0_0_1)), .lit (.int .i64 v0_0.steps), .lit (.slice xd0_0_3 (List.length v0_0.falls) xc0_0_3), .lit (.bool v0_0.off)]), FW.orow xd0_0_0 xc0_0_0 9 1 c_str v0_0.sure, FW.mapI (.int .i64) (Value.int .i64) FW.evS xr0_0_1 v0_0.cache, FW.orow xd0_0_3 xc0_0_3 52 3 ApiFall.cells v0_0.falls]) (I2 := []) (js := [3, 3, 3, 3, 4]) hk rfl
        exact FW.fretH2 hk rfl (FW.rtmp hk rfl) (FW.rtmp hk rfl) ⟨rfl, rfl⟩
      refine wp_skip ?_
      (repeat first | refine FW.then_normal ?_ | refine FW.block_normal ?_); refine hK11 _ _ ?_
      refine FW.wreg ?_; intro K' hK14
      refine FW.lfun (y := .lit (.string (FW.B t1.1))) hk rfl rfl rfl rfl (FW.f_move hk (FW.holds_nil _) rfl) ?_; clear hk; intro a w hk
      obtain ⟨hc4, h⟩ := FW.chk h
      refine FW.lfun (y := .lit (.string (FW.B (List.take (Int.toNat 120 - Int.toNat 16) (List.drop (Int.toNat 16) t1.1))))) hk rfl rfl rfl rfl ((FW.f_pure (FW.p_slice Go.Proofs.Tryz.underlying9 hk.kn (FW.holds_nil _) rfl rfl rfl hc4))) ?_; clear hk; intro a w hk
      refine FW.lfun (y := .lit (.string (FW.B (List.take (Int.toNat 120 - Int.toNat 16) (List.drop (Int.toNat 16) t1.1))))) hk rfl rfl rfl rfl (FW.f_assign hk (FW.holds_nil _) rfl) ?_; clear hk; intro a w hk
      refine FW.lend (hK14 _ _ ?_); clear hK14 K'
      refine FW.wseq ?_; intro K' hK15
      refine FW.wreg ?_; intro K' hK16
      refine FW.lfun (y := .lit (.int .i64 1)) hk rfl rfl rfl rfl (FW.f_assign hk (FW.holds_nil _) rfl) ?_; clear hk; intro a w hk
      refine FW.lend (hK16 _ _ ?_); clear hK16 K'
      refine wp_block ?_
      refine FW.wloop (T := Nat × Int × Int × List UInt8 × Int) (fun x a w => match x with | (kl1, v6, v7, v8, v9) => FW.S M w0 a w 113 [FW.blk b0_0 75 ([.lit (.slice xd0_0_0 (List.length v0_0.sure) xc0_0_0), .lit (.map (some xr0_0_1)), .lit (.int .i64 v0_0.steps), .lit (.slice xd0_0_3 (List.length v0_0.falls) xc0_0_3), .lit (.bool v0_0.off)]), FW.orow xd0_0_0 xc0_0_0 9 1 c_str v0_0.sure, FW.mapI (.int .i64) (Value.int .i64) FW.evS xr0_0_1 v0_0.cache, FW.orow xd0_0_3 xc0_0_3 52 3 ApiFall.cells v0_0.falls, FW.blk b0 99 ([.lit (.pointer (some ⟨b0_0, 0, none⟩)), .lit (.int .i64 v0.from_), .lit (.int .i64 v0.to_), .lit (.int .i64 v0.at_), .lit (.int .u64 v0.next)])] [(0, [], .lit (.pointer (some ⟨b0, 0, none⟩))), (6, [], .lit (.int .u64 v6)), (7, [], .lit (.int .i64 v7)), (8, [], .lit (.string (FW.B v8))), (9, [], .lit (.int .i64 v9))] ∧ log_Log_read.l1 K v0 v0_0 kl1 v6 v7 v8 v9 = some r) (fun x => x.1) (K, t2, t5, (List.take (Int.toNat 120 - Int.toNat 16) (List.drop (Int.toNat 16) t1.1)), 1) ⟨hk.sub ⟨rfl, rfl, rfl, rfl, rfl, trivial⟩, h⟩ ?_
      clear hk h
      rintro ⟨kl1, v6, v7, v8, v9⟩ a w ⟨hk, h⟩ K' hK17
      cases kl1 with
      | zero => simp [log_Log_read.l1] at h
      | succ kl1 =>
      rw [log_Log_read.l1.eq_2] at h
      refine FW.wseq ?_; intro K' hK18
      refine FW.wreg ?_; intro K' hK19
      refine FW.lfun (y := .lit (.int .i64 v9)) hk rfl rfl rfl rfl (FW.f_move hk (FW.holds_nil _) rfl) ?_; clear hk; intro a w hk
      refine FW.lfun (y := .lit (.int .i64 v7)) hk rfl rfl rfl rfl (FW.f_move hk (FW.holds_nil _) rfl) ?_; clear hk; intro a w hk
      refine FW.lfun (y := .lit (.bool (decide (v9 < v7)))) hk rfl rfl rfl rfl ((FW.f_pure (FW.p_lss hk.kn (FW.holds_nil _) rfl rfl))) ?_; clear hk; intro a w hk
      refine FW.lend (hK19 _ _ ?_); clear hK19 K'
      refine FW.wcondF (b := (decide (v9 < v7))) hk h rfl (fun h hb => ?_) (fun h hb => ?_)
      · skip
        refine wp_skip ?_
        (repeat first | refine FW.then_normal ?_ | refine FW.block_normal ?_); refine hK18 _ _ ?_
        refine FW.wseq ?_; intro K' hK20
        refine wp_block ?_
        obtain ⟨t6, hr_t6, h⟩ := FW.bnd h
        refine FW.wdrawE (.next [true, true, true, true, true, true, true, true, true, true, false, false, false, false, false, false] 10 [true, true, true, true, true, true, true, true, true, true, false, false, false, false, false, false] (.leaf [false, false, false, false, false, false, false, false, false, false, false, true, true, true, true, true])) [(94, [], .lit (.pointer (some ⟨b0, 0, none⟩))), (95, [], .lit (.pointer (some ⟨b0, 0, none⟩))), (96, [], .lit (.pointer (some ⟨b0, 0, none⟩))), (97, [], .lit (.pointer (some ⟨b0_0, 0, none⟩))), (98, [], .lit (.pointer (some ⟨b0, 0, none⟩))), (99, [], .lit (.pointer (some ⟨b0, 0, none⟩))), (100, [], .lit (.pointer (some ⟨b0, 3, none⟩))), (101, [], .lit (.int .i64 v0.at_)), (102, [], .lit (.int .i64 v9)), (103, [], .lit (.int .i64 (IntKind.wrap .i64 (v0.at_ + v9)))), (104, [], .agg []), (93, [], .agg []), (105, [], .agg []), (106, [], .agg []), (10, [], .agg []), (11, [], .agg [])] (by kernel_rfl) (by kernel_rfl) (by kernel_rfl) (by kernel_rfl) hk ?_; clear hk
        refine FW.gnext ?_ rfl rfl rfl rfl rfl ?_
        · skip
          refine FW.gfun (y := .lit (.pointer (some ⟨b0, 0, none⟩))) rfl rfl rfl rfl (fun a w hk => FW.f_move hk (FW.holds_nil _) rfl) ?_
          refine FW.gfun (y := .lit (.pointer (some ⟨b0, 0, none⟩))) rfl rfl rfl rfl (fun a w hk => (FW.f_pure (FW.p_nilCheck hk.kn (FW.holds_nil _) rfl))) ?_
          refine FW.gfun (y := .lit (.pointer (some ⟨b0, 0, none⟩))) rfl rfl rfl rfl (fun a w hk => FW.f_fieldPtr hk (FW.holds_nil _) rfl Go.Proofs.Tryz.underlying99 rfl (by kernel_rfl) rfl) ?_
          refine FW.gfun (y := .lit (.pointer (some ⟨b0_0, 0, none⟩))) rfl rfl rfl rfl (fun a w hk => FW.f_loadBlk1 hk (FW.holds_nil _) (j := 4) rfl rfl Go.Proofs.Tryz.underlying24 rfl rfl) ?_
          refine FW.gfun (y := .lit (.pointer (some ⟨b0, 0, none⟩))) rfl rfl rfl rfl (fun a w hk => FW.f_move hk (FW.holds_nil _) rfl) ?_
          refine FW.gfun (y := .lit (.pointer (some ⟨b0, 0, none⟩))) rfl rfl rfl rfl (fun a w hk => (FW.f_pure (FW.p_nilCheck hk.kn (FW.holds_nil _) rfl))) ?_
          refine FW.gfun (y := .lit (.pointer (some ⟨b0, 3, none⟩))) rfl rfl rfl rfl (fun a w hk => FW.f_fieldPtr hk (FW.holds_nil _) rfl Go.Proofs.Tryz.underlying99 rfl (by kernel_rfl) rfl) ?_
          refine FW.gfun (y := .lit (.int .i64 v0.at_)) rfl rfl rfl rfl (fun a w hk => FW.f_loadBlk1 hk (FW.holds_nil _) (j := 4) rfl rfl Go.Proofs.Tryz.underlying3 rfl rfl) ?_
          refine FW.gfun (y := .lit (.int .i64 v9)) rfl rfl rfl rfl (fun a w hk => FW.f_move hk (FW.holds_nil _) rfl) ?_
          refine FW.gfun (y := .lit (.int .i64 (IntKind.wrap .i64 (v0.at_ + v9)))) rfl rfl rfl rfl (fun a w hk => (FW.f_pure (FW.p_add hk.kn (FW.holds_nil _) rfl rfl))) ?_
          refine FW.gskip rfl rfl ?_
          refine FW.gskip rfl rfl ?_
          refine FW.gskip rfl rfl ?_
          refine FW.gskip rfl rfl ?_
          refine FW.gskip rfl rfl ?_
          refine FW.gskip rfl rfl ?_
          exact FW.gend
        · skip
          intro σD a w opsD QD hk hf hQ hX
          refine FW.l_callH (I1 := (ODevDev.items b0_0 xd0_0_0 xc0_0_0 xr0_0_1 xd0_0_3 xc0_0_3 v0_0)) (I2 := [FW.blk b0 99 ([.lit (.pointer (some ⟨b0_0, 0, none⟩)), .lit (.int .i64 v0.from_), .lit (.int .i64 v0.to_), .lit (.int .i64 v0.at_), .lit (.int .u64 v0.next)])]) (js := [3, 3, 3, 3]) hk rfl rfl hf rfl rfl Go.Proofs.Tryz.func61 rfl (by kernel_rfl) (dev_Dev_Read.ok v0_0 (IntKind.wrap .i64 (v0.at_ + v9)) _ hr_t6 b0_0 xd0_0_0 xc0_0_0 xr0_0_1 xd0_0_3 xc0_0_3) ?_; clear hk
          rintro _ _ ⟨rfl, rfl⟩ a w hk
          refine hQ _ _ a w ?_ hk; clear hk hQ hf hX
          refine ⟨[(94, [], .lit (.pointer (some ⟨b0, 0, none⟩))), (95, [], .lit (.pointer (some ⟨b0, 0, none⟩))), (96, [], .lit (.pointer (some ⟨b0, 0, none⟩))), (97, [], .lit (.pointer (some ⟨b0_0, 0, none⟩))), (98, [], .lit (.pointer (some ⟨b0, 0, none⟩))), (99, [], .lit (.pointer (some ⟨b0, 0, none⟩))), (100, [], .lit (.pointer (some ⟨b0, 3, none⟩))), (101, [], .lit (.int .i64 v0.at_)), (102, [], .lit (.int .i64 v9)), (103, [], .lit (.int .i64 (IntKind.wrap .i64 (v0.at_ + v9)))), (104, [], .tup [.lit (.string (FW.B t6.1)), .lit (.int .i64 t6.2)]), (93, [], .tup [.lit (.string (FW.B t6.1)), .lit (.int .i64 t6.2)]), (105, [], .lit (.string (FW.B t6.1))), (106, [], .lit (.int .i64 t6.2)), (10, [], .lit (.string (FW.B t6.1))), (11, [], .lit (.int .i64 t6.2))], And.intro rfl (And.intro rfl (And.intro rfl (And.intro rfl (And.intro rfl (And.intro rfl (And.intro rfl (And.intro rfl (And.intro rfl (And.intro rfl (trivial)))))))))), rfl, ?_⟩
          refine FW.glast ?_ ?_
          · skip
            refine FW.gskip rfl rfl ?_
            refine FW.gskip rfl rfl ?_
            refine FW.gskip rfl rfl ?_
            refine FW.gskip rfl rfl ?_
            refine FW.gskip rfl rfl ?_
            refine FW.gskip rfl rfl ?_
            refine FW.gskip rfl rfl ?_
            refine FW.gskip rfl rfl ?_
            refine FW.gskip rfl rfl ?_
            refine FW.gskip rfl rfl ?_
            refine FW.gskip rfl rfl ?_
            refine FW.gfun (y := .tup [.lit (.string (FW.B t6.1)), .lit (.int .i64 t6.2)]) rfl rfl rfl rfl (fun a w hk => FW.f_move hk (FW.holds_nil _) rfl) ?_
            refine FW.gfun (y := .lit (.string (FW.B t6.1))) rfl rfl rfl rfl (fun a w hk => FW.f_extract hk (FW.holds_nil _) rfl rfl) ?_
            refine FW.gfun (y := .lit (.int .i64 t6.2)) rfl rfl rfl rfl (fun a w hk => FW.f_extract hk (FW.holds_nil _) rfl rfl) ?_
            refine FW.gfun (y := .lit (.string (FW.B t6.1))) rfl rfl rfl rfl (fun a w hk => FW.f_assign hk (FW.holds_nil _) rfl) ?_
            refine FW.gfun (y := .lit (.int .i64 t6.2)) rfl rfl rfl rfl (fun a w hk => FW.f_assign hk (FW.holds_nil _) rfl) ?_
            exact FW.gend
          · skip
            intro a w hk; simp only [FW.stD, cond_true] at hk
            refine FW.wreg1 ?_
            refine FW.lfun (y := .lit (.string (FW.B v8))) hk rfl rfl rfl rfl (FW.f_move hk (FW.holds_nil _) rfl) ?_; clear hk; intro a w hk
            refine FW.lfun (y := .lit (.string (FW.B t6.1))) hk rfl rfl rfl rfl (FW.f_move hk (FW.holds_nil _) rfl) ?_; clear hk; intro a w hk
            obtain ⟨hc5, h⟩ := FW.chk h
            refine FW.lfun (y := .lit (.string (FW.B (v8 ++ t6.1)))) hk rfl rfl rfl rfl ((FW.f_pure (FW.p_sadd hk.kn (FW.holds_nil _) rfl rfl hc5))) ?_; clear hk; intro a w hk
            refine FW.lfun (y := .lit (.string (FW.B (v8 ++ t6.1)))) hk rfl rfl rfl rfl (FW.f_assign hk (FW.holds_nil _) rfl) ?_; clear hk; intro a w hk
            refine wpList_nil ?_
            (repeat first | refine FW.then_normal ?_ | refine FW.block_normal ?_); refine hK20 _ _ ?_
            refine FW.wreg1 ?_
            refine FW.lfun (y := .lit (.int .i64 v9)) hk rfl rfl rfl rfl (FW.f_move hk (FW.holds_nil _) rfl) ?_; clear hk; intro a w hk
            refine FW.lfun (y := .lit (.int .i64 (IntKind.wrap .i64 (v9 + 1)))) hk rfl rfl rfl rfl ((FW.f_pure (FW.p_add hk.kn (FW.holds_nil _) rfl rfl))) ?_; clear hk; intro a w hk
            refine FW.lfun (y := .lit (.int .i64 (IntKind.wrap .i64 (v9 + 1)))) hk rfl rfl rfl rfl (FW.f_assign hk (FW.holds_nil _) rfl) ?_; clear hk; intro a w hk
            refine wpList_nil ?_
            (repeat first | refine FW.then_normal ?_ | refine FW.block_normal ?_); exact hK17 (kl1, v6, v7, (v8 ++ t6.1), (IntKind.wrap .i64 (v9 + 1))) _ _ (Nat.lt_succ_self _) ⟨hk.sub ⟨rfl, rfl, rfl, rfl, rfl, trivial⟩, h⟩
      refine wp_exit ?_; (repeat first | refine FW.then_exit ?_ | refine FW.block_exit_ne rfl ?_); refine FW.block_exit ?_
      (repeat first | refine FW.then_normal ?_ | refine FW.block_normal ?_); refine hK15 _ _ ?_
      refine FW.wreg ?_; intro K' hK24
      refine FW.lfun (y := .lit (.string (FW.B v8))) hk rfl rfl rfl rfl (FW.f_move hk (FW.holds_nil _) rfl) ?_; clear hk; intro a w hk
      refine FW.lfun (y := .lit (.int .u64 v6)) hk rfl rfl rfl rfl (FW.f_move hk (FW.holds_nil _) rfl) ?_; clear hk; intro a w hk
      obtain ⟨hc6, h⟩ := FW.chk h
      refine FW.lfun (y := .lit (.string (FW.B (List.take (Int.toNat v6) v8)))) hk rfl rfl rfl rfl ((FW.f_pure (FW.p_slice_hi Go.Proofs.Tryz.underlying9 hk.kn (FW.holds_nil _) rfl rfl hc6))) ?_; clear hk; intro a w hk
      refine FW.lfun (y := .lit (.string (FW.B (List.take (Int.toNat v6) v8)))) hk rfl rfl rfl rfl (FW.f_assign hk (FW.holds_nil _) rfl) ?_; clear hk; intro a w hk
      refine FW.lfun (y := .lit (.bool true)) hk rfl rfl rfl rfl (FW.f_assign hk (FW.holds_nil _) rfl) ?_; clear hk; intro a w hk
      refine FW.lend (hK24 _ _ ?_); clear hK24 K'
      refine wp_ret ?_
      (repeat first | refine FW.then_ret ?_ | refine FW.block_ret ?_)
      obtain rfl := Option.some.inj h
      replace hk := FW.S.keep (I1 := [FW.blk b0 99 ([.lit (.pointer (some ⟨b0_0, 0, none⟩)), .lit (.int .i64 v0.from_), .lit (.int .i64 v0.to_), .lit (.int .i64 v0.at_), .lit (.int .u64 v0.next)]), FW.blk b0_0 75 ([.lit (.slice xd0_0_0 (List.length v0_0.sure) xc0_0_0), .lit (.map (some xr0_0_1)), .lit (.int .i64 v0_0.steps), .lit (.slice xd0_0_3 (List.length v0_0.falls) xc0_0_3), .lit (.bool v0_0.off)]), FW.orow xd0_0_0 xc0_0_0 9 1 c_str v0_0.sure, FW.mapI (.int .i64) (Value.int .i64) FW.evS xr0_0_1 v0_0.cache, FW.orow xd0_0_3 xc0_0_3 52 3 ApiFall.cells v0_0.falls]) (I2 := []) (js := [3, 3, 3, 3, 4]) hk rfl
      exact FW.fretH2 hk rfl (FW.rtmp hk rfl) (FW.rtmp hk rfl) ⟨rfl, rfl⟩
end Go.Proofs.YtfbkgaandmebaaaGreat
namespace Go.Proofs.YtfbkgaandmebaaaGreat
set_option linter.unusedVariables false
set_option maxRecDepth 20000
set_option maxHeartbeats 10000000
theorem log_Open_opt.ok (K : Nat) (v0 : ODevDev) (v1 : Int) (v2 : Int) (v3 : Int) (r : Option OLogLog × List (List UInt8) × Int × ODevDev) (h : log_Open_opt.f K v0 v1 v2 v3 = some r) :
    ∀ (b0 : Nat) (xd0_0 : Option Addr) (xc0_0 : Nat) (xr0_1 : Nat) (xd0_3 : Option Addr) (xc0_3 : Nat), FW.OkH Go.Proofs.Tryz.prog 41 [.lit (.pointer (some ⟨b0, 0, none⟩)), .lit (.int .i64 v1), .lit (.int .i64 v2), .lit (.int .u64 v3)] (ODevDev.items b0 xd0_0 xc0_0 xr0_1 xd0_3 xc0_3 v0) (fun y I => ∃ (bn0 : Nat) (zxd0_0 : Option Addr) (zxc0_0 : Nat) (zxr0_1 : Nat) (zxd0_3 : Option Addr) (zxc0_3 : Nat), y = .tup [FW.ptrO r.1 bn0, .row (r_c_str r.2.1), .lit (.int .i64 r.2.2.1)] ∧ I = (FW.optI r.1 fun x => OLogLog.items bn0 b0 x) ++ (ODevDev.items b0 zxd0_0 zxc0_0 zxr0_1 zxd0_3 zxc0_3 r.2.2.2)) := by
  intro b0 xd0_0 xc0_0 xr0_1 xd0_3 xc0_3
  refine FW.enterH (xs := [.lit (.pointer (some ⟨b0, 0, none⟩)), .lit (.int .i64 v1), .lit (.int .i64 v2), .lit (.int .u64 v3)]) Go.Proofs.Tryz.func41 rfl Go.Proofs.Tryz.ntmps41 rfl ?_
  intro M w0 a hk
  replace hk : FW.S M w0 a w0.toWorld 75 [FW.blk b0 75 ([.lit (.slice xd0_0 (List.length v0.sure) xc0_0), .lit (.map (some xr0_1)), .lit (.int .i64 v0.steps), .lit (.slice xd0_3 (List.length v0.falls) xc0_3), .lit (.bool v0.off)]), FW.orow xd0_0 xc0_0 9 1 c_str v0.sure, FW.mapI (.int .i64) (Value.int .i64) FW.evS xr0_1 v0.cache, FW.orow xd0_3 xc0_3 52 3 ApiFall.cells v0.falls] [(0, [], .lit (.pointer (some ⟨b0, 0, none⟩))), (1, [], .lit (.int .i64 v1)), (2, [], .lit (.int .i64 v2)), (3, [], .lit (.int .u64 v3))] := hk
  unfold log_Open_opt.f at h
  refine FW.wreg ?_; intro K' hK1
  refine FW.lfun (y := .lit (.pointer none)) hk rfl rfl rfl rfl (FW.f_assign hk (FW.holds_nil _) rfl) ?_; clear hk; intro a w hk
  refine FW.lfun (y := .row (r_c_str [])) hk rfl rfl rfl rfl (FW.f_assignNil) ?_; clear hk; intro a w hk
  refine FW.lfun (y := .lit (.int .i64 0)) hk rfl rfl rfl rfl (FW.f_assign hk (FW.holds_nil _) rfl) ?_; clear hk; intro a w hk
  refine FW.lend (hK1 _ _ ?_); clear hK1 K'
  refine FW.wseq ?_; intro K' hK2
  refine FW.wreg ?_; intro K' hK3
  refine FW.lfun (y := .lit (.pointer (some ⟨b0, 0, none⟩))) hk rfl rfl rfl rfl (FW.f_move hk (FW.holds_nil _) rfl) ?_; clear hk; intro a w hk
  refine FW.lfun (y := .lit (.bool false)) hk rfl rfl rfl rfl ((FW.f_pure (FW.p_ptrEq Go.Proofs.Tryz.underlying24 hk.kn (FW.holds_nil _) rfl rfl rfl))) ?_; clear hk; intro a w hk
  refine FW.lfun (y := .lit (.bool false)) hk rfl rfl rfl rfl (FW.f_move hk (FW.holds_nil _) rfl) ?_; clear hk; intro a w hk
  refine FW.lfunG (y := .lit (.int .i64 v1)) hk rfl rfl rfl rfl rfl rfl rfl rfl (fun hc => FW.f_move hk hc rfl) ?_; clear hk; intro a w hk
  refine FW.lfunG (y := .lit (.bool (decide (v1 < 0)))) hk rfl rfl rfl rfl rfl rfl rfl rfl (fun hc => (FW.f_pure (FW.p_lss hk.kn hc rfl rfl))) ?_; clear hk; intro a w hk
  refine FW.lfun (y := .lit (.bool (decide (v1 < 0)))) hk rfl rfl rfl rfl ((FW.f_pure (FW.p_pickX hk.kn (FW.holds_nil _) rfl rfl))) ?_; clear hk; intro a w hk
  refine FW.lfun (y := .lit (.bool (decide (v1 < 0)))) hk rfl rfl rfl rfl (FW.f_move hk (FW.holds_nil _) rfl) ?_; clear hk; intro a w hk
  refine FW.lfunG (y := .lit (.int .i64 v2)) hk rfl rfl rfl rfl rfl rfl rfl rfl (fun hc => FW.f_move hk hc rfl) ?_; clear hk; intro a w hk
  refine FW.lfunG (y := .lit (.int .i64 v1)) hk rfl rfl rfl rfl rfl rfl rfl rfl (fun hc => FW.f_move hk hc rfl) ?_; clear hk; intro a w hk
  refine FW.lfunG (y := .lit (.bool (decide (v2 < v1)))) hk rfl rfl rfl rfl rfl rfl rfl rfl (fun hc => (FW.f_pure (FW.p_lss hk.kn hc rfl rfl))) ?_; clear hk; intro a w hk
  refine FW.lfun (y := .lit (.bool ((decide (v1 < 0)) || (decide (v2 < v1))))) hk rfl rfl rfl rfl ((FW.f_pure (FW.p_pick_or hk.kn (FW.holds_nil _) rfl rfl))) ?_; clear hk; intro a w hk
  refine FW.lfun (y := .lit (.bool ((decide (v1 < 0)) || (decide (v2 < v1))))) hk rfl rfl rfl rfl (FW.f_move hk (FW.holds_nil _) rfl) ?_; clear hk; intro a w hk
  refine FW.lfunG (y := .lit (.int .i64 v2)) hk rfl rfl rfl rfl rfl rfl rfl rfl (fun hc => FW.f_move hk hc rfl) ?_; clear hk; intro a w hk
  refine FW.lfunG (y := .lit (.pointer (some ⟨b0, 0, none⟩))) hk rfl rfl rfl rfl rfl rfl rfl rfl (fun hc => FW.f_move hk hc rfl) ?_; clear hk; intro a w hk
  obtain ⟨t1, hr_t1, hn_t1, h⟩ := FW.bndG2 h
  refine FW.l_callHG (I1 := (ODevDev.items b0 xd0_0 xc0_0 xr0_1 xd0_3 xc0_3 v0)) (I2 := []) (js := [3, 3, 3, 3]) hk rfl rfl rfl rfl rfl rfl rfl rfl rfl Go.Proofs.Tryz.func36 rfl (by kernel_rfl) (fun hc => dev_Dev_Len.ok v0 _ (hr_t1 (FW.asm_out (p := ((decide (v1 < 0)) || (decide (v2 < v1))) = false) hk.kn hc (fun e0 => e0))) b0 xd0_0 xc0_0 xr0_1 xd0_3 xc0_3) (fun hn => by obtain rfl := hn_t1 (fun hp => hn (FW.asm_in hk.kn (by have e0 := hp; exact ⟨e0, rfl, trivial⟩))); exact ⟨_, rfl, rfl⟩) ?_; clear hk
  rintro _ _ ⟨rfl, rfl⟩ a w hk
  refine FW.lfunG (y := .lit (.bool (decide (t1 < v2)))) hk rfl rfl rfl rfl rfl rfl rfl rfl (fun hc => (FW.f_pure (FW.p_gtr hk.kn hc rfl rfl))) ?_; clear hk; intro a w hk
  refine FW.lfun (y := .lit (.bool (((decide (v1 < 0)) || (decide (v2 < v1))) || (decide (t1 < v2))))) hk rfl rfl rfl rfl ((FW.f_pure (FW.p_pick_or hk.kn (FW.holds_nil _) rfl rfl))) ?_; clear hk; intro a w hk
  refine FW.lfun (y := .lit (.bool (((decide (v1 < 0)) || (decide (v2 < v1))) || (decide (t1 < v2))))) hk rfl rfl rfl rfl (FW.f_move hk (FW.holds_nil _) rfl) ?_; clear hk; intro a w hk
  refine FW.lfunG (y := .lit (.int .u64 v3)) hk rfl rfl rfl rfl rfl rfl rfl rfl (fun hc => FW.f_move hk hc rfl) ?_; clear hk; intro a w hk
  refine FW.lfunG (y := .lit (.bool (decide (v3 = 0)))) hk rfl rfl rfl rfl rfl rfl rfl rfl (fun hc => (FW.f_pure (FW.p_eql hk.kn hc rfl rfl))) ?_; clear hk; intro a w hk
  refine FW.lfun (y := .lit (.bool ((((decide (v1 < 0)) || (decide (v2 < v1))) || (decide (t1 < v2))) || (decide (v3 = 0))))) hk rfl rfl rfl rfl ((FW.f_pure (FW.p_pick_or hk.kn (FW.holds_nil _) rfl rfl))) ?_; clear hk; intro a w hk
  refine FW.lend (hK3 _ _ ?_); clear hK3 K'
  refine FW.wcondF (b := ((((decide (v1 < 0)) || (decide (v2 < v1))) || (decide (t1 < v2))) || (decide (v3 = 0)))) hk h rfl (fun h hb => ?_) (fun h hb => ?_)
  · skip
    refine FW.wreg ?_; intro K' hK4
    refine FW.lfun (y := .lit (.pointer none)) hk rfl rfl rfl rfl (FW.f_assign hk (FW.holds_nil _) rfl) ?_; clear hk; intro a w hk
    refine FW.lfun (y := .row (r_c_str [])) hk rfl rfl rfl rfl (FW.f_assignNil) ?_; clear hk; intro a w hk
    refine FW.lfun (y := .lit (.int .i64 1)) hk rfl rfl rfl rfl (FW.f_assign hk (FW.holds_nil _) rfl) ?_; clear hk; intro a w hk
    refine FW.lend (hK4 _ _ ?_); clear hK4 K'
    refine wp_ret ?_
    (repeat first | refine FW.then_ret ?_ | refine FW.block_ret ?_)
    obtain rfl := Option.some.inj h
    replace hk := FW.S.keep (I1 := [FW.blk b0 75 ([.lit (.slice xd0_0 (List.length v0.sure) xc0_0), .lit (.map (some xr0_1)), .lit (.int .i64 v0.steps), .lit (.slice xd0_3 (List.length v0.falls) xc0_3), .lit (.bool v0.off)]), FW.orow xd0_0 xc0_0 9 1 c_str v0.sure, FW.mapI (.int .i64) (Value.int .i64) FW.evS xr0_1 v0.cache, FW.orow xd0_3 xc0_3 52 3 ApiFall.cells v0.falls]) (I2 := []) (js := [3, 3, 3, 3]) hk rfl
    exact FW.fretH3 hk rfl (FW.rtmp hk rfl) (FW.rtmp hk rfl) (FW.rtmp hk rfl) ⟨0, xd0_0, xc0_0, xr0_1, xd0_3, xc0_3, rfl, rfl⟩
  refine wp_skip ?_
  (repeat first | refine FW.then_normal ?_ | refine FW.block_normal ?_); refine hK2 _ _ ?_
  refine FW.wseq ?_; intro K' hK5
  refine FW.wreg ?_; intro K' hK6
  refine FW.lfun (y := .lit (.pointer (some ⟨b0, 0, none⟩))) hk rfl rfl rfl rfl (FW.f_move hk (FW.holds_nil _) rfl) ?_; clear hk; intro a w hk
  obtain ⟨t2, hr_t2, h⟩ := FW.bnd h
  refine FW.l_callH (I1 := (ODevDev.items b0 xd0_0 xc0_0 xr0_1 xd0_3 xc0_3 v0)) (I2 := []) (js := [3, 3, 3, 3]) hk rfl rfl rfl rfl rfl Go.Proofs.Tryz.func13 rfl (by kernel_rfl) (dev_Dev_Off.ok v0 _ hr_t2 b0 xd0_0 xc0_0 xr0_1 xd0_3 xc0_3) ?_; clear hk
  rintro _ _ ⟨rfl, rfl⟩ a w hk
  refine FW.lend (hK6 _ _ ?_); clear hK6 K'
  refine FW.wcondF (b := t2) hk h rfl (fun h hb => ?_) (fun h hb => ?_)
  · skip
    refine FW.wreg ?_; intro K' hK7
    refine FW.lfun (y := .lit (.pointer none)) hk rfl rfl rfl rfl (FW.f_assign hk (FW.holds_nil _) rfl) ?_; clear hk; intro a w hk
    refine FW.lfun (y := .row (r_c_str [])) hk rfl rfl rfl rfl (FW.f_assignNil) ?_; clear hk; intro a w hk
    refine FW.lfun (y := .lit (.int .i64 7)) hk rfl rfl rfl rfl (FW.f_assign hk (FW.holds_nil _) rfl) ?_; clear hk; intro a w hk
    refine FW.lend (hK7 _ _ ?_); clear hK7 K'
    refine wp_ret ?_
    (repeat first | refine FW.then_ret ?_ | refine FW.block_ret ?_)
    obtain rfl := Option.some.inj h
    replace hk := FW.S.keep (I1 := [FW.blk b0 75 ([.lit (.slice xd0_0 (List.length v0.sure) xc0_0), .lit (.map (some xr0_1)), .lit (.int .i64 v0.steps), .lit (.slice xd0_3 (List.length v0.falls) xc0_3), .lit (.bool v0.off)]), FW.orow xd0_0 xc0_0 9 1 c_str v0.sure, FW.mapI (.int .i64) (Value.int .i64) FW.evS xr0_1 v0.cache, FW.orow xd0_3 xc0_3 52 3 ApiFall.cells v0.falls]) (I2 := []) (js := [3, 3, 3, 3]) hk rfl
    exact FW.fretH3 hk rfl (FW.rtmp hk rfl) (FW.rtmp hk rfl) (FW.rtmp hk rfl) ⟨0, xd0_0, xc0_0, xr0_1, xd0_3, xc0_3, rfl, rfl⟩
  refine wp_skip ?_
  (repeat first | refine FW.then_normal ?_ | refine FW.block_normal ?_); refine hK5 _ _ ?_
  refine FW.wreg ?_; intro K' hK8
  refine FW.lfun (y := .lit (.pointer (some ⟨b0, 0, none⟩))) hk rfl rfl rfl rfl (FW.f_move hk (FW.holds_nil _) rfl) ?_; clear hk; intro a w hk
  refine FW.lfun (y := .lit (.int .i64 v1)) hk rfl rfl rfl rfl (FW.f_move hk (FW.holds_nil _) rfl) ?_; clear hk; intro a w hk
  refine FW.lfun (y := .lit (.int .i64 v2)) hk rfl rfl rfl rfl (FW.f_move hk (FW.holds_nil _) rfl) ?_; clear hk; intro a w hk
  refine FW.lfun (y := .lit (.int .i64 v1)) hk rfl rfl rfl rfl (FW.f_move hk (FW.holds_nil _) rfl) ?_; clear hk; intro a w hk
  refine FW.lfun (y := .lit (.int .u64 v3)) hk rfl rfl rfl rfl (FW.f_move hk (FW.holds_nil _) rfl) ?_; clear hk; intro a w hk
  refine FW.lfun (y := .agg ([.lit (.pointer (some ⟨b0, 0, none⟩)), .lit (.int .i64 v1), .lit (.int .i64 v2), .lit (.int .i64 v1), .lit (.int .u64 v3)])) hk rfl rfl rfl rfl (FW.f_build hk (FW.holds_nil _) rfl rfl) ?_; clear hk; intro a w hk
  refine FW.l_box (cs := [.lit (.pointer (some ⟨b0, 0, none⟩)), .lit (.int .i64 v1), .lit (.int .i64 v2), .lit (.int .i64 v1), .lit (.int .u64 v3)]) hk rfl rfl rfl rfl rfl ?_; clear hk; intro bx1 a w hk
  refine FW.lfun (y := .lit (.pointer (some ⟨bx1, 0, none⟩))) hk rfl rfl rfl rfl (FW.f_assign hk (FW.holds_nil _) rfl) ?_; clear hk; intro a w hk
  refine FW.lend (hK8 _ _ ?_); clear hK8 K'
  refine FW.wreg ?_; intro K' hK9
  refine FW.lfun (y := .lit (.slice none 0 0)) hk rfl rfl rfl rfl (FW.f_assign hk (FW.holds_nil _) rfl) ?_; clear hk; intro a w hk
  replace hk := hk.nilRow 9 1 c_str (fun _ => rfl)
  refine FW.lend (hK9 _ _ ?_); clear hK9 K'
  refine wp_block ?_
  refine FW.wloop (T := Nat × List (List UInt8) × Int × Int × Int × Int × Option Addr × Nat) (fun x a w => match x with | (kl1, l6, y5_1, y5_2, y5_3, y5_4, xd6, xc6) => FW.S M w0 a w 75 [FW.orow xd6 xc6 9 1 c_str l6, FW.blk bx1 99 ([.lit (.pointer (some ⟨b0, 0, none⟩)), .lit (.int .i64 y5_1), .lit (.int .i64 y5_2), .lit (.int .i64 y5_3), .lit (.int .u64 y5_4)]), FW.blk b0 75 ([.lit (.slice xd0_0 (List.length v0.sure) xc0_0), .lit (.map (some xr0_1)), .lit (.int .i64 v0.steps), .lit (.slice xd0_3 (List.length v0.falls) xc0_3), .lit (.bool v0.off)]), FW.orow xd0_0 xc0_0 9 1 c_str v0.sure, FW.mapI (.int .i64) (Value.int .i64) FW.evS xr0_1 v0.cache, FW.orow xd0_3 xc0_3 52 3 ApiFall.cells v0.falls] [(11, [], .lit (.pointer (some ⟨bx1, 0, none⟩))), (12, [], .lit (.slice xd6 (List.length l6) xc6))] ∧ log_Open_opt.l1 K v0 kl1 l6 y5_1 y5_2 y5_3 y5_4 = some r) (fun x => x.1) (K, ([] : List (List UInt8)), v1, v2, v1, v3, none, 0) ⟨hk.sub ⟨rfl, rfl, trivial⟩, h⟩ ?_
  clear hk h
  rintro ⟨kl1, l6, y5_1, y5_2, y5_3, y5_4, xd6, xc6⟩ a w ⟨hk, h⟩ K' hK10
  cases kl1 with
  | zero => simp [log_Open_opt.l1] at h
  | succ kl1 =>
  rw [log_Open_opt.l1.eq_2] at h
  refine wp_block ?_
  refine FW.wreg ?_; intro K' hK11
  refine FW.lfun (y := .lit (.pointer (some ⟨bx1, 0, none⟩))) hk rfl rfl rfl rfl (FW.f_move hk (FW.holds_nil _) rfl) ?_; clear hk; intro a w hk
  obtain ⟨t3, hr_t3, h⟩ := FW.bnd h
  refine FW.l_callH (I1 := (OLogLog.items bx1 b0 (⟨y5_1, y5_2, y5_3, y5_4⟩ : OLogLog)) ++ (ODevDev.items b0 xd0_0 xc0_0 xr0_1 xd0_3 xc0_3 v0)) (I2 := [FW.orow xd6 xc6 9 1 c_str l6]) (js := [5, 5, 5, 5, 5]) hk rfl rfl rfl rfl rfl Go.Proofs.Tryz.func65 rfl (by kernel_rfl) (log_Log_read.ok K (⟨y5_1, y5_2, y5_3, y5_4⟩ : OLogLog) v0 _ hr_t3 bx1 b0 xd0_0 xc0_0 xr0_1 xd0_3 xc0_3) ?_; clear hk
  rintro _ _ ⟨rfl, rfl⟩ a w hk
  refine FW.lfun (y := .tup [.lit (.string (FW.B t3.1)), .lit (.bool t3.2)]) hk rfl rfl rfl rfl (FW.f_move hk (FW.holds_nil _) rfl) ?_; clear hk; intro a w hk
  refine FW.lfun (y := .lit (.string (FW.B t3.1))) hk rfl rfl rfl rfl (FW.f_extract hk (FW.holds_nil _) rfl rfl) ?_; clear hk; intro a w hk
  refine FW.lfun (y := .lit (.bool t3.2)) hk rfl rfl rfl rfl (FW.f_extract hk (FW.holds_nil _) rfl rfl) ?_; clear hk; intro a w hk
  refine FW.lfun (y := .lit (.string (FW.B t3.1))) hk rfl rfl rfl rfl (FW.f_assign hk (FW.holds_nil _) rfl) ?_; clear hk; intro a w hk
  refine FW.lfun (y := .lit (.bool t3.2)) hk rfl rfl rfl rfl (FW.f_assign hk (FW.holds_nil _) rfl) ?_; clear hk; intro a w hk
  refine FW.lend (hK11 _ _ ?_); clear hK11 K'
  refine FW.wseq ?_; intro K' hK12
  refine FW.wreg ?_; intro K' hK13
  refine FW.lfun (y := .lit (.bool t3.2)) hk rfl rfl rfl rfl (FW.f_move hk (FW.holds_nil _) rfl) ?_; clear hk; intro a w hk
  refine FW.lfun (y := .lit (.bool (!t3.2))) hk rfl rfl rfl rfl ((FW.f_pure (FW.p_not hk.kn (FW.holds_nil _) rfl))) ?_; clear hk; intro a w hk
  refine FW.lend (hK13 _ _ ?_); clear hK13 K'
  refine FW.wcondF (b := (!t3.2)) hk h rfl (fun h hb => ?_) (fun h hb => ?_)
  · skip
    refine FW.wreg ?_; intro K' hK14
    refine FW.lfun (y := .lit (.pointer (some ⟨bx1, 0, none⟩))) hk rfl rfl rfl rfl (FW.f_move hk (FW.holds_nil _) rfl) ?_; clear hk; intro a w hk
    refine FW.lfun (y := .lit (.slice xd6 (List.length l6) xc6)) hk rfl rfl rfl rfl (FW.f_move hk (FW.holds_nil _) rfl) ?_; clear hk; intro a w hk
    refine FW.lfun (y := .lit (.pointer (some ⟨bx1, 0, none⟩))) hk rfl rfl rfl rfl (FW.f_assign hk (FW.holds_nil _) rfl) ?_; clear hk; intro a w hk
    refine FW.lfun (y := .lit (.slice xd6 (List.length l6) xc6)) hk rfl rfl rfl rfl (FW.f_assign hk (FW.holds_nil _) rfl) ?_; clear hk; intro a w hk
    refine FW.lfun (y := .lit (.int .i64 0)) hk rfl rfl rfl rfl (FW.f_assign hk (FW.holds_nil _) rfl) ?_; clear hk; intro a w hk
    refine FW.lend (hK14 _ _ ?_); clear hK14 K'
    refine wp_ret ?_
    (repeat first | refine FW.then_ret ?_ | refine FW.block_ret ?_)
    replace hk := FW.S.freezeR2 (I' := [FW.blk bx1 99 ([.lit (.pointer (some ⟨b0, 0, none⟩)), .lit (.int .i64 y5_1), .lit (.int .i64 y5_2), .lit (.int .i64 y5_3), .lit (.int .u64 y5_4)]), FW.blk b0 75 ([.lit (.slice xd0_0 (List.length v0.sure) xc0_0), .lit (.map (some xr0_1)), .lit (.int .i64 v0.steps), .lit (.slice xd0_3 (List.length v0.falls) xc0_3), .lit (.bool v0.off)]), FW.orow xd0_0 xc0_0 9 1 c_str v0.sure, FW.mapI (.int .i64) (Value.int .i64) FW.evS xr0_1 v0.cache, FW.orow xd0_3 xc0_3 52 3 ApiFall.cells v0.falls]) r_c_str_eq hk (j := 5) rfl (t := 9) (t' := 12) rfl rfl rfl
    obtain rfl := Option.some.inj h
    replace hk := FW.S.keep (I1 := [FW.blk bx1 99 ([.lit (.pointer (some ⟨b0, 0, none⟩)), .lit (.int .i64 y5_1), .lit (.int .i64 y5_2), .lit (.int .i64 y5_3), .lit (.int .u64 y5_4)]), FW.blk b0 75 ([.lit (.slice xd0_0 (List.length v0.sure) xc0_0), .lit (.map (some xr0_1)), .lit (.int .i64 v0.steps), .lit (.slice xd0_3 (List.length v0.falls) xc0_3), .lit (.bool v0.off)]), FW.orow xd0_0 xc0_0 9 1 c_str v0.sure, FW.mapI (.int .i64) (Value.int .i64) FW.evS xr0_1 v0.cache, FW.orow xd0_3 xc0_3 52 3 ApiFall.cells v0.falls]) (I2 := []) (js := [4, 4, 4, 4, 4]) hk rfl
    exact FW.fretH3 hk rfl (FW.rtmp hk rfl) (FW.rtmp hk rfl) (FW.rtmp hk rfl) ⟨bx1, xd0_0, xc0_0, xr0_1, xd0_3, xc0_3, rfl, rfl⟩
  refine wp_skip ?_
  (repeat first | refine FW.then_normal ?_ | refine FW.block_normal ?_); refine hK12 _ _ ?_
  refine FW.wreg ?_; intro K' hK15
  refine FW.lfun (y := .lit (.slice xd6 (List.length l6) xc6)) hk rfl rfl rfl rfl (FW.f_move hk (FW.holds_nil _) rfl) ?_; clear hk; intro a w hk
  refine FW.lfun (y := .lit (.string (FW.B t3.1))) hk rfl rfl rfl rfl (FW.f_move hk (FW.holds_nil _) rfl) ?_; clear hk; intro a w hk
  refine FW.l_buildSlice (f := c_str) (l := ([t3.1] : List (List UInt8))) hk rfl rfl rfl Go.Proofs.Tryz.underlying72 rfl rfl rfl rfl (fun _ => rfl) rfl ?_; clear hk; intro bx2 a w hk
  obtain ⟨hc1, h⟩ := FW.chk h
  refine FW.l_append (l2 := ([t3.1] : List (List UInt8))) (l3 := (l6 ++ ([t3.1] : List (List UInt8)))) (I' := fun ad1 cap1 => [FW.orow (some ⟨bx2, 0, none⟩) 1 9 1 c_str ([t3.1] : List (List UInt8)), FW.blk bx1 99 ([.lit (.pointer (some ⟨b0, 0, none⟩)), .lit (.int .i64 y5_1), .lit (.int .i64 y5_2), .lit (.int .i64 y5_3), .lit (.int .u64 y5_4)]), FW.blk b0 75 ([.lit (.slice xd0_0 (List.length v0.sure) xc0_0), .lit (.map (some xr0_1)), .lit (.int .i64 v0.steps), .lit (.slice xd0_3 (List.length v0.falls) xc0_3), .lit (.bool v0.off)]), FW.orow xd0_0 xc0_0 9 1 c_str v0.sure, FW.mapI (.int .i64) (Value.int .i64) FW.evS xr0_1 v0.cache, FW.orow xd0_3 xc0_3 52 3 ApiFall.cells v0.falls, FW.orow ad1 cap1 9 1 c_str (l6 ++ ([t3.1] : List (List UInt8)))]) (j := 6) hk rfl rfl rfl rfl (FW.own_src hk (j := 0) rfl rfl (fun _ => rfl) Go.Proofs.Tryz.underlying72) Go.Proofs.Tryz.underlying72 (by kernel_rfl) hc1 rfl (fun _ _ => rfl) ?_; clear hk; intro ad1 cap1 a w hk
  replace hk := FW.S.dropI (I' := [FW.blk bx1 99 ([.lit (.pointer (some ⟨b0, 0, none⟩)), .lit (.int .i64 y5_1), .lit (.int .i64 y5_2), .lit (.int .i64 y5_3), .lit (.int .u64 y5_4)]), FW.blk b0 75 ([.lit (.slice xd0_0 (List.length v0.sure) xc0_0), .lit (.map (some xr0_1)), .lit (.int .i64 v0.steps), .lit (.slice xd0_3 (List.length v0.falls) xc0_3), .lit (.bool v0.off)]), FW.orow xd0_0 xc0_0 9 1 c_str v0.sure, FW.mapI (.int .i64) (Value.int .i64) FW.evS xr0_1 v0.cache, FW.orow xd0_3 xc0_3 52 3 ApiFall.cells v0.falls, FW.orow ad1 cap1 9 1 c_str (l6 ++ ([t3.1] : List (List UInt8)))]) hk 0 rfl
  refine FW.lfun (y := .lit (.slice ad1 (List.length (l6 ++ ([t3.1] : List (List UInt8)))) cap1)) hk rfl rfl rfl rfl (FW.f_assign hk (FW.holds_nil _) rfl) ?_; clear hk; intro a w hk
  refine FW.lend (hK15 _ _ ?_); clear hK15 K'
  obtain ⟨t4, hr_t4, h⟩ := FW.bnd h
  refine FW.wdrawE (.next [true, true, true, true, true, true, true, true, true, true, false] 10 [true, true, true, true, true, true, true, true, true, true, false] (.leaf [false, false, false, false, false, false, false, false, false, false, false])) [(58, [], .lit (.pointer (some ⟨bx1, 0, none⟩))), (59, [], .lit (.pointer (some ⟨bx1, 0, none⟩))), (60, [], .lit (.pointer (some ⟨bx1, 3, none⟩))), (61, [], .lit (.int .i64 y5_3)), (62, [], .lit (.string (FW.B t3.1))), (63, [], .lit (.int .i64 (List.length t3.1 : Int))), (64, [], .lit (.int .i64 t4)), (65, [], .lit (.int .i64 (IntKind.wrap .i64 (y5_3 + t4)))), (66, [], .lit (.pointer (some ⟨bx1, 0, none⟩))), (67, [], .lit (.pointer (some ⟨bx1, 3, none⟩))), (75, [], .lit undef)] (by kernel_rfl) (by kernel_rfl) (by kernel_rfl) (by kernel_rfl) hk ?_; clear hk
  refine FW.gnext0 ?_ rfl rfl rfl ?_
  · skip
    refine FW.gfun (y := .lit (.pointer (some ⟨bx1, 0, none⟩))) rfl rfl rfl rfl (fun a w hk => FW.f_move hk (FW.holds_nil _) rfl) ?_
    refine FW.gfun (y := .lit (.pointer (some ⟨bx1, 0, none⟩))) rfl rfl rfl rfl (fun a w hk => (FW.f_pure (FW.p_nilCheck hk.kn (FW.holds_nil _) rfl))) ?_
    refine FW.gfun (y := .lit (.pointer (some ⟨bx1, 3, none⟩))) rfl rfl rfl rfl (fun a w hk => FW.f_fieldPtr hk (FW.holds_nil _) rfl Go.Proofs.Tryz.underlying99 rfl (by kernel_rfl) rfl) ?_
    refine FW.gfun (y := .lit (.int .i64 y5_3)) rfl rfl rfl rfl (fun a w hk => FW.f_loadBlk1 hk (FW.holds_nil _) (j := 0) rfl rfl Go.Proofs.Tryz.underlying3 rfl rfl) ?_
    refine FW.gfun (y := .lit (.string (FW.B t3.1))) rfl rfl rfl rfl (fun a w hk => FW.f_move hk (FW.holds_nil _) rfl) ?_
    refine FW.gfun (y := .lit (.int .i64 (List.length t3.1 : Int))) rfl rfl rfl rfl (fun a w hk => (FW.f_pure (FW.p_slen Go.Proofs.Tryz.underlying9 hk.kn (FW.holds_nil _) rfl))) ?_
    refine FW.gfun (y := .lit (.int .i64 t4)) rfl rfl rfl rfl (fun a w hk => FW.f_call hk (FW.holds_nil _) rfl rfl Go.Proofs.Tryz.func51 rfl (by kernel_rfl) (log_Sectors.ok (List.length t3.1 : Int) _ hr_t4)) ?_
    refine FW.gfun (y := .lit (.int .i64 (IntKind.wrap .i64 (y5_3 + t4)))) rfl rfl rfl rfl (fun a w hk => (FW.f_pure (FW.p_add hk.kn (FW.holds_nil _) rfl rfl))) ?_
    refine FW.gfun (y := .lit (.pointer (some ⟨bx1, 0, none⟩))) rfl rfl rfl rfl (fun a w hk => (FW.f_pure (FW.p_nilCheck hk.kn (FW.holds_nil _) rfl))) ?_
    refine FW.gfun (y := .lit (.pointer (some ⟨bx1, 3, none⟩))) rfl rfl rfl rfl (fun a w hk => FW.f_fieldPtr hk (FW.holds_nil _) rfl Go.Proofs.Tryz.underlying99 rfl (by kernel_rfl) rfl) ?_
    refine FW.gskip0 rfl ?_
    exact FW.gend
  · skip
    intro σD a w opsD QD hk hQ hX
    refine FW.l_store (I' := [FW.blk bx1 99 ([.lit (.pointer (some ⟨b0, 0, none⟩)), .lit (.int .i64 y5_1), .lit (.int .i64 y5_2), .lit (.int .i64 (IntKind.wrap .i64 (y5_3 + t4))), .lit (.int .u64 y5_4)]), FW.blk b0 75 ([.lit (.slice xd0_0 (List.length v0.sure) xc0_0), .lit (.map (some xr0_1)), .lit (.int .i64 v0.steps), .lit (.slice xd0_3 (List.length v0.falls) xc0_3), .lit (.bool v0.off)]), FW.orow xd0_0 xc0_0 9 1 c_str v0.sure, FW.mapI (.int .i64) (Value.int .i64) FW.evS xr0_1 v0.cache, FW.orow xd0_3 xc0_3 52 3 ApiFall.cells v0.falls, FW.orow ad1 cap1 9 1 c_str (l6 ++ ([t3.1] : List (List UInt8)))]) (cs' := [.lit (.pointer (some ⟨b0, 0, none⟩)), .lit (.int .i64 y5_1), .lit (.int .i64 y5_2), .lit (.int .i64 (IntKind.wrap .i64 (y5_3 + t4))), .lit (.int .u64 y5_4)]) (j := 0) hk rfl rfl rfl rfl rfl (by kernel_rfl) rfl rfl ?_; clear hk; intro w hk
    refine hQ _ a w ?_ hk; clear hk hQ hX
    refine ⟨[(58, [], .lit (.pointer (some ⟨bx1, 0, none⟩))), (59, [], .lit (.pointer (some ⟨bx1, 0, none⟩))), (60, [], .lit (.pointer (some ⟨bx1, 3, none⟩))), (61, [], .lit (.int .i64 y5_3)), (62, [], .lit (.string (FW.B t3.1))), (63, [], .lit (.int .i64 (List.length t3.1 : Int))), (64, [], .lit (.int .i64 t4)), (65, [], .lit (.int .i64 (IntKind.wrap .i64 (y5_3 + t4)))), (66, [], .lit (.pointer (some ⟨bx1, 0, none⟩))), (67, [], .lit (.pointer (some ⟨bx1, 3, none⟩))), (75, [], .lit undef)], And.intro rfl (And.intro rfl (And.intro rfl (And.intro rfl (And.intro rfl (And.intro rfl (And.intro rfl (And.intro rfl (And.intro rfl (And.intro rfl (trivial)))))))))), rfl, ?_⟩
    refine FW.glast ?_ ?_
    · skip
      refine FW.gskip rfl rfl ?_
      refine FW.gskip rfl rfl ?_
      refine FW.gskip rfl rfl ?_
      refine FW.gskip rfl rfl ?_
      refine FW.gskip rfl rfl ?_
      refine FW.gskip rfl rfl ?_
      refine FW.gskip rfl rfl ?_
      refine FW.gskip rfl rfl ?_
      refine FW.gskip rfl rfl ?_
      refine FW.gskip rfl rfl ?_
      refine FW.gskip0 rfl ?_
      exact FW.gend
    · skip
      intro a w hk; simp only [FW.stD, cond_true] at hk
      refine FW.wreg1 ?_
      refine FW.lfun (y := .lit (.pointer (some ⟨bx1, 0, none⟩))) hk rfl rfl rfl rfl (FW.f_move hk (FW.holds_nil _) rfl) ?_; clear hk; intro a w hk
      refine FW.lfun (y := .lit (.pointer (some ⟨bx1, 0, none⟩))) hk rfl rfl rfl rfl ((FW.f_pure (FW.p_nilCheck hk.kn (FW.holds_nil _) rfl))) ?_; clear hk; intro a w hk
      refine FW.lfun (y := .lit (.pointer (some ⟨bx1, 4, none⟩))) hk rfl rfl rfl rfl (FW.f_fieldPtr hk (FW.holds_nil _) rfl Go.Proofs.Tryz.underlying99 rfl (by kernel_rfl) rfl) ?_; clear hk; intro a w hk
      refine FW.lfun (y := .lit (.int .u64 y5_4)) hk rfl rfl rfl rfl (FW.f_loadBlk1 hk (FW.holds_nil _) (j := 0) rfl rfl Go.Proofs.Tryz.underlying27 rfl rfl) ?_; clear hk; intro a w hk
      refine FW.lfun (y := .lit (.int .u64 (IntKind.wrap .u64 (y5_4 + 1)))) hk rfl rfl rfl rfl ((FW.f_pure (FW.p_add hk.kn (FW.holds_nil _) rfl rfl))) ?_; clear hk; intro a w hk
      refine FW.lfun (y := .lit (.pointer (some ⟨bx1, 0, none⟩))) hk rfl rfl rfl rfl ((FW.f_pure (FW.p_nilCheck hk.kn (FW.holds_nil _) rfl))) ?_; clear hk; intro a w hk
      refine FW.lfun (y := .lit (.pointer (some ⟨bx1, 4, none⟩))) hk rfl rfl rfl rfl (FW.f_fieldPtr hk (FW.holds_nil _) rfl Go.Proofs.Tryz.underlying99 rfl (by kernel_rfl) rfl) ?_; clear hk; intro a w hk
      refine FW.l_store (I' := [FW.blk bx1 99 ([.lit (.pointer (some ⟨b0, 0, none⟩)), .lit (.int .i64 y5_1), .lit (.int .i64 y5_2), .lit (.int .i64 (IntKind.wrap .i64 (y5_3 + t4))), .lit (.int .u64 (IntKind.wrap .u64 (y5_4 + 1)))]), FW.blk b0 75 ([.lit (.slice xd0_0 (List.length v0.sure) xc0_0), .lit (.map (some xr0_1)), .lit (.int .i64 v0.steps), .lit (.slice xd0_3 (List.length v0.falls) xc0_3), .lit (.bool v0.off)]), FW.orow xd0_0 xc0_0 9 1 c_str v0.sure, FW.mapI (.int .i64) (Value.int .i64) FW.evS xr0_1 v0.cache, FW.orow xd0_3 xc0_3 52 3 ApiFall.cells v0.falls, FW.orow ad1 cap1 9 1 c_str (l6 ++ ([t3.1] : List (List UInt8)))]) (cs' := [.lit (.pointer (some ⟨b0, 0, none⟩)), .lit (.int .i64 y5_1), .lit (.int .i64 y5_2), .lit (.int .i64 (IntKind.wrap .i64 (y5_3 + t4))), .lit (.int .u64 (IntKind.wrap .u64 (y5_4 + 1)))]) (j := 0) hk rfl rfl rfl rfl rfl (by kernel_rfl) rfl rfl ?_; clear hk; intro w hk
      refine wpList_nil ?_
      (repeat first | refine FW.then_normal ?_ | refine FW.block_normal ?_); exact hK10 (kl1, (l6 ++ ([t3.1] : List (List UInt8))), y5_1, y5_2, (IntKind.wrap .i64 (y5_3 + t4)), (IntKind.wrap .u64 (y5_4 + 1)), ad1, cap1) _ _ (Nat.lt_succ_self _) ⟨(FW.S.pick hk (js := [4, 4, 4, 4, 4, 5]) rfl).sub ⟨rfl, rfl, trivial⟩, h⟩
theorem rec_at.ok  (v0 : List (List UInt8)) (v1 : Int) (r : List UInt8) (h : rec_at.f v0 v1 = some r) :
    FW.Ok Go.Proofs.Tryz.prog 86 [.row (r_c_str v0), .lit (.int .i64 v1)] (.lit (.string (FW.B r))) := by
  refine FW.enter (xs := [.row (r_c_str v0), .lit (.int .i64 v1)]) Go.Proofs.Tryz.func86 rfl Go.Proofs.Tryz.ntmps86 rfl ?_
  intro M w0 a hk
  unfold rec_at.f at h
  refine FW.wreg ?_; intro K' hK1
  refine FW.lfun (y := .lit (.string (FW.B ([] : List UInt8)))) hk rfl rfl rfl rfl (FW.f_assign hk (FW.holds_nil _) rfl) ?_; clear hk; intro a w hk
  refine FW.lend (hK1 _ _ ?_); clear hK1 K'
  refine FW.wseq ?_; intro K' hK2
  refine FW.wreg ?_; intro K' hK3
  refine FW.lfun (y := .lit (.int .i64 v1)) hk rfl rfl rfl rfl (FW.f_move hk (FW.holds_nil _) rfl) ?_; clear hk; intro a w hk
  refine FW.lfun (y := .row (r_c_str v0)) hk rfl rfl rfl rfl (FW.f_move hk (FW.holds_nil _) rfl) ?_; clear hk; intro a w hk
  refine FW.lfun (y := .lit (.int .i64 (List.length v0 : Int))) hk rfl rfl rfl rfl (FW.f_len (R := r_c_str) (f := c_str) (l := v0) r_c_str_eq Go.Proofs.Tryz.underlying72 hk (FW.holds_nil _) rfl) ?_; clear hk; intro a w hk
  refine FW.lfun (y := .lit (.bool (decide ((List.length v0 : Int) ≤ v1)))) hk rfl rfl rfl rfl ((FW.f_pure (FW.p_geq hk.kn (FW.holds_nil _) rfl rfl))) ?_; clear hk; intro a w hk
  refine FW.lend (hK3 _ _ ?_); clear hK3 K'
  refine FW.wcondF (b := (decide ((List.length v0 : Int) ≤ v1))) hk h rfl (fun h hb => ?_) (fun h hb => ?_)
  · skip
    refine FW.wreg ?_; intro K' hK4
    refine FW.lfun (y := .lit (.string (FW.B ([] : List UInt8)))) hk rfl rfl rfl rfl (FW.f_assign hk (FW.holds_nil _) rfl) ?_; clear hk; intro a w hk
    refine FW.lend (hK4 _ _ ?_); clear hK4 K'
    refine wp_ret ?_
    (repeat first | refine FW.then_ret ?_ | refine FW.block_ret ?_)
    obtain rfl := Option.some.inj h
    exact FW.fret1 hk rfl rfl
  refine wp_skip ?_
  (repeat first | refine FW.then_normal ?_ | refine FW.block_normal ?_); refine hK2 _ _ ?_
  refine FW.wreg ?_; intro K' hK5
  refine FW.lfun (y := .row (r_c_str v0)) hk rfl rfl rfl rfl (FW.f_move hk (FW.holds_nil _) rfl) ?_; clear hk; intro a w hk
  refine FW.lfun (y := .lit (.int .i64 v1)) hk rfl rfl rfl rfl (FW.f_move hk (FW.holds_nil _) rfl) ?_; clear hk; intro a w hk
  obtain ⟨hc1, h⟩ := FW.chk h
  refine FW.lfun (y := .ref (c_str (List.getD v0 (Int.toNat v1) default))) hk rfl rfl rfl rfl (FW.f_indexAddr (R := r_c_str) (f := c_str) (l := v0) (sz := 1) r_c_str_eq (fun _ => rfl) hk (FW.holds_nil _) rfl rfl Go.Proofs.Tryz.underlying72 (by kernel_rfl) hc1) ?_; clear hk; intro a w hk
  refine FW.lfun (y := .lit (.string (FW.B (List.getD v0 (Int.toNat v1) default)))) hk rfl rfl rfl rfl (FW.f_load1 hk (FW.holds_nil _) rfl rfl Go.Proofs.Tryz.underlying9 rfl) ?_; clear hk; intro a w hk
  refine FW.lfun (y := .lit (.string (FW.B (List.getD v0 (Int.toNat v1) default)))) hk rfl rfl rfl rfl (FW.f_assign hk (FW.holds_nil _) rfl) ?_; clear hk; intro a w hk
  refine FW.lend (hK5 _ _ ?_); clear hK5 K'
  refine wp_ret ?_
  (repeat first | refine FW.then_ret ?_ | refine FW.block_ret ?_)
  obtain rfl := Option.some.inj h
  exact FW.fret1 hk rfl rfl
theorem rec_image.ok (K : Nat) (v0 : ODevDev) (v1 : Int) (v2 : Int) (r : List UInt8 × Bool × ODevDev) (h : rec_image.f K v0 v1 v2 = some r) :
    ∀ (b0 : Nat) (xd0_0 : Option Addr) (xc0_0 : Nat) (xr0_1 : Nat) (xd0_3 : Option Addr) (xc0_3 : Nat), FW.OkH Go.Proofs.Tryz.prog 62 [.lit (.pointer (some ⟨b0, 0, none⟩)), .lit (.int .i64 v1), .lit (.int .u64 v2)] (ODevDev.items b0 xd0_0 xc0_0 xr0_1 xd0_3 xc0_3 v0) (fun y I => ∃ (zxd0_0 : Option Addr) (zxc0_0 : Nat) (zxr0_1 : Nat) (zxd0_3 : Option Addr) (zxc0_3 : Nat), y = .tup [.lit (.string (FW.B r.1)), .lit (.bool r.2.1)] ∧ I = ODevDev.items b0 zxd0_0 zxc0_0 zxr0_1 zxd0_3 zxc0_3 r.2.2) := by
  intro b0 xd0_0 xc0_0 xr0_1 xd0_3 xc0_3
  refine FW.enterH (xs := [.lit (.pointer (some ⟨b0, 0, none⟩)), .lit (.int .i64 v1), .lit (.int .u64 v2)]) Go.Proofs.Tryz.func62 rfl Go.Proofs.Tryz.ntmps62 rfl ?_
  intro M w0 a hk
  replace hk : FW.S M w0 a w0.toWorld 39 [FW.blk b0 75 ([.lit (.slice xd0_0 (List.length v0.sure) xc0_0), .lit (.map (some xr0_1)), .lit (.int .i64 v0.steps), .lit (.slice xd0_3 (List.length v0.falls) xc0_3), .lit (.bool v0.off)]), FW.orow xd0_0 xc0_0 9 1 c_str v0.sure, FW.mapI (.int .i64) (Value.int .i64) FW.evS xr0_1 v0.cache, FW.orow xd0_3 xc0_3 52 3 ApiFall.cells v0.falls] [(0, [], .lit (.pointer (some ⟨b0, 0, none⟩))), (1, [], .lit (.int .i64 v1)), (2, [], .lit (.int .u64 v2))] := hk
  unfold rec_image.f at h
  refine FW.wreg ?_; intro K' hK1
  refine FW.lfun (y := .lit (.string (FW.B ([] : List UInt8)))) hk rfl rfl rfl rfl (FW.f_assign hk (FW.holds_nil _) rfl) ?_; clear hk; intro a w hk
  refine FW.lfun (y := .lit (.bool false)) hk rfl rfl rfl rfl (FW.f_assign hk (FW.holds_nil _) rfl) ?_; clear hk; intro a w hk
  refine FW.lend (hK1 _ _ ?_); clear hK1 K'
  refine FW.wseq ?_; intro K' hK2
  refine FW.wreg ?_; intro K' hK3
  refine FW.lfun (y := .lit (.int .u64 v2)) hk rfl rfl rfl rfl (FW.f_move hk (FW.holds_nil _) rfl) ?_; clear hk; intro a w hk
  refine FW.lfun (y := .lit (.bool (decide (v2 = 0)))) hk rfl rfl rfl rfl ((FW.f_pure (FW.p_eql hk.kn (FW.holds_nil _) rfl rfl))) ?_; clear hk; intro a w hk
  refine FW.lend (hK3 _ _ ?_); clear hK3 K'
  refine FW.wcondF (b := (decide (v2 = 0))) hk h rfl (fun h hb => ?_) (fun h hb => ?_)
  · skip
    refine FW.wreg ?_; intro K' hK4
    refine FW.lfun (y := .lit (.string (FW.B ([] : List UInt8)))) hk rfl rfl rfl rfl (FW.f_assign hk (FW.holds_nil _) rfl) ?_; clear hk; intro a w hk
    refine FW.lfun (y := .lit (.bool false)) hk rfl rfl rfl rfl (FW.f_assign hk (FW.holds_nil _) rfl) ?_; clear hk; intro a w hk
    refine FW.lend (hK4 _ _ ?_); clear hK4 K'
    refine wp_ret ?_
    (repeat first | refine FW.then_ret ?_ | refine FW.block_ret ?_)
    obtain rfl := Option.some.inj h
    replace hk := FW.S.keep (I1 := [FW.blk b0 75 ([.lit (.slice xd0_0 (List.length v0.sure) xc0_0), .lit (.map (some xr0_1)), .lit (.int .i64 v0.steps), .lit (.slice xd0_3 (List.length v0.falls) xc0_3), .lit (.bool v0.off)]), FW.orow xd0_0 xc0_0 9 1 c_str v0.sure, FW.mapI (.int .i64) (Value.int .i64) FW.evS xr0_1 v0.cache, FW.orow xd0_3 xc0_3 52 3 ApiFall.cells v0.falls]) (I2 := []) (js := [3, 3, 3, 3]) hk rfl
    exact FW.fretH2 hk rfl (FW.rtmp hk rfl) (FW.rtmp hk rfl) ⟨xd0_0, xc0_0, xr0_1, xd0_3, xc0_3, rfl, rfl⟩
  refine wp_skip ?_
  (repeat first | refine FW.then_normal ?_ | refine FW.block_normal ?_); refine hK2 _ _ ?_
  refine FW.wreg ?_; intro K' hK5
  refine FW.lfun (y := .lit (.pointer (some ⟨b0, 0, none⟩))) hk rfl rfl rfl rfl (FW.f_move hk (FW.holds_nil _) rfl) ?_; clear hk; intro a w hk
  obtain ⟨t1, hr_t1, h⟩ := FW.bnd h
  refine FW.l_callH (I1 := (ODevDev.items b0 xd0_0 xc0_0 xr0_1 xd0_3 xc0_3 v0)) (I2 := []) (js := [3, 3, 3, 3]) hk rfl rfl rfl rfl rfl Go.Proofs.Tryz.func40 rfl (by kernel_rfl) (rec_parts.ok v0 _ hr_t1 b0 xd0_0 xc0_0 xr0_1 xd0_3 xc0_3) ?_; clear hk
  rintro _ _ ⟨rfl, rfl⟩ a w hk
  refine FW.l_alloc (zs := [.lit (.int .i64 0), .lit (.int .i64 0), .lit (.int .i64 0), .lit (.int .i64 0)]) [] hk rfl rfl rfl rfl ?_; clear hk; intro bx1 a w hk
  refine FW.l_store (I' := [FW.blk bx1 79 ([.lit (.int .i64 t1.1), .lit (.int .i64 t1.2.1), .lit (.int .i64 t1.2.2.1), .lit (.int .i64 t1.2.2.2)]), FW.blk b0 75 ([.lit (.slice xd0_0 (List.length v0.sure) xc0_0), .lit (.map (some xr0_1)), .lit (.int .i64 v0.steps), .lit (.slice xd0_3 (List.length v0.falls) xc0_3), .lit (.bool v0.off)]), FW.orow xd0_0 xc0_0 9 1 c_str v0.sure, FW.mapI (.int .i64) (Value.int .i64) FW.evS xr0_1 v0.cache, FW.orow xd0_3 xc0_3 52 3 ApiFall.cells v0.falls]) (cs' := [.lit (.int .i64 t1.1), .lit (.int .i64 t1.2.1), .lit (.int .i64 t1.2.2.1), .lit (.int .i64 t1.2.2.2)]) (j := 0) hk rfl rfl rfl rfl rfl (by kernel_rfl) rfl rfl ?_; clear hk; intro w hk
  replace hk := FW.S.toArr (f := c_i64) (N := 4) (l := [t1.1, t1.2.1, t1.2.2.1, t1.2.2.2]) (I' := [FW.orow (some ⟨bx1, 0, none⟩) 4 79 1 c_i64 ([t1.1, t1.2.1, t1.2.2.1, t1.2.2.2] : List Int), FW.blk b0 75 ([.lit (.slice xd0_0 (List.length v0.sure) xc0_0), .lit (.map (some xr0_1)), .lit (.int .i64 v0.steps), .lit (.slice xd0_3 (List.length v0.falls) xc0_3), .lit (.bool v0.off)]), FW.orow xd0_0 xc0_0 9 1 c_str v0.sure, FW.mapI (.int .i64) (Value.int .i64) FW.evS xr0_1 v0.cache, FW.orow xd0_3 xc0_3 52 3 ApiFall.cells v0.falls]) (j := 0) (fun _ => rfl) hk rfl rfl rfl (by decide) rfl
  refine FW.lend (hK5 _ _ ?_); clear hK5 K'
  obtain ⟨hc1, h⟩ := FW.chk h
  obtain ⟨hc2, h⟩ := FW.chk h
  obtain ⟨t2, hr_t2, h⟩ := FW.bnd h
  refine FW.wdrawE (.next [true, true, true, true, true, true, true, true, true, false, false, false, false, false, false, false, false] 9 [true, true, true, true, true, true, true, true, true, false, false, false, false, false, false, false, false] (.leaf [false, false, false, false, false, false, false, false, false, false, true, true, true, true, true, true, true])) [(17, [], .lit (.pointer (some ⟨b0, 0, none⟩))), (18, [], .lit (.int .i64 v1)), (19, [], FW.elA (some ⟨bx1, 0, none⟩) 1 v1), (20, [], .lit (.int .i64 (List.getD ([t1.1, t1.2.1, t1.2.2.1, t1.2.2.2] : List Int) (Int.toNat v1) default))), (21, [], .lit (.int .i64 v1)), (22, [], .lit (.int .i64 (IntKind.wrap .i64 (v1 + 1)))), (23, [], FW.elA (some ⟨bx1, 0, none⟩) 1 (IntKind.wrap .i64 (v1 + 1))), (24, [], .lit (.int .i64 (List.getD ([t1.1, t1.2.1, t1.2.2.1, t1.2.2.2] : List Int) (Int.toNat (IntKind.wrap .i64 (v1 + 1))) default))), (25, [], .lit (.int .u64 v2)), (26, [], .agg []), (16, [], .agg []), (27, [], .agg []), (28, [], .agg []), (29, [], .agg []), (9, [], .agg []), (10, [], .agg []), (11, [], .agg [])] (by kernel_rfl) (by kernel_rfl) (by kernel_rfl) (by kernel_rfl) hk ?_; clear hk
  refine FW.gnext ?_ rfl rfl rfl rfl rfl ?_
  · skip
    refine FW.gfun (y := .lit (.pointer (some ⟨b0, 0, none⟩))) rfl rfl rfl rfl (fun a w hk => FW.f_move hk (FW.holds_nil _) rfl) ?_
    refine FW.gfun (y := .lit (.int .i64 v1)) rfl rfl rfl rfl (fun a w hk => FW.f_move hk (FW.holds_nil _) rfl) ?_
    refine FW.gfun (y := FW.elA (some ⟨bx1, 0, none⟩) 1 v1) rfl rfl rfl rfl (fun a w hk => FW.f_idxArr (f := c_i64) (l := ([t1.1, t1.2.1, t1.2.2.1, t1.2.2.2] : List Int)) hk (FW.holds_nil _) (j := 0) rfl rfl rfl Go.Proofs.Tryz.underlying79 (by kernel_rfl) hc1) ?_
    refine FW.gfun (y := .lit (.int .i64 (List.getD ([t1.1, t1.2.1, t1.2.2.1, t1.2.2.2] : List Int) (Int.toNat v1) default))) rfl rfl rfl rfl (fun a w hk => FW.f_loadOwn1 (f := c_i64) (l := ([t1.1, t1.2.1, t1.2.2.1, t1.2.2.2] : List Int)) hk (FW.holds_nil _) (j := 0) rfl rfl hc1 rfl Go.Proofs.Tryz.underlying3 rfl) ?_
    refine FW.gfun (y := .lit (.int .i64 v1)) rfl rfl rfl rfl (fun a w hk => FW.f_move hk (FW.holds_nil _) rfl) ?_
    refine FW.gfun (y := .lit (.int .i64 (IntKind.wrap .i64 (v1 + 1)))) rfl rfl rfl rfl (fun a w hk => (FW.f_pure (FW.p_add hk.kn (FW.holds_nil _) rfl rfl))) ?_
    refine FW.gfun (y := FW.elA (some ⟨bx1, 0, none⟩) 1 (IntKind.wrap .i64 (v1 + 1))) rfl rfl rfl rfl (fun a w hk => FW.f_idxArr (f := c_i64) (l := ([t1.1, t1.2.1, t1.2.2.1, t1.2.2.2] : List Int)) hk (FW.holds_nil _) (j := 0) rfl rfl rfl Go.Proofs.Tryz.underlying79 (by kernel_rfl) hc2) ?_
    refine FW.gfun (y := .lit (.int .i64 (List.getD ([t1.1, t1.2.1, t1.2.2.1, t1.2.2.2] : List Int) (Int.toNat (IntKind.wrap .i64 (v1 + 1))) default))) rfl rfl rfl rfl (fun a w hk => FW.f_loadOwn1 (f := c_i64) (l := ([t1.1, t1.2.1, t1.2.2.1, t1.2.2.2] : List Int)) hk (FW.holds_nil _) (j := 0) rfl rfl hc2 rfl Go.Proofs.Tryz.underlying3 rfl) ?_
    refine FW.gfun (y := .lit (.int .u64 v2)) rfl rfl rfl rfl (fun a w hk => FW.f_move hk (FW.holds_nil _) rfl) ?_
    refine FW.gskip rfl rfl ?_
    refine FW.gskip rfl rfl ?_
    refine FW.gskip rfl rfl ?_
    refine FW.gskip rfl rfl ?_
    refine FW.gskip rfl rfl ?_
    refine FW.gskip rfl rfl ?_
    refine FW.gskip rfl rfl ?_
    refine FW.gskip rfl rfl ?_
    exact FW.gend
  · skip
    intro σD a w opsD QD hk hf hQ hX
    refine FW.l_callH (I1 := (ODevDev.items b0 xd0_0 xc0_0 xr0_1 xd0_3 xc0_3 v0)) (I2 := [FW.orow (some ⟨bx1, 0, none⟩) 4 79 1 c_i64 ([t1.1, t1.2.1, t1.2.2.1, t1.2.2.2] : List Int)]) (js := [4, 4, 4, 4]) hk rfl rfl hf rfl rfl Go.Proofs.Tryz.func41 rfl (by kernel_rfl) (log_Open_opt.ok K v0 (List.getD ([t1.1, t1.2.1, t1.2.2.1, t1.2.2.2] : List Int) (Int.toNat v1) default) (List.getD ([t1.1, t1.2.1, t1.2.2.1, t1.2.2.2] : List Int) (Int.toNat (IntKind.wrap .i64 (v1 + 1))) default) v2 _ hr_t2 b0 xd0_0 xc0_0 xr0_1 xd0_3 xc0_3) ?_; clear hk
    rintro _ _ ⟨bx2, zd1, zc1, zr1, zd2, zc2, rfl, rfl⟩ a w hk
    replace hk := FW.S.dropL2 hk
    refine hQ _ _ a w ?_ hk; clear hk hQ hf hX
    refine ⟨[(17, [], .lit (.pointer (some ⟨b0, 0, none⟩))), (18, [], .lit (.int .i64 v1)), (19, [], FW.elA (some ⟨bx1, 0, none⟩) 1 v1), (20, [], .lit (.int .i64 (List.getD ([t1.1, t1.2.1, t1.2.2.1, t1.2.2.2] : List Int) (Int.toNat v1) default))), (21, [], .lit (.int .i64 v1)), (22, [], .lit (.int .i64 (IntKind.wrap .i64 (v1 + 1)))), (23, [], FW.elA (some ⟨bx1, 0, none⟩) 1 (IntKind.wrap .i64 (v1 + 1))), (24, [], .lit (.int .i64 (List.getD ([t1.1, t1.2.1, t1.2.2.1, t1.2.2.2] : List Int) (Int.toNat (IntKind.wrap .i64 (v1 + 1))) default))), (25, [], .lit (.int .u64 v2)), (26, [], .tup [FW.ptrO t2.1 bx2, .row (r_c_str t2.2.1), .lit (.int .i64 t2.2.2.1)]), (16, [], .tup [FW.ptrO t2.1 bx2, .row (r_c_str t2.2.1), .lit (.int .i64 t2.2.2.1)]), (27, [], FW.ptrO t2.1 bx2), (28, [], .row (r_c_str t2.2.1)), (29, [], .lit (.int .i64 t2.2.2.1)), (9, [], FW.ptrO t2.1 bx2), (10, [], .row (r_c_str t2.2.1)), (11, [], .lit (.int .i64 t2.2.2.1))], And.intro rfl (And.intro rfl (And.intro rfl (And.intro rfl (And.intro rfl (And.intro rfl (And.intro rfl (And.intro rfl (And.intro rfl (trivial))))))))), rfl, ?_⟩
    refine FW.glast ?_ ?_
    · skip
      refine FW.gskip rfl rfl ?_
      refine FW.gskip rfl rfl ?_
      refine FW.gskip rfl rfl ?_
      refine FW.gskip rfl rfl ?_
      refine FW.gskip rfl rfl ?_
      refine FW.gskip rfl rfl ?_
      refine FW.gskip rfl rfl ?_
      refine FW.gskip rfl rfl ?_
      refine FW.gskip rfl rfl ?_
      refine FW.gskip rfl rfl ?_
      refine FW.gfun (y := .tup [FW.ptrO t2.1 bx2, .row (r_c_str t2.2.1), .lit (.int .i64 t2.2.2.1)]) rfl rfl rfl rfl (fun a w hk => FW.f_move hk (FW.holds_nil _) rfl) ?_
      refine FW.gfun (y := FW.ptrO t2.1 bx2) rfl rfl rfl rfl (fun a w hk => FW.f_extract hk (FW.holds_nil _) rfl rfl) ?_
      refine FW.gfun (y := .row (r_c_str t2.2.1)) rfl rfl rfl rfl (fun a w hk => FW.f_extract hk (FW.holds_nil _) rfl rfl) ?_
      refine FW.gfun (y := .lit (.int .i64 t2.2.2.1)) rfl rfl rfl rfl (fun a w hk => FW.f_extract hk (FW.holds_nil _) rfl rfl) ?_
      refine FW.gfun (y := FW.ptrO t2.1 bx2) rfl rfl rfl rfl (fun a w hk => FW.f_assign hk (FW.holds_nil _) rfl) ?_
      refine FW.gfun (y := .row (r_c_str t2.2.1)) rfl rfl rfl rfl (fun a w hk => FW.f_assign hk (FW.holds_nil _) rfl) ?_
      refine FW.gfun (y := .lit (.int .i64 t2.2.2.1)) rfl rfl rfl rfl (fun a w hk => FW.f_assign hk (FW.holds_nil _) rfl) ?_
      exact FW.gend
    · skip
      intro a w hk; simp only [FW.stD, cond_true] at hk
      refine FW.wreg ?_; intro K' hK7
      refine FW.lfun (y := .row (r_c_str t2.2.1)) hk rfl rfl rfl rfl (FW.f_move hk (FW.holds_nil _) rfl) ?_; clear hk; intro a w hk
      obtain ⟨t3, hr_t3, h⟩ := FW.bnd h
      refine FW.lfun (y := .lit (.string (FW.B t3))) hk rfl rfl rfl rfl (FW.f_call hk (FW.holds_nil _) rfl rfl Go.Proofs.Tryz.func86 rfl (by kernel_rfl) (rec_at.ok t2.2.1 0 _ hr_t3)) ?_; clear hk; intro a w hk
      refine FW.lfun (y := .lit (.int .i64 t2.2.2.1)) hk rfl rfl rfl rfl (FW.f_move hk (FW.holds_nil _) rfl) ?_; clear hk; intro a w hk
      refine FW.lfun (y := .lit (.bool (decide (t2.2.2.1 = 0)))) hk rfl rfl rfl rfl ((FW.f_pure (FW.p_eql hk.kn (FW.holds_nil _) rfl rfl))) ?_; clear hk; intro a w hk
      refine FW.lfun (y := .lit (.bool (decide (t2.2.2.1 = 0)))) hk rfl rfl rfl rfl (FW.f_move hk (FW.holds_nil _) rfl) ?_; clear hk; intro a w hk
      refine FW.lfunG (y := .row (r_c_str t2.2.1)) hk rfl rfl rfl rfl rfl rfl rfl rfl (fun hc => FW.f_move hk hc rfl) ?_; clear hk; intro a w hk
      refine FW.lfunG (y := .lit (.int .i64 (List.length t2.2.1 : Int))) hk rfl rfl rfl rfl rfl rfl rfl rfl (fun hc => FW.f_len (R := r_c_str) (f := c_str) (l := t2.2.1) r_c_str_eq Go.Proofs.Tryz.underlying72 hk hc rfl) ?_; clear hk; intro a w hk
      refine FW.lfunG (y := .lit (.bool (decide (0 < (List.length t2.2.1 : Int))))) hk rfl rfl rfl rfl rfl rfl rfl rfl (fun hc => (FW.f_pure (FW.p_gtr hk.kn hc rfl rfl))) ?_; clear hk; intro a w hk
      refine FW.lfun (y := .lit (.bool ((decide (t2.2.2.1 = 0)) && (decide (0 < (List.length t2.2.1 : Int)))))) hk rfl rfl rfl rfl ((FW.f_pure (FW.p_pick_and hk.kn (FW.holds_nil _) rfl rfl))) ?_; clear hk; intro a w hk
      refine FW.lfun (y := .lit (.string (FW.B t3))) hk rfl rfl rfl rfl (FW.f_assign hk (FW.holds_nil _) rfl) ?_; clear hk; intro a w hk
      refine FW.lfun (y := .lit (.bool ((decide (t2.2.2.1 = 0)) && (decide (0 < (List.length t2.2.1 : Int)))))) hk rfl rfl rfl rfl (FW.f_assign hk (FW.holds_nil _) rfl) ?_; clear hk; intro a w hk
      refine FW.lend (hK7 _ _ ?_); clear hK7 K'
      refine wp_ret ?_
      (repeat first | refine FW.then_ret ?_ | refine FW.block_ret ?_)
      obtain rfl := Option.some.inj h
      replace hk := FW.S.keep (I1 := [FW.blk b0 75 ([.lit (.slice zd1 (List.length t2.2.2.2.sure) zc1), .lit (.map (some zr1)), .lit (.int .i64 t2.2.2.2.steps), .lit (.slice zd2 (List.length t2.2.2.2.falls) zc2), .lit (.bool t2.2.2.2.off)]), FW.orow zd1 zc1 9 1 c_str t2.2.2.2.sure, FW.mapI (.int .i64) (Value.int .i64) FW.evS zr1 t2.2.2.2.cache, FW.orow zd2 zc2 52 3 ApiFall.cells t2.2.2.2.falls]) (I2 := [FW.orow (some ⟨bx1, 0, none⟩) 4 79 1 c_i64 ([t1.1, t1.2.1, t1.2.2.1, t1.2.2.2] : List Int)]) (js := [3, 3, 3, 3]) hk rfl
      exact FW.fretH2 hk rfl (FW.rtmp hk rfl) (FW.rtmp hk rfl) ⟨zd1, zc1, zr1, zd2, zc2, rfl, rfl⟩
end Go.Proofs.YtfbkgaandmebaaaGreat
namespace Go.Proofs.YtfbkgaandmebaaaGreat
set_option linter.unusedVariables false
set_option maxRecDepth 20000
set_option maxHeartbeats 10000000
theorem rec_newest.ok (K : Nat) (v0 : ODevDev) (r : Int × Int × List UInt8 × ODevDev) (h : rec_newest.f K v0 = some r) :
    ∀ (b0 : Nat) (xd0_0 : Option Addr) (xc0_0 : Nat) (xr0_1 : Nat) (xd0_3 : Option Addr) (xc0_3 : Nat), FW.OkH Go.Proofs.Tryz.prog 37 [.lit (.pointer (some ⟨b0, 0, none⟩))] (ODevDev.items b0 xd0_0 xc0_0 xr0_1 xd0_3 xc0_3 v0) (fun y I => ∃ (zxd0_0 : Option Addr) (zxc0_0 : Nat) (zxr0_1 : Nat) (zxd0_3 : Option Addr) (zxc0_3 : Nat), y = .tup [.lit (.int .i64 r.1), .lit (.int .u64 r.2.1), .lit (.string (FW.B r.2.2.1))] ∧ I = ODevDev.items b0 zxd0_0 zxc0_0 zxr0_1 zxd0_3 zxc0_3 r.2.2.2) := by
  intro b0 xd0_0 xc0_0 xr0_1 xd0_3 xc0_3
  refine FW.enterH (xs := [.lit (.pointer (some ⟨b0, 0, none⟩))]) Go.Proofs.Tryz.func37 rfl Go.Proofs.Tryz.ntmps37 rfl ?_
  intro M w0 a hk
  replace hk : FW.S M w0 a w0.toWorld 53 [FW.blk b0 75 ([.lit (.slice xd0_0 (List.length v0.sure) xc0_0), .lit (.map (some xr0_1)), .lit (.int .i64 v0.steps), .lit (.slice xd0_3 (List.length v0.falls) xc0_3), .lit (.bool v0.off)]), FW.orow xd0_0 xc0_0 9 1 c_str v0.sure, FW.mapI (.int .i64) (Value.int .i64) FW.evS xr0_1 v0.cache, FW.orow xd0_3 xc0_3 52 3 ApiFall.cells v0.falls] [(0, [], .lit (.pointer (some ⟨b0, 0, none⟩)))] := hk
  unfold rec_newest.f at h
  refine FW.wreg ?_; intro K' hK1
  refine FW.lfun (y := .lit (.int .i64 0)) hk rfl rfl rfl rfl (FW.f_assign hk (FW.holds_nil _) rfl) ?_; clear hk; intro a w hk
  refine FW.lfun (y := .lit (.int .u64 0)) hk rfl rfl rfl rfl (FW.f_assign hk (FW.holds_nil _) rfl) ?_; clear hk; intro a w hk
  refine FW.lfun (y := .lit (.string (FW.B ([] : List UInt8)))) hk rfl rfl rfl rfl (FW.f_assign hk (FW.holds_nil _) rfl) ?_; clear hk; intro a w hk
  refine FW.lend (hK1 _ _ ?_); clear hK1 K'
  refine FW.wreg ?_; intro K' hK2
  refine FW.lfun (y := .lit (.int .i64 1)) hk rfl rfl rfl rfl (FW.f_assign hk (FW.holds_nil _) rfl) ?_; clear hk; intro a w hk
  refine FW.lfun (y := .lit (.int .u64 0)) hk rfl rfl rfl rfl (FW.f_assign hk (FW.holds_nil _) rfl) ?_; clear hk; intro a w hk
  refine FW.lfun (y := .lit (.string (FW.B ([] : List UInt8)))) hk rfl rfl rfl rfl (FW.f_assign hk (FW.holds_nil _) rfl) ?_; clear hk; intro a w hk
  refine FW.lend (hK2 _ _ ?_); clear hK2 K'
  refine FW.wreg ?_; intro K' hK3
  refine FW.lfun (y := .lit (.pointer (some ⟨b0, 0, none⟩))) hk rfl rfl rfl rfl (FW.f_move hk (FW.holds_nil _) rfl) ?_; clear hk; intro a w hk
  obtain ⟨t1, hr_t1, h⟩ := FW.bnd h
  refine FW.l_callH (I1 := (ODevDev.items b0 xd0_0 xc0_0 xr0_1 xd0_3 xc0_3 v0)) (I2 := []) (js := [3, 3, 3, 3]) hk rfl rfl rfl rfl rfl Go.Proofs.Tryz.func40 rfl (by kernel_rfl) (rec_parts.ok v0 _ hr_t1 b0 xd0_0 xc0_0 xr0_1 xd0_3 xc0_3) ?_; clear hk
  rintro _ _ ⟨rfl, rfl⟩ a w hk
  refine FW.l_alloc (zs := [.lit (.int .i64 0), .lit (.int .i64 0), .lit (.int .i64 0), .lit (.int .i64 0)]) [] hk rfl rfl rfl rfl ?_; clear hk; intro bx1 a w hk
  refine FW.l_store (I' := [FW.blk bx1 79 ([.lit (.int .i64 t1.1), .lit (.int .i64 t1.2.1), .lit (.int .i64 t1.2.2.1), .lit (.int .i64 t1.2.2.2)]), FW.blk b0 75 ([.lit (.slice xd0_0 (List.length v0.sure) xc0_0), .lit (.map (some xr0_1)), .lit (.int .i64 v0.steps), .lit (.slice xd0_3 (List.length v0.falls) xc0_3), .lit (.bool v0.off)]), FW.orow xd0_0 xc0_0 9 1 c_str v0.sure, FW.mapI (.int .i64) (Value.int .i64) FW.evS xr0_1 v0.cache, FW.orow xd0_3 xc0_3 52 3 ApiFall.cells v0.falls]) (cs' := [.lit (.int .i64 t1.1), .lit (.int .i64 t1.2.1), .lit (.int .i64 t1.2.2.1), .lit (.int .i64 t1.2.2.2)]) (j := 0) hk rfl rfl rfl rfl rfl (by kernel_rfl) rfl rfl ?_; clear hk; intro w hk
  replace hk := FW.S.toArr (f := c_i64) (N := 4) (l := [t1.1, t1.2.1, t1.2.2.1, t1.2.2.2]) (I' := [FW.orow (some ⟨bx1, 0, none⟩) 4 79 1 c_i64 ([t1.1, t1.2.1, t1.2.2.1, t1.2.2.2] : List Int), FW.blk b0 75 ([.lit (.slice xd0_0 (List.length v0.sure) xc0_0), .lit (.map (some xr0_1)), .lit (.int .i64 v0.steps), .lit (.slice xd0_3 (List.length v0.falls) xc0_3), .lit (.bool v0.off)]), FW.orow xd0_0 xc0_0 9 1 c_str v0.sure, FW.mapI (.int .i64) (Value.int .i64) FW.evS xr0_1 v0.cache, FW.orow xd0_3 xc0_3 52 3 ApiFall.cells v0.falls]) (j := 0) (fun _ => rfl) hk rfl rfl rfl (by decide) rfl
  refine FW.lend (hK3 _ _ ?_); clear hK3 K'
  refine FW.wseq ?_; intro K' hK4
  refine FW.wreg ?_; intro K' hK5
  refine FW.lfun (y := .lit (.int .i64 0)) hk rfl rfl rfl rfl (FW.f_move hk (FW.holds_nil _) rfl) ?_; clear hk; intro a w hk
  refine FW.lend (hK5 _ _ ?_); clear hK5 K'
  refine wp_block ?_
  refine FW.wloop (T := Nat × List Int × Int × Bool × List (List UInt8) × (List (Int × (List UInt8))) × List ApiFall × Int × Int × List UInt8 × Int × Option Addr × Nat × Nat × Option Addr × Nat) (fun x a w => match x with | (kl1, l5, y1_2, y1_4, l2, m3, l4, v5, v6, v7, v17, xd2, xc2, xr3, xd4, xc4) => FW.S M w0 a w 53 [FW.orow (some ⟨bx1, 0, none⟩) 4 79 1 c_i64 l5, FW.blk b0 75 ([.lit (.slice xd2 (List.length l2) xc2), .lit (.map (some xr3)), .lit (.int .i64 y1_2), .lit (.slice xd4 (List.length l4) xc4), .lit (.bool y1_4)]), FW.orow xd2 xc2 9 1 c_str l2, FW.mapI (.int .i64) (Value.int .i64) FW.evS xr3 m3, FW.orow xd4 xc4 52 3 ApiFall.cells l4] [(0, [], .lit (.pointer (some ⟨b0, 0, none⟩))), (5, [], .lit (.int .i64 v5)), (6, [], .lit (.int .u64 v6)), (7, [], .lit (.string (FW.B v7))), (8, [], .lit (.pointer (some ⟨bx1, 0, none⟩))), (17, [], .lit (.int .i64 v17))] ∧ rec_newest.l1 K kl1 l5 y1_2 y1_4 l2 m3 l4 v5 v6 v7 v17 = some r) (fun x => x.1) (K, ([t1.1, t1.2.1, t1.2.2.1, t1.2.2.2] : List Int), v0.steps, v0.off, v0.sure, v0.cache, v0.falls, 1, 0, ([] : List UInt8), 0, xd0_0, xc0_0, xr0_1, xd0_3, xc0_3) ⟨hk.sub ⟨rfl, rfl, rfl, rfl, rfl, rfl, trivial⟩, h⟩ ?_
  clear hk h
  rintro ⟨kl1, l5, y1_2, y1_4, l2, m3, l4, v5, v6, v7, v17, xd2, xc2, xr3, xd4, xc4⟩ a w ⟨hk, h⟩ K' hK6
  cases kl1 with
  | zero => simp [rec_newest.l1] at h
  | succ kl1 =>
  rw [rec_newest.l1.eq_2] at h
  refine FW.wreg ?_; intro K' hK7
  refine FW.lfun (y := .lit (.bool (decide (v17 < 2)))) hk rfl rfl rfl rfl ((FW.f_pure (FW.p_lss hk.kn (FW.holds_nil _) rfl rfl))) ?_; clear hk; intro a w hk
  refine FW.lend (hK7 _ _ ?_); clear hK7 K'
  refine FW.wseq ?_; intro K' hK8
  refine FW.wcondF (b := (decide (v17 < 2))) hk h rfl (fun h hb => ?_) (fun h hb => ?_)
  · skip
    refine wp_skip ?_
    (repeat first | refine FW.then_normal ?_ | refine FW.block_normal ?_); refine hK8 _ _ ?_
    refine FW.wseqJ (fun a w => ∃ (y1_2 : Int) (y1_4 : Bool) (l2 : List (List UInt8)) (m3 : List (Int × (List UInt8))) (l4 : List ApiFall) (v5 : Int) (v6 : Int) (v7 : List UInt8) (v17 : Int) (xd2 : Option Addr) (xc2 : Nat) (xr3 : Nat) (xd4 : Option Addr) (xc4 : Nat), FW.S M w0 a w 53 [FW.blk b0 75 ([.lit (.slice xd2 (List.length l2) xc2), .lit (.map (some xr3)), .lit (.int .i64 y1_2), .lit (.slice xd4 (List.length l4) xc4), .lit (.bool y1_4)]), FW.orow xd2 xc2 9 1 c_str l2, FW.mapI (.int .i64) (Value.int .i64) FW.evS xr3 m3, FW.orow xd4 xc4 52 3 ApiFall.cells l4, FW.orow (some ⟨bx1, 0, none⟩) 4 79 1 c_i64 l5] [(0, [], .lit (.pointer (some ⟨b0, 0, none⟩))), (5, [], .lit (.int .i64 v5)), (6, [], .lit (.int .u64 v6)), (7, [], .lit (.string (FW.B v7))), (8, [], .lit (.pointer (some ⟨bx1, 0, none⟩))), (17, [], .lit (.int .i64 v17))] ∧ rec_newest.j1 (rec_newest.l1 K kl1) K l5 y1_2 y1_4 l2 m3 l4 v5 v6 v7 v17 = some r) ?_ ?_
    · clear hk h
      rintro a w ⟨y1_2, y1_4, l2, m3, l4, v5, v6, v7, v17, xd2, xc2, xr3, xd4, xc4, hk, h⟩
      unfold rec_newest.j1 at h
      refine FW.wreg1 ?_
      refine FW.lfun (y := .lit (.int .i64 (IntKind.wrap .i64 (v17 + 1)))) hk rfl rfl rfl rfl ((FW.f_pure (FW.p_add hk.kn (FW.holds_nil _) rfl rfl))) ?_; clear hk; intro a w hk
      refine FW.lfun (y := .lit (.int .i64 (IntKind.wrap .i64 (v17 + 1)))) hk rfl rfl rfl rfl (FW.f_move hk (FW.holds_nil _) rfl) ?_; clear hk; intro a w hk
      refine wpList_nil ?_
      (repeat first | refine FW.then_normal ?_ | refine FW.block_normal ?_); exact hK6 (kl1, l5, y1_2, y1_4, l2, m3, l4, v5, v6, v7, (IntKind.wrap .i64 (v17 + 1)), xd2, xc2, xr3, xd4, xc4) _ _ (Nat.lt_succ_self _) ⟨(FW.S.pick hk (js := [3, 3, 3, 3, 4]) rfl).sub ⟨rfl, rfl, rfl, rfl, rfl, rfl, trivial⟩, h⟩
    · intro K' hK9
      refine wp_block ?_
      refine FW.wreg ?_; intro K' hK11
      refine FW.lfun (y := .lit (.int .i64 v17)) hk rfl rfl rfl rfl (FW.f_move hk (FW.holds_nil _) rfl) ?_; clear hk; intro a w hk
      refine FW.lfun (y := .lit (.int .i64 v17)) hk rfl rfl rfl rfl (FW.f_assign hk (FW.holds_nil _) rfl) ?_; clear hk; intro a w hk
      refine FW.lend (hK11 _ _ ?_); clear hK11 K'
      refine FW.wreg ?_; intro K' hK12
      refine FW.lfun (y := .lit (.pointer (some ⟨b0, 0, none⟩))) hk rfl rfl rfl rfl (FW.f_move hk (FW.holds_nil _) rfl) ?_; clear hk; intro a w hk
      refine FW.lfun (y := .lit (.int .i64 v17)) hk rfl rfl rfl rfl (FW.f_move hk (FW.holds_nil _) rfl) ?_; clear hk; intro a w hk
      obtain ⟨hc1, h⟩ := FW.chk h
      refine FW.lfun (y := FW.elA (some ⟨bx1, 0, none⟩) 1 v17) hk rfl rfl rfl rfl (FW.f_idxArr (f := c_i64) (l := l5) hk (FW.holds_nil _) (j := 0) rfl rfl rfl Go.Proofs.Tryz.underlying79 (by kernel_rfl) hc1) ?_; clear hk; intro a w hk
      refine FW.lfun (y := .lit (.int .i64 (List.getD l5 (Int.toNat v17) default))) hk rfl rfl rfl rfl (FW.f_loadOwn1 (f := c_i64) (l := l5) hk (FW.holds_nil _) (j := 0) rfl rfl hc1 rfl Go.Proofs.Tryz.underlying3 rfl) ?_; clear hk; intro a w hk
      obtain ⟨t2, hr_t2, h⟩ := FW.bnd h
      refine FW.l_callH (I1 := (ODevDev.items b0 xd2 xc2 xr3 xd4 xc4 (⟨l2, m3, y1_2, l4, y1_4⟩ : ODevDev))) (I2 := [FW.orow (some ⟨bx1, 0, none⟩) 4 79 1 c_i64 l5]) (js := [4, 4, 4, 4]) hk rfl rfl rfl rfl rfl Go.Proofs.Tryz.func61 rfl (by kernel_rfl) (dev_Dev_Read.ok (⟨l2, m3, y1_2, l4, y1_4⟩ : ODevDev) (List.getD l5 (Int.toNat v17) default) _ hr_t2 b0 xd2 xc2 xr3 xd4 xc4) ?_; clear hk
      rintro _ _ ⟨rfl, rfl⟩ a w hk
      refine FW.lfun (y := .tup [.lit (.string (FW.B t2.1)), .lit (.int .i64 t2.2)]) hk rfl rfl rfl rfl (FW.f_move hk (FW.holds_nil _) rfl) ?_; clear hk; intro a w hk
      refine FW.lfun (y := .lit (.string (FW.B t2.1))) hk rfl rfl rfl rfl (FW.f_extract hk (FW.holds_nil _) rfl rfl) ?_; clear hk; intro a w hk
      refine FW.lfun (y := .lit (.int .i64 t2.2)) hk rfl rfl rfl rfl (FW.f_extract hk (FW.holds_nil _) rfl rfl) ?_; clear hk; intro a w hk
      refine FW.lfun (y := .lit (.string (FW.B t2.1))) hk rfl rfl rfl rfl (FW.f_assign hk (FW.holds_nil _) rfl) ?_; clear hk; intro a w hk
      refine FW.lfun (y := .lit (.int .i64 t2.2)) hk rfl rfl rfl rfl (FW.f_assign hk (FW.holds_nil _) rfl) ?_; clear hk; intro a w hk
      refine FW.lend (hK12 _ _ ?_); clear hK12 K'
      refine FW.wseq ?_; intro K' hK13
      refine FW.wreg ?_; intro K' hK14
      refine FW.lfun (y := .lit (.int .i64 t2.2)) hk rfl rfl rfl rfl (FW.f_move hk (FW.holds_nil _) rfl) ?_; clear hk; intro a w hk
      refine FW.lfun (y := .lit (.bool (!decide (t2.2 = 0)))) hk rfl rfl rfl rfl ((FW.f_pure (FW.p_neq hk.kn (FW.holds_nil _) rfl rfl))) ?_; clear hk; intro a w hk
      refine FW.lend (hK14 _ _ ?_); clear hK14 K'
      refine FW.wcondF (b := (!decide (t2.2 = 0))) hk h rfl (fun h hb => ?_) (fun h hb => ?_)
      · skip
        refine wp_exit ?_; (repeat first | refine FW.then_exit ?_ | refine FW.block_exit_ne rfl ?_); refine FW.block_exit ?_
        (repeat first | refine FW.then_normal ?_ | refine FW.block_normal ?_); exact hK9 _ _ ⟨y1_2, y1_4, l2, m3, l4, v5, v6, v7, v17, xd2, xc2, xr3, xd4, xc4, hk.sub ⟨rfl, rfl, rfl, rfl, rfl, rfl, trivial⟩, h⟩
      refine wp_skip ?_
      (repeat first | refine FW.then_normal ?_ | refine FW.block_normal ?_); refine hK13 _ _ ?_
      refine FW.wreg ?_; intro K' hK15
      refine FW.lfun (y := .lit (.string (FW.B t2.1))) hk rfl rfl rfl rfl (FW.f_move hk (FW.holds_nil _) rfl) ?_; clear hk; intro a w hk
      obtain ⟨hc2, h⟩ := FW.chk h
      refine FW.lfun (y := .lit (.string (FW.B (List.take (Int.toNat 8) t2.1)))) hk rfl rfl rfl rfl ((FW.f_pure (FW.p_slice_hi Go.Proofs.Tryz.underlying9 hk.kn (FW.holds_nil _) rfl rfl hc2))) ?_; clear hk; intro a w hk
      obtain ⟨t3, hr_t3, h⟩ := FW.bnd h
      refine FW.lfun (y := .lit (.int .u64 t3)) hk rfl rfl rfl rfl (FW.f_call hk (FW.holds_nil _) rfl rfl Go.Proofs.Tryz.func38 rfl (by kernel_rfl) (val_Wide.ok K (List.take (Int.toNat 8) t2.1) _ hr_t3)) ?_; clear hk; intro a w hk
      refine FW.lfun (y := .lit (.int .u64 t3)) hk rfl rfl rfl rfl (FW.f_assign hk (FW.holds_nil _) rfl) ?_; clear hk; intro a w hk
      refine FW.lend (hK15 _ _ ?_); clear hK15 K'
      refine FW.wreg ?_; intro K' hK16
      refine FW.lfun (y := .lit (.pointer (some ⟨b0, 0, none⟩))) hk rfl rfl rfl rfl (FW.f_move hk (FW.holds_nil _) rfl) ?_; clear hk; intro a w hk
      refine FW.lfun (y := .lit (.int .i64 v17)) hk rfl rfl rfl rfl (FW.f_move hk (FW.holds_nil _) rfl) ?_; clear hk; intro a w hk
      refine FW.lfun (y := .lit (.int .u64 t3)) hk rfl rfl rfl rfl (FW.f_move hk (FW.holds_nil _) rfl) ?_; clear hk; intro a w hk
      obtain ⟨t4, hr_t4, h⟩ := FW.bnd h
      refine FW.l_callH (I1 := (ODevDev.items b0 xd2 xc2 xr3 xd4 xc4 (⟨l2, m3, y1_2, l4, y1_4⟩ : ODevDev))) (I2 := [FW.orow (some ⟨bx1, 0, none⟩) 4 79 1 c_i64 l5]) (js := [3, 3, 3, 3]) hk rfl rfl rfl rfl rfl Go.Proofs.Tryz.func62 rfl (by kernel_rfl) (rec_image.ok K (⟨l2, m3, y1_2, l4, y1_4⟩ : ODevDev) v17 t3 _ hr_t4 b0 xd2 xc2 xr3 xd4 xc4) ?_; clear hk
      rintro _ _ ⟨zd1, zc1, zr1, zd2, zc2, rfl, rfl⟩ a w hk
      refine FW.lfun (y := .tup [.lit (.string (FW.B t4.1)), .lit (.bool t4.2.1)]) hk rfl rfl rfl rfl (FW.f_move hk (FW.holds_nil _) rfl) ?_; clear hk; intro a w hk
      refine FW.lfun (y := .lit (.string (FW.B t4.1))) hk rfl rfl rfl rfl (FW.f_extract hk (FW.holds_nil _) rfl rfl) ?_; clear hk; intro a w hk
      refine FW.lfun (y := .lit (.bool t4.2.1)) hk rfl rfl rfl rfl (FW.f_extract hk (FW.holds_nil _) rfl rfl) ?_; clear hk; intro a w hk
      refine FW.lfun (y := .lit (.string (FW.B t4.1))) hk rfl rfl rfl rfl (FW.f_assign hk (FW.holds_nil _) rfl) ?_; clear hk; intro a w hk
      refine FW.lfun (y := .lit (.bool t4.2.1)) hk rfl rfl rfl rfl (FW.f_assign hk (FW.holds_nil _) rfl) ?_; clear hk; intro a w hk
      refine FW.lend (hK16 _ _ ?_); clear hK16 K'
      refine FW.wreg ?_; intro K' hK17
      refine FW.lfun (y := .lit (.bool t4.2.1)) hk rfl rfl rfl rfl (FW.f_move hk (FW.holds_nil _) rfl) ?_; clear hk; intro a w hk
      refine FW.lfun (y := .lit (.bool t4.2.1)) hk rfl rfl rfl rfl (FW.f_move hk (FW.holds_nil _) rfl) ?_; clear hk; intro a w hk
      refine FW.lfunG (y := .lit (.int .u64 t3)) hk rfl rfl rfl rfl rfl rfl rfl rfl (fun hc => FW.f_move hk hc rfl) ?_; clear hk; intro a w hk
      refine FW.lfunG (y := .lit (.int .u64 v6)) hk rfl rfl rfl rfl rfl rfl rfl rfl (fun hc => FW.f_move hk hc rfl) ?_; clear hk; intro a w hk
      refine FW.lfunG (y := .lit (.bool (decide (v6 < t3)))) hk rfl rfl rfl rfl rfl rfl rfl rfl (fun hc => (FW.f_pure (FW.p_gtr hk.kn hc rfl rfl))) ?_; clear hk; intro a w hk
      refine FW.lfun (y := .lit (.bool (t4.2.1 && (decide (v6 < t3))))) hk rfl rfl rfl rfl ((FW.f_pure (FW.p_pick_and hk.kn (FW.holds_nil _) rfl rfl))) ?_; clear hk; intro a w hk
      refine FW.lend (hK17 _ _ ?_); clear hK17 K'
      refine FW.wcondF (b := (t4.2.1 && (decide (v6 < t3)))) hk h rfl (fun h hb => ?_) (fun h hb => ?_)
      · skip
        refine FW.wreg1 ?_
        refine FW.lfun (y := .lit (.int .i64 v17)) hk rfl rfl rfl rfl (FW.f_move hk (FW.holds_nil _) rfl) ?_; clear hk; intro a w hk
        refine FW.lfun (y := .lit (.int .u64 t3)) hk rfl rfl rfl rfl (FW.f_move hk (FW.holds_nil _) rfl) ?_; clear hk; intro a w hk
        refine FW.lfun (y := .lit (.string (FW.B t4.1))) hk rfl rfl rfl rfl (FW.f_move hk (FW.holds_nil _) rfl) ?_; clear hk; intro a w hk
        refine FW.lfun (y := .lit (.int .i64 v17)) hk rfl rfl rfl rfl (FW.f_assign hk (FW.holds_nil _) rfl) ?_; clear hk; intro a w hk
        refine FW.lfun (y := .lit (.int .u64 t3)) hk rfl rfl rfl rfl (FW.f_assign hk (FW.holds_nil _) rfl) ?_; clear hk; intro a w hk
        refine FW.lfun (y := .lit (.string (FW.B t4.1))) hk rfl rfl rfl rfl (FW.f_assign hk (FW.holds_nil _) rfl) ?_; clear hk; intro a w hk
        refine wpList_nil ?_
        (repeat first | refine FW.then_normal ?_ | refine FW.block_normal ?_); exact hK9 _ _ ⟨t4.2.2.steps, t4.2.2.off, t4.2.2.sure, t4.2.2.cache, t4.2.2.falls, v17, t3, t4.1, v17, zd1, zc1, zr1, zd2, zc2, hk.sub ⟨rfl, rfl, rfl, rfl, rfl, rfl, trivial⟩, h⟩
      refine wp_skip ?_
      (repeat first | refine FW.then_normal ?_ | refine FW.block_normal ?_); exact hK9 _ _ ⟨t4.2.2.steps, t4.2.2.off, t4.2.2.sure, t4.2.2.cache, t4.2.2.falls, v5, v6, v7, v17, zd1, zc1, zr1, zd2, zc2, hk.sub ⟨rfl, rfl, rfl, rfl, rfl, rfl, trivial⟩, h⟩
  refine wp_exit ?_; (repeat first | refine FW.then_exit ?_ | refine FW.block_exit_ne rfl ?_); refine FW.block_exit ?_
  (repeat first | refine FW.then_normal ?_ | refine FW.block_normal ?_); refine hK4 _ _ ?_
  refine FW.wreg ?_; intro K' hK19
  refine FW.lfun (y := .lit (.int .i64 v5)) hk rfl rfl rfl rfl (FW.f_move hk (FW.holds_nil _) rfl) ?_; clear hk; intro a w hk
  refine FW.lfun (y := .lit (.int .u64 v6)) hk rfl rfl rfl rfl (FW.f_move hk (FW.holds_nil _) rfl) ?_; clear hk; intro a w hk
  refine FW.lfun (y := .lit (.string (FW.B v7))) hk rfl rfl rfl rfl (FW.f_move hk (FW.holds_nil _) rfl) ?_; clear hk; intro a w hk
  refine FW.lfun (y := .lit (.int .i64 v5)) hk rfl rfl rfl rfl (FW.f_assign hk (FW.holds_nil _) rfl) ?_; clear hk; intro a w hk
  refine FW.lfun (y := .lit (.int .u64 v6)) hk rfl rfl rfl rfl (FW.f_assign hk (FW.holds_nil _) rfl) ?_; clear hk; intro a w hk
  refine FW.lfun (y := .lit (.string (FW.B v7))) hk rfl rfl rfl rfl (FW.f_assign hk (FW.holds_nil _) rfl) ?_; clear hk; intro a w hk
  refine FW.lend (hK19 _ _ ?_); clear hK19 K'
  refine wp_ret ?_
  (repeat first | refine FW.then_ret ?_ | refine FW.block_ret ?_)
  obtain rfl := Option.some.inj h
  replace hk := FW.S.keep (I1 := [FW.blk b0 75 ([.lit (.slice xd2 (List.length l2) xc2), .lit (.map (some xr3)), .lit (.int .i64 y1_2), .lit (.slice xd4 (List.length l4) xc4), .lit (.bool y1_4)]), FW.orow xd2 xc2 9 1 c_str l2, FW.mapI (.int .i64) (Value.int .i64) FW.evS xr3 m3, FW.orow xd4 xc4 52 3 ApiFall.cells l4]) (I2 := [FW.orow (some ⟨bx1, 0, none⟩) 4 79 1 c_i64 l5]) (js := [4, 4, 4, 4]) hk rfl
  exact FW.fretH3 hk rfl (FW.rtmp hk rfl) (FW.rtmp hk rfl) (FW.rtmp hk rfl) ⟨xd2, xc2, xr3, xd4, xc4, rfl, rfl⟩
theorem page_Page_place_1.ok  (v0 : ApiBody) (v1 : Int) (r : Int) (h : page_Page_place_1.f v0 v1 = some r) :
    FW.Ok Go.Proofs.Tryz.prog 128 [.agg (ApiBody.cells v0), .lit (.int .u64 v1)] (.lit (.int .i64 r)) := by
  refine FW.enter (xs := [.agg (ApiBody.cells v0), .lit (.int .u64 v1)]) Go.Proofs.Tryz.func128 rfl Go.Proofs.Tryz.ntmps128 rfl ?_
  intro M w0 a hk
  unfold page_Page_place_1.f at h
  refine FW.wreg ?_; intro K' hK1
  refine FW.l_box (cs := (ApiBody.cells v0)) hk rfl rfl rfl rfl rfl ?_; clear hk; intro bx1 a w hk
  refine FW.lfun (y := .lit (.int .i64 0)) hk rfl rfl rfl rfl (FW.f_assign hk (FW.holds_nil _) rfl) ?_; clear hk; intro a w hk
  refine FW.lend (hK1 _ _ ?_); clear hK1 K'
  refine FW.wseq ?_; intro K' hK2
  refine wp_block ?_
  refine FW.wreg ?_; intro K' hK3
  refine FW.lfun (y := .lit (.pointer (some ⟨bx1, 0, none⟩))) hk rfl rfl rfl rfl (FW.f_fieldPtr hk (FW.holds_nil _) rfl Go.Proofs.Tryz.underlying58 rfl (by kernel_rfl) rfl) ?_; clear hk; intro a w hk
  refine FW.lfun (y := .lit (.int .u64 v0.ID)) hk rfl rfl rfl rfl (FW.f_loadBlk1 hk (FW.holds_nil _) (j := 0) rfl rfl Go.Proofs.Tryz.underlying27 rfl rfl) ?_; clear hk; intro a w hk
  refine FW.lfun (y := .lit (.int .u64 v1)) hk rfl rfl rfl rfl (FW.f_move hk (FW.holds_nil _) rfl) ?_; clear hk; intro a w hk
  refine FW.lfun (y := .lit (.bool (decide (v0.ID < v1)))) hk rfl rfl rfl rfl ((FW.f_pure (FW.p_lss hk.kn (FW.holds_nil _) rfl rfl))) ?_; clear hk; intro a w hk
  refine FW.lfun (y := .lit (.bool (decide (v0.ID < v1)))) hk rfl rfl rfl rfl (FW.f_assign hk (FW.holds_nil _) rfl) ?_; clear hk; intro a w hk
  refine FW.lend (hK3 _ _ ?_); clear hK3 K'
  refine FW.wcondF (b := (decide (v0.ID < v1))) hk h rfl (fun h hb => ?_) (fun h hb => ?_)
  · skip
    refine FW.wreg ?_; intro K' hK4
    refine FW.lfun (y := .lit (.int .i64 (-1))) hk rfl rfl rfl rfl (FW.f_assign hk (FW.holds_nil _) rfl) ?_; clear hk; intro a w hk
    refine FW.lend (hK4 _ _ ?_); clear hK4 K'
    refine wp_ret ?_
    (repeat first | refine FW.then_ret ?_ | refine FW.block_ret ?_)
    obtain rfl := Option.some.inj h
    exact FW.fret1 hk rfl rfl
  refine FW.wreg ?_; intro K' hK5
  refine FW.lfun (y := .lit (.pointer (some ⟨bx1, 0, none⟩))) hk rfl rfl rfl rfl (FW.f_fieldPtr hk (FW.holds_nil _) rfl Go.Proofs.Tryz.underlying58 rfl (by kernel_rfl) rfl) ?_; clear hk; intro a w hk
  refine FW.lfun (y := .lit (.int .u64 v0.ID)) hk rfl rfl rfl rfl (FW.f_loadBlk1 hk (FW.holds_nil _) (j := 0) rfl rfl Go.Proofs.Tryz.underlying27 rfl rfl) ?_; clear hk; intro a w hk
  refine FW.lfun (y := .lit (.int .u64 v1)) hk rfl rfl rfl rfl (FW.f_move hk (FW.holds_nil _) rfl) ?_; clear hk; intro a w hk
  refine FW.lfun (y := .lit (.bool (decide (v1 < v0.ID)))) hk rfl rfl rfl rfl ((FW.f_pure (FW.p_gtr hk.kn (FW.holds_nil _) rfl rfl))) ?_; clear hk; intro a w hk
  refine FW.lfun (y := .lit (.bool (decide (v1 < v0.ID)))) hk rfl rfl rfl rfl (FW.f_assign hk (FW.holds_nil _) rfl) ?_; clear hk; intro a w hk
  refine FW.lend (hK5 _ _ ?_); clear hK5 K'
  refine FW.wcondF (b := (decide (v1 < v0.ID))) hk h rfl (fun h hb => ?_) (fun h hb => ?_)
  · skip
    refine FW.wreg ?_; intro K' hK6
    refine FW.lfun (y := .lit (.int .i64 1)) hk rfl rfl rfl rfl (FW.f_assign hk (FW.holds_nil _) rfl) ?_; clear hk; intro a w hk
    refine FW.lend (hK6 _ _ ?_); clear hK6 K'
    refine wp_ret ?_
    (repeat first | refine FW.then_ret ?_ | refine FW.block_ret ?_)
    obtain rfl := Option.some.inj h
    exact FW.fret1 hk rfl rfl
  refine wp_skip ?_
  (repeat first | refine FW.then_normal ?_ | refine FW.block_normal ?_); refine hK2 _ _ ?_
  refine FW.wreg ?_; intro K' hK7
  refine FW.lfun (y := .lit (.int .i64 0)) hk rfl rfl rfl rfl (FW.f_assign hk (FW.holds_nil _) rfl) ?_; clear hk; intro a w hk
  refine FW.lend (hK7 _ _ ?_); clear hK7 K'
  refine wp_ret ?_
  (repeat first | refine FW.then_ret ?_ | refine FW.block_ret ?_)
  obtain rfl := Option.some.inj h
  exact FW.fret1 hk rfl rfl
theorem slices_BinarySearchFunc_api_Body_api_Body_uint64_of_page_Page_place_1.ok (K : Nat) (v0 : List ApiBody) (v1 : Int) (r : Int × Bool) (h : slices_BinarySearchFunc_api_Body_api_Body_uint64_of_page_Page_place_1.f K v0 v1 = some r) :
    FW.Ok Go.Proofs.Tryz.prog 127 [.row (r_ApiBody_cells v0), .lit (.int .u64 v1), .lit (.func (.func 128) #[] #[])] (.tup [.lit (.int .i64 r.1), .lit (.bool r.2)]) := by
  refine FW.enter (xs := [.row (r_ApiBody_cells v0), .lit (.int .u64 v1), .lit (.func (.func 128) #[] #[])]) Go.Proofs.Tryz.func127 rfl Go.Proofs.Tryz.ntmps127 rfl ?_
  intro M w0 a hk
  unfold slices_BinarySearchFunc_api_Body_api_Body_uint64_of_page_Page_place_1.f at h
  refine FW.wreg ?_; intro K' hK1
  refine FW.lfun (y := .lit (.int .i64 0)) hk rfl rfl rfl rfl (FW.f_assign hk (FW.holds_nil _) rfl) ?_; clear hk; intro a w hk
  refine FW.lfun (y := .lit (.bool false)) hk rfl rfl rfl rfl (FW.f_assign hk (FW.holds_nil _) rfl) ?_; clear hk; intro a w hk
  refine FW.lend (hK1 _ _ ?_); clear hK1 K'
  refine FW.wreg ?_; intro K' hK2
  refine FW.lfun (y := .row (r_ApiBody_cells v0)) hk rfl rfl rfl rfl (FW.f_move hk (FW.holds_nil _) rfl) ?_; clear hk; intro a w hk
  refine FW.lfun (y := .lit (.int .i64 (List.length v0 : Int))) hk rfl rfl rfl rfl (FW.f_len (R := r_ApiBody_cells) (f := ApiBody.cells) (l := v0) r_ApiBody_cells_eq Go.Proofs.Tryz.underlying38 hk (FW.holds_nil _) rfl) ?_; clear hk; intro a w hk
  refine FW.lfun (y := .lit (.int .i64 (List.length v0 : Int))) hk rfl rfl rfl rfl (FW.f_assign hk (FW.holds_nil _) rfl) ?_; clear hk; intro a w hk
  refine FW.lend (hK2 _ _ ?_); clear hK2 K'
  refine FW.wreg ?_; intro K' hK3
  refine FW.lfun (y := .lit (.int .i64 (List.length v0 : Int))) hk rfl rfl rfl rfl (FW.f_move hk (FW.holds_nil _) rfl) ?_; clear hk; intro a w hk
  refine FW.lfun (y := .lit (.int .i64 0)) hk rfl rfl rfl rfl (FW.f_assign hk (FW.holds_nil _) rfl) ?_; clear hk; intro a w hk
  refine FW.lfun (y := .lit (.int .i64 (List.length v0 : Int))) hk rfl rfl rfl rfl (FW.f_assign hk (FW.holds_nil _) rfl) ?_; clear hk; intro a w hk
  refine FW.lend (hK3 _ _ ?_); clear hK3 K'
  refine FW.wseq ?_; intro K' hK4
  refine wp_block ?_
  refine FW.wloop (T := Nat × List ApiBody × Int × Int × Int × Int) (fun x a w => match x with | (kl1, v0, v1, v8, v9, v10) => FW.S M w0 a w 49 [] [(0, [], .row (r_ApiBody_cells v0)), (1, [], .lit (.int .u64 v1)), (2, [], .lit (.func (.func 128) #[] #[])), (8, [], .lit (.int .i64 v8)), (9, [], .lit (.int .i64 v9)), (10, [], .lit (.int .i64 v10))] ∧ slices_BinarySearchFunc_api_Body_api_Body_uint64_of_page_Page_place_1.l1 K kl1 v0 v1 v8 v9 v10 = some r) (fun x => x.1) (K, v0, v1, (List.length v0 : Int), 0, (List.length v0 : Int)) ⟨hk.sub ⟨rfl, rfl, rfl, rfl, rfl, rfl, trivial⟩, h⟩ ?_
  clear hk h
  rintro ⟨kl1, v0, v1, v8, v9, v10⟩ a w ⟨hk, h⟩ K' hK5
  cases kl1 with
  | zero => simp [slices_BinarySearchFunc_api_Body_api_Body_uint64_of_page_Page_place_1.l1] at h
  | succ kl1 =>
  rw [slices_BinarySearchFunc_api_Body_api_Body_uint64_of_page_Page_place_1.l1.eq_2] at h
  refine FW.wseq ?_; intro K' hK6
  refine FW.wreg ?_; intro K' hK7
  refine FW.lfun (y := .lit (.int .i64 v9)) hk rfl rfl rfl rfl (FW.f_move hk (FW.holds_nil _) rfl) ?_; clear hk; intro a w hk
  refine FW.lfun (y := .lit (.int .i64 v10)) hk rfl rfl rfl rfl (FW.f_move hk (FW.holds_nil _) rfl) ?_; clear hk; intro a w hk
  refine FW.lfun (y := .lit (.bool (decide (v9 < v10)))) hk rfl rfl rfl rfl ((FW.f_pure (FW.p_lss hk.kn (FW.holds_nil _) rfl rfl))) ?_; clear hk; intro a w hk
  refine FW.lend (hK7 _ _ ?_); clear hK7 K'
  refine FW.wcondF (b := (decide (v9 < v10))) hk h rfl (fun h hb => ?_) (fun h hb => ?_)
  · skip
    refine wp_skip ?_
    (repeat first | refine FW.then_normal ?_ | refine FW.block_normal ?_); refine hK6 _ _ ?_
    refine wp_block ?_
    refine FW.wreg ?_; intro K' hK8
    refine FW.lfun (y := .lit (.int .i64 v9)) hk rfl rfl rfl rfl (FW.f_move hk (FW.holds_nil _) rfl) ?_; clear hk; intro a w hk
    refine FW.lfun (y := .lit (.int .i64 v10)) hk rfl rfl rfl rfl (FW.f_move hk (FW.holds_nil _) rfl) ?_; clear hk; intro a w hk
    refine FW.lfun (y := .lit (.int .i64 (IntKind.wrap .i64 (v9 + v10)))) hk rfl rfl rfl rfl ((FW.f_pure (FW.p_add hk.kn (FW.holds_nil _) rfl rfl))) ?_; clear hk; intro a w hk
    refine FW.lfun (y := .lit (.int .u64 (IntKind.wrap .u64 (IntKind.wrap .i64 (v9 + v10))))) hk rfl rfl rfl rfl ((FW.f_pure (FW.p_conv Go.Proofs.Tryz.underlying3 Go.Proofs.Tryz.underlying110 hk.kn (FW.holds_nil _) rfl))) ?_; clear hk; intro a w hk
    refine FW.lfun (y := .lit (.int .u64 (FW.shrI .u64 (IntKind.wrap .u64 (IntKind.wrap .i64 (v9 + v10))) 1))) hk rfl rfl rfl rfl ((FW.f_pure (FW.p_shr hk.kn (FW.holds_nil _) rfl rfl (show (0 : Int) ≤ 1 from by decide)))) ?_; clear hk; intro a w hk
    refine FW.lfun (y := .lit (.int .i64 (IntKind.wrap .i64 (FW.shrI .u64 (IntKind.wrap .u64 (IntKind.wrap .i64 (v9 + v10))) 1)))) hk rfl rfl rfl rfl ((FW.f_pure (FW.p_conv Go.Proofs.Tryz.underlying110 Go.Proofs.Tryz.underlying3 hk.kn (FW.holds_nil _) rfl))) ?_; clear hk; intro a w hk
    refine FW.lfun (y := .lit (.int .i64 (IntKind.wrap .i64 (FW.shrI .u64 (IntKind.wrap .u64 (IntKind.wrap .i64 (v9 + v10))) 1)))) hk rfl rfl rfl rfl (FW.f_assign hk (FW.holds_nil _) rfl) ?_; clear hk; intro a w hk
    refine FW.lend (hK8 _ _ ?_); clear hK8 K'
    refine FW.wreg ?_; intro K' hK9
    refine FW.lfun (y := .lit (.func (.func 128) #[] #[])) hk rfl rfl rfl rfl (FW.f_move hk (FW.holds_nil _) rfl) ?_; clear hk; intro a w hk
    refine FW.lfun (y := .row (r_ApiBody_cells v0)) hk rfl rfl rfl rfl (FW.f_move hk (FW.holds_nil _) rfl) ?_; clear hk; intro a w hk
    refine FW.lfun (y := .lit (.int .i64 (IntKind.wrap .i64 (FW.shrI .u64 (IntKind.wrap .u64 (IntKind.wrap .i64 (v9 + v10))) 1)))) hk rfl rfl rfl rfl (FW.f_move hk (FW.holds_nil _) rfl) ?_; clear hk; intro a w hk
    obtain ⟨hc1, h⟩ := FW.chk h
    refine FW.lfun (y := .ref (ApiBody.cells (List.getD v0 (Int.toNat (IntKind.wrap .i64 (FW.shrI .u64 (IntKind.wrap .u64 (IntKind.wrap .i64 (v9 + v10))) 1))) default))) hk rfl rfl rfl rfl (FW.f_indexAddr (R := r_ApiBody_cells) (f := ApiBody.cells) (l := v0) (sz := 2) r_ApiBody_cells_eq (fun _ => rfl) hk (FW.holds_nil _) rfl rfl Go.Proofs.Tryz.underlying38 (by kernel_rfl) hc1) ?_; clear hk; intro a w hk
    refine FW.lfun (y := .agg ((ApiBody.cells (List.getD v0 (Int.toNat (IntKind.wrap .i64 (FW.shrI .u64 (IntKind.wrap .u64 (IntKind.wrap .i64 (v9 + v10))) 1))) default)))) hk rfl rfl rfl rfl (FW.f_load hk (FW.holds_nil _) rfl Go.Proofs.Tryz.underlying58 rfl rfl rfl rfl) ?_; clear hk; intro a w hk
    refine FW.lfun (y := .lit (.int .u64 v1)) hk rfl rfl rfl rfl (FW.f_move hk (FW.holds_nil _) rfl) ?_; clear hk; intro a w hk
    obtain ⟨t1, hr_t1, h⟩ := FW.bnd h
    refine FW.lfun (y := .lit (.int .i64 t1)) hk rfl rfl rfl rfl (FW.f_call hk (FW.holds_nil _) rfl rfl Go.Proofs.Tryz.func128 rfl (by kernel_rfl) (page_Page_place_1.ok (List.getD v0 (Int.toNat (IntKind.wrap .i64 (FW.shrI .u64 (IntKind.wrap .u64 (IntKind.wrap .i64 (v9 + v10))) 1))) default) v1 _ hr_t1)) ?_; clear hk; intro a w hk
    refine FW.lfun (y := .lit (.bool (decide (t1 < 0)))) hk rfl rfl rfl rfl ((FW.f_pure (FW.p_lss hk.kn (FW.holds_nil _) rfl rfl))) ?_; clear hk; intro a w hk
    refine FW.lend (hK9 _ _ ?_); clear hK9 K'
    refine FW.wcondF (b := (decide (t1 < 0))) hk h rfl (fun h hb => ?_) (fun h hb => ?_)
    · skip
      refine FW.wreg1 ?_
      refine FW.lfun (y := .lit (.int .i64 (IntKind.wrap .i64 (FW.shrI .u64 (IntKind.wrap .u64 (IntKind.wrap .i64 (v9 + v10))) 1)))) hk rfl rfl rfl rfl (FW.f_move hk (FW.holds_nil _) rfl) ?_; clear hk; intro a w hk
      refine FW.lfun (y := .lit (.int .i64 (IntKind.wrap .i64 ((IntKind.wrap .i64 (FW.shrI .u64 (IntKind.wrap .u64 (IntKind.wrap .i64 (v9 + v10))) 1)) + 1)))) hk rfl rfl rfl rfl ((FW.f_pure (FW.p_add hk.kn (FW.holds_nil _) rfl rfl))) ?_; clear hk; intro a w hk
      refine FW.lfun (y := .lit (.int .i64 (IntKind.wrap .i64 ((IntKind.wrap .i64 (FW.shrI .u64 (IntKind.wrap .u64 (IntKind.wrap .i64 (v9 + v10))) 1)) + 1)))) hk rfl rfl rfl rfl (FW.f_assign hk (FW.holds_nil _) rfl) ?_; clear hk; intro a w hk
      refine wpList_nil ?_
      (repeat first | refine FW.then_normal ?_ | refine FW.block_normal ?_); exact hK5 (kl1, v0, v1, v8, (IntKind.wrap .i64 ((IntKind.wrap .i64 (FW.shrI .u64 (IntKind.wrap .u64 (IntKind.wrap .i64 (v9 + v10))) 1)) + 1)), v10) _ _ (Nat.lt_succ_self _) ⟨hk.sub ⟨rfl, rfl, rfl, rfl, rfl, rfl, trivial⟩, h⟩
    refine FW.wreg1 ?_
    refine FW.lfun (y := .lit (.int .i64 (IntKind.wrap .i64 (FW.shrI .u64 (IntKind.wrap .u64 (IntKind.wrap .i64 (v9 + v10))) 1)))) hk rfl rfl rfl rfl (FW.f_move hk (FW.holds_nil _) rfl) ?_; clear hk; intro a w hk
    refine FW.lfun (y := .lit (.int .i64 (IntKind.wrap .i64 (FW.shrI .u64 (IntKind.wrap .u64 (IntKind.wrap .i64 (v9 + v10))) 1)))) hk rfl rfl rfl rfl (FW.f_assign hk (FW.holds_nil _) rfl) ?_; clear hk; intro a w hk
    refine wpList_nil ?_
    (repeat first | refine FW.then_normal ?_ | refine FW.block_normal ?_); exact hK5 (kl1, v0, v1, v8, v9, (IntKind.wrap .i64 (FW.shrI .u64 (IntKind.wrap .u64 (IntKind.wrap .i64 (v9 + v10))) 1))) _ _ (Nat.lt_succ_self _) ⟨hk.sub ⟨rfl, rfl, rfl, rfl, rfl, rfl, trivial⟩, h⟩
  refine wp_exit ?_; (repeat first | refine FW.then_exit ?_ | refine FW.block_exit_ne rfl ?_); refine FW.block_exit ?_
  (repeat first | refine FW.then_normal ?_ | refine FW.block_normal ?_); refine hK4 _ _ ?_
  refine FW.wreg ?_; intro K' hK12
  refine FW.lfun (y := .lit (.int .i64 v9)) hk rfl rfl rfl rfl (FW.f_move hk (FW.holds_nil _) rfl) ?_; clear hk; intro a w hk
  refine FW.lfun (y := .lit (.int .i64 v9)) hk rfl rfl rfl rfl (FW.f_move hk (FW.holds_nil _) rfl) ?_; clear hk; intro a w hk
  refine FW.lfun (y := .lit (.int .i64 v8)) hk rfl rfl rfl rfl (FW.f_move hk (FW.holds_nil _) rfl) ?_; clear hk; intro a w hk
  refine FW.lfun (y := .lit (.bool (decide (v9 < v8)))) hk rfl rfl rfl rfl ((FW.f_pure (FW.p_lss hk.kn (FW.holds_nil _) rfl rfl))) ?_; clear hk; intro a w hk
  refine FW.lfun (y := .lit (.bool (decide (v9 < v8)))) hk rfl rfl rfl rfl (FW.f_move hk (FW.holds_nil _) rfl) ?_; clear hk; intro a w hk
  refine FW.lfunG (y := .lit (.func (.func 128) #[] #[])) hk rfl rfl rfl rfl rfl rfl rfl rfl (fun hc => FW.f_move hk hc rfl) ?_; clear hk; intro a w hk
  refine FW.lfunG (y := .row (r_ApiBody_cells v0)) hk rfl rfl rfl rfl rfl rfl rfl rfl (fun hc => FW.f_move hk hc rfl) ?_; clear hk; intro a w hk
  refine FW.lfunG (y := .lit (.int .i64 v9)) hk rfl rfl rfl rfl rfl rfl rfl rfl (fun hc => FW.f_move hk hc rfl) ?_; clear hk; intro a w hk
  obtain ⟨hc2, h⟩ := FW.chk h
  refine FW.lfunG (y := .ref (ApiBody.cells (List.getD v0 (Int.toNat v9) default))) hk rfl rfl rfl rfl rfl rfl rfl rfl (fun hc => FW.f_indexAddr (R := r_ApiBody_cells) (f := ApiBody.cells) (l := v0) (sz := 2) r_ApiBody_cells_eq (fun _ => rfl) hk hc rfl rfl Go.Proofs.Tryz.underlying38 (by kernel_rfl) hc2) ?_; clear hk; intro a w hk
  refine FW.lfunG (y := .agg ((ApiBody.cells (List.getD v0 (Int.toNat v9) default)))) hk rfl rfl rfl rfl rfl rfl rfl rfl (fun hc => FW.f_load hk hc rfl Go.Proofs.Tryz.underlying58 rfl rfl rfl rfl) ?_; clear hk; intro a w hk
  refine FW.lfunG (y := .lit (.int .u64 v1)) hk rfl rfl rfl rfl rfl rfl rfl rfl (fun hc => FW.f_move hk hc rfl) ?_; clear hk; intro a w hk
  obtain ⟨t2, hr_t2, h⟩ := FW.bndG h
  refine FW.lfunG (y := .lit (.int .i64 t2)) hk rfl rfl rfl rfl rfl rfl rfl rfl (fun hc => FW.f_call hk hc rfl rfl Go.Proofs.Tryz.func128 rfl (by kernel_rfl) (page_Page_place_1.ok (List.getD v0 (Int.toNat v9) default) v1 _ (hr_t2 (FW.asm_out (p := (decide (v9 < v8)) = true) hk.kn hc (fun e0 => e0))))) ?_; clear hk; intro a w hk
  refine FW.lfunG (y := .lit (.bool (decide (t2 = 0)))) hk rfl rfl rfl rfl rfl rfl rfl rfl (fun hc => (FW.f_pure (FW.p_eql hk.kn hc rfl rfl))) ?_; clear hk; intro a w hk
  refine FW.lfun (y := .lit (.bool ((decide (v9 < v8)) && (decide (t2 = 0))))) hk rfl rfl rfl rfl ((FW.f_pure (FW.p_pick_and hk.kn (FW.holds_nil _) rfl rfl))) ?_; clear hk; intro a w hk
  refine FW.lfun (y := .lit (.int .i64 v9)) hk rfl rfl rfl rfl (FW.f_assign hk (FW.holds_nil _) rfl) ?_; clear hk; intro a w hk
  refine FW.lfun (y := .lit (.bool ((decide (v9 < v8)) && (decide (t2 = 0))))) hk rfl rfl rfl rfl (FW.f_assign hk (FW.holds_nil _) rfl) ?_; clear hk; intro a w hk
  refine FW.lend (hK12 _ _ ?_); clear hK12 K'
  refine wp_ret ?_
  (repeat first | refine FW.then_ret ?_ | refine FW.block_ret ?_)
  obtain rfl := Option.some.inj h
  exact FW.fret2 hk rfl rfl rfl
theorem slices_Reverse_api_Body_api_Body.ok (K : Nat) (v0 : List ApiBody) (r : Unit) (h : slices_Reverse_api_Body_api_Body.f K v0 = some r) :
    FW.Ok Go.Proofs.Tryz.prog 144 [.row (r_ApiBody_cells v0)] (.tup []) := by
  refine FW.enter (xs := [.row (r_ApiBody_cells v0)]) Go.Proofs.Tryz.func144 rfl Go.Proofs.Tryz.ntmps144 rfl ?_
  intro M w0 a hk
  unfold slices_Reverse_api_Body_api_Body.f at h
  refine FW.wreg ?_; intro K' hK1
  refine FW.lfun (y := .row (r_ApiBody_cells v0)) hk rfl rfl rfl rfl (FW.f_move hk (FW.holds_nil _) rfl) ?_; clear hk; intro a w hk
  refine FW.lfun (y := .lit (.int .i64 (List.length v0 : Int))) hk rfl rfl rfl rfl (FW.f_len (R := r_ApiBody_cells) (f := ApiBody.cells) (l := v0) r_ApiBody_cells_eq Go.Proofs.Tryz.underlying38 hk (FW.holds_nil _) rfl) ?_; clear hk; intro a w hk
  refine FW.lfun (y := .lit (.int .i64 (IntKind.wrap .i64 ((List.length v0 : Int) - 1)))) hk rfl rfl rfl rfl ((FW.f_pure (FW.p_sub hk.kn (FW.holds_nil _) rfl rfl))) ?_; clear hk; intro a w hk
  refine FW.lfun (y := .lit (.int .i64 0)) hk rfl rfl rfl rfl (FW.f_assign hk (FW.holds_nil _) rfl) ?_; clear hk; intro a w hk
  refine FW.lfun (y := .lit (.int .i64 (IntKind.wrap .i64 ((List.length v0 : Int) - 1)))) hk rfl rfl rfl rfl (FW.f_assign hk (FW.holds_nil _) rfl) ?_; clear hk; intro a w hk
  refine FW.lend (hK1 _ _ ?_); clear hK1 K'
  refine wp_block ?_
  refine FW.wloop (T := Nat × List ApiBody × Int × Int) (fun x a w => match x with | (kl1, v0, v2, v3) => FW.S M w0 a w 28 [] [(0, [], .row (r_ApiBody_cells v0)), (2, [], .lit (.int .i64 v2)), (3, [], .lit (.int .i64 v3))] ∧ slices_Reverse_api_Body_api_Body.l1 K kl1 v0 v2 v3 = some r) (fun x => x.1) (K, v0, 0, (IntKind.wrap .i64 ((List.length v0 : Int) - 1))) ⟨hk.sub ⟨rfl, rfl, rfl, trivial⟩, h⟩ ?_
  clear hk h
  rintro ⟨kl1, v0, v2, v3⟩ a w ⟨hk, h⟩ K' hK2
  cases kl1 with
  | zero => simp [slices_Reverse_api_Body_api_Body.l1] at h
  | succ kl1 =>
  rw [slices_Reverse_api_Body_api_Body.l1.eq_2] at h
  refine FW.wseq ?_; intro K' hK3
  refine FW.wreg ?_; intro K' hK4
  refine FW.lfun (y := .lit (.int .i64 v2)) hk rfl rfl rfl rfl (FW.f_move hk (FW.holds_nil _) rfl) ?_; clear hk; intro a w hk
  refine FW.lfun (y := .lit (.int .i64 v3)) hk rfl rfl rfl rfl (FW.f_move hk (FW.holds_nil _) rfl) ?_; clear hk; intro a w hk
  refine FW.lfun (y := .lit (.bool (decide (v2 < v3)))) hk rfl rfl rfl rfl ((FW.f_pure (FW.p_lss hk.kn (FW.holds_nil _) rfl rfl))) ?_; clear hk; intro a w hk
  refine FW.lend (hK4 _ _ ?_); clear hK4 K'
  refine FW.wcondF (b := (decide (v2 < v3))) hk h rfl (fun h hb => ?_) (fun h hb => ?_)
  · skip
    cases h
  refine wp_exit ?_; (repeat first | refine FW.then_exit ?_ | refine FW.block_exit_ne rfl ?_); refine FW.block_exit ?_
  (repeat first | refine FW.then_normal ?_ | refine FW.block_normal ?_)
  refine FW.fnorm ?_
  obtain rfl := Option.some.inj h
  exact FW.fret0 hk rfl
theorem slices_rotateLeft_api_Body.ok (K : Nat) (v0 : List ApiBody) (v1 : Int) (r : Unit) (h : slices_rotateLeft_api_Body.f K v0 v1 = some r) :
    FW.Ok Go.Proofs.Tryz.prog 141 [.row (r_ApiBody_cells v0), .lit (.int .i64 v1)] (.tup []) := by
  refine FW.enter (xs := [.row (r_ApiBody_cells v0), .lit (.int .i64 v1)]) Go.Proofs.Tryz.func141 rfl Go.Proofs.Tryz.ntmps141 rfl ?_
  intro M w0 a hk
  unfold slices_rotateLeft_api_Body.f at h
  refine FW.wreg ?_; intro K' hK1
  refine FW.lfun (y := .row (r_ApiBody_cells v0)) hk rfl rfl rfl rfl (FW.f_move hk (FW.holds_nil _) rfl) ?_; clear hk; intro a w hk
  refine FW.lfun (y := .lit (.int .i64 v1)) hk rfl rfl rfl rfl (FW.f_move hk (FW.holds_nil _) rfl) ?_; clear hk; intro a w hk
  obtain ⟨hc1, h⟩ := FW.chk h
  refine FW.lfun (y := .row (r_ApiBody_cells (List.take (Int.toNat v1 - Int.toNat 0) (List.drop (Int.toNat 0) v0)))) hk rfl rfl rfl rfl (FW.f_part (R := r_ApiBody_cells) (f := ApiBody.cells) (l := v0) (sz := 2) r_ApiBody_cells_eq (fun _ => rfl) hk (FW.holds_nil _) rfl Go.Proofs.Tryz.underlying38 (by kernel_rfl) rfl rfl hc1) ?_; clear hk; intro a w hk
  obtain ⟨t1, hr_t1, h⟩ := FW.bnd h
  refine FW.lfun (y := .tup []) hk rfl rfl rfl rfl (FW.f_call hk (FW.holds_nil _) rfl rfl Go.Proofs.Tryz.func144 rfl (by kernel_rfl) (slices_Reverse_api_Body_api_Body.ok K (List.take (Int.toNat v1 - Int.toNat 0) (List.drop (Int.toNat 0) v0)) _ hr_t1)) ?_; clear hk; intro a w hk
  refine FW.lend (hK1 _ _ ?_); clear hK1 K'
  refine FW.wreg ?_; intro K' hK2
  refine FW.lfun (y := .row (r_ApiBody_cells v0)) hk rfl rfl rfl rfl (FW.f_move hk (FW.holds_nil _) rfl) ?_; clear hk; intro a w hk
  refine FW.lfun (y := .lit (.int .i64 v1)) hk rfl rfl rfl rfl (FW.f_move hk (FW.holds_nil _) rfl) ?_; clear hk; intro a w hk
  obtain ⟨hc2, h⟩ := FW.chk h
  refine FW.lfun (y := .row (r_ApiBody_cells (List.take (Int.toNat (List.length v0 : Int) - Int.toNat v1) (List.drop (Int.toNat v1) v0)))) hk rfl rfl rfl rfl (FW.f_part (R := r_ApiBody_cells) (f := ApiBody.cells) (l := v0) (sz := 2) r_ApiBody_cells_eq (fun _ => rfl) hk (FW.holds_nil _) rfl Go.Proofs.Tryz.underlying38 (by kernel_rfl) rfl rfl hc2) ?_; clear hk; intro a w hk
  obtain ⟨t2, hr_t2, h⟩ := FW.bnd h
  refine FW.lfun (y := .tup []) hk rfl rfl rfl rfl (FW.f_call hk (FW.holds_nil _) rfl rfl Go.Proofs.Tryz.func144 rfl (by kernel_rfl) (slices_Reverse_api_Body_api_Body.ok K (List.take (Int.toNat (List.length v0 : Int) - Int.toNat v1) (List.drop (Int.toNat v1) v0)) _ hr_t2)) ?_; clear hk; intro a w hk
  refine FW.lend (hK2 _ _ ?_); clear hK2 K'
  refine FW.wreg1 ?_
  refine FW.lfun (y := .row (r_ApiBody_cells v0)) hk rfl rfl rfl rfl (FW.f_move hk (FW.holds_nil _) rfl) ?_; clear hk; intro a w hk
  obtain ⟨t3, hr_t3, h⟩ := FW.bnd h
  refine FW.lfun (y := .tup []) hk rfl rfl rfl rfl (FW.f_call hk (FW.holds_nil _) rfl rfl Go.Proofs.Tryz.func144 rfl (by kernel_rfl) (slices_Reverse_api_Body_api_Body.ok K v0 _ hr_t3)) ?_; clear hk; intro a w hk
  refine wpList_nil ?_
  (repeat first | refine FW.then_normal ?_ | refine FW.block_normal ?_)
  refine FW.fnorm ?_
  obtain rfl := Option.some.inj h
  exact FW.fret0 hk rfl
theorem slices_rotateRight_api_Body.ok (K : Nat) (v0 : List ApiBody) (v1 : Int) (r : Unit) (h : slices_rotateRight_api_Body.f K v0 v1 = some r) :
    FW.Ok Go.Proofs.Tryz.prog 130 [.row (r_ApiBody_cells v0), .lit (.int .i64 v1)] (.tup []) := by
  refine FW.enter (xs := [.row (r_ApiBody_cells v0), .lit (.int .i64 v1)]) Go.Proofs.Tryz.func130 rfl Go.Proofs.Tryz.ntmps130 rfl ?_
  intro M w0 a hk
  unfold slices_rotateRight_api_Body.f at h
  refine FW.wreg1 ?_
  refine FW.lfun (y := .row (r_ApiBody_cells v0)) hk rfl rfl rfl rfl (FW.f_move hk (FW.holds_nil _) rfl) ?_; clear hk; intro a w hk
  refine FW.lfun (y := .row (r_ApiBody_cells v0)) hk rfl rfl rfl rfl (FW.f_move hk (FW.holds_nil _) rfl) ?_; clear hk; intro a w hk
  refine FW.lfun (y := .lit (.int .i64 (List.length v0 : Int))) hk rfl rfl rfl rfl (FW.f_len (R := r_ApiBody_cells) (f := ApiBody.cells) (l := v0) r_ApiBody_cells_eq Go.Proofs.Tryz.underlying38 hk (FW.holds_nil _) rfl) ?_; clear hk; intro a w hk
  refine FW.lfun (y := .lit (.int .i64 v1)) hk rfl rfl rfl rfl (FW.f_move hk (FW.holds_nil _) rfl) ?_; clear hk; intro a w hk
  refine FW.lfun (y := .lit (.int .i64 (IntKind.wrap .i64 ((List.length v0 : Int) - v1)))) hk rfl rfl rfl rfl ((FW.f_pure (FW.p_sub hk.kn (FW.holds_nil _) rfl rfl))) ?_; clear hk; intro a w hk
  obtain ⟨t1, hr_t1, h⟩ := FW.bnd h
  refine FW.lfun (y := .tup []) hk rfl rfl rfl rfl (FW.f_call hk (FW.holds_nil _) rfl rfl Go.Proofs.Tryz.func141 rfl (by kernel_rfl) (slices_rotateLeft_api_Body.ok K v0 (IntKind.wrap .i64 ((List.length v0 : Int) - v1)) _ hr_t1)) ?_; clear hk; intro a w hk
  refine wpList_nil ?_
  (repeat first | refine FW.then_normal ?_ | refine FW.block_normal ?_)
  refine FW.fnorm ?_
  obtain rfl := Option.some.inj h
  exact FW.fret0 hk rfl
theorem slices_Insert_api_Body_api_Body.ok (K : Nat) (v0 : List ApiBody) (v1 : Int) (v2 : List ApiBody) (r : List ApiBody) (h : slices_Insert_api_Body_api_Body.f K v0 v1 v2 = some r) :
    FW.Ok Go.Proofs.Tryz.prog 104 [.row (r_ApiBody_cells v0), .lit (.int .i64 v1), .row (r_ApiBody_cells v2)] (.row (r_ApiBody_cells r)) := by
  refine FW.enter (xs := [.row (r_ApiBody_cells v0), .lit (.int .i64 v1), .row (r_ApiBody_cells v2)]) Go.Proofs.Tryz.func104 rfl Go.Proofs.Tryz.ntmps104 rfl ?_
  intro M w0 a hk
  unfold slices_Insert_api_Body_api_Body.f at h
  refine FW.wreg ?_; intro K' hK1
  refine FW.lfun (y := .row (r_ApiBody_cells [])) hk rfl rfl rfl rfl (FW.f_assignNil) ?_; clear hk; intro a w hk
  refine FW.lend (hK1 _ _ ?_); clear hK1 K'
  refine FW.wreg ?_; intro K' hK2
  refine FW.lfun (y := .row (r_ApiBody_cells v0)) hk rfl rfl rfl rfl (FW.f_move hk (FW.holds_nil _) rfl) ?_; clear hk; intro a w hk
  refine FW.lfun (y := .lit (.int .i64 v1)) hk rfl rfl rfl rfl (FW.f_move hk (FW.holds_nil _) rfl) ?_; clear hk; intro a w hk
  obtain ⟨hc1, h⟩ := FW.chk h
  refine FW.lfun (y := .row (r_ApiBody_cells (List.take (Int.toNat (List.length v0 : Int) - Int.toNat v1) (List.drop (Int.toNat v1) v0)))) hk rfl rfl rfl rfl (FW.f_part (R := r_ApiBody_cells) (f := ApiBody.cells) (l := v0) (sz := 2) r_ApiBody_cells_eq (fun _ => rfl) hk (FW.holds_nil _) rfl Go.Proofs.Tryz.underlying38 (by kernel_rfl) rfl rfl hc1) ?_; clear hk; intro a w hk
  refine FW.lend (hK2 _ _ ?_); clear hK2 K'
  refine FW.wreg ?_; intro K' hK3
  refine FW.lfun (y := .row (r_ApiBody_cells v2)) hk rfl rfl rfl rfl (FW.f_move hk (FW.holds_nil _) rfl) ?_; clear hk; intro a w hk
  refine FW.lfun (y := .lit (.int .i64 (List.length v2 : Int))) hk rfl rfl rfl rfl (FW.f_len (R := r_ApiBody_cells) (f := ApiBody.cells) (l := v2) r_ApiBody_cells_eq Go.Proofs.Tryz.underlying38 hk (FW.holds_nil _) rfl) ?_; clear hk; intro a w hk
  refine FW.lfun (y := .lit (.int .i64 (List.length v2 : Int))) hk rfl rfl rfl rfl (FW.f_assign hk (FW.holds_nil _) rfl) ?_; clear hk; intro a w hk
  refine FW.lend (hK3 _ _ ?_); clear hK3 K'
  refine FW.wseq ?_; intro K' hK4
  refine FW.wreg ?_; intro K' hK5
  refine FW.lfun (y := .lit (.int .i64 (List.length v2 : Int))) hk rfl rfl rfl rfl (FW.f_move hk (FW.holds_nil _) rfl) ?_; clear hk; intro a w hk
  refine FW.lfun (y := .lit (.bool (decide ((List.length v2 : Int) = 0)))) hk rfl rfl rfl rfl ((FW.f_pure (FW.p_eql hk.kn (FW.holds_nil _) rfl rfl))) ?_; clear hk; intro a w hk
  refine FW.lend (hK5 _ _ ?_); clear hK5 K'
  refine FW.wcondF (b := (decide ((List.length v2 : Int) = 0))) hk h rfl (fun h hb => ?_) (fun h hb => ?_)
  · skip
    refine FW.wreg ?_; intro K' hK6
    refine FW.lfun (y := .row (r_ApiBody_cells v0)) hk rfl rfl rfl rfl (FW.f_move hk (FW.holds_nil _) rfl) ?_; clear hk; intro a w hk
    refine FW.lfun (y := .row (r_ApiBody_cells v0)) hk rfl rfl rfl rfl (FW.f_assign hk (FW.holds_nil _) rfl) ?_; clear hk; intro a w hk
    refine FW.lend (hK6 _ _ ?_); clear hK6 K'
    refine wp_ret ?_
    (repeat first | refine FW.then_ret ?_ | refine FW.block_ret ?_)
    obtain rfl := Option.some.inj h
    exact FW.fret1 hk rfl rfl
  refine wp_skip ?_
  (repeat first | refine FW.then_normal ?_ | refine FW.block_normal ?_); refine hK4 _ _ ?_
  refine FW.wreg ?_; intro K' hK7
  refine FW.lfun (y := .row (r_ApiBody_cells v0)) hk rfl rfl rfl rfl (FW.f_move hk (FW.holds_nil _) rfl) ?_; clear hk; intro a w hk
  refine FW.lfun (y := .lit (.int .i64 (List.length v0 : Int))) hk rfl rfl rfl rfl (FW.f_len (R := r_ApiBody_cells) (f := ApiBody.cells) (l := v0) r_ApiBody_cells_eq Go.Proofs.Tryz.underlying38 hk (FW.holds_nil _) rfl) ?_; clear hk; intro a w hk
  refine FW.lfun (y := .lit (.int .i64 (List.length v0 : Int))) hk rfl rfl rfl rfl (FW.f_assign hk (FW.holds_nil _) rfl) ?_; clear hk; intro a w hk
  refine FW.lend (hK7 _ _ ?_); clear hK7 K'
  refine FW.wseq ?_; intro K' hK8
  refine FW.wreg ?_; intro K' hK9
  refine FW.lfun (y := .lit (.int .i64 v1)) hk rfl rfl rfl rfl (FW.f_move hk (FW.holds_nil _) rfl) ?_; clear hk; intro a w hk
  refine FW.lfun (y := .lit (.int .i64 (List.length v0 : Int))) hk rfl rfl rfl rfl (FW.f_move hk (FW.holds_nil _) rfl) ?_; clear hk; intro a w hk
  refine FW.lfun (y := .lit (.bool (decide (v1 = (List.length v0 : Int))))) hk rfl rfl rfl rfl ((FW.f_pure (FW.p_eql hk.kn (FW.holds_nil _) rfl rfl))) ?_; clear hk; intro a w hk
  refine FW.lend (hK9 _ _ ?_); clear hK9 K'
  refine FW.wcondF (b := (decide (v1 = (List.length v0 : Int)))) hk h rfl (fun h hb => ?_) (fun h hb => ?_)
  · skip
    cases h
  cases h
theorem val_Two.ok  (v0 : Int) (r : List UInt8) (h : val_Two.f v0 = some r) :
    FW.Ok Go.Proofs.Tryz.prog 49 [.lit (.int .i64 v0)] (.lit (.string (FW.B r))) := by
  refine FW.enter (xs := [.lit (.int .i64 v0)]) Go.Proofs.Tryz.func49 rfl Go.Proofs.Tryz.ntmps49 rfl ?_
  intro M w0 a hk
  unfold val_Two.f at h
  refine FW.wreg ?_; intro K' hK1
  refine FW.lfun (y := .lit (.string (FW.B ([] : List UInt8)))) hk rfl rfl rfl rfl (FW.f_assign hk (FW.holds_nil _) rfl) ?_; clear hk; intro a w hk
  refine FW.lend (hK1 _ _ ?_); clear hK1 K'
  refine FW.wreg ?_; intro K' hK2
  refine FW.lfun (y := .lit (.int .i64 v0)) hk rfl rfl rfl rfl (FW.f_move hk (FW.holds_nil _) rfl) ?_; clear hk; intro a w hk
  refine FW.lfun (y := .lit (.int .i64 (FW.shrI .i64 v0 8))) hk rfl rfl rfl rfl ((FW.f_pure (FW.p_shr hk.kn (FW.holds_nil _) rfl rfl (show (0 : Int) ≤ 8 from by decide)))) ?_; clear hk; intro a w hk
  refine FW.lfun (y := .lit (.int .u8 (IntKind.wrap .u8 (FW.shrI .i64 v0 8)))) hk rfl rfl rfl rfl ((FW.f_pure (FW.p_conv Go.Proofs.Tryz.underlying3 Go.Proofs.Tryz.underlying5 hk.kn (FW.holds_nil _) rfl))) ?_; clear hk; intro a w hk
  refine FW.lfun (y := .lit (.int .i64 v0)) hk rfl rfl rfl rfl (FW.f_move hk (FW.holds_nil _) rfl) ?_; clear hk; intro a w hk
  refine FW.lfun (y := .lit (.int .u8 (IntKind.wrap .u8 v0))) hk rfl rfl rfl rfl ((FW.f_pure (FW.p_conv Go.Proofs.Tryz.underlying3 Go.Proofs.Tryz.underlying5 hk.kn (FW.holds_nil _) rfl))) ?_; clear hk; intro a w hk
  refine FW.l_buildSlice (f := c_u8) (l := ([(IntKind.wrap .u8 (FW.shrI .i64 v0 8)), (IntKind.wrap .u8 v0)] : List Int)) hk rfl rfl rfl Go.Proofs.Tryz.underlying43 rfl rfl rfl rfl (fun _ => rfl) rfl ?_; clear hk; intro bx1 a w hk
  refine FW.lfun (y := .lit (.string (FW.B (FW.toB ([(IntKind.wrap .u8 (FW.shrI .i64 v0 8)), (IntKind.wrap .u8 v0)] : List Int))))) hk rfl rfl rfl rfl (FW.f_toBown (f := c_u8) rfl hk (FW.holds_nil _) (j := 0) rfl rfl Go.Proofs.Tryz.underlying43 Go.Proofs.Tryz.underlying5 Go.Proofs.Tryz.underlying9) ?_; clear hk; intro a w hk
  refine FW.lfun (y := .lit (.string (FW.B (FW.toB ([(IntKind.wrap .u8 (FW.shrI .i64 v0 8)), (IntKind.wrap .u8 v0)] : List Int))))) hk rfl rfl rfl rfl (FW.f_assign hk (FW.holds_nil _) rfl) ?_; clear hk; intro a w hk
  refine FW.lend (hK2 _ _ ?_); clear hK2 K'
  refine wp_ret ?_
  (repeat first | refine FW.then_ret ?_ | refine FW.block_ret ?_)
  obtain rfl := Option.some.inj h
  exact FW.fret1 hk rfl rfl
theorem val_Eight.ok (K : Nat) (v0 : Int) (r : List UInt8) (h : val_Eight.f K v0 = some r) :
    FW.Ok Go.Proofs.Tryz.prog 50 [.lit (.int .u64 v0)] (.lit (.string (FW.B r))) := by
  refine FW.enter (xs := [.lit (.int .u64 v0)]) Go.Proofs.Tryz.func50 rfl Go.Proofs.Tryz.ntmps50 rfl ?_
  intro M w0 a hk
  unfold val_Eight.f at h
  refine FW.wreg ?_; intro K' hK1
  refine FW.lfun (y := .lit (.string (FW.B ([] : List UInt8)))) hk rfl rfl rfl rfl (FW.f_assign hk (FW.holds_nil _) rfl) ?_; clear hk; intro a w hk
  refine FW.lend (hK1 _ _ ?_); clear hK1 K'
  refine FW.wreg ?_; intro K' hK2
  refine FW.l_allocArr (f := c_u8) (N := 8) (z0 := (0 : Int)) (fun _ => rfl) hk rfl rfl rfl rfl rfl (by decide) ?_; clear hk; intro bx1 a w hk
  refine FW.lend (hK2 _ _ ?_); clear hK2 K'
  refine FW.wseq ?_; intro K' hK3
  refine FW.wreg ?_; intro K' hK4
  refine FW.lfun (y := .lit (.int .i64 0)) hk rfl rfl rfl rfl (FW.f_move hk (FW.holds_nil _) rfl) ?_; clear hk; intro a w hk
  refine FW.lend (hK4 _ _ ?_); clear hK4 K'
  refine wp_block ?_
  refine FW.wloop (T := Nat × List Int × Int × Int) (fun x a w => match x with | (kl1, l1, v0, v5) => FW.S M w0 a w 19 [FW.orow (some ⟨bx1, 0, none⟩) 8 132 1 c_u8 l1] [(0, [], .lit (.int .u64 v0)), (3, [], .lit (.pointer (some ⟨bx1, 0, none⟩))), (5, [], .lit (.int .i64 v5))] ∧ val_Eight.l1 K kl1 l1 v0 v5 = some r) (fun x => x.1) (K, (List.replicate 8 (0 : Int)), v0, 0) ⟨hk.sub ⟨rfl, rfl, rfl, trivial⟩, h⟩ ?_
  clear hk h
  rintro ⟨kl1, l1, v0, v5⟩ a w ⟨hk, h⟩ K' hK5
  cases kl1 with
  | zero => simp [val_Eight.l1] at h
  | succ kl1 =>
  rw [val_Eight.l1.eq_2] at h
  refine FW.wreg ?_; intro K' hK6
  refine FW.lfun (y := .lit (.bool (decide (v5 < 8)))) hk rfl rfl rfl rfl ((FW.f_pure (FW.p_lss hk.kn (FW.holds_nil _) rfl rfl))) ?_; clear hk; intro a w hk
  refine FW.lend (hK6 _ _ ?_); clear hK6 K'
  refine FW.wseq ?_; intro K' hK7
  refine FW.wcondF (b := (decide (v5 < 8))) hk h rfl (fun h hb => ?_) (fun h hb => ?_)
  · skip
    refine wp_skip ?_
    (repeat first | refine FW.then_normal ?_ | refine FW.block_normal ?_); refine hK7 _ _ ?_
    refine FW.wseq ?_; intro K' hK8
    refine wp_block ?_
    refine FW.wreg ?_; intro K' hK9
    refine FW.lfun (y := .lit (.int .i64 v5)) hk rfl rfl rfl rfl (FW.f_move hk (FW.holds_nil _) rfl) ?_; clear hk; intro a w hk
    refine FW.lfun (y := .lit (.int .i64 v5)) hk rfl rfl rfl rfl (FW.f_assign hk (FW.holds_nil _) rfl) ?_; clear hk; intro a w hk
    refine FW.lend (hK9 _ _ ?_); clear hK9 K'
    refine FW.wreg1 ?_
    refine FW.lfun (y := .lit (.int .i64 v5)) hk rfl rfl rfl rfl (FW.f_move hk (FW.holds_nil _) rfl) ?_; clear hk; intro a w hk
    refine FW.lfun (y := .lit (.int .u64 v0)) hk rfl rfl rfl rfl (FW.f_move hk (FW.holds_nil _) rfl) ?_; clear hk; intro a w hk
    refine FW.lfun (y := .lit (.int .i64 v5)) hk rfl rfl rfl rfl (FW.f_move hk (FW.holds_nil _) rfl) ?_; clear hk; intro a w hk
    refine FW.lfun (y := .lit (.int .i64 (IntKind.wrap .i64 (8 * v5)))) hk rfl rfl rfl rfl ((FW.f_pure (FW.p_mul hk.kn (FW.holds_nil _) rfl rfl))) ?_; clear hk; intro a w hk
    refine FW.lfun (y := .lit (.int .i64 (IntKind.wrap .i64 (56 - (IntKind.wrap .i64 (8 * v5)))))) hk rfl rfl rfl rfl ((FW.f_pure (FW.p_sub hk.kn (FW.holds_nil _) rfl rfl))) ?_; clear hk; intro a w hk
    obtain ⟨hc1, h⟩ := FW.chk h
    refine FW.lfun (y := .lit (.int .u64 (FW.shrI .u64 v0 (IntKind.wrap .i64 (56 - (IntKind.wrap .i64 (8 * v5))))))) hk rfl rfl rfl rfl ((FW.f_pure (FW.p_shr hk.kn (FW.holds_nil _) rfl rfl hc1))) ?_; clear hk; intro a w hk
    refine FW.lfun (y := .lit (.int .u8 (IntKind.wrap .u8 (FW.shrI .u64 v0 (IntKind.wrap .i64 (56 - (IntKind.wrap .i64 (8 * v5)))))))) hk rfl rfl rfl rfl ((FW.f_pure (FW.p_conv Go.Proofs.Tryz.underlying27 Go.Proofs.Tryz.underlying5 hk.kn (FW.holds_nil _) rfl))) ?_; clear hk; intro a w hk
    obtain ⟨hc2, h⟩ := FW.chk h
    refine FW.lfun (y := FW.elA (some ⟨bx1, 0, none⟩) 1 v5) hk rfl rfl rfl rfl (FW.f_idxArr (f := c_u8) (l := l1) hk (FW.holds_nil _) (j := 0) rfl rfl rfl Go.Proofs.Tryz.underlying132 (by kernel_rfl) hc2) ?_; clear hk; intro a w hk
    refine FW.l_storeOwn1 (f := c_u8) (l := l1) (v := (IntKind.wrap .u8 (FW.shrI .u64 v0 (IntKind.wrap .i64 (56 - (IntKind.wrap .i64 (8 * v5))))))) (I' := [FW.orow (some ⟨bx1, 0, none⟩) 8 132 1 c_u8 (List.set l1 (Int.toNat v5) (IntKind.wrap .u8 (FW.shrI .u64 v0 (IntKind.wrap .i64 (56 - (IntKind.wrap .i64 (8 * v5)))))))]) (j := 0) hk rfl rfl hc2 rfl rfl rfl rfl (by kernel_rfl) rfl ?_; clear hk; intro w hk
    refine wpList_nil ?_
    (repeat first | refine FW.then_normal ?_ | refine FW.block_normal ?_); refine hK8 _ _ ?_
    refine FW.wreg1 ?_
    refine FW.lfun (y := .lit (.int .i64 (IntKind.wrap .i64 (v5 + 1)))) hk rfl rfl rfl rfl ((FW.f_pure (FW.p_add hk.kn (FW.holds_nil _) rfl rfl))) ?_; clear hk; intro a w hk
    refine FW.lfun (y := .lit (.int .i64 (IntKind.wrap .i64 (v5 + 1)))) hk rfl rfl rfl rfl (FW.f_move hk (FW.holds_nil _) rfl) ?_; clear hk; intro a w hk
    refine wpList_nil ?_
    (repeat first | refine FW.then_normal ?_ | refine FW.block_normal ?_); exact hK5 (kl1, (List.set l1 (Int.toNat v5) (IntKind.wrap .u8 (FW.shrI .u64 v0 (IntKind.wrap .i64 (56 - (IntKind.wrap .i64 (8 * v5))))))), v0, (IntKind.wrap .i64 (v5 + 1))) _ _ (Nat.lt_succ_self _) ⟨hk.sub ⟨rfl, rfl, rfl, trivial⟩, h⟩
  refine wp_exit ?_; (repeat first | refine FW.then_exit ?_ | refine FW.block_exit_ne rfl ?_); refine FW.block_exit ?_
  (repeat first | refine FW.then_normal ?_ | refine FW.block_normal ?_); refine hK3 _ _ ?_
  refine FW.wreg ?_; intro K' hK12
  obtain ⟨hc3, h⟩ := FW.chk h
  refine FW.lfun (y := .lit (.slice (some ⟨bx1, 0, none⟩) (List.length l1) 8)) hk rfl rfl rfl rfl (FW.f_sliceArr (l := l1) hk (FW.holds_nil _) rfl Go.Proofs.Tryz.underlying132 (by kernel_rfl) hc3) ?_; clear hk; intro a w hk
  refine FW.lfun (y := .lit (.string (FW.B (FW.toB l1)))) hk rfl rfl rfl rfl (FW.f_toBarr (f := c_u8) rfl hk (FW.holds_nil _) (j := 0) rfl rfl Go.Proofs.Tryz.underlying43 Go.Proofs.Tryz.underlying5 Go.Proofs.Tryz.underlying9) ?_; clear hk; intro a w hk
  refine FW.lfun (y := .lit (.string (FW.B (FW.toB l1)))) hk rfl rfl rfl rfl (FW.f_assign hk (FW.holds_nil _) rfl) ?_; clear hk; intro a w hk
  refine FW.lend (hK12 _ _ ?_); clear hK12 K'
  refine wp_ret ?_
  (repeat first | refine FW.then_ret ?_ | refine FW.block_ret ?_)
  obtain rfl := Option.some.inj h
  exact FW.fret1 hk rfl rfl
end Go.Proofs.YtfbkgaandmebaaaGreat
namespace Go.Proofs.YtfbkgaandmebaaaGreat
set_option linter.unusedVariables false
set_option maxRecDepth 20000
set_option maxHeartbeats 10000000
theorem rec_Store_unpack.ok (K : Nat) (v0 : ORecStore) (v0_0 : ODevDev) (v1 : List UInt8) (r : Int) (h : rec_Store_unpack.f K v0 v0_0 v1 = some r) :
    ∀ (b0 : Nat) (b0_0 : Nat) (xb0_1 : Nat) (xr0_2 : Nat) (xd0_0_0 : Option Addr) (xc0_0_0 : Nat) (xr0_0_1 : Nat) (xd0_0_3 : Option Addr) (xc0_0_3 : Nat), FW.OkH Go.Proofs.Tryz.prog 39 [.lit (.pointer (some ⟨b0, 0, none⟩)), .lit (.string (FW.B v1))] ((ORecStore.items b0 b0_0 xb0_1 xr0_2 v0) ++ (ODevDev.items b0_0 xd0_0_0 xc0_0_0 xr0_0_1 xd0_0_3 xc0_0_3 v0_0)) (fun y I => y = .lit (.int .i64 r) ∧ I = (ORecStore.items b0 b0_0 xb0_1 xr0_2 v0) ++ (ODevDev.items b0_0 xd0_0_0 xc0_0_0 xr0_0_1 xd0_0_3 xc0_0_3 v0_0)) := by
  intro b0 b0_0 xb0_1 xr0_2 xd0_0_0 xc0_0_0 xr0_0_1 xd0_0_3 xc0_0_3
  refine FW.enterH (xs := [.lit (.pointer (some ⟨b0, 0, none⟩)), .lit (.string (FW.B v1))]) Go.Proofs.Tryz.func39 rfl Go.Proofs.Tryz.ntmps39 rfl ?_
  intro M w0 a hk
  replace hk : FW.S M w0 a w0.toWorld 40 [FW.blk b0 69 ([.lit (.pointer (some ⟨b0_0, 0, none⟩)), .lit (.pointer (some ⟨xb0_1, 0, none⟩)), .lit (.map (some xr0_2)), .lit (.int .i64 v0.half), .lit (.int .u64 v0.round), .lit (.bool v0.dead)]), FW.mapI (.int .u64) (Value.int .u64) FW.evS xr0_2 v0.m, FW.blk xb0_1 99 ([.lit (.pointer (some ⟨b0_0, 0, none⟩)), .lit (.int .i64 v0.l.from_), .lit (.int .i64 v0.l.to_), .lit (.int .i64 v0.l.at_), .lit (.int .u64 v0.l.next)]), FW.blk b0_0 75 ([.lit (.slice xd0_0_0 (List.length v0_0.sure) xc0_0_0), .lit (.map (some xr0_0_1)), .lit (.int .i64 v0_0.steps), .lit (.slice xd0_0_3 (List.length v0_0.falls) xc0_0_3), .lit (.bool v0_0.off)]), FW.orow xd0_0_0 xc0_0_0 9 1 c_str v0_0.sure, FW.mapI (.int .i64) (Value.int .i64) FW.evS xr0_0_1 v0_0.cache, FW.orow xd0_0_3 xc0_0_3 52 3 ApiFall.cells v0_0.falls] [(0, [], .lit (.pointer (some ⟨b0, 0, none⟩))), (1, [], .lit (.string (FW.B v1)))] := hk
  unfold rec_Store_unpack.f at h
  refine FW.wreg ?_; intro K' hK1
  refine FW.lfun (y := .lit (.int .i64 0)) hk rfl rfl rfl rfl (FW.f_assign hk (FW.holds_nil _) rfl) ?_; clear hk; intro a w hk
  refine FW.lend (hK1 _ _ ?_); clear hK1 K'
  refine FW.wseq ?_; intro K' hK2
  refine wp_block ?_
  refine FW.wloop (T := Nat × List UInt8) (fun x a w => match x with | (kl1, v1) => FW.S M w0 a w 40 [FW.blk b0 69 ([.lit (.pointer (some ⟨b0_0, 0, none⟩)), .lit (.pointer (some ⟨xb0_1, 0, none⟩)), .lit (.map (some xr0_2)), .lit (.int .i64 v0.half), .lit (.int .u64 v0.round), .lit (.bool v0.dead)]), FW.mapI (.int .u64) (Value.int .u64) FW.evS xr0_2 v0.m, FW.blk xb0_1 99 ([.lit (.pointer (some ⟨b0_0, 0, none⟩)), .lit (.int .i64 v0.l.from_), .lit (.int .i64 v0.l.to_), .lit (.int .i64 v0.l.at_), .lit (.int .u64 v0.l.next)]), FW.blk b0_0 75 ([.lit (.slice xd0_0_0 (List.length v0_0.sure) xc0_0_0), .lit (.map (some xr0_0_1)), .lit (.int .i64 v0_0.steps), .lit (.slice xd0_0_3 (List.length v0_0.falls) xc0_0_3), .lit (.bool v0_0.off)]), FW.orow xd0_0_0 xc0_0_0 9 1 c_str v0_0.sure, FW.mapI (.int .i64) (Value.int .i64) FW.evS xr0_0_1 v0_0.cache, FW.orow xd0_0_3 xc0_0_3 52 3 ApiFall.cells v0_0.falls] [(0, [], .lit (.pointer (some ⟨b0, 0, none⟩))), (1, [], .lit (.string (FW.B v1)))] ∧ rec_Store_unpack.l1 K v0 v0_0 kl1 v1 = some r) (fun x => x.1) (K, v1) ⟨hk.sub ⟨rfl, rfl, trivial⟩, h⟩ ?_
  clear hk h
  rintro ⟨kl1, v1⟩ a w ⟨hk, h⟩ K' hK3
  cases kl1 with
  | zero => simp [rec_Store_unpack.l1] at h
  | succ kl1 =>
  rw [rec_Store_unpack.l1.eq_2] at h
  refine FW.wseq ?_; intro K' hK4
  refine FW.wreg ?_; intro K' hK5
  refine FW.lfun (y := .lit (.string (FW.B v1))) hk rfl rfl rfl rfl (FW.f_move hk (FW.holds_nil _) rfl) ?_; clear hk; intro a w hk
  refine FW.lfun (y := .lit (.bool (!decide (v1 = ([] : List UInt8))))) hk rfl rfl rfl rfl ((FW.f_pure (FW.p_sneq hk.kn (FW.holds_nil _) rfl rfl))) ?_; clear hk; intro a w hk
  refine FW.lend (hK5 _ _ ?_); clear hK5 K'
  refine FW.wcondF (b := (!decide (v1 = ([] : List UInt8)))) hk h rfl (fun h hb => ?_) (fun h hb => ?_)
  · skip
    cases h
  refine wp_exit ?_; (repeat first | refine FW.then_exit ?_ | refine FW.block_exit_ne rfl ?_); refine FW.block_exit ?_
  (repeat first | refine FW.then_normal ?_ | refine FW.block_normal ?_); refine hK2 _ _ ?_
  refine FW.wreg ?_; intro K' hK6
  refine FW.lfun (y := .lit (.int .i64 0)) hk rfl rfl rfl rfl (FW.f_assign hk (FW.holds_nil _) rfl) ?_; clear hk; intro a w hk
  refine FW.lend (hK6 _ _ ?_); clear hK6 K'
  refine wp_ret ?_
  (repeat first | refine FW.then_ret ?_ | refine FW.block_ret ?_)
  obtain rfl := Option.some.inj h
  replace hk := FW.S.keep (I1 := [FW.blk b0 69 ([.lit (.pointer (some ⟨b0_0, 0, none⟩)), .lit (.pointer (some ⟨xb0_1, 0, none⟩)), .lit (.map (some xr0_2)), .lit (.int .i64 v0.half), .lit (.int .u64 v0.round), .lit (.bool v0.dead)]), FW.mapI (.int .u64) (Value.int .u64) FW.evS xr0_2 v0.m, FW.blk xb0_1 99 ([.lit (.pointer (some ⟨b0_0, 0, none⟩)), .lit (.int .i64 v0.l.from_), .lit (.int .i64 v0.l.to_), .lit (.int .i64 v0.l.at_), .lit (.int .u64 v0.l.next)]), FW.blk b0_0 75 ([.lit (.slice xd0_0_0 (List.length v0_0.sure) xc0_0_0), .lit (.map (some xr0_0_1)), .lit (.int .i64 v0_0.steps), .lit (.slice xd0_0_3 (List.length v0_0.falls) xc0_0_3), .lit (.bool v0_0.off)]), FW.orow xd0_0_0 xc0_0_0 9 1 c_str v0_0.sure, FW.mapI (.int .i64) (Value.int .i64) FW.evS xr0_0_1 v0_0.cache, FW.orow xd0_0_3 xc0_0_3 52 3 ApiFall.cells v0_0.falls]) (I2 := []) (js := [6, 6, 6, 6, 6, 6, 6]) hk rfl
  exact FW.fretH1 hk rfl (FW.rtmp hk rfl) ⟨rfl, rfl⟩
theorem log_Open.ok (K : Nat) (v0 : ODevDev) (v1 : Int) (v2 : Int) (v3 : Int) (r : OLogLog × List (List UInt8) × Int × ODevDev) (h : log_Open.f K v0 v1 v2 v3 = some r) :
    ∀ (b0 : Nat) (xd0_0 : Option Addr) (xc0_0 : Nat) (xr0_1 : Nat) (xd0_3 : Option Addr) (xc0_3 : Nat), FW.OkH Go.Proofs.Tryz.prog 41 [.lit (.pointer (some ⟨b0, 0, none⟩)), .lit (.int .i64 v1), .lit (.int .i64 v2), .lit (.int .u64 v3)] (ODevDev.items b0 xd0_0 xc0_0 xr0_1 xd0_3 xc0_3 v0) (fun y I => ∃ (bn0 : Nat) (zxd0_0 : Option Addr) (zxc0_0 : Nat) (zxr0_1 : Nat) (zxd0_3 : Option Addr) (zxc0_3 : Nat), y = .tup [.lit (.pointer (some ⟨bn0, 0, none⟩)), .row (r_c_str r.2.1), .lit (.int .i64 r.2.2.1)] ∧ I = (OLogLog.items bn0 b0 r.1) ++ (ODevDev.items b0 zxd0_0 zxc0_0 zxr0_1 zxd0_3 zxc0_3 r.2.2.2)) := by
  intro b0 xd0_0 xc0_0 xr0_1 xd0_3 xc0_3
  refine FW.enterH (xs := [.lit (.pointer (some ⟨b0, 0, none⟩)), .lit (.int .i64 v1), .lit (.int .i64 v2), .lit (.int .u64 v3)]) Go.Proofs.Tryz.func41 rfl Go.Proofs.Tryz.ntmps41 rfl ?_
  intro M w0 a hk
  replace hk : FW.S M w0 a w0.toWorld 75 [FW.blk b0 75 ([.lit (.slice xd0_0 (List.length v0.sure) xc0_0), .lit (.map (some xr0_1)), .lit (.int .i64 v0.steps), .lit (.slice xd0_3 (List.length v0.falls) xc0_3), .lit (.bool v0.off)]), FW.orow xd0_0 xc0_0 9 1 c_str v0.sure, FW.mapI (.int .i64) (Value.int .i64) FW.evS xr0_1 v0.cache, FW.orow xd0_3 xc0_3 52 3 ApiFall.cells v0.falls] [(0, [], .lit (.pointer (some ⟨b0, 0, none⟩))), (1, [], .lit (.int .i64 v1)), (2, [], .lit (.int .i64 v2)), (3, [], .lit (.int .u64 v3))] := hk
  unfold log_Open.f at h
  refine FW.wreg ?_; intro K' hK1
  refine FW.lfun (y := .lit (.pointer none)) hk rfl rfl rfl rfl (FW.f_assign hk (FW.holds_nil _) rfl) ?_; clear hk; intro a w hk
  refine FW.lfun (y := .row (r_c_str [])) hk rfl rfl rfl rfl (FW.f_assignNil) ?_; clear hk; intro a w hk
  refine FW.lfun (y := .lit (.int .i64 0)) hk rfl rfl rfl rfl (FW.f_assign hk (FW.holds_nil _) rfl) ?_; clear hk; intro a w hk
  refine FW.lend (hK1 _ _ ?_); clear hK1 K'
  refine FW.wseq ?_; intro K' hK2
  refine FW.wreg ?_; intro K' hK3
  refine FW.lfun (y := .lit (.pointer (some ⟨b0, 0, none⟩))) hk rfl rfl rfl rfl (FW.f_move hk (FW.holds_nil _) rfl) ?_; clear hk; intro a w hk
  refine FW.lfun (y := .lit (.bool false)) hk rfl rfl rfl rfl ((FW.f_pure (FW.p_ptrEq Go.Proofs.Tryz.underlying24 hk.kn (FW.holds_nil _) rfl rfl rfl))) ?_; clear hk; intro a w hk
  refine FW.lfun (y := .lit (.bool false)) hk rfl rfl rfl rfl (FW.f_move hk (FW.holds_nil _) rfl) ?_; clear hk; intro a w hk
  refine FW.lfunG (y := .lit (.int .i64 v1)) hk rfl rfl rfl rfl rfl rfl rfl rfl (fun hc => FW.f_move hk hc rfl) ?_; clear hk; intro a w hk
  refine FW.lfunG (y := .lit (.bool (decide (v1 < 0)))) hk rfl rfl rfl rfl rfl rfl rfl rfl (fun hc => (FW.f_pure (FW.p_lss hk.kn hc rfl rfl))) ?_; clear hk; intro a w hk
  refine FW.lfun (y := .lit (.bool (decide (v1 < 0)))) hk rfl rfl rfl rfl ((FW.f_pure (FW.p_pickX hk.kn (FW.holds_nil _) rfl rfl))) ?_; clear hk; intro a w hk
  refine FW.lfun (y := .lit (.bool (decide (v1 < 0)))) hk rfl rfl rfl rfl (FW.f_move hk (FW.holds_nil _) rfl) ?_; clear hk; intro a w hk
  refine FW.lfunG (y := .lit (.int .i64 v2)) hk rfl rfl rfl rfl rfl rfl rfl rfl (fun hc => FW.f_move hk hc rfl) ?_; clear hk; intro a w hk
  refine FW.lfunG (y := .lit (.int .i64 v1)) hk rfl rfl rfl rfl rfl rfl rfl rfl (fun hc => FW.f_move hk hc rfl) ?_; clear hk; intro a w hk
  refine FW.lfunG (y := .lit (.bool (decide (v2 < v1)))) hk rfl rfl rfl rfl rfl rfl rfl rfl (fun hc => (FW.f_pure (FW.p_lss hk.kn hc rfl rfl))) ?_; clear hk; intro a w hk
  refine FW.lfun (y := .lit (.bool ((decide (v1 < 0)) || (decide (v2 < v1))))) hk rfl rfl rfl rfl ((FW.f_pure (FW.p_pick_or hk.kn (FW.holds_nil _) rfl rfl))) ?_; clear hk; intro a w hk
  refine FW.lfun (y := .lit (.bool ((decide (v1 < 0)) || (decide (v2 < v1))))) hk rfl rfl rfl rfl (FW.f_move hk (FW.holds_nil _) rfl) ?_; clear hk; intro a w hk
  refine FW.lfunG (y := .lit (.int .i64 v2)) hk rfl rfl rfl rfl rfl rfl rfl rfl (fun hc => FW.f_move hk hc rfl) ?_; clear hk; intro a w hk
  refine FW.lfunG (y := .lit (.pointer (some ⟨b0, 0, none⟩))) hk rfl rfl rfl rfl rfl rfl rfl rfl (fun hc => FW.f_move hk hc rfl) ?_; clear hk; intro a w hk
  obtain ⟨t1, hr_t1, hn_t1, h⟩ := FW.bndG2 h
  refine FW.l_callHG (I1 := (ODevDev.items b0 xd0_0 xc0_0 xr0_1 xd0_3 xc0_3 v0)) (I2 := []) (js := [3, 3, 3, 3]) hk rfl rfl rfl rfl rfl rfl rfl rfl rfl Go.Proofs.Tryz.func36 rfl (by kernel_rfl) (fun hc => dev_Dev_Len.ok v0 _ (hr_t1 (FW.asm_out (p := ((decide (v1 < 0)) || (decide (v2 < v1))) = false) hk.kn hc (fun e0 => e0))) b0 xd0_0 xc0_0 xr0_1 xd0_3 xc0_3) (fun hn => by obtain rfl := hn_t1 (fun hp => hn (FW.asm_in hk.kn (by have e0 := hp; exact ⟨e0, rfl, trivial⟩))); exact ⟨_, rfl, rfl⟩) ?_; clear hk
  rintro _ _ ⟨rfl, rfl⟩ a w hk
  refine FW.lfunG (y := .lit (.bool (decide (t1 < v2)))) hk rfl rfl rfl rfl rfl rfl rfl rfl (fun hc => (FW.f_pure (FW.p_gtr hk.kn hc rfl rfl))) ?_; clear hk; intro a w hk
  refine FW.lfun (y := .lit (.bool (((decide (v1 < 0)) || (decide (v2 < v1))) || (decide (t1 < v2))))) hk rfl rfl rfl rfl ((FW.f_pure (FW.p_pick_or hk.kn (FW.holds_nil _) rfl rfl))) ?_; clear hk; intro a w hk
  refine FW.lfun (y := .lit (.bool (((decide (v1 < 0)) || (decide (v2 < v1))) || (decide (t1 < v2))))) hk rfl rfl rfl rfl (FW.f_move hk (FW.holds_nil _) rfl) ?_; clear hk; intro a w hk
  refine FW.lfunG (y := .lit (.int .u64 v3)) hk rfl rfl rfl rfl rfl rfl rfl rfl (fun hc => FW.f_move hk hc rfl) ?_; clear hk; intro a w hk
  refine FW.lfunG (y := .lit (.bool (decide (v3 = 0)))) hk rfl rfl rfl rfl rfl rfl rfl rfl (fun hc => (FW.f_pure (FW.p_eql hk.kn hc rfl rfl))) ?_; clear hk; intro a w hk
  refine FW.lfun (y := .lit (.bool ((((decide (v1 < 0)) || (decide (v2 < v1))) || (decide (t1 < v2))) || (decide (v3 = 0))))) hk rfl rfl rfl rfl ((FW.f_pure (FW.p_pick_or hk.kn (FW.holds_nil _) rfl rfl))) ?_; clear hk; intro a w hk
  refine FW.lend (hK3 _ _ ?_); clear hK3 K'
  refine FW.wcondF (b := ((((decide (v1 < 0)) || (decide (v2 < v1))) || (decide (t1 < v2))) || (decide (v3 = 0)))) hk h rfl (fun h hb => ?_) (fun h hb => ?_)
  · skip
    cases h
  refine wp_skip ?_
  (repeat first | refine FW.then_normal ?_ | refine FW.block_normal ?_); refine hK2 _ _ ?_
  refine FW.wseq ?_; intro K' hK4
  refine FW.wreg ?_; intro K' hK5
  refine FW.lfun (y := .lit (.pointer (some ⟨b0, 0, none⟩))) hk rfl rfl rfl rfl (FW.f_move hk (FW.holds_nil _) rfl) ?_; clear hk; intro a w hk
  obtain ⟨t2, hr_t2, h⟩ := FW.bnd h
  refine FW.l_callH (I1 := (ODevDev.items b0 xd0_0 xc0_0 xr0_1 xd0_3 xc0_3 v0)) (I2 := []) (js := [3, 3, 3, 3]) hk rfl rfl rfl rfl rfl Go.Proofs.Tryz.func13 rfl (by kernel_rfl) (dev_Dev_Off.ok v0 _ hr_t2 b0 xd0_0 xc0_0 xr0_1 xd0_3 xc0_3) ?_; clear hk
  rintro _ _ ⟨rfl, rfl⟩ a w hk
  refine FW.lend (hK5 _ _ ?_); clear hK5 K'
  refine FW.wcondF (b := t2) hk h rfl (fun h hb => ?_) (fun h hb => ?_)
  · skip
    cases h
  refine wp_skip ?_
  (repeat first | refine FW.then_normal ?_ | refine FW.block_normal ?_); refine hK4 _ _ ?_
  refine FW.wreg ?_; intro K' hK6
  refine FW.lfun (y := .lit (.pointer (some ⟨b0, 0, none⟩))) hk rfl rfl rfl rfl (FW.f_move hk (FW.holds_nil _) rfl) ?_; clear hk; intro a w hk
  refine FW.lfun (y := .lit (.int .i64 v1)) hk rfl rfl rfl rfl (FW.f_move hk (FW.holds_nil _) rfl) ?_; clear hk; intro a w hk
  refine FW.lfun (y := .lit (.int .i64 v2)) hk rfl rfl rfl rfl (FW.f_move hk (FW.holds_nil _) rfl) ?_; clear hk; intro a w hk
  refine FW.lfun (y := .lit (.int .i64 v1)) hk rfl rfl rfl rfl (FW.f_move hk (FW.holds_nil _) rfl) ?_; clear hk; intro a w hk
  refine FW.lfun (y := .lit (.int .u64 v3)) hk rfl rfl rfl rfl (FW.f_move hk (FW.holds_nil _) rfl) ?_; clear hk; intro a w hk
  refine FW.lfun (y := .agg ([.lit (.pointer (some ⟨b0, 0, none⟩)), .lit (.int .i64 v1), .lit (.int .i64 v2), .lit (.int .i64 v1), .lit (.int .u64 v3)])) hk rfl rfl rfl rfl (FW.f_build hk (FW.holds_nil _) rfl rfl) ?_; clear hk; intro a w hk
  refine FW.l_box (cs := [.lit (.pointer (some ⟨b0, 0, none⟩)), .lit (.int .i64 v1), .lit (.int .i64 v2), .lit (.int .i64 v1), .lit (.int .u64 v3)]) hk rfl rfl rfl rfl rfl ?_; clear hk; intro bx1 a w hk
  refine FW.lfun (y := .lit (.pointer (some ⟨bx1, 0, none⟩))) hk rfl rfl rfl rfl (FW.f_assign hk (FW.holds_nil _) rfl) ?_; clear hk; intro a w hk
  refine FW.lend (hK6 _ _ ?_); clear hK6 K'
  refine FW.wreg ?_; intro K' hK7
  refine FW.lfun (y := .lit (.slice none 0 0)) hk rfl rfl rfl rfl (FW.f_assign hk (FW.holds_nil _) rfl) ?_; clear hk; intro a w hk
  replace hk := hk.nilRow 9 1 c_str (fun _ => rfl)
  refine FW.lend (hK7 _ _ ?_); clear hK7 K'
  refine wp_block ?_
  refine FW.wloop (T := Nat × List (List UInt8) × Int × Int × Int × Int × Option Addr × Nat) (fun x a w => match x with | (kl1, l6, y5_1, y5_2, y5_3, y5_4, xd6, xc6) => FW.S M w0 a w 75 [FW.orow xd6 xc6 9 1 c_str l6, FW.blk bx1 99 ([.lit (.pointer (some ⟨b0, 0, none⟩)), .lit (.int .i64 y5_1), .lit (.int .i64 y5_2), .lit (.int .i64 y5_3), .lit (.int .u64 y5_4)]), FW.blk b0 75 ([.lit (.slice xd0_0 (List.length v0.sure) xc0_0), .lit (.map (some xr0_1)), .lit (.int .i64 v0.steps), .lit (.slice xd0_3 (List.length v0.falls) xc0_3), .lit (.bool v0.off)]), FW.orow xd0_0 xc0_0 9 1 c_str v0.sure, FW.mapI (.int .i64) (Value.int .i64) FW.evS xr0_1 v0.cache, FW.orow xd0_3 xc0_3 52 3 ApiFall.cells v0.falls] [(11, [], .lit (.pointer (some ⟨bx1, 0, none⟩))), (12, [], .lit (.slice xd6 (List.length l6) xc6))] ∧ log_Open.l1 K v0 kl1 l6 y5_1 y5_2 y5_3 y5_4 = some r) (fun x => x.1) (K, ([] : List (List UInt8)), v1, v2, v1, v3, none, 0) ⟨hk.sub ⟨rfl, rfl, trivial⟩, h⟩ ?_
  clear hk h
  rintro ⟨kl1, l6, y5_1, y5_2, y5_3, y5_4, xd6, xc6⟩ a w ⟨hk, h⟩ K' hK8
  cases kl1 with
  | zero => simp [log_Open.l1] at h
  | succ kl1 =>
  rw [log_Open.l1.eq_2] at h
  refine wp_block ?_
  refine FW.wreg ?_; intro K' hK9
  refine FW.lfun (y := .lit (.pointer (some ⟨bx1, 0, none⟩))) hk rfl rfl rfl rfl (FW.f_move hk (FW.holds_nil _) rfl) ?_; clear hk; intro a w hk
  obtain ⟨t3, hr_t3, h⟩ := FW.bnd h
  refine FW.l_callH (I1 := (OLogLog.items bx1 b0 (⟨y5_1, y5_2, y5_3, y5_4⟩ : OLogLog)) ++ (ODevDev.items b0 xd0_0 xc0_0 xr0_1 xd0_3 xc0_3 v0)) (I2 := [FW.orow xd6 xc6 9 1 c_str l6]) (js := [5, 5, 5, 5, 5]) hk rfl rfl rfl rfl rfl Go.Proofs.Tryz.func65 rfl (by kernel_rfl) (log_Log_read.ok K (⟨y5_1, y5_2, y5_3, y5_4⟩ : OLogLog) v0 _ hr_t3 bx1 b0 xd0_0 xc0_0 xr0_1 xd0_3 xc0_3) ?_; clear hk
  rintro _ _ ⟨rfl, rfl⟩ a w hk
  refine FW.lfun (y := .tup [.lit (.string (FW.B t3.1)), .lit (.bool t3.2)]) hk rfl rfl rfl rfl (FW.f_move hk (FW.holds_nil _) rfl) ?_; clear hk; intro a w hk
  refine FW.lfun (y := .lit (.string (FW.B t3.1))) hk rfl rfl rfl rfl (FW.f_extract hk (FW.holds_nil _) rfl rfl) ?_; clear hk; intro a w hk
  refine FW.lfun (y := .lit (.bool t3.2)) hk rfl rfl rfl rfl (FW.f_extract hk (FW.holds_nil _) rfl rfl) ?_; clear hk; intro a w hk
  refine FW.lfun (y := .lit (.string (FW.B t3.1))) hk rfl rfl rfl rfl (FW.f_assign hk (FW.holds_nil _) rfl) ?_; clear hk; intro a w hk
  refine FW.lfun (y := .lit (.bool t3.2)) hk rfl rfl rfl rfl (FW.f_assign hk (FW.holds_nil _) rfl) ?_; clear hk; intro a w hk
  refine FW.lend (hK9 _ _ ?_); clear hK9 K'
  refine FW.wseq ?_; intro K' hK10
  refine FW.wreg ?_; intro K' hK11
  refine FW.lfun (y := .lit (.bool t3.2)) hk rfl rfl rfl rfl (FW.f_move hk (FW.holds_nil _) rfl) ?_; clear hk; intro a w hk
  refine FW.lfun (y := .lit (.bool (!t3.2))) hk rfl rfl rfl rfl ((FW.f_pure (FW.p_not hk.kn (FW.holds_nil _) rfl))) ?_; clear hk; intro a w hk
  refine FW.lend (hK11 _ _ ?_); clear hK11 K'
  refine FW.wcondF (b := (!t3.2)) hk h rfl (fun h hb => ?_) (fun h hb => ?_)
  · skip
    refine FW.wreg ?_; intro K' hK12
    refine FW.lfun (y := .lit (.pointer (some ⟨bx1, 0, none⟩))) hk rfl rfl rfl rfl (FW.f_move hk (FW.holds_nil _) rfl) ?_; clear hk; intro a w hk
    refine FW.lfun (y := .lit (.slice xd6 (List.length l6) xc6)) hk rfl rfl rfl rfl (FW.f_move hk (FW.holds_nil _) rfl) ?_; clear hk; intro a w hk
    refine FW.lfun (y := .lit (.pointer (some ⟨bx1, 0, none⟩))) hk rfl rfl rfl rfl (FW.f_assign hk (FW.holds_nil _) rfl) ?_; clear hk; intro a w hk
    refine FW.lfun (y := .lit (.slice xd6 (List.length l6) xc6)) hk rfl rfl rfl rfl (FW.f_assign hk (FW.holds_nil _) rfl) ?_; clear hk; intro a w hk
    refine FW.lfun (y := .lit (.int .i64 0)) hk rfl rfl rfl rfl (FW.f_assign hk (FW.holds_nil _) rfl) ?_; clear hk; intro a w hk
    refine FW.lend (hK12 _ _ ?_); clear hK12 K'
    refine wp_ret ?_
    (repeat first | refine FW.then_ret ?_ | refine FW.block_ret ?_)
    replace hk := FW.S.freezeR2 (I' := [FW.blk bx1 99 ([.lit (.pointer (some ⟨b0, 0, none⟩)), .lit (.int .i64 y5_1), .lit (.int .i64 y5_2), .lit (.int .i64 y5_3), .lit (.int .u64 y5_4)]), FW.blk b0 75 ([.lit (.slice xd0_0 (List.length v0.sure) xc0_0), .lit (.map (some xr0_1)), .lit (.int .i64 v0.steps), .lit (.slice xd0_3 (List.length v0.falls) xc0_3), .lit (.bool v0.off)]), FW.orow xd0_0 xc0_0 9 1 c_str v0.sure, FW.mapI (.int .i64) (Value.int .i64) FW.evS xr0_1 v0.cache, FW.orow xd0_3 xc0_3 52 3 ApiFall.cells v0.falls]) r_c_str_eq hk (j := 5) rfl (t := 9) (t' := 12) rfl rfl rfl
    obtain rfl := Option.some.inj h
    replace hk := FW.S.keep (I1 := [FW.blk bx1 99 ([.lit (.pointer (some ⟨b0, 0, none⟩)), .lit (.int .i64 y5_1), .lit (.int .i64 y5_2), .lit (.int .i64 y5_3), .lit (.int .u64 y5_4)]), FW.blk b0 75 ([.lit (.slice xd0_0 (List.length v0.sure) xc0_0), .lit (.map (some xr0_1)), .lit (.int .i64 v0.steps), .lit (.slice xd0_3 (List.length v0.falls) xc0_3), .lit (.bool v0.off)]), FW.orow xd0_0 xc0_0 9 1 c_str v0.sure, FW.mapI (.int .i64) (Value.int .i64) FW.evS xr0_1 v0.cache, FW.orow xd0_3 xc0_3 52 3 ApiFall.cells v0.falls]) (I2 := []) (js := [4, 4, 4, 4, 4]) hk rfl
    exact FW.fretH3 hk rfl (FW.rtmp hk rfl) (FW.rtmp hk rfl) (FW.rtmp hk rfl) ⟨bx1, xd0_0, xc0_0, xr0_1, xd0_3, xc0_3, rfl, rfl⟩
  refine wp_skip ?_
  (repeat first | refine FW.then_normal ?_ | refine FW.block_normal ?_); refine hK10 _ _ ?_
  refine FW.wreg ?_; intro K' hK13
  refine FW.lfun (y := .lit (.slice xd6 (List.length l6) xc6)) hk rfl rfl rfl rfl (FW.f_move hk (FW.holds_nil _) rfl) ?_; clear hk; intro a w hk
  refine FW.lfun (y := .lit (.string (FW.B t3.1))) hk rfl rfl rfl rfl (FW.f_move hk (FW.holds_nil _) rfl) ?_; clear hk; intro a w hk
  refine FW.l_buildSlice (f := c_str) (l := ([t3.1] : List (List UInt8))) hk rfl rfl rfl Go.Proofs.Tryz.underlying72 rfl rfl rfl rfl (fun _ => rfl) rfl ?_; clear hk; intro bx2 a w hk
  obtain ⟨hc1, h⟩ := FW.chk h
  refine FW.l_append (l2 := ([t3.1] : List (List UInt8))) (l3 := (l6 ++ ([t3.1] : List (List UInt8)))) (I' := fun ad1 cap1 => [FW.orow (some ⟨bx2, 0, none⟩) 1 9 1 c_str ([t3.1] : List (List UInt8)), FW.blk bx1 99 ([.lit (.pointer (some ⟨b0, 0, none⟩)), .lit (.int .i64 y5_1), .lit (.int .i64 y5_2), .lit (.int .i64 y5_3), .lit (.int .u64 y5_4)]), FW.blk b0 75 ([.lit (.slice xd0_0 (List.length v0.sure) xc0_0), .lit (.map (some xr0_1)), .lit (.int .i64 v0.steps), .lit (.slice xd0_3 (List.length v0.falls) xc0_3), .lit (.bool v0.off)]), FW.orow xd0_0 xc0_0 9 1 c_str v0.sure, FW.mapI (.int .i64) (Value.int .i64) FW.evS xr0_1 v0.cache, FW.orow xd0_3 xc0_3 52 3 ApiFall.cells v0.falls, FW.orow ad1 cap1 9 1 c_str (l6 ++ ([t3.1] : List (List UInt8)))]) (j := 6) hk rfl rfl rfl rfl (FW.own_src hk (j := 0) rfl rfl (fun _ => rfl) Go.Proofs.Tryz.underlying72) Go.Proofs.Tryz.underlying72 (by kernel_rfl) hc1 rfl (fun _ _ => rfl) ?_; clear hk; intro ad1 cap1 a w hk
  replace hk := FW.S.dropI (I' := [FW.blk bx1 99 ([.lit (.pointer (some ⟨b0, 0, none⟩)), .lit (.int .i64 y5_1), .lit (.int .i64 y5_2), .lit (.int .i64 y5_3), .lit (.int .u64 y5_4)]), FW.blk b0 75 ([.lit (.slice xd0_0 (List.length v0.sure) xc0_0), .lit (.map (some xr0_1)), .lit (.int .i64 v0.steps), .lit (.slice xd0_3 (List.length v0.falls) xc0_3), .lit (.bool v0.off)]), FW.orow xd0_0 xc0_0 9 1 c_str v0.sure, FW.mapI (.int .i64) (Value.int .i64) FW.evS xr0_1 v0.cache, FW.orow xd0_3 xc0_3 52 3 ApiFall.cells v0.falls, FW.orow ad1 cap1 9 1 c_str (l6 ++ ([t3.1] : List (List UInt8)))]) hk 0 rfl
  refine FW.lfun (y := .lit (.slice ad1 (List.length (l6 ++ ([t3.1] : List (List UInt8)))) cap1)) hk rfl rfl rfl rfl (FW.f_assign hk (FW.holds_nil _) rfl) ?_; clear hk; intro a w hk
  refine FW.lend (hK13 _ _ ?_); clear hK13 K'
  obtain ⟨t4, hr_t4, h⟩ := FW.bnd h
  refine FW.wdrawE (.next [true, true, true, true, true, true, true, true, true, true, false] 10 [true, true, true, true, true, true, true, true, true, true, false] (.leaf [false, false, false, false, false, false, false, false, false, false, false])) [(58, [], .lit (.pointer (some ⟨bx1, 0, none⟩))), (59, [], .lit (.pointer (some ⟨bx1, 0, none⟩))), (60, [], .lit (.pointer (some ⟨bx1, 3, none⟩))), (61, [], .lit (.int .i64 y5_3)), (62, [], .lit (.string (FW.B t3.1))), (63, [], .lit (.int .i64 (List.length t3.1 : Int))), (64, [], .lit (.int .i64 t4)), (65, [], .lit (.int .i64 (IntKind.wrap .i64 (y5_3 + t4)))), (66, [], .lit (.pointer (some ⟨bx1, 0, none⟩))), (67, [], .lit (.pointer (some ⟨bx1, 3, none⟩))), (75, [], .lit undef)] (by kernel_rfl) (by kernel_rfl) (by kernel_rfl) (by kernel_rfl) hk ?_; clear hk
  refine FW.gnext0 ?_ rfl rfl rfl ?_
  · skip
    refine FW.gfun (y := .lit (.pointer (some ⟨bx1, 0, none⟩))) rfl rfl rfl rfl (fun a w hk => FW.f_move hk (FW.holds_nil _) rfl) ?_
    refine FW.gfun (y := .lit (.pointer (some ⟨bx1, 0, none⟩))) rfl rfl rfl rfl (fun a w hk => (FW.f_pure (FW.p_nilCheck hk.kn (FW.holds_nil _) rfl))) ?_
    refine FW.gfun (y := .lit (.pointer (some ⟨bx1, 3, none⟩))) rfl rfl rfl rfl (fun a w hk => FW.f_fieldPtr hk (FW.holds_nil _) rfl Go.Proofs.Tryz.underlying99 rfl (by kernel_rfl) rfl) ?_
    refine FW.gfun (y := .lit (.int .i64 y5_3)) rfl rfl rfl rfl (fun a w hk => FW.f_loadBlk1 hk (FW.holds_nil _) (j := 0) rfl rfl Go.Proofs.Tryz.underlying3 rfl rfl) ?_
    refine FW.gfun (y := .lit (.string (FW.B t3.1))) rfl rfl rfl rfl (fun a w hk => FW.f_move hk (FW.holds_nil _) rfl) ?_
    refine FW.gfun (y := .lit (.int .i64 (List.length t3.1 : Int))) rfl rfl rfl rfl (fun a w hk => (FW.f_pure (FW.p_slen Go.Proofs.Tryz.underlying9 hk.kn (FW.holds_nil _) rfl))) ?_
    refine FW.gfun (y := .lit (.int .i64 t4)) rfl rfl rfl rfl (fun a w hk => FW.f_call hk (FW.holds_nil _) rfl rfl Go.Proofs.Tryz.func51 rfl (by kernel_rfl) (log_Sectors.ok (List.length t3.1 : Int) _ hr_t4)) ?_
    refine FW.gfun (y := .lit (.int .i64 (IntKind.wrap .i64 (y5_3 + t4)))) rfl rfl rfl rfl (fun a w hk => (FW.f_pure (FW.p_add hk.kn (FW.holds_nil _) rfl rfl))) ?_
    refine FW.gfun (y := .lit (.pointer (some ⟨bx1, 0, none⟩))) rfl rfl rfl rfl (fun a w hk => (FW.f_pure (FW.p_nilCheck hk.kn (FW.holds_nil _) rfl))) ?_
    refine FW.gfun (y := .lit (.pointer (some ⟨bx1, 3, none⟩))) rfl rfl rfl rfl (fun a w hk => FW.f_fieldPtr hk (FW.holds_nil _) rfl Go.Proofs.Tryz.underlying99 rfl (by kernel_rfl) rfl) ?_
    refine FW.gskip0 rfl ?_
    exact FW.gend
  · skip
    intro σD a w opsD QD hk hQ hX
    refine FW.l_store (I' := [FW.blk bx1 99 ([.lit (.pointer (some ⟨b0, 0, none⟩)), .lit (.int .i64 y5_1), .lit (.int .i64 y5_2), .lit (.int .i64 (IntKind.wrap .i64 (y5_3 + t4))), .lit (.int .u64 y5_4)]), FW.blk b0 75 ([.lit (.slice xd0_0 (List.length v0.sure) xc0_0), .lit (.map (some xr0_1)), .lit (.int .i64 v0.steps), .lit (.slice xd0_3 (List.length v0.falls) xc0_3), .lit (.bool v0.off)]), FW.orow xd0_0 xc0_0 9 1 c_str v0.sure, FW.mapI (.int .i64) (Value.int .i64) FW.evS xr0_1 v0.cache, FW.orow xd0_3 xc0_3 52 3 ApiFall.cells v0.falls, FW.orow ad1 cap1 9 1 c_str (l6 ++ ([t3.1] : List (List UInt8)))]) (cs' := [.lit (.pointer (some ⟨b0, 0, none⟩)), .lit (.int .i64 y5_1), .lit (.int .i64 y5_2), .lit (.int .i64 (IntKind.wrap .i64 (y5_3 + t4))), .lit (.int .u64 y5_4)]) (j := 0) hk rfl rfl rfl rfl rfl (by kernel_rfl) rfl rfl ?_; clear hk; intro w hk
    refine hQ _ a w ?_ hk; clear hk hQ hX
    refine ⟨[(58, [], .lit (.pointer (some ⟨bx1, 0, none⟩))), (59, [], .lit (.pointer (some ⟨bx1, 0, none⟩))), (60, [], .lit (.pointer (some ⟨bx1, 3, none⟩))), (61, [], .lit (.int .i64 y5_3)), (62, [], .lit (.string (FW.B t3.1))), (63, [], .lit (.int .i64 (List.length t3.1 : Int))), (64, [], .lit (.int .i64 t4)), (65, [], .lit (.int .i64 (IntKind.wrap .i64 (y5_3 + t4)))), (66, [], .lit (.pointer (some ⟨bx1, 0, none⟩))), (67, [], .lit (.pointer (some ⟨bx1, 3, none⟩))), (75, [], .lit undef)], And.intro rfl (And.intro rfl (And.intro rfl (And.intro rfl (And.intro rfl (And.intro rfl (And.intro rfl (And.intro rfl (And.intro rfl (And.intro rfl (trivial)))))))))), rfl, ?_⟩
    refine FW.glast ?_ ?_
    · skip
      refine FW.gskip rfl rfl ?_
      refine FW.gskip rfl rfl ?_
      refine FW.gskip rfl rfl ?_
      refine FW.gskip rfl rfl ?_
      refine FW.gskip rfl rfl ?_
      refine FW.gskip rfl rfl ?_
      refine FW.gskip rfl rfl ?_
      refine FW.gskip rfl rfl ?_
      refine FW.gskip rfl rfl ?_
      refine FW.gskip rfl rfl ?_
      refine FW.gskip0 rfl ?_
      exact FW.gend
    · skip
      intro a w hk; simp only [FW.stD, cond_true] at hk
      refine FW.wreg1 ?_
      refine FW.lfun (y := .lit (.pointer (some ⟨bx1, 0, none⟩))) hk rfl rfl rfl rfl (FW.f_move hk (FW.holds_nil _) rfl) ?_; clear hk; intro a w hk
      refine FW.lfun (y := .lit (.pointer (some ⟨bx1, 0, none⟩))) hk rfl rfl rfl rfl ((FW.f_pure (FW.p_nilCheck hk.kn (FW.holds_nil _) rfl))) ?_; clear hk; intro a w hk
      refine FW.lfun (y := .lit (.pointer (some ⟨bx1, 4, none⟩))) hk rfl rfl rfl rfl (FW.f_fieldPtr hk (FW.holds_nil _) rfl Go.Proofs.Tryz.underlying99 rfl (by kernel_rfl) rfl) ?_; clear hk; intro a w hk
      refine FW.lfun (y := .lit (.int .u64 y5_4)) hk rfl rfl rfl rfl (FW.f_loadBlk1 hk (FW.holds_nil _) (j := 0) rfl rfl Go.Proofs.Tryz.underlying27 rfl rfl) ?_; clear hk; intro a w hk
      refine FW.lfun (y := .lit (.int .u64 (IntKind.wrap .u64 (y5_4 + 1)))) hk rfl rfl rfl rfl ((FW.f_pure (FW.p_add hk.kn (FW.holds_nil _) rfl rfl))) ?_; clear hk; intro a w hk
      refine FW.lfun (y := .lit (.pointer (some ⟨bx1, 0, none⟩))) hk rfl rfl rfl rfl ((FW.f_pure (FW.p_nilCheck hk.kn (FW.holds_nil _) rfl))) ?_; clear hk; intro a w hk
      refine FW.lfun (y := .lit (.pointer (some ⟨bx1, 4, none⟩))) hk rfl rfl rfl rfl (FW.f_fieldPtr hk (FW.holds_nil _) rfl Go.Proofs.Tryz.underlying99 rfl (by kernel_rfl) rfl) ?_; clear hk; intro a w hk
      refine FW.l_store (I' := [FW.blk bx1 99 ([.lit (.pointer (some ⟨b0, 0, none⟩)), .lit (.int .i64 y5_1), .lit (.int .i64 y5_2), .lit (.int .i64 (IntKind.wrap .i64 (y5_3 + t4))), .lit (.int .u64 (IntKind.wrap .u64 (y5_4 + 1)))]), FW.blk b0 75 ([.lit (.slice xd0_0 (List.length v0.sure) xc0_0), .lit (.map (some xr0_1)), .lit (.int .i64 v0.steps), .lit (.slice xd0_3 (List.length v0.falls) xc0_3), .lit (.bool v0.off)]), FW.orow xd0_0 xc0_0 9 1 c_str v0.sure, FW.mapI (.int .i64) (Value.int .i64) FW.evS xr0_1 v0.cache, FW.orow xd0_3 xc0_3 52 3 ApiFall.cells v0.falls, FW.orow ad1 cap1 9 1 c_str (l6 ++ ([t3.1] : List (List UInt8)))]) (cs' := [.lit (.pointer (some ⟨b0, 0, none⟩)), .lit (.int .i64 y5_1), .lit (.int .i64 y5_2), .lit (.int .i64 (IntKind.wrap .i64 (y5_3 + t4))), .lit (.int .u64 (IntKind.wrap .u64 (y5_4 + 1)))]) (j := 0) hk rfl rfl rfl rfl rfl (by kernel_rfl) rfl rfl ?_; clear hk; intro w hk
      refine wpList_nil ?_
      (repeat first | refine FW.then_normal ?_ | refine FW.block_normal ?_); exact hK8 (kl1, (l6 ++ ([t3.1] : List (List UInt8))), y5_1, y5_2, (IntKind.wrap .i64 (y5_3 + t4)), (IntKind.wrap .u64 (y5_4 + 1)), ad1, cap1) _ _ (Nat.lt_succ_self _) ⟨(FW.S.pick hk (js := [4, 4, 4, 4, 4, 5]) rfl).sub ⟨rfl, rfl, trivial⟩, h⟩
theorem rec_Unbatch.ok (K : Nat) (v0 : List UInt8) (r : List ApiChange × Int) (h : rec_Unbatch.f K v0 = some r) :
    FW.Ok Go.Proofs.Tryz.prog 42 [.lit (.string (FW.B v0))] (.tup [.row (r_ApiChange_cells r.1), .lit (.int .i64 r.2)]) := by
  refine FW.enter (xs := [.lit (.string (FW.B v0))]) Go.Proofs.Tryz.func42 rfl Go.Proofs.Tryz.ntmps42 rfl ?_
  intro M w0 a hk
  unfold rec_Unbatch.f at h
  refine FW.wreg ?_; intro K' hK1
  refine FW.lfun (y := .row (r_ApiChange_cells [])) hk rfl rfl rfl rfl (FW.f_assignNil) ?_; clear hk; intro a w hk
  refine FW.lfun (y := .lit (.int .i64 0)) hk rfl rfl rfl rfl (FW.f_assign hk (FW.holds_nil _) rfl) ?_; clear hk; intro a w hk
  refine FW.lend (hK1 _ _ ?_); clear hK1 K'
  refine FW.wseq ?_; intro K' hK2
  refine FW.wreg ?_; intro K' hK3
  refine FW.lfun (y := .lit (.string (FW.B v0))) hk rfl rfl rfl rfl (FW.f_move hk (FW.holds_nil _) rfl) ?_; clear hk; intro a w hk
  refine FW.lfun (y := .lit (.int .i64 (List.length v0 : Int))) hk rfl rfl rfl rfl ((FW.f_pure (FW.p_slen Go.Proofs.Tryz.underlying9 hk.kn (FW.holds_nil _) rfl))) ?_; clear hk; intro a w hk
  refine FW.lfun (y := .lit (.bool (decide ((List.length v0 : Int) < 2)))) hk rfl rfl rfl rfl ((FW.f_pure (FW.p_lss hk.kn (FW.holds_nil _) rfl rfl))) ?_; clear hk; intro a w hk
  refine FW.lend (hK3 _ _ ?_); clear hK3 K'
  refine FW.wcondF (b := (decide ((List.length v0 : Int) < 2))) hk h rfl (fun h hb => ?_) (fun h hb => ?_)
  · skip
    refine FW.wreg ?_; intro K' hK4
    refine FW.lfun (y := .row (r_ApiChange_cells [])) hk rfl rfl rfl rfl (FW.f_assignNil) ?_; clear hk; intro a w hk
    refine FW.lfun (y := .lit (.int .i64 4)) hk rfl rfl rfl rfl (FW.f_assign hk (FW.holds_nil _) rfl) ?_; clear hk; intro a w hk
    refine FW.lend (hK4 _ _ ?_); clear hK4 K'
    refine wp_ret ?_
    (repeat first | refine FW.then_ret ?_ | refine FW.block_ret ?_)
    obtain rfl := Option.some.inj h
    exact FW.fret2 hk rfl rfl rfl
  refine wp_skip ?_
  (repeat first | refine FW.then_normal ?_ | refine FW.block_normal ?_); refine hK2 _ _ ?_
  refine FW.wreg ?_; intro K' hK5
  refine FW.lfun (y := .lit (.string (FW.B v0))) hk rfl rfl rfl rfl (FW.f_move hk (FW.holds_nil _) rfl) ?_; clear hk; intro a w hk
  obtain ⟨hc1, h⟩ := FW.chk h
  refine FW.lfun (y := .lit (.string (FW.B (List.take (Int.toNat 2) v0)))) hk rfl rfl rfl rfl ((FW.f_pure (FW.p_slice_hi Go.Proofs.Tryz.underlying9 hk.kn (FW.holds_nil _) rfl rfl hc1))) ?_; clear hk; intro a w hk
  obtain ⟨t1, hr_t1, h⟩ := FW.bnd h
  refine FW.lfun (y := .lit (.int .u64 t1)) hk rfl rfl rfl rfl (FW.f_call hk (FW.holds_nil _) rfl rfl Go.Proofs.Tryz.func38 rfl (by kernel_rfl) (val_Wide.ok K (List.take (Int.toNat 2) v0) _ hr_t1)) ?_; clear hk; intro a w hk
  refine FW.lfun (y := .lit (.int .i64 (IntKind.wrap .i64 t1))) hk rfl rfl rfl rfl ((FW.f_pure (FW.p_conv Go.Proofs.Tryz.underlying27 Go.Proofs.Tryz.underlying3 hk.kn (FW.holds_nil _) rfl))) ?_; clear hk; intro a w hk
  refine FW.lfun (y := .lit (.int .i64 (IntKind.wrap .i64 t1))) hk rfl rfl rfl rfl (FW.f_assign hk (FW.holds_nil _) rfl) ?_; clear hk; intro a w hk
  refine FW.lend (hK5 _ _ ?_); clear hK5 K'
  refine FW.wreg ?_; intro K' hK6
  refine FW.lfun (y := .lit (.string (FW.B v0))) hk rfl rfl rfl rfl (FW.f_move hk (FW.holds_nil _) rfl) ?_; clear hk; intro a w hk
  obtain ⟨hc2, h⟩ := FW.chk h
  refine FW.lfun (y := .lit (.string (FW.B (List.drop (Int.toNat 2) v0)))) hk rfl rfl rfl rfl ((FW.f_pure (FW.p_slice_lo Go.Proofs.Tryz.underlying9 hk.kn (FW.holds_nil _) rfl rfl hc2))) ?_; clear hk; intro a w hk
  refine FW.lfun (y := .lit (.string (FW.B (List.drop (Int.toNat 2) v0)))) hk rfl rfl rfl rfl (FW.f_assign hk (FW.holds_nil _) rfl) ?_; clear hk; intro a w hk
  refine FW.lend (hK6 _ _ ?_); clear hK6 K'
  refine FW.wreg ?_; intro K' hK7
  refine FW.lfun (y := .lit (.slice none 0 0)) hk rfl rfl rfl rfl (FW.f_assign hk (FW.holds_nil _) rfl) ?_; clear hk; intro a w hk
  replace hk := hk.nilRow 29 3 ApiChange.cells (fun _ => rfl)
  refine FW.lend (hK7 _ _ ?_); clear hK7 K'
  refine FW.wseq ?_; intro K' hK8
  refine FW.wreg ?_; intro K' hK9
  refine FW.lfun (y := .lit (.int .i64 (IntKind.wrap .i64 t1))) hk rfl rfl rfl rfl (FW.f_move hk (FW.holds_nil _) rfl) ?_; clear hk; intro a w hk
  refine FW.lfun (y := .lit (.int .i64 0)) hk rfl rfl rfl rfl (FW.f_move hk (FW.holds_nil _) rfl) ?_; clear hk; intro a w hk
  refine FW.lend (hK9 _ _ ?_); clear hK9 K'
  refine wp_block ?_
  refine FW.wloop (T := Nat × List ApiChange × List UInt8 × Int × Int × Option Addr × Nat) (fun x a w => match x with | (kl1, l1, v0, v17, v18, xd1, xc1) => FW.S M w0 a w 57 [FW.orow xd1 xc1 29 3 ApiChange.cells l1] [(0, [], .lit (.string (FW.B v0))), (5, [], .lit (.slice xd1 (List.length l1) xc1)), (17, [], .lit (.int .i64 v17)), (18, [], .lit (.int .i64 v18))] ∧ rec_Unbatch.l1 K kl1 l1 v0 v17 v18 = some r) (fun x => x.1) (K, ([] : List ApiChange), (List.drop (Int.toNat 2) v0), (IntKind.wrap .i64 t1), 0, none, 0) ⟨hk.sub ⟨rfl, rfl, rfl, rfl, trivial⟩, h⟩ ?_
  clear hk h
  rintro ⟨kl1, l1, v0, v17, v18, xd1, xc1⟩ a w ⟨hk, h⟩ K' hK10
  cases kl1 with
  | zero => simp [rec_Unbatch.l1] at h
  | succ kl1 =>
  rw [rec_Unbatch.l1.eq_2] at h
  refine FW.wreg ?_; intro K' hK11
  refine FW.lfun (y := .lit (.bool (decide (v18 < v17)))) hk rfl rfl rfl rfl ((FW.f_pure (FW.p_lss hk.kn (FW.holds_nil _) rfl rfl))) ?_; clear hk; intro a w hk
  refine FW.lend (hK11 _ _ ?_); clear hK11 K'
  refine FW.wseq ?_; intro K' hK12
  refine FW.wcondF (b := (decide (v18 < v17))) hk h rfl (fun h hb => ?_) (fun h hb => ?_)
  · skip
    refine wp_skip ?_
    (repeat first | refine FW.then_normal ?_ | refine FW.block_normal ?_); refine hK12 _ _ ?_
    refine FW.wseq ?_; intro K' hK13
    refine wp_block ?_
    refine FW.wseq ?_; intro K' hK14
    refine FW.wreg ?_; intro K' hK15
    refine FW.lfun (y := .lit (.string (FW.B v0))) hk rfl rfl rfl rfl (FW.f_move hk (FW.holds_nil _) rfl) ?_; clear hk; intro a w hk
    refine FW.lfun (y := .lit (.int .i64 (List.length v0 : Int))) hk rfl rfl rfl rfl ((FW.f_pure (FW.p_slen Go.Proofs.Tryz.underlying9 hk.kn (FW.holds_nil _) rfl))) ?_; clear hk; intro a w hk
    refine FW.lfun (y := .lit (.bool (decide ((List.length v0 : Int) < 10)))) hk rfl rfl rfl rfl ((FW.f_pure (FW.p_lss hk.kn (FW.holds_nil _) rfl rfl))) ?_; clear hk; intro a w hk
    refine FW.lend (hK15 _ _ ?_); clear hK15 K'
    refine FW.wcondF (b := (decide ((List.length v0 : Int) < 10))) hk h rfl (fun h hb => ?_) (fun h hb => ?_)
    · skip
      refine FW.wreg ?_; intro K' hK16
      refine FW.lfun (y := .row (r_ApiChange_cells [])) hk rfl rfl rfl rfl (FW.f_assignNil) ?_; clear hk; intro a w hk
      refine FW.lfun (y := .lit (.int .i64 4)) hk rfl rfl rfl rfl (FW.f_assign hk (FW.holds_nil _) rfl) ?_; clear hk; intro a w hk
      refine FW.lend (hK16 _ _ ?_); clear hK16 K'
      refine wp_ret ?_
      (repeat first | refine FW.then_ret ?_ | refine FW.block_ret ?_)
      obtain rfl := Option.some.inj h
      exact FW.fret2 hk rfl rfl rfl
    refine wp_skip ?_
    (repeat first | refine FW.then_normal ?_ | refine FW.block_normal ?_); refine hK14 _ _ ?_
    obtain ⟨hc3, h⟩ := FW.chk h
    obtain ⟨t2, hr_t2, h⟩ := FW.bnd h
    obtain ⟨hc4, h⟩ := FW.chk h
    obtain ⟨t3, hr_t3, h⟩ := FW.bnd h
    refine FW.wdrawE (.next [true, true, true, true, true, true, true, true, false, false, false] 8 [true, true, true, true, true, true, true, true, false, false, false] (.next [true, true, true, true, true, true, true, true, false, false, false] 9 [true, true, true, true, true, true, true, true, true, false, false] (.leaf [false, false, false, false, false, false, false, true, false, false, true]))) [(23, [], .lit (.string (FW.B v0))), (24, [], .lit (.string (FW.B (List.take (Int.toNat 8) v0)))), (25, [], .lit (.int .u64 t2)), (26, [], .agg ((ApiChange.cells (⟨t2, [], false⟩ : ApiChange)))), (27, [], .lit (.string (FW.B v0))), (28, [], .lit (.string (FW.B (List.take (Int.toNat 10 - Int.toNat 8) (List.drop (Int.toNat 8) v0))))), (29, [], .lit (.int .u64 t3)), (30, [], .lit (.int .i64 (IntKind.wrap .i64 t3))), (6, [], .agg []), (57, [], .lit undef), (7, [], .agg [])] (by kernel_rfl) (by kernel_rfl) (by kernel_rfl) (by kernel_rfl) hk ?_; clear hk
    refine FW.gnext ?_ rfl rfl rfl rfl rfl ?_
    · skip
      refine FW.gfun (y := .lit (.string (FW.B v0))) rfl rfl rfl rfl (fun a w hk => FW.f_move hk (FW.holds_nil _) rfl) ?_
      refine FW.gfun (y := .lit (.string (FW.B (List.take (Int.toNat 8) v0)))) rfl rfl rfl rfl (fun a w hk => (FW.f_pure (FW.p_slice_hi Go.Proofs.Tryz.underlying9 hk.kn (FW.holds_nil _) rfl rfl hc3))) ?_
      refine FW.gfun (y := .lit (.int .u64 t2)) rfl rfl rfl rfl (fun a w hk => FW.f_call hk (FW.holds_nil _) rfl rfl Go.Proofs.Tryz.func38 rfl (by kernel_rfl) (val_Wide.ok K (List.take (Int.toNat 8) v0) _ hr_t2)) ?_
      refine FW.gfun (y := .agg ((ApiChange.cells (⟨t2, [], false⟩ : ApiChange)))) rfl rfl rfl rfl (fun a w hk => FW.f_build hk (FW.holds_nil _) rfl rfl) ?_
      refine FW.gfun (y := .lit (.string (FW.B v0))) rfl rfl rfl rfl (fun a w hk => FW.f_move hk (FW.holds_nil _) rfl) ?_
      refine FW.gfun (y := .lit (.string (FW.B (List.take (Int.toNat 10 - Int.toNat 8) (List.drop (Int.toNat 8) v0))))) rfl rfl rfl rfl (fun a w hk => (FW.f_pure (FW.p_slice Go.Proofs.Tryz.underlying9 hk.kn (FW.holds_nil _) rfl rfl rfl hc4))) ?_
      refine FW.gfun (y := .lit (.int .u64 t3)) rfl rfl rfl rfl (fun a w hk => FW.f_call hk (FW.holds_nil _) rfl rfl Go.Proofs.Tryz.func38 rfl (by kernel_rfl) (val_Wide.ok K (List.take (Int.toNat 10 - Int.toNat 8) (List.drop (Int.toNat 8) v0)) _ hr_t3)) ?_
      refine FW.gfun (y := .lit (.int .i64 (IntKind.wrap .i64 t3))) rfl rfl rfl rfl (fun a w hk => (FW.f_pure (FW.p_conv Go.Proofs.Tryz.underlying27 Go.Proofs.Tryz.underlying3 hk.kn (FW.holds_nil _) rfl))) ?_
      refine FW.gskip rfl rfl ?_
      refine FW.gskip0 rfl ?_
      refine FW.gskip rfl rfl ?_
      exact FW.gend
    · skip
      intro σD a w opsD QD hk hf hQ hX
      refine FW.l_alloc (zs := (ApiChange.cells (⟨0, [], false⟩ : ApiChange))) [] hk rfl hf rfl rfl ?_; clear hk; intro bx1 a w hk
      refine hQ _ _ a w ?_ hk; clear hk hQ hf hX
      refine ⟨[(23, [], .lit (.string (FW.B v0))), (24, [], .lit (.string (FW.B (List.take (Int.toNat 8) v0)))), (25, [], .lit (.int .u64 t2)), (26, [], .agg ((ApiChange.cells (⟨t2, [], false⟩ : ApiChange)))), (27, [], .lit (.string (FW.B v0))), (28, [], .lit (.string (FW.B (List.take (Int.toNat 10 - Int.toNat 8) (List.drop (Int.toNat 8) v0))))), (29, [], .lit (.int .u64 t3)), (30, [], .lit (.int .i64 (IntKind.wrap .i64 t3))), (6, [], .lit (.pointer (some ⟨bx1, 0, none⟩))), (57, [], .lit undef), (7, [], .agg [])], And.intro rfl (And.intro rfl (And.intro rfl (And.intro rfl (And.intro rfl (And.intro rfl (And.intro rfl (And.intro rfl (trivial)))))))), rfl, ?_⟩
      refine FW.gnext0 ?_ rfl rfl rfl ?_
      · skip
        refine FW.gfun (y := .lit (.string (FW.B v0))) rfl rfl rfl rfl (fun a w hk => FW.f_move hk (FW.holds_nil _) rfl) ?_
        refine FW.gfun (y := .lit (.string (FW.B (List.take (Int.toNat 8) v0)))) rfl rfl rfl rfl (fun a w hk => (FW.f_pure (FW.p_slice_hi Go.Proofs.Tryz.underlying9 hk.kn (FW.holds_nil _) rfl rfl hc3))) ?_
        refine FW.gfun (y := .lit (.int .u64 t2)) rfl rfl rfl rfl (fun a w hk => FW.f_call hk (FW.holds_nil _) rfl rfl Go.Proofs.Tryz.func38 rfl (by kernel_rfl) (val_Wide.ok K (List.take (Int.toNat 8) v0) _ hr_t2)) ?_
        refine FW.gfun (y := .agg ((ApiChange.cells (⟨t2, [], false⟩ : ApiChange)))) rfl rfl rfl rfl (fun a w hk => FW.f_build hk (FW.holds_nil _) rfl rfl) ?_
        refine FW.gfun (y := .lit (.string (FW.B v0))) rfl rfl rfl rfl (fun a w hk => FW.f_move hk (FW.holds_nil _) rfl) ?_
        refine FW.gfun (y := .lit (.string (FW.B (List.take (Int.toNat 10 - Int.toNat 8) (List.drop (Int.toNat 8) v0))))) rfl rfl rfl rfl (fun a w hk => (FW.f_pure (FW.p_slice Go.Proofs.Tryz.underlying9 hk.kn (FW.holds_nil _) rfl rfl rfl hc4))) ?_
        refine FW.gfun (y := .lit (.int .u64 t3)) rfl rfl rfl rfl (fun a w hk => FW.f_call hk (FW.holds_nil _) rfl rfl Go.Proofs.Tryz.func38 rfl (by kernel_rfl) (val_Wide.ok K (List.take (Int.toNat 10 - Int.toNat 8) (List.drop (Int.toNat 8) v0)) _ hr_t3)) ?_
        refine FW.gfun (y := .lit (.int .i64 (IntKind.wrap .i64 t3))) rfl rfl rfl rfl (fun a w hk => (FW.f_pure (FW.p_conv Go.Proofs.Tryz.underlying27 Go.Proofs.Tryz.underlying3 hk.kn (FW.holds_nil _) rfl))) ?_
        refine FW.gskip rfl rfl ?_
        refine FW.gskip0 rfl ?_
        refine FW.gskip rfl rfl ?_
        exact FW.gend
      · skip
        intro σD a w opsD QD hk hQ hX
        refine FW.l_store (I' := [FW.blk bx1 29 ((ApiChange.cells (⟨t2, [], false⟩ : ApiChange))), FW.orow xd1 xc1 29 3 ApiChange.cells l1]) (cs' := (ApiChange.cells (⟨t2, [], false⟩ : ApiChange))) (j := 0) hk rfl rfl rfl rfl rfl (by kernel_rfl) rfl rfl ?_; clear hk; intro w hk
        refine hQ _ a w ?_ hk; clear hk hQ hX
        refine ⟨[(23, [], .lit (.string (FW.B v0))), (24, [], .lit (.string (FW.B (List.take (Int.toNat 8) v0)))), (25, [], .lit (.int .u64 t2)), (26, [], .agg ((ApiChange.cells (⟨t2, [], false⟩ : ApiChange)))), (27, [], .lit (.string (FW.B v0))), (28, [], .lit (.string (FW.B (List.take (Int.toNat 10 - Int.toNat 8) (List.drop (Int.toNat 8) v0))))), (29, [], .lit (.int .u64 t3)), (30, [], .lit (.int .i64 (IntKind.wrap .i64 t3))), (6, [], .lit (.pointer (some ⟨bx1, 0, none⟩))), (57, [], .lit undef), (7, [], .lit (.int .i64 (IntKind.wrap .i64 t3)))], And.intro rfl (And.intro rfl (And.intro rfl (And.intro rfl (And.intro rfl (And.intro rfl (And.intro rfl (And.intro rfl (And.intro rfl (trivial))))))))), rfl, ?_⟩
        refine FW.glast ?_ ?_
        · skip
          refine FW.gskip rfl rfl ?_
          refine FW.gskip rfl rfl ?_
          refine FW.gskip rfl rfl ?_
          refine FW.gskip rfl rfl ?_
          refine FW.gskip rfl rfl ?_
          refine FW.gskip rfl rfl ?_
          refine FW.gskip rfl rfl ?_
          refine FW.gfun (y := .lit (.int .i64 (IntKind.wrap .i64 t3))) rfl rfl rfl rfl (fun a w hk => (FW.f_pure (FW.p_conv Go.Proofs.Tryz.underlying27 Go.Proofs.Tryz.underlying3 hk.kn (FW.holds_nil _) rfl))) ?_
          refine FW.gskip rfl rfl ?_
          refine FW.gskip0 rfl ?_
          refine FW.gfun (y := .lit (.int .i64 (IntKind.wrap .i64 t3))) rfl rfl rfl rfl (fun a w hk => FW.f_assign hk (FW.holds_nil _) rfl) ?_
          exact FW.gend
        · skip
          intro a w hk; simp only [FW.stD, cond_true] at hk
          refine FW.wreg ?_; intro K' hK18
          refine FW.lfun (y := .lit (.string (FW.B v0))) hk rfl rfl rfl rfl (FW.f_move hk (FW.holds_nil _) rfl) ?_; clear hk; intro a w hk
          obtain ⟨hc5, h⟩ := FW.chk h
          refine FW.lfun (y := .lit (.string (FW.B (List.drop (Int.toNat 10) v0)))) hk rfl rfl rfl rfl ((FW.f_pure (FW.p_slice_lo Go.Proofs.Tryz.underlying9 hk.kn (FW.holds_nil _) rfl rfl hc5))) ?_; clear hk; intro a w hk
          refine FW.lfun (y := .lit (.string (FW.B (List.drop (Int.toNat 10) v0)))) hk rfl rfl rfl rfl (FW.f_assign hk (FW.holds_nil _) rfl) ?_; clear hk; intro a w hk
          refine FW.lend (hK18 _ _ ?_); clear hK18 K'
          refine FW.wseqJ (fun a w => ∃ (y2 : ApiChange) (v0 : List UInt8) (v7 : Int) (v17 : Int) (v18 : Int), FW.S M w0 a w 57 [FW.blk bx1 29 ((ApiChange.cells y2)), FW.orow xd1 xc1 29 3 ApiChange.cells l1] [(0, [], .lit (.string (FW.B v0))), (5, [], .lit (.slice xd1 (List.length l1) xc1)), (6, [], .lit (.pointer (some ⟨bx1, 0, none⟩))), (7, [], .lit (.int .i64 v7)), (17, [], .lit (.int .i64 v17)), (18, [], .lit (.int .i64 v18))] ∧ rec_Unbatch.j1 (rec_Unbatch.l1 K kl1) K l1 y2 v0 v7 v17 v18 = some r) ?_ ?_
          · clear hk h
            rintro a w ⟨y2, v0, v7, v17, v18, hk, h⟩
            unfold rec_Unbatch.j1 at h
            refine FW.wseq ?_; intro K' hK20
            refine FW.wreg ?_; intro K' hK21
            refine FW.lfun (y := .lit (.int .i64 v7)) hk rfl rfl rfl rfl (FW.f_move hk (FW.holds_nil _) rfl) ?_; clear hk; intro a w hk
            refine FW.lfun (y := .lit (.bool (decide (498 < v7)))) hk rfl rfl rfl rfl ((FW.f_pure (FW.p_gtr hk.kn (FW.holds_nil _) rfl rfl))) ?_; clear hk; intro a w hk
            refine FW.lend (hK21 _ _ ?_); clear hK21 K'
            refine FW.wcondF (b := (decide (498 < v7))) hk h rfl (fun h hb => ?_) (fun h hb => ?_)
            · skip
              refine FW.wreg ?_; intro K' hK22
              refine FW.lfun (y := .row (r_ApiChange_cells [])) hk rfl rfl rfl rfl (FW.f_assignNil) ?_; clear hk; intro a w hk
              refine FW.lfun (y := .lit (.int .i64 6)) hk rfl rfl rfl rfl (FW.f_assign hk (FW.holds_nil _) rfl) ?_; clear hk; intro a w hk
              refine FW.lend (hK22 _ _ ?_); clear hK22 K'
              refine wp_ret ?_
              (repeat first | refine FW.then_ret ?_ | refine FW.block_ret ?_)
              obtain rfl := Option.some.inj h
              exact FW.fret2 hk rfl rfl rfl
            refine wp_skip ?_
            (repeat first | refine FW.then_normal ?_ | refine FW.block_normal ?_); refine hK20 _ _ ?_
            refine FW.wseq ?_; intro K' hK23
            refine FW.wreg ?_; intro K' hK24
            refine FW.lfun (y := .lit (.int .i64 v7)) hk rfl rfl rfl rfl (FW.f_move hk (FW.holds_nil _) rfl) ?_; clear hk; intro a w hk
            refine FW.lfun (y := .lit (.string (FW.B v0))) hk rfl rfl rfl rfl (FW.f_move hk (FW.holds_nil _) rfl) ?_; clear hk; intro a w hk
            refine FW.lfun (y := .lit (.int .i64 (List.length v0 : Int))) hk rfl rfl rfl rfl ((FW.f_pure (FW.p_slen Go.Proofs.Tryz.underlying9 hk.kn (FW.holds_nil _) rfl))) ?_; clear hk; intro a w hk
            refine FW.lfun (y := .lit (.bool (decide ((List.length v0 : Int) < v7)))) hk rfl rfl rfl rfl ((FW.f_pure (FW.p_gtr hk.kn (FW.holds_nil _) rfl rfl))) ?_; clear hk; intro a w hk
            refine FW.lend (hK24 _ _ ?_); clear hK24 K'
            refine FW.wcondF (b := (decide ((List.length v0 : Int) < v7))) hk h rfl (fun h hb => ?_) (fun h hb => ?_)
            · skip
              refine FW.wreg ?_; intro K' hK25
              refine FW.lfun (y := .row (r_ApiChange_cells [])) hk rfl rfl rfl rfl (FW.f_assignNil) ?_; clear hk; intro a w hk
              refine FW.lfun (y := .lit (.int .i64 4)) hk rfl rfl rfl rfl (FW.f_assign hk (FW.holds_nil _) rfl) ?_; clear hk; intro a w hk
              refine FW.lend (hK25 _ _ ?_); clear hK25 K'
              refine wp_ret ?_
              (repeat first | refine FW.then_ret ?_ | refine FW.block_ret ?_)
              obtain rfl := Option.some.inj h
              exact FW.fret2 hk rfl rfl rfl
            refine wp_skip ?_
            (repeat first | refine FW.then_normal ?_ | refine FW.block_normal ?_); refine hK23 _ _ ?_
            obtain ⟨hc6, h⟩ := FW.chk h
            obtain ⟨hc7, h⟩ := FW.chk h
            refine FW.wdrawE (.next [true, true, true, true, true, true, true, false, false] 7 [true, true, true, true, true, true, true, false, false] (.leaf [false, false, false, true, true, true, false, false, true])) [(42, [], .lit (.string (FW.B v0))), (43, [], .lit (.int .i64 v7)), (44, [], .lit (.string (FW.B (List.take (Int.toNat v7) v0)))), (45, [], .lit (.string (FW.B v0))), (46, [], .lit (.int .i64 v7)), (47, [], .lit (.string (FW.B (List.drop (Int.toNat v7) v0)))), (48, [], .lit (.pointer (some ⟨bx1, 1, none⟩))), (57, [], .lit undef), (0, [], .agg [])] (by kernel_rfl) (by kernel_rfl) (by kernel_rfl) (by kernel_rfl) hk ?_; clear hk
            refine FW.gnext0 ?_ rfl rfl rfl ?_
            · skip
              refine FW.gfun (y := .lit (.string (FW.B v0))) rfl rfl rfl rfl (fun a w hk => FW.f_move hk (FW.holds_nil _) rfl) ?_
              refine FW.gfun (y := .lit (.int .i64 v7)) rfl rfl rfl rfl (fun a w hk => FW.f_move hk (FW.holds_nil _) rfl) ?_
              refine FW.gfun (y := .lit (.string (FW.B (List.take (Int.toNat v7) v0)))) rfl rfl rfl rfl (fun a w hk => (FW.f_pure (FW.p_slice_hi Go.Proofs.Tryz.underlying9 hk.kn (FW.holds_nil _) rfl rfl hc6))) ?_
              refine FW.gfun (y := .lit (.string (FW.B v0))) rfl rfl rfl rfl (fun a w hk => FW.f_move hk (FW.holds_nil _) rfl) ?_
              refine FW.gfun (y := .lit (.int .i64 v7)) rfl rfl rfl rfl (fun a w hk => FW.f_move hk (FW.holds_nil _) rfl) ?_
              refine FW.gfun (y := .lit (.string (FW.B (List.drop (Int.toNat v7) v0)))) rfl rfl rfl rfl (fun a w hk => (FW.f_pure (FW.p_slice_lo Go.Proofs.Tryz.underlying9 hk.kn (FW.holds_nil _) rfl rfl hc7))) ?_
              refine FW.gfun (y := .lit (.pointer (some ⟨bx1, 1, none⟩))) rfl rfl rfl rfl (fun a w hk => FW.f_fieldPtr hk (FW.holds_nil _) rfl Go.Proofs.Tryz.underlying29 rfl (by kernel_rfl) rfl) ?_
              refine FW.gskip0 rfl ?_
              refine FW.gskip rfl rfl ?_
              exact FW.gend
            · skip
              intro σD a w opsD QD hk hQ hX
              refine FW.l_store (I' := [FW.blk bx1 29 ((ApiChange.cells (⟨y2.ID, (List.take (Int.toNat v7) v0), y2.Gone⟩ : ApiChange))), FW.orow xd1 xc1 29 3 ApiChange.cells l1]) (cs' := (ApiChange.cells (⟨y2.ID, (List.take (Int.toNat v7) v0), y2.Gone⟩ : ApiChange))) (j := 0) hk rfl rfl rfl rfl rfl (by kernel_rfl) rfl rfl ?_; clear hk; intro w hk
              refine hQ _ a w ?_ hk; clear hk hQ hX
              refine ⟨[(42, [], .lit (.string (FW.B v0))), (43, [], .lit (.int .i64 v7)), (44, [], .lit (.string (FW.B (List.take (Int.toNat v7) v0)))), (45, [], .lit (.string (FW.B v0))), (46, [], .lit (.int .i64 v7)), (47, [], .lit (.string (FW.B (List.drop (Int.toNat v7) v0)))), (48, [], .lit (.pointer (some ⟨bx1, 1, none⟩))), (57, [], .lit undef), (0, [], .lit (.string (FW.B (List.drop (Int.toNat v7) v0))))], And.intro rfl (And.intro rfl (And.intro rfl (And.intro rfl (And.intro rfl (And.intro rfl (And.intro rfl (trivial))))))), rfl, ?_⟩
              refine FW.glast ?_ ?_
              · skip
                refine FW.gskip rfl rfl ?_
                refine FW.gskip rfl rfl ?_
                refine FW.gskip rfl rfl ?_
                refine FW.gfun (y := .lit (.string (FW.B v0))) rfl rfl rfl rfl (fun a w hk => FW.f_move hk (FW.holds_nil _) rfl) ?_
                refine FW.gfun (y := .lit (.int .i64 v7)) rfl rfl rfl rfl (fun a w hk => FW.f_move hk (FW.holds_nil _) rfl) ?_
                refine FW.gfun (y := .lit (.string (FW.B (List.drop (Int.toNat v7) v0)))) rfl rfl rfl rfl (fun a w hk => (FW.f_pure (FW.p_slice_lo Go.Proofs.Tryz.underlying9 hk.kn (FW.holds_nil _) rfl rfl hc7))) ?_
                refine FW.gskip rfl rfl ?_
                refine FW.gskip0 rfl ?_
                refine FW.gfun (y := .lit (.string (FW.B (List.drop (Int.toNat v7) v0)))) rfl rfl rfl rfl (fun a w hk => FW.f_assign hk (FW.holds_nil _) rfl) ?_
                exact FW.gend
              · skip
                intro a w hk; simp only [FW.stD, cond_true] at hk
                refine FW.wreg1 ?_
                refine FW.lfun (y := .lit (.slice xd1 (List.length l1) xc1)) hk rfl rfl rfl rfl (FW.f_move hk (FW.holds_nil _) rfl) ?_; clear hk; intro a w hk
                refine FW.lfun (y := .agg ((ApiChange.cells (⟨y2.ID, (List.take (Int.toNat v7) v0), y2.Gone⟩ : ApiChange)))) hk rfl rfl rfl rfl (FW.f_loadBlk hk (FW.holds_nil _) (j := 0) rfl rfl Go.Proofs.Tryz.underlying29 rfl rfl rfl rfl) ?_; clear hk; intro a w hk
                refine FW.l_buildSlice (f := ApiChange.cells) (l := ([(⟨y2.ID, (List.take (Int.toNat v7) v0), y2.Gone⟩ : ApiChange)] : List ApiChange)) hk rfl rfl rfl Go.Proofs.Tryz.underlying22 rfl rfl rfl rfl (fun _ => rfl) rfl ?_; clear hk; intro bx2 a w hk
                obtain ⟨hc8, h⟩ := FW.chk h
                refine FW.l_append (l2 := ([(⟨y2.ID, (List.take (Int.toNat v7) v0), y2.Gone⟩ : ApiChange)] : List ApiChange)) (l3 := (l1 ++ ([(⟨y2.ID, (List.take (Int.toNat v7) v0), y2.Gone⟩ : ApiChange)] : List ApiChange))) (I' := fun ad1 cap1 => [FW.orow (some ⟨bx2, 0, none⟩) 1 29 3 ApiChange.cells ([(⟨y2.ID, (List.take (Int.toNat v7) v0), y2.Gone⟩ : ApiChange)] : List ApiChange), FW.blk bx1 29 ((ApiChange.cells (⟨y2.ID, (List.take (Int.toNat v7) v0), y2.Gone⟩ : ApiChange))), FW.orow ad1 cap1 29 3 ApiChange.cells (l1 ++ ([(⟨y2.ID, (List.take (Int.toNat v7) v0), y2.Gone⟩ : ApiChange)] : List ApiChange))]) (j := 2) hk rfl rfl rfl rfl (FW.own_src hk (j := 0) rfl rfl (fun _ => rfl) Go.Proofs.Tryz.underlying22) Go.Proofs.Tryz.underlying22 (by kernel_rfl) hc8 rfl (fun _ _ => rfl) ?_; clear hk; intro ad1 cap1 a w hk
                replace hk := FW.S.dropI (I' := [FW.blk bx1 29 ((ApiChange.cells (⟨y2.ID, (List.take (Int.toNat v7) v0), y2.Gone⟩ : ApiChange))), FW.orow ad1 cap1 29 3 ApiChange.cells (l1 ++ ([(⟨y2.ID, (List.take (Int.toNat v7) v0), y2.Gone⟩ : ApiChange)] : List ApiChange))]) hk 0 rfl
                refine FW.lfun (y := .lit (.slice ad1 (List.length (l1 ++ ([(⟨y2.ID, (List.take (Int.toNat v7) v0), y2.Gone⟩ : ApiChange)] : List ApiChange))) cap1)) hk rfl rfl rfl rfl (FW.f_assign hk (FW.holds_nil _) rfl) ?_; clear hk; intro a w hk
                refine wpList_nil ?_
                (repeat first | refine FW.then_normal ?_ | refine FW.block_normal ?_); refine hK13 _ _ ?_
                refine FW.wreg1 ?_
                refine FW.lfun (y := .lit (.int .i64 (IntKind.wrap .i64 (v18 + 1)))) hk rfl rfl rfl rfl ((FW.f_pure (FW.p_add hk.kn (FW.holds_nil _) rfl rfl))) ?_; clear hk; intro a w hk
                refine FW.lfun (y := .lit (.int .i64 (IntKind.wrap .i64 (v18 + 1)))) hk rfl rfl rfl rfl (FW.f_move hk (FW.holds_nil _) rfl) ?_; clear hk; intro a w hk
                refine wpList_nil ?_
                (repeat first | refine FW.then_normal ?_ | refine FW.block_normal ?_); exact hK10 (kl1, (l1 ++ ([(⟨y2.ID, (List.take (Int.toNat v7) v0), y2.Gone⟩ : ApiChange)] : List ApiChange)), (List.drop (Int.toNat v7) v0), v17, (IntKind.wrap .i64 (v18 + 1)), ad1, cap1) _ _ (Nat.lt_succ_self _) ⟨(hk.drop 0).sub ⟨rfl, rfl, rfl, rfl, trivial⟩, h⟩
          · intro K' hK19
            refine FW.wreg ?_; intro K' hK29
            refine FW.lfun (y := .lit (.int .i64 (IntKind.wrap .i64 t3))) hk rfl rfl rfl rfl (FW.f_move hk (FW.holds_nil _) rfl) ?_; clear hk; intro a w hk
            refine FW.lfun (y := .lit (.bool (decide ((IntKind.wrap .i64 t3) = 65535)))) hk rfl rfl rfl rfl ((FW.f_pure (FW.p_eql hk.kn (FW.holds_nil _) rfl rfl))) ?_; clear hk; intro a w hk
            refine FW.lend (hK29 _ _ ?_); clear hK29 K'
            refine FW.wcondF (b := (decide ((IntKind.wrap .i64 t3) = 65535))) hk h rfl (fun h hb => ?_) (fun h hb => ?_)
            · skip
              refine FW.wreg ?_; intro K' hK30
              refine FW.lfun (y := .lit (.pointer (some ⟨bx1, 2, none⟩))) hk rfl rfl rfl rfl (FW.f_fieldPtr hk (FW.holds_nil _) rfl Go.Proofs.Tryz.underlying29 rfl (by kernel_rfl) rfl) ?_; clear hk; intro a w hk
              refine FW.l_store (I' := [FW.blk bx1 29 ((ApiChange.cells (⟨t2, [], true⟩ : ApiChange))), FW.orow xd1 xc1 29 3 ApiChange.cells l1]) (cs' := (ApiChange.cells (⟨t2, [], true⟩ : ApiChange))) (j := 0) hk rfl rfl rfl rfl rfl (by kernel_rfl) rfl rfl ?_; clear hk; intro w hk
              refine FW.lend (hK30 _ _ ?_); clear hK30 K'
              refine FW.wreg1 ?_
              refine FW.lfun (y := .lit (.int .i64 0)) hk rfl rfl rfl rfl (FW.f_assign hk (FW.holds_nil _) rfl) ?_; clear hk; intro a w hk
              refine wpList_nil ?_
              (repeat first | refine FW.then_normal ?_ | refine FW.block_normal ?_); exact hK19 _ _ ⟨(⟨t2, [], true⟩ : ApiChange), (List.drop (Int.toNat 10) v0), 0, v17, v18, hk.sub ⟨rfl, rfl, rfl, rfl, rfl, rfl, trivial⟩, h⟩
            refine wp_skip ?_
            (repeat first | refine FW.then_normal ?_ | refine FW.block_normal ?_); exact hK19 _ _ ⟨(⟨t2, [], false⟩ : ApiChange), (List.drop (Int.toNat 10) v0), (IntKind.wrap .i64 t3), v17, v18, hk.sub ⟨rfl, rfl, rfl, rfl, rfl, rfl, trivial⟩, h⟩
  refine wp_exit ?_; (repeat first | refine FW.then_exit ?_ | refine FW.block_exit_ne rfl ?_); refine FW.block_exit ?_
  (repeat first | refine FW.then_normal ?_ | refine FW.block_normal ?_); refine hK8 _ _ ?_
  refine FW.wseq ?_; intro K' hK32
  refine FW.wreg ?_; intro K' hK33
  refine FW.lfun (y := .lit (.string (FW.B v0))) hk rfl rfl rfl rfl (FW.f_move hk (FW.holds_nil _) rfl) ?_; clear hk; intro a w hk
  refine FW.lfun (y := .lit (.bool (!decide (v0 = ([] : List UInt8))))) hk rfl rfl rfl rfl ((FW.f_pure (FW.p_sneq hk.kn (FW.holds_nil _) rfl rfl))) ?_; clear hk; intro a w hk
  refine FW.lend (hK33 _ _ ?_); clear hK33 K'
  refine FW.wcondF (b := (!decide (v0 = ([] : List UInt8)))) hk h rfl (fun h hb => ?_) (fun h hb => ?_)
  · skip
    refine FW.wreg ?_; intro K' hK34
    refine FW.lfun (y := .row (r_ApiChange_cells [])) hk rfl rfl rfl rfl (FW.f_assignNil) ?_; clear hk; intro a w hk
    refine FW.lfun (y := .lit (.int .i64 5)) hk rfl rfl rfl rfl (FW.f_assign hk (FW.holds_nil _) rfl) ?_; clear hk; intro a w hk
    refine FW.lend (hK34 _ _ ?_); clear hK34 K'
    refine wp_ret ?_
    (repeat first | refine FW.then_ret ?_ | refine FW.block_ret ?_)
    obtain rfl := Option.some.inj h
    exact FW.fret2 hk rfl rfl rfl
  refine wp_skip ?_
  (repeat first | refine FW.then_normal ?_ | refine FW.block_normal ?_); refine hK32 _ _ ?_
  refine FW.wreg ?_; intro K' hK35
  refine FW.lfun (y := .lit (.slice xd1 (List.length l1) xc1)) hk rfl rfl rfl rfl (FW.f_move hk (FW.holds_nil _) rfl) ?_; clear hk; intro a w hk
  refine FW.lfun (y := .lit (.slice xd1 (List.length l1) xc1)) hk rfl rfl rfl rfl (FW.f_assign hk (FW.holds_nil _) rfl) ?_; clear hk; intro a w hk
  refine FW.lfun (y := .lit (.int .i64 0)) hk rfl rfl rfl rfl (FW.f_assign hk (FW.holds_nil _) rfl) ?_; clear hk; intro a w hk
  refine FW.lend (hK35 _ _ ?_); clear hK35 K'
  refine wp_ret ?_
  (repeat first | refine FW.then_ret ?_ | refine FW.block_ret ?_)
  replace hk := FW.S.freezeR2 (I' := []) r_ApiChange_cells_eq hk (j := 0) rfl (t := 2) (t' := 5) rfl rfl rfl
  obtain rfl := Option.some.inj h
  exact FW.fret2 hk rfl rfl rfl
end Go.Proofs.YtfbkgaandmebaaaGreat

/- slices.Sorted(maps.Keys(m)) at keys that are uint64, at most twelve of them. -/
import Derived.Test.YtaoffkhflmndhaaHs
import Derived.Test.YtaoffkhflmndhaaInP0
import Derived.Test.YtaoffkhflmndhaaPureIns
namespace Go.Proofs.Ytaoffkhflmndhaa
variable {Df : List Deferred}
open Go.RowKit Go.Maps Go.Sort Go.Shelf Go.MapKept
set_option linter.unusedVariables false
set_option linter.unusedSectionVars false
attribute [local go_sem] Oper.semAt_some
theorem flatU (l : List Int) : (l.map c_u64).flatten = (l.map encU).map FW.AV.lit := by
  induction l with
  | nil => rfl
  | cons x l ih => simp [c_u64, encU] at ih ⊢; exact ih
theorem repU {ok : Nat → Prop} {w : World} : ∀ l : List Int, FW.RepL ok w (l.map c_u64).flatten (l.map encU)
  | [] => FW.repL_nil
  | x :: l => FW.repL_cons (FW.rep_lit rfl) (repU l)
theorem ownsRow_form {W : World} {base : Nat} {e : TypeId} {size : Nat} {v : Value} {k : Nat} {xs : List Value} (h : W.ownsRow base e size v k xs) : ∃ ad cap, v = .slice ad k cap := by
  rcases h.2 with ⟨rfl, h0⟩ | ⟨g, cap, cur, rfl, _⟩
  · exact ⟨none, 0, by rw [h0]⟩
  · exact ⟨_, cap, rfl⟩
theorem sortU {base : Nat} {W : World} {v : Value} {ss : List Int} (hrow : W.ownsRow base 29 1 v ss.length (ss.map encU)) (hl : ss.length ≤ 12) (hb : base ≤ W.heap.size) :
    Calls Try.prog 24 #[v] W fun e W' => e = .returned (.tuple #[]) ∧ W'.ownsRow base 29 1 v ss.length ((ss.mergeSort fun x y => decide (x ≤ y)).map encU) ∧ Below base W W' := by
  obtain ⟨ad, cap, hv⟩ : ∃ ad cap, v = .slice ad ss.length cap := by
    rcases hrow.2 with ⟨rfl, h0⟩ | ⟨g, cap, cur, rfl, _⟩
    · exact ⟨none, 0, by rw [h0]⟩
    · exact ⟨_, cap, rfl⟩
  subst hv
  have hrow0 : W.ownsRow 0 29 1 (.slice ad ss.length cap) ss.length (ss.map encU) := ⟨hrow.1, hrow.2.imp id fun ⟨g, c, cur, h1, h2, h3⟩ => ⟨g, c, cur, h1, Nat.zero_le _, h3⟩⟩
  have hlt : ∀ k, Value.ownBlock (.slice ad ss.length cap) = some k → base ≤ k ∧ k < W.heap.size := by
    intro k hk
    rcases hrow.2 with ⟨h1, _⟩ | ⟨g, c, cur, h1, h2, h3, _⟩
    · rw [h1] at hk; cases hk
    · rw [h1] at hk; simp [Value.ownBlock] at hk; subst hk; exact ⟨h2, FW.heap_lt h3⟩
  have hown : FW.Own (fun _ => False) ⟨W, FW.footL (ORow49.items 0 ad cap ss)⟩ W (ORow49.items 0 ad cap ss) := by
    refine ⟨FW.Frm.refl _ _, fun k h => h.elim, fun i it hi => ?_, fun i j x y hij hi hj => ?_, fun k h => h.elim⟩
    · obtain ⟨rfl, rfl⟩ : i = 0 ∧ it = FW.orow ad cap 29 1 c_u64 ss := by
        cases i with
        | zero => exact ⟨rfl, by simpa using hi.symm⟩
        | succ i => simp at hi
      exact ⟨⟨fun _ => rfl, _, hrow0, repU ss⟩, fun k hk => ⟨.inr ⟨_, List.mem_singleton.2 rfl, hk⟩, (hlt k hk).2⟩⟩
    · cases i with
      | succ i => simp at hi
      | zero => cases j with
        | succ j => simp at hj
        | zero => exact absurd rfl hij
  refine (slices_Sort_uint64_uint64.ok 202 ss _ (sort_few ss hl) 0 ad cap (fun _ => False) W #[.slice ad ss.length cap] hown (FW.repL_cons (FW.rep_lit rfl) FW.repL_nil)).mono ?_
  rintro e W' ⟨u, y, I', rfl, ⟨rfl, rfl⟩, ho, hr⟩
  have hu : u = .tuple #[] := by
    simp only [FW.Rep] at hr
    obtain ⟨vs, rfl, h⟩ := hr
    simp only [FW.RepL] at h
    exact congrArg _ (Array.ext' h)
  obtain ⟨_, vals, hr1, hL⟩ := ho.get (j := 0) rfl
  rw [flatU] at hL
  have hvals := FW.repL_lits_eq hL
  subst hvals
  have hlen : (ss.mergeSort fun x y => decide (x ≤ y)).length = ss.length := by simp
  rw [hlen] at hr1
  refine ⟨by rw [hu], ⟨hr1.1, ?_⟩, ho.frm.os, ho.frm.tape, ho.frm.output, ho.frm.size, fun k hk => ?_⟩
  · rcases hr1.2 with h | ⟨g, c, cur, h1, h2, h3⟩
    · exact .inl h
    · exact .inr ⟨g, c, cur, h1, (hlt g (by rw [h1]; rfl)).1, h3⟩
  · by_cases hk2 : k < W.heap.size
    · refine ho.frm.block k hk2 fun hf => ?_
      obtain ⟨it, hit, hf⟩ := hf
      simp only [ORow49.items, List.mem_singleton] at hit
      subst hit
      have := (hlt k hf).1
      omega
    · omega
set_option maxRecDepth 100000 in
set_option maxHeartbeats 2000000 in
theorem collectU {H : Type} (F : Fence) (n : Nat) (hC : F.fn 23) (hA : F.fn 27) (hF : F.fn 25) (hro : F.round = none) (hn : 4 ≤ n) (Bm b nn : Nat) (D0 : DataW H) {R : Value → Option (DataW H × List MemPlace)} (ks : List Int) (hks : ∀ x, Maps.has D0 (.int .u64 x) = true ↔ x ∈ ks) (hkn : ks.Nodup) (hsz : Maps.size D0 ≤ 1000000) (w : World) (hBm : Bm < w.heap.size)
    (hm : w.cell? ⟨Bm, 0, none⟩ = some (.map (some b))) (hown : w.ownsMap Try.prog 29 R b nn D0) :
    CallsIn F n Try.prog 23 #[.func (.func 25) #[] #[.pointer (some ⟨Bm, 0, none⟩)]] w fun e W' => ∃ (v : Value) (ss : List Int), e = .returned v ∧ ss.Perm ks ∧ W'.ownsRow w.heap.size 29 1 v ss.length (ss.map encU) ∧ Below w.heap.size w W' := by
  have h1 : 1 ≤ n := by omega
  refine callsIn_of_wp Try.func23 rfl hC ?_ hro
  simp only [Try.ntmps23, List.size_toArray, List.length_cons, List.length_nil, Nat.reduceAdd, Nat.reduceSub, Array.replicate_succ, Array.replicate_zero, List.push_toArray, List.append_toArray, List.nil_append, List.cons_append]
  gi_wp2_with (gi_at_call 27; refine (appendSeqU F (n - 1) hA hF hro (by omega) Bm b nn D0 ks hks hkn hsz _ hBm hm hown).mono ?_; rintro e w' ⟨v, ss, rfl, hS, hrow, hb⟩; obtain ⟨ad, cap, rfl⟩ := ownsRow_form hrow)
  go_ret
  exact ⟨_, ss, rfl, hS, hrow, hb⟩
set_option maxRecDepth 100000 in
set_option maxHeartbeats 2000000 in
theorem sortedU {H : Type} (n : Nat) (hn : 5 ≤ n) (Bm b nn : Nat) (D0 : DataW H) {R : Value → Option (DataW H × List MemPlace)} (ks : List Int) (hks : ∀ x, Maps.has D0 (.int .u64 x) = true ↔ x ∈ ks) (hkn : ks.Nodup) (hsz : Maps.size D0 ≤ 1000000) (hlen : ks.length ≤ 12) (w : World) (hBm : Bm < w.heap.size)
    (hm : w.cell? ⟨Bm, 0, none⟩ = some (.map (some b))) (hown : w.ownsMap Try.prog 29 R b nn D0) :
    CallsIn Fence.wide n Try.prog 19 #[.func (.func 25) #[] #[.pointer (some ⟨Bm, 0, none⟩)]] w fun e W' => ∃ (v : Value) (ss : List Int), e = .returned v ∧ ss.Perm ks ∧ W'.ownsRow w.heap.size 29 1 v ss.length ((ss.mergeSort fun x y => decide (x ≤ y)).map encU) ∧ Below w.heap.size w W' := by
  have hC : Fence.wide.fn 23 := trivial
  have hT : Fence.wide.fn 24 := trivial
  have h1 : 1 ≤ n := by omega
  refine callsIn_of_wp Try.func19 rfl trivial ?_ rfl
  simp only [Try.ntmps19, List.size_toArray, List.length_cons, List.length_nil, Nat.reduceAdd, Nat.reduceSub, Array.replicate_succ, Array.replicate_zero, List.push_toArray, List.append_toArray, List.nil_append, List.cons_append]
  gi_wp2_with (first
    | (gi_at_call 23; refine (collectU Fence.wide (n - 1) trivial trivial trivial rfl (by omega) Bm b nn D0 ks hks hkn hsz _ hBm hm hown).mono ?_; rintro e W ⟨v, ss, rfl, hS, hrow, hb⟩; obtain ⟨ad, cap, rfl⟩ := ownsRow_form hrow)
    | (gi_at_call 24; refine (callsIn_wide.2 (sortU hrow (by rw [hS.length_eq]; exact hlen) hb.size)).mono ?_; rintro e w' ⟨rfl, hr2, hb2⟩))
  go_ret
  exact ⟨_, ss, rfl, hS, hr2, hb.trans hb2⟩
theorem keysU_in (F : Fence) (n : Nat) (hF : F.fn 20) (hro : F.round = none) (mb : Option Nat) (w : World) :
    CallsIn F n Try.prog 20 #[.map mb] w fun e w' => e = .returned (.func (.func 25) #[] #[.pointer (some ⟨w.heap.size, 0, none⟩)]) ∧ w' = w.alloc (.cells #[.map mb] 43) := by
  refine callsIn_of_wp Try.func20 rfl hF ?_ hro
  simp only [Try.ntmps20, List.size_toArray, List.length_cons, List.length_nil, Nat.reduceAdd, Nat.reduceSub, Array.replicate_succ, Array.replicate_zero, List.push_toArray, List.append_toArray, List.nil_append, List.cons_append]
  gi_wp2
  go_ret
  exact ⟨rfl, rfl⟩
namespace FW
def anyR {H : Type} (_ : Value) : Option (DataW H × List MemPlace) := some (.lit (.bool true), [])
theorem keyOf_u {x : Int} (hx : 0 ≤ x ∧ x ≤ 18446744073709551615) : keyOf Try.prog 29 (.int .u64 x) = some (.int .u64 x) := by
  have hw : (Lit.int .u64 x).wf = true := by
    simp only [Lit.wf, Bool.and_eq_true, decide_eq_true_eq]
    exact hx
  simp [keyOf, Try.underlying29, mapKey, hw]
section
variable {ν : Type} {ev : ν → Value} {b Bm : Nat} {m : List (Int × ν)} {W : World} {es : Array MapEntry} {clock : Nat}
theorem keysU_all (hk : keysU m = true) : (∀ p ∈ m, 0 ≤ p.1 ∧ p.1 ≤ 18446744073709551615) ∧ m.length ≤ 12 := by
  simpa [keysU, List.all_eq_true] using hk
theorem ents_key (h : MapP (.int .u64) (Value.int .u64) ev b m W es clock) {x : MapEntry} (hx : x ∈ es.toList) : ∃ p ∈ m, x.key = .int .u64 p.1 := by
  have : (x.key, x.val) ∈ es.toList.map fun e => (e.key, e.val) := List.mem_map.2 ⟨x, hx, rfl⟩
  rw [h.ents] at this
  obtain ⟨p, hp, he⟩ := List.mem_map.1 this
  injection he with h1 _
  exact ⟨p, hp, h1.symm⟩
theorem key_ents (h : MapP (.int .u64) (Value.int .u64) ev b m W es clock) {p : Int × ν} (hp : p ∈ m) : ∃ x ∈ es.toList, x.key = .int .u64 p.1 := by
  have : (Value.int .u64 p.1, ev p.2) ∈ m.map fun p => (Value.int .u64 p.1, ev p.2) := List.mem_map.2 ⟨p, hp, rfl⟩
  rw [← h.ents] at this
  obtain ⟨x, hx, he⟩ := List.mem_map.1 this
  injection he with h1 _
  exact ⟨x, hx, h1⟩
theorem reads_key {H : Type} (h : MapP (.int .u64) (Value.int .u64) ev b m W es clock) (hk : keysU m = true) {x : MapEntry} {p : Int × ν} (hp : p ∈ m) (he : x.key = .int .u64 p.1) :
    WideElems.rd (H := H) Try.prog 29 anyR x = some (.int .u64 p.1, .lit (.bool true)) := by
  simp [WideElems.rd, he, keyOf_u ((keysU_all hk).1 p hp), anyR]
theorem fitM {H : Type} (h : MapP (.int .u64) (Value.int .u64) ev b m W es clock) (hk : keysU m = true) : WideElems.Fit (H := H) Try.prog 29 anyR es clock := by
  refine ⟨?_, h.stamped, fun x hx => ?_⟩
  · rw [h.len]
    have := (keysU_all hk).2
    unfold maxLen; omega
  · obtain ⟨p, hp, he⟩ := ents_key h hx
    exact ⟨_, reads_key h hk hp he⟩
theorem has_key {H : Type} (h : MapP (.int .u64) (Value.int .u64) ev b m W es clock) (hk : keysU m = true) (x : Int) : Maps.has (.map ((es.toList.map (WideElems.rg (H := H) Try.prog 29 anyR)).foldr DataW.insert []) : DataW H) (.int .u64 x) = true ↔ x ∈ m.map (·.1) := by
  have hperm := WideShapes.sorted_perm (es.toList.map (WideElems.rg (H := H) Try.prog 29 anyR))
  rw [Maps.has_eq, List.any_eq_true]
  constructor
  · rintro ⟨q, hq, hs⟩
    obtain ⟨e, he, rfl⟩ := List.mem_map.1 (hperm.mem_iff.1 hq)
    obtain ⟨p, hp, hpk⟩ := ents_key h he
    have hr := reads_key (H := H) h hk hp hpk
    simp only [WideElems.rg, hr, Option.getD_some, Lit.sameKey] at hs
    have : p.1 = x := by simpa using hs
    exact List.mem_map.2 ⟨p, hp, this⟩
  · intro hx
    obtain ⟨p, hp, rfl⟩ := List.mem_map.1 hx
    obtain ⟨e, he, hpk⟩ := key_ents h hp
    have hr := reads_key (H := H) h hk hp hpk
    refine ⟨_, hperm.mem_iff.2 (List.mem_map.2 ⟨e, he, rfl⟩), ?_⟩
    simp [WideElems.rg, hr, Lit.sameKey]
theorem sortedKeys (h : MapP (.int .u64) (Value.int .u64) ev b m W es clock) (hBm : Bm < W.heap.size) (hm : W.cell? ⟨Bm, 0, none⟩ = some (.map (some b))) (hk : keysU m = true) :
    Calls Try.prog 19 #[.func (.func 25) #[] #[.pointer (some ⟨Bm, 0, none⟩)]] W fun e w' => ∃ v, e = .returned v ∧ New W w' ∧ ∀ ok : Nat → Prop, (∀ k, W.heap.size ≤ k → ok k) → Rep ok w' (.row ((sortK m).map fun x => [.lit (.int .u64 x)])) v := by
  have hown : W.ownsMap Try.prog 29 anyR b es.size (.map ((es.toList.map (WideElems.rg (H := Nat) Try.prog 29 anyR)).foldr DataW.insert []) : DataW Nat) := World.ownsMap_of_fit h.at_ (fitM (H := Nat) h hk) (fun _ _ _ h => h)
  have hlen : Maps.size (.map ((es.toList.map (WideElems.rg (H := Nat) Try.prog 29 anyR)).foldr DataW.insert []) : DataW Nat) = m.length := by rw [size_eq, length_read, h.len]
  have h12 := (keysU_all hk).2
  refine ((callsIn_wide (n := 5)).1 (sortedU (H := Nat) 5 (by omega) Bm b es.size (.map ((es.toList.map (WideElems.rg (H := Nat) Try.prog 29 anyR)).foldr DataW.insert []) : DataW Nat) (m.map (·.1)) (has_key h hk) h.nodup (by rw [hlen]; omega) (by simpa using h12) W hBm hm hown)).mono ?_
  rintro e w' ⟨v, ss, rfl, hS, hrow, hb⟩
  refine ⟨v, rfl, New.of_below hb, fun ok hok => ?_⟩
  have hsort : (ss.mergeSort fun x y => decide (x ≤ y)) = sortK m := by
    have hs : Srt (ss.mergeSort fun x y => decide (x ≤ y)) := by
      have := List.pairwise_mergeSort (le := fun x y : Int => decide (x ≤ y)) (fun a b c h1 h2 => by simp only [decide_eq_true_eq] at *; omega) (fun a b => by simp only [Bool.or_eq_true, decide_eq_true_eq]; omega) ss
      exact this.imp fun h => by simpa using h
    exact sorted_unique ((List.mergeSort_perm ss _).trans hS) hs
  rw [hsort] at hrow
  have hsl : (sortK m).length = ss.length := by rw [← hsort]; simp
  simp only [Rep, List.length_map]
  rcases hrow.2 with ⟨hv, hn⟩ | ⟨g, cap, cur, hv, hg, hh, hle, hcm, hcs, htk⟩
  · refine ⟨none, 0, by rw [hv, hsl, hn], by rw [hsl, hn]; exact Nat.le_refl _, .inl ?_⟩
    have : (sortK m).length = 0 := hsl.trans hn
    rw [List.eq_nil_of_length_eq_zero this]; rfl
  · refine ⟨some ⟨g, 0, none⟩, cap, by rw [hv, hsl], by rw [hsl]; exact hle, .inr ⟨g, 0, cur, _, _, rfl, hok g hg, hh, ?_⟩⟩
    have h1 := repR_one (ok := ok) (w := w') (fun x => Value.int .u64 x) (sortK m) (cur.toList.drop (ss.length * 1))
    have h2 : (sortK m).map (fun x => Value.int .u64 x) ++ cur.toList.drop (ss.length * 1) = cur.toList := by
      have h3 : cur.toList.take (ss.length * 1) = (sortK m).map encU := htk
      rw [← h3, List.take_append_drop]
    rw [h2] at h1
    simpa using h1
end
section
variable {M : Nat → Prop} {w0 : Bs} {w : World} {a : Act} {n : Nat} {I : List It} {σ : St} {ty : TypeId} {pos : String} {aft : Array Edge} {x : Operand} {ops : Array Oper} {Q : Exit → Act → World → Prop} {rest : List Oper} {d j i : Nat} {tys : Array TypeId}
  {ν : Type} {ev : ν → Value} {r Bm : Nat} {m : List (Int × ν)} {R : List Int → List (List AV)}
theorem l_keysU (hk : S M w0 a w n I σ Df) (hn : Nat.blt d n = true) (hf : chFree σ d = true) (hx : opvc σ [] x = some (.lit (.map (some r))))
    (h : ∀ b a' w', S M w0 a' w' n (blk b 43 [.lit (.map (some r))] :: I) ((d, [], .lit (.func (.func 25) #[] #[.pointer (some ⟨b, 0, none⟩)])) :: σ) Df → wpList Try.prog ops Q rest a' w') :
    wpList Try.prog ops Q (⟨some d, .call { callee := .value (.func 20), args := #[x], argTypes := tys }, ty, pos, aft, none⟩ :: rest) a w := by
  have hc : Calls Try.prog 20 #[.map (some r)] w fun e w' => e = .returned (.func (.func 25) #[] #[.pointer (some ⟨w.heap.size, 0, none⟩)]) ∧ w' = w.alloc (.cells #[.map (some r)] 43) :=
    (callsIn_wide (n := 5)).1 (keysU_in Fence.wide 5 trivial rfl (some r) w)
  refine leffcall (R := fun v w' => v = .func (.func 25) #[] #[.pointer (some ⟨w.heap.size, 0, none⟩)] ∧ w' = w.alloc (.cells #[.map (some r)] 43)) hk rfl rfl hn hf (run_call (f := .func 20) rfl (by simp [hk.kn.val (holds_nil a) hx]) Try.func20 (by kernel_rfl) (by kernel_rfl)) (hc.mono fun e w' ⟨he, hw⟩ => ⟨_, he, rfl, hw⟩) ?_
  rintro v w' ⟨rfl, rfl⟩
  have hfoot : ∀ k, (blk w.heap.size 43 [.lit (.map (some r))]).foot k → w.heap.size ≤ k ∧ k < (w.alloc (.cells #[.map (some r)] 43)).heap.size := by
    intro k hk'
    have hk' : k = w.heap.size := hk'
    subst hk'
    simp
  exact ⟨_, _, hk.push (it' := blk w.heap.size 43 [.lit (.map (some r))]) (New.alloc w _) ⟨#[.map (some r)], heap_alloc_new w _, repL_cons (rep_lit rfl) repL_nil⟩ hfoot, rep_lit rfl, fun a' h' => h _ a' _ h'⟩
theorem l_sortedU (hR : ∀ l, R l = l.map fun x => [.lit (.int .u64 x)]) (hk : S M w0 a w n I σ Df) (hn : Nat.blt d n = true) (hf : chFree σ d = true) (hj : I[j]? = some (mapI (.int .u64) (Value.int .u64) ev r m)) (hi : I[i]? = some (blk Bm 43 [.lit (.map (some r))]))
    (hx : opvc σ [] x = some (.lit (.func (.func 25) #[] #[.pointer (some ⟨Bm, 0, none⟩)]))) (hc : keysU m = true)
    (h : ∀ a' w', S M w0 a' w' n I ((d, [], .row (R (sortK m))) :: σ) Df → wpList Try.prog ops Q rest a' w') :
    wpList Try.prog ops Q (⟨some d, .call { callee := .value (.func 19), args := #[x], argTypes := tys }, ty, pos, aft, none⟩ :: rest) a w := by
  obtain ⟨es, clock, hm⟩ := hk.own.get hj
  obtain ⟨arr, hh, hL⟩ := hk.own.get hi
  have hcell : w.cell? ⟨Bm, 0, none⟩ = some (.map (some r)) := by
    obtain ⟨v, hv, hr⟩ := hL.get (i := 0) rfl
    simp only [Rep] at hr
    subst hr
    rw [cell_of_row w Bm 0 arr _ (0, 0) hh]; simpa using hv
  refine leffcall (R := fun v w' => New w w' ∧ ∀ ok : Nat → Prop, (∀ k, w.heap.size ≤ k → ok k) → Rep ok w' (.row ((sortK m).map fun x => [.lit (.int .u64 x)])) v) hk rfl rfl hn hf (run_call (f := .func 19) rfl (by simp [hk.kn.val (holds_nil a) hx]) Try.func19 (by kernel_rfl) (by kernel_rfl)) ((sortedKeys hm (heap_lt hh) hcell hc).mono fun e w' ⟨v, he, h1, h2⟩ => ⟨v, he, h1, h2⟩) ?_
  rintro v w' ⟨hw, hr⟩
  refine ⟨I, .row (R (sortK m)), hk.fresh hw, ?_, fun a' h' => h a' w' h'⟩
  rw [hR]
  refine hr _ fun k hk' => ?_
  false_or_by_contra
  rename_i hn'
  exact absurd (hk.own.bound k hn') (by omega)
end
end FW
/-- A nil transaction's copy. -/
theorem copyNil.ok : FW.Ok Try.prog 16 [.lit (.pointer none)] (.lit (.pointer none)) := by
  refine FW.enter (xs := [.lit (.pointer none)]) Try.func16 rfl Try.ntmps16 rfl ?_
  intro M w0 a hk
  refine FW.wreg ?_; intro K' hK1
  refine FW.lfun (y := .lit (.pointer none)) hk rfl rfl rfl rfl (FW.f_assign hk (FW.holds_nil _) rfl) ?_; clear hk; intro a w hk
  refine FW.lend (hK1 _ _ ?_); clear hK1 K'
  refine FW.wseq ?_; intro K' hK2
  refine FW.wreg ?_; intro K' hK3
  refine FW.lfun (y := .lit (.pointer none)) hk rfl rfl rfl rfl (FW.f_move hk (FW.holds_nil _) rfl) ?_; clear hk; intro a w hk
  refine FW.lfun (y := .lit (.bool true)) hk rfl rfl rfl rfl ((FW.f_pure (FW.p_ptrEq Try.underlying25 hk.kn (FW.holds_nil _) rfl rfl rfl))) ?_; clear hk; intro a w hk
  refine FW.lend (hK3 _ _ ?_); clear hK3 K'
  refine FW.wcondT hk rfl ?_
  refine FW.wreg ?_; intro K' hK4
  refine FW.lfun (y := .lit (.pointer none)) hk rfl rfl rfl rfl (FW.f_assign hk (FW.holds_nil _) rfl) ?_; clear hk; intro a w hk
  refine FW.lend (hK4 _ _ ?_); clear hK4 K'
  refine wp_ret ?_
  (repeat first | refine FW.then_ret ?_ | refine FW.block_ret ?_)
  exact FW.fret1 hk rfl rfl
end Go.Proofs.Ytaoffkhflmndhaa

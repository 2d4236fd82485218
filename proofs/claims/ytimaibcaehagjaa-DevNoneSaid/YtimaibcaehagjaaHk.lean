/- slices.Sorted(maps.Keys(m)), at a map of the call's own. -/
import Derived.Test.YtimaibcaehagjaaHl
import Derived.Test.YtimaibcaehagjaaIter
import Derived.Maps.OwnSet
namespace Go.Proofs.Ytimaibcaehagjaa
variable {Df : List Deferred}
open Go.RowKit Go.Maps Go.Sort Go.Shelf Go.MapKept
set_option linter.unusedVariables false
set_option linter.unusedSectionVars false
theorem sortsA (m : Nat) : AnyZI.SortsIn Try.prog Try.sortedA_ren Fence.wide m :=
  ⟨fun blk off cap ss W hH hblk hsz => callsIn_wide.2 (AnyM.slices_Sort_int Try.sortA blk off cap ss W hH hblk hsz),
   fun p cap W => callsIn_wide.2 (AnyM.slices_Sort_int_none Try.sortA p cap W)⟩
namespace FW
def in64 (x : Int) : Bool := decide (-9223372036854775808 ≤ x) && decide (x ≤ 9223372036854775807)
/-- A map's keys, sorted. -/
def sortK {ν : Type} (m : List (Int × ν)) : List Int := (m.map (·.1)).mergeSort fun x y => decide (x ≤ y)
def keysOk {ν : Type} (m : List (Int × ν)) : Bool := (m.all fun p => in64 p.1) && decide (m.length ≤ 1000000000000)
def anyR {H : Type} (_ : Value) : Option (DataW H × List MemPlace) := some (.lit (.bool true), [])
theorem keyOf_in {P : Program} {k : TypeId} (hk : P.underlying k = some (.int .i64)) {x : Int} (hx : in64 x = true) : keyOf P k (.int .i64 x) = some (.int .i64 x) := by
  simp only [in64, Bool.and_eq_true, decide_eq_true_eq] at hx
  have hw : (Lit.int .i64 x).wf = true := by
    simp only [Lit.wf, Bool.and_eq_true, decide_eq_true_eq]
    exact hx
  simp [keyOf, hk, mapKey, hw]
section
variable {ν : Type} {ev : ν → Value} {b Bm : Nat} {m : List (Int × ν)} {W : World} {es : Array MapEntry} {clock : Nat}
theorem ents_key (h : MapP (.int .i64) (Value.int .i64) ev b m W es clock) {x : MapEntry} (hx : x ∈ es.toList) : ∃ p ∈ m, x.key = .int .i64 p.1 := by
  have : (x.key, x.val) ∈ es.toList.map fun e => (e.key, e.val) := List.mem_map.2 ⟨x, hx, rfl⟩
  rw [h.ents] at this
  obtain ⟨p, hp, he⟩ := List.mem_map.1 this
  injection he with h1 _
  exact ⟨p, hp, h1.symm⟩
theorem reads_key {H : Type} (h : MapP (.int .i64) (Value.int .i64) ev b m W es clock) (hk : keysOk m = true) {x : MapEntry} (hx : x ∈ es.toList) {p : Int × ν} (hp : p ∈ m) (he : x.key = .int .i64 p.1) :
    WideElems.rd (H := H) Try.prog 3 anyR x = some (.int .i64 p.1, .lit (.bool true)) := by
  simp only [keysOk, Bool.and_eq_true, List.all_eq_true] at hk
  simp [WideElems.rd, he, keyOf_in Try.underlying3 (hk.1 p hp), anyR]
theorem fitM {H : Type} (h : MapP (.int .i64) (Value.int .i64) ev b m W es clock) (hk : keysOk m = true) : WideElems.Fit (H := H) Try.prog 3 anyR es clock := by
  refine ⟨?_, h.stamped, fun x hx => ?_⟩
  · rw [h.len]
    simp only [keysOk, Bool.and_eq_true, decide_eq_true_eq] at hk
    have := hk.2
    unfold maxLen; omega
  · obtain ⟨p, hp, he⟩ := ents_key h hx
    exact ⟨_, reads_key h hk hx hp he⟩
theorem keysPerm {H : Type} (h : MapP (.int .i64) (Value.int .i64) ev b m W es clock) (hk : keysOk m = true) : (intKeys (.map ((es.toList.map (WideElems.rg (H := H) Try.prog 3 anyR)).foldr DataW.insert []))).Perm (m.map (·.1)) := by
  show (List.map _ _).Perm _
  have h1 := (WideShapes.sorted_perm (es.toList.map (WideElems.rg (H := H) Try.prog 3 anyR))).map fun p => Go.intOf p.1
  refine h1.trans ?_
  have h2 : ((es.toList.map (WideElems.rg (H := H) Try.prog 3 anyR)).map fun p => Go.intOf p.1) = (es.toList.map (·.key)).map fun v => match v with | .int _ n => n | _ => 0 := by
    rw [List.map_map, List.map_map]
    refine List.map_congr_left fun x hx => ?_
    obtain ⟨p, hp, he⟩ := ents_key h hx
    have hr := reads_key (H := H) h hk hx hp he
    simp [WideElems.rg, hr, he, Go.intOf]
  have h3 : es.toList.map (·.key) = m.map fun p => Value.int .i64 p.1 := by
    have := congrArg (List.map Prod.fst) h.ents
    simpa [Function.comp_def] using this
  rw [h2, h3, List.map_map]
  exact List.Perm.of_eq (List.map_congr_left fun p _ => rfl)
theorem sortedKeys (h : MapP (.int .i64) (Value.int .i64) ev b m W es clock) (hBm : Bm < W.heap.size) (hm : W.cell? ⟨Bm, 0, none⟩ = some (.map (some b))) (hk : keysOk m = true) :
    Calls Try.prog 64 #[.func (.func 92) #[] #[.pointer (some ⟨Bm, 0, none⟩)]] W fun e w' => ∃ v, e = .returned v ∧ New W w' ∧ ∀ ok : Nat → Prop, (∀ k, W.heap.size ≤ k → ok k) → Rep ok w' (.row ((sortK m).map fun x => [.lit (.int .i64 x)])) v := by
  refine (callsIn_wide (n := 5)).1 ?_
  have hfit := fitM (H := Nat) h hk
  have hown : W.ownsMap Try.prog 3 anyR b es.size (.map ((es.toList.map (WideElems.rg (H := Nat) Try.prog 3 anyR)).foldr DataW.insert [])) := World.ownsMap_of_fit h.at_ hfit (fun _ _ _ h => h)
  have hlen : Maps.size (H := Nat) (.map ((es.toList.map (WideElems.rg (H := Nat) Try.prog 3 anyR)).foldr DataW.insert [])) = m.length := by
    rw [size_eq, length_read, h.len]
  have hml : m.length ≤ 1000000000000 := by
    simp only [keysOk, Bool.and_eq_true, decide_eq_true_eq] at hk
    exact hk.2
  have hseq : SeqGives Fence.wide 2 Try.prog 92 #[.pointer (some ⟨Bm, 0, none⟩)] encZ (fun ss => ss.Perm (intKeys (.map ((es.toList.map (WideElems.rg (H := Nat) Try.prog 3 anyR)).foldr DataW.insert [])))) (Maps.size (H := Nat) (.map ((es.toList.map (WideElems.rg (H := Nat) Try.prog 3 anyR)).foldr DataW.insert []))) W :=
    AnyZI.keys_gives (ρ := Try.keysA_ren) { Try.keysA with } Fence.wide _ trivial rfl (by omega) Bm b es.size _ _ hBm hm hown
  have cS := AnyZI.sorted_in Try.sortedA Fence.wide 5 trivial trivial trivial trivial rfl (by omega) (sortsA _) (enters_of Try.func91 (by kernel_rfl) rfl) 92 #[.pointer (some ⟨Bm, 0, none⟩)] trivial (enters_of Try.func92 (by kernel_rfl) rfl) _ _ (by rw [hlen]; unfold maxLen; omega) (by rw [hlen]; omega) _ hseq
  change CallsIn _ _ Try.prog 64 _ _ _ at cS
  refine cS.mono ?_
  rintro e w' ⟨v, ss, rfl, hS, hrow, hnil, hb⟩
  refine ⟨v, rfl, New.of_below hb, fun ok hok => ?_⟩
  have hperm : ss.Perm (m.map (·.1)) := hS.trans (keysPerm h hk)
  have hsort : ss.mergeSort (fun x y => decide (x ≤ y)) = sortK m := mergeSort_of_perm_i hperm
  rw [hsort] at hrow
  have hsl : (sortK m).length = ss.length := by rw [← hsort]; simp
  simp only [Rep, List.length_map]
  rcases hrow.2 with ⟨hv, hn⟩ | ⟨g, cap, cur, hv, hg, hh, hle, hcm, hcs, htk⟩
  · refine ⟨none, 0, by rw [hv, hsl, hn], by rw [hsl, hn]; exact Nat.le_refl _, .inl ?_⟩
    have : (sortK m).length = 0 := hsl.trans hn
    rw [List.eq_nil_of_length_eq_zero this]; rfl
  · refine ⟨some ⟨g, 0, none⟩, cap, by rw [hv, hsl], by rw [hsl]; exact hle, .inr ⟨g, 0, cur, _, _, rfl, hok g hg, hh, ?_⟩⟩
    have h1 := repR_one (ok := ok) (w := w') (fun x => Value.int .i64 x) (sortK m) (cur.toList.drop (ss.length * 1))
    have h2 : (sortK m).map (fun x => Value.int .i64 x) ++ cur.toList.drop (ss.length * 1) = cur.toList := by
      have h3 : cur.toList.take (ss.length * 1) = (sortK m).map encZ := htk
      rw [← h3, List.take_append_drop]
    rw [h2] at h1
    simpa using h1
end
section
variable {M : Nat → Prop} {w0 : Bs} {w : World} {a : Act} {n : Nat} {I : List It} {σ : St} {ty : TypeId} {pos : String} {aft : Array Edge} {x : Operand} {ops : Array Oper} {Q : Exit → Act → World → Prop} {rest : List Oper} {d j i : Nat} {tys : Array TypeId}
  {ν : Type} {ev : ν → Value} {r Bm : Nat} {m : List (Int × ν)} {R : List Int → List (List AV)}
theorem l_keysI (hk : S M w0 a w n I σ Df) (hn : Nat.blt d n = true) (hf : chFree σ d = true) (hx : opvc σ [] x = some (.lit (.map (some r))))
    (h : ∀ b a' w', S M w0 a' w' n (blk b 107 [.lit (.map (some r))] :: I) ((d, [], .lit (.func (.func 92) #[] #[.pointer (some ⟨b, 0, none⟩)])) :: σ) Df → wpList Try.prog ops Q rest a' w') :
    wpList Try.prog ops Q (⟨some d, .call { callee := .value (.func 65), args := #[x], argTypes := tys }, ty, pos, aft, none⟩ :: rest) a w := by
  have hc : Calls Try.prog 65 #[.map (some r)] w fun e w' => e = .returned (.func (.func 92) #[] #[.pointer (some ⟨w.heap.size, 0, none⟩)]) ∧ w' = w.alloc (.cells #[.map (some r)] 107) :=
    (callsIn_wide (n := 5)).1 (AnyZI.keys_in Try.keysA Fence.wide 5 trivial rfl (some r) w)
  refine leffcall (R := fun v w' => v = .func (.func 92) #[] #[.pointer (some ⟨w.heap.size, 0, none⟩)] ∧ w' = w.alloc (.cells #[.map (some r)] 107)) hk rfl rfl hn hf (run_call (f := .func 65) rfl (by simp [hk.kn.val (holds_nil a) hx]) Try.func65 (by kernel_rfl) (by kernel_rfl)) (hc.mono fun e w' ⟨he, hw⟩ => ⟨_, he, rfl, hw⟩) ?_
  rintro v w' ⟨rfl, rfl⟩
  have hfoot : ∀ k, (blk w.heap.size 107 [.lit (.map (some r))]).foot k → w.heap.size ≤ k ∧ k < (w.alloc (.cells #[.map (some r)] 107)).heap.size := by
    intro k hk'
    have hk' : k = w.heap.size := hk'
    subst hk'
    simp
  exact ⟨_, _, hk.push (it' := blk w.heap.size 107 [.lit (.map (some r))]) (New.alloc w _) ⟨#[.map (some r)], heap_alloc_new w _, repL_cons (rep_lit rfl) repL_nil⟩ hfoot, rep_lit rfl, fun a' h' => h _ a' _ h'⟩
theorem l_sortedI (hR : ∀ l, R l = l.map fun x => [.lit (.int .i64 x)]) (hk : S M w0 a w n I σ Df) (hn : Nat.blt d n = true) (hf : chFree σ d = true) (hj : I[j]? = some (mapI (.int .i64) (Value.int .i64) ev r m)) (hi : I[i]? = some (blk Bm 107 [.lit (.map (some r))]))
    (hx : opvc σ [] x = some (.lit (.func (.func 92) #[] #[.pointer (some ⟨Bm, 0, none⟩)]))) (hc : keysOk m = true)
    (h : ∀ a' w', S M w0 a' w' n I ((d, [], .row (R (sortK m))) :: σ) Df → wpList Try.prog ops Q rest a' w') :
    wpList Try.prog ops Q (⟨some d, .call { callee := .value (.func 64), args := #[x], argTypes := tys }, ty, pos, aft, none⟩ :: rest) a w := by
  obtain ⟨es, clock, hm⟩ := hk.own.get hj
  obtain ⟨arr, hh, hL⟩ := hk.own.get hi
  have hcell : w.cell? ⟨Bm, 0, none⟩ = some (.map (some r)) := by
    obtain ⟨v, hv, hr⟩ := hL.get (i := 0) rfl
    simp only [Rep] at hr
    subst hr
    rw [cell_of_row w Bm 0 arr _ (0, 0) hh]; simpa using hv
  refine leffcall (R := fun v w' => New w w' ∧ ∀ ok : Nat → Prop, (∀ k, w.heap.size ≤ k → ok k) → Rep ok w' (.row ((sortK m).map fun x => [.lit (.int .i64 x)])) v) hk rfl rfl hn hf (run_call (f := .func 64) rfl (by simp [hk.kn.val (holds_nil a) hx]) Try.func64 (by kernel_rfl) (by kernel_rfl)) ((sortedKeys hm (heap_lt hh) hcell hc).mono fun e w' ⟨v, he, h1, h2⟩ => ⟨v, he, h1, h2⟩) ?_
  rintro v w' ⟨hw, hr⟩
  refine ⟨I, .row (R (sortK m)), hk.fresh hw, ?_, fun a' h' => h a' w' h'⟩
  rw [hR]
  refine hr _ fun k hk' => ?_
  false_or_by_contra
  rename_i hn'
  exact absurd (hk.own.bound k hn') (by omega)
end
end FW
end Go.Proofs.Ytimaibcaehagjaa

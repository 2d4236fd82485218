/- Arguments as they are handed in: numbers, texts, structs, slices. -/
import Derived.Test.YtaoffkhflmndhaaAvLaw
import Derived.Deep.Slices
import Derived.Laws.Cover2
import Derived.Carry
namespace Go.Proofs.Ytaoffkhflmndhaa
open Go.ChangeShapes Go.WideShapes Go.ChangeAt Go.RowKit
set_option linter.unusedVariables false
set_option linter.unusedSectionVars false
namespace FW
/-- What is read as a datum of a type is told by a value. -/
def OpenT (P : Program) (W : World) (t : TypeId) {α : Type} (f : α → List AV) (Pr : α → Prop) : Prop :=
  ∀ {H : Type} (enc : TypeId × Value → H) (sp : Nat → Bool) (n : Nat) (cs : List Value) (x : DataW H × List MemPlace), DataW.trod enc P W 0 sp true n t cs = some x → ∃ v : α, Pr v ∧ RepL (fun _ => ¬ False) W (f v) cs
section
variable {P : Program} {W : World} {t e : TypeId}
theorem openT_int {k : IntKind} (ht : P.underlying t = some (.int k)) : OpenT P W t (fun n => [.lit (.int k n)]) (fun n => (Lit.int k n).wf = true) := by
  intro H enc sp n cs x h
  obtain ⟨m, rfl, _, hw⟩ := DataW.trod_int ht h
  exact ⟨m, hw, repL_cons (rep_lit rfl) repL_nil⟩
theorem openT_bool (ht : P.underlying t = some .bool) : OpenT P W t (fun b => [.lit (.bool b)]) (fun _ => True) := by
  intro H enc sp n cs x h
  obtain ⟨b, rfl, _⟩ := DataW.trod_bool ht h
  exact ⟨b, trivial, repL_cons (rep_lit rfl) repL_nil⟩
theorem openT_str (ht : P.underlying t = some .string) : OpenT P W t (fun s => [.lit (.string (B s))]) (fun s => s.length ≤ maxLen) := by
  intro H enc sp n cs x h
  obtain ⟨s, rfl, _, hs⟩ := DataW.trod_string ht h
  exact ⟨s.data.toList, by simpa using hs, repL_cons (rep_lit (by rw [B_data])) repL_nil⟩
theorem seg_cons {ok : Nat → Prop} {xs ys : List AV} {cs : List Value} {off m r : Nat} (h : RepL ok W xs ((cs.drop off).take m)) (h' : RepL ok W ys ((cs.drop (off + m)).take r)) : RepL ok W (xs ++ ys) ((cs.drop off).take (m + r)) := by
  rw [List.take_add, List.drop_drop]
  exact h.append h'
theorem seg_all {ok : Nat → Prop} {xs : List AV} {cs : List Value} {m : Nat} (h : RepL ok W xs ((cs.drop 0).take m)) (hl : cs.length = m) : RepL ok W xs cs := by
  rw [List.drop_zero, List.take_of_length_le (by omega)] at h
  exact h
/-- A struct's field. -/
theorem open_fld {H : Type} {enc : TypeId × Value → H} {sp : Nat → Bool} {n : Nat} {cs : List Value} {xs : List (DataW H × List MemPlace)} {fs : Array Field} {α : Type} {f : α → List AV} {Pr : α → Prop} {i : Nat} {fd : Field} {off m : Nat}
    (hx : ∀ (i : Nat) (f : Field), fs[i]? = some f → DataW.trod enc P W 0 sp true n f.type ((cs.drop f.offset).take (P.cellsOf f.type)) = xs[i]?) (hl : xs.length = fs.size) (hf : fs[i]? = some fd) (ho : fd.offset = off) (hm : P.cellsOf fd.type = m) (hO : OpenT P W fd.type f Pr) :
    ∃ v : α, Pr v ∧ RepL (fun _ => ¬ False) W (f v) ((cs.drop off).take m) := by
  have h1 := hx i fd hf
  have hlt : i < xs.length := by
    rw [hl]
    exact (Array.getElem?_eq_some_iff.1 hf).1
  rw [List.getElem?_eq_getElem hlt] at h1
  rw [ho, hm] at h1
  exact hO enc sp n _ _ h1
theorem repR_at {ok : Nat → Prop} {α : Type} {f : α → List AV} {sz : Nat} (hsz : ∀ x, (f x).length = sz) : ∀ (l : List α) (vs : List Value), (∀ (i : Nat) (v : α), l[i]? = some v → RepL ok W (f v) ((vs.drop (i * sz)).take sz)) → RepR ok W (l.map f) vs
  | [], vs, _ => by simp [RepR]
  | x :: l, vs, h => by
    simp only [List.map_cons, RepR]
    refine ⟨?_, ?_⟩
    · have h0 := h 0 x rfl
      rw [Nat.zero_mul, List.drop_zero] at h0
      have := h0.toP (vs.drop sz)
      rwa [List.take_append_drop] at this
    · rw [hsz]
      refine repR_at hsz l _ fun i v hi => ?_
      have := h (i + 1) v (by simpa using hi)
      rw [List.drop_drop]
      rwa [Nat.add_mul, Nat.one_mul, Nat.add_comm] at this
theorem list_of {α : Type} {p : Nat → α → Prop} : ∀ n : Nat, (∀ i, i < n → ∃ v, p i v) → ∃ l : List α, l.length = n ∧ ∀ (i : Nat) (v : α), l[i]? = some v → p i v
  | 0, _ => ⟨[], rfl, fun i v h => by simp at h⟩
  | n + 1, h => by
    obtain ⟨l, hl, hp⟩ := list_of n fun i hi => h i (by omega)
    obtain ⟨v, hv⟩ := h n (by omega)
    refine ⟨l ++ [v], by simp [hl], fun i u hi => ?_⟩
    by_cases hin : i < l.length
    · rw [List.getElem?_append_left hin] at hi; exact hp i u hi
    · rw [List.getElem?_append_right (by omega)] at hi
      have h0 : i - l.length = 0 := by
        have := (List.getElem?_eq_some_iff.1 hi).1
        simp at this; omega
      rw [h0] at hi
      simp only [List.getElem?_cons_zero, Option.some.injEq] at hi
      have : i = n := by omega
      rw [this, ← hi]; exact hv
theorem openT_slice {α : Type} {f : α → List AV} {Pr : α → Prop} {sz : Nat} {R : List α → List (List AV)} (hR : ∀ l, R l = l.map f) (ht : P.underlying t = some (.slice e)) (hc : P.cellsOf e = sz) (hsz : ∀ x, (f x).length = sz) (hpos : 0 < sz) (hO : OpenT P W e f Pr) :
    OpenT P W t (fun l => [.row (R l)]) (fun l => ∀ x ∈ l, Pr x) := by
  intro H enc sp n cs x h
  rcases Go.Deep.open_slice ht h with ⟨rfl, _⟩ | ⟨a, len, cap, m, n', D, Pl, rfl, _, hlc, _, hm, _, hx⟩
  · exact ⟨[], by simp, repL_cons (by rw [hR]; simp only [Rep, List.map_nil]; exact ⟨none, 0, rfl, Nat.le_refl _, .inl trivial⟩) repL_nil⟩
  have hlm : len ≤ m := by
    rw [hm]; split <;> omega
  rw [hc] at hx
  obtain ⟨l, hl, hp⟩ := list_of (α := α) (p := fun i v => Pr v ∧ ∃ cs', W.cells? 0 (a.add (i * sz)) sz = some cs' ∧ RepL (fun _ => ¬ False) W (f v) cs') len (fun i hi => by
    obtain ⟨cs', h1, h2⟩ := hx i (by omega)
    obtain ⟨v, hv, hr⟩ := hO enc sp n' cs' _ h2
    exact ⟨v, hv, cs', h1, hr⟩)
  refine ⟨l, fun x hx' => ?_, ?_⟩
  · obtain ⟨i, hi⟩ := List.mem_iff_getElem?.1 hx'
    exact (hp i x hi).1
  refine repL_cons ?_ repL_nil
  rw [hR]
  simp only [Rep, List.length_map]
  refine ⟨some a, cap, by rw [hl], by omega, ?_⟩
  by_cases h0 : l = []
  · left; subst h0; rfl
  right
  obtain ⟨b, off, spot⟩ := a
  -- the block
  have hl0 : 0 < l.length := List.length_pos_iff.2 h0
  obtain ⟨_, cs0, hc0, _⟩ := hp 0 _ (List.getElem?_eq_getElem hl0)
  obtain ⟨_, _, hcell0⟩ := World.cells?_some hc0
  have hcs0 : cs0.length = sz := (World.cells?_some hc0).2.1
  have h1 := hcell0 0 hpos
  have h2 : ∃ v, cs0[0]? = some v := ⟨cs0[0]'(by omega), List.getElem?_eq_getElem (by omega)⟩
  obtain ⟨v0, hv0⟩ := h2
  rw [hv0] at h1
  unfold World.cell? at h1
  have hblk : ((⟨b, off, spot⟩ : Addr).add (0 * sz)).add 0 = ⟨b, off, spot⟩ := by
    cases spot <;> simp [Addr.add]
  rw [hblk] at h1
  split at h1
  · rename_i arr el fr hh
    split at h1
    · cases h1
    · rename_i hsp
      have hspot : spot = none := by
        cases spot with
        | none => rfl
        | some s => simp at hsp
      subst hspot
      refine ⟨b, off, arr, el, fr, rfl, fun h => h, hh, repR_at hsz l _ fun i v hi => ?_⟩
      obtain ⟨_, cs', hc', hr⟩ := hp i v hi
      obtain ⟨_, hlen, hcell⟩ := World.cells?_some hc'
      have e1 : cs' = ((arr.toList.drop off).drop (i * sz)).take sz := by
        apply List.ext_getElem?
        intro q
        by_cases hq : q < sz
        · rw [← hcell q hq, List.getElem?_take, if_pos hq, List.getElem?_drop, List.getElem?_drop, add_addr, add_addr, cell_of_row W b _ arr el fr hh]
          simp [Nat.add_assoc]
        · rw [List.getElem?_eq_none (by omega), List.getElem?_eq_none (by rw [List.length_take]; omega)]
      rw [← e1]; exact hr
  · cases h1
/-- A slice that is handed in. -/
theorem open_row {α : Type} {Pr : List α → Prop} {R : List α → List (List AV)} {H : Type} {enc : TypeId × Value → H} {r : Reach} {b0 : Nat} {sp : Nat → Bool} {v : Value} {d : DataW H} {ps : List MemPlace} (ht : P.underlying t = some (.slice e)) (hO : OpenT P W t (fun l : List α => [.row (R l)]) Pr)
    (hval : Value.okWide P W r b0 t v) (hd : DataW.Trod enc P W 0 sp true t v d ps) : ∃ l : List α, Pr l ∧ Rep (fun _ => ¬ False) W (.row (R l)) v := by
  obtain ⟨a, len, cap, rfl⟩ := okWide_slice ht hval
  obtain ⟨n, hn⟩ := hd
  obtain ⟨l, hl, hr⟩ := hO enc sp n _ _ hn
  simp only [Value.cells, RepL] at hr
  obtain ⟨v, r, hv, h1, _⟩ := hr
  simp only [List.cons.injEq] at hv
  exact ⟨l, hl, by rw [hv.1]; exact h1⟩
/-- Numbers, truths, texts that are handed in. -/
theorem open_num {k : IntKind} {H : Type} {enc : TypeId × Value → H} {r : Reach} {b0 : Nat} {sp : Nat → Bool} {v : Value} {d : DataW H} {ps : List MemPlace} (ht : P.underlying t = some (.int k))
    (hval : Value.okWide P W r b0 t v) (hd : DataW.Trod enc P W 0 sp true t v d ps) : ∃ n : Int, (Lit.int k n).wf = true ∧ Rep (fun _ => ¬ False) W (.lit (.int k n)) v := by
  obtain ⟨n, rfl⟩ := okWide_int ht hval
  obtain ⟨f, hf⟩ := hd
  obtain ⟨m, hm, _, hw⟩ := DataW.trod_int ht hf
  simp only [Value.cells, List.cons.injEq, Value.int.injEq, true_and, and_true] at hm
  subst hm
  exact ⟨n, hw, rep_lit rfl⟩
theorem open_bool {H : Type} {enc : TypeId × Value → H} {r : Reach} {b0 : Nat} {sp : Nat → Bool} {v : Value} {d : DataW H} {ps : List MemPlace} (ht : P.underlying t = some .bool)
    (hval : Value.okWide P W r b0 t v) (hd : DataW.Trod enc P W 0 sp true t v d ps) : ∃ b : Bool, True ∧ Rep (fun _ => ¬ False) W (.lit (.bool b)) v := by
  obtain ⟨b, rfl⟩ := okWide_bool ht hval
  exact ⟨b, trivial, rep_lit rfl⟩
theorem open_text {H : Type} {enc : TypeId × Value → H} {r : Reach} {b0 : Nat} {sp : Nat → Bool} {v : Value} {d : DataW H} {ps : List MemPlace} (ht : P.underlying t = some .string)
    (hval : Value.okWide P W r b0 t v) (hd : DataW.Trod enc P W 0 sp true t v d ps) : ∃ s : List UInt8, s.length ≤ maxLen ∧ Rep (fun _ => ¬ False) W (.lit (.string (B s))) v := by
  obtain ⟨s, rfl⟩ := okWide_string ht hval
  obtain ⟨f, hf⟩ := hd
  obtain ⟨m, hm, _, hs⟩ := DataW.trod_string ht hf
  simp only [Value.cells, List.cons.injEq, Value.string.injEq, and_true] at hm
  subst hm
  exact ⟨s.data.toList, by simpa using hs, rep_lit (by rw [B_data])⟩
/-- A struct that is handed in. -/
theorem open_agg {α : Type} {f : α → List AV} {Pr : α → Prop} {H : Type} {enc : TypeId × Value → H} {sp : Nat → Bool} {v : Value} {vs : Array Value} {d : DataW H} {ps : List MemPlace} (hO : OpenT P W t f Pr)
    (hv : v = .agg vs) (hd : DataW.Trod enc P W 0 sp true t v d ps) : ∃ x : α, Pr x ∧ Rep (fun _ => ¬ False) W (.agg (f x)) v := by
  subst hv
  obtain ⟨n, hn⟩ := hd
  obtain ⟨x, hx, hr⟩ := hO enc sp n _ _ hn
  exact ⟨x, hx, by simp only [Rep]; exact ⟨vs, rfl, hr⟩⟩
end
end FW
end Go.Proofs.Ytaoffkhflmndhaa

/- Plain law of code.Compile: bodies of which each belongs to one instruction. -/
import Derived.Test.YtbjbgodcenopnaaQc
namespace Go.Proofs.Ytbjbgodcenopnaa
set_option linter.unusedVariables false
set_option linter.unusedSimpArgs false
set_option maxHeartbeats 2000000
def kidsB (b : List ApiIns) : List Int := (b.map ApiIns.Kids).flatten
def refs (bs : List (List ApiIns)) : List Int := (bs.map kidsB).flatten
theorem kidsB_snoc (b : List ApiIns) (x : ApiIns) : kidsB (b ++ [x]) = kidsB b ++ x.Kids := by simp [kidsB]
theorem refs_append (a b : List (List ApiIns)) : refs (a ++ b) = refs a ++ refs b := by simp [refs]
theorem refs_cons (b : List ApiIns) (r : List (List ApiIns)) : refs (b :: r) = kidsB b ++ refs r := by simp [refs]
/-- Bodies from a place on, and those who call them. -/
structure Own (a : Nat) (ks : List Int) (new : List (List ApiIns)) : Prop where
  one : ∀ j : Nat, a ≤ j → j < a + new.length → (ks ++ refs new).count (j : Int) = 1
  top : ∀ k ∈ ks, k = -1 ∨ ((a : Int) ≤ k ∧ k < a + new.length)
  low : ∀ i, i < new.length → ∀ k ∈ kidsB (new.getD i []), k = -1 ∨ ((a : Int) + i < k ∧ k < a + new.length)
  small : ∀ i, i < new.length → (new.getD i []).length ≤ 150 ∧ ∀ x ∈ new.getD i [], x.Kids.length ≤ 200
theorem refs_mem {bs : List (List ApiIns)} {k : Int} (h : k ∈ refs bs) : ∃ i, i < bs.length ∧ k ∈ kidsB (bs.getD i []) := by
  unfold refs at h
  obtain ⟨l, hl, hk⟩ := List.mem_flatten.1 h
  obtain ⟨b, hb, rfl⟩ := List.mem_map.1 hl
  obtain ⟨i, hi, rfl⟩ := List.getElem_of_mem hb
  exact ⟨i, hi, by rw [List.getD_eq_getElem?_getD, List.getElem?_eq_getElem hi]; exact hk⟩
theorem Own.range {a : Nat} {ks : List Int} {new : List (List ApiIns)} (h : Own a ks new) : ∀ k ∈ ks ++ refs new, k = -1 ∨ ((a : Int) ≤ k ∧ k < a + new.length) := by
  intro k hk
  rcases List.mem_append.1 hk with hk | hk
  · exact h.top k hk
  · obtain ⟨i, hi, hk⟩ := refs_mem hk
    rcases h.low i hi k hk with h1 | h1
    · exact .inl h1
    · exact .inr ⟨by omega, h1.2⟩
theorem Own.out {a : Nat} {ks : List Int} {new : List (List ApiIns)} (h : Own a ks new) (j : Nat) (hj : j < a ∨ a + new.length ≤ j) : (ks ++ refs new).count (j : Int) = 0 := by
  rw [List.count_eq_zero]
  intro hm
  rcases h.range _ hm with h1 | h1 <;> omega
theorem Own.none {a : Nat} {ks : List Int} (h : ∀ k ∈ ks, k = -1) : Own a ks [] := by
  refine ⟨fun j h1 h2 => ?_, fun k hk => .inl (h k hk), fun i hi => ?_, fun i hi => ?_⟩
  · simp at h2; omega
  · simp at hi
  · simp at hi
theorem Own.seq {a : Nat} {ks1 ks2 : List Int} {n1 n2 : List (List ApiIns)} (h1 : Own a ks1 n1) (h2 : Own (a + n1.length) ks2 n2) : Own a (ks1 ++ ks2) (n1 ++ n2) := by
  refine ⟨fun j ha hb => ?_, fun k hk => ?_, fun i hi k hk => ?_, fun i hi => ?_⟩
  rotate_right
  · simp only [List.length_append] at hi
    by_cases hlt : i < n1.length
    · rw [List.getD_eq_getElem?_getD, List.getElem?_append_left hlt, ← List.getD_eq_getElem?_getD]
      exact h1.small i hlt
    · rw [List.getD_eq_getElem?_getD, List.getElem?_append_right (by omega), ← List.getD_eq_getElem?_getD]
      exact h2.small (i - n1.length) (by omega)
  · have e : (ks1 ++ ks2 ++ refs (n1 ++ n2)).count (j : Int) = (ks1 ++ refs n1).count (j : Int) + (ks2 ++ refs n2).count (j : Int) := by
      rw [refs_append]
      simp only [List.count_append]
      omega
    rw [e]
    simp only [List.length_append] at hb
    by_cases hj : j < a + n1.length
    · rw [h1.one j ha hj, h2.out j (.inl hj)]
    · rw [h1.out j (.inr (by omega)), h2.one j (by omega) (by omega)]
  · simp only [List.length_append]
    rcases List.mem_append.1 hk with hk | hk
    · rcases h1.top k hk with h | h
      · exact .inl h
      · exact .inr ⟨h.1, by omega⟩
    · rcases h2.top k hk with h | h
      · exact .inl h
      · exact .inr ⟨by omega, by omega⟩
  · simp only [List.length_append] at hi ⊢
    by_cases hlt : i < n1.length
    · rw [List.getD_eq_getElem?_getD, List.getElem?_append_left hlt, ← List.getD_eq_getElem?_getD] at hk
      rcases h1.low i hlt k hk with h | h
      · exact .inl h
      · exact .inr ⟨h.1, by omega⟩
    · rw [List.getD_eq_getElem?_getD, List.getElem?_append_right (by omega), ← List.getD_eq_getElem?_getD] at hk
      rcases h2.low (i - n1.length) (by omega) k hk with h | h
      · exact .inl h
      · exact .inr ⟨by omega, by omega⟩
theorem Own.congr {a : Nat} {ks ks' : List Int} {new : List (List ApiIns)} (h : Own a ks new) (hc : ∀ j : Nat, ks'.count (j : Int) = ks.count (j : Int)) (hm : ∀ k ∈ ks', k = -1 ∨ k ∈ ks) : Own a ks' new := by
  refine ⟨fun j ha hb => ?_, fun k hk => ?_, h.low, h.small⟩
  · have := h.one j ha hb
    rw [List.count_append] at this ⊢
    rw [hc]; exact this
  · rcases hm k hk with h1 | h1
    · exact .inl h1
    · exact h.top k h1
theorem Own.body {a : Nat} {ins : List ApiIns} {rest : List (List ApiIns)} (h : Own (a + 1) (kidsB ins) rest) (hs : ins.length ≤ 150 ∧ ∀ x ∈ ins, x.Kids.length ≤ 200) : Own a [(a : Int)] (ins :: rest) := by
  refine ⟨fun j ha hb => ?_, fun k hk => ?_, fun i hi k hk => ?_, fun i hi => ?_⟩
  rotate_right
  · cases i with
    | zero => exact hs
    | succ i => rw [List.getD_cons_succ]; exact h.small i (by simpa using hi)
  · simp only [List.length_cons] at hb
    rw [refs_cons, List.count_append]
    by_cases e : j = a
    · subst e
      rw [h.out j (.inl (by omega))]
      simp
    · rw [h.one j (by omega) (by omega)]
      have : List.count (j : Int) [(a : Int)] = 0 := by
        rw [List.count_eq_zero]
        simp only [List.mem_cons, List.not_mem_nil, or_false]
        omega
      rw [this]
  · simp only [List.mem_cons, List.not_mem_nil, or_false] at hk
    simp only [List.length_cons]
    right; omega
  · simp only [List.length_cons] at hi ⊢
    cases i with
    | zero =>
      rw [List.getD_cons_zero] at hk
      rcases h.top k hk with h1 | h1
      · exact .inl h1
      · exact .inr ⟨by omega, by omega⟩
    | succ i =>
      rw [List.getD_cons_succ] at hk
      rcases h.low i (by omega) k hk with h1 | h1
      · exact .inl h1
      · exact .inr ⟨by omega, by omega⟩
/-- What became of the bodies so far. -/
def Res (m : OCM) (B : Nat) (ks : List Int) (m' : OCM) : Prop := ∃ new, m'.out = m.out ++ new ∧ Own m.out.length ks new ∧ new.length ≤ B
theorem Res.none (m : OCM) (B : Nat) {ks : List Int} (h : ∀ k ∈ ks, k = -1) : Res m B ks m := ⟨[], by simp, Own.none h, by simp⟩
theorem Res.seq {m m1 m2 : OCM} {B1 B2 : Nat} {ks1 ks2 : List Int} (h1 : Res m B1 ks1 m1) (h2 : Res m1 B2 ks2 m2) : Res m (B1 + B2) (ks1 ++ ks2) m2 := by
  obtain ⟨n1, e1, o1, l1⟩ := h1
  obtain ⟨n2, e2, o2, l2⟩ := h2
  refine ⟨n1 ++ n2, by rw [e2, e1, List.append_assoc], o1.seq ?_, by rw [List.length_append]; omega⟩
  rw [e1, List.length_append] at o2
  exact o2
theorem Res.mono {m m' : OCM} {B B' : Nat} {ks : List Int} (h : Res m B ks m') (hB : B ≤ B') : Res m B' ks m' := by
  obtain ⟨n, e, o, l⟩ := h
  exact ⟨n, e, o, by omega⟩
theorem Res.congr {m m' : OCM} {B : Nat} {ks ks' : List Int} (h : Res m B ks m') (hc : ∀ j : Nat, ks'.count (j : Int) = ks.count (j : Int)) (hm : ∀ k ∈ ks', k = -1 ∨ k ∈ ks) : Res m B ks' m' := by
  obtain ⟨n, e, o, l⟩ := h
  exact ⟨n, e, o.congr hc hm, l⟩
theorem Res.len {m m' : OCM} {B : Nat} {ks : List Int} (h : Res m B ks m') : m'.out.length ≤ m.out.length + B := by
  obtain ⟨n, e, o, l⟩ := h
  rw [e, List.length_append]; omega
end Go.Proofs.Ytbjbgodcenopnaa

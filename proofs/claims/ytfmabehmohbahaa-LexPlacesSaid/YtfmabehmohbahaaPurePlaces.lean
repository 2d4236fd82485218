/- offshootlaw11.LexPlaces in plain Lean: it answers true at every text. -/
import Derived.Test.YtfmabehmohbahaaPureWords
namespace Go.Proofs.Ytfmabehmohbahaa
set_option linter.unusedVariables false
set_option maxHeartbeats 1000000
abbrev endW (s : List UInt8) : ApiWord := ⟨0, [], 0, 0, (s.length : Int)⟩
theorem getD_back (l : List ApiWord) (e : ApiWord) (i : Nat) : List.getD (l ++ [e]) i default = if i < l.length then l[i]! else if i = l.length then e else default := by
  simp only [List.getD_eq_getElem?_getD]
  by_cases h : i < l.length
  · rw [if_pos h, List.getElem?_append_left h]; simp [h]
  · rw [if_neg h, List.getElem?_append_right (by omega)]
    by_cases h' : i = l.length
    · subst h'; simp
    · rw [if_neg h']
      have : i - l.length ≠ 0 := by omega
      obtain ⟨m, hm⟩ : ∃ m, i - l.length = m + 1 := ⟨i - l.length - 1, by omega⟩
      rw [hm]; simp
theorem places_l1 (K : Nat) (s : List UInt8) (l : List ApiWord) (hs : (s.length : Int) ≤ 3000) (hl : (l.length : Int) ≤ 3000) (hw : WordsTo s l s.length) :
    ∀ (k : Nat) (i : Int), 0 ≤ i → i ≤ (l.length : Int) + 1 → (l.length : Int) + 1 - i < k → offshootlaw11_LexPlaces.l1 K k s (l ++ [endW s]) i = some true := by
  intro k
  induction k with
  | zero => intro i h0 h1 h2; omega
  | succ k ih =>
    intro i h0 h1 h2
    rw [offshootlaw11_LexPlaces.l1]
    have hlen : ((l ++ [endW s]).length : Int) = (l.length : Int) + 1 := by simp
    have w1 : IntKind.wrap .i64 (i + 1) = i + 1 := W_in (by omega) (by omega)
    have w2 : IntKind.wrap .i64 (i - 1) = i - 1 := W_in (by omega) (by omega)
    have w3 : IntKind.wrap .i64 ((l.length : Int) + 1 - 1) = (l.length : Int) := by rw [W_in (by omega) (by omega)]; omega
    simp only [hlen, w1, w2, w3]
    apply Sat.get
    refine Sat.ite (fun h => ?_) (fun h => ?_)
    · simp only [decide_eq_true_eq] at h
      refine Sat.chk ⟨h0, h⟩ ?_
      refine Sat.chk (fun h' _ => by simp at h'; omega) ?_
      -- the word's place
      have hat : 0 ≤ (List.getD (l ++ [endW s]) i.toNat default).At ∧ (List.getD (l ++ [endW s]) i.toNat default).At ≤ (s.length : Int) := by
        rw [getD_back]
        split
        · rename_i hj
          obtain ⟨n, a, b, c⟩ := hw.1 _ hj
          have := a.pos
          exact ⟨c, by omega⟩
        · rw [if_pos (by omega)]; exact ⟨by simp, by simp⟩
      refine Sat.ite (fun h' => ?_) (fun _ => ?_)
      · exfalso
        simp only [Bool.or_eq_true, Bool.and_eq_true, decide_eq_true_eq] at h'
        rcases h' with h' | ⟨⟨⟨h1', h2'⟩, h3'⟩, h4'⟩
        · omega
        · rw [getD_back, getD_back] at h2'
          rw [show (if (i - 1).toNat < l.length then l[(i - 1).toNat]! else if (i - 1).toNat = l.length then endW s else default) = l[(i - 1).toNat]! from if_pos (by omega)] at h2'
          by_cases hi : i.toNat < l.length
          · rw [if_pos hi] at h2'
            have := hw.2 (i - 1).toNat (by omega)
            rw [show (i - 1).toNat + 1 = i.toNat from by omega] at this
            omega
          · rw [if_neg hi, if_pos (by omega)] at h2'
            obtain ⟨n, a, b, c⟩ := hw.1 (i - 1).toNat (by omega)
            have := a.pos
            dsimp only at h2'
            omega
      · by_cases hi : i.toNat < l.length
        · have e : List.getD (l ++ [endW s]) i.toNat default = l[i.toNat]! := by rw [getD_back, if_pos hi]
          rw [e] at hat ⊢
          obtain ⟨n, a, b, c⟩ := hw.1 _ hi
          by_cases hk : (l[i.toNat]!).Kind = 1 ∨ (l[i.toNat]!).Kind = 5
          · obtain ⟨e1, e2⟩ := a.same hk
            have w4 : IntKind.wrap .i64 ((l[i.toNat]!).At + ((l[i.toNat]!).S.length : Int)) = (l[i.toNat]!).At + ((l[i.toNat]!).S.length : Int) := W_in (by omega) (by omega)
            simp only [w4]
            refine Sat.chk (fun _ _ => by omega) ?_
            rw [show ((l[i.toNat]!).At + ((l[i.toNat]!).S.length : Int)).toNat - ((l[i.toNat]!).At).toNat = (l[i.toNat]!).S.length from by omega]
            refine Sat.ite (fun h' => ?_) (fun _ => ?_)
            · exfalso
              simp only [Bool.or_eq_true, Bool.and_eq_true, decide_eq_true_eq, Bool.not_eq_true', decide_eq_false_iff_not] at h'
              rcases h'.2 with h' | h'
              · omega
              · exact h' e2.symm
            · exact Sat.eq (ih (i + 1) (by omega) (by omega) (by omega)) rfl
          · have hk' : ((decide ((l[i.toNat]!).Kind = 1)) || (decide ((l[i.toNat]!).Kind = 5))) = false := by simpa using hk
            simp only [hk', Bool.false_and, Bool.false_eq_true, if_false]
            refine Sat.chk (fun _ h => by simp at h) ?_
            exact Sat.eq (ih (i + 1) (by omega) (by omega) (by omega)) rfl
        · have e : List.getD (l ++ [endW s]) i.toNat default = endW s := by rw [getD_back, if_neg hi, if_pos (by omega)]
          rw [e]
          refine Sat.chk (fun _ h => by simp at h) ?_
          refine Sat.ite (fun h' => by simp at h') (fun _ => ?_)
          exact Sat.eq (ih (i + 1) (by omega) (by omega) (by omega)) rfl
    · refine Sat.chk (by omega) ?_
      have e : List.getD (l ++ [endW s]) ((l.length : Int)).toNat default = endW s := by rw [getD_back, if_neg (by omega), if_pos (by omega)]
      rw [e]
      exact Sat.some (by simp)
theorem wordsTo_len {s : List UInt8} {l : List ApiWord} {e : Int} (h : WordsTo s l e) : ∀ j : Nat, j < l.length → (j : Int) ≤ (l[j]!).At
  | 0, hj => by obtain ⟨n, a, b, c⟩ := h.1 0 hj; omega
  | j + 1, hj => by have := wordsTo_len h j (by omega); have := h.2 j hj; omega
theorem places_true (s : List UInt8) : ∃ K, offshootlaw11_LexPlaces.f K s = some true := by
  refine ⟨KK, ?_⟩
  unfold offshootlaw11_LexPlaces.f
  apply Sat.get
  have hKK : 100000 < KK := by decide
  refine Sat.bind (words_sat KK hKK s) fun r hr => ?_
  refine Sat.bindE awake_true ?_
  refine Sat.ite (fun h => ?_) (fun h => ?_)
  · refine Sat.bindE awake_true (Sat.some ?_)
    simp only [Bool.true_and, Bool.not_eq_true', decide_eq_false_iff_not]
    rcases hr with ⟨hr, _⟩ | ⟨hr, _, l', e, _⟩
    · exact hr
    · exfalso
      rw [hr, e] at h
      simp at h
      omega
  · rcases hr with ⟨hr, _⟩ | ⟨hr, hs, l', e, hw⟩
    · exfalso; simp at h; exact hr h.1
    · rw [e]
      have hl : (l'.length : Int) ≤ 3000 := by
        cases hn : l'.length with
        | zero => omega
        | succ n =>
          have := wordsTo_len hw n (by omega)
          obtain ⟨m, a, b, c⟩ := hw.1 n (by omega)
          have := a.pos
          omega
      exact Sat.eq (places_l1 KK s l' hs hl hw KK 0 (by omega) (by omega) (by simp only [KK]; omega)) rfl
end Go.Proofs.Ytfmabehmohbahaa

/- Plain law of lex.word and lex.Words: what holds of any text. -/
import Derived.Test.YtfmabehmohbahaaPureLex
namespace Go.Proofs.Ytfmabehmohbahaa
set_option linter.unusedVariables false
set_option maxHeartbeats 1000000
/-- A word that stands at a place. -/
structure WordAt (s : List UInt8) (at_ : Int) (w : ApiWord) (n : Int) : Prop where
  pos : 0 < n
  fits : at_ + n ≤ (s.length : Int)
  place : w.At = at_
  same : w.Kind = 1 ∨ w.Kind = 5 → at_ + (w.S.length : Int) ≤ (s.length : Int) ∧ w.S = (s.drop at_.toNat).take w.S.length
  kind : w.Kind = 1 ∨ w.Kind = 2 ∨ w.Kind = 3 ∨ w.Kind = 4 ∨ w.Kind = 5
theorem word_sat (K : Nat) (hK : 100000 < K) (s : List UInt8) (i : Int) (hs : (s.length : Int) ≤ 3000) (h0 : 0 ≤ i) (h1 : i < (s.length : Int)) :
    Sat (lex_word.f K s i) (fun r => r.2 = 0 ∨ WordAt s i r.1 r.2) := by
  unfold lex_word.f
  have w1 : IntKind.wrap .i64 (i + 1) = i + 1 := W_in (by omega) (by omega)
  obtain ⟨c, r, hd⟩ : ∃ c r, s.drop i.toNat = c :: r := by
    cases h : s.drop i.toNat with
    | nil => have := drop_nil h0 h; omega
    | cons c r => exact ⟨c, r, rfl⟩
  obtain ⟨_, hdr, hlen⟩ := drop_lt h0 hd
  have hb := bt_at hd
  simp only [w1, hb]
  refine Sat.chk ⟨h0, h1⟩ ?_
  refine Sat.chk (fun h => by simp at h; omega) ?_
  refine Sat.ite (fun h => ?_) (fun _ => ?_)
  · simp at h
    obtain ⟨⟨hf, hl⟩, hq⟩ := h
    refine Sat.chk (by omega) ?_
    have hle : (s.drop (i + 1).toNat).length = s.length - (i + 1).toNat := by simp
    refine Sat.bindE (quoted_eq K _ (by rw [hle]; omega) (by rw [hle]; omega) hK) ?_
    obtain ⟨v, hv⟩ := float_tot K (qS [] (List.drop 1 (s.drop (i + 1).toNat)) 1).1 hK
    refine Sat.bindE hv ?_
    refine Sat.ite (fun _ => Sat.some (Or.inl rfl)) (fun h => Sat.some (Or.inr ?_))
    simp only [Bool.or_eq_false_iff, decide_eq_false_iff_not] at h
    have hq := (qS_bound _ (List.drop 1 (s.drop (i + 1).toNat)) [] 1 (Nat.le_refl _) (by omega)).resolve_left h.1
    rw [List.length_drop, hle] at hq
    have hw : IntKind.wrap .i64 ((qS [] (List.drop 1 (s.drop (i + 1).toNat)) 1).2 + 1) = (qS [] (List.drop 1 (s.drop (i + 1).toNat)) 1).2 + 1 := W_in (by omega) (by omega)
    rw [hw]
    exact ⟨by omega, by omega, rfl, by simp, by simp⟩
  refine Sat.ite (fun h => ?_) (fun _ => ?_)
  · refine Sat.chk (by omega) ?_
    have hle : (s.drop i.toNat).length = s.length - i.toNat := by simp
    refine Sat.bindE (quoted_eq K _ (by rw [hle]; omega) (by rw [hle]; omega) hK) ?_
    unfold lex_word.j1
    refine Sat.ite (fun _ => Sat.some (Or.inl rfl)) (fun h => Sat.some ?_)
    rcases qS_bound _ (List.drop 1 (s.drop i.toNat)) [] 1 (Nat.le_refl _) (by omega) with hq | hq
    · exact Or.inl hq
    · rw [List.length_drop, hle] at hq
      exact Or.inr ⟨by dsimp only; omega, by dsimp only; omega, rfl, by simp, by simp⟩
  unfold lex_word_1.f
  refine Sat.bindE rfl ?_
  refine Sat.ite (fun h => ?_) (fun _ => ?_)
  · refine Sat.bindE (many_1_eq K s (i + 1) (by omega) (by omega) (by omega) hK) ?_
    have hm := manyS_le isDigit (s.drop (i + 1).toNat)
    rw [List.length_drop] at hm
    have w2 : IntKind.wrap .i64 (1 + (manyS isDigit (s.drop (i + 1).toNat) : Int)) = 1 + (manyS isDigit (s.drop (i + 1).toNat) : Int) := W_in (by omega) (by omega)
    have w3 : IntKind.wrap .i64 (i + (1 + (manyS isDigit (s.drop (i + 1).toNat) : Int))) = i + (1 + (manyS isDigit (s.drop (i + 1).toNat) : Int)) := W_in (by omega) (by omega)
    simp only [w2, w3]
    refine Sat.chk (by omega) ?_
    obtain ⟨v, hv⟩ := integer_tot K (List.take ((i + (1 + (manyS isDigit (s.drop (i + 1).toNat) : Int))).toNat - i.toNat) (List.drop i.toNat s)) (by simp only [List.length_take, List.length_drop]; omega) hK
    refine Sat.bindE hv ?_
    refine Sat.ite (fun _ => Sat.some (Or.inl rfl)) (fun h => Sat.some (Or.inr ?_))
    exact ⟨by dsimp only; omega, by dsimp only; omega, rfl, by simp, by simp⟩
  unfold lex_wordy.f
  refine Sat.bindE rfl ?_
  refine Sat.ite (fun h => ?_) (fun _ => ?_)
  · refine Sat.bindE (many_w_eq K s i (by omega) (by omega) (by omega) hK) ?_
    have hm := manyS_le isWordy (s.drop i.toNat)
    rw [List.length_drop] at hm
    have hpos : 0 < manyS isWordy (s.drop i.toNat) := by
      rw [hd, manyS, if_pos (show isWordy c = true from h)]; omega
    have w3 : IntKind.wrap .i64 (i + (manyS isWordy (s.drop i.toNat) : Int)) = i + (manyS isWordy (s.drop i.toNat) : Int) := W_in (by omega) (by omega)
    simp only [w3]
    refine Sat.ite (fun _ => Sat.some (Or.inl rfl)) (fun h => ?_)
    refine Sat.chk (by omega) ?_
    refine Sat.some (Or.inr ⟨by dsimp only; omega, by dsimp only; omega, rfl, fun _ => ?_, by simp⟩)
    dsimp only
    rw [show (i + (manyS isWordy (s.drop i.toNat) : Int)).toNat - i.toNat = manyS isWordy (s.drop i.toNat) from by omega]
    have hl : (List.take (manyS isWordy (s.drop i.toNat)) (s.drop i.toNat)).length = manyS isWordy (s.drop i.toNat) := by
      rw [List.length_take, List.length_drop]; omega
    rw [hl]
    exact ⟨by omega, rfl⟩
  refine Sat.bindE rfl ?_
  refine Sat.ite (fun h => ?_) (fun _ => Sat.some (Or.inl rfl))
  refine Sat.chk (by omega) ?_
  refine Sat.some (Or.inr ⟨by dsimp only; omega, by dsimp only; omega, rfl, fun _ => ?_, by simp⟩)
  dsimp only
  rw [show (i + 1).toNat - i.toNat = 1 from by omega, hd]
  simp only [List.take_succ_cons, List.take_zero, List.length_cons, List.length_nil]
  exact ⟨by omega, trivial⟩
/-- Words that stand one behind the other, up to a place. -/
def WordsTo (s : List UInt8) (l : List ApiWord) (e : Int) : Prop :=
  (∀ j, j < l.length → ∃ n, WordAt s (l[j]!).At (l[j]!) n ∧ (l[j]!).At + n ≤ e ∧ 0 ≤ (l[j]!).At) ∧ ∀ j, j + 1 < l.length → (l[j]!).At < (l[j + 1]!).At
theorem words_l1 (K : Nat) (hK : 100000 < K) : ∀ (k : Nat) (l : List ApiWord) (s : List UInt8) (i : Int), (s.length : Int) ≤ 3000 → 0 ≤ i → i ≤ (s.length : Int) → (l.length : Int) ≤ i → WordsTo s l i → (s.length : Int) - i < k →
    Sat (lex_Words.l1 K k l s i) (fun r => (¬ r.2.2 = 0 ∧ r.1 = []) ∨ (r.2 = (0, 0) ∧ ∃ l', r.1 = l' ++ [⟨0, [], 0, 0, (s.length : Int)⟩] ∧ WordsTo s l' s.length)) := by
  intro k
  induction k with
  | zero => intro l s i h0 h1 h2 h3 h4 h5; omega
  | succ k ih =>
    intro l s i hs h0 h1 hl hw hf
    rw [lex_Words.l1]
    have w1 : IntKind.wrap .i64 (i + 1) = i + 1 := W_in (by omega) (by omega)
    refine Sat.ite (fun h => ?_) (fun h => ?_)
    · simp only [decide_eq_true_eq] at h
      refine Sat.chk ⟨h0, h⟩ ?_
      refine Sat.ite (fun _ => ?_) (fun _ => ?_)
      · rw [w1]
        refine ih l s (i + 1) hs (by omega) (by omega) (by omega) ?_ (by omega)
        refine ⟨fun j hj => ?_, hw.2⟩
        obtain ⟨n, a, b, c⟩ := hw.1 j hj
        exact ⟨n, a, by omega, c⟩
      · refine Sat.bind (word_sat K hK s i hs h0 h) fun r hr => ?_
        refine Sat.ite (fun _ => Sat.some (Or.inl ⟨by simp, rfl⟩)) (fun hn => ?_)
        simp only [decide_eq_false_iff_not] at hn
        have hr := hr.resolve_left hn
        refine Sat.ite (fun _ => Sat.some (Or.inl ⟨by simp, rfl⟩)) (fun _ => ?_)
        have := hr.pos
        have := hr.fits
        refine Sat.chk (by simp only [List.length_cons, List.length_nil]; omega) ?_
        rw [W_in (by omega) (by omega)]
        refine ih _ s (i + r.2) hs (by omega) (by omega) (by simp; omega) ⟨fun j hj => ?_, fun j hj => ?_⟩ (by omega)
        · simp only [List.length_append, List.length_cons, List.length_nil] at hj
          by_cases hjl : j < l.length
          · obtain ⟨n, a, b, c⟩ := hw.1 j hjl
            have e : (l ++ [r.1])[j]! = l[j]! := by simp [List.getElem!_eq_getElem?_getD, List.getElem?_append_left hjl]
            rw [e]
            exact ⟨n, a, by omega, c⟩
          · have e : (l ++ [r.1])[j]! = r.1 := by
              have : j = l.length := by omega
              subst this
              simp
            rw [e]
            have hp := hr.place
            exact ⟨r.2, by rw [hp]; exact hr, by omega, by omega⟩
        · simp only [List.length_append, List.length_cons, List.length_nil] at hj
          have e : (l ++ [r.1])[j]! = l[j]! := by simp [List.getElem!_eq_getElem?_getD, List.getElem?_append_left (show j < l.length by omega)]
          rw [e]
          by_cases hjl : j + 1 < l.length
          · have e : (l ++ [r.1])[j + 1]! = l[j + 1]! := by simp [List.getElem!_eq_getElem?_getD, List.getElem?_append_left hjl]
            rw [e]
            exact hw.2 j hjl
          · have e : (l ++ [r.1])[j + 1]! = r.1 := by
              have : j + 1 = l.length := by omega
              rw [this]
              simp
            rw [e, hr.place]
            obtain ⟨n, a, b, c⟩ := hw.1 j (by omega)
            have := a.pos
            omega
    · simp only [decide_eq_false_iff_not] at h
      refine Sat.chk (by simp only [List.length_cons, List.length_nil]; omega) ?_
      have : i = (s.length : Int) := by omega
      subst this
      exact Sat.some (Or.inr ⟨rfl, l, rfl, hw⟩)
theorem words_sat (K : Nat) (hK : 100000 < K) (s : List UInt8) :
    Sat (lex_Words.f K s) (fun r => (¬ r.2.2 = 0 ∧ r.1 = []) ∨ (r.2 = (0, 0) ∧ (s.length : Int) ≤ 3000 ∧ ∃ l', r.1 = l' ++ [⟨0, [], 0, 0, (s.length : Int)⟩] ∧ WordsTo s l' s.length)) := by
  unfold lex_Words.f
  refine Sat.ite (fun _ => Sat.some (Or.inl ⟨by simp, rfl⟩)) (fun h => ?_)
  simp only [decide_eq_false_iff_not] at h
  refine (words_l1 K hK K [] s 0 (by omega) (by omega) (by omega) (by simp) ⟨by simp, by simp⟩ (by omega)).mono fun r hr => ?_
  rcases hr with hr | ⟨hr, h'⟩
  · exact Or.inl hr
  · exact Or.inr ⟨hr, by omega, h'⟩
set_option maxRecDepth 100000 in
theorem awake_true : offshootlaw11_awake.f KK = some true := by decide +kernel
end Go.Proofs.Ytfmabehmohbahaa

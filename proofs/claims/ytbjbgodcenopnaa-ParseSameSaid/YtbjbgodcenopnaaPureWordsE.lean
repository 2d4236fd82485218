/- Plain law of lex: the words of a text, by what stands behind each place. -/
import Derived.Test.YtbjbgodcenopnaaPureWordE
namespace Go.Proofs.Ytbjbgodcenopnaa
set_option linter.unusedVariables false
set_option maxHeartbeats 1000000
theorem wordS_bound (K : Nat) (i : Int) (c : UInt8) (r : List UInt8) {t : ApiWord × Int} (h : wordS K i c r = some t) : t.2 = 0 ∨ (0 < t.2 ∧ t.2 ≤ (r.length : Int) + 1) := by
  unfold wordS at h
  split at h
  · rename_i hf
    have hr : 0 < r.length := by
      cases r with
      | nil => simp [fq] at hf
      | cons d r => simp
    obtain ⟨v, hv, h⟩ := Option.bind_eq_some_iff.1 h
    split at h
    · injection h with h; subst h; exact .inl rfl
    · rename_i hz
      injection h with h; subst h
      simp only [Bool.or_eq_true, decide_eq_true_eq, not_or] at hz
      have hq := (qS_bound _ (List.drop 1 r) [] 1 (Nat.le_refl _) (by omega)).resolve_left hz.1
      rw [List.length_drop] at hq
      right; dsimp only; omega
  split at h
  · have hq := qS_bound _ r [] 1 (Nat.le_refl _) (by omega)
    split at h
    · injection h with h; subst h; exact .inl rfl
    · injection h with h; subst h
      rcases hq with hq | hq
      · exact .inl hq
      · right; dsimp only; omega
  split at h
  · obtain ⟨v, hv, h⟩ := Option.bind_eq_some_iff.1 h
    have hm := manyS_le isDigit r
    split at h
    · injection h with h; subst h; exact .inl rfl
    · injection h with h; subst h; right; dsimp only; omega
  split at h
  · rename_i hw
    have hm := manyS_le isWordy (c :: r)
    have hp : 0 < manyS isWordy (c :: r) := by rw [manyS, if_pos hw]; omega
    simp only [List.length_cons] at hm
    split at h
    · injection h with h; subst h; exact .inl rfl
    · injection h with h; subst h; right; dsimp only; omega
  split at h
  · injection h with h; subst h; right; dsimp only; omega
  · injection h with h; subst h; exact .inl rfl
def wordsR (K : Nat) : Nat → List ApiWord → List UInt8 → Int → Option (List ApiWord × Int × Int)
  | 0, _, _, _ => none
  | k + 1, acc, [], i => some (acc ++ [⟨0, [], 0, 0, i⟩], 0, 0)
  | k + 1, acc, c :: r, i => if (c.toNat : Int) = 32 then wordsR K k acc r (i + 1) else
      Option.bind (wordS K i c r) fun t => if t.2 = 0 then some ([], i, 110) else if (1500 : Int) ≤ (acc.length : Int) then some ([], i, 3) else wordsR K k (acc ++ [t.1]) ((c :: r).drop t.2.toNat) (i + t.2)
theorem words_eq (K : Nat) (hK : 100000 < K) (s : List UInt8) (hs : (s.length : Int) ≤ 3000) : ∀ (k : Nat) (acc : List ApiWord) (rest : List UInt8) (i : Int), 0 ≤ i → i ≤ (s.length : Int) → s.drop i.toNat = rest → acc.length ≤ 1500 →
    lex_Words.l1 K k acc s i = wordsR K k acc rest i := by
  intro k
  induction k with
  | zero => intro acc rest i h0 h1 h2 h3; rfl
  | succ k ih =>
    intro acc rest i h0 h1 h2 h3
    rw [lex_Words.l1]
    cases rest with
    | nil =>
      have h4 := drop_nil h0 h2
      have : i = (s.length : Int) := by omega
      rw [if_neg (by simp; omega), if_pos (by simp; omega), wordsR, this]
    | cons c r =>
      obtain ⟨hlt, hdr, hlen⟩ := drop_lt h0 h2
      rw [if_pos (by simpa using hlt), if_pos ⟨h0, hlt⟩, wordsR, bt_at h2]
      by_cases h32 : (c.toNat : Int) = 32
      · rw [if_pos (by simpa using h32), if_pos h32, W_in (by omega) (by omega)]
        exact ih acc r (i + 1) (by omega) (by omega) hdr h3
      · rw [if_neg (by simpa using h32), if_neg h32, word_eq K hK s i c r hs h0 h2]
        cases hw : wordS K i c r with
        | none => rfl
        | some t =>
          simp only [Option.bind_some]
          by_cases ht : t.2 = 0
          · rw [if_pos (by simpa using ht), if_pos ht]
          · rw [if_neg (by simpa using ht), if_neg ht]
            have hb := (wordS_bound K i c r hw).resolve_left ht
            by_cases h15 : (1500 : Int) ≤ (acc.length : Int)
            · rw [if_pos (by simpa using h15), if_pos h15]
            · rw [if_neg (by simpa using h15), if_neg h15, if_pos (by simp; omega), W_in (by omega) (by omega)]
              refine ih _ _ _ (by omega) (by omega) ?_ (by simp; omega)
              rw [show (i + t.2).toNat = i.toNat + t.2.toNat from by omega, ← List.drop_drop, h2]
theorem Words_eq (K : Nat) (hK : 100000 < K) (s : List UInt8) : lex_Words.f K s = if (3000 : Int) < (s.length : Int) then some ([], 3000, 3) else wordsR K K [] s 0 := by
  unfold lex_Words.f
  by_cases h : (3000 : Int) < (s.length : Int)
  · rw [if_pos (by simpa using h), if_pos h]
  · rw [if_neg (by simpa using h), if_neg h]
    exact words_eq K hK s (by omega) K [] s 0 (by omega) (by omega) (by simp) (by simp)
end Go.Proofs.Ytbjbgodcenopnaa

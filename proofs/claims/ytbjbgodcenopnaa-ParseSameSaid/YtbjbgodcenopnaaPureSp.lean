/- Plain law of lex: spaces around a text. -/
import Derived.Test.YtbjbgodcenopnaaPureWordsE
import Derived.Test.YtbjbgodcenopnaaPureTwo2
namespace Go.Proofs.Ytbjbgodcenopnaa
set_option linter.unusedVariables false
set_option maxHeartbeats 1000000
theorem hexS_32 (a : UInt8) : ¬ (0 ≤ hexS a 32) := by
  have : ∀ n : Fin 256, ¬ (0 ≤ hexS (UInt8.ofNat n.val) 32) := by decide +kernel
  have h := this ⟨a.toNat, a.toNat_lt⟩
  simpa using h
theorem n32 : ((32 : UInt8).toNat : Int) = 32 := rfl
theorem qS_32 (acc : List UInt8) (i : Int) : qS acc [32] i = ([], 0) := by
  rw [qS.eq_def]
  dsimp only
  rw [n32, if_neg (by omega), if_neg (by omega), if_pos (by omega), qS_nil]
theorem qS_sp : ∀ (n : Nat) (r acc : List UInt8) (i : Int), r.length ≤ n → qS acc (r ++ [32]) i = qS acc r i := by
  intro n
  induction n with
  | zero =>
    intro r acc i h
    have : r = [] := by cases r <;> simp_all
    subst this
    rw [List.nil_append, qS_32, qS_nil]
  | succ n ih =>
    intro r acc i h
    cases r with
    | nil => rw [List.nil_append, qS_32, qS_nil]
    | cons c r =>
      simp only [List.length_cons] at h
      rw [List.cons_append, qS.eq_def, qS.eq_def acc (c :: r)]
      dsimp only
      by_cases h1 : (c.toNat : Int) = 39
      · rw [if_pos h1, if_pos h1]
      rw [if_neg h1, if_neg h1]
      by_cases h2 : (c.toNat : Int) < 32 ∨ 126 < (c.toNat : Int)
      · rw [if_pos h2, if_pos h2]
      rw [if_neg h2, if_neg h2]
      by_cases h3 : ¬ (c.toNat : Int) = 92
      · rw [if_pos h3, if_pos h3]; exact ih r _ _ (by omega)
      rw [if_neg h3, if_neg h3]
      cases r with
      | nil =>
        simp only [List.nil_append]
        rw [n32, if_neg (by omega)]
      | cons d r1 =>
        simp only [List.length_cons] at h
        simp only [List.cons_append]
        by_cases h4 : (d.toNat : Int) = 39 ∨ (d.toNat : Int) = 92
        · rw [if_pos h4, if_pos h4]; exact ih r1 _ _ (by omega)
        rw [if_neg h4, if_neg h4]
        cases r1 with
        | nil => rfl
        | cons a r2 =>
          cases r2 with
          | nil =>
            simp only [List.cons_append, List.nil_append]
            rw [if_neg (fun hh => hexS_32 a hh.2)]
          | cons b r3 =>
            simp only [List.length_cons] at h
            simp only [List.cons_append]
            by_cases h5 : (d.toNat : Int) = 120 ∧ 0 ≤ hexS a b
            · rw [if_pos h5, if_pos h5]; exact ih r3 _ _ (by omega)
            · rw [if_neg h5, if_neg h5]
theorem manyS_sp (p : UInt8 → Bool) (hp : p 32 = false) : ∀ r, manyS p (r ++ [32]) = manyS p r
  | [] => by simp [manyS, hp]
  | c :: r => by
    rw [List.cons_append, manyS, manyS, manyS_sp p hp r]
theorem take_sp {r : List UInt8} {m : Nat} (h : m ≤ r.length) (x : List UInt8) : (r ++ x).take m = r.take m := by rw [List.take_append_of_le_length h]
theorem fq_sp (c : UInt8) (r : List UInt8) : fq c (r ++ [32]) = fq c r := by
  cases r with
  | nil => simp [fq]
  | cons d r => rfl
/-- A word with another place. -/
def movW (w : ApiWord) (i : Int) : ApiWord := ⟨w.Kind, w.S, w.N, w.F, i⟩
theorem wordS_sp (K : Nat) (hK : 100000 < K) (i i' : Int) (c : UInt8) (r : List UInt8) (hr : r.length ≤ 5000) : ∃ t a, wordS K i c r = some t ∧ wordS K i' c (r ++ [32]) = some (movW t.1 a, t.2) ∧ (t.2 ≠ 0 → t.1.Kind ≠ 0 ∧ (t.1.Kind = 1 → 0 < t.1.S.length)) := by
  unfold wordS
  rw [fq_sp]
  by_cases h1 : fq c r = true
  · rw [if_pos h1, if_pos h1]
    obtain ⟨d, r2, rfl⟩ : ∃ d r2, r = d :: r2 := by
      cases r with
      | nil => simp [fq] at h1
      | cons d r2 => exact ⟨d, r2, rfl⟩
    have e : (d :: r2 ++ [32]).drop 1 = r2 ++ [32] := rfl
    have e2 : (d :: r2).drop 1 = r2 := rfl
    rw [e, e2, qS_sp _ r2 [] 1 (Nat.le_refl _)]
    obtain ⟨v, hv⟩ := float_tot K (qS [] r2 1).1 hK
    rw [hv]
    simp only [Option.bind_some]
    by_cases hz : (decide ((qS [] r2 1).2 = 0) || !v.2) = true
    · rw [if_pos hz, if_pos hz]; exact ⟨_, 0, rfl, rfl, fun h => absurd rfl h⟩
    · rw [if_neg hz, if_neg hz]; exact ⟨_, i', rfl, rfl, fun _ => ⟨by simp, fun e => by simp at e⟩⟩
  rw [if_neg h1, if_neg h1]
  by_cases h2 : (c.toNat : Int) = 39
  · rw [if_pos h2, if_pos h2, qS_sp _ r [] 1 (Nat.le_refl _)]
    by_cases h5 : (500 : Int) < ((qS [] r 1).1.length : Int)
    · rw [if_pos h5, if_pos h5]; exact ⟨_, i', rfl, rfl, fun h => absurd rfl h⟩
    · rw [if_neg h5, if_neg h5]; exact ⟨_, i', rfl, rfl, fun _ => ⟨by simp, fun e => by simp at e⟩⟩
  rw [if_neg h2, if_neg h2]
  by_cases h3 : (isDigit c || decide ((c.toNat : Int) = 45)) = true
  · rw [if_pos h3, if_pos h3, manyS_sp isDigit (by decide) r, take_sp (manyS_le isDigit r)]
    have hm := manyS_le isDigit r
    obtain ⟨v, hv⟩ := integer_tot K (c :: r.take (manyS isDigit r)) (by simp only [List.length_cons, List.length_take]; omega) hK
    rw [hv]
    simp only [Option.bind_some]
    by_cases hz : (!v.2) = true
    · rw [if_pos hz, if_pos hz]; exact ⟨_, 0, rfl, rfl, fun h => absurd rfl h⟩
    · rw [if_neg hz, if_neg hz]; exact ⟨_, i', rfl, rfl, fun _ => ⟨by simp, fun e => by simp at e⟩⟩
  rw [if_neg h3, if_neg h3]
  by_cases h4 : isWordy c = true
  · rw [if_pos h4, if_pos h4]
    have e : manyS isWordy (c :: (r ++ [32])) = manyS isWordy (c :: r) := manyS_sp isWordy (by decide) (c :: r)
    have e2 : (c :: (r ++ [32])).take (manyS isWordy (c :: r)) = (c :: r).take (manyS isWordy (c :: r)) := take_sp (r := c :: r) (manyS_le isWordy (c :: r)) [32]
    rw [e, e2]
    by_cases hz : (16 : Int) < (manyS isWordy (c :: r) : Int)
    · rw [if_pos hz, if_pos hz]; exact ⟨_, 0, rfl, rfl, fun h => absurd rfl h⟩
    · rw [if_neg hz, if_neg hz]
      refine ⟨_, i', rfl, rfl, fun _ => ⟨by simp, fun _ => ?_⟩⟩
      have hp : 0 < manyS isWordy (c :: r) := by rw [manyS, if_pos h4]; omega
      simp only [List.length_take, List.length_cons]
      omega
  rw [if_neg h4, if_neg h4]
  by_cases h5 : isSign c = true
  · rw [if_pos h5, if_pos h5]; exact ⟨_, i', rfl, rfl, fun _ => ⟨by simp, fun e => by simp at e⟩⟩
  · rw [if_neg h5, if_neg h5]; exact ⟨_, 0, rfl, rfl, fun h => absurd rfl h⟩
/-- Words that differ in their places alone, all of them words. -/
structure WA (l l' : List ApiWord) : Prop where
  len : l'.length = l.length
  same : ∀ j, ∃ a, l'.getD j default = movW (l.getD j default) a
  ok : ∀ j, j < l.length → (l.getD j default).Kind ≠ 0 ∧ ((l.getD j default).Kind = 1 → 0 < (l.getD j default).S.length)
theorem getD_snoc (l : List ApiWord) (x : ApiWord) (j : Nat) : (l ++ [x]).getD j default = if j < l.length then l.getD j default else if j = l.length then x else default := by
  simp only [List.getD_eq_getElem?_getD]
  by_cases h : j < l.length
  · rw [if_pos h, List.getElem?_append_left h]
  · rw [if_neg h, List.getElem?_append_right (by omega)]
    by_cases h2 : j = l.length
    · subst h2; simp
    · rw [if_neg h2, List.getElem?_eq_none (by simp; omega)]; rfl
theorem WA.snoc {l l' : List ApiWord} (h : WA l l') {x : ApiWord} (a : Int) (hx : x.Kind ≠ 0 ∧ (x.Kind = 1 → 0 < x.S.length)) : WA (l ++ [x]) (l' ++ [movW x a]) := by
  refine ⟨by simp [h.len], fun j => ?_, fun j hj => ?_⟩
  · rw [getD_snoc, getD_snoc, h.len]
    split
    · exact h.same j
    · split
      · exact ⟨a, rfl⟩
      · exact ⟨0, rfl⟩
  · rw [getD_snoc]
    simp only [List.length_append, List.length_cons, List.length_nil] at hj
    split
    · rename_i hlt; exact h.ok j hlt
    · rw [if_pos (by omega)]; exact hx
theorem WA.done {l l' : List ApiWord} (h : WA l l') (hl : l.length ≤ 1500) (a b : Int) : WL (l ++ [⟨0, [], 0, 0, a⟩]) (l' ++ [⟨0, [], 0, 0, b⟩]) := by
  have key : ∀ j, ∃ c, (l' ++ [(⟨0, [], 0, 0, b⟩ : ApiWord)]).getD j default = movW ((l ++ [(⟨0, [], 0, 0, a⟩ : ApiWord)]).getD j default) c := by
    intro j
    rw [getD_snoc, getD_snoc, h.len]
    split
    · exact h.same j
    · split
      · exact ⟨b, rfl⟩
      · exact ⟨0, rfl⟩
  refine ⟨by simp [h.len], by simp; omega, fun j => ?_, fun j => ?_, fun j => ?_, fun j => ?_, fun j hj => ?_, fun j hj => ?_⟩
  · obtain ⟨c, hc⟩ := key j; rw [hc]; rfl
  · obtain ⟨c, hc⟩ := key j; rw [hc]; rfl
  · obtain ⟨c, hc⟩ := key j; rw [hc]; rfl
  · obtain ⟨c, hc⟩ := key j; rw [hc]; rfl
  · rw [getD_snoc] at hj ⊢
    split
    · rename_i hlt
      rw [if_pos hlt] at hj
      exact (h.ok j hlt).2 hj
    · rename_i hlt
      rw [if_neg hlt] at hj
      split at hj
      · exact absurd hj (by show ¬ (0 : Int) = 1; decide)
      · exact absurd hj (by show ¬ (0 : Int) = 1; decide)
  · rw [getD_snoc]
    simp only [List.length_append, List.length_cons, List.length_nil] at hj
    rw [if_neg (by omega), if_pos (by omega)]
/-- The words of a text, and those of one with a space behind it. -/
theorem words_sp (K : Nat) (hK : 100000 < K) : ∀ (k : Nat) (rest : List UInt8) (l l' : List ApiWord) (i i' : Int), WA l l' → l.length ≤ 1500 → rest.length ≤ 5000 → rest.length < k →
    (∃ at_ at' e, e ≠ 0 ∧ wordsR K k l rest i = some ([], at_, e) ∧ wordsR K (k + 1) l' (rest ++ [32]) i' = some ([], at', e)) ∨
    (∃ L L', wordsR K k l rest i = some (L, 0, 0) ∧ wordsR K (k + 1) l' (rest ++ [32]) i' = some (L', 0, 0) ∧ WL L L' ∧ 0 < L.length) := by
  intro k
  induction k with
  | zero => intro rest l l' i i' h0 h1 h2 h3; omega
  | succ k ih =>
    intro rest l l' i i' h0 h1 h2 h3
    cases rest with
    | nil =>
      right
      rw [wordsR, List.nil_append, wordsR, if_pos n32, wordsR]
      exact ⟨_, _, rfl, rfl, h0.done h1 _ _, by simp⟩
    | cons c r =>
      simp only [List.length_cons] at h2 h3
      rw [List.cons_append, wordsR, wordsR]
      by_cases h32 : (c.toNat : Int) = 32
      · rw [if_pos h32, if_pos h32]
        exact ih r l l' (i + 1) (i' + 1) h0 h1 (by omega) (by omega)
      rw [if_neg h32, if_neg h32]
      obtain ⟨t, a, g1, g2, g3⟩ := wordS_sp K hK i i' c r (by omega)
      rw [g1, g2]
      simp only [Option.bind_some]
      by_cases hz : t.2 = 0
      · rw [if_pos hz, if_pos hz]
        exact .inl ⟨i, i', 110, by decide, rfl, rfl⟩
      rw [if_neg hz, if_neg hz, h0.len]
      by_cases h15 : (1500 : Int) ≤ (l.length : Int)
      · rw [if_pos h15, if_pos h15]
        exact .inl ⟨i, i', 3, by decide, rfl, rfl⟩
      rw [if_neg h15, if_neg h15]
      have hb := (wordS_bound K i c r g1).resolve_left hz
      have ed : (c :: (r ++ [32])).drop t.2.toNat = (c :: r).drop t.2.toNat ++ [32] := by
        rw [← List.cons_append, List.drop_append_of_le_length (by simp; omega)]
      rw [ed]
      exact ih _ _ _ _ _ (h0.snoc a (g3 hz)) (by simp; omega) (by simp; omega) (by simp; omega)
end Go.Proofs.Ytbjbgodcenopnaa

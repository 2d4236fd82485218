/- Plain law of the package lex: what its functions come to. -/
import Derived.Test.YtbjbgodcenopnaaPdD
import Derived.Test.YtbjbgodcenopnaaPureBase
namespace Go.Proofs.Ytbjbgodcenopnaa
set_option linter.unusedVariables false
set_option maxHeartbeats 4000000
/-- As many turns as any loop here may take. -/
def KK : Nat := 1000000
def hexS (a b : UInt8) : Int := (lex_hex.f [a, b]).getD (-1)
theorem hex_eq (a b : UInt8) : lex_hex.f [a, b] = some (hexS a b) := by
  unfold hexS lex_hex.f strings_IndexByte.f
  simp only [List.length_cons, List.length_nil, Option.bind_some]
  repeat' split
  all_goals first | rfl | (exfalso; omega)
/-- What stands between quotes, from a place on. -/
def qS (acc r0 : List UInt8) (i : Int) : List UInt8 × Int :=
  match r0 with
  | [] => ([], 0)
  | c :: r =>
    if (c.toNat : Int) = 39 then (acc, i + 1)
    else if (c.toNat : Int) < 32 ∨ 126 < (c.toNat : Int) then ([], 0)
    else if ¬ (c.toNat : Int) = 92 then qS (acc ++ [c]) r (i + 1)
    else match r with
      | [] => ([], 0)
      | d :: r1 => if (d.toNat : Int) = 39 ∨ (d.toNat : Int) = 92 then qS (acc ++ [d]) r1 (i + 2)
        else match r1 with
          | a :: b :: r2 => if (d.toNat : Int) = 120 ∧ 0 ≤ hexS a b then qS (acc ++ [UInt8.ofNat (IntKind.wrap .u8 (hexS a b)).toNat]) r2 (i + 4) else ([], 0)
          | _ => ([], 0)
termination_by r0.length
decreasing_by all_goals (simp only [List.length_cons]; omega)
theorem qS_nil (acc : List UInt8) (i : Int) : qS acc [] i = ([], 0) := by rw [qS.eq_def]
theorem u8w_range (x : Int) : 0 ≤ IntKind.wrap .u8 x ∧ IntKind.wrap .u8 x < 256 := by rw [IntKind.wrap_u8]; omega
theorem quoted_l1 (K : Nat) : ∀ (k : Nat) (acc v0 : List UInt8) (i : Int), 0 ≤ i → i ≤ (v0.length : Int) → (v0.length : Int) ≤ 100000 → (acc.length : Int) ≤ i → (v0.length : Int) - i < k →
    lex_quoted.l1 K k acc v0 i = some (qS acc (v0.drop i.toNat) i) := by
  intro k
  induction k with
  | zero => intro acc v0 i h0 h1 h2 h3 h4; omega
  | succ k ih =>
    intro acc v0 i h0 h1 h2 h3 h4
    rw [lex_quoted.l1]
    cases hd : v0.drop i.toNat with
    | nil =>
      have := drop_nil h0 hd
      have n1 : ¬ (i < (v0.length : Int)) := by omega
      simp only [n1, decide_false, Bool.false_eq_true, if_false, qS_nil]
    | cons c r =>
      obtain ⟨hlt, hdr, hlen⟩ := drop_lt h0 hd
      have hb := bt_at hd
      have hc := u8_range c
      have w1 : IntKind.wrap .i64 (i + 1) = i + 1 := W_in (by omega) (by omega)
      have w2 : IntKind.wrap .i64 (i + 2) = i + 2 := W_in (by omega) (by omega)
      have w3 : IntKind.wrap .i64 (i + 3) = i + 3 := W_in (by omega) (by omega)
      have w4 : IntKind.wrap .i64 (i + 4) = i + 4 := W_in (by omega) (by omega)
      have w11 : IntKind.wrap .i64 (i + 1 + 1) = i + 2 := by rw [W_in (by omega) (by omega)]; omega
      have w31 : IntKind.wrap .i64 (i + 3 + 1) = i + 4 := by rw [W_in (by omega) (by omega)]; omega
      have hin : (0 : Int) ≤ i ∧ i < (v0.length : Int) := ⟨h0, hlt⟩
      simp only [hb, w1, w2, w3, w4, decide_eq_true_eq, hlt, hin, if_true, and_self, implies_true]
      rw [qS.eq_def]
      dsimp only
      by_cases c39 : (c.toNat : Int) = 39
      · simp only [c39, if_true]
      simp only [c39, if_false]
      by_cases cr : (c.toNat : Int) < 32 ∨ 126 < (c.toNat : Int)
      · simp only [cr, if_true, Bool.or_eq_true, decide_eq_true_eq]
      simp only [cr, if_false, Bool.or_eq_true, decide_eq_true_eq]
      by_cases c92 : (c.toNat : Int) = 92
      · simp only [c92, Bool.not_eq_true', decide_eq_false_iff_not, not_true, if_false]
        cases r with
        | nil =>
          simp only [List.length_nil] at hlen
          have n1 : ¬ (i + 1 < (v0.length : Int)) := by omega
          have n3 : ¬ (i + 3 < (v0.length : Int)) := by omega
          simp [n1, n3]
        | cons d r1 =>
          obtain ⟨hlt1, hdr1, hlen1⟩ := drop_lt (by omega : 0 ≤ i + 1) hdr
          have hb1 := bt_at hdr
          have hin1 : (0 : Int) ≤ i + 1 ∧ i + 1 < (v0.length : Int) := ⟨by omega, hlt1⟩
          simp only [hb1, hlt1, hin1, decide_true, if_true, implies_true, and_self, Bool.true_and, Bool.or_eq_true, decide_eq_true_eq]
          by_cases d39 : (d.toNat : Int) = 39 ∨ (d.toNat : Int) = 92
          · have hlacc : (acc.length : Int) + 1 ≤ 140737488355328 := by omega
            have := u8_range d
            have hg : (((0 : Int) ≤ (d.toNat : Int) ∧ (d.toNat : Int) < 256) ∧ acc.length + 1 ≤ 140737488355328) := by omega
            simp only [d39, if_true, hg, and_self, lex_quoted.j1, w11, u8_back]
            rw [ih _ _ _ (by omega) (by omega) h2 (by simp; omega) (by omega)]
            rw [show (i + 2).toNat = (i + 1 + 1).toNat from by omega, hdr1]
          · simp only [d39, if_false]
            cases r1 with
            | nil =>
              simp only [List.length_nil] at hlen1
              have n3 : ¬ (i + 3 < (v0.length : Int)) := by omega
              simp [n3]
            | cons a r2 =>
              cases r2 with
              | nil =>
                simp only [List.length_nil, List.length_cons] at hlen1
                have n3 : ¬ (i + 3 < (v0.length : Int)) := by omega
                simp [n3]
              | cons b r3 =>
                simp only [List.length_cons] at hlen1
                have n3 : i + 3 < (v0.length : Int) := by omega
                have hs : List.take ((i + 4).toNat - (i + 2).toNat) (List.drop (i + 2).toNat v0) = [a, b] := by
                  rw [show (i + 2).toNat = (i + 1 + 1).toNat from by omega, hdr1, show (i + 4).toNat - (i + 1 + 1).toNat = 2 from by omega]; rfl
                have hg2 : (0 : Int) ≤ i + 2 ∧ i + 2 ≤ i + 4 ∧ i + 4 ≤ (v0.length : Int) := by omega
                simp only [n3, decide_true, Bool.true_and, hs, hg2, and_self, implies_true, if_true, hex_eq, Option.bind_some, decide_eq_true_eq, Bool.and_eq_true]
                by_cases d120 : (d.toNat : Int) = 120
                · simp only [d120, if_true, Option.bind_some, true_and]
                  by_cases hh : 0 ≤ hexS a b
                  · have hw := u8w_range (hexS a b)
                    have hlacc : (acc.length : Int) + 1 ≤ 140737488355328 := by omega
                    have hg : (((0 : Int) ≤ IntKind.wrap .u8 (hexS a b) ∧ IntKind.wrap .u8 (hexS a b) < 256) ∧ acc.length + 1 ≤ 140737488355328) := by omega
                    simp only [hh, hg, if_true, and_self, lex_quoted.j1, w31]
                    rw [ih _ _ _ (by omega) (by omega) h2 (by simp; omega) (by omega)]
                    have hr3 : v0.drop (i + 4).toNat = r3 := by
                      rw [show (i + 4).toNat = (i + 1 + 1).toNat + 2 from by omega, ← List.drop_drop, hdr1]; rfl
                    rw [hr3]
                  · simp only [hh, if_false]
                · simp only [d120, false_and, if_false, Option.bind_some]
      · have hlacc : (acc.length : Int) + 1 ≤ 140737488355328 := by omega
        have hg : (((0 : Int) ≤ (c.toNat : Int) ∧ (c.toNat : Int) < 256) ∧ acc.length + 1 ≤ 140737488355328) := by omega
        simp only [c92, Bool.not_eq_true', decide_eq_false_iff_not, not_false_iff, if_true, hg, and_self, lex_quoted.j1, w1, u8_back]
        rw [ih _ _ _ (by omega) (by omega) h2 (by simp; omega) (by omega), hdr]
/-- What stands between quotes ends within the text. -/
theorem qS_bound : ∀ (n : Nat) (r acc : List UInt8) (i : Int), r.length ≤ n → 0 ≤ i → (qS acc r i).2 = 0 ∨ (i < (qS acc r i).2 ∧ (qS acc r i).2 ≤ i + r.length) := by
  intro n
  induction n with
  | zero =>
    intro r acc i h h0
    have : r = [] := by cases r <;> simp_all
    subst this
    exact Or.inl (by rw [qS_nil])
  | succ n ih =>
    intro r acc i h h0
    rw [qS.eq_def]
    split
    · exact Or.inl rfl
    · rename_i c r
      simp only [List.length_cons] at h ⊢
      split
      · right; simp; omega
      split
      · exact Or.inl rfl
      split
      · rcases ih r (acc ++ [c]) (i + 1) (by omega) (by omega) with h' | h'
        · exact Or.inl h'
        · right; omega
      split
      · exact Or.inl rfl
      · rename_i d r1
        simp only [List.length_cons] at h ⊢
        split
        · rcases ih r1 (acc ++ [d]) (i + 2) (by omega) (by omega) with h' | h'
          · exact Or.inl h'
          · right; omega
        split
        · rename_i a b r2
          simp only [List.length_cons] at h ⊢
          split
          · rcases ih r2 (acc ++ [UInt8.ofNat (IntKind.wrap .u8 (hexS a b)).toNat]) (i + 4) (by omega) (by omega) with h' | h'
            · exact Or.inl h'
            · right; omega
          · exact Or.inl rfl
        · exact Or.inl rfl
/-- How many bytes are such. -/
def manyS (p : UInt8 → Bool) : List UInt8 → Nat
  | [] => 0
  | c :: r => if p c then manyS p r + 1 else 0
theorem manyS_le (p : UInt8 → Bool) : ∀ l, manyS p l ≤ l.length
  | [] => Nat.le_refl 0
  | c :: r => by unfold manyS; have := manyS_le p r; split <;> simp <;> omega
def isDigit (c : UInt8) : Bool := decide (48 ≤ (c.toNat : Int)) && decide ((c.toNat : Int) ≤ 57)
def isWordy (c : UInt8) : Bool := ((decide ((c.toNat : Int) = 95) || (decide (97 ≤ (c.toNat : Int)) && decide ((c.toNat : Int) ≤ 122))) || (decide (65 ≤ (c.toNat : Int)) && decide ((c.toNat : Int) ≤ 90))) || (decide (48 ≤ (c.toNat : Int)) && decide ((c.toNat : Int) ≤ 57))
theorem many_1 (K : Nat) : ∀ (k : Nat) (v0 : List UInt8) (i n : Int), 0 ≤ i → 0 ≤ n → i + n ≤ (v0.length : Int) → (v0.length : Int) ≤ 100000 → (v0.length : Int) - (i + n) < k →
    lex_many_of_lex_word_1.l1 K k v0 i n = some (n + manyS isDigit (v0.drop (i + n).toNat)) := by
  intro k
  induction k with
  | zero => intro v0 i n h0 h1 h2 h3 h4; omega
  | succ k ih =>
    intro v0 i n h0 h1 h2 h3 h4
    rw [lex_many_of_lex_word_1.l1]
    have w1 : IntKind.wrap .i64 (i + n) = i + n := W_in (by omega) (by omega)
    have w2 : IntKind.wrap .i64 (n + 1) = n + 1 := W_in (by omega) (by omega)
    cases hd : v0.drop (i + n).toNat with
    | nil =>
      have := drop_nil (by omega : 0 ≤ i + n) hd
      have n1 : ¬ (i + n < (v0.length : Int)) := by omega
      simp [w1, n1, manyS]
    | cons c r =>
      obtain ⟨hlt, hdr, hlen⟩ := drop_lt (by omega : 0 ≤ i + n) hd
      have hin : (0 : Int) ≤ i + n ∧ i + n < (v0.length : Int) := ⟨by omega, hlt⟩
      simp only [w1, w2, hlt, hin, bt_at hd, decide_true, implies_true, and_self, if_true, lex_word_1.f, Option.bind_some, Bool.true_and]
      rw [manyS, show (decide (48 ≤ (c.toNat : Int)) && decide ((c.toNat : Int) ≤ 57)) = isDigit c from rfl]
      cases isDigit c with
      | false => simp
      | true =>
        simp only [if_true]
        rw [ih v0 i (n + 1) h0 (by omega) (by omega) h3 (by omega), show (i + (n + 1)).toNat = (i + n + 1).toNat from by congr 1; omega, hdr]
        congr 1; omega
theorem many_w (K : Nat) : ∀ (k : Nat) (v0 : List UInt8) (i n : Int), 0 ≤ i → 0 ≤ n → i + n ≤ (v0.length : Int) → (v0.length : Int) ≤ 100000 → (v0.length : Int) - (i + n) < k →
    lex_many_of_lex_wordy.l1 K k v0 i n = some (n + manyS isWordy (v0.drop (i + n).toNat)) := by
  intro k
  induction k with
  | zero => intro v0 i n h0 h1 h2 h3 h4; omega
  | succ k ih =>
    intro v0 i n h0 h1 h2 h3 h4
    rw [lex_many_of_lex_wordy.l1]
    have w1 : IntKind.wrap .i64 (i + n) = i + n := W_in (by omega) (by omega)
    have w2 : IntKind.wrap .i64 (n + 1) = n + 1 := W_in (by omega) (by omega)
    cases hd : v0.drop (i + n).toNat with
    | nil =>
      have := drop_nil (by omega : 0 ≤ i + n) hd
      have n1 : ¬ (i + n < (v0.length : Int)) := by omega
      simp [w1, n1, manyS]
    | cons c r =>
      obtain ⟨hlt, hdr, hlen⟩ := drop_lt (by omega : 0 ≤ i + n) hd
      have hin : (0 : Int) ≤ i + n ∧ i + n < (v0.length : Int) := ⟨by omega, hlt⟩
      simp only [w1, w2, hlt, hin, bt_at hd, decide_true, implies_true, and_self, if_true, lex_wordy.f, Option.bind_some, Bool.true_and]
      rw [manyS, ← isWordy]
      cases isWordy c with
      | false => simp
      | true =>
        simp only [if_true]
        rw [ih v0 i (n + 1) h0 (by omega) (by omega) h3 (by omega), show (i + (n + 1)).toNat = (i + n + 1).toNat from by congr 1; omega, hdr]
        congr 1; omega
theorem u64_range (x : Int) : 0 ≤ IntKind.wrap .u64 x ∧ IntKind.wrap .u64 x < 18446744073709551616 := by rw [IntKind.wrap_u64]; omega
theorem mul_tot (a b : Int) : ∃ r, num_Mul.f a b = some r := by
  unfold num_Mul.f num_size.f bits_Mul64.f num_whole.f
  have h : ∀ x : Int, ∃ y, (if decide (x < 0) = true then some (IntKind.wrap .u64 (0 - IntKind.wrap .u64 x)) else some (IntKind.wrap .u64 x)) = some y ∧ 0 ≤ y ∧ y < 18446744073709551616 := by
    intro x; split
    · exact ⟨_, rfl, u64_range _⟩
    · exact ⟨_, rfl, u64_range _⟩
  obtain ⟨x, hx, hx'⟩ := h a
  obtain ⟨y, hy, hy'⟩ := h b
  rw [hx, hy]
  simp only [Option.bind_some]
  rw [if_pos ⟨hx', hy'⟩]
  simp only [Option.bind_some]
  repeat' split
  all_goals exact ⟨_, rfl⟩
theorem add_tot (a b : Int) : ∃ r, num_Add.f a b = some r := by
  unfold num_Add.f num_whole.f
  split <;> exact ⟨_, rfl⟩
theorem integer_tot_l1 (K : Nat) : ∀ (k : Nat) b n (l : List Int) (m i : Int), 0 ≤ i → i ≤ m → m = l.length → m ≤ 100000 → m - i < k → ∃ r, lex_integer.l1 K k b n l m i = some r := by
  intro k
  induction k with
  | zero => intro b n l m i h0 h1 h2 h3 h4; omega
  | succ k ih =>
    intro b n l m i h0 h1 h2 h3 h4
    rw [lex_integer.l1]
    have w1 : IntKind.wrap .i64 (i + 1) = i + 1 := W_in (by omega) (by omega)
    have hj : ∀ d, i < m → ∃ r, lex_integer.j1 (lex_integer.l1 K k) K b n d l m i = some r := by
      intro d hl
      unfold lex_integer.j1
      obtain ⟨r, hr⟩ := mul_tot n 10
      rw [hr]
      simp only [Option.bind_some]
      split
      · exact ⟨_, rfl⟩
      obtain ⟨r', hr'⟩ := add_tot r.1 d
      rw [hr']
      simp only [Option.bind_some]
      split
      · exact ⟨_, rfl⟩
      rw [w1]
      exact ih _ _ _ _ _ (by omega) (by omega) h2 h3 (by omega)
    split
    · rename_i h
      simp at h
      rw [if_pos ⟨h0, by omega⟩]
      split <;> exact hj _ h
    · exact ⟨_, rfl⟩
theorem cut_len (s p : List UInt8) : (strings_CutPrefix.f s p) = some (Lib.trimPrefix s p, Lib.hasPrefix s p) := rfl
theorem trim_le (s p : List UInt8) : (Lib.trimPrefix s p).length ≤ s.length := by
  unfold Lib.trimPrefix; split <;> simp
theorem integer_tot (K : Nat) (s : List UInt8) (h : (s.length : Int) ≤ 99999) (hK : 100000 < K) : ∃ r, lex_integer.f K s = some r := by
  unfold lex_integer.f
  rw [cut_len]
  simp only [Option.bind_some]
  have := trim_le s [45]
  rw [if_pos ?_]
  · split
    · exact ⟨_, rfl⟩
    · exact integer_tot_l1 K K _ _ _ _ _ (by omega) (by omega) rfl (by simp [FW.bytesI]; omega) (by simp [FW.bytesI]; omega)
  · intro h1 h2
    simp at h1
    omega
theorem float_tot_l1 (K : Nat) : ∀ (k : Nat) (s : List UInt8) (b i : Int), 0 ≤ i → i ≤ 16 → i % 2 = 0 → s.length = 16 → 16 - i < k → ∃ r, lex_float.l1 K k s b i = some r := by
  intro k
  induction k with
  | zero => intro s b i h0 h1 h2 h3 h4; omega
  | succ k ih =>
    intro s b i h0 h1 h2 h3 h4
    rw [lex_float.l1]
    have w1 : IntKind.wrap .i64 (i + 2) = i + 2 := W_in (by omega) (by omega)
    simp only [w1, h3]
    split
    · rename_i h
      simp at h
      rw [if_pos (by omega)]
      have hl : (List.drop i.toNat s).length = 16 - i.toNat := by simp [h3]
      match hd : List.drop i.toNat s with
      | [] => rw [hd] at hl; simp at hl; omega
      | [a] => rw [hd] at hl; simp at hl; omega
      | a :: c :: r =>
        rw [show (i + 2).toNat - i.toNat = 2 from by omega]
        simp only [List.take_succ_cons, List.take_zero, hex_eq, Option.bind_some]
        split
        · exact ⟨_, rfl⟩
        · exact ih _ _ _ (by omega) (by omega) (by omega) h3 (by omega)
    · unfold num_Canon.f
      split <;> exact ⟨_, rfl⟩
theorem float_tot (K : Nat) (s : List UInt8) (hK : 100000 < K) : ∃ r, lex_float.f K s = some r := by
  unfold lex_float.f
  split
  · exact ⟨_, rfl⟩
  · rename_i h
    simp at h
    exact float_tot_l1 K K s 0 0 (by omega) (by omega) (by omega) (by omega) (by omega)
theorem quoted_eq (K : Nat) (s : List UInt8) (h : (s.length : Int) ≤ 99999) (h1 : 1 ≤ s.length) (hK : 100000 < K) : lex_quoted.f K s = some (qS [] (s.drop 1) 1) := by
  unfold lex_quoted.f
  rw [quoted_l1 K K [] s 1 (by omega) (by omega) (by omega) (by simp) (by omega)]
  rfl
theorem many_1_eq (K : Nat) (s : List UInt8) (i : Int) (h : (s.length : Int) ≤ 99999) (h0 : 0 ≤ i) (h1 : i ≤ s.length) (hK : 100000 < K) : lex_many_of_lex_word_1.f K s i = some ((manyS isDigit (s.drop i.toNat) : Nat) : Int) := by
  unfold lex_many_of_lex_word_1.f
  rw [many_1 K K s i 0 h0 (by omega) (by omega) (by omega) (by omega)]
  simp
theorem many_w_eq (K : Nat) (s : List UInt8) (i : Int) (h : (s.length : Int) ≤ 99999) (h0 : 0 ≤ i) (h1 : i ≤ s.length) (hK : 100000 < K) : lex_many_of_lex_wordy.f K s i = some ((manyS isWordy (s.drop i.toNat) : Nat) : Int) := by
  unfold lex_many_of_lex_wordy.f
  rw [many_w K K s i 0 h0 (by omega) (by omega) (by omega) (by omega)]
  simp
end Go.Proofs.Ytbjbgodcenopnaa

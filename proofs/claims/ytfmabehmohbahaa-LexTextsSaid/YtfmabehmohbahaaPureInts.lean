/- offshootlaw11.LexInts in plain Lean: it answers true at every text. -/
import Derived.Test.YtfmabehmohbahaaPureNum
namespace Go.Proofs.Ytfmabehmohbahaa
set_option linter.unusedVariables false
set_option maxHeartbeats 1000000
theorem manyS_all (p : UInt8 → Bool) : ∀ l : List UInt8, (∀ c ∈ l, p c = true) → manyS p l = l.length
  | [], _ => rfl
  | c :: r, h => by rw [manyS, if_pos (h c (by simp)), manyS_all p r (fun x hx => h x (by simp [hx]))]; simp
theorem manyS_stop (p : UInt8 → Bool) (l r : List UInt8) (c : UInt8) (h : ∀ x ∈ l, p x = true) (hc : p c = false) : manyS p (l ++ c :: r) = l.length := by
  induction l with
  | nil => simp [manyS, hc]
  | cons x l ih =>
    rw [List.cons_append, manyS, if_pos (h x (by simp)), ih (fun y hy => h y (by simp [hy]))]; simp
/-- The word at a digit, or at a minus. -/
theorem word_int (K : Nat) (hK : 100000 < K) (s : List UInt8) (i : Int) (hs : (s.length : Int) ≤ 3000) (h0 : 0 ≤ i) {c : UInt8} {r : List UInt8} (hd : s.drop i.toNat = c :: r) (hc : isDigit c = true ∨ c = 45) {v : Int} {ok : Bool} (hi : lex_integer.f K (c :: r.take (manyS isDigit r)) = some (v, ok)) :
    lex_word.f K s i = some (if ok = true then (⟨2, [], v, 0, i⟩, 1 + (manyS isDigit r : Int)) else (⟨0, [], 0, 0, 0⟩, 0)) := by
  unfold lex_word.f
  obtain ⟨h1, hdr, hlen⟩ := drop_lt h0 hd
  have w1 : IntKind.wrap .i64 (i + 1) = i + 1 := W_in (by omega) (by omega)
  have hb := bt_at hd
  simp only [w1, hb]
  have hr : (48 ≤ (c.toNat : Int) ∧ (c.toNat : Int) ≤ 57) ∨ (c.toNat : Int) = 45 := by
    rcases hc with h | rfl
    · exact Or.inl (by simpa [isDigit] using h)
    · exact Or.inr rfl
  have n102 : decide ((c.toNat : Int) = 102) = false := decide_eq_false (by omega)
  have n39 : decide ((c.toNat : Int) = 39) = false := decide_eq_false (by omega)
  rw [if_pos ⟨h0, h1⟩]
  simp only [n102, n39, Bool.false_and, Bool.false_eq_true, false_implies, if_true, if_false]
  unfold lex_word_1.f
  simp only [Option.bind_some]
  have hcond : ((decide (48 ≤ (c.toNat : Int)) && decide ((c.toNat : Int) ≤ 57)) || decide ((c.toNat : Int) = 45)) = true := by
    rw [← Bool.decide_and, ← Bool.decide_or, decide_eq_true_eq]; exact hr
  rw [if_pos hcond, many_1_eq K s (i + 1) (by omega) (by omega) (by omega) hK, hdr]
  simp only [Option.bind_some]
  have hm := manyS_le isDigit r
  have w2 : IntKind.wrap .i64 (1 + (manyS isDigit r : Int)) = 1 + (manyS isDigit r : Int) := W_in (by omega) (by omega)
  have w3 : IntKind.wrap .i64 (i + (1 + (manyS isDigit r : Int))) = i + (1 + (manyS isDigit r : Int)) := W_in (by omega) (by omega)
  rw [w2, w3, if_pos (by omega), hd, show (i + (1 + (manyS isDigit r : Int))).toNat - i.toNat = manyS isDigit r + 1 from by omega, List.take_succ_cons, hi]
  cases ok <;> simp
theorem words_end (K : Nat) (hK : 100000 < K) (k : Nat) (l : List ApiWord) (s : List UInt8) (i : Int) (hl : (l.length : Int) ≤ 5000) (h : (s.length : Int) ≤ i) :
    lex_Words.l1 K (k + 1) l s i = some (l ++ [⟨0, [], 0, 0, (s.length : Int)⟩], 0, 0) := by
  rw [lex_Words.l1, if_neg (by simp; omega), if_pos (by simp only [List.length_cons, List.length_nil]; omega)]
theorem words_step (K : Nat) (k : Nat) (l : List ApiWord) (s : List UInt8) (i : Int) (h0 : 0 ≤ i) {c : UInt8} {r : List UInt8} (hd : s.drop i.toNat = c :: r) (h32 : ¬ c = 32) {w : ApiWord} {n : Int} (hw : lex_word.f K s i = some (w, n)) :
    lex_Words.l1 K (k + 1) l s i = if n = 0 then some ([], i, 110) else if 1500 ≤ (l.length : Int) then some ([], i, 3) else lex_Words.l1 K k (l ++ [w]) s (IntKind.wrap .i64 (i + n)) := by
  obtain ⟨h1, hdr, hlen⟩ := drop_lt h0 hd
  have hb := bt_at hd
  have hn : ¬ (c.toNat : Int) = 32 := fun h => h32 ((u8_eq c 32 (by omega)).mp h)
  rw [lex_Words.l1, if_pos (by simpa using h1), if_pos ⟨h0, h1⟩, hb, if_neg (by simpa using hn), hw]
  simp only [Option.bind_some, decide_eq_true_eq]
  by_cases hz : n = 0
  · simp only [hz, if_true]
  · simp only [hz, if_false]
    by_cases hm : 1500 ≤ (l.length : Int)
    · simp only [hm, if_true]
    · simp only [hm, if_false]
      rw [if_pos (by simp only [List.length_cons, List.length_nil]; omega)]
theorem words_int (d : List UInt8) (hg : Good d) (hne : d ≠ []) (hl : (d.length : Int) ≤ 3000) :
    lex_Words.f KK d = some (if (intS d).2 = true then ([⟨2, [], (intS d).1, 0, 0⟩, ⟨0, [], 0, 0, (d.length : Int)⟩], 0, 0) else ([], 0, 110)) := by
  have hK : 100000 < KK := by decide
  obtain ⟨c, r, rfl⟩ : ∃ c r, d = c :: r := by cases d with | nil => exact absurd rfl hne | cons c r => exact ⟨c, r, rfl⟩
  obtain ⟨h1, h2⟩ := hg c r rfl
  unfold lex_Words.f
  rw [if_neg (by simp; simp at hl; omega)]
  have hm := manyS_all isDigit r h2
  have hint := integer_eq KK hK (c :: r) hg (by omega)
  have hw := word_int KK hK (c :: r) 0 hl (by omega) (c := c) (r := r) rfl h1 (v := (intS (c :: r)).1) (ok := (intS (c :: r)).2) (by rw [hm, List.take_length]; exact hint)
  have hc32 : ¬ c = 32 := by
    rintro rfl
    rcases h1 with h | h
    · exact absurd h (by decide)
    · exact absurd h (by decide)
  obtain ⟨k, hk⟩ : ∃ k, KK = k + 1 + 1 := ⟨KK - 2, by decide⟩
  rw [hm] at hw
  generalize hK2 : KK = K2 at *
  refine (fun (h : ∀ F, F = k + 1 + 1 → lex_Words.l1 K2 F [] (c :: r) 0 = _) => h K2 hk) ?_
  rintro _ rfl
  cases hok : (intS (c :: r)).2 with
  | true =>
    rw [hok] at hw
    simp only [if_true] at hw
    rw [words_step K2 (k + 1) [] (c :: r) 0 (by omega) (c := c) (r := r) rfl hc32 hw, if_neg (by omega), if_neg (by simp)]
    simp only [List.length_cons] at hl
    rw [W_in (by omega) (by omega), words_end K2 hK k _ _ _ (by simp) (by simp; omega)]
    simp
  | false =>
    rw [hok] at hw
    simp only [Bool.false_eq_true, if_false] at hw
    rw [words_step K2 (k + 1) [] (c :: r) 0 (by omega) (c := c) (r := r) rfl hc32 hw]
    simp
theorem ints_tail (d : List UInt8) (l1 : List Int) (hd : FW.toB l1 = d) (hg : Good d) (hl : (d.length : Int) ≤ 22) :
    (Option.bind (offshootref11_Int.f KK (FW.toB l1)) fun t1 => (Option.bind (lex_Words.f KK (FW.toB l1)) fun t2 => (if (decide ((List.length l1 : Int) = 0)) = true then (Option.bind (offshootlaw11_awake.f KK) fun t3 => some (((t3 && (decide (t2.2.2 = 0))) && (decide ((List.length t2.1 : Int) = 1))))) else (if (!t1.2) = true then (Option.bind (offshootlaw11_awake.f KK) fun t4 => some (((t4 && (decide (t2.2.2 = 110))) && (decide ((List.length t2.1 : Int) = 0))))) else (Option.bind (offshootlaw11_awake.f KK) fun t5 => (if ((t5 && (decide (t2.2.2 = 0))) && (decide ((List.length t2.1 : Int) = 2))) = true → ((0 : Int) ≤ 0 ∧ 0 < (List.length t2.1 : Int)) then some ((((t5 && (decide (t2.2.2 = 0))) && (decide ((List.length t2.1 : Int) = 2))) && (decide (((List.getD t2.1 (Int.toNat 0) default).N) = t1.1)))) else none)))))) = some true := by
  have hK : 100000 < KK := by decide
  have hlen : l1.length = d.length := by rw [← hd]; simp [FW.toB]
  rw [hd, ref_eq KK hK d hg, awake_true]
  simp only [Option.bind_some, hlen]
  cases d with
  | nil =>
    have : lex_Words.f KK [] = some ([⟨0, [], 0, 0, 0⟩], 0, 0) := by
      unfold lex_Words.f
      obtain ⟨k, hk⟩ : ∃ k, KK = k + 1 := ⟨KK - 1, by decide⟩
      rw [if_neg (by simp)]
      have := words_end KK hK k [] [] 0 (by simp) (by simp)
      rw [← hk] at this
      exact this
    rw [this]; rfl
  | cons c r =>
    rw [words_int (c :: r) hg (by simp) (by omega)]
    simp only [Option.bind_some]
    rw [if_neg (by simp; omega)]
    cases hok : (intS (c :: r)).2 with
    | true => simp
    | false => simp
theorem ints_l1 : ∀ (k : Nat) (l1 : List Int) (s : List UInt8) (i : Int), 0 ≤ i → i ≤ 22 → (l1.length : Int) ≤ i → Good (FW.toB l1) → 22 - i < k → offshootlaw11_LexInts.l1 KK k l1 s i = some true := by
  intro k
  induction k with
  | zero => intro l1 s i h0 h1 h2 h3 h4; omega
  | succ k ih =>
    intro l1 s i h0 h1 h2 h3 h4
    rw [offshootlaw11_LexInts.l1]
    have w1 : i < 22 → IntKind.wrap .i64 (i + 1) = i + 1 := fun _ => W_in (by omega) (by omega)
    apply Sat.get
    refine Sat.ite (fun h => ?_) (fun h => ?_)
    · simp only [Bool.and_eq_true, decide_eq_true_eq] at h
      refine Sat.chk ⟨h0, h.1⟩ ?_
      refine Sat.chk (fun _ => ⟨h0, h.1⟩) ?_
      refine Sat.chk (fun _ => ⟨h0, h.1⟩) ?_
      refine Sat.ite (fun h' => ?_) (fun h' => ?_)
      · refine Sat.chk ⟨h0, h.1⟩ ?_
        refine Sat.chk (by simp only [List.length_cons, List.length_nil]; omega) ?_
        unfold offshootlaw11_LexInts.j1
        rw [w1 h.2]
        refine Sat.eq (ih _ s (i + 1) (by omega) (by omega) (by simp; omega) ?_ (by omega)) rfl
        have hx : FW.toB (l1 ++ [FW.bt s i]) = FW.toB l1 ++ [List.getD s i.toNat 0] := by
          simp [FW.toB, FW.bt]
        rw [hx]
        have hbt : FW.bt s i = ((List.getD s i.toNat 0).toNat : Int) := rfl
        rw [hbt] at h'
        generalize List.getD s i.toNat 0 = x at h'
        have h45 : ((x.toNat : Int) = 45) ↔ x = 45 := u8_eq x 45 (by omega)
        have hx' : isDigit x = true ∨ (x = 45 ∧ i = 0) := by
          simp only [Bool.or_eq_true, Bool.and_eq_true, decide_eq_true_eq, h45] at h'
          rcases h' with h' | h'
          · left; simp only [isDigit, Bool.and_eq_true, decide_eq_true_eq]; exact h'
          · exact Or.inr h'
        intro c r e
        cases hl : FW.toB l1 with
        | nil =>
          rw [hl] at e
          simp only [List.nil_append, List.cons.injEq] at e
          obtain ⟨rfl, rfl⟩ := e
          exact ⟨hx'.imp id And.left, fun _ h => by cases h⟩
        | cons c' r' =>
          rw [hl] at e h3
          simp only [List.cons_append, List.cons.injEq] at e
          obtain ⟨rfl, rfl⟩ := e
          obtain ⟨a, b⟩ := h3 c' r' rfl
          refine ⟨a, fun y hy => ?_⟩
          rcases List.mem_append.mp hy with hy | hy
          · exact b y hy
          · simp only [List.mem_cons, List.not_mem_nil, or_false] at hy
            subst hy
            refine hx'.resolve_right fun ⟨_, h⟩ => ?_
            have : (FW.toB l1).length = l1.length := by simp [FW.toB]
            rw [hl] at this
            simp at this
            omega
      · unfold offshootlaw11_LexInts.j1
        rw [w1 h.2]
        exact Sat.eq (ih _ s (i + 1) (by omega) (by omega) (by omega) h3 (by omega)) rfl
    · have : (FW.toB l1).length = l1.length := by simp [FW.toB]
      exact Sat.eq (ints_tail (FW.toB l1) l1 rfl h3 (by omega)) rfl
theorem ints_true (s : List UInt8) : ∃ K, offshootlaw11_LexInts.f K s = some true := by
  refine ⟨KK, ?_⟩
  unfold offshootlaw11_LexInts.f
  exact ints_l1 KK [] s 0 (by omega) (by omega) (by simp) (by intro c r h; cases h) (by decide)
end Go.Proofs.Ytfmabehmohbahaa

/- Plain law of the document's lexer: it is total, and its words are well-formed. -/
import Derived.Test.YtfmabehmohbahaaPureParse
namespace Go.Proofs.Ytfmabehmohbahaa
set_option linter.unusedVariables false
set_option maxHeartbeats 1000000
theorem digit_sat (x : Int) (h0 : 0 ≤ x) (h1 : x < 256) : Sat (offshootref11_digit.f x) fun d => 0 ≤ d ∧ d ≤ 16 := by
  unfold offshootref11_digit.f
  refine Sat.ite (fun h => ?_) (fun _ => Sat.ite (fun h => ?_) (fun _ => Sat.some (by omega)))
  · simp only [Bool.and_eq_true, decide_eq_true_eq] at h
    rw [W_in (x := x) (by omega) (by omega), W_in (by omega) (by omega)]
    exact Sat.some (by omega)
  · simp only [Bool.and_eq_true, decide_eq_true_eq] at h
    rw [W_in (x := x) (by omega) (by omega), W_in (x := x - 97) (by omega) (by omega), W_in (by omega) (by omega)]
    exact Sat.some (by omega)
theorem digit_bt (l : List UInt8) (i : Int) : Sat (offshootref11_digit.f (FW.bt l i)) fun d => 0 ≤ d ∧ d ≤ 16 := digit_sat _ (FW.bt_lo l i) (FW.bt_hi l i)
theorem Sat.bindG {α β : Type} {P : α → Prop} {R : β → Prop} {F : β → Option α} {p : Prop} [Decidable p] {x : Option β} {d : β} (h : p → Sat x R) (h1 : p → ∀ r, R r → Sat (F r) P) (h2 : ¬ p → Sat (F d) P) : Sat (Option.bind (if p then x else Option.some d) F) P := by
  by_cases hp : p
  · rw [if_pos hp]; exact Sat.bind (h hp) (h1 hp)
  · rw [if_neg hp]; exact h2 hp
theorem quoted11_l1 (K : Nat) : ∀ (k : Nat) (l : List Int) (s : List UInt8) (i : Int), 0 ≤ i → i ≤ (s.length : Int) → (s.length : Int) ≤ 3000 → (l.length : Int) ≤ i → (s.length : Int) - i < k →
    Sat (offshootref11_Quoted.l1 K k l s i) fun r => 0 ≤ r.2 ∧ r.2 ≤ (s.length : Int) ∧ (r.1.length : Int) ≤ s.length := by
  intro k
  induction k with
  | zero => intro l s i h0 h1 h2 h3 h4; omega
  | succ k ih =>
    intro l s i h0 h1 h2 h3 h4
    have bad : Sat (some (([] : List UInt8), (0 : Int))) fun r => 0 ≤ r.2 ∧ r.2 ≤ (s.length : Int) ∧ (r.1.length : Int) ≤ s.length := Sat.some (by simp)
    rw [offshootref11_Quoted.l1]
    refine Sat.ite (fun h => ?_) (fun _ => bad)
    have hi : i < (s.length : Int) := by simpa using h
    refine Sat.chk ⟨h0, hi⟩ ?_
    have w1 : IntKind.wrap .i64 (i + 1) = i + 1 := W_in (by omega) (by omega)
    have w2 : IntKind.wrap .i64 (i + 2) = i + 2 := W_in (by omega) (by omega)
    have w3 : IntKind.wrap .i64 (i + 3) = i + 3 := W_in (by omega) (by omega)
    have w4 : IntKind.wrap .i64 (i + 4) = i + 4 := W_in (by omega) (by omega)
    rw [w1, w2, w3, w4]
    refine Sat.ite (fun _ => ?_) (fun _ => ?_)
    · refine Sat.some ⟨?_, ?_, ?_⟩
      · show 0 ≤ i + 1; omega
      · show i + 1 ≤ _; omega
      · show ((FW.toB l).length : Int) ≤ _; simp [FW.toB]; omega
    refine Sat.ite (fun _ => bad) (fun _ => ?_)
    refine Sat.ite (fun _ => ?_) (fun _ => ?_)
    · refine Sat.chk (by simp only [List.length_cons, List.length_nil]; omega) ?_
      exact ih _ s (i + 1) (by omega) (by omega) h2 (by simp; omega) (by omega)
    refine Sat.chk (fun h => ⟨by omega, by simpa using h⟩) ?_
    refine Sat.chk (fun _ h => ⟨by omega, by simpa using h⟩) ?_
    refine Sat.ite (fun h => ?_) (fun _ => ?_)
    · simp only [Bool.and_eq_true, decide_eq_true_eq] at h
      refine Sat.chk ⟨by omega, h.1⟩ ?_
      refine Sat.chk (by simp only [List.length_cons, List.length_nil]; omega) ?_
      exact ih _ s (i + 2) (by omega) (by omega) h2 (by simp; omega) (by omega)
    refine Sat.chk (fun h => by simp only [decide_eq_false_iff_not] at h; omega) ?_
    refine Sat.chk (fun h => by simp only [Bool.or_eq_false_iff, decide_eq_false_iff_not] at h; omega) ?_
    refine Sat.bindG (fun _ => digit_bt s (i + 2)) (fun hp1 t1 ht1 => ?_) (fun hp1 => ?_)
    · refine Sat.chk (fun h => by simp only [Bool.or_eq_false_iff, decide_eq_false_iff_not] at h; omega) ?_
      refine Sat.bindG (fun _ => digit_bt s (i + 3)) (fun hp2 t2 ht2 => ?_) (fun hp2 => ?_)
      · refine Sat.ite (fun _ => bad) (fun h => ?_)
        simp only [Bool.or_eq_false_iff, decide_eq_false_iff_not] at h
        refine Sat.chk (by omega) ?_
        refine Sat.bind (digit_bt s (i + 2)) fun t3 ht3 => ?_
        refine Sat.chk (by omega) ?_
        refine Sat.bind (digit_bt s (i + 3)) fun t4 ht4 => ?_
        refine Sat.chk (by simp only [List.length_cons, List.length_nil]; omega) ?_
        exact ih _ s (i + 4) (by omega) (by omega) h2 (by simp; omega) (by omega)
      · refine Sat.ite (fun _ => bad) (fun h => ?_)
        simp only [Bool.or_eq_false_iff] at h
        exact absurd (by simp only [Bool.or_eq_false_iff]; exact h.1) hp2
    · refine Sat.chk (fun h => by
        simp only [Bool.or_eq_false_iff] at h
        exact absurd (by simp only [Bool.or_eq_false_iff]; exact h.1) hp1) ?_
      refine Sat.bindG (R := fun _ => False) (fun h => by
        simp only [Bool.or_eq_false_iff] at h
        exact absurd (by simp only [Bool.or_eq_false_iff]; exact h.1) hp1) (fun _ t2 ht2 => ?_) (fun hp2 => ?_)
      · exact ht2.elim
      · refine Sat.ite (fun _ => bad) (fun h => ?_)
        simp only [Bool.or_eq_false_iff] at h
        exact absurd (by simp only [Bool.or_eq_false_iff]; exact h.1.1) hp1
theorem quoted11_sat (K : Nat) (hK : 4000 < K) (s : List UInt8) (h : (s.length : Int) ≤ 3000) : Sat (offshootref11_Quoted.f K s) fun r => 0 ≤ r.2 ∧ r.2 ≤ (s.length : Int) ∧ (r.1.length : Int) ≤ s.length := by
  unfold offshootref11_Quoted.f
  by_cases hs : s = []
  · subst hs
    exact Sat.some (by simp)
  · have hl : 0 < s.length := List.length_pos_iff.2 hs
    refine Sat.chk (fun _ => by omega) ?_
    refine Sat.ite (fun _ => Sat.some (by simp)) (fun _ => ?_)
    exact quoted11_l1 K K [] s 1 (by omega) (by omega) h (by simp) (by omega)
theorem int11_l1 (K : Nat) (b : Bool) : ∀ (k : Nat) (s : List UInt8) (n i : Int), 0 ≤ i → i ≤ (s.length : Int) → (s.length : Int) ≤ 3000 → (s.length : Int) - i < k → Sat (offshootref11_Int.l1 K k b s n i) fun r => In64 r.1 := by
  intro k
  induction k with
  | zero => intro s n i h0 h1 h2 h3; omega
  | succ k ih =>
    intro s n i h0 h1 h2 h3
    have z : In64 0 := by unfold In64; omega
    rw [offshootref11_Int.l1]
    refine Sat.ite (fun h => ?_) (fun _ => ?_)
    · have hi : i < (s.length : Int) := by simpa using h
      refine Sat.chk ⟨h0, hi⟩ ?_
      refine Sat.chk (fun _ => ⟨h0, hi⟩) ?_
      refine Sat.ite (fun _ => Sat.some z) (fun _ => ?_)
      refine Sat.chk ⟨h0, hi⟩ ?_
      rw [W_in (x := i + 1) (by omega) (by omega)]
      exact ih s _ (i + 1) (by omega) (by omega) h2 (by omega)
    · refine Sat.ite (fun _ => Sat.some (i64_range _)) (fun _ => Sat.ite (fun _ => Sat.some (i64_range _)) (fun _ => Sat.some z))
theorem int11_j1 (K : Nat) (hK : 4000 < K) (b : Bool) (s : List UInt8) (h : (s.length : Int) ≤ 3000) : Sat (offshootref11_Int.j1 K b s) fun r => In64 r.1 := by
  have z : In64 0 := by unfold In64; omega
  unfold offshootref11_Int.j1
  by_cases hs : s = []
  · subst hs
    refine Sat.chk (fun h => by simp at h) (Sat.ite (fun _ => Sat.some z) (fun h => by simp at h))
  · have hl : 0 < s.length := List.length_pos_iff.2 hs
    refine Sat.chk (fun _ => by omega) ?_
    refine Sat.ite (fun _ => Sat.some z) (fun _ => ?_)
    exact int11_l1 K b K s 0 0 (by omega) (by omega) h (by omega)
theorem int11_sat (K : Nat) (hK : 4000 < K) (s : List UInt8) (h : (s.length : Int) ≤ 3000) : Sat (offshootref11_Int.f K s) fun r => In64 r.1 := by
  unfold offshootref11_Int.f
  by_cases hs : s = []
  · subst hs
    refine Sat.chk (fun h => by simp at h) (Sat.ite (fun h => by simp at h) (fun _ => int11_j1 K hK _ _ (by simp)))
  · have hl : 0 < s.length := List.length_pos_iff.2 hs
    refine Sat.chk (fun _ => by omega) ?_
    refine Sat.ite (fun _ => ?_) (fun _ => int11_j1 K hK _ _ h)
    refine Sat.chk (by omega) ?_
    exact int11_j1 K hK _ _ (by simp; omega)
/-- A word that stands at the beginning of bytes. -/
def OneOk (s : List UInt8) (r : ApiWord × Int) : Prop := 0 ≤ r.2 ∧ r.2 ≤ (s.length : Int) ∧ (r.2 ≠ 0 → r.1.Kind ≠ 0) ∧ In64 r.1.N ∧ r.1.F < 18446744073709551616 ∧ r.1.S.length ≤ 500
theorem one_none (s : List UInt8) : OneOk s (⟨0, [], 0, 0, 0⟩, 0) := ⟨by decide, by show (0 : Int) ≤ _; omega, fun h => absurd rfl h, by unfold In64; dsimp only; omega, by decide, by decide⟩
theorem one_l1 (K : Nat) (v0 : List UInt8) (y : ApiWord) : ∀ (k : Nat) (t : List UInt8) (n m : Int) (b : Bool) (i : Int), 0 ≤ i → i ≤ (t.length : Int) → (t.length : Int) ≤ 3000 → 0 ≤ n → n + 1 ≤ (v0.length : Int) → (v0.length : Int) ≤ 3000 → 0 ≤ m → m < 18446744073709551616 → (t.length : Int) - i < k →
    Sat (offshootref11_one.l1 K k y t n m b i) (OneOk v0) := by
  intro k
  induction k with
  | zero => intro t n m b i h0 h1 h2 h3 h4 h5 h6 h7 h8; omega
  | succ k ih =>
    intro t n m b i h0 h1 h2 h3 h4 h5 h6 h7 h8
    rw [offshootref11_one.l1]
    refine Sat.ite (fun h => ?_) (fun _ => ?_)
    · simp only [Bool.and_eq_true, decide_eq_true_eq] at h
      refine Sat.chk ⟨h0, h.1⟩ ?_
      refine Sat.bind (digit_bt t i) fun t2 ht2 => ?_
      refine Sat.chk ⟨h0, h.1⟩ ?_
      refine Sat.bind (digit_bt t i) fun t3 ht3 => ?_
      rw [W_in (x := i + 1) (by omega) (by omega)]
      have hu : ∀ x : Int, 0 ≤ IntKind.wrap .u64 x ∧ IntKind.wrap .u64 x < 18446744073709551616 := fun x => by rw [IntKind.wrap_u64]; omega
      exact ih t n _ _ (i + 1) (by omega) (by omega) h2 h3 h4 h5 (hu _).1 (hu _).2 (by omega)
    · have last : ∀ t4 : Int, Sat (if ((!b) || (!decide (t4 = m))) = true then some ((⟨0, [], 0, 0, 0⟩ : ApiWord), (0 : Int)) else some ((⟨3, [], 0, (Int.toNat m), 0⟩ : ApiWord), (IntKind.wrap .i64 (n + 1)))) (OneOk v0) := by
        intro t4
        refine Sat.ite (fun _ => Sat.some (one_none v0)) (fun _ => Sat.some ?_)
        rw [W_in (x := n + 1) (by omega) (by omega)]
        refine ⟨?_, ?_, fun _ => ?_, ?_, ?_, ?_⟩
        · show 0 ≤ n + 1; omega
        · show n + 1 ≤ _; omega
        · show ¬ (3 : Int) = 0; omega
        · unfold In64; dsimp only; omega
        · show m.toNat < _; omega
        · simp
      refine Sat.bindG (R := fun _ => True) (fun _ => ?_) (fun _ t4 _ => last t4) (fun _ => last _)
      unfold offshootref01_Canon.f
      exact Sat.ite (fun _ => Sat.some trivial) (fun _ => Sat.some trivial)
theorem one_l2 (K : Nat) (hK : 4000 < K) (y : ApiWord) : ∀ (k : Nat) (s : List UInt8) (i : Int), 1 ≤ i → i ≤ (s.length : Int) → (s.length : Int) ≤ 3000 → (s.length : Int) - i < k → Sat (offshootref11_one.l2 K k y s i) (OneOk s) := by
  intro k
  induction k with
  | zero => intro s i h0 h1 h2 h3; omega
  | succ k ih =>
    intro s i h0 h1 h2 h3
    rw [offshootref11_one.l2]
    refine Sat.chk (fun h => ⟨by omega, by simpa using h⟩) ?_
    refine Sat.chk (fun h => by simp only [Bool.and_eq_true, decide_eq_true_eq] at h; omega) ?_
    refine Sat.ite (fun h => ?_) (fun _ => ?_)
    · simp only [Bool.and_eq_true, decide_eq_true_eq] at h
      rw [W_in (x := i + 1) (by omega) (by omega)]
      exact ih s (i + 1) (by omega) (by omega) h2 (by omega)
    · refine Sat.chk (by omega) ?_
      refine Sat.bind (int11_sat K hK _ (by simp only [List.length_take]; omega)) fun t6 ht6 => ?_
      refine Sat.ite (fun _ => Sat.some (one_none s)) (fun _ => Sat.some ?_)
      refine ⟨?_, ?_, fun _ => ?_, ht6, ?_, ?_⟩
      · show 0 ≤ i; omega
      · show i ≤ _; omega
      · show ¬ (2 : Int) = 0; omega
      · show 0 < _; omega
      · simp
theorem letter_eq (x : Int) : offshootref11_letter.f x = some (((((decide (x = 95)) || ((decide (97 ≤ x)) && (decide (x ≤ 122)))) || ((decide (65 ≤ x)) && (decide (x ≤ 90)))) || ((decide (48 ≤ x)) && (decide (x ≤ 57))))) := rfl
theorem one_l3 (K : Nat) (hK : 4000 < K) (y : ApiWord) : ∀ (k : Nat) (s : List UInt8) (i : Int), 1 ≤ i → i ≤ (s.length : Int) → (s.length : Int) ≤ 3000 → (s.length : Int) - i < k → Sat (offshootref11_one.l3 K k y s i) (OneOk s) := by
  intro k
  induction k with
  | zero => intro s i h0 h1 h2 h3; omega
  | succ k ih =>
    intro s i h0 h1 h2 h3
    rw [offshootref11_one.l3]
    refine Sat.chk (fun h => ⟨by omega, by simpa using h⟩) ?_
    have last : ∀ t8 : Bool, Sat (if ((decide (i < (List.length s : Int))) && t8) = true then offshootref11_one.l3 K k y s (IntKind.wrap .i64 (i + 1)) else (if (decide (16 < i)) = true then some ((⟨0, [], 0, 0, 0⟩ : ApiWord), (0 : Int)) else (if ((0 : Int) ≤ i ∧ i ≤ (List.length s : Int)) then some ((⟨1, (List.take (Int.toNat i) s), 0, 0, 0⟩ : ApiWord), i) else none))) (OneOk s) := by
      intro t8
      refine Sat.ite (fun h => ?_) (fun _ => ?_)
      · simp only [Bool.and_eq_true, decide_eq_true_eq] at h
        rw [W_in (x := i + 1) (by omega) (by omega)]
        exact ih s (i + 1) (by omega) (by omega) h2 (by omega)
      · refine Sat.ite (fun _ => Sat.some (one_none s)) (fun h16 => ?_)
        simp only [decide_eq_false_iff_not] at h16
        refine Sat.chk (by omega) (Sat.some ⟨?_, ?_, fun _ => ?_, ?_, ?_, ?_⟩)
        · show 0 ≤ i; omega
        · show i ≤ _; omega
        · show ¬ (1 : Int) = 0; omega
        · unfold In64; dsimp only; omega
        · show 0 < _; omega
        · show (List.take i.toNat s).length ≤ 500
          simp only [List.length_take]; omega
    exact Sat.bindG (R := fun _ => True) (fun _ => Sat.eq (letter_eq _) trivial) (fun _ t8 _ => last t8) (fun _ => last _)
theorem one_sat (K : Nat) (hK : 4000 < K) (s : List UInt8) (h1 : 1 ≤ (s.length : Int)) (h : (s.length : Int) ≤ 3000) : Sat (offshootref11_one.f K s) (OneOk s) := by
  unfold offshootref11_one.f
  refine Sat.chk (by omega) ?_
  refine Sat.chk (fun hh => by simp only [Bool.and_eq_true, decide_eq_true_eq] at hh; omega) ?_
  refine Sat.ite (fun hf => ?_) (fun _ => ?_)
  · refine Sat.chk (by omega) ?_
    refine Sat.bind (quoted11_sat K hK (List.drop (Int.toNat 1) s) (by simp; omega)) fun t1 ht1 => ?_
    have hd : ((List.drop (Int.toNat 1) s).length : Int) = s.length - 1 := by simp; omega
    rw [hd] at ht1
    exact one_l1 K s _ K t1.1 t1.2 0 _ 0 (by omega) (by omega) (by omega) ht1.1 (by omega) h (by omega) (by omega) (by omega)
  refine Sat.ite (fun _ => ?_) (fun _ => ?_)
  · refine Sat.bind (quoted11_sat K hK s h) fun t5 ht5 => ?_
    refine Sat.ite (fun _ => Sat.some (one_none s)) (fun hl => Sat.some ?_)
    simp only [decide_eq_false_iff_not] at hl
    refine ⟨ht5.1, ht5.2.1, fun _ => ?_, ?_, ?_, ?_⟩
    · show ¬ (4 : Int) = 0; omega
    · unfold In64; dsimp only; omega
    · show 0 < _; omega
    · show t5.1.length ≤ 500; omega
  refine Sat.ite (fun _ => one_l2 K hK _ K s 1 (by omega) h1 h (by omega)) (fun _ => ?_)
  refine Sat.bindE (letter_eq _) ?_
  refine Sat.ite (fun _ => one_l3 K hK _ K s 1 (by omega) h1 h (by omega)) (fun _ => ?_)
  refine Sat.ite (fun _ => ?_) (fun _ => Sat.some (one_none s))
  refine Sat.chk (by omega) (Sat.some ⟨?_, ?_, fun _ => ?_, ?_, ?_, ?_⟩)
  · show (0 : Int) ≤ 1; omega
  · show (1 : Int) ≤ _; omega
  · show ¬ (5 : Int) = 0; omega
  · unfold In64; dsimp only; omega
  · show 0 < _; omega
  · show (List.take (Int.toNat 1) s).length ≤ 500
    simp only [List.length_take]; omega
/-- Words that were taken so far. -/
def WTo (l : List ApiWord) : Prop := ∀ i : Nat, i < l.length → (List.getD l i default).Kind ≠ 0 ∧ In64 (List.getD l i default).N ∧ (List.getD l i default).F < 18446744073709551616 ∧ (List.getD l i default).S.length ≤ 500
theorem getD_app1 {α : Type} [Inhabited α] (l : List α) (x : α) (i : Nat) (h : i < l.length) : List.getD (l ++ [x]) i default = List.getD l i default := by
  simp [List.getD_eq_getElem?_getD, List.getElem?_append_left h]
theorem getD_app2 {α : Type} [Inhabited α] (l : List α) (x : α) : List.getD (l ++ [x]) l.length default = x := by
  simp [List.getD_eq_getElem?_getD]
theorem words11_l1 (K : Nat) (hK : 5000 < K) : ∀ (k : Nat) (l : List ApiWord) (s : List UInt8) (i : Int), (s.length : Int) ≤ 3000 → 0 ≤ i → i ≤ (s.length : Int) → l.length ≤ 1500 → WTo l → (s.length : Int) - i < k →
    Sat (offshootref11_Words.l1 K k l s i) fun r => r.2.2 = 0 → WordsOk r.1 ∧ 0 < (r.1.length : Int) := by
  intro k
  induction k with
  | zero => intro l s i h0 h1 h2 h3 h4 h5; omega
  | succ k ih =>
    intro l s i hs h0 h1 hl hw hf
    rw [offshootref11_Words.l1]
    refine Sat.ite (fun h => ?_) (fun h => ?_)
    · have hi : i < (s.length : Int) := by simpa using h
      refine Sat.chk ⟨h0, hi⟩ ?_
      refine Sat.ite (fun _ => ?_) (fun _ => ?_)
      · rw [W_in (x := i + 1) (by omega) (by omega)]
        exact ih l s (i + 1) hs (by omega) (by omega) hl hw (by omega)
      · refine Sat.chk ⟨h0, h1⟩ ?_
        have hd : ((List.drop i.toNat s).length : Int) = s.length - i := by simp; omega
        refine Sat.bind (one_sat K (by omega) (List.drop i.toNat s) (by omega) (by omega)) fun r hr => ?_
        obtain ⟨r0, r1, r2, r3, r4, r5⟩ := hr
        rw [hd] at r1
        refine Sat.ite (fun _ => Sat.some fun hz => absurd hz (show ¬ (110 : Int) = 0 by decide)) (fun hn => ?_)
        have hn' : ¬ r.2 = 0 := by simpa using hn
        refine Sat.ite (fun _ => Sat.some fun hz => absurd hz (show ¬ (3 : Int) = 0 by decide)) (fun hm => ?_)
        have hm' : ¬ (l.length : Int) = 1500 := by simpa using hm
        refine Sat.chk (by simp only [List.length_cons, List.length_nil]; omega) ?_
        rw [W_in (x := i + r.2) (by omega) (by omega)]
        refine ih _ s (i + r.2) hs (by omega) (by omega) (by simp; omega) (fun j hj => ?_) (by omega)
        simp only [List.length_append, List.length_cons, List.length_nil] at hj
        by_cases hjl : j < l.length
        · rw [getD_app1 l _ j hjl]; exact hw j hjl
        · have : j = l.length := by omega
          subst this
          rw [getD_app2]
          exact ⟨r2 hn', r3, r4, r5⟩
    · refine Sat.chk (by simp only [List.length_cons, List.length_nil]; omega) (Sat.some fun _ => ⟨⟨?_, ?_, ?_⟩, ?_⟩)
      · simp; omega
      · intro j j0 j1 hk
        simp only [List.length_append, List.length_cons, List.length_nil] at j1 ⊢
        false_or_by_contra
        have hj : j.toNat = l.length := by omega
        apply hk
        show (wordAt _ j).Kind = 0; unfold wordAt
        rw [hj, getD_app2]
      · intro j j0 j1
        simp only [List.length_append, List.length_cons, List.length_nil] at j1
        by_cases hjl : j.toNat < l.length
        · show In64 (wordAt _ j).N ∧ (wordAt _ j).F < _ ∧ (wordAt _ j).S.length ≤ 500; unfold wordAt
          rw [getD_app1 l _ _ hjl]; exact (hw _ hjl).2
        · have hj : j.toNat = l.length := by omega
          show In64 (wordAt _ j).N ∧ (wordAt _ j).F < _ ∧ (wordAt _ j).S.length ≤ 500; unfold wordAt
          rw [hj, getD_app2]
          exact ⟨by unfold In64; dsimp only; omega, by show 0 < _; omega, by simp⟩
      · simp
theorem words11_sat (K : Nat) (hK : 5000 < K) (s : List UInt8) : Sat (offshootref11_Words.f K s) fun r => r.2.2 = 0 → WordsOk r.1 ∧ 0 < (r.1.length : Int) := by
  unfold offshootref11_Words.f
  refine Sat.ite (fun _ => Sat.some fun hz => absurd hz (show ¬ (3 : Int) = 0 by decide)) (fun h => ?_)
  simp only [decide_eq_false_iff_not] at h
  exact words11_l1 K hK K [] s 0 (by omega) (by omega) (by omega) (by simp) (fun j hj => by simp at hj) (by omega)
end Go.Proofs.Ytfmabehmohbahaa

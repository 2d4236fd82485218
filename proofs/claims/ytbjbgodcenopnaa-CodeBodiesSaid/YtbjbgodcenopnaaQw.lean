/- Plain law of the document's words: they are told, whatever the text, and the last one is an end. -/
import Derived.Test.YtbjbgodcenopnaaPureBase
import Derived.Test.YtbjbgodcenopnaaCbD
namespace Go.Proofs.Ytbjbgodcenopnaa
set_option linter.unusedVariables false
set_option maxHeartbeats 1000000
def In64 (x : Int) : Prop := -9223372036854775808 ≤ x ∧ x ≤ 9223372036854775807
theorem i64_mod (x : Int) : IntKind.wrap .i64 x = (x + 9223372036854775808) % 18446744073709551616 - 9223372036854775808 := by
  rw [IntKind.wrap_i64]
theorem i64_range (x : Int) : In64 (IntKind.wrap .i64 x) := by unfold In64; rw [i64_mod]; omega
theorem digit_sat (x : Int) (h0 : 0 ≤ x) (h1 : x < 256) : Sat (r11_digit.f x) fun d => 0 ≤ d ∧ d ≤ 16 := by
  unfold r11_digit.f
  refine Sat.ite (fun h => ?_) (fun _ => Sat.ite (fun h => ?_) (fun _ => Sat.some (by omega)))
  · simp only [Bool.and_eq_true, decide_eq_true_eq] at h
    rw [W_in (x := x) (by omega) (by omega), W_in (by omega) (by omega)]
    exact Sat.some (by omega)
  · simp only [Bool.and_eq_true, decide_eq_true_eq] at h
    rw [W_in (x := x) (by omega) (by omega), W_in (x := x - 97) (by omega) (by omega), W_in (by omega) (by omega)]
    exact Sat.some (by omega)
theorem digit_bt (l : List UInt8) (i : Int) : Sat (r11_digit.f (FW.bt l i)) fun d => 0 ≤ d ∧ d ≤ 16 := digit_sat _ (FW.bt_lo l i) (FW.bt_hi l i)
theorem Sat.bindG {α β : Type} {P : α → Prop} {R : β → Prop} {F : β → Option α} {p : Prop} [Decidable p] {x : Option β} {d : β} (h : p → Sat x R) (h1 : p → ∀ r, R r → Sat (F r) P) (h2 : ¬ p → Sat (F d) P) : Sat (Option.bind (if p then x else Option.some d) F) P := by
  by_cases hp : p
  · rw [if_pos hp]; exact Sat.bind (h hp) (h1 hp)
  · rw [if_neg hp]; exact h2 hp
theorem quoted11_l1 (K : Nat) : ∀ (k : Nat) (l : List Int) (s : List UInt8) (i : Int), 0 ≤ i → i ≤ (s.length : Int) → (s.length : Int) ≤ 3000 → (l.length : Int) ≤ i → (s.length : Int) - i < k →
    Sat (r11_Quoted.l1 K k l s i) fun r => 0 ≤ r.2 ∧ r.2 ≤ (s.length : Int) ∧ (r.1.length : Int) ≤ s.length := by
  intro k
  induction k with
  | zero => intro l s i h0 h1 h2 h3 h4; omega
  | succ k ih =>
    intro l s i h0 h1 h2 h3 h4
    have bad : Sat (some (([] : List UInt8), (0 : Int))) fun r => 0 ≤ r.2 ∧ r.2 ≤ (s.length : Int) ∧ (r.1.length : Int) ≤ s.length := Sat.some (by simp)
    rw [r11_Quoted.l1]
    refine Sat.ite (fun h => ?_) (fun _ => bad)
    have hi : i < (s.length : Int) := by simpa using h
    refine Sat.chk ⟨h0, hi⟩ ?_
    have w1 : IntKind.wrap .i64 (i + 1) = i + 1 := W_in (by omega) (by omega)
    have w2 : IntKind.wrap .i64 (i + 2) = i + 2 := W_in (by omega) (by omega)
    have w3 : IntKind.wrap .i64 (i + 3) = i + 3 := W_in (by omega) (by omega)
    have w4 : IntKind.wrap .i64 (i + 4) = i + 4 := W_in (by omega) (by omega)
    rw [w1, w2, w3, w4]
    refine Sat.ite (fun _ => ?_) (fun _ => ?_)
    · refine Sat.some ⟨?_, ?_, ?_⟩
      · show 0 ≤ i + 1; omega
      · show i + 1 ≤ _; omega
      · show ((FW.toB l).length : Int) ≤ _; simp [FW.toB]; omega
    refine Sat.ite (fun _ => bad) (fun _ => ?_)
    refine Sat.ite (fun _ => ?_) (fun _ => ?_)
    · refine Sat.chk (by simp only [List.length_cons, List.length_nil]; omega) ?_
      exact ih _ s (i + 1) (by omega) (by omega) h2 (by simp; omega) (by omega)
    refine Sat.chk (fun h => ⟨by omega, by simpa using h⟩) ?_
    refine Sat.chk (fun _ h => ⟨by omega, by simpa using h⟩) ?_
    refine Sat.ite (fun h => ?_) (fun _ => ?_)
    · simp only [Bool.and_eq_true, decide_eq_true_eq] at h
      refine Sat.chk ⟨by omega, h.1⟩ ?_
      refine Sat.chk (by simp only [List.length_cons, List.length_nil]; omega) ?_
      exact ih _ s (i + 2) (by omega) (by omega) h2 (by simp; omega) (by omega)
    refine Sat.chk (fun h => by simp only [decide_eq_false_iff_not] at h; omega) ?_
    refine Sat.chk (fun h => by simp only [Bool.or_eq_false_iff, decide_eq_false_iff_not] at h; omega) ?_
    refine Sat.bindG (fun _ => digit_bt s (i + 2)) (fun hp1 t1 ht1 => ?_) (fun hp1 => ?_)
    · refine Sat.chk (fun h => by simp only [Bool.or_eq_false_iff, decide_eq_false_iff_not] at h; omega) ?_
      refine Sat.bindG (fun _ => digit_bt s (i + 3)) (fun hp2 t2 ht2 => ?_) (fun hp2 => ?_)
      · refine Sat.ite (fun _ => bad) (fun h => ?_)
        simp only [Bool.or_eq_false_iff, decide_eq_false_iff_not] at h
        refine Sat.chk (by omega) ?_
        refine Sat.bind (digit_bt s (i + 2)) fun t3 ht3 => ?_
        refine Sat.chk (by omega) ?_
        refine Sat.bind (digit_bt s (i + 3)) fun t4 ht4 => ?_
        refine Sat.chk (by simp only [List.length_cons, List.length_nil]; omega) ?_
        exact ih _ s (i + 4) (by omega) (by omega) h2 (by simp; omega) (by omega)
      · refine Sat.ite (fun _ => bad) (fun h => ?_)
        simp only [Bool.or_eq_false_iff] at h
        exact absurd (by simp only [Bool.or_eq_false_iff]; exact h.1) hp2
    · refine Sat.chk (fun h => by
        simp only [Bool.or_eq_false_iff] at h
        exact absurd (by simp only [Bool.or_eq_false_iff]; exact h.1) hp1) ?_
      refine Sat.bindG (R := fun _ => False) (fun h => by
        simp only [Bool.or_eq_false_iff] at h
        exact absurd (by simp only [Bool.or_eq_false_iff]; exact h.1) hp1) (fun _ t2 ht2 => ?_) (fun hp2 => ?_)
      · exact ht2.elim
      · refine Sat.ite (fun _ => bad) (fun h => ?_)
        simp only [Bool.or_eq_false_iff] at h
        exact absurd (by simp only [Bool.or_eq_false_iff]; exact h.1.1) hp1
theorem quoted11_sat (K : Nat) (hK : 4000 < K) (s : List UInt8) (h : (s.length : Int) ≤ 3000) : Sat (r11_Quoted.f K s) fun r => 0 ≤ r.2 ∧ r.2 ≤ (s.length : Int) ∧ (r.1.length : Int) ≤ s.length := by
  unfold r11_Quoted.f
  by_cases hs : s = []
  · subst hs
    exact Sat.some (by simp)
  · have hl : 0 < s.length := List.length_pos_iff.2 hs
    refine Sat.chk (fun _ => by omega) ?_
    refine Sat.ite (fun _ => Sat.some (by simp)) (fun _ => ?_)
    exact quoted11_l1 K K [] s 1 (by omega) (by omega) h (by simp) (by omega)
theorem int11_l1 (K : Nat) (b : Bool) : ∀ (k : Nat) (s : List UInt8) (n i : Int), 0 ≤ i → i ≤ (s.length : Int) → (s.length : Int) ≤ 3000 → (s.length : Int) - i < k → Sat (r11_Int.l1 K k b s n i) fun r => In64 r.1 := by
  intro k
  induction k with
  | zero => intro s n i h0 h1 h2 h3; omega
  | succ k ih =>
    intro s n i h0 h1 h2 h3
    have z : In64 0 := by unfold In64; omega
    rw [r11_Int.l1]
    refine Sat.ite (fun h => ?_) (fun _ => ?_)
    · have hi : i < (s.length : Int) := by simpa using h
      refine Sat.chk ⟨h0, hi⟩ ?_
      refine Sat.chk (fun _ => ⟨h0, hi⟩) ?_
      refine Sat.ite (fun _ => Sat.some z) (fun _ => ?_)
      refine Sat.chk ⟨h0, hi⟩ ?_
      rw [W_in (x := i + 1) (by omega) (by omega)]
      exact ih s _ (i + 1) (by omega) (by omega) h2 (by omega)
    · refine Sat.ite (fun _ => Sat.some (i64_range _)) (fun _ => Sat.ite (fun _ => Sat.some (i64_range _)) (fun _ => Sat.some z))
theorem int11_j1 (K : Nat) (hK : 4000 < K) (b : Bool) (s : List UInt8) (h : (s.length : Int) ≤ 3000) : Sat (r11_Int.j1 K b s) fun r => In64 r.1 := by
  have z : In64 0 := by unfold In64; omega
  unfold r11_Int.j1
  by_cases hs : s = []
  · subst hs
    refine Sat.chk (fun h => by simp at h) (Sat.ite (fun _ => Sat.some z) (fun h => by simp at h))
  · have hl : 0 < s.length := List.length_pos_iff.2 hs
    refine Sat.chk (fun _ => by omega) ?_
    refine Sat.ite (fun _ => Sat.some z) (fun _ => ?_)
    exact int11_l1 K b K s 0 0 (by omega) (by omega) h (by omega)
theorem int11_sat (K : Nat) (hK : 4000 < K) (s : List UInt8) (h : (s.length : Int) ≤ 3000) : Sat (r11_Int.f K s) fun r => In64 r.1 := by
  unfold r11_Int.f
  by_cases hs : s = []
  · subst hs
    refine Sat.chk (fun h => by simp at h) (Sat.ite (fun h => by simp at h) (fun _ => int11_j1 K hK _ _ (by simp)))
  · have hl : 0 < s.length := List.length_pos_iff.2 hs
    refine Sat.chk (fun _ => by omega) ?_
    refine Sat.ite (fun _ => ?_) (fun _ => int11_j1 K hK _ _ h)
    refine Sat.chk (by omega) ?_
    exact int11_j1 K hK _ _ (by simp; omega)
/-- A word that stands at the beginning of bytes. -/
def OneOk (s : List UInt8) (r : ApiWord × Int) : Prop := 0 ≤ r.2 ∧ r.2 ≤ (s.length : Int) ∧ (r.2 ≠ 0 → r.1.Kind ≠ 0) ∧ In64 r.1.N ∧ r.1.F < 18446744073709551616 ∧ r.1.S.length ≤ 500
theorem one_none (s : List UInt8) : OneOk s (⟨0, [], 0, 0, 0⟩, 0) := ⟨by decide, by show (0 : Int) ≤ _; omega, fun h => absurd rfl h, by unfold In64; dsimp only; omega, by decide, by decide⟩
theorem one_l1 (K : Nat) (v0 : List UInt8) : ∀ (k : Nat) (t : List UInt8) (n m : Int) (b : Bool) (i : Int), 0 ≤ i → i ≤ (t.length : Int) → (t.length : Int) ≤ 3000 → 0 ≤ n → n + 1 ≤ (v0.length : Int) → (v0.length : Int) ≤ 3000 → 0 ≤ m → m < 18446744073709551616 → (t.length : Int) - i < k →
    Sat (r11_one.l1 K k t n m b i) (OneOk v0) := by
  intro k
  induction k with
  | zero => intro t n m b i h0 h1 h2 h3 h4 h5 h6 h7 h8; omega
  | succ k ih =>
    intro t n m b i h0 h1 h2 h3 h4 h5 h6 h7 h8
    rw [r11_one.l1]
    refine Sat.ite (fun h => ?_) (fun _ => ?_)
    · simp only [Bool.and_eq_true, decide_eq_true_eq] at h
      refine Sat.chk ⟨h0, h.1⟩ ?_
      refine Sat.bind (digit_bt t i) fun t2 ht2 => ?_
      refine Sat.chk ⟨h0, h.1⟩ ?_
      refine Sat.bind (digit_bt t i) fun t3 ht3 => ?_
      rw [W_in (x := i + 1) (by omega) (by omega)]
      have hu : ∀ x : Int, 0 ≤ IntKind.wrap .u64 x ∧ IntKind.wrap .u64 x < 18446744073709551616 := fun x => by rw [IntKind.wrap_u64]; omega
      exact ih t n _ _ (i + 1) (by omega) (by omega) h2 h3 h4 h5 (hu _).1 (hu _).2 (by omega)
    · have last : ∀ t4 : Int, Sat (if ((!b) || (!decide (t4 = m))) = true then some ((⟨0, [], 0, 0, 0⟩ : ApiWord), (0 : Int)) else some ((⟨3, [], 0, (Int.toNat m), 0⟩ : ApiWord), (IntKind.wrap .i64 (n + 1)))) (OneOk v0) := by
        intro t4
        refine Sat.ite (fun _ => Sat.some (one_none v0)) (fun _ => Sat.some ?_)
        rw [W_in (x := n + 1) (by omega) (by omega)]
        refine ⟨?_, ?_, fun _ => ?_, ?_, ?_, ?_⟩
        · show 0 ≤ n + 1; omega
        · show n + 1 ≤ _; omega
        · show ¬ (3 : Int) = 0; omega
        · unfold In64; dsimp only; omega
        · show m.toNat < _; omega
        · simp
      refine Sat.bindG (R := fun _ => True) (fun _ => ?_) (fun _ t4 _ => last t4) (fun _ => last _)
      unfold r01_Canon.f
      exact Sat.ite (fun _ => Sat.some trivial) (fun _ => Sat.some trivial)
theorem one_l2 (K : Nat) (hK : 4000 < K) : ∀ (k : Nat) (s : List UInt8) (i : Int), 1 ≤ i → i ≤ (s.length : Int) → (s.length : Int) ≤ 3000 → (s.length : Int) - i < k → Sat (r11_one.l2 K k s i) (OneOk s) := by
  intro k
  induction k with
  | zero => intro s i h0 h1 h2 h3; omega
  | succ k ih =>
    intro s i h0 h1 h2 h3
    rw [r11_one.l2]
    refine Sat.chk (fun h => ⟨by omega, by simpa using h⟩) ?_
    refine Sat.chk (fun h => by simp only [Bool.and_eq_true, decide_eq_true_eq] at h; omega) ?_
    refine Sat.ite (fun h => ?_) (fun _ => ?_)
    · simp only [Bool.and_eq_true, decide_eq_true_eq] at h
      rw [W_in (x := i + 1) (by omega) (by omega)]
      exact ih s (i + 1) (by omega) (by omega) h2 (by omega)
    · refine Sat.chk (by omega) ?_
      refine Sat.bind (int11_sat K hK _ (by simp only [List.length_take]; omega)) fun t6 ht6 => ?_
      refine Sat.ite (fun _ => Sat.some (one_none s)) (fun _ => Sat.some ?_)
      refine ⟨?_, ?_, fun _ => ?_, ht6, ?_, ?_⟩
      · show 0 ≤ i; omega
      · show i ≤ _; omega
      · show ¬ (2 : Int) = 0; omega
      · show 0 < _; omega
      · simp
theorem letter_eq (x : Int) : r11_letter.f x = some (((((decide (x = 95)) || ((decide (97 ≤ x)) && (decide (x ≤ 122)))) || ((decide (65 ≤ x)) && (decide (x ≤ 90)))) || ((decide (48 ≤ x)) && (decide (x ≤ 57))))) := rfl
theorem one_l3 (K : Nat) (hK : 4000 < K) : ∀ (k : Nat) (s : List UInt8) (i : Int), 1 ≤ i → i ≤ (s.length : Int) → (s.length : Int) ≤ 3000 → (s.length : Int) - i < k → Sat (r11_one.l3 K k s i) (OneOk s) := by
  intro k
  induction k with
  | zero => intro s i h0 h1 h2 h3; omega
  | succ k ih =>
    intro s i h0 h1 h2 h3
    rw [r11_one.l3]
    refine Sat.chk (fun h => ⟨by omega, by simpa using h⟩) ?_
    have last : ∀ t8 : Bool, Sat (if ((decide (i < (List.length s : Int))) && t8) = true then r11_one.l3 K k s (IntKind.wrap .i64 (i + 1)) else (if (decide (16 < i)) = true then some ((⟨0, [], 0, 0, 0⟩ : ApiWord), (0 : Int)) else (if ((0 : Int) ≤ i ∧ i ≤ (List.length s : Int)) then some ((⟨1, (List.take (Int.toNat i) s), 0, 0, 0⟩ : ApiWord), i) else none))) (OneOk s) := by
      intro t8
      refine Sat.ite (fun h => ?_) (fun _ => ?_)
      · simp only [Bool.and_eq_true, decide_eq_true_eq] at h
        rw [W_in (x := i + 1) (by omega) (by omega)]
        exact ih s (i + 1) (by omega) (by omega) h2 (by omega)
      · refine Sat.ite (fun _ => Sat.some (one_none s)) (fun h16 => ?_)
        simp only [decide_eq_false_iff_not] at h16
        refine Sat.chk (by omega) (Sat.some ⟨?_, ?_, fun _ => ?_, ?_, ?_, ?_⟩)
        · show 0 ≤ i; omega
        · show i ≤ _; omega
        · show ¬ (1 : Int) = 0; omega
        · unfold In64; dsimp only; omega
        · show 0 < _; omega
        · show (List.take i.toNat s).length ≤ 500
          simp only [List.length_take]; omega
    exact Sat.bindG (R := fun _ => True) (fun _ => Sat.eq (letter_eq _) trivial) (fun _ t8 _ => last t8) (fun _ => last _)
theorem one_sat (K : Nat) (hK : 4000 < K) (s : List UInt8) (h1 : 1 ≤ (s.length : Int)) (h : (s.length : Int) ≤ 3000) : Sat (r11_one.f K s) (OneOk s) := by
  unfold r11_one.f
  refine Sat.chk (by omega) ?_
  refine Sat.chk (fun hh => by simp only [Bool.and_eq_true, decide_eq_true_eq] at hh; omega) ?_
  refine Sat.ite (fun hf => ?_) (fun _ => ?_)
  · refine Sat.chk (by omega) ?_
    refine Sat.bind (quoted11_sat K hK (List.drop (Int.toNat 1) s) (by simp; omega)) fun t1 ht1 => ?_
    have hd : ((List.drop (Int.toNat 1) s).length : Int) = s.length - 1 := by simp; omega
    rw [hd] at ht1
    exact one_l1 K s K t1.1 t1.2 0 _ 0 (by omega) (by omega) (by omega) ht1.1 (by omega) h (by omega) (by omega) (by omega)
  refine Sat.ite (fun _ => ?_) (fun _ => ?_)
  · refine Sat.bind (quoted11_sat K hK s h) fun t5 ht5 => ?_
    refine Sat.ite (fun _ => Sat.some (one_none s)) (fun hl => Sat.some ?_)
    simp only [decide_eq_false_iff_not] at hl
    refine ⟨ht5.1, ht5.2.1, fun _ => ?_, ?_, ?_, ?_⟩
    · show ¬ (4 : Int) = 0; omega
    · unfold In64; dsimp only; omega
    · show 0 < _; omega
    · show t5.1.length ≤ 500; omega
  refine Sat.ite (fun _ => one_l2 K hK K s 1 (by omega) h1 h (by omega)) (fun _ => ?_)
  refine Sat.bindE (letter_eq _) ?_
  refine Sat.ite (fun _ => one_l3 K hK K s 1 (by omega) h1 h (by omega)) (fun _ => ?_)
  refine Sat.ite (fun _ => ?_) (fun _ => Sat.some (one_none s))
  refine Sat.chk (by omega) (Sat.some ⟨?_, ?_, fun _ => ?_, ?_, ?_, ?_⟩)
  · show (0 : Int) ≤ 1; omega
  · show (1 : Int) ≤ _; omega
  · show ¬ (5 : Int) = 0; omega
  · unfold In64; dsimp only; omega
  · show 0 < _; omega
  · show (List.take (Int.toNat 1) s).length ≤ 500
    simp only [List.length_take]; omega
/-- The words of a text, by what stands behind each place. -/
def w11 (K : Nat) : Nat → List ApiWord → List UInt8 → Int → Option (List ApiWord × Int × Int)
  | 0, _, _, _ => none
  | k + 1, acc, [], i => some (acc ++ [⟨0, [], 0, 0, i⟩], 0, 0)
  | k + 1, acc, c :: r, i => if (c.toNat : Int) = 32 then w11 K k acc r (i + 1) else
      Option.bind (r11_one.f K (c :: r)) fun t => if t.2 = 0 then some ([], i, 110) else if (acc.length : Int) = 1500 then some ([], i, 3) else w11 K k (acc ++ [⟨t.1.Kind, t.1.S, t.1.N, t.1.F, i⟩]) ((c :: r).drop t.2.toNat) (i + t.2)
theorem w11_eq (K : Nat) (hK : 5000 < K) (s : List UInt8) (hs : (s.length : Int) ≤ 3000) : ∀ (k : Nat) (acc : List ApiWord) (rest : List UInt8) (i : Int), 0 ≤ i → i ≤ (s.length : Int) → s.drop i.toNat = rest → acc.length ≤ 1500 →
    r11_Words.l1 K k acc s i = w11 K k acc rest i := by
  intro k
  induction k with
  | zero => intro acc rest i h0 h1 h2 h3; rfl
  | succ k ih =>
    intro acc rest i h0 h1 h2 h3
    rw [r11_Words.l1]
    cases rest with
    | nil =>
      have h4 := drop_nil h0 h2
      have : i = (s.length : Int) := by omega
      rw [if_neg (by simp; omega), if_pos (by simp; omega), w11, this]
    | cons c r =>
      obtain ⟨hlt, hdr, hlen⟩ := drop_lt h0 h2
      rw [if_pos (by simpa using hlt), if_pos ⟨h0, hlt⟩, w11, bt_at h2]
      by_cases h32 : (c.toNat : Int) = 32
      · rw [if_pos (by simpa using h32), if_pos h32, W_in (by omega) (by omega)]
        exact ih acc r (i + 1) (by omega) (by omega) hdr h3
      · rw [if_neg (by simpa using h32), if_neg h32, if_pos ⟨h0, by omega⟩, h2]
        obtain ⟨t, ht, o⟩ := one_sat K (by omega) (c :: r) (by simp; omega) (by simp only [List.length_cons]; omega)
        rw [ht, Option.bind_some, Option.bind_some]
        by_cases hz : t.2 = 0
        · rw [if_pos (by simpa using hz), if_pos hz]
        rw [if_neg (by simpa using hz), if_neg hz]
        by_cases h15 : (acc.length : Int) = 1500
        · rw [if_pos (by simpa using h15), if_pos h15]
        rw [if_neg (by simpa using h15), if_neg h15]
        have o1 := o.1
        have o2 := o.2.1
        simp only [List.length_cons] at o2
        rw [if_pos (by simp only [List.length_cons, List.length_nil]; omega), W_in (by omega) (by omega)]
        refine ih _ _ _ (by omega) (by omega) ?_ (by simp only [List.length_append, List.length_cons, List.length_nil]; omega)
        rw [show (i + t.2).toNat = i.toNat + t.2.toNat from by omega, ← List.drop_drop, h2]
abbrev wordAt (L : List ApiWord) (i : Int) : ApiWord := List.getD L i.toNat default
/-- Words as the document's lexer hands them out: the last one is an end. -/
structure WordsOk (L : List ApiWord) : Prop where
  len : (L.length : Int) ≤ 1501
  pos : 0 < (L.length : Int)
  last : ∀ i : Int, 0 ≤ i → i < (L.length : Int) → (wordAt L i).Kind ≠ 0 → i + 1 < (L.length : Int)
  word : ∀ i : Int, 0 ≤ i → i < (L.length : Int) → (wordAt L i).S.length ≤ 500
theorem wordsOk_snoc (acc : List ApiWord) (z : ApiWord) (ha : acc.length ≤ 1500) (hw : ∀ w ∈ acc, w.S.length ≤ 500) (hz : z.Kind = 0) (hs : z.S.length ≤ 500) : WordsOk (acc ++ [z]) := by
  refine ⟨by simp; omega, by simp only [List.length_append, List.length_cons]; omega, fun i h0 h1 hk => ?_, fun i h0 h1 => ?_⟩
  · by_cases hi : i.toNat = acc.length
    · exfalso
      apply hk
      unfold wordAt
      rw [hi, List.getD_eq_getElem?_getD, List.getElem?_append_right (Nat.le_refl _)]
      simpa using hz
    · simp only [List.length_append, List.length_cons, List.length_nil] at h1 ⊢
      omega
  · unfold wordAt
    rw [List.getD_eq_getElem?_getD, List.getElem?_eq_getElem (by omega)]
    have hm : (acc ++ [z])[i.toNat]'(by omega) ∈ acc ++ [z] := List.getElem_mem _
    rcases List.mem_append.1 hm with h | h
    · exact hw _ h
    · simp only [List.mem_cons, List.not_mem_nil, or_false] at h
      rw [Option.getD_some, h]; exact hs
theorem w11_sat (K : Nat) (hK : 4000 < K) : ∀ (k : Nat) (acc : List ApiWord) (s : List UInt8) (i : Int), s.length < k → (s.length : Int) ≤ 3000 → acc.length ≤ 1500 → (∀ w ∈ acc, w.S.length ≤ 500) → Sat (w11 K k acc s i) fun r => r.2.2 = 0 → WordsOk r.1 := by
  intro k
  induction k with
  | zero => intro acc s i h; omega
  | succ k ih =>
    intro acc s i h hs ha hw
    cases s with
    | nil =>
      rw [w11]
      exact Sat.some fun _ => wordsOk_snoc acc _ ha hw rfl (by simp)
    | cons c r =>
      simp only [List.length_cons] at h hs
      rw [w11]
      by_cases h32 : (c.toNat : Int) = 32
      · rw [if_pos h32]; exact ih _ _ _ (by omega) (by omega) ha hw
      rw [if_neg h32]
      refine Sat.bind (one_sat K hK (c :: r) (by simp; omega) (by simp only [List.length_cons]; omega)) fun t ht => ?_
      by_cases h0 : t.2 = 0
      · rw [if_pos h0]; exact Sat.some fun e => absurd e (show ¬ (110 : Int) = 0 by decide)
      rw [if_neg h0]
      by_cases h15 : (acc.length : Int) = 1500
      · rw [if_pos h15]; exact Sat.some fun e => absurd e (show ¬ (3 : Int) = 0 by decide)
      rw [if_neg h15]
      have h1 := ht.1
      refine ih _ _ _ (by simp only [List.length_drop, List.length_cons]; omega) (by simp only [List.length_drop, List.length_cons]; omega) (by simp; omega) (fun w hm => ?_)
      rcases List.mem_append.1 hm with hm | hm
      · exact hw w hm
      · simp only [List.mem_cons, List.not_mem_nil, or_false] at hm
        rw [hm]; exact ht.2.2.2.2.2
theorem words_sat (K : Nat) (hK : 5000 < K) (s : List UInt8) : Sat (r11_Words.f K s) fun r => r.2.2 = 0 → WordsOk r.1 := by
  unfold r11_Words.f
  refine Sat.ite (fun _ => Sat.some fun e => absurd e (show ¬ (3 : Int) = 0 by decide)) (fun h => ?_)
  have h3 : (s.length : Int) ≤ 3000 := by
    have : ¬ 3000 < (s.length : Int) := by simpa using h
    omega
  rw [w11_eq K hK s h3 K [] s 0 (by omega) (by omega) rfl (by simp)]
  exact w11_sat K (by omega) K [] s 0 (by omega) h3 (by simp) (fun w hm => by cases hm)
end Go.Proofs.Ytbjbgodcenopnaa

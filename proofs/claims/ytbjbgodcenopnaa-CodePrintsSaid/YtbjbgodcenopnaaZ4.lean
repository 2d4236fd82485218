/- Put together by pack.py (my own program) of texts of mine: Rw, Rp, Cu1, Rc, Cu2, Cu3, Cu4, Cu5. -/
import Derived.Test.YtbjbgodcenopnaaZ3
namespace Go.Proofs.Ytbjbgodcenopnaa
set_option linter.unusedVariables false
set_option maxHeartbeats 1000000
def In64 (x : Int) : Prop := -9223372036854775808 ≤ x ∧ x ≤ 9223372036854775807
theorem i64_mod (x : Int) : IntKind.wrap .i64 x = (x + 9223372036854775808) % 18446744073709551616 - 9223372036854775808 := by
  rw [IntKind.wrap_i64]
theorem i64_range (x : Int) : In64 (IntKind.wrap .i64 x) := by unfold In64; rw [i64_mod]; omega
theorem digit_sat (x : Int) (h0 : 0 ≤ x) (h1 : x < 256) : Sat (r11_digit.f x) fun d => 0 ≤ d ∧ d ≤ 16 := by
  unfold r11_digit.f
  refine Sat.ite (fun h => ?_) (fun _ => Sat.ite (fun h => ?_) (fun _ => Sat.some (by omega)))
  · simp only [Bool.and_eq_true, decide_eq_true_eq] at h
    rw [W_in (x := x) (by omega) (by omega), W_in (by omega) (by omega)]
    exact Sat.some (by omega)
  · simp only [Bool.and_eq_true, decide_eq_true_eq] at h
    rw [W_in (x := x) (by omega) (by omega), W_in (x := x - 97) (by omega) (by omega), W_in (by omega) (by omega)]
    exact Sat.some (by omega)
theorem digit_bt (l : List UInt8) (i : Int) : Sat (r11_digit.f (FW.bt l i)) fun d => 0 ≤ d ∧ d ≤ 16 := digit_sat _ (FW.bt_lo l i) (FW.bt_hi l i)
theorem Sat.bindG {α β : Type} {P : α → Prop} {R : β → Prop} {F : β → Option α} {p : Prop} [Decidable p] {x : Option β} {d : β} (h : p → Sat x R) (h1 : p → ∀ r, R r → Sat (F r) P) (h2 : ¬ p → Sat (F d) P) : Sat (Option.bind (if p then x else Option.some d) F) P := by
  by_cases hp : p
  · rw [if_pos hp]; exact Sat.bind (h hp) (h1 hp)
  · rw [if_neg hp]; exact h2 hp
theorem quoted11_l1 (K : Nat) : ∀ (k : Nat) (l : List Int) (s : List UInt8) (i : Int), 0 ≤ i → i ≤ (s.length : Int) → (s.length : Int) ≤ 3000 → (l.length : Int) ≤ i → (s.length : Int) - i < k →
    Sat (r11_Quoted.l1 K k l s i) fun r => 0 ≤ r.2 ∧ r.2 ≤ (s.length : Int) ∧ (r.1.length : Int) ≤ s.length := by
  intro k
  induction k with
  | zero => intro l s i h0 h1 h2 h3 h4; omega
  | succ k ih =>
    intro l s i h0 h1 h2 h3 h4
    have bad : Sat (some (([] : List UInt8), (0 : Int))) fun r => 0 ≤ r.2 ∧ r.2 ≤ (s.length : Int) ∧ (r.1.length : Int) ≤ s.length := Sat.some (by simp)
    rw [r11_Quoted.l1]
    refine Sat.ite (fun h => ?_) (fun _ => bad)
    have hi : i < (s.length : Int) := by simpa using h
    refine Sat.chk ⟨h0, hi⟩ ?_
    have w1 : IntKind.wrap .i64 (i + 1) = i + 1 := W_in (by omega) (by omega)
    have w2 : IntKind.wrap .i64 (i + 2) = i + 2 := W_in (by omega) (by omega)
    have w3 : IntKind.wrap .i64 (i + 3) = i + 3 := W_in (by omega) (by omega)
    have w4 : IntKind.wrap .i64 (i + 4) = i + 4 := W_in (by omega) (by omega)
    rw [w1, w2, w3, w4]
    refine Sat.ite (fun _ => ?_) (fun _ => ?_)
    · refine Sat.some ⟨?_, ?_, ?_⟩
      · show 0 ≤ i + 1; omega
      · show i + 1 ≤ _; omega
      · show ((FW.toB l).length : Int) ≤ _; simp [FW.toB]; omega
    refine Sat.ite (fun _ => bad) (fun _ => ?_)
    refine Sat.ite (fun _ => ?_) (fun _ => ?_)
    · refine Sat.chk (by simp only [List.length_cons, List.length_nil]; omega) ?_
      exact ih _ s (i + 1) (by omega) (by omega) h2 (by simp; omega) (by omega)
    refine Sat.chk (fun h => ⟨by omega, by simpa using h⟩) ?_
    refine Sat.chk (fun _ h => ⟨by omega, by simpa using h⟩) ?_
    refine Sat.ite (fun h => ?_) (fun _ => ?_)
    · simp only [Bool.and_eq_true, decide_eq_true_eq] at h
      refine Sat.chk ⟨by omega, h.1⟩ ?_
      refine Sat.chk (by simp only [List.length_cons, List.length_nil]; omega) ?_
      exact ih _ s (i + 2) (by omega) (by omega) h2 (by simp; omega) (by omega)
    refine Sat.chk (fun h => by simp only [decide_eq_false_iff_not] at h; omega) ?_
    refine Sat.chk (fun h => by simp only [Bool.or_eq_false_iff, decide_eq_false_iff_not] at h; omega) ?_
    refine Sat.bindG (fun _ => digit_bt s (i + 2)) (fun hp1 t1 ht1 => ?_) (fun hp1 => ?_)
    · refine Sat.chk (fun h => by simp only [Bool.or_eq_false_iff, decide_eq_false_iff_not] at h; omega) ?_
      refine Sat.bindG (fun _ => digit_bt s (i + 3)) (fun hp2 t2 ht2 => ?_) (fun hp2 => ?_)
      · refine Sat.ite (fun _ => bad) (fun h => ?_)
        simp only [Bool.or_eq_false_iff, decide_eq_false_iff_not] at h
        refine Sat.chk (by omega) ?_
        refine Sat.bind (digit_bt s (i + 2)) fun t3 ht3 => ?_
        refine Sat.chk (by omega) ?_
        refine Sat.bind (digit_bt s (i + 3)) fun t4 ht4 => ?_
        refine Sat.chk (by simp only [List.length_cons, List.length_nil]; omega) ?_
        exact ih _ s (i + 4) (by omega) (by omega) h2 (by simp; omega) (by omega)
      · refine Sat.ite (fun _ => bad) (fun h => ?_)
        simp only [Bool.or_eq_false_iff] at h
        exact absurd (by simp only [Bool.or_eq_false_iff]; exact h.1) hp2
    · refine Sat.chk (fun h => by
        simp only [Bool.or_eq_false_iff] at h
        exact absurd (by simp only [Bool.or_eq_false_iff]; exact h.1) hp1) ?_
      refine Sat.bindG (R := fun _ => False) (fun h => by
        simp only [Bool.or_eq_false_iff] at h
        exact absurd (by simp only [Bool.or_eq_false_iff]; exact h.1) hp1) (fun _ t2 ht2 => ?_) (fun hp2 => ?_)
      · exact ht2.elim
      · refine Sat.ite (fun _ => bad) (fun h => ?_)
        simp only [Bool.or_eq_false_iff] at h
        exact absurd (by simp only [Bool.or_eq_false_iff]; exact h.1.1) hp1
theorem quoted11_sat (K : Nat) (hK : 4000 < K) (s : List UInt8) (h : (s.length : Int) ≤ 3000) : Sat (r11_Quoted.f K s) fun r => 0 ≤ r.2 ∧ r.2 ≤ (s.length : Int) ∧ (r.1.length : Int) ≤ s.length := by
  unfold r11_Quoted.f
  by_cases hs : s = []
  · subst hs
    exact Sat.some (by simp)
  · have hl : 0 < s.length := List.length_pos_iff.2 hs
    refine Sat.chk (fun _ => by omega) ?_
    refine Sat.ite (fun _ => Sat.some (by simp)) (fun _ => ?_)
    exact quoted11_l1 K K [] s 1 (by omega) (by omega) h (by simp) (by omega)
theorem int11_l1 (K : Nat) (b : Bool) : ∀ (k : Nat) (s : List UInt8) (n i : Int), 0 ≤ i → i ≤ (s.length : Int) → (s.length : Int) ≤ 3000 → (s.length : Int) - i < k → Sat (r11_Int.l1 K k b s n i) fun r => In64 r.1 := by
  intro k
  induction k with
  | zero => intro s n i h0 h1 h2 h3; omega
  | succ k ih =>
    intro s n i h0 h1 h2 h3
    have z : In64 0 := by unfold In64; omega
    rw [r11_Int.l1]
    refine Sat.ite (fun h => ?_) (fun _ => ?_)
    · have hi : i < (s.length : Int) := by simpa using h
      refine Sat.chk ⟨h0, hi⟩ ?_
      refine Sat.chk (fun _ => ⟨h0, hi⟩) ?_
      refine Sat.ite (fun _ => Sat.some z) (fun _ => ?_)
      refine Sat.chk ⟨h0, hi⟩ ?_
      rw [W_in (x := i + 1) (by omega) (by omega)]
      exact ih s _ (i + 1) (by omega) (by omega) h2 (by omega)
    · refine Sat.ite (fun _ => Sat.some (i64_range _)) (fun _ => Sat.ite (fun _ => Sat.some (i64_range _)) (fun _ => Sat.some z))
theorem int11_j1 (K : Nat) (hK : 4000 < K) (b : Bool) (s : List UInt8) (h : (s.length : Int) ≤ 3000) : Sat (r11_Int.j1 K b s) fun r => In64 r.1 := by
  have z : In64 0 := by unfold In64; omega
  unfold r11_Int.j1
  by_cases hs : s = []
  · subst hs
    refine Sat.chk (fun h => by simp at h) (Sat.ite (fun _ => Sat.some z) (fun h => by simp at h))
  · have hl : 0 < s.length := List.length_pos_iff.2 hs
    refine Sat.chk (fun _ => by omega) ?_
    refine Sat.ite (fun _ => Sat.some z) (fun _ => ?_)
    exact int11_l1 K b K s 0 0 (by omega) (by omega) h (by omega)
theorem int11_sat (K : Nat) (hK : 4000 < K) (s : List UInt8) (h : (s.length : Int) ≤ 3000) : Sat (r11_Int.f K s) fun r => In64 r.1 := by
  unfold r11_Int.f
  by_cases hs : s = []
  · subst hs
    refine Sat.chk (fun h => by simp at h) (Sat.ite (fun h => by simp at h) (fun _ => int11_j1 K hK _ _ (by simp)))
  · have hl : 0 < s.length := List.length_pos_iff.2 hs
    refine Sat.chk (fun _ => by omega) ?_
    refine Sat.ite (fun _ => ?_) (fun _ => int11_j1 K hK _ _ h)
    refine Sat.chk (by omega) ?_
    exact int11_j1 K hK _ _ (by simp; omega)
def isLet (c : UInt8) : Bool := ((((decide ((c.toNat : Int) = 95)) || ((decide (97 ≤ (c.toNat : Int))) && (decide ((c.toNat : Int) ≤ 122)))) || ((decide (65 ≤ (c.toNat : Int))) && (decide ((c.toNat : Int) ≤ 90)))) || ((decide (48 ≤ (c.toNat : Int))) && (decide ((c.toNat : Int) ≤ 57))))
def isDigit (c : UInt8) : Bool := decide (48 ≤ (c.toNat : Int)) && decide ((c.toNat : Int) ≤ 57)
def IsName (n : List UInt8) : Prop := n.length ≤ 16 ∧ (∀ c ∈ n, isLet c = true) ∧ ∃ c r, n = c :: r ∧ isDigit c = false
structure WdOk (w : ApiWord) : Prop where
  n : In64 w.N
  f : w.F < 18446744073709551616
  s : w.S.length ≤ 500
  name : w.Kind = 1 → IsName w.S
  canon : w.Kind = 3 → r01_Canon.f w.F = some (w.F : Int)
def OneOk (s : List UInt8) (r : ApiWord × Int) : Prop := 0 ≤ r.2 ∧ r.2 ≤ (s.length : Int) ∧ (r.2 ≠ 0 → r.1.Kind ≠ 0) ∧ WdOk r.1
theorem wd_none (i : Int) : WdOk ⟨0, [], 0, 0, i⟩ := ⟨by unfold In64; dsimp only; omega, by show 0 < _; omega, by simp, fun h => absurd h (show ¬ (0 : Int) = 1 by decide), fun h => absurd h (show ¬ (0 : Int) = 3 by decide)⟩
theorem one_none (s : List UInt8) : OneOk s (⟨0, [], 0, 0, 0⟩, 0) := ⟨by decide, by show (0 : Int) ≤ _; omega, fun h => absurd rfl h, wd_none 0⟩
theorem one_l1 (K : Nat) (v0 : List UInt8) : ∀ (k : Nat) (t : List UInt8) (n m : Int) (b : Bool) (i : Int), 0 ≤ i → i ≤ (t.length : Int) → (t.length : Int) ≤ 3000 → 0 ≤ n → n + 1 ≤ (v0.length : Int) → (v0.length : Int) ≤ 3000 → 0 ≤ m → m < 18446744073709551616 → (t.length : Int) - i < k →
    Sat (r11_one.l1 K k t n m b i) (OneOk v0) := by
  intro k
  induction k with
  | zero => intro t n m b i h0 h1 h2 h3 h4 h5 h6 h7 h8; omega
  | succ k ih =>
    intro t n m b i h0 h1 h2 h3 h4 h5 h6 h7 h8
    rw [r11_one.l1]
    refine Sat.ite (fun h => ?_) (fun _ => ?_)
    · simp only [Bool.and_eq_true, decide_eq_true_eq] at h
      refine Sat.chk ⟨h0, h.1⟩ ?_
      refine Sat.bind (digit_bt t i) fun t2 ht2 => ?_
      refine Sat.chk ⟨h0, h.1⟩ ?_
      refine Sat.bind (digit_bt t i) fun t3 ht3 => ?_
      rw [W_in (x := i + 1) (by omega) (by omega)]
      have hu : ∀ x : Int, 0 ≤ IntKind.wrap .u64 x ∧ IntKind.wrap .u64 x < 18446744073709551616 := fun x => by rw [IntKind.wrap_u64]; omega
      exact ih t n _ _ (i + 1) (by omega) (by omega) h2 h3 h4 h5 (hu _).1 (hu _).2 (by omega)
    · have last : ∀ t4 : Int, (b = true → r01_Canon.f m.toNat = some t4) → Sat (if ((!b) || (!decide (t4 = m))) = true then some ((⟨0, [], 0, 0, 0⟩ : ApiWord), (0 : Int)) else some ((⟨3, [], 0, (Int.toNat m), 0⟩ : ApiWord), (IntKind.wrap .i64 (n + 1)))) (OneOk v0) := by
        intro t4 ht4
        refine Sat.ite (fun _ => Sat.some (one_none v0)) (fun hb => Sat.some ?_)
        simp only [Bool.or_eq_false_iff, Bool.not_eq_false', decide_eq_true_eq] at hb
        rw [W_in (x := n + 1) (by omega) (by omega)]
        refine ⟨?_, ?_, fun _ => ?_, ?_, ?_, ?_, fun h => ?_, fun _ => ?_⟩
        · show 0 ≤ n + 1; omega
        · show n + 1 ≤ _; omega
        · show ¬ (3 : Int) = 0; omega
        · unfold In64; dsimp only; omega
        · show m.toNat < _; omega
        · simp
        · exact absurd h (show ¬ (3 : Int) = 1 by decide)
        · show r01_Canon.f m.toNat = some (m.toNat : Int)
          rw [ht4 hb.1, hb.2]
          congr 1; omega
      obtain ⟨c, hc⟩ : ∃ c, r01_Canon.f m.toNat = some c := by
        unfold r01_Canon.f
        split <;> exact ⟨_, rfl⟩
      refine Sat.bindG (R := fun t => r01_Canon.f m.toNat = some t) (fun _ => ⟨c, hc, hc⟩) (fun _ t4 h4 => last t4 fun _ => h4) (fun hn => last _ fun hb => absurd (by rw [hb]; rfl) hn)
theorem one_l2 (K : Nat) (hK : 4000 < K) : ∀ (k : Nat) (s : List UInt8) (i : Int), 1 ≤ i → i ≤ (s.length : Int) → (s.length : Int) ≤ 3000 → (s.length : Int) - i < k → Sat (r11_one.l2 K k s i) (OneOk s) := by
  intro k
  induction k with
  | zero => intro s i h0 h1 h2 h3; omega
  | succ k ih =>
    intro s i h0 h1 h2 h3
    rw [r11_one.l2]
    refine Sat.chk (fun h => ⟨by omega, by simpa using h⟩) ?_
    refine Sat.chk (fun h => by simp only [Bool.and_eq_true, decide_eq_true_eq] at h; omega) ?_
    refine Sat.ite (fun h => ?_) (fun _ => ?_)
    · simp only [Bool.and_eq_true, decide_eq_true_eq] at h
      rw [W_in (x := i + 1) (by omega) (by omega)]
      exact ih s (i + 1) (by omega) (by omega) h2 (by omega)
    · refine Sat.chk (by omega) ?_
      refine Sat.bind (int11_sat K hK _ (by simp only [List.length_take]; omega)) fun t6 ht6 => ?_
      refine Sat.ite (fun _ => Sat.some (one_none s)) (fun _ => Sat.some ?_)
      refine ⟨?_, ?_, fun _ => ?_, ht6, ?_, ?_, fun h => ?_, fun h => ?_⟩
      · show 0 ≤ i; omega
      · show i ≤ _; omega
      · show ¬ (2 : Int) = 0; omega
      · show 0 < _; omega
      · simp
      · exact absurd h (show ¬ (2 : Int) = 1 by decide)
      · exact absurd h (show ¬ (2 : Int) = 3 by decide)
theorem letter_eq (x : Int) : r11_letter.f x = some (((((decide (x = 95)) || ((decide (97 ≤ x)) && (decide (x ≤ 122)))) || ((decide (65 ≤ x)) && (decide (x ≤ 90)))) || ((decide (48 ≤ x)) && (decide (x ≤ 57))))) := rfl
theorem bt_take {s : List UInt8} {i : Int} (h0 : 0 ≤ i) (h : i < (s.length : Int)) : ∃ c, FW.bt s i = (c.toNat : Int) ∧ s.take (i + 1).toNat = s.take i.toNat ++ [c] := by
  have hl : i.toNat < s.length := by omega
  refine ⟨s[i.toNat], ?_, ?_⟩
  · unfold FW.bt
    rw [List.getD_eq_getElem?_getD, List.getElem?_eq_getElem hl]; rfl
  · rw [show (i + 1).toNat = i.toNat + 1 from by omega, List.take_add_one, List.getElem?_eq_getElem hl]; rfl
theorem one_l3 (K : Nat) (hK : 4000 < K) : ∀ (k : Nat) (s : List UInt8) (i : Int), 1 ≤ i → i ≤ (s.length : Int) → (s.length : Int) ≤ 3000 → (s.length : Int) - i < k → (∀ c ∈ s.take i.toNat, isLet c = true) → (∃ c r, s = c :: r ∧ isDigit c = false) → Sat (r11_one.l3 K k s i) (OneOk s) := by
  intro k
  induction k with
  | zero => intro s i h0 h1 h2 h3; omega
  | succ k ih =>
    intro s i h0 h1 h2 h3 h4 h5
    rw [r11_one.l3]
    refine Sat.chk (fun h => ⟨by omega, by simpa using h⟩) ?_
    have last : ∀ t8 : Bool, ((decide (i < (List.length s : Int))) = true → r11_letter.f (FW.bt s i) = some t8) → Sat (if ((decide (i < (List.length s : Int))) && t8) = true then r11_one.l3 K k s (IntKind.wrap .i64 (i + 1)) else (if (decide (16 < i)) = true then some ((⟨0, [], 0, 0, 0⟩ : ApiWord), (0 : Int)) else (if ((0 : Int) ≤ i ∧ i ≤ (List.length s : Int)) then some ((⟨1, (List.take (Int.toNat i) s), 0, 0, 0⟩ : ApiWord), i) else none))) (OneOk s) := by
      intro t8 ht8
      refine Sat.ite (fun h => ?_) (fun _ => ?_)
      · simp only [Bool.and_eq_true, decide_eq_true_eq] at h
        rw [W_in (x := i + 1) (by omega) (by omega)]
        refine ih s (i + 1) (by omega) (by omega) h2 (by omega) (fun c hc => ?_) h5
        obtain ⟨d, hd, ht⟩ := bt_take (s := s) (i := i) (by omega) h.1
        rw [ht] at hc
        rcases List.mem_append.1 hc with hc | hc
        · exact h4 c hc
        · simp only [List.mem_singleton] at hc
          have h6 := ht8 (by simpa using h.1)
          rw [letter_eq, hd, h.2] at h6
          rw [hc]; exact Option.some.inj h6
      · refine Sat.ite (fun _ => Sat.some (one_none s)) (fun h16 => ?_)
        simp only [decide_eq_false_iff_not] at h16
        refine Sat.chk (by omega) (Sat.some ⟨?_, ?_, fun _ => ?_, ?_, ?_, ?_, fun _ => ?_, fun h => ?_⟩)
        · show 0 ≤ i; omega
        · show i ≤ _; omega
        · show ¬ (1 : Int) = 0; omega
        · unfold In64; dsimp only; omega
        · show 0 < _; omega
        · show (List.take i.toNat s).length ≤ 500
          simp only [List.length_take]; omega
        · refine ⟨by show (List.take i.toNat s).length ≤ 16; simp only [List.length_take]; omega, h4, ?_⟩
          obtain ⟨c, r, rfl, hc⟩ := h5
          refine ⟨c, r.take (i.toNat - 1), ?_, hc⟩
          show List.take i.toNat (c :: r) = _
          rw [show i.toNat = (i.toNat - 1) + 1 from by omega, List.take_succ_cons]; rfl
        · exact absurd h (show ¬ (1 : Int) = 3 by decide)
    exact Sat.bindG (R := fun t => r11_letter.f (FW.bt s i) = some t) (fun _ => ⟨_, letter_eq _, letter_eq _⟩) (fun _ t8 h8 => last t8 fun _ => h8) (fun hn => last _ fun h => absurd h hn)
theorem one_sat (K : Nat) (hK : 4000 < K) (s : List UInt8) (h1 : 1 ≤ (s.length : Int)) (h : (s.length : Int) ≤ 3000) : Sat (r11_one.f K s) (OneOk s) := by
  unfold r11_one.f
  refine Sat.chk (by omega) ?_
  refine Sat.chk (fun hh => by simp only [Bool.and_eq_true, decide_eq_true_eq] at hh; omega) ?_
  refine Sat.ite (fun hf => ?_) (fun _ => ?_)
  · refine Sat.chk (by omega) ?_
    refine Sat.bind (quoted11_sat K hK (List.drop (Int.toNat 1) s) (by simp; omega)) fun t1 ht1 => ?_
    have hd : ((List.drop (Int.toNat 1) s).length : Int) = s.length - 1 := by simp; omega
    rw [hd] at ht1
    exact one_l1 K s K t1.1 t1.2 0 _ 0 (by omega) (by omega) (by omega) ht1.1 (by omega) h (by omega) (by omega) (by omega)
  refine Sat.ite (fun _ => ?_) (fun _ => ?_)
  · refine Sat.bind (quoted11_sat K hK s h) fun t5 ht5 => ?_
    refine Sat.ite (fun _ => Sat.some (one_none s)) (fun hl => Sat.some ?_)
    simp only [decide_eq_false_iff_not] at hl
    refine ⟨ht5.1, ht5.2.1, fun _ => ?_, ?_, ?_, ?_, fun h => ?_, fun h => ?_⟩
    · show ¬ (4 : Int) = 0; omega
    · unfold In64; dsimp only; omega
    · show 0 < _; omega
    · show t5.1.length ≤ 500; omega
    · exact absurd h (show ¬ (4 : Int) = 1 by decide)
    · exact absurd h (show ¬ (4 : Int) = 3 by decide)
  obtain ⟨c0, r0, rfl⟩ : ∃ c r, s = c :: r := by
    cases s with
    | nil => simp at h1
    | cons c r => exact ⟨c, r, rfl⟩
  have hb0 : FW.bt (c0 :: r0) 0 = (c0.toNat : Int) := bt_at (r := r0) rfl
  refine Sat.ite (fun _ => one_l2 K hK K _ 1 (by omega) h1 h (by omega)) (fun hnd => ?_)
  rw [hb0] at hnd ⊢
  refine Sat.bindE (letter_eq _) ?_
  refine Sat.ite (fun hl => one_l3 K hK K _ 1 (by omega) h1 h (by omega) (fun c hc => ?_) ⟨c0, r0, rfl, (Bool.or_eq_false_iff.1 hnd).2⟩) (fun _ => ?_)
  · have : c = c0 := by simpa using hc
    rw [this]; exact hl
  refine Sat.ite (fun _ => ?_) (fun _ => Sat.some (one_none _))
  refine Sat.chk (by omega) (Sat.some ⟨?_, ?_, fun _ => ?_, ?_, ?_, ?_, fun h => absurd h (show ¬ (5 : Int) = 1 by decide), fun h => absurd h (show ¬ (5 : Int) = 3 by decide)⟩)
  · show (0 : Int) ≤ 1; omega
  · show (1 : Int) ≤ _; omega
  · show ¬ (5 : Int) = 0; omega
  · unfold In64; dsimp only; omega
  · show 0 < _; omega
  · show (List.take (Int.toNat 1) (c0 :: r0)).length ≤ 500
    simp only [List.length_take]; omega
def w11 (K : Nat) : Nat → List ApiWord → List UInt8 → Int → Option (List ApiWord × Int × Int)
  | 0, _, _, _ => none
  | k + 1, acc, [], i => some (acc ++ [⟨0, [], 0, 0, i⟩], 0, 0)
  | k + 1, acc, c :: r, i => if (c.toNat : Int) = 32 then w11 K k acc r (i + 1) else
      Option.bind (r11_one.f K (c :: r)) fun t => if t.2 = 0 then some ([], i, 110) else if (acc.length : Int) = 1500 then some ([], i, 3) else w11 K k (acc ++ [⟨t.1.Kind, t.1.S, t.1.N, t.1.F, i⟩]) ((c :: r).drop t.2.toNat) (i + t.2)
theorem w11_eq (K : Nat) (hK : 5000 < K) (s : List UInt8) (hs : (s.length : Int) ≤ 3000) : ∀ (k : Nat) (acc : List ApiWord) (rest : List UInt8) (i : Int), 0 ≤ i → i ≤ (s.length : Int) → s.drop i.toNat = rest → acc.length ≤ 1500 →
    r11_Words.l1 K k acc s i = w11 K k acc rest i := by
  intro k
  induction k with
  | zero => intro acc rest i h0 h1 h2 h3; rfl
  | succ k ih =>
    intro acc rest i h0 h1 h2 h3
    rw [r11_Words.l1]
    cases rest with
    | nil =>
      have h4 := drop_nil h0 h2
      have : i = (s.length : Int) := by omega
      rw [if_neg (by simp; omega), if_pos (by simp; omega), w11, this]
    | cons c r =>
      obtain ⟨hlt, hdr, hlen⟩ := drop_lt h0 h2
      rw [if_pos (by simpa using hlt), if_pos ⟨h0, hlt⟩, w11, bt_at h2]
      by_cases h32 : (c.toNat : Int) = 32
      · rw [if_pos (by simpa using h32), if_pos h32, W_in (by omega) (by omega)]
        exact ih acc r (i + 1) (by omega) (by omega) hdr h3
      · rw [if_neg (by simpa using h32), if_neg h32, if_pos ⟨h0, by omega⟩, h2]
        obtain ⟨t, ht, o⟩ := one_sat K (by omega) (c :: r) (by simp; omega) (by simp only [List.length_cons]; omega)
        rw [ht, Option.bind_some, Option.bind_some]
        by_cases hz : t.2 = 0
        · rw [if_pos (by simpa using hz), if_pos hz]
        rw [if_neg (by simpa using hz), if_neg hz]
        by_cases h15 : (acc.length : Int) = 1500
        · rw [if_pos (by simpa using h15), if_pos h15]
        rw [if_neg (by simpa using h15), if_neg h15]
        have o1 := o.1
        have o2 := o.2.1
        simp only [List.length_cons] at o2
        rw [if_pos (by simp only [List.length_cons, List.length_nil]; omega), W_in (by omega) (by omega)]
        refine ih _ _ _ (by omega) (by omega) ?_ (by simp only [List.length_append, List.length_cons, List.length_nil]; omega)
        rw [show (i + t.2).toNat = i.toNat + t.2.toNat from by omega, ← List.drop_drop, h2]
abbrev wordAt (L : List ApiWord) (i : Int) : ApiWord := List.getD L i.toNat default
structure WordsOk (L : List ApiWord) : Prop where
  len : (L.length : Int) ≤ 1501
  pos : 0 < (L.length : Int)
  last : ∀ i : Int, 0 ≤ i → i < (L.length : Int) → (wordAt L i).Kind ≠ 0 → i + 1 < (L.length : Int)
  wd : ∀ i : Int, 0 ≤ i → i < (L.length : Int) → WdOk (wordAt L i)
theorem WordsOk.word {L : List ApiWord} (h : WordsOk L) : ∀ i : Int, 0 ≤ i → i < (L.length : Int) → (wordAt L i).S.length ≤ 500 := fun i h0 h1 => (h.wd i h0 h1).s
theorem wordsOk_snoc (acc : List ApiWord) (z : ApiWord) (ha : acc.length ≤ 1500) (hw : ∀ w ∈ acc, WdOk w) (hz : z.Kind = 0) (hs : WdOk z) : WordsOk (acc ++ [z]) := by
  refine ⟨by simp; omega, by simp only [List.length_append, List.length_cons]; omega, fun i h0 h1 hk => ?_, fun i h0 h1 => ?_⟩
  · by_cases hi : i.toNat = acc.length
    · exfalso
      apply hk
      unfold wordAt
      rw [hi, List.getD_eq_getElem?_getD, List.getElem?_append_right (Nat.le_refl _)]
      simpa using hz
    · simp only [List.length_append, List.length_cons, List.length_nil] at h1 ⊢
      omega
  · unfold wordAt
    rw [List.getD_eq_getElem?_getD, List.getElem?_eq_getElem (by omega)]
    have hm : (acc ++ [z])[i.toNat]'(by omega) ∈ acc ++ [z] := List.getElem_mem _
    rcases List.mem_append.1 hm with h | h
    · exact hw _ h
    · simp only [List.mem_cons, List.not_mem_nil, or_false] at h
      rw [Option.getD_some, h]; exact hs
theorem w11_sat (K : Nat) (hK : 4000 < K) : ∀ (k : Nat) (acc : List ApiWord) (s : List UInt8) (i : Int), s.length < k → (s.length : Int) ≤ 3000 → acc.length ≤ 1500 → (∀ w ∈ acc, WdOk w) → Sat (w11 K k acc s i) fun r => r.2.2 = 0 → WordsOk r.1 := by
  intro k
  induction k with
  | zero => intro acc s i h; omega
  | succ k ih =>
    intro acc s i h hs ha hw
    cases s with
    | nil =>
      rw [w11]
      exact Sat.some fun _ => wordsOk_snoc acc _ ha hw rfl (wd_none _)
    | cons c r =>
      simp only [List.length_cons] at h hs
      rw [w11]
      by_cases h32 : (c.toNat : Int) = 32
      · rw [if_pos h32]; exact ih _ _ _ (by omega) (by omega) ha hw
      rw [if_neg h32]
      refine Sat.bind (one_sat K hK (c :: r) (by simp; omega) (by simp only [List.length_cons]; omega)) fun t ht => ?_
      by_cases h0 : t.2 = 0
      · rw [if_pos h0]; exact Sat.some fun e => absurd e (show ¬ (110 : Int) = 0 by decide)
      rw [if_neg h0]
      by_cases h15 : (acc.length : Int) = 1500
      · rw [if_pos h15]; exact Sat.some fun e => absurd e (show ¬ (3 : Int) = 0 by decide)
      rw [if_neg h15]
      have h1 := ht.1
      refine ih _ _ _ (by simp only [List.length_drop, List.length_cons]; omega) (by simp only [List.length_drop, List.length_cons]; omega) (by simp; omega) (fun w hm => ?_)
      rcases List.mem_append.1 hm with hm | hm
      · exact hw w hm
      · simp only [List.mem_cons, List.not_mem_nil, or_false] at hm
        rw [hm]; exact ⟨ht.2.2.2.n, ht.2.2.2.f, ht.2.2.2.s, ht.2.2.2.name, ht.2.2.2.canon⟩
theorem words_sat (K : Nat) (hK : 5000 < K) (s : List UInt8) : Sat (r11_Words.f K s) fun r => r.2.2 = 0 → WordsOk r.1 := by
  unfold r11_Words.f
  refine Sat.ite (fun _ => Sat.some fun e => absurd e (show ¬ (3 : Int) = 0 by decide)) (fun h => ?_)
  have h3 : (s.length : Int) ≤ 3000 := by
    have : ¬ 3000 < (s.length : Int) := by simpa using h
    omega
  rw [w11_eq K hK s h3 K [] s 0 (by omega) (by omega) rfl (by simp)]
  exact w11_sat K (by omega) K [] s 0 (by omega) h3 (by simp) (fun w hm => by cases hm)
end Go.Proofs.Ytbjbgodcenopnaa
namespace Go.Proofs.Ytbjbgodcenopnaa
set_option linter.unusedVariables false
set_option linter.unusedSimpArgs false
set_option maxHeartbeats 1000000
mutual

def wV : ApiValue → Nat
  | ⟨_, _, _, _, _, l⟩ => 1 + wL l
def wL : List ApiValue → Nat
  | [] => 0
  | x :: r => wV x + wL r
end
theorem wL_append : ∀ a b : List ApiValue, wL (a ++ b) = wL a + wL b
  | [], b => by simp [wL]
  | x :: r, b => by rw [List.cons_append, wL, wL, wL_append r b]; omega
theorem wV_eq (v : ApiValue) : wV v = 1 + wL v.L := by cases v; rw [wV]
mutual

def PV : ApiValue → Prop
  | ⟨k, b, n, f, s, l⟩ => 0 ≤ k ∧ k ≤ 5 ∧ (b = true → k = 1) ∧ (n ≠ 0 → k = 2) ∧ In64 n ∧ f < 18446744073709551616 ∧ r01_Canon.f f = some (f : Int) ∧ (k ≠ 3 → f = 0) ∧ (s ≠ [] → k = 4) ∧ s.length ≤ 500 ∧ (l ≠ [] → k = 5) ∧ l.length ≤ 12 ∧ PVs l
def PVs : List ApiValue → Prop
  | [] => True
  | x :: r => PV x ∧ PVs r
end
theorem PVs_append : ∀ a b : List ApiValue, PVs a → PVs b → PVs (a ++ b)
  | [], b, _, hb => hb
  | x :: r, b, ha, hb => by
    simp only [PVs] at ha
    rw [List.cons_append]
    simp only [PVs]
    exact ⟨ha.1, PVs_append r b ha.2 hb⟩
theorem in64_0 : In64 0 := by unfold In64; omega
theorem canon_0 : r01_Canon.f 0 = some ((0 : Nat) : Int) := by decide +kernel
theorem pv_int {n : Int} (h : In64 n) : PV ⟨2, false, n, 0, [], []⟩ := by
  simp only [PV, PVs]; exact ⟨by decide, by decide, by simp, by simp, h, by decide, canon_0, by simp, by simp, by simp, by simp, by simp, trivial⟩
theorem pv_flt {f : Nat} (h : f < 18446744073709551616) (hc : r01_Canon.f f = some (f : Int)) : PV ⟨3, false, 0, f, [], []⟩ := by
  simp only [PV, PVs]; exact ⟨by decide, by decide, by simp, by simp, in64_0, h, hc, by simp, by simp, by simp, by simp, by simp, trivial⟩
theorem pv_str {s : List UInt8} (h : s.length ≤ 500) : PV ⟨4, false, 0, 0, s, []⟩ := by
  simp only [PV, PVs]; exact ⟨by decide, by decide, by simp, by simp, in64_0, by decide, canon_0, by simp, by simp, h, by simp, by simp, trivial⟩
theorem pv_bool {b : Bool} : PV ⟨1, b, 0, 0, [], []⟩ := by
  simp only [PV, PVs]; exact ⟨by decide, by decide, by simp, by simp, in64_0, by decide, canon_0, by simp, by simp, by simp, by simp, by simp, trivial⟩
theorem pv_null : PV ⟨0, false, 0, 0, [], []⟩ := by
  simp only [PV, PVs]; exact ⟨by decide, by decide, by simp, by simp, in64_0, by decide, canon_0, by simp, by simp, by simp, by simp, by simp, trivial⟩
theorem pv_list {l : List ApiValue} (h : PVs l) (hl : l.length ≤ 12) : PV ⟨5, false, 0, 0, [], l⟩ := by
  simp only [PV]; exact ⟨by decide, by decide, by simp, by simp, in64_0, by decide, canon_0, by simp, by simp, by simp, by simp, hl, h⟩
def predsV (S : List UInt8) : Int × Bool :=
  if S ∈ ([[101, 113], [110, 101, 113], [108, 116], [108, 116, 101], [103, 116], [103, 116, 101], [115, 116, 97, 114, 116, 105, 110, 103, 87, 105, 116, 104], [101, 110, 100, 105, 110, 103, 87, 105, 116, 104], [99, 111, 110, 116, 97, 105, 110, 105, 110, 103]] : List (List UInt8)) then (1, true)
  else if (((decide (S = ([98, 101, 116, 119, 101, 101, 110] : List UInt8))) || (decide (S = ([105, 110, 115, 105, 100, 101] : List UInt8)))) || (decide (S = ([111, 117, 116, 115, 105, 100, 101] : List UInt8)))) = true then (2, true)
  else ((-1), ((decide (S = ([119, 105, 116, 104, 105, 110] : List UInt8))) || (decide (S = ([119, 105, 116, 104, 111, 117, 116] : List UInt8)))))
abbrev andL : List UInt8 := [97, 110, 100]
abbrev orL : List UInt8 := [111, 114]
abbrev notL : List UInt8 := [110, 111, 116]
mutual

def PP : ApiPred → Prop
  | ⟨op, l, kids⟩ => PPs kids ∧ PVs l ∧ ((kids = [] ∧ IsName op ∧ (predsV op).2 = true ∧ l.length ≤ 12 ∧ (0 ≤ (predsV op).1 → (l.length : Int) = (predsV op).1)) ∨ (l = [] ∧ kids.length = 2 ∧ (op = andL ∨ op = orL)) ∨ (l = [] ∧ kids.length = 1 ∧ op = notL))
def PPs : List ApiPred → Prop
  | [] => True
  | x :: r => PP x ∧ PPs r
end
mutual

def wP : ApiPred → Nat
  | ⟨_, l, kids⟩ => 1 + wL l + wPs kids
def wPs : List ApiPred → Nat
  | [] => 0
  | x :: r => wP x + wPs r
end
def ArgP (k : Int) (v : ApiValue) (p : ApiPred) (T : List ApiStep) : Prop :=
  (k = 1 ∧ PV v ∧ p = ⟨[], [], []⟩ ∧ T = []) ∨ (k = 2 ∧ v = ⟨0, false, 0, 0, [], []⟩ ∧ (PP p ∧ wP p ≤ 1600) ∧ T = []) ∨ (k = 3 ∧ v = ⟨0, false, 0, 0, [], []⟩ ∧ p = ⟨[], [], []⟩) ∨
  (k = 4 ∧ (∃ nm, v = ⟨4, false, 0, 0, nm, []⟩ ∧ IsName nm ∧ nm ≠ [95, 95] ∧ nm ≠ [116, 114, 117, 101] ∧ nm ≠ [102, 97, 108, 115, 101] ∧ nm ≠ [110, 117, 108, 108]) ∧ p = ⟨[], [], []⟩ ∧ T = [])
mutual

def nS : List ApiStep → Nat
  | [] => 0
  | x :: r => nS1 x + nS r
def nS1 : ApiStep → Nat
  | ⟨_, l⟩ => 1 + nA l
def nA : List ApiArg → Nat
  | [] => 0
  | a :: r => nA1 a + nA r
def nA1 : ApiArg → Nat
  | ⟨_, _, _, T⟩ => nS T
end
mutual

def GS : List ApiStep → Prop
  | [] => True
  | x :: r => GS1 x ∧ GS r
def GS1 : ApiStep → Prop
  | ⟨nm, l⟩ => l.length ≤ 12 ∧ GA l ∧ IsName nm
def GA : List ApiArg → Prop
  | [] => True
  | a :: r => GA1 a ∧ GA r
def GA1 : ApiArg → Prop
  | ⟨k, v, p, T⟩ => wV v ≤ 1600 ∧ v.S.length ≤ 500 ∧ (k = 3 → T ≠ []) ∧ T.length ≤ 150 ∧ GS T ∧ ArgP k v p T
end
theorem nS_append : ∀ a b : List ApiStep, nS (a ++ b) = nS a + nS b
  | [], b => by simp [nS]
  | x :: r, b => by rw [List.cons_append, nS, nS, nS_append r b]; omega
theorem nA_append : ∀ a b : List ApiArg, nA (a ++ b) = nA a + nA b
  | [], b => by simp [nA]
  | x :: r, b => by rw [List.cons_append, nA, nA, nA_append r b]; omega
theorem GS_append : ∀ a b : List ApiStep, GS a → GS b → GS (a ++ b)
  | [], b, _, hb => hb
  | x :: r, b, ha, hb => by
    simp only [GS] at ha
    rw [List.cons_append]
    simp only [GS]
    exact ⟨ha.1, GS_append r b ha.2 hb⟩
theorem GA_append : ∀ a b : List ApiArg, GA a → GA b → GA (a ++ b)
  | [], b, _, hb => hb
  | x :: r, b, ha, hb => by
    simp only [GA] at ha
    rw [List.cons_append]
    simp only [GA]
    exact ⟨ha.1, GA_append r b ha.2 hb⟩
theorem nS_one (nm : List UInt8) (l : List ApiArg) : nS [⟨nm, l⟩] = 1 + nA l := by simp [nS, nS1]
theorem nA_one (a : ApiArg) : nA [a] = nS a.T := by cases a; simp [nA, nA1]
theorem nS_pos : ∀ l : List ApiStep, l ≠ [] → 1 ≤ nS l
  | [], h => absurd rfl h
  | ⟨_, _⟩ :: r, _ => by simp only [nS, nS1]; omega
structure Inv (L : List ApiWord) (s : St12) : Prop where
  words : s.L = L
  lo : 0 ≤ s.I
  hi : s.I < (L.length : Int)
  deep0 : 0 ≤ s.Deep
  deep1 : s.Deep ≤ 12
  steps0 : 0 ≤ s.Steps
  steps1 : s.Steps ≤ 150
structure Adv (L : List ApiWord) (s s' : St12) : Prop where
  inv : Inv L s'
  on : s.I ≤ s'.I
  deep : s'.Deep = s.Deep
  steps : s.Steps ≤ s'.Steps
  bad : s.E ≠ 0 → s'.E ≠ 0
section
variable {L : List ApiWord} {s s' s'' : St12}
theorem Adv.refl (h : Inv L s) : Adv L s s := ⟨h, Int.le_refl _, rfl, Int.le_refl _, id⟩
theorem Adv.trans (h : Adv L s s') (h' : Adv L s' s'') : Adv L s s'' := ⟨h'.inv, Int.le_trans h.on h'.on, h'.deep.trans h.deep, Int.le_trans h.steps h'.steps, fun hb => h'.bad (h.bad hb)⟩
theorem Adv.good (h : Adv L s s') (hz : s'.E = 0) : s.E = 0 := Classical.not_not.1 fun hb => h.bad hb hz
theorem is_eq (h : Inv L s) (sg : List UInt8) : p12_is.f s sg = some ((decide (s.E = 0) && decide ((wordAt L s.I).Kind = 5)) && decide ((wordAt L s.I).S = sg)) := by
  unfold p12_is.f
  rw [h.words, if_pos (fun _ => ⟨h.lo, h.hi⟩), if_pos (fun _ => ⟨h.lo, h.hi⟩)]
theorem fail_eq (h : Inv L s) (e : Int) : p12_fail.f s e = some (if s.E = 0 then ⟨L, s.I, s.Deep, s.Steps, (wordAt L s.I).At, e⟩ else s) := by
  unfold p12_fail.f p12_fail.j1
  rw [h.words]
  by_cases he : s.E = 0
  · rw [if_pos (by simpa using he), if_pos ⟨h.lo, h.hi⟩, if_pos he]
  · rw [if_neg (by simpa using he), if_neg he]
theorem fail_sat (h : Inv L s) {e : Int} (he : e ≠ 0) : Sat (p12_fail.f s e) fun s' => Adv L s s' ∧ s'.E ≠ 0 ∧ s'.I = s.I := by
  refine Sat.eq (fail_eq h e) ?_
  by_cases hz : s.E = 0
  · rw [if_pos hz]
    exact ⟨⟨⟨rfl, h.lo, h.hi, h.deep0, h.deep1, h.steps0, h.steps1⟩, Int.le_refl _, rfl, Int.le_refl _, fun hb => absurd hz hb⟩, he, rfl⟩
  · rw [if_neg hz]
    exact ⟨Adv.refl h, hz, rfl⟩
theorem step_inv (hL : WordsOk L) (h : Inv L s) (hk : (wordAt L s.I).Kind ≠ 0) : IntKind.wrap .i64 (s.I + 1) = s.I + 1 ∧ Adv L s ⟨s.L, s.I + 1, s.Deep, s.Steps, s.At, s.E⟩ := by
  have h1 := hL.last s.I h.lo h.hi hk
  have h2 := hL.len
  have h3 := h.lo
  exact ⟨W_in (by omega) (by omega), ⟨⟨h.words, by show 0 ≤ s.I + 1; omega, h1, h.deep0, h.deep1, h.steps0, h.steps1⟩, by show s.I ≤ s.I + 1; omega, rfl, Int.le_refl _, id⟩⟩
theorem sign_sat (hL : WordsOk L) (h : Inv L s) (sg : List UInt8) : Sat (p12_sign.f s sg) fun s' => Adv L s s' ∧ (s.E ≠ 0 → s' = s) ∧ (s'.E = 0 → s'.I = s.I + 1) := by
  unfold p12_sign.f
  refine Sat.ite (fun he => ?_) (fun he => ?_)
  · have he' : s.E ≠ 0 := by simpa using he
    exact Sat.some ⟨Adv.refl h, fun _ => rfl, fun hz => absurd hz he'⟩
  · have he' : s.E = 0 := by simpa using he
    refine Sat.bindE (is_eq h sg) ?_
    refine Sat.ite (fun _ => ?_) (fun hi => ?_)
    · refine Sat.bind (fail_sat h (by omega)) fun s' hs' => Sat.some ⟨hs'.1, fun hb => absurd he' hb, fun hz => absurd hz hs'.2.1⟩
    · have hk : (wordAt L s.I).Kind ≠ 0 := by
        simp only [Bool.not_eq_false', Bool.and_eq_true, decide_eq_true_eq] at hi
        rw [hi.1.2]; omega
      obtain ⟨e, ha⟩ := step_inv hL h hk
      rw [e]
      exact Sat.some ⟨ha, fun hb => absurd he' hb, fun _ => rfl⟩
theorem into_sat (h : Inv L s) : Sat (p12_into.f s) fun s' => Inv L s' ∧ s'.I = s.I ∧ s'.Steps = s.Steps ∧ (s.E ≠ 0 → s' = s) ∧ (s'.E = 0 → s'.Deep = s.Deep + 1) ∧ (s.E ≠ 0 → s'.E ≠ 0) ∧ s.Deep ≤ s'.Deep := by
  unfold p12_into.f
  refine Sat.ite (fun he => ?_) (fun he => ?_)
  · have he' : s.E ≠ 0 := by simpa using he
    exact Sat.some ⟨h, rfl, rfl, fun _ => rfl, fun hz => absurd hz he', id, Int.le_refl _⟩
  · have he' : s.E = 0 := by simpa using he
    refine Sat.ite (fun _ => ?_) (fun hd => ?_)
    · refine Sat.bindE (fail_eq h 3) ?_
      rw [if_pos he']
      exact Sat.some ⟨⟨rfl, h.lo, h.hi, h.deep0, h.deep1, h.steps0, h.steps1⟩, rfl, rfl, fun hb => absurd he' hb, (fun hz => absurd hz (show ¬ (3 : Int) = 0 by decide)), (fun hb => absurd he' hb), Int.le_refl _⟩
    · simp only [decide_eq_false_iff_not] at hd
      have h1 := h.deep0
      have h2 := h.deep1
      rw [W_in (by omega) (by omega)]
      exact Sat.some ⟨⟨h.words, h.lo, h.hi, by show 0 ≤ s.Deep + 1; omega, by show s.Deep + 1 ≤ 12; omega, h.steps0, h.steps1⟩, rfl, rfl, fun hb => absurd he' hb, fun _ => rfl, (fun hb => absurd he' hb), by show s.Deep ≤ s.Deep + 1; omega⟩
abbrev VF := St12 → Option (St12 × ApiValue × Bool)
abbrev VsF := St12 → List UInt8 → Option (St12 × List ApiValue)
def PostV (L : List ApiWord) (s : St12) (r : St12 × ApiValue × Bool) : Prop :=
  Adv L s r.1 ∧ (s.E ≠ 0 → r.1 = s ∧ r.2.2 = false) ∧ (r.2.2 = true → r.1.E = 0 ∧ s.I < r.1.I ∧ (wV r.2.1 : Int) ≤ r.1.I - s.I ∧ r.2.1.S.length ≤ 500 ∧ PV r.2.1) ∧ (r.1.E = 0 → r.2.2 = false → r.1 = s ∧ ((wordAt L s.I).Kind = 1 → (wordAt L s.I).S ≠ [116, 114, 117, 101] ∧ (wordAt L s.I).S ≠ [102, 97, 108, 115, 101] ∧ (wordAt L s.I).S ≠ [110, 117, 108, 108]))
def PostVs (L : List ApiWord) (s : St12) (r : St12 × List ApiValue) : Prop :=
  Adv L s r.1 ∧ (r.1.E = 0 → s.I < r.1.I ∧ (wL r.2 : Int) ≤ r.1.I - s.I - 1 ∧ r.2.length ≤ 12 ∧ PVs r.2)
theorem atom_post (hL : WordsOk L) (h : Inv L s) (he : s.E = 0) (hk : (wordAt L s.I).Kind ≠ 0) (v : ApiValue) (hv : v.L = []) (hvs : v.S.length ≤ 500) (hp : PV v) (V : VF) (Vs : VsF) (K : Nat) :
    Sat (p12_value.j1 V Vs K v s true) (PostV L s) := by
  unfold p12_value.j1 p12_value.j2
  rw [if_pos rfl]
  obtain ⟨e, ha⟩ := step_inv hL h hk
  rw [e]
  refine Sat.some ⟨ha, fun hb => absurd he hb, fun _ => ⟨he, by show s.I < s.I + 1; omega, ?_, hvs, hp⟩, fun _ hf => by cases hf⟩
  show (wV v : Int) ≤ s.I + 1 - s.I
  rw [wV_eq, hv, wL]
  omega
theorem value_step (hL : WordsOk L) (h : Inv L s) (V : VF) (Vs : VsF) (K : Nat)
    (hVs : ∀ t, Inv L t → (t.E ≠ 0 ∨ t.Deep = s.Deep + 1) → Sat (Vs t [93]) (PostVs L t)) : Sat (p12_value.b V Vs K s) (PostV L s) := by
  unfold p12_value.b
  refine Sat.ite (fun he => ?_) (fun he => ?_)
  · have he' : s.E ≠ 0 := by simpa using he
    exact Sat.some ⟨Adv.refl h, fun _ => ⟨rfl, rfl⟩, (fun hf => nomatch hf), fun hz _ => absurd hz he'⟩
  have he' : s.E = 0 := by simpa using he
  rw [h.words]
  refine Sat.chk ⟨h.lo, h.hi⟩ ?_
  refine Sat.ite (fun hk => ?_) (fun hk2 => ?_)
  · have hk' : (wordAt L s.I).Kind = 2 := by simpa using hk
    exact atom_post hL h he' (by rw [hk']; omega) _ rfl (by first | exact hL.word s.I h.lo h.hi | exact Nat.zero_le _) (pv_int (hL.wd s.I h.lo h.hi).n) V Vs K
  refine Sat.ite (fun hk => ?_) (fun hk3 => ?_)
  · have hk' : (wordAt L s.I).Kind = 3 := by simpa using hk
    exact atom_post hL h he' (by rw [hk']; omega) _ rfl (by first | exact hL.word s.I h.lo h.hi | exact Nat.zero_le _) (pv_flt (hL.wd s.I h.lo h.hi).f ((hL.wd s.I h.lo h.hi).canon hk')) V Vs K
  refine Sat.ite (fun hk => ?_) (fun hk4 => ?_)
  · have hk' : (wordAt L s.I).Kind = 4 := by simpa using hk
    exact atom_post hL h he' (by rw [hk']; omega) _ rfl (by first | exact hL.word s.I h.lo h.hi | exact Nat.zero_le _) (pv_str (hL.wd s.I h.lo h.hi).s) V Vs K
  refine Sat.ite (fun hk => ?_) (fun hx1 => ?_)
  · simp only [Bool.and_eq_true, decide_eq_true_eq] at hk
    exact atom_post hL h he' (by have : (wordAt L s.I).Kind = 1 := hk.1; rw [this]; omega) _ rfl (Nat.zero_le _) pv_bool V Vs K
  refine Sat.ite (fun hk => ?_) (fun hx2 => ?_)
  · simp only [Bool.and_eq_true, decide_eq_true_eq] at hk
    exact atom_post hL h he' (by have : (wordAt L s.I).Kind = 1 := hk.1; rw [this]; omega) _ rfl (Nat.zero_le _) pv_bool V Vs K
  refine Sat.ite (fun hk => ?_) (fun hx3 => ?_)
  · simp only [Bool.and_eq_true, decide_eq_true_eq] at hk
    exact atom_post hL h he' (by have : (wordAt L s.I).Kind = 1 := hk.1; rw [this]; omega) _ rfl (Nat.zero_le _) pv_null V Vs K
  refine Sat.bindE (is_eq h [91]) ?_
  refine Sat.ite (fun hi => ?_) (fun _ => ?_)
  · have hk : (wordAt L s.I).Kind ≠ 0 := by
      simp only [Bool.and_eq_true, decide_eq_true_eq] at hi
      rw [hi.1.2]; omega
    obtain ⟨e, ha⟩ := step_inv hL h hk
    rw [e]
    rw [h.words] at ha
    refine Sat.bind (into_sat ha.inv) fun t2 ht2 => ?_
    obtain ⟨i1, i2, i3, i4, i5, i6⟩ := ht2
    refine Sat.bind (hVs t2 i1 (by
      by_cases hz : t2.E = 0
      · exact .inr (i5 hz)
      · exact .inl hz)) fun t3 ht3 => ?_
    obtain ⟨a3, b3⟩ := ht3
    have hI : t2.I = s.I + 1 := i2
    have hS : t2.Steps = s.Steps := i3
    have o3 := a3.on
    have st3 := a3.steps
    refine Sat.some ⟨⟨⟨a3.inv.words, a3.inv.lo, a3.inv.hi, h.deep0, h.deep1, a3.inv.steps0, a3.inv.steps1⟩, by show s.I ≤ t3.1.I; omega, rfl, by show s.Steps ≤ t3.1.Steps; omega, fun hb => absurd he' hb⟩, fun hb => absurd he' hb, fun hok => ?_, fun hz hf => ?_⟩
    · have hz : t3.1.E = 0 := by simpa using hok
      obtain ⟨c1, c2, c3, c4⟩ := b3 hz
      refine ⟨hz, by show s.I < t3.1.I; omega, ?_, Nat.zero_le _, pv_list c4 c3⟩
      show (wV ⟨5, false, 0, 0, [], t3.2⟩ : Int) ≤ t3.1.I - s.I
      rw [wV]; omega
    · exfalso
      have : ¬ t3.1.E = 0 := by simpa using hf
      exact this hz
  · unfold p12_value.j1 p12_value.j2
    rw [if_neg (by simp)]
    refine Sat.some ⟨Adv.refl h, fun hb => absurd he' hb, (fun hf => nomatch hf), fun _ _ => ⟨rfl, fun hk => ?_⟩⟩
    have hk : (List.getD L (Int.toNat s.I) default).Kind = 1 := hk
    rw [hk] at hx1 hx2 hx3
    exact ⟨by simpa using hx1, by simpa using hx2, by simpa using hx3⟩
def Taken (L : List ApiWord) (s0 s : St12) (l : List ApiValue) : Prop :=
  Adv L s0 s ∧ l.length ≤ 13 ∧ (l.length ≤ 12 ∨ s.E ≠ 0) ∧ (s.E = 0 → (wL l : Int) ≤ s.I - s0.I ∧ PVs l)
theorem values_l1 (hL : WordsOk L) (V : VF) (Vs : VsF) (K : Nat) (sg : List UInt8) (s0 : St12)
    (hV : ∀ t, Inv L t → t.Deep = s0.Deep → Sat (V t) (PostV L t)) : ∀ (k : Nat) (l : List ApiValue) (s : St12), Taken L s0 s l → 15 ≤ l.length + k →
      Sat (p12_values.l1 V Vs K k l s sg) (PostVs L s0) := by
  intro k
  induction k with
  | zero => intro l s ht hk; have := ht.2.1; omega
  | succ k ih =>
    intro l s ht hk
    obtain ⟨ha, hl, hl', hv⟩ := ht
    have h := ha.inv
    rw [p12_values.l1]
    have hend : ∀ t1 : Bool, Sat (Option.bind (p12_sign.f s sg) fun t6 => some (t6, l)) (PostVs L s0) := by
      intro _
      refine Sat.bind (sign_sat hL h sg) fun s' hs' => Sat.some ⟨ha.trans hs'.1, fun hz => ?_⟩
      have v1 := hv (hs'.1.good hz)
      have := hs'.2.2 hz
      have := ha.on
      refine ⟨by show s0.I < s'.I; omega, by show (wL l : Int) ≤ s'.I - s0.I - 1; omega, ?_, v1.2⟩
      rcases hl' with h' | h'
      · exact h'
      · exact absurd (hs'.1.good hz) h'
    by_cases he : s.E = 0
    · rw [if_pos (by simpa using he)]
      refine Sat.bindE (is_eq h sg) ?_
      refine Sat.ite (fun _ => ?_) (fun _ => hend false)
      have hj2 : ∀ s1, Adv L s0 s1 → (s1.E = 0 → s.I ≤ s1.I) → (s1.E = 0 → l.length < 12) → Sat (p12_values.j2 V Vs (p12_values.l1 V Vs K k) K l s1 sg) (PostVs L s0) := by
        intro s1 a1 o1 l1
        unfold p12_values.j2
        refine Sat.bind (hV s1 a1.inv a1.deep) fun r hr => ?_
        obtain ⟨p1, p2, p3, p4⟩ := hr
        have hl12 : l.length ≤ 12 := by
          rcases hl' with h' | h'
          · exact h'
          · exact absurd he h'
        refine Sat.ite (fun hf => ?_) (fun hf => ?_)
        · refine Sat.bind (fail_sat p1.inv (by omega)) fun t3 ht3 => ?_
          unfold p12_values.j3
          refine Sat.chk (by simp; omega) ?_
          refine ih _ _ ⟨(a1.trans p1).trans ht3.1, by simp; omega, .inr ht3.2.1, fun hz => absurd hz ht3.2.1⟩ (by simp; omega)
        · have hok : r.2.2 = true := by simpa using hf
          obtain ⟨q1, q2, q3, _, q5⟩ := p3 hok
          have hz1 : s1.E = 0 := p1.good q1
          unfold p12_values.j3
          refine Sat.chk (by simp; omega) ?_
          have hll := l1 hz1
          have v1 := hv he
          have o2 := o1 hz1
          refine ih _ _ ⟨a1.trans p1, by simp; omega, .inl (by simp; omega), fun hz => ?_⟩ (by simp; omega)
          refine ⟨by rw [wL_append, wL, wL]; omega, PVs_append _ _ v1.2 (by simp only [PVs]; exact ⟨q5, trivial⟩)⟩
      have hj1 : ∀ s1, Adv L s0 s1 → (s1.E = 0 → s.I ≤ s1.I) → Sat (p12_values.j1 V Vs (p12_values.l1 V Vs K k) K l s1 sg) (PostVs L s0) := by
        intro s1 a1 o1
        unfold p12_values.j1
        refine Sat.ite (fun hm => ?_) (fun hm => ?_)
        · refine Sat.bind (fail_sat a1.inv (by omega)) fun t4 ht4 => hj2 t4 (a1.trans ht4.1) (fun hz => absurd hz ht4.2.1) (fun hz => absurd hz ht4.2.1)
        · exact hj2 s1 a1 o1 (fun _ => by simp at hm; omega)
      refine Sat.ite (fun hpos => ?_) (fun hpos => ?_)
      · refine Sat.bind (sign_sat hL h [44]) fun t5 ht5 => hj1 t5 (ha.trans ht5.1) (fun hz => ht5.1.on)
      · exact hj1 s ha (fun _ => Int.le_refl _)
    · rw [if_neg (by simpa using he)]
      refine Sat.bindE rfl ?_
      rw [decide_eq_false he, Bool.false_and, if_neg (by simp)]
      exact hend false
theorem values_bad (hL : WordsOk L) (h : Inv L s) (he : s.E ≠ 0) (sg : List UInt8) (K : Nat) (hK : 2 < K) : Sat (p12_values.f K s sg) (PostVs L s) := by
  obtain ⟨K, rfl⟩ : ∃ K', K = K' + 1 + 1 := ⟨K - 2, by omega⟩
  rw [p12_values.f, p12_values.b, p12_values.l1, if_neg (by simpa using he)]
  refine Sat.bindE rfl ?_
  rw [decide_eq_false he, Bool.false_and, if_neg (by simp)]
  refine Sat.bind (sign_sat hL h sg) fun s' hs' => Sat.some ⟨hs'.1, fun hz => absurd hz (hs'.1.bad he)⟩
theorem value_knot (hL : WordsOk L) : ∀ (m : Nat) (s : St12) (K : Nat), Inv L s → 12 - s.Deep ≤ (m : Int) → 2 * m + 40 < K → Sat (p12_value.f K s) (PostV L s) := by
  intro m
  induction m with
  | zero =>
    intro s K h hd hK
    obtain ⟨K, rfl⟩ : ∃ K', K = K' + 1 := ⟨K - 1, by omega⟩
    rw [p12_value.f]
    refine value_step hL h _ _ K fun t ht hb => ?_
    have := ht.deep1
    rcases hb with hb | hb
    · exact values_bad hL ht hb _ K (by omega)
    · omega
  | succ m ih =>
    intro s K h hd hK
    obtain ⟨K, rfl⟩ : ∃ K', K = K' + 1 + 1 := ⟨K - 2, by omega⟩
    rw [p12_value.f]
    refine value_step hL h _ _ (K + 1) fun t ht hb => ?_
    rcases hb with hb | hb
    · exact values_bad hL ht hb _ (K + 1) (by omega)
    · rw [p12_values.f, p12_values.b]
      refine values_l1 hL _ _ K [93] t (fun u hu hdu => ih u K hu (by omega) (by omega)) K [] t ⟨Adv.refl ht, by simp, .inl (by simp), fun _ => by simp [wL, PVs]⟩ (by simp; omega)
theorem values_knot (hL : WordsOk L) (s : St12) (sg : List UInt8) (K : Nat) (h : Inv L s) (hK : 70 < K) : Sat (p12_values.f K s sg) (PostVs L s) := by
  obtain ⟨K, rfl⟩ : ∃ K', K = K' + 1 := ⟨K - 1, by omega⟩
  rw [p12_values.f, p12_values.b]
  exact values_l1 hL _ _ K sg s (fun u hu _ => value_knot hL 12 u K hu (by have := hu.deep0; omega) (by omega)) K [] s ⟨Adv.refl h, by simp, .inl (by simp), fun _ => by simp [wL, PVs]⟩ (by simp; omega)
theorem preds_l1 (K : Nat) (S : List UInt8) (l : List (List UInt8)) (hl : l.length ≤ 20) : ∀ (k i : Nat), i ≤ l.length → l.length < k + i → r12_Preds.l1 K k S l (i : Int) = some (if S ∈ l.drop i then (1, true) else if (((decide (S = ([98, 101, 116, 119, 101, 101, 110] : List UInt8))) || (decide (S = ([105, 110, 115, 105, 100, 101] : List UInt8)))) || (decide (S = ([111, 117, 116, 115, 105, 100, 101] : List UInt8)))) = true then (2, true)
  else ((-1), ((decide (S = ([119, 105, 116, 104, 105, 110] : List UInt8))) || (decide (S = ([119, 105, 116, 104, 111, 117, 116] : List UInt8)))))) := by
  intro k
  induction k with
  | zero => intro i h1 h2; omega
  | succ k ih =>
    intro i h1 h2
    rw [r12_Preds.l1]
    by_cases hi : i < l.length
    · have hd : l.drop i = l.getD i default :: l.drop (i + 1) := by
        rw [List.drop_eq_getElem_cons hi, List.getD_eq_getElem?_getD, List.getElem?_eq_getElem hi]; rfl
      rw [if_pos (by simp only [decide_eq_true_eq]; omega), if_pos (by omega), Int.toNat_natCast, hd]
      by_cases he : l.getD i default = S
      · rw [if_pos (by simpa using he), if_pos (by rw [he]; simp)]
      · rw [if_neg (by simpa using he), W_in (by omega) (by omega), show (i : Int) + 1 = ((i + 1 : Nat) : Int) from by omega, ih (i + 1) (by omega) (by omega)]
        have : (S ∈ l.getD i default :: l.drop (i + 1)) ↔ S ∈ l.drop (i + 1) := by
          rw [List.mem_cons]
          exact ⟨fun h => h.elim (fun h => absurd h.symm he) id, .inr⟩
        simp only [this]
    · have hd : l.drop i = [] := List.drop_of_length_le (by omega)
      rw [if_neg (by simp only [decide_eq_true_eq]; omega), hd]
      simp only [List.not_mem_nil, if_false]
      split <;> rfl
theorem preds_eq {K : Nat} (hK : 20 < K) (S : List UInt8) : r12_Preds.f K S = some (predsV S) := by
  unfold r12_Preds.f
  exact preds_l1 K S _ (by simp) K 0 (by simp) (by simp; omega)
theorem preds_sat (K : Nat) (hK : 20 < K) (S : List UInt8) : Sat (r12_Preds.f K S) fun r => r = predsV S := Sat.eq (preds_eq hK S) rfl
abbrev PF := St12 → Option (St12 × ApiPred)
def PostP (L : List ApiWord) (s : St12) (r : St12 × ApiPred) : Prop := Adv L s r.1 ∧ (r.1.E = 0 → s.I < r.1.I ∧ PP r.2 ∧ (wP r.2 : Int) ≤ r.1.I - s.I)
structure InP (L : List ApiWord) (s0 s : St12) : Prop where
  inv : Inv L s
  good : s0.E = 0
  on : s0.I ≤ s.I
  deep : s0.Deep ≤ s.Deep
  steps : s0.Steps ≤ s.Steps
  ok : s.E = 0 → s0.I < s.I
theorem InP.later {s0 : St12} (h : InP L s0 s) (h' : Adv L s s') : InP L s0 s' :=
  ⟨h'.inv, h.good, Int.le_trans h.on h'.on, by rw [h'.deep]; exact h.deep, Int.le_trans h.steps h'.steps, fun hz => by
    have := h.ok (h'.good hz)
    have := h'.on
    omega⟩
theorem pred_j1 {s0 : St12} {p : ApiPred} (h : InP L s0 s) (hp : s.E = 0 → PP p ∧ (wP p : Int) ≤ s.I - s0.I) (hs0 : Inv L s0) (Pf : PF) (K : Nat) : Sat (p12_pred.j1 Pf K p s0 s) (PostP L s0) := by
  unfold p12_pred.j1
  refine Sat.some ⟨⟨⟨h.inv.words, h.inv.lo, h.inv.hi, hs0.deep0, hs0.deep1, h.inv.steps0, h.inv.steps1⟩, h.on, rfl, h.steps, fun hb => absurd h.good hb⟩, fun hz => ⟨h.ok hz, hp hz⟩⟩
theorem pred_l1 (hL : WordsOk L) (Pf : PF) (K : Nat) (s0 : St12) (hs0 : Inv L s0) (hP : ∀ t, Inv L t → t.E = 0 → s0.Deep < t.Deep → Sat (Pf t) (PostP L t)) : ∀ (k : Nat) (p : ApiPred) (s : St12), InP L s0 s → (s.E = 0 → PP p ∧ (wP p : Int) ≤ s.I - s0.I) → (L.length : Int) - s.I < k →
    Sat (p12_pred.l1 Pf K k p s0 s) (PostP L s0) := by
  intro k
  induction k with
  | zero => intro p s h hp hk; have := h.inv.hi; omega
  | succ k ih =>
    intro p s h hp hk
    rw [p12_pred.l1]
    refine Sat.bindE (is_eq h.inv [46]) ?_
    refine Sat.ite (fun hi => ?_) (fun _ => pred_j1 h hp hs0 Pf K)
    simp only [Bool.and_eq_true, decide_eq_true_eq] at hi
    have he : s.E = 0 := hi.1.1
    obtain ⟨e, ha⟩ := step_inv hL h.inv (by rw [hi.1.2]; omega)
    rw [e]
    refine Sat.bind (into_sat ha.inv) fun t9 ht9 => ?_
    obtain ⟨i1, i2, i3, i4, i5, i6, i7⟩ := ht9
    have hI : t9.I = s.I + 1 := i2
    have hS : t9.Steps = s.Steps := i3
    have hD : s.Deep ≤ t9.Deep := i7
    have hd0 := h.deep
    have hst := h.steps
    have hon := h.on
    have o1 := h.ok he
    have h9 : InP L s0 t9 := ⟨i1, h.good, by omega, by omega, by omega, fun _ => by omega⟩
    have hpp := hp he
    have hj3 : ∀ (u : St12) (q : ApiPred), InP L s0 u → (u.E = 0 → PP q ∧ (wP q : Int) ≤ u.I + 1 - s0.I) → s.I + 1 ≤ u.I → Sat (p12_pred.j3 Pf (p12_pred.l1 Pf K k) K s0 q u) (PostP L s0) := by
      intro u q hu hq hui
      unfold p12_pred.j3
      refine Sat.bind (sign_sat hL hu.inv [41]) fun t11 ht11 => ?_
      have := ht11.1.on
      exact ih q t11 (hu.later ht11.1) (fun hz => ⟨(hq (ht11.1.good hz)).1, by have h1 := (hq (ht11.1.good hz)).2; have h2 := ht11.2.2 hz; omega⟩) (by omega)
    have hj2 : ∀ u : St12, InP L s0 u → u.I = s.I + 1 → (u.E = 0 → s0.Deep < u.Deep ∧ (wordAt L u.I).Kind = 1) → Sat (p12_pred.j2 Pf (p12_pred.l1 Pf K k) K s0 p t9 u) (PostP L s0) := by
      intro u hu hui hk1
      unfold p12_pred.j2
      refine Sat.ite (fun _ => pred_j1 hu (fun _ => ⟨hpp.1, by have := hpp.2; omega⟩) hs0 Pf K) (fun hz => ?_)
      have hz' : u.E = 0 := by simpa using hz
      obtain ⟨hdu, hk1⟩ := hk1 hz'
      rw [hu.inv.words]
      refine Sat.chk ⟨hu.inv.lo, hu.inv.hi⟩ ?_
      obtain ⟨e2, hb⟩ := step_inv hL hu.inv (by rw [hk1]; omega)
      rw [e2]
      rw [hu.inv.words] at hb
      refine Sat.bind (sign_sat hL hb.inv [40]) fun t10 ht10 => ?_
      have hau := hb.trans ht10.1
      have h10 := hu.later hau
      have on10 := ht10.1.on
      have on10' : u.I + 1 ≤ t10.I := on10
      have hj4 : ∀ (op op' : List UInt8) (b : Bool), (b = true → op = andL ∨ op = orL) → Sat (p12_pred.j4 Pf (p12_pred.l1 Pf K k) K s0 p t9 t10 op op' b) (PostP L s0) := by
        intro op op' b hop
        unfold p12_pred.j4
        refine Sat.ite (fun hbt => ?_) (fun _ => ?_)
        · refine Sat.ite (fun hz1 => ?_) (fun _ => hj3 t10 p h10 (fun _ => ⟨hpp.1, by have := hpp.2; omega⟩) (by omega))
          have hz1' : t10.E = 0 := by simpa using hz1
          refine Sat.bind (hP t10 h10.inv hz1' (by rw [hau.deep]; exact hdu)) fun r hr => ?_
          obtain ⟨a, c⟩ := hr
          have aon := a.on
          have ast := a.steps
          have d10 := h10.deep
          have s10 := h10.steps
          have x10 := h10.on
          exact hj3 _ _ ⟨⟨a.inv.words, a.inv.lo, a.inv.hi, h10.inv.deep0, h10.inv.deep1, a.inv.steps0, a.inv.steps1⟩, h.good, by show s0.I ≤ r.1.I; omega, d10, by show s0.Steps ≤ r.1.Steps; omega, fun hz2 => by show s0.I < r.1.I; omega⟩ (fun hz2 => by
            simp only [PP, PPs, PVs]
            refine ⟨⟨⟨hpp.1, (c hz2).2.1, trivial⟩, trivial, .inr (.inl ⟨trivial, rfl, hop hbt⟩)⟩, ?_⟩
            have w1 := (c hz2).2.2
            have w2 := hpp.2
            simp only [wP, wL, wPs]
            show ((1 + 0 + (wP p + (wP r.2 + 0)) : Nat) : Int) ≤ r.1.I + 1 - s0.I
            omega) (by show s.I + 1 ≤ r.1.I; omega)
        · refine Sat.ite (fun hn => ?_) (fun _ => ?_)
          · exact hj3 t10 _ h10 (fun _ => by
              simp only [PP, PPs, PVs]
              refine ⟨⟨⟨hpp.1, trivial⟩, trivial, .inr (.inr ⟨trivial, rfl, trivial⟩)⟩, ?_⟩
              have w2 := hpp.2
              simp only [wP, wL, wPs]
              omega) (by omega)
          · refine Sat.ite (fun _ => ?_) (fun _ => hj3 t10 p h10 (fun _ => ⟨hpp.1, by have := hpp.2; omega⟩) (by omega))
            refine Sat.bind (fail_sat i1 (by omega)) fun t13 ht13 => hj3 t13 p (h9.later ht13.1) (fun hb => absurd hb ht13.2.1) (by have := ht13.2.2; omega)
      refine Sat.ite (fun ho => ?_) (fun _ => ?_)
      · exact hj4 _ _ _ fun hb => .inl (by simpa using hb)
      · exact hj4 _ _ _ fun hb => .inr (by simpa using hb)
    refine Sat.chk (fun _ => ⟨i1.lo, by rw [i1.words]; exact i1.hi⟩) ?_
    rw [i1.words]
    refine Sat.ite (fun _ => ?_) (fun hk1 => ?_)
    · refine Sat.bind (fail_sat i1 (by omega)) fun t14 ht14 => hj2 t14 (h9.later ht14.1) (by have := ht14.2.2; omega) (fun hz => absurd hz ht14.2.1)
    · refine hj2 t9 h9 hI (fun hz => ⟨by have hx : t9.Deep = s.Deep + 1 := i5 hz; omega, ?_⟩)
      simp only [Bool.and_eq_false_iff, decide_eq_false_iff_not, Bool.not_eq_false', decide_eq_true_eq] at hk1
      rcases hk1 with hk1 | hk1
      · exact absurd hz hk1
      · exact hk1
theorem pred_fail (h : Inv L s) (p : ApiPred) : Sat (Option.bind (p12_fail.f s 120) fun t1 => some (t1, p)) (PostP L s) :=
  Sat.bind (fail_sat h (by omega)) fun t ht => Sat.some ⟨ht.1, fun hz => absurd hz ht.2.1⟩
theorem pred_step (hL : WordsOk L) (h : Inv L s) (Pf : PF) (K : Nat) (hK : 2000 < K) (hP : ∀ t, Inv L t → t.E = 0 → s.Deep < t.Deep → Sat (Pf t) (PostP L t)) : Sat (p12_pred.b Pf K s) (PostP L s) := by
  unfold p12_pred.b
  rw [h.words]
  refine Sat.chk (fun _ => ⟨h.lo, h.hi⟩) ?_
  refine Sat.ite (fun _ => pred_fail h _) (fun hk => ?_)
  simp only [Bool.or_eq_false_iff, Bool.not_eq_false', decide_eq_true_eq] at hk
  obtain ⟨he, hk1⟩ := hk
  refine Sat.chk ⟨h.lo, h.hi⟩ ?_
  refine Sat.bind (preds_sat K (by omega) _) fun r hr => ?_
  refine Sat.ite (fun _ => pred_fail h _) (fun hr2 => ?_)
  rw [hr] at hr2 ⊢
  refine Sat.chk ⟨h.lo, h.hi⟩ ?_
  obtain ⟨e, ha⟩ := step_inv hL h (by show (wordAt L s.I).Kind ≠ 0; rw [hk1]; omega)
  rw [e]
  rw [h.words] at ha
  refine Sat.bind (sign_sat hL ha.inv [40]) fun t4 ht4 => ?_
  refine Sat.bind (into_sat ht4.1.inv) fun t5 ht5 => ?_
  obtain ⟨i1, i2, i3, i4, i5, i6, i7⟩ := ht5
  refine Sat.bind (values_knot hL t5 [41] K i1 (by omega)) fun t6 ht6 => ?_
  obtain ⟨a6, b6⟩ := ht6
  refine Sat.ite (fun _ => pred_fail h _) (fun har => ?_)
  have on4 : s.I + 1 ≤ t4.I := ht4.1.on
  have st4 : s.Steps ≤ t4.Steps := ht4.1.steps
  have on6 := a6.on
  have st6 := a6.steps
  refine pred_l1 hL Pf K s h hP K _ _ ⟨⟨a6.inv.words, a6.inv.lo, a6.inv.hi, h.deep0, h.deep1, a6.inv.steps0, a6.inv.steps1⟩, he, by show s.I ≤ t6.1.I; omega, Int.le_refl _, by show s.Steps ≤ t6.1.Steps; omega, fun hz => ?_⟩ (fun hz => ?_) (by have := hL.len; have : 0 ≤ t6.1.I := a6.inv.lo; show (L.length : Int) - t6.1.I < K; omega)
  · show s.I < t6.1.I
    omega
  · have hz : t6.1.E = 0 := hz
    obtain ⟨_, b2, b3, b4⟩ := b6 hz
    have o5 : t5.I = t4.I := i2
    refine ⟨?_, by show ((wP ⟨(wordAt L s.I).S, t6.2, []⟩ : Nat) : Int) ≤ t6.1.I - s.I; simp only [wP, wPs]; omega⟩
    simp only [PP, PPs]
    refine ⟨trivial, b4, .inl ⟨trivial, (hL.wd s.I h.lo h.hi).name hk1, by simpa using hr2, b3, fun h0 => ?_⟩⟩
    rw [hz] at har
    simp only [decide_true, Bool.true_and, Bool.and_eq_false_iff, decide_eq_false_iff_not, Bool.not_eq_false', decide_eq_true_eq] at har
    rcases har with har | har
    · exact absurd h0 har
    · exact har
theorem pred_knot (hL : WordsOk L) : ∀ (m : Nat) (s : St12) (K : Nat), Inv L s → 12 - s.Deep ≤ (m : Int) → m + 2001 < K → Sat (p12_pred.f K s) (PostP L s) := by
  intro m
  induction m with
  | zero =>
    intro s K h hd hK
    obtain ⟨K, rfl⟩ : ∃ K', K = K' + 1 := ⟨K - 1, by omega⟩
    rw [p12_pred.f]
    exact pred_step hL h _ K (by omega) fun t ht _ hdt => by have := ht.deep1; omega
  | succ m ih =>
    intro s K h hd hK
    obtain ⟨K, rfl⟩ : ∃ K', K = K' + 1 := ⟨K - 1, by omega⟩
    rw [p12_pred.f]
    exact pred_step hL h _ K (by omega) fun t ht _ hdt => ih t K ht (by omega) (by omega)
def AOk (n : Int) (a : ApiArg) : Prop := (wV a.V : Int) ≤ n ∧ a.V.S.length ≤ 500 ∧ 3 * (nS a.T : Int) ≤ n ∧ (a.Kind = 3 → a.T ≠ []) ∧ a.T.length ≤ 150 ∧ GS a.T ∧ ArgP a.Kind a.V a.P a.T
theorem AOk.ga {n : Int} {a : ApiArg} (h : AOk n a) (hn : n ≤ 1501) : GA [a] := by
  obtain ⟨h1, h1', h2, h3, h4, h5, h6⟩ := h
  cases a
  simp only [GA, GA1]
  exact ⟨⟨by dsimp only at h1; omega, h1', h3, h4, h5, h6⟩, trivial⟩
def PostA (L : List ApiWord) (s : St12) (r : St12 × ApiArg) : Prop := Adv L s r.1 ∧ (r.1.E = 0 → s.I < r.1.I ∧ AOk (r.1.I - s.I) r.2)
def PostS (L : List ApiWord) (s : St12) (r : St12 × List ApiStep) : Prop := Adv L s r.1 ∧ (r.1.E = 0 → r.2 ≠ [] ∧ r.2.length ≤ 150 ∧ GS r.2 ∧ 3 * (nS r.2 : Int) ≤ r.1.I - s.I)
abbrev SF := St12 → Option (St12 × List ApiStep)
abbrev AF := St12 → Option (St12 × ApiArg)
theorem aok_plain {n : Int} {k : Int} {v : ApiValue} {p : ApiPred} (hv : (wV v : Int) ≤ n) (hvs : v.S.length ≤ 500) (hk : k ≠ 3) (ha : ArgP k v p []) : AOk n ⟨k, v, p, []⟩ := by
  have h0 : (1 : Int) ≤ wV v := by rw [wV_eq]; omega
  refine ⟨hv, hvs, ?_, fun h => absurd h hk, by simp, ?_, ha⟩
  · show 3 * (nS [] : Int) ≤ n
    rw [nS]; omega
  · show GS []
    simp [GS]
theorem arg_j2 {t : St12} (hs : Inv L s) (ht : Inv L t) (hon : s.I ≤ t.I) (hst : s.Steps ≤ t.Steps) (he : s.E = 0) (Sf : SF) (Af : AF) (K : Nat)
    (hS : Sat (Sf t) (PostS L t)) : Sat (p12_arg.j2 Sf Af K t s.Deep) (PostA L s) := by
  unfold p12_arg.j2
  refine Sat.bind hS fun r hr => ?_
  obtain ⟨a, b⟩ := hr
  have o := a.on
  have st := a.steps
  refine Sat.some ⟨⟨⟨a.inv.words, a.inv.lo, a.inv.hi, hs.deep0, hs.deep1, a.inv.steps0, a.inv.steps1⟩, by show s.I ≤ r.1.I; omega, rfl, by show s.Steps ≤ r.1.Steps; omega, fun hb => absurd he hb⟩, fun hz => ?_⟩
  obtain ⟨b1, b2, b3, b4⟩ := b hz
  have b5 := nS_pos r.2 b1
  refine ⟨by show s.I < r.1.I; omega, ?_, Nat.zero_le _, ?_, fun _ => b1, b2, b3, .inr (.inr (.inl ⟨rfl, rfl, rfl⟩))⟩
  · show (wV ⟨0, false, 0, 0, [], []⟩ : Int) ≤ r.1.I - s.I
    simp only [wV, wL]; omega
  · show 3 * (nS r.2 : Int) ≤ r.1.I - s.I
    omega
theorem arg_j1 (hL : WordsOk L) (hs : Inv L s) (he : s.E = 0) (Sf : SF) (Af : AF) (K : Nat)
    (hS : ∀ t, Inv L t → (t.E ≠ 0 ∨ t.Deep = s.Deep + 1) → Sat (Sf t) (PostS L t)) : Sat (p12_arg.j1 Sf Af K (wordAt L s.I) s) (PostA L s) := by
  unfold p12_arg.j1
  refine Sat.bind (into_sat hs) fun t2 ht2 => ?_
  obtain ⟨i1, i2, i3, i4, i5, i6, i7⟩ := ht2
  refine Sat.ite (fun hc => ?_) (fun _ => ?_)
  · simp only [Bool.and_eq_true, decide_eq_true_eq] at hc
    obtain ⟨e, ha⟩ := step_inv hL i1 (by rw [i2, hc.1.2]; omega)
    rw [e]
    refine Sat.bind (sign_sat hL ha.inv [46]) fun t4 ht4 => ?_
    have o4 : t2.I + 1 ≤ t4.I := ht4.1.on
    have s4 : t2.Steps ≤ t4.Steps := ht4.1.steps
    have d4 : t4.Deep = t2.Deep := ht4.1.deep
    exact arg_j2 hs ht4.1.inv (by omega) (by omega) he Sf Af K (hS t4 ht4.1.inv (.inr (by rw [d4]; exact i5 hc.1.1)))
  · refine arg_j2 hs i1 (by omega) (by omega) he Sf Af K (hS t2 i1 ?_)
    by_cases hz : t2.E = 0
    · exact .inr (i5 hz)
    · exact .inl hz
theorem arg_step (hL : WordsOk L) (h : Inv L s) (Sf : SF) (Af : AF) (K : Nat) (hK : 3000 < K)
    (hS : ∀ t, Inv L t → (t.E ≠ 0 ∨ t.Deep = s.Deep + 1) → Sat (Sf t) (PostS L t)) : Sat (p12_arg.b Sf Af K s) (PostA L s) := by
  unfold p12_arg.b
  refine Sat.bind (value_knot hL 12 s K h (by have := h.deep0; omega) (by omega)) fun r hr => ?_
  obtain ⟨p1, p2, p3, p4⟩ := hr
  refine Sat.ite (fun hc => Sat.some ⟨p1, fun hz => ?_⟩) (fun hc => ?_)
  · have hok : r.2.2 = true := by
      simp only [Bool.or_eq_true, Bool.not_eq_true', decide_eq_false_iff_not] at hc
      rcases hc with hc | hc
      · exact hc
      · exact absurd hz hc
    obtain ⟨q1, q2, q3, q4, q5⟩ := p3 hok
    exact ⟨q2, aok_plain q3 q4 (by decide) (.inl ⟨rfl, q5, rfl, rfl⟩)⟩
  simp only [Bool.or_eq_false_iff, Bool.not_eq_false', decide_eq_true_eq] at hc
  have hs0 : r.1 = s := (p4 hc.2 hc.1).1
  have hnv := (p4 hc.2 hc.1).2
  have he : s.E = 0 := by rw [← hs0]; exact hc.2
  rw [h.words]
  refine Sat.chk ⟨h.lo, h.hi⟩ ?_
  refine Sat.ite (fun hk => ?_) (fun _ => arg_j1 hL h he Sf Af K hS)
  have hk1 : (wordAt L s.I).Kind = 1 := by simpa using hk
  obtain ⟨e, ha⟩ := step_inv hL h (by rw [hk1]; omega)
  have hl := hL.last s.I h.lo h.hi (by rw [hk1]; omega)
  have hlo := h.lo
  rw [e]
  refine Sat.chk ⟨by omega, hl⟩ ?_
  refine Sat.bind (preds_sat K (by omega) _) fun q hq => ?_
  have w1 : ∀ (k : Int) (S : List UInt8), (wV ⟨k, false, 0, 0, S, []⟩ : Int) = 1 := fun k S => by simp [wV, wL]
  refine Sat.ite (fun _ => ?_) (fun _ => ?_)
  · refine Sat.bind (pred_knot hL 12 s K h (by have := h.deep0; omega) (by omega)) fun u hu => ?_
    refine Sat.some ⟨hu.1, fun hz => ?_⟩
    have h1 := hu.2 hz
    exact ⟨h1.1, aok_plain (by rw [w1]; dsimp only; omega) (Nat.zero_le _) (by decide) (.inr (.inl ⟨rfl, rfl, ⟨h1.2.1, by have x1 := h1.2.2; have x2 := hu.1.inv.hi; have x3 := hL.len; have x4 := h.lo; omega⟩, rfl⟩))⟩
  · refine Sat.ite (fun hno => ?_) (fun _ => arg_j1 hL h he Sf Af K hS)
    rw [h.words] at ha
    exact Sat.some ⟨ha, fun hz => ⟨by show s.I < s.I + 1; omega, aok_plain (by rw [w1]; dsimp only; omega) (hL.word s.I h.lo h.hi) (by decide) (.inr (.inr (.inr ⟨rfl, ⟨_, rfl, (hL.wd s.I h.lo h.hi).name hk1, by
      simp only [Bool.and_eq_true, Bool.not_eq_true', decide_eq_false_iff_not] at hno
      exact hno.2, hnv hk1⟩, rfl, rfl⟩)))⟩⟩
def InS (s0 s : St12) (l : List ApiStep) : Prop := s.E = 0 → GS l ∧ 3 * (nS l : Int) ≤ s.I - s0.I
theorem steps_end (hL : WordsOk L) {Sf : SF} {Af : AF} {K : Nat} {s0 : St12} {G : List ApiStep → St12 → Option (St12 × List ApiStep)} {q : Int} {l3 : List ApiStep} (h3 : (l3.length : Int) + 1 ≤ q) (hq : q ≤ 150)
    (hG : ∀ l s, Adv L s0 s → (l.length : Int) ≤ q → q ≤ s.Steps → InS s0 s l → Sat (G l s) (PostS L s0)) (h30 : GS l3) {l5 : List ApiArg} {nm : List UInt8} (ha : Adv L s0 s) (hqs : q ≤ s.Steps) (hl : l5.length ≤ 12) (hnm : IsName nm) (hA : s.E = 0 → GA l5 ∧ 3 * (nS l3 : Int) + 2 + 3 * (nA l5 : Int) ≤ s.I - s0.I) :
    Sat (Option.bind (p12_sign.f s ([41] : List UInt8)) fun t8 => (if ((List.length l3 + List.length ([(⟨nm, l5⟩ : ApiStep)] : List ApiStep)) * 40 ≤ 140737488355328 ∧ List.length l3 + List.length ([(⟨nm, l5⟩ : ApiStep)] : List ApiStep) ≤ 140737488355328) then (Option.bind (p12_is.f t8 ([46] : List UInt8)) fun t9 => (if (!t9) = true then p12_steps.j1 Sf Af K (l3 ++ ([(⟨nm, l5⟩ : ApiStep)] : List ApiStep)) t8 else G (l3 ++ ([(⟨nm, l5⟩ : ApiStep)] : List ApiStep)) (⟨t8.L, (IntKind.wrap .i64 (t8.I + 1)), t8.Deep, t8.Steps, t8.At, t8.E⟩ : St12))) else none)) (PostS L s0) := by
  have h := ha.inv
  refine Sat.bind (sign_sat hL h [41]) fun t8 ht8 => ?_
  refine Sat.chk (by simp only [List.length_cons, List.length_nil]; omega) ?_
  have a8 := ha.trans ht8.1
  have st8 := ht8.1.steps
  have hso : InS s0 t8 (l3 ++ [(⟨nm, l5⟩ : ApiStep)]) := by
    intro hz
    obtain ⟨g1, g2⟩ := hA (ht8.1.good hz)
    have i8 := ht8.2.2 hz
    refine ⟨GS_append _ _ h30 (by simp only [GS, GS1]; exact ⟨⟨hl, g1, hnm⟩, trivial⟩), ?_⟩
    rw [nS_append, nS_one]
    omega
  refine Sat.bindE (is_eq a8.inv [46]) ?_
  refine Sat.ite (fun _ => ?_) (fun hi => ?_)
  · unfold p12_steps.j1
    exact Sat.some ⟨a8, fun hz => ⟨by simp, by simp only [List.length_append, List.length_cons, List.length_nil]; omega, (hso hz).1, (hso hz).2⟩⟩
  · simp only [Bool.not_eq_false', Bool.and_eq_true, decide_eq_true_eq] at hi
    obtain ⟨e, hb⟩ := step_inv hL a8.inv (by rw [hi.1.2]; omega)
    rw [e]
    refine hG _ _ (a8.trans hb) (by simp only [List.length_append, List.length_cons, List.length_nil]; omega) (by show q ≤ t8.Steps; omega) (fun hz => ?_)
    obtain ⟨x1, x2⟩ := hso hz
    exact ⟨x1, by show 3 * (nS (l3 ++ [(⟨nm, l5⟩ : ApiStep)]) : Int) ≤ t8.I + 1 - s0.I; omega⟩
theorem steps_l2 (hL : WordsOk L) (Sf : SF) (Af : AF) (K : Nat) (s0 : St12) (G : List ApiStep → St12 → Option (St12 × List ApiStep)) (q : Int) (l3 : List ApiStep) (h3 : (l3.length : Int) + 1 ≤ q) (hq : q ≤ 150)
    (hAf : ∀ t, Inv L t → t.E = 0 → t.Deep = s0.Deep → Sat (Af t) (PostA L t))
    (hG : ∀ l s, Adv L s0 s → (l.length : Int) ≤ q → q ≤ s.Steps → InS s0 s l → Sat (G l s) (PostS L s0)) (h30 : GS l3) :
    ∀ (k : Nat) (l5 : List ApiArg) (nm : List UInt8) (s : St12), IsName nm → Adv L s0 s → q ≤ s.Steps → l5.length ≤ 12 → (s.E = 0 → GA l5 ∧ 3 * (nS l3 : Int) + 2 + 3 * (nA l5 : Int) ≤ s.I - s0.I) → 1 ≤ k → (s.E = 0 → 14 ≤ l5.length + k) →
      Sat (p12_steps.l2 Sf Af G K l3 k l5 nm s) (PostS L s0) := by
  intro k
  induction k with
  | zero => intro l5 nm s hnm ha hqs hl hA hk1 hk; omega
  | succ k ih =>
    intro l5 nm s hnm ha hqs hl hA hk1 hk
    have h := ha.inv
    rw [p12_steps.l2]
    by_cases he : s.E = 0
    · rw [if_pos (by simpa using he)]
      refine Sat.bindE (is_eq h [41]) ?_
      refine Sat.ite (fun _ => ?_) (fun _ => steps_end hL h3 hq hG h30 ha hqs hl hnm hA)
      have hkk := hk he
      have hj3 : ∀ s1, Adv L s s1 → (s1.E = 0 → l5.length < 12) → Sat (p12_steps.j3 Sf Af G (p12_steps.l2 Sf Af G K l3 k) K l3 l5 nm s1) (PostS L s0) := by
        intro s1 a1' l1
        have a1 := ha.trans a1'
        have st1 := a1'.steps
        have on1 := a1'.on
        unfold p12_steps.j3
        refine Sat.ite (fun hz => ?_) (fun hz => ?_)
        · have hz' : s1.E = 0 := by simpa using hz
          have hll := l1 hz'
          refine Sat.bind (hAf s1 a1.inv hz' a1.deep) fun r hr => ?_
          refine Sat.chk (by simp only [List.length_cons, List.length_nil]; omega) ?_
          have st2 := hr.1.steps
          refine ih _ _ _ hnm (a1.trans hr.1) (by omega) (by simp; omega) (fun hz2 => ?_) (by omega) (fun _ => by simp only [List.length_append, List.length_cons, List.length_nil]; omega)
          obtain ⟨g1, g2⟩ := hA he
          obtain ⟨r1, r2⟩ := hr.2 hz2
          have x1 := r2.2.2.1
          have x2 := hr.1.inv.hi
          have x3 := hL.len
          have x4 := a1.inv.lo
          refine ⟨GA_append _ _ g1 (r2.ga (by omega)), ?_⟩
          rw [nA_append, nA_one]
          omega
        · have hz' : s1.E ≠ 0 := by simpa using hz
          exact ih _ _ _ hnm a1 (by omega) hl (fun hb => absurd hb hz') (by omega) (fun hb => absurd hb hz')
      have hj2 : ∀ s1, Adv L s s1 → Sat (p12_steps.j2 Sf Af G (p12_steps.l2 Sf Af G K l3 k) K l3 l5 nm s1) (PostS L s0) := by
        intro s1 a1
        unfold p12_steps.j2
        refine Sat.ite (fun _ => ?_) (fun hm => ?_)
        · refine Sat.bind (fail_sat a1.inv (by omega)) fun t6 ht6 => hj3 t6 (a1.trans ht6.1) (fun hz => absurd hz ht6.2.1)
        · exact hj3 s1 a1 (fun _ => by simp at hm; omega)
      refine Sat.ite (fun _ => ?_) (fun _ => hj2 s (Adv.refl h))
      exact Sat.bind (sign_sat hL h [44]) fun t7 ht7 => hj2 t7 ht7.1
    · rw [if_neg (by simpa using he)]
      refine Sat.bindE rfl ?_
      rw [decide_eq_false he, Bool.false_and, if_neg (by simp)]
      exact steps_end hL h3 hq hG h30 ha hqs hl hnm hA
theorem steps_l1 (hL : WordsOk L) (Sf : SF) (Af : AF) (K : Nat) (hK : 200 < K) (s0 : St12)
    (hAf : ∀ t, Inv L t → t.E = 0 → t.Deep = s0.Deep → Sat (Af t) (PostA L t)) :
    ∀ (k : Nat) (l3 : List ApiStep) (s : St12), Adv L s0 s → (l3.length : Int) ≤ s.Steps → InS s0 s l3 → 152 ≤ s.Steps + k → Sat (p12_steps.l1 Sf Af K k l3 s) (PostS L s0) := by
  intro k
  induction k with
  | zero => intro l3 s ha hl hso hk; have := ha.inv.steps1; omega
  | succ k ih =>
    intro l3 s ha hl hso hk
    have h := ha.inv
    have hs1 := h.steps1
    have hs0 := h.steps0
    rw [p12_steps.l1]
    refine Sat.ite (fun he => ?_) (fun he => ?_)
    · have he' : s.E = 0 := by simpa using he
      refine Sat.ite (fun _ => ?_) (fun hm => ?_)
      · exact Sat.bind (fail_sat h (by omega)) fun t ht => Sat.some ⟨ha.trans ht.1, fun hz => absurd hz ht.2.1⟩
      · have hm' : s.Steps < 150 := by simp at hm; omega
        rw [h.words]
        refine Sat.chk ⟨h.lo, h.hi⟩ ?_
        rw [W_in (x := s.Steps + 1) (by omega) (by omega)]
        have hi1 : Inv L (⟨L, s.I, s.Deep, s.Steps + 1, s.At, s.E⟩ : St12) := ⟨rfl, h.lo, h.hi, h.deep0, h.deep1, by show 0 ≤ s.Steps + 1; omega, by show s.Steps + 1 ≤ 150; omega⟩
        have a1 : Adv L s (⟨L, s.I, s.Deep, s.Steps + 1, s.At, s.E⟩ : St12) := ⟨hi1, Int.le_refl _, rfl, by show s.Steps ≤ s.Steps + 1; omega, id⟩
        refine Sat.ite (fun _ => ?_) (fun hk1 => ?_)
        · exact Sat.bind (fail_sat hi1 (by omega)) fun t ht => Sat.some ⟨(ha.trans a1).trans ht.1, fun hz => absurd hz ht.2.1⟩
        · refine Sat.chk ⟨h.lo, h.hi⟩ ?_
          have hk1' : (wordAt L s.I).Kind = 1 := by simpa using hk1
          obtain ⟨e, hb⟩ := step_inv hL hi1 (by show (wordAt L s.I).Kind ≠ 0; rw [hk1']; omega)
          have e' : IntKind.wrap .i64 (s.I + 1) = s.I + 1 := e
          rw [e']
          refine Sat.bind (sign_sat hL hb.inv [40]) fun t3 ht3 => ?_
          have a3 := ((ha.trans a1).trans hb).trans ht3.1
          have st3 : s.Steps + 1 ≤ t3.Steps := ht3.1.steps
          refine steps_l2 hL Sf Af K s0 _ (s.Steps + 1) l3 (by omega) (by omega) hAf (fun l s' a' hl' hq' hs' => ih l s' a' (by omega) hs' (by omega)) (hso he').1 K [] _ t3 ((hL.wd s.I h.lo h.hi).name hk1') a3 st3 (by simp) (fun hz => ?_) (by omega) (fun _ => by omega)
          have x1 := (hso he').2
          have x2 : t3.I = s.I + 1 + 1 := ht3.2.2 hz
          refine ⟨by simp [GA], ?_⟩
          rw [nA]
          omega
    · have he' : s.E ≠ 0 := by simpa using he
      unfold p12_steps.j1
      exact Sat.some ⟨ha, fun hz => absurd hz he'⟩
theorem steps_bad (h : Inv L s) (he : s.E ≠ 0) (K : Nat) (hK : 2 < K) : Sat (p12_steps.f K s) (PostS L s) := by
  obtain ⟨K, rfl⟩ : ∃ K', K = K' + 1 + 1 := ⟨K - 2, by omega⟩
  rw [p12_steps.f, p12_steps.b, p12_steps.l1, if_neg (by simpa using he), p12_steps.j1]
  exact Sat.some ⟨Adv.refl h, fun hz => absurd hz he⟩
theorem steps_knot (hL : WordsOk L) : ∀ (m : Nat) (s : St12) (K : Nat), Inv L s → 12 - s.Deep ≤ (m : Int) → 2 * m + 3100 < K → Sat (p12_steps.f K s) (PostS L s) := by
  have key : ∀ (s : St12) (K : Nat), Inv L s → 3050 < K → (∀ t, Inv L t → t.Deep = s.Deep + 1 → Sat (p12_steps.f K t) (PostS L t)) → Sat (p12_steps.f (K + 2) s) (PostS L s) := by
    intro s K h hK hS
    rw [p12_steps.f, p12_steps.b]
    have hl0 : (([] : List ApiStep).length : Int) ≤ s.Steps := by have := h.steps0; simpa using this
    refine steps_l1 hL _ _ (K + 1) (by omega) s (fun t ht hz hd => ?_) (K + 1) [] s (Adv.refl h) hl0 (fun _ => ⟨by simp [GS], by simp [nS]⟩) (by have := h.steps0; omega)
    rw [p12_arg.f]
    refine arg_step hL ht _ _ K (by omega) fun u hu hb => ?_
    by_cases hz : u.E = 0
    · exact hS u hu (by rcases hb with hb | hb; exact absurd hz hb; rw [hb, hd])
    · exact steps_bad hu hz K (by omega)
  intro m
  induction m with
  | zero =>
    intro s K h hd hK
    obtain ⟨K, rfl⟩ : ∃ K', K = K' + 2 := ⟨K - 2, by omega⟩
    exact key s K h (by omega) fun t ht hdt => by have := ht.deep1; omega
  | succ m ih =>
    intro s K h hd hK
    obtain ⟨K, rfl⟩ : ∃ K', K = K' + 2 := ⟨K - 2, by omega⟩
    exact key s K h (by omega) fun t ht hdt => ih t K ht (by omega) (by omega)
end
def Prs (l : List ApiStep) : Prop := l ≠ [] ∧ l.length ≤ 150 ∧ GS l ∧ nS l ≤ 500
theorem parse_j1 (K : Nat) (y : St12) (l : List ApiStep) (h : y.E = 0 → Prs l) : Sat (r12_Parse.j1 K y l) (fun r => r.2.2 = 0 → Prs r.1) := by
  unfold r12_Parse.j1
  refine Sat.ite (fun he => Sat.some fun hz => ?_) (fun he => Sat.some fun _ => h (by simpa using he))
  have : ¬ y.E = 0 := by simpa using he
  exact absurd hz this
theorem parse_sat (K : Nat) (hK : 5000 < K) (s : List UInt8) : Sat (r12_Parse.f K s) (fun r => r.2.2 = 0 → Prs r.1) := by
  unfold r12_Parse.f
  refine Sat.bind (words_sat K hK s) fun t ht => ?_
  refine Sat.ite (fun he => Sat.some fun hz => ?_) (fun he => ?_)
  · have : ¬ t.2.2 = 0 := by simpa using he
    exact absurd hz this
  · have he' : t.2.2 = 0 := by simpa using he
    have hL := ht he'
    have h0 := hL.pos
    refine Sat.chk ⟨by omega, h0⟩ ?_
    refine Sat.chk (fun _ => ⟨by omega, h0⟩) ?_
    refine Sat.ite (fun _ => ?_) (fun hg => ?_)
    · refine Sat.chk ⟨by omega, h0⟩ ?_
      exact Sat.some fun hz => absurd hz (show ¬ (120 : Int) = 0 by decide)
    · simp only [Bool.or_eq_false_iff, Bool.not_eq_false', decide_eq_true_eq] at hg
      have hl := hL.last 0 (by omega) h0 (by show (List.getD t.1 (Int.toNat 0) default).Kind ≠ 0; rw [hg.1]; omega)
      have hi : Inv t.1 (⟨t.1, 1, 0, 0, 0, 0⟩ : St12) := ⟨rfl, by show (0 : Int) ≤ 1; omega, by show (1 : Int) < t.1.length; omega, by show (0 : Int) ≤ 0; omega, by show (0 : Int) ≤ 12; omega, by show (0 : Int) ≤ 0; omega, by show (0 : Int) ≤ 150; omega⟩
      refine Sat.bind (sign_sat hL hi [46]) fun t2 ht2 => ?_
      refine Sat.bind (steps_knot hL 12 t2 K ht2.1.inv (by have := ht2.1.inv.deep0; omega) (by omega)) fun t3 ht3 => ?_
      have i3 := ht3.1.inv
      rw [i3.words]
      have hp : t3.1.E = 0 → Prs t3.2 := fun hz => by
        obtain ⟨x1, x2, x3, x4⟩ := ht3.2 hz
        have y1 := i3.hi
        have y2 := hL.len
        have y3 := ht2.1.inv.lo
        exact ⟨x1, x2, x3, by omega⟩
      refine Sat.chk (fun _ => ⟨i3.lo, i3.hi⟩) ?_
      refine Sat.ite (fun _ => ?_) (fun _ => parse_j1 K _ _ hp)
      exact Sat.bind (fail_sat i3 (by omega)) fun t4 ht4 => parse_j1 K _ _ fun hz => absurd hz ht4.2.1
end Go.Proofs.Ytbjbgodcenopnaa
namespace Go.Proofs.Ytbjbgodcenopnaa
set_option linter.unusedVariables false
set_option maxHeartbeats 1000000
def sgnI (b : Bool) (m : Int) : Int := if b then -m else m
end Go.Proofs.Ytbjbgodcenopnaa
namespace Go.Proofs.Ytbjbgodcenopnaa
set_option linter.unusedVariables false
set_option maxHeartbeats 1000000
abbrev hexL : List UInt8 := [48, 49, 50, 51, 52, 53, 54, 55, 56, 57, 97, 98, 99, 100, 101, 102]
def hexdig (d : Nat) : UInt8 := List.getD hexL d 0
def hexh : Nat → Nat → List UInt8
  | 0, _ => []
  | j + 1, x => hexdig (x / 16 ^ j % 16) :: hexh j x
theorem hexh_len : ∀ j x, (hexh j x).length = j
  | 0, _ => rfl
  | j + 1, x => by rw [hexh, List.length_cons, hexh_len j x]
theorem hexh_snoc : ∀ j x, hexh (j + 1) x = hexh j (x / 16) ++ [hexdig (x % 16)]
  | 0, x => by simp [hexh]
  | j + 1, x => by
    rw [hexh, hexh_snoc j x, hexh, List.cons_append, Nat.div_div_eq_div_mul, Nat.pow_succ, Nat.mul_comm]
end Go.Proofs.Ytbjbgodcenopnaa
namespace Go.Proofs.Ytbjbgodcenopnaa
set_option linter.unusedVariables false
set_option maxHeartbeats 1000000
def escS (c : UInt8) : List UInt8 :=
  if c = 39 ∨ c = 92 then [92, c] else if (c.toNat : Int) < 32 ∨ 126 < (c.toNat : Int) then [92, 120, hexdig (c.toNat / 16), hexdig (c.toNat % 16)] else [c]
def escL : List UInt8 → List UInt8
  | [] => []
  | c :: r => escS c ++ escL r
theorem u8_eq' (c : UInt8) (n : Nat) (hn : n < 256) : c = UInt8.ofNat n ↔ ((c.toNat : Int) = (n : Int)) := (u8_eq c n hn).symm
end Go.Proofs.Ytbjbgodcenopnaa
namespace Go.Proofs.Ytbjbgodcenopnaa
set_option linter.unusedVariables false
set_option maxHeartbeats 1000000
def decS (n : Nat) : List UInt8 := if n = 0 then [] else decS (n / 10) ++ [hexdig (n % 10)]
termination_by n
decreasing_by omega
theorem decS_zero : decS 0 = [] := by rw [decS]; simp
theorem decS_step {n : Nat} (h : n ≠ 0) : decS n = decS (n / 10) ++ [hexdig (n % 10)] := by rw [decS]; simp [h]
theorem decS_len : ∀ (j n : Nat), n < 10 ^ j → (decS n).length ≤ j
  | 0, n, h => by
    have : n = 0 := by simp at h; omega
    subst this; rw [decS_zero]; simp
  | j + 1, n, h => by
    by_cases hz : n = 0
    · subst hz; rw [decS_zero]; simp
    · have := decS_len j (n / 10) (by rw [Nat.pow_succ] at h; omega)
      rw [decS_step hz]; simp; omega
def numS (v : Int) : List UInt8 := if v = 0 then [48] else (if v < 0 then [45] else []) ++ decS v.natAbs
theorem abs_pow {v : Int} (hv : In64 v) : v.natAbs < 10 ^ 19 := by
  unfold In64 at hv
  have : (10 : Nat) ^ 19 = 10000000000000000000 := by decide
  omega
theorem numS_len (v : Int) (hv : In64 v) : 1 ≤ (numS v).length ∧ (numS v).length ≤ 20 := by
  unfold numS
  by_cases hz : v = 0
  · rw [if_pos hz]; simp
  · rw [if_neg hz]
    have h1 := decS_len 19 v.natAbs (abs_pow hv)
    have h2 : decS v.natAbs ≠ [] := by rw [decS_step (by omega)]; simp
    have h3 : 1 ≤ (decS v.natAbs).length := by
      cases h : decS v.natAbs with
      | nil => exact absurd h h2
      | cons => simp
    split <;> simp <;> omega
def canonN (x : Nat) : Nat := if FW.fneq x x = true then 9221120237041090561 else x
def floatT (x : Nat) : List UInt8 := [102, 39] ++ hexh 16 (canonN x) ++ [39]
def textT (s : List UInt8) : List UInt8 := 39 :: (escL s ++ [39])
def commas : List (List UInt8) → List UInt8
  | [] => []
  | [x] => x
  | x :: r => x ++ ([44, 32] ++ commas r)
mutual
def valT : ApiValue → List UInt8
  | ⟨k, b, n, f, s, l⟩ =>
    if k = 0 then [110, 117, 108, 108]
    else if k = 1 then (if b = true then [116, 114, 117, 101] else [102, 97, 108, 115, 101])
    else if k = 2 then numS n
    else if k = 3 then floatT f
    else if k = 4 then textT s
    else if k = 5 then [91] ++ commas (valsT l) ++ [93]
    else if k = 6 then [123] ++ commas (valsT l) ++ [125]
    else if k = 7 then [118, 40] ++ numS n ++ [41]
    else if k = 8 then [101, 40] ++ numS n ++ [41]
    else [63]
def valsT : List ApiValue → List (List UInt8)
  | [] => []
  | x :: r => valT x :: valsT r
end
theorem valsT_map : ∀ l, valsT l = l.map valT
  | [] => by simp [valsT]
  | x :: r => by simp [valsT, valsT_map r]
mutual

def ValW : ApiValue → Prop
  | ⟨k, b, n, f, s, l⟩ => In64 n ∧ f < 18446744073709551616 ∧ s.length ≤ 1000000000 ∧ ValsW l
def ValsW : List ApiValue → Prop
  | [] => True
  | x :: r => ValW x ∧ ValsW r
end
theorem valsW_mem : ∀ l, ValsW l → ∀ x ∈ l, ValW x
  | [], _, x, h => by cases h
  | y :: r, h, x, hx => by
    simp only [ValsW] at h
    rcases List.mem_cons.mp hx with rfl | hx
    · exact h.1
    · exact valsW_mem r h.2 x hx
theorem commas_len : ∀ (l : List (List UInt8)) (x : List UInt8), x ∈ l → x.length ≤ (commas l).length
  | [], x, h => by cases h
  | [y], x, h => by simp only [List.mem_cons, List.not_mem_nil, or_false] at h; subst h; simp [commas]
  | y :: z :: r, x, h => by
    rw [commas]
    · rcases List.mem_cons.mp h with rfl | h
      · simp
      · have := commas_len (z :: r) x h
        simp; omega
    · simp
theorem commas_cons (x y : List UInt8) (r : List (List UInt8)) : commas (x :: y :: r) = x ++ ([44, 32] ++ commas (y :: r)) := by rw [commas]; simp
theorem commas_count : ∀ l : List (List UInt8), (∀ x ∈ l, 1 ≤ x.length) → l.length ≤ (commas l).length
  | [], _ => by simp [commas]
  | [x], h => by have := h x (by simp); simp [commas]; omega
  | x :: y :: r, h => by
    have := commas_count (y :: r) (fun z hz => h z (by simp [hz]))
    have := h x (by simp)
    rw [commas_cons]
    simp at *; omega
def commaTail (l : List (List UInt8)) : List UInt8 := (l.map fun x => [44, 32] ++ x).flatten
theorem commas_tail : ∀ (x : List UInt8) (r : List (List UInt8)), commas (x :: r) = x ++ commaTail r
  | x, [] => by simp [commas, commaTail]
  | x, y :: r => by rw [commas_cons, commas_tail y r]; simp [commaTail]
theorem canonN_lt (x : Nat) (h : x < 18446744073709551616) : canonN x < 18446744073709551616 := by unfold canonN; split <;> omega
theorem getD_drop {α : Type} [Inhabited α] {l : List α} {i : Nat} {c : α} {r : List α} (h : l.drop i = c :: r) : List.getD l i default = c := by
  have : l[i]? = some c := by
    have := List.getElem?_drop (xs := l) (i := i) (j := 0)
    rw [h] at this
    simpa using this.symm
  rw [List.getD_eq_getElem?_getD, this]; rfl
theorem adrop_lt {α : Type} {l : List α} {i : Int} {c : α} {r : List α} (h0 : 0 ≤ i) (h : l.drop i.toNat = c :: r) : i < (l.length : Int) ∧ l.drop (i + 1).toNat = r ∧ (l.length : Int) = i + 1 + r.length := by
  have hl : i.toNat < l.length := by
    rcases Nat.lt_or_ge i.toNat l.length with h' | h'
    · exact h'
    · rw [List.drop_of_length_le h'] at h; cases h
  have h2 : l.drop (i.toNat + 1) = r := by
    rw [← List.drop_drop, h]; rfl
  have h3 := congrArg List.length h
  simp only [List.length_drop, List.length_cons] at h3
  refine ⟨by omega, ?_, by omega⟩
  rw [show (i + 1).toNat = i.toNat + 1 from by omega]; exact h2
theorem adrop_nil {α : Type} {l : List α} {i : Int} (h0 : 0 ≤ i) (h : l.drop i.toNat = []) : (l.length : Int) ≤ i := by
  have := congrArg List.length h
  simp only [List.length_drop, List.length_nil] at this
  omega
theorem valT_pos (v : ApiValue) (h : ValW v) : 1 ≤ (valT v).length := by
  obtain ⟨k, b, n, f, s, l⟩ := v
  simp only [ValW] at h
  have := numS_len n h.1
  rw [valT]
  repeat' split
  all_goals simp [floatT, textT]
  all_goals omega
theorem escL_ge : ∀ s : List UInt8, s.length ≤ (escL s).length
  | [] => by simp
  | c :: r => by
    have h1 := escL_ge r
    have h2 : 1 ≤ (escS c).length := by
      unfold escS
      split
      · simp
      · split <;> simp
    rw [escL, List.length_append, List.length_cons]; omega
end Go.Proofs.Ytbjbgodcenopnaa
namespace Go.Proofs.Ytbjbgodcenopnaa
set_option linter.unusedVariables false
set_option maxHeartbeats 1000000
theorem hex_byte (c : Nat) (h : c < 256) : offshootref13_hex.f (c : Int) = some [hexdig (c / 16), hexdig (c % 16)] := by
  have : ∀ c ∈ List.range 256, offshootref13_hex.f (c : Int) = some [hexdig (c / 16), hexdig (c % 16)] := by decide +kernel
  exact this c (List.mem_range.mpr h)
theorem hex_u8 (c : UInt8) : offshootref13_hex.f (c.toNat : Int) = some [hexdig (c.toNat / 16), hexdig (c.toNat % 16)] := hex_byte c.toNat c.toNat_lt
theorem ten_byte (n : Nat) : FW.toB ([(IntKind.wrap .u8 (48 + (IntKind.wrap .u8 (Int.tmod (n : Int) 10))))] : List Int) = [hexdig (n % 10)] := by
  have e : Int.tmod (n : Int) 10 = ((n % 10 : Nat) : Int) := by rw [Int.tmod_eq_emod_of_nonneg (by omega)]; omega
  rw [e]
  have : ∀ d ∈ List.range 10, FW.toB ([(IntKind.wrap .u8 (48 + (IntKind.wrap .u8 (d : Int))))] : List Int) = [hexdig d] := by decide +kernel
  exact this (n % 10) (List.mem_range.mpr (by omega))
theorem refnum_l1 (K : Nat) (b : Bool) : ∀ (j k n : Nat) (acc : List UInt8), j < k → n < 10 ^ j → j ≤ 20 → n < 18446744073709551616 → (acc ≠ [] ∨ n ≠ 0) → acc.length + j ≤ 1000 →
    offshootref13_Number.l1 K k (n : Int) b acc = some ((if b then [45] else []) ++ (decS n ++ acc)) := by
  have hz0 : ∀ (k : Nat) (acc : List UInt8), acc ≠ [] → acc.length ≤ 1000 → offshootref13_Number.l1 K (k + 1) ((0 : Nat) : Int) b acc = some ((if b then [45] else []) ++ (decS 0 ++ acc)) := by
    intro k acc hne hl
    rw [offshootref13_Number.l1, if_neg (by simp [hne]), decS_zero]
    cases b with
    | true => simp; omega
    | false => simp
  intro j
  induction j with
  | zero =>
    intro k n acc hk hn hj hx ha hl
    have hz : n = 0 := by simp at hn; omega
    subst hz
    obtain ⟨k, rfl⟩ : ∃ k', k = k' + 1 := ⟨k - 1, by omega⟩
    exact hz0 k acc (ha.resolve_right (by simp)) (by omega)
  | succ j ih =>
    intro k n acc hk hn hj hx ha hl
    obtain ⟨k, rfl⟩ : ∃ k', k = k' + 1 := ⟨k - 1, by omega⟩
    by_cases hz : n = 0
    · subst hz; exact hz0 k acc (ha.resolve_right (by simp)) (by omega)
    · have e2 : IntKind.wrap .u64 (Int.tdiv (n : Int) 10) = ((n / 10 : Nat) : Int) := by
        rw [Int.tdiv_eq_ediv_of_nonneg (by omega), W_u64 (by omega) (by omega)]; omega
      rw [offshootref13_Number.l1, if_pos (by simp; omega), ten_byte, if_pos (by simp; omega), e2, ih k (n / 10) _ (by omega) (by rw [Nat.pow_succ] at hn; omega) (by omega) (by omega) (by simp) (by simp; omega), decS_step hz]
      simp
theorem refnum_eq (K : Nat) (hK : 30 < K) (v : Int) (hv : In64 v) : offshootref13_Number.f K v = some (numS v) := by
  unfold offshootref13_Number.f offshootref13_Number.j1 numS
  have h20 : v.natAbs < 10 ^ 20 := Nat.lt_of_lt_of_le (abs_pow hv) (Nat.pow_le_pow_right (by omega) (by omega))
  unfold In64 at hv
  by_cases h : v < 0
  · have e : IntKind.wrap .u64 (0 - IntKind.wrap .u64 v) = (v.natAbs : Int) := by rw [IntKind.wrap_u64, IntKind.wrap_u64]; omega
    rw [if_pos (by simpa using h), e, decide_eq_true h, if_neg (by omega), if_pos h]
    rw [refnum_l1 K true 20 K v.natAbs [] (by omega) h20 (by omega) (by omega) (.inr (by omega)) (by simp)]
    simp
  · have e : IntKind.wrap .u64 v = (v.natAbs : Int) := by rw [W_u64 (by omega) (by omega)]; omega
    rw [if_neg (by simpa using h), e, decide_eq_false h]
    by_cases hz : v = 0
    · subst hz
      obtain ⟨k, rfl⟩ : ∃ k, K = k + 1 + 1 := ⟨K - 2, by omega⟩
      rfl
    · rw [if_neg hz, if_neg h]
      rw [refnum_l1 K false 20 K v.natAbs [] (by omega) h20 (by omega) (by omega) (.inr (by omega)) (by simp)]
      simp
def bytesh : Nat → Nat → List UInt8
  | 0, _ => []
  | j + 1, x => bytesh j (x / 256) ++ [UInt8.ofNat (x % 256)]
def hexes : List UInt8 → List UInt8
  | [] => []
  | c :: r => [hexdig (c.toNat / 16), hexdig (c.toNat % 16)] ++ hexes r
theorem hexes_append : ∀ a b, hexes (a ++ b) = hexes a ++ hexes b
  | [], b => by simp [hexes]
  | c :: r, b => by simp [hexes, hexes_append r b]
theorem bytesh_len : ∀ j x, (bytesh j x).length = j
  | 0, _ => rfl
  | j + 1, x => by rw [bytesh, List.length_append, bytesh_len j]; simp
theorem hexes_bytesh : ∀ j x, hexes (bytesh j x) = hexh (2 * j) x
  | 0, x => by simp [bytesh, hexes, hexh]
  | j + 1, x => by
    rw [bytesh, hexes_append, hexes_bytesh j, show 2 * (j + 1) = 2 * j + 1 + 1 from by omega, hexh_snoc, hexh_snoc, Nat.div_div_eq_div_mul]
    have : (UInt8.ofNat (x % 256)).toNat = x % 256 := by rw [UInt8.toNat_ofNat']; omega
    simp only [hexes, this]
    rw [show x % 256 / 16 = x / 16 % 16 from by omega, show x % 256 % 16 = x % 16 from by omega]
    simp
theorem eight_l1 (K : Nat) : ∀ (j k x : Nat) (acc : List UInt8) (i : Int), j < k → i = 8 - (j : Int) → j ≤ 8 → x < 18446744073709551616 → acc.length ≤ 8 - j →
    r02_Eight.l1 K k (x : Int) acc i = some (bytesh j x ++ acc) := by
  intro j
  induction j with
  | zero =>
    intro k x acc i hk hi hj hx hl
    obtain ⟨k, rfl⟩ : ∃ k', k = k' + 1 := ⟨k - 1, by omega⟩
    rw [r02_Eight.l1, if_neg (by simp; omega)]
    simp [bytesh]
  | succ j ih =>
    intro k x acc i hk hi hj hx hl
    obtain ⟨k, rfl⟩ : ∃ k', k = k' + 1 := ⟨k - 1, by omega⟩
    have e1 : Int.tmod (x : Int) 256 = ((x % 256 : Nat) : Int) := by rw [Int.tmod_eq_emod_of_nonneg (by omega)]; omega
    have e2 : IntKind.wrap .u64 (Int.tdiv (x : Int) 256) = ((x / 256 : Nat) : Int) := by rw [Int.tdiv_eq_ediv_of_nonneg (by omega), W_u64 (by omega) (by omega)]; omega
    have e3 : FW.toB ([(IntKind.wrap .u8 ((x % 256 : Nat) : Int))] : List Int) = [UInt8.ofNat (x % 256)] := by
      rw [W_u8 (by omega) (by omega)]; simp only [FW.toB, List.map_cons, List.map_nil, Int.toNat_natCast]
    rw [r02_Eight.l1, if_pos (by simp; omega), e1, e2, e3, if_pos (by simp; omega), W_in (by omega) (by omega), ih k (x / 256) _ (i + 1) (by omega) (by omega) (by omega) (by omega) (by simp; omega), bytesh]
    simp
theorem refflt_l1 (G : List ApiValue → Option (List UInt8)) (F : ApiValue → Option (List UInt8)) (K : Nat) (l : List UInt8) (hl : l.length = 8) : ∀ (j k : Nat) (acc : List UInt8) (i : Int), j < k → i = 8 - (j : Int) → j ≤ 8 → acc.length ≤ 16 - 2 * j →
    offshootref13_Value.l1 G F K k l acc i = some (([102, 39] ++ (acc ++ hexes (l.drop i.toNat))) ++ [39]) := by
  intro j
  induction j with
  | zero =>
    intro k acc i hk hi hj ha
    obtain ⟨k, rfl⟩ : ∃ k', k = k' + 1 := ⟨k - 1, by omega⟩
    rw [offshootref13_Value.l1, if_neg (by simp; omega), if_pos (by simp; omega), if_pos (by simp; omega), List.drop_of_length_le (by omega)]
    simp [hexes]
  | succ j ih =>
    intro k acc i hk hi hj ha
    obtain ⟨k, rfl⟩ : ∃ k', k = k' + 1 := ⟨k - 1, by omega⟩
    cases hd : l.drop i.toNat with
    | nil => have := adrop_nil (by omega : 0 ≤ i) hd; omega
    | cons c r =>
      obtain ⟨hlt, hdr, hle⟩ := adrop_lt (by omega : 0 ≤ i) hd
      have := u8_range c
      rw [offshootref13_Value.l1, if_pos (by simp; omega), if_pos ⟨by omega, hlt⟩, bt_at hd, hex_u8, Option.bind_some]
      rw [if_pos (by simp; omega), W_in (by omega) (by omega), ih k _ (i + 1) (by omega) (by omega) (by omega) (by simp; omega), hdr, hexes]
      simp
theorem refcanon_eq (x : Nat) : r01_Canon.f x = some (canonN x : Int) := by
  unfold r01_Canon.f canonN; split <;> rfl
theorem reftext_l1 (K : Nat) : ∀ (k : Nat) (acc v : List UInt8) (i : Int), 0 ≤ i → i ≤ (v.length : Int) → (v.length : Int) ≤ 1000000000 → (acc.length : Int) ≤ 1 + 4 * i → (v.length : Int) - i < k →
    offshootref13_Text.l1 K k v acc i = some (acc ++ (escL (v.drop i.toNat) ++ [39])) := by
  intro k
  induction k with
  | zero => intro acc v i h0 h1 h2 h3 h4; omega
  | succ k ih =>
    intro acc v i h0 h1 h2 h3 h4
    rw [offshootref13_Text.l1]
    have w1 : IntKind.wrap .i64 (i + 1) = i + 1 := W_in (by omega) (by omega)
    cases hd : v.drop i.toNat with
    | nil =>
      have := adrop_nil h0 hd
      rw [if_neg (by simp; omega), if_pos (by simp; omega)]; rfl
    | cons c r =>
      obtain ⟨hlt, hdr, hle⟩ := adrop_lt h0 hd
      have hc := u8_range c
      have h39 : c = 39 ↔ ((c.toNat : Int) = 39) := u8_eq' c 39 (by omega)
      have h92 : c = 92 ↔ ((c.toNat : Int) = 92) := u8_eq' c 92 (by omega)
      rw [if_pos (by simpa using hlt), if_pos ⟨h0, hlt⟩, bt_at hd, escL, escS]
      have hsl : List.take ((i + 1).toNat - i.toNat) (List.drop i.toNat v) = [c] := by
        rw [hd, show (i + 1).toNat - i.toNat = 1 from by omega]; rfl
      have hj2 : ∀ acc' : List UInt8, (acc'.length : Int) ≤ 2 + 4 * i → ((c.toNat : Int) < 32 ∨ 126 < (c.toNat : Int) → (acc'.length : Int) ≤ 1 + 4 * i) → offshootref13_Text.j2 (offshootref13_Text.l1 K k) K v acc' i (c.toNat : Int) = some ((acc' ++ (if (c.toNat : Int) < 32 ∨ 126 < (c.toNat : Int) then [92, 120, hexdig (c.toNat / 16), hexdig (c.toNat % 16)] else [c])) ++ (escL r ++ [39])) := by
        intro acc' ha ha2
        unfold offshootref13_Text.j2 offshootref13_Text.j1
        by_cases e2 : (c.toNat : Int) < 32 ∨ 126 < (c.toNat : Int)
        · have := ha2 e2
          rw [if_pos (by simpa using e2), hex_u8, Option.bind_some]
          rw [if_pos (by simp), if_pos (by simp; omega), w1, ih _ v (i + 1) (by omega) (by omega) h2 (by simp; omega) (by omega), hdr, if_pos e2]
          simp
        · rw [if_neg (by simpa using e2), w1, if_pos (by omega), hsl, if_pos (by simp; omega), ih _ v (i + 1) (by omega) (by omega) h2 (by simp; omega) (by omega), hdr, if_neg e2]
      by_cases e1 : (c.toNat : Int) = 39 ∨ (c.toNat : Int) = 92
      · have p39 : c = 39 ∨ c = 92 := by rw [h39, h92]; exact e1
        have e2 : ¬ ((c.toNat : Int) < 32 ∨ 126 < (c.toNat : Int)) := by omega
        rw [if_pos (by simpa using e1), if_pos (by simp; omega), hj2 _ (by simp; omega) (fun h => absurd h e2), if_pos p39, if_neg e2]
        simp
      · have n39 : ¬ (c = 39 ∨ c = 92) := by rw [h39, h92]; exact e1
        rw [if_neg (by simpa using e1), hj2 _ (by omega) (fun _ => h3), if_neg n39]
        simp
theorem reftext_eq (K : Nat) (s : List UInt8) (h : s.length ≤ 1000000000) (hK : s.length < K) : offshootref13_Text.f K s = some (textT s) := by
  unfold offshootref13_Text.f
  rw [reftext_l1 K K _ s 0 (by omega) (by omega) (by omega) (by simp) (by omega)]
  rfl
theorem refflt_eq (G : List ApiValue → Option (List UInt8)) (F : ApiValue → Option (List UInt8)) (K : Nat) (hK : 20 < K) (x : Nat) (h : x < 18446744073709551616) :
    (Option.bind (r01_Canon.f x) fun t2 => (Option.bind (r02_Eight.f K t2) fun t3 => offshootref13_Value.l1 G F K K t3 ([] : List UInt8) 0)) = some (floatT x) := by
  rw [refcanon_eq]
  simp only [Option.bind_some]
  unfold r02_Eight.f
  rw [eight_l1 K 8 K (canonN x) [] 0 (by omega) (by omega) (by omega) (canonN_lt x h) (by simp)]
  simp only [Option.bind_some, List.append_nil]
  rw [refflt_l1 G F K _ (bytesh_len 8 _) 8 K [] 0 (by omega) (by omega) (by omega) (by simp), show Int.toNat 0 = 0 from rfl, List.drop_zero, hexes_bytesh, List.nil_append]
  rfl
theorem refvals_l1 (G : List ApiValue → Option (List UInt8)) (F : ApiValue → Option (List UInt8)) (K : Nat) (L : List ApiValue) (hF : ∀ x ∈ L, F x = some (valT x)) (hL : (L.length : Int) ≤ 1099511627776) : ∀ (k : Nat) (acc : List UInt8) (i : Int), 0 < i → i ≤ (L.length : Int) → (acc.length + (commaTail (valsT (L.drop i.toNat))).length ≤ 1099511627776) → (L.length : Int) - i < k →
    offshootref13_Values.l1 G F K k L acc i = some (acc ++ commaTail (valsT (L.drop i.toNat))) := by
  intro k
  induction k with
  | zero => intro acc i h0 h1 h2 h3; omega
  | succ k ih =>
    intro acc i h0 h1 h2 h3
    rw [offshootref13_Values.l1]
    cases hd : L.drop i.toNat with
    | nil =>
      have := adrop_nil (by omega : 0 ≤ i) hd
      rw [if_neg (by simp; omega)]
      simp [valsT, commaTail]
    | cons x r =>
      obtain ⟨hlt, hdr, hle⟩ := adrop_lt (by omega : 0 ≤ i) hd
      have hx : x ∈ L := List.mem_of_mem_drop (by rw [hd]; simp)
      have hct : commaTail (valsT (x :: r)) = [44, 32] ++ (valT x ++ commaTail (valsT r)) := by simp [valsT, commaTail]
      rw [hd, hct] at h2
      simp only [List.length_append, List.length_cons, List.length_nil] at h2
      rw [if_pos (by simpa using hlt), if_pos (by simpa using h0), if_pos (by simp; omega)]
      unfold offshootref13_Values.j1
      rw [if_pos ⟨by omega, hlt⟩, getD_drop hd, hF x hx]
      simp only [Option.bind_some]
      rw [if_pos (by simp; omega), W_in (by omega) (by omega), ih _ (i + 1) (by omega) (by omega) (by rw [hdr]; simp; omega) (by omega), hdr, hct]
      simp
theorem refvals_eq (G : List ApiValue → Option (List UInt8)) (F : ApiValue → Option (List UInt8)) (K : Nat) (L : List ApiValue) (hF : ∀ x ∈ L, F x = some (valT x)) (hL : (L.length : Int) ≤ 1099511627776) (hc : (commas (valsT L)).length ≤ 1099511627776) (hK : L.length + 1 < K) :
    offshootref13_Values.l1 G F K K L [] 0 = some (commas (valsT L)) := by
  obtain ⟨k, hk⟩ : ∃ k, K = k + 1 := ⟨K - 1, by omega⟩
  refine (fun (h : ∀ X, X = k + 1 → offshootref13_Values.l1 G F K X L [] 0 = _) => h K hk) ?_
  rintro _ rfl
  rw [offshootref13_Values.l1]
  cases L with
  | nil => simp [valsT, commas]
  | cons x r =>
    rw [valsT, commas_tail] at hc
    simp only [List.length_append] at hc
    simp only [List.length_cons] at hL hK
    rw [if_pos (by simp), if_neg (by simp)]
    unfold offshootref13_Values.j1
    rw [if_pos (by simp), show List.getD (x :: r) (Int.toNat 0) default = x from rfl, hF x (by simp)]
    simp only [Option.bind_some]
    rw [if_pos (by simp; omega), W_in (by omega) (by omega), refvals_l1 G F K (x :: r) hF (by simpa using hL) k _ (0 + 1) (by omega) (by simp; omega) (by simp; omega) (by simp; omega), valsT, commas_tail]
    simp
theorem refV : ∀ (n : Nat), n ≤ 1099511627776 → ∀ (v : ApiValue) (K : Nat), ValW v → (valT v).length ≤ n → n + 40 < K → offshootref13_Value.f K v = some (valT v) := by
  intro n
  induction n using Nat.strongRecOn with
  | _ n ih =>
    intro hn v K hv hl hK
    obtain ⟨K, rfl⟩ : ∃ K', K = K' + 1 + 1 := ⟨K - 2, by omega⟩
    have hv0 := hv
    obtain ⟨k, b, m, f, s, l⟩ := v
    simp only [ValW] at hv
    obtain ⟨h1, h2, h3, h4⟩ := hv
    have hnum := refnum_eq (K + 1) (by omega) m h1
    have hnl := numS_len m h1
    have hjoin : (commas (valsT l)).length + 2 ≤ n → offshootref13_Values.f (K + 1) l = some (commas (valsT l)) := by
      intro hc
      rw [offshootref13_Values.f, offshootref13_Values.b]
      have hmem : ∀ x ∈ l, (valT x).length ≤ (commas (valsT l)).length := by
        intro x hx
        refine commas_len _ _ ?_
        rw [valsT_map]; exact List.mem_map.2 ⟨x, hx, rfl⟩
      have hcount : l.length ≤ (commas (valsT l)).length := by
        have := commas_count (valsT l) (by
          intro x hx
          rw [valsT_map] at hx
          obtain ⟨y, hy, rfl⟩ := List.mem_map.1 hx
          exact valT_pos y (valsW_mem l h4 y hy))
        rw [valsT_map, List.length_map] at this
        rw [valsT_map]; exact this
      exact refvals_eq _ _ K l (fun x hx => ih (n - 2) (by omega) (by omega) x K (valsW_mem l h4 x hx) (by have := hmem x hx; omega) (by omega)) (by omega) (by omega) (by omega)
    rw [offshootref13_Value.f, offshootref13_Value.b]
    rw [valT] at hl ⊢
    apply Sat.get
    have hite : ∀ {α : Type} (p : Prop) [Decidable p] (x y : α), (if decide p = true then x else y) = if p then x else y := by
      intro α p _ x y; by_cases h : p <;> simp [h]
    simp only [hite]
    by_cases k0 : k = 0
    · rw [if_pos k0, if_pos k0]; exact Sat.some rfl
    rw [if_neg k0] at hl ⊢; rw [if_neg k0]
    by_cases k1 : k = 1
    · rw [if_pos k1, if_pos k1]; cases b <;> exact Sat.some rfl
    rw [if_neg k1] at hl ⊢; rw [if_neg k1]
    by_cases k2 : k = 2
    · rw [if_pos k2, if_pos k2]; exact Sat.bindE hnum (Sat.some rfl)
    rw [if_neg k2] at hl ⊢; rw [if_neg k2]
    by_cases k3 : k = 3
    · rw [if_pos k3, if_pos k3]; exact Sat.eq (refflt_eq _ _ (K + 1) (by omega) f h2) rfl
    rw [if_neg k3] at hl ⊢; rw [if_neg k3]
    by_cases k4 : k = 4
    · rw [if_pos k4] at hl
      rw [if_pos k4, if_pos k4]
      have := escL_ge s
      exact Sat.bindE (reftext_eq (K + 1) s h3 (by simp [textT] at hl; omega)) (Sat.some rfl)
    rw [if_neg k4] at hl ⊢; rw [if_neg k4]
    by_cases k5 : k = 5
    · rw [if_pos k5] at hl
      rw [if_pos k5, if_pos k5]
      simp only [List.length_append, List.length_cons, List.length_nil] at hl
      refine Sat.bindE (hjoin (by omega)) ?_
      refine Sat.chk (by simp only [List.length_cons, List.length_nil]; omega) ?_
      refine Sat.chk (by simp only [List.length_append, List.length_cons, List.length_nil]; omega) (Sat.some rfl)
    rw [if_neg k5] at hl ⊢; rw [if_neg k5]
    by_cases k6 : k = 6
    · rw [if_pos k6] at hl
      rw [if_pos k6, if_pos k6]
      simp only [List.length_append, List.length_cons, List.length_nil] at hl
      refine Sat.bindE (hjoin (by omega)) ?_
      refine Sat.chk (by simp only [List.length_cons, List.length_nil]; omega) ?_
      refine Sat.chk (by simp only [List.length_append, List.length_cons, List.length_nil]; omega) (Sat.some rfl)
    rw [if_neg k6] at hl ⊢; rw [if_neg k6]
    by_cases k7 : k = 7
    · rw [if_pos k7, if_pos k7]
      refine Sat.bindE hnum ?_
      refine Sat.chk (by simp only [List.length_cons, List.length_nil]; omega) ?_
      refine Sat.chk (by simp only [List.length_append, List.length_cons, List.length_nil]; omega) (Sat.some rfl)
    rw [if_neg k7] at hl ⊢; rw [if_neg k7]
    by_cases k8 : k = 8
    · rw [if_pos k8, if_pos k8]
      refine Sat.bindE hnum ?_
      refine Sat.chk (by simp only [List.length_cons, List.length_nil]; omega) ?_
      refine Sat.chk (by simp only [List.length_append, List.length_cons, List.length_nil]; omega) (Sat.some rfl)
    rw [if_neg k8, if_neg k8]
    exact Sat.some rfl
end Go.Proofs.Ytbjbgodcenopnaa
namespace Go.Proofs.Ytbjbgodcenopnaa
set_option linter.unusedVariables false
set_option linter.unusedSectionVars false
mutual
def OkV : ApiValue → Prop
  | ⟨k, _, n, f, s, l⟩ => (Lit.int .i64 k).wf = true ∧ (Lit.int .i64 n).wf = true ∧ (Lit.float .f64 f).wf = true ∧ s.length ≤ maxLen ∧ l.length ≤ maxLen ∧ OkVL l
def OkVL : List ApiValue → Prop
  | [] => True
  | x :: r => OkV x ∧ OkVL r
end
end Go.Proofs.Ytbjbgodcenopnaa
namespace Go.Proofs.Ytbjbgodcenopnaa
set_option linter.unusedVariables false
set_option maxHeartbeats 1000000
mutual
def SmV : ApiValue → Prop
  | ⟨_, _, _, _, s, l⟩ => s.length ≤ 500 ∧ l.length ≤ 1000 ∧ SmL l
def SmL : List ApiValue → Prop
  | [] => True
  | x :: r => SmV x ∧ SmL r
end
theorem SmV.one {v : ApiValue} (h : SmV v) : v.S.length ≤ 500 ∧ v.L.length ≤ 1000 ∧ SmL v.L := by
  cases v
  simpa only [SmV] using h
theorem okVL_get : ∀ (l : List ApiValue) (j : Nat), OkVL l → j < l.length → OkV (l.getD j default)
  | [], j, _, h => by simp at h
  | x :: r, 0, h, _ => by simp only [OkVL] at h; exact h.1
  | x :: r, j + 1, h, hj => by simp only [OkVL] at h; exact okVL_get r j h.2 (by simpa using hj)
theorem wf64 {x : Int} (h : (Lit.int .i64 x).wf = true) : In64 x := by
  simp only [Lit.wf, Bool.and_eq_true, decide_eq_true_eq] at h
  unfold In64
  exact h
structure Ok1 (v : ApiValue) : Prop where
  k : In64 v.Kind
  n : In64 v.N
  f : (Lit.float .f64 v.F).wf = true
  l : v.L.length ≤ 9223372036854775807
  all : OkVL v.L
theorem OkV.one {v : ApiValue} (h : OkV v) : Ok1 v := by
  cases v
  simp only [OkV] at h
  exact ⟨wf64 h.1, wf64 h.2.1, h.2.2.1, h.2.2.2.2.1, h.2.2.2.2.2⟩
mutual
def szV : ApiValue → Nat
  | ⟨_, _, _, _, _, L⟩ => 1 + szVL L
def szVL : List ApiValue → Nat
  | [] => 0
  | x :: r => szV x + szVL r
end
theorem szV_eq (y : ApiValue) : szV y = 1 + szVL y.L := by cases y; simp [szV]
theorem szVL_get : ∀ (l : List ApiValue) (j : Nat), j < l.length → szV (l.getD j default) ≤ szVL l
  | [], j, h => by simp at h
  | x :: r, 0, h => by simp only [szVL, List.getD_cons_zero]; omega
  | x :: r, j + 1, h => by have := szVL_get r j (by simpa using h); simp only [szVL, List.getD_cons_succ]; omega
end Go.Proofs.Ytbjbgodcenopnaa
namespace Go.Proofs.Ytbjbgodcenopnaa
set_option linter.unusedVariables false
set_option maxHeartbeats 1000000
mutual
def GdV : ApiValue → Prop
  | ⟨k, b, n, f, s, l⟩ => 0 ≤ k ∧ k ≤ 8 ∧ (b = true → k = 1) ∧ (n ≠ 0 → k = 2 ∨ k = 7 ∨ k = 8) ∧ (k = 7 ∨ k = 8 → 1 ≤ n) ∧ (k ≠ 3 → f = 0) ∧ (s ≠ [] → k = 4) ∧ (l ≠ [] → k = 5 ∨ k = 6) ∧ s.length ≤ 500 ∧ l.length ≤ 1000 ∧ GdL l
def GdL : List ApiValue → Prop
  | [] => True
  | x :: r => GdV x ∧ GdL r
end
structure Gd1 (v : ApiValue) : Prop where
  k0 : 0 ≤ v.Kind
  k8 : v.Kind ≤ 8
  b : v.B = true → v.Kind = 1
  n : v.N ≠ 0 → v.Kind = 2 ∨ v.Kind = 7 ∨ v.Kind = 8
  id : v.Kind = 7 ∨ v.Kind = 8 → 1 ≤ v.N
  f : v.Kind ≠ 3 → v.F = 0
  s : v.S ≠ [] → v.Kind = 4
  l : v.L ≠ [] → v.Kind = 5 ∨ v.Kind = 6
  s500 : v.S.length ≤ 500
  l1000 : v.L.length ≤ 1000
  all : GdL v.L
theorem GdV.one {v : ApiValue} (h : GdV v) : Gd1 v := by
  cases v
  simp only [GdV] at h
  obtain ⟨a, b, c, d, e, f, g, i, j, k, l⟩ := h
  exact ⟨a, b, c, d, e, f, g, i, j, k, l⟩
end Go.Proofs.Ytbjbgodcenopnaa
namespace Go.Proofs.Ytbjbgodcenopnaa
set_option linter.unusedVariables false
set_option maxHeartbeats 1000000
theorem wff {f : Nat} (h : (Lit.float .f64 f).wf = true) : f < 18446744073709551616 := by
  simpa [Lit.wf] using h
mutual
theorem gd_valw : ∀ v : ApiValue, GdV v → OkV v → ValW v
  | ⟨k, b, n, f, s, l⟩, h, ho => by
    simp only [GdV] at h
    simp only [OkV] at ho
    simp only [ValW]
    refine ⟨wf64 ho.2.1, wff ho.2.2.1, ?_, gdL_valw l h.2.2.2.2.2.2.2.2.2.2 ho.2.2.2.2.2⟩
    have := h.2.2.2.2.2.2.2.2.1
    omega
theorem gdL_valw : ∀ l : List ApiValue, GdL l → OkVL l → ValsW l
  | [], _, _ => by simp [ValsW]
  | x :: r, h, ho => by
    simp only [GdL] at h
    simp only [OkVL] at ho
    simp only [ValsW]
    exact ⟨gd_valw x h.1 ho.1, gdL_valw r h.2 ho.2⟩
end
end Go.Proofs.Ytbjbgodcenopnaa
namespace Go.Proofs.Ytbjbgodcenopnaa
set_option linter.unusedVariables false
set_option maxHeartbeats 1000000
mutual
def cvV : ApiValue → ApiValue
  | ⟨k, b, n, f, s, l⟩ => ⟨k, b, n, canonN f, s, cvL l⟩
def cvL : List ApiValue → List ApiValue
  | [] => []
  | x :: r => cvV x :: cvL r
end
theorem canon_twice (f : Nat) : canonN (canonN f) = canonN f := by
  unfold canonN
  by_cases h : FW.fneq f f = true
  · rw [if_pos h]; decide +kernel
  · rw [if_neg h, if_neg h]
end Go.Proofs.Ytbjbgodcenopnaa
namespace Go.Proofs.Ytbjbgodcenopnaa
set_option linter.unusedVariables false
set_option maxHeartbeats 1000000
theorem bt_head (c : UInt8) (r : List UInt8) : FW.bt (c :: r) 0 = (c.toNat : Int) := bt_at (r := r) rfl
theorem one_sign (K : Nat) (r : List UInt8) (c : UInt8) (hc : c = 46 ∨ c = 40 ∨ c = 41 ∨ c = 44 ∨ c = 91 ∨ c = 93) : r11_one.f K (c :: r) = some (⟨5, [c], 0, 0, 0⟩, 1) := by
  have hb := bt_head c r
  unfold r11_one.f
  rw [if_pos ⟨by omega, by simp⟩, hb]
  rcases hc with rfl | rfl | rfl | rfl | rfl | rfl <;> (simp [r11_letter.f]; try omega)
theorem one_l3_eq (K : Nat) (s : List UInt8) (hs : (s.length : Int) ≤ 3000) : ∀ (tok : List UInt8) (k : Nat) (i : Int) (d : UInt8) (r : List UInt8), 0 ≤ i → s.drop i.toNat = tok ++ d :: r → (∀ c ∈ tok, isLet c = true) → isLet d = false → i + tok.length ≤ 16 → tok.length < k →
    r11_one.l3 K k s i = some (⟨1, s.take (i + tok.length).toNat, 0, 0, 0⟩, i + tok.length) := by
  intro tok
  induction tok with
  | nil =>
    intro k i d r h0 h1 h2 h3 h4 h5
    obtain ⟨k, rfl⟩ : ∃ q, k = q + 1 := ⟨k - 1, by simp at h5; omega⟩
    rw [List.nil_append] at h1
    obtain ⟨hlt, hdr, hlen⟩ := drop_lt h0 h1
    simp only [List.length_nil, Int.add_zero, Int.cast_ofNat_Int] at h4 ⊢
    rw [r11_one.l3, if_pos (fun _ => ⟨h0, hlt⟩), if_pos (by simpa using hlt), letter_eq, bt_at h1, Option.bind_some]
    have h3' : (((((decide ((d.toNat : Int) = 95)) || ((decide (97 ≤ (d.toNat : Int))) && (decide ((d.toNat : Int) ≤ 122)))) || ((decide (65 ≤ (d.toNat : Int))) && (decide ((d.toNat : Int) ≤ 90)))) || ((decide (48 ≤ (d.toNat : Int))) && (decide ((d.toNat : Int) ≤ 57))))) = false := h3
    rw [h3', if_neg (by simp), if_neg (by simp; omega), if_pos ⟨h0, by omega⟩]
  | cons c tok ih =>
    intro k i d r h0 h1 h2 h3 h4 h5
    simp only [List.length_cons] at h4 h5
    obtain ⟨k, rfl⟩ : ∃ q, k = q + 1 := ⟨k - 1, by omega⟩
    rw [List.cons_append] at h1
    obtain ⟨hlt, hdr, hlen⟩ := drop_lt h0 h1
    rw [r11_one.l3, if_pos (fun _ => ⟨h0, hlt⟩), if_pos (by simpa using hlt), letter_eq, bt_at h1, Option.bind_some]
    have h3' : (((((decide ((c.toNat : Int) = 95)) || ((decide (97 ≤ (c.toNat : Int))) && (decide ((c.toNat : Int) ≤ 122)))) || ((decide (65 ≤ (c.toNat : Int))) && (decide ((c.toNat : Int) ≤ 90)))) || ((decide (48 ≤ (c.toNat : Int))) && (decide ((c.toNat : Int) ≤ 57))))) = true := h2 c List.mem_cons_self
    rw [h3', if_pos (by simp; omega), W_in (by omega) (by omega), ih k (i + 1) d r (by omega) hdr (fun x hx => h2 x (List.mem_cons_of_mem _ hx)) h3 (by omega) (by omega)]
    rw [show i + 1 + (tok.length : Int) = i + ((c :: tok).length : Int) by simp only [List.length_cons]; omega]
theorem one_name (K : Nat) (hK : 20 < K) (c e : UInt8) (tok : List UInt8) (d : UInt8) (r : List UInt8) (hs : ((c :: (e :: tok ++ d :: r)).length : Int) ≤ 3000) (hc : isLet c = true) (he : isLet e = true) (ht : ∀ x ∈ tok, isLet x = true) (hd : isLet d = false) (hl : tok.length ≤ 14) (h0 : ¬ (c.toNat : Int) = 39 ∧ ¬ (c.toNat : Int) = 45 ∧ ¬ (48 ≤ (c.toNat : Int) ∧ (c.toNat : Int) ≤ 57)) (h39 : ¬ (e.toNat : Int) = 39) :
    r11_one.f K (c :: (e :: tok ++ d :: r)) = some (⟨1, c :: e :: tok, 0, 0, 0⟩, (tok.length : Int) + 2) := by
  have hb := bt_head c (e :: tok ++ d :: r)
  have hb1 : FW.bt (c :: (e :: tok ++ d :: r)) 1 = (e.toNat : Int) := bt_at (r := tok ++ d :: r) rfl
  obtain ⟨a1, a2, a3⟩ := h0
  unfold r11_one.f
  rw [if_pos ⟨by omega, by simp; omega⟩, if_pos (fun _ => ⟨by omega, by simp; omega⟩), hb, hb1]
  rw [if_neg (by simp [h39]), if_neg (by simpa using a1), if_neg (by simp [a2]; omega), letter_eq, Option.bind_some]
  have hc' : (((((decide ((c.toNat : Int) = 95)) || ((decide (97 ≤ (c.toNat : Int))) && (decide ((c.toNat : Int) ≤ 122)))) || ((decide (65 ≤ (c.toNat : Int))) && (decide ((c.toNat : Int) ≤ 90)))) || ((decide (48 ≤ (c.toNat : Int))) && (decide ((c.toNat : Int) ≤ 57))))) = true := hc
  rw [hc', if_pos rfl]
  have := one_l3_eq K (c :: (e :: tok ++ d :: r)) hs (e :: tok) K 1 d r (by omega) rfl (fun x hx => by
    rcases List.mem_cons.1 hx with rfl | hx
    · exact he
    · exact ht x hx) hd (by simp only [List.length_cons]; omega) (by simp only [List.length_cons]; omega)
  rw [this]
  have e1 : (1 + ((e :: tok).length : Int)).toNat = (c :: e :: tok).length := by simp only [List.length_cons]; omega
  have e2 : List.take (c :: e :: tok).length (c :: (e :: tok ++ d :: r)) = c :: e :: tok := List.take_left' (l₁ := c :: e :: tok) rfl
  rw [e1, e2]
  congr 2
  simp only [List.length_cons]; omega
end Go.Proofs.Ytbjbgodcenopnaa
namespace Go.Proofs.Ytbjbgodcenopnaa
set_option linter.unusedVariables false
set_option linter.unusedSimpArgs false
set_option maxHeartbeats 2000000
theorem digit_hex (d : Nat) (h : d < 16) : r11_digit.f ((hexdig d).toNat : Int) = some (d : Int) := by
  have : ∀ d ∈ List.range 16, r11_digit.f ((hexdig d).toNat : Int) = some (d : Int) := by decide +kernel
  exact this d (List.mem_range.mpr h)
theorem toB_snoc (l : List Int) (c : UInt8) : FW.toB (l ++ [(c.toNat : Int)]) = FW.toB l ++ [c] := by simp [FW.toB]
theorem refQ_l1 (K : Nat) : ∀ (v : List UInt8) (R : List UInt8) (k : Nat) (l : List Int) (s : List UInt8) (i : Int), 0 ≤ i → (s.length : Int) ≤ 3000 → s.drop i.toNat = escL v ++ 39 :: R → (l.length : Int) ≤ i → (s.length : Int) - i < k →
    r11_Quoted.l1 K k l s i = some (FW.toB l ++ v, i + (escL v).length + 1) := by
  intro v
  induction v with
  | nil =>
    intro R k l s i h0 hs hd hl hk
    rw [escL, List.nil_append] at hd
    obtain ⟨hlt, hdr, hle⟩ := drop_lt h0 hd
    obtain ⟨k, rfl⟩ : ∃ k', k = k' + 1 := ⟨k - 1, by omega⟩
    have w1 : IntKind.wrap .i64 (i + 1) = i + 1 := W_in (by omega) (by omega)
    have hb := bt_at hd
    rw [show (((39 : UInt8).toNat : Nat) : Int) = 39 from rfl] at hb
    rw [r11_Quoted.l1, if_pos (by simpa using hlt), if_pos ⟨h0, hlt⟩, hb, if_pos (by simp), w1]
    simp [escL]
  | cons c v ih =>
    intro R k l s i h0 hs hd hl hk
    have hc := u8_range c
    have h39 : c = 39 ↔ ((c.toNat : Int) = 39) := u8_eq' c 39 (by omega)
    have h92 : c = 92 ↔ ((c.toNat : Int) = 92) := u8_eq' c 92 (by omega)
    rw [escL, escS] at hd
    have hne : s.drop i.toNat ≠ [] := by
      rw [hd]; simp
    obtain ⟨c0, r0, hd0⟩ : ∃ c0 r0, s.drop i.toNat = c0 :: r0 := by
      cases h : s.drop i.toNat with
      | nil => exact absurd h hne
      | cons a b => exact ⟨a, b, rfl⟩
    obtain ⟨hlt, hdr, hle⟩ := drop_lt h0 hd0
    obtain ⟨k, rfl⟩ : ∃ k', k = k' + 1 := ⟨k - 1, by omega⟩
    have w1 : IntKind.wrap .i64 (i + 1) = i + 1 := W_in (by omega) (by omega)
    have w2 : IntKind.wrap .i64 (i + 2) = i + 2 := W_in (by omega) (by omega)
    have w3 : IntKind.wrap .i64 (i + 3) = i + 3 := W_in (by omega) (by omega)
    have w4 : IntKind.wrap .i64 (i + 4) = i + 4 := W_in (by omega) (by omega)
    rw [r11_Quoted.l1, if_pos (by simpa using hlt), if_pos ⟨h0, hlt⟩, bt_at hd0, w1, w2, w3, w4]
    rw [hd0] at hd
    have b92 : ((92 : UInt8).toNat : Int) = 92 := rfl
    have b120 : ((120 : UInt8).toNat : Int) = 120 := rfl
    by_cases e1 : c = 39 ∨ c = 92
    · rw [if_pos e1] at hd
      simp only [List.cons_append, List.nil_append, List.cons.injEq] at hd
      obtain ⟨rfl, rfl⟩ := hd
      obtain ⟨hlt1, hdr1, hle1⟩ := drop_lt (by omega : 0 ≤ i + 1) hdr
      rw [b92, if_neg (by simp), if_neg (by simp), if_neg (by simp), bt_at hdr, if_pos (by simp; omega), if_pos (by simp; omega), if_pos (by rw [h39, h92] at e1; simp; exact ⟨by omega, e1⟩), if_pos (by omega), if_pos (by simp; omega)]
      rw [ih R k _ s (i + 2) (by omega) hs (by rw [show (i + 2).toNat = (i + 1 + 1).toNat from by omega, hdr1]) (by simp; omega) (by omega), toB_snoc]
      rw [escL, escS, if_pos e1]
      simp; omega
    · rw [if_neg e1] at hd
      by_cases e2 : (c.toNat : Int) < 32 ∨ 126 < (c.toNat : Int)
      · rw [if_pos e2] at hd
        simp only [List.cons_append, List.nil_append, List.cons.injEq] at hd
        obtain ⟨rfl, rfl⟩ := hd
        obtain ⟨hlt1, hdr1, hle1⟩ := drop_lt (by omega : 0 ≤ i + 1) hdr
        obtain ⟨hlt2, hdr2, hle2⟩ := drop_lt (by omega : 0 ≤ i + 1 + 1) hdr1
        obtain ⟨hlt3, hdr3, hle3⟩ := drop_lt (by omega : 0 ≤ i + 1 + 1 + 1) hdr2
        have g1 : FW.bt s (i + 1) = 120 := bt_at hdr
        have g2 : FW.bt s (i + 2) = ((hexdig (c.toNat / 16)).toNat : Int) := by rw [show i + 2 = i + 1 + 1 from by omega]; exact bt_at hdr1
        have g3 : FW.bt s (i + 3) = ((hexdig (c.toNat % 16)).toNat : Int) := by rw [show i + 3 = i + 1 + 1 + 1 from by omega]; exact bt_at hdr2
        have p3 : i + 3 < (s.length : Int) := by omega
        have q3 : decide ((s.length : Int) ≤ i + 3) = false := by simp; omega
        have hcomb : IntKind.wrap .u8 (IntKind.wrap .i64 ((IntKind.wrap .i64 (16 * ((c.toNat / 16 : Nat) : Int))) + ((c.toNat % 16 : Nat) : Int))) = (c.toNat : Int) := by
          rw [W_in (x := 16 * ((c.toNat / 16 : Nat) : Int)) (by omega) (by omega), W_in (by omega) (by omega), W_u8 (by omega) (by omega)]; omega
        have z1 : decide (15 < ((c.toNat / 16 : Nat) : Int)) = false := by simp; omega
        have z2 : decide (15 < ((c.toNat % 16 : Nat) : Int)) = false := by simp; omega
        rw [b92, if_neg (by simp), if_neg (by simp), if_neg (by simp), g1, g2, g3, q3, digit_hex _ (by omega), digit_hex _ (by omega)]
        have x1 : ((0 : Int) ≤ i + 1 ∧ i + 1 < (s.length : Int)) := by omega
        have x2 : ((0 : Int) ≤ i + 2 ∧ i + 2 < (s.length : Int)) := by omega
        have x3 : ((0 : Int) ≤ i + 3 ∧ i + 3 < (s.length : Int)) := by omega
        have x4 : ((l.length + ([((c.toNat : Nat) : Int)] : List Int).length) * 1 ≤ 140737488355328 ∧ l.length + ([((c.toNat : Nat) : Int)] : List Int).length ≤ 140737488355328) := by simp; omega
        apply Sat.get
        refine Sat.chk (fun _ => x1) ?_
        refine Sat.chk (fun _ _ => x1) ?_
        refine Sat.ite (fun h => by simp at h) (fun _ => ?_)
        refine Sat.chk (fun _ => x1) ?_
        refine Sat.chk (fun _ => x2) ?_
        rw [if_pos (by decide)]
        refine Sat.bindE rfl ?_
        refine Sat.chk (fun _ => x3) ?_
        rw [z1, if_pos (by decide)]
        refine Sat.bindE rfl ?_
        rw [z2]
        refine Sat.ite (fun h => by simp at h) (fun _ => ?_)
        refine Sat.chk x2 ?_
        refine Sat.bindE rfl ?_
        refine Sat.chk x3 ?_
        refine Sat.bindE rfl ?_
        rw [hcomb]
        refine Sat.chk x4 ?_
        refine Sat.eq (ih R k _ s (i + 4) (by omega) hs (by rw [show (i + 4).toNat = (i + 1 + 1 + 1 + 1).toNat from by omega, hdr3]) (by simp; omega) (by omega)) ?_
        rw [toB_snoc, escL, escS, if_neg e1, if_pos e2]
        simp; omega
      · rw [if_neg e2] at hd
        simp only [List.cons_append, List.nil_append, List.cons.injEq] at hd
        obtain ⟨rfl, rfl⟩ := hd
        have e3 : ¬ (c0.toNat : Int) = 39 := fun h => e1 (.inl (h39.mpr h))
        have e4 : ¬ (c0.toNat : Int) = 92 := fun h => e1 (.inr (h92.mpr h))
        rw [if_neg (by simpa using e3), if_neg (by simpa using e2), if_pos (by simpa using e4), if_pos (by simp; omega)]
        rw [ih R k _ s (i + 1) (by omega) hs hdr (by simp; omega) (by omega), toB_snoc]
        rw [escL, escS, if_neg e1, if_neg e2]
        simp; omega
theorem quoted_eq (K : Nat) (hK : 5000 < K) (s R : List UInt8) (hs : ((39 :: (escL s ++ 39 :: R)).length : Int) ≤ 3000) : r11_Quoted.f K (39 :: (escL s ++ 39 :: R)) = some (s, ((escL s).length : Int) + 2) := by
  have hb := bt_head 39 (escL s ++ 39 :: R)
  rw [show ((39 : UInt8).toNat : Int) = 39 from rfl] at hb
  unfold r11_Quoted.f
  rw [if_pos (fun _ => ⟨by omega, by simp; omega⟩), hb, if_neg (by simp)]
  rw [refQ_l1 K s R K [] (39 :: (escL s ++ 39 :: R)) 1 (by omega) hs rfl (by simp) (by omega)]
  simp [FW.toB]; omega
theorem one_text (K : Nat) (hK : 5000 < K) (s R : List UInt8) (hs : ((39 :: (escL s ++ 39 :: R)).length : Int) ≤ 3000) (h5 : s.length ≤ 500) : r11_one.f K (39 :: (escL s ++ 39 :: R)) = some (⟨4, s, 0, 0, 0⟩, ((escL s).length : Int) + 2) := by
  have hb := bt_head 39 (escL s ++ 39 :: R)
  rw [show ((39 : UInt8).toNat : Int) = 39 from rfl] at hb
  unfold r11_one.f
  rw [if_pos ⟨by omega, by simp; omega⟩, hb, if_pos (fun e => by simp at e), if_neg (by simp), if_pos (by simp), quoted_eq K hK s R hs, Option.bind_some, if_neg (by simp; omega)]
end Go.Proofs.Ytbjbgodcenopnaa
namespace Go.Proofs.Ytbjbgodcenopnaa
set_option linter.unusedVariables false
set_option linter.unusedSimpArgs false
set_option maxHeartbeats 2000000
def asI (x : Int) : Int × Bool := if -9223372036854775808 ≤ x ∧ x ≤ 9223372036854775807 then (x, true) else (0, false)
theorem asI_in {x : Int} (h : -9223372036854775808 ≤ x ∧ x ≤ 9223372036854775807) : asI x = (x, true) := if_pos h
theorem asI_out {x : Int} (h : ¬ (-9223372036854775808 ≤ x ∧ x ≤ 9223372036854775807)) : asI x = (0, false) := if_neg h
def valS : Int → List UInt8 → Int
  | m, [] => m
  | m, c :: r => valS (m * 10 + ((c.toNat : Int) - 48)) r
def Digits (l : List UInt8) : Prop := ∀ c ∈ l, isDigit c = true
theorem digit_range {c : UInt8} (h : isDigit c = true) : 48 ≤ (c.toNat : Int) ∧ (c.toNat : Int) ≤ 57 := by
  simpa [isDigit] using h
def wholeS (b : Bool) (rest : List UInt8) : Int × Bool :=
  match rest with
  | [] => (0, false)
  | c :: r => if c = 48 ∧ (r ≠ [] ∨ b = true) then (0, false) else asI (sgnI b (valS 0 (c :: r)))
def intS (d : List UInt8) : Int × Bool :=
  match d with
  | [] => (0, false)
  | c :: r => if c = 45 then wholeS true r else wholeS false (c :: r)
def Good (d : List UInt8) : Prop := ∀ c r, d = c :: r → (isDigit c = true ∨ c = 45) ∧ Digits r
theorem pow10_le : ∀ (n : Nat), n ≤ 18 → (10 : Int) ^ n ≤ 1000000000000000000 := by
  intro n h
  have : ∀ n ∈ List.range 19, (10 : Int) ^ n ≤ 1000000000000000000 := by decide
  exact this n (List.mem_range.mpr (by omega))
theorem ref_l1_eq (K : Nat) (b : Bool) : ∀ (k : Nat) (l : List UInt8) (m i : Int), 0 ≤ i → i ≤ (l.length : Int) → (l.length : Int) ≤ 19 → Digits (l.drop i.toNat) → 0 ≤ m → m + 1 ≤ 10 ^ i.toNat → (l.length : Int) - i < k →
    r11_Int.l1 K k b l m i = some (asI (sgnI b (valS m (l.drop i.toNat)))) := by
  intro k
  induction k with
  | zero => intro l m i h0 h1 h2 hd hm hi h3; omega
  | succ k ih =>
    intro l m i h0 h1 h2 hd hm hi h3
    rw [r11_Int.l1]
    have w1 : IntKind.wrap .i64 (i + 1) = i + 1 := W_in (by omega) (by omega)
    cases hdr : l.drop i.toNat with
    | nil =>
      have := drop_nil h0 hdr
      have n1 : ¬ (i < (l.length : Int)) := by omega
      simp only [n1, decide_false, Bool.false_eq_true, if_false, valS]
      have hm2 : m < 18446744073709551616 := by
        have hp : (10 : Int) ^ i.toNat ≤ 10 ^ 19 := by
          have : i.toNat ≤ 19 := by omega
          have h' : ∀ n ∈ List.range 20, (10 : Int) ^ n ≤ 10 ^ 19 := by decide
          exact h' _ (List.mem_range.mpr (by omega))
        have : (10 : Int) ^ 19 = 10000000000000000000 := by decide
        omega
      unfold sgnI
      cases b with
      | true =>
        simp only [Bool.true_and, if_true, decide_eq_true_eq, Bool.not_true, Bool.false_and]
        by_cases hh : m ≤ 9223372036854775808
        · rw [if_pos hh, asI_in (by omega)]
          congr 2
          rw [i64_mod, IntKind.wrap_u64]; omega
        · rw [if_neg hh, asI_out (by omega)]; rfl
      | false =>
        simp only [Bool.false_and, Bool.false_eq_true, if_false, decide_eq_true_eq, Bool.not_false, Bool.true_and]
        by_cases hh : m < 9223372036854775808
        · rw [if_pos hh, asI_in (by omega), W_in (by omega) (by omega)]
        · rw [if_neg hh, asI_out (by omega)]
    | cons c r =>
      obtain ⟨hlt, hdr', hle⟩ := drop_lt h0 hdr
      rw [hdr] at hd
      have hc := digit_range (hd c (by simp))
      have hr : Digits r := fun x hx => hd x (by simp [hx])
      have hp := pow10_le i.toNat (by omega)
      have n1 : ¬ ((c.toNat : Int) < 48) := by omega
      have n2 : ¬ (57 < (c.toNat : Int)) := by omega
      simp only [bt_at hdr, hlt, decide_true, if_true, h0, and_self, implies_true, n1, n2, decide_false, Bool.or_false, Bool.false_eq_true, if_false, w1]
      have e : IntKind.wrap .u64 (IntKind.wrap .u64 (IntKind.wrap .u64 (m * 10) + IntKind.wrap .u64 (c.toNat : Int)) - 48) = m * 10 + ((c.toNat : Int) - 48) := by
        rw [W_u64 (x := m * 10) (by omega) (by omega), W_u64 (x := (c.toNat : Int)) (by omega) (by omega), W_u64 (x := m * 10 + (c.toNat : Int)) (by omega) (by omega), W_u64 (by omega) (by omega)]
        omega
      rw [e, ih l _ (i + 1) (by omega) (by omega) h2 (by rw [hdr']; exact hr) (by omega) (by
        rw [show (i + 1).toNat = i.toNat + 1 from by omega, Int.pow_succ]; omega) (by omega), hdr', valS]
theorem valS_big : ∀ (l : List UInt8) (m : Int), Digits l → 0 ≤ m → m * 10 ^ l.length ≤ valS m l
  | [], m, _, _ => by simp [valS]
  | c :: r, m, h, h0 => by
    have hc := digit_range (h c (by simp))
    have := valS_big r (m * 10 + ((c.toNat : Int) - 48)) (fun x hx => h x (by simp [hx])) (by omega)
    rw [valS]
    refine Int.le_trans ?_ this
    rw [List.length_cons, Int.pow_succ, Int.mul_comm (10 ^ r.length) 10, ← Int.mul_assoc]
    exact Int.mul_le_mul_of_nonneg_right (by omega) (Int.pow_nonneg (by omega))
theorem ref_whole (K : Nat) (hK : 100000 < K) (b : Bool) (rest : List UInt8) (hd : Digits rest) : r11_Int.j1 K b rest = some (wholeS b rest) := by
  unfold r11_Int.j1
  cases rest with
  | nil => simp [wholeS]
  | cons c r =>
    have hbt : FW.bt (c :: r) 0 = (c.toNat : Int) := bt_zero r c
    have h48 : ((c.toNat : Int) = 48) ↔ c = 48 := u8_eq c 48 (by omega)
    rw [if_pos (fun _ => by simp), hbt]
    unfold wholeS
    dsimp only
    have hc := digit_range (hd c (by simp))
    by_cases hh : c = 48 ∧ (r ≠ [] ∨ b = true)
    · rw [if_pos hh, if_pos]
      have : (c.toNat : Int) = 48 := h48.mpr hh.1
      simp only [this, decide_true, Bool.true_and, Bool.or_eq_true, decide_eq_true_eq, List.length_cons]
      rcases hh.2 with h | h
      · right; left
        cases r with
        | nil => exact absurd rfl h
        | cons => simp; omega
      · right; right; exact h
    · rw [if_neg hh]
      by_cases hl : 19 < ((c :: r).length : Int)
      · rw [if_pos (by simp only [hl, decide_true, Bool.or_true, Bool.true_or])]
        have hbig := valS_big r ((c.toNat : Int) - 48) (fun x hx => hd x (by simp [hx])) (by omega)
        have hne : c ≠ 48 := by
          intro h
          apply hh
          refine ⟨h, Or.inl ?_⟩
          rintro rfl
          simp at hl
        have h1 : 1 ≤ (c.toNat : Int) - 48 := by
          have : ¬ (c.toNat : Int) = 48 := fun h => hne (h48.mp h)
          omega
        have hp : (10 : Int) ^ 19 ≤ 10 ^ r.length := by
          simp only [List.length_cons] at hl
          have := Nat.pow_le_pow_right (n := 10) (by omega) (show 19 ≤ r.length by omega)
          exact_mod_cast this
        have h2 : (1 : Int) * 10 ^ r.length ≤ ((c.toNat : Int) - 48) * 10 ^ r.length := Int.mul_le_mul_of_nonneg_right h1 (Int.pow_nonneg (by omega))
        have e19 : (10 : Int) ^ 19 = 10000000000000000000 := by decide
        have e0 : valS 0 (c :: r) = valS ((c.toNat : Int) - 48) r := by rw [valS]; congr 1; omega
        rw [e0]
        unfold sgnI
        rw [asI_out (by split <;> omega)]
      · have n1 : ¬ ((((decide ((c :: r) = ([] : List UInt8))) || (decide (19 < ((c :: r).length : Int)))) || ((decide ((c.toNat : Int) = 48)) && ((decide (1 < ((c :: r).length : Int))) || b))) = true) := by
          intro h
          simp only [Bool.or_eq_true, Bool.and_eq_true, decide_eq_true_eq, h48] at h
          rcases h with (h | h) | ⟨h, h'⟩
          · cases h
          · exact hl h
          · apply hh
            refine ⟨h, ?_⟩
            rcases h' with h' | h'
            · left; rintro rfl; simp at h'
            · exact Or.inr h'
        rw [if_neg n1]
        exact ref_l1_eq K b K (c :: r) 0 0 (by omega) (by omega) (by omega) (by simpa using hd) (by omega) (by simp) (by omega)
theorem ref_eq (K : Nat) (hK : 100000 < K) (d : List UInt8) (h : Good d) : r11_Int.f K d = some (intS d) := by
  unfold r11_Int.f
  cases d with
  | nil =>
    rw [if_pos (by simp)]
    simp only [decide_true, Bool.not_true, Bool.false_and, Bool.false_eq_true, if_false]
    exact (ref_whole K hK _ [] (by intro c hc; cases hc)).trans rfl
  | cons c r =>
    obtain ⟨h1, h2⟩ := h c r rfl
    have hbt : FW.bt (c :: r) 0 = (c.toNat : Int) := bt_zero r c
    have h45 : ((c.toNat : Int) = 45) ↔ c = 45 := u8_eq c 45 (by omega)
    rw [if_pos (fun _ => by simp), hbt]
    unfold intS
    dsimp only
    by_cases c45 : c = 45
    · subst c45
      simp
      exact ⟨by omega, ref_whole K hK _ r h2⟩
    · have : ¬ (c.toNat : Int) = 45 := fun h => c45 (h45.mp h)
      simp only [this, decide_false, Bool.and_false, Bool.false_eq_true, if_false, c45]
      refine ref_whole K hK _ (c :: r) ?_
      intro x hx
      rcases List.mem_cons.mp hx with rfl | hx
      · exact h1.resolve_right c45
      · exact h2 x hx
theorem valS_append : ∀ (a b : List UInt8) (m : Int), valS m (a ++ b) = valS (valS m a) b
  | [], _, _ => rfl
  | c :: r, b, m => by rw [List.cons_append, valS, valS]; exact valS_append r b _
theorem hexdig_ten (d : Nat) (h : d < 10) : ((hexdig d).toNat : Int) = 48 + (d : Int) := by
  have : ∀ d ∈ List.range 10, ((hexdig d).toNat : Int) = 48 + (d : Int) := by decide
  exact this d (List.mem_range.mpr h)
theorem decS_ok : ∀ n : Nat, 0 < n → ∃ c r, decS n = c :: r ∧ Digits (c :: r) ∧ c ≠ 48 ∧ valS 0 (c :: r) = n := by
  intro n
  induction n using Nat.strongRecOn with
  | _ n ih =>
    intro h
    have hd := hexdig_ten (n % 10) (by omega)
    have hdd : isDigit (hexdig (n % 10)) = true := by unfold isDigit; simp only [Bool.and_eq_true, decide_eq_true_eq]; omega
    rw [decS_step (by omega)]
    by_cases hz : n / 10 = 0
    · rw [hz, decS_zero]
      refine ⟨hexdig (n % 10), [], rfl, fun c hc => by simp at hc; rw [hc]; exact hdd, fun e => ?_, ?_⟩
      · rw [e] at hd
        have : ((48 : UInt8).toNat : Int) = 48 := by decide
        omega
      · show (0 : Int) * 10 + (((hexdig (n % 10)).toNat : Int) - 48) = n
        omega
    · obtain ⟨c, r, e, h1, h2, h3⟩ := ih (n / 10) (by omega) (by omega)
      rw [e]
      refine ⟨c, r ++ [hexdig (n % 10)], rfl, fun x hx => ?_, h2, ?_⟩
      · rw [← List.cons_append] at hx
        rcases List.mem_append.1 hx with hx | hx
        · exact h1 x hx
        · simp at hx; rw [hx]; exact hdd
      · rw [← List.cons_append, valS_append, h3]
        show ((n / 10 : Nat) : Int) * 10 + (((hexdig (n % 10)).toNat : Int) - 48) = n
        omega
theorem numS_good (v : Int) (hv : In64 v) : Good (numS v) ∧ intS (numS v) = (v, true) ∧ (numS v).length ≤ 20 ∧ numS v ≠ [] := by
  have hl := numS_len v hv
  refine ⟨?_, ?_, hl.2, fun e => by rw [e] at hl; simp at hl⟩
  · intro c r e
    unfold numS at e
    by_cases hz : v = 0
    · rw [if_pos hz] at e
      simp only [List.cons.injEq] at e
      obtain ⟨rfl, rfl⟩ := e
      exact ⟨Or.inl (by decide), fun c hc => by cases hc⟩
    · obtain ⟨d, q, hd, h1, _, _⟩ := decS_ok v.natAbs (by omega)
      rw [if_neg hz, hd] at e
      by_cases hn : v < 0
      · rw [if_pos hn] at e
        simp only [List.singleton_append, List.cons.injEq] at e
        obtain ⟨rfl, rfl⟩ := e
        exact ⟨Or.inr rfl, h1⟩
      · rw [if_neg hn] at e
        simp only [List.nil_append, List.cons.injEq] at e
        obtain ⟨rfl, rfl⟩ := e
        exact ⟨Or.inl (h1 d (by simp)), fun x hx => h1 x (by simp [hx])⟩
  · unfold numS
    by_cases hz : v = 0
    · subst hz; decide +kernel
    · obtain ⟨d, q, hd, h1, h2, h3⟩ := decS_ok v.natAbs (by omega)
      have hw : ∀ b, sgnI b (v.natAbs : Int) = v → wholeS b (d :: q) = (v, true) := by
        intro b hb
        unfold wholeS
        dsimp only
        rw [if_neg (fun h => h2 h.1), h3, hb]
        exact asI_in hv
      rw [if_neg hz, hd]
      by_cases hn : v < 0
      · rw [if_pos hn]
        exact hw true (by simp [sgnI]; omega)
      · rw [if_neg hn]
        simp only [List.nil_append, intS]
        rw [if_neg (by rintro rfl; exact absurd (h1 45 (by simp)) (by decide))]
        exact hw false (by simp [sgnI]; omega)
theorem one_l2_eq (K : Nat) (s : List UInt8) (hs : (s.length : Int) ≤ 3000) : ∀ (tok : List UInt8) (k : Nat) (i : Int) (d : UInt8) (r : List UInt8), 0 ≤ i → s.drop i.toNat = tok ++ d :: r → Digits tok → isDigit d = false → tok.length < k → ∀ (v : Int), r11_Int.f K (s.take (i + tok.length).toNat) = some (v, true) →
    r11_one.l2 K k s i = some (⟨2, [], v, 0, 0⟩, i + tok.length) := by
  intro tok
  induction tok with
  | nil =>
    intro k i d r h0 h1 h2 h3 h5 v hv
    obtain ⟨k, rfl⟩ : ∃ q, k = q + 1 := ⟨k - 1, by simp at h5; omega⟩
    rw [List.nil_append] at h1
    obtain ⟨hlt, hdr, hlen⟩ := drop_lt h0 h1
    simp only [List.length_nil, Int.add_zero, Int.cast_ofNat_Int] at hv ⊢
    have hd : ¬ (48 ≤ (d.toNat : Int) ∧ (d.toNat : Int) ≤ 57) := by
      intro e
      have : isDigit d = true := by unfold isDigit; simp; omega
      rw [this] at h3; cases h3
    rw [r11_one.l2, if_pos (fun _ => ⟨h0, hlt⟩), if_pos (fun _ => ⟨h0, hlt⟩), bt_at h1, if_neg (by simp; omega), if_pos ⟨h0, by omega⟩, hv, Option.bind_some, if_neg (by simp)]
  | cons c tok ih =>
    intro k i d r h0 h1 h2 h3 h5 v hv
    simp only [List.length_cons] at h5
    obtain ⟨k, rfl⟩ : ∃ q, k = q + 1 := ⟨k - 1, by omega⟩
    rw [List.cons_append] at h1
    obtain ⟨hlt, hdr, hlen⟩ := drop_lt h0 h1
    have hc := digit_range (h2 c List.mem_cons_self)
    have e : i + 1 + (tok.length : Int) = i + ((c :: tok).length : Int) := by simp only [List.length_cons]; omega
    rw [r11_one.l2, if_pos (fun _ => ⟨h0, hlt⟩), if_pos (fun _ => ⟨h0, hlt⟩), bt_at h1, if_pos (by simp; omega), W_in (by omega) (by omega)]
    rw [ih k (i + 1) d r (by omega) hdr (fun x hx => h2 x (List.mem_cons_of_mem _ hx)) h3 (by omega) v (by rw [e]; exact hv), e]
theorem one_int (K : Nat) (hK : 100000 < K) (v : Int) (hv : In64 v) (d : UInt8) (r : List UInt8) (hd : isDigit d = false) (hs : ((numS v ++ d :: r).length : Int) ≤ 3000) : r11_one.f K (numS v ++ d :: r) = some (⟨2, [], v, 0, 0⟩, ((numS v).length : Int)) := by
  obtain ⟨w2, w3, w4, w5⟩ := numS_good v hv
  have hI := ref_eq K hK (numS v) w2
  rw [w3] at hI
  obtain ⟨c, q, hc⟩ : ∃ c q, numS v = c :: q := by
    cases h : numS v with
    | nil => exact absurd h w5
    | cons c q => exact ⟨c, q, rfl⟩
  obtain ⟨g1, g2⟩ := w2 c q hc
  have hl2 := one_l2_eq K (numS v ++ d :: r) hs q K 1 d r (by omega) (by rw [hc]; rfl) g2 hd (by rw [hc] at w4; simp only [List.length_cons] at w4; omega) v (by
    have e : (1 + (q.length : Int)).toNat = (numS v).length := by rw [hc]; simp only [List.length_cons]; omega
    rw [e, List.take_left' rfl]; exact hI)
  rw [hc] at hl2 hs ⊢
  rw [List.cons_append] at hl2 hs ⊢
  have hb := bt_head c (q ++ d :: r)
  have hcr : ((c.toNat : Int) = 45) ∨ (48 ≤ (c.toNat : Int) ∧ (c.toNat : Int) ≤ 57) := by
    rcases g1 with g1 | g1
    · exact .inr (digit_range g1)
    · subst g1; exact .inl rfl
  unfold r11_one.f
  have n102 : decide ((c.toNat : Int) = 102) = false := by simp; omega
  have n39 : decide ((c.toNat : Int) = 39) = false := by simp; omega
  rw [if_pos ⟨by omega, by simp; omega⟩, hb, n102, if_pos (fun e => by simp at e), if_neg (by simp), n39, if_neg (by simp)]
  rw [if_pos (by simp; omega), hl2]
  congr 2
  simp only [List.length_cons]; omega
end Go.Proofs.Ytbjbgodcenopnaa
namespace Go.Proofs.Ytbjbgodcenopnaa
set_option linter.unusedVariables false
set_option maxHeartbeats 2000000
theorem hexdig_plain (d : Nat) (h : d < 16) : 32 ≤ ((hexdig d).toNat : Int) ∧ ((hexdig d).toNat : Int) ≤ 126 ∧ ¬ hexdig d = 39 ∧ ¬ hexdig d = 92 := by
  have : ∀ d ∈ List.range 16, 32 ≤ ((hexdig d).toNat : Int) ∧ ((hexdig d).toNat : Int) ≤ 126 ∧ ¬ hexdig d = 39 ∧ ¬ hexdig d = 92 := by decide
  exact this d (List.mem_range.mpr h)
theorem esc_hexh : ∀ j x, escL (hexh j x) = hexh j x
  | 0, x => by simp [hexh, escL]
  | j + 1, x => by
    obtain ⟨a, b, c, d⟩ := hexdig_plain (x / 16 ^ j % 16) (by omega)
    rw [hexh, escL, esc_hexh j x, escS, if_neg (by simp [c, d]), if_neg (by omega)]
    rfl
theorem oneF_l1 (K : Nat) (t : List UInt8) (ht : t.length = 16) (n : Int) (x : Nat) (hx : x < 18446744073709551616) (hc : canonN x = x) :
    ∀ (j k : Nat) (i : Int) (m : Nat), j < k → i = 16 - (j : Int) → j ≤ 16 → t.drop i.toNat = hexh j x → m * 16 ^ j + x % 16 ^ j = x →
      r11_one.l1 K k t n (m : Int) true i = some (⟨3, [], 0, x, 0⟩, IntKind.wrap .i64 (n + 1)) := by
  intro j
  induction j with
  | zero =>
    intro k i m hk hi hj hd hm
    obtain ⟨k, rfl⟩ : ∃ q, k = q + 1 := ⟨k - 1, by omega⟩
    have hmx : m = x := by simpa [Nat.mod_one] using hm
    subst hmx
    rw [r11_one.l1, if_neg (by simp; omega), if_pos (by simp), Int.toNat_natCast, refcanon_eq, hc, Option.bind_some, if_neg (by simp)]
  | succ j ih =>
    intro k i m hk hi hj hd hm
    obtain ⟨k, rfl⟩ : ∃ q, k = q + 1 := ⟨k - 1, by omega⟩
    rw [hexh] at hd
    obtain ⟨hlt, hdr, hle⟩ := drop_lt (by omega : 0 ≤ i) hd
    have hdg : x / 16 ^ j % 16 < 16 := Nat.mod_lt _ (by omega)
    have hp : 0 < 16 ^ j := Nat.pow_pos (by omega)
    have hmod : x % 16 ^ (j + 1) = x % 16 ^ j + 16 ^ j * (x / 16 ^ j % 16) := Nat.mod_pow_succ
    have hm2 : (m * 16 + x / 16 ^ j % 16) * 16 ^ j + x % 16 ^ j = x := by
      rw [hmod, Nat.pow_succ] at hm
      rw [Nat.add_mul, Nat.mul_assoc, Nat.mul_comm 16 (16 ^ j), Nat.mul_comm (x / 16 ^ j % 16) (16 ^ j)]
      omega
    have hle2 : m * 16 + x / 16 ^ j % 16 ≤ x := by
      refine Nat.le_trans (Nat.le_mul_of_pos_right _ hp) ?_
      omega
    rw [r11_one.l1, if_pos (by simp; omega), if_pos ⟨by omega, hlt⟩, bt_at hd, digit_hex _ hdg, Option.bind_some, if_pos ⟨by omega, hlt⟩, Option.bind_some]
    rw [W_u64 (x := (m : Int) * 16) (by omega) (by omega), W_u64 (x := ((x / 16 ^ j % 16 : Nat) : Int)) (by omega) (by omega), W_u64 (by omega) (by omega), W_in (x := i + 1) (by omega) (by omega)]
    have hdec : decide (((x / 16 ^ j % 16 : Nat) : Int) < 16) = true := by simp; omega
    rw [hdec, show (m : Int) * 16 + ((x / 16 ^ j % 16 : Nat) : Int) = ((m * 16 + x / 16 ^ j % 16 : Nat) : Int) by omega]
    exact ih k (i + 1) _ (by omega) (by omega) (by omega) hdr hm2
theorem one_float (K : Nat) (hK : 5000 < K) (f : Nat) (hf : f < 18446744073709551616) (R : List UInt8) (hs : ((102 :: 39 :: (hexh 16 (canonN f) ++ 39 :: R)).length : Int) ≤ 3000) :
    r11_one.f K (102 :: 39 :: (hexh 16 (canonN f) ++ 39 :: R)) = some (⟨3, [], 0, canonN f, 0⟩, 19) := by
  have hb := bt_head 102 (39 :: (hexh 16 (canonN f) ++ 39 :: R))
  have hb1 : FW.bt (102 :: 39 :: (hexh 16 (canonN f) ++ 39 :: R)) 1 = ((39 : UInt8).toNat : Int) := bt_at (r := hexh 16 (canonN f) ++ 39 :: R) rfl
  rw [show ((102 : UInt8).toNat : Int) = 102 from rfl] at hb
  rw [show ((39 : UInt8).toNat : Int) = 39 from rfl] at hb1
  have hl := hexh_len 16 (canonN f)
  have hq := quoted_eq K hK (hexh 16 (canonN f)) R (by rw [esc_hexh]; simp only [List.length_cons] at hs ⊢; omega)
  rw [esc_hexh] at hq
  unfold r11_one.f
  rw [if_pos ⟨by omega, by simp only [List.length_cons]; omega⟩, if_pos (fun _ => ⟨by omega, by simp only [List.length_cons]; omega⟩), hb, hb1, if_pos (by simp only [List.length_cons, decide_true, Bool.true_and, Bool.and_true, decide_eq_true_eq]; omega), if_pos ⟨by omega, by simp only [List.length_cons]; omega⟩]
  have e1 : List.drop (Int.toNat 1) (102 :: 39 :: (hexh 16 (canonN f) ++ 39 :: R)) = 39 :: (hexh 16 (canonN f) ++ 39 :: R) := rfl
  rw [e1, hq, Option.bind_some]
  dsimp only
  have e2 : ((decide ((0 : Int) < ((hexh 16 (canonN f)).length : Int) + 2)) && (decide (((hexh 16 (canonN f)).length : Int) = 16))) = true := by simp [hl]
  rw [e2]
  have := oneF_l1 K (hexh 16 (canonN f)) hl (((hexh 16 (canonN f)).length : Int) + 2) (canonN f) (canonN_lt f hf) (canon_twice f) 16 K 0 0 (by omega) (by omega) (by omega) rfl (by
    rw [Nat.zero_mul, Nat.zero_add]; exact Nat.mod_eq_of_lt (by have := canonN_lt f hf; omega))
  rw [show ((0 : Nat) : Int) = 0 from rfl] at this
  rw [this, hl, W_in (by omega) (by omega)]
  rfl
theorem one_letter (K : Nat) (hK : 20 < K) (c d : UInt8) (r : List UInt8) (hs : ((c :: d :: r).length : Int) ≤ 3000) (hc : isLet c = true) (hd : isLet d = false) (h0 : ¬ (c.toNat : Int) = 39 ∧ ¬ (c.toNat : Int) = 45 ∧ ¬ (48 ≤ (c.toNat : Int) ∧ (c.toNat : Int) ≤ 57)) (h39 : ¬ (d.toNat : Int) = 39) :
    r11_one.f K (c :: d :: r) = some (⟨1, [c], 0, 0, 0⟩, 1) := by
  have hb := bt_head c (d :: r)
  have hb1 : FW.bt (c :: d :: r) 1 = (d.toNat : Int) := bt_at (r := r) rfl
  obtain ⟨a1, a2, a3⟩ := h0
  unfold r11_one.f
  rw [if_pos ⟨by omega, by simp only [List.length_cons]; omega⟩, if_pos (fun _ => ⟨by omega, by simp only [List.length_cons]; omega⟩), hb, hb1]
  rw [if_neg (by simp [h39]), if_neg (by simpa using a1), if_neg (by simp [a2]; omega), letter_eq, Option.bind_some]
  have hc' : (((((decide ((c.toNat : Int) = 95)) || ((decide (97 ≤ (c.toNat : Int))) && (decide ((c.toNat : Int) ≤ 122)))) || ((decide (65 ≤ (c.toNat : Int))) && (decide ((c.toNat : Int) ≤ 90)))) || ((decide (48 ≤ (c.toNat : Int))) && (decide ((c.toNat : Int) ≤ 57))))) = true := hc
  rw [hc', if_pos rfl, one_l3_eq K (c :: d :: r) hs [] K 1 d r (by omega) rfl (fun x hx => by cases hx) hd (by simp) (by simp; omega)]
  rfl
end Go.Proofs.Ytbjbgodcenopnaa
namespace Go.Proofs.Ytbjbgodcenopnaa
set_option linter.unusedVariables false
set_option maxHeartbeats 2000000
def Like (l : List ApiWord) (t : List ApiWord) : Prop := l.map (fun w => (w.Kind, w.S, w.N, w.F)) = t.map (fun w => (w.Kind, w.S, w.N, w.F))
theorem Like.append {a b c d : List ApiWord} (h : Like a b) (h' : Like c d) : Like (a ++ c) (b ++ d) := by
  unfold Like at *
  rw [List.map_append, List.map_append, h, h']
theorem Like.one (w : ApiWord) (i : Int) : Like [⟨w.Kind, w.S, w.N, w.F, i⟩] [w] := rfl
theorem w11_space (K k : Nat) (acc : List ApiWord) (r : List UInt8) (i : Int) : w11 K (k + 1) acc (32 :: r) i = w11 K k acc r (i + 1) := by
  rw [w11, if_pos (by decide)]
theorem w11_word (K k : Nat) (acc : List ApiWord) (c : UInt8) (r rest : List UInt8) (i : Int) (w : ApiWord) (n : Nat) (h : r11_one.f K (c :: r) = some (w, (n : Int))) (hn : 0 < n) (hr : (c :: r).drop n = rest) (hc : ¬ (c.toNat : Int) = 32) :
    (∃ at_ e, e ≠ 0 ∧ w11 K (k + 1) acc (c :: r) i = some ([], at_, e)) ∨ w11 K (k + 1) acc (c :: r) i = w11 K k (acc ++ [⟨w.Kind, w.S, w.N, w.F, i⟩]) rest (i + n) := by
  rw [w11, if_neg hc, h, Option.bind_some, if_neg (by dsimp only; omega)]
  by_cases h15 : (acc.length : Int) = 1500
  · rw [if_pos h15]; exact .inl ⟨i, 3, by decide, rfl⟩
  · rw [if_neg h15]
    right
    dsimp only
    rw [Int.toNat_natCast, hr]
theorem w11_none (K k : Nat) (acc : List ApiWord) (c : UInt8) (r : List UInt8) (i : Int) (w : ApiWord) (h : r11_one.f K (c :: r) = some (w, 0)) (hc : ¬ (c.toNat : Int) = 32) : ∃ at_ e, e ≠ 0 ∧ w11 K (k + 1) acc (c :: r) i = some ([], at_, e) := by
  rw [w11, if_neg hc, h, Option.bind_some, if_pos rfl]
  exact ⟨i, 110, by decide, rfl⟩
theorem one_brace (K : Nat) (r : List UInt8) : r11_one.f K (123 :: r) = some (⟨0, [], 0, 0, 0⟩, 0) := by
  have hb := bt_head 123 r
  unfold r11_one.f
  rw [if_pos ⟨by omega, by simp⟩, hb]
  simp [r11_letter.f]
end Go.Proofs.Ytbjbgodcenopnaa
namespace Go.Proofs.Ytbjbgodcenopnaa
set_option linter.unusedVariables false
set_option maxHeartbeats 2000000
mutual
def toksV : ApiValue → List ApiWord
  | ⟨k, b, n, f, s, l⟩ =>
    if k = 0 then [⟨1, [110, 117, 108, 108], 0, 0, 0⟩]
    else if k = 1 then (if b = true then [⟨1, [116, 114, 117, 101], 0, 0, 0⟩] else [⟨1, [102, 97, 108, 115, 101], 0, 0, 0⟩])
    else if k = 2 then [⟨2, [], n, 0, 0⟩]
    else if k = 3 then [⟨3, [], 0, canonN f, 0⟩]
    else if k = 4 then [⟨4, s, 0, 0, 0⟩]
    else if k = 5 then [⟨5, [91], 0, 0, 0⟩] ++ (toksL l ++ [⟨5, [93], 0, 0, 0⟩])
    else if k = 7 then [⟨1, [118], 0, 0, 0⟩, ⟨5, [40], 0, 0, 0⟩, ⟨2, [], n, 0, 0⟩, ⟨5, [41], 0, 0, 0⟩]
    else [⟨1, [101], 0, 0, 0⟩, ⟨5, [40], 0, 0, 0⟩, ⟨2, [], n, 0, 0⟩, ⟨5, [41], 0, 0, 0⟩]
def toksL : List ApiValue → List ApiWord
  | [] => []
  | x :: r => toksV x ++ toksTl r
def toksTl : List ApiValue → List ApiWord
  | [] => []
  | x :: r => [⟨5, [44], 0, 0, 0⟩] ++ (toksV x ++ toksTl r)
end
def Lx (K k : Nat) (acc : List ApiWord) (s : List UInt8) (i : Int) (T : List ApiWord) (r : List UInt8) : Prop :=
  (∃ at_ e, e ≠ 0 ∧ w11 K k acc s i = some ([], at_, e)) ∨ ∃ (W : List ApiWord) (k' : Nat) (i' : Int), Like W T ∧ r.length < k' ∧ w11 K k acc s i = w11 K k' (acc ++ W) r i'
theorem Lx.refl {K k : Nat} {acc : List ApiWord} {s : List UInt8} {i : Int} (h : s.length < k) : Lx K k acc s i [] s := .inr ⟨[], k, i, rfl, h, by rw [List.append_nil]⟩
theorem Lx.trans {K k : Nat} {acc : List ApiWord} {s : List UInt8} {i : Int} {T T' : List ApiWord} {r r' : List UInt8} (h : Lx K k acc s i T r) (h' : ∀ (acc' : List ApiWord) (k' : Nat) (i' : Int), r.length < k' → Lx K k' acc' r i' T' r') : Lx K k acc s i (T ++ T') r' := by
  rcases h with h | ⟨W, k', i', h1, h2, h3⟩
  · exact .inl h
  · rcases h' (acc ++ W) k' i' h2 with ⟨at_, e, h4, h5⟩ | ⟨W', k'', i'', h4, h5, h6⟩
    · exact .inl ⟨at_, e, h4, by rw [h3, h5]⟩
    · exact .inr ⟨W ++ W', k'', i'', h1.append h4, h5, by rw [h3, h6, List.append_assoc]⟩
theorem Lx.word {K k : Nat} {acc : List ApiWord} {c : UInt8} {r rest : List UInt8} {i : Int} (w : ApiWord) (n : Nat) (hf : (c :: r).length < k) (h : r11_one.f K (c :: r) = some (w, (n : Int))) (hn : 0 < n) (hr : (c :: r).drop n = rest) (hc : ¬ (c.toNat : Int) = 32) : Lx K k acc (c :: r) i [w] rest := by
  obtain ⟨k, rfl⟩ : ∃ q, k = q + 1 := ⟨k - 1, by omega⟩
  have hl : rest.length < k := by
    rw [← hr, List.length_drop]
    simp only [List.length_cons] at hf ⊢
    omega
  rcases w11_word K k acc c r rest i w n h hn hr hc with h1 | h1
  · exact .inl h1
  · exact .inr ⟨[⟨w.Kind, w.S, w.N, w.F, i⟩], k, i + n, Like.one w i, hl, h1⟩
theorem Lx.space {K k : Nat} {acc : List ApiWord} {r : List UInt8} {i : Int} (hf : (32 :: r : List UInt8).length < k) : Lx K k acc (32 :: r) i [] r := by
  obtain ⟨k, rfl⟩ : ∃ q, k = q + 1 := ⟨k - 1, by omega⟩
  exact .inr ⟨[], k, i + 1, rfl, by simpa using hf, by rw [w11_space, List.append_nil]⟩
theorem Lx.sign {K k : Nat} {acc : List ApiWord} {r : List UInt8} {i : Int} (c : UInt8) (hc : c = 46 ∨ c = 40 ∨ c = 41 ∨ c = 44 ∨ c = 91 ∨ c = 93) (hf : (c :: r).length < k) : Lx K k acc (c :: r) i [⟨5, [c], 0, 0, 0⟩] r :=
  Lx.word ⟨5, [c], 0, 0, 0⟩ 1 hf (one_sign K r c hc) (by decide) rfl (by rcases hc with rfl | rfl | rfl | rfl | rfl | rfl <;> decide)
def Ends (d : UInt8) : Prop := d = 44 ∨ d = 93 ∨ d = 41
theorem Ends.let {d : UInt8} (h : Ends d) : isLet d = false := by rcases h with rfl | rfl | rfl <;> decide
theorem Ends.digit {d : UInt8} (h : Ends d) : isDigit d = false := by rcases h with rfl | rfl | rfl <;> decide
def LexP (K : Nat) (v : ApiValue) : Prop := GdV v → OkV v → ∀ (k : Nat) (acc : List ApiWord) (d : UInt8) (rest : List UInt8) (i : Int), Ends d → ((valT v ++ d :: rest).length : Int) ≤ 3000 → (valT v ++ d :: rest).length < k → Lx K k acc (valT v ++ d :: rest) i (toksV v) (d :: rest)
theorem lexTl (K : Nat) : ∀ (l : List ApiValue), (∀ x ∈ l, LexP K x) → GdL l → OkVL l → ∀ (k : Nat) (acc : List ApiWord) (rest : List UInt8) (i : Int), ((commaTail (valsT l) ++ 93 :: rest).length : Int) ≤ 3000 → (commaTail (valsT l) ++ 93 :: rest).length < k → Lx K k acc (commaTail (valsT l) ++ 93 :: rest) i (toksTl l) (93 :: rest) := by
  intro l
  induction l with
  | nil =>
    intro hm hg ho k acc rest i hs hk
    exact Lx.refl hk
  | cons x r ih =>
    intro hm hg ho k acc rest i hs hk
    simp only [GdL] at hg
    simp only [OkVL] at ho
    have hct : commaTail (valsT (x :: r)) ++ 93 :: rest = 44 :: 32 :: (valT x ++ (commaTail (valsT r) ++ 93 :: rest)) := by simp [valsT, commaTail]
    rw [hct] at hs hk ⊢
    simp only [toksTl]
    obtain ⟨d, q, hd, hq⟩ : ∃ d q, commaTail (valsT r) ++ 93 :: rest = d :: q ∧ Ends d := by
      cases r with
      | nil => exact ⟨93, rest, rfl, .inr (.inl rfl)⟩
      | cons y z => exact ⟨44, 32 :: (valT y ++ (commaTail (valsT z) ++ 93 :: rest)), by simp [valsT, commaTail], .inl rfl⟩
    have hs1 : ((valT x ++ (commaTail (valsT r) ++ 93 :: rest)).length : Int) ≤ 3000 := by simp only [List.length_cons] at hs; omega
    have hs2 : ((commaTail (valsT r) ++ 93 :: rest).length : Int) ≤ 3000 := by rw [List.length_append] at hs1; omega
    refine (Lx.sign 44 (by simp) hk).trans fun acc1 k1 i1 h1 => ?_
    refine (Lx.space h1 : Lx K k1 acc1 _ i1 [] _).trans (T' := toksV x ++ toksTl r) fun acc2 k2 i2 h2 => ?_
    have hx := hm x List.mem_cons_self hg.1 ho.1 k2 acc2 d q i2 hq (by rw [← hd]; exact hs1) (by rw [← hd]; exact h2)
    rw [← hd] at hx
    exact hx.trans fun acc3 k3 i3 h3 => ih (fun y hy => hm y (List.mem_cons_of_mem _ hy)) hg.2 ho.2 k3 acc3 rest i3 hs2 h3
theorem lexV (K : Nat) (hK : 100000 < K) : ∀ (n : Nat) (v : ApiValue), szV v ≤ n → LexP K v := by
  intro n
  induction n with
  | zero => intro v h; have := szV_eq v; omega
  | succ n ih =>
    intro v hz hg ho k acc d rest i hd hs hk
    have hg1 := hg.one
    have ho1 := ho.one
    have hW := gd_valw v hg ho
    obtain ⟨kk, b, m, f, s, l⟩ := v
    simp only [ValW] at hW
    obtain ⟨w1, w2, w3, w4⟩ := hW
    have hdl := hd.let
    have hdd := hd.digit
    have h39 : ¬ (d.toNat : Int) = 39 := by rcases hd with rfl | rfl | rfl <;> decide
    rw [valT] at hs hk ⊢
    rw [toksV]
    by_cases k0 : kk = 0
    · rw [if_pos k0] at hs hk ⊢; rw [if_pos k0]
      exact Lx.word ⟨1, [110, 117, 108, 108], 0, 0, 0⟩ 4 hk (one_name K (by omega) 110 117 [108, 108] d rest hs (by decide) (by decide) (by decide) hdl (by decide) (by decide) (by decide)) (by decide) rfl (by decide)
    rw [if_neg k0] at hs hk ⊢; rw [if_neg k0]
    by_cases k1 : kk = 1
    · rw [if_pos k1] at hs hk ⊢; rw [if_pos k1]
      cases b
      · rw [if_neg (by simp)] at hs hk ⊢; rw [if_neg (by simp)]
        exact Lx.word ⟨1, [102, 97, 108, 115, 101], 0, 0, 0⟩ 5 hk (one_name K (by omega) 102 97 [108, 115, 101] d rest hs (by decide) (by decide) (by decide) hdl (by decide) (by decide) (by decide)) (by decide) rfl (by decide)
      · rw [if_pos rfl] at hs hk ⊢; rw [if_pos rfl]
        exact Lx.word ⟨1, [116, 114, 117, 101], 0, 0, 0⟩ 4 hk (one_name K (by omega) 116 114 [117, 101] d rest hs (by decide) (by decide) (by decide) hdl (by decide) (by decide) (by decide)) (by decide) rfl (by decide)
    rw [if_neg k1] at hs hk ⊢; rw [if_neg k1]
    have num : ∀ (k : Nat) (acc : List ApiWord) (i : Int) (d : UInt8) (rest : List UInt8), isDigit d = false → ((numS m ++ d :: rest).length : Int) ≤ 3000 → (numS m ++ d :: rest).length < k → Lx K k acc (numS m ++ d :: rest) i [⟨2, [], m, 0, 0⟩] (d :: rest) := by
      intro k acc i d rest hdd hs hk
      obtain ⟨q2, q3, q4, q5⟩ := numS_good m w1
      have h1 := one_int K hK m w1 d rest hdd hs
      obtain ⟨c, r, hc⟩ : ∃ c r, numS m = c :: r := by
        cases h : numS m with
        | nil => exact absurd h q5
        | cons c r => exact ⟨c, r, rfl⟩
      have h2 := (q2 c r hc).1
      have h32 : ¬ (c.toNat : Int) = 32 := by
        rcases h2 with h2 | h2
        · have := digit_range h2; omega
        · subst h2; decide
      have hdrop : (numS m ++ d :: rest).drop (numS m).length = d :: rest := List.drop_left
      rw [hc, List.cons_append] at h1 hk hdrop ⊢
      exact Lx.word ⟨2, [], m, 0, 0⟩ (c :: r).length hk h1 (by simp) hdrop h32
    by_cases k2 : kk = 2
    · rw [if_pos k2] at hs hk ⊢; rw [if_pos k2]
      exact num k acc i d rest hdd hs hk
    rw [if_neg k2] at hs hk ⊢; rw [if_neg k2]
    by_cases k3 : kk = 3
    · rw [if_pos k3] at hs hk ⊢; rw [if_pos k3]
      have e : floatT f ++ d :: rest = 102 :: 39 :: (hexh 16 (canonN f) ++ 39 :: (d :: rest)) := by simp [floatT]
      rw [e] at hs hk ⊢
      refine Lx.word ⟨3, [], 0, canonN f, 0⟩ 19 hk (one_float K (by omega) f w2 (d :: rest) hs) (by decide) ?_ (by decide)
      have hl := hexh_len 16 (canonN f)
      have : 102 :: 39 :: (hexh 16 (canonN f) ++ 39 :: (d :: rest)) = (102 :: 39 :: (hexh 16 (canonN f) ++ [39])) ++ (d :: rest) := by simp
      rw [this]
      exact List.drop_left' (by simp [hl])
    rw [if_neg k3] at hs hk ⊢; rw [if_neg k3]
    by_cases k4 : kk = 4
    · rw [if_pos k4] at hs hk ⊢; rw [if_pos k4]
      have e : textT s ++ d :: rest = 39 :: (escL s ++ 39 :: (d :: rest)) := by simp [textT]
      rw [e] at hs hk ⊢
      refine Lx.word ⟨4, s, 0, 0, 0⟩ ((escL s).length + 2) hk (by rw [one_text K (by omega) s (d :: rest) hs hg1.s500]; rfl) (by omega) ?_ (by decide)
      have : 39 :: (escL s ++ 39 :: (d :: rest)) = (39 :: (escL s ++ [39])) ++ (d :: rest) := by simp
      rw [this]
      exact List.drop_left' (by simp)
    rw [if_neg k4] at hs hk ⊢; rw [if_neg k4]
    by_cases k5 : kk = 5
    · rw [if_pos k5] at hs hk ⊢; rw [if_pos k5]
      have hz' := szV_eq ⟨kk, b, m, f, s, l⟩
      have hmem : ∀ x ∈ l, LexP K x := by
        intro x hx
        refine ih x ?_
        obtain ⟨j, hj, hjx⟩ := List.getElem_of_mem hx
        have := szVL_get l j hj
        rw [List.getD_eq_getElem?_getD, List.getElem?_eq_getElem hj, Option.getD_some, hjx] at this
        simp only at hz'
        omega
      have e : [91] ++ commas (valsT l) ++ [93] ++ d :: rest = 91 :: (commas (valsT l) ++ 93 :: (d :: rest)) := by simp
      rw [e] at hs hk ⊢
      refine (Lx.sign 91 (by simp) hk).trans fun acc1 k1 i1 h1 => ?_
      have hs1 : ((commas (valsT l) ++ 93 :: (d :: rest)).length : Int) ≤ 3000 := by simp only [List.length_cons] at hs; omega
      refine Lx.trans (T := toksL l) (r := 93 :: (d :: rest)) ?_ (fun acc2 k2 i2 h2 => Lx.sign 93 (by simp) h2)
      have hgl : GdL l := hg1.all
      have hol : OkVL l := ho1.all
      cases l with
      | nil => exact Lx.refl h1
      | cons x r =>
        simp only [GdL] at hgl
        simp only [OkVL] at hol
        simp only [toksL]
        simp only [valsT] at h1 hs1 ⊢
        rw [commas_tail, List.append_assoc] at h1 hs1 ⊢
        obtain ⟨d', q, hd', hq⟩ : ∃ d' q, commaTail (valsT r) ++ 93 :: (d :: rest) = d' :: q ∧ Ends d' := by
          cases r with
          | nil => exact ⟨93, d :: rest, rfl, .inr (.inl rfl)⟩
          | cons y z => exact ⟨44, 32 :: (valT y ++ (commaTail (valsT z) ++ 93 :: (d :: rest))), by simp [valsT, commaTail], .inl rfl⟩
        have hx := hmem x List.mem_cons_self hgl.1 hol.1 k1 acc1 d' q i1 hq (by rw [← hd']; exact hs1) (by rw [← hd']; exact h1)
        rw [← hd'] at hx
        have hs2 : ((commaTail (valsT r) ++ 93 :: (d :: rest)).length : Int) ≤ 3000 := by rw [List.length_append] at hs1; omega
        exact hx.trans fun acc3 k3 i3 h3 => lexTl K r (fun y hy => hmem y (List.mem_cons_of_mem _ hy)) hgl.2 hol.2 k3 acc3 (d :: rest) i3 hs2 h3
    rw [if_neg k5] at hs hk ⊢; rw [if_neg k5]
    by_cases k6 : kk = 6
    · rw [if_pos k6] at hs hk ⊢
      have e : [123] ++ commas (valsT l) ++ [125] ++ d :: rest = 123 :: (commas (valsT l) ++ 125 :: (d :: rest)) := by simp
      rw [e] at hk ⊢
      obtain ⟨k, rfl⟩ : ∃ q, k = q + 1 := ⟨k - 1, by omega⟩
      exact .inl (w11_none K k acc 123 _ i _ (one_brace K _) (by decide))
    rw [if_neg k6] at hs hk ⊢
    have idt : ∀ c : UInt8, c = 118 ∨ c = 101 → ((c :: 40 :: (numS m ++ 41 :: (d :: rest))).length : Int) ≤ 3000 → (c :: 40 :: (numS m ++ 41 :: (d :: rest))).length < k → Lx K k acc (c :: 40 :: (numS m ++ 41 :: (d :: rest))) i [⟨1, [c], 0, 0, 0⟩, ⟨5, [40], 0, 0, 0⟩, ⟨2, [], m, 0, 0⟩, ⟨5, [41], 0, 0, 0⟩] (d :: rest) := by
      intro c hc hs hk
      have hs1 : ((numS m ++ 41 :: (d :: rest)).length : Int) ≤ 3000 := by simp only [List.length_cons] at hs; omega
      refine Lx.trans (T := [⟨1, [c], 0, 0, 0⟩]) (r := 40 :: (numS m ++ 41 :: (d :: rest))) (Lx.word ⟨1, [c], 0, 0, 0⟩ 1 hk ?_ (by decide) rfl (by rcases hc with rfl | rfl <;> decide)) fun acc1 k1 i1 h1 => ?_
      · exact one_letter K (by omega) c 40 _ hs (by rcases hc with rfl | rfl <;> decide) (by decide) (by rcases hc with rfl | rfl <;> decide) (by decide)
      refine Lx.trans (T := [⟨5, [40], 0, 0, 0⟩]) (Lx.sign 40 (by simp) h1) fun acc2 k2 i2 h2 => ?_
      refine Lx.trans (T := [⟨2, [], m, 0, 0⟩]) (num k2 acc2 i2 41 (d :: rest) (by decide) hs1 h2) fun acc3 k3 i3 h3 => ?_
      exact Lx.sign 41 (by simp) h3
    by_cases k7 : kk = 7
    · rw [if_pos k7] at hs hk ⊢; rw [if_pos k7]
      have e : [118, 40] ++ numS m ++ [41] ++ d :: rest = 118 :: 40 :: (numS m ++ 41 :: (d :: rest)) := by simp
      rw [e] at hs hk ⊢
      exact idt 118 (.inl rfl) hs hk
    rw [if_neg k7] at hs hk ⊢; rw [if_neg k7]
    have k8 : kk = 8 := by
      have h1 := hg1.k0
      have h2 := hg1.k8
      simp only at h1 h2
      omega
    rw [if_pos k8] at hs hk ⊢
    have e : [101, 40] ++ numS m ++ [41] ++ d :: rest = 101 :: 40 :: (numS m ++ 41 :: (d :: rest)) := by simp
    rw [e] at hs hk ⊢
    exact idt 101 (.inr rfl) hs hk
end Go.Proofs.Ytbjbgodcenopnaa
namespace Go.Proofs.Ytbjbgodcenopnaa
set_option linter.unusedVariables false
set_option linter.unusedSimpArgs false
set_option maxHeartbeats 2000000
theorem Like.cons {W : List ApiWord} {t : ApiWord} {T : List ApiWord} (h : Like W (t :: T)) : ∃ w W', W = w :: W' ∧ w.Kind = t.Kind ∧ w.S = t.S ∧ w.N = t.N ∧ w.F = t.F ∧ Like W' T := by
  unfold Like at h
  cases W with
  | nil => simp at h
  | cons w W' =>
    simp only [List.map_cons, List.cons.injEq, Prod.mk.injEq] at h
    exact ⟨w, W', rfl, h.1.1, h.1.2.1, h.1.2.2.1, h.1.2.2.2, h.2⟩
theorem Like.nil {W : List ApiWord} (h : Like W []) : W = [] := by
  unfold Like at h
  simpa using h
theorem Like.split {W T1 T2 : List ApiWord} (h : Like W (T1 ++ T2)) : ∃ W1 W2, W = W1 ++ W2 ∧ Like W1 T1 ∧ Like W2 T2 := by
  unfold Like at h
  rw [List.map_append, List.map_eq_append_iff] at h
  obtain ⟨W1, W2, h1, h2, h3⟩ := h
  exact ⟨W1, W2, h1, h2, h3⟩
section
variable {L : List ApiWord} {i D S A : Int} {w : ApiWord} {r : List ApiWord} {s : St12}
theorem is_at (h0 : 0 ≤ i) (hd : L.drop i.toNat = w :: r) (sg : List UInt8) : p12_is.f ⟨L, i, D, S, A, 0⟩ sg = some (decide (w.Kind = 5) && decide (w.S = sg)) := by
  have h1 := (adrop_lt h0 hd).1
  unfold p12_is.f
  dsimp only
  rw [getD_drop hd, if_pos (fun _ => ⟨h0, h1⟩), if_pos (fun _ => ⟨h0, h1⟩)]
  simp
theorem fail_at (h0 : 0 ≤ i) (hd : L.drop i.toNat = w :: r) (e : Int) : p12_fail.f ⟨L, i, D, S, A, 0⟩ e = some ⟨L, i, D, S, w.At, e⟩ := by
  have h1 := (adrop_lt h0 hd).1
  unfold p12_fail.f p12_fail.j1
  dsimp only
  rw [getD_drop hd, if_pos (by simp), if_pos ⟨h0, h1⟩]
theorem fail_err (he : s.E ≠ 0) (e : Int) : p12_fail.f s e = some s := by
  unfold p12_fail.f p12_fail.j1
  rw [if_neg (by simpa using he)]
theorem sign_err (he : s.E ≠ 0) (sg : List UInt8) : p12_sign.f s sg = some s := by
  unfold p12_sign.f
  rw [if_pos (by simpa using he)]
theorem sign_ok (h0 : 0 ≤ i) (hl : L.length ≤ 5000) (hd : L.drop i.toNat = w :: r) (sg : List UInt8) (hk : w.Kind = 5) (hs : w.S = sg) : p12_sign.f ⟨L, i, D, S, A, 0⟩ sg = some ⟨L, i + 1, D, S, A, 0⟩ := by
  have h1 := (adrop_lt h0 hd).1
  unfold p12_sign.f
  rw [if_neg (by simp), is_at h0 hd, Option.bind_some, hk, hs]
  dsimp only
  rw [if_neg (by simp), W_in (by omega) (by omega)]
theorem into_ok (hD : 0 ≤ D) (h : D < 12) : p12_into.f ⟨L, i, D, S, A, 0⟩ = some ⟨L, i, D + 1, S, A, 0⟩ := by
  unfold p12_into.f
  dsimp only
  rw [if_neg (by simp), if_neg (by simp; omega), W_in (by omega) (by omega)]
theorem into_most (h0 : 0 ≤ i) (hd : L.drop i.toNat = w :: r) (h : 12 ≤ D) : p12_into.f ⟨L, i, D, S, A, 0⟩ = some ⟨L, i, D, S, w.At, 3⟩ := by
  unfold p12_into.f
  dsimp only
  rw [if_neg (by simp), if_pos (by simp; omega), fail_at h0 hd]
  rfl
end
theorem head_of {α : Type} {l : List α} (h : l ≠ []) : ∃ w r, l = w :: r := by
  cases l with
  | nil => exact absurd rfl h
  | cons w r => exact ⟨w, r, rfl⟩
def Took (L : List ApiWord) (i D S A : Int) (n : Nat) (v : ApiValue) (r : St12 × ApiValue × Bool) : Prop :=
  r = (⟨L, i + n, D, S, A, 0⟩, cvV v, true) ∨ r.1.E ≠ 0 ∨ (r.2.2 = false ∧ r.1 = ⟨L, i, D, S, A, 0⟩ ∧ 6 ≤ v.Kind)
def Takes (F : VF) (v : ApiValue) : Prop :=
  ∀ (L : List ApiWord) (i D S A : Int) (W R : List ApiWord), 0 ≤ i → L.length ≤ 5000 → 0 ≤ D → D ≤ 12 → L.drop i.toNat = W ++ R → R ≠ [] → Like W (toksV v) → ∃ r, F ⟨L, i, D, S, A, 0⟩ = some r ∧ Took L i D S A W.length v r
def ErrF (F : VF) : Prop := ∀ s : St12, s.E ≠ 0 → ∃ v, F s = some (s, v, false)
abbrev GF := St12 → List UInt8 → Option (St12 × List ApiValue)
theorem vals_err (F : VF) (G : GF) (K k : Nat) (acc : List ApiValue) (s : St12) (sg : List UInt8) (he : s.E ≠ 0) : p12_values.l1 F G K (k + 1) acc s sg = some (s, acc) := by
  have e : decide (s.E = 0) = false := by simpa using he
  rw [p12_values.l1, e, if_neg (by simp), Option.bind_some, if_neg (by simp), sign_err he, Option.bind_some]
theorem vals_j3 (F : VF) (G : GF) (K : Nat) (sl : List ApiValue → St12 → List UInt8 → Option (St12 × List ApiValue)) (acc : List ApiValue) (v : ApiValue) (s : St12) (sg : List UInt8) (h : acc.length ≤ 3000) :
    p12_values.j3 F G sl K acc v s sg = sl (acc ++ [v]) s sg := by
  unfold p12_values.j3
  rw [if_pos (by simp only [List.length_cons, List.length_nil]; omega)]
theorem vals_step {sg : List UInt8} {F : VF} (G : GF) (K : Nat) {x : ApiValue} (hF : Takes F x) (hE : ErrF F) (sl : List ApiValue → St12 → List UInt8 → Option (St12 × List ApiValue)) (hsl : ∀ acc s, s.E ≠ 0 → sl acc s sg = some (s, acc))
    (acc : List ApiValue) (L : List ApiWord) (i D S A : Int) (W R : List ApiWord) (ha : acc.length ≤ 3000) (h0 : 0 ≤ i) (hl : L.length ≤ 5000) (hD : 0 ≤ D) (hD' : D ≤ 12) (hd : L.drop i.toNat = W ++ R) (hR : R ≠ []) (hW : Like W (toksV x)) :
    (∃ r, p12_values.j1 F G sl K acc ⟨L, i, D, S, A, 0⟩ sg = some r ∧ r.1.E ≠ 0) ∨ p12_values.j1 F G sl K acc ⟨L, i, D, S, A, 0⟩ sg = sl (acc ++ [cvV x]) ⟨L, i + W.length, D, S, A, 0⟩ sg := by
  obtain ⟨w, q, hw⟩ : ∃ w q, W ++ R = w :: q := head_of (by simp [hR])
  rw [hw] at hd
  unfold p12_values.j1
  by_cases h12 : 12 ≤ (acc.length : Int)
  · rw [if_pos (by simpa using h12), fail_at h0 hd, Option.bind_some]
    unfold p12_values.j2
    have h3 : (3 : Int) ≠ 0 := by decide
    obtain ⟨v, hv⟩ := hE ⟨L, i, D, S, w.At, 3⟩ h3
    rw [hv, Option.bind_some, if_pos (by rfl), fail_err (s := ⟨L, i, D, S, w.At, 3⟩) h3, Option.bind_some, vals_j3 F G K sl _ _ _ _ ha, hsl _ _ h3]
    exact .inl ⟨_, rfl, h3⟩
  rw [if_neg (by simpa using h12)]
  unfold p12_values.j2
  obtain ⟨⟨s', v', ok⟩, h1, h2⟩ := hF L i D S A W R h0 hl hD hD' (by rw [hd, hw]) hR hW
  rw [h1, Option.bind_some]
  rcases h2 with h2 | h2 | ⟨h2, h3, h4⟩
  · simp only [Prod.mk.injEq] at h2
    obtain ⟨rfl, rfl, rfl⟩ := h2
    rw [if_neg (by simp), vals_j3 F G K sl _ _ _ _ ha]
    exact .inr rfl
  · dsimp only at h2 ⊢
    cases ok
    · rw [if_pos (by rfl), fail_err h2, Option.bind_some, vals_j3 F G K sl _ _ _ _ ha, hsl _ _ h2]
      exact .inl ⟨_, rfl, h2⟩
    · rw [if_neg (by simp), vals_j3 F G K sl _ _ _ _ ha, hsl _ _ h2]
      exact .inl ⟨_, rfl, h2⟩
  · dsimp only at h2 h3 ⊢
    subst h2
    subst h3
    rw [if_pos (by rfl), fail_at h0 hd, Option.bind_some, vals_j3 F G K sl _ _ _ _ ha, hsl _ _ (by show (120 : Int) ≠ 0; decide)]
    exact .inl ⟨_, rfl, by show (120 : Int) ≠ 0; decide⟩
theorem vals_end {sg : List UInt8} (F : VF) (G : GF) (K k : Nat) (acc : List ApiValue) (L : List ApiWord) (i D S A : Int) (c : ApiWord) (R : List ApiWord) (h0 : 0 ≤ i) (hl : L.length ≤ 5000) (hd : L.drop i.toNat = c :: R) (hc : c.Kind = 5) (hc' : c.S = sg) :
    p12_values.l1 F G K (k + 1) acc ⟨L, i, D, S, A, 0⟩ sg = some (⟨L, i + 1, D, S, A, 0⟩, acc) := by
  rw [p12_values.l1]
  dsimp only
  rw [if_pos (by simp), is_at h0 hd, Option.bind_some, hc, hc', if_neg (by simp), sign_ok h0 hl hd _ hc hc', Option.bind_some]
theorem vals_tl {sg : List UInt8} (hsg : sg = [93] ∨ sg = [41]) {F : VF} (G : GF) (K : Nat) (hE : ErrF F) : ∀ (l : List ApiValue), (∀ x ∈ l, Takes F x) → ∀ (k : Nat) (acc : List ApiValue) (L : List ApiWord) (i D S A : Int) (W : List ApiWord) (c : ApiWord) (R : List ApiWord), l.length + 1 < k → acc ≠ [] → acc.length + l.length ≤ 3000 → 0 ≤ i → L.length ≤ 5000 → 0 ≤ D → D ≤ 12 → L.drop i.toNat = W ++ c :: R → c.Kind = 5 → c.S = sg → Like W (toksTl l) →
    ∃ r, p12_values.l1 F G K k acc ⟨L, i, D, S, A, 0⟩ sg = some r ∧ (r = (⟨L, i + W.length + 1, D, S, A, 0⟩, acc ++ cvL l) ∨ r.1.E ≠ 0) := by
  intro l
  induction l with
  | nil =>
    intro hm k acc L i D S A W c R hk ha hal h0 hl hD hD' hd hc hc' hW
    obtain ⟨k, rfl⟩ : ∃ q, k = q + 1 := ⟨k - 1, by omega⟩
    simp only [toksTl] at hW
    obtain rfl := hW.nil
    rw [vals_end F G K k acc L i D S A c R h0 hl hd hc hc']
    exact ⟨_, rfl, .inl (by simp [cvL])⟩
  | cons x r ih =>
    intro hm k acc L i D S A W c R hk ha hal h0 hl hD hD' hd hc hc' hW
    obtain ⟨k, rfl⟩ : ∃ q, k = q + 1 + 1 := ⟨k - 2, by omega⟩
    simp only [List.length_cons] at hk hal
    simp only [toksTl, List.cons_append, List.nil_append] at hW
    obtain ⟨w, W', rfl, w1, w2, _, _, hW'⟩ := hW.cons
    obtain ⟨W1, W2, rfl, l1, l2⟩ := hW'.split
    rw [List.cons_append, List.append_assoc] at hd
    obtain ⟨hlt, hdr, hle⟩ := adrop_lt h0 hd
    have h44 : ¬ (([44] : List UInt8) = sg) := by rcases hsg with rfl | rfl <;> decide
    rw [p12_values.l1]
    dsimp only
    have hpos : 0 < acc.length := List.length_pos_iff.2 ha
    rw [if_pos (by simp), is_at h0 hd, Option.bind_some, w1, w2, if_pos (by simp [h44]), if_pos (by simp; omega), sign_ok h0 hl hd _ w1 w2, Option.bind_some]
    have hx := vals_step (sg := sg) G K (hm x List.mem_cons_self) hE (p12_values.l1 F G K (k + 1)) (fun acc s he => vals_err F G K k acc s _ he) acc L (i + 1) D S A W1 (W2 ++ c :: R) (by omega) (by omega) hl hD hD' hdr (by simp) l1
    rcases hx with ⟨q, h1, h2⟩ | h1
    · exact ⟨q, h1, .inr h2⟩
    rw [h1]
    have hd2 : L.drop (i + 1 + (W1.length : Int)).toNat = W2 ++ c :: R := by
      rw [show (i + 1 + (W1.length : Int)).toNat = (i + 1).toNat + W1.length from by omega, ← List.drop_drop, hdr, List.drop_left]
    obtain ⟨q, h2, h3⟩ := ih (fun y hy => hm y (List.mem_cons_of_mem _ hy)) (k + 1) (acc ++ [cvV x]) L (i + 1 + W1.length) D S A W2 c R (by omega) (by simp) (by simp; omega) (by omega) hl hD hD' hd2 hc hc' l2
    refine ⟨q, h2, ?_⟩
    rcases h3 with h3 | h3
    · left
      rw [h3]
      simp only [List.length_append, List.length_cons, cvL, List.append_assoc, List.cons_append, List.nil_append, Prod.mk.injEq, St12.mk.injEq, and_true, true_and]
      omega
    · exact .inr h3
theorem toksV_head (v : ApiValue) : ∃ w T, toksV v = w :: T ∧ ¬ (w.Kind = 5 ∧ (w.S = [93] ∨ w.S = [41])) := by
  obtain ⟨k, b, n, f, s, l⟩ := v
  rw [toksV]
  repeat' split
  all_goals exact ⟨_, _, rfl, by simp⟩
theorem vals_first {sg : List UInt8} (hsg : sg = [93] ∨ sg = [41]) {F : VF} (G : GF) (K : Nat) (hE : ErrF F) (l : List ApiValue) (hm : ∀ x ∈ l, Takes F x) (k : Nat) (L : List ApiWord) (i D S A : Int) (W : List ApiWord) (c : ApiWord) (R : List ApiWord) (hk : l.length + 3 < k) (hll : l.length ≤ 2000) (h0 : 0 ≤ i) (hl : L.length ≤ 5000) (hD : 0 ≤ D) (hD' : D ≤ 12) (hd : L.drop i.toNat = W ++ c :: R) (hc : c.Kind = 5) (hc' : c.S = sg) (hW : Like W (toksL l)) :
    ∃ r, p12_values.l1 F G K k [] ⟨L, i, D, S, A, 0⟩ sg = some r ∧ (r = (⟨L, i + W.length + 1, D, S, A, 0⟩, cvL l) ∨ r.1.E ≠ 0) := by
  obtain ⟨k, rfl⟩ : ∃ q, k = q + 1 + 1 := ⟨k - 2, by omega⟩
  cases l with
  | nil =>
    simp only [toksL] at hW
    obtain rfl := hW.nil
    rw [vals_end F G K _ [] L i D S A c R h0 hl hd hc hc']
    exact ⟨_, rfl, .inl (by simp [cvL])⟩
  | cons x r =>
    simp only [toksL] at hW
    simp only [List.length_cons] at hk hll
    obtain ⟨W1, W2, rfl, l1, l2⟩ := hW.split
    rw [List.append_assoc] at hd
    obtain ⟨t, T, ht, hn⟩ := toksV_head x
    rw [ht] at l1
    obtain ⟨w, W', rfl, w1, w2, _, _, hW'⟩ := l1.cons
    have hd0 := hd
    rw [List.cons_append] at hd0
    rw [p12_values.l1]
    dsimp only
    have hb : (decide (w.Kind = 5) && decide (w.S = sg)) = false := by
      rw [w1, w2]
      have := fun e : t.Kind = 5 ∧ t.S = sg => hn ⟨e.1, by rcases hsg with h | h; exact .inl (e.2.trans h); exact .inr (e.2.trans h)⟩
      simpa using this
    rw [if_pos (by simp), is_at h0 hd0, Option.bind_some, hb, if_pos (by simp), if_neg (by simp)]
    rw [← ht] at l1
    have hx := vals_step (sg := sg) G K (hm x List.mem_cons_self) hE (p12_values.l1 F G K (k + 1)) (fun acc s he => vals_err F G K k acc s _ he) [] L i D S A (w :: W') (W2 ++ c :: R) (by simp) h0 hl hD hD' hd (by simp) l1
    rcases hx with ⟨q, h1, h2⟩ | h1
    · exact ⟨q, h1, .inr h2⟩
    rw [h1]
    have hd2 : L.drop (i + ((w :: W').length : Int)).toNat = W2 ++ c :: R := by
      rw [show (i + ((w :: W').length : Int)).toNat = i.toNat + (w :: W').length from by omega, ← List.drop_drop, hd, List.drop_left]
    obtain ⟨q, h2, h3⟩ := vals_tl hsg G K hE r (fun y hy => hm y (List.mem_cons_of_mem _ hy)) (k + 1) ([] ++ [cvV x]) L (i + (w :: W').length) D S A W2 c R (by omega) (by simp) (by simp; omega) (by omega) hl hD hD' hd2 hc hc' l2
    refine ⟨q, h2, ?_⟩
    rcases h3 with h3 | h3
    · left
      rw [h3]
      simp only [List.length_append, List.length_cons, cvL, List.append_assoc, List.cons_append, List.nil_append, Prod.mk.injEq, St12.mk.injEq, and_true, true_and]
      omega
    · exact .inr h3
theorem value_err (K : Nat) : ErrF (p12_value.f (K + 1)) := by
  intro s he
  rw [p12_value.f]
  unfold p12_value.b
  rw [if_pos (by simpa using he)]
  exact ⟨_, rfl⟩
theorem gdL_get : ∀ (l : List ApiValue) (j : Nat), GdL l → j < l.length → GdV (l.getD j default)
  | [], j, _, h => by simp at h
  | x :: r, 0, h, _ => by simp only [GdL] at h; exact h.1
  | x :: r, j + 1, h, hj => by simp only [GdL] at h; exact gdL_get r j h.2 (by simpa using hj)
theorem canon_zero : canonN 0 = 0 := by decide +kernel
theorem value_takes : ∀ (n : Nat) (v : ApiValue) (K : Nat), GdV v → OkV v → szV v ≤ n → 2 * n + 2000 ≤ K → Takes (p12_value.f K) v := by
  intro n
  induction n with
  | zero => intro v K _ _ h; have := szV_eq v; omega
  | succ n ih =>
    intro v K hg ho hz hK L i D S A W R h0 hl hD hD' hd hR hW
    obtain ⟨K, rfl⟩ : ∃ q, K = q + 1 + 1 + 1 := ⟨K - 3, by omega⟩
    have hg1 := hg.one
    have ho1 := ho.one
    obtain ⟨kk, b, m, f, s, l⟩ := v
    have hf0 : kk ≠ 3 → canonN f = 0 := by
      intro h3
      have z1 : f = 0 := hg1.f h3
      rw [z1]; exact canon_zero
    have hb0 : kk ≠ 1 → b = false := by
      intro h1
      cases b
      · rfl
      · exact absurd (hg1.b rfl) h1
    have hn0 : kk ≠ 2 → kk ≠ 7 → kk ≠ 8 → m = 0 := by
      intro h2 h7 h8
      exact Classical.not_not.1 fun e => by
        rcases hg1.n e with h | h | h
        · exact h2 h
        · exact h7 h
        · exact h8 h
    have hs0 : kk ≠ 4 → s = [] := fun h => Classical.not_not.1 fun e => h (hg1.s e)
    have hl0 : kk ≠ 5 → kk ≠ 6 → l = [] := fun h h' => Classical.not_not.1 fun e => (hg1.l e).elim h h'
    obtain ⟨t, T, ht, hn⟩ := toksV_head ⟨kk, b, m, f, s, l⟩
    have hW0 := hW
    rw [ht] at hW
    obtain ⟨w, W', rfl, w1, w2, w3, w4, hW'⟩ := hW.cons
    rw [List.cons_append] at hd
    obtain ⟨hlt, hdr, hle⟩ := adrop_lt h0 hd
    rw [p12_value.f]
    unfold p12_value.b
    dsimp only
    rw [if_neg (by simp), if_pos ⟨h0, hlt⟩, getD_drop hd]
    have one : ∀ (v' : ApiValue), W' = [] → v' = cvV ⟨kk, b, m, f, s, l⟩ → ∃ r, p12_value.j1 (p12_value.f (K + 1 + 1)) (p12_values.f (K + 1 + 1)) (K + 1 + 1) v' ⟨L, i, D, S, A, 0⟩ true = some r ∧ Took L i D S A (w :: W').length ⟨kk, b, m, f, s, l⟩ r := by
      intro v' hW1 hv
      unfold p12_value.j1 p12_value.j2
      dsimp only
      rw [if_pos rfl, W_in (by omega) (by omega)]
      refine ⟨_, rfl, .inl ?_⟩
      rw [hv, hW1]
      simp
    rw [toksV] at ht hW0
    rw [w1, w2]
    by_cases k0 : kk = 0
    · rw [if_pos k0] at ht
      simp only [List.cons.injEq] at ht
      obtain ⟨rfl, rfl⟩ := ht
      dsimp only
      rw [if_neg (by simp), if_neg (by simp), if_neg (by simp), if_neg (by simp), if_neg (by simp), if_pos (by simp)]
      refine one _ hW'.nil ?_
      rw [cvV, hb0 (by omega), hn0 (by omega) (by omega) (by omega), hf0 (by omega), hs0 (by omega), hl0 (by omega) (by omega), k0]
      simp [cvL]
    rw [if_neg k0] at ht hW0
    by_cases k1 : kk = 1
    · rw [if_pos k1] at ht
      have hb : ∀ b', b = b' → (⟨1, b', 0, 0, [], []⟩ : ApiValue) = cvV ⟨kk, b, m, f, s, l⟩ := by
        intro b' hb
        rw [cvV, hn0 (by omega) (by omega) (by omega), hf0 (by omega), hs0 (by omega), hl0 (by omega) (by omega), k1, hb]
        simp [cvL]
      cases b
      · rw [if_neg (by simp)] at ht
        simp only [List.cons.injEq] at ht
        obtain ⟨rfl, rfl⟩ := ht
        dsimp only
        rw [if_neg (by simp), if_neg (by simp), if_neg (by simp), if_neg (by simp), if_pos (by simp)]
        exact one _ hW'.nil (hb _ rfl)
      · rw [if_pos rfl] at ht
        simp only [List.cons.injEq] at ht
        obtain ⟨rfl, rfl⟩ := ht
        dsimp only
        rw [if_neg (by simp), if_neg (by simp), if_neg (by simp), if_pos (by simp)]
        exact one _ hW'.nil (hb _ rfl)
    rw [if_neg k1] at ht hW0
    by_cases k2 : kk = 2
    · rw [if_pos k2] at ht
      simp only [List.cons.injEq] at ht
      obtain ⟨rfl, rfl⟩ := ht
      dsimp only
      rw [if_pos (by simp)]
      refine one _ hW'.nil ?_
      rw [cvV, hb0 (by omega), hf0 (by omega), hs0 (by omega), hl0 (by omega) (by omega), k2, w3]
      simp [cvL]
    rw [if_neg k2] at ht hW0
    by_cases k3 : kk = 3
    · rw [if_pos k3] at ht
      simp only [List.cons.injEq] at ht
      obtain ⟨rfl, rfl⟩ := ht
      dsimp only
      rw [if_neg (by simp), if_pos (by simp)]
      refine one _ hW'.nil ?_
      rw [cvV, hb0 (by omega), hn0 (by omega) (by omega) (by omega), hs0 (by omega), hl0 (by omega) (by omega), k3, w4]
      simp [cvL]
    rw [if_neg k3] at ht hW0
    by_cases k4 : kk = 4
    · rw [if_pos k4] at ht
      simp only [List.cons.injEq] at ht
      obtain ⟨rfl, rfl⟩ := ht
      dsimp only
      rw [if_neg (by simp), if_neg (by simp), if_pos (by simp)]
      refine one _ hW'.nil ?_
      rw [cvV, hb0 (by omega), hn0 (by omega) (by omega) (by omega), hf0 (by omega), hl0 (by omega) (by omega), k4]
      simp [cvL]
    rw [if_neg k4] at ht hW0
    by_cases k5 : kk = 5
    · rw [if_pos k5] at ht hW0
      simp only [List.cons_append, List.nil_append, List.cons.injEq] at ht
      obtain ⟨rfl, rfl⟩ := ht
      dsimp only at w1 w2 ⊢
      obtain ⟨W1, W2, rfl, l1, l2⟩ := hW'.split
      obtain ⟨c, W3, rfl, c1, c2, _, _, l3⟩ := l2.cons
      obtain rfl := l3.nil
      rw [List.append_assoc] at hdr
      obtain ⟨w', q', hw'⟩ := head_of (l := W1 ++ ([c] ++ R)) (by simp)
      rw [if_neg (by simp), if_neg (by simp), if_neg (by simp), if_neg (by simp), if_neg (by simp), if_neg (by simp), is_at h0 hd, Option.bind_some, w1, w2, if_pos (by simp), W_in (by omega) (by omega)]
      by_cases h12 : D < 12
      · rw [into_ok hD h12, Option.bind_some, p12_values.f]
        unfold p12_values.b
        have hz' := szV_eq ⟨kk, b, m, f, s, l⟩
        have hmem : ∀ x ∈ l, Takes (p12_value.f (K + 1)) x := by
          intro x hx
          obtain ⟨j, hj, hjx⟩ := List.getElem_of_mem hx
          have h1 := szVL_get l j hj
          have h2 := okVL_get l j ho1.all hj
          have h3 : GdV (l.getD j default) := gdL_get l j hg1.all hj
          rw [List.getD_eq_getElem?_getD, List.getElem?_eq_getElem hj, Option.getD_some, hjx] at h1 h2 h3
          simp only at hz'
          exact ih x (K + 1) h3 h2 (by omega) (by omega)
        have hll : l.length ≤ 1000 := hg1.l1000
        obtain ⟨⟨s', l'⟩, r1, r2⟩ := vals_first (.inl rfl) (p12_values.f (K + 1)) (K + 1) (value_err K) l hmem (K + 1) L (i + 1) (D + 1) S A W1 c R (by omega) (by omega) (by omega) hl (by omega) (by omega) hdr c1 c2 l1
        rw [r1, Option.bind_some]
        refine ⟨_, rfl, ?_⟩
        rcases r2 with r2 | r2
        · simp only [Prod.mk.injEq] at r2
          obtain ⟨rfl, rfl⟩ := r2
          left
          rw [cvV, hb0 (by omega), hn0 (by omega) (by omega) (by omega), hf0 (by omega), hs0 (by omega), k5]
          simp only [List.length_append, List.length_cons, List.length_nil, Prod.mk.injEq, St12.mk.injEq, and_true, true_and, decide_true]
          omega
        · exact .inr (.inl r2)
      · rw [into_most (by omega) (by rw [hdr, hw']) (by omega), Option.bind_some, p12_values.f]
        unfold p12_values.b
        rw [vals_err _ _ _ _ _ _ _ (by show (3 : Int) ≠ 0; decide), Option.bind_some]
        exact ⟨_, rfl, .inr (.inl (by show (3 : Int) ≠ 0; decide))⟩
    rw [if_neg k5] at ht
    have k6 : 6 ≤ kk := by
      have h1 : 0 ≤ kk := hg1.k0
      omega
    have hn91 : (decide (w.Kind = 5) && decide (w.S = [91])) = false := by
      by_cases k7 : kk = 7
      · rw [if_pos k7] at ht
        simp only [List.cons.injEq] at ht
        obtain ⟨rfl, rfl⟩ := ht
        rw [w1]; rfl
      · rw [if_neg k7] at ht
        simp only [List.cons.injEq] at ht
        obtain ⟨rfl, rfl⟩ := ht
        rw [w1]; rfl
    have last : ∃ r, p12_value.j1 (p12_value.f (K + 1 + 1)) (p12_values.f (K + 1 + 1)) (K + 1 + 1) ⟨0, false, 0, 0, [], []⟩ ⟨L, i, D, S, A, 0⟩ false = some r ∧ Took L i D S A (w :: W').length ⟨kk, b, m, f, s, l⟩ r := by
      unfold p12_value.j1 p12_value.j2
      rw [if_neg (by simp)]
      exact ⟨_, rfl, .inr (.inr ⟨rfl, rfl, k6⟩)⟩
    by_cases k7 : kk = 7
    · rw [if_pos k7] at ht
      simp only [List.cons.injEq] at ht
      obtain ⟨rfl, rfl⟩ := ht
      dsimp only
      rw [if_neg (by simp), if_neg (by simp), if_neg (by simp), if_neg (by simp), if_neg (by simp), if_neg (by simp), is_at h0 hd, Option.bind_some, hn91, if_neg (by simp)]
      exact last
    · rw [if_neg k7] at ht
      simp only [List.cons.injEq] at ht
      obtain ⟨rfl, rfl⟩ := ht
      dsimp only
      rw [if_neg (by simp), if_neg (by simp), if_neg (by simp), if_neg (by simp), if_neg (by simp), if_neg (by simp), is_at h0 hd, Option.bind_some, hn91, if_neg (by simp)]
      exact last
end Go.Proofs.Ytbjbgodcenopnaa
namespace Go.Proofs.Ytbjbgodcenopnaa
set_option linter.unusedVariables false
set_option linter.unusedSimpArgs false
set_option maxHeartbeats 2000000
theorem arg_val (K : Nat) (sF : SF) (aF : AF) (v : ApiValue) (hT : Takes (p12_value.f K) v) (L : List ApiWord) (i D S A : Int) (W R : List ApiWord) (h0 : 0 ≤ i) (hl : L.length ≤ 5000) (hD : 0 ≤ D) (hD' : D ≤ 12) (hd : L.drop i.toNat = W ++ R) (hR : R ≠ []) (hW : Like W (toksV v)) (h6 : v.Kind < 6) :
    ∃ r, p12_arg.b sF aF K ⟨L, i, D, S, A, 0⟩ = some r ∧ (r.1.E ≠ 0 ∨ (r.1 = ⟨L, i + W.length, D, S, A, 0⟩ ∧ r.2 = ⟨1, cvV v, ⟨[], [], []⟩, []⟩)) := by
  obtain ⟨r, h1, h2⟩ := hT L i D S A W R h0 hl hD hD' hd hR hW
  unfold p12_arg.b
  rw [h1, Option.bind_some]
  rcases h2 with rfl | h2 | ⟨h2, h3, h4⟩
  · rw [if_pos (by simp)]
    exact ⟨_, rfl, .inr ⟨rfl, rfl⟩⟩
  · rw [if_pos (by simp [h2])]
    exact ⟨_, rfl, .inl h2⟩
  · omega
end Go.Proofs.Ytbjbgodcenopnaa
namespace Go.Proofs.Ytbjbgodcenopnaa
set_option linter.unusedVariables false
set_option linter.unusedSimpArgs false
set_option maxHeartbeats 2000000
abbrev nBy : List UInt8 := [98, 121]
abbrev nTimes : List UInt8 := [116, 105, 109, 101, 115]
abbrev nUntil : List UInt8 := [117, 110, 116, 105, 108]
abbrev nEmit : List UInt8 := [101, 109, 105, 116]
abbrev nTo : List UInt8 := [116, 111]
abbrev nFrom : List UInt8 := [102, 114, 111, 109]
abbrev nAddE : List UInt8 := [97, 100, 100, 69]
abbrev nRepeat : List UInt8 := [114, 101, 112, 101, 97, 116]
abbrev nOrder : List UInt8 := [111, 114, 100, 101, 114]
def aft (n : List UInt8) : List (List UInt8) :=
  if n = nBy then [nOrder, [103, 114, 111, 117, 112], [103, 114, 111, 117, 112, 67, 111, 117, 110, 116], [100, 101, 100, 117, 112], nBy]
  else if n = nTimes ∨ n = nUntil ∨ n = nEmit then [nRepeat, nTimes, nUntil, nEmit]
  else if n = nTo ∨ n = nFrom then [nAddE, nTo, nFrom] else []
theorem after_eq (n : List UInt8) : check_after.f n = some (aft n) := by
  unfold check_after.f check_after.j1 check_after.j2 aft
  by_cases h1 : n = nBy
  · simp [h1]
  by_cases h2 : n = nTimes
  · simp [h2]
  by_cases h3 : n = nUntil
  · simp [h3]
  by_cases h4 : n = nEmit
  · simp [h4]
  by_cases h5 : n = nTo
  · simp [h5]
  by_cases h6 : n = nFrom
  · simp [h6]
  simp [h1, h2, h3, h4, h5, h6]
theorem aft_cases {n : List UInt8} (h : aft n ≠ []) : n = nBy ∨ n = nTimes ∨ n = nUntil ∨ n = nEmit ∨ n = nTo ∨ n = nFrom := by
  unfold aft at h
  by_cases h1 : n = nBy
  · exact .inl h1
  rw [if_neg h1] at h
  by_cases h2 : n = nTimes ∨ n = nUntil ∨ n = nEmit
  · rcases h2 with h2 | h2 | h2
    · exact .inr (.inl h2)
    · exact .inr (.inr (.inl h2))
    · exact .inr (.inr (.inr (.inl h2)))
  rw [if_neg h2] at h
  by_cases h3 : n = nTo ∨ n = nFrom
  · rcases h3 with h3 | h3
    · exact .inr (.inr (.inr (.inr (.inl h3))))
    · exact .inr (.inr (.inr (.inr (.inr h3))))
  rw [if_neg h3] at h
  exact absurd rfl h
def names57 : List (List UInt8) := [[86], [69], [104, 97, 115, 73, 100], [105, 110, 106, 101, 99, 116], [97, 100, 100, 86], [97, 100, 100, 69], [104, 97, 115, 78, 111, 116], [97, 115], [115, 101, 108, 101, 99, 116], [104, 97, 115], [104, 97, 115, 76, 97, 98, 101, 108], [111, 117, 116], [105, 110], [98, 111, 116, 104], [111, 117, 116, 69], [105, 110, 69], [98, 111, 116, 104, 69], [118, 97, 108, 117, 101, 115], [105, 115], [119, 104, 101, 114, 101], [110, 111, 116], [111, 112, 116, 105, 111, 110, 97, 108], [114, 101, 112, 101, 97, 116], [108, 111, 99, 97, 108], [117, 110, 116, 105, 108], [116, 111], [102, 114, 111, 109], [97, 110, 100], [111, 114], [117, 110, 105, 111, 110], [99, 111, 97, 108, 101, 115, 99, 101], [99, 104, 111, 111, 115, 101], [108, 105, 109, 105, 116], [115, 107, 105, 112], [116, 97, 105, 108], [116, 105, 109, 101, 115], [114, 97, 110, 103, 101], [99, 111, 110, 115, 116, 97, 110, 116], [97, 100, 100], [109, 117, 108], [112, 114, 111, 112, 101, 114, 116, 121], [98, 121], [100, 101, 100, 117, 112], [115, 105, 109, 112, 108, 101, 80, 97, 116, 104], [111, 117, 116, 86], [105, 110, 86], [98, 111, 116, 104, 86], [105, 100], [108, 97, 98, 101, 108], [105, 100, 101, 110, 116, 105, 116, 121], [112, 97, 116, 104], [102, 111, 108, 100], [117, 110, 102, 111, 108, 100], [99, 111, 117, 110, 116], [115, 117, 109], [109, 105, 110], [109, 97, 120], [109, 101, 97, 110], [103, 114, 111, 117, 112], [103, 114, 111, 117, 112, 67, 111, 117, 110, 116], [111, 114, 100, 101, 114], [98, 97, 114, 114, 105, 101, 114], [101, 109, 105, 116], [100, 114, 111, 112]]
def need (n : List UInt8) : Nat :=
  if n = [104, 97, 115] ∨ n = [105, 115] ∨ n = [108, 105, 109, 105, 116] ∨ n = [115, 107, 105, 112] ∨ n = nRepeat ∨ n = nTimes ∨ n = nUntil ∨ n = nTo ∨ n = nFrom then 1 else if n = [112, 114, 111, 112, 101, 114, 116, 121] then 2 else 0
def trv (n : List UInt8) : Bool :=
  decide (n ∈ ([[119, 104, 101, 114, 101], [110, 111, 116], [111, 112, 116, 105, 111, 110, 97, 108], nRepeat, [108, 111, 99, 97, 108], nUntil, nTo, nFrom, [97, 110, 100], [111, 114], [117, 110, 105, 111, 110], [99, 111, 97, 108, 101, 115, 99, 101], [99, 104, 111, 111, 115, 101]] : List (List UInt8)))
def star (form : List UInt8) : Bool := decide (form.length = 2) && decide (FW.bt form 1 = 42)
def formOk (n form : List UInt8) : Bool := (if star form then decide (need n = 0) else decide (need n ≤ form.length)) && (!trv n || (form.all fun c => decide (c = 116)) || decide (form = [116, 42]))
theorem forms_in (n : List UInt8) (h : n ∈ names57) : ∃ fs, check_forms.f n = some fs ∧ fs.length ≤ 10 ∧ (∀ form ∈ fs, formOk n form = true ∧ form.length ≤ 10) := by
  have key : ∀ n ∈ names57, (match check_forms.f n with | some fs => decide (fs.length ≤ 10) && fs.all (fun form => formOk n form && decide (form.length ≤ 10)) | none => false) = true := by decide +kernel
  have := key n h
  split at this
  · rename_i fs hfs
    simp only [Bool.and_eq_true, decide_eq_true_eq, List.all_eq_true] at this
    exact ⟨fs, hfs, this.1, this.2⟩
  · cases this
theorem forms_out (n : List UInt8) (h : n ∉ names57) : check_forms.f n = some [] := by
  simp only [names57, List.mem_cons, List.not_mem_nil, or_false, not_or] at h
  simp [check_forms.f, check_forms.j1, check_forms.j2, check_forms.j3, check_forms.j4, check_forms.j5, check_forms.j6, check_forms.j7, check_forms.j8, h]
theorem name_sat (K : Nat) (hK : 600 < K) (s : List UInt8) (hs : s.length ≤ 500) : Sat (graph_Name.f K s) fun _ => True := by
  have hb : (FW.bytesI s).length = s.length := by simp [FW.bytesI]
  have key : ∀ (k : Nat) (i : Int), 0 ≤ i → i ≤ (s.length : Int) → (s.length : Int) - i < k → Sat (graph_Name.l1 K k s (FW.bytesI s) (List.length (FW.bytesI s) : Int) i) fun _ => True := by
    intro k
    induction k with
    | zero => intro i h0 h1 h2; omega
    | succ k ih =>
      intro i h0 h1 h2
      rw [graph_Name.l1, hb]
      refine Sat.ite (fun h => ?_) (fun _ => Sat.some trivial)
      have hi : i < (s.length : Int) := by simpa using h
      refine Sat.chk ⟨h0, hi⟩ (Sat.ite (fun _ => Sat.some trivial) (fun _ => ?_))
      rw [W_in (by omega) (by omega), ← hb]
      exact ih (i + 1) (by omega) (by omega) (by omega)
  unfold graph_Name.f
  exact key K 0 (by omega) (by omega) (by omega)
theorem Sat.bindT {α β : Type} {P : α → Prop} {F : β → Option α} {p : Prop} [Decidable p] {x : Option β} {d : β} (h : p → Sat x (fun _ => True)) (h1 : ∀ r, Sat (F r) P) : Sat (Option.bind (if p then x else Option.some d) F) P := by
  by_cases hp : p
  · rw [if_pos hp]; exact Sat.bind (h hp) (fun r _ => h1 r)
  · rw [if_neg hp]; exact h1 d
theorem is_sat (K : Nat) (hK : 600 < K) (a : ApiArg) (ha : a.V.S.length ≤ 500) (c : Int) (n : List UInt8) : Sat (check_is.f K a c n) fun b => c = 116 → b = true → a.Kind = 3 := by
  unfold check_is.f
  refine Sat.bindT (fun _ => name_sat K hK _ ha) fun t1 => ?_
  refine Sat.ite (fun h => Sat.some fun hc => ?_) (fun _ => ?_)
  · have : c = 118 := by simpa using h
    omega
  refine Sat.ite (fun h => Sat.some fun hc => ?_) (fun _ => ?_)
  · have : c = 110 := by simpa using h
    omega
  refine Sat.ite (fun h => Sat.some fun hc => ?_) (fun _ => ?_)
  · have : c = 105 := by simpa using h
    omega
  refine Sat.ite (fun h => Sat.some fun hc => ?_) (fun _ => ?_)
  · have : c = 107 := by simpa using h
    omega
  refine Sat.ite (fun h => Sat.some fun hc => ?_) (fun _ => ?_)
  · have : c = 113 := by simpa using h
    omega
  refine Sat.ite (fun h => Sat.some fun hc hb => by simpa using hb) (fun h => ?_)
  have h116 : c ≠ 116 := by simpa using h
  refine Sat.ite (fun _ => Sat.some fun hc => absurd hc h116) (fun _ => ?_)
  refine Sat.ite (fun _ => Sat.some fun hc => absurd hc h116) (fun _ => ?_)
  exact Sat.ite (fun _ => Sat.some fun hc => absurd hc h116) (fun _ => Sat.some fun hc => absurd hc h116)
def Fit (s : ApiStep) : Prop := need s.Name ≤ s.Args.length ∧ (trv s.Name = true → ∀ a ∈ s.Args, a.Kind = 3)
def ShortA (l : List ApiArg) : Prop := l.length ≤ 12 ∧ ∀ a ∈ l, a.V.S.length ≤ 500
theorem getD_mem {α : Type} [Inhabited α] (l : List α) (i : Nat) (h : i < l.length) : List.getD l i default ∈ l := by
  rw [List.getD_eq_getElem?_getD, List.getElem?_eq_getElem h]
  exact List.getElem_mem h
theorem getD_all {α : Type} [Inhabited α] {l : List α} {p : α → Prop} (h : ∀ i, i < l.length → p (List.getD l i default)) : ∀ a ∈ l, p a := by
  intro a ha
  obtain ⟨i, hi, rfl⟩ := List.getElem_of_mem ha
  have := h i hi
  rwa [List.getD_eq_getElem?_getD, List.getElem?_eq_getElem hi, Option.getD_some] at this
theorem lt_end {i : Int} {n j : Nat} (h : decide (i < (n : Int)) = false) (hj : j < n) : (j : Int) < i := by
  have : ¬ i < (n : Int) := by simpa using h
  omega
theorem iF_sat (K : Nat) (hK : 600 < K) (l : List ApiArg) (hl : ShortA l) (form : List UInt8) (hf : 0 < form.length) (s : ApiStep) : ∀ (k : Nat) (i : Int), 0 ≤ i → i ≤ (l.length : Int) → (l.length : Int) - i < k → (∀ j : Nat, (j : Int) < i → FW.bt form 0 = 116 → (List.getD l j default).Kind = 3) →
    Sat (iF_fits.l1 K ⟨form⟩ s k l (l.length : Int) i) fun r => ¬ 0 ≤ r → FW.bt form 0 = 116 → ∀ a ∈ l, a.Kind = 3 := by
  intro k
  induction k with
  | zero => intro i h0 h1 h2; omega
  | succ k ih =>
    intro i h0 h1 h2 hj
    rw [iF_fits.l1]
    refine Sat.ite (fun h => ?_) (fun h => Sat.some fun _ h116 => getD_all fun j hj' => hj j (lt_end h hj') h116)
    have hi : i < (l.length : Int) := by simpa using h
    refine Sat.chk ⟨h0, hi⟩ ?_
    have hm := getD_mem l i.toNat (by omega)
    have hs1 : Sat (check_fits_1.f K (List.getD l i.toNat default) ⟨form⟩ s) fun b => b = false → FW.bt form 0 = 116 → (List.getD l i.toNat default).Kind = 3 := by
      unfold check_fits_1.f
      refine Sat.chk ⟨by omega, by show (0 : Int) < form.length; omega⟩ ?_
      refine Sat.bind (is_sat K hK _ (hl.2 _ hm) _ _) fun b hb => Sat.some fun hf h116 => hb h116 (by simpa using hf)
    refine Sat.bind hs1 fun b hb => Sat.ite (fun _ => Sat.some fun hn => absurd h0 hn) (fun hbf => ?_)
    have hl2 := hl.1
    rw [W_in (by omega) (by omega)]
    refine ih (i + 1) (by omega) (by omega) (by omega) fun j hj' h116 => ?_
    by_cases e : (j : Int) = i
    · have := hb hbf h116
      rw [← e, Int.toNat_natCast] at this
      exact this
    · exact hj j (by omega) h116
theorem fits_l1 (K : Nat) (hK : 600 < K) (s : ApiStep) (hl : ShortA s.Args) (form : List UInt8) (hf : form.length = s.Args.length) : ∀ (k : Nat) (i : Int), 0 ≤ i → i ≤ (s.Args.length : Int) → (s.Args.length : Int) - i < k → (∀ j : Nat, (j : Int) < i → FW.bt form j = 116 → (List.getD s.Args j default).Kind = 3) →
    Sat (check_fits.l1 K k form s s.Args (s.Args.length : Int) i) fun r => r = true → ∀ j : Nat, j < s.Args.length → FW.bt form j = 116 → (List.getD s.Args j default).Kind = 3 := by
  intro k
  induction k with
  | zero => intro i h0 h1 h2; omega
  | succ k ih =>
    intro i h0 h1 h2 hj
    rw [check_fits.l1]
    refine Sat.ite (fun h => ?_) (fun h => Sat.some fun _ j hj' h116 => hj j (lt_end h hj') h116)
    have hi : i < (s.Args.length : Int) := by simpa using h
    refine Sat.chk ⟨h0, hi⟩ (Sat.chk ⟨h0, by omega⟩ ?_)
    have hm := getD_mem s.Args i.toNat (by omega)
    refine Sat.bind (is_sat K hK _ (hl.2 _ hm) _ _) fun b hb => Sat.ite (fun _ => Sat.some fun h => by cases h) (fun hbt => ?_)
    have hl2 := hl.1
    rw [W_in (by omega) (by omega)]
    refine ih (i + 1) (by omega) (by omega) (by omega) fun j hj' h116 => ?_
    by_cases e : (j : Int) = i
    · have := hb (by rw [← e]; exact h116) (by simpa using hbt)
      rw [← e, Int.toNat_natCast] at this
      exact this
    · exact hj j (by omega) h116
theorem bt_all {form : List UInt8} (h : (form.all fun c => decide (c = 116)) = true) : ∀ j : Nat, j < form.length → FW.bt form j = 116 := by
  intro j hj
  rw [List.all_eq_true] at h
  have hm : form[j] ∈ form := List.getElem_mem _
  have := h _ hm
  have hd : form.drop (j : Int).toNat = form[j] :: form.drop (j + 1) := by rw [Int.toNat_natCast]; exact List.drop_eq_getElem_cons hj
  rw [bt_at hd]
  have e : form[j] = 116 := by simpa using this
  rw [e]; rfl
theorem fits_sat (K : Nat) (hK : 600 < K) (s : ApiStep) (hl : ShortA s.Args) (form : List UInt8) (hf : form.length ≤ 10) : Sat (check_fits.f K s form) fun r => r = true → formOk s.Name form = true → Fit s := by
  unfold check_fits.f
  have hl2 := hl.1
  refine Sat.chk (fun h => ?_) ?_
  · have : (form.length : Int) = 2 := by simpa using h
    omega
  refine Sat.ite (fun h => ?_) (fun h => ?_)
  · simp only [Bool.and_eq_true, decide_eq_true_eq] at h
    have hst : star form = true := by
      unfold star
      simp only [Bool.and_eq_true, decide_eq_true_eq]
      exact ⟨by omega, h.2⟩
    unfold cF_fits.f
    refine Sat.bind (Sat.bind (iF_sat K hK s.Args hl form (by omega) s K 0 (by omega) (by omega) (by omega) (fun j hj => by omega)) fun r hr => Sat.some (P := fun b => b = false → FW.bt form 0 = 116 → ∀ a ∈ s.Args, a.Kind = 3) fun hb => hr (by simpa using hb)) fun b hb => Sat.some fun hbt hok => ?_
    unfold formOk at hok
    rw [if_pos hst] at hok
    simp only [Bool.and_eq_true, Bool.or_eq_true, Bool.not_eq_true', decide_eq_true_eq] at hok
    refine ⟨by omega, fun ht => hb (by simpa using hbt) ?_⟩
    rcases hok.2 with (h1 | h1) | h1
    · rw [ht] at h1; cases h1
    · have := bt_all h1 1 (by omega)
      have h2 : FW.bt form 1 = 42 := h.2
      have h3 : FW.bt form ((1 : Nat) : Int) = 116 := this
      rw [show ((1 : Nat) : Int) = 1 from rfl, h2] at h3
      omega
    · rw [h1]; rfl
  · refine Sat.ite (fun _ => Sat.some fun h => by cases h) (fun hlen => ?_)
    have hlen' : form.length = s.Args.length := by
      have : (form.length : Int) = (s.Args.length : Int) := by simpa using hlen
      omega
    refine (fits_l1 K hK s hl form hlen' K 0 (by omega) (by omega) (by omega) (fun j hj => by omega)).mono fun r hr hrt hok => ?_
    have hst : star form = false := by
      unfold star
      simp only [Bool.and_eq_false_iff, decide_eq_false_iff_not] at h ⊢
      rcases h with h | h
      · exact .inl (by omega)
      · exact .inr h
    unfold formOk at hok
    rw [hst] at hok
    simp only [Bool.false_eq_true, if_false, Bool.and_eq_true, Bool.or_eq_true, Bool.not_eq_true', decide_eq_true_eq] at hok
    refine ⟨by omega, fun ht => getD_all fun j hj => hr hrt j hj ?_⟩
    rcases hok.2 with (h1 | h1) | h1
    · rw [ht] at h1; cases h1
    · exact bt_all h1 j (by omega)
    · rw [h1] at hst; exact absurd hst (by decide)
theorem iFs_sat (K : Nat) (hK : 600 < K) (s : ApiStep) (hl : ShortA s.Args) (fs : List (List UInt8)) (hfs : fs.length ≤ 10) (hok : ∀ form ∈ fs, formOk s.Name form = true ∧ form.length ≤ 10) : ∀ (k : Nat) (i : Int), 0 ≤ i → i ≤ (fs.length : Int) → (fs.length : Int) - i < k →
    Sat (iF_steps.l1 K s k fs (fs.length : Int) i) fun r => 0 ≤ r → Fit s := by
  intro k
  induction k with
  | zero => intro i h0 h1 h2; omega
  | succ k ih =>
    intro i h0 h1 h2
    rw [iF_steps.l1]
    refine Sat.ite (fun h => ?_) (fun h => Sat.some fun hn => absurd hn (by decide))
    have hi : i < (fs.length : Int) := by simpa using h
    refine Sat.chk ⟨h0, hi⟩ ?_
    have hm := getD_mem fs i.toNat (by omega)
    unfold check_steps_1.f
    refine Sat.bind (Sat.bind (fits_sat K hK s hl _ (hok _ hm).2) fun r hr => Sat.some (P := fun b => b = true → Fit s) fun hb => hr hb (hok _ hm).1) fun b hb => Sat.ite (fun hbt => Sat.some fun _ => hb hbt) (fun _ => ?_)
    rw [W_in (by omega) (by omega)]
    exact ih (i + 1) (by omega) (by omega) (by omega)
theorem cFs_sat (K : Nat) (hK : 600 < K) (s : ApiStep) (hl : ShortA s.Args) (fs : List (List UInt8)) (hfs : fs.length ≤ 10) (hok : ∀ form ∈ fs, formOk s.Name form = true ∧ form.length ≤ 10) : Sat (cF_steps.f K fs s) fun r => r = true → Fit s := by
  unfold cF_steps.f iF_steps.f
  exact Sat.bind (iFs_sat K hK s hl fs hfs hok K 0 (by omega) (by omega) (by omega)) fun r hr => Sat.some fun hb => hr (by simpa using hb)
theorem contains_sat (K : Nat) (hK : 600 < K) (l : List (List UInt8)) (hl : l.length ≤ 10) (x : List UInt8) : Sat (slices_Contains_string_string.f K l x) fun b => b = true → x ∈ l := by
  have key : ∀ (k : Nat) (i : Int), 0 ≤ i → i ≤ (l.length : Int) → (l.length : Int) - i < k → Sat (slices_Index_string_string.l1 K k l x (l.length : Int) i) fun r => 0 ≤ r → x ∈ l := by
    intro k
    induction k with
    | zero => intro i h0 h1 h2; omega
    | succ k ih =>
      intro i h0 h1 h2
      rw [slices_Index_string_string.l1]
      refine Sat.ite (fun h => ?_) (fun h => Sat.some fun hn => absurd hn (by decide))
      have hi : i < (l.length : Int) := by simpa using h
      refine Sat.chk ⟨h0, hi⟩ (Sat.ite (fun he => Sat.some fun _ => ?_) (fun _ => ?_))
      · have e : x = List.getD l i.toNat default := by simpa using he
        rw [e]; exact getD_mem l _ (by omega)
      · rw [W_in (by omega) (by omega)]
        exact ih (i + 1) (by omega) (by omega) (by omega)
  unfold slices_Contains_string_string.f slices_Index_string_string.f
  exact Sat.bind (key K 0 (by omega) (by omega) (by omega)) fun r hr => Sat.some fun hb => hr (by simpa using hb)
def nm (l : List ApiStep) (i : Nat) : List UInt8 := (List.getD l i default).Name
def rn (l : List ApiStep) (n : List UInt8) : Nat → Nat
  | 0 => if nm l 0 = n then 1 else 0
  | i + 1 => (if nm l (i + 1) = n then 1 else 0) + (if aft (nm l (i + 1)) = [] then 0 else rn l n i)
theorem run_l1 (K : Nat) (l : List ApiStep) (hl : l.length ≤ 150) (n : List UInt8) : ∀ (i k : Nat) (c : Int), i < l.length → i + 2 ≤ k → 0 ≤ c → c ≤ 1000 - (i : Int) → ∃ of_, check_run.l1 K k l (i : Int) n c = some (c + (rn l n i : Int), of_) := by
  intro i
  induction i with
  | zero =>
    intro k c hi hk h0 h1
    obtain ⟨k, rfl⟩ : ∃ q, k = q + 1 + 1 := ⟨k - 2, by omega⟩
    have e0 : (if aft (nm l 0) = [] then 0 else 0) = 0 := by simp
    rw [check_run.l1, if_pos (by simp), if_pos ⟨by omega, by omega⟩]
    have j1 : ∀ c' : Int, ∃ of_, check_run.j1 (check_run.l1 K (k + 1)) K l ((0 : Nat) : Int) n c' = some (c', of_) := by
      intro c'
      unfold check_run.j1
      rw [if_pos ⟨by omega, by omega⟩, after_eq, Option.bind_some]
      by_cases ha : (aft (List.getD l (Int.toNat ((0 : Nat) : Int)) default).Name).isEmpty = true
      · rw [if_pos ha, if_pos ⟨by omega, by omega⟩]; exact ⟨_, rfl⟩
      · rw [if_neg ha, W_in (by omega) (by omega), check_run.l1, if_neg (by decide)]
        exact ⟨_, rfl⟩
    have en : (List.getD l (Int.toNat ((0 : Nat) : Int)) default).Name = nm l 0 := rfl
    rw [en]
    by_cases h : nm l 0 = n
    · rw [if_pos (by simpa using h), W_in (by omega) (by omega)]
      obtain ⟨o, ho⟩ := j1 (c + 1)
      exact ⟨o, by rw [ho]; simp [rn, h]⟩
    · rw [if_neg (by simpa using h)]
      obtain ⟨o, ho⟩ := j1 c
      exact ⟨o, by rw [ho]; simp [rn, h]⟩
  | succ i ih =>
    intro k c hi hk h0 h1
    obtain ⟨k, rfl⟩ : ∃ q, k = q + 1 := ⟨k - 1, by omega⟩
    rw [check_run.l1, if_pos (by simp; omega), if_pos ⟨by omega, by omega⟩]
    have en : (List.getD l (Int.toNat ((i + 1 : Nat) : Int)) default).Name = nm l (i + 1) := by rw [Int.toNat_natCast]; rfl
    have j1 : ∀ c' : Int, 0 ≤ c' → c' ≤ 1000 - (i : Int) → ∃ of_, check_run.j1 (check_run.l1 K k) K l ((i + 1 : Nat) : Int) n c' = some (c' + ((if aft (nm l (i + 1)) = [] then 0 else rn l n i : Nat) : Int), of_) := by
      intro c' hc0 hc'
      unfold check_run.j1
      rw [if_pos ⟨by omega, by omega⟩, after_eq, Option.bind_some, en]
      by_cases ha : aft (nm l (i + 1)) = []
      · rw [if_pos (by simp [ha]), if_pos ⟨by omega, by omega⟩, if_pos ha]; exact ⟨nm l (i + 1), by simp⟩
      · rw [if_neg (by simpa using ha), W_in (by omega) (by omega), if_neg ha]
        obtain ⟨o, ho⟩ := ih k c' (by omega) (by omega) hc0 hc'
        exact ⟨o, by rw [show ((i + 1 : Nat) : Int) - 1 = (i : Int) by omega]; exact ho⟩
    rw [en]
    by_cases h : nm l (i + 1) = n
    · rw [if_pos (by simpa using h), W_in (by omega) (by omega)]
      obtain ⟨o, ho⟩ := j1 (c + 1) (by omega) (by omega)
      exact ⟨o, by rw [ho, rn, if_pos h]; congr 2; omega⟩
    · rw [if_neg (by simpa using h)]
      obtain ⟨o, ho⟩ := j1 c h0 (by omega)
      exact ⟨o, by rw [ho, rn, if_neg h]; congr 2; omega⟩
def PlAt (l : List ApiStep) (i : Nat) : Prop := aft (nm l i) ≠ [] → 0 < i ∧ nm l (i - 1) ∈ aft (nm l i) ∧ (nm l i ≠ nBy → rn l (nm l i) i ≤ 1)
theorem place_j1 (K : Nat) (y : ApiStep) (l : List ApiStep) (hl : l.length ≤ 150) (i : Nat) (hi : i < l.length) : Sat (check_place.j1 K y l (i : Int)) fun _ => True := by
  unfold check_place.j1
  rw [W_in (by omega) (by omega)]
  have hb : decide ((i : Int) + 1 = (l.length : Int)) = false → (0 : Int) ≤ (i : Int) + 1 ∧ (i : Int) + 1 < (l.length : Int) := by
    intro h
    have : ¬ (i : Int) + 1 = (l.length : Int) := by simpa using h
    omega
  refine Sat.chk hb ?_
  refine Sat.bindT (fun _ => Sat.eq (after_eq _) trivial) fun t1 => ?_
  have hb2 : (decide ((i : Int) + 1 = (l.length : Int)) || t1.isEmpty) = false → (0 : Int) ≤ (i : Int) + 1 ∧ (i : Int) + 1 < (l.length : Int) := by
    intro h
    simp only [Bool.or_eq_false_iff] at h
    exact hb h.1
  refine Sat.chk (fun h _ => hb2 h) (Sat.chk (fun _ h _ => hb2 h) ?_)
  exact Sat.ite (fun _ => Sat.some trivial) (fun _ => Sat.some trivial)
theorem aft_len (n : List UInt8) : (aft n).length ≤ 10 := by
  unfold aft
  split
  · simp
  · split
    · simp
    · split <;> simp
theorem place_sat (K : Nat) (hK : 600 < K) (l : List ApiStep) (hl : l.length ≤ 150) (i : Nat) (hi : i < l.length) (hA : (List.getD l i default).Args.length ≤ 12) (top : Bool) : Sat (check_place.f K l (i : Int) top) fun r => r = 0 → PlAt l i := by
  unfold check_place.f
  have en : (List.getD l (Int.toNat (i : Int)) default).Name = nm l i := by rw [Int.toNat_natCast]; rfl
  refine Sat.chk ⟨by omega, by omega⟩ ?_
  have no : ∀ {e : Int}, e ≠ 0 → Sat (some e) fun r => r = 0 → PlAt l i := fun he => Sat.some fun h => absurd h he
  refine Sat.ite (fun _ => no (by decide)) (fun _ => ?_)
  rw [en]
  refine Sat.bindE (after_eq _) ?_
  refine Sat.ite (fun hne => ?_) (fun he => ?_)
  · have hb : decide ((i : Int) = 0) = false → (0 : Int) ≤ IntKind.wrap .i64 ((i : Int) - 1) ∧ IntKind.wrap .i64 ((i : Int) - 1) < (l.length : Int) := by
      intro h
      have : ¬ (i : Int) = 0 := by simpa using h
      rw [W_in (by omega) (by omega)]
      omega
    refine Sat.chk hb ?_
    by_cases h0 : (i : Int) = 0
    · rw [if_neg (by simpa using h0)]
      refine Sat.bindE rfl ?_
      exact Sat.ite (fun _ => no (by decide)) (fun h => by simp [h0] at h)
    rw [if_pos (by simpa using h0), W_in (x := (i : Int) - 1) (by omega) (by omega)]
    have en1 : (List.getD l (Int.toNat ((i : Int) - 1)) default).Name = nm l (i - 1) := by
      rw [show ((i : Int) - 1).toNat = i - 1 by omega]; rfl
    rw [en1]
    refine Sat.bind (contains_sat K hK _ (aft_len _) _) fun t3 ht3 => ?_
    refine Sat.ite (fun _ => no (by decide)) (fun h3 => ?_)
    have h3' : t3 = true := by
      simp only [Bool.or_eq_false_iff] at h3
      simpa using h3.2
    unfold check_run.f
    obtain ⟨of_, hrun⟩ := run_l1 K l hl (nm l i) i K 0 hi (by omega) (by omega) (by omega)
    refine Sat.bindE hrun ?_
    refine Sat.bind (R := fun m => nm l i ≠ nBy → m = 1) ?_ fun m hm => ?_
    · unfold check_most.f
      refine Sat.ite (fun h => Sat.some fun hn => ?_) (fun _ => Sat.ite (fun h => Sat.some fun hn => ?_) (fun _ => Sat.some fun _ => rfl))
      · simp only [Bool.and_eq_true, decide_eq_true_eq] at h; exact absurd h.1 hn
      · simp only [Bool.and_eq_true, decide_eq_true_eq] at h; exact absurd h.1 hn
    refine Sat.ite (fun _ => no (by decide)) (fun hle => ?_)
    have hfin : ∀ r : Int, r = 0 → PlAt l i := fun _ _ _ => ⟨by omega, ht3 h3', fun hn => by
      have h1 := hm hn
      have h2 : ¬ m < 0 + (rn l (nm l i) i : Int) := by simpa using hle
      omega⟩
    refine Sat.chk (fun h => ?_) (Sat.ite (fun _ => no (by decide)) (fun _ => (place_j1 K _ l hl i hi).mono fun r _ => hfin r))
    simp only [Bool.and_eq_true, decide_eq_true_eq] at h
    have hl0 := h.2
    rw [Int.toNat_natCast] at hl0 ⊢
    rw [W_in (by omega) (by omega)]; omega
  · have ha : aft (nm l i) = [] := by simpa using he
    exact (place_j1 K _ l hl i hi).mono fun r _ _ hn => absurd ha hn
mutual

def CS : List ApiStep → Prop
  | [] => True
  | x :: r => CS1 x ∧ CS r
def CS1 : ApiStep → Prop
  | ⟨n, l⟩ => (n ∈ names57 ∧ Fit ⟨n, l⟩) ∧ CA l
def CA : List ApiArg → Prop
  | [] => True
  | a :: r => CA1 a ∧ CA r
def CA1 : ApiArg → Prop
  | ⟨k, _, _, T⟩ => k = 3 → ((∀ i, i < T.length → PlAt T i) ∧ CS T)
end
theorem CS1.split {x : ApiStep} (h : CS1 x) : (x.Name ∈ names57 ∧ Fit x) ∧ CA x.Args := by cases x; simpa only [CS1] using h
theorem CS1.mk' {x : ApiStep} (h : x.Name ∈ names57 ∧ Fit x) (h' : CA x.Args) : CS1 x := by cases x; simp only [CS1]; exact ⟨h, h'⟩
theorem CS_of : ∀ l : List ApiStep, (∀ i, i < l.length → CS1 (List.getD l i default)) → CS l
  | [], _ => by simp [CS]
  | x :: r, h => by
    simp only [CS]
    exact ⟨h 0 (by simp), CS_of r fun i hi => h (i + 1) (by simpa using hi)⟩
theorem CA_of : ∀ l : List ApiArg, (∀ i, i < l.length → CA1 (List.getD l i default)) → CA l
  | [], _ => by simp [CA]
  | x :: r, h => by
    simp only [CA]
    exact ⟨h 0 (by simp), CA_of r fun i hi => h (i + 1) (by simpa using hi)⟩
theorem CS_get : ∀ (l : List ApiStep) (i : Nat), CS l → i < l.length → CS1 (List.getD l i default)
  | [], i, _, h => by simp at h
  | x :: r, 0, h, _ => by simp only [CS] at h; exact h.1
  | x :: r, i + 1, h, hi => by simp only [CS] at h; exact CS_get r i h.2 (by simpa using hi)
theorem CA_get : ∀ (l : List ApiArg) (i : Nat), CA l → i < l.length → CA1 (List.getD l i default)
  | [], i, _, h => by simp at h
  | x :: r, 0, h, _ => by simp only [CA] at h; exact h.1
  | x :: r, i + 1, h, hi => by simp only [CA] at h; exact CA_get r i h.2 (by simpa using hi)
theorem GS_get : ∀ (l : List ApiStep) (i : Nat), GS l → i < l.length → GS1 (List.getD l i default)
  | [], i, _, h => by simp at h
  | x :: r, 0, h, _ => by simp only [GS] at h; exact h.1
  | x :: r, i + 1, h, hi => by simp only [GS] at h; exact GS_get r i h.2 (by simpa using hi)
theorem GA_get : ∀ (l : List ApiArg) (i : Nat), GA l → i < l.length → GA1 (List.getD l i default)
  | [], i, _, h => by simp at h
  | x :: r, 0, h, _ => by simp only [GA] at h; exact h.1
  | x :: r, i + 1, h, hi => by simp only [GA] at h; exact GA_get r i h.2 (by simpa using hi)
theorem GS1.split3 {x : ApiStep} (h : GS1 x) : x.Args.length ≤ 12 ∧ GA x.Args ∧ IsName x.Name := by cases x; simpa only [GS1] using h
theorem GS1.split {x : ApiStep} (h : GS1 x) : x.Args.length ≤ 12 ∧ GA x.Args := ⟨h.split3.1, h.split3.2.1⟩
theorem GA1.split6 {a : ApiArg} (h : GA1 a) : wV a.V ≤ 1600 ∧ a.V.S.length ≤ 500 ∧ (a.Kind = 3 → a.T ≠ []) ∧ a.T.length ≤ 150 ∧ GS a.T ∧ ArgP a.Kind a.V a.P a.T := by cases a; simpa only [GA1] using h
theorem GA1.split {a : ApiArg} (h : GA1 a) : wV a.V ≤ 1600 ∧ a.V.S.length ≤ 500 ∧ (a.Kind = 3 → a.T ≠ []) ∧ a.T.length ≤ 150 ∧ GS a.T := ⟨h.split6.1, h.split6.2.1, h.split6.2.2.1, h.split6.2.2.2.1, h.split6.2.2.2.2.1⟩
theorem nS_get : ∀ (l : List ApiStep) (i : Nat), i < l.length → nS1 (List.getD l i default) ≤ nS l
  | [], i, h => by simp at h
  | x :: r, 0, _ => by simp only [nS, List.getD_cons_zero]; omega
  | x :: r, i + 1, h => by have := nS_get r i (by simpa using h); simp only [nS, List.getD_cons_succ]; omega
theorem nA_get : ∀ (l : List ApiArg) (i : Nat), i < l.length → nS (List.getD l i default).T ≤ nA l
  | [], i, h => by simp at h
  | ⟨_, _, _, _⟩ :: r, 0, _ => by simp only [nA, nA1, List.getD_cons_zero]; omega
  | x :: r, i + 1, h => by have := nA_get r i (by simpa using h); simp only [nA, List.getD_cons_succ]; omega
theorem nS1_eq (x : ApiStep) : nS1 x = 1 + nA x.Args := by cases x; rw [nS1]
theorem short_of {x : ApiStep} (h : GS1 x) : ShortA x.Args := ⟨h.split.1, getD_all fun i hi => (GA_get _ i h.split.2 hi).split.2.1⟩
theorem steps_args (F : List ApiStep → Bool → Option Int) (G : List ApiStep → Bool → List ApiStep → Int → Int → Option Int) (K : Nat) (v0 : List ApiStep) (v1 : Bool) (v12 : List ApiStep) (v13 v14 : Int) (X : Prop) (args : List ApiArg) (hl : args.length ≤ 12)
    (hF : ∀ j, j < args.length → (List.getD args j default).Kind = 3 → Sat (F (List.getD args j default).T false) fun r => r = 0 → CA1 (List.getD args j default))
    (hG : CA args → Sat (G v0 v1 v12 v13 (IntKind.wrap .i64 (v14 + 1))) fun r => r = 0 → X) :
    ∀ (k j : Nat), j ≤ args.length → args.length - j < k → (∀ q, q < j → CA1 (List.getD args q default)) → Sat (check_steps.l2 F G K k v0 v1 v12 v13 v14 args (args.length : Int) (j : Int)) fun r => r = 0 → X := by
  intro k
  induction k with
  | zero => intro j h0 h1; omega
  | succ k ih =>
    intro j h0 h1 hj
    rw [check_steps.l2]
    refine Sat.ite (fun h => ?_) (fun h => ?_)
    · have hlt : (j : Int) < (args.length : Int) := by simpa using h
      refine Sat.chk ⟨by omega, hlt⟩ ?_
      rw [Int.toNat_natCast]
      have nxt : CA1 (List.getD args j default) → Sat (check_steps.j1 F G (check_steps.l2 F G K k) K v0 v1 v12 v13 v14 args (args.length : Int) (j : Int)) fun r => r = 0 → X := by
        intro hc
        unfold check_steps.j1
        rw [W_in (by omega) (by omega), show (j : Int) + 1 = ((j + 1 : Nat) : Int) by omega]
        refine ih (j + 1) (by omega) (by omega) fun q hq => ?_
        by_cases e : q = j
        · rw [e]; exact hc
        · exact hj q (by omega)
      refine Sat.ite (fun hk => nxt ?_) (fun hk => ?_)
      · have hk' : ¬ (List.getD args j default).Kind = 3 := by simpa using hk
        generalize List.getD args j default = a at hk' ⊢
        cases a
        simp only [CA1]
        exact fun h => absurd h hk'
      · have hk' : (List.getD args j default).Kind = 3 := by simpa using hk
        refine Sat.bind (hF j (by omega) hk') fun r hr => Sat.ite (fun hn => Sat.some fun h0 => ?_) (fun hz => nxt (hr (by simpa using hz)))
        have : ¬ r = 0 := by simpa using hn
        exact absurd h0 this
    · have hge : ¬ (j : Int) < (args.length : Int) := by simpa using h
      exact hG (CA_of args fun q hq => hj q (by omega))
theorem check_steps_sat : ∀ (n : Nat) (l : List ApiStep) (top : Bool) (K : Nat), nS l ≤ n → GS l → l.length ≤ 150 → n + 1000 ≤ K → Sat (check_steps.f K l top) fun r => r = 0 → (∀ i, i < l.length → PlAt l i) ∧ CS l := by
  intro n
  induction n with
  | zero =>
    intro l top K hn hg hl hK
    have : l = [] := Classical.not_not.1 fun h => by have := nS_pos l h; omega
    subst this
    obtain ⟨K, rfl⟩ : ∃ q, K = q + 1 + 1 := ⟨K - 2, by omega⟩
    rw [check_steps.f, check_steps.b, check_steps.l1, if_neg (by simp)]
    exact Sat.some fun _ => ⟨fun i hi => by simp at hi, by simp [CS]⟩
  | succ n ih =>
    intro l top K hn hg hl hK
    obtain ⟨K, rfl⟩ : ∃ q, K = q + 1 := ⟨K - 1, by omega⟩
    rw [check_steps.f, check_steps.b]
    have key : ∀ (k i : Nat), i ≤ l.length → l.length - i < k → (∀ j, j < i → PlAt l j ∧ CS1 (List.getD l j default)) → Sat (check_steps.l1 (check_steps.f K) K k l top l (l.length : Int) (i : Int)) fun r => r = 0 → (∀ i, i < l.length → PlAt l i) ∧ CS l := by
      intro k
      induction k with
      | zero => intro i h0 h1; omega
      | succ k ihk =>
        intro i h0 h1 hj
        rw [check_steps.l1]
        refine Sat.ite (fun h => ?_) (fun h => Sat.some fun _ => ?_)
        · have hlt : (i : Int) < (l.length : Int) := by simpa using h
          have hi : i < l.length := by omega
          refine Sat.chk ⟨by omega, hlt⟩ ?_
          rw [Int.toNat_natCast]
          have hg1 := GS_get l i hg hi
          have hsh := short_of hg1
          have no : ∀ {e : Int}, e ≠ 0 → Sat (some e) fun r => r = 0 → (∀ i, i < l.length → PlAt l i) ∧ CS l := fun he => Sat.some fun h => absurd h he
          by_cases hnm : (List.getD l i default).Name ∈ names57
          · obtain ⟨fs, hfs, hfl, hok⟩ := forms_in _ hnm
            refine Sat.bindE hfs ?_
            refine Sat.ite (fun _ => no (by decide)) (fun _ => ?_)
            refine Sat.bind (cFs_sat K (by omega) _ hsh fs hfl hok) fun t2 ht2 => ?_
            refine Sat.ite (fun _ => no (by decide)) (fun hfit => ?_)
            refine Sat.ite (fun _ => no (by decide)) (fun _ => ?_)
            refine Sat.bind (place_sat K (by omega) l hl i hi hsh.1 top) fun t3 ht3 => ?_
            refine Sat.ite (fun hn => ?_) (fun hz => ?_)
            · have : ¬ t3 = 0 := by simpa using hn
              exact no this
            · have hp := ht3 (by simpa using hz)
              have hlen := hsh.1
              refine steps_args _ _ K l top l (l.length : Int) (i : Int) _ _ hlen (fun j hjl hk3 => ?_) (fun hca => ?_) K 0 (by omega) (by omega) (fun q hq => by omega)
              · have ga := (GA_get _ j hg1.split.2 hjl).split
                have n1 := nS_get l i hi
                have n2 := nA_get (List.getD l i default).Args j hjl
                rw [nS1_eq] at n1
                refine (ih (List.getD (List.getD l i default).Args j default).T false K (by omega) ga.2.2.2.2 ga.2.2.2.1 (by omega)).mono fun r hr h0 => ?_
                have hh := hr h0
                generalize List.getD (List.getD l i default).Args j default = a at hh ⊢
                cases a
                simp only [CA1]
                exact fun _ => hh
              · rw [W_in (by omega) (by omega), show (i : Int) + 1 = ((i + 1 : Nat) : Int) by omega]
                refine ihk (i + 1) (by omega) (by omega) fun j hj' => ?_
                by_cases e : j = i
                · rw [e]; exact ⟨hp, CS1.mk' ⟨hnm, ht2 (by simpa using hfit)⟩ hca⟩
                · exact hj j (by omega)
          · refine Sat.bindE (forms_out _ hnm) ?_
            exact Sat.ite (fun _ => no (by decide)) (fun h => by simp at h)
        · have hge : ¬ (i : Int) < (l.length : Int) := by simpa using h
          exact ⟨fun j hj' => (hj j (by omega)).1, CS_of l fun j hj' => (hj j (by omega)).2⟩
    exact key K 0 (by omega) (by omega) (fun j hj => by omega)
theorem Check_sat (l : List ApiStep) (K : Nat) (hp : Prs l) (hK : 2000 ≤ K) : Sat (check_Check.f K l) fun r => r = 0 → (∀ i, i < l.length → PlAt l i) ∧ CS l := by
  obtain ⟨h1, h2, h3, h4⟩ := hp
  unfold check_Check.f
  refine Sat.ite (fun h => ?_) (fun _ => Sat.bind (check_steps_sat (nS l) l true K (Nat.le_refl _) h3 h2 (by omega)) fun r hr => Sat.some hr)
  have : l.length = 0 := by
    have : (l.length : Int) = 0 := by simpa using h
    omega
  exact absurd (List.eq_nil_of_length_eq_zero this) h1
end Go.Proofs.Ytbjbgodcenopnaa
namespace Go.Proofs.Ytbjbgodcenopnaa
set_option linter.unusedVariables false
set_option linter.unusedSimpArgs false
set_option maxHeartbeats 1000000
theorem escS_len (c : UInt8) : (escS c).length ≤ 4 := by unfold escS; repeat' split
                                                         all_goals simp
theorem escL_len : ∀ s : List UInt8, (escL s).length ≤ 4 * s.length
  | [] => by simp [escL]
  | c :: r => by
    have h1 := escS_len c
    have h2 := escL_len r
    simp only [escL, List.length_append, List.length_cons]
    omega
theorem floatT_len (x : Nat) : (floatT x).length = 19 := by simp [floatT, hexh_len]
mutual
theorem valT_len : ∀ v : ApiValue, GdV v → OkV v → (valT v).length + 2 ≤ 2100 * szV v
  | ⟨k, b, n, f, s, l⟩, h, ho => by
    simp only [GdV] at h
    simp only [OkV] at ho
    have hn := numS_len n (wf64 ho.2.1)
    have hs := escL_len s
    have h5 := h.2.2.2.2.2.2.2.2.1
    have hL := valsT_len l h.2.2.2.2.2.2.2.2.2.2 ho.2.2.2.2.2
    have hf := floatT_len f
    rw [valT]
    simp only [szV]
    split
    · simp; omega
    split
    · split <;> (simp; omega)
    split
    · omega
    split
    · omega
    split
    · simp [textT]; omega
    split
    · simp; omega
    split
    · simp; omega
    split
    · simp; omega
    split
    · simp; omega
    · simp; omega
theorem valsT_len : ∀ l : List ApiValue, GdL l → OkVL l → (commas (valsT l)).length ≤ 2100 * szVL l
  | [], _, _ => by simp [valsT, commas]
  | x :: r, h, ho => by
    simp only [GdL] at h
    simp only [OkVL] at ho
    have h1 := valT_len x h.1 ho.1
    have h2 := valsT_len r h.2 ho.2
    simp only [szVL]
    cases r with
    | nil => simp only [valsT, commas]; omega
    | cons y q =>
      simp only [valsT] at h2 ⊢
      rw [commas_cons]
      simp only [List.length_append, List.length_cons, List.length_nil]
      have := szV_eq x
      omega
end
mutual
theorem pv_gd : ∀ v : ApiValue, PV v → GdV v
  | ⟨k, b, n, f, s, l⟩, h => by
    simp only [PV] at h
    obtain ⟨h0, h5, hb, hn, hI, hf, hc, hf0, hs, hs5, hl, hl12, hp⟩ := h
    simp only [GdV]
    exact ⟨h0, by omega, hb, fun e => .inl (hn e), fun e => by omega, hf0, hs, fun e => .inl (hl e), hs5, by omega, pvs_gd l hp⟩
theorem pvs_gd : ∀ l : List ApiValue, PVs l → GdL l
  | [], _ => by simp [GdL]
  | x :: r, h => by
    simp only [PVs] at h
    simp only [GdL]
    exact ⟨pv_gd x h.1, pvs_gd r h.2⟩
end
mutual
theorem pv_ok : ∀ v : ApiValue, PV v → OkV v
  | ⟨k, b, n, f, s, l⟩, h => by
    simp only [PV] at h
    obtain ⟨h0, h5, hb, hn, hI, hf, hc, hf0, hs, hs5, hl, hl12, hp⟩ := h
    simp only [OkV]
    refine ⟨?_, ?_, ?_, by unfold maxLen; omega, by unfold maxLen; omega, pvs_ok l hp⟩
    · simp only [Lit.wf, Bool.and_eq_true, decide_eq_true_eq]
      exact (show (-9223372036854775808 : Int) ≤ k ∧ k ≤ 9223372036854775807 by omega)
    · simp only [Lit.wf, Bool.and_eq_true, decide_eq_true_eq]
      exact hI
    · simp only [Lit.wf, decide_eq_true_eq]
      exact hf
theorem pvs_ok : ∀ l : List ApiValue, PVs l → OkVL l
  | [], _ => by simp [OkVL]
  | x :: r, h => by
    simp only [PVs] at h
    simp only [OkVL]
    exact ⟨pv_ok x h.1, pvs_ok r h.2⟩
end
mutual
theorem pv_cv : ∀ v : ApiValue, PV v → cvV v = v
  | ⟨k, b, n, f, s, l⟩, h => by
    simp only [PV] at h
    obtain ⟨h0, h5, hb, hn, hI, hf, hc, hf0, hs, hs5, hl, hl12, hp⟩ := h
    rw [refcanon_eq] at hc
    have e := Option.some.inj hc
    have e : canonN f = f := by omega
    simp only [cvV, e, pvs_cv l hp]
theorem pvs_cv : ∀ l : List ApiValue, PVs l → cvL l = l
  | [], _ => by simp [cvL]
  | x :: r, h => by
    simp only [PVs] at h
    simp only [cvL, pv_cv x h.1, pvs_cv r h.2]
end
mutual
theorem sz_w : ∀ v : ApiValue, szV v = wV v
  | ⟨k, b, n, f, s, l⟩ => by simp only [szV, wV, szs_w l]
theorem szs_w : ∀ l : List ApiValue, szVL l = wL l
  | [] => by simp [szVL, wL]
  | x :: r => by simp only [szVL, wL, sz_w x, szs_w r]
end
theorem pv_len (v : ApiValue) (h : PV v) : (valT v).length + 2 ≤ 2100 * wV v := by rw [← sz_w]; exact valT_len v (pv_gd v h) (pv_ok v h)
theorem pvs_len (l : List ApiValue) (h : PVs l) : (commas (valsT l)).length ≤ 2100 * wL l := by rw [← szs_w]; exact valsT_len l (pvs_gd l h) (pvs_ok l h)
theorem pvs_mem : ∀ {l : List ApiValue}, PVs l → ∀ x ∈ l, PV x
  | [], _, x, hx => by cases hx
  | y :: r, h, x, hx => by
    simp only [PVs] at h
    rcases List.mem_cons.1 hx with rfl | hx
    · exact h.1
    · exact pvs_mem h.2 x hx
theorem wL_mem : ∀ {l : List ApiValue} {x : ApiValue}, x ∈ l → wV x ≤ wL l
  | y :: r, x, hx => by
    simp only [wL]
    rcases List.mem_cons.1 hx with rfl | hx
    · omega
    · have := wL_mem hx; omega
theorem wL_ge : ∀ l : List ApiValue, l.length ≤ wL l
  | [] => by simp
  | x :: r => by have := wL_ge r; have := wV_eq x; simp only [wL, List.length_cons]; omega
theorem value_text (K : Nat) (v : ApiValue) (h : PV v) (hw : wV v ≤ 1600) (hK : 4000000 ≤ K) : offshootref13_Value.f K v = some (valT v) := by
  have := pv_len v h
  exact refV 3360000 (by omega) v K (gd_valw v (pv_gd v h) (pv_ok v h)) (by omega) (by omega)
theorem values_text (K : Nat) (l : List ApiValue) (h : PVs l) (hw : wL l ≤ 1600) (hK : 5000000 ≤ K) : offshootref13_Values.f K l = some (commas (valsT l)) := by
  obtain ⟨K, rfl⟩ : ∃ K', K = K' + 1 := ⟨K - 1, by omega⟩
  have h1 := pvs_len l h
  have h2 := wL_ge l
  rw [offshootref13_Values.f, offshootref13_Values.b]
  exact refvals_eq _ _ K l (fun x hx => value_text K x (pvs_mem h x hx) (by have := wL_mem hx; omega) (by omega)) (by omega) (by omega) (by omega)
abbrev negL : List UInt8 := [46, 110, 101, 103, 97, 116, 101, 40, 41]
mutual
def predT : ApiPred → List UInt8
  | ⟨op, l, kids⟩ =>
    if op = andL ∨ op = orL then ((((((predsT kids).getD 0 [] ++ [46]) ++ op) ++ [40]) ++ (predsT kids).getD 1 []) ++ [41])
    else if op = notL then (predsT kids).getD 0 [] ++ negL
    else ((op ++ [40]) ++ commas (valsT l)) ++ [41]
def predsT : List ApiPred → List (List UInt8)
  | [] => []
  | x :: r => predT x :: predsT r
end
theorem op_out {op : List UInt8} (h : (predsV op).2 = true) : ¬ (op = andL ∨ op = orL) ∧ ¬ op = notL := by
  refine ⟨?_, ?_⟩
  · rintro (rfl | rfl) <;> revert h <;> decide
  · rintro rfl; revert h; decide
theorem two {α : Type} {l : List α} (h : l.length = 2) : ∃ a b, l = [a, b] := by
  match l, h with
  | [a, b], _ => exact ⟨a, b, rfl⟩
theorem one {α : Type} {l : List α} (h : l.length = 1) : ∃ a, l = [a] := by
  match l, h with
  | [a], _ => exact ⟨a, rfl⟩
inductive PK : ApiPred → Prop where
  | base (op : List UInt8) (l : List ApiValue) (h1 : IsName op) (h2 : (predsV op).2 = true) (h3 : l.length ≤ 12) (h4 : 0 ≤ (predsV op).1 → (l.length : Int) = (predsV op).1) (h5 : PVs l) : PK ⟨op, l, []⟩
  | join (op : List UInt8) (p q : ApiPred) (h : op = andL ∨ op = orL) (h1 : PP p) (h2 : PP q) : PK ⟨op, [], [p, q]⟩
  | neg (p : ApiPred) (h1 : PP p) : PK ⟨notL, [], [p]⟩
theorem PP.kind {p : ApiPred} (h : PP p) : PK p := by
  obtain ⟨op, l, kids⟩ := p
  simp only [PP] at h
  obtain ⟨h1, h2, ⟨rfl, h3, h4, h5, h6⟩ | ⟨rfl, h3, h4⟩ | ⟨rfl, h3, rfl⟩⟩ := h
  · exact .base op l h3 h4 h5 h6 h2
  · obtain ⟨p, q, rfl⟩ := two h3
    simp only [PPs] at h1
    exact .join op p q h4 h1.1 h1.2.1
  · obtain ⟨p, rfl⟩ := one h3
    simp only [PPs] at h1
    exact .neg p h1.1
theorem predT_base {op : List UInt8} {l : List ApiValue} (h : (predsV op).2 = true) : predT ⟨op, l, []⟩ = ((op ++ [40]) ++ commas (valsT l)) ++ [41] := by
  rw [predT, if_neg (op_out h).1, if_neg (op_out h).2]
theorem predT_join {op : List UInt8} {p q : ApiPred} (h : op = andL ∨ op = orL) : predT ⟨op, [], [p, q]⟩ = ((((predT p ++ [46]) ++ op) ++ [40]) ++ predT q) ++ [41] := by
  rw [predT, if_pos h]; rfl
theorem predT_neg {p : ApiPred} : predT ⟨notL, [], [p]⟩ = predT p ++ negL := by
  rw [predT, if_neg (by decide), if_pos rfl]; rfl
theorem wP_pos (p : ApiPred) : 1 ≤ wP p := by cases p; rw [wP]; omega
theorem pred_len : ∀ (n : Nat) (p : ApiPred), wP p ≤ n → PP p → (predT p).length ≤ 2200 * wP p := by
  intro n
  induction n with
  | zero => intro p h; have := wP_pos p; omega
  | succ n ih =>
    intro p h hp
    cases hp.kind with
    | base op l h1 h2 h3 h4 h5 =>
      rw [predT_base h2, wP, wPs]
      have := pvs_len l h5
      have := h1.1
      simp only [List.length_append, List.length_cons, List.length_nil]
      omega
    | join op p q ho h1 h2 =>
      rw [wP, wL, wPs, wPs, wPs] at h ⊢
      rw [predT_join ho]
      have a := ih p (by omega) h1
      have b := ih q (by omega) h2
      have c : op.length ≤ 3 := by rcases ho with rfl | rfl <;> decide
      simp only [List.length_append, List.length_cons, List.length_nil]
      omega
    | neg p h1 =>
      rw [wP, wL, wPs, wPs] at h ⊢
      rw [predT_neg]
      have a := ih p (by omega) h1
      simp only [List.length_append, List.length_cons, List.length_nil]
      omega
theorem pred_text : ∀ (n : Nat) (p : ApiPred) (K : Nat), wP p ≤ n → n ≤ 1600 → PP p → 5000000 + n ≤ K → offshootref13_Pred.f K p = some (predT p) := by
  intro n
  induction n with
  | zero => intro p K h; have := wP_pos p; omega
  | succ n ih =>
    intro p K h hn hp hK
    obtain ⟨K, rfl⟩ : ∃ K', K = K' + 1 := ⟨K - 1, by omega⟩
    have hl0 := pred_len (n + 1) p h hp
    rw [offshootref13_Pred.f, offshootref13_Pred.b]
    cases hp.kind with
    | base op l h1 h2 h3 h4 h5 =>
      rw [wP, wPs] at h
      have hv := values_text K l h5 (by omega) (by omega)
      have ho := op_out h2
      have hl1 := pvs_len l h5
      have hl2 := h1.1
      have e1 : decide (op = ([97, 110, 100] : List UInt8)) = false := decide_eq_false fun e => ho.1 (.inl e)
      have e2 : decide (op = ([111, 114] : List UInt8)) = false := decide_eq_false fun e => ho.1 (.inr e)
      have e3 : decide (op = ([110, 111, 116] : List UInt8)) = false := decide_eq_false ho.2
      rw [predT_base h2]
      dsimp only
      rw [e1, e2, if_neg (by simp)]
      unfold offshootref13_Pred.j1
      dsimp only
      rw [if_neg (by simp), e3, if_neg (by simp), if_pos (by simp; omega), hv, Option.bind_some, if_pos (by simp; omega), if_pos (by simp; omega)]
    | join op p q ho h1 h2 =>
      rw [wP, wL, wPs, wPs, wPs] at h
      have hpl := pred_len n p (by omega) h1
      have hql := pred_len n q (by omega) h2
      have hp' := ih p K (by omega) (by omega) h1 (by omega)
      have hq' := ih q K (by omega) (by omega) h2 (by omega)
      have c : op.length ≤ 3 := by rcases ho with rfl | rfl <;> decide
      rw [predT_join ho]
      dsimp only
      have key : offshootref13_Pred.j1 (offshootref13_Pred.f K) K ⟨op, [], [p, q]⟩ op true = some (((((predT p ++ [46]) ++ op) ++ [40]) ++ predT q) ++ [41]) := by
        unfold offshootref13_Pred.j1
        dsimp only
        rw [if_pos rfl, if_pos (by simp)]
        show (Option.bind (offshootref13_Pred.f K p) _) = _
        rw [hp', Option.bind_some, if_pos (by simp; omega), if_pos (by simp; omega), if_pos (by simp; omega), if_pos (by simp)]
        show (Option.bind (offshootref13_Pred.f K q) _) = _
        rw [hq', Option.bind_some, if_pos (by simp; omega), if_pos (by simp; omega)]
      rcases ho with rfl | rfl
      · rw [if_pos (show decide (andL = ([97, 110, 100] : List UInt8)) = true from by decide)]; exact key
      · rw [if_neg (show ¬ decide (orL = ([97, 110, 100] : List UInt8)) = true from by decide)]; exact key
    | neg p h1 =>
      rw [wP, wL, wPs, wPs] at h
      have hpl := pred_len n p (by omega) h1
      have hp' := ih p K (by omega) (by omega) h1 (by omega)
      rw [predT_neg]
      dsimp only
      rw [if_neg (show ¬ decide (notL = ([97, 110, 100] : List UInt8)) = true from by decide)]
      unfold offshootref13_Pred.j1
      dsimp only
      rw [if_neg (show ¬ decide (notL = ([111, 114] : List UInt8)) = true from by decide), if_pos (show decide (notL = ([110, 111, 116] : List UInt8)) = true from by decide), if_pos (by simp)]
      show (Option.bind (offshootref13_Pred.f K p) _) = _
      rw [hp', Option.bind_some, if_pos (by simp; omega)]
end Go.Proofs.Ytbjbgodcenopnaa
namespace Go.Proofs.Ytbjbgodcenopnaa
set_option linter.unusedVariables false
set_option linter.unusedSimpArgs false
set_option maxHeartbeats 1000000
def dotTail (l : List (List UInt8)) : List UInt8 := (l.map fun x => [46] ++ x).flatten
def dots : List (List UInt8) → List UInt8
  | [] => []
  | x :: r => x ++ dotTail r
mutual
def stepT : ApiStep → List UInt8
  | ⟨nm, args⟩ => ((nm ++ [40]) ++ commas (argsT args)) ++ [41]
def argsT : List ApiArg → List (List UInt8)
  | [] => []
  | a :: r => argT a :: argsT r
def argT : ApiArg → List UInt8
  | ⟨k, v, p, T⟩ => if k = 2 then predT p else if k = 3 then [95, 95, 46] ++ dots (stepsT T) else if k = 4 then v.S else valT v
def stepsT : List ApiStep → List (List UInt8)
  | [] => []
  | s :: r => stepT s :: stepsT r
end
theorem argsT_map : ∀ l, argsT l = l.map argT
  | [] => by simp [argsT]
  | x :: r => by simp [argsT, argsT_map r]
theorem stepsT_map : ∀ l, stepsT l = l.map stepT
  | [] => by simp [stepsT]
  | x :: r => by simp [stepsT, stepsT_map r]
theorem stepT_eq (s : ApiStep) : stepT s = ((s.Name ++ [40]) ++ commas (argsT s.Args)) ++ [41] := by cases s; rw [stepT]
theorem argT_eq (a : ApiArg) : argT a = if a.Kind = 2 then predT a.P else if a.Kind = 3 then [95, 95, 46] ++ dots (stepsT a.T) else if a.Kind = 4 then a.V.S else valT a.V := by cases a; rw [argT]
theorem commas_le (x : List UInt8) : ∀ r : List (List UInt8), (commas (x :: r)).length ≤ x.length + 2 + (commas r).length
  | [] => by simp [commas]
  | y :: q => by rw [commas_cons]; simp; omega
theorem dots_le (x : List UInt8) : ∀ r : List (List UInt8), (dots (x :: r)).length ≤ x.length + 1 + (dots r).length
  | [] => by simp [dots, dotTail]
  | y :: q => by simp [dots, dotTail]; omega
mutual
theorem stp_len : ∀ s : ApiStep, GS1 s → (stepT s).length + 1 ≤ 50000000 * nS1 s
  | ⟨nm, args⟩, h => by
    simp only [GS1] at h
    have h1 := ags_len args h.2.1
    have h2 := h.2.2.1
    have h3 := h.1
    rw [stepT, nS1]
    simp only [List.length_append, List.length_cons, List.length_nil]
    omega
theorem ags_len : ∀ l : List ApiArg, GA l → (commas (argsT l)).length ≤ 4000010 * l.length + 50000000 * nA l
  | [], _ => by simp [argsT, commas]
  | a :: r, h => by
    simp only [GA] at h
    have h1 := ag_len a h.1
    have h2 := ags_len r h.2
    have h3 := commas_le (argT a) (argsT r)
    rw [argsT, nA]
    simp only [List.length_cons]
    omega
theorem ag_len : ∀ a : ApiArg, GA1 a → (argT a).length ≤ 4000000 + 50000000 * nA1 a
  | ⟨k, v, p, T⟩, h => by
    simp only [GA1] at h
    obtain ⟨h1, h2, h3, h4, h5, h6⟩ := h
    have h7 := sts_len T h5
    rw [argT, nA1]
    rcases h6 with ⟨rfl, a1, _, _⟩ | ⟨rfl, _, a1, _⟩ | ⟨rfl, _, _⟩ | ⟨rfl, ⟨nm, rfl, a1, _⟩, _, _⟩
    · rw [if_neg (by decide), if_neg (by decide), if_neg (by decide)]
      have := pv_len v a1
      omega
    · rw [if_pos rfl]
      have := pred_len _ p (Nat.le_refl _) a1.1
      have := a1.2
      omega
    · rw [if_neg (by decide), if_pos rfl]
      simp only [List.length_append, List.length_cons, List.length_nil]
      omega
    · rw [if_neg (by decide), if_neg (by decide), if_pos rfl]
      have := a1.1
      show nm.length ≤ _
      omega
theorem sts_len : ∀ l : List ApiStep, GS l → (dots (stepsT l)).length ≤ 50000000 * nS l
  | [], _ => by simp [stepsT, dots]
  | s :: r, h => by
    simp only [GS] at h
    have h1 := stp_len s h.1
    have h2 := sts_len r h.2
    have h3 := dots_le (stepT s) (stepsT r)
    rw [stepsT, nS]
    omega
end
def ArgTx (sF : List ApiStep → Option (List UInt8)) (K : Nat) (a : ApiArg) : Prop :=
  (a.Kind = 2 → offshootref13_Pred.f K a.P = some (predT a.P)) ∧ (a.Kind = 3 → sF a.T = some (dots (stepsT a.T))) ∧ (a.Kind ≠ 2 → a.Kind ≠ 3 → a.Kind ≠ 4 → offshootref13_Value.f K a.V = some (valT a.V)) ∧ (argT a).length ≤ 100000000000
theorem j3_eq {sF : List ApiStep → Option (List UInt8)} {s_l1 : List ApiStep → List UInt8 → Int → Option (List UInt8)} {s_l2 : List ApiStep → List UInt8 → Int → Int → Option (List UInt8)} {K : Nat} {v0 : List ApiStep} {i j : Int} {acc : List UInt8} {a : ApiArg}
    (ha : List.getD ((List.getD v0 (Int.toNat i) default).Args) (Int.toNat j) default = a) (hA : ArgTx sF K a) (hacc : acc.length ≤ 100000000000000) :
    offshootref13_Steps.j3 sF s_l1 s_l2 K v0 i j v0 acc i j = s_l2 v0 (acc ++ argT a) i (IntKind.wrap .i64 (j + 1)) := by
  obtain ⟨h2, h3, h1, hl⟩ := hA
  unfold offshootref13_Steps.j3
  rw [ha]
  rw [argT_eq] at hl ⊢
  by_cases k2 : a.Kind = 2
  · rw [if_pos k2] at hl
    rw [if_pos (by simpa using k2), h2 k2, Option.bind_some, if_pos (by omega), if_pos k2]; rfl
  rw [if_neg k2] at hl
  rw [if_neg (by simpa using k2), if_neg k2]
  by_cases k3 : a.Kind = 3
  · rw [if_pos k3] at hl
    simp only [List.length_append, List.length_cons, List.length_nil] at hl
    rw [if_pos (by simpa using k3), h3 k3, Option.bind_some, if_pos (by simp; omega), if_pos (by simp; omega), if_pos k3]; rfl
  rw [if_neg k3] at hl
  rw [if_neg (by simpa using k3), if_neg k3]
  by_cases k4 : a.Kind = 4
  · rw [if_pos k4] at hl
    rw [if_pos (by simpa using k4), if_pos (by omega), if_pos k4]; rfl
  rw [if_neg k4] at hl
  rw [if_neg (by simpa using k4), h1 k2 k3 k4, Option.bind_some, if_pos (by omega), if_neg k4]; rfl
theorem getD_map_drop {α : Type} [Inhabited α] (f : α → List UInt8) (l : List α) (j : Nat) (h : j < l.length) : (l.map f).drop j = f (l.getD j default) :: (l.map f).drop (j + 1) := by
  rw [List.drop_eq_getElem_cons (by simpa using h), List.getElem_map, List.getD_eq_getElem?_getD, List.getElem?_eq_getElem h]; rfl
section
variable {sF : List ApiStep → Option (List UInt8)} {s_l1 : List ApiStep → List UInt8 → Int → Option (List UInt8)} {K : Nat} {v0 : List ApiStep} {i : Nat}
theorem args_l2 (hi : i < v0.length) (hv : v0.length ≤ 1000) (hA : ∀ a ∈ (v0.getD i default).Args, ArgTx sF K a) (h12 : (v0.getD i default).Args.length ≤ 12) : ∀ (k j : Nat) (acc : List UInt8), 1 ≤ j → j ≤ (v0.getD i default).Args.length → (v0.getD i default).Args.length < k + j →
    acc.length + (commaTail ((argsT (v0.getD i default).Args).drop j)).length ≤ 10000000000000 → offshootref13_Steps.l2 sF s_l1 K k v0 acc (i : Int) (j : Int) = s_l1 v0 ((acc ++ commaTail ((argsT (v0.getD i default).Args).drop j)) ++ [41]) ((i + 1 : Nat) : Int) := by
  intro k
  induction k with
  | zero => intro j acc h1 h2 h3; omega
  | succ k ih =>
    intro j acc h1 h2 h3 h4
    rw [offshootref13_Steps.l2, if_pos (by omega), Int.toNat_natCast]
    by_cases hj : j < (v0.getD i default).Args.length
    · rw [argsT_map] at h4 ⊢
      rw [getD_map_drop argT _ j hj] at h4 ⊢
      simp only [commaTail, List.map_cons, List.flatten_cons, List.length_append, List.length_cons, List.length_nil] at h4
      rw [if_pos (by simp only [decide_eq_true_eq]; omega), if_pos (by omega), if_pos (by omega), if_pos (by simp only [decide_eq_true_eq]; omega), if_pos (by simp only [List.length_cons, List.length_nil]; omega)]
      rw [j3_eq (a := (v0.getD i default).Args.getD j default) (by rw [Int.toNat_natCast, Int.toNat_natCast]) (hA _ (getD_mem _ _ hj)) (by simp; omega)]
      rw [W_in (by omega) (by omega), show (j : Int) + 1 = ((j + 1 : Nat) : Int) from by omega]
      have := ih (j + 1) ((acc ++ [44, 32]) ++ argT ((v0.getD i default).Args.getD j default)) (by omega) (by omega) (by omega) (by rw [argsT_map]; simp only [commaTail, List.length_append, List.length_cons, List.length_nil]; omega)
      rw [this, argsT_map]
      simp [commaTail]
    · have e : j = (v0.getD i default).Args.length := by omega
      have hd : (argsT (v0.getD i default).Args).drop j = [] := by rw [argsT_map]; exact List.drop_of_length_le (by rw [List.length_map]; omega)
      rw [hd] at h4 ⊢
      simp only [commaTail, List.map_nil, List.flatten_nil, List.length_nil] at h4 ⊢
      rw [if_neg (by simp only [decide_eq_true_eq]; omega), if_pos (by simp only [List.length_cons, List.length_nil]; omega), W_in (by omega) (by omega), List.append_nil]
      rfl
theorem args_first (hi : i < v0.length) (hv : v0.length ≤ 1000) (hA : ∀ a ∈ (v0.getD i default).Args, ArgTx sF K a) (h12 : (v0.getD i default).Args.length ≤ 12) (k : Nat) (hk : 20 ≤ k) (acc : List UInt8)
    (h4 : acc.length + (commas (argsT (v0.getD i default).Args)).length ≤ 10000000000000) : offshootref13_Steps.l2 sF s_l1 K k v0 acc (i : Int) 0 = s_l1 v0 ((acc ++ commas (argsT (v0.getD i default).Args)) ++ [41]) ((i + 1 : Nat) : Int) := by
  obtain ⟨k, rfl⟩ : ∃ k', k = k' + 1 := ⟨k - 1, by omega⟩
  rw [offshootref13_Steps.l2, if_pos (by omega), Int.toNat_natCast]
  cases ha : (v0.getD i default).Args with
  | nil =>
    rw [ha] at h4
    simp only [argsT, commas, List.length_nil] at h4 ⊢
    rw [if_neg (by simp), if_pos (by simp; omega), W_in (by omega) (by omega), List.append_nil]
    rfl
  | cons a r =>
    have hA' := hA
    have hlen : (v0.getD i default).Args.length = r.length + 1 := by rw [ha]; rfl
    rw [ha] at h4
    rw [argsT, commas_tail] at h4
    simp only [List.length_append] at h4
    have e0 : (0 : Int) = ((0 : Nat) : Int) := rfl
    rw [if_pos (by simp), if_pos (by omega), if_pos (by simp), if_neg (by simp)]
    rw [j3_eq (a := a) (by rw [Int.toNat_natCast, ha]; rfl) (hA a (by rw [ha]; simp)) (by omega)]
    rw [show IntKind.wrap .i64 ((0 : Int) + 1) = ((1 : Nat) : Int) from by decide]
    have hd : (argsT (v0.getD i default).Args).drop 1 = argsT r := by rw [ha, argsT]; rfl
    have := args_l2 (s_l1 := s_l1) hi hv hA h12 k 1 (acc ++ argT a) (by omega) (by omega) (by omega) (by rw [hd]; simp only [List.length_append]; omega)
    rw [this, hd, argsT, commas_tail]
    simp
end
theorem steps_j1 {sF : List ApiStep → Option (List UInt8)} {s_l1 : List ApiStep → List UInt8 → Int → Option (List UInt8)} {K : Nat} {v0 : List ApiStep} {i : Nat} (hK : 20 ≤ K) (hi : i < v0.length) (hv : v0.length ≤ 1000) (hA : ∀ a ∈ (v0.getD i default).Args, ArgTx sF K a) (h12 : (v0.getD i default).Args.length ≤ 12) (acc : List UInt8)
    (h4 : acc.length + (stepT (v0.getD i default)).length ≤ 10000000000000) : offshootref13_Steps.j1 sF s_l1 K v0 acc (i : Int) = s_l1 v0 (acc ++ stepT (v0.getD i default)) ((i + 1 : Nat) : Int) := by
  rw [stepT_eq] at h4 ⊢
  simp only [List.length_append, List.length_cons, List.length_nil] at h4
  unfold offshootref13_Steps.j1
  rw [if_pos (by omega), Int.toNat_natCast, if_pos (by simp only [List.length_cons, List.length_nil]; omega), if_pos (by simp only [List.length_append, List.length_cons, List.length_nil]; omega)]
  rw [args_first hi hv hA h12 K hK _ (by simp only [List.length_append, List.length_cons, List.length_nil]; omega)]
  simp
theorem st_l1 {sF : List ApiStep → Option (List UInt8)} {K : Nat} {v0 : List ApiStep} (hK : 20 ≤ K) (hv : v0.length ≤ 1000) (hA : ∀ s ∈ v0, s.Args.length ≤ 12 ∧ ∀ a ∈ s.Args, ArgTx sF K a) : ∀ (k i : Nat) (acc : List UInt8), 1 ≤ i → i ≤ v0.length → v0.length < k + i →
    acc.length + (dotTail ((stepsT v0).drop i)).length ≤ 1000000000000 → offshootref13_Steps.l1 sF K k v0 acc (i : Int) = some (acc ++ dotTail ((stepsT v0).drop i)) := by
  intro k
  induction k with
  | zero => intro i acc h1 h2 h3; omega
  | succ k ih =>
    intro i acc h1 h2 h3 h4
    rw [offshootref13_Steps.l1]
    by_cases hi : i < v0.length
    · rw [stepsT_map] at h4 ⊢
      rw [getD_map_drop stepT _ i hi] at h4 ⊢
      simp only [dotTail, List.map_cons, List.flatten_cons, List.length_append, List.length_cons, List.length_nil] at h4
      rw [if_pos (by simp only [decide_eq_true_eq]; omega), if_pos (by simp only [decide_eq_true_eq]; omega), if_pos (by simp; omega)]
      have hm := hA _ (getD_mem _ _ hi)
      rw [steps_j1 hK hi hv hm.2 hm.1 _ (by simp only [List.length_append, List.length_cons, List.length_nil]; omega)]
      rw [ih (i + 1) _ (by omega) (by omega) (by omega) (by rw [stepsT_map]; simp only [dotTail, List.length_append, List.length_cons, List.length_nil]; omega), stepsT_map]
      simp [dotTail]
    · have e : i = v0.length := by omega
      have hd : (stepsT v0).drop i = [] := by rw [stepsT_map]; exact List.drop_of_length_le (by simp; omega)
      rw [hd, if_neg (by simp only [decide_eq_true_eq]; omega)]
      simp [dotTail]
theorem steps_b {sF : List ApiStep → Option (List UInt8)} {K : Nat} {v0 : List ApiStep} (hK : 2000 ≤ K) (hv : v0.length ≤ 1000) (hA : ∀ s ∈ v0, s.Args.length ≤ 12 ∧ ∀ a ∈ s.Args, ArgTx sF K a) (hl : (dots (stepsT v0)).length ≤ 100000000000) : offshootref13_Steps.b sF K v0 = some (dots (stepsT v0)) := by
  unfold offshootref13_Steps.b
  obtain ⟨k, hk⟩ : ∃ k, K = k + 1 := ⟨K - 1, by omega⟩
  cases v0 with
  | nil => rw [hk, offshootref13_Steps.l1]; simp [stepsT, dots]
  | cons s r =>
    rw [stepsT, dots] at hl ⊢
    simp only [List.length_append] at hl
    have hm := hA s List.mem_cons_self
    have e0 : (0 : Int) = ((0 : Nat) : Int) := rfl
    have hlc : (s :: r).length = r.length + 1 := rfl
    have hg : List.getD (s :: r) 0 default = s := rfl
    have h1 : offshootref13_Steps.l1 sF K K (s :: r) [] 0 = offshootref13_Steps.j1 sF (offshootref13_Steps.l1 sF K k) K (s :: r) [] 0 := by
      conv => lhs; rw [show offshootref13_Steps.l1 sF K K = offshootref13_Steps.l1 sF K (k + 1) by rw [hk]]
      rw [offshootref13_Steps.l1, if_pos (by simp only [decide_eq_true_eq]; omega), if_neg (by simp)]
    rw [h1, e0, steps_j1 (by omega) (by simp) hv (by rw [hg]; exact hm.2) (by rw [hg]; exact hm.1) [] (by rw [hg]; simp; omega), hg]
    have hd : (stepsT (s :: r)).drop 1 = stepsT r := by rw [stepsT]; rfl
    rw [st_l1 (by omega) hv hA k 1 _ (by omega) (by omega) (by omega) (by rw [hd]; simp; omega), hd]
    simp
theorem wP_arg {a : ApiArg} (h : GA1 a) (F : Nat → List ApiStep → Option (List UInt8)) (K : Nat) (hK : 6000000 ≤ K) (hF : a.Kind = 3 → F K a.T = some (dots (stepsT a.T))) (hn : nS a.T ≤ 600) : ArgTx (F K) K a := by
  have hl := ag_len a h
  obtain ⟨k, v, p, T⟩ := a
  have h0 := h
  simp only [GA1] at h
  obtain ⟨h1, h2, h3, h4, h5, h6⟩ := h
  simp only at hF hn
  refine ⟨fun e => ?_, hF, fun e2 e3 e4 => ?_, ?_⟩
  · simp only at e
    rcases h6 with ⟨rfl, _⟩ | ⟨_, _, a1, _⟩ | ⟨rfl, _⟩ | ⟨rfl, _⟩
    · omega
    · exact pred_text _ p K a1.2 (by omega) a1.1 (by omega)
    · omega
    · omega
  · simp only at e2 e3 e4
    rcases h6 with ⟨_, a1, _⟩ | ⟨rfl, _⟩ | ⟨rfl, _⟩ | ⟨rfl, _⟩
    · exact value_text K v a1 h1 (by omega)
    · omega
    · omega
    · omega
  · simp only [nA1] at hl
    omega
theorem steps_text : ∀ (n : Nat) (l : List ApiStep) (K : Nat), nS l ≤ n → n ≤ 600 → GS l → l.length ≤ 150 → 7000000 + n ≤ K → offshootref13_Steps.f K l = some (dots (stepsT l)) := by
  intro n
  induction n with
  | zero =>
    intro l K h1 h2 h3 h4 h5
    have : l = [] := by
      cases l with
      | nil => rfl
      | cons x r => have := nS_pos (x :: r) (by simp); omega
    subst this
    obtain ⟨K, rfl⟩ : ∃ k, K = k + 1 := ⟨K - 1, by omega⟩
    rw [offshootref13_Steps.f]
    exact steps_b (by omega) (by simp) (by simp) (by simp [stepsT, dots])
  | succ n ih =>
    intro l K h1 h2 h3 h4 h5
    obtain ⟨K, rfl⟩ : ∃ k, K = k + 1 := ⟨K - 1, by omega⟩
    rw [offshootref13_Steps.f]
    have hl := sts_len l h3
    refine steps_b (by omega) (by omega) (getD_all fun i hi => ?_) (by omega)
    have hs := GS_get l i h3 hi
    have hn := nS_get l i hi
    rw [nS1_eq] at hn
    refine ⟨hs.split.1, getD_all fun j hj => ?_⟩
    have ha := GA_get _ j hs.split.2 hj
    have hna := nA_get _ j hj
    have hg := ha.split
    exact wP_arg ha offshootref13_Steps.f K (by omega) (fun _ => ih _ K (by omega) (by omega) hg.2.2.2.2 hg.2.2.2.1 (by omega)) (by omega)
end Go.Proofs.Ytbjbgodcenopnaa
namespace Go.Proofs.Ytbjbgodcenopnaa
set_option linter.unusedVariables false
set_option linter.unusedSimpArgs false
set_option maxHeartbeats 1000000
abbrev sgW (c : UInt8) : ApiWord := ⟨5, [c], 0, 0, 0⟩
abbrev nmW (n : List UInt8) : ApiWord := ⟨1, n, 0, 0, 0⟩
def sepTail (c : UInt8) (l : List (List ApiWord)) : List ApiWord := (l.map fun x => sgW c :: x).flatten
def sepToks (c : UInt8) : List (List ApiWord) → List ApiWord
  | [] => []
  | x :: r => x ++ sepTail c r
theorem sepTail_cons (c : UInt8) (x : List ApiWord) (r : List (List ApiWord)) : sepTail c (x :: r) = sgW c :: (x ++ sepTail c r) := by simp [sepTail]
theorem toksTl_sep : ∀ l, toksTl l = sepTail 44 (l.map toksV)
  | [] => by simp [toksTl, sepTail]
  | x :: r => by rw [toksTl, toksTl_sep r, List.map_cons, sepTail_cons]; rfl
theorem toksL_sep : ∀ l, toksL l = sepToks 44 (l.map toksV)
  | [] => by simp [toksL, sepToks]
  | x :: r => by rw [toksL, toksTl_sep r]; rfl
def LexE (K : Nat) (s : List UInt8) (T : List ApiWord) : Prop := ∀ (k : Nat) (acc : List ApiWord) (d : UInt8) (rest : List UInt8) (i : Int), Ends d → ((s ++ d :: rest).length : Int) ≤ 3000 → (s ++ d :: rest).length < k → Lx K k acc (s ++ d :: rest) i T (d :: rest)
def LexR (K : Nat) (s : List UInt8) (T : List ApiWord) : Prop := ∀ (k : Nat) (acc : List ApiWord) (rest : List UInt8) (i : Int), ((s ++ rest).length : Int) ≤ 3000 → (s ++ rest).length < k → Lx K k acc (s ++ rest) i T rest
theorem LexR.e {K : Nat} {s : List UInt8} {T : List ApiWord} (h : LexR K s T) : LexE K s T := fun k acc d rest i _ h1 h2 => h k acc (d :: rest) i h1 h2
theorem lex_commaTail {α : Type} (f : α → List UInt8) (g : α → List ApiWord) (K : Nat) {cl : UInt8} (hcl : Ends cl) : ∀ (l : List α), (∀ x ∈ l, LexE K (f x) (g x)) → ∀ (k : Nat) (acc : List ApiWord) (rest : List UInt8) (i : Int), ((commaTail (l.map f) ++ cl :: rest).length : Int) ≤ 3000 → (commaTail (l.map f) ++ cl :: rest).length < k → Lx K k acc (commaTail (l.map f) ++ cl :: rest) i (sepTail 44 (l.map g)) (cl :: rest) := by
  intro l
  induction l with
  | nil =>
    intro hm k acc rest i hs hk
    exact Lx.refl hk
  | cons x r ih =>
    intro hm k acc rest i hs hk
    have hct : commaTail ((x :: r).map f) ++ cl :: rest = 44 :: 32 :: (f x ++ (commaTail (r.map f) ++ cl :: rest)) := by simp [commaTail]
    rw [hct] at hs hk ⊢
    rw [List.map_cons, sepTail_cons]
    obtain ⟨d, q, hd, hq⟩ : ∃ d q, commaTail (r.map f) ++ cl :: rest = d :: q ∧ Ends d := by
      cases r with
      | nil => exact ⟨cl, rest, rfl, hcl⟩
      | cons y z => exact ⟨44, 32 :: (f y ++ (commaTail (z.map f) ++ cl :: rest)), by simp [commaTail], .inl rfl⟩
    have hs1 : ((f x ++ (commaTail (r.map f) ++ cl :: rest)).length : Int) ≤ 3000 := by simp only [List.length_cons] at hs; omega
    have hs2 : ((commaTail (r.map f) ++ cl :: rest).length : Int) ≤ 3000 := by rw [List.length_append] at hs1; omega
    refine (Lx.sign 44 (by simp) hk).trans (T' := g x ++ sepTail 44 (r.map g)) fun acc1 k1 i1 h1 => ?_
    refine (Lx.space h1 : Lx K k1 acc1 _ i1 [] _).trans (T' := g x ++ sepTail 44 (r.map g)) fun acc2 k2 i2 h2 => ?_
    have hx := hm x List.mem_cons_self k2 acc2 d q i2 hq (by rw [← hd]; exact hs1) (by rw [← hd]; exact h2)
    rw [← hd] at hx
    exact hx.trans fun acc3 k3 i3 h3 => ih (fun y hy => hm y (List.mem_cons_of_mem _ hy)) k3 acc3 rest i3 hs2 h3
theorem lex_commas {α : Type} (f : α → List UInt8) (g : α → List ApiWord) (K : Nat) {cl : UInt8} (hcl : Ends cl) (l : List α) (hm : ∀ x ∈ l, LexE K (f x) (g x)) (k : Nat) (acc : List ApiWord) (rest : List UInt8) (i : Int) (hs : ((commas (l.map f) ++ cl :: rest).length : Int) ≤ 3000) (hk : (commas (l.map f) ++ cl :: rest).length < k) : Lx K k acc (commas (l.map f) ++ cl :: rest) i (sepToks 44 (l.map g)) (cl :: rest) := by
  cases l with
  | nil => exact Lx.refl hk
  | cons x r =>
    rw [List.map_cons] at hs hk ⊢
    rw [commas_tail, List.append_assoc] at hs hk ⊢
    obtain ⟨d, q, hd, hq⟩ : ∃ d q, commaTail (r.map f) ++ cl :: rest = d :: q ∧ Ends d := by
      cases r with
      | nil => exact ⟨cl, rest, rfl, hcl⟩
      | cons y z => exact ⟨44, 32 :: (f y ++ (commaTail (z.map f) ++ cl :: rest)), by simp [commaTail], .inl rfl⟩
    have hs2 : ((commaTail (r.map f) ++ cl :: rest).length : Int) ≤ 3000 := by rw [List.length_append] at hs; omega
    have hx := hm x List.mem_cons_self k acc d q i hq (by rw [← hd]; exact hs) (by rw [← hd]; exact hk)
    rw [← hd] at hx
    rw [List.map_cons]
    exact hx.trans fun acc3 k3 i3 h3 => lex_commaTail f g K hcl r (fun y hy => hm y (List.mem_cons_of_mem _ hy)) k3 acc3 rest i3 hs2 h3
theorem lex_name (K : Nat) (hK : 100 < K) {nm : List UInt8} (hn : IsName nm) (k : Nat) (acc : List ApiWord) (d : UInt8) (rest : List UInt8) (i : Int) (hd : d = 40 ∨ Ends d ∨ d = 46) (hs : ((nm ++ d :: rest).length : Int) ≤ 3000) (hk : (nm ++ d :: rest).length < k) : Lx K k acc (nm ++ d :: rest) i [nmW nm] (d :: rest) := by
  obtain ⟨h16, hl, c, r, rfl, hc⟩ := hn
  have hd1 : isLet d = false := by rcases hd with rfl | h | rfl; · decide
                                   · exact h.let
                                   · decide
  have hd2 : ¬ (d.toNat : Int) = 39 := by rcases hd with rfl | (rfl | rfl | rfl) | rfl <;> decide
  have hlc := hl c List.mem_cons_self
  have hnt : ∀ e : UInt8, isLet e = true → ¬ (e.toNat : Int) = 39 ∧ ¬ (e.toNat : Int) = 45 ∧ ¬ (e.toNat : Int) = 32 := by
    intro e h
    unfold isLet at h
    simp only [Bool.or_eq_true, Bool.and_eq_true, decide_eq_true_eq] at h
    omega
  have hnd : isDigit c = false → ¬ (48 ≤ (c.toNat : Int) ∧ (c.toNat : Int) ≤ 57) := by
    intro h; unfold isDigit at h; simpa using h
  have h3 := hnt c hlc
  cases r with
  | nil => exact Lx.word (nmW [c]) 1 hk (one_letter K (by omega) c d rest hs hlc hd1 ⟨h3.1, h3.2.1, hnd hc⟩ hd2) (by decide) rfl h3.2.2
  | cons e tok =>
    have hle := hl e (by simp)
    simp only [List.length_cons] at h16
    refine Lx.word (nmW (c :: e :: tok)) (tok.length + 2) hk ?_ (by omega) ?_ h3.2.2
    · have := one_name K (by omega) c e tok d rest hs hlc hle (fun x hx => hl x (by simp [hx])) hd1 (by omega) ⟨h3.1, h3.2.1, hnd hc⟩ (hnt e hle).1
      exact this
    · show (c :: e :: (tok ++ d :: rest)).drop (tok.length + 2) = d :: rest
      simp
abbrev negN : List UInt8 := [110, 101, 103, 97, 116, 101]
mutual
def toksP : ApiPred → List ApiWord
  | ⟨op, l, kids⟩ =>
    if op = andL ∨ op = orL then (toksPs kids).getD 0 [] ++ (sgW 46 :: nmW op :: sgW 40 :: ((toksPs kids).getD 1 [] ++ [sgW 41]))
    else if op = notL then (toksPs kids).getD 0 [] ++ [sgW 46, nmW negN, sgW 40, sgW 41]
    else nmW op :: sgW 40 :: (toksL l ++ [sgW 41])
def toksPs : List ApiPred → List (List ApiWord)
  | [] => []
  | x :: r => toksP x :: toksPs r
end
theorem toksP_base {op : List UInt8} {l : List ApiValue} (h : (predsV op).2 = true) : toksP ⟨op, l, []⟩ = nmW op :: sgW 40 :: (toksL l ++ [sgW 41]) := by
  rw [toksP, if_neg (op_out h).1, if_neg (op_out h).2]
theorem toksP_join {op : List UInt8} {p q : ApiPred} (h : op = andL ∨ op = orL) : toksP ⟨op, [], [p, q]⟩ = toksP p ++ (sgW 46 :: nmW op :: sgW 40 :: (toksP q ++ [sgW 41])) := by
  rw [toksP, if_pos h]; rfl
theorem toksP_neg {p : ApiPred} : toksP ⟨notL, [], [p]⟩ = toksP p ++ [sgW 46, nmW negN, sgW 40, sgW 41] := by
  rw [toksP, if_neg (by decide), if_pos rfl]; rfl
theorem lex_vals (K : Nat) (hK : 100000 < K) {cl : UInt8} (hcl : Ends cl) (l : List ApiValue) (hp : PVs l) (k : Nat) (acc : List ApiWord) (rest : List UInt8) (i : Int) (hs : ((commas (valsT l) ++ cl :: rest).length : Int) ≤ 3000) (hk : (commas (valsT l) ++ cl :: rest).length < k) : Lx K k acc (commas (valsT l) ++ cl :: rest) i (toksL l) (cl :: rest) := by
  rw [valsT_map] at hs hk ⊢
  rw [toksL_sep]
  exact lex_commas valT toksV K hcl l (fun x hx => lexV K hK _ x (Nat.le_refl _) (pv_gd x (pvs_mem hp x hx)) (pv_ok x (pvs_mem hp x hx))) k acc rest i hs hk
theorem op_name {op : List UInt8} (h : op = andL ∨ op = orL) : IsName op := by
  rcases h with rfl | rfl <;> exact ⟨by decide, by decide, _, _, rfl, by decide⟩
theorem neg_name : IsName negN := ⟨by decide, by decide, _, _, rfl, by decide⟩
theorem lex_pred (K : Nat) (hK : 100000 < K) : ∀ (n : Nat) (p : ApiPred), wP p ≤ n → PP p → LexR K (predT p) (toksP p) := by
  intro n
  induction n with
  | zero => intro p h; have := wP_pos p; omega
  | succ n ih =>
    intro p h hp k acc rest i hs hk
    cases hp.kind with
    | base op l h1 h2 h3 h4 h5 =>
      rw [predT_base h2] at hs hk ⊢
      rw [toksP_base h2]
      have e : ((op ++ [40]) ++ commas (valsT l)) ++ [41] ++ rest = op ++ 40 :: (commas (valsT l) ++ 41 :: rest) := by simp
      rw [e] at hs hk ⊢
      refine (lex_name K (by omega) h1 k acc 40 _ i (.inl rfl) hs hk).trans (T' := sgW 40 :: (toksL l ++ [sgW 41])) fun acc1 k1 i1 h1 => ?_
      simp only [List.length_append, List.length_cons] at hs
      refine (Lx.sign 40 (by simp) h1).trans (T' := toksL l ++ [sgW 41]) fun acc2 k2 i2 h2 => ?_
      refine (lex_vals K hK (.inr (.inr rfl)) l h5 k2 acc2 rest i2 (by simp only [List.length_append, List.length_cons]; omega) h2).trans fun acc3 k3 i3 h3 => ?_
      exact Lx.sign 41 (by simp) h3
    | join op p q ho h1 h2 =>
      rw [wP, wL, wPs, wPs, wPs] at h
      rw [predT_join ho] at hs hk ⊢
      rw [toksP_join ho]
      have e : ((((predT p ++ [46]) ++ op) ++ [40]) ++ predT q) ++ [41] ++ rest = predT p ++ (46 :: (op ++ 40 :: (predT q ++ 41 :: rest))) := by simp
      rw [e] at hs hk ⊢
      refine (ih p (by omega) h1 k acc _ i hs hk).trans (T' := sgW 46 :: nmW op :: sgW 40 :: (toksP q ++ [sgW 41])) fun acc1 k1 i1 g1 => ?_
      simp only [List.length_append, List.length_cons] at hs
      refine (Lx.sign 46 (by simp) g1).trans (T' := nmW op :: sgW 40 :: (toksP q ++ [sgW 41])) fun acc2 k2 i2 g2 => ?_
      refine (lex_name K (by omega) (op_name ho) k2 acc2 40 _ i2 (.inl rfl) (by simp only [List.length_append, List.length_cons]; omega) g2).trans (T' := sgW 40 :: (toksP q ++ [sgW 41])) fun acc3 k3 i3 g3 => ?_
      refine (Lx.sign 40 (by simp) g3).trans (T' := toksP q ++ [sgW 41]) fun acc4 k4 i4 g4 => ?_
      refine (ih q (by omega) h2 k4 acc4 _ i4 (by simp only [List.length_append, List.length_cons]; omega) g4).trans fun acc5 k5 i5 g5 => ?_
      exact Lx.sign 41 (by simp) g5
    | neg p h1 =>
      rw [wP, wL, wPs, wPs] at h
      rw [predT_neg] at hs hk ⊢
      rw [toksP_neg]
      have e : predT p ++ negL ++ rest = predT p ++ (46 :: (negN ++ 40 :: 41 :: rest)) := by simp [negL, negN]
      rw [e] at hs hk ⊢
      refine (ih p (by omega) h1 k acc _ i hs hk).trans (T' := [sgW 46, nmW negN, sgW 40, sgW 41]) fun acc1 k1 i1 g1 => ?_
      simp only [List.length_append, List.length_cons] at hs
      refine (Lx.sign 46 (by simp) g1).trans (T' := [nmW negN, sgW 40, sgW 41]) fun acc2 k2 i2 g2 => ?_
      refine (lex_name K (by omega) neg_name k2 acc2 40 _ i2 (.inl rfl) (by simp only [List.length_append, List.length_cons]; omega) g2).trans (T' := [sgW 40, sgW 41]) fun acc3 k3 i3 g3 => ?_
      refine (Lx.sign 40 (by simp) g3).trans (T' := [sgW 41]) fun acc4 k4 i4 g4 => ?_
      exact Lx.sign 41 (by simp) g4
mutual
def toksS1 : ApiStep → List ApiWord
  | ⟨nm, args⟩ => nmW nm :: sgW 40 :: (sepToks 44 (toksAs args) ++ [sgW 41])
def toksAs : List ApiArg → List (List ApiWord)
  | [] => []
  | a :: r => toksA a :: toksAs r
def toksA : ApiArg → List ApiWord
  | ⟨k, v, p, T⟩ => if k = 2 then toksP p else if k = 3 then nmW [95, 95] :: sgW 46 :: sepToks 46 (toksSs T) else if k = 4 then [nmW v.S] else toksV v
def toksSs : List ApiStep → List (List ApiWord)
  | [] => []
  | s :: r => toksS1 s :: toksSs r
end
theorem toksAs_map : ∀ l, toksAs l = l.map toksA
  | [] => by simp [toksAs]
  | x :: r => by simp [toksAs, toksAs_map r]
theorem toksSs_map : ∀ l, toksSs l = l.map toksS1
  | [] => by simp [toksSs]
  | x :: r => by simp [toksSs, toksSs_map r]
theorem toksS1_eq (s : ApiStep) : toksS1 s = nmW s.Name :: sgW 40 :: (sepToks 44 (s.Args.map toksA) ++ [sgW 41]) := by cases s; rw [toksS1, toksAs_map]
theorem lex_dotTail (K : Nat) : ∀ (l : List ApiStep), (∀ x ∈ l, LexR K (stepT x) (toksS1 x)) → LexR K (dotTail (l.map stepT)) (sepTail 46 (l.map toksS1)) := by
  intro l
  induction l with
  | nil =>
    intro hm k acc rest i hs hk
    exact Lx.refl hk
  | cons x r ih =>
    intro hm k acc rest i hs hk
    have hct : dotTail ((x :: r).map stepT) ++ rest = 46 :: (stepT x ++ (dotTail (r.map stepT) ++ rest)) := by simp [dotTail]
    rw [hct] at hs hk ⊢
    rw [List.map_cons, sepTail_cons]
    have hs1 : ((stepT x ++ (dotTail (r.map stepT) ++ rest)).length : Int) ≤ 3000 := by simp only [List.length_cons] at hs; omega
    have hs2 : ((dotTail (r.map stepT) ++ rest).length : Int) ≤ 3000 := by rw [List.length_append] at hs1; omega
    refine (Lx.sign 46 (by simp) hk).trans (T' := toksS1 x ++ sepTail 46 (r.map toksS1)) fun acc1 k1 i1 h1 => ?_
    exact (hm x List.mem_cons_self k1 acc1 _ i1 hs1 h1).trans fun acc3 k3 i3 h3 => ih (fun y hy => hm y (List.mem_cons_of_mem _ hy)) k3 acc3 rest i3 hs2 h3
theorem lex_dots (K : Nat) (l : List ApiStep) (hm : ∀ x ∈ l, LexR K (stepT x) (toksS1 x)) : LexR K (dots (stepsT l)) (sepToks 46 (l.map toksS1)) := by
  intro k acc rest i hs hk
  cases l with
  | nil => exact Lx.refl hk
  | cons x r =>
    rw [stepsT, dots, List.append_assoc, stepsT_map] at hs hk ⊢
    have hs2 : ((dotTail (r.map stepT) ++ rest).length : Int) ≤ 3000 := by rw [List.length_append] at hs; omega
    rw [List.map_cons]
    exact (hm x List.mem_cons_self k acc _ i hs hk).trans fun acc3 k3 i3 h3 => lex_dotTail K r (fun y hy => hm y (List.mem_cons_of_mem _ hy)) k3 acc3 rest i3 hs2 h3
theorem lex_arg (K : Nat) (hK : 100000 < K) (a : ApiArg) (h : GA1 a) (hT : a.Kind = 3 → LexR K (dots (stepsT a.T)) (sepToks 46 (a.T.map toksS1))) : LexE K (argT a) (toksA a) := by
  obtain ⟨k, v, p, T⟩ := a
  simp only [GA1] at h
  simp only at hT
  obtain ⟨h1, h2, h3, h4, h5, h6⟩ := h
  rw [argT, toksA, toksSs_map]
  rcases h6 with ⟨rfl, a1, _⟩ | ⟨rfl, _, a1, _⟩ | ⟨rfl, _, _⟩ | ⟨rfl, ⟨nm, rfl, a1, _⟩, _, _⟩
  · rw [if_neg (by decide), if_neg (by decide), if_neg (by decide), if_neg (by decide), if_neg (by decide), if_neg (by decide)]
    exact lexV K hK _ v (Nat.le_refl _) (pv_gd v a1) (pv_ok v a1)
  · rw [if_pos rfl, if_pos rfl]
    exact (lex_pred K hK _ p (Nat.le_refl _) a1.1).e
  · rw [if_neg (by decide), if_pos rfl, if_neg (by decide), if_pos rfl]
    intro k acc d rest i hd hs hk
    have e : [95, 95, 46] ++ dots (stepsT T) ++ d :: rest = [95, 95] ++ 46 :: (dots (stepsT T) ++ d :: rest) := by simp
    rw [e] at hs hk ⊢
    have hn : IsName [95, 95] := ⟨by decide, by decide, _, _, rfl, by decide⟩
    refine (lex_name K (by omega) hn k acc 46 _ i (.inr (.inr rfl)) hs hk).trans (T' := sgW 46 :: sepToks 46 (T.map toksS1)) fun acc1 k1 i1 g1 => ?_
    simp only [List.length_append, List.length_cons] at hs
    refine (Lx.sign 46 (by simp) g1).trans fun acc2 k2 i2 g2 => ?_
    exact hT rfl k2 acc2 (d :: rest) i2 (by simp only [List.length_append, List.length_cons]; omega) g2
  · rw [if_neg (by decide), if_neg (by decide), if_pos rfl, if_neg (by decide), if_neg (by decide), if_pos rfl]
    intro k acc d rest i hd hs hk
    exact lex_name K (by omega) a1 k acc d rest i (.inr (.inl hd)) hs hk
theorem lex_step (K : Nat) (hK : 100000 < K) (s : ApiStep) (h : GS1 s) (hA : ∀ a ∈ s.Args, LexE K (argT a) (toksA a)) : LexR K (stepT s) (toksS1 s) := by
  intro k acc rest i hs hk
  rw [stepT_eq, argsT_map] at hs hk ⊢
  rw [toksS1_eq]
  have e : ((s.Name ++ [40]) ++ commas (s.Args.map argT)) ++ [41] ++ rest = s.Name ++ 40 :: (commas (s.Args.map argT) ++ 41 :: rest) := by simp
  rw [e] at hs hk ⊢
  refine (lex_name K (by omega) h.split3.2.2 k acc 40 _ i (.inl rfl) hs hk).trans (T' := sgW 40 :: (sepToks 44 (s.Args.map toksA) ++ [sgW 41])) fun acc1 k1 i1 h1 => ?_
  simp only [List.length_append, List.length_cons] at hs
  refine (Lx.sign 40 (by simp) h1).trans (T' := sepToks 44 (s.Args.map toksA) ++ [sgW 41]) fun acc2 k2 i2 h2 => ?_
  refine (lex_commas argT toksA K (.inr (.inr rfl)) s.Args hA k2 acc2 rest i2 (by simp only [List.length_append, List.length_cons]; omega) h2).trans fun acc3 k3 i3 h3 => ?_
  exact Lx.sign 41 (by simp) h3
theorem lex_steps (K : Nat) (hK : 100000 < K) : ∀ (n : Nat) (l : List ApiStep), nS l ≤ n → GS l → LexR K (dots (stepsT l)) (sepToks 46 (l.map toksS1)) := by
  intro n
  induction n with
  | zero =>
    intro l h1 h2
    have : l = [] := by
      cases l with
      | nil => rfl
      | cons x r => have := nS_pos (x :: r) (by simp); omega
    subst this
    exact lex_dots K [] (by simp)
  | succ n ih =>
    intro l h1 h3
    refine lex_dots K l (getD_all fun i hi => ?_)
    have hs := GS_get l i h3 hi
    have hn := nS_get l i hi
    rw [nS1_eq] at hn
    refine lex_step K hK _ hs (getD_all fun j hj => ?_)
    have ha := GA_get _ j hs.split.2 hj
    have hna := nA_get _ j hj
    exact lex_arg K hK _ ha fun _ => ih _ (by omega) ha.split.2.2.2.2
end Go.Proofs.Ytbjbgodcenopnaa
namespace Go.Proofs.Ytbjbgodcenopnaa
set_option linter.unusedVariables false
set_option linter.unusedSimpArgs false
set_option maxHeartbeats 1000000
theorem is_err {s : St12} (he : s.E ≠ 0) (sg : List UInt8) : p12_is.f s sg = some false := by
  have e : decide (s.E = 0) = false := by simpa using he
  unfold p12_is.f
  rw [if_pos (fun h => by rw [e] at h; cases h), if_pos (fun h => by rw [e] at h; cases h), e]; rfl
theorem drop_next {α : Type} {L : List α} {i : Int} {w : α} {r : List α} (h0 : 0 ≤ i) (hd : L.drop i.toNat = w :: r) : L.drop (i + 1).toNat = r := (adrop_lt h0 hd).2.1
theorem drop_split {α : Type} {L : List α} {i : Int} {W R : List α} (h0 : 0 ≤ i) (hd : L.drop i.toNat = W ++ R) : L.drop (i + (W.length : Int)).toNat = R := by
  rw [show (i + (W.length : Int)).toNat = i.toNat + W.length from by omega, ← List.drop_drop, hd, List.drop_left]
theorem Like.len {W T : List ApiWord} (h : Like W T) : W.length = T.length := by
  have := congrArg List.length h
  simpa using this
theorem vals_bad {s : St12} (he : s.E ≠ 0) (sg : List UInt8) (K : Nat) (hK : 5 ≤ K) : p12_values.f K s sg = some (s, []) := by
  obtain ⟨K, rfl⟩ : ∃ q, K = q + 1 + 1 := ⟨K - 2, by omega⟩
  rw [p12_values.f, p12_values.b, vals_err _ _ _ _ _ _ _ he]
theorem pred_j1_eq (zpr : Y12) (K : Nat) (p : ApiPred) (s0 s : St12) : p12_pred.j1 zpr K p s0 s = some ((⟨s.L, s.I, s0.Deep, s.Steps, s.At, s.E⟩ : St12), p) := rfl
theorem pred_l1_err (zpr : Y12) (K k : Nat) (p : ApiPred) (s0 s : St12) (he : s.E ≠ 0) : ∃ r, p12_pred.l1 zpr K (k + 1) p s0 s = some r ∧ r.1.E ≠ 0 := by
  rw [p12_pred.l1, is_err he, Option.bind_some, if_neg (by simp), pred_j1_eq]
  exact ⟨_, rfl, he⟩
theorem pred_j3_err (zpr : Y12) (K k : Nat) (p : ApiPred) (s0 s : St12) (he : s.E ≠ 0) : ∃ r, p12_pred.j3 zpr (p12_pred.l1 zpr K (k + 1)) K s0 p s = some r ∧ r.1.E ≠ 0 := by
  unfold p12_pred.j3
  rw [sign_err he, Option.bind_some]
  exact pred_l1_err zpr K k p s0 s he
theorem pred_j2_err (zpr : Y12) (g : ApiPred → St12 → St12 → Option (St12 × ApiPred)) (K : Nat) (p : ApiPred) (s0 y6 s : St12) (he : s.E ≠ 0) : ∃ r, p12_pred.j2 zpr g K s0 p y6 s = some r ∧ r.1.E ≠ 0 := by
  unfold p12_pred.j2
  rw [if_pos (by simpa using he), pred_j1_eq]
  exact ⟨_, rfl, he⟩
def Free (c : UInt8) (R : List ApiWord) : Prop := ∃ w r, R = w :: r ∧ ¬ (w.Kind = 5 ∧ w.S = [c])
def TakesP (F : PF) (p : ApiPred) : Prop :=
  ∀ (L : List ApiWord) (i D S A : Int) (W R : List ApiWord), 0 ≤ i → L.length ≤ 5000 → 0 ≤ D → D ≤ 12 → L.drop i.toNat = W ++ R → Free 46 R → Like W (toksP p) → ∃ r, F ⟨L, i, D, S, A, 0⟩ = some r ∧ (r.1.E ≠ 0 ∨ r = (⟨L, i + W.length, D, S, A, 0⟩, p))
def PAt (F : PF) (K : Nat) (p : ApiPred) : Prop :=
  ∀ (L : List ApiWord) (i D S A : Int) (W R : List ApiWord), 0 ≤ i → L.length ≤ 5000 → 0 ≤ D → D ≤ 12 → L.drop i.toNat = W ++ R → R ≠ [] → Like W (toksP p) →
    (∃ r, p12_pred.b F K ⟨L, i, D, S, A, 0⟩ = some r ∧ r.1.E ≠ 0) ∨ ∃ (k : Nat) (E : Int), K + 1 ≤ k + wP p ∧ D ≤ E ∧ E ≤ 12 ∧ p12_pred.b F K ⟨L, i, D, S, A, 0⟩ = p12_pred.l1 F K k p ⟨L, i, D, S, A, 0⟩ ⟨L, i + W.length, E, S, A, 0⟩
theorem pred_link (F : PF) (K k : Nat) (p : ApiPred) (s0 : St12) (L : List ApiWord) (i E S A : Int) (w1 w2 w3 : ApiWord) (r : List ApiWord) (h0 : 0 ≤ i) (hl : L.length ≤ 5000) (hE : 0 ≤ E) (hE' : E ≤ 12) (hd : L.drop i.toNat = w1 :: w2 :: w3 :: r)
    (h1 : w1.Kind = 5) (h1' : w1.S = [46]) (h2 : w2.Kind = 1) (h3 : w3.Kind = 5) (h3' : w3.S = [40]) :
    (∃ q, p12_pred.l1 F K (k + 1) p s0 ⟨L, i, E, S, A, 0⟩ = some q ∧ q.1.E ≠ 0) ∨
      (E < 12 ∧ p12_pred.l1 F K (k + 1) p s0 ⟨L, i, E, S, A, 0⟩ = (if (decide (w2.S = ([97, 110, 100] : List UInt8))) = true then p12_pred.j4 F (p12_pred.l1 F K k) K s0 p ⟨L, i + 1, E + 1, S, A, 0⟩ ⟨L, i + 1 + 1 + 1, E + 1, S, A, 0⟩ w2.S w2.S (decide (w2.S = ([97, 110, 100] : List UInt8))) else p12_pred.j4 F (p12_pred.l1 F K k) K s0 p ⟨L, i + 1, E + 1, S, A, 0⟩ ⟨L, i + 1 + 1 + 1, E + 1, S, A, 0⟩ w2.S w2.S (decide (w2.S = ([111, 114] : List UInt8))))) := by
  have a1 := adrop_lt h0 hd
  have d1 := a1.2.1
  have a2 := adrop_lt (by omega) d1
  have d2 := a2.2.1
  rw [p12_pred.l1, is_at h0 hd, Option.bind_some, h1, h1', if_pos (by simp)]
  dsimp only
  rw [W_in (by omega) (by omega)]
  by_cases h12 : 12 ≤ E
  · left
    rw [into_most (by omega) d1 h12, Option.bind_some]
    dsimp only
    rw [if_pos (fun h => by simp at h), if_neg (by simp)]
    exact pred_j2_err F _ K p s0 _ _ (by show (3 : Int) ≠ 0; decide)
  · right
    refine ⟨by omega, ?_⟩
    rw [into_ok hE (by omega), Option.bind_some]
    dsimp only
    rw [if_pos (fun _ => ⟨by omega, a2.1⟩), getD_drop d1, h2, if_neg (by simp)]
    unfold p12_pred.j2
    dsimp only
    rw [if_neg (by simp), if_pos ⟨by omega, a2.1⟩, getD_drop d1, W_in (by omega) (by omega), sign_ok (by omega) hl d2 _ h3 h3', Option.bind_some]
theorem pred_base (K : Nat) (hK : 7000 ≤ K) (F : PF) (op : List UInt8) (l : List ApiValue) (h1 : IsName op) (h2 : (predsV op).2 = true) (h3 : l.length ≤ 12) (h4 : 0 ≤ (predsV op).1 → (l.length : Int) = (predsV op).1) (h5 : PVs l) (hw : wL l ≤ 1600) : PAt F K ⟨op, l, []⟩ := by
  intro L i D S A W R h0 hl hD hD' hd hR hW
  rw [toksP_base h2] at hW
  obtain ⟨w1, W1, rfl, k1, s1, _, _, hW⟩ := hW.cons
  obtain ⟨w2, W2, rfl, k2, s2, _, _, hW⟩ := hW.cons
  obtain ⟨W3, W4, rfl, hW3, hW4⟩ := hW.split
  obtain ⟨w5, W5, rfl, k5, s5, _, _, hW⟩ := hW4.cons
  obtain rfl := hW.nil
  have e : w1 :: w2 :: (W3 ++ [w5]) ++ R = w1 :: w2 :: (W3 ++ w5 :: R) := by simp
  rw [e] at hd
  have a1 := adrop_lt h0 hd
  have d1 := a1.2.1
  have d2 := drop_next (by omega) d1
  unfold p12_pred.b
  dsimp only
  rw [if_pos (fun _ => ⟨h0, a1.1⟩), getD_drop hd, k1, if_neg (by simp), if_pos ⟨h0, a1.1⟩, s1, preds_eq (by omega), Option.bind_some, h2, if_neg (by simp), if_pos ⟨h0, a1.1⟩, W_in (by omega) (by omega), sign_ok (by omega) hl d1 _ k2 s2, Option.bind_some]
  obtain ⟨K, rfl⟩ : ∃ q, K = q + 1 := ⟨K - 1, by omega⟩
  by_cases h12 : 12 ≤ D
  · left
    rw [into_most (by omega) (w := (W3 ++ w5 :: R).head (by simp)) (r := (W3 ++ w5 :: R).tail) (by rw [d2]; simp) h12, Option.bind_some, vals_bad (by show (3 : Int) ≠ 0; decide) _ _ (by omega), Option.bind_some]
    dsimp only
    rw [if_neg (by simp)]
    exact pred_l1_err F (K + 1) K _ _ _ (by show (3 : Int) ≠ 0; decide)
  · rw [into_ok hD (by omega), Option.bind_some]
    obtain ⟨Kv, rfl⟩ : ∃ q, K = q + 1 + 1 := ⟨K - 2, by omega⟩
    have hm : ∀ x ∈ l, Takes (p12_value.f (Kv + 1 + 1)) x := fun x hx => by
      have := wL_mem hx
      rw [← sz_w] at this
      exact value_takes _ x _ (pv_gd x (pvs_mem h5 x hx)) (pv_ok x (pvs_mem h5 x hx)) (Nat.le_refl _) (by omega)
    obtain ⟨r, hr, hr'⟩ := vals_first (sg := [41]) (.inr rfl) (p12_values.f (Kv + 1 + 1)) (Kv + 1 + 1) (value_err (Kv + 1)) l hm (Kv + 1 + 1) L (i + 1 + 1) (D + 1) S A W3 w5 R (by omega) (by omega) (by omega) hl (by omega) (by omega) d2 k5 s5 hW3
    have hv : p12_values.f (Kv + 1 + 1 + 1) ⟨L, i + 1 + 1, D + 1, S, A, 0⟩ [41] = some r := by
      rw [p12_values.f, p12_values.b]; exact hr
    rw [hv, Option.bind_some]
    rcases hr' with rfl | he
    · right
      rw [pvs_cv l h5]
      dsimp only
      rw [if_neg (by
        intro hc
        simp only [Bool.and_eq_true, decide_eq_true_eq, Bool.not_eq_true', decide_eq_false_iff_not] at hc
        exact hc.2 (h4 hc.1.2))]
      refine ⟨Kv + 1 + 1 + 1, D, ?_, Int.le_refl _, hD', ?_⟩
      · rw [wP]; omega
      · congr 2
        simp only [List.length_cons, List.length_append, List.length_nil]
        omega
    · left
      rw [if_neg (by simp [he])]
      exact pred_l1_err F _ (Kv + 1 + 1) _ _ _ he
theorem pred_at (K : Nat) (hK : 9000 ≤ K) (F : PF) (n : Nat) (hn : n ≤ 1600) (hq : ∀ q, wP q < n → PP q → TakesP F q) : ∀ (m : Nat) (p : ApiPred), wP p ≤ m → m ≤ n → PP p → PAt F K p := by
  intro m
  induction m with
  | zero => intro p h; have := wP_pos p; omega
  | succ m ih =>
    intro p h hmn hp
    cases hp.kind with
    | base op l h1 h2 h3 h4 h5 =>
      rw [wP, wPs] at h
      exact pred_base K (by omega) F op l h1 h2 h3 h4 h5 (by omega)
    | join op p q ho h1 h2 =>
      intro L i D S A W R h0 hl hD hD' hd hR hW
      have hpw := wP_pos p
      have hqw := wP_pos q
      have hww : wP ⟨op, [], [p, q]⟩ = 1 + wP p + wP q := by rw [wP, wL, wPs, wPs, wPs]; omega
      rw [hww] at h
      rw [toksP_join ho] at hW
      obtain ⟨W1, W2, rfl, hW1, hW2⟩ := hW.split
      rw [List.append_assoc] at hd
      obtain ⟨w1, W3, rfl, k1, s1, _, _, hW2⟩ := hW2.cons
      obtain ⟨w2, W3, rfl, k2, s2, _, _, hW2⟩ := hW2.cons
      obtain ⟨w3, W3, rfl, k3, s3, _, _, hW2⟩ := hW2.cons
      obtain ⟨W4, W5, rfl, hW4, hW5⟩ := hW2.split
      obtain ⟨w6, W6, rfl, k6, s6, _, _, hW⟩ := hW5.cons
      obtain rfl := hW.nil
      rcases ih p (by omega) (by omega) h1 L i D S A W1 _ h0 hl hD hD' hd (by simp) hW1 with hb | ⟨k, E, hk, hDE, hE, hb⟩
      · exact .inl hb
      have d1 := drop_split h0 hd
      simp only [List.cons_append, List.append_assoc, List.nil_append] at d1
      obtain ⟨k, rfl⟩ : ∃ q, k = q + 1 + 1 := ⟨k - 2, by omega⟩
      rcases pred_link F K (k + 1) p ⟨L, i, D, S, A, 0⟩ L (i + W1.length) E S A w1 w2 w3 _ (by omega) hl (by omega) hE d1 k1 s1 k2 k3 s3 with hb' | ⟨h12, hb'⟩
      · exact .inl (by rw [hb]; exact hb')
      rw [hb, hb']
      have d2 := drop_next (by omega) (drop_next (by omega) (drop_next (by omega) d1))
      obtain ⟨r, hr, hr'⟩ := hq q (by omega) h2 L (i + W1.length + 1 + 1 + 1) (E + 1) S A W4 (w6 :: R) (by omega) hl (by omega) (by omega) d2 ⟨w6, R, rfl, by rw [s6]; simp⟩ hW4
      have key : (∃ q', p12_pred.j4 F (p12_pred.l1 F K (k + 1)) K ⟨L, i, D, S, A, 0⟩ p ⟨L, i + W1.length + 1, E + 1, S, A, 0⟩ ⟨L, i + W1.length + 1 + 1 + 1, E + 1, S, A, 0⟩ w2.S w2.S true = some q' ∧ q'.1.E ≠ 0) ∨
          p12_pred.j4 F (p12_pred.l1 F K (k + 1)) K ⟨L, i, D, S, A, 0⟩ p ⟨L, i + W1.length + 1, E + 1, S, A, 0⟩ ⟨L, i + W1.length + 1 + 1 + 1, E + 1, S, A, 0⟩ w2.S w2.S true = p12_pred.l1 F K (k + 1) ⟨op, [], [p, q]⟩ ⟨L, i, D, S, A, 0⟩ ⟨L, i + W1.length + 1 + 1 + 1 + W4.length + 1, E + 1, S, A, 0⟩ := by
        unfold p12_pred.j4
        rw [if_pos rfl, if_pos (by simp), hr, Option.bind_some]
        rcases hr' with he | rfl
        · exact .inl (pred_j3_err F K k _ _ _ he)
        · right
          unfold p12_pred.j3
          dsimp only
          rw [sign_ok (by omega) hl (drop_split (by omega) d2) _ k6 s6, Option.bind_some, s2]
      have hfin : (∃ q', p12_pred.j4 F (p12_pred.l1 F K (k + 1)) K ⟨L, i, D, S, A, 0⟩ p ⟨L, i + W1.length + 1, E + 1, S, A, 0⟩ ⟨L, i + W1.length + 1 + 1 + 1, E + 1, S, A, 0⟩ w2.S w2.S true = some q' ∧ q'.1.E ≠ 0) ∨
          ∃ (k' : Nat) (E' : Int), K + 1 ≤ k' + wP ⟨op, [], [p, q]⟩ ∧ D ≤ E' ∧ E' ≤ 12 ∧ p12_pred.j4 F (p12_pred.l1 F K (k + 1)) K ⟨L, i, D, S, A, 0⟩ p ⟨L, i + W1.length + 1, E + 1, S, A, 0⟩ ⟨L, i + W1.length + 1 + 1 + 1, E + 1, S, A, 0⟩ w2.S w2.S true = p12_pred.l1 F K k' ⟨op, [], [p, q]⟩ ⟨L, i, D, S, A, 0⟩ ⟨L, i + ((W1 ++ w1 :: w2 :: w3 :: (W4 ++ [w6])).length : Int), E', S, A, 0⟩ := by
        rcases key with key | key
        · exact .inl key
        · refine .inr ⟨k + 1, E + 1, by rw [hww]; omega, by omega, by omega, ?_⟩
          rw [key]
          congr 2
          simp only [List.length_cons, List.length_append, List.length_nil]
          omega
      rcases ho with rfl | rfl
      · rw [s2] at hfin ⊢; rw [if_pos (by decide)]; exact hfin
      · rw [s2] at hfin ⊢; rw [if_neg (by decide)]; exact hfin
    | neg p h1 =>
      intro L i D S A W R h0 hl hD hD' hd hR hW
      have hpw := wP_pos p
      have hww : wP ⟨notL, [], [p]⟩ = 1 + wP p := by rw [wP, wL, wPs, wPs]; omega
      rw [hww] at h
      rw [toksP_neg] at hW
      obtain ⟨W1, W2, rfl, hW1, hW2⟩ := hW.split
      rw [List.append_assoc] at hd
      obtain ⟨w1, W3, rfl, k1, s1, _, _, hW2⟩ := hW2.cons
      obtain ⟨w2, W3, rfl, k2, s2, _, _, hW2⟩ := hW2.cons
      obtain ⟨w3, W3, rfl, k3, s3, _, _, hW2⟩ := hW2.cons
      obtain ⟨w6, W6, rfl, k6, s6, _, _, hW⟩ := hW2.cons
      obtain rfl := hW.nil
      rcases ih p (by omega) (by omega) h1 L i D S A W1 _ h0 hl hD hD' hd (by simp) hW1 with hb | ⟨k, E, hk, hDE, hE, hb⟩
      · exact .inl hb
      have d1 := drop_split h0 hd
      simp only [List.cons_append, List.nil_append] at d1
      obtain ⟨k, rfl⟩ : ∃ q, k = q + 1 + 1 := ⟨k - 2, by omega⟩
      rcases pred_link F K (k + 1) p ⟨L, i, D, S, A, 0⟩ L (i + W1.length) E S A w1 w2 w3 _ (by omega) hl (by omega) hE d1 k1 s1 k2 k3 s3 with hb' | ⟨h12, hb'⟩
      · exact .inl (by rw [hb]; exact hb')
      rw [hb, hb', s2, if_neg (by decide)]
      have d2 := drop_next (by omega) (drop_next (by omega) (drop_next (by omega) d1))
      right
      refine ⟨k + 1, E + 1, by rw [hww]; omega, by omega, by omega, ?_⟩
      unfold p12_pred.j4
      rw [if_neg (by decide), if_pos (by decide)]
      unfold p12_pred.j3
      rw [sign_ok (by omega) hl d2 _ k6 s6, Option.bind_some]
      congr 2
      simp only [List.length_cons, List.length_append, List.length_nil]
      omega
theorem pred_takes : ∀ (n : Nat) (p : ApiPred) (K : Nat), wP p ≤ n → n ≤ 1600 → PP p → 20000 + n ≤ K → TakesP (p12_pred.f K) p := by
  intro n
  induction n with
  | zero => intro p K h; have := wP_pos p; omega
  | succ n ih =>
    intro p K h hn hp hK L i D S A W R h0 hl hD hD' hd hR hW
    obtain ⟨K, rfl⟩ : ∃ q, K = q + 1 := ⟨K - 1, by omega⟩
    obtain ⟨w, r, rfl, hf⟩ := hR
    rw [p12_pred.f]
    rcases pred_at K (by omega) (p12_pred.f K) (n + 1) (by omega) (fun q hq hpq => ih q K (by omega) (by omega) hpq (by omega)) (n + 1) p h (Nat.le_refl _) hp L i D S A W _ h0 hl hD hD' hd (by simp) hW with ⟨q, h1, h2⟩ | ⟨k, E, hk, hDE, hE, hb⟩
    · exact ⟨q, h1, .inl h2⟩
    · obtain ⟨k, rfl⟩ : ∃ q, k = q + 1 := ⟨k - 1, by omega⟩
      rw [hb, p12_pred.l1, is_at (by omega) (drop_split h0 hd), Option.bind_some, if_neg (by simpa using hf), pred_j1_eq]
      exact ⟨_, rfl, .inr rfl⟩
end Go.Proofs.Ytbjbgodcenopnaa

/- Plain law of whole numbers: num.Mul and num.Add, and the digits of an int64. -/
import Derived.Test.YtfmabehmohbahaaPureWords
namespace Go.Proofs.Ytfmabehmohbahaa
set_option linter.unusedVariables false
set_option maxHeartbeats 1000000
def In64 (x : Int) : Prop := -9223372036854775808 ≤ x ∧ x ≤ 9223372036854775807
instance (x : Int) : Decidable (In64 x) := inferInstanceAs (Decidable (_ ∧ _))
/-- A number, if it is an int64. -/
def asI (x : Int) : Int × Bool := if In64 x then (x, true) else (0, false)
theorem asI_in {x : Int} (h : -9223372036854775808 ≤ x ∧ x ≤ 9223372036854775807) : asI x = (x, true) := if_pos h
theorem asI_out {x : Int} (h : ¬ (-9223372036854775808 ≤ x ∧ x ≤ 9223372036854775807)) : asI x = (0, false) := if_neg h
theorem i64_mod (x : Int) : IntKind.wrap .i64 x = (x + 9223372036854775808) % 18446744073709551616 - 9223372036854775808 := by
  rw [IntKind.wrap_i64]
theorem i64_range (x : Int) : In64 (IntKind.wrap .i64 x) := by unfold In64; rw [i64_mod]; omega
theorem size_eq {a : Int} (h : In64 a) : num_size.f a = some (if a < 0 then -a else a) := by
  unfold In64 at h
  unfold num_size.f
  by_cases h0 : a < 0
  · simp only [h0, decide_true, if_true]
    rw [IntKind.wrap_u64, IntKind.wrap_u64]
    congr 1; omega
  · simp only [h0, decide_false, if_false]
    rw [if_neg (by simp), W_u64 (by omega) (by omega)]
theorem mul_neg_parts (a b : Int) : (if a < 0 then -a else a) * (if b < 0 then -b else b) = if (a < 0) ↔ (b < 0) then a * b else -(a * b) := by
  by_cases h1 : a < 0 <;> by_cases h2 : b < 0 <;> simp [h1, h2, Int.neg_mul, Int.mul_neg]
theorem sign_parts (a b : Int) : (if (a < 0) ↔ (b < 0) then 0 ≤ a * b else a * b ≤ 0) := by
  by_cases h1 : a < 0 <;> by_cases h2 : b < 0
  · simp only [h1, h2, if_true]; exact Int.mul_nonneg_of_nonpos_of_nonpos (by omega) (by omega)
  · simp only [h1, h2]; rw [if_neg (by simp)]; exact Int.mul_nonpos_of_nonpos_of_nonneg (by omega) (by omega)
  · simp only [h1, h2]; rw [if_neg (by simp)]; exact Int.mul_nonpos_of_nonneg_of_nonpos (by omega) (by omega)
  · simp only [h1, h2, if_true]; exact Int.mul_nonneg (by omega) (by omega)
theorem mul_eq {a b : Int} (ha : In64 a) (hb : In64 b) : num_Mul.f a b = some (asI (a * b)) := by
  unfold num_Mul.f
  rw [size_eq ha, size_eq hb]
  simp only [Option.bind_some]
  have h1 := mul_neg_parts a b
  have h2 := sign_parts a b
  unfold bits_Mul64.f
  have hx : 0 ≤ (if a < 0 then -a else a) ∧ (if a < 0 then -a else a) < 18446744073709551616 := by unfold In64 at ha; split <;> omega
  have hy : 0 ≤ (if b < 0 then -b else b) ∧ (if b < 0 then -b else b) < 18446744073709551616 := by unfold In64 at hb; split <;> omega
  rw [if_pos ⟨hx, hy⟩, h1]
  simp only [Option.bind_some]
  unfold num_whole.f
  generalize a * b = p at *
  by_cases hs : (a < 0) ↔ (b < 0)
  · have hbq : (decide (a < 0) == decide (b < 0)) = true := by rw [beq_iff_eq, decide_eq_decide]; exact hs
    rw [if_pos hs] at h2
    rw [if_pos hbq, if_pos hs]
    by_cases hin : p < 9223372036854775808
    · have e1 : p / 18446744073709551616 = 0 := by omega
      have e2 : p % 18446744073709551616 = p := by omega
      rw [e1, e2, W_in (by omega) (by omega), asI_in (by omega)]
      simp [hin]
    · have : ¬ (p / 18446744073709551616 = 0 ∧ p % 18446744073709551616 < 9223372036854775808) := by omega
      rw [if_pos (by rw [← Bool.decide_and]; simp only [Bool.not_eq_true', decide_eq_false_iff_not]; exact this)]
      rw [asI_out (by omega)]
      rfl
  · have hbq : ¬ (decide (a < 0) == decide (b < 0)) = true := by rw [beq_iff_eq, decide_eq_decide]; exact hs
    rw [if_neg hs] at h2
    rw [if_neg hbq, if_neg hs]
    by_cases hin : -9223372036854775808 ≤ p
    · have e1 : (-p) / 18446744073709551616 = 0 := by omega
      have e2 : (-p) % 18446744073709551616 = -p := by omega
      have e3 : IntKind.wrap .i64 (IntKind.wrap .u64 (0 - -p)) = p := by rw [i64_mod, IntKind.wrap_u64]; omega
      rw [e1, e2, e3, asI_in (by omega)]
      simp [show -p ≤ 9223372036854775808 from by omega]
    · have : ¬ ((-p) / 18446744073709551616 = 0 ∧ (-p) % 18446744073709551616 ≤ 9223372036854775808) := by omega
      rw [if_pos (by rw [← Bool.decide_and]; simp only [Bool.not_eq_true', decide_eq_false_iff_not]; exact this)]
      rw [asI_out (by omega)]
      rfl
theorem wrap_toInt (x : BitVec 64) : IntKind.wrap .i64 (x.toNat : Int) = x.toInt := by
  rw [i64_mod]
  have := x.isLt
  rw [BitVec.toInt_eq_toNat_cond]
  split <;> omega
theorem msb_ofInt {a : Int} (h : In64 a) : (BitVec.ofInt 64 a).msb = decide (a < 0) := by
  unfold In64 at h
  rw [BitVec.msb_eq_toInt, BitVec.toInt_ofInt]
  congr 1
  rw [Int.bmod_def]
  apply propext
  constructor <;> intro h' <;> split at * <;> omega
theorem ofInt_wrap (x : BitVec 64) : BitVec.ofInt 64 (IntKind.wrap .i64 (x.toNat : Int)) = x := by
  rw [wrap_toInt]; exact BitVec.ofInt_toInt
theorem xor_sign {a b : Int} (ha : In64 a) (hb : In64 b) : (BitVec.ofInt 64 (FW.xorI .i64 a b)).msb = (decide (a < 0) != decide (b < 0)) := by
  unfold FW.xorI
  rw [show IntKind.bits .i64 = 64 from rfl, ofInt_wrap, BitVec.msb_xor, msb_ofInt ha, msb_ofInt hb]
theorem add_eq {a b : Int} (ha : In64 a) (hb : In64 b) : num_Add.f a b = some (asI (a + b)) := by
  unfold num_Add.f
  have hs := i64_range (a + b)
  have hw := i64_mod (a + b)
  have key : decide (0 ≤ FW.andI .i64 (FW.xorI .i64 a (IntKind.wrap .i64 (a + b))) (FW.xorI .i64 b (IntKind.wrap .i64 (a + b)))) = !((decide (a < 0) != decide (IntKind.wrap .i64 (a + b) < 0)) && (decide (b < 0) != decide (IntKind.wrap .i64 (a + b) < 0))) := by
    rw [FW.andI, show IntKind.bits .i64 = 64 from rfl, wrap_toInt]
    rw [← xor_sign ha hs, ← xor_sign hb hs, ← BitVec.msb_and, BitVec.msb_eq_toInt]
    rw [← decide_not]
    congr 1
    apply propext; omega
  rw [key]
  unfold In64 at ha hb hs
  unfold num_whole.f
  by_cases hin : -9223372036854775808 ≤ a + b ∧ a + b ≤ 9223372036854775807
  · have e : IntKind.wrap .i64 (a + b) = a + b := W_in hin.1 hin.2
    rw [e, asI_in hin]
    have hk : ((decide (a < 0) != decide (a + b < 0)) && (decide (b < 0) != decide (a + b < 0))) = false := by
      by_cases h1 : a < 0 <;> by_cases h2 : b < 0 <;> by_cases h3 : a + b < 0 <;> simp [h1, h2, h3] <;> omega
    rw [hk]; rfl
  · rw [asI_out hin]
    have hk : ((decide (a < 0) != decide (IntKind.wrap .i64 (a + b) < 0)) && (decide (b < 0) != decide (IntKind.wrap .i64 (a + b) < 0))) = true := by
      rw [hw]
      by_cases h1 : a < 0 <;> by_cases h2 : b < 0
      · have h3 : ¬ ((a + b + 9223372036854775808) % 18446744073709551616 - 9223372036854775808 < 0) := by omega
        simp [h1, h2, h3]
      · omega
      · omega
      · have h3 : ((a + b + 9223372036854775808) % 18446744073709551616 - 9223372036854775808 < 0) := by omega
        simp [h1, h2, h3]
    rw [hk]; rfl
/-- The number of digits, on from a number. -/
def valS : Int → List UInt8 → Int
  | m, [] => m
  | m, c :: r => valS (m * 10 + ((c.toNat : Int) - 48)) r
def Digits (l : List UInt8) : Prop := ∀ c ∈ l, isDigit c = true
theorem digit_range {c : UInt8} (h : isDigit c = true) : 48 ≤ (c.toNat : Int) ∧ (c.toNat : Int) ≤ 57 := by
  simpa [isDigit] using h
theorem valS_ge : ∀ (l : List UInt8) (m : Int), Digits l → 0 ≤ m → m ≤ valS m l
  | [], m, _, _ => Int.le_refl m
  | c :: r, m, h, h0 => by
    have hc := digit_range (h c (by simp))
    have := valS_ge r (m * 10 + ((c.toNat : Int) - 48)) (fun x hx => h x (by simp [hx])) (by omega)
    rw [valS]; omega
/-- With its sign. -/
def sgnI (b : Bool) (m : Int) : Int := if b then -m else m
theorem integer_l1_eq (K : Nat) (b : Bool) : ∀ (k : Nat) (l : List UInt8) (m i : Int), 0 ≤ i → i ≤ (l.length : Int) → (l.length : Int) ≤ 100000 → Digits (l.drop i.toNat) → 0 ≤ m → In64 (sgnI b m) → (l.length : Int) - i < k →
    lex_integer.l1 K k b (sgnI b m) (FW.bytesI l) (l.length : Int) i = some (asI (sgnI b (valS m (l.drop i.toNat)))) := by
  intro k
  induction k with
  | zero => intro l m i h0 h1 h2 hd hm hi h3; omega
  | succ k ih =>
    intro l m i h0 h1 h2 hd hm hi h3
    rw [lex_integer.l1]
    have w1 : IntKind.wrap .i64 (i + 1) = i + 1 := W_in (by omega) (by omega)
    have hlen : ((FW.bytesI l).length : Int) = (l.length : Int) := by simp [FW.bytesI]
    cases hdr : l.drop i.toNat with
    | nil =>
      have := drop_nil h0 hdr
      have n1 : ¬ (i < (l.length : Int)) := by omega
      simp only [n1, decide_false, Bool.false_eq_true, if_false, valS]
      unfold asI; rw [if_pos hi]
    | cons c r =>
      obtain ⟨hlt, hdr', hle⟩ := drop_lt h0 hdr
      rw [hdr] at hd
      have hc := digit_range (hd c (by simp))
      have hr : Digits r := fun x hx => hd x (by simp [hx])
      have hget : List.getD (FW.bytesI l) i.toNat default = (c.toNat : Int) := by
        rw [List.getD_eq_getElem?_getD, FW.bytesI, List.getElem?_map]
        have : l[i.toNat]? = some c := by
          have := List.getElem?_drop (xs := l) (i := i.toNat) (j := 0)
          rw [hdr] at this
          simpa using this.symm
        rw [this]; rfl
      simp only [hlen, hlt, decide_true, if_true, h0, and_self, hget]
      have w2 : IntKind.wrap .u8 ((c.toNat : Int) - 48) = (c.toNat : Int) - 48 := W_u8 (by omega) (by omega)
      have w3 : IntKind.wrap .i64 ((c.toNat : Int) - 48) = (c.toNat : Int) - 48 := W_in (by omega) (by omega)
      have w4 : IntKind.wrap .i64 (0 - ((c.toNat : Int) - 48)) = 0 - ((c.toNat : Int) - 48) := W_in (by omega) (by omega)
      rw [w2, w3, w4, valS]
      have hm' : 0 ≤ m * 10 + ((c.toNat : Int) - 48) := by omega
      have hge := valS_ge r _ hr hm'
      have hj : (if b = true then lex_integer.j1 (lex_integer.l1 K k) K b (sgnI b m) (0 - ((c.toNat : Int) - 48)) (FW.bytesI l) (l.length : Int) i
          else lex_integer.j1 (lex_integer.l1 K k) K b (sgnI b m) ((c.toNat : Int) - 48) (FW.bytesI l) (l.length : Int) i) = lex_integer.j1 (lex_integer.l1 K k) K b (sgnI b m) (sgnI b ((c.toNat : Int) - 48)) (FW.bytesI l) (l.length : Int) i := by
        cases b <;> simp [sgnI]
      rw [hj]
      unfold lex_integer.j1
      rw [mul_eq hi (by unfold In64; omega)]
      simp only [Option.bind_some]
      have e10 : sgnI b m * 10 = sgnI b (m * 10) := by unfold sgnI; split <;> omega
      have eadd : sgnI b (m * 10) + sgnI b ((c.toNat : Int) - 48) = sgnI b (m * 10 + ((c.toNat : Int) - 48)) := by unfold sgnI; split <;> omega
      rw [e10]
      have mono : ∀ x y : Int, 0 ≤ x → x ≤ y → In64 (sgnI b y) → In64 (sgnI b x) := by
        intro x y hx hy h; unfold In64 sgnI at *; cases b <;> simp at h ⊢ <;> omega
      by_cases c1 : In64 (sgnI b (m * 10))
      · have : asI (sgnI b (m * 10)) = (sgnI b (m * 10), true) := by unfold asI; rw [if_pos c1]
        rw [this]
        simp only [Bool.not_true, Bool.false_eq_true, if_false]
        rw [add_eq c1 (by unfold In64 sgnI; split <;> omega), eadd]
        simp only [Option.bind_some]
        by_cases c2 : In64 (sgnI b (m * 10 + ((c.toNat : Int) - 48)))
        · have : asI (sgnI b (m * 10 + ((c.toNat : Int) - 48))) = (sgnI b (m * 10 + ((c.toNat : Int) - 48)), true) := by unfold asI; rw [if_pos c2]
          rw [this]
          simp only [Bool.not_true, Bool.false_eq_true, if_false]
          rw [w1, ih l _ (i + 1) (by omega) (by omega) h2 (by rw [hdr']; exact hr) hm' c2 (by omega), hdr']
        · have e1 : asI (sgnI b (m * 10 + ((c.toNat : Int) - 48))) = (0, false) := by unfold asI; rw [if_neg c2]
          have e2 : asI (sgnI b (valS (m * 10 + ((c.toNat : Int) - 48)) r)) = (0, false) := by
            unfold asI; rw [if_neg (fun h => c2 (mono _ _ hm' hge h))]
          rw [e1, e2]
          simp
      · have e1 : asI (sgnI b (m * 10)) = (0, false) := by unfold asI; rw [if_neg c1]
        have e2 : asI (sgnI b (valS (m * 10 + ((c.toNat : Int) - 48)) r)) = (0, false) := by
          unfold asI; rw [if_neg (fun h => c1 (mono _ _ (by omega) (by omega) h))]
        rw [e1, e2]
        simp
/-- Digits, perhaps with a - ahead, as an int64. -/
def wholeS (b : Bool) (rest : List UInt8) : Int × Bool :=
  match rest with
  | [] => (0, false)
  | c :: r => if c = 48 ∧ (r ≠ [] ∨ b = true) then (0, false) else asI (sgnI b (valS 0 (c :: r)))
def intS (d : List UInt8) : Int × Bool :=
  match d with
  | [] => (0, false)
  | c :: r => if c = 45 then wholeS true r else wholeS false (c :: r)
/-- Digits, perhaps with a - ahead. -/
def Good (d : List UInt8) : Prop := ∀ c r, d = c :: r → (isDigit c = true ∨ c = 45) ∧ Digits r
theorem integer_whole (K : Nat) (hK : 100000 < K) (b : Bool) (rest : List UInt8) (hd : Digits rest) (hl : (rest.length : Int) ≤ 99999) :
    (if (((decide (rest = ([] : List UInt8))) || ((decide (1 < (List.length rest : Int))) && (decide ((FW.bt rest 0) = 48)))) || (b && (decide (rest = ([48] : List UInt8))))) = true then some (0, false) else lex_integer.l1 K K b 0 (FW.bytesI rest) (List.length (FW.bytesI rest) : Int) 0) = some (wholeS b rest) := by
  cases rest with
  | nil => simp [wholeS]
  | cons c r =>
    have hbt : FW.bt (c :: r) 0 = (c.toNat : Int) := bt_zero r c
    have h48 : ((c.toNat : Int) = 48) ↔ c = 48 := u8_eq c 48 (by omega)
    have hcond : ((((decide ((c :: r) = ([] : List UInt8))) || ((decide (1 < (List.length (c :: r) : Int))) && (decide ((FW.bt (c :: r) 0) = 48)))) || (b && (decide ((c :: r) = ([48] : List UInt8))))) = true) ↔ (c = 48 ∧ (r ≠ [] ∨ b = true)) := by
      simp only [hbt, h48, Bool.or_eq_true, Bool.and_eq_true, decide_eq_true_eq, List.cons.injEq, List.length_cons]
      cases r with
      | nil => simp; exact ⟨fun h => ⟨h.2, h.1⟩, fun h => ⟨h.2, h.1⟩⟩
      | cons d r => simp; omega
    unfold wholeS
    by_cases hh : c = 48 ∧ (r ≠ [] ∨ b = true)
    · rw [if_pos (hcond.mpr hh)]; dsimp only; rw [if_pos hh]
    · rw [if_neg (fun h => hh (hcond.mp h))]; dsimp only; rw [if_neg hh]
      have e0 : (0 : Int) = sgnI b 0 := by cases b <;> rfl
      have el : ((FW.bytesI (c :: r)).length : Int) = ((c :: r).length : Int) := by simp [FW.bytesI]
      rw [el]
      have := integer_l1_eq K b K (c :: r) 0 0 (by omega) (by simp; omega) (by omega) (by simpa using hd) (by omega) (by rw [← e0]; unfold In64; omega) (by omega)
      rw [← e0] at this
      exact this
theorem integer_eq (K : Nat) (hK : 100000 < K) (d : List UInt8) (h : Good d) (hl : (d.length : Int) ≤ 99999) : lex_integer.f K d = some (intS d) := by
  unfold lex_integer.f
  rw [cut_len]
  simp only [Option.bind_some]
  have hcut : ∀ c r, Lib.hasPrefix (c :: r) [45] = decide (c = 45) := by
    intro c r; unfold Lib.hasPrefix
    have : (45 == c) = decide (c = 45) := by rw [Bool.eq_iff_iff, beq_iff_eq, decide_eq_true_eq]; exact ⟨Eq.symm, Eq.symm⟩
    simpa [List.isPrefixOf] using this
  cases d with
  | nil =>
    have e1 : Lib.trimPrefix [] [45] = [] := rfl
    rw [e1, if_pos (by simp)]
    exact (integer_whole K hK _ [] (by intro c hc; cases hc) (by simp)).trans rfl
  | cons c r =>
    obtain ⟨h1, h2⟩ := h c r rfl
    simp only [List.length_cons] at hl
    unfold intS
    dsimp only
    by_cases c45 : c = 45
    · subst c45
      have e1 : Lib.trimPrefix (45 :: r) [45] = r := by unfold Lib.trimPrefix; rw [hcut]; rfl
      rw [hcut, e1, if_pos (by simp; omega)]
      simp only [if_true]
      exact integer_whole K hK _ r h2 (by omega)
    · have e1 : Lib.trimPrefix (c :: r) [45] = c :: r := by unfold Lib.trimPrefix; rw [hcut]; simp [c45]
      rw [hcut, e1, if_pos (by simp), if_neg c45]
      have : decide (c = 45) = false := by simp [c45]
      rw [this]
      refine integer_whole K hK _ (c :: r) ?_ (by simp; omega)
      intro x hx
      rcases List.mem_cons.mp hx with rfl | hx
      · exact h1.resolve_right c45
      · exact h2 x hx
theorem pow10_le : ∀ (n : Nat), n ≤ 18 → (10 : Int) ^ n ≤ 1000000000000000000 := by
  intro n h
  have : ∀ n ∈ List.range 19, (10 : Int) ^ n ≤ 1000000000000000000 := by decide
  exact this n (List.mem_range.mpr (by omega))
/-- What the document's loop comes to. -/
theorem ref_l1_eq (K : Nat) (b : Bool) : ∀ (k : Nat) (l : List UInt8) (m i : Int), 0 ≤ i → i ≤ (l.length : Int) → (l.length : Int) ≤ 19 → Digits (l.drop i.toNat) → 0 ≤ m → m + 1 ≤ 10 ^ i.toNat → (l.length : Int) - i < k →
    offshootref11_Int.l1 K k b l m i = some (asI (sgnI b (valS m (l.drop i.toNat)))) := by
  intro k
  induction k with
  | zero => intro l m i h0 h1 h2 hd hm hi h3; omega
  | succ k ih =>
    intro l m i h0 h1 h2 hd hm hi h3
    rw [offshootref11_Int.l1]
    have w1 : IntKind.wrap .i64 (i + 1) = i + 1 := W_in (by omega) (by omega)
    cases hdr : l.drop i.toNat with
    | nil =>
      have := drop_nil h0 hdr
      have n1 : ¬ (i < (l.length : Int)) := by omega
      simp only [n1, decide_false, Bool.false_eq_true, if_false, valS]
      have hm2 : m < 18446744073709551616 := by
        have hp : (10 : Int) ^ i.toNat ≤ 10 ^ 19 := by
          have : i.toNat ≤ 19 := by omega
          have h' : ∀ n ∈ List.range 20, (10 : Int) ^ n ≤ 10 ^ 19 := by decide
          exact h' _ (List.mem_range.mpr (by omega))
        have : (10 : Int) ^ 19 = 10000000000000000000 := by decide
        omega
      unfold sgnI
      cases b with
      | true =>
        simp only [Bool.true_and, if_true, decide_eq_true_eq, Bool.not_true, Bool.false_and]
        by_cases hh : m ≤ 9223372036854775808
        · rw [if_pos hh, asI_in (by omega)]
          congr 2
          rw [i64_mod, IntKind.wrap_u64]; omega
        · rw [if_neg hh, asI_out (by omega)]; rfl
      | false =>
        simp only [Bool.false_and, Bool.false_eq_true, if_false, decide_eq_true_eq, Bool.not_false, Bool.true_and]
        by_cases hh : m < 9223372036854775808
        · rw [if_pos hh, asI_in (by omega), W_in (by omega) (by omega)]
        · rw [if_neg hh, asI_out (by omega)]
    | cons c r =>
      obtain ⟨hlt, hdr', hle⟩ := drop_lt h0 hdr
      rw [hdr] at hd
      have hc := digit_range (hd c (by simp))
      have hr : Digits r := fun x hx => hd x (by simp [hx])
      have hp := pow10_le i.toNat (by omega)
      have n1 : ¬ ((c.toNat : Int) < 48) := by omega
      have n2 : ¬ (57 < (c.toNat : Int)) := by omega
      simp only [bt_at hdr, hlt, decide_true, if_true, h0, and_self, implies_true, n1, n2, decide_false, Bool.or_false, Bool.false_eq_true, if_false, w1]
      have e : IntKind.wrap .u64 (IntKind.wrap .u64 (IntKind.wrap .u64 (m * 10) + IntKind.wrap .u64 (c.toNat : Int)) - 48) = m * 10 + ((c.toNat : Int) - 48) := by
        rw [W_u64 (x := m * 10) (by omega) (by omega), W_u64 (x := (c.toNat : Int)) (by omega) (by omega), W_u64 (x := m * 10 + (c.toNat : Int)) (by omega) (by omega), W_u64 (by omega) (by omega)]
        omega
      rw [e, ih l _ (i + 1) (by omega) (by omega) h2 (by rw [hdr']; exact hr) (by omega) (by
        rw [show (i + 1).toNat = i.toNat + 1 from by omega, Int.pow_succ]; omega) (by omega), hdr', valS]
theorem valS_big : ∀ (l : List UInt8) (m : Int), Digits l → 0 ≤ m → m * 10 ^ l.length ≤ valS m l
  | [], m, _, _ => by simp [valS]
  | c :: r, m, h, h0 => by
    have hc := digit_range (h c (by simp))
    have := valS_big r (m * 10 + ((c.toNat : Int) - 48)) (fun x hx => h x (by simp [hx])) (by omega)
    rw [valS]
    refine Int.le_trans ?_ this
    rw [List.length_cons, Int.pow_succ, Int.mul_comm (10 ^ r.length) 10, ← Int.mul_assoc]
    exact Int.mul_le_mul_of_nonneg_right (by omega) (Int.pow_nonneg (by omega))
theorem ref_whole (K : Nat) (hK : 100000 < K) (b : Bool) (rest : List UInt8) (hd : Digits rest) : offshootref11_Int.j1 K b rest = some (wholeS b rest) := by
  unfold offshootref11_Int.j1
  cases rest with
  | nil => simp [wholeS]
  | cons c r =>
    have hbt : FW.bt (c :: r) 0 = (c.toNat : Int) := bt_zero r c
    have h48 : ((c.toNat : Int) = 48) ↔ c = 48 := u8_eq c 48 (by omega)
    rw [if_pos (fun _ => by simp), hbt]
    unfold wholeS
    dsimp only
    have hc := digit_range (hd c (by simp))
    by_cases hh : c = 48 ∧ (r ≠ [] ∨ b = true)
    · rw [if_pos hh, if_pos]
      have : (c.toNat : Int) = 48 := h48.mpr hh.1
      simp only [this, decide_true, Bool.true_and, Bool.or_eq_true, decide_eq_true_eq, List.length_cons]
      rcases hh.2 with h | h
      · right; left
        cases r with
        | nil => exact absurd rfl h
        | cons => simp; omega
      · right; right; exact h
    · rw [if_neg hh]
      by_cases hl : 19 < ((c :: r).length : Int)
      · rw [if_pos (by simp only [hl, decide_true, Bool.or_true, Bool.true_or])]
        have hbig := valS_big r ((c.toNat : Int) - 48) (fun x hx => hd x (by simp [hx])) (by omega)
        have hne : c ≠ 48 := by
          intro h
          apply hh
          refine ⟨h, Or.inl ?_⟩
          rintro rfl
          simp at hl
        have h1 : 1 ≤ (c.toNat : Int) - 48 := by
          have : ¬ (c.toNat : Int) = 48 := fun h => hne (h48.mp h)
          omega
        have hp : (10 : Int) ^ 19 ≤ 10 ^ r.length := by
          simp only [List.length_cons] at hl
          have := Nat.pow_le_pow_right (n := 10) (by omega) (show 19 ≤ r.length by omega)
          exact_mod_cast this
        have h2 : (1 : Int) * 10 ^ r.length ≤ ((c.toNat : Int) - 48) * 10 ^ r.length := Int.mul_le_mul_of_nonneg_right h1 (Int.pow_nonneg (by omega))
        have e19 : (10 : Int) ^ 19 = 10000000000000000000 := by decide
        have e0 : valS 0 (c :: r) = valS ((c.toNat : Int) - 48) r := by rw [valS]; congr 1; omega
        rw [e0]
        unfold sgnI
        rw [asI_out (by split <;> omega)]
      · have n1 : ¬ ((((decide ((c :: r) = ([] : List UInt8))) || (decide (19 < ((c :: r).length : Int)))) || ((decide ((c.toNat : Int) = 48)) && ((decide (1 < ((c :: r).length : Int))) || b))) = true) := by
          intro h
          simp only [Bool.or_eq_true, Bool.and_eq_true, decide_eq_true_eq, h48] at h
          rcases h with (h | h) | ⟨h, h'⟩
          · cases h
          · exact hl h
          · apply hh
            refine ⟨h, ?_⟩
            rcases h' with h' | h'
            · left; rintro rfl; simp at h'
            · exact Or.inr h'
        rw [if_neg n1]
        exact ref_l1_eq K b K (c :: r) 0 0 (by omega) (by omega) (by omega) (by simpa using hd) (by omega) (by simp) (by omega)
theorem ref_eq (K : Nat) (hK : 100000 < K) (d : List UInt8) (h : Good d) : offshootref11_Int.f K d = some (intS d) := by
  unfold offshootref11_Int.f
  cases d with
  | nil =>
    rw [if_pos (by simp)]
    simp only [decide_true, Bool.not_true, Bool.false_and, Bool.false_eq_true, if_false]
    exact (ref_whole K hK _ [] (by intro c hc; cases hc)).trans rfl
  | cons c r =>
    obtain ⟨h1, h2⟩ := h c r rfl
    have hbt : FW.bt (c :: r) 0 = (c.toNat : Int) := bt_zero r c
    have h45 : ((c.toNat : Int) = 45) ↔ c = 45 := u8_eq c 45 (by omega)
    rw [if_pos (fun _ => by simp), hbt]
    unfold intS
    dsimp only
    by_cases c45 : c = 45
    · subst c45
      simp
      exact ⟨by omega, ref_whole K hK _ r h2⟩
    · have : ¬ (c.toNat : Int) = 45 := fun h => c45 (h45.mp h)
      simp only [this, decide_false, Bool.and_false, Bool.false_eq_true, if_false, c45]
      refine ref_whole K hK _ (c :: r) ?_
      intro x hx
      rcases List.mem_cons.mp hx with rfl | hx
      · exact h1.resolve_right c45
      · exact h2 x hx
end Go.Proofs.Ytfmabehmohbahaa

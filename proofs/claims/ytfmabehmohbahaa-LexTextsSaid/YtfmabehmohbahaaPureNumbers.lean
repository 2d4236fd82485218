/- offshootlaw11.LexNumbers in plain Lean: it answers true at every int64 and every float64. -/
import Derived.Test.YtfmabehmohbahaaPureInts
namespace Go.Proofs.Ytfmabehmohbahaa
set_option linter.unusedVariables false
set_option maxHeartbeats 1000000
abbrev hexL : List UInt8 := [48, 49, 50, 51, 52, 53, 54, 55, 56, 57, 97, 98, 99, 100, 101, 102]
def hexdig (d : Nat) : UInt8 := List.getD hexL d 0
theorem dig_slice (d : Nat) (h : d < 16) : List.take 1 (List.drop d hexL) = [hexdig d] := by
  have : ∀ d ∈ List.range 16, List.take 1 (List.drop d hexL) = [hexdig d] := by decide
  exact this d (List.mem_range.mpr h)
theorem hexdig_ten (d : Nat) (h : d < 10) : ((hexdig d).toNat : Int) = 48 + (d : Int) := by
  have : ∀ d ∈ List.range 10, ((hexdig d).toNat : Int) = 48 + (d : Int) := by decide
  exact this d (List.mem_range.mpr h)
theorem hexdig_plain (d : Nat) (h : d < 16) : 32 ≤ ((hexdig d).toNat : Int) ∧ ((hexdig d).toNat : Int) ≤ 126 ∧ ¬ ((hexdig d).toNat : Int) = 39 ∧ ¬ ((hexdig d).toNat : Int) = 92 := by
  have : ∀ d ∈ List.range 16, 32 ≤ ((hexdig d).toNat : Int) ∧ ((hexdig d).toNat : Int) ≤ 126 ∧ ¬ ((hexdig d).toNat : Int) = 39 ∧ ¬ ((hexdig d).toNat : Int) = 92 := by decide
  exact this d (List.mem_range.mpr h)
theorem hexS_dig (a b : Nat) (ha : a < 16) (hb : b < 16) : hexS (hexdig a) (hexdig b) = 16 * (a : Int) + (b : Int) := by
  have : ∀ a ∈ List.range 16, ∀ b ∈ List.range 16, hexS (hexdig a) (hexdig b) = 16 * (a : Int) + (b : Int) := by decide +kernel
  exact this a (List.mem_range.mpr ha) b (List.mem_range.mpr hb)
theorem sgn_tdiv (b : Bool) {n : Int} (h : 0 ≤ n) : Int.tdiv (sgnI b n) 10 = sgnI b (n / 10) := by
  cases b with
  | true => simp only [sgnI, if_true]; rw [Int.neg_tdiv, Int.tdiv_eq_ediv_of_nonneg h]
  | false => simp only [sgnI]; exact Int.tdiv_eq_ediv_of_nonneg h
theorem sgn_tmod (b : Bool) {n : Int} (h : 0 ≤ n) : Int.tmod (sgnI b n) 10 = sgnI b (n % 10) := by
  cases b with
  | true => simp only [sgnI, if_true]; rw [Int.neg_tmod, Int.tmod_eq_emod_of_nonneg h]
  | false => simp only [sgnI]; exact Int.tmod_eq_emod_of_nonneg h
theorem valS_append : ∀ (a b : List UInt8) (m : Int), valS m (a ++ b) = valS (valS m a) b
  | [], _, _ => rfl
  | c :: r, b, m => by rw [List.cons_append, valS, valS]; exact valS_append r b _
theorem number_l1 (K : Nat) (b : Bool) : ∀ (j k : Nat) (n : Int) (acc : List UInt8), j < k → 0 ≤ n → In64 (sgnI b n) → n < 10 ^ j → j ≤ 19 → acc.length + j ≤ 1000 →
    ∃ ds, lex_Number.l1 K k (sgnI b n) acc b = some ((if b then [45] else []) ++ (ds ++ acc)) ∧ Digits ds ∧ valS 0 ds = n ∧ (n ≠ 0 → ∃ c r, ds = c :: r ∧ c ≠ 48) ∧ ds.length ≤ j ∧ (n = 0 → ds = []) := by
  intro j
  induction j with
  | zero =>
    intro k n acc hk h0 hi hn hj hl
    have hz : n = 0 := by simp at hn; omega
    subst hz
    obtain ⟨k, rfl⟩ : ∃ k', k = k' + 1 := ⟨k - 1, by omega⟩
    refine ⟨[], ?_, (fun c hc => by cases hc), rfl, fun h => absurd rfl h, by simp, fun _ => rfl⟩
    rw [lex_Number.l1, show sgnI b 0 = 0 from by cases b <;> rfl]
    cases b with
    | true => simp; omega
    | false => simp
  | succ j ih =>
    intro k n acc hk h0 hi hn hj hl
    obtain ⟨k, rfl⟩ : ∃ k', k = k' + 1 := ⟨k - 1, by omega⟩
    by_cases hz : n = 0
    · subst hz
      refine ⟨[], ?_, (fun c hc => by cases hc), rfl, fun h => absurd rfl h, by simp, fun _ => rfl⟩
      rw [lex_Number.l1, show sgnI b 0 = 0 from by cases b <;> rfl]
      cases b with
      | true => simp; omega
      | false => simp
    · have hne : ¬ sgnI b n = 0 := by unfold sgnI; split <;> omega
      have hin : In64 (sgnI b (n / 10)) := by unfold In64 sgnI at *; cases b <;> simp at hi ⊢ <;> omega
      have hw : IntKind.wrap .i64 (sgnI b (n / 10)) = sgnI b (n / 10) := W_in hin.1 hin.2
      have hd : IntKind.wrap .i64 (0 - sgnI true (n % 10)) = n % 10 := by unfold sgnI; rw [W_in] <;> simp <;> omega
      have hw1 : IntKind.wrap .i64 (n % 10 + 1) = n % 10 + 1 := W_in (by omega) (by omega)
      have hsl : List.take ((n % 10 + 1).toNat - (n % 10).toNat) (List.drop (n % 10).toNat hexL) = [hexdig (n % 10).toNat] := by
        rw [show (n % 10 + 1).toNat - (n % 10).toNat = 1 from by omega]; exact dig_slice _ (by omega)
      have hj1 : lex_Number.j1 (lex_Number.l1 K k) K (sgnI b n) acc b (n % 10) = lex_Number.l1 K k (sgnI b (n / 10)) (hexdig (n % 10).toNat :: acc) b := by
        unfold lex_Number.j1
        rw [hw1, if_pos ⟨by omega, by omega, by simp; omega⟩, hsl, if_pos (by simp only [List.length_cons, List.length_nil]; omega), sgn_tdiv b h0, hw]
        rfl
      have hstep : lex_Number.l1 K (k + 1) (sgnI b n) acc b = lex_Number.l1 K k (sgnI b (n / 10)) (hexdig (n % 10).toNat :: acc) b := by
        rw [lex_Number.l1, if_pos (by simpa using hne), sgn_tmod b h0]
        cases b with
        | true => rw [if_pos rfl, hd]; exact hj1
        | false => rw [if_neg (by simp)]; exact hj1
      obtain ⟨ds, e1, e2, e3, e4, e5, e6⟩ := ih k (n / 10) (hexdig (n % 10).toNat :: acc) (by omega) (by omega) hin (by rw [Int.pow_succ] at hn; omega) (by omega) (by simp; omega)
      have hdig := hexdig_ten (n % 10).toNat (by omega)
      refine ⟨ds ++ [hexdig (n % 10).toNat], ?_, ?_, ?_, fun _ => ?_, by simp; omega, fun h => absurd h hz⟩
      · rw [hstep, e1]; simp
      · intro c hc
        rcases List.mem_append.mp hc with hc | hc
        · exact e2 c hc
        · simp only [List.mem_cons, List.not_mem_nil, or_false] at hc
          subst hc
          unfold isDigit
          rw [hdig, ← Bool.decide_and, decide_eq_true_eq]; omega
      · rw [valS_append, e3]
        simp only [valS]
        rw [hdig]; omega
      · by_cases hz' : n / 10 = 0
        · rw [e6 hz']
          refine ⟨_, _, rfl, fun h => ?_⟩
          rw [h] at hdig
          have : ((48 : UInt8).toNat : Int) = 48 := rfl
          omega
        · obtain ⟨c, r, e, hc⟩ := e4 hz'
          exact ⟨c, r ++ [hexdig (n % 10).toNat], by rw [e]; rfl, hc⟩
theorem pow10_19 : (10 : Int) ^ 19 = 10000000000000000000 := by decide
theorem number_eq (v : Int) (hv : In64 v) : ∃ d, lex_Number.f KK v = some d ∧ Good d ∧ intS d = (v, true) ∧ d.length ≤ 20 ∧ d ≠ [] := by
  unfold lex_Number.f
  by_cases hz : v = 0
  · subst hz
    refine ⟨[48], rfl, ?_, by decide +kernel, by decide, by simp⟩
    intro c r e
    simp only [List.cons.injEq] at e
    obtain ⟨rfl, rfl⟩ := e
    exact ⟨Or.inl (by decide), fun c hc => by cases hc⟩
  rw [if_neg (by simpa using hz)]
  obtain ⟨b, n, e, hb, h0⟩ : ∃ (b : Bool) (n : Int), v = sgnI b n ∧ decide (v < 0) = b ∧ 0 ≤ n := by
    by_cases h : v < 0
    · exact ⟨true, -v, by simp [sgnI], by simp [h], by omega⟩
    · exact ⟨false, v, by simp [sgnI], by simp [h], by omega⟩
  rw [hb, e]
  rw [e] at hv hz
  have hn : n ≠ 0 := by rintro rfl; apply hz; cases b <;> rfl
  obtain ⟨ds, e1, e2, e3, e4, e5, _⟩ := number_l1 KK b 19 KK n [] (by decide) h0 hv (by rw [pow10_19]; unfold In64 sgnI at hv; split at hv <;> omega) (by omega) (by simp)
  obtain ⟨c, r, rfl, hc⟩ := e4 hn
  rw [List.append_nil] at e1
  have hw : ∀ b, In64 (sgnI b n) → wholeS b (c :: r) = (sgnI b n, true) := by
    intro b hv
    unfold wholeS
    dsimp only
    rw [if_neg (fun h => hc h.1), e3]
    exact asI_in hv
  have hcd := e2 c (by simp)
  refine ⟨_, e1, ?_, ?_, ?_, ?_⟩
  · intro c' r' e
    cases b with
    | true =>
      simp only [if_true, List.singleton_append, List.cons.injEq] at e
      obtain ⟨rfl, rfl⟩ := e
      exact ⟨Or.inr rfl, e2⟩
    | false =>
      simp only [Bool.false_eq_true, if_false, List.nil_append, List.cons.injEq] at e
      obtain ⟨rfl, rfl⟩ := e
      exact ⟨Or.inl hcd, fun x hx => e2 x (by simp [hx])⟩
  · cases b with
    | true =>
      simp only [if_true, List.singleton_append, intS]
      exact hw true hv
    | false =>
      simp only [Bool.false_eq_true, if_false, List.nil_append, intS]
      rw [if_neg (by rintro rfl; exact absurd hcd (by decide))]
      exact hw false hv
  · cases b <;> simp at e5 ⊢ <;> omega
  · cases b <;> simp
/-- Sixteen digits of a number, the first one ahead. -/
def hexh : Nat → Nat → List UInt8
  | 0, _ => []
  | j + 1, x => hexdig (x / 16 ^ j % 16) :: hexh j x
theorem hexh_len : ∀ j x, (hexh j x).length = j
  | 0, _ => rfl
  | j + 1, x => by rw [hexh, List.length_cons, hexh_len j x]
theorem hexh_snoc : ∀ j x, hexh (j + 1) x = hexh j (x / 16) ++ [hexdig (x % 16)]
  | 0, x => by simp [hexh]
  | j + 1, x => by
    rw [hexh, hexh_snoc j x, hexh, List.cons_append, Nat.div_div_eq_div_mul, Nat.pow_succ, Nat.mul_comm]
theorem hexh_plain : ∀ j x, ∀ c ∈ hexh j x, 32 ≤ (c.toNat : Int) ∧ (c.toNat : Int) ≤ 126 ∧ ¬ (c.toNat : Int) = 39 ∧ ¬ (c.toNat : Int) = 92
  | 0, _, c, h => by cases h
  | j + 1, x, c, h => by
    rw [hexh] at h
    rcases List.mem_cons.mp h with rfl | h
    · exact hexdig_plain _ (Nat.mod_lt _ (by omega))
    · exact hexh_plain j x c h
theorem lexFloat_l1 (K : Nat) : ∀ (j k x : Nat) (acc : List UInt8) (i : Int), j < k → i = 16 - (j : Int) → j ≤ 16 → x < 18446744073709551616 → acc.length ≤ 16 - j →
    lex_Float.l1 K k (x : Int) acc i = some (([102, 39] ++ (hexh j x ++ acc)) ++ [39]) := by
  intro j
  induction j with
  | zero =>
    intro k x acc i hk hi hj hx hl
    obtain ⟨k, rfl⟩ : ∃ k', k = k' + 1 := ⟨k - 1, by omega⟩
    rw [lex_Float.l1, if_neg (by simp; omega), if_pos (by simp; omega), if_pos (by simp; omega)]
    simp [hexh]
  | succ j ih =>
    intro k x acc i hk hi hj hx hl
    obtain ⟨k, rfl⟩ : ∃ k', k = k' + 1 := ⟨k - 1, by omega⟩
    have e1 : Int.tmod (x : Int) 16 = ((x % 16 : Nat) : Int) := by rw [Int.tmod_eq_emod_of_nonneg (by omega)]; omega
    have e2 : Int.tdiv (x : Int) 16 = ((x / 16 : Nat) : Int) := by rw [Int.tdiv_eq_ediv_of_nonneg (by omega)]; omega
    have e3 : IntKind.wrap .u64 (((x % 16 : Nat) : Int) + 1) = ((x % 16 : Nat) : Int) + 1 := W_u64 (by omega) (by omega)
    have e4 : IntKind.wrap .u64 ((x / 16 : Nat) : Int) = ((x / 16 : Nat) : Int) := W_u64 (by omega) (by omega)
    have e5 : IntKind.wrap .i64 (i + 1) = i + 1 := W_in (by omega) (by omega)
    have hsl : List.take ((((x % 16 : Nat) : Int) + 1).toNat - (((x % 16 : Nat) : Int)).toNat) (List.drop (((x % 16 : Nat) : Int)).toNat hexL) = [hexdig (x % 16)] := by
      rw [show (((x % 16 : Nat) : Int) + 1).toNat - (((x % 16 : Nat) : Int)).toNat = 1 from by omega, Int.toNat_natCast]; exact dig_slice _ (Nat.mod_lt _ (by omega))
    rw [lex_Float.l1, if_pos (by simp; omega), e1, e2, e3, e4, e5, if_pos ⟨by omega, by omega, by simp; omega⟩, hsl, if_pos (by simp only [List.length_cons, List.length_nil]; omega)]
    rw [ih k (x / 16) ([hexdig (x % 16)] ++ acc) (i + 1) (by omega) (by omega) (by omega) (by omega) (by simp; omega), hexh_snoc]
    simp
theorem or_parts (b h : Nat) (hb : b < 72057594037927936) (hh : h < 256) : FW.orI .u64 (FW.shlI .u64 (b : Int) 8) (IntKind.wrap .u64 (h : Int)) = ((b * 256 + h : Nat) : Int) := by
  have e1 : FW.shlI .u64 (b : Int) 8 = ((b * 256 : Nat) : Int) := by
    unfold FW.shlI
    rw [show (2 : Int) ^ (min (8 : Int).toNat (IntKind.bits .u64)) = 256 from rfl, W_u64 (by omega) (by omega)]; omega
  rw [e1, W_u64 (by omega) (by omega)]
  unfold FW.orI
  rw [show IntKind.bits .u64 = 64 from rfl, BitVec.toNat_or, BitVec.ofInt_natCast, BitVec.ofInt_natCast, BitVec.toNat_ofNat, BitVec.toNat_ofNat, Nat.mod_eq_of_lt (by omega), Nat.mod_eq_of_lt (by omega)]
  have := Nat.shiftLeft_add_eq_or_of_lt (i := 8) hh b
  rw [Nat.shiftLeft_eq] at this
  rw [show b * 256 = b * 2 ^ 8 from rfl, ← this, W_u64 (by omega) (by omega)]
theorem float_l1_eq (K : Nat) (x : Nat) (hx : x < 18446744073709551616) (hc : num_Canon.f x = some x) : ∀ (j k : Nat) (s : List UInt8) (i : Int), j < k → j ≤ 8 → i = 16 - 2 * (j : Int) → s.length = 16 → s.drop i.toNat = hexh (2 * j) x →
    lex_float.l1 K k s ((x / 16 ^ (2 * j) : Nat) : Int) i = some (x, true) := by
  intro j
  induction j with
  | zero =>
    intro k s i hk hj hi hs hd
    obtain ⟨k, rfl⟩ : ∃ k', k = k' + 1 := ⟨k - 1, by omega⟩
    rw [lex_float.l1, if_neg (by simp; omega)]
    simp [hc]
  | succ j ih =>
    intro k s i hk hj hi hs hd
    obtain ⟨k, rfl⟩ : ∃ k', k = k' + 1 := ⟨k - 1, by omega⟩
    have e5 : IntKind.wrap .i64 (i + 2) = i + 2 := W_in (by omega) (by omega)
    have hd2 : s.drop i.toNat = hexdig (x / 16 ^ (2 * j + 1) % 16) :: hexdig (x / 16 ^ (2 * j) % 16) :: hexh (2 * j) x := by
      rw [hd, show 2 * (j + 1) = 2 * j + 1 + 1 from by omega, hexh, hexh]
    have hd3 : s.drop (i + 2).toNat = hexh (2 * j) x := by
      rw [show (i + 2).toNat = i.toNat + 2 from by omega, ← List.drop_drop, hd2]; rfl
    rw [lex_float.l1, if_pos (by simp; omega), e5, if_pos (by omega), hd2, show (i + 2).toNat - i.toNat = 2 from by omega]
    simp only [List.take_succ_cons, List.take_zero, hex_eq, Option.bind_some]
    rw [hexS_dig _ _ (Nat.mod_lt _ (by omega)) (Nat.mod_lt _ (by omega)), if_neg (by simp; omega)]
    have ep1 : x / 16 ^ (2 * j + 1) = x / 16 ^ (2 * j) / 16 := by rw [Nat.div_div_eq_div_mul, Nat.pow_succ]
    have ep2 : x / 16 ^ (2 * (j + 1)) = x / 16 ^ (2 * j) / 256 := by rw [Nat.div_div_eq_div_mul, show 2 * (j + 1) = 2 * j + 2 from by omega, Nat.pow_add]
    have hy : x / 16 ^ (2 * j) ≤ x := Nat.div_le_self _ _
    rw [ep1, ep2]
    have hb := or_parts (x / 16 ^ (2 * j) / 256) (16 * (x / 16 ^ (2 * j) / 16 % 16) + x / 16 ^ (2 * j) % 16) (by omega) (by omega)
    have hcast : (16 * ((x / 16 ^ (2 * j) / 16 % 16 : Nat) : Int) + ((x / 16 ^ (2 * j) % 16 : Nat) : Int)) = ((16 * (x / 16 ^ (2 * j) / 16 % 16) + x / 16 ^ (2 * j) % 16 : Nat) : Int) := by omega
    rw [hcast, hb, show x / 16 ^ (2 * j) / 256 * 256 + (16 * (x / 16 ^ (2 * j) / 16 % 16) + x / 16 ^ (2 * j) % 16) = x / 16 ^ (2 * j) from by omega]
    exact ih k s (i + 2) (by omega) (by omega) (by omega) hs hd3
theorem float_hex (K : Nat) (hK : 100000 < K) (x : Nat) (hx : x < 18446744073709551616) (hc : num_Canon.f x = some x) : lex_float.f K (hexh 16 x) = some (x, true) := by
  unfold lex_float.f
  have hl := hexh_len 16 x
  rw [if_neg (by simp [hl])]
  have := float_l1_eq K x hx hc 8 K (hexh 16 x) 0 (by omega) (by omega) (by omega) hl rfl
  rw [show x / 16 ^ (2 * 8) = 0 from Nat.div_eq_of_lt hx] at this
  exact this
theorem qS_plain : ∀ (h acc r : List UInt8) (i : Int), (∀ c ∈ h, 32 ≤ (c.toNat : Int) ∧ (c.toNat : Int) ≤ 126 ∧ ¬ (c.toNat : Int) = 39 ∧ ¬ (c.toNat : Int) = 92) → qS acc (h ++ 39 :: r) i = (acc ++ h, i + h.length + 1)
  | [], acc, r, i, _ => by rw [List.nil_append, qS.eq_def]; simp
  | c :: h, acc, r, i, hp => by
    obtain ⟨h1, h2, h3, h4⟩ := hp c (by simp)
    rw [List.cons_append, qS.eq_def]
    dsimp only
    rw [if_neg h3, if_neg (by omega), if_pos h4, qS_plain h (acc ++ [c]) r (i + 1) (fun x hx => hp x (by simp [hx]))]
    simp; omega
/-- The word at an f and a quote. -/
theorem word_float (K : Nat) (hK : 100000 < K) (s : List UInt8) (i : Int) (hs : (s.length : Int) ≤ 3000) (h0 : 0 ≤ i) {h r : List UInt8} (hd : s.drop i.toNat = 102 :: 39 :: (h ++ 39 :: r)) (hp : ∀ c ∈ h, 32 ≤ (c.toNat : Int) ∧ (c.toNat : Int) ≤ 126 ∧ ¬ (c.toNat : Int) = 39 ∧ ¬ (c.toNat : Int) = 92) {x : Nat} (hx : lex_float.f K h = some (x, true)) :
    lex_word.f K s i = some (⟨3, [], 0, x, i⟩, (h.length : Int) + 3) := by
  unfold lex_word.f
  obtain ⟨h1, hdr, hlen⟩ := drop_lt h0 hd
  obtain ⟨h2, _, hlen2⟩ := drop_lt (by omega : 0 ≤ i + 1) hdr
  have w1 : IntKind.wrap .i64 (i + 1) = i + 1 := W_in (by omega) (by omega)
  rw [if_pos ⟨h0, h1⟩, w1, bt_at hd, bt_at hdr, if_pos (fun _ => by omega)]
  rw [if_pos (by simp [h2]), if_pos (by omega), hdr]
  have hl2 : ((39 :: (h ++ 39 :: r) : List UInt8).length : Int) ≤ 99999 := by
    have : (s.drop (i + 1).toNat).length ≤ s.length := by simp
    rw [hdr] at this
    omega
  rw [quoted_eq K _ hl2 (by simp) hK]
  simp only [Option.bind_some, List.drop_succ_cons, List.drop_zero]
  rw [qS_plain h [] r 1 hp]
  simp only [List.nil_append, hx, Option.bind_some]
  simp only [List.length_cons, List.length_append] at hl2
  rw [if_neg (by simp; omega), W_in (by omega) (by omega)]
  congr 2; omega
theorem words_space (K : Nat) (k : Nat) (l : List ApiWord) (s : List UInt8) (i : Int) (h0 : 0 ≤ i) {r : List UInt8} (hd : s.drop i.toNat = 32 :: r) : lex_Words.l1 K (k + 1) l s i = lex_Words.l1 K k l s (IntKind.wrap .i64 (i + 1)) := by
  obtain ⟨h1, hdr, hlen⟩ := drop_lt h0 hd
  rw [lex_Words.l1, if_pos (by simpa using h1), if_pos ⟨h0, h1⟩, bt_at hd, if_pos (by decide)]
theorem canon_idem (v c : Nat) (hv : v < 18446744073709551616) (h : num_Canon.f v = some c) : num_Canon.f c = some c ∧ c < 18446744073709551616 := by
  unfold num_Canon.f at h
  split at h
  · simp only [Option.some.injEq] at h
    subst h
    exact ⟨by decide +kernel, by decide⟩
  · simp only [Option.some.injEq] at h
    subst h
    rename_i hn
    refine ⟨?_, hv⟩
    unfold num_Canon.f
    rw [if_neg hn]
theorem Sat.bindIf {α β : Type} {P : α → Prop} {F : β → Option α} {x z : Option β} {r : β} {b : Bool} (hb : b = true) (h : x = Option.some r) (h' : Sat (F r) P) : Sat (Option.bind (if b = true then x else z) F) P := by
  rw [if_pos hb, h]; exact h'
theorem numbers_true (v : Int) (x : Nat) (hv : In64 v) (hx : x < 18446744073709551616) : ∃ K, offshootlaw11_LexNumbers.f K v x = some true := by
  refine ⟨KK, ?_⟩
  have hK : 100000 < KK := by decide
  obtain ⟨d, e1, hg, hi, hl, hne⟩ := number_eq v hv
  obtain ⟨c, hc⟩ : ∃ c, num_Canon.f x = some c := by unfold num_Canon.f; split <;> exact ⟨_, rfl⟩
  obtain ⟨hc1, hc2⟩ := canon_idem x c hx hc
  have hF : lex_Float.f KK x = some (([102, 39] ++ (hexh 16 c ++ [])) ++ [39]) := by
    unfold lex_Float.f
    rw [hc]
    simp only [Option.bind_some]
    exact lexFloat_l1 KK 16 KK c [] 0 (by decide) (by omega) (by omega) hc2 (by simp)
  have hlh := hexh_len 16 c
  have hcanon : offshootref01_Canon.f x = some (c : Int) := by
    unfold num_Canon.f at hc
    unfold offshootref01_Canon.f
    split at hc
    · rw [if_pos (by assumption)]
      simp only [Option.some.injEq] at hc
      rw [← hc]; rfl
    · rw [if_neg (by assumption)]
      simp only [Option.some.injEq] at hc
      rw [← hc]
  have hwords : lex_Words.f KK ((d ++ [32]) ++ (([102, 39] ++ (hexh 16 c ++ [])) ++ [39])) = some ([⟨2, [], v, 0, 0⟩, ⟨3, [], 0, c, (d.length : Int) + 1⟩, ⟨0, [], 0, 0, (d.length : Int) + 20⟩], 0, 0) := by
    have hs : (d ++ [32]) ++ (([102, 39] ++ (hexh 16 c ++ [])) ++ [39]) = d ++ 32 :: 102 :: 39 :: (hexh 16 c ++ [39]) := by simp
    rw [hs]
    have hsl : ((d ++ 32 :: 102 :: 39 :: (hexh 16 c ++ [39])).length : Int) = (d.length : Int) + 20 := by simp [hlh]
    unfold lex_Words.f
    rw [if_neg (by simp only [hsl]; simp; omega)]
    obtain ⟨c0, r0, rfl⟩ : ∃ c0 r0, d = c0 :: r0 := by cases d with | nil => exact absurd rfl hne | cons c r => exact ⟨c, r, rfl⟩
    obtain ⟨g1, g2⟩ := hg c0 r0 rfl
    have hm : manyS isDigit (r0 ++ 32 :: 102 :: 39 :: (hexh 16 c ++ [39])) = r0.length := manyS_stop isDigit r0 _ 32 g2 (by decide)
    have hint := integer_eq KK hK (c0 :: r0) hg (by omega)
    have hw0 := word_int KK hK (c0 :: r0 ++ 32 :: 102 :: 39 :: (hexh 16 c ++ [39])) 0 (by omega) (by omega) (c := c0) (r := r0 ++ 32 :: 102 :: 39 :: (hexh 16 c ++ [39])) rfl g1 (v := v) (ok := true) (by rw [hm, List.take_left, hint, hi])
    rw [hm] at hw0
    simp only [if_true] at hw0
    have hd1 : (c0 :: r0 ++ 32 :: 102 :: 39 :: (hexh 16 c ++ [39])).drop (((c0 :: r0).length : Int)).toNat = 32 :: 102 :: 39 :: (hexh 16 c ++ [39]) := by
      rw [Int.toNat_natCast, List.drop_left]
    have hd2 : (c0 :: r0 ++ 32 :: 102 :: 39 :: (hexh 16 c ++ [39])).drop (((c0 :: r0).length : Int) + 1).toNat = 102 :: 39 :: (hexh 16 c ++ [39]) := by
      rw [show (((c0 :: r0).length : Int) + 1).toNat = (((c0 :: r0).length : Int)).toNat + 1 from by omega, ← List.drop_drop, hd1]; rfl
    have hw1 := word_float KK hK _ (((c0 :: r0).length : Int) + 1) (by omega) (by omega) hd2 (hexh_plain 16 c) (float_hex KK hK c hc2 hc1)
    have hc32 : ¬ c0 = 32 := by
      rintro rfl
      rcases g1 with h | h
      · exact absurd h (by decide)
      · exact absurd h (by decide)
    obtain ⟨k, hk⟩ : ∃ k, KK = k + 1 + 1 + 1 + 1 := ⟨KK - 4, by decide⟩
    have hS0 : (c0 :: r0 ++ 32 :: 102 :: 39 :: (hexh 16 c ++ [39])).drop (0 : Int).toNat = c0 :: (r0 ++ 32 :: 102 :: 39 :: (hexh 16 c ++ [39])) := rfl
    generalize c0 :: r0 ++ 32 :: 102 :: 39 :: (hexh 16 c ++ [39]) = S at *
    generalize hK2 : KK = K2 at *
    refine (fun (h : ∀ F, F = k + 1 + 1 + 1 + 1 → lex_Words.l1 K2 F [] S 0 = _) => h K2 hk) ?_
    rintro _ rfl
    simp only [List.length_cons] at hl hd1 hd2 hw1 hsl ⊢
    rw [words_step K2 (k + 1 + 1 + 1) [] S 0 (by omega) hS0 hc32 hw0, if_neg (by omega), if_neg (by simp), W_in (by omega) (by omega), show (0 : Int) + (1 + (r0.length : Int)) = ((r0.length + 1 : Nat) : Int) from by omega]
    rw [words_space K2 (k + 1 + 1) _ S _ (by omega) hd1, W_in (by omega) (by omega)]
    rw [words_step K2 (k + 1) _ S _ (by omega) hd2 (by decide) hw1, if_neg (by omega), if_neg (by simp), W_in (by rw [hlh]; omega) (by rw [hlh]; omega)]
    rw [words_end K2 hK k _ S _ (by simp) (by rw [hlh, hsl]; omega), hsl]
    rfl
  have hlen2 : ((([102, 39] ++ (hexh 16 c ++ [])) ++ [39] : List UInt8).length : Int) = 19 := by simp [hlh]
  unfold offshootlaw11_LexNumbers.f
  apply Sat.get
  refine Sat.bindE e1 ?_
  refine Sat.chk (by simp; omega) ?_
  refine Sat.bindE hF ?_
  refine Sat.chk (by rw [hlen2]; simp; omega) ?_
  refine Sat.bindE hwords ?_
  refine Sat.bindE e1 ?_
  refine Sat.bindE (ref_eq KK hK d hg) ?_
  rw [hi]
  refine Sat.bindE awake_true ?_
  refine Sat.chk (fun _ => ⟨Int.le_refl 0, by simp⟩) ?_
  refine Sat.chk (fun _ => ⟨Int.le_refl 0, by simp⟩) ?_
  refine Sat.chk (fun _ => ⟨by simp, by simp⟩) ?_
  refine Sat.chk (fun _ => ⟨by simp, by simp⟩) ?_
  have g1 : ∀ y z w : ApiWord, ([y, z, w] : List ApiWord).getD (Int.toNat 0) default = y := fun _ _ _ => rfl
  have g2 : ∀ y z w : ApiWord, ([y, z, w] : List ApiWord).getD (Int.toNat 1) default = z := fun _ _ _ => rfl
  rw [g1, g2]
  have hc7 : (((((((true && true) && (decide (v = v))) && (decide ((0 : Int) = 0))) && (decide ((([⟨2, [], v, 0, 0⟩, ⟨3, [], 0, c, (d.length : Int) + 1⟩, ⟨0, [], 0, 0, (d.length : Int) + 20⟩] : List ApiWord).length : Int) = 3))) && (decide ((2 : Int) = 2))) && (decide (v = v))) && (decide ((3 : Int) = 3))) = true := by
    rw [decide_eq_true (rfl : v = v)]; rfl
  refine Sat.bindIf hc7 hcanon ?_
  refine Sat.bindIf (by rw [Bool.and_eq_true]; exact ⟨hc7, decide_eq_true rfl⟩) hF ?_
  refine Sat.some ?_
  rw [hlen2, Bool.and_eq_true]
  refine ⟨?_, by decide⟩
  rw [Bool.and_eq_true]
  exact ⟨hc7, decide_eq_true rfl⟩
end Go.Proofs.Ytfmabehmohbahaa

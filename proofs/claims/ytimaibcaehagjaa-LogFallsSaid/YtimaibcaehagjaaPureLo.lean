/- Plain law of logs (with falls): entries in sectors. -/
import Derived.Test.YtimaibcaehagjaaPureLx
namespace Go.Proofs.Ytimaibcaehagjaa
set_option linter.unusedVariables false
set_option maxHeartbeats 2000000
set_option maxRecDepth 100000 in
theorem awake04 : offshootlaw04_awake.f KD = some true := by decide +kernel
/-- How many sectors. -/
def secsN (n : Nat) : Nat := 1 + ((n - 104) + 127) / 128
theorem sectors_eq (n : Nat) (hn : n ≤ 1000000000) : log_Sectors.f (n : Int) = some (secsN n : Int) := by
  unfold log_Sectors.f secsN
  rw [W_in (x := (n : Int) - 104) (by omega) (by omega)]
  have e : (if (n : Int) - 104 < 0 then 0 else (n : Int) - 104) = ((n - 104 : Nat) : Int) := by
    split <;> omega
  rw [e, W_in (x := ((n - 104 : Nat) : Int) + 128) (by omega) (by omega), W_in (x := ((n - 104 : Nat) : Int) + 128 - 1) (by omega) (by omega)]
  have e2 : (((n - 104 : Nat) : Int) + 128 - 1) = ((n - 104 + 127 : Nat) : Int) := by omega
  rw [e2]
  have e3 : Int.tdiv ((n - 104 + 127 : Nat) : Int) 128 = (((n - 104 + 127) / 128 : Nat) : Int) := by
    rw [Int.tdiv_eq_ediv_of_nonneg (by omega)]; omega
  rw [e3, W_in (x := (((n - 104 + 127) / 128 : Nat) : Int)) (by omega) (by omega), W_in (by omega) (by omega)]
  congr 1
theorem refsec_l1 (K : Nat) : ∀ (k : Nat) (n : Int) (c : Nat), -1000 ≤ n → n ≤ 1000000000 → (c : Int) + n ≤ 2000000000 → c ≤ 2000000000 → (n.toNat + 127) / 128 + 1 < k →
    offshootref04_Sectors.l1 K k n (c : Int) = some ((c + ((n.toNat - 104) + 127) / 128 : Nat) : Int) := by
  intro k
  induction k with
  | zero => intro n c h0 h1 h2 h2' h3; omega
  | succ k ih =>
    intro n c h0 h1 h2 h2' h3
    rw [offshootref04_Sectors.l1]
    by_cases hn : 104 < n
    · rw [if_pos (by simpa using hn), W_in (by omega) (by omega), W_in (by omega) (by omega)]
      have := ih (n - 128) (c + 1) (by omega) (by omega) (by omega) (by omega) (by omega)
      rw [show ((c : Int) + 1) = ((c + 1 : Nat) : Int) by omega, this]
      congr 2
      omega
    · rw [if_neg (by simpa using hn)]
      congr 2
      omega
theorem andI_mask (x : Int) (m : Nat) (hm : m < 2 ^ 62) : ∃ k : Nat, k ≤ m ∧ FW.andI .i64 x (m : Int) = (k : Int) := by
  unfold FW.andI
  refine ⟨(BitVec.ofInt IntKind.i64.bits x &&& BitVec.ofInt IntKind.i64.bits (m : Int)).toNat, ?_, ?_⟩
  · rw [BitVec.toNat_and]
    have e : (BitVec.ofInt IntKind.i64.bits (m : Int)).toNat = m := by
      show (BitVec.ofInt 64 (m : Int)).toNat = m
      rw [BitVec.toNat_ofInt]
      omega
    rw [e]
    exact Nat.and_le_right
  · have h : (BitVec.ofInt IntKind.i64.bits x &&& BitVec.ofInt IntKind.i64.bits (m : Int)).toNat ≤ m := by
      rw [BitVec.toNat_and]
      have e : (BitVec.ofInt IntKind.i64.bits (m : Int)).toNat = m := by
        show (BitVec.ofInt 64 (m : Int)).toNat = m
        rw [BitVec.toNat_ofInt]
        omega
      rw [e]
      exact Nat.and_le_right
    exact W_in (by omega) (by omega)
theorem refsec_eq (K : Nat) (n : Nat) (hn : n ≤ 1000000) (hK : (n + 127) / 128 + 1 < K) : offshootref04_Sectors.f K (n : Int) = some (secsN n : Int) := by
  unfold offshootref04_Sectors.f
  rw [show (1 : Int) = ((1 : Nat) : Int) from rfl, refsec_l1 K K n 1 (by omega) (by omega) (by omega) (by omega) (by simpa using hK)]
  rfl
def eightS (n : Nat) : List UInt8 := [0, 0, 0, 0, 0, 0, UInt8.ofNat (n / 256), UInt8.ofNat (n % 256)]
theorem eightS_len (n : Nat) : (eightS n).length = 8 := rfl
set_option maxRecDepth 100000 in
theorem eight_all : ∀ n : Fin 1100, val_Eight.f KD (n.val : Int) = some (eightS n.val) ∧ offshootref02_Eight.f KD (n.val : Int) = some (eightS n.val) ∧ val_Wide.f KD (eightS n.val) = some (n.val : Int) := by decide +kernel
theorem eight_eq {n : Nat} (h : n < 1100) : val_Eight.f KD (n : Int) = some (eightS n) := (eight_all ⟨n, h⟩).1
theorem eight_ref {n : Nat} (h : n < 1100) : offshootref02_Eight.f KD (n : Int) = some (eightS n) := (eight_all ⟨n, h⟩).2.1
theorem wide_eq {n : Nat} (h : n < 1100) : val_Wide.f KD (eightS n) = some (n : Int) := (eight_all ⟨n, h⟩).2.2
theorem WU_in {x : Int} (h0 : 0 ≤ x) (h1 : x < 18446744073709551616) : IntKind.wrap .u64 x = x := by rw [IntKind.wrap_u64]; omega
/-- An entry's bytes, with noughts up to the end of its last sector. -/
def padS (s : List UInt8) : List UInt8 := s ++ zeros (104 + 128 * (secsN s.length - 1) - s.length)
theorem secsN_le (n : Nat) : n ≤ 104 + 128 * (secsN n - 1) := by unfold secsN; omega
theorem secsN_pos (n : Nat) : 1 ≤ secsN n := by unfold secsN; omega
theorem secsN_few {n : Nat} (h : n ≤ 1090) : secsN n ≤ 9 := by unfold secsN; omega
theorem padS_len (s : List UInt8) : (padS s).length = 104 + 128 * (secsN s.length - 1) := by
  have := secsN_le s.length
  simp [padS, zeros]; omega
theorem padS_take (s : List UInt8) : (padS s).take s.length = s := by
  unfold padS
  rw [List.take_append_of_le_length (Nat.le_refl _), List.take_length]
theorem zeros_get (n i : Nat) : (zeros n)[i]? = if i < n then some 0 else none := by
  unfold zeros
  rw [List.getElem?_replicate]
theorem pad_get (x : List UInt8) (m q : Nat) : (x ++ zeros m)[q]? = if q < x.length then x[q]? else if q < x.length + m then some 0 else none := by
  by_cases h : q < x.length
  · rw [if_pos h, List.getElem?_append_left h]
  · rw [if_neg h, List.getElem?_append_right (by omega), zeros_get]
    by_cases h2 : q < x.length + m
    · rw [if_pos h2, if_pos (by omega)]
    · rw [if_neg h2, if_neg (by omega)]
theorem padS_get (s : List UInt8) (q : Nat) : (padS s)[q]? = if q < s.length then s[q]? else if q < 104 + 128 * (secsN s.length - 1) then some 0 else none := by
  have := secsN_le s.length
  unfold padS
  rw [pad_get, show s.length + (104 + 128 * (secsN s.length - 1) - s.length) = 104 + 128 * (secsN s.length - 1) by omega]
def headS (num : Nat) (s : List UInt8) : Sec := eightS num ++ eightS s.length ++ (padS s).take 104 ++ eightS num
def chunkS (s : List UInt8) (j : Nat) : Sec := ((padS s).drop (104 + 128 * j)).take 128
def chunksS (s : List UInt8) : List Sec := (List.range (secsN s.length - 1)).map (chunkS s)
def laidS (num : Nat) (s : List UInt8) : List Sec := headS num s :: chunksS s
theorem headS_len (num : Nat) (s : List UInt8) : (headS num s).length = 128 := by
  have := padS_len s
  simp [headS, eightS_len]; omega
theorem chunkS_len (s : List UInt8) {j : Nat} (h : j < secsN s.length - 1) : (chunkS s j).length = 128 := by
  have := padS_len s
  simp [chunkS]; omega
theorem chunksS_len (s : List UInt8) : (chunksS s).length = secsN s.length - 1 := by simp [chunksS]
theorem chunksS_get (s : List UInt8) (j : Nat) : (chunksS s)[j]? = if j < secsN s.length - 1 then some (chunkS s j) else none := by
  unfold chunksS
  rw [List.getElem?_map]
  by_cases h : j < secsN s.length - 1
  · rw [if_pos h, List.getElem?_range h]; rfl
  · rw [if_neg h, List.getElem?_eq_none (by simp; omega)]; rfl
theorem laidS_len (num : Nat) (s : List UInt8) : (laidS num s).length = secsN s.length := by
  have := secsN_pos s.length
  simp [laidS, chunksS_len]; omega
theorem chunk_eq (s : List UInt8) {j : Nat} (h : j < secsN s.length - 1) (m : Nat) (hm : m = min (s.drop (104 + 128 * j)).length 128) : (s.drop (104 + 128 * j)).take m ++ zeros (128 - m) = chunkS s j := by
  apply List.ext_getElem?
  intro q
  have hl := padS_len s
  rw [pad_get]
  unfold chunkS
  rw [List.getElem?_take, List.getElem?_take, List.getElem?_drop, List.getElem?_drop, padS_get]
  simp only [List.length_take, List.length_drop] at *
  by_cases h1 : q < 128
  · rw [if_pos h1]
    by_cases h2 : 104 + 128 * j + q < s.length
    · rw [if_pos (by omega), if_pos (by omega), if_pos h2]
    · rw [if_neg (by omega), if_pos (by omega), if_neg h2, if_pos (by omega)]
  · rw [if_neg h1, if_neg (by omega), if_neg (by omega)]
theorem head_part (s : List UInt8) (m : Nat) (hm : m = min s.length 104) : s.take m ++ zeros (104 - m) = (padS s).take 104 := by
  apply List.ext_getElem?
  intro q
  have hl := secsN_le s.length
  rw [pad_get, List.getElem?_take, List.getElem?_take, padS_get]
  simp only [List.length_take]
  by_cases h1 : q < 104
  · rw [if_pos h1]
    by_cases h2 : q < s.length
    · rw [if_pos (by omega), if_pos (by omega), if_pos h2]
    · rw [if_neg (by omega), if_pos (by omega), if_neg h2, if_pos (by omega)]
  · rw [if_neg h1, if_neg (by omega), if_neg (by omega)]
theorem log_pad_eq (v : List UInt8) (n : Nat) (h : v.length ≤ n) (hn : n ≤ 1000) : log_pad.f v (n : Int) = some (v ++ zeros (n - v.length)) := by
  unfold log_pad.f
  rw [W_in (by omega) (by omega), show (n : Int) - (v.length : Int) = ((n - v.length : Nat) : Int) by omega, (rep_zero _).resolve_right (by omega)]
  simp only [Option.bind_some]
  rw [if_pos (by simp [zeros]; omega)]
theorem minI (m n : Nat) : (if (m : Int) < (n : Int) then (m : Int) else (n : Int)) = ((min n m : Nat) : Int) := by
  split <;> omega
theorem log_head_eq (num : Nat) (hn : num < 1000) (s : List UInt8) (hs : s.length ≤ 1090) : log_head.f KD (num : Int) s = some (headS num s) := by
  refine Sat.get ?_
  unfold log_head.f
  have hl := padS_len s
  have l1 : (List.take 104 (padS s)).length = 104 := by rw [List.length_take]; omega
  have l0 : (eightS num ++ eightS s.length).length = 16 := by rw [List.length_append, eightS_len, eightS_len]
  refine Sat.bindE (eight_eq (show num < 1100 by omega)) ?_
  refine Sat.bindE (by rw [WU_in (by omega) (by omega)]; exact eight_eq (show s.length < 1100 by omega)) ?_
  refine Sat.chk (by rw [eightS_len, eightS_len]; omega) ?_
  rw [show (104 : Int) = ((104 : Nat) : Int) from rfl, minI]
  refine Sat.chk ⟨by omega, by omega⟩ ?_
  rw [Int.toNat_natCast]
  refine Sat.bindE (log_pad_eq _ 104 (by rw [List.length_take]; omega) (by omega)) ?_
  rw [show 104 - (List.take (min s.length 104) s).length = 104 - min s.length 104 by rw [List.length_take]; omega, head_part s _ rfl]
  refine Sat.chk (by rw [l0, l1]; omega) ?_
  refine Sat.bindE (eight_eq (show num < 1100 by omega)) ?_
  refine Sat.chk (by rw [List.length_append, l0, l1, eightS_len]; omega) ?_
  exact Sat.some rfl
/-! ### The document's sectors -/
theorem zeros_snoc (m : Nat) : zeros m ++ [0] = zeros (m + 1) := by
  unfold zeros
  rw [List.replicate_succ']
theorem laid_l2 (s : List UInt8) (num : Nat) (hs : s.length ≤ 1090) (G : Int → List UInt8 → Int → Int → Option (List (List UInt8))) : ∀ (k : Nat) (i : Nat), 1 ≤ i → i ≤ secsN s.length → secsN s.length - i < k →
    offshootref04_Laid.l2 G KD k (headS num s :: (chunksS s).take (i - 1)) (padS s) (secsN s.length : Int) (i : Int) = some (laidS num s) := by
  have hl := padS_len s
  have hk5 := secsN_few hs
  intro k
  induction k with
  | zero => intro i h0 h1 h2; omega
  | succ k ih =>
    intro i h0 h1 h2
    refine Sat.get ?_
    rw [offshootref04_Laid.l2]
    refine Sat.ite (fun hi => ?_) (fun hi => ?_)
    · simp only [decide_eq_true_eq] at hi
      rw [W_in (x := (i : Int) - 1) (by omega) (by omega), W_in (x := 128 * ((i : Int) - 1)) (by omega) (by omega), W_in (x := 104 + 128 * ((i : Int) - 1)) (by omega) (by omega), W_in (x := 128 * (i : Int)) (by omega) (by omega), W_in (x := 104 + 128 * (i : Int)) (by omega) (by omega), W_in (x := (i : Int) + 1) (by omega) (by omega)]
      have e1 : (104 + 128 * ((i : Int) - 1)) = ((104 + 128 * (i - 1) : Nat) : Int) := by omega
      have e2 : (104 + 128 * (i : Int)) = ((104 + 128 * i : Nat) : Int) := by omega
      rw [e1, e2]
      refine Sat.chk ⟨by omega, by omega, by omega⟩ ?_
      simp only [Int.toNat_natCast]
      rw [show 104 + 128 * i - (104 + 128 * (i - 1)) = 128 by omega]
      have ec : List.take 128 (List.drop (104 + 128 * (i - 1)) (padS s)) = chunkS s (i - 1) := rfl
      rw [ec]
      have hcl := chunksS_len s
      refine Sat.chk ⟨?_, ?_⟩ ?_
      · simp only [List.length_cons, List.length_take, List.length_nil]; omega
      · simp only [List.length_cons, List.length_take, List.length_nil]; omega
      have eq : (headS num s :: (chunksS s).take (i - 1)) ++ [chunkS s (i - 1)] = headS num s :: (chunksS s).take (i + 1 - 1) := by
        rw [List.cons_append]
        congr 1
        have := chunksS_get s (i - 1)
        rw [if_pos (by omega)] at this
        rw [show i + 1 - 1 = (i - 1) + 1 by omega, List.take_add_one, this]
        rfl
      rw [eq, show ((i : Int) + 1) = ((i + 1 : Nat) : Int) by omega]
      exact Sat.eq (ih (i + 1) (by omega) (by omega) (by omega)) rfl
    · simp only [decide_eq_false_iff_not] at hi
      have : i = secsN s.length := by omega
      subst this
      rw [List.take_of_length_le (by rw [chunksS_len]; omega)]
      exact Sat.some rfl
theorem laid_l1 (s : List UInt8) (num : Nat) (hs : s.length ≤ 1090) (hnum : num < 1000) : ∀ (k : Nat) (m : Nat), s.length + m ≤ 104 + 128 * (secsN s.length - 1) → 104 + 128 * (secsN s.length - 1) - (s.length + m) < k →
    offshootref04_Laid.l1 KD k (num : Int) (s ++ zeros m) (s.length : Int) (secsN s.length : Int) = some (laidS num s) := by
  have hl := padS_len s
  have hk1 := secsN_pos s.length
  have hk5 := secsN_few hs
  intro k
  induction k with
  | zero => intro m h0 h1; omega
  | succ k ih =>
    intro m h0 h1
    refine Sat.get ?_
    rw [offshootref04_Laid.l1]
    have hz : (s ++ zeros m).length = s.length + m := by simp [zeros]
    rw [W_in (x := (secsN s.length : Int) - 1) (by omega) (by omega), W_in (x := 128 * ((secsN s.length : Int) - 1)) (by omega) (by omega), W_in (x := 104 + 128 * ((secsN s.length : Int) - 1)) (by omega) (by omega), hz]
    refine Sat.ite (fun hi => ?_) (fun hi => ?_)
    · simp only [decide_eq_true_eq] at hi
      refine Sat.chk (by simp only [List.length_cons, List.length_nil]; omega) ?_
      rw [List.append_assoc, zeros_snoc]
      exact Sat.eq (ih (m + 1) (by omega) (by omega)) rfl
    · simp only [decide_eq_false_iff_not] at hi
      have e : s ++ zeros m = padS s := by
        unfold padS
        congr 2; omega
      rw [e]
      refine Sat.bindE (eight_ref (by omega)) ?_
      refine Sat.bindE (by rw [WU_in (by omega) (by omega)]; exact eight_ref (show s.length < 1100 by omega)) ?_
      have l1 : (List.take (Int.toNat 104) (padS s)).length = 104 := by rw [List.length_take, show Int.toNat 104 = 104 from rfl]; omega
      have l0 : (eightS num ++ eightS s.length).length = 16 := by rw [List.length_append, eightS_len, eightS_len]
      refine Sat.chk (by rw [eightS_len, eightS_len]; omega) ?_
      refine Sat.chk ⟨by omega, by omega⟩ ?_
      refine Sat.chk (by rw [l0, l1]; omega) ?_
      refine Sat.bindE (eight_ref (by omega)) ?_
      refine Sat.chk (by rw [List.length_append, l0, l1, eightS_len]; omega) ?_
      exact Sat.eq (laid_l2 s num hs _ KD 1 (by omega) (by omega) (by unfold KD; omega)) rfl
theorem laid_eq (s : List UInt8) (num : Nat) (hs : s.length ≤ 1090) (hnum : num < 1000) : offshootref04_Laid.f KD (num : Int) s = some (laidS num s) := by
  have hle := secsN_le s.length
  have hk5 := secsN_few hs
  refine Sat.get ?_
  unfold offshootref04_Laid.f
  refine Sat.bindE (refsec_eq KD s.length (by omega) (by unfold KD; omega)) ?_
  have := laid_l1 s num hs hnum KD 0 (by omega) (by unfold KD; omega)
  rw [show s ++ zeros 0 = s from List.append_nil s] at this
  exact Sat.eq this rfl
theorem few_eq (s : List UInt8) : offshootlaw04_few.f s = some (s.take 500) := by
  refine Sat.get ?_
  unfold offshootlaw04_few.f
  refine Sat.ite (fun hi => ?_) (fun hi => ?_)
  · simp only [decide_eq_true_eq] at hi
    refine Sat.chk ⟨by omega, by omega⟩ ?_
    exact Sat.some rfl
  · simp only [decide_eq_false_iff_not] at hi
    rw [List.take_of_length_le (by omega)]
    exact Sat.some rfl
end Go.Proofs.Ytimaibcaehagjaa

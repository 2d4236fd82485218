/- Plain law of logs: entries in sectors. -/
import Derived.Test.YtimaibcaehagjaaPureView
import Derived.Test.YtimaibcaehagjaaPureSectors
import Derived.Test.YtimaibcaehagjaaPureEight
namespace Go.Proofs.Ytimaibcaehagjaa
set_option linter.unusedVariables false
set_option maxHeartbeats 1000000
theorem WU_in {x : Int} (h0 : 0 ≤ x) (h1 : x < 18446744073709551616) : IntKind.wrap .u64 x = x := by
  unfold IntKind.wrap
  simp [IntKind.signed, IntKind.bits]
  omega
/-- An entry's bytes, with noughts up to the end of its last sector. -/
def padS (s : List UInt8) : List UInt8 := s ++ zeros (104 + 128 * (secsN s.length - 1) - s.length)
theorem secsN_le (n : Nat) : n ≤ 104 + 128 * (secsN n - 1) := by unfold secsN; omega
theorem secsN_pos (n : Nat) : 1 ≤ secsN n := by unfold secsN; omega
theorem secsN_few {n : Nat} (h : n ≤ 500) : secsN n ≤ 5 := by unfold secsN; omega
theorem padS_len (s : List UInt8) : (padS s).length = 104 + 128 * (secsN s.length - 1) := by
  have := secsN_le s.length
  simp [padS, zeros]; omega
theorem padS_take (s : List UInt8) : (padS s).take s.length = s := by
  unfold padS
  rw [List.take_append_of_le_length (Nat.le_refl _), List.take_length]
theorem zeros_get (n i : Nat) : (zeros n)[i]? = if i < n then some 0 else none := by
  unfold zeros
  rw [List.getElem?_replicate]
theorem pad_get (x : List UInt8) (m q : Nat) : (x ++ zeros m)[q]? = if q < x.length then x[q]? else if q < x.length + m then some 0 else none := by
  by_cases h : q < x.length
  · rw [if_pos h, List.getElem?_append_left h]
  · rw [if_neg h, List.getElem?_append_right (by omega), zeros_get]
    by_cases h2 : q < x.length + m
    · rw [if_pos h2, if_pos (by omega)]
    · rw [if_neg h2, if_neg (by omega)]
theorem padS_get (s : List UInt8) (q : Nat) : (padS s)[q]? = if q < s.length then s[q]? else if q < 104 + 128 * (secsN s.length - 1) then some 0 else none := by
  have := secsN_le s.length
  unfold padS
  rw [pad_get, show s.length + (104 + 128 * (secsN s.length - 1) - s.length) = 104 + 128 * (secsN s.length - 1) by omega]
def headS (num : Nat) (s : List UInt8) : Sec := eightS num ++ eightS s.length ++ (padS s).take 104 ++ eightS num
def chunkS (s : List UInt8) (j : Nat) : Sec := ((padS s).drop (104 + 128 * j)).take 128
def chunksS (s : List UInt8) : List Sec := (List.range (secsN s.length - 1)).map (chunkS s)
def laidS (num : Nat) (s : List UInt8) : List Sec := headS num s :: chunksS s
theorem headS_len (num : Nat) (s : List UInt8) : (headS num s).length = 128 := by
  have := padS_len s
  simp [headS, eightS_len]; omega
theorem chunkS_len (s : List UInt8) {j : Nat} (h : j < secsN s.length - 1) : (chunkS s j).length = 128 := by
  have := padS_len s
  simp [chunkS]; omega
theorem chunksS_len (s : List UInt8) : (chunksS s).length = secsN s.length - 1 := by simp [chunksS]
theorem chunksS_get (s : List UInt8) (j : Nat) : (chunksS s)[j]? = if j < secsN s.length - 1 then some (chunkS s j) else none := by
  unfold chunksS
  rw [List.getElem?_map]
  by_cases h : j < secsN s.length - 1
  · rw [if_pos h, List.getElem?_range h]; rfl
  · rw [if_neg h, List.getElem?_eq_none (by simp; omega)]; rfl
theorem laidS_len (num : Nat) (s : List UInt8) : (laidS num s).length = secsN s.length := by
  have := secsN_pos s.length
  simp [laidS, chunksS_len]; omega
theorem chunk_eq (s : List UInt8) {j : Nat} (h : j < secsN s.length - 1) (m : Nat) (hm : m = min (s.drop (104 + 128 * j)).length 128) : (s.drop (104 + 128 * j)).take m ++ zeros (128 - m) = chunkS s j := by
  apply List.ext_getElem?
  intro q
  have hl := padS_len s
  rw [pad_get]
  unfold chunkS
  rw [List.getElem?_take, List.getElem?_take, List.getElem?_drop, List.getElem?_drop, padS_get]
  simp only [List.length_take, List.length_drop] at *
  by_cases h1 : q < 128
  · rw [if_pos h1]
    by_cases h2 : 104 + 128 * j + q < s.length
    · rw [if_pos (by omega), if_pos (by omega), if_pos h2]
    · rw [if_neg (by omega), if_pos (by omega), if_neg h2, if_pos (by omega)]
  · rw [if_neg h1, if_neg (by omega), if_neg (by omega)]
theorem head_part (s : List UInt8) (m : Nat) (hm : m = min s.length 104) : s.take m ++ zeros (104 - m) = (padS s).take 104 := by
  apply List.ext_getElem?
  intro q
  have hl := secsN_le s.length
  rw [pad_get, List.getElem?_take, List.getElem?_take, padS_get]
  simp only [List.length_take]
  by_cases h1 : q < 104
  · rw [if_pos h1]
    by_cases h2 : q < s.length
    · rw [if_pos (by omega), if_pos (by omega), if_pos h2]
    · rw [if_neg (by omega), if_pos (by omega), if_neg h2, if_pos (by omega)]
  · rw [if_neg h1, if_neg (by omega), if_neg (by omega)]
theorem log_pad_eq (v : List UInt8) (n : Nat) (h : v.length ≤ n) (hn : n ≤ 1000) : log_pad.f v (n : Int) = some (v ++ zeros (n - v.length)) := by
  unfold log_pad.f
  rw [W_in (by omega) (by omega), show (n : Int) - (v.length : Int) = ((n - v.length : Nat) : Int) by omega, (rep_zero _).resolve_right (by omega)]
  simp only [Option.bind_some]
  rw [if_pos (by simp [zeros]; omega)]
theorem minI (m n : Nat) : (if (m : Int) < (n : Int) then (m : Int) else (n : Int)) = ((min n m : Nat) : Int) := by
  split <;> omega
theorem log_head_eq (num : Nat) (hn : num < 1024) (s : List UInt8) (hs : s.length ≤ 500) : log_head.f KD (num : Int) s = some (headS num s) := by
  refine Sat.get ?_
  unfold log_head.f
  have hl := padS_len s
  have l1 : (List.take 104 (padS s)).length = 104 := by rw [List.length_take]; omega
  have l0 : (eightS num ++ eightS s.length).length = 16 := by rw [List.length_append, eightS_len, eightS_len]
  refine Sat.bindE (eight_eq hn) ?_
  refine Sat.bindE (by rw [WU_in (by omega) (by omega)]; exact eight_eq (show s.length < 1024 by omega)) ?_
  refine Sat.chk (by rw [eightS_len, eightS_len]; omega) ?_
  rw [show (104 : Int) = ((104 : Nat) : Int) from rfl, minI]
  refine Sat.chk ⟨by omega, by omega⟩ ?_
  rw [Int.toNat_natCast]
  refine Sat.bindE (log_pad_eq _ 104 (by rw [List.length_take]; omega) (by omega)) ?_
  rw [show 104 - (List.take (min s.length 104) s).length = 104 - min s.length 104 by rw [List.length_take]; omega, head_part s _ rfl]
  refine Sat.chk (by rw [l0, l1]; omega) ?_
  refine Sat.bindE (eight_eq hn) ?_
  refine Sat.chk (by rw [List.length_append, l0, l1, eightS_len]; omega) ?_
  exact Sat.some rfl
end Go.Proofs.Ytimaibcaehagjaa

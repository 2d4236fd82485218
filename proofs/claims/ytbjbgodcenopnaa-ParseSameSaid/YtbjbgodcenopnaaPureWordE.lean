/- Plain law of lex: a word depends upon what stands from its place on; so do the words. -/
import Derived.Test.YtbjbgodcenopnaaPureLexC
namespace Go.Proofs.Ytbjbgodcenopnaa
set_option linter.unusedVariables false
set_option maxHeartbeats 1000000
def zeroW : ApiWord := ⟨0, [], 0, 0, 0⟩
def isSign (c : UInt8) : Bool := decide ((c.toNat : Int) = 46) || (decide ((c.toNat : Int) = 40) || (decide ((c.toNat : Int) = 41) || (decide ((c.toNat : Int) = 44) || (decide ((c.toNat : Int) = 91) || decide ((c.toNat : Int) = 93)))))
/-- An f, and a quote behind it. -/
def fq (c : UInt8) : List UInt8 → Bool
  | [] => false
  | d :: _ => decide ((c.toNat : Int) = 102) && decide ((d.toNat : Int) = 39)
/-- The word that begins with a byte, and what it takes; i: where. -/
def wordS (K : Nat) (i : Int) (c : UInt8) (r : List UInt8) : Option (ApiWord × Int) :=
  if fq c r = true then
    Option.bind (lex_float.f K (qS [] (r.drop 1) 1).1) fun t => if (decide ((qS [] (r.drop 1) 1).2 = 0) || !t.2) = true then some (zeroW, 0) else some (⟨3, [], 0, t.1, i⟩, (qS [] (r.drop 1) 1).2 + 1)
  else if (c.toNat : Int) = 39 then (if (500 : Int) < (qS [] r 1).1.length then some (⟨4, (qS [] r 1).1, 0, 0, i⟩, 0) else some (⟨4, (qS [] r 1).1, 0, 0, i⟩, (qS [] r 1).2))
  else if (isDigit c || decide ((c.toNat : Int) = 45)) = true then
    Option.bind (lex_integer.f K (c :: r.take (manyS isDigit r))) fun t => if (!t.2) = true then some (zeroW, 0) else some (⟨2, [], t.1, 0, i⟩, 1 + (manyS isDigit r : Int))
  else if isWordy c = true then (if (16 : Int) < (manyS isWordy (c :: r) : Int) then some (zeroW, 0) else some (⟨1, (c :: r).take (manyS isWordy (c :: r)), 0, 0, i⟩, (manyS isWordy (c :: r) : Int)))
  else if isSign c = true then some (⟨5, [c], 0, 0, i⟩, 1) else some (zeroW, 0)
theorem sign_idx (c : UInt8) : ∃ t, strings_IndexByte.f ([46, 40, 41, 44, 91, 93] : List UInt8) (c.toNat : Int) = some t ∧ (0 ≤ t ↔ isSign c = true) := by
  have : ∀ n : Fin 256, ∃ t, strings_IndexByte.f ([46, 40, 41, 44, 91, 93] : List UInt8) ((UInt8.ofNat n.val).toNat : Int) = some t ∧ (0 ≤ t ↔ isSign (UInt8.ofNat n.val) = true) := by
    intro n
    refine ⟨(strings_IndexByte.f ([46, 40, 41, 44, 91, 93] : List UInt8) ((UInt8.ofNat n.val).toNat : Int)).getD (-2), ?_, ?_⟩
    · revert n; decide +kernel
    · revert n; decide +kernel
  have h := this ⟨c.toNat, c.toNat_lt⟩
  simpa using h
theorem word_eq (K : Nat) (hK : 100000 < K) (s : List UInt8) (i : Int) (c : UInt8) (r : List UInt8) (hs : (s.length : Int) ≤ 3000) (h0 : 0 ≤ i) (hd : s.drop i.toNat = c :: r) : lex_word.f K s i = wordS K i c r := by
  unfold lex_word.f wordS
  obtain ⟨h1, hdr, hlen⟩ := drop_lt h0 hd
  have w1 : IntKind.wrap .i64 (i + 1) = i + 1 := W_in (by omega) (by omega)
  have hb := bt_at hd
  simp only [w1, hb]
  rw [if_pos ⟨h0, h1⟩, if_pos (fun h => by simp at h; omega)]
  have e1 : (((decide ((c.toNat : Int) = 102)) && (decide (i + 1 < (s.length : Int)))) && (decide (FW.bt s (i + 1) = 39))) = fq c r := by
    cases r with
    | nil =>
      simp only [List.length_nil] at hlen
      have : ¬ (i + 1 < (s.length : Int)) := by omega
      simp [this, fq]
    | cons d r2 =>
      have hb2 := bt_at hdr
      simp only [List.length_cons] at hlen
      have : i + 1 < (s.length : Int) := by omega
      simp [this, hb2, fq]
  rw [e1]
  by_cases hf : fq c r = true
  · rw [if_pos hf, if_pos hf]
    have hr : r ≠ [] := by rintro rfl; simp [fq] at hf
    have hrl : 0 < r.length := List.length_pos_iff.2 hr
    rw [if_pos ⟨by omega, by omega⟩, hdr, quoted_eq K r (by omega) (by omega) hK]
    simp only [Option.bind_some]
    obtain ⟨v, hv⟩ := float_tot K (qS [] (List.drop 1 r) 1).1 hK
    rw [hv]
    simp only [Option.bind_some]
    by_cases hz : (decide ((qS [] (List.drop 1 r) 1).2 = 0) || !v.2) = true
    · rw [if_pos hz, if_pos hz]; rfl
    · rw [if_neg hz, if_neg hz]
      have hq := qS_bound _ (List.drop 1 r) [] 1 (Nat.le_refl _) (by omega)
      rw [List.length_drop] at hq
      rw [W_in (by omega) (by omega)]
  rw [if_neg hf, if_neg hf]
  by_cases h39 : (c.toNat : Int) = 39
  · rw [if_pos (by simpa using h39), if_pos h39, if_pos ⟨h0, by omega⟩, hd, quoted_eq K (c :: r) (by simp; omega) (by simp) hK]
    simp only [Option.bind_some, List.drop_succ_cons, List.drop_zero, lex_word.j1]
    by_cases h5 : (500 : Int) < ((qS [] r 1).1.length : Int)
    · rw [if_pos (by simpa using h5), if_pos h5]
    · rw [if_neg (by simpa using h5), if_neg h5]
  rw [if_neg (by simpa using h39), if_neg h39]
  unfold lex_word_1.f
  simp only [Option.bind_some]
  have edig : ((decide (48 ≤ (c.toNat : Int))) && (decide ((c.toNat : Int) ≤ 57))) = isDigit c := rfl
  rw [edig]
  by_cases hn : (isDigit c || decide ((c.toNat : Int) = 45)) = true
  · rw [if_pos hn, if_pos hn, many_1_eq K s (i + 1) (by omega) (by omega) (by omega) hK, hdr]
    simp only [Option.bind_some]
    have hm := manyS_le isDigit r
    rw [W_in (x := 1 + (manyS isDigit r : Int)) (by omega) (by omega), W_in (by omega) (by omega)]
    rw [if_pos ⟨h0, by omega, by omega⟩, hd]
    have et : List.take ((i + (1 + (manyS isDigit r : Int))).toNat - i.toNat) (c :: r) = c :: r.take (manyS isDigit r) := by
      rw [show (i + (1 + (manyS isDigit r : Int))).toNat - i.toNat = manyS isDigit r + 1 from by omega, List.take_succ_cons]
    rw [et]
    rfl
  rw [if_neg hn, if_neg hn]
  unfold lex_wordy.f
  simp only [Option.bind_some]
  rw [show ((((decide ((c.toNat : Int) = 95)) || ((decide (97 ≤ (c.toNat : Int))) && (decide ((c.toNat : Int) ≤ 122)))) || ((decide (65 ≤ (c.toNat : Int))) && (decide ((c.toNat : Int) ≤ 90)))) || ((decide (48 ≤ (c.toNat : Int))) && (decide ((c.toNat : Int) ≤ 57)))) = isWordy c from rfl]
  by_cases hw : isWordy c = true
  · rw [if_pos hw, if_pos hw, many_w_eq K s i (by omega) (by omega) (by omega) hK, hd]
    simp only [Option.bind_some]
    have hm := manyS_le isWordy (c :: r)
    simp only [List.length_cons] at hm
    by_cases h16 : (16 : Int) < (manyS isWordy (c :: r) : Int)
    · rw [if_pos (by simpa using h16), if_pos h16]; rfl
    · rw [if_neg (by simpa using h16), if_neg h16, W_in (by omega) (by omega), if_pos ⟨h0, by omega, by omega⟩]
      rw [show (i + (manyS isWordy (c :: r) : Int)).toNat - i.toNat = manyS isWordy (c :: r) from by omega]
  rw [if_neg hw, if_neg hw]
  obtain ⟨t, ht, hts⟩ := sign_idx c
  rw [ht]
  simp only [Option.bind_some]
  by_cases hg : isSign c = true
  · rw [if_pos (by simpa using hts.2 hg), if_pos hg, if_pos ⟨h0, by omega, by omega⟩, hd]
    rw [show (i + 1).toNat - i.toNat = 1 from by omega]; rfl
  · rw [if_neg (by simpa using fun h => hg (hts.1 h)), if_neg hg]; rfl
end Go.Proofs.Ytbjbgodcenopnaa

/- Plain law of LogSectors: how many sectors an entry takes. -/
import Derived.Test.YtimaibcaehagjaaPureDev
import Derived.Test.YtimaibcaehagjaaLsD
namespace Go.Proofs.Ytimaibcaehagjaa
set_option linter.unusedVariables false
set_option maxHeartbeats 1000000
set_option maxRecDepth 100000 in
theorem awake04 : offshootlaw04_awake.f KD = some true := by decide +kernel
/-- How many sectors. -/
def secsN (n : Nat) : Nat := 1 + ((n - 104) + 127) / 128
theorem sectors_eq (n : Nat) (hn : n ≤ 1000000000) : log_Sectors.f (n : Int) = some (secsN n : Int) := by
  unfold log_Sectors.f secsN
  rw [W_in (x := (n : Int) - 104) (by omega) (by omega)]
  have e : (if (n : Int) - 104 < 0 then 0 else (n : Int) - 104) = ((n - 104 : Nat) : Int) := by
    split <;> omega
  rw [e, W_in (x := ((n - 104 : Nat) : Int) + 128) (by omega) (by omega), W_in (x := ((n - 104 : Nat) : Int) + 128 - 1) (by omega) (by omega)]
  have e2 : (((n - 104 : Nat) : Int) + 128 - 1) = ((n - 104 + 127 : Nat) : Int) := by omega
  rw [e2]
  have e3 : Int.tdiv ((n - 104 + 127 : Nat) : Int) 128 = (((n - 104 + 127) / 128 : Nat) : Int) := by
    rw [Int.tdiv_eq_ediv_of_nonneg (by omega)]; omega
  rw [e3, W_in (x := (((n - 104 + 127) / 128 : Nat) : Int)) (by omega) (by omega), W_in (by omega) (by omega)]
  congr 1
theorem refsec_l1 (K : Nat) : ∀ (k : Nat) (n : Int) (c : Nat), -1000 ≤ n → n ≤ 1000000000 → (c : Int) + n ≤ 2000000000 → c ≤ 2000000000 → (n.toNat + 127) / 128 + 1 < k →
    offshootref04_Sectors.l1 K k n (c : Int) = some ((c + ((n.toNat - 104) + 127) / 128 : Nat) : Int) := by
  intro k
  induction k with
  | zero => intro n c h0 h1 h2 h2' h3; omega
  | succ k ih =>
    intro n c h0 h1 h2 h2' h3
    rw [offshootref04_Sectors.l1]
    by_cases hn : 104 < n
    · rw [if_pos (by simpa using hn), W_in (by omega) (by omega), W_in (by omega) (by omega)]
      have := ih (n - 128) (c + 1) (by omega) (by omega) (by omega) (by omega) (by omega)
      rw [show ((c : Int) + 1) = ((c + 1 : Nat) : Int) by omega, this]
      congr 2
      omega
    · rw [if_neg (by simpa using hn)]
      congr 2
      omega
theorem andI_mask (x : Int) (m : Nat) (hm : m < 2 ^ 62) : ∃ k : Nat, k ≤ m ∧ FW.andI .i64 x (m : Int) = (k : Int) := by
  unfold FW.andI
  refine ⟨(BitVec.ofInt IntKind.i64.bits x &&& BitVec.ofInt IntKind.i64.bits (m : Int)).toNat, ?_, ?_⟩
  · rw [BitVec.toNat_and]
    have e : (BitVec.ofInt IntKind.i64.bits (m : Int)).toNat = m := by
      show (BitVec.ofInt 64 (m : Int)).toNat = m
      rw [BitVec.toNat_ofInt]
      omega
    rw [e]
    exact Nat.and_le_right
  · have h : (BitVec.ofInt IntKind.i64.bits x &&& BitVec.ofInt IntKind.i64.bits (m : Int)).toNat ≤ m := by
      rw [BitVec.toNat_and]
      have e : (BitVec.ofInt IntKind.i64.bits (m : Int)).toNat = m := by
        show (BitVec.ofInt 64 (m : Int)).toNat = m
        rw [BitVec.toNat_ofInt]
        omega
      rw [e]
      exact Nat.and_le_right
    exact W_in (by omega) (by omega)
theorem refsec_eq (K : Nat) (n : Nat) (hn : n ≤ 1000000) (hK : (n + 127) / 128 + 1 < K) : offshootref04_Sectors.f K (n : Int) = some (secsN n : Int) := by
  unfold offshootref04_Sectors.f
  rw [show (1 : Int) = ((1 : Nat) : Int) from rfl, refsec_l1 K K n 1 (by omega) (by omega) (by omega) (by omega) (by simpa using hK)]
  rfl
theorem sectors_true (x : Int) : ∃ K, offshootlaw04_LogSectors.f K x = some true := by
  refine ⟨KD, Sat.get ?_⟩
  unfold offshootlaw04_LogSectors.f
  refine Sat.bindE awake04 ?_
  obtain ⟨k, hk, e⟩ := andI_mask x 65535 (by decide)
  rw [show (65535 : Int) = ((65535 : Nat) : Int) from rfl, e]
  simp only [if_true]
  refine Sat.bindE (sectors_eq k (by omega)) ?_
  refine Sat.bindE (refsec_eq KD k (by omega) (by unfold KD; omega)) ?_
  simp only [decide_true, Bool.and_true, if_true]
  refine Sat.bindE (show log_Sectors.f 0 = some 1 from sectors_eq 0 (by omega)) ?_
  exact Sat.some (by simp)
end Go.Proofs.Ytimaibcaehagjaa

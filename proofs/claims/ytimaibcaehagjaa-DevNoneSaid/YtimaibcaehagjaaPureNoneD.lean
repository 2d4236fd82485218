/- Plain law of DevNone. -/
import Derived.Test.YtimaibcaehagjaaPureActs
import Derived.Test.YtimaibcaehagjaaDnD
namespace Go.Proofs.Ytimaibcaehagjaa
set_option linter.unusedVariables false
set_option maxHeartbeats 1000000
theorem newo_l1 (K : Nat) (n : Nat) : ∀ (k : Nat) (i : Nat) (l : List Sec), l.length = n → i ≤ n → n ≤ 65536 → l.take i = List.replicate i zeroS → n - i < k →
    dev_New_opt.l1 K k 0 false l (n : Int) (i : Int) = some (some ⟨List.replicate n zeroS, [], 0, [], false⟩, 0) := by
  intro k
  induction k with
  | zero => intro i l h0 h1 h2 h3 h4; omega
  | succ k ih =>
    intro i l h0 h1 h2 h3 h4
    rw [dev_New_opt.l1]
    by_cases hi : i < n
    · have hrep : strings_Repeat.f ([0] : List UInt8) 128 = some zeroS := by
        unfold strings_Repeat.f
        rw [if_pos (by simp)]; decide +kernel
      rw [if_pos (by simp; omega), hrep]
      simp only [Option.bind_some]
      rw [h0, if_pos ⟨by omega, by omega⟩, W_in (by omega) (by omega), Int.toNat_natCast, show ((i : Int) + 1) = ((i + 1 : Nat) : Int) by omega]
      refine ih (i + 1) _ (by simpa using h0) (by omega) h2 ?_ (by omega)
      rw [List.take_add_one, List.take_set_of_le (by omega), List.getElem?_set_self (by omega), h3]
      simp [List.replicate_succ']
    · have : i = n := by omega
      subst this
      rw [if_neg (by simp), ← h3, List.take_of_length_le (by omega)]
theorem newo_eq (K : Nat) (n : Nat) (hn : n ≤ 65536) (hK : n < K) : dev_New_opt.f K (n : Int) = some (some ⟨List.replicate n zeroS, [], 0, [], false⟩, 0) := by
  unfold dev_New_opt.f
  rw [if_neg (by simp; omega), if_pos (by omega), Int.toNat_natCast, List.length_replicate]
  exact newo_l1 K n K 0 _ (by simp) (by omega) hn (by simp) (by omega)
theorem newo_not (K : Nat) (x : Int) (h : x < 0 ∨ 65536 < x) : dev_New_opt.f K x = some (none, 1) := by
  unfold dev_New_opt.f
  rw [if_pos (by rw [Bool.or_eq_true, decide_eq_true_eq, decide_eq_true_eq]; exact h)]
theorem andI_low (m : Nat) (hm : m < 100) (x : Int) (e1 : (BitVec.ofInt IntKind.i64.bits (m : Int)).toNat = m) : 0 ≤ FW.andI .i64 x m ∧ FW.andI .i64 x m ≤ m := by
  unfold FW.andI
  have e : (BitVec.ofInt IntKind.i64.bits x &&& BitVec.ofInt IntKind.i64.bits (m : Int)).toNat ≤ m := by
    rw [BitVec.toNat_and, e1]
    exact Nat.and_le_right
  rw [W_in (by omega) (by omega)]
  omega
def oneD : ODevDev := ⟨List.replicate 1 zeroS, [], 0, [], false⟩
theorem write_one : (dev_Dev_Write.f KD oneD 0 (sec 122)).map (·.1) = some 0 := by decide +kernel
theorem read_one : dev_Dev_Read.f oneD 0 = some (zeroS, 0) := by decide +kernel
theorem none_true (v0 : Int) (v1 : Offshootlaw03Act) : ∃ K, offshootlaw03_DevNone.f K v0 v1 = some true := by
  refine ⟨KD, Sat.get ?_⟩
  unfold offshootlaw03_DevNone.f
  refine Sat.bindE (r := ()) rfl ?_
  refine Sat.bindE (r := ()) rfl ?_
  refine Sat.bindE (r := (([] : List UInt8), 7)) rfl ?_
  obtain ⟨k0, k1⟩ := andI_low 3 (by omega) v0 (by decide)
  obtain ⟨m0, m1⟩ := andI_low 7 (by omega) v0 (by decide)
  have e3 : ((3 : Nat) : Int) = 3 := rfl
  have e7 : ((7 : Nat) : Int) = 7 := rfl
  rw [e3] at k0 k1
  rw [e7] at m0 m1
  generalize FW.andI .i64 v0 3 = x at *
  generalize FW.andI .i64 v0 7 = y at *
  rw [W_in (x := 65535 + x) (by omega) (by omega), W_in (x := (-1) - y) (by omega) (by omega)]
  have h4 : ∃ t : Option ODevDev × Int, dev_New_opt.f KD (65535 + x) = some t ∧ ((decide (t.2 = 0)) == (decide (65535 + x ≤ 65536))) = true ∧ ((!(Option.isNone t.1)) == (decide (t.2 = 0))) = true := by
    by_cases hx : x ≤ 1
    · have := newo_eq KD (65535 + x).toNat (by omega) (by unfold KD; omega)
      rw [show (((65535 + x).toNat : Nat) : Int) = 65535 + x by omega] at this
      exact ⟨_, this, by simp; omega, rfl⟩
    · exact ⟨_, newo_not KD _ (by omega), by simp; omega, rfl⟩
  obtain ⟨t4, h4, h4a, h4b⟩ := h4
  refine Sat.bindE h4 ?_
  refine Sat.bindE (newo_not KD _ (by omega)) ?_
  refine Sat.bindE (r := (oneD, 0)) (new_eq KD 1 (by omega) (by unfold KD; omega)) ?_
  refine Sat.bindE (r := (oneD, oneD)) (by unfold dev_Dev_Copy.f; rw [if_pos (by simp [oneD]), if_pos (by simp [oneD])]) ?_
  refine Sat.bindE (sector_eq KD (by unfold KD; omega) 122) ?_
  obtain ⟨t9, h9, h9a⟩ := Option.map_eq_some_iff.1 write_one
  refine Sat.bindE h9 ?_
  refine Sat.bindE read_one ?_
  refine Sat.bindE awake3 ?_
  refine Sat.bindE (r := sec 97) (by rw [if_pos (by simp)]; exact sector_eq KD (by unfold KD; omega) 97) ?_
  refine Sat.bindE (r := 7) (by rw [if_pos (by simp)]; rfl) ?_
  refine Sat.bindE (r := 7) (by rw [if_pos (by simp)]; rfl) ?_
  refine Sat.bindE (r := true) (by rw [if_pos (by simp)]; rfl) ?_
  refine Sat.bindE (r := false) (by rw [if_pos (by simp)]; rfl) ?_
  refine Sat.bindE (r := 0) (by rw [if_pos (by simp)]; rfl) ?_
  refine Sat.bindE (r := 0) (by rw [if_pos (by simp)]; rfl) ?_
  refine Sat.bindE (r := 0) (by rw [if_pos (by simp)]; rfl) ?_
  rw [h4a, h4b, h9a]
  refine Sat.bindE (r := sec 0) (by rw [if_pos (by simp)]; exact sector_eq KD (by unfold KD; omega) 0) ?_
  exact Sat.some (by decide +kernel)
end Go.Proofs.Ytimaibcaehagjaa

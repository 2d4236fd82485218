/- Plain law of ParseDeep. -/
import Derived.Test.YtbjbgodcenopnaaPureDeep
import Derived.Test.YtbjbgodcenopnaaPureDeep148
import Derived.Test.YtbjbgodcenopnaaPureDeep149
import Derived.Test.YtbjbgodcenopnaaPureDeep150
import Derived.Test.YtbjbgodcenopnaaPureDeep151
namespace Go.Proofs.Ytbjbgodcenopnaa
set_option linter.unusedVariables false
set_option maxHeartbeats 1000000
theorem reps_len (n : Nat) (x : List UInt8) : (reps n x).length = n * x.length := by simp [reps]
theorem reps_succ (n : Nat) (x : List UInt8) : reps (n + 1) x = x ++ reps n x := by simp [reps, List.replicate_succ]
theorem andI_small (m : Nat) (x : Int) (b : Nat) (hb : (BitVec.ofInt IntKind.i64.bits (m : Int)).toNat = b) (hb0 : b < 1000) : 0 ≤ FW.andI .i64 x m ∧ FW.andI .i64 x m ≤ b := by
  unfold FW.andI
  have e : (BitVec.ofInt IntKind.i64.bits x &&& BitVec.ofInt IntKind.i64.bits (m : Int)).toNat ≤ b := by
    rw [BitVec.toNat_and, hb]
    exact Nat.and_le_right
  rw [W_in (by omega) (by omega)]
  omega
theorem awake12 : offshootlaw12_awake.f KK = some true := by decide +kernel
theorem bind4 {α β γ δ ε : Type} {A : Option α} {B : Option β} {C : Option γ} {D : Option δ} {G : α → β → γ → δ → ε} {x : α} {y : β} {z : γ} {d : δ} {p : Prop} [Decidable p] (hA : A = some x) (hp : p) (hB : B = some y) (hC : C = some z) (hD : D = some d) :
    (Option.bind A fun t1 => if p then (Option.bind B fun t2 => Option.bind C fun t3 => Option.bind D fun t4 => some (G t1 t2 t3 t4)) else none) = some (G x y z d) := by
  subst hA hB hC hD
  rw [Option.bind_some, if_pos hp]
  rfl
theorem deep_l3 (K : Nat) (haw : offshootlaw12_awake.f K = some true) (s1 : Int → Int → List UInt8 → List UInt8 → Int → Option Bool) (s2 : Int → Int → List UInt8 → List UInt8 → Int → Option Bool) (k m : Nat) (hm : m ≤ 200) (a b c : Int) (v6 v7 : List UInt8) (h7 : v7.length ≤ 1000)
    (hs : ∃ t, parse_Parse.f K v6 = some t ∧ t.2.2 = a) (ht : ∃ t, parse_Parse.f K (v7 ++ [41]) = some t ∧ t.2.2 = b) (hu : ∃ t, parse_Parse.f K (deepU m) = some t ∧ t.2.2 = c)
    (hr : ((((((true && ((decide (a = 0)) == (decide ((k : Int) ≤ 12)))) && ((decide (a = 0)) || (decide (a = 3)))) && ((decide ((k : Int) = 0)) || (((decide (b = 0)) == (decide ((k : Int) ≤ 12))) && ((decide (b = 0)) || (decide (b = 3)))))) && ((decide (c = 0)) == (decide ((m : Int) + 1 ≤ 150)))) && ((decide (c = 0)) || (decide (c = 3))))) = true) :
    ∀ (f : Nat) (i : Nat) (v10 : List UInt8), i ≤ m → v10 ++ reps (m - i) [46, 105, 100, 40, 41] = deepU m → v10.length ≤ 5 + 5 * i → m - i < f →
      offshootlaw12_ParseDeep.l3 s1 s2 K f (k : Int) v6 v7 v10 (m : Int) (i : Int) = some true := by
  intro f
  induction f with
  | zero => intro i v10 h0 h1 h2 h3; omega
  | succ f ih =>
    intro i v10 h0 h1 h2 h3
    rw [offshootlaw12_ParseDeep.l3]
    by_cases hi : i < m
    · rw [if_pos (by simp; omega), if_pos (by simp; omega), W_in (by omega) (by omega), show ((i : Int) + 1) = ((i + 1 : Nat) : Int) by omega]
      refine ih (i + 1) _ (by omega) ?_ (by simp; omega) (by omega)
      rw [List.append_assoc, ← reps_succ, show m - (i + 1) + 1 = m - i from by omega]
      exact h1
    · have : i = m := by omega
      subst this
      have e : v10 = deepU i := by rw [← h1]; simp [reps]
      subst e
      obtain ⟨x, hx, hxa⟩ := hs
      obtain ⟨y, hy, hyb⟩ := ht
      obtain ⟨z, hz, hzc⟩ := hu
      rw [if_neg (by simp)]
      have hlen : (v7.length : Int) + ([41] : List UInt8).length ≤ 9223372036854775807 := by
        have : ([41] : List UInt8).length = 1 := rfl
        omega
      refine (bind4 hx hlen hy hz haw).trans ?_
      rw [hxa, hyb, hzc, W_in (by omega) (by omega), hr]
theorem deep_l2 (K : Nat) (s1 : Int → Int → List UInt8 → List UInt8 → Int → Option Bool) (v1 : Int) (k : Nat) (hk : k ≤ 15) (V6 V7 : List UInt8)
    (h : ∀ s2, offshootlaw12_ParseDeep.l3 s1 s2 K K (k : Int) V6 V7 ([103, 46, 86, 40, 41] : List UInt8) (IntKind.wrap .i64 (148 + (FW.andI .i64 v1 3))) 0 = some true) :
    ∀ (f : Nat) (i : Nat) (v6 v7 : List UInt8), i ≤ k → v6 ++ reps (k - i) [41] = V6 → v7 ++ reps (k - i) [93] = V7 → v6.length ≤ 500 + i → v7.length ≤ 500 + i → k - i < f →
      offshootlaw12_ParseDeep.l2 s1 K f v1 (k : Int) v6 v7 (i : Int) = some true := by
  intro f
  induction f with
  | zero => intro i v6 v7 h0 h1 h2 h3 h4 h5; omega
  | succ f ih =>
    intro i v6 v7 h0 h1 h2 h3 h4 h5
    rw [offshootlaw12_ParseDeep.l2]
    by_cases hi : i < k
    · rw [if_pos (by simp; omega), if_pos (by simp; omega), if_pos (by simp; omega), W_in (by omega) (by omega), show ((i : Int) + 1) = ((i + 1 : Nat) : Int) by omega]
      refine ih (i + 1) _ _ (by omega) ?_ ?_ (by simp; omega) (by simp; omega) (by omega)
      · rw [List.append_assoc, ← reps_succ, show k - (i + 1) + 1 = k - i from by omega]; exact h1
      · rw [List.append_assoc, ← reps_succ, show k - (i + 1) + 1 = k - i from by omega]; exact h2
    · have : i = k := by omega
      subst this
      rw [if_neg (by simp)]
      have e6 : v6 = V6 := by rw [← h1]; simp [reps]
      have e7 : v7 = V7 := by rw [← h2]; simp [reps]
      rw [e6, e7]
      exact h _
theorem deep_l1 (K : Nat) (v1 : Int) (k : Nat) (hk : k ≤ 15) (W6 W7 : List UInt8)
    (h : ∀ s1, offshootlaw12_ParseDeep.l2 s1 K K v1 (k : Int) W6 W7 0 = some true) :
    ∀ (f : Nat) (i : Nat) (v6 v7 : List UInt8), i ≤ k → v6 ++ reps (k - i) [46, 119, 104, 101, 114, 101, 40, 111, 117, 116, 40, 41] = W6 → v7 ++ reps (k - i) [91] = W7 → v6.length ≤ 20 + 12 * i → v7.length ≤ 20 + i → k - i < f →
      offshootlaw12_ParseDeep.l1 K f v1 (k : Int) v6 v7 (i : Int) = some true := by
  intro f
  induction f with
  | zero => intro i v6 v7 h0 h1 h2 h3 h4 h5; omega
  | succ f ih =>
    intro i v6 v7 h0 h1 h2 h3 h4 h5
    rw [offshootlaw12_ParseDeep.l1]
    by_cases hi : i < k
    · rw [if_pos (by simp; omega), if_pos (by simp; omega), if_pos (by simp; omega), W_in (by omega) (by omega), show ((i : Int) + 1) = ((i + 1 : Nat) : Int) by omega]
      refine ih (i + 1) _ _ (by omega) ?_ ?_ (by simp; omega) (by simp; omega) (by omega)
      · rw [List.append_assoc, ← reps_succ, show k - (i + 1) + 1 = k - i from by omega]; exact h1
      · rw [List.append_assoc, ← reps_succ, show k - (i + 1) + 1 = k - i from by omega]; exact h2
    · have : i = k := by omega
      subst this
      rw [if_neg (by simp)]
      have e6 : v6 = W6 := by rw [← h1]; simp [reps]
      have e7 : v7 = W7 := by rw [← h2]; simp [reps]
      rw [e6, e7]
      exact h _
theorem deep_any (v0 v1 : Int) (k m : Nat) (hk : k ≤ 15) (hm : m ≤ 200) (hkv : FW.andI .i64 v0 15 = (k : Int)) (hmv : 148 + FW.andI .i64 v1 3 = (m : Int)) (a b c : Int) (hs : errE (deepS k) = some a) (ht : errE (deepT k) = some b) (hu : errE (deepU m) = some c)
    (hr : ((((((true && ((decide (a = 0)) == (decide ((k : Int) ≤ 12)))) && ((decide (a = 0)) || (decide (a = 3)))) && ((decide ((k : Int) = 0)) || (((decide (b = 0)) == (decide ((k : Int) ≤ 12))) && ((decide (b = 0)) || (decide (b = 3)))))) && ((decide (c = 0)) == (decide ((m : Int) + 1 ≤ 150)))) && ((decide (c = 0)) || (decide (c = 3))))) = true) :
    offshootlaw12_ParseDeep.f KK v0 v1 = some true := by
  have lS : (deepS k).length = 5 + 12 * k + k := by simp [deepS, reps_len]; omega
  have lT : (deepT k).length = 9 + k + k + 1 := by simp [deepT, reps_len]; omega
  have lU : (deepU m).length = 5 + 5 * m := by simp [deepU, reps_len]; omega
  unfold offshootlaw12_ParseDeep.f
  rw [hkv]
  refine deep_l1 KK v1 k hk ([103, 46, 86, 40, 41] ++ reps k [46, 119, 104, 101, 114, 101, 40, 111, 117, 116, 40, 41]) ([103, 46, 105, 110, 106, 101, 99, 116, 40] ++ reps k [91]) (fun s1 => ?_) KK 0 _ _ (by omega) (by simp) (by simp) (by simp) (by simp) (by unfold KK; omega)
  refine deep_l2 KK s1 v1 k hk (deepS k) ([103, 46, 105, 110, 106, 101, 99, 116, 40] ++ reps k [91] ++ reps k [93]) (fun s2 => ?_) KK 0 _ _ (by omega) (by simp [deepS]) (by simp) (by simp [reps_len]; omega) (by simp [reps_len]; omega) (by unfold KK; omega)
  rw [hmv, W_in (by omega) (by omega)]
  exact deep_l3 KK awake12 s1 s2 k m hm a b c _ _ (by simp [reps_len]; omega) (err_eq _ (by omega) hs) (err_eq _ (by simp [reps_len]; omega) ht) (err_eq _ (by omega) hu) hr KK 0 _ (by omega) rfl (by simp) (by unfold KK; omega)
theorem s_any (k : Nat) (hk : k ≤ 15) : errE (deepS k) = some (if k ≤ 12 then 0 else 3) := by
  rcases (by omega : k = 0 ∨ k = 1 ∨ k = 2 ∨ k = 3 ∨ k = 4 ∨ k = 5 ∨ k = 6 ∨ k = 7 ∨ k = 8 ∨ k = 9 ∨ k = 10 ∨ k = 11 ∨ k = 12 ∨ k = 13 ∨ k = 14 ∨ k = 15) with rfl | rfl | rfl | rfl | rfl | rfl | rfl | rfl | rfl | rfl | rfl | rfl | rfl | rfl | rfl | rfl
  · exact s_0
  · exact s_1
  · exact s_2
  · exact s_3
  · exact s_4
  · exact s_5
  · exact s_6
  · exact s_7
  · exact s_8
  · exact s_9
  · exact s_10
  · exact s_11
  · exact s_12
  · exact s_13
  · exact s_14
  · exact s_15
theorem t_any (k : Nat) (hk : k ≤ 15) : ∃ b, errE (deepT k) = some b ∧ (k ≠ 0 → b = if k ≤ 12 then 0 else 3) := by
  rcases (by omega : k = 0 ∨ k = 1 ∨ k = 2 ∨ k = 3 ∨ k = 4 ∨ k = 5 ∨ k = 6 ∨ k = 7 ∨ k = 8 ∨ k = 9 ∨ k = 10 ∨ k = 11 ∨ k = 12 ∨ k = 13 ∨ k = 14 ∨ k = 15) with rfl | rfl | rfl | rfl | rfl | rfl | rfl | rfl | rfl | rfl | rfl | rfl | rfl | rfl | rfl | rfl
  · obtain ⟨e, he⟩ := t_0; exact ⟨e, he, fun h => absurd rfl h⟩
  · exact ⟨_, t_1, fun _ => rfl⟩
  · exact ⟨_, t_2, fun _ => rfl⟩
  · exact ⟨_, t_3, fun _ => rfl⟩
  · exact ⟨_, t_4, fun _ => rfl⟩
  · exact ⟨_, t_5, fun _ => rfl⟩
  · exact ⟨_, t_6, fun _ => rfl⟩
  · exact ⟨_, t_7, fun _ => rfl⟩
  · exact ⟨_, t_8, fun _ => rfl⟩
  · exact ⟨_, t_9, fun _ => rfl⟩
  · exact ⟨_, t_10, fun _ => rfl⟩
  · exact ⟨_, t_11, fun _ => rfl⟩
  · exact ⟨_, t_12, fun _ => rfl⟩
  · exact ⟨_, t_13, fun _ => rfl⟩
  · exact ⟨_, t_14, fun _ => rfl⟩
  · exact ⟨_, t_15, fun _ => rfl⟩
theorem u_any (m : Nat) (h0 : 148 ≤ m) (h1 : m ≤ 151) : errE (deepU m) = some (if m + 1 ≤ 150 then 0 else 3) := by
  rcases (by omega : m = 148 ∨ m = 149 ∨ m = 150 ∨ m = 151) with rfl | rfl | rfl | rfl
  · exact u_148
  · exact u_149
  · exact u_150
  · exact u_151
theorem deep_true (v0 v1 : Int) : ∃ K, offshootlaw12_ParseDeep.f K v0 v1 = some true := by
  refine ⟨KK, ?_⟩
  obtain ⟨k0, k1⟩ := andI_small 15 v0 15 (by decide) (by omega)
  obtain ⟨m0, m1⟩ := andI_small 3 v1 3 (by decide) (by omega)
  have e15 : ((15 : Nat) : Int) = 15 := rfl
  have e3 : ((3 : Nat) : Int) = 3 := rfl
  rw [e15] at k0 k1
  rw [e3] at m0 m1
  obtain ⟨k, hk⟩ : ∃ k : Nat, FW.andI .i64 v0 15 = (k : Int) := ⟨(FW.andI .i64 v0 15).toNat, by omega⟩
  obtain ⟨m, hm⟩ : ∃ m : Nat, 148 + FW.andI .i64 v1 3 = (m : Int) := ⟨(148 + FW.andI .i64 v1 3).toNat, by omega⟩
  obtain ⟨b, hb, hb'⟩ := t_any k (by omega)
  refine deep_any v0 v1 k m (by omega) (by omega) hk hm _ b _ (s_any k (by omega)) hb (u_any m (by omega) (by omega)) ?_
  by_cases hk0 : k = 0
  · subst hk0
    by_cases hm1 : m + 1 ≤ 150
    · simp [hm1, show (m : Int) + 1 ≤ 150 from by omega]
    · simp [hm1, show ¬ ((m : Int) + 1 ≤ 150) from by omega]
  · rw [hb' hk0]
    have hk0' : ¬ ((k : Int) = 0) := by omega
    by_cases hk1 : k ≤ 12
    · by_cases hm1 : m + 1 ≤ 150
      · simp [hm1, hk1, hk0, show (m : Int) + 1 ≤ 150 from by omega, show (k : Int) ≤ 12 from by omega]
      · simp [hm1, hk1, hk0, show ¬ ((m : Int) + 1 ≤ 150) from by omega, show (k : Int) ≤ 12 from by omega]
    · by_cases hm1 : m + 1 ≤ 150
      · simp [hm1, hk1, hk0, show (m : Int) + 1 ≤ 150 from by omega, show ¬ ((k : Int) ≤ 12) from by omega]
      · simp [hm1, hk1, hk0, show ¬ ((m : Int) + 1 ≤ 150) from by omega, show ¬ ((k : Int) ≤ 12) from by omega]
end Go.Proofs.Ytbjbgodcenopnaa

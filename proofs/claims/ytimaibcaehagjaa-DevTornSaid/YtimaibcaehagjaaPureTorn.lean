/- Plain law of DevTorn: one loose sector, a loss of power. -/
import Derived.Test.YtimaibcaehagjaaPureSure
import Derived.Test.YtimaibcaehagjaaDtD
namespace Go.Proofs.Ytimaibcaehagjaa
set_option linter.unusedVariables false
set_option maxHeartbeats 1000000
theorem andI_one (k : Int) : FW.andI .u64 k 1 = 0 ∨ FW.andI .u64 k 1 = 1 := by
  unfold FW.andI
  have h : (BitVec.ofInt IntKind.u64.bits k &&& BitVec.ofInt IntKind.u64.bits 1).toNat = 0 ∨ (BitVec.ofInt IntKind.u64.bits k &&& BitVec.ofInt IntKind.u64.bits 1).toNat = 1 := by
    have e : (BitVec.ofInt IntKind.u64.bits 1).toNat = 1 := by decide
    rw [BitVec.toNat_and, e, Nat.and_one_is_mod]
    omega
  rcases h with h | h <;> rw [h]
  · exact .inl (by decide)
  · exact .inr (by decide)
theorem shrI_zero (k : Int) : FW.shrI .u64 k 0 = k := by
  unfold FW.shrI
  simp
def cutT (torn : Int) : Int := if (128 : Int) < (if torn < 0 then 0 else torn) then 128 else (if torn < 0 then 0 else torn)
theorem cutT_in (torn : Int) : 0 ≤ cutT torn ∧ cutT torn ≤ 128 := by
  unfold cutT
  split <;> split <;> omega
theorem crash_one (K : Nat) (hK : 2 ≤ K) (st : Int) (A C : Sec) (hA : A.length = 128) (hC : C.length = 128) (keep torn : Int) :
    dev_Dev_Crash.f K ⟨[A], [(0, C)], st, false⟩ keep torn = some ⟨[if FW.andI .u64 keep 1 = 0 then C.take (cutT torn).toNat ++ A.drop (cutT torn).toNat else C], [], st, true⟩ := by
  unfold dev_Dev_Crash.f
  rw [off_eq]
  have hs : FW.sortK [((0 : Int), C)] = [0] := by simp [FW.sortK]
  obtain ⟨k, rfl⟩ : ∃ k, K = k + 2 := ⟨K - 2, by omega⟩
  obtain ⟨c0, c1⟩ := cutT_in torn
  simp only [Option.bind_some, Bool.false_eq_true, if_false]
  rw [if_pos (by simp [FW.keysOk, FW.in64]), hs]
  rw [dev_Dev_Crash.l1]
  have hg : FW.mget [((0 : Int), C)] (List.getD [(0 : Int)] (Int.toNat 0) default) = some C := by simp [FW.mget]
  simp only [hg, Option.getD_some, hC]
  rw [if_pos (by simp), if_pos (by simp), if_pos (by simp)]
  have e63 : (if (63 : Int) < 0 then (63 : Int) else 0) = 0 := by decide
  rw [e63, shrI_zero]
  have ecut : (if ((128 : Nat) : Int) < (if torn < 0 then 0 else torn) then ((128 : Nat) : Int) else (if torn < 0 then 0 else torn)) = cutT torn := rfl
  rw [ecut]
  have fin : ∀ (s : Sec) (t : Int), dev_Dev_Crash.j1 (dev_Dev_Crash.l1 (k + 2) (k + 1)) (k + 2) st false [A] [((0 : Int), C)] keep t (List.getD [(0 : Int)] (Int.toNat 0) default) s [0] (List.length [(0 : Int)] : Int) 0 = some ⟨[s], [], st, true⟩ := by
    intro s t
    unfold dev_Dev_Crash.j1
    rw [if_pos (by simp), W_in (by omega) (by omega), dev_Dev_Crash.l1, if_neg (by simp)]
    simp
  rcases andI_one keep with h | h
  · rw [if_pos (by simp [h]), if_pos ⟨c0, by omega⟩, if_pos (by simp), if_pos (by simp [hA]; omega), if_pos (by simp [hA, hC]; omega), fin, if_pos h]
    simp
  · rw [if_neg (by simp [h]), fin, if_neg (by simp [h])]
theorem torn_true (a b : Int) (x : ApiFall) : ∃ K, offshootlaw03_DevTorn.f K a b x = some true := by
  refine ⟨KD, Sat.get ?_⟩
  unfold offshootlaw03_DevTorn.f
  refine Sat.bind (new_sat KD 1 (by omega) (by unfold KD; omega)) fun t ht => ?_
  obtain ⟨⟨sure, cache, st, off⟩, e⟩ := t
  obtain ⟨t1, t2, t3, t4⟩ := ht
  dsimp only at t1 t2 t3 t4
  subst t1 t3 t4
  have hl := t2.len
  obtain ⟨A, rfl⟩ : ∃ A, sure = [A] := by
    match sure, hl with
    | [A], _ => exact ⟨A, rfl⟩
  have hsec := fun c => sector_eq KD (by unfold KD; omega) c
  refine Sat.bindE (hsec a) ?_
  refine Sat.bindE (write_eq KD _ rfl _ _ (sec_len _)) ?_
  rw [if_pos (by simp)]
  dsimp only
  refine Sat.bindE (flush_eq KD _ rfl (by simp [FW.mput])) ?_
  dsimp only
  refine Sat.bindE (hsec b) ?_
  refine Sat.bindE (write_eq KD _ rfl _ _ (sec_len _)) ?_
  rw [if_pos (by simp [FW.mput, flushS])]
  dsimp only
  have e1 : flushS [A] (FW.mput [] 0 (sec a)) = [sec a] := by simp [FW.mput, flushS]
  have e2 : FW.mput ([] : List (Int × Sec)) 0 (sec b) = [(0, sec b)] := by simp [FW.mput]
  rw [e1, e2]
  refine Sat.bindE (crash_one KD (by unfold KD; omega) _ _ _ (sec_len a) (sec_len b) x.Keep x.Torn) ?_
  refine Sat.bindE (up_eq _ rfl) ?_
  refine Sat.bindE (read_sure _ rfl rfl 0 (by simp)) ?_
  dsimp only
  have last : ∀ n : Int, 0 ≤ n → n ≤ 128 → (if FW.andI .u64 x.Keep 1 = 0 then (sec b).take (cutT x.Torn).toNat ++ (sec a).drop (cutT x.Torn).toNat else sec b) = (sec b).take n.toNat ++ (sec a).drop n.toNat →
      Sat (offshootlaw03_DevTorn.j2 KD (IntKind.wrap .i64 (IntKind.wrap .i64 (IntKind.wrap .i64 (st + 1) + 1) + 1)) false [if FW.andI .u64 x.Keep 1 = 0 then (sec b).take (cutT x.Torn).toNat ++ (sec a).drop (cutT x.Torn).toNat else sec b] [] a b 0 0 0 0 (if FW.andI .u64 x.Keep 1 = 0 then (sec b).take (cutT x.Torn).toNat ++ (sec a).drop (cutT x.Torn).toNat else sec b) 0 n) fun r => r = true := by
    intro n n0 n1 he
    unfold offshootlaw03_DevTorn.j2
    refine Sat.bindE awake03 ?_
    simp only [decide_true, Bool.and_true, Bool.true_and, if_true]
    refine Sat.bindE (hsec b) ?_
    rw [if_pos (fun _ => ⟨n0, by rw [sec_len]; exact n1⟩)]
    refine Sat.bindE (hsec a) ?_
    rw [if_pos (fun _ => ⟨n0, by rw [sec_len]; exact n1⟩), if_pos (fun _ => by simp only [List.length_take, List.length_drop, sec_len]; omega)]
    rw [if_pos (by simpa using he)]
    refine Sat.bindE (r := (0, _)) rfl ?_
    refine Sat.some ?_
    simp [he]
  have hcut := cutT_in x.Torn
  have mid : ∀ n : Int, 0 ≤ n → (n ≤ 128 → n = cutT x.Torn) → (128 < n → cutT x.Torn = 128) →
      Sat (offshootlaw03_DevTorn.j1 KD (IntKind.wrap .i64 (IntKind.wrap .i64 (IntKind.wrap .i64 (st + 1) + 1) + 1)) false [if FW.andI .u64 x.Keep 1 = 0 then (sec b).take (cutT x.Torn).toNat ++ (sec a).drop (cutT x.Torn).toNat else sec b] [] x a b 0 0 0 0 (if FW.andI .u64 x.Keep 1 = 0 then (sec b).take (cutT x.Torn).toNat ++ (sec a).drop (cutT x.Torn).toNat else sec b) 0 n) fun r => r = true := by
    intro n n0 h1 h2
    unfold offshootlaw03_DevTorn.j1
    have full : sec b = (sec b).take (Int.toNat 128) ++ (sec a).drop (Int.toNat 128) := by
      rw [List.take_of_length_le (by rw [sec_len]; decide), List.drop_eq_nil_of_le (by rw [sec_len]; decide), List.append_nil]
    refine Sat.ite (fun h => ?_) (fun h => ?_)
    · refine last 128 (by omega) (by omega) ?_
      rw [← full]
      simp only [Bool.or_eq_true, decide_eq_true_eq] at h
      rcases andI_one x.Keep with hk | hk
      · rw [if_pos hk, h2 (h.resolve_right (by rw [hk]; decide)), ← full]
      · rw [if_neg (by rw [hk]; decide)]
    · simp only [Bool.or_eq_false_iff, decide_eq_false_iff_not] at h
      refine last n n0 (by omega) ?_
      rw [h1 (by omega), if_pos ((andI_one x.Keep).resolve_right h.2)]
  refine Sat.ite (fun h => ?_) (fun h => ?_)
  · simp only [decide_eq_true_eq] at h
    refine mid x.Torn (by omega) (fun h' => ?_) (fun h' => ?_) <;> unfold cutT
    · rw [if_neg (by omega), if_neg (by omega)]
    · rw [if_neg (show ¬ x.Torn < 0 by omega), if_pos h']
  · simp only [decide_eq_false_iff_not] at h
    refine mid 0 (by omega) (fun h' => ?_) (fun h' => by omega)
    unfold cutT
    split <;> split <;> omega
end Go.Proofs.Ytimaibcaehagjaa

/- Plain law of DevSure: what was flushed stays. -/
import Derived.Test.YtimaibcaehagjaaPureDev
namespace Go.Proofs.Ytimaibcaehagjaa
set_option linter.unusedVariables false
set_option maxHeartbeats 1000000
set_option maxRecDepth 100000 in
theorem awake03 : offshootlaw03_awake.f KD = some true := by decide +kernel
theorem sure_l2 (G : Int → Bool → List Sec → List (Int × Sec) → ApiFall → List Offshootlaw03Act → List Offshootlaw03Act → Int → Option Bool) (x : ApiFall) (more : List Offshootlaw03Act) :
    ∀ (k : Nat) (i : Nat) (st : Int) (sure : List Sec) (m : List (Int × Sec)), Dv 9 sure m → m.length ≤ i → i ≤ 20 → sure[4]? = some (sec 115) → (∀ p ∈ m, p.1 ≠ 4) → 21 - i < k →
      offshootlaw03_DevSure.l2 G KD k st false sure m x more 0 0 (i : Int) = some true := by
  intro k
  induction k with
  | zero => intro i st sure m h0 h1 h2 h3 h4 h5; omega
  | succ k ih =>
    intro i st sure m h0 h1 h2 h3 h4 h5
    refine Sat.get ?_
    rw [offshootlaw03_DevSure.l2]
    refine Sat.ite (fun hc => ?_) (fun _ => ?_)
    · simp only [Bool.and_eq_true, decide_eq_true_eq] at hc
      refine Sat.chk ⟨by omega, hc.1⟩ ?_
      refine Sat.chk (fun _ => ⟨by omega, hc.1⟩) ?_
      have hnext : ∀ (st : Int) (m : List (Int × Sec)), Dv 9 sure m → m.length ≤ i + 1 → (∀ p ∈ m, p.1 ≠ 4) → Sat (offshootlaw03_DevSure.j2 G (offshootlaw03_DevSure.l2 G KD k) KD st false sure m x more 0 0 (i : Int)) fun y => y = true := by
        intro st m d1 d2 d3
        unfold offshootlaw03_DevSure.j2
        rw [W_in (by omega) (by omega), show ((i : Int) + 1) = ((i + 1 : Nat) : Int) by omega]
        exact Sat.eq (ih (i + 1) st sure m d1 d2 (by omega) h3 d3 (by omega)) rfl
      refine Sat.ite (fun hw => ?_) (fun _ => hnext st m h0 (by omega) h4)
      simp only [Bool.and_eq_true, Bool.not_eq_true', decide_eq_false_iff_not] at hw
      refine Sat.chk ⟨by omega, hc.1⟩ ?_
      refine Sat.chk ⟨by omega, hc.1⟩ ?_
      refine Sat.bindE (sector_eq KD (by unfold KD; omega) _) ?_
      refine Sat.bindE (write_eq KD _ rfl _ _ (sec_len _)) ?_
      split
      · rename_i hin
        refine hnext _ _ (dv_put h0 (by omega) hin.1 (by have := h0.len; have := hin.2; dsimp only at this; omega) (sec_len _)) (by have := mput_len m ((List.getD more (Int.toNat (i : Int)) default).At) (sec ((List.getD more (Int.toNat (i : Int)) default).C)); dsimp only; omega) fun p hp => ?_
        rcases mput_mem hp with hp | rfl
        · exact h4 p hp
        · exact hw.2
      · exact hnext _ _ h0 (by dsimp only; omega) h4
    · refine Sat.bind (crash_sat KD (by unfold KD; omega) 9 4 (by omega) ⟨sure, m, st, false⟩ rfl h0 (fun p hp e => h4 p hp (by have := (h0.keys p hp).1; omega)) x.Keep x.Torn) fun d hd => ?_
      obtain ⟨d1, d2, d3, d4, d5⟩ := hd
      refine Sat.bindE (up_eq d d1) ?_
      refine Sat.bindE (read_sure ⟨d.sure, d.cache, d.steps, false⟩ rfl d2 4 (by dsimp only; omega)) ?_
      have hs : d.sure.getD 4 default = sec 115 := by
        rw [List.getD_eq_getElem?_getD, d5]
        show (sure[4]?).getD default = _
        rw [h3]; rfl
      dsimp only
      rw [if_pos (by simp)]
      refine Sat.bindE (sector_eq KD (by unfold KD; omega) 115) ?_
      refine Sat.some ?_
      rw [hs]
      simp
theorem sure_l1 (x : ApiFall) (more : List Offshootlaw03Act) (l : List Offshootlaw03Act) :
    ∀ (k : Nat) (i : Nat) (st : Int) (sure : List Sec) (m : List (Int × Sec)), Dv 9 sure m → m.length ≤ i → i ≤ 20 → 21 - i < k →
      offshootlaw03_DevSure.l1 KD k st false sure m x l more (i : Int) = some true := by
  intro k
  induction k with
  | zero => intro i st sure m h0 h1 h2 h5; omega
  | succ k ih =>
    intro i st sure m h0 h1 h2 h5
    refine Sat.get ?_
    rw [offshootlaw03_DevSure.l1]
    refine Sat.ite (fun hc => ?_) (fun _ => ?_)
    · simp only [Bool.and_eq_true, decide_eq_true_eq] at hc
      refine Sat.chk ⟨by omega, hc.1⟩ ?_
      refine Sat.chk (fun _ => ⟨by omega, hc.1⟩) ?_
      have hnext : ∀ (st : Int) (m : List (Int × Sec)), Dv 9 sure m → m.length ≤ i + 1 → Sat (offshootlaw03_DevSure.j1 (offshootlaw03_DevSure.l1 KD k) KD st false sure m x l more (i : Int)) fun y => y = true := by
        intro st m d1 d2
        unfold offshootlaw03_DevSure.j1
        rw [W_in (by omega) (by omega), show ((i : Int) + 1) = ((i + 1 : Nat) : Int) by omega]
        exact Sat.eq (ih (i + 1) st sure m d1 d2 (by omega) (by omega)) rfl
      refine Sat.ite (fun hw => ?_) (fun _ => hnext st m h0 (by omega))
      refine Sat.chk ⟨by omega, hc.1⟩ ?_
      refine Sat.chk ⟨by omega, hc.1⟩ ?_
      refine Sat.bindE (sector_eq KD (by unfold KD; omega) _) ?_
      refine Sat.bindE (write_eq KD _ rfl _ _ (sec_len _)) ?_
      split
      · rename_i hin
        exact hnext _ _ (dv_put h0 (by omega) hin.1 (by have := h0.len; have := hin.2; dsimp only at this; omega) (sec_len _)) (by have := mput_len m ((List.getD l (Int.toNat (i : Int)) default).At) (sec ((List.getD l (Int.toNat (i : Int)) default).C)); dsimp only; omega)
      · exact hnext _ _ h0 (by dsimp only; omega)
    · refine Sat.bindE (sector_eq KD (by unfold KD; omega) 115) ?_
      refine Sat.bindE (write_eq KD ⟨sure, m, st, false⟩ rfl 4 _ (sec_len _)) ?_
      have hl := h0.len
      rw [if_pos ⟨by omega, by dsimp only; omega⟩]
      have hput := dv_put h0 (by omega) (i := 4) (by omega) (by omega) (sec_len 115)
      dsimp only
      refine Sat.bindE (flush_eq KD ⟨sure, FW.mput m 4 (sec 115), IntKind.wrap .i64 (st + 1), false⟩ rfl (fun p hp => ?_)) ?_
      · obtain ⟨p0, p1, _⟩ := hput.keys p hp
        exact ⟨p0, by dsimp only; omega⟩
      dsimp only
      refine Sat.eq (sure_l2 _ x more KD 0 _ _ [] (dv_flush hput) (by simp) (by omega) ?_ (fun p hp => by cases hp) (by unfold KD; omega)) rfl
      exact flushS_at (FW.mput m 4 (sec 115)) 4 (sec 115) (by omega) sure hput.nd (fun p hp => (hput.keys p hp).1) (mput_self m 4 (sec 115)) (by rw [hl]; decide)
theorem sure_true (l more : List Offshootlaw03Act) (x : ApiFall) : ∃ K, offshootlaw03_DevSure.f K l more x = some true := by
  refine ⟨KD, Sat.get ?_⟩
  unfold offshootlaw03_DevSure.f
  refine Sat.bind (new_sat KD 9 (by omega) (by unfold KD; omega)) fun t ht => ?_
  obtain ⟨t1, t2, t3, t4⟩ := ht
  refine Sat.bindE awake03 ?_
  refine Sat.ite (fun h => by simp [t1] at h) (fun _ => ?_)
  rw [t3]
  exact Sat.eq (sure_l1 x more l KD 0 _ _ _ t2 (by rw [t4]; simp) (by omega) (by unfold KD; omega)) rfl
end Go.Proofs.Ytimaibcaehagjaa

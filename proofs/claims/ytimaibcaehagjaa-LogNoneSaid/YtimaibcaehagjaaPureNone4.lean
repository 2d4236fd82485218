/- Plain law of LogNone: a nil log, sectors that there are not, no power. -/
import Derived.Test.YtimaibcaehagjaaPureView
import Derived.Test.YtimaibcaehagjaaPureSectors
import Derived.Test.YtimaibcaehagjaaLnD
namespace Go.Proofs.Ytimaibcaehagjaa
set_option linter.unusedVariables false
set_option maxHeartbeats 1000000
def D10 : ODevDev := ⟨List.replicate 10 (zeros 128), [], 0, false⟩
theorem new10 : dev_New.f KD 10 = some (D10, 0) := by
  refine Sat.get ?_
  unfold dev_New.f
  refine Sat.ite (fun h => by simp at h) (fun _ => ?_)
  refine Sat.chk (by omega) ?_
  have := new_l1z KD 10 KD 0 (List.replicate (Int.toNat 10) ([] : List UInt8)) (by simp) (by omega) (by omega) (fun j hj => by omega) (by unfold KD; omega)
  refine Sat.mono this fun r hr => ?_
  obtain ⟨d, e⟩ := r
  obtain ⟨h1, h2⟩ := hr
  dsimp only at h1 h2
  rw [h1, h2]; rfl
def dv (d : ODevDev) : List Sec × List (Int × Sec) × Int × Bool := (d.sure, d.cache, d.steps, d.off)
theorem dv_inj {d e : ODevDev} (h : dv d = dv e) : d = e := by
  cases d; cases e
  simp only [dv, Prod.mk.injEq] at h
  obtain ⟨h1, h2, h3, h4⟩ := h
  subst h1 h2 h3 h4; rfl
set_option synthInstance.maxHeartbeats 1000000 in
set_option synthInstance.maxSize 100000 in
set_option maxRecDepth 100000 in
theorem open_all : ∀ a : Fin 11, ∀ b : Fin 11, a.val ≤ b.val → ((log_Open_opt.f KD D10 (a.val : Int) (b.val : Int) 1).map fun r => (r.1.isNone, r.2.2.1, dv r.2.2.2)) = some (false, 0, dv D10) := by decide +kernel
set_option synthInstance.maxHeartbeats 1000000 in
set_option synthInstance.maxSize 100000 in
set_option maxRecDepth 100000 in
theorem open_ten : ((log_Open.f KD D10 0 10 1).map fun r => (r.2.2.1, dv r.2.2.2)) = some (0, dv D10) := by decide +kernel
set_option maxRecDepth 100000 in
theorem crash_ten : ((dev_Dev_Crash.f KD D10 0 0).map fun d => (d.off, d.sure.length)) = some (true, 10) := by decide +kernel
theorem open_sat (a b : Int) : Sat (log_Open_opt.f KD D10 a b 1) fun r => r.2.2.2 = D10 ∧ (((0 ≤ a ∧ a ≤ b ∧ b ≤ 10) ∧ r.1.isNone = false ∧ r.2.2.1 = 0) ∨ (¬ (0 ≤ a ∧ a ≤ b ∧ b ≤ 10) ∧ r.1.isNone = true ∧ r.2.2.1 = 1)) := by
  by_cases h : 0 ≤ a ∧ a ≤ b ∧ b ≤ 10
  · have := open_all ⟨a.toNat, by omega⟩ ⟨b.toNat, by omega⟩ (by dsimp only; omega)
    dsimp only at this
    rw [show ((a.toNat : Nat) : Int) = a by omega, show ((b.toNat : Nat) : Int) = b by omega] at this
    obtain ⟨r, hr, hm⟩ := Option.map_eq_some_iff.1 this
    simp only [Prod.mk.injEq] at hm
    exact ⟨r, hr, dv_inj hm.2.2, .inl ⟨h, hm.1, hm.2.1⟩⟩
  · unfold log_Open_opt.f
    have hs : D10.sure.length = 10 := by simp [D10]
    by_cases h1 : ((decide (a < 0)) || (decide (b < a))) = false
    · rw [if_pos h1]
      refine Sat.bindE (r := (((D10.sure.length : Nat) : Int), D10)) rfl ?_
      refine Sat.ite (fun _ => Sat.some ⟨rfl, .inr ⟨h, rfl, rfl⟩⟩) (fun hh => ?_)
      exfalso
      simp only [Bool.or_eq_false_iff, decide_eq_false_iff_not, hs] at hh
      omega
    · rw [if_neg h1]
      refine Sat.bindE (r := (default, D10)) rfl ?_
      have h2 : ((decide (a < 0)) || (decide (b < a))) = true := by
        cases hb : ((decide (a < 0)) || (decide (b < a))) with
        | true => rfl
        | false => exact absurd hb h1
      rw [h2]
      refine Sat.ite (fun _ => Sat.some ⟨rfl, .inr ⟨h, rfl, rfl⟩⟩) (fun hh => by simp at hh)
theorem few_sat (s : List UInt8) : Sat (offshootlaw04_few.f s) fun _ => True := by
  unfold offshootlaw04_few.f
  refine Sat.ite (fun hi => ?_) (fun hi => Sat.some trivial)
  simp only [decide_eq_true_eq] at hi
  exact Sat.chk ⟨by omega, by omega⟩ (Sat.some trivial)
theorem logNone_true (s : List UInt8) (a b : Int) : ∃ K, offshootlaw04_LogNone.f K s a b = some true := by
  refine ⟨KD, Sat.get ?_⟩
  unfold offshootlaw04_LogNone.f
  refine Sat.bindE (r := ()) rfl ?_
  refine Sat.bindE new10 ?_
  refine Sat.bind (open_sat a b) fun t3 h3 => ?_
  obtain ⟨h3d, h3⟩ := h3
  refine Sat.bindE (r := (none, [], 1)) rfl ?_
  rw [h3d]
  obtain ⟨t5, h5, m5⟩ := Option.map_eq_some_iff.1 open_ten
  refine Sat.bindE h5 ?_
  simp only [Prod.mk.injEq] at m5
  rw [dv_inj m5.2]
  obtain ⟨t6, h6, m6⟩ := Option.map_eq_some_iff.1 crash_ten
  refine Sat.bindE h6 ?_
  simp only [Prod.mk.injEq] at m6
  refine Sat.bindE (r := (none, [], 7, t6)) ?_ ?_
  · refine Sat.get ?_
    unfold log_Open_opt.f
    rw [if_pos (by decide)]
    refine Sat.bindE (r := (((t6.sure.length : Nat) : Int), t6)) rfl ?_
    refine Sat.ite (fun hh => by simp [m6.2] at hh) (fun _ => ?_)
    refine Sat.bindE (off_eq t6) ?_
    refine Sat.ite (fun _ => Sat.some rfl) (fun hh => by simp [m6.1] at hh)
  refine Sat.bindE awake04 ?_
  simp only [Bool.true_and, decide_true, if_true]
  refine Sat.bind (few_sat s) fun t9 _ => ?_
  refine Sat.bindE (r := 7) rfl ?_
  simp only [decide_true, if_true]
  refine Sat.bindE (r := 0) rfl ?_
  simp only [decide_true]
  refine Sat.bindE (r := 0) rfl ?_
  have e : ((((((decide (t3.2.2.1 = 0)) == (((decide (0 ≤ a)) && (decide (a ≤ b))) && (decide (b ≤ 10)))) && ((!(Option.isNone t3.1)) == (((decide (0 ≤ a)) && (decide (a ≤ b))) && (decide (b ≤ 10))))) && ((((decide (0 ≤ a)) && (decide (a ≤ b))) && (decide (b ≤ 10))) || (decide (t3.2.2.1 = 1)))) && (decide ((1 : Int) = 1))) && (decide (t5.2.2.1 = 0))) = true := by
    rcases h3 with ⟨h, e1, e2⟩ | ⟨h, e1, e2⟩
    · have hb : (((decide (0 ≤ a)) && (decide (a ≤ b))) && (decide (b ≤ 10))) = true := by simp; omega
      rw [hb, e1, e2, m5.1]; rfl
    · have hb : (((decide (0 ≤ a)) && (decide (a ≤ b))) && (decide (b ≤ 10))) = false := by
        cases hc : (((decide (0 ≤ a)) && (decide (a ≤ b))) && (decide (b ≤ 10))) with
        | false => rfl
        | true => simp at hc; omega
      rw [hb, e1, e2, m5.1]; rfl
  simp only [decide_true, Bool.true_and]
  simp only [decide_true] at e
  rw [e]
  simp only [if_true, Bool.true_and]
  refine Sat.bind (few_sat s) fun t13 _ => ?_
  refine Sat.bindE (r := (7, t5.1, t6)) ?_ ?_
  · refine Sat.get ?_
    unfold log_Log_Add.f
    rw [if_pos rfl]
    refine Sat.bindE (off_eq t6) ?_
    refine Sat.ite (fun _ => Sat.some rfl) (fun hh => by simp [m6.1] at hh)
  exact Sat.some (by simp)
end Go.Proofs.Ytimaibcaehagjaa

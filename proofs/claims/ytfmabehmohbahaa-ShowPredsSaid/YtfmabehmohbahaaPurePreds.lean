/- Plain law of ShowPreds: the predicates of any text are told alike. -/
import Derived.Test.YtfmabehmohbahaaPureSteps
import Derived.Test.YtfmabehmohbahaaPureWords11
namespace Go.Proofs.Ytfmabehmohbahaa
set_option linter.unusedVariables false
set_option maxHeartbeats 1000000
def KP : Nat := 10000000
set_option maxRecDepth 100000 in
theorem awake13_true : offshootlaw13_awake.f KP = some true := by decide +kernel
theorem getD_mem {α : Type} [Inhabited α] (l : List α) (i : Nat) (h : i < l.length) : List.getD l i default ∈ l := by
  rw [List.getD_eq_getElem?_getD, List.getElem?_eq_getElem h]
  exact List.getElem_mem h
theorem showPreds_l2 (l : List ApiStep) (hl : SOk l) (hll : l.length ≤ 150) (i : Int) (h0 : 0 ≤ i) (h1 : i < (l.length : Int)) (G : List ApiStep → Int → Option Bool) (hG : G l (i + 1) = some true) :
    ∀ (k : Nat) (j : Int), 0 ≤ j → j ≤ 12 → 14 ≤ j + k → offshootlaw13_ShowPreds.l2 G KP k l i j = some true := by
  have hx : List.getD l i.toNat default ∈ l := getD_mem l _ (by omega)
  obtain ⟨ha, hA⟩ := hl _ hx
  intro k
  induction k with
  | zero => intro j j0 j2 j1; omega
  | succ k ih =>
    intro j j0 j2 j1
    refine Sat.get ?_
    rw [offshootlaw13_ShowPreds.l2]
    refine Sat.chk ⟨h0, h1⟩ ?_
    refine Sat.ite (fun h => ?_) (fun _ => ?_)
    · have hj : j < ((List.getD l i.toNat default).Args.length : Int) := by simpa using h
      refine Sat.chk ⟨h0, h1⟩ ?_
      refine Sat.chk ⟨j0, hj⟩ ?_
      have hm : List.getD (List.getD l i.toNat default).Args j.toNat default ∈ (List.getD l i.toNat default).Args := getD_mem _ _ (by omega)
      have hok := hA _ hm
      rw [W_in (x := j + 1) (by omega) (by omega)]
      by_cases hk : (List.getD (List.getD l i.toNat default).Args j.toNat default).Kind = 2
      · obtain ⟨p1, p2⟩ := hok hk
        obtain ⟨e1, e2⟩ := showP 3152100 (by omega) _ KP p1 (by omega) (by unfold KP; omega)
        rw [if_pos (by simpa using hk), if_pos (by simpa using hk), e1, e2]
        refine Sat.bindE rfl ?_
        refine Sat.bindE rfl ?_
        rw [if_neg (by simp)]
        exact Sat.eq (ih (j + 1) (by omega) (by omega) (by omega)) rfl
      · rw [if_neg (by simpa using hk), if_neg (by simpa using hk)]
        refine Sat.bindE rfl ?_
        refine Sat.bindE rfl ?_
        rw [decide_eq_false hk, Bool.false_and, if_neg (by simp)]
        exact Sat.eq (ih (j + 1) (by omega) (by omega) (by omega)) rfl
    · rw [W_in (x := i + 1) (by omega) (by omega)]
      exact Sat.eq hG rfl
theorem showPreds_l1 (l : List ApiStep) (hl : SOk l) (hll : l.length ≤ 150) : ∀ (k : Nat) (i : Int), 0 ≤ i → i ≤ 150 → 152 ≤ i + k → offshootlaw13_ShowPreds.l1 KP k l i = some true := by
  intro k
  induction k with
  | zero => intro i h0 h1 h2; omega
  | succ k ih =>
    intro i h0 h1 h2
    refine Sat.get ?_
    rw [offshootlaw13_ShowPreds.l1]
    refine Sat.ite (fun h => ?_) (fun _ => Sat.some rfl)
    have hi : i < (l.length : Int) := by simpa using h
    exact Sat.eq (showPreds_l2 l hl hll i h0 hi _ (ih (i + 1) (by omega) (by omega) (by omega)) KP 0 (by omega) (by omega) (by unfold KP; omega)) rfl
theorem showPreds_true (s : List UInt8) : ∃ K, offshootlaw13_ShowPreds.f K s = some true := by
  refine ⟨KP, Sat.get ?_⟩
  unfold offshootlaw13_ShowPreds.f
  refine Sat.bind (parse_sat KP (by unfold KP; omega) s (words11_sat KP (by unfold KP; omega) s)) fun t ht => ?_
  refine Sat.bindE awake13_true ?_
  refine Sat.ite (fun _ => Sat.bindE awake13_true (Sat.some rfl)) (fun h => ?_)
  simp only [Bool.or_eq_false_iff, Bool.not_eq_false', decide_eq_true_eq] at h
  obtain ⟨h1, h2⟩ := ht h.2
  exact Sat.eq (showPreds_l1 t.1 h1 h2 KP 0 (by omega) (by omega) (by unfold KP; omega)) rfl
end Go.Proofs.Ytfmabehmohbahaa

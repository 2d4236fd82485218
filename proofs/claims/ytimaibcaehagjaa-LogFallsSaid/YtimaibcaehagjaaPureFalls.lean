/- Plain law of LogFalls. -/
import Derived.Test.YtimaibcaehagjaaPureLoBack
namespace Go.Proofs.Ytimaibcaehagjaa
set_option linter.unusedVariables false
set_option maxHeartbeats 2000000
/-- What holds ahead of each entry. -/
structure FI (i : Nat) (d : ODevDev) (F : List ApiFall) (V : List Sec) (hv : List (List UInt8)) (num first S : Nat) : Prop where
  is : Is 14 F d V V 0 0 S
  hF : F.length ≤ 1
  ents : Ents V 14 0 first hv
  le : endOf 0 hv ≤ 14
  num' : num = first + hv.length
  first' : 1 ≤ first
  few : num ≤ 1 + i
  term : Term V 14 (endOf 0 hv) num
  t0 : Term V 14 0 num
  st : S ≤ 100 * i
theorem FI.next {i num first S : Nat} {d : ODevDev} {F : List ApiFall} {V : List Sec} {hv : List (List UInt8)} (h : FI i d F V hv num first S) : FI (i + 1) d F V hv num first S :=
  ⟨h.is, h.hF, h.ents, h.le, h.num', h.first', by have := h.few; omega, h.term, h.t0, by have := h.st; omega⟩
theorem lsame_longer (l : List (List UInt8)) (s : List UInt8) : offshootlaw04_same.f KD (l ++ [s]) l = some false := by
  unfold offshootlaw04_same.f
  rw [if_pos (by simp; omega)]
section
variable (v0 : List (List UInt8)) (v1 : List ApiFall) (v2 : List Bool) (k i : Nat) (hi : (i : Int) < (v0.length : Int) ∧ i < 14)
  (ih : ∀ (d : ODevDev) (F : List ApiFall) (V : List Sec) (hv : List (List UInt8)) (num first S : Nat), FI (i + 1) d F V hv num first S →
    offshootlaw04_LogFalls.l1 KD k 0 14 ((endOf 0 hv : Nat) : Int) (num : Int) d.steps d.off d.sure d.cache d.falls v0 v1 v2 hv (first : Int) ((i + 1 : Nat) : Int) = some true)
include hi ih
theorem falls_j1 (d : ODevDev) (F : List ApiFall) (V : List Sec) (hv : List (List UInt8)) (num first S : Nat) (h : FI (i + 1) d F V hv num first S) :
    offshootlaw04_LogFalls.j1 (offshootlaw04_LogFalls.l1 KD k) KD 0 14 ((endOf 0 hv : Nat) : Int) (num : Int) d.steps d.off d.sure d.cache d.falls v0 v1 v2 hv (first : Int) (i : Int) = some true := by
  unfold offshootlaw04_LogFalls.j1
  rw [W_in (by omega) (by omega), show ((i : Int) + 1) = ((i + 1 : Nat) : Int) by omega]
  exact ih d F V hv num first S h
theorem falls_j3 (d : ODevDev) (F : List ApiFall) (V : List Sec) (hv : List (List UInt8)) (num first S : Nat) (h : FI i d F V hv num first S) :
    Sat (offshootlaw04_LogFalls.j3 (offshootlaw04_LogFalls.l1 KD k) KD 0 14 ((endOf 0 hv : Nat) : Int) (num : Int) d.steps d.off d.sure d.cache d.falls v0 v1 v2 hv (first : Int) (i : Int)) fun r => r = true := by
  obtain ⟨hI, hF, hE, hle, hnum, hf1, hfew, hT, h0, hst⟩ := h
  unfold offshootlaw04_LogFalls.j3
  refine Sat.chk ⟨by omega, hi.1⟩ ?_
  refine Sat.bindE (few_eq _) ?_
  generalize hs' : (v0.getD (Int.toNat (i : Int)) default).take 500 = s
  have hs : s.length ≤ 1090 := by rw [← hs', List.length_take]; omega
  have hk1 := secsN_pos s.length
  have hk5 := secsN_few hs
  have hVl := hI.len
  have hvl : hv.length ≤ 14 := by omega
  by_cases hk : endOf 0 hv + secsN s.length ≤ 14
  · refine Sat.bind (add_x (N := 14) (tO := 14) (at' := endOf 0 hv) (num := num) (f := 0) hs hk (by omega) (by omega) (by omega) hF (by omega) hI) fun t ht => ?_
    rcases ht with ⟨a1, a2, T, aT, a3, a4⟩ | ⟨a1, a2, a3, a4⟩
    · have htl : (tailS 14 (endOf 0 hv + secsN s.length)).length ≤ 1 := by unfold tailS; split <;> simp
      refine Sat.ite (fun _ => ?_) (fun hh => by simp [a1] at hh)
      refine Sat.chk ⟨?_, ?_⟩ ?_
      · simp only [List.length_nil]; omega
      · simp only [List.length_nil]; omega
      refine Sat.chk ⟨?_, ?_⟩ ?_
      · simp only [List.length_append, List.length_cons, List.length_nil]; omega
      · simp only [List.length_append, List.length_cons, List.length_nil]; omega
      rw [a2]
      obtain ⟨b1, b2, b3⟩ := after_add hs hE (by rw [← hnum]; exact h0) hVl hk (Nat.le_refl _)
      rw [← hnum] at b1 b2 b3
      have := falls_j1 v0 v1 v2 k i hi ih t.2.2 F _ (hv ++ [s]) (num + 1) first T ⟨a3, hF, b1, by rw [endOf_snoc]; exact hk, by simp; omega, hf1, by omega,
        by rw [show num + 1 = first + (hv ++ [s]).length by simp; omega]; exact b2, by rw [show num + 1 = first + (hv ++ [s]).length by simp; omega]; exact b3, by omega⟩
      rw [endOf_snoc] at this
      exact Sat.eq this rfl
    · refine Sat.ite (fun hh => by simp [a1] at hh) (fun _ => ?_)
      refine Sat.ite (fun hh => by simp [a1] at hh) (fun _ => ?_)
      rw [hnum] at a4
      obtain ⟨more, m1, m2, m3, m4, m5⟩ := recover (N := 14) (tO := 14) (first := first) (hv := hv) (s := s) (d' := t.2.2) hs hE (by rw [← hnum]; exact hT) (by rw [← hnum]; exact h0) hVl hk (Nat.le_refl _) (by omega) a3 a4
      obtain ⟨S', hS', hU⟩ := a3.up
      have hml : more.length ≤ hv.length + 1 := by rcases m1 with rfl | rfl <;> simp
      refine Sat.bindE (r := ⟨t.2.2.sure, t.2.2.cache, t.2.2.steps, [], t.2.2.off⟩) ?_ ?_
      · unfold dev_Dev_Plan.f
        rw [if_pos ⟨by simp, by simp⟩]
      refine Sat.bindE (r := (true, ⟨t.2.2.sure, t.2.2.cache, t.2.2.steps, [], false⟩)) ?_ ?_
      · unfold dev_Dev_Up.f
        rw [if_neg (by simp [a3.off])]
      refine Sat.bindE (open_eq (N := 14) (tO := 14) (Nat.le_refl _) (by omega) hU more 0 first m2 m3 (by omega) hf1 (by omega) (by omega)) ?_
      dsimp only
      refine Sat.chk ⟨?_, ?_⟩ ?_
      · simp only [List.length_nil]; omega
      · simp only [List.length_nil]; omega
      refine Sat.chk ⟨?_, ?_⟩ ?_
      · simp only [List.length_append, List.length_cons, List.length_nil]; omega
      · simp only [List.length_append, List.length_cons, List.length_nil]; omega
      have fin := falls_j1 v0 v1 v2 k i hi ih ⟨t.2.2.sure, t.2.2.cache, t.2.2.steps, [], false⟩ [] _ more (first + more.length) first S' ⟨hU, by simp, m2, m5, rfl, hf1, by omega, m3, m4, by omega⟩
      rw [if_pos (by simp)]
      rcases m1 with rfl | rfl
      · refine Sat.bindE (lsame_eq more (by omega)) ?_
        rw [if_neg (by simp)]
        refine Sat.bindE rfl ?_
        rw [if_neg (by simp)]
        exact Sat.eq fin rfl
      · refine Sat.bindE (lsame_longer hv s) ?_
        rw [if_pos (by simp)]
        refine Sat.bindE (show offshootlaw04_same.f KD (hv ++ [s]) (([] ++ hv) ++ [s]) = some true from lsame_eq (hv ++ [s]) (by simp; omega)) ?_
        rw [if_neg (by simp)]
        exact Sat.eq fin rfl
  · refine Sat.bindE (add_full (tO := 14) hs hle (by omega) (by omega) hI) ?_
    refine Sat.ite (fun hh => by simp at hh) (fun _ => ?_)
    refine Sat.ite (fun _ => ?_) (fun hh => by simp at hh)
    exact Sat.eq (falls_j1 v0 v1 v2 k i hi ih d F V hv num first S (FI.next ⟨hI, hF, hE, hle, hnum, hf1, hfew, hT, h0, hst⟩)) rfl
theorem falls_j2 (d : ODevDev) (F : List ApiFall) (V : List Sec) (hv : List (List UInt8)) (num first S : Nat) (h : FI i d F V hv num first S) :
    Sat (offshootlaw04_LogFalls.j2 (offshootlaw04_LogFalls.l1 KD k) KD 0 14 ((endOf 0 hv : Nat) : Int) (num : Int) d.steps d.off d.sure d.cache d.falls v0 v1 v2 hv (first : Int) (i : Int)) fun r => r = true := by
  unfold offshootlaw04_LogFalls.j2
  have j4 : ∀ y : ApiFall, Sat (offshootlaw04_LogFalls.j4 (offshootlaw04_LogFalls.l1 KD k) KD d.sure d.falls d.cache d.steps d.off 0 14 ((endOf 0 hv : Nat) : Int) (num : Int) y v0 v1 v2 hv (first : Int) (i : Int)) fun r => r = true := by
    intro y
    unfold offshootlaw04_LogFalls.j4
    refine Sat.bindE (r := d.steps) rfl ?_
    refine Sat.bindE (r := ⟨d.sure, d.cache, d.steps, [⟨IntKind.wrap .i64 (d.steps + Int.tmod y.At 9), y.Keep, y.Torn⟩], d.off⟩) ?_ ?_
    · unfold dev_Dev_Plan.f
      rw [if_pos ⟨by simp, by simp⟩]
    have hI := h.is
    exact falls_j3 v0 v1 v2 k i hi ih ⟨d.sure, d.cache, d.steps, [⟨IntKind.wrap .i64 (d.steps + Int.tmod y.At 9), y.Keep, y.Torn⟩], d.off⟩ [⟨IntKind.wrap .i64 (d.steps + Int.tmod y.At 9), y.Keep, y.Torn⟩] V hv num first S
      ⟨⟨hI.off, hI.dv, hI.sure0, hI.view, hI.few, hI.keys, rfl, hI.st⟩, by simp, h.ents, h.le, h.num', h.first', h.few, h.term, h.t0, h.st⟩
  refine Sat.ite (fun hh => ?_) (fun _ => falls_j3 v0 v1 v2 k i hi ih d F V hv num first S h)
  simp only [decide_eq_true_eq] at hh
  refine Sat.chk ⟨by omega, hh⟩ ?_
  exact Sat.ite (fun _ => j4 _) (fun _ => j4 _)
end
theorem falls_l1 (v0 : List (List UInt8)) (v1 : List ApiFall) (v2 : List Bool) : ∀ (k i : Nat) (d : ODevDev) (F : List ApiFall) (V : List Sec) (hv : List (List UInt8)) (num first S : Nat), FI i d F V hv num first S → i ≤ 14 → 14 - i < k →
    offshootlaw04_LogFalls.l1 KD k 0 14 ((endOf 0 hv : Nat) : Int) (num : Int) d.steps d.off d.sure d.cache d.falls v0 v1 v2 hv (first : Int) (i : Int) = some true := by
  intro k
  induction k with
  | zero => intro i d F V hv num first S h h0 h1; omega
  | succ k ih =>
    intro i d F V hv num first S h h0 h1
    refine Sat.get ?_
    rw [offshootlaw04_LogFalls.l1]
    refine Sat.ite (fun hh => ?_) (fun _ => Sat.some rfl)
    rw [Bool.and_eq_true, decide_eq_true_eq, decide_eq_true_eq] at hh
    have hi : (i : Int) < (v0.length : Int) ∧ i < 14 := ⟨hh.1, by omega⟩
    have ih' : ∀ (d : ODevDev) (F : List ApiFall) (V : List Sec) (hv : List (List UInt8)) (num first S : Nat), FI (i + 1) d F V hv num first S →
      offshootlaw04_LogFalls.l1 KD k 0 14 ((endOf 0 hv : Nat) : Int) (num : Int) d.steps d.off d.sure d.cache d.falls v0 v1 v2 hv (first : Int) ((i + 1 : Nat) : Int) = some true := fun d F V hv num first S h => ih (i + 1) d F V hv num first S h (by omega) (by omega)
    refine Sat.chk (fun e => ⟨by omega, by simpa using e⟩) ?_
    refine Sat.ite (fun _ => ?_) (fun _ => falls_j2 v0 v1 v2 k i hi ih' d F V hv num first S h)
    refine Sat.bindE (r := ((⟨0, 14, 0, (num : Int)⟩ : OLogLog), d)) rfl ?_
    refine Sat.bindE (r := (num : Int)) rfl ?_
    have := falls_j2 v0 v1 v2 k i hi ih' d F V [] num num S ⟨h.is, h.hF, trivial, by simp [endOf], by simp, by have := h.num'; have := h.first'; omega, h.few, h.t0, h.t0, h.st⟩
    exact this
theorem falls_true (v0 : List (List UInt8)) (v1 : List ApiFall) (v2 : List Bool) : ∃ K, offshootlaw04_LogFalls.f K v0 v1 v2 = some true := by
  refine ⟨KD, Sat.get ?_⟩
  unfold offshootlaw04_LogFalls.f
  obtain ⟨d, e1, h⟩ := new_is KD 14 (by omega) (by unfold KD; omega)
  refine Sat.bindE e1 ?_
  have hz : Term (List.replicate 14 (zeros 128)) 14 0 1 := term_zero (by simp) (by simp)
  have hop := open_eq (N := 14) (tO := 14) (by omega) (by omega) h [] 0 1 trivial hz (by omega) (by omega) (by simp) (by simp)
  refine Sat.bindE hop ?_
  refine Sat.bindE awake04 ?_
  rw [if_neg (by simp)]
  exact Sat.eq (falls_l1 v0 v1 v2 KD 0 d [] _ [] 1 1 0 ⟨h, by simp, trivial, by simp [endOf], by simp, by omega, by omega, hz, hz, by omega⟩ (by omega) (by unfold KD; omega)) rfl
end Go.Proofs.Ytimaibcaehagjaa

/- Plain law of the document's parser, its last part: steps, and a whole text. -/
import Derived.Test.YtfmabehmohbahaaPureParse
namespace Go.Proofs.Ytfmabehmohbahaa
set_option linter.unusedVariables false
set_option maxHeartbeats 1000000
section
variable {L : List ApiWord} {s s' s'' : St12}
theorem steps_end (hL : WordsOk L) {Sf : St12 → Option (St12 × List ApiStep)} {Af : St12 → Option (St12 × ApiArg)} {K : Nat} {s0 : St12} {G : List ApiStep → St12 → St12 → Option (St12 × List ApiStep)} {q : Int} {l3 : List ApiStep} (h3 : (l3.length : Int) + 1 ≤ q) (hq : q ≤ 150)
    (hG : ∀ l y2 s, Adv L s0 s → (l.length : Int) ≤ q → q ≤ s.Steps → (s.E = 0 → SOk l) → Sat (G l y2 s) (PostS L s0)) (h30 : SOk l3) {l5 : List ApiArg} {nm : List UInt8} {y2 : St12} (ha : Adv L s0 s) (hqs : q ≤ s.Steps) (hl : l5.length ≤ 12) (hA : s.E = 0 → ∀ a ∈ l5, AOk a) :
    Sat (Option.bind (offshootref12_State_sign.f s ([41] : List UInt8)) fun t8 => (if ((List.length l3 + List.length ([(⟨nm, l5⟩ : ApiStep)] : List ApiStep)) * 40 ≤ 140737488355328 ∧ List.length l3 + List.length ([(⟨nm, l5⟩ : ApiStep)] : List ApiStep) ≤ 140737488355328) then (Option.bind (offshootref12_State_is.f t8 ([46] : List UInt8)) fun t9 => (if (!t9) = true then offshootref12_State_steps.j1 Sf Af K (l3 ++ ([(⟨nm, l5⟩ : ApiStep)] : List ApiStep)) y2 t8 else G (l3 ++ ([(⟨nm, l5⟩ : ApiStep)] : List ApiStep)) y2 (⟨t8.L, (IntKind.wrap .i64 (t8.I + 1)), t8.Deep, t8.Steps, t8.At, t8.E⟩ : Offshootref12State))) else none)) (PostS L s0) := by
  have h := ha.inv
  refine Sat.bind (sign_sat hL h [41]) fun t8 ht8 => ?_
  refine Sat.chk (by simp only [List.length_cons, List.length_nil]; omega) ?_
  have a8 := ha.trans ht8.1
  have st8 := ht8.1.steps
  have hso : t8.E = 0 → SOk (l3 ++ [(⟨nm, l5⟩ : ApiStep)]) := by
    intro hz
    refine sok_snoc h30 ⟨hl, hA ?_⟩
    false_or_by_contra
    rename_i hb
    exact ht8.1.bad hb hz
  refine Sat.bindE (is_eq a8.inv [46]) ?_
  refine Sat.ite (fun _ => ?_) (fun hi => ?_)
  · unfold offshootref12_State_steps.j1
    exact Sat.some ⟨a8, fun hz => ⟨hso hz, by simp only [List.length_append, List.length_cons, List.length_nil]; omega⟩⟩
  · simp only [Bool.not_eq_false', Bool.and_eq_true, decide_eq_true_eq] at hi
    obtain ⟨e, hb⟩ := step_inv hL a8.inv (by rw [hi.1.2]; omega)
    rw [e]
    exact hG _ _ _ (a8.trans hb) (by simp only [List.length_append, List.length_cons, List.length_nil]; omega) (by show q ≤ t8.Steps; omega) hso
/-- The arguments of a step. -/
theorem steps_l2 (hL : WordsOk L) (Sf : St12 → Option (St12 × List ApiStep)) (Af : St12 → Option (St12 × ApiArg)) (K : Nat) (s0 : St12) (G : List ApiStep → St12 → St12 → Option (St12 × List ApiStep)) (q : Int) (l3 : List ApiStep) (h3 : (l3.length : Int) + 1 ≤ q) (hq : q ≤ 150)
    (hAf : ∀ t, Inv L t → t.E = 0 → t.Deep = s0.Deep → Sat (Af t) (PostA L t))
    (hG : ∀ l y2 s, Adv L s0 s → (l.length : Int) ≤ q → q ≤ s.Steps → (s.E = 0 → SOk l) → Sat (G l y2 s) (PostS L s0)) (h30 : SOk l3) :
    ∀ (k : Nat) (l5 : List ApiArg) (nm : List UInt8) (y2 s : St12), Adv L s0 s → q ≤ s.Steps → l5.length ≤ 12 → (s.E = 0 → ∀ a ∈ l5, AOk a) → 1 ≤ k → (s.E = 0 → 14 ≤ l5.length + k) →
      Sat (offshootref12_State_steps.l2 Sf Af G K k l5 nm l3 y2 s) (PostS L s0) := by
  intro k
  induction k with
  | zero => intro l5 nm y2 s ha hqs hl hA hk1 hk; omega
  | succ k ih =>
    intro l5 nm y2 s ha hqs hl hA hk1 hk
    have h := ha.inv
    rw [offshootref12_State_steps.l2]
    by_cases he : s.E = 0
    · rw [if_pos (by simpa using he)]
      refine Sat.bindE (is_eq h [41]) ?_
      refine Sat.ite (fun _ => ?_) (fun _ => steps_end hL h3 hq hG h30 ha hqs hl hA)
      have hkk := hk he
      have hj3 : ∀ s1, Adv L s0 s1 → s.Steps ≤ s1.Steps → (s1.E = 0 → l5.length < 12) → Sat (offshootref12_State_steps.j3 Sf Af G (offshootref12_State_steps.l2 Sf Af G K k) K l5 nm l3 y2 s1) (PostS L s0) := by
        intro s1 a1 st1 l1
        unfold offshootref12_State_steps.j3
        refine Sat.ite (fun hz => ?_) (fun hz => ?_)
        · have hz' : s1.E = 0 := by simpa using hz
          have hll := l1 hz'
          refine Sat.bind (hAf s1 a1.inv hz' a1.deep) fun r hr => ?_
          refine Sat.chk (by simp only [List.length_cons, List.length_nil]; omega) ?_
          have st2 := hr.1.steps
          refine ih _ _ _ _ (a1.trans hr.1) (by omega) (by simp; omega) (fun hz2 => ?_) (by omega) (fun _ => by simp only [List.length_append, List.length_cons, List.length_nil]; omega)
          intro a hm
          rcases List.mem_append.1 hm with hm | hm
          · exact hA he a hm
          · simp only [List.mem_cons, List.not_mem_nil, or_false] at hm
            subst hm
            exact hr.2 hz2
        · have hz' : s1.E ≠ 0 := by simpa using hz
          exact ih _ _ _ _ a1 (by omega) hl (fun hb => absurd hb hz') (by omega) (fun hb => absurd hb hz')
      have hj2 : ∀ s1, Adv L s0 s1 → s.Steps ≤ s1.Steps → Sat (offshootref12_State_steps.j2 Sf Af G (offshootref12_State_steps.l2 Sf Af G K k) K l5 nm l3 y2 s1) (PostS L s0) := by
        intro s1 a1 st1
        unfold offshootref12_State_steps.j2
        refine Sat.ite (fun _ => ?_) (fun hm => ?_)
        · refine Sat.bind (fail_sat a1.inv (by omega)) fun t6 ht6 => hj3 t6 (a1.trans ht6.1) (by have := ht6.1.steps; omega) (fun hz => absurd hz ht6.2.1)
        · exact hj3 s1 a1 st1 (fun _ => by simp at hm; omega)
      refine Sat.ite (fun _ => ?_) (fun _ => hj2 s ha (Int.le_refl _))
      exact Sat.bind (sign_sat hL h [44]) fun t7 ht7 => hj2 t7 (ha.trans ht7.1) ht7.1.steps
    · rw [if_neg (by simpa using he)]
      refine Sat.bindE rfl ?_
      rw [decide_eq_false he, Bool.false_and, if_neg (by simp)]
      exact steps_end hL h3 hq hG h30 ha hqs hl hA
theorem steps_l1 (hL : WordsOk L) (Sf : St12 → Option (St12 × List ApiStep)) (Af : St12 → Option (St12 × ApiArg)) (K : Nat) (hK : 200 < K) (s0 : St12)
    (hAf : ∀ t, Inv L t → t.E = 0 → t.Deep = s0.Deep → Sat (Af t) (PostA L t)) :
    ∀ (k : Nat) (l3 : List ApiStep) (y2 s : St12), Adv L s0 s → (l3.length : Int) ≤ s.Steps → (s.E = 0 → SOk l3) → 152 ≤ s.Steps + k → Sat (offshootref12_State_steps.l1 Sf Af K k l3 y2 s) (PostS L s0) := by
  intro k
  induction k with
  | zero => intro l3 y2 s ha hl hso hk; have := ha.inv.steps1; omega
  | succ k ih =>
    intro l3 y2 s ha hl hso hk
    have h := ha.inv
    have hs1 := h.steps1
    have hs0 := h.steps0
    rw [offshootref12_State_steps.l1]
    refine Sat.ite (fun he => ?_) (fun he => ?_)
    · have he' : s.E = 0 := by simpa using he
      refine Sat.ite (fun _ => ?_) (fun hm => ?_)
      · exact Sat.bind (fail_sat h (by omega)) fun t ht => Sat.some ⟨ha.trans ht.1, fun hz => absurd hz ht.2.1⟩
      · have hm' : s.Steps < 150 := by simp at hm; omega
        rw [h.words]
        refine Sat.chk ⟨h.lo, h.hi⟩ ?_
        rw [W_in (x := s.Steps + 1) (by omega) (by omega)]
        have hi1 : Inv L (⟨L, s.I, s.Deep, s.Steps + 1, s.At, s.E⟩ : St12) := ⟨rfl, h.lo, h.hi, h.deep0, h.deep1, by show 0 ≤ s.Steps + 1; omega, by show s.Steps + 1 ≤ 150; omega⟩
        have a1 : Adv L s (⟨L, s.I, s.Deep, s.Steps + 1, s.At, s.E⟩ : St12) := ⟨hi1, Int.le_refl _, rfl, by show s.Steps ≤ s.Steps + 1; omega, id⟩
        refine Sat.ite (fun _ => ?_) (fun hk1 => ?_)
        · exact Sat.bind (fail_sat hi1 (by omega)) fun t ht => Sat.some ⟨(ha.trans a1).trans ht.1, fun hz => absurd hz ht.2.1⟩
        · refine Sat.chk ⟨h.lo, h.hi⟩ ?_
          have hk1' : (wordAt L s.I).Kind = 1 := by simpa using hk1
          obtain ⟨e, hb⟩ := step_inv hL hi1 (by show (wordAt L s.I).Kind ≠ 0; rw [hk1']; omega)
          have e' : IntKind.wrap .i64 (s.I + 1) = s.I + 1 := e
          rw [e']
          refine Sat.bind (sign_sat hL hb.inv [40]) fun t3 ht3 => ?_
          have a3 := ((ha.trans a1).trans hb).trans ht3.1
          have st3 : s.Steps + 1 ≤ t3.Steps := ht3.1.steps
          refine steps_l2 hL Sf Af K s0 _ (s.Steps + 1) l3 (by omega) (by omega) hAf (fun l y s' a' hl' hq' hs' => ih l y s' a' (by omega) hs' (by omega)) (hso he') K [] _ y2 t3 a3 st3 (by simp) (fun _ a hm => by simp at hm) (by omega) (fun _ => by omega)
    · have he' : s.E ≠ 0 := by simpa using he
      unfold offshootref12_State_steps.j1
      exact Sat.some ⟨ha, fun hz => absurd hz he'⟩
theorem steps_bad (h : Inv L s) (he : s.E ≠ 0) (K : Nat) (hK : 2 < K) : Sat (offshootref12_State_steps.f K s) (PostS L s) := by
  obtain ⟨K, rfl⟩ : ∃ K', K = K' + 1 + 1 := ⟨K - 2, by omega⟩
  rw [offshootref12_State_steps.f, offshootref12_State_steps.b, offshootref12_State_steps.l1, if_neg (by simpa using he), offshootref12_State_steps.j1]
  exact Sat.some ⟨Adv.refl h, fun hz => absurd hz he⟩
theorem steps_knot (hL : WordsOk L) : ∀ (m : Nat) (s : St12) (K : Nat), Inv L s → 12 - s.Deep ≤ (m : Int) → 2 * m + 3100 < K → Sat (offshootref12_State_steps.f K s) (PostS L s) := by
  have key : ∀ (s : St12) (K : Nat), Inv L s → 3050 < K → (∀ t, Inv L t → t.Deep = s.Deep + 1 → Sat (offshootref12_State_steps.f K t) (PostS L t)) → Sat (offshootref12_State_steps.f (K + 2) s) (PostS L s) := by
    intro s K h hK hS
    rw [offshootref12_State_steps.f, offshootref12_State_steps.b]
    have hl0 : (([] : List ApiStep).length : Int) ≤ s.Steps := by have := h.steps0; simpa using this
    refine steps_l1 hL _ _ (K + 1) (by omega) s (fun t ht hz hd => ?_) (K + 1) [] _ s (Adv.refl h) hl0 (fun _ x hx => by simp at hx) (by have := h.steps0; omega)
    rw [offshootref12_State_arg.f]
    refine arg_step hL ht _ _ K (by omega) fun u hu hb => ?_
    by_cases hz : u.E = 0
    · exact hS u hu (by rcases hb with hb | hb; exact absurd hz hb; rw [hb, hd])
    · exact steps_bad hu hz K (by omega)
  intro m
  induction m with
  | zero =>
    intro s K h hd hK
    obtain ⟨K, rfl⟩ : ∃ K', K = K' + 2 := ⟨K - 2, by omega⟩
    exact key s K h (by omega) fun t ht hdt => by have := ht.deep1; omega
  | succ m ih =>
    intro s K h hd hK
    obtain ⟨K, rfl⟩ : ∃ K', K = K' + 2 := ⟨K - 2, by omega⟩
    exact key s K h (by omega) fun t ht hdt => ih t K ht (by omega) (by omega)
end
/-- The steps of a text: it is total; those of a text that is one are told in so many bytes. -/
theorem parse_j1 (K : Nat) (y : St12) (l : List ApiStep) (h : y.E = 0 → SOk l ∧ l.length ≤ 150) : Sat (offshootref12_Parse.j1 K y l) (fun r => r.2.2 = 0 → SOk r.1 ∧ r.1.length ≤ 150) := by
  unfold offshootref12_Parse.j1
  refine Sat.ite (fun he => Sat.some fun hz => ?_) (fun he => Sat.some fun _ => h (by simpa using he))
  have : ¬ y.E = 0 := by simpa using he
  exact absurd hz this
theorem parse_sat (K : Nat) (hK : 5000 < K) (s : List UInt8) (hW : Sat (offshootref11_Words.f K s) fun r => r.2.2 = 0 → WordsOk r.1 ∧ 0 < (r.1.length : Int)) :
    Sat (offshootref12_Parse.f K s) (fun r => r.2.2 = 0 → SOk r.1 ∧ r.1.length ≤ 150) := by
  unfold offshootref12_Parse.f
  refine Sat.bind hW fun t ht => ?_
  refine Sat.ite (fun he => Sat.some fun hz => ?_) (fun he => ?_)
  · have : ¬ t.2.2 = 0 := by simpa using he
    exact absurd hz this
  · have he' : t.2.2 = 0 := by simpa using he
    obtain ⟨hL, h0⟩ := ht he'
    refine Sat.chk ⟨by omega, h0⟩ ?_
    refine Sat.chk (fun _ => ⟨by omega, h0⟩) ?_
    refine Sat.ite (fun _ => ?_) (fun hg => ?_)
    · refine Sat.chk ⟨by omega, h0⟩ ?_
      exact Sat.some fun hz => absurd hz (show ¬ (120 : Int) = 0 by decide)
    · simp only [Bool.or_eq_false_iff, Bool.not_eq_false', decide_eq_true_eq] at hg
      have hl := hL.last 0 (by omega) h0 (by show (List.getD t.1 (Int.toNat 0) default).Kind ≠ 0; rw [hg.1]; omega)
      have hi : Inv t.1 (⟨t.1, 1, 0, 0, 0, 0⟩ : St12) := ⟨rfl, by show (0 : Int) ≤ 1; omega, by show (1 : Int) < t.1.length; omega, by show (0 : Int) ≤ 0; omega, by show (0 : Int) ≤ 12; omega, by show (0 : Int) ≤ 0; omega, by show (0 : Int) ≤ 150; omega⟩
      refine Sat.bind (sign_sat hL hi [46]) fun t2 ht2 => ?_
      refine Sat.bind (steps_knot hL 12 t2 K ht2.1.inv (by have := ht2.1.inv.deep0; omega) (by omega)) fun t3 ht3 => ?_
      have i3 := ht3.1.inv
      rw [i3.words]
      refine Sat.chk (fun _ => ⟨i3.lo, i3.hi⟩) ?_
      refine Sat.ite (fun _ => ?_) (fun _ => parse_j1 K _ _ ht3.2)
      exact Sat.bind (fail_sat i3 (by omega)) fun t4 ht4 => parse_j1 K _ _ fun hz => absurd hz ht4.2.1
end Go.Proofs.Ytfmabehmohbahaa

/- Plain law of the document's parser: it is total; steps that it hands back are no more than words that were taken. -/
import Derived.Test.YtbjbgodcenopnaaQw
namespace Go.Proofs.Ytbjbgodcenopnaa
set_option linter.unusedVariables false
set_option linter.unusedSimpArgs false
set_option maxHeartbeats 1000000
mutual
/-- How many values there are in a value. -/
def wV : ApiValue → Nat
  | ⟨_, _, _, _, _, l⟩ => 1 + wL l
def wL : List ApiValue → Nat
  | [] => 0
  | x :: r => wV x + wL r
end
theorem wL_append : ∀ a b : List ApiValue, wL (a ++ b) = wL a + wL b
  | [], b => by simp [wL]
  | x :: r, b => by rw [List.cons_append, wL, wL, wL_append r b]; omega
theorem wV_eq (v : ApiValue) : wV v = 1 + wL v.L := by cases v; rw [wV]
mutual
/-- How many steps there are. -/
def nS : List ApiStep → Nat
  | [] => 0
  | x :: r => nS1 x + nS r
def nS1 : ApiStep → Nat
  | ⟨_, l⟩ => 1 + nA l
def nA : List ApiArg → Nat
  | [] => 0
  | a :: r => nA1 a + nA r
def nA1 : ApiArg → Nat
  | ⟨_, _, _, T⟩ => nS T
end
mutual
/-- Steps as they are parsed. -/
def GS : List ApiStep → Prop
  | [] => True
  | x :: r => GS1 x ∧ GS r
def GS1 : ApiStep → Prop
  | ⟨_, l⟩ => l.length ≤ 12 ∧ GA l
def GA : List ApiArg → Prop
  | [] => True
  | a :: r => GA1 a ∧ GA r
def GA1 : ApiArg → Prop
  | ⟨k, v, _, T⟩ => wV v ≤ 1600 ∧ v.S.length ≤ 500 ∧ (k = 3 → T ≠ []) ∧ T.length ≤ 150 ∧ GS T
end
theorem nS_append : ∀ a b : List ApiStep, nS (a ++ b) = nS a + nS b
  | [], b => by simp [nS]
  | x :: r, b => by rw [List.cons_append, nS, nS, nS_append r b]; omega
theorem nA_append : ∀ a b : List ApiArg, nA (a ++ b) = nA a + nA b
  | [], b => by simp [nA]
  | x :: r, b => by rw [List.cons_append, nA, nA, nA_append r b]; omega
theorem GS_append : ∀ a b : List ApiStep, GS a → GS b → GS (a ++ b)
  | [], b, _, hb => hb
  | x :: r, b, ha, hb => by
    simp only [GS] at ha
    rw [List.cons_append]
    simp only [GS]
    exact ⟨ha.1, GS_append r b ha.2 hb⟩
theorem GA_append : ∀ a b : List ApiArg, GA a → GA b → GA (a ++ b)
  | [], b, _, hb => hb
  | x :: r, b, ha, hb => by
    simp only [GA] at ha
    rw [List.cons_append]
    simp only [GA]
    exact ⟨ha.1, GA_append r b ha.2 hb⟩
theorem nS_one (nm : List UInt8) (l : List ApiArg) : nS [⟨nm, l⟩] = 1 + nA l := by simp [nS, nS1]
theorem nA_one (a : ApiArg) : nA [a] = nS a.T := by cases a; simp [nA, nA1]
theorem nS_pos : ∀ l : List ApiStep, l ≠ [] → 1 ≤ nS l
  | [], h => absurd rfl h
  | ⟨_, _⟩ :: r, _ => by simp only [nS, nS1]; omega
structure Inv (L : List ApiWord) (s : St12) : Prop where
  words : s.L = L
  lo : 0 ≤ s.I
  hi : s.I < (L.length : Int)
  deep0 : 0 ≤ s.Deep
  deep1 : s.Deep ≤ 12
  steps0 : 0 ≤ s.Steps
  steps1 : s.Steps ≤ 150
/-- From a state to a later one. -/
structure Adv (L : List ApiWord) (s s' : St12) : Prop where
  inv : Inv L s'
  on : s.I ≤ s'.I
  deep : s'.Deep = s.Deep
  steps : s.Steps ≤ s'.Steps
  bad : s.E ≠ 0 → s'.E ≠ 0
section
variable {L : List ApiWord} {s s' s'' : St12}
theorem Adv.refl (h : Inv L s) : Adv L s s := ⟨h, Int.le_refl _, rfl, Int.le_refl _, id⟩
theorem Adv.trans (h : Adv L s s') (h' : Adv L s' s'') : Adv L s s'' := ⟨h'.inv, Int.le_trans h.on h'.on, h'.deep.trans h.deep, Int.le_trans h.steps h'.steps, fun hb => h'.bad (h.bad hb)⟩
theorem Adv.good (h : Adv L s s') (hz : s'.E = 0) : s.E = 0 := Classical.not_not.1 fun hb => h.bad hb hz
theorem is_eq (h : Inv L s) (sg : List UInt8) : p12_is.f s sg = some ((decide (s.E = 0) && decide ((wordAt L s.I).Kind = 5)) && decide ((wordAt L s.I).S = sg)) := by
  unfold p12_is.f
  rw [h.words, if_pos (fun _ => ⟨h.lo, h.hi⟩), if_pos (fun _ => ⟨h.lo, h.hi⟩)]
theorem fail_eq (h : Inv L s) (e : Int) : p12_fail.f s e = some (if s.E = 0 then ⟨L, s.I, s.Deep, s.Steps, (wordAt L s.I).At, e⟩ else s) := by
  unfold p12_fail.f p12_fail.j1
  rw [h.words]
  by_cases he : s.E = 0
  · rw [if_pos (by simpa using he), if_pos ⟨h.lo, h.hi⟩, if_pos he]
  · rw [if_neg (by simpa using he), if_neg he]
theorem fail_sat (h : Inv L s) {e : Int} (he : e ≠ 0) : Sat (p12_fail.f s e) fun s' => Adv L s s' ∧ s'.E ≠ 0 ∧ s'.I = s.I := by
  refine Sat.eq (fail_eq h e) ?_
  by_cases hz : s.E = 0
  · rw [if_pos hz]
    exact ⟨⟨⟨rfl, h.lo, h.hi, h.deep0, h.deep1, h.steps0, h.steps1⟩, Int.le_refl _, rfl, Int.le_refl _, fun hb => absurd hz hb⟩, he, rfl⟩
  · rw [if_neg hz]
    exact ⟨Adv.refl h, hz, rfl⟩
/-- The state at the next word. -/
theorem step_inv (hL : WordsOk L) (h : Inv L s) (hk : (wordAt L s.I).Kind ≠ 0) : IntKind.wrap .i64 (s.I + 1) = s.I + 1 ∧ Adv L s ⟨s.L, s.I + 1, s.Deep, s.Steps, s.At, s.E⟩ := by
  have h1 := hL.last s.I h.lo h.hi hk
  have h2 := hL.len
  have h3 := h.lo
  exact ⟨W_in (by omega) (by omega), ⟨⟨h.words, by show 0 ≤ s.I + 1; omega, h1, h.deep0, h.deep1, h.steps0, h.steps1⟩, by show s.I ≤ s.I + 1; omega, rfl, Int.le_refl _, id⟩⟩
theorem sign_sat (hL : WordsOk L) (h : Inv L s) (sg : List UInt8) : Sat (p12_sign.f s sg) fun s' => Adv L s s' ∧ (s.E ≠ 0 → s' = s) ∧ (s'.E = 0 → s'.I = s.I + 1) := by
  unfold p12_sign.f
  refine Sat.ite (fun he => ?_) (fun he => ?_)
  · have he' : s.E ≠ 0 := by simpa using he
    exact Sat.some ⟨Adv.refl h, fun _ => rfl, fun hz => absurd hz he'⟩
  · have he' : s.E = 0 := by simpa using he
    refine Sat.bindE (is_eq h sg) ?_
    refine Sat.ite (fun _ => ?_) (fun hi => ?_)
    · refine Sat.bind (fail_sat h (by omega)) fun s' hs' => Sat.some ⟨hs'.1, fun hb => absurd he' hb, fun hz => absurd hz hs'.2.1⟩
    · have hk : (wordAt L s.I).Kind ≠ 0 := by
        simp only [Bool.not_eq_false', Bool.and_eq_true, decide_eq_true_eq] at hi
        rw [hi.1.2]; omega
      obtain ⟨e, ha⟩ := step_inv hL h hk
      rw [e]
      exact Sat.some ⟨ha, fun hb => absurd he' hb, fun _ => rfl⟩
theorem into_sat (h : Inv L s) : Sat (p12_into.f s) fun s' => Inv L s' ∧ s'.I = s.I ∧ s'.Steps = s.Steps ∧ (s.E ≠ 0 → s' = s) ∧ (s'.E = 0 → s'.Deep = s.Deep + 1) ∧ (s.E ≠ 0 → s'.E ≠ 0) ∧ s.Deep ≤ s'.Deep := by
  unfold p12_into.f
  refine Sat.ite (fun he => ?_) (fun he => ?_)
  · have he' : s.E ≠ 0 := by simpa using he
    exact Sat.some ⟨h, rfl, rfl, fun _ => rfl, fun hz => absurd hz he', id, Int.le_refl _⟩
  · have he' : s.E = 0 := by simpa using he
    refine Sat.ite (fun _ => ?_) (fun hd => ?_)
    · refine Sat.bindE (fail_eq h 3) ?_
      rw [if_pos he']
      exact Sat.some ⟨⟨rfl, h.lo, h.hi, h.deep0, h.deep1, h.steps0, h.steps1⟩, rfl, rfl, fun hb => absurd he' hb, (fun hz => absurd hz (show ¬ (3 : Int) = 0 by decide)), (fun hb => absurd he' hb), Int.le_refl _⟩
    · simp only [decide_eq_false_iff_not] at hd
      have h1 := h.deep0
      have h2 := h.deep1
      rw [W_in (by omega) (by omega)]
      exact Sat.some ⟨⟨h.words, h.lo, h.hi, by show 0 ≤ s.Deep + 1; omega, by show s.Deep + 1 ≤ 12; omega, h.steps0, h.steps1⟩, rfl, rfl, fun hb => absurd he' hb, fun _ => rfl, (fun hb => absurd he' hb), by show s.Deep ≤ s.Deep + 1; omega⟩
abbrev VF := St12 → Option (St12 × ApiValue × Bool)
abbrev VsF := St12 → List UInt8 → Option (St12 × List ApiValue)
/-- What a way of taking a value promises. -/
def PostV (L : List ApiWord) (s : St12) (r : St12 × ApiValue × Bool) : Prop :=
  Adv L s r.1 ∧ (s.E ≠ 0 → r.1 = s ∧ r.2.2 = false) ∧ (r.2.2 = true → r.1.E = 0 ∧ s.I < r.1.I ∧ (wV r.2.1 : Int) ≤ r.1.I - s.I ∧ r.2.1.S.length ≤ 500) ∧ (r.1.E = 0 → r.2.2 = false → r.1 = s)
def PostVs (L : List ApiWord) (s : St12) (r : St12 × List ApiValue) : Prop :=
  Adv L s r.1 ∧ (r.1.E = 0 → s.I < r.1.I ∧ (wL r.2 : Int) ≤ r.1.I - s.I - 1)
theorem atom_post (hL : WordsOk L) (h : Inv L s) (he : s.E = 0) (hk : (wordAt L s.I).Kind ≠ 0) (v : ApiValue) (hv : v.L = []) (hvs : v.S.length ≤ 500) (V : VF) (Vs : VsF) (K : Nat) :
    Sat (p12_value.j1 V Vs K v s true) (PostV L s) := by
  unfold p12_value.j1 p12_value.j2
  rw [if_pos rfl]
  obtain ⟨e, ha⟩ := step_inv hL h hk
  rw [e]
  refine Sat.some ⟨ha, fun hb => absurd he hb, fun _ => ⟨he, by show s.I < s.I + 1; omega, ?_, hvs⟩, fun _ hf => by cases hf⟩
  show (wV v : Int) ≤ s.I + 1 - s.I
  rw [wV_eq, hv, wL]
  omega
theorem value_step (hL : WordsOk L) (h : Inv L s) (V : VF) (Vs : VsF) (K : Nat)
    (hVs : ∀ t, Inv L t → (t.E ≠ 0 ∨ t.Deep = s.Deep + 1) → Sat (Vs t [93]) (PostVs L t)) : Sat (p12_value.b V Vs K s) (PostV L s) := by
  unfold p12_value.b
  refine Sat.ite (fun he => ?_) (fun he => ?_)
  · have he' : s.E ≠ 0 := by simpa using he
    exact Sat.some ⟨Adv.refl h, fun _ => ⟨rfl, rfl⟩, (fun hf => nomatch hf), fun _ _ => rfl⟩
  have he' : s.E = 0 := by simpa using he
  rw [h.words]
  refine Sat.chk ⟨h.lo, h.hi⟩ ?_
  refine Sat.ite (fun hk => ?_) (fun hk2 => ?_)
  · have hk' : (wordAt L s.I).Kind = 2 := by simpa using hk
    exact atom_post hL h he' (by rw [hk']; omega) _ rfl (by first | exact hL.word s.I h.lo h.hi | exact Nat.zero_le _) V Vs K
  refine Sat.ite (fun hk => ?_) (fun hk3 => ?_)
  · have hk' : (wordAt L s.I).Kind = 3 := by simpa using hk
    exact atom_post hL h he' (by rw [hk']; omega) _ rfl (by first | exact hL.word s.I h.lo h.hi | exact Nat.zero_le _) V Vs K
  refine Sat.ite (fun hk => ?_) (fun hk4 => ?_)
  · have hk' : (wordAt L s.I).Kind = 4 := by simpa using hk
    exact atom_post hL h he' (by rw [hk']; omega) _ rfl (by first | exact hL.word s.I h.lo h.hi | exact Nat.zero_le _) V Vs K
  refine Sat.ite (fun hk => ?_) (fun _ => ?_)
  · simp only [Bool.and_eq_true, decide_eq_true_eq] at hk
    exact atom_post hL h he' (by have : (wordAt L s.I).Kind = 1 := hk.1; rw [this]; omega) _ rfl (Nat.zero_le _) V Vs K
  refine Sat.ite (fun hk => ?_) (fun _ => ?_)
  · simp only [Bool.and_eq_true, decide_eq_true_eq] at hk
    exact atom_post hL h he' (by have : (wordAt L s.I).Kind = 1 := hk.1; rw [this]; omega) _ rfl (Nat.zero_le _) V Vs K
  refine Sat.ite (fun hk => ?_) (fun _ => ?_)
  · simp only [Bool.and_eq_true, decide_eq_true_eq] at hk
    exact atom_post hL h he' (by have : (wordAt L s.I).Kind = 1 := hk.1; rw [this]; omega) _ rfl (Nat.zero_le _) V Vs K
  refine Sat.bindE (is_eq h [91]) ?_
  refine Sat.ite (fun hi => ?_) (fun _ => ?_)
  · have hk : (wordAt L s.I).Kind ≠ 0 := by
      simp only [Bool.and_eq_true, decide_eq_true_eq] at hi
      rw [hi.1.2]; omega
    obtain ⟨e, ha⟩ := step_inv hL h hk
    rw [e]
    rw [h.words] at ha
    refine Sat.bind (into_sat ha.inv) fun t2 ht2 => ?_
    obtain ⟨i1, i2, i3, i4, i5, i6⟩ := ht2
    refine Sat.bind (hVs t2 i1 (by
      by_cases hz : t2.E = 0
      · exact .inr (i5 hz)
      · exact .inl hz)) fun t3 ht3 => ?_
    obtain ⟨a3, b3⟩ := ht3
    have hI : t2.I = s.I + 1 := i2
    have hS : t2.Steps = s.Steps := i3
    have o3 := a3.on
    have st3 := a3.steps
    refine Sat.some ⟨⟨⟨a3.inv.words, a3.inv.lo, a3.inv.hi, h.deep0, h.deep1, a3.inv.steps0, a3.inv.steps1⟩, by show s.I ≤ t3.1.I; omega, rfl, by show s.Steps ≤ t3.1.Steps; omega, fun hb => absurd he' hb⟩, fun hb => absurd he' hb, fun hok => ?_, fun hz hf => ?_⟩
    · have hz : t3.1.E = 0 := by simpa using hok
      obtain ⟨c1, c2⟩ := b3 hz
      refine ⟨hz, by show s.I < t3.1.I; omega, ?_, Nat.zero_le _⟩
      show (wV ⟨5, false, 0, 0, [], t3.2⟩ : Int) ≤ t3.1.I - s.I
      rw [wV]; omega
    · exfalso
      have : ¬ t3.1.E = 0 := by simpa using hf
      exact this hz
  · unfold p12_value.j1 p12_value.j2
    rw [if_neg (by simp)]
    exact Sat.some ⟨Adv.refl h, fun hb => absurd he' hb, (fun hf => nomatch hf), fun _ _ => rfl⟩
/-- Values that were taken so far, from a place on. -/
def Taken (L : List ApiWord) (s0 s : St12) (l : List ApiValue) : Prop :=
  Adv L s0 s ∧ l.length ≤ 13 ∧ (l.length ≤ 12 ∨ s.E ≠ 0) ∧ (s.E = 0 → (wL l : Int) ≤ s.I - s0.I)
theorem values_l1 (hL : WordsOk L) (V : VF) (Vs : VsF) (K : Nat) (sg : List UInt8) (s0 : St12)
    (hV : ∀ t, Inv L t → t.Deep = s0.Deep → Sat (V t) (PostV L t)) : ∀ (k : Nat) (l : List ApiValue) (s : St12), Taken L s0 s l → 15 ≤ l.length + k →
      Sat (p12_values.l1 V Vs K k l s sg) (PostVs L s0) := by
  intro k
  induction k with
  | zero => intro l s ht hk; have := ht.2.1; omega
  | succ k ih =>
    intro l s ht hk
    obtain ⟨ha, hl, hl', hv⟩ := ht
    have h := ha.inv
    rw [p12_values.l1]
    have hend : ∀ t1 : Bool, Sat (Option.bind (p12_sign.f s sg) fun t6 => some (t6, l)) (PostVs L s0) := by
      intro _
      refine Sat.bind (sign_sat hL h sg) fun s' hs' => Sat.some ⟨ha.trans hs'.1, fun hz => ?_⟩
      have v1 := hv (hs'.1.good hz)
      have := hs'.2.2 hz
      have := ha.on
      exact ⟨by show s0.I < s'.I; omega, by show (wL l : Int) ≤ s'.I - s0.I - 1; omega⟩
    by_cases he : s.E = 0
    · rw [if_pos (by simpa using he)]
      refine Sat.bindE (is_eq h sg) ?_
      refine Sat.ite (fun _ => ?_) (fun _ => hend false)
      have hj2 : ∀ s1, Adv L s0 s1 → (s1.E = 0 → s.I ≤ s1.I) → (s1.E = 0 → l.length < 12) → Sat (p12_values.j2 V Vs (p12_values.l1 V Vs K k) K l s1 sg) (PostVs L s0) := by
        intro s1 a1 o1 l1
        unfold p12_values.j2
        refine Sat.bind (hV s1 a1.inv a1.deep) fun r hr => ?_
        obtain ⟨p1, p2, p3, p4⟩ := hr
        have hl12 : l.length ≤ 12 := by
          rcases hl' with h' | h'
          · exact h'
          · exact absurd he h'
        refine Sat.ite (fun hf => ?_) (fun hf => ?_)
        · refine Sat.bind (fail_sat p1.inv (by omega)) fun t3 ht3 => ?_
          unfold p12_values.j3
          refine Sat.chk (by simp; omega) ?_
          refine ih _ _ ⟨(a1.trans p1).trans ht3.1, by simp; omega, .inr ht3.2.1, fun hz => absurd hz ht3.2.1⟩ (by simp; omega)
        · have hok : r.2.2 = true := by simpa using hf
          obtain ⟨q1, q2, q3, _⟩ := p3 hok
          have hz1 : s1.E = 0 := p1.good q1
          unfold p12_values.j3
          refine Sat.chk (by simp; omega) ?_
          have hll := l1 hz1
          have v1 := hv he
          have o2 := o1 hz1
          refine ih _ _ ⟨a1.trans p1, by simp; omega, .inl (by simp; omega), fun hz => ?_⟩ (by simp; omega)
          rw [wL_append, wL, wL]
          omega
      have hj1 : ∀ s1, Adv L s0 s1 → (s1.E = 0 → s.I ≤ s1.I) → Sat (p12_values.j1 V Vs (p12_values.l1 V Vs K k) K l s1 sg) (PostVs L s0) := by
        intro s1 a1 o1
        unfold p12_values.j1
        refine Sat.ite (fun hm => ?_) (fun hm => ?_)
        · refine Sat.bind (fail_sat a1.inv (by omega)) fun t4 ht4 => hj2 t4 (a1.trans ht4.1) (fun hz => absurd hz ht4.2.1) (fun hz => absurd hz ht4.2.1)
        · exact hj2 s1 a1 o1 (fun _ => by simp at hm; omega)
      refine Sat.ite (fun hpos => ?_) (fun hpos => ?_)
      · refine Sat.bind (sign_sat hL h [44]) fun t5 ht5 => hj1 t5 (ha.trans ht5.1) (fun hz => ht5.1.on)
      · exact hj1 s ha (fun _ => Int.le_refl _)
    · rw [if_neg (by simpa using he)]
      refine Sat.bindE rfl ?_
      rw [decide_eq_false he, Bool.false_and, if_neg (by simp)]
      exact hend false
theorem values_bad (hL : WordsOk L) (h : Inv L s) (he : s.E ≠ 0) (sg : List UInt8) (K : Nat) (hK : 2 < K) : Sat (p12_values.f K s sg) (PostVs L s) := by
  obtain ⟨K, rfl⟩ : ∃ K', K = K' + 1 + 1 := ⟨K - 2, by omega⟩
  rw [p12_values.f, p12_values.b, p12_values.l1, if_neg (by simpa using he)]
  refine Sat.bindE rfl ?_
  rw [decide_eq_false he, Bool.false_and, if_neg (by simp)]
  refine Sat.bind (sign_sat hL h sg) fun s' hs' => Sat.some ⟨hs'.1, fun hz => absurd hz (hs'.1.bad he)⟩
theorem value_knot (hL : WordsOk L) : ∀ (m : Nat) (s : St12) (K : Nat), Inv L s → 12 - s.Deep ≤ (m : Int) → 2 * m + 40 < K → Sat (p12_value.f K s) (PostV L s) := by
  intro m
  induction m with
  | zero =>
    intro s K h hd hK
    obtain ⟨K, rfl⟩ : ∃ K', K = K' + 1 := ⟨K - 1, by omega⟩
    rw [p12_value.f]
    refine value_step hL h _ _ K fun t ht hb => ?_
    have := ht.deep1
    rcases hb with hb | hb
    · exact values_bad hL ht hb _ K (by omega)
    · omega
  | succ m ih =>
    intro s K h hd hK
    obtain ⟨K, rfl⟩ : ∃ K', K = K' + 1 + 1 := ⟨K - 2, by omega⟩
    rw [p12_value.f]
    refine value_step hL h _ _ (K + 1) fun t ht hb => ?_
    rcases hb with hb | hb
    · exact values_bad hL ht hb _ (K + 1) (by omega)
    · rw [p12_values.f, p12_values.b]
      refine values_l1 hL _ _ K [93] t (fun u hu hdu => ih u K hu (by omega) (by omega)) K [] t ⟨Adv.refl ht, by simp, .inl (by simp), fun _ => by simp [wL]⟩ (by simp; omega)
theorem values_knot (hL : WordsOk L) (s : St12) (sg : List UInt8) (K : Nat) (h : Inv L s) (hK : 70 < K) : Sat (p12_values.f K s sg) (PostVs L s) := by
  obtain ⟨K, rfl⟩ : ∃ K', K = K' + 1 := ⟨K - 1, by omega⟩
  rw [p12_values.f, p12_values.b]
  exact values_l1 hL _ _ K sg s (fun u hu _ => value_knot hL 12 u K hu (by have := hu.deep0; omega) (by omega)) K [] s ⟨Adv.refl h, by simp, .inl (by simp), fun _ => by simp [wL]⟩ (by simp; omega)
theorem preds_l1 (K : Nat) (S : List UInt8) (l : List (List UInt8)) (hl : l.length = 9) : ∀ (k : Nat) (i : Int), 0 ≤ i → i ≤ 9 → 9 - i < k → Sat (r12_Preds.l1 K k S l i) fun r => True := by
  intro k
  induction k with
  | zero => intro i h0 h1 h2; omega
  | succ k ih =>
    intro i h0 h1 h2
    rw [r12_Preds.l1, hl]
    refine Sat.ite (fun h => ?_) (fun h => ?_)
    · have h' : i < 9 := by simpa using h
      refine Sat.chk ⟨h0, by omega⟩ ?_
      refine Sat.ite (fun he => Sat.some trivial) (fun _ => ?_)
      rw [W_in (by omega) (by omega)]
      exact ih (i + 1) (by omega) (by omega) (by omega)
    · exact Sat.ite (fun hb => Sat.some trivial) (fun _ => Sat.some trivial)
theorem preds_sat (K : Nat) (hK : 20 < K) (S : List UInt8) : Sat (r12_Preds.f K S) fun r => True :=
  preds_l1 K S _ rfl K 0 (by omega) (by omega) (by omega)
abbrev PF := St12 → Option (St12 × ApiPred)
def PostP (L : List ApiWord) (s : St12) (r : St12 × ApiPred) : Prop := Adv L s r.1 ∧ (r.1.E = 0 → s.I < r.1.I)
/-- The loop behind a predicate. -/
structure InP (L : List ApiWord) (s0 s : St12) : Prop where
  inv : Inv L s
  good : s0.E = 0
  on : s0.I ≤ s.I
  deep : s0.Deep ≤ s.Deep
  steps : s0.Steps ≤ s.Steps
  ok : s.E = 0 → s0.I < s.I
theorem InP.later {s0 : St12} (h : InP L s0 s) (h' : Adv L s s') : InP L s0 s' :=
  ⟨h'.inv, h.good, Int.le_trans h.on h'.on, by rw [h'.deep]; exact h.deep, Int.le_trans h.steps h'.steps, fun hz => by
    have := h.ok (h'.good hz)
    have := h'.on
    omega⟩
theorem pred_j1 {s0 : St12} {p : ApiPred} (h : InP L s0 s) (hs0 : Inv L s0) (Pf : PF) (K : Nat) : Sat (p12_pred.j1 Pf K p s0 s) (PostP L s0) := by
  unfold p12_pred.j1
  refine Sat.some ⟨⟨⟨h.inv.words, h.inv.lo, h.inv.hi, hs0.deep0, hs0.deep1, h.inv.steps0, h.inv.steps1⟩, h.on, rfl, h.steps, fun hb => absurd h.good hb⟩, fun hz => h.ok hz⟩
theorem pred_l1 (hL : WordsOk L) (Pf : PF) (K : Nat) (s0 : St12) (hs0 : Inv L s0) (hP : ∀ t, Inv L t → t.E = 0 → s0.Deep < t.Deep → Sat (Pf t) (PostP L t)) : ∀ (k : Nat) (p : ApiPred) (s : St12), InP L s0 s → (L.length : Int) - s.I < k →
    Sat (p12_pred.l1 Pf K k p s0 s) (PostP L s0) := by
  intro k
  induction k with
  | zero => intro p s h hk; have := h.inv.hi; omega
  | succ k ih =>
    intro p s h hk
    rw [p12_pred.l1]
    refine Sat.bindE (is_eq h.inv [46]) ?_
    refine Sat.ite (fun hi => ?_) (fun _ => pred_j1 h hs0 Pf K)
    simp only [Bool.and_eq_true, decide_eq_true_eq] at hi
    have he : s.E = 0 := hi.1.1
    obtain ⟨e, ha⟩ := step_inv hL h.inv (by rw [hi.1.2]; omega)
    rw [e]
    refine Sat.bind (into_sat ha.inv) fun t9 ht9 => ?_
    obtain ⟨i1, i2, i3, i4, i5, i6, i7⟩ := ht9
    have hI : t9.I = s.I + 1 := i2
    have hS : t9.Steps = s.Steps := i3
    have hD : s.Deep ≤ t9.Deep := i7
    have hd0 := h.deep
    have hst := h.steps
    have hon := h.on
    have o1 := h.ok he
    have h9 : InP L s0 t9 := ⟨i1, h.good, by omega, by omega, by omega, fun _ => by omega⟩
    have hj3 : ∀ (u : St12) (q : ApiPred), InP L s0 u → s.I + 1 ≤ u.I → Sat (p12_pred.j3 Pf (p12_pred.l1 Pf K k) K s0 q u) (PostP L s0) := by
      intro u q hu hui
      unfold p12_pred.j3
      refine Sat.bind (sign_sat hL hu.inv [41]) fun t11 ht11 => ?_
      have := ht11.1.on
      exact ih q t11 (hu.later ht11.1) (by omega)
    have hj2 : ∀ u : St12, InP L s0 u → u.I = s.I + 1 → (u.E = 0 → s0.Deep < u.Deep ∧ (wordAt L u.I).Kind = 1) → Sat (p12_pred.j2 Pf (p12_pred.l1 Pf K k) K s0 p t9 u) (PostP L s0) := by
      intro u hu hui hk1
      unfold p12_pred.j2
      refine Sat.ite (fun _ => pred_j1 hu hs0 Pf K) (fun hz => ?_)
      have hz' : u.E = 0 := by simpa using hz
      obtain ⟨hdu, hk1⟩ := hk1 hz'
      rw [hu.inv.words]
      refine Sat.chk ⟨hu.inv.lo, hu.inv.hi⟩ ?_
      obtain ⟨e2, hb⟩ := step_inv hL hu.inv (by rw [hk1]; omega)
      rw [e2]
      rw [hu.inv.words] at hb
      refine Sat.bind (sign_sat hL hb.inv [40]) fun t10 ht10 => ?_
      have hau := hb.trans ht10.1
      have h10 := hu.later hau
      have on10 := ht10.1.on
      have on10' : u.I + 1 ≤ t10.I := on10
      have hj4 : ∀ (op op' : List UInt8) (b : Bool), Sat (p12_pred.j4 Pf (p12_pred.l1 Pf K k) K s0 p t9 t10 op op' b) (PostP L s0) := by
        intro op op' b
        unfold p12_pred.j4
        refine Sat.ite (fun hbt => ?_) (fun _ => ?_)
        · refine Sat.ite (fun hz1 => ?_) (fun _ => hj3 t10 p h10 (by omega))
          have hz1' : t10.E = 0 := by simpa using hz1
          refine Sat.bind (hP t10 h10.inv hz1' (by rw [hau.deep]; exact hdu)) fun r hr => ?_
          obtain ⟨a, c⟩ := hr
          have aon := a.on
          have ast := a.steps
          have d10 := h10.deep
          have s10 := h10.steps
          have x10 := h10.on
          exact hj3 _ _ ⟨⟨a.inv.words, a.inv.lo, a.inv.hi, h10.inv.deep0, h10.inv.deep1, a.inv.steps0, a.inv.steps1⟩, h.good, by show s0.I ≤ r.1.I; omega, d10, by show s0.Steps ≤ r.1.Steps; omega, fun hz2 => by show s0.I < r.1.I; omega⟩ (by show s.I + 1 ≤ r.1.I; omega)
        · refine Sat.ite (fun hn => ?_) (fun _ => ?_)
          · exact hj3 t10 _ h10 (by omega)
          · refine Sat.ite (fun _ => ?_) (fun _ => hj3 t10 p h10 (by omega))
            refine Sat.bind (fail_sat i1 (by omega)) fun t13 ht13 => hj3 t13 p (h9.later ht13.1) (by have := ht13.2.2; omega)
      refine Sat.ite (fun ho => ?_) (fun _ => ?_)
      · exact hj4 _ _ _
      · exact hj4 _ _ _
    refine Sat.chk (fun _ => ⟨i1.lo, by rw [i1.words]; exact i1.hi⟩) ?_
    rw [i1.words]
    refine Sat.ite (fun _ => ?_) (fun hk1 => ?_)
    · refine Sat.bind (fail_sat i1 (by omega)) fun t14 ht14 => hj2 t14 (h9.later ht14.1) (by have := ht14.2.2; omega) (fun hz => absurd hz ht14.2.1)
    · refine hj2 t9 h9 hI (fun hz => ⟨by have hx : t9.Deep = s.Deep + 1 := i5 hz; omega, ?_⟩)
      simp only [Bool.and_eq_false_iff, decide_eq_false_iff_not, Bool.not_eq_false', decide_eq_true_eq] at hk1
      rcases hk1 with hk1 | hk1
      · exact absurd hz hk1
      · exact hk1
theorem pred_fail (h : Inv L s) (p : ApiPred) : Sat (Option.bind (p12_fail.f s 120) fun t1 => some (t1, p)) (PostP L s) :=
  Sat.bind (fail_sat h (by omega)) fun t ht => Sat.some ⟨ht.1, fun hz => absurd hz ht.2.1⟩
theorem pred_step (hL : WordsOk L) (h : Inv L s) (Pf : PF) (K : Nat) (hK : 2000 < K) (hP : ∀ t, Inv L t → t.E = 0 → s.Deep < t.Deep → Sat (Pf t) (PostP L t)) : Sat (p12_pred.b Pf K s) (PostP L s) := by
  unfold p12_pred.b
  rw [h.words]
  refine Sat.chk (fun _ => ⟨h.lo, h.hi⟩) ?_
  refine Sat.ite (fun _ => pred_fail h _) (fun hk => ?_)
  simp only [Bool.or_eq_false_iff, Bool.not_eq_false', decide_eq_true_eq] at hk
  obtain ⟨he, hk1⟩ := hk
  refine Sat.chk ⟨h.lo, h.hi⟩ ?_
  refine Sat.bind (preds_sat K (by omega) _) fun r hr => ?_
  refine Sat.ite (fun _ => pred_fail h _) (fun hr2 => ?_)
  refine Sat.chk ⟨h.lo, h.hi⟩ ?_
  obtain ⟨e, ha⟩ := step_inv hL h (by show (wordAt L s.I).Kind ≠ 0; rw [hk1]; omega)
  rw [e]
  rw [h.words] at ha
  refine Sat.bind (sign_sat hL ha.inv [40]) fun t4 ht4 => ?_
  refine Sat.bind (into_sat ht4.1.inv) fun t5 ht5 => ?_
  obtain ⟨i1, i2, i3, i4, i5, i6, i7⟩ := ht5
  refine Sat.bind (values_knot hL t5 [41] K i1 (by omega)) fun t6 ht6 => ?_
  obtain ⟨a6, b6⟩ := ht6
  refine Sat.ite (fun _ => pred_fail h _) (fun _ => ?_)
  have on4 : s.I + 1 ≤ t4.I := ht4.1.on
  have st4 : s.Steps ≤ t4.Steps := ht4.1.steps
  have on6 := a6.on
  have st6 := a6.steps
  refine pred_l1 hL Pf K s h hP K _ _ ⟨⟨a6.inv.words, a6.inv.lo, a6.inv.hi, h.deep0, h.deep1, a6.inv.steps0, a6.inv.steps1⟩, he, by show s.I ≤ t6.1.I; omega, Int.le_refl _, by show s.Steps ≤ t6.1.Steps; omega, fun hz => ?_⟩ (by have := hL.len; have : 0 ≤ t6.1.I := a6.inv.lo; show (L.length : Int) - t6.1.I < K; omega)
  show s.I < t6.1.I
  omega
theorem pred_knot (hL : WordsOk L) : ∀ (m : Nat) (s : St12) (K : Nat), Inv L s → 12 - s.Deep ≤ (m : Int) → m + 2001 < K → Sat (p12_pred.f K s) (PostP L s) := by
  intro m
  induction m with
  | zero =>
    intro s K h hd hK
    obtain ⟨K, rfl⟩ : ∃ K', K = K' + 1 := ⟨K - 1, by omega⟩
    rw [p12_pred.f]
    exact pred_step hL h _ K (by omega) fun t ht _ hdt => by have := ht.deep1; omega
  | succ m ih =>
    intro s K h hd hK
    obtain ⟨K, rfl⟩ : ∃ K', K = K' + 1 := ⟨K - 1, by omega⟩
    rw [p12_pred.f]
    exact pred_step hL h _ K (by omega) fun t ht _ hdt => ih t K ht (by omega) (by omega)
/-- An argument that took so many words. -/
def AOk (n : Int) (a : ApiArg) : Prop := (wV a.V : Int) ≤ n ∧ a.V.S.length ≤ 500 ∧ 3 * (nS a.T : Int) ≤ n ∧ (a.Kind = 3 → a.T ≠ []) ∧ a.T.length ≤ 150 ∧ GS a.T
theorem AOk.ga {n : Int} {a : ApiArg} (h : AOk n a) (hn : n ≤ 1501) : GA [a] := by
  obtain ⟨h1, h1', h2, h3, h4, h5⟩ := h
  cases a
  simp only [GA, GA1]
  exact ⟨⟨by dsimp only at h1; omega, h1', h3, h4, h5⟩, trivial⟩
def PostA (L : List ApiWord) (s : St12) (r : St12 × ApiArg) : Prop := Adv L s r.1 ∧ (r.1.E = 0 → s.I < r.1.I ∧ AOk (r.1.I - s.I) r.2)
def PostS (L : List ApiWord) (s : St12) (r : St12 × List ApiStep) : Prop := Adv L s r.1 ∧ (r.1.E = 0 → r.2 ≠ [] ∧ r.2.length ≤ 150 ∧ GS r.2 ∧ 3 * (nS r.2 : Int) ≤ r.1.I - s.I)
abbrev SF := St12 → Option (St12 × List ApiStep)
abbrev AF := St12 → Option (St12 × ApiArg)
theorem aok_plain {n : Int} {k : Int} {v : ApiValue} {p : ApiPred} (hv : (wV v : Int) ≤ n) (hvs : v.S.length ≤ 500) (hk : k ≠ 3) : AOk n ⟨k, v, p, []⟩ := by
  have h0 : (1 : Int) ≤ wV v := by rw [wV_eq]; omega
  refine ⟨hv, hvs, ?_, fun h => absurd h hk, by simp, ?_⟩
  · show 3 * (nS [] : Int) ≤ n
    rw [nS]; omega
  · show GS []
    simp [GS]
theorem arg_j2 {t : St12} (hs : Inv L s) (ht : Inv L t) (hon : s.I ≤ t.I) (hst : s.Steps ≤ t.Steps) (he : s.E = 0) (Sf : SF) (Af : AF) (K : Nat)
    (hS : Sat (Sf t) (PostS L t)) : Sat (p12_arg.j2 Sf Af K t s.Deep) (PostA L s) := by
  unfold p12_arg.j2
  refine Sat.bind hS fun r hr => ?_
  obtain ⟨a, b⟩ := hr
  have o := a.on
  have st := a.steps
  refine Sat.some ⟨⟨⟨a.inv.words, a.inv.lo, a.inv.hi, hs.deep0, hs.deep1, a.inv.steps0, a.inv.steps1⟩, by show s.I ≤ r.1.I; omega, rfl, by show s.Steps ≤ r.1.Steps; omega, fun hb => absurd he hb⟩, fun hz => ?_⟩
  obtain ⟨b1, b2, b3, b4⟩ := b hz
  have b5 := nS_pos r.2 b1
  refine ⟨by show s.I < r.1.I; omega, ?_, Nat.zero_le _, ?_, fun _ => b1, b2, b3⟩
  · show (wV ⟨0, false, 0, 0, [], []⟩ : Int) ≤ r.1.I - s.I
    simp only [wV, wL]; omega
  · show 3 * (nS r.2 : Int) ≤ r.1.I - s.I
    omega
theorem arg_j1 (hL : WordsOk L) (hs : Inv L s) (he : s.E = 0) (Sf : SF) (Af : AF) (K : Nat)
    (hS : ∀ t, Inv L t → (t.E ≠ 0 ∨ t.Deep = s.Deep + 1) → Sat (Sf t) (PostS L t)) : Sat (p12_arg.j1 Sf Af K (wordAt L s.I) s) (PostA L s) := by
  unfold p12_arg.j1
  refine Sat.bind (into_sat hs) fun t2 ht2 => ?_
  obtain ⟨i1, i2, i3, i4, i5, i6, i7⟩ := ht2
  refine Sat.ite (fun hc => ?_) (fun _ => ?_)
  · simp only [Bool.and_eq_true, decide_eq_true_eq] at hc
    obtain ⟨e, ha⟩ := step_inv hL i1 (by rw [i2, hc.1.2]; omega)
    rw [e]
    refine Sat.bind (sign_sat hL ha.inv [46]) fun t4 ht4 => ?_
    have o4 : t2.I + 1 ≤ t4.I := ht4.1.on
    have s4 : t2.Steps ≤ t4.Steps := ht4.1.steps
    have d4 : t4.Deep = t2.Deep := ht4.1.deep
    exact arg_j2 hs ht4.1.inv (by omega) (by omega) he Sf Af K (hS t4 ht4.1.inv (.inr (by rw [d4]; exact i5 hc.1.1)))
  · refine arg_j2 hs i1 (by omega) (by omega) he Sf Af K (hS t2 i1 ?_)
    by_cases hz : t2.E = 0
    · exact .inr (i5 hz)
    · exact .inl hz
theorem arg_step (hL : WordsOk L) (h : Inv L s) (Sf : SF) (Af : AF) (K : Nat) (hK : 3000 < K)
    (hS : ∀ t, Inv L t → (t.E ≠ 0 ∨ t.Deep = s.Deep + 1) → Sat (Sf t) (PostS L t)) : Sat (p12_arg.b Sf Af K s) (PostA L s) := by
  unfold p12_arg.b
  refine Sat.bind (value_knot hL 12 s K h (by have := h.deep0; omega) (by omega)) fun r hr => ?_
  obtain ⟨p1, p2, p3, p4⟩ := hr
  refine Sat.ite (fun hc => Sat.some ⟨p1, fun hz => ?_⟩) (fun hc => ?_)
  · have hok : r.2.2 = true := by
      simp only [Bool.or_eq_true, Bool.not_eq_true', decide_eq_false_iff_not] at hc
      rcases hc with hc | hc
      · exact hc
      · exact absurd hz hc
    obtain ⟨q1, q2, q3, q4⟩ := p3 hok
    exact ⟨q2, aok_plain q3 q4 (by decide)⟩
  simp only [Bool.or_eq_false_iff, Bool.not_eq_false', decide_eq_true_eq] at hc
  have hs0 : r.1 = s := p4 hc.2 hc.1
  have he : s.E = 0 := by rw [← hs0]; exact hc.2
  rw [h.words]
  refine Sat.chk ⟨h.lo, h.hi⟩ ?_
  refine Sat.ite (fun hk => ?_) (fun _ => arg_j1 hL h he Sf Af K hS)
  have hk1 : (wordAt L s.I).Kind = 1 := by simpa using hk
  obtain ⟨e, ha⟩ := step_inv hL h (by rw [hk1]; omega)
  have hl := hL.last s.I h.lo h.hi (by rw [hk1]; omega)
  have hlo := h.lo
  rw [e]
  refine Sat.chk ⟨by omega, hl⟩ ?_
  refine Sat.bind (preds_sat K (by omega) _) fun q hq => ?_
  have w1 : ∀ (k : Int) (S : List UInt8), (wV ⟨k, false, 0, 0, S, []⟩ : Int) = 1 := fun k S => by simp [wV, wL]
  refine Sat.ite (fun _ => ?_) (fun _ => ?_)
  · refine Sat.bind (pred_knot hL 12 s K h (by have := h.deep0; omega) (by omega)) fun u hu => ?_
    refine Sat.some ⟨hu.1, fun hz => ?_⟩
    have h1 := hu.2 hz
    exact ⟨h1, aok_plain (by rw [w1]; dsimp only; omega) (Nat.zero_le _) (by decide)⟩
  · refine Sat.ite (fun _ => ?_) (fun _ => arg_j1 hL h he Sf Af K hS)
    rw [h.words] at ha
    exact Sat.some ⟨ha, fun hz => ⟨by show s.I < s.I + 1; omega, aok_plain (by rw [w1]; dsimp only; omega) (hL.word s.I h.lo h.hi) (by decide)⟩⟩
/-- Steps that were taken so far. -/
def InS (s0 s : St12) (l : List ApiStep) : Prop := s.E = 0 → GS l ∧ 3 * (nS l : Int) ≤ s.I - s0.I
theorem steps_end (hL : WordsOk L) {Sf : SF} {Af : AF} {K : Nat} {s0 : St12} {G : List ApiStep → St12 → Option (St12 × List ApiStep)} {q : Int} {l3 : List ApiStep} (h3 : (l3.length : Int) + 1 ≤ q) (hq : q ≤ 150)
    (hG : ∀ l s, Adv L s0 s → (l.length : Int) ≤ q → q ≤ s.Steps → InS s0 s l → Sat (G l s) (PostS L s0)) (h30 : GS l3) {l5 : List ApiArg} {nm : List UInt8} (ha : Adv L s0 s) (hqs : q ≤ s.Steps) (hl : l5.length ≤ 12) (hA : s.E = 0 → GA l5 ∧ 3 * (nS l3 : Int) + 2 + 3 * (nA l5 : Int) ≤ s.I - s0.I) :
    Sat (Option.bind (p12_sign.f s ([41] : List UInt8)) fun t8 => (if ((List.length l3 + List.length ([(⟨nm, l5⟩ : ApiStep)] : List ApiStep)) * 40 ≤ 140737488355328 ∧ List.length l3 + List.length ([(⟨nm, l5⟩ : ApiStep)] : List ApiStep) ≤ 140737488355328) then (Option.bind (p12_is.f t8 ([46] : List UInt8)) fun t9 => (if (!t9) = true then p12_steps.j1 Sf Af K (l3 ++ ([(⟨nm, l5⟩ : ApiStep)] : List ApiStep)) t8 else G (l3 ++ ([(⟨nm, l5⟩ : ApiStep)] : List ApiStep)) (⟨t8.L, (IntKind.wrap .i64 (t8.I + 1)), t8.Deep, t8.Steps, t8.At, t8.E⟩ : St12))) else none)) (PostS L s0) := by
  have h := ha.inv
  refine Sat.bind (sign_sat hL h [41]) fun t8 ht8 => ?_
  refine Sat.chk (by simp only [List.length_cons, List.length_nil]; omega) ?_
  have a8 := ha.trans ht8.1
  have st8 := ht8.1.steps
  have hso : InS s0 t8 (l3 ++ [(⟨nm, l5⟩ : ApiStep)]) := by
    intro hz
    obtain ⟨g1, g2⟩ := hA (ht8.1.good hz)
    have i8 := ht8.2.2 hz
    refine ⟨GS_append _ _ h30 (by simp only [GS, GS1]; exact ⟨⟨hl, g1⟩, trivial⟩), ?_⟩
    rw [nS_append, nS_one]
    omega
  refine Sat.bindE (is_eq a8.inv [46]) ?_
  refine Sat.ite (fun _ => ?_) (fun hi => ?_)
  · unfold p12_steps.j1
    exact Sat.some ⟨a8, fun hz => ⟨by simp, by simp only [List.length_append, List.length_cons, List.length_nil]; omega, (hso hz).1, (hso hz).2⟩⟩
  · simp only [Bool.not_eq_false', Bool.and_eq_true, decide_eq_true_eq] at hi
    obtain ⟨e, hb⟩ := step_inv hL a8.inv (by rw [hi.1.2]; omega)
    rw [e]
    refine hG _ _ (a8.trans hb) (by simp only [List.length_append, List.length_cons, List.length_nil]; omega) (by show q ≤ t8.Steps; omega) (fun hz => ?_)
    obtain ⟨x1, x2⟩ := hso hz
    exact ⟨x1, by show 3 * (nS (l3 ++ [(⟨nm, l5⟩ : ApiStep)]) : Int) ≤ t8.I + 1 - s0.I; omega⟩
/-- The arguments of a step. -/
theorem steps_l2 (hL : WordsOk L) (Sf : SF) (Af : AF) (K : Nat) (s0 : St12) (G : List ApiStep → St12 → Option (St12 × List ApiStep)) (q : Int) (l3 : List ApiStep) (h3 : (l3.length : Int) + 1 ≤ q) (hq : q ≤ 150)
    (hAf : ∀ t, Inv L t → t.E = 0 → t.Deep = s0.Deep → Sat (Af t) (PostA L t))
    (hG : ∀ l s, Adv L s0 s → (l.length : Int) ≤ q → q ≤ s.Steps → InS s0 s l → Sat (G l s) (PostS L s0)) (h30 : GS l3) :
    ∀ (k : Nat) (l5 : List ApiArg) (nm : List UInt8) (s : St12), Adv L s0 s → q ≤ s.Steps → l5.length ≤ 12 → (s.E = 0 → GA l5 ∧ 3 * (nS l3 : Int) + 2 + 3 * (nA l5 : Int) ≤ s.I - s0.I) → 1 ≤ k → (s.E = 0 → 14 ≤ l5.length + k) →
      Sat (p12_steps.l2 Sf Af G K l3 k l5 nm s) (PostS L s0) := by
  intro k
  induction k with
  | zero => intro l5 nm s ha hqs hl hA hk1 hk; omega
  | succ k ih =>
    intro l5 nm s ha hqs hl hA hk1 hk
    have h := ha.inv
    rw [p12_steps.l2]
    by_cases he : s.E = 0
    · rw [if_pos (by simpa using he)]
      refine Sat.bindE (is_eq h [41]) ?_
      refine Sat.ite (fun _ => ?_) (fun _ => steps_end hL h3 hq hG h30 ha hqs hl hA)
      have hkk := hk he
      have hj3 : ∀ s1, Adv L s s1 → (s1.E = 0 → l5.length < 12) → Sat (p12_steps.j3 Sf Af G (p12_steps.l2 Sf Af G K l3 k) K l3 l5 nm s1) (PostS L s0) := by
        intro s1 a1' l1
        have a1 := ha.trans a1'
        have st1 := a1'.steps
        have on1 := a1'.on
        unfold p12_steps.j3
        refine Sat.ite (fun hz => ?_) (fun hz => ?_)
        · have hz' : s1.E = 0 := by simpa using hz
          have hll := l1 hz'
          refine Sat.bind (hAf s1 a1.inv hz' a1.deep) fun r hr => ?_
          refine Sat.chk (by simp only [List.length_cons, List.length_nil]; omega) ?_
          have st2 := hr.1.steps
          refine ih _ _ _ (a1.trans hr.1) (by omega) (by simp; omega) (fun hz2 => ?_) (by omega) (fun _ => by simp only [List.length_append, List.length_cons, List.length_nil]; omega)
          obtain ⟨g1, g2⟩ := hA he
          obtain ⟨r1, r2⟩ := hr.2 hz2
          have x1 := r2.2.2.1
          have x2 := hr.1.inv.hi
          have x3 := hL.len
          have x4 := a1.inv.lo
          refine ⟨GA_append _ _ g1 (r2.ga (by omega)), ?_⟩
          rw [nA_append, nA_one]
          omega
        · have hz' : s1.E ≠ 0 := by simpa using hz
          exact ih _ _ _ a1 (by omega) hl (fun hb => absurd hb hz') (by omega) (fun hb => absurd hb hz')
      have hj2 : ∀ s1, Adv L s s1 → Sat (p12_steps.j2 Sf Af G (p12_steps.l2 Sf Af G K l3 k) K l3 l5 nm s1) (PostS L s0) := by
        intro s1 a1
        unfold p12_steps.j2
        refine Sat.ite (fun _ => ?_) (fun hm => ?_)
        · refine Sat.bind (fail_sat a1.inv (by omega)) fun t6 ht6 => hj3 t6 (a1.trans ht6.1) (fun hz => absurd hz ht6.2.1)
        · exact hj3 s1 a1 (fun _ => by simp at hm; omega)
      refine Sat.ite (fun _ => ?_) (fun _ => hj2 s (Adv.refl h))
      exact Sat.bind (sign_sat hL h [44]) fun t7 ht7 => hj2 t7 ht7.1
    · rw [if_neg (by simpa using he)]
      refine Sat.bindE rfl ?_
      rw [decide_eq_false he, Bool.false_and, if_neg (by simp)]
      exact steps_end hL h3 hq hG h30 ha hqs hl hA
theorem steps_l1 (hL : WordsOk L) (Sf : SF) (Af : AF) (K : Nat) (hK : 200 < K) (s0 : St12)
    (hAf : ∀ t, Inv L t → t.E = 0 → t.Deep = s0.Deep → Sat (Af t) (PostA L t)) :
    ∀ (k : Nat) (l3 : List ApiStep) (s : St12), Adv L s0 s → (l3.length : Int) ≤ s.Steps → InS s0 s l3 → 152 ≤ s.Steps + k → Sat (p12_steps.l1 Sf Af K k l3 s) (PostS L s0) := by
  intro k
  induction k with
  | zero => intro l3 s ha hl hso hk; have := ha.inv.steps1; omega
  | succ k ih =>
    intro l3 s ha hl hso hk
    have h := ha.inv
    have hs1 := h.steps1
    have hs0 := h.steps0
    rw [p12_steps.l1]
    refine Sat.ite (fun he => ?_) (fun he => ?_)
    · have he' : s.E = 0 := by simpa using he
      refine Sat.ite (fun _ => ?_) (fun hm => ?_)
      · exact Sat.bind (fail_sat h (by omega)) fun t ht => Sat.some ⟨ha.trans ht.1, fun hz => absurd hz ht.2.1⟩
      · have hm' : s.Steps < 150 := by simp at hm; omega
        rw [h.words]
        refine Sat.chk ⟨h.lo, h.hi⟩ ?_
        rw [W_in (x := s.Steps + 1) (by omega) (by omega)]
        have hi1 : Inv L (⟨L, s.I, s.Deep, s.Steps + 1, s.At, s.E⟩ : St12) := ⟨rfl, h.lo, h.hi, h.deep0, h.deep1, by show 0 ≤ s.Steps + 1; omega, by show s.Steps + 1 ≤ 150; omega⟩
        have a1 : Adv L s (⟨L, s.I, s.Deep, s.Steps + 1, s.At, s.E⟩ : St12) := ⟨hi1, Int.le_refl _, rfl, by show s.Steps ≤ s.Steps + 1; omega, id⟩
        refine Sat.ite (fun _ => ?_) (fun hk1 => ?_)
        · exact Sat.bind (fail_sat hi1 (by omega)) fun t ht => Sat.some ⟨(ha.trans a1).trans ht.1, fun hz => absurd hz ht.2.1⟩
        · refine Sat.chk ⟨h.lo, h.hi⟩ ?_
          have hk1' : (wordAt L s.I).Kind = 1 := by simpa using hk1
          obtain ⟨e, hb⟩ := step_inv hL hi1 (by show (wordAt L s.I).Kind ≠ 0; rw [hk1']; omega)
          have e' : IntKind.wrap .i64 (s.I + 1) = s.I + 1 := e
          rw [e']
          refine Sat.bind (sign_sat hL hb.inv [40]) fun t3 ht3 => ?_
          have a3 := ((ha.trans a1).trans hb).trans ht3.1
          have st3 : s.Steps + 1 ≤ t3.Steps := ht3.1.steps
          refine steps_l2 hL Sf Af K s0 _ (s.Steps + 1) l3 (by omega) (by omega) hAf (fun l s' a' hl' hq' hs' => ih l s' a' (by omega) hs' (by omega)) (hso he').1 K [] _ t3 a3 st3 (by simp) (fun hz => ?_) (by omega) (fun _ => by omega)
          have x1 := (hso he').2
          have x2 : t3.I = s.I + 1 + 1 := ht3.2.2 hz
          refine ⟨by simp [GA], ?_⟩
          rw [nA]
          omega
    · have he' : s.E ≠ 0 := by simpa using he
      unfold p12_steps.j1
      exact Sat.some ⟨ha, fun hz => absurd hz he'⟩
theorem steps_bad (h : Inv L s) (he : s.E ≠ 0) (K : Nat) (hK : 2 < K) : Sat (p12_steps.f K s) (PostS L s) := by
  obtain ⟨K, rfl⟩ : ∃ K', K = K' + 1 + 1 := ⟨K - 2, by omega⟩
  rw [p12_steps.f, p12_steps.b, p12_steps.l1, if_neg (by simpa using he), p12_steps.j1]
  exact Sat.some ⟨Adv.refl h, fun hz => absurd hz he⟩
theorem steps_knot (hL : WordsOk L) : ∀ (m : Nat) (s : St12) (K : Nat), Inv L s → 12 - s.Deep ≤ (m : Int) → 2 * m + 3100 < K → Sat (p12_steps.f K s) (PostS L s) := by
  have key : ∀ (s : St12) (K : Nat), Inv L s → 3050 < K → (∀ t, Inv L t → t.Deep = s.Deep + 1 → Sat (p12_steps.f K t) (PostS L t)) → Sat (p12_steps.f (K + 2) s) (PostS L s) := by
    intro s K h hK hS
    rw [p12_steps.f, p12_steps.b]
    have hl0 : (([] : List ApiStep).length : Int) ≤ s.Steps := by have := h.steps0; simpa using this
    refine steps_l1 hL _ _ (K + 1) (by omega) s (fun t ht hz hd => ?_) (K + 1) [] s (Adv.refl h) hl0 (fun _ => ⟨by simp [GS], by simp [nS]⟩) (by have := h.steps0; omega)
    rw [p12_arg.f]
    refine arg_step hL ht _ _ K (by omega) fun u hu hb => ?_
    by_cases hz : u.E = 0
    · exact hS u hu (by rcases hb with hb | hb; exact absurd hz hb; rw [hb, hd])
    · exact steps_bad hu hz K (by omega)
  intro m
  induction m with
  | zero =>
    intro s K h hd hK
    obtain ⟨K, rfl⟩ : ∃ K', K = K' + 2 := ⟨K - 2, by omega⟩
    exact key s K h (by omega) fun t ht hdt => by have := ht.deep1; omega
  | succ m ih =>
    intro s K h hd hK
    obtain ⟨K, rfl⟩ : ∃ K', K = K' + 2 := ⟨K - 2, by omega⟩
    exact key s K h (by omega) fun t ht hdt => ih t K ht (by omega) (by omega)
end
/-- The steps of a text, if it is one. -/
def Prs (l : List ApiStep) : Prop := l ≠ [] ∧ l.length ≤ 150 ∧ GS l ∧ nS l ≤ 500
theorem parse_j1 (K : Nat) (y : St12) (l : List ApiStep) (h : y.E = 0 → Prs l) : Sat (r12_Parse.j1 K y l) (fun r => r.2.2 = 0 → Prs r.1) := by
  unfold r12_Parse.j1
  refine Sat.ite (fun he => Sat.some fun hz => ?_) (fun he => Sat.some fun _ => h (by simpa using he))
  have : ¬ y.E = 0 := by simpa using he
  exact absurd hz this
theorem parse_sat (K : Nat) (hK : 5000 < K) (s : List UInt8) : Sat (r12_Parse.f K s) (fun r => r.2.2 = 0 → Prs r.1) := by
  unfold r12_Parse.f
  refine Sat.bind (words_sat K hK s) fun t ht => ?_
  refine Sat.ite (fun he => Sat.some fun hz => ?_) (fun he => ?_)
  · have : ¬ t.2.2 = 0 := by simpa using he
    exact absurd hz this
  · have he' : t.2.2 = 0 := by simpa using he
    have hL := ht he'
    have h0 := hL.pos
    refine Sat.chk ⟨by omega, h0⟩ ?_
    refine Sat.chk (fun _ => ⟨by omega, h0⟩) ?_
    refine Sat.ite (fun _ => ?_) (fun hg => ?_)
    · refine Sat.chk ⟨by omega, h0⟩ ?_
      exact Sat.some fun hz => absurd hz (show ¬ (120 : Int) = 0 by decide)
    · simp only [Bool.or_eq_false_iff, Bool.not_eq_false', decide_eq_true_eq] at hg
      have hl := hL.last 0 (by omega) h0 (by show (List.getD t.1 (Int.toNat 0) default).Kind ≠ 0; rw [hg.1]; omega)
      have hi : Inv t.1 (⟨t.1, 1, 0, 0, 0, 0⟩ : St12) := ⟨rfl, by show (0 : Int) ≤ 1; omega, by show (1 : Int) < t.1.length; omega, by show (0 : Int) ≤ 0; omega, by show (0 : Int) ≤ 12; omega, by show (0 : Int) ≤ 0; omega, by show (0 : Int) ≤ 150; omega⟩
      refine Sat.bind (sign_sat hL hi [46]) fun t2 ht2 => ?_
      refine Sat.bind (steps_knot hL 12 t2 K ht2.1.inv (by have := ht2.1.inv.deep0; omega) (by omega)) fun t3 ht3 => ?_
      have i3 := ht3.1.inv
      rw [i3.words]
      have hp : t3.1.E = 0 → Prs t3.2 := fun hz => by
        obtain ⟨x1, x2, x3, x4⟩ := ht3.2 hz
        have y1 := i3.hi
        have y2 := hL.len
        have y3 := ht2.1.inv.lo
        exact ⟨x1, x2, x3, by omega⟩
      refine Sat.chk (fun _ => ⟨i3.lo, i3.hi⟩) ?_
      refine Sat.ite (fun _ => ?_) (fun _ => parse_j1 K _ _ hp)
      exact Sat.bind (fail_sat i3 (by omega)) fun t4 ht4 => parse_j1 K _ _ fun hz => absurd hz ht4.2.1
end Go.Proofs.Ytbjbgodcenopnaa

/- Plain law of the document's parser: it is total, and what it hands back is well-formed and no longer than the words that were taken. -/
import Derived.Test.YtfmabehmohbahaaPurePred
namespace Go.Proofs.Ytfmabehmohbahaa
set_option linter.unusedVariables false
set_option maxHeartbeats 1000000
abbrev St12 := Offshootref12State
abbrev wordAt (L : List ApiWord) (i : Int) : ApiWord := List.getD L i.toNat default
/-- Words as the document's lexer hands them out: the last one is an end, and there is no other. -/
structure WordsOk (L : List ApiWord) : Prop where
  len : (L.length : Int) ≤ 1501
  last : ∀ i : Int, 0 ≤ i → i < (L.length : Int) → (wordAt L i).Kind ≠ 0 → i + 1 < (L.length : Int)
  word : ∀ i : Int, 0 ≤ i → i < (L.length : Int) → In64 (wordAt L i).N ∧ (wordAt L i).F < 18446744073709551616 ∧ (wordAt L i).S.length ≤ 500
structure Inv (L : List ApiWord) (s : St12) : Prop where
  words : s.L = L
  lo : 0 ≤ s.I
  hi : s.I < (L.length : Int)
  deep0 : 0 ≤ s.Deep
  deep1 : s.Deep ≤ 12
  steps0 : 0 ≤ s.Steps
  steps1 : s.Steps ≤ 150
/-- From a state to a later one. -/
structure Adv (L : List ApiWord) (s s' : St12) : Prop where
  inv : Inv L s'
  on : s.I ≤ s'.I
  deep : s'.Deep = s.Deep
  steps : s.Steps ≤ s'.Steps
  bad : s.E ≠ 0 → s'.E ≠ 0
section
variable {L : List ApiWord} {s s' s'' : St12}
theorem Adv.refl (h : Inv L s) : Adv L s s := ⟨h, Int.le_refl _, rfl, Int.le_refl _, id⟩
theorem Adv.trans (h : Adv L s s') (h' : Adv L s' s'') : Adv L s s'' := ⟨h'.inv, Int.le_trans h.on h'.on, h'.deep.trans h.deep, Int.le_trans h.steps h'.steps, fun hb => h'.bad (h.bad hb)⟩
theorem is_eq (h : Inv L s) (sg : List UInt8) : offshootref12_State_is.f s sg = some ((decide (s.E = 0) && decide ((wordAt L s.I).Kind = 5)) && decide ((wordAt L s.I).S = sg)) := by
  unfold offshootref12_State_is.f
  rw [h.words, if_pos (fun _ => ⟨h.lo, h.hi⟩), if_pos (fun _ => ⟨h.lo, h.hi⟩)]
theorem fail_eq (h : Inv L s) (e : Int) : offshootref12_State_fail.f s e = some (if s.E = 0 then ⟨L, s.I, s.Deep, s.Steps, (wordAt L s.I).At, e⟩ else s) := by
  unfold offshootref12_State_fail.f offshootref12_State_fail.j1
  rw [h.words]
  by_cases he : s.E = 0
  · rw [if_pos (by simpa using he), if_pos ⟨h.lo, h.hi⟩, if_pos he]
  · rw [if_neg (by simpa using he), if_neg he]
theorem fail_sat (h : Inv L s) {e : Int} (he : e ≠ 0) : Sat (offshootref12_State_fail.f s e) fun s' => Adv L s s' ∧ s'.E ≠ 0 ∧ s'.I = s.I := by
  refine Sat.eq (fail_eq h e) ?_
  by_cases hz : s.E = 0
  · rw [if_pos hz]
    exact ⟨⟨⟨rfl, h.lo, h.hi, h.deep0, h.deep1, h.steps0, h.steps1⟩, Int.le_refl _, rfl, Int.le_refl _, fun hb => absurd hz hb⟩, he, rfl⟩
  · rw [if_neg hz]
    exact ⟨Adv.refl h, hz, rfl⟩
/-- The state at the next word. -/
theorem step_inv (hL : WordsOk L) (h : Inv L s) (hk : (wordAt L s.I).Kind ≠ 0) : IntKind.wrap .i64 (s.I + 1) = s.I + 1 ∧ Adv L s ⟨s.L, s.I + 1, s.Deep, s.Steps, s.At, s.E⟩ := by
  have h1 := hL.last s.I h.lo h.hi hk
  have h2 := hL.len
  have h3 := h.lo
  exact ⟨W_in (by omega) (by omega), ⟨⟨h.words, by show 0 ≤ s.I + 1; omega, h1, h.deep0, h.deep1, h.steps0, h.steps1⟩, by show s.I ≤ s.I + 1; omega, rfl, Int.le_refl _, id⟩⟩
theorem sign_sat (hL : WordsOk L) (h : Inv L s) (sg : List UInt8) : Sat (offshootref12_State_sign.f s sg) fun s' => Adv L s s' ∧ (s.E ≠ 0 → s' = s) ∧ (s'.E = 0 → s'.I = s.I + 1) := by
  unfold offshootref12_State_sign.f
  refine Sat.ite (fun he => ?_) (fun he => ?_)
  · have he' : s.E ≠ 0 := by simpa using he
    exact Sat.some ⟨Adv.refl h, fun _ => rfl, fun hz => absurd hz he'⟩
  · have he' : s.E = 0 := by simpa using he
    refine Sat.bindE (is_eq h sg) ?_
    refine Sat.ite (fun _ => ?_) (fun hi => ?_)
    · refine Sat.bind (fail_sat h (by omega)) fun s' hs' => Sat.some ⟨hs'.1, fun hb => absurd he' hb, fun hz => absurd hz hs'.2.1⟩
    · have hk : (wordAt L s.I).Kind ≠ 0 := by
        simp only [Bool.not_eq_false', Bool.and_eq_true, decide_eq_true_eq] at hi
        rw [hi.1.2]; omega
      obtain ⟨e, ha⟩ := step_inv hL h hk
      rw [e]
      exact Sat.some ⟨ha, fun hb => absurd he' hb, fun _ => rfl⟩
theorem into_sat (h : Inv L s) : Sat (offshootref12_State_into.f s) fun s' => Inv L s' ∧ s'.I = s.I ∧ s'.Steps = s.Steps ∧ (s.E ≠ 0 → s' = s) ∧ (s'.E = 0 → s'.Deep = s.Deep + 1) ∧ (s.E ≠ 0 → s'.E ≠ 0) ∧ s.Deep ≤ s'.Deep := by
  unfold offshootref12_State_into.f
  refine Sat.ite (fun he => ?_) (fun he => ?_)
  · have he' : s.E ≠ 0 := by simpa using he
    exact Sat.some ⟨h, rfl, rfl, fun _ => rfl, fun hz => absurd hz he', id, Int.le_refl _⟩
  · have he' : s.E = 0 := by simpa using he
    refine Sat.ite (fun _ => ?_) (fun hd => ?_)
    · refine Sat.bindE (fail_eq h 3) ?_
      rw [if_pos he']
      exact Sat.some ⟨⟨rfl, h.lo, h.hi, h.deep0, h.deep1, h.steps0, h.steps1⟩, rfl, rfl, fun hb => absurd he' hb, (fun hz => absurd hz (show ¬ (3 : Int) = 0 by decide)), (fun hb => absurd he' hb), Int.le_refl _⟩
    · simp only [decide_eq_false_iff_not] at hd
      have h1 := h.deep0
      have h2 := h.deep1
      rw [W_in (by omega) (by omega)]
      exact Sat.some ⟨⟨h.words, h.lo, h.hi, by show 0 ≤ s.Deep + 1; omega, by show s.Deep + 1 ≤ 12; omega, h.steps0, h.steps1⟩, rfl, rfl, fun hb => absurd he' hb, fun _ => rfl, (fun hb => absurd he' hb), by show s.Deep ≤ s.Deep + 1; omega⟩
/-- A value that took some words. -/
def VOk (n : Int) (v : ApiValue) : Prop := ValW v ∧ ((valT v).length : Int) ≤ 2100 * n
/-- What a way of taking a value promises. -/
def PostV (L : List ApiWord) (s : St12) (r : St12 × ApiValue × Bool) : Prop :=
  Adv L s r.1 ∧ (s.E ≠ 0 → r.1 = s ∧ r.2.2 = false) ∧ (r.2.2 = true → r.1.E = 0 ∧ s.I < r.1.I ∧ VOk (r.1.I - s.I) r.2.1) ∧ (r.1.E = 0 → r.2.2 = false → r.1 = s)
def PostVs (L : List ApiWord) (s : St12) (r : St12 × List ApiValue) : Prop :=
  Adv L s r.1 ∧ (r.1.E = 0 → s.I < r.1.I ∧ ValsW r.2 ∧ ((commas (valsT r.2)).length : Int) ≤ 2100 * (r.1.I - s.I) - 2)
theorem escL_le (s : List UInt8) : (escL s).length ≤ 4 * s.length := escL_len s
theorem valsW_append : ∀ (a b : List ApiValue), ValsW a → ValsW b → ValsW (a ++ b)
  | [], b, _, hb => hb
  | x :: r, b, ha, hb => by
    simp only [ValsW] at ha
    rw [List.cons_append]
    simp only [ValsW]
    exact ⟨ha.1, valsW_append r b ha.2 hb⟩
theorem commas_snoc : ∀ (l : List (List UInt8)) (x : List UInt8), (commas (l ++ [x])).length ≤ (commas l).length + 2 + x.length
  | [], x => by simp [commas]
  | [y], x => by simp [commas]; omega
  | y :: z :: r, x => by
    have := commas_snoc (z :: r) x
    rw [List.cons_append, List.cons_append, commas_cons, commas_cons]
    rw [List.cons_append] at this
    simp only [List.length_append, List.length_cons, List.length_nil] at this ⊢
    omega
theorem valT_int (n : Int) : valT ⟨2, false, n, 0, [], []⟩ = numS n := by rw [valT]; simp
theorem valT_str (s : List UInt8) : ((valT ⟨4, false, 0, 0, s, []⟩).length : Int) = (escL s).length + 2 := by rw [valT]; simp [textT]; omega
theorem atom_post (hL : WordsOk L) (h : Inv L s) (he : s.E = 0) (hk : (wordAt L s.I).Kind ≠ 0) (v : ApiValue) (hv : VOk 1 v) (V : St12 → Option (St12 × ApiValue × Bool)) (Vs : St12 → List UInt8 → Option (St12 × List ApiValue)) (K : Nat) (y3 : ApiValue) (y2 : St12) :
    Sat (offshootref12_State_value.j1 V Vs K v y3 y2 s true) (PostV L s) := by
  unfold offshootref12_State_value.j1 offshootref12_State_value.j2
  rw [if_pos rfl]
  obtain ⟨e, ha⟩ := step_inv hL h hk
  rw [e]
  refine Sat.some ⟨ha, fun hb => absurd he hb, fun _ => ⟨he, by show s.I < s.I + 1; omega, ?_⟩, fun _ hf => by cases hf⟩
  rw [show s.I + 1 - s.I = 1 from by omega]
  exact hv
theorem value_step (hL : WordsOk L) (h : Inv L s) (V : St12 → Option (St12 × ApiValue × Bool)) (Vs : St12 → List UInt8 → Option (St12 × List ApiValue)) (K : Nat)
    (hVs : ∀ t, Inv L t → (t.E ≠ 0 ∨ t.Deep = s.Deep + 1) → Sat (Vs t [93]) (PostVs L t)) : Sat (offshootref12_State_value.b V Vs K s) (PostV L s) := by
  unfold offshootref12_State_value.b
  refine Sat.ite (fun he => ?_) (fun he => ?_)
  · have he' : s.E ≠ 0 := by simpa using he
    exact Sat.some ⟨Adv.refl h, fun _ => ⟨rfl, rfl⟩, (fun hf => nomatch hf), fun _ _ => rfl⟩
  have he' : s.E = 0 := by simpa using he
  obtain ⟨w1, w2, w3⟩ := hL.word s.I h.lo h.hi
  rw [h.words]
  refine Sat.chk ⟨h.lo, h.hi⟩ ?_
  have zl : ∀ (k : Int) (b : Bool) (n : Int) (f : Nat) (S : List UInt8), In64 n → f < 18446744073709551616 → S.length ≤ 500 → ValW ⟨k, b, n, f, S, []⟩ := by
    intro k b n f S a1 a2 a3
    simp only [ValW, ValsW]
    exact ⟨a1, a2, by omega, trivial⟩
  have i0 : In64 0 := by unfold In64; omega
  refine Sat.ite (fun hk => ?_) (fun hk2 => ?_)
  · have hk' : (wordAt L s.I).Kind = 2 := by simpa using hk
    refine atom_post hL h he' (by rw [hk']; omega) _ ⟨zl _ _ _ _ _ w1 (by omega) (by simp), ?_⟩ V Vs K _ _
    have := numS_len _ w1
    rw [valT_int]; omega
  refine Sat.ite (fun hk => ?_) (fun hk3 => ?_)
  · have hk' : (wordAt L s.I).Kind = 3 := by simpa using hk
    refine atom_post hL h he' (by rw [hk']; omega) _ ⟨zl _ _ _ _ _ i0 w2 (by simp), ?_⟩ V Vs K _ _
    rw [valT]; simp [floatT, hexh_len]
  refine Sat.ite (fun hk => ?_) (fun hk4 => ?_)
  · have hk' : (wordAt L s.I).Kind = 4 := by simpa using hk
    refine atom_post hL h he' (by rw [hk']; omega) _ ⟨zl _ _ _ _ _ i0 (by omega) w3, ?_⟩ V Vs K _ _
    have := escL_len (wordAt L s.I).S
    rw [valT_str]; omega
  refine Sat.ite (fun hk => ?_) (fun _ => ?_)
  · simp only [Bool.and_eq_true, decide_eq_true_eq] at hk
    refine atom_post hL h he' (by have : (wordAt L s.I).Kind = 1 := hk.1; rw [this]; omega) _ ⟨zl _ _ _ _ _ i0 (by omega) (by simp), ?_⟩ V Vs K _ _
    rw [valT]; simp
  refine Sat.ite (fun hk => ?_) (fun _ => ?_)
  · simp only [Bool.and_eq_true, decide_eq_true_eq] at hk
    refine atom_post hL h he' (by have : (wordAt L s.I).Kind = 1 := hk.1; rw [this]; omega) _ ⟨zl _ _ _ _ _ i0 (by omega) (by simp), ?_⟩ V Vs K _ _
    rw [valT]; simp
  refine Sat.ite (fun hk => ?_) (fun _ => ?_)
  · simp only [Bool.and_eq_true, decide_eq_true_eq] at hk
    refine atom_post hL h he' (by have : (wordAt L s.I).Kind = 1 := hk.1; rw [this]; omega) _ ⟨zl _ _ _ _ _ i0 (by omega) (by simp), ?_⟩ V Vs K _ _
    rw [valT]; simp
  refine Sat.bindE (is_eq h [91]) ?_
  refine Sat.ite (fun hi => ?_) (fun _ => ?_)
  · have hk : (wordAt L s.I).Kind ≠ 0 := by
      simp only [Bool.and_eq_true, decide_eq_true_eq] at hi
      rw [hi.1.2]; omega
    obtain ⟨e, ha⟩ := step_inv hL h hk
    rw [e]
    rw [h.words] at ha
    refine Sat.bind (into_sat ha.inv) fun t2 ht2 => ?_
    obtain ⟨i1, i2, i3, i4, i5, i6⟩ := ht2
    refine Sat.bind (hVs t2 i1 (by
      by_cases hz : t2.E = 0
      · exact .inr (i5 hz)
      · exact .inl hz)) fun t3 ht3 => ?_
    obtain ⟨a3, b3⟩ := ht3
    have hI : t2.I = s.I + 1 := i2
    have hS : t2.Steps = s.Steps := i3
    have o3 := a3.on
    have st3 := a3.steps
    refine Sat.some ⟨⟨⟨a3.inv.words, a3.inv.lo, a3.inv.hi, h.deep0, h.deep1, a3.inv.steps0, a3.inv.steps1⟩, by show s.I ≤ t3.1.I; omega, rfl, by show s.Steps ≤ t3.1.Steps; omega, fun hb => absurd he' hb⟩, fun hb => absurd he' hb, fun hok => ?_, fun hz hf => ?_⟩
    · have hz : t3.1.E = 0 := by simpa using hok
      obtain ⟨c1, c2, c3⟩ := b3 hz
      refine ⟨hz, by show s.I < t3.1.I; omega, ?_, ?_⟩
      · simp only [ValW]
        exact ⟨i0, by omega, by simp, c2⟩
      · show ((valT ⟨5, false, 0, 0, [], t3.2⟩).length : Int) ≤ 2100 * (t3.1.I - s.I)
        rw [valT]; simp; omega
    · exfalso
      have : ¬ t3.1.E = 0 := by simpa using hf
      exact this hz
  · unfold offshootref12_State_value.j1 offshootref12_State_value.j2
    rw [if_neg (by simp)]
    exact Sat.some ⟨Adv.refl h, fun hb => absurd he' hb, (fun hf => nomatch hf), fun _ _ => rfl⟩
/-- Values that were taken so far, from a place on. -/
def Taken (L : List ApiWord) (s0 s : St12) (l : List ApiValue) : Prop :=
  Adv L s0 s ∧ l.length ≤ 13 ∧ (l.length ≤ 12 ∨ s.E ≠ 0) ∧ (s.E = 0 → ValsW l ∧ ((commas (valsT l)).length : Int) + 2 ≤ 2100 * (s.I - s0.I) + 2)
theorem values_l1 (hL : WordsOk L) (V : St12 → Option (St12 × ApiValue × Bool)) (Vs : St12 → List UInt8 → Option (St12 × List ApiValue)) (K : Nat) (sg : List UInt8) (s0 : St12)
    (hV : ∀ t, Inv L t → t.Deep = s0.Deep → Sat (V t) (PostV L t)) : ∀ (k : Nat) (l : List ApiValue) (y2 s : St12), Taken L s0 s l → 15 ≤ l.length + k →
      Sat (offshootref12_State_values.l1 V Vs K k l y2 s sg) (PostVs L s0) := by
  intro k
  induction k with
  | zero => intro l y2 s ht hk; have := ht.2.1; omega
  | succ k ih =>
    intro l y2 s ht hk
    obtain ⟨ha, hl, hl', hv⟩ := ht
    have h := ha.inv
    rw [offshootref12_State_values.l1]
    have hend : ∀ t1 : Bool, Sat (Option.bind (offshootref12_State_sign.f s sg) fun t6 => some (t6, l)) (PostVs L s0) := by
      intro _
      refine Sat.bind (sign_sat hL h sg) fun s' hs' => Sat.some ⟨ha.trans hs'.1, fun hz => ?_⟩
      have hz0 : s.E = 0 := by
        false_or_by_contra
        rename_i hb
        exact hs'.1.bad hb hz
      obtain ⟨v1, v2⟩ := hv hz0
      have := hs'.2.2 hz
      have := ha.on
      exact ⟨by show s0.I < s'.I; omega, v1, by show ((commas (valsT l)).length : Int) ≤ 2100 * (s'.I - s0.I) - 2; omega⟩
    by_cases he : s.E = 0
    · rw [if_pos (by simpa using he)]
      refine Sat.bindE (is_eq h sg) ?_
      refine Sat.ite (fun _ => ?_) (fun _ => hend false)
      -- behind the comma
      have hj2 : ∀ s1, Adv L s0 s1 → (s1.E = 0 → s.I ≤ s1.I ∧ (l ≠ [] → s.I < s1.I)) → (s1.E = 0 → l.length < 12) → Sat (offshootref12_State_values.j2 V Vs (offshootref12_State_values.l1 V Vs K k) K l y2 s1 sg) (PostVs L s0) := by
        intro s1 a1 o1 l1
        unfold offshootref12_State_values.j2
        refine Sat.bind (hV s1 a1.inv a1.deep) fun r hr => ?_
        obtain ⟨p1, p2, p3, p4⟩ := hr
        have hl12 : l.length ≤ 12 := by
          rcases hl' with h' | h'
          · exact h'
          · exact absurd he h'
        refine Sat.ite (fun hf => ?_) (fun hf => ?_)
        · refine Sat.bind (fail_sat p1.inv (by omega)) fun t3 ht3 => ?_
          unfold offshootref12_State_values.j3
          refine Sat.chk (by simp; omega) ?_
          refine ih _ _ _ ⟨(a1.trans p1).trans ht3.1, by simp; omega, .inr ht3.2.1, fun hz => absurd hz ht3.2.1⟩ (by simp; omega)
        · have hok : r.2.2 = true := by simpa using hf
          obtain ⟨q1, q2, q3⟩ := p3 hok
          have hz1 : s1.E = 0 := by
            false_or_by_contra
            rename_i hb
            have := (p2 hb).2
            rw [hok] at this; cases this
          unfold offshootref12_State_values.j3
          refine Sat.chk (by simp; omega) ?_
          have hll := l1 hz1
          obtain ⟨v1, v2⟩ := hv he
          obtain ⟨o2, o3⟩ := o1 hz1
          refine ih _ _ _ ⟨a1.trans p1, by simp; omega, .inl (by simp; omega), fun hz => ⟨valsW_append _ _ v1 (by simp only [ValsW]; exact ⟨q3.1, trivial⟩), ?_⟩⟩ (by simp; omega)
          have c1 := commas_snoc (valsT l) (valT r.2.1)
          have c2 : valsT (l ++ [r.2.1]) = valsT l ++ [valT r.2.1] := by simp [valsT_map]
          have c3 := q3.2
          rw [c2]
          by_cases hne : l = []
          · subst hne
            simp only [valsT, List.nil_append, commas] at v2 ⊢
            have := ha.on
            omega
          · have := o3 hne
            omega
      have hj1 : ∀ s1, Adv L s0 s1 → (s1.E = 0 → s.I ≤ s1.I ∧ (l ≠ [] → s.I < s1.I)) → Sat (offshootref12_State_values.j1 V Vs (offshootref12_State_values.l1 V Vs K k) K l y2 s1 sg) (PostVs L s0) := by
        intro s1 a1 o1
        unfold offshootref12_State_values.j1
        refine Sat.ite (fun hm => ?_) (fun hm => ?_)
        · refine Sat.bind (fail_sat a1.inv (by omega)) fun t4 ht4 => hj2 t4 (a1.trans ht4.1) (fun hz => absurd hz ht4.2.1) (fun hz => absurd hz ht4.2.1)
        · exact hj2 s1 a1 o1 (fun _ => by simp at hm; omega)
      refine Sat.ite (fun hpos => ?_) (fun hpos => ?_)
      · refine Sat.bind (sign_sat hL h [44]) fun t5 ht5 => hj1 t5 (ha.trans ht5.1) (fun hz => ⟨ht5.1.on, fun _ => by have := ht5.2.2 hz; omega⟩)
      · refine hj1 s ha (fun _ => ⟨Int.le_refl _, fun hne => ?_⟩)
        exfalso
        cases l with
        | nil => exact hne rfl
        | cons => simp at hpos
    · rw [if_neg (by simpa using he)]
      refine Sat.bindE rfl ?_
      rw [decide_eq_false he, Bool.false_and, if_neg (by simp)]
      exact hend false
theorem values_bad (hL : WordsOk L) (h : Inv L s) (he : s.E ≠ 0) (sg : List UInt8) (K : Nat) (hK : 2 < K) : Sat (offshootref12_State_values.f K s sg) (PostVs L s) := by
  obtain ⟨K, rfl⟩ : ∃ K', K = K' + 1 + 1 := ⟨K - 2, by omega⟩
  rw [offshootref12_State_values.f, offshootref12_State_values.b, offshootref12_State_values.l1, if_neg (by simpa using he)]
  refine Sat.bindE rfl ?_
  rw [decide_eq_false he, Bool.false_and, if_neg (by simp)]
  refine Sat.bind (sign_sat hL h sg) fun s' hs' => Sat.some ⟨hs'.1, fun hz => absurd hz (hs'.1.bad he)⟩
theorem value_knot (hL : WordsOk L) : ∀ (m : Nat) (s : St12) (K : Nat), Inv L s → 12 - s.Deep ≤ (m : Int) → 2 * m + 40 < K → Sat (offshootref12_State_value.f K s) (PostV L s) := by
  intro m
  induction m with
  | zero =>
    intro s K h hd hK
    obtain ⟨K, rfl⟩ : ∃ K', K = K' + 1 := ⟨K - 1, by omega⟩
    rw [offshootref12_State_value.f]
    refine value_step hL h _ _ K fun t ht hb => ?_
    have := ht.deep1
    rcases hb with hb | hb
    · exact values_bad hL ht hb _ K (by omega)
    · omega
  | succ m ih =>
    intro s K h hd hK
    obtain ⟨K, rfl⟩ : ∃ K', K = K' + 1 + 1 := ⟨K - 2, by omega⟩
    rw [offshootref12_State_value.f]
    refine value_step hL h _ _ (K + 1) fun t ht hb => ?_
    rcases hb with hb | hb
    · exact values_bad hL ht hb _ (K + 1) (by omega)
    · rw [offshootref12_State_values.f, offshootref12_State_values.b]
      refine values_l1 hL _ _ K [93] t (fun u hu hdu => ih u K hu (by omega) (by omega)) K [] _ t ⟨Adv.refl ht, by simp, .inl (by simp), fun _ => ⟨by simp [ValsW], by simp [valsT, commas]⟩⟩ (by simp; omega)
theorem values_knot (hL : WordsOk L) (s : St12) (sg : List UInt8) (K : Nat) (h : Inv L s) (hK : 70 < K) : Sat (offshootref12_State_values.f K s sg) (PostVs L s) := by
  obtain ⟨K, rfl⟩ : ∃ K', K = K' + 1 := ⟨K - 1, by omega⟩
  rw [offshootref12_State_values.f, offshootref12_State_values.b]
  exact values_l1 hL _ _ K sg s (fun u hu _ => value_knot hL 12 u K hu (by have := hu.deep0; omega) (by omega)) K [] _ s ⟨Adv.refl h, by simp, .inl (by simp), fun _ => ⟨by simp [ValsW], by simp [valsT, commas]⟩⟩ (by simp; omega)
def predNames : List (List UInt8) := [([101, 113] : List UInt8), ([110, 101, 113] : List UInt8), ([108, 116] : List UInt8), ([108, 116, 101] : List UInt8), ([103, 116] : List UInt8), ([103, 116, 101] : List UInt8), ([115, 116, 97, 114, 116, 105, 110, 103, 87, 105, 116, 104] : List UInt8), ([101, 110, 100, 105, 110, 103, 87, 105, 116, 104] : List UInt8), ([99, 111, 110, 116, 97, 105, 110, 105, 110, 103] : List UInt8)]
theorem preds_l1 (K : Nat) (S : List UInt8) : ∀ (k : Nat) (i : Int), 0 ≤ i → i ≤ 9 → 9 - i < k → Sat (offshootref12_Preds.l1 K k S predNames i) fun r => r.2 = true → S ≠ andL ∧ S ≠ orL ∧ S ≠ notL := by
  intro k
  induction k with
  | zero => intro i h0 h1 h2; omega
  | succ k ih =>
    intro i h0 h1 h2
    have hlen : (predNames.length : Int) = 9 := rfl
    rw [offshootref12_Preds.l1, hlen]
    refine Sat.ite (fun h => ?_) (fun h => ?_)
    · have h' : i < 9 := by simpa using h
      refine Sat.chk ⟨h0, h'⟩ ?_
      refine Sat.ite (fun he => Sat.some fun _ => ?_) (fun _ => ?_)
      · have he' : List.getD predNames i.toNat default = S := by simpa using he
        have hall : ∀ j ∈ List.range 9, List.getD predNames j default ≠ andL ∧ List.getD predNames j default ≠ orL ∧ List.getD predNames j default ≠ notL := by decide
        have := hall i.toNat (List.mem_range.2 (by omega))
        rw [he'] at this
        exact this
      · rw [W_in (by omega) (by omega)]
        exact ih (i + 1) (by omega) (by omega) (by omega)
    · refine Sat.ite (fun hb => Sat.some fun _ => ?_) (fun _ => Sat.some fun hb => ?_)
      · simp only [Bool.or_eq_true, decide_eq_true_eq] at hb
        rcases hb with (rfl | rfl) | rfl <;> decide
      · simp only [Bool.or_eq_true, decide_eq_true_eq] at hb
        rcases hb with rfl | rfl <;> decide
theorem preds_sat (K : Nat) (hK : 20 < K) (S : List UInt8) : Sat (offshootref12_Preds.f K S) fun r => r.2 = true → S ≠ andL ∧ S ≠ orL ∧ S ≠ notL :=
  preds_l1 K S K 0 (by omega) (by omega) (by omega)
def POk (n : Int) (p : ApiPred) : Prop := PredW p ∧ ((predT p).length : Int) ≤ 2100 * n
def PostP (L : List ApiWord) (s : St12) (r : St12 × ApiPred) : Prop := Adv L s r.1 ∧ (r.1.E = 0 → s.I < r.1.I ∧ POk (r.1.I - s.I) r.2)
theorem pok_two {op : List UInt8} (hop : op = andL ∨ op = orL) {a b : ApiPred} {n m : Int} (ha : POk n a) (hb : POk m b) : POk (n + m + 1) ⟨op, [], [a, b]⟩ := by
  have hno : op ≠ notL := by rcases hop with rfl | rfl <;> decide
  have hol : op.length ≤ 3 := by rcases hop with rfl | rfl <;> simp
  refine ⟨?_, ?_⟩
  · simp only [PredW, PredsW, ValsW]
    exact ⟨trivial, ⟨ha.1, hb.1, trivial⟩, fun _ => rfl, fun h => absurd h hno⟩
  · have h1 := ha.2
    have h2 := hb.2
    rw [predT, if_pos hop]
    simp only [predsT, List.getD_cons_zero, List.getD_cons_succ, List.length_append, List.length_cons, List.length_nil]
    omega
theorem pok_not {a : ApiPred} {n : Int} (ha : POk n a) : POk (n + 1) ⟨notL, [], [a]⟩ := by
  have h1 : ¬ (notL = andL ∨ notL = orL) := by decide
  refine ⟨?_, ?_⟩
  · simp only [PredW, PredsW, ValsW]
    exact ⟨trivial, ⟨ha.1, trivial⟩, fun h => absurd h h1, fun _ => rfl⟩
  · have h2 := ha.2
    rw [predT, if_neg h1, if_pos rfl]
    simp only [predsT, List.getD_cons_zero, List.length_append, List.length_cons, List.length_nil]
    omega
theorem POk.mono {n m : Int} {p : ApiPred} (h : POk n p) (hnm : n ≤ m) : POk m p := ⟨h.1, by have := h.2; omega⟩
/-- The loop behind a predicate. -/
structure InP (L : List ApiWord) (s0 s : St12) (p : ApiPred) : Prop where
  inv : Inv L s
  good : s0.E = 0
  on : s0.I ≤ s.I
  deep : s0.Deep ≤ s.Deep
  steps : s0.Steps ≤ s.Steps
  ok : s.E = 0 → s0.I < s.I ∧ POk (s.I - s0.I) p
theorem InP.later {s0 : St12} {p : ApiPred} (h : InP L s0 s p) (h' : Adv L s s') : InP L s0 s' p :=
  ⟨h'.inv, h.good, Int.le_trans h.on h'.on, by rw [h'.deep]; exact h.deep, Int.le_trans h.steps h'.steps, fun hz => by
    have hz0 : s.E = 0 := by
      false_or_by_contra
      rename_i hb
      exact h'.bad hb hz
    obtain ⟨a, b⟩ := h.ok hz0
    have := h'.on
    exact ⟨by omega, b.mono (by omega)⟩⟩
theorem pred_j1 {s0 : St12} {p : ApiPred} (h : InP L s0 s p) (hs0 : Inv L s0) (Pf : St12 → Option (St12 × ApiPred)) (K : Nat) (y3 : ApiPred) (y2 : St12) : Sat (offshootref12_State_pred.j1 Pf K p s0 y3 y2 s) (PostP L s0) := by
  unfold offshootref12_State_pred.j1
  refine Sat.some ⟨⟨⟨h.inv.words, h.inv.lo, h.inv.hi, hs0.deep0, hs0.deep1, h.inv.steps0, h.inv.steps1⟩, h.on, rfl, h.steps, fun hb => absurd h.good hb⟩, fun hz => h.ok hz⟩
theorem pred_l1 (hL : WordsOk L) (Pf : St12 → Option (St12 × ApiPred)) (K : Nat) (s0 : St12) (hs0 : Inv L s0) (hP : ∀ t, Inv L t → t.E = 0 → s0.Deep < t.Deep → Sat (Pf t) (PostP L t)) : ∀ (k : Nat) (p y3 : ApiPred) (y2 s : St12), InP L s0 s p → (L.length : Int) - s.I < k →
    Sat (offshootref12_State_pred.l1 Pf K k p s0 y3 y2 s) (PostP L s0) := by
  intro k
  induction k with
  | zero => intro p y3 y2 s h hk; have := h.inv.hi; omega
  | succ k ih =>
    intro p y3 y2 s h hk
    rw [offshootref12_State_pred.l1]
    refine Sat.bindE (is_eq h.inv [46]) ?_
    refine Sat.ite (fun hi => ?_) (fun _ => pred_j1 h hs0 Pf K y3 y2)
    simp only [Bool.and_eq_true, decide_eq_true_eq] at hi
    have he : s.E = 0 := hi.1.1
    obtain ⟨e, ha⟩ := step_inv hL h.inv (by rw [hi.1.2]; omega)
    rw [e]
    refine Sat.bind (into_sat ha.inv) fun t9 ht9 => ?_
    obtain ⟨i1, i2, i3, i4, i5, i6, i7⟩ := ht9
    have hI : t9.I = s.I + 1 := i2
    have hS : t9.Steps = s.Steps := i3
    have hD : s.Deep ≤ t9.Deep := i7
    have hd0 := h.deep
    have hst := h.steps
    have hon := h.on
    obtain ⟨o1, o2⟩ := h.ok he
    have h9 : InP L s0 t9 p := ⟨i1, h.good, by omega, by omega, by omega, fun _ => ⟨by omega, o2.mono (by omega)⟩⟩
    have hj3 : ∀ (u : St12) (q : ApiPred), InP L s0 u q → s.I + 1 ≤ u.I → Sat (offshootref12_State_pred.j3 Pf (offshootref12_State_pred.l1 Pf K k) K q s0 y3 y2 u) (PostP L s0) := by
      intro u q hu hui
      unfold offshootref12_State_pred.j3
      refine Sat.bind (sign_sat hL hu.inv [41]) fun t11 ht11 => ?_
      have := ht11.1.on
      exact ih q y3 y2 t11 (hu.later ht11.1) (by omega)
    have hj2 : ∀ u : St12, InP L s0 u p → u.I = s.I + 1 → (u.E = 0 → s0.Deep < u.Deep ∧ (wordAt L u.I).Kind = 1) → Sat (offshootref12_State_pred.j2 Pf (offshootref12_State_pred.l1 Pf K k) K t9 p s0 y3 y2 u) (PostP L s0) := by
      intro u hu hui hk1
      unfold offshootref12_State_pred.j2
      refine Sat.ite (fun _ => pred_j1 hu hs0 Pf K y3 y2) (fun hz => ?_)
      have hz' : u.E = 0 := by simpa using hz
      obtain ⟨hdu, hk1⟩ := hk1 hz'
      rw [hu.inv.words]
      refine Sat.chk ⟨hu.inv.lo, hu.inv.hi⟩ ?_
      obtain ⟨e2, hb⟩ := step_inv hL hu.inv (by rw [hk1]; omega)
      rw [e2]
      rw [hu.inv.words] at hb
      refine Sat.bind (sign_sat hL hb.inv [40]) fun t10 ht10 => ?_
      have hau := hb.trans ht10.1
      have h10 := hu.later hau
      have on10 := ht10.1.on
      have on10' : u.I + 1 ≤ t10.I := on10
      have hj4 : ∀ (op : List UInt8) (b : Bool), (b = true → op = andL ∨ op = orL) → Sat (offshootref12_State_pred.j4 Pf (offshootref12_State_pred.l1 Pf K k) K t9 p s0 y3 y2 t10 op op b) (PostP L s0) := by
        intro op b hb
        unfold offshootref12_State_pred.j4
        refine Sat.ite (fun hbt => ?_) (fun _ => ?_)
        · refine Sat.ite (fun hz1 => ?_) (fun _ => hj3 t10 p h10 (by omega))
          have hz1' : t10.E = 0 := by simpa using hz1
          refine Sat.bind (hP t10 h10.inv hz1' (by rw [hau.deep]; exact hdu)) fun r hr => ?_
          obtain ⟨a, c⟩ := hr
          have aon := a.on
          have ast := a.steps
          have d10 := h10.deep
          have s10 := h10.steps
          have x10 := h10.on
          refine hj3 _ _ ⟨⟨a.inv.words, a.inv.lo, a.inv.hi, h10.inv.deep0, h10.inv.deep1, a.inv.steps0, a.inv.steps1⟩, h.good, by show s0.I ≤ r.1.I; omega, d10, by show s0.Steps ≤ r.1.Steps; omega, fun hz2 => ?_⟩ (by show s.I + 1 ≤ r.1.I; omega)
          obtain ⟨c1, c2⟩ := c hz2
          refine ⟨by show s0.I < r.1.I; omega, ?_⟩
          refine (pok_two (hb hbt) o2 c2).mono ?_
          show s.I - s0.I + (r.1.I - t10.I) + 1 ≤ r.1.I - s0.I
          omega
        · refine Sat.ite (fun hn => ?_) (fun _ => ?_)
          · refine hj3 t10 _ ⟨h10.inv, h.good, h10.on, h10.deep, h10.steps, fun hz1 => ⟨(h10.ok hz1).1, (pok_not o2).mono (by omega)⟩⟩ (by omega)
          · refine Sat.ite (fun _ => ?_) (fun _ => hj3 t10 p h10 (by omega))
            refine Sat.bind (fail_sat i1 (by omega)) fun t13 ht13 => hj3 t13 p (h9.later ht13.1) (by have := ht13.2.2; omega)
      refine Sat.ite (fun ho => ?_) (fun _ => ?_)
      · exact hj4 _ _ (fun _ => .inl (by simpa using ho))
      · exact hj4 _ _ (fun ho => .inr (by simpa using ho))
    refine Sat.chk (fun _ => ⟨i1.lo, by rw [i1.words]; exact i1.hi⟩) ?_
    rw [i1.words]
    refine Sat.ite (fun _ => ?_) (fun hk1 => ?_)
    · refine Sat.bind (fail_sat i1 (by omega)) fun t14 ht14 => hj2 t14 (h9.later ht14.1) (by have := ht14.2.2; omega) (fun hz => absurd hz ht14.2.1)
    · refine hj2 t9 h9 hI (fun hz => ⟨by have hx : t9.Deep = s.Deep + 1 := i5 hz; omega, ?_⟩)
      simp only [Bool.and_eq_false_iff, decide_eq_false_iff_not, Bool.not_eq_false', decide_eq_true_eq] at hk1
      rcases hk1 with hk1 | hk1
      · exact absurd hz hk1
      · exact hk1
theorem pred_fail (h : Inv L s) (p : ApiPred) : Sat (Option.bind (offshootref12_State_fail.f s 120) fun t1 => some (t1, p)) (PostP L s) :=
  Sat.bind (fail_sat h (by omega)) fun t ht => Sat.some ⟨ht.1, fun hz => absurd hz ht.2.1⟩
theorem pred_step (hL : WordsOk L) (h : Inv L s) (Pf : St12 → Option (St12 × ApiPred)) (K : Nat) (hK : 2000 < K) (hP : ∀ t, Inv L t → t.E = 0 → s.Deep < t.Deep → Sat (Pf t) (PostP L t)) : Sat (offshootref12_State_pred.b Pf K s) (PostP L s) := by
  unfold offshootref12_State_pred.b
  rw [h.words]
  refine Sat.chk (fun _ => ⟨h.lo, h.hi⟩) ?_
  refine Sat.ite (fun _ => pred_fail h _) (fun hk => ?_)
  simp only [Bool.or_eq_false_iff, Bool.not_eq_false', decide_eq_true_eq] at hk
  obtain ⟨he, hk1⟩ := hk
  refine Sat.chk ⟨h.lo, h.hi⟩ ?_
  refine Sat.bind (preds_sat K (by omega) _) fun r hr => ?_
  refine Sat.ite (fun _ => pred_fail h _) (fun hr2 => ?_)
  have hr2' : r.2 = true := by simpa using hr2
  obtain ⟨n1, n2, n3⟩ := hr hr2'
  refine Sat.chk ⟨h.lo, h.hi⟩ ?_
  obtain ⟨e, ha⟩ := step_inv hL h (by show (wordAt L s.I).Kind ≠ 0; rw [hk1]; omega)
  rw [e]
  rw [h.words] at ha
  refine Sat.bind (sign_sat hL ha.inv [40]) fun t4 ht4 => ?_
  refine Sat.bind (into_sat ht4.1.inv) fun t5 ht5 => ?_
  obtain ⟨i1, i2, i3, i4, i5, i6, i7⟩ := ht5
  refine Sat.bind (values_knot hL t5 [41] K i1 (by omega)) fun t6 ht6 => ?_
  obtain ⟨a6, b6⟩ := ht6
  refine Sat.ite (fun _ => pred_fail h _) (fun _ => ?_)
  have on4 : s.I + 1 ≤ t4.I := ht4.1.on
  have st4 : s.Steps ≤ t4.Steps := ht4.1.steps
  have on6 := a6.on
  have st6 := a6.steps
  have w3 := (hL.word s.I h.lo h.hi).2.2
  refine pred_l1 hL Pf K s h hP K _ _ _ _ ⟨⟨a6.inv.words, a6.inv.lo, a6.inv.hi, h.deep0, h.deep1, a6.inv.steps0, a6.inv.steps1⟩, he, by show s.I ≤ t6.1.I; omega, Int.le_refl _, by show s.Steps ≤ t6.1.Steps; omega, fun hz => ?_⟩ (by have := hL.len; have : 0 ≤ t6.1.I := a6.inv.lo; show (L.length : Int) - t6.1.I < K; omega)
  obtain ⟨c1, c2, c3⟩ := b6 hz
  refine ⟨by show s.I < t6.1.I; omega, ?_, ?_⟩
  · simp only [PredW, PredsW]
    refine ⟨c2, trivial, fun ho => ?_, fun ho => absurd ho n3⟩
    rcases ho with ho | ho
    · exact absurd ho n1
    · exact absurd ho n2
  · show ((predT _).length : Int) ≤ 2100 * (t6.1.I - s.I)
    rw [predT, if_neg (by intro ho; rcases ho with ho | ho; exact absurd ho n1; exact absurd ho n2), if_neg n3]
    simp only [List.length_append, List.length_cons, List.length_nil]
    have w4 : (List.getD L s.I.toNat default).S.length ≤ 500 := w3
    have i2' : t5.I = t4.I := i2
    omega
theorem pred_knot (hL : WordsOk L) : ∀ (m : Nat) (s : St12) (K : Nat), Inv L s → 12 - s.Deep ≤ (m : Int) → m + 2001 < K → Sat (offshootref12_State_pred.f K s) (PostP L s) := by
  intro m
  induction m with
  | zero =>
    intro s K h hd hK
    obtain ⟨K, rfl⟩ : ∃ K', K = K' + 1 := ⟨K - 1, by omega⟩
    rw [offshootref12_State_pred.f]
    exact pred_step hL h _ K (by omega) fun t ht _ hdt => by have := ht.deep1; omega
  | succ m ih =>
    intro s K h hd hK
    obtain ⟨K, rfl⟩ : ∃ K', K = K' + 1 := ⟨K - 1, by omega⟩
    rw [offshootref12_State_pred.f]
    exact pred_step hL h _ K (by omega) fun t ht _ hdt => ih t K ht (by omega) (by omega)
/-- What the law asks of an argument. -/
def AOk (a : ApiArg) : Prop := a.Kind = 2 → POk 1501 a.P
def SOk (l : List ApiStep) : Prop := ∀ x ∈ l, x.Args.length ≤ 12 ∧ ∀ a ∈ x.Args, AOk a
def PostA (L : List ApiWord) (s : St12) (r : St12 × ApiArg) : Prop := Adv L s r.1 ∧ (r.1.E = 0 → AOk r.2)
def PostS (L : List ApiWord) (s : St12) (r : St12 × List ApiStep) : Prop := Adv L s r.1 ∧ (r.1.E = 0 → SOk r.2 ∧ r.2.length ≤ 150)
theorem arg_j2 {t : St12} (hs : Inv L s) (ht : Inv L t) (hon : s.I ≤ t.I) (hst : s.Steps ≤ t.Steps) (he : s.E = 0) (Sf : St12 → Option (St12 × List ApiStep)) (Af : St12 → Option (St12 × ApiArg)) (K : Nat) (y3 : ApiArg) (y2 : St12)
    (hS : Sat (Sf t) (PostS L t)) : Sat (offshootref12_State_arg.j2 Sf Af K y3 y2 t s.Deep) (PostA L s) := by
  unfold offshootref12_State_arg.j2
  refine Sat.bind hS fun r hr => ?_
  obtain ⟨a, _⟩ := hr
  have o := a.on
  have st := a.steps
  exact Sat.some ⟨⟨⟨a.inv.words, a.inv.lo, a.inv.hi, hs.deep0, hs.deep1, a.inv.steps0, a.inv.steps1⟩, by show s.I ≤ r.1.I; omega, rfl, by show s.Steps ≤ r.1.Steps; omega, fun hb => absurd he hb⟩, fun _ hk => by
    have : (3 : Int) = 2 := hk
    omega⟩
theorem arg_j1 (hL : WordsOk L) (hs : Inv L s) (he : s.E = 0) (Sf : St12 → Option (St12 × List ApiStep)) (Af : St12 → Option (St12 × ApiArg)) (K : Nat) (y3 : ApiArg) (y2 : St12)
    (hS : ∀ t, Inv L t → (t.E ≠ 0 ∨ t.Deep = s.Deep + 1) → Sat (Sf t) (PostS L t)) : Sat (offshootref12_State_arg.j1 Sf Af K (wordAt L s.I) y3 y2 s) (PostA L s) := by
  unfold offshootref12_State_arg.j1
  refine Sat.bind (into_sat hs) fun t2 ht2 => ?_
  obtain ⟨i1, i2, i3, i4, i5, i6, i7⟩ := ht2
  refine Sat.ite (fun hc => ?_) (fun _ => ?_)
  · simp only [Bool.and_eq_true, decide_eq_true_eq] at hc
    obtain ⟨e, ha⟩ := step_inv hL i1 (by rw [i2, hc.1.2]; omega)
    rw [e]
    refine Sat.bind (sign_sat hL ha.inv [46]) fun t4 ht4 => ?_
    have o4 : t2.I + 1 ≤ t4.I := ht4.1.on
    have s4 : t2.Steps ≤ t4.Steps := ht4.1.steps
    have d4 : t4.Deep = t2.Deep := ht4.1.deep
    exact arg_j2 hs ht4.1.inv (by omega) (by omega) he Sf Af K y3 y2 (hS t4 ht4.1.inv (.inr (by rw [d4]; exact i5 hc.1.1)))
  · refine arg_j2 hs i1 (by omega) (by omega) he Sf Af K y3 y2 (hS t2 i1 ?_)
    by_cases hz : t2.E = 0
    · exact .inr (i5 hz)
    · exact .inl hz
theorem arg_step (hL : WordsOk L) (h : Inv L s) (Sf : St12 → Option (St12 × List ApiStep)) (Af : St12 → Option (St12 × ApiArg)) (K : Nat) (hK : 3000 < K)
    (hS : ∀ t, Inv L t → (t.E ≠ 0 ∨ t.Deep = s.Deep + 1) → Sat (Sf t) (PostS L t)) : Sat (offshootref12_State_arg.b Sf Af K s) (PostA L s) := by
  unfold offshootref12_State_arg.b
  refine Sat.bind (value_knot hL 12 s K h (by have := h.deep0; omega) (by omega)) fun r hr => ?_
  obtain ⟨p1, p2, p3, p4⟩ := hr
  refine Sat.ite (fun _ => Sat.some ⟨p1, fun _ hk => by have : (1 : Int) = 2 := hk; omega⟩) (fun hc => ?_)
  simp only [Bool.or_eq_false_iff, Bool.not_eq_false', decide_eq_true_eq] at hc
  have hs0 : r.1 = s := p4 hc.2 hc.1
  have he : s.E = 0 := by rw [← hs0]; exact hc.2
  rw [h.words]
  refine Sat.chk ⟨h.lo, h.hi⟩ ?_
  refine Sat.ite (fun hk => ?_) (fun _ => arg_j1 hL h he Sf Af K _ _ hS)
  have hk1 : (wordAt L s.I).Kind = 1 := by simpa using hk
  obtain ⟨e, ha⟩ := step_inv hL h (by rw [hk1]; omega)
  have hl := hL.last s.I h.lo h.hi (by rw [hk1]; omega)
  have hlo := h.lo
  rw [e]
  refine Sat.chk ⟨by omega, hl⟩ ?_
  refine Sat.bind (preds_sat K (by omega) _) fun q hq => ?_
  refine Sat.ite (fun _ => ?_) (fun _ => ?_)
  · refine Sat.bind (pred_knot hL 12 s K h (by have := h.deep0; omega) (by omega)) fun u hu => ?_
    refine Sat.some ⟨hu.1, fun hz _ => ?_⟩
    have := hu.1.inv.hi
    have := hL.len
    exact (hu.2 hz).2.mono (by omega)
  · refine Sat.ite (fun _ => ?_) (fun _ => arg_j1 hL h he Sf Af K _ _ hS)
    rw [h.words] at ha
    exact Sat.some ⟨ha, fun _ hk => by have : (4 : Int) = 2 := hk; omega⟩
theorem sok_snoc {l : List ApiStep} {x : ApiStep} (h : SOk l) (hx : x.Args.length ≤ 12 ∧ ∀ a ∈ x.Args, AOk a) : SOk (l ++ [x]) := by
  intro y hy
  rcases List.mem_append.1 hy with hy | hy
  · exact h y hy
  · simp only [List.mem_cons, List.not_mem_nil, or_false] at hy
    subst hy; exact hx
end
end Go.Proofs.Ytfmabehmohbahaa

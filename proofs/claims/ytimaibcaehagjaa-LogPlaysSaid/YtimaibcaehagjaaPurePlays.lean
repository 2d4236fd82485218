/- Plain law of LogPlays: entries are kept in the document's sectors. -/
import Derived.Test.YtimaibcaehagjaaPureLogRead
namespace Go.Proofs.Ytimaibcaehagjaa
set_option linter.unusedVariables false
set_option maxHeartbeats 2000000
theorem endOf_ge : ∀ (l : List (List UInt8)) (at' : Nat), at' ≤ endOf at' l
  | [], at' => Nat.le_refl _
  | s :: l, at' => by have := endOf_ge l (at' + secsN s.length); rw [endOf]; omega
theorem endOf_snoc : ∀ (l : List (List UInt8)) (at' : Nat) (s : List UInt8), endOf at' (l ++ [s]) = endOf at' l + secsN s.length
  | [], at', s => rfl
  | x :: l, at', s => by rw [List.cons_append, endOf, endOf, endOf_snoc l]
theorem Ents.keep {V V' : List Sec} {tO : Nat} : ∀ {l : List (List UInt8)} {at' num : Nat}, Ents V tO at' num l → (∀ q, q < endOf at' l → V'[q]? = V[q]?) → Ents V' tO at' num l
  | [], _, _, _, _ => trivial
  | s :: l, at', num, ⟨h1, h2, h3, h4⟩, hq => by
    have := endOf_ge l (at' + secsN s.length)
    refine ⟨h1, h2, fun j hj => ?_, Ents.keep h4 hq⟩
    rw [hq _ (by rw [endOf]; omega)]
    exact h3 j hj
theorem Ents.snoc {V : List Sec} {tO : Nat} {s : List UInt8} (hs : s.length ≤ 500) : ∀ {l : List (List UInt8)} {at' num : Nat}, Ents V tO at' num l → endOf at' l + secsN s.length ≤ tO → (∀ j, j < secsN s.length → V[endOf at' l + j]? = (laidS (num + l.length) s)[j]?) → Ents V tO at' num (l ++ [s])
  | [], at', num, _, h2, h3 => ⟨hs, h2, h3, trivial⟩
  | x :: l, at', num, ⟨h1, hx, h3, h4⟩, h5, h6 => by
    refine ⟨h1, hx, h3, Ents.snoc hs h4 h5 fun j hj => ?_⟩
    have := h6 j hj
    rw [List.length_cons, show num + (l.length + 1) = num + 1 + l.length by omega] at this
    exact this
section
variable {N tO at' num : Nat} {V : List Sec} {s : List UInt8}
theorem added_below (q : Nat) (hq : q < at') : (added tO V at' num s)[q]? = V[q]? := by
  unfold added
  rw [List.getElem?_set_ne (by omega), lay_get, if_neg (by omega)]
theorem added_in (hl : V.length = N) (hend : at' + secsN s.length ≤ tO) (hto : tO ≤ N) (j : Nat) (hj : j < secsN s.length) : (added tO V at' num s)[at' + j]? = (laidS num s)[j]? := by
  unfold added
  cases j with
  | zero =>
    show ((lay V (at' + 1) (chunksS s ++ tailS tO (at' + secsN s.length))).set at' (headS num s))[at']? = _
    rw [List.getElem?_set_self (by rw [lay_len]; omega)]; rfl
  | succ j =>
    have hc := chunksS_len s
    rw [List.getElem?_set_ne (by omega), lay_get, if_pos ⟨by omega, by rw [List.length_append]; omega, by omega⟩, show at' + (j + 1) - (at' + 1) = j by omega, List.getElem?_append_left (by omega)]
    rfl
theorem added_term (hl : V.length = N) (hend : at' + secsN s.length ≤ tO) (hto : tO ≤ N) : Term (added tO V at' num s) tO (at' + secsN s.length) := by
  by_cases h : at' + secsN s.length < tO
  · right
    have hk := secsN_pos s.length
    have hc := chunksS_len s
    have e4 : tailS tO (at' + secsN s.length) = [zeros 128] := if_pos h
    unfold added
    rw [e4, List.getElem?_set_ne (by omega), lay_get, if_pos ⟨by omega, by rw [List.length_append, List.length_cons]; omega, by omega⟩, show at' + secsN s.length - (at' + 1) = (chunksS s).length by omega, List.getElem?_append_right (Nat.le_refl _), Nat.sub_self]
    rfl
  · left; omega
end
/-! ### The document's sectors -/
theorem zeros_snoc (m : Nat) : zeros m ++ [0] = zeros (m + 1) := by
  unfold zeros
  rw [List.replicate_succ']
theorem laid_l2 (s : List UInt8) (num : Nat) (hs : s.length ≤ 500) (G : Int → List UInt8 → Int → Int → Option (List (List UInt8))) : ∀ (k : Nat) (i : Nat), 1 ≤ i → i ≤ secsN s.length → secsN s.length - i < k →
    offshootref04_Laid.l2 G KD k (headS num s :: (chunksS s).take (i - 1)) (padS s) (secsN s.length : Int) (i : Int) = some (laidS num s) := by
  have hl := padS_len s
  have hk5 := secsN_few hs
  intro k
  induction k with
  | zero => intro i h0 h1 h2; omega
  | succ k ih =>
    intro i h0 h1 h2
    refine Sat.get ?_
    rw [offshootref04_Laid.l2]
    refine Sat.ite (fun hi => ?_) (fun hi => ?_)
    · simp only [decide_eq_true_eq] at hi
      rw [W_in (x := (i : Int) - 1) (by omega) (by omega), W_in (x := 128 * ((i : Int) - 1)) (by omega) (by omega), W_in (x := 104 + 128 * ((i : Int) - 1)) (by omega) (by omega), W_in (x := 128 * (i : Int)) (by omega) (by omega), W_in (x := 104 + 128 * (i : Int)) (by omega) (by omega), W_in (x := (i : Int) + 1) (by omega) (by omega)]
      have e1 : (104 + 128 * ((i : Int) - 1)) = ((104 + 128 * (i - 1) : Nat) : Int) := by omega
      have e2 : (104 + 128 * (i : Int)) = ((104 + 128 * i : Nat) : Int) := by omega
      rw [e1, e2]
      refine Sat.chk ⟨by omega, by omega, by omega⟩ ?_
      simp only [Int.toNat_natCast]
      rw [show 104 + 128 * i - (104 + 128 * (i - 1)) = 128 by omega]
      have ec : List.take 128 (List.drop (104 + 128 * (i - 1)) (padS s)) = chunkS s (i - 1) := rfl
      rw [ec]
      have hcl := chunksS_len s
      refine Sat.chk ⟨?_, ?_⟩ ?_
      · simp only [List.length_cons, List.length_take, List.length_nil]; omega
      · simp only [List.length_cons, List.length_take, List.length_nil]; omega
      have eq : (headS num s :: (chunksS s).take (i - 1)) ++ [chunkS s (i - 1)] = headS num s :: (chunksS s).take (i + 1 - 1) := by
        rw [List.cons_append]
        congr 1
        have := chunksS_get s (i - 1)
        rw [if_pos (by omega)] at this
        rw [show i + 1 - 1 = (i - 1) + 1 by omega, List.take_add_one, this]
        rfl
      rw [eq, show ((i : Int) + 1) = ((i + 1 : Nat) : Int) by omega]
      exact Sat.eq (ih (i + 1) (by omega) (by omega) (by omega)) rfl
    · simp only [decide_eq_false_iff_not] at hi
      have : i = secsN s.length := by omega
      subst this
      rw [List.take_of_length_le (by rw [chunksS_len]; omega)]
      exact Sat.some rfl
theorem laid_l1 (s : List UInt8) (num : Nat) (hs : s.length ≤ 500) (hnum : num < 1000) : ∀ (k : Nat) (m : Nat), s.length + m ≤ 104 + 128 * (secsN s.length - 1) → 104 + 128 * (secsN s.length - 1) - (s.length + m) < k →
    offshootref04_Laid.l1 KD k (num : Int) (s ++ zeros m) (s.length : Int) (secsN s.length : Int) = some (laidS num s) := by
  have hl := padS_len s
  have hk1 := secsN_pos s.length
  have hk5 := secsN_few hs
  intro k
  induction k with
  | zero => intro m h0 h1; omega
  | succ k ih =>
    intro m h0 h1
    refine Sat.get ?_
    rw [offshootref04_Laid.l1]
    have hz : (s ++ zeros m).length = s.length + m := by simp [zeros]
    rw [W_in (x := (secsN s.length : Int) - 1) (by omega) (by omega), W_in (x := 128 * ((secsN s.length : Int) - 1)) (by omega) (by omega), W_in (x := 104 + 128 * ((secsN s.length : Int) - 1)) (by omega) (by omega), hz]
    refine Sat.ite (fun hi => ?_) (fun hi => ?_)
    · simp only [decide_eq_true_eq] at hi
      refine Sat.chk (by simp only [List.length_cons, List.length_nil]; omega) ?_
      rw [List.append_assoc, zeros_snoc]
      exact Sat.eq (ih (m + 1) (by omega) (by omega)) rfl
    · simp only [decide_eq_false_iff_not] at hi
      have e : s ++ zeros m = padS s := by
        unfold padS
        congr 2; omega
      rw [e]
      refine Sat.bindE (eight_ref (by omega)) ?_
      refine Sat.bindE (by rw [WU_in (by omega) (by omega)]; exact eight_ref (show s.length < 1024 by omega)) ?_
      have l1 : (List.take (Int.toNat 104) (padS s)).length = 104 := by rw [List.length_take, show Int.toNat 104 = 104 from rfl]; omega
      have l0 : (eightS num ++ eightS s.length).length = 16 := by rw [List.length_append, eightS_len, eightS_len]
      refine Sat.chk (by rw [eightS_len, eightS_len]; omega) ?_
      refine Sat.chk ⟨by omega, by omega⟩ ?_
      refine Sat.chk (by rw [l0, l1]; omega) ?_
      refine Sat.bindE (eight_ref (by omega)) ?_
      refine Sat.chk (by rw [List.length_append, l0, l1, eightS_len]; omega) ?_
      exact Sat.eq (laid_l2 s num hs _ KD 1 (by omega) (by omega) (by unfold KD; omega)) rfl
theorem laid_eq (s : List UInt8) (num : Nat) (hs : s.length ≤ 500) (hnum : num < 1000) : offshootref04_Laid.f KD (num : Int) s = some (laidS num s) := by
  have hle := secsN_le s.length
  have hk5 := secsN_few hs
  refine Sat.get ?_
  unfold offshootref04_Laid.f
  refine Sat.bindE (refsec_eq KD s.length (by omega) (by unfold KD; omega)) ?_
  have := laid_l1 s num hs hnum KD 0 (by omega) (by unfold KD; omega)
  rw [show s ++ zeros 0 = s from List.append_nil s] at this
  exact Sat.eq this rfl
/-! ### What the law compares -/
theorem secs_l1 {N c a : Nat} {d : ODevDev} {V L : List Sec} (h : Is N d V c) (ha : a + L.length ≤ N) (hN : N ≤ 1000) (hL : ∀ j, j < L.length → V[a + j]? = L[j]?) : ∀ (k : Nat) (j : Nat), j ≤ L.length → L.length - j < k →
    offshootlaw04_sectors.l1 KD k (L.take j) d.steps d.off d.sure d.cache ((a + L.length : Nat) : Int) ((a + j : Nat) : Int) = some (L, d) := by
  intro k
  induction k with
  | zero => intro j h0 h1; omega
  | succ k ih =>
    intro j h0 h1
    refine Sat.get ?_
    rw [offshootlaw04_sectors.l1]
    refine Sat.ite (fun hi => ?_) (fun hi => ?_)
    · simp only [decide_eq_true_eq] at hi
      refine Sat.bindE (h.read (i := a + j) (by omega)) ?_
      have hj : j < L.length := by omega
      have e : V.getD (a + j) [] = L[j] := getD_of (by rw [hL j hj, List.getElem?_eq_getElem hj])
      dsimp only
      rw [e]
      refine Sat.chk ⟨?_, ?_⟩ ?_
      · simp only [List.length_cons, List.length_take, List.length_nil]; omega
      · simp only [List.length_cons, List.length_take, List.length_nil]; omega
      have e2 : L.take j ++ [L[j]] = L.take (j + 1) := by rw [List.take_add_one, List.getElem?_eq_getElem hj]; rfl
      rw [e2, W_in (by omega) (by omega), show (((a + j : Nat) : Int) + 1) = ((a + (j + 1) : Nat) : Int) by omega]
      exact Sat.eq (ih (j + 1) (by omega) (by omega)) rfl
    · simp only [decide_eq_false_iff_not] at hi
      rw [List.take_of_length_le (by omega)]
      exact Sat.some rfl
theorem same_l1 (L : List (List UInt8)) (hL : L.length ≤ 1000) : ∀ (k : Nat) (j : Nat), j ≤ L.length → L.length - j < k → offshootlaw04_same.l1 KD k L L (j : Int) = some true := by
  intro k
  induction k with
  | zero => intro j h0 h1; omega
  | succ k ih =>
    intro j h0 h1
    refine Sat.get ?_
    rw [offshootlaw04_same.l1]
    refine Sat.ite (fun hi => ?_) (fun hi => Sat.some rfl)
    simp only [decide_eq_true_eq] at hi
    refine Sat.chk ⟨by omega, hi⟩ ?_
    refine Sat.chk ⟨by omega, hi⟩ ?_
    refine Sat.ite (fun hh => by simp at hh) (fun _ => ?_)
    rw [W_in (by omega) (by omega), show ((j : Int) + 1) = ((j + 1 : Nat) : Int) by omega]
    exact Sat.eq (ih (j + 1) (by omega) (by omega)) rfl
theorem same_eq (L : List (List UInt8)) (hL : L.length ≤ 1000) : offshootlaw04_same.f KD L L = some true := by
  unfold offshootlaw04_same.f
  rw [if_neg (by simp)]
  exact same_l1 L hL KD 0 (by omega) (by unfold KD; omega)
theorem few_eq (s : List UInt8) : offshootlaw04_few.f s = some (s.take 500) := by
  refine Sat.get ?_
  unfold offshootlaw04_few.f
  refine Sat.ite (fun hi => ?_) (fun hi => ?_)
  · simp only [decide_eq_true_eq] at hi
    refine Sat.chk ⟨by omega, by omega⟩ ?_
    exact Sat.some rfl
  · simp only [decide_eq_false_iff_not] at hi
    rw [List.take_of_length_le (by omega)]
    exact Sat.some rfl
/-- What holds ahead of each entry. -/
structure Plays (n : Nat) (d : ODevDev) (V : List Sec) (hv : List (List UInt8)) (at' num first i : Nat) : Prop where
  is : Is (n + 2) d V 0
  ents : Ents V (n + 1) 1 first hv
  end' : at' = endOf 1 hv
  le : at' ≤ n + 1
  num' : num = first + hv.length
  first' : 7 ≤ first
  few : num ≤ 7 + i
  term : hv ≠ [] ∨ first = 7 → Term V (n + 1) at'
theorem plays_l1 (l : List (List UInt8)) (reset : Int) (n : Nat) (hn : n ≤ 40) : ∀ (k : Nat) (i : Nat) (d : ODevDev) (V : List Sec) (hv : List (List UInt8)) (at' num first : Nat), Plays n d V hv at' num first i → i ≤ 12 → 12 - i < k →
    offshootlaw04_LogPlays.l1 KD k hv 1 ((n + 1 : Nat) : Int) (at' : Int) (num : Int) d.steps d.off d.sure d.cache l reset (n : Int) ((n + 1 - at' : Nat) : Int) (num : Int) (first : Int) (i : Int) = some true := by
  intro k
  induction k with
  | zero => intro i d V hv at' num first h h0 h1; omega
  | succ k ih =>
    intro i d V hv at' num first h h0 h1
    refine Sat.get ?_
    rw [offshootlaw04_LogPlays.l1]
    refine Sat.ite (fun hi => ?_) (fun hi => ?_)
    · simp only [Bool.and_eq_true, decide_eq_true_eq] at hi
      have step : ∀ (d : ODevDev) (V : List Sec) (hv : List (List UInt8)) (at' num first : Nat), Plays n d V hv at' num first i →
          Sat (offshootlaw04_LogPlays.j1 (offshootlaw04_LogPlays.l1 KD k) KD hv 1 ((n + 1 : Nat) : Int) (at' : Int) (num : Int) d.steps d.off d.sure d.cache l reset (n : Int) ((n + 1 - at' : Nat) : Int) (num : Int) (first : Int) (i : Int)) fun r => r = true := by
        intro d V hv at' num first h
        obtain ⟨hI, hE, he, hle, hnum, hf7, hfew, hT⟩ := h
        unfold offshootlaw04_LogPlays.j1
        refine Sat.chk ⟨by omega, hi.1⟩ ?_
        refine Sat.bindE (few_eq _) ?_
        generalize hs' : (l.getD (Int.toNat (i : Int)) default).take 500 = s
        have hs : s.length ≤ 500 := by rw [← hs', List.length_take]; omega
        have hk1 := secsN_pos s.length
        have hk5 := secsN_few hs
        have next : ∀ (d : ODevDev) (V : List Sec) (hv : List (List UInt8)) (at' num first : Nat), Plays n d V hv at' num first (i + 1) →
            Sat (offshootlaw04_LogPlays.j2 (offshootlaw04_LogPlays.l1 KD k) KD d.steps d.off d.sure d.cache 1 ((n + 1 : Nat) : Int) (at' : Int) (num : Int) hv l reset (n : Int) ((n + 1 - at' : Nat) : Int) (num : Int) (first : Int) (i : Int)) fun r => r = true := by
          intro d V hv at' num first h
          unfold offshootlaw04_LogPlays.j2
          refine Sat.bindE (r := ((num : Int), ⟨1, ((n + 1 : Nat) : Int), (at' : Int), (num : Int)⟩, d)) rfl ?_
          rw [if_pos (by simp)]
          have hle := h.le
          refine Sat.bindE (r := (((n + 1 - at' : Nat) : Int), ⟨1, ((n + 1 : Nat) : Int), (at' : Int), (num : Int)⟩, d)) ?_ ?_
          · unfold log_Log_Room.f
            dsimp only
            rw [W_in (by omega) (by omega)]
            congr 2
            omega
          refine Sat.ite (fun hh => by simp at hh) (fun _ => ?_)
          rw [W_in (by omega) (by omega), show ((i : Int) + 1) = ((i + 1 : Nat) : Int) by omega]
          exact Sat.eq (ih (i + 1) d V hv at' num first h (by omega) (by omega)) rfl
        refine Sat.bindE (refsec_eq KD s.length (by omega) (by unfold KD; omega)) ?_
        by_cases hk : at' + secsN s.length ≤ n + 1
        · refine Sat.bind (add_ok hs hk (by omega) (by omega) (by omega) hI) fun t ht => ?_
          obtain ⟨t1, t2, t3⟩ := ht
          have hd : decide ((secsN s.length : Int) ≤ ((n + 1 - at' : Nat) : Int)) = true := by simp; omega
          rw [t1, t2, hd, if_pos (by simp)]
          refine Sat.bindE (sectors_eq s.length (by omega)) ?_
          refine Sat.ite (fun hh => by simp at hh) (fun _ => ?_)
          refine Sat.ite (fun _ => ?_) (fun hh => by simp at hh)
          refine Sat.bindE (laid_eq s num hs (by omega)) ?_
          have hVl := hI.len
          rw [W_in (x := 1 + (n : Int)) (by omega) (by omega), W_in (x := 1 + (n : Int) - ((n + 1 - at' : Nat) : Int)) (by omega) (by omega), W_in (x := 1 + (n : Int) - ((n + 1 - at' : Nat) : Int) + (secsN s.length : Int)) (by omega) (by omega)]
          rw [show 1 + (n : Int) - ((n + 1 - at' : Nat) : Int) = ((at' : Nat) : Int) by omega]
          refine Sat.bindE (r := (laidS num s, t.2.2)) ?_ ?_
          · unfold offshootlaw04_sectors.f
            have := secs_l1 (L := laidS num s) (a := at') t3 (by rw [laidS_len]; omega) (by omega) (fun j hj => added_in hVl hk (by omega) j (by rwa [laidS_len] at hj)) KD 0 (by omega) (by rw [laidS_len]; unfold KD; omega)
            rw [laidS_len] at this
            exact this
          refine Sat.bindE (same_eq _ (by rw [laidS_len]; omega)) ?_
          refine Sat.ite (fun hh => by simp at hh) (fun _ => ?_)
          have hvl : hv.length ≤ 12 := by omega
          refine Sat.chk ⟨?_, ?_⟩ ?_
          · simp only [List.length_cons, List.length_nil]; omega
          · simp only [List.length_cons, List.length_nil]; omega
          rw [W_in (x := ((n + 1 - at' : Nat) : Int) - (secsN s.length : Int)) (by omega) (by omega), WU_in (x := (num : Int) + 1) (by omega) (by omega)]
          rw [show ((n + 1 - at' : Nat) : Int) - (secsN s.length : Int) = ((n + 1 - (at' + secsN s.length) : Nat) : Int) by omega, show (num : Int) + 1 = ((num + 1 : Nat) : Int) by omega]
          refine next t.2.2 _ (hv ++ [s]) (at' + secsN s.length) (num + 1) first ⟨t3, ?_, ?_, hk, ?_, hf7, by omega, fun _ => added_term hVl hk (by omega)⟩
          · refine Ents.snoc hs (hE.keep fun q hq => added_below q (by omega)) (by omega) fun j hj => ?_
            rw [← he, ← hnum]
            exact added_in hVl hk (by omega) j hj
          · rw [endOf_snoc, he]
          · simp; omega
        · refine Sat.bindE (add_full hs hle (by omega) (by omega) hI) ?_
          have hd : decide ((secsN s.length : Int) ≤ ((n + 1 - at' : Nat) : Int)) = false := by simp; omega
          rw [hd, if_pos (by simp)]
          refine Sat.bindE (sectors_eq s.length (by omega)) ?_
          refine Sat.ite (fun hh => by simp at hh) (fun _ => ?_)
          refine Sat.ite (fun hh => by simp at hh) (fun _ => ?_)
          exact next d V hv at' num first ⟨hI, hE, he, hle, hnum, hf7, by omega, hT⟩
      refine Sat.ite (fun hr => ?_) (fun _ => step d V hv at' num first h)
      refine Sat.bindE (r := (⟨1, ((n + 1 : Nat) : Int), 1, (num : Int)⟩, d)) rfl ?_
      have hh := step d V [] 1 num num ⟨h.is, trivial, rfl, by omega, by simp, by have := h.num'; have := h.first'; omega, h.few, fun hc => ?_⟩
      · rw [show n + 1 - 1 = n by omega] at hh
        exact hh
      · have h7 : num = 7 := hc.resolve_left (by simp)
        have hl0 : hv.length = 0 := by have := h.num'; have := h.first'; omega
        have hnil : hv = [] := List.eq_nil_of_length_eq_zero hl0
        have h2 := h.term (.inr (by have := h.num'; omega))
        have h3 := h.end'
        rw [hnil] at h3
        have h4 : at' = 1 := h3
        rw [h4] at h2
        exact h2
    · have hnum := h.num'
      have hfew := h.few
      have hf7 := h.first'
      have hle := h.le
      refine Sat.ite (fun _ => Sat.some rfl) (fun hc => ?_)
      simp only [Bool.and_eq_false_iff, Bool.not_eq_false', decide_eq_true_eq, decide_eq_false_iff_not] at hc
      rw [W_in (by omega) (by omega), show ((n : Int) + 1) = ((n + 1 : Nat) : Int) by omega]
      have hT : Term V (n + 1) (endOf 1 hv) := by
        rw [← h.end']
        refine h.term ?_
        rcases hc with hc | hc
        · right; omega
        · left; rintro rfl; simp at hc
      refine Sat.bindE (open_eq (N := n + 2) (by omega) (by omega) h.is hv 1 first h.ents hT (by omega) (by omega) (by omega) (by omega)) ?_
      dsimp only
      simp only [decide_true, if_true, Bool.true_and]
      refine Sat.bindE (same_eq hv (by omega)) ?_
      simp only [if_true]
      refine Sat.bindE (r := (((first + hv.length : Nat) : Int), ⟨1, ((n + 1 : Nat) : Int), ((endOf 1 hv : Nat) : Int), ((first + hv.length : Nat) : Int)⟩, d)) rfl ?_
      dsimp only
      rw [← hnum]
      simp only [decide_true, Bool.and_self, if_true]
      refine Sat.bindE (r := (((n + 1 - at' : Nat) : Int), ⟨1, ((n + 1 : Nat) : Int), ((endOf 1 hv : Nat) : Int), (num : Int)⟩, d)) ?_ ?_
      · unfold log_Log_Room.f
        dsimp only
        rw [← h.end', W_in (by omega) (by omega)]
        congr 2
        omega
      · exact Sat.some (by simp)
theorem plays_true (l : List (List UInt8)) (room reset : Int) : ∃ K, offshootlaw04_LogPlays.f K l room reset = some true := by
  refine ⟨KD, Sat.get ?_⟩
  unfold offshootlaw04_LogPlays.f
  obtain ⟨m, hm, e⟩ := andI_mask room 31 (by decide)
  rw [show (31 : Int) = ((31 : Nat) : Int) from rfl, e, W_in (x := 2 + (m : Int)) (by omega) (by omega), W_in (x := 2 + (m : Int) + 2) (by omega) (by omega), W_in (x := 2 + (m : Int) + 1) (by omega) (by omega)]
  rw [show 2 + (m : Int) + 2 = ((m + 2 + 2 : Nat) : Int) by omega, show 2 + (m : Int) + 1 = ((m + 2 + 1 : Nat) : Int) by omega, show 2 + (m : Int) = ((m + 2 : Nat) : Int) by omega]
  generalize hn : m + 2 = n
  refine Sat.bind (new_is KD (n + 2) (by omega) (by unfold KD; omega)) fun t ht => ?_
  obtain ⟨t1, t2⟩ := ht
  have hT : Term (List.replicate (n + 2) (zeros 128)) (n + 1) 1 := by
    right
    rw [List.getElem?_replicate, if_pos (by omega)]
  refine Sat.bindE (open_eq (N := n + 2) (by omega) (by omega) t2 [] 1 7 trivial hT (by omega) (by omega) (by simp) (by simp)) ?_
  refine Sat.bindE awake04 ?_
  refine Sat.ite (fun hh => by simp [t1] at hh) (fun _ => ?_)
  have := plays_l1 l reset n (by omega) KD 0 t.1 _ [] 1 7 7 ⟨t2, trivial, rfl, by omega, by simp, by omega, by omega, fun _ => hT⟩ (by omega) (by unfold KD; omega)
  rw [show n + 1 - 1 = n by omega] at this
  exact Sat.eq this rfl
end Go.Proofs.Ytimaibcaehagjaa

/- Plain law of check.Check: it is told for steps as they are parsed, and what it lets pass. -/
import Derived.Test.YtbjbgodcenopnaaQp
namespace Go.Proofs.Ytbjbgodcenopnaa
set_option linter.unusedVariables false
set_option linter.unusedSimpArgs false
set_option maxHeartbeats 2000000
abbrev nBy : List UInt8 := [98, 121]
abbrev nTimes : List UInt8 := [116, 105, 109, 101, 115]
abbrev nUntil : List UInt8 := [117, 110, 116, 105, 108]
abbrev nEmit : List UInt8 := [101, 109, 105, 116]
abbrev nTo : List UInt8 := [116, 111]
abbrev nFrom : List UInt8 := [102, 114, 111, 109]
abbrev nAddE : List UInt8 := [97, 100, 100, 69]
abbrev nRepeat : List UInt8 := [114, 101, 112, 101, 97, 116]
abbrev nOrder : List UInt8 := [111, 114, 100, 101, 114]
/-- Behind which steps one may stand. -/
def aft (n : List UInt8) : List (List UInt8) :=
  if n = nBy then [nOrder, [103, 114, 111, 117, 112], [103, 114, 111, 117, 112, 67, 111, 117, 110, 116], [100, 101, 100, 117, 112], nBy]
  else if n = nTimes ∨ n = nUntil ∨ n = nEmit then [nRepeat, nTimes, nUntil, nEmit]
  else if n = nTo ∨ n = nFrom then [nAddE, nTo, nFrom] else []
theorem after_eq (n : List UInt8) : check_after.f n = some (aft n) := by
  unfold check_after.f check_after.j1 check_after.j2 aft
  by_cases h1 : n = nBy
  · simp [h1]
  by_cases h2 : n = nTimes
  · simp [h2]
  by_cases h3 : n = nUntil
  · simp [h3]
  by_cases h4 : n = nEmit
  · simp [h4]
  by_cases h5 : n = nTo
  · simp [h5]
  by_cases h6 : n = nFrom
  · simp [h6]
  simp [h1, h2, h3, h4, h5, h6]
theorem aft_cases {n : List UInt8} (h : aft n ≠ []) : n = nBy ∨ n = nTimes ∨ n = nUntil ∨ n = nEmit ∨ n = nTo ∨ n = nFrom := by
  unfold aft at h
  by_cases h1 : n = nBy
  · exact .inl h1
  rw [if_neg h1] at h
  by_cases h2 : n = nTimes ∨ n = nUntil ∨ n = nEmit
  · rcases h2 with h2 | h2 | h2
    · exact .inr (.inl h2)
    · exact .inr (.inr (.inl h2))
    · exact .inr (.inr (.inr (.inl h2)))
  rw [if_neg h2] at h
  by_cases h3 : n = nTo ∨ n = nFrom
  · rcases h3 with h3 | h3
    · exact .inr (.inr (.inr (.inr (.inl h3))))
    · exact .inr (.inr (.inr (.inr (.inr h3))))
  rw [if_neg h3] at h
  exact absurd rfl h
def names57 : List (List UInt8) := [[86], [69], [104, 97, 115, 73, 100], [105, 110, 106, 101, 99, 116], [97, 100, 100, 86], [97, 100, 100, 69], [104, 97, 115, 78, 111, 116], [97, 115], [115, 101, 108, 101, 99, 116], [104, 97, 115], [104, 97, 115, 76, 97, 98, 101, 108], [111, 117, 116], [105, 110], [98, 111, 116, 104], [111, 117, 116, 69], [105, 110, 69], [98, 111, 116, 104, 69], [118, 97, 108, 117, 101, 115], [105, 115], [119, 104, 101, 114, 101], [110, 111, 116], [111, 112, 116, 105, 111, 110, 97, 108], [114, 101, 112, 101, 97, 116], [108, 111, 99, 97, 108], [117, 110, 116, 105, 108], [116, 111], [102, 114, 111, 109], [97, 110, 100], [111, 114], [117, 110, 105, 111, 110], [99, 111, 97, 108, 101, 115, 99, 101], [99, 104, 111, 111, 115, 101], [108, 105, 109, 105, 116], [115, 107, 105, 112], [116, 97, 105, 108], [116, 105, 109, 101, 115], [114, 97, 110, 103, 101], [99, 111, 110, 115, 116, 97, 110, 116], [97, 100, 100], [109, 117, 108], [112, 114, 111, 112, 101, 114, 116, 121], [98, 121], [100, 101, 100, 117, 112], [115, 105, 109, 112, 108, 101, 80, 97, 116, 104], [111, 117, 116, 86], [105, 110, 86], [98, 111, 116, 104, 86], [105, 100], [108, 97, 98, 101, 108], [105, 100, 101, 110, 116, 105, 116, 121], [112, 97, 116, 104], [102, 111, 108, 100], [117, 110, 102, 111, 108, 100], [99, 111, 117, 110, 116], [115, 117, 109], [109, 105, 110], [109, 97, 120], [109, 101, 97, 110], [103, 114, 111, 117, 112], [103, 114, 111, 117, 112, 67, 111, 117, 110, 116], [111, 114, 100, 101, 114], [98, 97, 114, 114, 105, 101, 114], [101, 109, 105, 116], [100, 114, 111, 112]]
/-- How many arguments a step has for sure. -/
def need (n : List UInt8) : Nat :=
  if n = [104, 97, 115] ∨ n = [105, 115] ∨ n = [108, 105, 109, 105, 116] ∨ n = [115, 107, 105, 112] ∨ n = nRepeat ∨ n = nTimes ∨ n = nUntil ∨ n = nTo ∨ n = nFrom then 1 else if n = [112, 114, 111, 112, 101, 114, 116, 121] then 2 else 0
/-- Steps of which all arguments are traversals. -/
def trv (n : List UInt8) : Bool :=
  decide (n ∈ ([[119, 104, 101, 114, 101], [110, 111, 116], [111, 112, 116, 105, 111, 110, 97, 108], nRepeat, [108, 111, 99, 97, 108], nUntil, nTo, nFrom, [97, 110, 100], [111, 114], [117, 110, 105, 111, 110], [99, 111, 97, 108, 101, 115, 99, 101], [99, 104, 111, 111, 115, 101]] : List (List UInt8)))
def star (form : List UInt8) : Bool := decide (form.length = 2) && decide (FW.bt form 1 = 42)
def formOk (n form : List UInt8) : Bool := (if star form then decide (need n = 0) else decide (need n ≤ form.length)) && (!trv n || (form.all fun c => decide (c = 116)) || decide (form = [116, 42]))
theorem forms_in (n : List UInt8) (h : n ∈ names57) : ∃ fs, check_forms.f n = some fs ∧ fs.length ≤ 10 ∧ (∀ form ∈ fs, formOk n form = true ∧ form.length ≤ 10) := by
  have key : ∀ n ∈ names57, (match check_forms.f n with | some fs => decide (fs.length ≤ 10) && fs.all (fun form => formOk n form && decide (form.length ≤ 10)) | none => false) = true := by decide +kernel
  have := key n h
  split at this
  · rename_i fs hfs
    simp only [Bool.and_eq_true, decide_eq_true_eq, List.all_eq_true] at this
    exact ⟨fs, hfs, this.1, this.2⟩
  · cases this
theorem forms_out (n : List UInt8) (h : n ∉ names57) : check_forms.f n = some [] := by
  simp only [names57, List.mem_cons, List.not_mem_nil, or_false, not_or] at h
  simp [check_forms.f, check_forms.j1, check_forms.j2, check_forms.j3, check_forms.j4, check_forms.j5, check_forms.j6, check_forms.j7, check_forms.j8, h]
theorem name_sat (K : Nat) (hK : 600 < K) (s : List UInt8) (hs : s.length ≤ 500) : Sat (graph_Name.f K s) fun _ => True := by
  have hb : (FW.bytesI s).length = s.length := by simp [FW.bytesI]
  have key : ∀ (k : Nat) (i : Int), 0 ≤ i → i ≤ (s.length : Int) → (s.length : Int) - i < k → Sat (graph_Name.l1 K k s (FW.bytesI s) (List.length (FW.bytesI s) : Int) i) fun _ => True := by
    intro k
    induction k with
    | zero => intro i h0 h1 h2; omega
    | succ k ih =>
      intro i h0 h1 h2
      rw [graph_Name.l1, hb]
      refine Sat.ite (fun h => ?_) (fun _ => Sat.some trivial)
      have hi : i < (s.length : Int) := by simpa using h
      refine Sat.chk ⟨h0, hi⟩ (Sat.ite (fun _ => Sat.some trivial) (fun _ => ?_))
      rw [W_in (by omega) (by omega), ← hb]
      exact ih (i + 1) (by omega) (by omega) (by omega)
  unfold graph_Name.f
  exact key K 0 (by omega) (by omega) (by omega)
theorem Sat.bindT {α β : Type} {P : α → Prop} {F : β → Option α} {p : Prop} [Decidable p] {x : Option β} {d : β} (h : p → Sat x (fun _ => True)) (h1 : ∀ r, Sat (F r) P) : Sat (Option.bind (if p then x else Option.some d) F) P := by
  by_cases hp : p
  · rw [if_pos hp]; exact Sat.bind (h hp) (fun r _ => h1 r)
  · rw [if_neg hp]; exact h1 d
theorem is_sat (K : Nat) (hK : 600 < K) (a : ApiArg) (ha : a.V.S.length ≤ 500) (c : Int) (n : List UInt8) : Sat (check_is.f K a c n) fun b => c = 116 → b = true → a.Kind = 3 := by
  unfold check_is.f
  refine Sat.bindT (fun _ => name_sat K hK _ ha) fun t1 => ?_
  refine Sat.ite (fun h => Sat.some fun hc => ?_) (fun _ => ?_)
  · have : c = 118 := by simpa using h
    omega
  refine Sat.ite (fun h => Sat.some fun hc => ?_) (fun _ => ?_)
  · have : c = 110 := by simpa using h
    omega
  refine Sat.ite (fun h => Sat.some fun hc => ?_) (fun _ => ?_)
  · have : c = 105 := by simpa using h
    omega
  refine Sat.ite (fun h => Sat.some fun hc => ?_) (fun _ => ?_)
  · have : c = 107 := by simpa using h
    omega
  refine Sat.ite (fun h => Sat.some fun hc => ?_) (fun _ => ?_)
  · have : c = 113 := by simpa using h
    omega
  refine Sat.ite (fun h => Sat.some fun hc hb => by simpa using hb) (fun h => ?_)
  have h116 : c ≠ 116 := by simpa using h
  refine Sat.ite (fun _ => Sat.some fun hc => absurd hc h116) (fun _ => ?_)
  refine Sat.ite (fun _ => Sat.some fun hc => absurd hc h116) (fun _ => ?_)
  exact Sat.ite (fun _ => Sat.some fun hc => absurd hc h116) (fun _ => Sat.some fun hc => absurd hc h116)
/-- Arguments that are as their step wants them. -/
def Fit (s : ApiStep) : Prop := need s.Name ≤ s.Args.length ∧ (trv s.Name = true → ∀ a ∈ s.Args, a.Kind = 3)
def ShortA (l : List ApiArg) : Prop := l.length ≤ 12 ∧ ∀ a ∈ l, a.V.S.length ≤ 500
theorem getD_mem {α : Type} [Inhabited α] (l : List α) (i : Nat) (h : i < l.length) : List.getD l i default ∈ l := by
  rw [List.getD_eq_getElem?_getD, List.getElem?_eq_getElem h]
  exact List.getElem_mem h
theorem getD_all {α : Type} [Inhabited α] {l : List α} {p : α → Prop} (h : ∀ i, i < l.length → p (List.getD l i default)) : ∀ a ∈ l, p a := by
  intro a ha
  obtain ⟨i, hi, rfl⟩ := List.getElem_of_mem ha
  have := h i hi
  rwa [List.getD_eq_getElem?_getD, List.getElem?_eq_getElem hi, Option.getD_some] at this
theorem lt_end {i : Int} {n j : Nat} (h : decide (i < (n : Int)) = false) (hj : j < n) : (j : Int) < i := by
  have : ¬ i < (n : Int) := by simpa using h
  omega
theorem iF_sat (K : Nat) (hK : 600 < K) (l : List ApiArg) (hl : ShortA l) (form : List UInt8) (hf : 0 < form.length) (s : ApiStep) : ∀ (k : Nat) (i : Int), 0 ≤ i → i ≤ (l.length : Int) → (l.length : Int) - i < k → (∀ j : Nat, (j : Int) < i → FW.bt form 0 = 116 → (List.getD l j default).Kind = 3) →
    Sat (iF_fits.l1 K ⟨form⟩ s k l (l.length : Int) i) fun r => ¬ 0 ≤ r → FW.bt form 0 = 116 → ∀ a ∈ l, a.Kind = 3 := by
  intro k
  induction k with
  | zero => intro i h0 h1 h2; omega
  | succ k ih =>
    intro i h0 h1 h2 hj
    rw [iF_fits.l1]
    refine Sat.ite (fun h => ?_) (fun h => Sat.some fun _ h116 => getD_all fun j hj' => hj j (lt_end h hj') h116)
    have hi : i < (l.length : Int) := by simpa using h
    refine Sat.chk ⟨h0, hi⟩ ?_
    have hm := getD_mem l i.toNat (by omega)
    have hs1 : Sat (check_fits_1.f K (List.getD l i.toNat default) ⟨form⟩ s) fun b => b = false → FW.bt form 0 = 116 → (List.getD l i.toNat default).Kind = 3 := by
      unfold check_fits_1.f
      refine Sat.chk ⟨by omega, by show (0 : Int) < form.length; omega⟩ ?_
      refine Sat.bind (is_sat K hK _ (hl.2 _ hm) _ _) fun b hb => Sat.some fun hf h116 => hb h116 (by simpa using hf)
    refine Sat.bind hs1 fun b hb => Sat.ite (fun _ => Sat.some fun hn => absurd h0 hn) (fun hbf => ?_)
    have hl2 := hl.1
    rw [W_in (by omega) (by omega)]
    refine ih (i + 1) (by omega) (by omega) (by omega) fun j hj' h116 => ?_
    by_cases e : (j : Int) = i
    · have := hb hbf h116
      rw [← e, Int.toNat_natCast] at this
      exact this
    · exact hj j (by omega) h116
theorem fits_l1 (K : Nat) (hK : 600 < K) (s : ApiStep) (hl : ShortA s.Args) (form : List UInt8) (hf : form.length = s.Args.length) : ∀ (k : Nat) (i : Int), 0 ≤ i → i ≤ (s.Args.length : Int) → (s.Args.length : Int) - i < k → (∀ j : Nat, (j : Int) < i → FW.bt form j = 116 → (List.getD s.Args j default).Kind = 3) →
    Sat (check_fits.l1 K k form s s.Args (s.Args.length : Int) i) fun r => r = true → ∀ j : Nat, j < s.Args.length → FW.bt form j = 116 → (List.getD s.Args j default).Kind = 3 := by
  intro k
  induction k with
  | zero => intro i h0 h1 h2; omega
  | succ k ih =>
    intro i h0 h1 h2 hj
    rw [check_fits.l1]
    refine Sat.ite (fun h => ?_) (fun h => Sat.some fun _ j hj' h116 => hj j (lt_end h hj') h116)
    have hi : i < (s.Args.length : Int) := by simpa using h
    refine Sat.chk ⟨h0, hi⟩ (Sat.chk ⟨h0, by omega⟩ ?_)
    have hm := getD_mem s.Args i.toNat (by omega)
    refine Sat.bind (is_sat K hK _ (hl.2 _ hm) _ _) fun b hb => Sat.ite (fun _ => Sat.some fun h => by cases h) (fun hbt => ?_)
    have hl2 := hl.1
    rw [W_in (by omega) (by omega)]
    refine ih (i + 1) (by omega) (by omega) (by omega) fun j hj' h116 => ?_
    by_cases e : (j : Int) = i
    · have := hb (by rw [← e]; exact h116) (by simpa using hbt)
      rw [← e, Int.toNat_natCast] at this
      exact this
    · exact hj j (by omega) h116
theorem bt_all {form : List UInt8} (h : (form.all fun c => decide (c = 116)) = true) : ∀ j : Nat, j < form.length → FW.bt form j = 116 := by
  intro j hj
  rw [List.all_eq_true] at h
  have hm : form[j] ∈ form := List.getElem_mem _
  have := h _ hm
  have hd : form.drop (j : Int).toNat = form[j] :: form.drop (j + 1) := by rw [Int.toNat_natCast]; exact List.drop_eq_getElem_cons hj
  rw [bt_at hd]
  have e : form[j] = 116 := by simpa using this
  rw [e]; rfl
theorem fits_sat (K : Nat) (hK : 600 < K) (s : ApiStep) (hl : ShortA s.Args) (form : List UInt8) (hf : form.length ≤ 10) : Sat (check_fits.f K s form) fun r => r = true → formOk s.Name form = true → Fit s := by
  unfold check_fits.f
  have hl2 := hl.1
  refine Sat.chk (fun h => ?_) ?_
  · have : (form.length : Int) = 2 := by simpa using h
    omega
  refine Sat.ite (fun h => ?_) (fun h => ?_)
  · simp only [Bool.and_eq_true, decide_eq_true_eq] at h
    have hst : star form = true := by
      unfold star
      simp only [Bool.and_eq_true, decide_eq_true_eq]
      exact ⟨by omega, h.2⟩
    unfold cF_fits.f
    refine Sat.bind (Sat.bind (iF_sat K hK s.Args hl form (by omega) s K 0 (by omega) (by omega) (by omega) (fun j hj => by omega)) fun r hr => Sat.some (P := fun b => b = false → FW.bt form 0 = 116 → ∀ a ∈ s.Args, a.Kind = 3) fun hb => hr (by simpa using hb)) fun b hb => Sat.some fun hbt hok => ?_
    unfold formOk at hok
    rw [if_pos hst] at hok
    simp only [Bool.and_eq_true, Bool.or_eq_true, Bool.not_eq_true', decide_eq_true_eq] at hok
    refine ⟨by omega, fun ht => hb (by simpa using hbt) ?_⟩
    rcases hok.2 with (h1 | h1) | h1
    · rw [ht] at h1; cases h1
    · have := bt_all h1 1 (by omega)
      have h2 : FW.bt form 1 = 42 := h.2
      have h3 : FW.bt form ((1 : Nat) : Int) = 116 := this
      rw [show ((1 : Nat) : Int) = 1 from rfl, h2] at h3
      omega
    · rw [h1]; rfl
  · refine Sat.ite (fun _ => Sat.some fun h => by cases h) (fun hlen => ?_)
    have hlen' : form.length = s.Args.length := by
      have : (form.length : Int) = (s.Args.length : Int) := by simpa using hlen
      omega
    refine (fits_l1 K hK s hl form hlen' K 0 (by omega) (by omega) (by omega) (fun j hj => by omega)).mono fun r hr hrt hok => ?_
    have hst : star form = false := by
      unfold star
      simp only [Bool.and_eq_false_iff, decide_eq_false_iff_not] at h ⊢
      rcases h with h | h
      · exact .inl (by omega)
      · exact .inr h
    unfold formOk at hok
    rw [hst] at hok
    simp only [Bool.false_eq_true, if_false, Bool.and_eq_true, Bool.or_eq_true, Bool.not_eq_true', decide_eq_true_eq] at hok
    refine ⟨by omega, fun ht => getD_all fun j hj => hr hrt j hj ?_⟩
    rcases hok.2 with (h1 | h1) | h1
    · rw [ht] at h1; cases h1
    · exact bt_all h1 j (by omega)
    · rw [h1] at hst; exact absurd hst (by decide)
theorem iFs_sat (K : Nat) (hK : 600 < K) (s : ApiStep) (hl : ShortA s.Args) (fs : List (List UInt8)) (hfs : fs.length ≤ 10) (hok : ∀ form ∈ fs, formOk s.Name form = true ∧ form.length ≤ 10) : ∀ (k : Nat) (i : Int), 0 ≤ i → i ≤ (fs.length : Int) → (fs.length : Int) - i < k →
    Sat (iF_steps.l1 K s k fs (fs.length : Int) i) fun r => 0 ≤ r → Fit s := by
  intro k
  induction k with
  | zero => intro i h0 h1 h2; omega
  | succ k ih =>
    intro i h0 h1 h2
    rw [iF_steps.l1]
    refine Sat.ite (fun h => ?_) (fun h => Sat.some fun hn => absurd hn (by decide))
    have hi : i < (fs.length : Int) := by simpa using h
    refine Sat.chk ⟨h0, hi⟩ ?_
    have hm := getD_mem fs i.toNat (by omega)
    unfold check_steps_1.f
    refine Sat.bind (Sat.bind (fits_sat K hK s hl _ (hok _ hm).2) fun r hr => Sat.some (P := fun b => b = true → Fit s) fun hb => hr hb (hok _ hm).1) fun b hb => Sat.ite (fun hbt => Sat.some fun _ => hb hbt) (fun _ => ?_)
    rw [W_in (by omega) (by omega)]
    exact ih (i + 1) (by omega) (by omega) (by omega)
theorem cFs_sat (K : Nat) (hK : 600 < K) (s : ApiStep) (hl : ShortA s.Args) (fs : List (List UInt8)) (hfs : fs.length ≤ 10) (hok : ∀ form ∈ fs, formOk s.Name form = true ∧ form.length ≤ 10) : Sat (cF_steps.f K fs s) fun r => r = true → Fit s := by
  unfold cF_steps.f iF_steps.f
  exact Sat.bind (iFs_sat K hK s hl fs hfs hok K 0 (by omega) (by omega) (by omega)) fun r hr => Sat.some fun hb => hr (by simpa using hb)
theorem contains_sat (K : Nat) (hK : 600 < K) (l : List (List UInt8)) (hl : l.length ≤ 10) (x : List UInt8) : Sat (slices_Contains_string_string.f K l x) fun b => b = true → x ∈ l := by
  have key : ∀ (k : Nat) (i : Int), 0 ≤ i → i ≤ (l.length : Int) → (l.length : Int) - i < k → Sat (slices_Index_string_string.l1 K k l x (l.length : Int) i) fun r => 0 ≤ r → x ∈ l := by
    intro k
    induction k with
    | zero => intro i h0 h1 h2; omega
    | succ k ih =>
      intro i h0 h1 h2
      rw [slices_Index_string_string.l1]
      refine Sat.ite (fun h => ?_) (fun h => Sat.some fun hn => absurd hn (by decide))
      have hi : i < (l.length : Int) := by simpa using h
      refine Sat.chk ⟨h0, hi⟩ (Sat.ite (fun he => Sat.some fun _ => ?_) (fun _ => ?_))
      · have e : x = List.getD l i.toNat default := by simpa using he
        rw [e]; exact getD_mem l _ (by omega)
      · rw [W_in (by omega) (by omega)]
        exact ih (i + 1) (by omega) (by omega) (by omega)
  unfold slices_Contains_string_string.f slices_Index_string_string.f
  exact Sat.bind (key K 0 (by omega) (by omega) (by omega)) fun r hr => Sat.some fun hb => hr (by simpa using hb)
def nm (l : List ApiStep) (i : Nat) : List UInt8 := (List.getD l i default).Name
/-- How many of one name stand in the row that ends at a place. -/
def rn (l : List ApiStep) (n : List UInt8) : Nat → Nat
  | 0 => if nm l 0 = n then 1 else 0
  | i + 1 => (if nm l (i + 1) = n then 1 else 0) + (if aft (nm l (i + 1)) = [] then 0 else rn l n i)
theorem rn_le (l : List ApiStep) (n : List UInt8) : ∀ i, rn l n i ≤ i + 1
  | 0 => by unfold rn; split <;> omega
  | i + 1 => by
    have := rn_le l n i
    unfold rn
    split <;> split <;> omega
theorem run_l1 (K : Nat) (l : List ApiStep) (hl : l.length ≤ 150) (n : List UInt8) : ∀ (i k : Nat) (c : Int), i < l.length → i + 2 ≤ k → 0 ≤ c → c ≤ 1000 - (i : Int) → ∃ of_, check_run.l1 K k l (i : Int) n c = some (c + (rn l n i : Int), of_) := by
  intro i
  induction i with
  | zero =>
    intro k c hi hk h0 h1
    obtain ⟨k, rfl⟩ : ∃ q, k = q + 1 + 1 := ⟨k - 2, by omega⟩
    have e0 : (if aft (nm l 0) = [] then 0 else 0) = 0 := by simp
    rw [check_run.l1, if_pos (by simp), if_pos ⟨by omega, by omega⟩]
    have j1 : ∀ c' : Int, ∃ of_, check_run.j1 (check_run.l1 K (k + 1)) K l ((0 : Nat) : Int) n c' = some (c', of_) := by
      intro c'
      unfold check_run.j1
      rw [if_pos ⟨by omega, by omega⟩, after_eq, Option.bind_some]
      by_cases ha : (aft (List.getD l (Int.toNat ((0 : Nat) : Int)) default).Name).isEmpty = true
      · rw [if_pos ha, if_pos ⟨by omega, by omega⟩]; exact ⟨_, rfl⟩
      · rw [if_neg ha, W_in (by omega) (by omega), check_run.l1, if_neg (by decide)]
        exact ⟨_, rfl⟩
    have en : (List.getD l (Int.toNat ((0 : Nat) : Int)) default).Name = nm l 0 := rfl
    rw [en]
    by_cases h : nm l 0 = n
    · rw [if_pos (by simpa using h), W_in (by omega) (by omega)]
      obtain ⟨o, ho⟩ := j1 (c + 1)
      exact ⟨o, by rw [ho]; simp [rn, h]⟩
    · rw [if_neg (by simpa using h)]
      obtain ⟨o, ho⟩ := j1 c
      exact ⟨o, by rw [ho]; simp [rn, h]⟩
  | succ i ih =>
    intro k c hi hk h0 h1
    obtain ⟨k, rfl⟩ : ∃ q, k = q + 1 := ⟨k - 1, by omega⟩
    rw [check_run.l1, if_pos (by simp; omega), if_pos ⟨by omega, by omega⟩]
    have en : (List.getD l (Int.toNat ((i + 1 : Nat) : Int)) default).Name = nm l (i + 1) := by rw [Int.toNat_natCast]; rfl
    have j1 : ∀ c' : Int, 0 ≤ c' → c' ≤ 1000 - (i : Int) → ∃ of_, check_run.j1 (check_run.l1 K k) K l ((i + 1 : Nat) : Int) n c' = some (c' + ((if aft (nm l (i + 1)) = [] then 0 else rn l n i : Nat) : Int), of_) := by
      intro c' hc0 hc'
      unfold check_run.j1
      rw [if_pos ⟨by omega, by omega⟩, after_eq, Option.bind_some, en]
      by_cases ha : aft (nm l (i + 1)) = []
      · rw [if_pos (by simp [ha]), if_pos ⟨by omega, by omega⟩, if_pos ha]; exact ⟨nm l (i + 1), by simp⟩
      · rw [if_neg (by simpa using ha), W_in (by omega) (by omega), if_neg ha]
        obtain ⟨o, ho⟩ := ih k c' (by omega) (by omega) hc0 hc'
        exact ⟨o, by rw [show ((i + 1 : Nat) : Int) - 1 = (i : Int) by omega]; exact ho⟩
    rw [en]
    by_cases h : nm l (i + 1) = n
    · rw [if_pos (by simpa using h), W_in (by omega) (by omega)]
      obtain ⟨o, ho⟩ := j1 (c + 1) (by omega) (by omega)
      exact ⟨o, by rw [ho, rn, if_pos h]; congr 2; omega⟩
    · rw [if_neg (by simpa using h)]
      obtain ⟨o, ho⟩ := j1 c h0 (by omega)
      exact ⟨o, by rw [ho, rn, if_neg h]; congr 2; omega⟩
/-- Where a step stands well. -/
def PlAt (l : List ApiStep) (i : Nat) : Prop := aft (nm l i) ≠ [] → 0 < i ∧ nm l (i - 1) ∈ aft (nm l i) ∧ (nm l i ≠ nBy → rn l (nm l i) i ≤ 1)
theorem place_j1 (K : Nat) (y : ApiStep) (l : List ApiStep) (hl : l.length ≤ 150) (i : Nat) (hi : i < l.length) : Sat (check_place.j1 K y l (i : Int)) fun _ => True := by
  unfold check_place.j1
  rw [W_in (by omega) (by omega)]
  have hb : decide ((i : Int) + 1 = (l.length : Int)) = false → (0 : Int) ≤ (i : Int) + 1 ∧ (i : Int) + 1 < (l.length : Int) := by
    intro h
    have : ¬ (i : Int) + 1 = (l.length : Int) := by simpa using h
    omega
  refine Sat.chk hb ?_
  refine Sat.bindT (fun _ => Sat.eq (after_eq _) trivial) fun t1 => ?_
  have hb2 : (decide ((i : Int) + 1 = (l.length : Int)) || t1.isEmpty) = false → (0 : Int) ≤ (i : Int) + 1 ∧ (i : Int) + 1 < (l.length : Int) := by
    intro h
    simp only [Bool.or_eq_false_iff] at h
    exact hb h.1
  refine Sat.chk (fun h _ => hb2 h) (Sat.chk (fun _ h _ => hb2 h) ?_)
  exact Sat.ite (fun _ => Sat.some trivial) (fun _ => Sat.some trivial)
theorem aft_len (n : List UInt8) : (aft n).length ≤ 10 := by
  unfold aft
  split
  · simp
  · split
    · simp
    · split <;> simp
theorem place_sat (K : Nat) (hK : 600 < K) (l : List ApiStep) (hl : l.length ≤ 150) (i : Nat) (hi : i < l.length) (hA : (List.getD l i default).Args.length ≤ 12) (top : Bool) : Sat (check_place.f K l (i : Int) top) fun r => r = 0 → PlAt l i := by
  unfold check_place.f
  have en : (List.getD l (Int.toNat (i : Int)) default).Name = nm l i := by rw [Int.toNat_natCast]; rfl
  refine Sat.chk ⟨by omega, by omega⟩ ?_
  have no : ∀ {e : Int}, e ≠ 0 → Sat (some e) fun r => r = 0 → PlAt l i := fun he => Sat.some fun h => absurd h he
  refine Sat.ite (fun _ => no (by decide)) (fun _ => ?_)
  rw [en]
  refine Sat.bindE (after_eq _) ?_
  refine Sat.ite (fun hne => ?_) (fun he => ?_)
  · have hb : decide ((i : Int) = 0) = false → (0 : Int) ≤ IntKind.wrap .i64 ((i : Int) - 1) ∧ IntKind.wrap .i64 ((i : Int) - 1) < (l.length : Int) := by
      intro h
      have : ¬ (i : Int) = 0 := by simpa using h
      rw [W_in (by omega) (by omega)]
      omega
    refine Sat.chk hb ?_
    by_cases h0 : (i : Int) = 0
    · rw [if_neg (by simpa using h0)]
      refine Sat.bindE rfl ?_
      exact Sat.ite (fun _ => no (by decide)) (fun h => by simp [h0] at h)
    rw [if_pos (by simpa using h0), W_in (x := (i : Int) - 1) (by omega) (by omega)]
    have en1 : (List.getD l (Int.toNat ((i : Int) - 1)) default).Name = nm l (i - 1) := by
      rw [show ((i : Int) - 1).toNat = i - 1 by omega]; rfl
    rw [en1]
    refine Sat.bind (contains_sat K hK _ (aft_len _) _) fun t3 ht3 => ?_
    refine Sat.ite (fun _ => no (by decide)) (fun h3 => ?_)
    have h3' : t3 = true := by
      simp only [Bool.or_eq_false_iff] at h3
      simpa using h3.2
    unfold check_run.f
    obtain ⟨of_, hrun⟩ := run_l1 K l hl (nm l i) i K 0 hi (by omega) (by omega) (by omega)
    refine Sat.bindE hrun ?_
    refine Sat.bind (R := fun m => nm l i ≠ nBy → m = 1) ?_ fun m hm => ?_
    · unfold check_most.f
      refine Sat.ite (fun h => Sat.some fun hn => ?_) (fun _ => Sat.ite (fun h => Sat.some fun hn => ?_) (fun _ => Sat.some fun _ => rfl))
      · simp only [Bool.and_eq_true, decide_eq_true_eq] at h; exact absurd h.1 hn
      · simp only [Bool.and_eq_true, decide_eq_true_eq] at h; exact absurd h.1 hn
    refine Sat.ite (fun _ => no (by decide)) (fun hle => ?_)
    have hfin : ∀ r : Int, r = 0 → PlAt l i := fun _ _ _ => ⟨by omega, ht3 h3', fun hn => by
      have h1 := hm hn
      have h2 : ¬ m < 0 + (rn l (nm l i) i : Int) := by simpa using hle
      omega⟩
    refine Sat.chk (fun h => ?_) (Sat.ite (fun _ => no (by decide)) (fun _ => (place_j1 K _ l hl i hi).mono fun r _ => hfin r))
    simp only [Bool.and_eq_true, decide_eq_true_eq] at h
    have hl0 := h.2
    rw [Int.toNat_natCast] at hl0 ⊢
    rw [W_in (by omega) (by omega)]; omega
  · have ha : aft (nm l i) = [] := by simpa using he
    exact (place_j1 K _ l hl i hi).mono fun r _ _ hn => absurd ha hn
mutual
/-- Steps that may be. -/
def CS : List ApiStep → Prop
  | [] => True
  | x :: r => CS1 x ∧ CS r
def CS1 : ApiStep → Prop
  | ⟨n, l⟩ => (n ∈ names57 ∧ Fit ⟨n, l⟩) ∧ CA l
def CA : List ApiArg → Prop
  | [] => True
  | a :: r => CA1 a ∧ CA r
def CA1 : ApiArg → Prop
  | ⟨k, _, _, T⟩ => k = 3 → ((∀ i, i < T.length → PlAt T i) ∧ CS T)
end
theorem CS1.split {x : ApiStep} (h : CS1 x) : (x.Name ∈ names57 ∧ Fit x) ∧ CA x.Args := by cases x; simpa only [CS1] using h
theorem CS1.mk' {x : ApiStep} (h : x.Name ∈ names57 ∧ Fit x) (h' : CA x.Args) : CS1 x := by cases x; simp only [CS1]; exact ⟨h, h'⟩
theorem CS_of : ∀ l : List ApiStep, (∀ i, i < l.length → CS1 (List.getD l i default)) → CS l
  | [], _ => by simp [CS]
  | x :: r, h => by
    simp only [CS]
    exact ⟨h 0 (by simp), CS_of r fun i hi => h (i + 1) (by simpa using hi)⟩
theorem CA_of : ∀ l : List ApiArg, (∀ i, i < l.length → CA1 (List.getD l i default)) → CA l
  | [], _ => by simp [CA]
  | x :: r, h => by
    simp only [CA]
    exact ⟨h 0 (by simp), CA_of r fun i hi => h (i + 1) (by simpa using hi)⟩
theorem CS_get : ∀ (l : List ApiStep) (i : Nat), CS l → i < l.length → CS1 (List.getD l i default)
  | [], i, _, h => by simp at h
  | x :: r, 0, h, _ => by simp only [CS] at h; exact h.1
  | x :: r, i + 1, h, hi => by simp only [CS] at h; exact CS_get r i h.2 (by simpa using hi)
theorem CA_get : ∀ (l : List ApiArg) (i : Nat), CA l → i < l.length → CA1 (List.getD l i default)
  | [], i, _, h => by simp at h
  | x :: r, 0, h, _ => by simp only [CA] at h; exact h.1
  | x :: r, i + 1, h, hi => by simp only [CA] at h; exact CA_get r i h.2 (by simpa using hi)
theorem GS_get : ∀ (l : List ApiStep) (i : Nat), GS l → i < l.length → GS1 (List.getD l i default)
  | [], i, _, h => by simp at h
  | x :: r, 0, h, _ => by simp only [GS] at h; exact h.1
  | x :: r, i + 1, h, hi => by simp only [GS] at h; exact GS_get r i h.2 (by simpa using hi)
theorem GA_get : ∀ (l : List ApiArg) (i : Nat), GA l → i < l.length → GA1 (List.getD l i default)
  | [], i, _, h => by simp at h
  | x :: r, 0, h, _ => by simp only [GA] at h; exact h.1
  | x :: r, i + 1, h, hi => by simp only [GA] at h; exact GA_get r i h.2 (by simpa using hi)
theorem GS1.split {x : ApiStep} (h : GS1 x) : x.Args.length ≤ 12 ∧ GA x.Args := by cases x; simpa only [GS1] using h
theorem GA1.split {a : ApiArg} (h : GA1 a) : wV a.V ≤ 1600 ∧ a.V.S.length ≤ 500 ∧ (a.Kind = 3 → a.T ≠ []) ∧ a.T.length ≤ 150 ∧ GS a.T := by cases a; simpa only [GA1] using h
theorem nS_get : ∀ (l : List ApiStep) (i : Nat), i < l.length → nS1 (List.getD l i default) ≤ nS l
  | [], i, h => by simp at h
  | x :: r, 0, _ => by simp only [nS, List.getD_cons_zero]; omega
  | x :: r, i + 1, h => by have := nS_get r i (by simpa using h); simp only [nS, List.getD_cons_succ]; omega
theorem nA_get : ∀ (l : List ApiArg) (i : Nat), i < l.length → nS (List.getD l i default).T ≤ nA l
  | [], i, h => by simp at h
  | ⟨_, _, _, _⟩ :: r, 0, _ => by simp only [nA, nA1, List.getD_cons_zero]; omega
  | x :: r, i + 1, h => by have := nA_get r i (by simpa using h); simp only [nA, List.getD_cons_succ]; omega
theorem nS1_eq (x : ApiStep) : nS1 x = 1 + nA x.Args := by cases x; rw [nS1]
theorem short_of {x : ApiStep} (h : GS1 x) : ShortA x.Args := ⟨h.split.1, getD_all fun i hi => (GA_get _ i h.split.2 hi).split.2.1⟩
theorem steps_args (F : List ApiStep → Bool → Option Int) (G : List ApiStep → Bool → List ApiStep → Int → Int → Option Int) (K : Nat) (v0 : List ApiStep) (v1 : Bool) (v12 : List ApiStep) (v13 v14 : Int) (X : Prop) (args : List ApiArg) (hl : args.length ≤ 12)
    (hF : ∀ j, j < args.length → (List.getD args j default).Kind = 3 → Sat (F (List.getD args j default).T false) fun r => r = 0 → CA1 (List.getD args j default))
    (hG : CA args → Sat (G v0 v1 v12 v13 (IntKind.wrap .i64 (v14 + 1))) fun r => r = 0 → X) :
    ∀ (k j : Nat), j ≤ args.length → args.length - j < k → (∀ q, q < j → CA1 (List.getD args q default)) → Sat (check_steps.l2 F G K k v0 v1 v12 v13 v14 args (args.length : Int) (j : Int)) fun r => r = 0 → X := by
  intro k
  induction k with
  | zero => intro j h0 h1; omega
  | succ k ih =>
    intro j h0 h1 hj
    rw [check_steps.l2]
    refine Sat.ite (fun h => ?_) (fun h => ?_)
    · have hlt : (j : Int) < (args.length : Int) := by simpa using h
      refine Sat.chk ⟨by omega, hlt⟩ ?_
      rw [Int.toNat_natCast]
      have nxt : CA1 (List.getD args j default) → Sat (check_steps.j1 F G (check_steps.l2 F G K k) K v0 v1 v12 v13 v14 args (args.length : Int) (j : Int)) fun r => r = 0 → X := by
        intro hc
        unfold check_steps.j1
        rw [W_in (by omega) (by omega), show (j : Int) + 1 = ((j + 1 : Nat) : Int) by omega]
        refine ih (j + 1) (by omega) (by omega) fun q hq => ?_
        by_cases e : q = j
        · rw [e]; exact hc
        · exact hj q (by omega)
      refine Sat.ite (fun hk => nxt ?_) (fun hk => ?_)
      · have hk' : ¬ (List.getD args j default).Kind = 3 := by simpa using hk
        generalize List.getD args j default = a at hk' ⊢
        cases a
        simp only [CA1]
        exact fun h => absurd h hk'
      · have hk' : (List.getD args j default).Kind = 3 := by simpa using hk
        refine Sat.bind (hF j (by omega) hk') fun r hr => Sat.ite (fun hn => Sat.some fun h0 => ?_) (fun hz => nxt (hr (by simpa using hz)))
        have : ¬ r = 0 := by simpa using hn
        exact absurd h0 this
    · have hge : ¬ (j : Int) < (args.length : Int) := by simpa using h
      exact hG (CA_of args fun q hq => hj q (by omega))
theorem check_steps_sat : ∀ (n : Nat) (l : List ApiStep) (top : Bool) (K : Nat), nS l ≤ n → GS l → l.length ≤ 150 → n + 1000 ≤ K → Sat (check_steps.f K l top) fun r => r = 0 → (∀ i, i < l.length → PlAt l i) ∧ CS l := by
  intro n
  induction n with
  | zero =>
    intro l top K hn hg hl hK
    have : l = [] := Classical.not_not.1 fun h => by have := nS_pos l h; omega
    subst this
    obtain ⟨K, rfl⟩ : ∃ q, K = q + 1 + 1 := ⟨K - 2, by omega⟩
    rw [check_steps.f, check_steps.b, check_steps.l1, if_neg (by simp)]
    exact Sat.some fun _ => ⟨fun i hi => by simp at hi, by simp [CS]⟩
  | succ n ih =>
    intro l top K hn hg hl hK
    obtain ⟨K, rfl⟩ : ∃ q, K = q + 1 := ⟨K - 1, by omega⟩
    rw [check_steps.f, check_steps.b]
    have key : ∀ (k i : Nat), i ≤ l.length → l.length - i < k → (∀ j, j < i → PlAt l j ∧ CS1 (List.getD l j default)) → Sat (check_steps.l1 (check_steps.f K) K k l top l (l.length : Int) (i : Int)) fun r => r = 0 → (∀ i, i < l.length → PlAt l i) ∧ CS l := by
      intro k
      induction k with
      | zero => intro i h0 h1; omega
      | succ k ihk =>
        intro i h0 h1 hj
        rw [check_steps.l1]
        refine Sat.ite (fun h => ?_) (fun h => Sat.some fun _ => ?_)
        · have hlt : (i : Int) < (l.length : Int) := by simpa using h
          have hi : i < l.length := by omega
          refine Sat.chk ⟨by omega, hlt⟩ ?_
          rw [Int.toNat_natCast]
          have hg1 := GS_get l i hg hi
          have hsh := short_of hg1
          have no : ∀ {e : Int}, e ≠ 0 → Sat (some e) fun r => r = 0 → (∀ i, i < l.length → PlAt l i) ∧ CS l := fun he => Sat.some fun h => absurd h he
          by_cases hnm : (List.getD l i default).Name ∈ names57
          · obtain ⟨fs, hfs, hfl, hok⟩ := forms_in _ hnm
            refine Sat.bindE hfs ?_
            refine Sat.ite (fun _ => no (by decide)) (fun _ => ?_)
            refine Sat.bind (cFs_sat K (by omega) _ hsh fs hfl hok) fun t2 ht2 => ?_
            refine Sat.ite (fun _ => no (by decide)) (fun hfit => ?_)
            refine Sat.ite (fun _ => no (by decide)) (fun _ => ?_)
            refine Sat.bind (place_sat K (by omega) l hl i hi hsh.1 top) fun t3 ht3 => ?_
            refine Sat.ite (fun hn => ?_) (fun hz => ?_)
            · have : ¬ t3 = 0 := by simpa using hn
              exact no this
            · have hp := ht3 (by simpa using hz)
              have hlen := hsh.1
              refine steps_args _ _ K l top l (l.length : Int) (i : Int) _ _ hlen (fun j hjl hk3 => ?_) (fun hca => ?_) K 0 (by omega) (by omega) (fun q hq => by omega)
              · have ga := (GA_get _ j hg1.split.2 hjl).split
                have n1 := nS_get l i hi
                have n2 := nA_get (List.getD l i default).Args j hjl
                rw [nS1_eq] at n1
                refine (ih (List.getD (List.getD l i default).Args j default).T false K (by omega) ga.2.2.2.2 ga.2.2.2.1 (by omega)).mono fun r hr h0 => ?_
                have hh := hr h0
                generalize List.getD (List.getD l i default).Args j default = a at hh ⊢
                cases a
                simp only [CA1]
                exact fun _ => hh
              · rw [W_in (by omega) (by omega), show (i : Int) + 1 = ((i + 1 : Nat) : Int) by omega]
                refine ihk (i + 1) (by omega) (by omega) fun j hj' => ?_
                by_cases e : j = i
                · rw [e]; exact ⟨hp, CS1.mk' ⟨hnm, ht2 (by simpa using hfit)⟩ hca⟩
                · exact hj j (by omega)
          · refine Sat.bindE (forms_out _ hnm) ?_
            exact Sat.ite (fun _ => no (by decide)) (fun h => by simp at h)
        · have hge : ¬ (i : Int) < (l.length : Int) := by simpa using h
          exact ⟨fun j hj' => (hj j (by omega)).1, CS_of l fun j hj' => (hj j (by omega)).2⟩
    exact key K 0 (by omega) (by omega) (fun j hj => by omega)
theorem Check_sat (l : List ApiStep) (K : Nat) (hp : Prs l) (hK : 2000 ≤ K) : Sat (check_Check.f K l) fun r => r = 0 → (∀ i, i < l.length → PlAt l i) ∧ CS l := by
  obtain ⟨h1, h2, h3, h4⟩ := hp
  unfold check_Check.f
  refine Sat.ite (fun h => ?_) (fun _ => Sat.bind (check_steps_sat (nS l) l true K (Nat.le_refl _) h3 h2 (by omega)) fun r hr => Sat.some hr)
  have : l.length = 0 := by
    have : (l.length : Int) = 0 := by simpa using h
    omega
  exact absurd (List.eq_nil_of_length_eq_zero this) h1
end Go.Proofs.Ytbjbgodcenopnaa

/- Plain law of logs (with falls): entries are read. -/
import Derived.Test.YtimaibcaehagjaaPureLoOps
namespace Go.Proofs.Ytimaibcaehagjaa
set_option linter.unusedVariables false
set_option maxHeartbeats 2000000
theorem head_num (num : Nat) (s : List UInt8) : List.take (Int.toNat 8) (headS num s) = eightS num := rfl
theorem head_long (num : Nat) (s : List UInt8) : List.take (Int.toNat 16 - Int.toNat 8) (List.drop (Int.toNat 8) (headS num s)) = eightS s.length := rfl
theorem head_last (num : Nat) (s : List UInt8) : List.drop 120 (headS num s) = eightS num := by
  unfold headS
  refine List.drop_left' ?_
  have hl := padS_len s
  simp [eightS_len]; omega
theorem head_text (num : Nat) (s : List UInt8) : List.take (Int.toNat 120 - Int.toNat 16) (List.drop (Int.toNat 16) (headS num s)) = (padS s).take 104 := by
  have hl := padS_len s
  have e : headS num s = (eightS num ++ eightS s.length) ++ ((padS s).take 104 ++ eightS num) := by unfold headS; simp
  rw [e, show Int.toNat 16 = 16 from rfl, show Int.toNat 120 - 16 = 104 from rfl, List.drop_left' (by rw [List.length_append, eightS_len, eightS_len]), List.take_left' (by simp; omega)]
/-- Entries that are laid from a sector on. -/
def Ents (V : List Sec) (tO : Nat) : Nat → Nat → List (List UInt8) → Prop
  | _, _, [] => True
  | at', num, s :: r => s.length ≤ 1090 ∧ at' + secsN s.length ≤ tO ∧ (∀ j, j < secsN s.length → V[at' + j]? = (laidS num s)[j]?) ∧ Ents V tO (at' + secsN s.length) (num + 1) r
def endOf : Nat → List (List UInt8) → Nat
  | at', [] => at'
  | at', s :: r => endOf (at' + secsN s.length) r
theorem getD_of {V : List Sec} {i : Nat} {x : Sec} (h : V[i]? = some x) : V.getD i [] = x := by rw [List.getD_eq_getElem?_getD, h]; rfl
/-- No entry of that number stands there. -/
def Term (V : List Sec) (tO at' num : Nat) : Prop := tO ≤ at' ∨ ∃ x m, V[at']? = some x ∧ x.length = 128 ∧ x.drop 120 = eightS m ∧ m < num
theorem wide_l1 (v0 : List UInt8) (m : Int) (hm : m ≤ (v0.length : Int)) (hm2 : m ≤ 1000) : ∀ (k : Nat) (i acc : Int), 0 ≤ i → i ≤ m → m - i < k → ∃ w, val_Wide.l1 KD k v0 acc m i = some w := by
  intro k
  induction k with
  | zero => intro i acc h0 h1 h2; omega
  | succ k ih =>
    intro i acc h0 h1 h2
    rw [val_Wide.l1]
    by_cases hi : i < m
    · rw [if_pos (by simpa using hi), if_pos ⟨h0, by omega⟩, W_in (by omega) (by omega)]
      exact ih (i + 1) _ (by omega) (by omega) (by omega)
    · rw [if_neg (by simpa using hi)]
      exact ⟨_, rfl⟩
theorem wide_tot (b : List UInt8) (hb : b.length = 8) : ∃ w, val_Wide.f KD b = some w := by
  unfold val_Wide.f
  rw [hb, if_neg (by omega)]
  exact wide_l1 b 8 (by omega) (by omega) KD 0 0 (by omega) (by omega) (by unfold KD; omega)
section
variable {N tO at' num c lo S : Nat} {f : Int} {s : List UInt8} {d : ODevDev} {V V0 : List Sec} {F : List ApiFall}
theorem read_l1 (hs : s.length ≤ 1090) (hend : at' + secsN s.length ≤ tO) (hto : tO ≤ N) (hN : N ≤ 1000) (h : Is N F d V0 V lo c S) (hV : ∀ j, j < secsN s.length → V[at' + j]? = (laidS num s)[j]?) :
    ∀ (k : Nat) (i : Nat), 1 ≤ i → i ≤ secsN s.length → secsN s.length - i < k →
      log_Log_read.l1 KD ⟨f, tO, at', num⟩ d k (s.length : Int) (secsN s.length : Int) ((padS s).take (104 + 128 * (i - 1))) (i : Int) = some (s, true) := by
  have hl := padS_len s
  have hle := secsN_le s.length
  have hk5 := secsN_few hs
  intro k
  induction k with
  | zero => intro i h0 h1 h2; omega
  | succ k ih =>
    intro i h0 h1 h2
    refine Sat.get ?_
    rw [log_Log_read.l1]
    refine Sat.ite (fun hi => ?_) (fun hi => ?_)
    · simp only [decide_eq_true_eq] at hi
      dsimp only
      rw [W_in (by omega) (by omega), show ((at' : Int) + (i : Int)) = ((at' + i : Nat) : Int) by omega]
      refine Sat.bindE (h.read (i := at' + i) (by omega)) ?_
      have e : V.getD (at' + i) [] = chunkS s (i - 1) := by
        refine getD_of ?_
        rw [hV i (by omega)]
        have := chunksS_get s (i - 1)
        rw [if_pos (by omega)] at this
        rw [← this, laidS, show i = (i - 1) + 1 by omega, List.getElem?_cons_succ]
        rfl
      dsimp only
      rw [e]
      refine Sat.chk (by rw [chunkS_len s (by omega), List.length_take]; omega) ?_
      rw [W_in (by omega) (by omega), show ((i : Int) + 1) = ((i + 1 : Nat) : Int) by omega]
      have e2 : (padS s).take (104 + 128 * (i - 1)) ++ chunkS s (i - 1) = (padS s).take (104 + 128 * (i + 1 - 1)) := by
        unfold chunkS
        rw [show 104 + 128 * (i + 1 - 1) = (104 + 128 * (i - 1)) + 128 by omega]
        generalize 104 + 128 * (i - 1) = q
        rw [List.take_add]
      rw [e2]
      exact Sat.eq (ih (i + 1) (by omega) (by omega) (by omega)) rfl
    · simp only [decide_eq_false_iff_not] at hi
      have : i = secsN s.length := by omega
      subst this
      rw [List.take_of_length_le (by omega)]
      refine Sat.chk ⟨by omega, by omega⟩ ?_
      rw [Int.toNat_natCast, padS_take]
      exact Sat.some rfl
theorem read_entry (hs : s.length ≤ 1090) (hend : at' + secsN s.length ≤ tO) (hto : tO ≤ N) (hN : N ≤ 1000) (hnum : num < 1000) (h : Is N F d V0 V lo c S) (hV : ∀ j, j < secsN s.length → V[at' + j]? = (laidS num s)[j]?) :
    log_Log_read.f KD ⟨f, tO, at', num⟩ d = some (s, true) := by
  have hk1 := secsN_pos s.length
  have hk5 := secsN_few hs
  have hle := secsN_le s.length
  refine Sat.get ?_
  unfold log_Log_read.f
  refine Sat.ite (fun hh => by simp at hh; omega) (fun _ => ?_)
  refine Sat.bindE (h.read (i := at') (by omega)) ?_
  have e : V.getD at' [] = headS num s := getD_of (by have := hV 0 (by omega); rw [Nat.add_zero] at this; rw [this]; rfl)
  dsimp only
  rw [e]
  have hl := headS_len num s
  refine Sat.chk ⟨by omega, by omega, by omega⟩ ?_
  refine Sat.bindE (by rw [head_long]; exact wide_eq (by omega)) ?_
  refine Sat.chk ⟨by omega, by omega⟩ ?_
  refine Sat.bindE (by rw [head_num]; exact wide_eq (by omega)) ?_
  rw [hl]
  have e3 : IntKind.wrap .i64 (((128 : Nat) : Int) - 8) = 120 := by decide
  rw [e3]
  refine Sat.chk (fun _ => ⟨by omega, by omega⟩) ?_
  rw [if_pos (by simp)]
  refine Sat.bindE (by rw [show Int.toNat 120 = 120 from rfl, head_last]; exact wide_eq (by omega)) ?_
  rw [W_in (x := (tO : Int) - (at' : Int)) (by omega) (by omega), WU_in (x := (tO : Int) - (at' : Int)) (by omega) (by omega), WU_in (by omega) (by omega)]
  refine Sat.ite (fun hh => by simp at hh; omega) (fun _ => ?_)
  rw [W_in (x := (s.length : Int)) (by omega) (by omega)]
  refine Sat.bindE (sectors_eq s.length (by omega)) ?_
  refine Sat.ite (fun hh => by simp at hh; omega) (fun _ => ?_)
  refine Sat.chk ⟨by omega, by omega, by omega⟩ ?_
  rw [head_text]
  exact Sat.eq (read_l1 hs hend hto hN h hV KD 1 (by omega) (by omega) (by unfold KD; omega)) rfl
theorem read_none (hto : tO ≤ N) (hnum : num < 1000) (hT : Term V tO at' num) (hN : N ≤ 1000) (hat : at' ≤ tO) (h : Is N F d V0 V lo c S) : log_Log_read.f KD ⟨f, tO, at', num⟩ d = some ([], false) := by
  refine Sat.get ?_
  unfold log_Log_read.f
  refine Sat.ite (fun _ => Sat.some rfl) (fun hh => ?_)
  simp only [decide_eq_false_iff_not] at hh
  rcases hT with hT | ⟨x, m, hx, hl, hd, hm⟩
  · omega
  refine Sat.bindE (h.read (i := at') (by omega)) ?_
  dsimp only
  rw [getD_of hx]
  refine Sat.chk ⟨by omega, by omega, by omega⟩ ?_
  obtain ⟨w2, hw2⟩ := wide_tot (List.take (Int.toNat 16 - Int.toNat 8) (List.drop (Int.toNat 8) x)) (by simp [hl])
  refine Sat.bindE hw2 ?_
  refine Sat.chk ⟨by omega, by omega⟩ ?_
  obtain ⟨w3, hw3⟩ := wide_tot (List.take (Int.toNat 8) x) (by simp [hl])
  refine Sat.bindE hw3 ?_
  rw [hl]
  have e3 : IntKind.wrap .i64 (((128 : Nat) : Int) - 8) = 120 := by decide
  rw [e3]
  refine Sat.chk (fun _ => ⟨by omega, by omega⟩) ?_
  by_cases h3 : w3 = (num : Int)
  · rw [if_pos (by simp [h3])]
    refine Sat.bindE (by rw [show Int.toNat 120 = 120 from rfl, hd]; exact wide_eq (by omega)) ?_
    rw [if_pos (by simp; omega)]
    exact Sat.some rfl
  · rw [if_neg (by simp [h3])]
    refine Sat.bindE rfl ?_
    rw [if_pos (by simp [h3])]
    exact Sat.some rfl
end
theorem open_l1 {N tO : Nat} {f : Int} {d : ODevDev} {V V0 : List Sec} {c lo S : Nat} {F : List ApiFall} (hto : tO ≤ N) (hN : N ≤ 1000) (h : Is N F d V0 V lo c S) :
    ∀ (l : List (List UInt8)) (k at' num : Nat) (out : List (List UInt8)), Ents V tO at' num l → Term V tO (endOf at' l) (num + l.length) → at' ≤ tO → 1 ≤ num → num + l.length < 1000 → out.length + l.length ≤ 1000 → l.length < k →
      log_Open.l1 KD d k out f (tO : Int) (at' : Int) (num : Int) = some (⟨f, tO, (endOf at' l : Nat), (num + l.length : Nat)⟩, out ++ l, 0, d) := by
  intro l
  induction l with
  | nil =>
    intro k at' num out hE hT hat h1 h2 h3 h4
    cases k with
    | zero => simp at h4
    | succ k =>
      refine Sat.get ?_
      rw [log_Open.l1]
      refine Sat.bindE (read_none hto (by simpa using h2) (by simpa [endOf] using hT) hN hat h) ?_
      refine Sat.ite (fun _ => ?_) (fun hh => by simp at hh)
      exact Sat.some (by simp [endOf])
  | cons s l ih =>
    intro k at' num out hE hT hat h1 h2 h3 h4
    cases k with
    | zero => simp at h4
    | succ k =>
      obtain ⟨hs, hend, hV, hE'⟩ := hE
      simp only [List.length_cons] at h2 h3 h4
      refine Sat.get ?_
      rw [log_Open.l1]
      refine Sat.bindE (read_entry hs hend hto hN (by omega) h hV) ?_
      refine Sat.ite (fun hh => by simp at hh) (fun _ => ?_)
      refine Sat.chk (by simp only [List.length_cons, List.length_nil]; omega) ?_
      refine Sat.bindE (sectors_eq s.length (by omega)) ?_
      have hk5 := secsN_few hs
      dsimp only
      rw [W_in (by omega) (by omega), WU_in (by omega) (by omega), show ((at' : Int) + (secsN s.length : Int)) = ((at' + secsN s.length : Nat) : Int) by omega, show ((num : Int) + 1) = ((num + 1 : Nat) : Int) by omega]
      refine Sat.eq (ih k (at' + secsN s.length) (num + 1) (out ++ [s]) hE' (by rw [endOf, List.length_cons, show num + (l.length + 1) = num + 1 + l.length by omega] at hT; exact hT) hend (by omega) (by omega) (by simp only [List.length_append, List.length_cons, List.length_nil]; omega) (by omega)) ?_
      simp only [List.append_assoc, List.cons_append, List.nil_append, endOf, List.length_cons, Prod.mk.injEq, OLogLog.mk.injEq, true_and, and_true]
      omega
theorem open_eq {N tO : Nat} {d : ODevDev} {V V0 : List Sec} {c lo S : Nat} {F : List ApiFall} (hto : tO ≤ N) (hN : N ≤ 1000) (h : Is N F d V0 V lo c S) (l : List (List UInt8)) (at' num : Nat) (hE : Ents V tO at' num l) (hT : Term V tO (endOf at' l) (num + l.length)) (hat : at' ≤ tO) (h1 : 1 ≤ num) (h2 : num + l.length < 1000) (h3 : l.length ≤ 900) :
    log_Open.f KD d (at' : Int) (tO : Int) (num : Int) = some (⟨at', tO, (endOf at' l : Nat), (num + l.length : Nat)⟩, l, 0, d) := by
  refine Sat.get ?_
  unfold log_Open.f
  rw [if_pos (by simp; omega)]
  refine Sat.bindE (show dev_Dev_Len.f d = some (N : Int) by unfold dev_Dev_Len.f; rw [h.dv.len]) ?_
  refine Sat.ite (fun hh => by simp at hh; omega) (fun _ => ?_)
  refine Sat.bindE (off_eq d) ?_
  refine Sat.ite (fun hh => by rw [h.off] at hh; cases hh) (fun _ => ?_)
  exact Sat.eq (open_l1 hto hN h l KD at' num [] hE hT hat h1 h2 (by simp; omega) (by unfold KD; omega)) rfl
theorem endOf_ge : ∀ (l : List (List UInt8)) (at' : Nat), at' ≤ endOf at' l
  | [], at' => Nat.le_refl _
  | s :: l, at' => by have := endOf_ge l (at' + secsN s.length); rw [endOf]; omega
theorem endOf_snoc : ∀ (l : List (List UInt8)) (at' : Nat) (s : List UInt8), endOf at' (l ++ [s]) = endOf at' l + secsN s.length
  | [], at', s => rfl
  | x :: l, at', s => by rw [List.cons_append, endOf, endOf, endOf_snoc l]
theorem Ents.keep {V V' : List Sec} {tO : Nat} : ∀ {l : List (List UInt8)} {at' num : Nat}, Ents V tO at' num l → (∀ q, q < endOf at' l → V'[q]? = V[q]?) → Ents V' tO at' num l
  | [], _, _, _, _ => trivial
  | s :: l, at', num, ⟨h1, h2, h3, h4⟩, hq => by
    have := endOf_ge l (at' + secsN s.length)
    refine ⟨h1, h2, fun j hj => ?_, Ents.keep h4 hq⟩
    rw [hq _ (by rw [endOf]; omega)]
    exact h3 j hj
theorem Ents.snoc {V : List Sec} {tO : Nat} {s : List UInt8} (hs : s.length ≤ 1090) : ∀ {l : List (List UInt8)} {at' num : Nat}, Ents V tO at' num l → endOf at' l + secsN s.length ≤ tO → (∀ j, j < secsN s.length → V[endOf at' l + j]? = (laidS (num + l.length) s)[j]?) → Ents V tO at' num (l ++ [s])
  | [], at', num, _, h2, h3 => ⟨hs, h2, h3, trivial⟩
  | x :: l, at', num, ⟨h1, hx, h3, h4⟩, h5, h6 => by
    refine ⟨h1, hx, h3, Ents.snoc hs h4 h5 fun j hj => ?_⟩
    have := h6 j hj
    rw [List.length_cons, show num + (l.length + 1) = num + 1 + l.length by omega] at this
    exact this
section
variable {N tO at' num : Nat} {V : List Sec} {s : List UInt8}
theorem added_below (q : Nat) (hq : q < at') : (added tO V at' num s)[q]? = V[q]? := by
  unfold added
  rw [List.getElem?_set_ne (by omega), lay_get, if_neg (by omega)]
theorem added_in (hl : V.length = N) (hend : at' + secsN s.length ≤ tO) (hto : tO ≤ N) (j : Nat) (hj : j < secsN s.length) : (added tO V at' num s)[at' + j]? = (laidS num s)[j]? := by
  unfold added
  cases j with
  | zero =>
    show ((lay V (at' + 1) (chunksS s ++ tailS tO (at' + secsN s.length))).set at' (headS num s))[at']? = _
    rw [List.getElem?_set_self (by rw [lay_len]; omega)]; rfl
  | succ j =>
    have hc := chunksS_len s
    rw [List.getElem?_set_ne (by omega), lay_get, if_pos ⟨by omega, by rw [List.length_append]; omega, by omega⟩, show at' + (j + 1) - (at' + 1) = j by omega, List.getElem?_append_left (by omega)]
    rfl
theorem added_zero (hl : V.length = N) (hend : at' + secsN s.length < tO) (hto : tO ≤ N) : (added tO V at' num s)[at' + secsN s.length]? = some (zeros 128) := by
  have hk := secsN_pos s.length
  have hc := chunksS_len s
  have e4 : tailS tO (at' + secsN s.length) = [zeros 128] := if_pos hend
  unfold added
  rw [e4, List.getElem?_set_ne (by omega), lay_get, if_pos ⟨by omega, by rw [List.length_append, List.length_cons]; omega, by omega⟩, show at' + secsN s.length - (at' + 1) = (chunksS s).length by omega, List.getElem?_append_right (Nat.le_refl _), Nat.sub_self]
  rfl
theorem term_zero {q : Nat} (h : V[q]? = some (zeros 128)) (hn : 0 < num) : Term V tO q num := .inr ⟨_, 0, h, by simp [zeros], rfl, hn⟩
theorem added_term (hl : V.length = N) (hend : at' + secsN s.length ≤ tO) (hto : tO ≤ N) : Term (added tO V at' num s) tO (at' + secsN s.length) (num + 1) := by
  by_cases h : at' + secsN s.length < tO
  · exact term_zero (added_zero hl h hto) (by omega)
  · left; omega
end
/-- A torn head: nothing stands there still, or the entry does. -/
theorem torn_tail {x : Sec} {m num t : Nat} {s : List UInt8} (hx : x.length = 128) (hd : x.drop 120 = eightS m) (hm : m < num) (hn : num < 256) (ht : t ≤ 128) :
    let y := (headS num s).take t ++ x.drop t
    y = headS num s ∨ (y.length = 128 ∧ y.drop 120 = eightS m) := by
  intro y
  have hh := headS_len num s
  have hyl : y.length = 128 := by simp only [y, List.length_append, List.length_take, List.length_drop]; omega
  by_cases h1 : t ≤ 120
  · right
    refine ⟨hyl, ?_⟩
    show ((headS num s).take t ++ x.drop t).drop 120 = eightS m
    rw [List.drop_append, List.drop_eq_nil_of_le (by rw [List.length_take]; omega), List.nil_append, List.drop_drop, List.length_take, show t + (120 - min t (headS num s).length) = 120 by omega, hd]
  · by_cases h2 : t = 128
    · left
      show (headS num s).take t ++ x.drop t = headS num s
      rw [List.take_of_length_le (by omega), List.drop_eq_nil_of_le (by omega), List.append_nil]
    · right
      refine ⟨hyl, ?_⟩
      show ((headS num s).take t ++ x.drop t).drop 120 = eightS m
      have e1 : ((headS num s).take t).drop 120 = (eightS num).take (t - 120) := by rw [List.drop_take, head_last]
      have e2 : x.drop t = (eightS m).drop (t - 120) := by rw [← hd, List.drop_drop, show 120 + (t - 120) = t by omega]
      rw [List.drop_append_of_le_length (by rw [List.length_take]; omega), e1, e2]
      have e3 : num / 256 = 0 := by omega
      have e4 : m / 256 = 0 := by omega
      unfold eightS
      rw [e3, e4]
      rcases (by omega : t = 121 ∨ t = 122 ∨ t = 123 ∨ t = 124 ∨ t = 125 ∨ t = 126 ∨ t = 127) with rfl | rfl | rfl | rfl | rfl | rfl | rfl <;> rfl
end Go.Proofs.Ytimaibcaehagjaa

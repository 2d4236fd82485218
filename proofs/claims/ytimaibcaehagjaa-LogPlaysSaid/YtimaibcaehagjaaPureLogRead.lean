/- Plain law of logs: entries are read. -/
import Derived.Test.YtimaibcaehagjaaPureLogOps
namespace Go.Proofs.Ytimaibcaehagjaa
set_option linter.unusedVariables false
set_option maxHeartbeats 2000000
theorem head_num (num : Nat) (s : List UInt8) : List.take (Int.toNat 8) (headS num s) = eightS num := rfl
theorem head_long (num : Nat) (s : List UInt8) : List.take (Int.toNat 16 - Int.toNat 8) (List.drop (Int.toNat 8) (headS num s)) = eightS s.length := rfl
theorem head_last (num : Nat) (s : List UInt8) : List.drop 120 (headS num s) = eightS num := by
  unfold headS
  refine List.drop_left' ?_
  have hl := padS_len s
  simp [eightS_len]; omega
theorem head_text (num : Nat) (s : List UInt8) : List.take (Int.toNat 120 - Int.toNat 16) (List.drop (Int.toNat 16) (headS num s)) = (padS s).take 104 := by
  have hl := padS_len s
  have e : headS num s = (eightS num ++ eightS s.length) ++ ((padS s).take 104 ++ eightS num) := by unfold headS; simp
  rw [e, show Int.toNat 16 = 16 from rfl, show Int.toNat 120 - 16 = 104 from rfl, List.drop_left' (by rw [List.length_append, eightS_len, eightS_len]), List.take_left' (by simp; omega)]
/-- Entries that are laid from a sector on. -/
def Ents (V : List Sec) (tO : Nat) : Nat → Nat → List (List UInt8) → Prop
  | _, _, [] => True
  | at', num, s :: r => s.length ≤ 500 ∧ at' + secsN s.length ≤ tO ∧ (∀ j, j < secsN s.length → V[at' + j]? = (laidS num s)[j]?) ∧ Ents V tO (at' + secsN s.length) (num + 1) r
def endOf : Nat → List (List UInt8) → Nat
  | at', [] => at'
  | at', s :: r => endOf (at' + secsN s.length) r
def Term (V : List Sec) (tO at' : Nat) : Prop := tO ≤ at' ∨ V[at']? = some (zeros 128)
theorem getD_of {V : List Sec} {i : Nat} {x : Sec} (h : V[i]? = some x) : V.getD i [] = x := by rw [List.getD_eq_getElem?_getD, h]; rfl
section
variable {N tO at' num c : Nat} {f : Int} {s : List UInt8} {d : ODevDev} {V : List Sec}
theorem read_l1 (hs : s.length ≤ 500) (hend : at' + secsN s.length ≤ tO) (hto : tO ≤ N) (hN : N ≤ 1000) (h : Is N d V c) (hV : ∀ j, j < secsN s.length → V[at' + j]? = (laidS num s)[j]?) :
    ∀ (k : Nat) (i : Nat), 1 ≤ i → i ≤ secsN s.length → secsN s.length - i < k →
      log_Log_read.l1 KD k d.steps d.off d.sure d.cache f (tO : Int) (at' : Int) (num : Int) (s.length : Int) (secsN s.length : Int) ((padS s).take (104 + 128 * (i - 1))) (i : Int) = some (s, true, ⟨f, tO, at', num⟩, d) := by
  have hl := padS_len s
  have hle := secsN_le s.length
  have hk5 := secsN_few hs
  intro k
  induction k with
  | zero => intro i h0 h1 h2; omega
  | succ k ih =>
    intro i h0 h1 h2
    refine Sat.get ?_
    rw [log_Log_read.l1]
    refine Sat.ite (fun hi => ?_) (fun hi => ?_)
    · simp only [decide_eq_true_eq] at hi
      rw [W_in (by omega) (by omega), show ((at' : Int) + (i : Int)) = ((at' + i : Nat) : Int) by omega]
      refine Sat.bindE (h.read (i := at' + i) (by omega)) ?_
      have e : V.getD (at' + i) [] = chunkS s (i - 1) := by
        refine getD_of ?_
        rw [hV i (by omega)]
        have := chunksS_get s (i - 1)
        rw [if_pos (by omega)] at this
        rw [← this, laidS, show i = (i - 1) + 1 by omega, List.getElem?_cons_succ]
        rfl
      dsimp only
      rw [e]
      refine Sat.chk (by rw [chunkS_len s (by omega), List.length_take]; omega) ?_
      rw [W_in (by omega) (by omega), show ((i : Int) + 1) = ((i + 1 : Nat) : Int) by omega]
      have e2 : (padS s).take (104 + 128 * (i - 1)) ++ chunkS s (i - 1) = (padS s).take (104 + 128 * (i + 1 - 1)) := by
        unfold chunkS
        rw [show 104 + 128 * (i + 1 - 1) = (104 + 128 * (i - 1)) + 128 by omega]
        generalize 104 + 128 * (i - 1) = q
        rw [List.take_add]
      rw [e2]
      exact Sat.eq (ih (i + 1) (by omega) (by omega) (by omega)) rfl
    · simp only [decide_eq_false_iff_not] at hi
      have : i = secsN s.length := by omega
      subst this
      rw [List.take_of_length_le (by omega)]
      refine Sat.chk ⟨by omega, by omega⟩ ?_
      rw [Int.toNat_natCast, padS_take]
      exact Sat.some rfl
theorem read_entry (hs : s.length ≤ 500) (hend : at' + secsN s.length ≤ tO) (hto : tO ≤ N) (hN : N ≤ 1000) (hnum : num < 1000) (h : Is N d V c) (hV : ∀ j, j < secsN s.length → V[at' + j]? = (laidS num s)[j]?) :
    log_Log_read.f KD ⟨f, tO, at', num⟩ d = some (s, true, ⟨f, tO, at', num⟩, d) := by
  have hk1 := secsN_pos s.length
  have hk5 := secsN_few hs
  have hle := secsN_le s.length
  refine Sat.get ?_
  unfold log_Log_read.f
  refine Sat.ite (fun hh => by simp at hh; omega) (fun _ => ?_)
  refine Sat.bindE (h.read (i := at') (by omega)) ?_
  have e : V.getD at' [] = headS num s := getD_of (by have := hV 0 (by omega); rw [Nat.add_zero] at this; rw [this]; rfl)
  dsimp only
  rw [e]
  have hl := headS_len num s
  refine Sat.chk ⟨by omega, by omega, by omega⟩ ?_
  refine Sat.bindE (by rw [head_long]; exact wide_eq (by omega)) ?_
  refine Sat.chk ⟨by omega, by omega⟩ ?_
  refine Sat.bindE (by rw [head_num]; exact wide_eq (by omega)) ?_
  rw [hl]
  have e3 : IntKind.wrap .i64 (((128 : Nat) : Int) - 8) = 120 := by decide
  rw [e3]
  refine Sat.chk (fun _ => ⟨by omega, by omega⟩) ?_
  rw [if_pos (by simp)]
  refine Sat.bindE (by rw [show Int.toNat 120 = 120 from rfl, head_last]; exact wide_eq (by omega)) ?_
  rw [W_in (x := (tO : Int) - (at' : Int)) (by omega) (by omega), WU_in (x := (tO : Int) - (at' : Int)) (by omega) (by omega), WU_in (by omega) (by omega)]
  refine Sat.ite (fun hh => by simp at hh; omega) (fun _ => ?_)
  rw [W_in (x := (s.length : Int)) (by omega) (by omega)]
  refine Sat.bindE (sectors_eq s.length (by omega)) ?_
  refine Sat.ite (fun hh => by simp at hh; omega) (fun _ => ?_)
  refine Sat.chk ⟨by omega, by omega, by omega⟩ ?_
  rw [head_text]
  exact Sat.eq (read_l1 hs hend hto hN h hV KD 1 (by omega) (by omega) (by unfold KD; omega)) rfl
theorem read_none (hto : tO ≤ N) (hnum : 1 ≤ num) (hT : Term V tO at') (hN : N ≤ 1000) (hat : at' ≤ tO) (h : Is N d V c) : log_Log_read.f KD ⟨f, tO, at', num⟩ d = some ([], false, ⟨f, tO, at', num⟩, d) := by
  refine Sat.get ?_
  unfold log_Log_read.f
  refine Sat.ite (fun _ => Sat.some rfl) (fun hh => ?_)
  simp only [decide_eq_false_iff_not] at hh
  rcases hT with hT | hT
  · omega
  refine Sat.bindE (h.read (i := at') (by omega)) ?_
  dsimp only
  rw [getD_of hT]
  have hl : (zeros 128).length = 128 := by simp [zeros]
  refine Sat.chk ⟨by omega, by omega, by omega⟩ ?_
  refine Sat.bindE (show val_Wide.f KD (List.take (Int.toNat 16 - Int.toNat 8) (List.drop (Int.toNat 8) (zeros 128))) = some ((0 : Nat) : Int) from wide_eq (n := 0) (by omega)) ?_
  refine Sat.chk ⟨by omega, by omega⟩ ?_
  refine Sat.bindE (show val_Wide.f KD (List.take (Int.toNat 8) (zeros 128)) = some ((0 : Nat) : Int) from wide_eq (n := 0) (by omega)) ?_
  have e0 : (!decide (((0 : Nat) : Int) = (num : Int))) = true := by simp; omega
  rw [e0]
  refine Sat.chk (fun h => by cases h) ?_
  rw [if_neg (by simp)]
  exact Sat.some rfl
end
theorem open_l1 {N tO : Nat} {f : Int} {d : ODevDev} {V : List Sec} {c : Nat} (hto : tO ≤ N) (hN : N ≤ 1000) (h : Is N d V c) :
    ∀ (l : List (List UInt8)) (k at' num : Nat) (out : List (List UInt8)), Ents V tO at' num l → Term V tO (endOf at' l) → at' ≤ tO → 1 ≤ num → num + l.length < 1000 → out.length + l.length ≤ 1000 → l.length < k →
      log_Open.l1 KD k out f (tO : Int) (at' : Int) (num : Int) d.steps d.off d.sure d.cache = some (⟨f, tO, (endOf at' l : Nat), (num + l.length : Nat)⟩, out ++ l, 0, d) := by
  intro l
  induction l with
  | nil =>
    intro k at' num out hE hT hat h1 h2 h3 h4
    cases k with
    | zero => simp at h4
    | succ k =>
      refine Sat.get ?_
      rw [log_Open.l1]
      refine Sat.bindE (read_none hto h1 hT hN hat h) ?_
      refine Sat.ite (fun _ => ?_) (fun hh => by simp at hh)
      exact Sat.some (by simp [endOf])
  | cons s l ih =>
    intro k at' num out hE hT hat h1 h2 h3 h4
    cases k with
    | zero => simp at h4
    | succ k =>
      obtain ⟨hs, hend, hV, hE'⟩ := hE
      simp only [List.length_cons] at h2 h3 h4
      refine Sat.get ?_
      rw [log_Open.l1]
      refine Sat.bindE (read_entry hs hend hto hN (by omega) h hV) ?_
      refine Sat.ite (fun hh => by simp at hh) (fun _ => ?_)
      refine Sat.chk (by simp only [List.length_cons, List.length_nil]; omega) ?_
      refine Sat.bindE (sectors_eq s.length (by omega)) ?_
      have hk5 := secsN_few hs
      dsimp only
      rw [W_in (by omega) (by omega), WU_in (by omega) (by omega), show ((at' : Int) + (secsN s.length : Int)) = ((at' + secsN s.length : Nat) : Int) by omega, show ((num : Int) + 1) = ((num + 1 : Nat) : Int) by omega]
      refine Sat.eq (ih k (at' + secsN s.length) (num + 1) (out ++ [s]) hE' hT hend (by omega) (by omega) (by simp only [List.length_append, List.length_cons, List.length_nil]; omega) (by omega)) ?_
      simp only [List.append_assoc, List.cons_append, List.nil_append, endOf, List.length_cons, Prod.mk.injEq, OLogLog.mk.injEq, true_and, and_true]
      omega
theorem open_eq {N tO : Nat} {d : ODevDev} {V : List Sec} {c : Nat} (hto : tO ≤ N) (hN : N ≤ 1000) (h : Is N d V c) (l : List (List UInt8)) (at' num : Nat) (hE : Ents V tO at' num l) (hT : Term V tO (endOf at' l)) (hat : at' ≤ tO) (h1 : 1 ≤ num) (h2 : num + l.length < 1000) (h3 : l.length ≤ 900) :
    log_Open.f KD d (at' : Int) (tO : Int) (num : Int) = some (⟨at', tO, (endOf at' l : Nat), (num + l.length : Nat)⟩, l, 0, d) := by
  refine Sat.get ?_
  unfold log_Open.f
  rw [if_pos (by simp; omega)]
  refine Sat.bindE h.size ?_
  refine Sat.ite (fun hh => by simp at hh; omega) (fun _ => ?_)
  refine Sat.bindE (off_eq d) ?_
  refine Sat.ite (fun hh => by rw [h.off] at hh; cases hh) (fun _ => ?_)
  exact Sat.eq (open_l1 hto hN h l KD at' num [] hE hT hat h1 h2 (by simp; omega) (by unfold KD; omega)) rfl
end Go.Proofs.Ytimaibcaehagjaa

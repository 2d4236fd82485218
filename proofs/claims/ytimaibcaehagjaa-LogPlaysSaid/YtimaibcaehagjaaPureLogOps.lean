/- Plain law of logs: an entry is added, entries are read. -/
import Derived.Test.YtimaibcaehagjaaPureLog
namespace Go.Proofs.Ytimaibcaehagjaa
set_option linter.unusedVariables false
set_option maxHeartbeats 2000000
/-- Sectors laid one behind the other. -/
def lay (V : List Sec) (i : Nat) : List Sec → List Sec
  | [] => V
  | x :: xs => lay (V.set i x) (i + 1) xs
theorem lay_len : ∀ (L : List Sec) (V : List Sec) (i : Nat), (lay V i L).length = V.length
  | [], V, i => rfl
  | x :: L, V, i => by rw [lay, lay_len L, List.length_set]
theorem lay_get : ∀ (L : List Sec) (V : List Sec) (i q : Nat), (lay V i L)[q]? = if i ≤ q ∧ q < i + L.length ∧ q < V.length then L[q - i]? else V[q]?
  | [], V, i, q => by
    rw [lay, if_neg]
    simp; omega
  | x :: L, V, i, q => by
    rw [lay, lay_get L, List.length_set]
    by_cases h : i = q
    · subst h
      rw [if_neg (by omega)]
      by_cases hv : i < V.length
      · rw [if_pos ⟨by omega, by simp, hv⟩, List.getElem?_set_self hv]; simp
      · rw [if_neg (by omega), List.getElem?_eq_none (by simp; omega), List.getElem?_eq_none (by omega)]
    · rw [List.getElem?_set_ne h]
      by_cases hc : i + 1 ≤ q ∧ q < i + 1 + L.length ∧ q < V.length
      · rw [if_pos hc, if_pos ⟨by omega, by simp; omega, hc.2.2⟩, show q - i = (q - (i + 1)) + 1 by omega, List.getElem?_cons_succ]
      · rw [if_neg hc, if_neg]
        simp only [List.length_cons]; omega
def tailS (tO at' : Nat) : List Sec := if at' < tO then [zeros 128] else []
theorem chunks_drop (s : List UInt8) {j : Nat} (h : j < secsN s.length - 1) : (chunksS s).drop j = chunkS s j :: (chunksS s).drop (j + 1) := by
  rw [List.drop_eq_getElem_cons (by rw [chunksS_len]; exact h)]
  congr 1
  have := chunksS_get s j
  rw [if_pos h, List.getElem?_eq_getElem (by rw [chunksS_len]; exact h)] at this
  injection this
theorem body_l1 (N tO at' : Nat) (f g : Int) (s : List UInt8) (hs : s.length ≤ 500) (hend : at' + secsN s.length ≤ tO) (hto : tO ≤ N) (hN : N ≤ 1000) :
    ∀ (k : Nat) (j : Nat) (d : ODevDev) (V : List Sec) (c : Nat), Is N d V c → c ≤ j → j ≤ secsN s.length - 1 → secsN s.length - 1 - j < k →
      Sat (log_Log_body.l1 KD k f (tO : Int) (at' : Int) g d.steps d.off d.sure d.cache ((at' + secsN s.length : Nat) : Int) (s.drop (104 + 128 * j)) ((at' + 1 + j : Nat) : Int)) fun r =>
        r.1 = 0 ∧ r.2.1 = ⟨f, tO, at', g⟩ ∧ Is N r.2.2 (lay V (at' + 1 + j) ((chunksS s).drop j ++ tailS tO (at' + secsN s.length))) 0 := by
  have hk1 := secsN_pos s.length
  have hk5 := secsN_few hs
  intro k
  induction k with
  | zero => intro j d V c h0 h1 h2 h3; omega
  | succ k ih =>
    intro j d V c h0 h1 h2 h3
    rw [log_Log_body.l1]
    refine Sat.ite (fun hi => ?_) (fun hi => ?_)
    · simp only [decide_eq_true_eq] at hi
      have hj : j < secsN s.length - 1 := by omega
      rw [show (128 : Int) = ((128 : Nat) : Int) from rfl, minI]
      refine Sat.chk ⟨by omega, by omega⟩ ?_
      rw [Int.toNat_natCast]
      refine Sat.bindE (log_pad_eq _ 128 (by rw [List.length_take]; omega) (by omega)) ?_
      have e : List.take (min (s.drop (104 + 128 * j)).length 128) (s.drop (104 + 128 * j)) ++ zeros (128 - (List.take (min (s.drop (104 + 128 * j)).length 128) (s.drop (104 + 128 * j))).length) = chunkS s j := by
        rw [List.length_take, show min (min (s.drop (104 + 128 * j)).length 128) (s.drop (104 + 128 * j)).length = min (s.drop (104 + 128 * j)).length 128 by omega]
        exact chunk_eq s hj _ rfl
      rw [e]
      refine Sat.bind (h0.write (by omega) (i := at' + 1 + j) (by omega) (chunkS_len s hj)) fun t ht => ?_
      obtain ⟨t1, t2⟩ := ht
      refine Sat.ite (fun h => by simp [t1] at h) (fun _ => ?_)
      refine Sat.chk ⟨by omega, by omega⟩ ?_
      rw [W_in (by omega) (by omega), show ((at' + 1 + j : Nat) : Int) + 1 = ((at' + 1 + (j + 1) : Nat) : Int) by omega]
      have e2 : List.drop (min (s.drop (104 + 128 * j)).length 128) (s.drop (104 + 128 * j)) = s.drop (104 + 128 * (j + 1)) := by
        rw [List.drop_drop]
        by_cases hl : 128 ≤ (s.drop (104 + 128 * j)).length
        · rw [show min (s.drop (104 + 128 * j)).length 128 = 128 by omega]
          congr 1
        · rw [List.length_drop] at *
          rw [List.drop_eq_nil_of_le (by omega), List.drop_eq_nil_of_le (by omega)]
      rw [e2]
      refine (ih (j + 1) t.2 _ (c + 1) t2 (by omega) (by omega) (by omega)).mono fun r hr => ?_
      obtain ⟨r1, r2, r3⟩ := hr
      refine ⟨r1, r2, ?_⟩
      rw [chunks_drop s hj]
      exact r3
    · simp only [decide_eq_false_iff_not] at hi
      have hj : j = secsN s.length - 1 := by omega
      subst hj
      have e0 : (chunksS s).drop (secsN s.length - 1) = [] := List.drop_eq_nil_of_le (by rw [chunksS_len]; omega)
      rw [e0, List.nil_append]
      have last : ∀ (d : ODevDev) (V : List Sec) (c : Nat), Is N d V c → Sat (log_Log_body.j1 (log_Log_body.l1 KD k) KD d.steps d.off d.sure d.cache f (tO : Int) (at' : Int) g) fun r => r.1 = 0 ∧ r.2.1 = ⟨f, tO, at', g⟩ ∧ Is N r.2.2 V 0 := by
        intro d V c h
        unfold log_Log_body.j1
        refine Sat.bind h.flush fun t ht => ?_
        exact Sat.some ⟨ht.1, rfl, ht.2⟩
      refine Sat.ite (fun he => ?_) (fun he => ?_)
      · simp only [decide_eq_true_eq] at he
        rw [show (128 : Int) = ((128 : Nat) : Int) from rfl]
        refine Sat.bindE (log_pad_eq _ 128 (by simp) (by omega)) ?_
        have e3 : ([] : List UInt8) ++ zeros (128 - ([] : List UInt8).length) = zeros 128 := rfl
        rw [e3]
        refine Sat.bind (h0.write (by omega) (i := at' + secsN s.length) (by omega) (by simp [zeros])) fun t ht => ?_
        obtain ⟨t1, t2⟩ := ht
        refine Sat.ite (fun h => by simp [t1] at h) (fun _ => ?_)
        have e4 : tailS tO (at' + secsN s.length) = [zeros 128] := if_pos (by omega)
        rw [e4, show at' + 1 + (secsN s.length - 1) = at' + secsN s.length by omega]
        exact last t.2 _ _ t2
      · simp only [decide_eq_false_iff_not] at he
        have e4 : tailS tO (at' + secsN s.length) = [] := if_neg (by omega)
        rw [e4]
        exact last d V c h0
theorem body_sat {N tO at' : Nat} {f g : Int} {s : List UInt8} (hs : s.length ≤ 500) (hend : at' + secsN s.length ≤ tO) (hto : tO ≤ N) (hN : N ≤ 1000) {d : ODevDev} {V : List Sec} (h : Is N d V 0) :
    Sat (log_Log_body.f KD ⟨f, tO, at', g⟩ d s) fun r => r.1 = 0 ∧ r.2.1 = ⟨f, tO, at', g⟩ ∧ Is N r.2.2 (lay V (at' + 1) (chunksS s ++ tailS tO (at' + secsN s.length))) 0 := by
  have hk1 := secsN_pos s.length
  have hk5 := secsN_few hs
  unfold log_Log_body.f
  refine Sat.bindE (sectors_eq s.length (by omega)) ?_
  rw [show (104 : Int) = ((104 : Nat) : Int) from rfl, minI]
  refine Sat.chk ⟨by omega, by omega⟩ ?_
  dsimp only
  rw [W_in (by omega) (by omega), W_in (by omega) (by omega), Int.toNat_natCast, show ((at' : Int) + (secsN s.length : Int)) = ((at' + secsN s.length : Nat) : Int) by omega, show ((at' : Int) + 1) = ((at' + 1 + 0 : Nat) : Int) by omega]
  have e : s.drop (min s.length 104) = s.drop (104 + 128 * 0) := by
    by_cases hl : 104 ≤ s.length
    · rw [show min s.length 104 = 104 by omega]
    · rw [List.drop_eq_nil_of_le (by omega), List.drop_eq_nil_of_le (by omega)]
  rw [e]
  exact body_l1 N tO at' f g s hs hend hto hN KD 0 d V 0 h (by omega) (by omega) (by unfold KD; omega)
def added (tO : Nat) (V : List Sec) (at' num : Nat) (s : List UInt8) : List Sec := (lay V (at' + 1) (chunksS s ++ tailS tO (at' + secsN s.length))).set at' (headS num s)
theorem add_ok {N tO at' num : Nat} {f : Int} {s : List UInt8} (hs : s.length ≤ 500) (hend : at' + secsN s.length ≤ tO) (hto : tO ≤ N) (hN : N ≤ 1000) (hnum : num < 1000) {d : ODevDev} {V : List Sec} (h : Is N d V 0) :
    Sat (log_Log_Add.f KD ⟨f, tO, at', num⟩ d s) fun r => r.1 = 0 ∧ r.2.1 = ⟨f, tO, (at' + secsN s.length : Nat), (num + 1 : Nat)⟩ ∧ Is N r.2.2 (added tO V at' num s) 0 := by
  have hk1 := secsN_pos s.length
  have hk5 := secsN_few hs
  unfold log_Log_Add.f
  rw [if_pos rfl]
  refine Sat.bindE (off_eq d) ?_
  refine Sat.ite (fun hh => by rw [h.off] at hh; cases hh) (fun _ => ?_)
  refine Sat.bindE (sectors_eq s.length (by omega)) ?_
  dsimp only
  rw [W_in (by omega) (by omega)]
  refine Sat.ite (fun hh => by simp at hh; omega) (fun _ => ?_)
  refine Sat.bind (body_sat hs hend hto hN h) fun t ht => ?_
  obtain ⟨t1, t2, t3⟩ := ht
  refine Sat.ite (fun hh => by simp [t1] at hh) (fun _ => ?_)
  rw [t2]
  dsimp only
  refine Sat.bindE (log_head_eq num (by omega) s hs) ?_
  refine Sat.bind (t3.write (by omega) (i := at') (by omega) (headS_len num s)) fun u hu => ?_
  obtain ⟨u1, u2⟩ := hu
  refine Sat.ite (fun hh => by simp [u1] at hh) (fun _ => ?_)
  refine Sat.bind u2.flush fun v hv => ?_
  obtain ⟨v1, v2⟩ := hv
  refine Sat.ite (fun hh => by simp [v1] at hh) (fun _ => ?_)
  refine Sat.bindE (sectors_eq s.length (by omega)) ?_
  rw [W_in (by omega) (by omega), WU_in (by omega) (by omega)]
  exact Sat.some ⟨rfl, by dsimp only; congr 1 <;> omega, v2⟩
theorem add_full {N tO at' : Nat} {f g : Int} {s : List UInt8} (hs : s.length ≤ 500) (hat : at' ≤ tO) (hend : tO < at' + secsN s.length) (hto : tO ≤ 1000) {d : ODevDev} {V : List Sec} {c : Nat} (h : Is N d V c) :
    log_Log_Add.f KD ⟨f, tO, at', g⟩ d s = some (40, ⟨f, tO, at', g⟩, d) := by
  refine Sat.get ?_
  unfold log_Log_Add.f
  rw [if_pos rfl]
  refine Sat.bindE (off_eq d) ?_
  refine Sat.ite (fun hh => by rw [h.off] at hh; cases hh) (fun _ => ?_)
  refine Sat.bindE (sectors_eq s.length (by omega)) ?_
  dsimp only
  rw [W_in (by omega) (by omega)]
  refine Sat.ite (fun _ => Sat.some rfl) (fun hh => ?_)
  simp only [decide_eq_false_iff_not] at hh
  omega
end Go.Proofs.Ytimaibcaehagjaa

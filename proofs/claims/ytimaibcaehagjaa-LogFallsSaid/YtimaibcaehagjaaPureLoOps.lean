/- Plain law of logs (with falls): an entry is added. -/
import Derived.Test.YtimaibcaehagjaaPureLo
namespace Go.Proofs.Ytimaibcaehagjaa
set_option linter.unusedVariables false
set_option maxHeartbeats 2000000
/-- Sectors laid one behind the other. -/
def lay (V : List Sec) (i : Nat) : List Sec → List Sec
  | [] => V
  | x :: xs => lay (V.set i x) (i + 1) xs
theorem lay_len : ∀ (L : List Sec) (V : List Sec) (i : Nat), (lay V i L).length = V.length
  | [], V, i => rfl
  | x :: L, V, i => by rw [lay, lay_len L, List.length_set]
theorem lay_get : ∀ (L : List Sec) (V : List Sec) (i q : Nat), (lay V i L)[q]? = if i ≤ q ∧ q < i + L.length ∧ q < V.length then L[q - i]? else V[q]?
  | [], V, i, q => by
    rw [lay, if_neg]
    simp; omega
  | x :: L, V, i, q => by
    rw [lay, lay_get L, List.length_set]
    by_cases h : i = q
    · subst h
      rw [if_neg (by omega)]
      by_cases hv : i < V.length
      · rw [if_pos ⟨by omega, by simp, hv⟩, List.getElem?_set_self hv]; simp
      · rw [if_neg (by omega), List.getElem?_eq_none (by simp; omega), List.getElem?_eq_none (by omega)]
    · rw [List.getElem?_set_ne h]
      by_cases hc : i + 1 ≤ q ∧ q < i + 1 + L.length ∧ q < V.length
      · rw [if_pos hc, if_pos ⟨by omega, by simp; omega, hc.2.2⟩, show q - i = (q - (i + 1)) + 1 by omega, List.getElem?_cons_succ]
      · rw [if_neg hc, if_neg]
        simp only [List.length_cons]; omega
def tailS (tO at' : Nat) : List Sec := if at' < tO then [zeros 128] else []
theorem chunks_drop (s : List UInt8) {j : Nat} (h : j < secsN s.length - 1) : (chunksS s).drop j = chunkS s j :: (chunksS s).drop (j + 1) := by
  rw [List.drop_eq_getElem_cons (by rw [chunksS_len]; exact h)]
  congr 1
  have := chunksS_get s j
  rw [if_pos h, List.getElem?_eq_getElem (by rw [chunksS_len]; exact h)] at this
  injection this
/-- What is there behind a loss of power: below a place nothing is otherwise. -/
structure Lc (n : Nat) (d : ODevDev) (V0 : List Sec) (lo b : Nat) : Prop where
  off : d.off = true
  c0 : d.cache = []
  dv : Dv n d.sure []
  f0 : d.falls = []
  st : ∃ S : Nat, d.steps = (S : Int) ∧ S ≤ b
  low : ∀ q, q < lo → d.sure[q]? = V0[q]?
theorem Cr.low {n S lo b : Nat} {d : ODevDev} {V0 : List Sec} {C : List (Int × Sec)} (h : Cr n d V0 C S) (hk : ∀ p ∈ C, (lo : Int) ≤ p.1) (hb : S ≤ b) : Lc n d V0 lo b :=
  ⟨h.off, h.c0, h.dv, h.f0, ⟨S, h.st, hb⟩, fun q hq => h.torn.other q fun p hp e => by have := hk p hp; omega⟩
theorem KD_big : 3000 < KD := by unfold KD; omega
theorem body_l1 (N tO at' : Nat) (f g : Int) (s : List UInt8) (F : List ApiFall) (hF : F.length ≤ 1) (V0 : List Sec) (hs : s.length ≤ 1090) (hend : at' + secsN s.length ≤ tO) (hto : tO ≤ N) (hN : N ≤ 1000) (b : Nat) (hb : b ≤ 1000000) :
    ∀ (k : Nat) (j : Nat) (d : ODevDev) (V : List Sec) (c S : Nat), Is N F d V0 V (at' + 1) c S → c ≤ j → j ≤ secsN s.length - 1 → S + (secsN s.length - 1 - j) + 3 ≤ b → secsN s.length - 1 - j < k →
      Sat (log_Log_body.l1 KD ⟨f, tO, at', g⟩ k d.steps d.off d.sure d.cache d.falls ((at' + secsN s.length : Nat) : Int) (s.drop (104 + 128 * j)) ((at' + 1 + j : Nat) : Int)) fun r =>
        (r.1 = 0 ∧ r.2.1 = ⟨f, tO, at', g⟩ ∧ ∃ T, T = S + (secsN s.length - 1 - j) + (tailS tO (at' + secsN s.length)).length + 1 ∧
          Is N F r.2.2 (lay V (at' + 1 + j) ((chunksS s).drop j ++ tailS tO (at' + secsN s.length))) (lay V (at' + 1 + j) ((chunksS s).drop j ++ tailS tO (at' + secsN s.length))) 0 0 T ∧ NF F S T) ∨
        (r.1 = 7 ∧ F ≠ [] ∧ Lc N r.2.2 V0 (at' + 1) b) := by
  have hk1 := secsN_pos s.length
  have hk5 := secsN_few hs
  intro k
  induction k with
  | zero => intro j d V c S h0 h1 h2 hb' h3; omega
  | succ k ih =>
    intro j d V c S h0 h1 h2 hb' h3
    rw [log_Log_body.l1]
    refine Sat.ite (fun hi => ?_) (fun hi => ?_)
    · simp only [decide_eq_true_eq] at hi
      have hj : j < secsN s.length - 1 := by omega
      rw [show (128 : Int) = ((128 : Nat) : Int) from rfl, minI]
      refine Sat.chk ⟨by omega, by omega⟩ ?_
      rw [Int.toNat_natCast]
      refine Sat.bindE (log_pad_eq _ 128 (by rw [List.length_take]; omega) (by omega)) ?_
      have e : List.take (min (s.drop (104 + 128 * j)).length 128) (s.drop (104 + 128 * j)) ++ zeros (128 - (List.take (min (s.drop (104 + 128 * j)).length 128) (s.drop (104 + 128 * j))).length) = chunkS s j := by
        rw [List.length_take, show min (min (s.drop (104 + 128 * j)).length 128) (s.drop (104 + 128 * j)).length = min (s.drop (104 + 128 * j)).length 128 by omega]
        exact chunk_eq s hj _ rfl
      rw [e]
      refine Sat.bind (h0.write KD_big (by omega) hF (by omega) (by omega) (i := at' + 1 + j) (by omega) (by omega) (chunkS_len s hj)) fun t ht => ?_
      rcases ht with ⟨t1, t2, _, t4⟩ | ⟨t1, t2, t3⟩
      · refine Sat.ite (fun h => by simp [t1] at h) (fun _ => ?_)
        refine Sat.chk ⟨by omega, by omega⟩ ?_
        rw [W_in (by omega) (by omega), show ((at' + 1 + j : Nat) : Int) + 1 = ((at' + 1 + (j + 1) : Nat) : Int) by omega]
        have e2 : List.drop (min (s.drop (104 + 128 * j)).length 128) (s.drop (104 + 128 * j)) = s.drop (104 + 128 * (j + 1)) := by
          rw [List.drop_drop]
          by_cases hl : 128 ≤ (s.drop (104 + 128 * j)).length
          · rw [show min (s.drop (104 + 128 * j)).length 128 = 128 by omega]
            congr 1
          · rw [List.length_drop] at *
            rw [List.drop_eq_nil_of_le (by omega), List.drop_eq_nil_of_le (by omega)]
        rw [e2]
        refine (ih (j + 1) t.2 _ (c + 1) (S + 1) t2 (by omega) (by omega) (by omega) (by omega)).mono fun r hr => ?_
        rcases hr with ⟨r1, r2, T, r3, r4, r5⟩ | hr
        · refine .inl ⟨r1, r2, T, by omega, ?_, t4.trans r5 (by omega) (by omega)⟩
          rw [chunks_drop s hj]
          exact r4
        · exact .inr hr
      · refine Sat.ite (fun _ => ?_) (fun h => by simp [t1] at h)
        exact Sat.some (.inr ⟨t1, t2, t3.low h0.keys (by omega)⟩)
    · simp only [decide_eq_false_iff_not] at hi
      have hj : j = secsN s.length - 1 := by omega
      subst hj
      have e0 : (chunksS s).drop (secsN s.length - 1) = [] := List.drop_eq_nil_of_le (by rw [chunksS_len]; omega)
      rw [e0, List.nil_append]
      have last : ∀ (d : ODevDev) (V : List Sec) (c S : Nat), Is N F d V0 V (at' + 1) c S → c < 1000 → S ≤ b → Sat (log_Log_body.j1 (log_Log_body.l1 KD ⟨f, tO, at', g⟩ k) KD ⟨f, tO, at', g⟩ d.steps d.off d.sure d.cache d.falls) fun r =>
          (r.1 = 0 ∧ r.2.1 = ⟨f, tO, at', g⟩ ∧ Is N F r.2.2 V V 0 0 (S + 1) ∧ NF F S (S + 1)) ∨ (r.1 = 7 ∧ F ≠ [] ∧ Lc N r.2.2 V0 (at' + 1) b) := by
        intro d V c S h hc hS
        unfold log_Log_body.j1
        refine Sat.bind (h.flush KD_big (by omega) hF hc (by omega)) fun t ht => ?_
        rcases ht with ⟨t1, t2, t3⟩ | ⟨t1, t2, t3⟩
        · exact Sat.some (.inl ⟨t1, rfl, t2, t3⟩)
        · exact Sat.some (.inr ⟨t1, t2, t3.low h.keys hS⟩)
      refine Sat.ite (fun he => ?_) (fun he => ?_)
      · simp only [decide_eq_true_eq] at he
        rw [show (128 : Int) = ((128 : Nat) : Int) from rfl]
        refine Sat.bindE (log_pad_eq _ 128 (by simp) (by omega)) ?_
        have e3 : ([] : List UInt8) ++ zeros (128 - ([] : List UInt8).length) = zeros 128 := rfl
        rw [e3]
        have e4 : tailS tO (at' + secsN s.length) = [zeros 128] := if_pos (by omega)
        refine Sat.bind (h0.write KD_big (by omega) hF (by omega) (by omega) (i := at' + secsN s.length) (by omega) (by omega) (by simp [zeros])) fun t ht => ?_
        rcases ht with ⟨t1, t2, _, t4⟩ | ⟨t1, t2, t3⟩
        · refine Sat.ite (fun h => by simp [t1] at h) (fun _ => ?_)
          refine (last t.2 _ _ _ t2 (by omega) (by omega)).mono fun r hr => ?_
          rcases hr with ⟨r1, r2, r3, r4⟩ | hr
          · refine .inl ⟨r1, r2, _, rfl, ?_, ?_⟩
            · rw [e4, show at' + 1 + (secsN s.length - 1) = at' + secsN s.length by omega, show S + (secsN s.length - 1 - (secsN s.length - 1)) + ([zeros 128] : List Sec).length + 1 = S + 1 + 1 by simp]
              exact r3
            · rw [e4, show S + (secsN s.length - 1 - (secsN s.length - 1)) + ([zeros 128] : List Sec).length + 1 = S + 1 + 1 by simp]
              exact t4.trans r4 (by omega) (by omega)
          · exact .inr hr
        · refine Sat.ite (fun _ => ?_) (fun h => by simp [t1] at h)
          exact Sat.some (.inr ⟨t1, t2, t3.low h0.keys (by omega)⟩)
      · simp only [decide_eq_false_iff_not] at he
        have e4 : tailS tO (at' + secsN s.length) = [] := if_neg (by omega)
        refine (last d V c S h0 (by omega) (by omega)).mono fun r hr => ?_
        rcases hr with ⟨r1, r2, r3, r4⟩ | hr
        · refine .inl ⟨r1, r2, _, rfl, ?_, ?_⟩
          · rw [e4, show S + (secsN s.length - 1 - (secsN s.length - 1)) + ([] : List Sec).length + 1 = S + 1 by simp]
            exact r3
          · rw [e4, show S + (secsN s.length - 1 - (secsN s.length - 1)) + ([] : List Sec).length + 1 = S + 1 by simp]
            exact r4
        · exact .inr hr
section
variable {N tO at' num S : Nat} {f g : Int} {s : List UInt8} {F : List ApiFall} {d : ODevDev} {V : List Sec}
theorem body_sat (hs : s.length ≤ 1090) (hend : at' + secsN s.length ≤ tO) (hto : tO ≤ N) (hN : N ≤ 1000) (hF : F.length ≤ 1) (hS : S + 20 ≤ 1000000) (h : Is N F d V V 0 0 S) :
    Sat (log_Log_body.f KD ⟨f, tO, at', g⟩ d s) fun r =>
      (r.1 = 0 ∧ r.2.1 = ⟨f, tO, at', g⟩ ∧ ∃ T, T = S + (secsN s.length - 1) + (tailS tO (at' + secsN s.length)).length + 1 ∧
        Is N F r.2.2 (lay V (at' + 1) (chunksS s ++ tailS tO (at' + secsN s.length))) (lay V (at' + 1) (chunksS s ++ tailS tO (at' + secsN s.length))) 0 0 T ∧ NF F S T) ∨
      (r.1 = 7 ∧ F ≠ [] ∧ Lc N r.2.2 V (at' + 1) (S + 20)) := by
  have hk1 := secsN_pos s.length
  have hk5 := secsN_few hs
  unfold log_Log_body.f
  refine Sat.bindE (sectors_eq s.length (by omega)) ?_
  rw [show (104 : Int) = ((104 : Nat) : Int) from rfl, minI]
  refine Sat.chk ⟨by omega, by omega⟩ ?_
  dsimp only
  rw [W_in (by omega) (by omega), W_in (by omega) (by omega), Int.toNat_natCast, show ((at' : Int) + (secsN s.length : Int)) = ((at' + secsN s.length : Nat) : Int) by omega, show ((at' : Int) + 1) = ((at' + 1 + 0 : Nat) : Int) by omega]
  have e : s.drop (min s.length 104) = s.drop (104 + 128 * 0) := by
    by_cases hl : 104 ≤ s.length
    · rw [show min s.length 104 = 104 by omega]
    · rw [List.drop_eq_nil_of_le (by omega), List.drop_eq_nil_of_le (by omega)]
  rw [e]
  exact body_l1 N tO at' f g s F hF V hs hend hto hN (S + 20) hS KD 0 d V 0 S (h.relo _) (by omega) (by omega) (by omega) (by unfold KD; omega)
def added (tO : Nat) (V : List Sec) (at' num : Nat) (s : List UInt8) : List Sec := (lay V (at' + 1) (chunksS s ++ tailS tO (at' + secsN s.length))).set at' (headS num s)
theorem lay_low (q : Nat) (L : List Sec) (h : q ≤ at') : (lay V (at' + 1) L)[q]? = V[q]? := by
  rw [lay_get, if_neg (by omega)]
theorem add_x (hs : s.length ≤ 1090) (hend : at' + secsN s.length ≤ tO) (hto : tO ≤ N) (hN : N ≤ 1000) (hnum : num < 1000) (hF : F.length ≤ 1) (hS : S + 30 ≤ 1000000) (h : Is N F d V V 0 0 S) :
    Sat (log_Log_Add.f KD ⟨f, tO, at', num⟩ d s) fun r =>
      (r.1 = 0 ∧ r.2.1 = ⟨f, tO, (at' + secsN s.length : Nat), (num + 1 : Nat)⟩ ∧ ∃ T, T = S + (secsN s.length - 1) + (tailS tO (at' + secsN s.length)).length + 3 ∧
        Is N F r.2.2 (added tO V at' num s) (added tO V at' num s) 0 0 T ∧ NF F S T) ∨
      (r.1 = 7 ∧ F ≠ [] ∧ Lc N r.2.2 V at' (S + 30) ∧ (r.2.2.sure[at']? = V[at']? ∨
        ∃ t, t ≤ 128 ∧ r.2.2.sure[at']? = some ((headS num s).take t ++ (V.getD at' []).drop t) ∧ ∀ q, q ≠ at' → r.2.2.sure[q]? = (added tO V at' num s)[q]?)) := by
  have hk1 := secsN_pos s.length
  have hk5 := secsN_few hs
  have htl : (tailS tO (at' + secsN s.length)).length ≤ 1 := by unfold tailS; split <;> simp
  unfold log_Log_Add.f
  rw [if_pos rfl]
  refine Sat.bindE (off_eq d) ?_
  refine Sat.ite (fun hh => by rw [h.off] at hh; cases hh) (fun _ => ?_)
  refine Sat.bindE (sectors_eq s.length (by omega)) ?_
  dsimp only
  rw [W_in (by omega) (by omega)]
  refine Sat.ite (fun hh => by simp at hh; omega) (fun _ => ?_)
  refine Sat.bind (body_sat hs hend hto hN hF (by omega) h) fun t ht => ?_
  rcases ht with ⟨t1, t2, T, t3, t4, t5⟩ | ⟨t1, t2, t3⟩
  · refine Sat.ite (fun hh => by simp [t1] at hh) (fun _ => ?_)
    rw [t2]
    dsimp only
    refine Sat.bindE (log_head_eq num (by omega) s hs) ?_
    have ec : t.2.2.cache = [] := List.eq_nil_of_length_eq_zero (Nat.le_zero.1 t4.few)
    refine Sat.bind (t4.write KD_big (by omega) hF (by omega) (by omega) (i := at') (by omega) (by omega) (headS_len num s)) fun u hu => ?_
    rcases hu with ⟨u1, u2, u3, u4⟩ | ⟨u1, u2, u3⟩
    · refine Sat.ite (fun hh => by simp [u1] at hh) (fun _ => ?_)
      refine Sat.bind (u2.flush KD_big (by omega) hF (by omega) (by omega)) fun v hv => ?_
      rcases hv with ⟨v1, v2, v3⟩ | ⟨v1, v2, v3⟩
      · refine Sat.ite (fun hh => by simp [v1] at hh) (fun _ => ?_)
        refine Sat.bindE (sectors_eq s.length (by omega)) ?_
        rw [W_in (by omega) (by omega), WU_in (by omega) (by omega)]
        refine Sat.some (.inl ⟨rfl, by dsimp only; congr 1 <;> omega, T + 1 + 1, by omega, v2, ?_⟩)
        exact (t5.trans u4 (by omega) (by omega)).trans v3 (by omega) (by omega)
      · refine Sat.ite (fun _ => ?_) (fun hh => by simp [v1] at hh)
        rw [ec] at u3
        have eC : u.2.cache = [((at' : Int), headS num s)] := by rw [u3]; rfl
        rw [eC] at v3
        have hoth : ∀ q, q ≠ at' → v.2.sure[q]? = (lay V (at' + 1) (chunksS s ++ tailS tO (at' + secsN s.length)))[q]? := fun q hq => v3.torn.other q fun p hp e => by
          simp only [List.mem_cons, List.not_mem_nil, or_false] at hp
          subst hp
          simp only [Int.toNat_natCast] at e
          exact hq e.symm
        refine Sat.some (.inr ⟨v1, v2, ⟨v3.off, v3.c0, v3.dv, v3.f0, ⟨_, v3.st, by omega⟩, fun q hq => ?_⟩, .inr ?_⟩)
        · rw [hoth q (by omega)]; exact lay_low q _ (by omega)
        · obtain ⟨w, w1, w2⟩ := v3.torn.at_ _ (List.mem_cons_self)
          simp only [Int.toNat_natCast] at w2
          refine ⟨w, w1, ?_, fun q hq => ?_⟩
          · rw [w2, List.getD_eq_getElem?_getD, List.getD_eq_getElem?_getD, lay_low at' _ (Nat.le_refl _)]
          · rw [hoth q hq]
            unfold added
            rw [List.getElem?_set_ne (fun e => hq e.symm)]
    · refine Sat.ite (fun _ => ?_) (fun hh => by simp [u1] at hh)
      rw [ec] at u3
      have hoth : ∀ q, u.2.sure[q]? = (lay V (at' + 1) (chunksS s ++ tailS tO (at' + secsN s.length)))[q]? := fun q => u3.torn.other q fun p hp => by cases hp
      refine Sat.some (.inr ⟨u1, u2, ⟨u3.off, u3.c0, u3.dv, u3.f0, ⟨_, u3.st, by omega⟩, fun q hq => ?_⟩, .inl ?_⟩)
      · rw [hoth q]; exact lay_low q _ (by omega)
      · rw [hoth at']; exact lay_low at' _ (Nat.le_refl _)
  · refine Sat.ite (fun _ => ?_) (fun hh => by simp [t1] at hh)
    obtain ⟨S', hS', hS''⟩ := t3.st
    exact Sat.some (.inr ⟨t1, t2, ⟨t3.off, t3.c0, t3.dv, t3.f0, ⟨S', hS', by omega⟩, fun q hq => t3.low q (by omega)⟩, .inl (t3.low at' (by omega))⟩)
theorem add_full {lo c : Nat} {V0 : List Sec} (hs : s.length ≤ 1090) (hat : at' ≤ tO) (hend : tO < at' + secsN s.length) (hto : tO ≤ 1000) (h : Is N F d V0 V lo c S) :
    log_Log_Add.f KD ⟨f, tO, at', g⟩ d s = some (40, ⟨f, tO, at', g⟩, d) := by
  refine Sat.get ?_
  unfold log_Log_Add.f
  rw [if_pos rfl]
  refine Sat.bindE (off_eq d) ?_
  refine Sat.ite (fun hh => by rw [h.off] at hh; cases hh) (fun _ => ?_)
  refine Sat.bindE (sectors_eq s.length (by omega)) ?_
  dsimp only
  rw [W_in (by omega) (by omega)]
  refine Sat.ite (fun _ => Sat.some rfl) (fun hh => ?_)
  simp only [decide_eq_false_iff_not] at hh
  omega
end
end Go.Proofs.Ytimaibcaehagjaa

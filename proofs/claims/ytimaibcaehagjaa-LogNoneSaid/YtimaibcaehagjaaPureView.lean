/- Plain law of devices: a device as the list of the sectors that are read. -/
import Derived.Test.YtimaibcaehagjaaPureDev
namespace Go.Proofs.Ytimaibcaehagjaa
set_option linter.unusedVariables false
set_option maxHeartbeats 1000000
theorem flushS_map (k : Int) (v : Sec) (i : Nat) (hi : i ≠ k.toNat) : ∀ (m : List (Int × Sec)) (s s' : List Sec), s[i]? = s'[i]? → s.length = s'.length → (flushS s (m.map fun p => if p.1 = k then (p.1, v) else p))[i]? = (flushS s' m)[i]? := by
  intro m
  induction m with
  | nil => intro s s' h _; exact h
  | cons p m ih =>
    intro s s' h hl
    have e1 : flushS s ((p :: m).map fun p => if p.1 = k then (p.1, v) else p) = flushS (s.set p.1.toNat (if p.1 = k then (p.1, v) else p).2) (m.map fun p => if p.1 = k then (p.1, v) else p) := by
      unfold flushS
      rw [List.map_cons, List.foldl_cons]
      congr 2
      split <;> rfl
    have e2 : flushS s' (p :: m) = flushS (s'.set p.1.toNat p.2) m := rfl
    rw [e1, e2]
    refine ih _ _ ?_ (by simp [hl])
    by_cases hk : p.1 = k
    · rw [if_pos hk, List.getElem?_set_ne (by rw [hk]; exact fun h => hi h.symm), List.getElem?_set_ne (by rw [hk]; exact fun h => hi h.symm), h]
    · rw [if_neg hk]
      simp only [List.getElem?_set, hl, h]
theorem flushS_put {n : Nat} {sure : List Sec} {m : List (Int × Sec)} (h : Dv n sure m) {k : Nat} (hk : k < n) (v : Sec) (hv : v.length = 128) (hf : m.length < 1000) : flushS sure (FW.mput m (k : Int) v) = (flushS sure m).set k v := by
  apply List.ext_getElem?
  intro i
  have hd : Dv n sure (FW.mput m (k : Int) v) := ⟨h.len, h.secs, fun p hp => by
    rcases mput_mem hp with hp | rfl
    · exact h.keys p hp
    · exact ⟨by dsimp only; omega, by dsimp only; omega, hv⟩, mput_nd h.nd _ _, by have := mput_len m (k : Int) v; omega⟩
  by_cases hi : i = k
  · subst hi
    have := flushS_at (FW.mput m (i : Int) v) (i : Int) v (by omega) sure hd.nd (fun p hp => (hd.keys p hp).1) (mput_self m _ v) (by rw [h.len]; omega)
    rw [Int.toNat_natCast] at this
    rw [this, List.getElem?_set_self (by rw [flushS_len, h.len]; exact hk)]
  · rw [List.getElem?_set_ne (fun e => hi e.symm)]
    unfold FW.mput
    split
    · exact flushS_map (k : Int) v i (by simpa using hi) m sure sure rfl rfl
    · unfold flushS
      rw [List.foldl_append, List.foldl_cons, List.foldl_nil, List.getElem?_set_ne (by simpa using fun e => hi e.symm)]
theorem mget_some {m : List (Int × Sec)} {k : Int} {v : Sec} (h : FW.mget m k = some v) : (k, v) ∈ m := by
  unfold FW.mget at h
  obtain ⟨p, hp, rfl⟩ := Option.map_eq_some_iff.1 h
  have h1 := List.mem_of_find?_eq_some hp
  have h2 := List.find?_some hp
  simp only [decide_eq_true_eq] at h2
  rw [← h2]; exact h1
theorem mget_nothing {m : List (Int × Sec)} {k : Int} (h : FW.mget m k = none) : ∀ p ∈ m, p.1 ≠ k := by
  unfold FW.mget at h
  rw [Option.map_eq_none_iff, List.find?_eq_none] at h
  intro p hp
  simpa using h p hp
/-- A device that has power, as the sectors that are read; at most so many are loose. -/
structure Is (n : Nat) (d : ODevDev) (V : List Sec) (c : Nat) : Prop where
  off : d.off = false
  dv : Dv n d.sure d.cache
  view : flushS d.sure d.cache = V
  few : d.cache.length ≤ c
section
variable {n c : Nat} {d : ODevDev} {V : List Sec} {K : Nat}
theorem Is.len (h : Is n d V c) : V.length = n := by rw [← h.view, flushS_len, h.dv.len]
theorem Is.all (h : Is n d V c) : ∀ s ∈ V, s.length = 128 := by
  rw [← h.view]
  exact flushS_all _ _ h.dv.secs fun p hp => (h.dv.keys p hp).2.2
theorem Is.write (h : Is n d V c) (hc : c < 1000) {i : Nat} (hi : i < n) {s : Sec} (hs : s.length = 128) : Sat (dev_Dev_Write.f K d (i : Int) s) fun r => r.1 = 0 ∧ Is n r.2 (V.set i s) (c + 1) := by
  refine Sat.eq (write_eq K d h.off (i : Int) s hs) ?_
  have hl := h.dv.len
  rw [if_pos ⟨by omega, by omega⟩]
  have hf := h.few
  refine ⟨rfl, h.off, dv_put h.dv (by omega) (by omega) (by omega) hs, ?_, ?_⟩
  · rw [← h.view]
    exact flushS_put h.dv hi s hs (by omega)
  · have := mput_len d.cache (i : Int) s
    dsimp only; omega
theorem Is.write_out (h : Is n d V c) {i : Nat} (hi : n ≤ i) {s : Sec} (hs : s.length = 128) : dev_Dev_Write.f K d (i : Int) s = some (1, d) := by
  have hl := h.dv.len
  rw [write_eq K d h.off (i : Int) s hs, if_neg (by omega)]
theorem Is.flush (h : Is n d V c) : Sat (dev_Dev_Flush.f K d) fun r => r.1 = 0 ∧ Is n r.2 V 0 := by
  refine Sat.eq (flush_eq K d h.off fun p hp => ?_) ?_
  · have := h.dv.keys p hp
    have hl := h.dv.len
    omega
  · refine ⟨rfl, h.off, dv_flush h.dv, ?_, Nat.le_refl _⟩
    rw [← h.view]; rfl
theorem Is.read (h : Is n d V c) {i : Nat} (hi : i < n) : dev_Dev_Read.f d (i : Int) = some (V.getD i [], 0, d) := by
  have hl := h.dv.len
  unfold dev_Dev_Read.f
  rw [off_eq]
  simp only [Option.bind_some, h.off, Bool.false_eq_true, if_false]
  rw [if_neg (by simp; omega)]
  cases hg : FW.mget d.cache (i : Int) with
  | some s =>
    simp only [Option.isSome_some, if_true, Option.getD_some]
    have := flushS_at d.cache (i : Int) s (by omega) d.sure h.dv.nd (fun p hp => (h.dv.keys p hp).1) (mget_some hg) (by omega)
    rw [h.view, Int.toNat_natCast] at this
    rw [List.getD_eq_getElem?_getD, this]; rfl
  | none =>
    simp only [Option.isSome_none, Bool.false_eq_true, if_false]
    rw [if_pos ⟨by omega, by omega⟩, Int.toNat_natCast]
    have := flushS_other d.cache i d.sure fun p hp e => mget_nothing hg p hp (by have := (h.dv.keys p hp).1; omega)
    rw [h.view] at this
    rw [List.getD_eq_getElem?_getD, List.getD_eq_getElem?_getD, this]
    have hi' : i < d.sure.length := by omega
    simp [hi']
theorem Is.read_out (h : Is n d V c) {i : Nat} (hi : n ≤ i) : dev_Dev_Read.f d (i : Int) = some ([], 1, d) := by
  have hl := h.dv.len
  unfold dev_Dev_Read.f
  rw [off_eq]
  simp only [Option.bind_some, h.off, Bool.false_eq_true, if_false]
  rw [if_pos (by simp; omega)]
theorem Is.size (h : Is n d V c) : dev_Dev_Len.f d = some ((n : Int), d) := by
  unfold dev_Dev_Len.f
  rw [h.dv.len]
end
/-- Noughts. -/
def zeros (n : Nat) : List UInt8 := List.replicate n 0
theorem rep_zero (n : Nat) : strings_Repeat.f ([0] : List UInt8) (n : Int) = some (zeros n) ∨ 1000000 < n := by
  by_cases h : n ≤ 1000000
  · left
    unfold strings_Repeat.f
    rw [if_pos (by simp; omega), Int.toNat_natCast]
    congr 1
    unfold zeros
    induction n with
    | zero => rfl
    | succ n ih =>
      rw [List.replicate_succ, ← ih (by omega)]
      rfl
  · right; omega
theorem new_l1z (K : Nat) (n : Nat) : ∀ (k : Nat) (i : Nat) (l : List Sec), l.length = n → i ≤ n → n ≤ 65536 → (∀ (j : Nat), j < i → l[j]? = some (zeros 128)) → n - i < k →
    Sat (dev_New.l1 K k 0 false [] l (n : Int) (i : Int)) fun r => r.2 = 0 ∧ r.1 = ⟨List.replicate n (zeros 128), [], 0, false⟩ := by
  intro k
  induction k with
  | zero => intro i l h0 h1 h2 h3 h4; omega
  | succ k ih =>
    intro i l h0 h1 h2 h3 h4
    rw [dev_New.l1]
    refine Sat.ite (fun hi => ?_) (fun hi => ?_)
    · simp only [decide_eq_true_eq] at hi
      refine Sat.bindE ((rep_zero 128).resolve_right (by omega)) ?_
      rw [h0]
      refine Sat.chk ⟨by omega, by omega⟩ ?_
      rw [W_in (by omega) (by omega), Int.toNat_natCast, show ((i : Int) + 1) = ((i + 1 : Nat) : Int) by omega]
      refine ih (i + 1) _ (by simpa using h0) (by omega) h2 (fun j hj => ?_) (by omega)
      by_cases hji : j = i
      · subst hji
        rw [List.getElem?_set_self (by omega)]
      · rw [List.getElem?_set_ne (fun e => hji e.symm)]
        exact h3 j (by omega)
    · simp only [decide_eq_false_iff_not] at hi
      have : i = n := by omega
      subst this
      refine Sat.some ⟨rfl, ?_⟩
      have e : l = List.replicate i (zeros 128) := by
        apply List.ext_getElem?
        intro j
        by_cases hj : j < i
        · rw [h3 j hj, List.getElem?_replicate, if_pos hj]
        · rw [List.getElem?_eq_none (by omega), List.getElem?_eq_none (by simp; omega)]
      rw [e]
theorem new_is (K : Nat) (n : Nat) (hn : n ≤ 65536) (hK : n < K) : Sat (dev_New.f K (n : Int)) fun r => r.2 = 0 ∧ Is n r.1 (List.replicate n (zeros 128)) 0 := by
  unfold dev_New.f
  refine Sat.ite (fun h => by simp at h; omega) (fun _ => ?_)
  refine Sat.chk (by omega) ?_
  rw [Int.toNat_natCast, show ((List.replicate n ([] : List UInt8)).length : Int) = (n : Int) by simp]
  refine (new_l1z K n K 0 _ (by simp) (by omega) hn (fun j hj => by omega) (by omega)).mono fun r hr => ?_
  obtain ⟨d, e⟩ := r
  obtain ⟨h1, h2⟩ := hr
  dsimp only at h1 h2
  subst h2
  refine ⟨h1, rfl, ⟨by simp, fun s hs => ?_, by simp, by simp, by simp⟩, rfl, by simp⟩
  rw [List.mem_replicate] at hs
  rw [hs.2]; simp [zeros]
end Go.Proofs.Ytimaibcaehagjaa

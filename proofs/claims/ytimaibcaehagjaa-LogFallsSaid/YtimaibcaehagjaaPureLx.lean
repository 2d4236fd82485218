/- Plain law of devices with falls: what a loss of power leaves; a device as the list of the sectors that are read. -/
import Derived.Test.YtimaibcaehagjaaPureActs
import Derived.Test.YtimaibcaehagjaaLhD
namespace Go.Proofs.Ytimaibcaehagjaa
set_option linter.unusedVariables false
set_option maxHeartbeats 1000000
/-- Sectors of which some were torn. -/
structure Torn (sure : List Sec) (C : List (Int × Sec)) (S : List Sec) : Prop where
  other : ∀ q : Nat, (∀ p ∈ C, p.1.toNat ≠ q) → S[q]? = sure[q]?
  at_ : ∀ p ∈ C, ∃ t, t ≤ 128 ∧ S[p.1.toNat]? = some (p.2.take t ++ (sure.getD p.1.toNat []).drop t)
theorem ctorn_l1 (K : Nat) (n : Nat) (hn : n ≤ 65536) (d : ODevDev) (L : List Int) (hL : L.length ≤ 2000) (hx : ∀ x ∈ L, 0 ≤ x ∧ x < (n : Int) ∧ ∃ s, FW.mget d.cache x = some s ∧ s.length = 128) (hnd : L.Nodup) (st : Int) (off : Bool) (keep : Int) (U : List Sec) (hU : ∀ s ∈ U, s.length = 128) (hUl : U.length = n) :
    ∀ (k : Nat) (i : Nat) (sure : List Sec) (torn : Int), sure.length = n → (∀ s ∈ sure, s.length = 128) → i ≤ L.length → L.length - i < k → (∀ x ∈ L.drop i, sure[x.toNat]? = U[x.toNat]?) →
      ∃ S : List Sec, S.length = n ∧ (∀ s ∈ S, s.length = 128) ∧ dev_Dev_Crash.l1 K d k st off sure keep torn L (L.length : Int) (i : Int) = some ⟨S, [], st, d.falls, true⟩ ∧
        (∀ q : Nat, (∀ x ∈ L.drop i, x.toNat ≠ q) → S[q]? = sure[q]?) ∧ ∀ x ∈ L.drop i, ∃ t, t ≤ 128 ∧ S[x.toNat]? = some (((FW.mget d.cache x).getD []).take t ++ (U.getD x.toNat []).drop t) := by
  intro k
  induction k with
  | zero => intro i sure torn h0 h1 h2 h3; omega
  | succ k ih =>
    intro i sure torn h0 h1 h2 h3 hold
    by_cases hi : i < L.length
    · obtain ⟨x, hxd⟩ : ∃ x, L[i] = x := ⟨_, rfl⟩
      have hmem : x ∈ L := hxd ▸ List.getElem_mem hi
      obtain ⟨x0, x1, s, x3, x2⟩ := hx x hmem
      have e1 : L.getD i default = x := by simp [List.getD_eq_getElem?_getD, hi, hxd]
      have hdrop : L.drop i = x :: L.drop (i + 1) := by rw [List.drop_eq_getElem_cons hi, hxd]
      have hnot : ∀ y ∈ L.drop (i + 1), y.toNat ≠ x.toNat := by
        intro y hy e
        have h1 : (L.drop i).Nodup := hnd.sublist (List.drop_sublist _ _)
        rw [hdrop, List.nodup_cons] at h1
        have hy0 := (hx y (List.mem_of_mem_drop hy)).1
        have : y = x := by omega
        subst this
        exact h1.1 hy
      obtain ⟨b, hb⟩ : ∃ b, b = (if (63 : Int) < (i : Int) then 63 else (i : Int)) := ⟨_, rfl⟩
      have hb0 : 0 ≤ b ∧ b ≤ 63 := by rw [hb]; split <;> omega
      obtain ⟨c0, c1⟩ := clipT_in torn
      have hcl : (if ((128 : Nat) : Int) < (if torn < 0 then 0 else torn) then ((128 : Nat) : Int) else (if torn < 0 then 0 else torn)) = clipT torn := rfl
      have hlt : x.toNat < sure.length := by omega
      have hin : sure.getD x.toNat default ∈ sure := by
        rw [List.getD_eq_getElem?_getD, List.getElem?_eq_getElem hlt]
        exact List.getElem_mem hlt
      have hl := h1 _ hin
      have hUx : sure.getD x.toNat default = U.getD x.toNat [] := by
        rw [List.getD_eq_getElem?_getD, List.getD_eq_getElem?_getD, hold x (by rw [hdrop]; exact List.mem_cons_self), List.getElem?_eq_getElem (by omega)]; rfl
      have hR : dev_Dev_Crash.l1 K d (k + 1) st off sure keep torn L (L.length : Int) (i : Int) =
          if FW.andI .u64 (FW.shrI .u64 keep b) 1 = 0 then dev_Dev_Crash.j1 (dev_Dev_Crash.l1 K d k) K sure d st off keep 0 x (List.take (clipT torn).toNat s ++ List.drop (clipT torn).toNat (sure.getD x.toNat default)) L (L.length : Int) (i : Int)
          else dev_Dev_Crash.j1 (dev_Dev_Crash.l1 K d k) K sure d st off keep torn x s L (L.length : Int) (i : Int) := by
        rw [dev_Dev_Crash.l1, if_pos (by simp; omega), if_pos ⟨by omega, by omega⟩, if_pos (by split <;> omega), Int.toNat_natCast, e1]
        simp only [x3, Option.getD_some, x2]
        rw [hcl, ← hb]
        by_cases hp : FW.andI .u64 (FW.shrI .u64 keep b) 1 = 0
        · rw [if_pos (by simpa using hp), if_pos ⟨c0, by omega⟩, if_pos ⟨x0, by omega⟩, if_pos ⟨c0, by omega⟩, if_pos (by simp only [List.length_take, List.length_drop, x2, hl]; omega), if_pos hp]
        · rw [if_neg (by simpa using hp), if_neg hp]
      have fin : ∀ (w : Sec) (torn : Int), w.length = 128 → (∃ t, t ≤ 128 ∧ w = s.take t ++ (U.getD x.toNat []).drop t) → ∃ S : List Sec, S.length = n ∧ (∀ s ∈ S, s.length = 128) ∧
          dev_Dev_Crash.j1 (dev_Dev_Crash.l1 K d k) K sure d st off keep torn x w L (L.length : Int) (i : Int) = some ⟨S, [], st, d.falls, true⟩ ∧
          (∀ q : Nat, (∀ x ∈ L.drop i, x.toNat ≠ q) → S[q]? = sure[q]?) ∧ ∀ x ∈ L.drop i, ∃ t, t ≤ 128 ∧ S[x.toNat]? = some (((FW.mget d.cache x).getD []).take t ++ (U.getD x.toNat []).drop t) := by
        intro w torn hw hwt
        obtain ⟨S, s1, s2, s3, s4, s5⟩ := ih (i + 1) (sure.set x.toNat w) torn (by simpa using h0) (fun z hz => by
          rcases List.mem_or_eq_of_mem_set hz with hz | rfl
          · exact h1 z hz
          · exact hw) (by omega) (by omega) (fun y hy => by
          rw [List.getElem?_set_ne (fun e => hnot y hy e.symm)]
          exact hold y (by rw [hdrop]; exact List.mem_cons_of_mem _ hy))
        refine ⟨S, s1, s2, ?_, ?_, ?_⟩
        · unfold dev_Dev_Crash.j1
          rw [if_pos ⟨x0, by omega⟩, W_in (by omega) (by omega), show ((i : Int) + 1) = ((i + 1 : Nat) : Int) by omega]
          exact s3
        · intro q hq
          rw [hdrop] at hq
          rw [s4 q fun y hy => hq y (List.mem_cons_of_mem _ hy), List.getElem?_set_ne (hq x List.mem_cons_self)]
        · intro y hy
          rw [hdrop] at hy
          rcases List.mem_cons.1 hy with rfl | hy
          · obtain ⟨t, t1, t2⟩ := hwt
            refine ⟨t, t1, ?_⟩
            rw [s4 _ hnot, List.getElem?_set_self hlt, x3, Option.getD_some, t2]
          · exact s5 y hy
      rw [hR]
      by_cases hp : FW.andI .u64 (FW.shrI .u64 keep b) 1 = 0
      · rw [if_pos hp]
        exact fin _ 0 (by simp only [List.length_append, List.length_take, List.length_drop, x2, hl]; omega) ⟨(clipT torn).toNat, by omega, by rw [hUx]⟩
      · rw [if_neg hp]
        refine fin s torn x2 ⟨128, Nat.le_refl _, ?_⟩
        have hl2 : (U.getD x.toNat []).length = 128 := by rw [← hUx]; exact hl
        rw [List.take_of_length_le (by omega), List.drop_of_length_le (by omega), List.append_nil]
    · have : i = L.length := by omega
      subst this
      refine ⟨sure, h0, h1, ?_, fun q _ => rfl, fun y hy => ?_⟩
      · rw [dev_Dev_Crash.l1, if_neg (by simp)]
      · rw [List.drop_length] at hy; cases hy
theorem sortK_nodup {m : List (Int × Sec)} (h : (m.map (·.1)).Nodup) : (FW.sortK m).Nodup := by
  unfold FW.sortK
  exact (List.mergeSort_perm _ _).nodup_iff.2 h
theorem sortK_len (m : List (Int × Sec)) : (FW.sortK m).length = m.length := by
  unfold FW.sortK
  rw [List.length_mergeSort, List.length_map]
section
variable {K n : Nat} {d : ODevDev}
theorem crash_torn (hK : 3000 < K) (hn : n ≤ 65536) (h : Dv n d.sure d.cache) (ho : d.off = false) (hl : d.cache.length ≤ 1000) (keep torn : Int) :
    ∃ S, dev_Dev_Crash.f K d keep torn = some ⟨S, [], d.steps, d.falls, true⟩ ∧ Dv n S [] ∧ Torn d.sure d.cache S := by
  unfold dev_Dev_Crash.f
  rw [off_eq, Option.bind_some, if_neg (by simp [ho])]
  have hok : FW.keysOk d.cache = true := by
    unfold FW.keysOk
    rw [Bool.and_eq_true, List.all_eq_true]
    refine ⟨fun p hp => ?_, by simp; omega⟩
    obtain ⟨p0, p1, _⟩ := h.keys p hp
    simp [FW.in64]; omega
  rw [if_pos hok]
  obtain ⟨S, s1, s2, s3, s4, s5⟩ := ctorn_l1 K n hn d (FW.sortK d.cache) (by rw [sortK_len]; omega) (fun x hx => by
    obtain ⟨p, hp, rfl⟩ := sortK_mem.1 hx
    exact ⟨(h.keys p hp).1, (h.keys p hp).2.1, p.2, mget_mem h.nd hp, (h.keys p hp).2.2⟩) (sortK_nodup h.nd) d.steps d.off keep d.sure h.secs h.len K 0 d.sure torn h.len h.secs (by omega) (by rw [sortK_len]; omega) (fun x _ => rfl)
  rw [List.drop_zero] at s4 s5
  refine ⟨S, s3, ⟨s1, s2, by simp, by simp⟩, fun q hq => s4 q fun x hx => ?_, fun p hp => ?_⟩
  · obtain ⟨p, hp, rfl⟩ := sortK_mem.1 hx
    exact hq p hp
  · have := s5 p.1 (sortK_mem.2 ⟨p, hp, rfl⟩)
    rw [mget_mem h.nd hp] at this
    exact this
theorem step_x (hK : 3000 < K) (hn : n ≤ 65536) (h : Dv n d.sure d.cache) (ho : d.off = false) (hl : d.cache.length ≤ 1000) (f1 : d.falls.length ≤ 1) {S : Nat} (hS : d.steps = (S : Int)) (hS2 : S ≤ 1000000) :
    (dev_Dev_step.f K d = some (0, ⟨d.sure, d.cache, ((S + 1 : Nat) : Int), d.falls, d.off⟩) ∧ ∀ f ∈ d.falls, f.At ≠ (S : Int)) ∨
    (∃ X, dev_Dev_step.f K d = some (7, ⟨X, [], (S : Int), [], true⟩) ∧ Dv n X [] ∧ Torn d.sure d.cache X ∧ d.falls ≠ []) := by
  unfold dev_Dev_step.f
  rw [idx_eq (by omega) f1]
  simp only [Option.bind_some]
  by_cases hc : (d.falls.head?.map fun f => decide (f.At = d.steps)) = some true
  · right
    rw [if_pos hc]
    match hfl : d.falls, f1 with
    | [], _ => rw [hfl] at hc; simp at hc
    | [f], _ =>
      obtain ⟨X, h1, h2, h3⟩ := crash_torn (d := ⟨d.sure, d.cache, d.steps, [], d.off⟩) hK hn h ho hl f.Keep f.Torn
      refine ⟨X, ?_, h2, h3, by simp⟩
      rw [if_neg (by simp), if_pos (by simp), if_pos ⟨by simp, rfl, by rw [W_in (by omega) (by omega)]; rfl⟩]
      simp only [Int.toNat_zero, List.getD_cons_zero]
      rw [h1, ← hS]; rfl
  · left
    rw [if_neg hc, if_pos (by simp), hS, W_in (by omega) (by omega)]
    refine ⟨rfl, fun f hf e => hc ?_⟩
    match hfl : d.falls, f1 with
    | [], _ => rw [hfl] at hf; cases hf
    | [g], _ =>
      rw [hfl] at hf
      simp only [List.mem_cons, List.not_mem_nil, or_false] at hf
      subst hf
      simp [hS, e]
end
/-! ### A device that has power -/
theorem flushS_mapX (k : Int) (v : Sec) (i : Nat) (hi : i ≠ k.toNat) : ∀ (m : List (Int × Sec)) (s s' : List Sec), s[i]? = s'[i]? → s.length = s'.length → (flushS s (m.map fun p => if p.1 = k then (p.1, v) else p))[i]? = (flushS s' m)[i]? := by
  intro m
  induction m with
  | nil => intro s s' h _; exact h
  | cons p m ih =>
    intro s s' h hl
    have e1 : flushS s ((p :: m).map fun p => if p.1 = k then (p.1, v) else p) = flushS (s.set p.1.toNat (if p.1 = k then (p.1, v) else p).2) (m.map fun p => if p.1 = k then (p.1, v) else p) := by
      unfold flushS
      rw [List.map_cons, List.foldl_cons]
      congr 2
      split <;> rfl
    have e2 : flushS s' (p :: m) = flushS (s'.set p.1.toNat p.2) m := rfl
    rw [e1, e2]
    refine ih _ _ ?_ (by simp [hl])
    by_cases hk : p.1 = k
    · rw [if_pos hk, List.getElem?_set_ne (by rw [hk]; exact fun h => hi h.symm), List.getElem?_set_ne (by rw [hk]; exact fun h => hi h.symm), h]
    · rw [if_neg hk]
      simp only [List.getElem?_set, hl, h]
theorem flushS_putX {n : Nat} {sure : List Sec} {m : List (Int × Sec)} (h : Dv n sure m) {k : Nat} (hk : k < n) (v : Sec) (hv : v.length = 128) : flushS sure (FW.mput m (k : Int) v) = (flushS sure m).set k v := by
  apply List.ext_getElem?
  intro i
  have hd : Dv n sure (FW.mput m (k : Int) v) := dv_put h (by omega) (by omega) hv
  by_cases hi : i = k
  · subst hi
    have := flushS_at (FW.mput m (i : Int) v) (i : Int) v (by omega) sure hd.nd (fun p hp => (hd.keys p hp).1) (mput_self m _ v) (by rw [h.len]; omega)
    rw [Int.toNat_natCast] at this
    rw [this, List.getElem?_set_self (by rw [flushS_len, h.len]; exact hk)]
  · rw [List.getElem?_set_ne (fun e => hi e.symm)]
    unfold FW.mput
    split
    · exact flushS_mapX (k : Int) v i (by simpa using hi) m sure sure rfl rfl
    · unfold flushS
      rw [List.foldl_append, List.foldl_cons, List.foldl_nil, List.getElem?_set_ne (by simpa using fun e => hi e.symm)]
/-- A device that has power: falls F, sure sectors V0, sectors as they are read V, at most c loose ones from lo on, S steps. -/
structure Is (n : Nat) (F : List ApiFall) (d : ODevDev) (V0 V : List Sec) (lo c S : Nat) : Prop where
  off : d.off = false
  dv : Dv n d.sure d.cache
  sure0 : d.sure = V0
  view : flushS d.sure d.cache = V
  few : d.cache.length ≤ c
  keys : ∀ p ∈ d.cache, (lo : Int) ≤ p.1
  fl : d.falls = F
  st : d.steps = (S : Int)
/-- One whose power failed, while it had the loose sectors C. -/
structure Cr (n : Nat) (d : ODevDev) (V0 : List Sec) (C : List (Int × Sec)) (S : Nat) : Prop where
  off : d.off = true
  c0 : d.cache = []
  dv : Dv n d.sure []
  f0 : d.falls = []
  st : d.steps = (S : Int)
  torn : Torn V0 C d.sure
/-- No fall is laid for these steps. -/
def NF (F : List ApiFall) (S T : Nat) : Prop := ∀ f ∈ F, f.At < (S : Int) ∨ (T : Int) ≤ f.At
theorem NF.trans {F : List ApiFall} {S T U : Nat} (h : NF F S T) (h' : NF F T U) (h1 : S ≤ T) (h2 : T ≤ U) : NF F S U := fun f hf => by
  have a := h f hf
  have b := h' f hf
  omega
theorem NF.one {F : List ApiFall} {S : Nat} (h : ∀ f ∈ F, f.At ≠ (S : Int)) : NF F S (S + 1) := fun f hf => by
  have := h f hf
  omega
theorem NF.refl (F : List ApiFall) (S : Nat) : NF F S S := fun f hf => by omega
section
variable {n lo c S : Nat} {d : ODevDev} {V V0 : List Sec} {K : Nat} {F : List ApiFall}
theorem Is.len (h : Is n F d V0 V lo c S) : V.length = n := by rw [← h.view, flushS_len, h.dv.len]
theorem Is.all (h : Is n F d V0 V lo c S) : ∀ s ∈ V, s.length = 128 := by
  rw [← h.view]
  exact flushS_all _ _ h.dv.secs fun p hp => (h.dv.keys p hp).2.2
theorem Is.relo (h : Is n F d V0 V lo 0 S) (lo' : Nat) : Is n F d V0 V lo' 0 S := by
  have e : d.cache = [] := List.eq_nil_of_length_eq_zero (Nat.le_zero.1 h.few)
  exact ⟨h.off, h.dv, h.sure0, h.view, h.few, by rw [e]; simp, h.fl, h.st⟩
theorem Is.write (h : Is n F d V0 V lo c S) (hK : 3000 < K) (hn : n ≤ 65536) (hF : F.length ≤ 1) (hc : c < 1000) (hS : S ≤ 1000000) {i : Nat} (hlo : lo ≤ i) (hi : i < n) {s : Sec} (hs : s.length = 128) :
    Sat (dev_Dev_Write.f K d (i : Int) s) fun r => (r.1 = 0 ∧ Is n F r.2 V0 (V.set i s) lo (c + 1) (S + 1) ∧ r.2.cache = FW.mput d.cache (i : Int) s ∧ NF F S (S + 1)) ∨ (r.1 = 7 ∧ F ≠ [] ∧ Cr n r.2 V0 d.cache S) := by
  have hl := h.dv.len
  have hf := h.few
  unfold dev_Dev_Write.f
  rw [off_eq, Option.bind_some, if_neg (by simp [h.off]), if_neg (by simp [hs]; omega)]
  rcases step_x hK hn h.dv h.off (by omega) (by rw [h.fl]; exact hF) h.st hS with ⟨h1, h2⟩ | ⟨X, h1, h2, h3, h4⟩
  · rw [h1, Option.bind_some, if_neg (by simp)]
    refine Sat.some (.inl ⟨rfl, ⟨h.off, dv_put h.dv (by omega) (by omega) hs, h.sure0, ?_, ?_, ?_, h.fl, rfl⟩, rfl, NF.one (by rw [← h.fl]; exact h2)⟩)
    · rw [← h.view]; exact flushS_putX h.dv hi s hs
    · have := mput_len d.cache (i : Int) s
      dsimp only; omega
    · intro p hp
      rcases mput_mem hp with hp | rfl
      · exact h.keys p hp
      · show (lo : Int) ≤ (i : Int)
        omega
  · rw [h1, Option.bind_some, if_pos (by simp)]
    refine Sat.some (.inr ⟨rfl, by rw [← h.fl]; exact h4, rfl, rfl, h2, rfl, rfl, ?_⟩)
    rw [← h.sure0]; exact h3
theorem Is.flush (h : Is n F d V0 V lo c S) (hK : 3000 < K) (hn : n ≤ 65536) (hF : F.length ≤ 1) (hc : c < 1000) (hS : S ≤ 1000000) :
    Sat (dev_Dev_Flush.f K d) fun r => (r.1 = 0 ∧ Is n F r.2 V V 0 0 (S + 1) ∧ NF F S (S + 1)) ∨ (r.1 = 7 ∧ F ≠ [] ∧ Cr n r.2 V0 d.cache S) := by
  have hl := h.dv.len
  have hf := h.few
  unfold dev_Dev_Flush.f
  rw [off_eq, Option.bind_some, if_neg (by simp [h.off])]
  rcases step_x hK hn h.dv h.off (by omega) (by rw [h.fl]; exact hF) h.st hS with ⟨h1, h2⟩ | ⟨X, h1, h2, h3, h4⟩
  · rw [h1, Option.bind_some, if_neg (by simp)]
    refine Sat.chk ?_ ?_
    · unfold flushOk
      rw [List.all_eq_true]
      intro p hp
      have := h.dv.keys p hp
      simp; omega
    · refine Sat.some (.inl ⟨rfl, ⟨h.off, dv_flush h.dv, h.view, ?_, by simp, by simp, h.fl, rfl⟩, NF.one (by rw [← h.fl]; exact h2)⟩)
      rw [← h.view]; rfl
  · rw [h1, Option.bind_some, if_pos (by simp)]
    refine Sat.some (.inr ⟨rfl, by rw [← h.fl]; exact h4, rfl, rfl, h2, rfl, rfl, ?_⟩)
    rw [← h.sure0]; exact h3
theorem Is.read (h : Is n F d V0 V lo c S) {i : Nat} (hi : i < n) : dev_Dev_Read.f d (i : Int) = some (V.getD i [], 0) := by
  have hl := h.dv.len
  unfold dev_Dev_Read.f
  rw [off_eq]
  simp only [Option.bind_some, h.off, Bool.false_eq_true, if_false]
  rw [if_neg (by simp; omega)]
  cases hg : FW.mget d.cache (i : Int) with
  | some s =>
    simp only [Option.isSome_some, if_true, Option.getD_some]
    have := flushS_at d.cache (i : Int) s (by omega) d.sure h.dv.nd (fun p hp => (h.dv.keys p hp).1) ((mget_iff h.dv.nd).1 hg) (by omega)
    rw [h.view, Int.toNat_natCast] at this
    rw [List.getD_eq_getElem?_getD, this]; rfl
  | none =>
    simp only [Option.isSome_none, Bool.false_eq_true, if_false]
    rw [if_pos ⟨by omega, by omega⟩, Int.toNat_natCast]
    have := flushS_other d.cache i d.sure fun p hp e => by
      have h1 := (mget_iff h.dv.nd).2 (show (p.1, p.2) ∈ d.cache from hp)
      rw [show p.1 = (i : Int) by have := (h.dv.keys p hp).1; omega, hg] at h1
      cases h1
    rw [h.view] at this
    rw [List.getD_eq_getElem?_getD, List.getD_eq_getElem?_getD, this]
    have hi' : i < d.sure.length := by omega
    simp [hi']
end
/-- Noughts. -/
def zeros (n : Nat) : List UInt8 := List.replicate n 0
theorem rep_zero (n : Nat) : strings_Repeat.f ([0] : List UInt8) (n : Int) = some (zeros n) ∨ 1000000 < n := by
  by_cases h : n ≤ 1000000
  · left
    unfold strings_Repeat.f
    rw [if_pos (by simp; omega), Int.toNat_natCast]
    congr 1
    unfold zeros
    induction n with
    | zero => rfl
    | succ n ih =>
      rw [List.replicate_succ, ← ih (by omega)]
      rfl
  · right; omega
theorem new_is (K : Nat) (n : Nat) (hn : n ≤ 65536) (hK : n < K) : ∃ d, dev_New.f K (n : Int) = some (d, 0) ∧ Is n [] d (List.replicate n (zeros 128)) (List.replicate n (zeros 128)) 0 0 0 := by
  refine ⟨_, new_eq K n hn hK, rfl, ⟨by simp, fun s hs => ?_, by simp, by simp⟩, rfl, rfl, by simp, by simp, rfl, rfl⟩
  rw [List.mem_replicate] at hs
  rw [hs.2]; simp [zeroS]
end Go.Proofs.Ytimaibcaehagjaa

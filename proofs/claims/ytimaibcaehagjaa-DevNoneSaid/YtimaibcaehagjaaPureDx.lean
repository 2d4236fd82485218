/- Plain law of devices (with falls): sectors, maps, what a flush lays. -/
import Derived.Test.YtimaibcaehagjaaDaD
import Derived.IntWalk
namespace Go.Proofs.Ytimaibcaehagjaa
set_option linter.unusedVariables false
set_option maxHeartbeats 1000000
/-- It comes to something, and that is such. -/
def Sat {α : Type} (x : Option α) (P : α → Prop) : Prop := ∃ r, x = some r ∧ P r
section
variable {α β : Type} {x : Option α} {P Q : α → Prop}
theorem Sat.some {r : α} (h : P r) : Sat (some r) P := ⟨r, rfl, h⟩
theorem Sat.mono (h : Sat x P) (h' : ∀ r, P r → Q r) : Sat x Q := let ⟨r, h1, h2⟩ := h; ⟨r, h1, h' r h2⟩
theorem Sat.chk {p : Prop} [Decidable p] (hp : p) (h : Sat x P) : Sat (if p then x else none) P := by rw [if_pos hp]; exact h
theorem Sat.ite {b : Bool} {y : Option α} (h1 : b = true → Sat x P) (h2 : b = false → Sat y P) : Sat (if b = true then x else y) P := by
  cases b with
  | true => rw [if_pos rfl]; exact h1 rfl
  | false => rw [if_neg (by simp)]; exact h2 rfl
theorem Sat.bind {F : β → Option α} {y : Option β} {R : β → Prop} (h : Sat y R) (h' : ∀ r, R r → Sat (F r) P) : Sat (Option.bind y F) P := by
  obtain ⟨r, rfl, hr⟩ := h
  exact h' r hr
theorem Sat.bindE {F : β → Option α} {y : Option β} {r : β} (h : y = Option.some r) (h' : Sat (F r) P) : Sat (Option.bind y F) P := by subst h; exact h'
theorem Sat.eq {r : α} (h : x = Option.some r) (hr : P r) : Sat x P := ⟨r, h, hr⟩
theorem Sat.get {r : α} (h : Sat x (fun y => y = r)) : x = Option.some r := by obtain ⟨y, h1, rfl⟩ := h; exact h1
theorem Sat.bindG {R : β → Prop} {F : β → Option α} {p : Prop} [Decidable p] {y : Option β} {d : β} (h : p → Sat y R) (h1 : p → ∀ r, R r → Sat (F r) P) (h2 : ¬ p → Sat (F d) P) : Sat (Option.bind (if p then y else Option.some d) F) P := by
  by_cases hp : p
  · rw [if_pos hp]; exact Sat.bind (h hp) (h1 hp)
  · rw [if_neg hp]; exact h2 hp
end
theorem W_in {x : Int} (h0 : -9223372036854775808 ≤ x) (h1 : x ≤ 9223372036854775807) : IntKind.wrap .i64 x = x := IntWalk.i64_in x ⟨h0, h1⟩
abbrev Sec := List UInt8
def KD : Nat := 1000000
/-- A sector of one letter. -/
def sec (c : Int) : Sec := List.replicate 128 (UInt8.ofNat c.toNat)
theorem sec_len (c : Int) : (sec c).length = 128 := by simp [sec]
theorem sector_l1 (K : Nat) (c : Int) : ∀ (k : Nat) (i : Nat) (l : List Int), l.length = 128 → i ≤ 128 → 128 - i < k → offshootlaw03_sector.l1 K k l c (i : Int) = some (FW.toB (l.take i ++ List.replicate (128 - i) c)) := by
  intro k
  induction k with
  | zero => intro i l h0 h1 h2; omega
  | succ k ih =>
    intro i l h0 h1 h2
    rw [offshootlaw03_sector.l1, h0]
    by_cases hi : i < 128
    · rw [if_pos (by simp; omega), if_pos ⟨by omega, by omega⟩, W_in (by omega) (by omega), Int.toNat_natCast]
      have := ih (i + 1) (l.set i c) (by simpa using h0) (by omega) (by omega)
      rw [show ((i : Int) + 1) = ((i + 1 : Nat) : Int) by omega, this]
      congr 2
      rw [List.take_add_one, List.take_set_of_le (by omega), List.getElem?_set_self (by omega), show 128 - i = (128 - (i + 1)) + 1 from by omega, List.replicate_succ]
      simp
    · have : i = 128 := by omega
      subst this
      rw [if_neg (by simp)]
      simp [← h0]
theorem toB_rep (n : Nat) (c : Int) : FW.toB (List.replicate n c) = List.replicate n (UInt8.ofNat c.toNat) := by simp [FW.toB]
theorem sector_eq (K : Nat) (hK : 128 < K) (c : Int) : offshootlaw03_sector.f K c = some (sec c) := by
  unfold offshootlaw03_sector.f
  rw [if_pos (by omega)]
  have := sector_l1 K c K 0 (List.replicate (Int.toNat 128) (0 : Int)) (by simp) (by omega) (by omega)
  rw [show ((0 : Nat) : Int) = 0 from rfl] at this
  rw [this, List.take_zero, List.nil_append, Nat.sub_zero, toB_rep]
  rfl
/-! ### Maps -/
theorem mput_mem {m : List (Int × Sec)} {k : Int} {v : Sec} {p : Int × Sec} (h : p ∈ FW.mput m k v) : p ∈ m ∨ p = (k, v) := by
  unfold FW.mput at h
  split at h
  · obtain ⟨q, hq, hqp⟩ := List.mem_map.1 h
    by_cases e : q.1 = k
    · rw [if_pos e] at hqp
      rw [← hqp, e]; exact .inr rfl
    · rw [if_neg e] at hqp
      rw [← hqp]; exact .inl hq
  · rcases List.mem_append.1 h with h | h
    · exact .inl h
    · simp only [List.mem_cons, List.not_mem_nil, or_false] at h
      exact .inr h
theorem mput_self (m : List (Int × Sec)) (k : Int) (v : Sec) : (k, v) ∈ FW.mput m k v := by
  unfold FW.mput
  split
  · rename_i h
    rw [List.any_eq_true] at h
    obtain ⟨q, hq, he⟩ := h
    have he' : q.1 = k := by simpa using he
    exact List.mem_map.2 ⟨q, hq, by rw [if_pos he', he']⟩
  · exact List.mem_append_right _ (by simp)
theorem mput_nd {m : List (Int × Sec)} (h : (m.map (·.1)).Nodup) (k : Int) (v : Sec) : ((FW.mput m k v).map (·.1)).Nodup := by
  unfold FW.mput
  split
  · have e : (m.map fun p => if p.1 = k then (p.1, v) else p).map (·.1) = m.map (·.1) := by
      rw [List.map_map]
      refine List.map_congr_left fun p _ => ?_
      by_cases e : p.1 = k <;> simp [e]
    rw [e]; exact h
  · rename_i hn
    rw [List.map_append, List.nodup_append]
    refine ⟨h, by simp, ?_⟩
    intro a ha b hb hab
    simp only [List.map_cons, List.map_nil, List.mem_cons, List.not_mem_nil, or_false] at hb
    obtain ⟨p, hp, rfl⟩ := List.mem_map.1 ha
    apply hn
    rw [List.any_eq_true]
    exact ⟨p, hp, by simpa using hab.trans hb⟩
theorem mput_len (m : List (Int × Sec)) (k : Int) (v : Sec) : (FW.mput m k v).length ≤ m.length + 1 := by
  unfold FW.mput
  split <;> simp
theorem mget_mem {m : List (Int × Sec)} (h : (m.map (·.1)).Nodup) {p : Int × Sec} (hp : p ∈ m) : FW.mget m p.1 = some p.2 := by
  obtain ⟨j, hj⟩ := List.mem_iff_getElem?.1 hp
  exact FW.mget_at h hj
theorem flushS_len (m : List (Int × Sec)) : ∀ sure : List Sec, (flushS sure m).length = sure.length := by
  unfold flushS
  induction m with
  | nil => intro s; rfl
  | cons p m ih => intro s; rw [List.foldl_cons, ih, List.length_set]
theorem flushS_all (m : List (Int × Sec)) : ∀ sure : List Sec, (∀ s ∈ sure, s.length = 128) → (∀ p ∈ m, p.2.length = 128) → ∀ s ∈ flushS sure m, s.length = 128 := by
  unfold flushS
  induction m with
  | nil => intro s h _; exact h
  | cons p m ih =>
    intro s h h2
    rw [List.foldl_cons]
    refine ih _ (fun x hx => ?_) fun q hq => h2 q (List.mem_cons_of_mem _ hq)
    rcases List.mem_or_eq_of_mem_set hx with hx | rfl
    · exact h x hx
    · exact h2 p List.mem_cons_self
theorem flushS_other (m : List (Int × Sec)) (i : Nat) : ∀ sure : List Sec, (∀ p ∈ m, p.1.toNat ≠ i) → (flushS sure m)[i]? = sure[i]? := by
  unfold flushS
  induction m with
  | nil => intro s _; rfl
  | cons p m ih =>
    intro s h
    rw [List.foldl_cons, ih _ (fun q hq => h q (List.mem_cons_of_mem _ hq)), List.getElem?_set_ne (h p List.mem_cons_self)]
theorem flushS_at (m : List (Int × Sec)) (k : Int) (v : Sec) (hk : 0 ≤ k) : ∀ sure : List Sec, (m.map (·.1)).Nodup → (∀ p ∈ m, 0 ≤ p.1) → (k, v) ∈ m → k.toNat < sure.length → (flushS sure m)[k.toNat]? = some v := by
  induction m with
  | nil => intro s _ _ h; cases h
  | cons p m ih =>
    intro s hn hp hm hl
    rw [List.map_cons, List.nodup_cons] at hn
    have e : flushS s (p :: m) = flushS (s.set p.1.toNat p.2) m := rfl
    rw [e]
    rcases List.mem_cons.1 hm with rfl | hm
    · rw [flushS_other m _ _ fun q hq heq => hn.1 (List.mem_map.2 ⟨q, hq, ?_⟩), List.getElem?_set_self hl]
      have h1 := hp q (List.mem_cons_of_mem _ hq)
      show q.1 = k
      have h2 : q.1.toNat = k.toNat := heq
      omega
    · exact ih _ hn.2 (fun q hq => hp q (List.mem_cons_of_mem _ hq)) hm (by simpa using hl)
theorem sortK_mem {m : List (Int × Sec)} {x : Int} : x ∈ FW.sortK m ↔ ∃ p ∈ m, p.1 = x := by
  unfold FW.sortK
  rw [(List.mergeSort_perm _ _).mem_iff, List.mem_map]
/-- Sectors, and those that are loose. -/
structure Dv (n : Nat) (sure : List Sec) (m : List (Int × Sec)) : Prop where
  len : sure.length = n
  secs : ∀ s ∈ sure, s.length = 128
  keys : ∀ p ∈ m, 0 ≤ p.1 ∧ p.1 < (n : Int) ∧ p.2.length = 128
  nd : (m.map (·.1)).Nodup
theorem dv_put {n : Nat} {sure : List Sec} {m : List (Int × Sec)} (h : Dv n sure m) {i : Int} (h0 : 0 ≤ i) (h1 : i < (n : Int)) {s : Sec} (hs : s.length = 128) : Dv n sure (FW.mput m i s) :=
  ⟨h.len, h.secs, fun p hp => by
    rcases mput_mem hp with hp | rfl
    · exact h.keys p hp
    · exact ⟨h0, h1, hs⟩, mput_nd h.nd i s⟩
theorem dv_flush {n : Nat} {sure : List Sec} {m : List (Int × Sec)} (h : Dv n sure m) : Dv n (flushS sure m) [] :=
  ⟨(flushS_len m sure).trans h.len, flushS_all m sure h.secs fun p hp => (h.keys p hp).2.2, by simp, by simp⟩
/-- Which entries a map has behind one is put. -/
theorem mput_iff {m : List (Int × Sec)} {k : Int} {v : Sec} {p : Int × Sec} : p ∈ FW.mput m k v ↔ p = (k, v) ∨ (p ∈ m ∧ p.1 ≠ k) := by
  constructor
  · intro h
    unfold FW.mput at h
    split at h
    · obtain ⟨q, hq, hqp⟩ := List.mem_map.1 h
      by_cases e : q.1 = k
      · rw [if_pos e] at hqp; rw [← hqp, e]; exact .inl rfl
      · rw [if_neg e] at hqp; rw [← hqp]; exact .inr ⟨hq, e⟩
    · rename_i hn
      rcases List.mem_append.1 h with h | h
      · refine .inr ⟨h, fun e => hn ?_⟩
        rw [List.any_eq_true]
        exact ⟨p, h, by simpa using e⟩
      · simp only [List.mem_cons, List.not_mem_nil, or_false] at h
        exact .inl h
  · rintro (rfl | ⟨h, e⟩)
    · exact mput_self m k v
    · unfold FW.mput
      split
      · exact List.mem_map.2 ⟨p, h, by rw [if_neg e]⟩
      · exact List.mem_append_left _ h
theorem mget_iff {m : List (Int × Sec)} (h : (m.map (·.1)).Nodup) {k : Int} {v : Sec} : FW.mget m k = some v ↔ (k, v) ∈ m := by
  constructor
  · intro hg
    unfold FW.mget at hg
    obtain ⟨p, hp, hv⟩ := Option.map_eq_some_iff.1 hg
    have h1 := List.mem_of_find?_eq_some hp
    have h2 := List.find?_some hp
    have h3 : p.1 = k := by simpa using h2
    rw [← h3, ← hv]; exact h1
  · intro hm; exact mget_mem h hm
theorem mget_none {m : List (Int × Sec)} {k : Int} (h : ∀ p ∈ m, p.1 ≠ k) : FW.mget m k = none := by
  unfold FW.mget
  rw [Option.map_eq_none_iff, List.find?_eq_none]
  intro p hp; simpa using h p hp
end Go.Proofs.Ytimaibcaehagjaa

/- Plain law of devices: what their functions come to. -/
import Derived.Test.YtimaibcaehagjaaDsD
import Derived.IntWalk
namespace Go.Proofs.Ytimaibcaehagjaa
set_option linter.unusedVariables false
set_option maxHeartbeats 1000000
/-- It comes to something, and that is such. -/
def Sat {α : Type} (x : Option α) (P : α → Prop) : Prop := ∃ r, x = some r ∧ P r
section
variable {α β : Type} {x : Option α} {P Q : α → Prop}
theorem Sat.some {r : α} (h : P r) : Sat (some r) P := ⟨r, rfl, h⟩
theorem Sat.mono (h : Sat x P) (h' : ∀ r, P r → Q r) : Sat x Q := let ⟨r, h1, h2⟩ := h; ⟨r, h1, h' r h2⟩
theorem Sat.chk {p : Prop} [Decidable p] (hp : p) (h : Sat x P) : Sat (if p then x else none) P := by rw [if_pos hp]; exact h
theorem Sat.ite {b : Bool} {y : Option α} (h1 : b = true → Sat x P) (h2 : b = false → Sat y P) : Sat (if b = true then x else y) P := by
  cases b with
  | true => rw [if_pos rfl]; exact h1 rfl
  | false => rw [if_neg (by simp)]; exact h2 rfl
theorem Sat.bind {F : β → Option α} {y : Option β} {R : β → Prop} (h : Sat y R) (h' : ∀ r, R r → Sat (F r) P) : Sat (Option.bind y F) P := by
  obtain ⟨r, rfl, hr⟩ := h
  exact h' r hr
theorem Sat.bindE {F : β → Option α} {y : Option β} {r : β} (h : y = Option.some r) (h' : Sat (F r) P) : Sat (Option.bind y F) P := by subst h; exact h'
theorem Sat.eq {r : α} (h : x = Option.some r) (hr : P r) : Sat x P := ⟨r, h, hr⟩
theorem Sat.get {r : α} (h : Sat x (fun y => y = r)) : x = Option.some r := by obtain ⟨y, h1, rfl⟩ := h; exact h1
theorem Sat.bindG {R : β → Prop} {F : β → Option α} {p : Prop} [Decidable p] {y : Option β} {d : β} (h : p → Sat y R) (h1 : p → ∀ r, R r → Sat (F r) P) (h2 : ¬ p → Sat (F d) P) : Sat (Option.bind (if p then y else Option.some d) F) P := by
  by_cases hp : p
  · rw [if_pos hp]; exact Sat.bind (h hp) (h1 hp)
  · rw [if_neg hp]; exact h2 hp
end
theorem W_in {x : Int} (h0 : -9223372036854775808 ≤ x) (h1 : x ≤ 9223372036854775807) : IntKind.wrap .i64 x = x := IntWalk.i64_in x ⟨h0, h1⟩
abbrev Sec := List UInt8
def KD : Nat := 1000000
/-- A sector of one letter. -/
def sec (c : Int) : Sec := List.replicate 128 (UInt8.ofNat c.toNat)
theorem sec_len (c : Int) : (sec c).length = 128 := by simp [sec]
theorem sector_l1 (K : Nat) (c : Int) : ∀ (k : Nat) (i : Nat) (l : List Int), l.length = 128 → i ≤ 128 → 128 - i < k → offshootlaw03_sector.l1 K k l c (i : Int) = some (FW.toB (l.take i ++ List.replicate (128 - i) c)) := by
  intro k
  induction k with
  | zero => intro i l h0 h1 h2; omega
  | succ k ih =>
    intro i l h0 h1 h2
    rw [offshootlaw03_sector.l1, h0]
    by_cases hi : i < 128
    · rw [if_pos (by simp; omega), if_pos ⟨by omega, by omega⟩, W_in (by omega) (by omega), Int.toNat_natCast]
      have := ih (i + 1) (l.set i c) (by simpa using h0) (by omega) (by omega)
      rw [show ((i : Int) + 1) = ((i + 1 : Nat) : Int) by omega, this]
      congr 2
      rw [List.take_add_one, List.take_set_of_le (by omega), List.getElem?_set_self (by omega), show 128 - i = (128 - (i + 1)) + 1 from by omega, List.replicate_succ]
      simp
    · have : i = 128 := by omega
      subst this
      rw [if_neg (by simp)]
      simp [← h0]
theorem toB_rep (n : Nat) (c : Int) : FW.toB (List.replicate n c) = List.replicate n (UInt8.ofNat c.toNat) := by simp [FW.toB]
theorem sector_eq (K : Nat) (hK : 128 < K) (c : Int) : offshootlaw03_sector.f K c = some (sec c) := by
  unfold offshootlaw03_sector.f
  rw [if_pos (by omega)]
  have := sector_l1 K c K 0 (List.replicate (Int.toNat 128) (0 : Int)) (by simp) (by omega) (by omega)
  rw [show ((0 : Nat) : Int) = 0 from rfl] at this
  rw [this, List.take_zero, List.nil_append, Nat.sub_zero, toB_rep]
  rfl
/-! ### Maps -/
theorem mput_mem {m : List (Int × Sec)} {k : Int} {v : Sec} {p : Int × Sec} (h : p ∈ FW.mput m k v) : p ∈ m ∨ p = (k, v) := by
  unfold FW.mput at h
  split at h
  · obtain ⟨q, hq, hqp⟩ := List.mem_map.1 h
    by_cases e : q.1 = k
    · rw [if_pos e] at hqp
      rw [← hqp, e]; exact .inr rfl
    · rw [if_neg e] at hqp
      rw [← hqp]; exact .inl hq
  · rcases List.mem_append.1 h with h | h
    · exact .inl h
    · simp only [List.mem_cons, List.not_mem_nil, or_false] at h
      exact .inr h
theorem mput_self (m : List (Int × Sec)) (k : Int) (v : Sec) : (k, v) ∈ FW.mput m k v := by
  unfold FW.mput
  split
  · rename_i h
    rw [List.any_eq_true] at h
    obtain ⟨q, hq, he⟩ := h
    have he' : q.1 = k := by simpa using he
    exact List.mem_map.2 ⟨q, hq, by rw [if_pos he', he']⟩
  · exact List.mem_append_right _ (by simp)
theorem mput_nd {m : List (Int × Sec)} (h : (m.map (·.1)).Nodup) (k : Int) (v : Sec) : ((FW.mput m k v).map (·.1)).Nodup := by
  unfold FW.mput
  split
  · have e : (m.map fun p => if p.1 = k then (p.1, v) else p).map (·.1) = m.map (·.1) := by
      rw [List.map_map]
      refine List.map_congr_left fun p _ => ?_
      by_cases e : p.1 = k <;> simp [e]
    rw [e]; exact h
  · rename_i hn
    rw [List.map_append, List.nodup_append]
    refine ⟨h, by simp, ?_⟩
    intro a ha b hb hab
    simp only [List.map_cons, List.map_nil, List.mem_cons, List.not_mem_nil, or_false] at hb
    obtain ⟨p, hp, rfl⟩ := List.mem_map.1 ha
    apply hn
    rw [List.any_eq_true]
    exact ⟨p, hp, by simpa using hab.trans hb⟩
theorem mput_len (m : List (Int × Sec)) (k : Int) (v : Sec) : (FW.mput m k v).length ≤ m.length + 1 := by
  unfold FW.mput
  split <;> simp
theorem mget_mem {m : List (Int × Sec)} (h : (m.map (·.1)).Nodup) {p : Int × Sec} (hp : p ∈ m) : FW.mget m p.1 = some p.2 := by
  obtain ⟨j, hj⟩ := List.mem_iff_getElem?.1 hp
  exact FW.mget_at h hj
theorem flushS_len (m : List (Int × Sec)) : ∀ sure : List Sec, (flushS sure m).length = sure.length := by
  unfold flushS
  induction m with
  | nil => intro s; rfl
  | cons p m ih => intro s; rw [List.foldl_cons, ih, List.length_set]
theorem flushS_all (m : List (Int × Sec)) : ∀ sure : List Sec, (∀ s ∈ sure, s.length = 128) → (∀ p ∈ m, p.2.length = 128) → ∀ s ∈ flushS sure m, s.length = 128 := by
  unfold flushS
  induction m with
  | nil => intro s h _; exact h
  | cons p m ih =>
    intro s h h2
    rw [List.foldl_cons]
    refine ih _ (fun x hx => ?_) fun q hq => h2 q (List.mem_cons_of_mem _ hq)
    rcases List.mem_or_eq_of_mem_set hx with hx | rfl
    · exact h x hx
    · exact h2 p List.mem_cons_self
theorem flushS_other (m : List (Int × Sec)) (i : Nat) : ∀ sure : List Sec, (∀ p ∈ m, p.1.toNat ≠ i) → (flushS sure m)[i]? = sure[i]? := by
  unfold flushS
  induction m with
  | nil => intro s _; rfl
  | cons p m ih =>
    intro s h
    rw [List.foldl_cons, ih _ (fun q hq => h q (List.mem_cons_of_mem _ hq)), List.getElem?_set_ne (h p List.mem_cons_self)]
theorem flushS_at (m : List (Int × Sec)) (k : Int) (v : Sec) (hk : 0 ≤ k) : ∀ sure : List Sec, (m.map (·.1)).Nodup → (∀ p ∈ m, 0 ≤ p.1) → (k, v) ∈ m → k.toNat < sure.length → (flushS sure m)[k.toNat]? = some v := by
  induction m with
  | nil => intro s _ _ h; cases h
  | cons p m ih =>
    intro s hn hp hm hl
    rw [List.map_cons, List.nodup_cons] at hn
    have e : flushS s (p :: m) = flushS (s.set p.1.toNat p.2) m := rfl
    rw [e]
    rcases List.mem_cons.1 hm with rfl | hm
    · rw [flushS_other m _ _ fun q hq heq => hn.1 (List.mem_map.2 ⟨q, hq, ?_⟩), List.getElem?_set_self hl]
      have h1 := hp q (List.mem_cons_of_mem _ hq)
      show q.1 = k
      have h2 : q.1.toNat = k.toNat := heq
      omega
    · exact ih _ hn.2 (fun q hq => hp q (List.mem_cons_of_mem _ hq)) hm (by simpa using hl)
/-! ### Devices -/
/-- Sectors, and those that are loose. -/
structure Dv (n : Nat) (sure : List Sec) (m : List (Int × Sec)) : Prop where
  len : sure.length = n
  secs : ∀ s ∈ sure, s.length = 128
  keys : ∀ p ∈ m, 0 ≤ p.1 ∧ p.1 < (n : Int) ∧ p.2.length = 128
  nd : (m.map (·.1)).Nodup
  few : m.length ≤ 1000
theorem off_eq (d : ODevDev) : dev_Dev_Off.f d = some (d.off, d) := rfl
theorem write_eq (K : Nat) (d : ODevDev) (hoff : d.off = false) (i : Int) (s : Sec) (hs : s.length = 128) :
    dev_Dev_Write.f K d i s = some (if 0 ≤ i ∧ i < (d.sure.length : Int) then (0, ⟨d.sure, FW.mput d.cache i s, IntKind.wrap .i64 (d.steps + 1), d.off⟩) else (1, d)) := by
  unfold dev_Dev_Write.f
  rw [off_eq]
  simp only [Option.bind_some, hoff, Bool.false_eq_true, if_false]
  by_cases h : 0 ≤ i ∧ i < (d.sure.length : Int)
  · rw [if_pos h, if_neg (by simp [hs]; omega)]
    unfold dev_Dev_step.f
    simp [hoff]
  · rw [if_neg h, if_pos (by simp [hs]; omega)]
theorem flush_eq (K : Nat) (d : ODevDev) (hoff : d.off = false) (hk : ∀ p ∈ d.cache, 0 ≤ p.1 ∧ p.1 < (d.sure.length : Int)) :
    dev_Dev_Flush.f K d = some (0, ⟨flushS d.sure d.cache, [], IntKind.wrap .i64 (d.steps + 1), d.off⟩) := by
  unfold dev_Dev_Flush.f
  rw [off_eq]
  simp only [Option.bind_some, hoff, Bool.false_eq_true, if_false]
  unfold dev_Dev_step.f
  simp only [Option.bind_some]
  rw [if_neg (by simp), if_pos]
  · rw [hoff]
  · unfold flushOk
    rw [List.all_eq_true]
    intro p hp
    simpa using hk p hp
theorem up_eq (d : ODevDev) (hoff : d.off = true) : dev_Dev_Up.f d = some (true, ⟨d.sure, d.cache, d.steps, false⟩) := by
  unfold dev_Dev_Up.f
  rw [if_neg (by simp [hoff])]
theorem read_sure (d : ODevDev) (hoff : d.off = false) (hc : d.cache = []) (i : Nat) (hi : i < d.sure.length) : dev_Dev_Read.f d (i : Int) = some (d.sure.getD i default, 0, d) := by
  unfold dev_Dev_Read.f
  rw [off_eq]
  simp only [Option.bind_some, hoff, Bool.false_eq_true, if_false, hc]
  rw [if_neg (by simp; omega), if_neg (by simp [FW.mget]), if_pos ⟨by omega, by omega⟩, Int.toNat_natCast]
theorem new_l1 (K : Nat) (n : Nat) : ∀ (k : Nat) (i : Nat) (l : List Sec), l.length = n → i ≤ n → n ≤ 65536 → (∀ (j : Nat) (s : Sec), j < i → l[j]? = some s → s.length = 128) → n - i < k →
    Sat (dev_New.l1 K k 0 false [] l (n : Int) (i : Int)) fun r => r.2 = 0 ∧ Dv n r.1.sure r.1.cache ∧ r.1.off = false ∧ r.1.cache = [] := by
  intro k
  induction k with
  | zero => intro i l h0 h1 h2 h3 h4; omega
  | succ k ih =>
    intro i l h0 h1 h2 h3 h4
    rw [dev_New.l1]
    refine Sat.ite (fun hi => ?_) (fun hi => ?_)
    · simp only [decide_eq_true_eq] at hi
      have hrep : strings_Repeat.f ([0] : List UInt8) 128 = some (Lib.repeatL [0] 128) := by
        unfold strings_Repeat.f
        rw [if_pos (by simp)]; rfl
      refine Sat.bindE hrep ?_
      rw [h0]
      refine Sat.chk ⟨by omega, by omega⟩ ?_
      rw [W_in (by omega) (by omega), Int.toNat_natCast, show ((i : Int) + 1) = ((i + 1 : Nat) : Int) by omega]
      refine ih (i + 1) _ (by simpa using h0) (by omega) h2 (fun j s hj hs => ?_) (by omega)
      by_cases hji : j = i
      · subst hji
        rw [List.getElem?_set_self (by omega)] at hs
        injection hs with hs
        subst hs
        decide +kernel
      · rw [List.getElem?_set_ne (fun e => hji e.symm)] at hs
        exact h3 j s (by omega) hs
    · simp only [decide_eq_false_iff_not] at hi
      have : i = n := by omega
      subst this
      refine Sat.some ⟨rfl, ⟨h0, fun s hs => ?_, by simp, by simp, by simp⟩, rfl, rfl⟩
      obtain ⟨j, hj⟩ := List.mem_iff_getElem?.1 hs
      have h5 : j < l.length := (List.getElem?_eq_some_iff.1 hj).1
      exact h3 j s (by omega) hj
theorem new_sat (K : Nat) (n : Nat) (hn : n ≤ 65536) (hK : n < K) : Sat (dev_New.f K (n : Int)) fun r => r.2 = 0 ∧ Dv n r.1.sure r.1.cache ∧ r.1.off = false ∧ r.1.cache = [] := by
  unfold dev_New.f
  refine Sat.ite (fun h => by simp at h; omega) (fun _ => ?_)
  refine Sat.chk (by omega) ?_
  rw [Int.toNat_natCast, show ((List.replicate n ([] : List UInt8)).length : Int) = (n : Int) by simp]
  exact new_l1 K n K 0 _ (by simp) (by omega) hn (fun j s hj => by omega) (by omega)
/-- What a loss of power leaves of the sectors. -/
theorem crash_l1 (K : Nat) (n j : Nat) (m : List (Int × Sec)) (keep : Int) (st : Int) (off : Bool) (ks : List Int) (hks : ∀ x ∈ ks, 0 ≤ x ∧ x < (n : Int) ∧ x.toNat ≠ j ∧ ∃ v, FW.mget m x = some v ∧ v.length = 128) (hkl : ks.length ≤ 1000) :
    ∀ (k : Nat) (i : Nat) (sure : List Sec) (torn : Int), sure.length = n → (∀ s ∈ sure, s.length = 128) → i ≤ ks.length → ks.length - i < k →
      Sat (dev_Dev_Crash.l1 K k st off sure m keep torn ks (ks.length : Int) (i : Int)) fun d => d.off = true ∧ d.cache = [] ∧ d.sure.length = n ∧ (∀ s ∈ d.sure, s.length = 128) ∧ d.sure[j]? = sure[j]? := by
  intro k
  induction k with
  | zero => intro i sure torn h0 h1 h2 h3; omega
  | succ k ih =>
    intro i sure torn h0 h1 h2 h3
    rw [dev_Dev_Crash.l1]
    refine Sat.ite (fun hi => ?_) (fun hi => Sat.some ⟨rfl, rfl, h0, h1, rfl⟩)
    simp only [decide_eq_true_eq] at hi
    have hil : i < ks.length := by omega
    refine Sat.chk ⟨by omega, hi⟩ ?_
    rw [Int.toNat_natCast]
    have hx : ks.getD i default ∈ ks := by
      rw [List.getD_eq_getElem?_getD, List.getElem?_eq_getElem hil]
      exact List.getElem_mem hil
    obtain ⟨x0, x1, x2, v, hv, hvl⟩ := hks _ hx
    generalize ks.getD i default = x at *
    rw [hv]
    simp only [Option.getD_some, hvl]
    have hset : ∀ (s : Sec) (torn : Int), s.length = 128 → Sat (dev_Dev_Crash.j1 (dev_Dev_Crash.l1 K k) K st off sure m keep torn x s ks (ks.length : Int) (i : Int)) fun d => d.off = true ∧ d.cache = [] ∧ d.sure.length = n ∧ (∀ s ∈ d.sure, s.length = 128) ∧ d.sure[j]? = sure[j]? := by
      intro s torn hs
      unfold dev_Dev_Crash.j1
      rw [h0]
      refine Sat.chk ⟨x0, x1⟩ ?_
      rw [W_in (by omega) (by omega), show ((i : Int) + 1) = ((i + 1 : Nat) : Int) by omega]
      refine (ih (i + 1) (sure.set x.toNat s) torn (by simpa using h0) (fun y hy => ?_) (by omega) (by omega)).mono fun d hd => ?_
      · rcases List.mem_or_eq_of_mem_set hy with hy | rfl
        · exact h1 y hy
        · exact hs
      · obtain ⟨d1, d2, d3, d4, d5⟩ := hd
        exact ⟨d1, d2, d3, d4, by rw [d5, List.getElem?_set_ne x2]⟩
    refine Sat.chk (by split <;> omega) ?_
    refine Sat.ite (fun _ => ?_) (fun _ => hset v torn hvl)
    generalize hq : (if ((128 : Nat) : Int) < (if torn < 0 then 0 else torn) then ((128 : Nat) : Int) else (if torn < 0 then 0 else torn)) = q
    have hq0 : 0 ≤ q ∧ q ≤ 128 := by
      rw [← hq]
      split <;> split <;> omega
    have hin : sure.getD x.toNat default ∈ sure := by
      have hl : x.toNat < sure.length := by omega
      rw [List.getD_eq_getElem?_getD, List.getElem?_eq_getElem hl]
      exact List.getElem_mem hl
    have hl := h1 _ hin
    refine Sat.chk ⟨hq0.1, hq0.2⟩ ?_
    refine Sat.chk ⟨x0, by rw [h0]; exact x1⟩ ?_
    refine Sat.chk ⟨hq0.1, by rw [hl]; exact hq0.2⟩ ?_
    refine Sat.chk (by simp only [List.length_take, List.length_drop, hvl, hl]; omega) ?_
    exact hset _ 0 (by simp only [List.length_append, List.length_take, List.length_drop, hvl, hl]; omega)
theorem sortK_mem {m : List (Int × Sec)} {x : Int} : x ∈ FW.sortK m ↔ ∃ p ∈ m, p.1 = x := by
  unfold FW.sortK
  rw [(List.mergeSort_perm _ _).mem_iff, List.mem_map]
theorem crash_sat (K : Nat) (hK : 1000 < K) (n j : Nat) (hn : n ≤ 65536) (d : ODevDev) (hoff : d.off = false) (hd : Dv n d.sure d.cache) (hj : ∀ p ∈ d.cache, p.1.toNat ≠ j) (keep torn : Int) :
    Sat (dev_Dev_Crash.f K d keep torn) fun d' => d'.off = true ∧ d'.cache = [] ∧ d'.sure.length = n ∧ (∀ s ∈ d'.sure, s.length = 128) ∧ d'.sure[j]? = d.sure[j]? := by
  unfold dev_Dev_Crash.f
  refine Sat.bindE (off_eq d) ?_
  refine Sat.ite (fun h => by rw [hoff] at h; cases h) (fun _ => ?_)
  have hok : FW.keysOk d.cache = true := by
    unfold FW.keysOk
    rw [Bool.and_eq_true, List.all_eq_true]
    refine ⟨fun p hp => ?_, by have := hd.few; simp; omega⟩
    obtain ⟨p0, p1, _⟩ := hd.keys p hp
    simp [FW.in64]; omega
  refine Sat.chk hok ?_
  have hl : (FW.sortK d.cache).length = d.cache.length := by simp [FW.sortK]
  have h0 := crash_l1 K n j d.cache keep d.steps d.off (FW.sortK d.cache) (fun x hx => ?_) (by rw [hl]; exact hd.few) K 0 d.sure torn hd.len hd.secs (by omega) (by rw [hl]; have := hd.few; omega)
  · exact h0
  · obtain ⟨p, hp, rfl⟩ := sortK_mem.1 hx
    obtain ⟨p0, p1, p2⟩ := hd.keys p hp
    exact ⟨p0, p1, hj p hp, p.2, mget_mem hd.nd hp, p2⟩
theorem dv_put {n : Nat} {sure : List Sec} {m : List (Int × Sec)} (h : Dv n sure m) (hf : m.length < 1000) {i : Int} (h0 : 0 ≤ i) (h1 : i < (n : Int)) {s : Sec} (hs : s.length = 128) : Dv n sure (FW.mput m i s) :=
  ⟨h.len, h.secs, fun p hp => by
    rcases mput_mem hp with hp | rfl
    · exact h.keys p hp
    · exact ⟨h0, h1, hs⟩, mput_nd h.nd i s, by have := mput_len m i s; omega⟩
theorem dv_flush {n : Nat} {sure : List Sec} {m : List (Int × Sec)} (h : Dv n sure m) : Dv n (flushS sure m) [] :=
  ⟨(flushS_len m sure).trans h.len, flushS_all m sure h.secs fun p hp => (h.keys p hp).2.2, by simp, by simp, by simp⟩
end Go.Proofs.Ytimaibcaehagjaa

/- Transactions: what their functions come to. -/
import Derived.Test.YtaoffkhflmndhaaTxD
import Derived.Test.YtaoffkhflmndhaaPureBase
namespace Go.Proofs.Ytaoffkhflmndhaa
set_option linter.unusedVariables false
set_option linter.unusedSimpArgs false
/-! ### Maps -/
section
variable {ν : Type} {m : List (Int × ν)} {k : Int} {v : ν}
theorem mput_iff {p : Int × ν} : p ∈ FW.mput m k v ↔ p = (k, v) ∨ (p ∈ m ∧ p.1 ≠ k) := by
  unfold FW.mput
  split
  · rename_i h
    rw [List.any_eq_true] at h
    obtain ⟨q0, hq0, he0⟩ := h
    have he0 : q0.1 = k := by simpa using he0
    constructor
    · intro h
      obtain ⟨q, hq, hqp⟩ := List.mem_map.1 h
      by_cases e : q.1 = k
      · rw [if_pos e] at hqp; rw [← hqp, e]; exact .inl rfl
      · rw [if_neg e] at hqp; rw [← hqp]; exact .inr ⟨hq, e⟩
    · rintro (rfl | ⟨h, e⟩)
      · exact List.mem_map.2 ⟨q0, hq0, by rw [if_pos he0, he0]⟩
      · exact List.mem_map.2 ⟨p, h, by rw [if_neg e]⟩
  · rename_i hn
    have hn : ∀ q ∈ m, q.1 ≠ k := fun q hq e => hn (by rw [List.any_eq_true]; exact ⟨q, hq, by simpa using e⟩)
    simp only [List.mem_append, List.mem_singleton]
    exact ⟨fun h => h.elim (fun h => .inr ⟨h, hn p h⟩) .inl, fun h => h.elim .inr fun h => .inl h.1⟩
theorem mput_nd (h : (m.map (·.1)).Nodup) : ((FW.mput m k v).map (·.1)).Nodup := by
  unfold FW.mput
  split
  · have e : (m.map fun p => if p.1 = k then (p.1, v) else p).map (·.1) = m.map (·.1) := by
      rw [List.map_map]
      refine List.map_congr_left fun p _ => ?_
      by_cases e : p.1 = k <;> simp [e]
    rw [e]; exact h
  · rename_i hn
    rw [List.map_append, List.nodup_append]
    refine ⟨h, by simp, ?_⟩
    intro a ha b hb hab
    simp only [List.map_cons, List.map_nil, List.mem_cons, List.not_mem_nil, or_false] at hb
    obtain ⟨p, hp, rfl⟩ := List.mem_map.1 ha
    apply hn
    rw [List.any_eq_true]
    exact ⟨p, hp, by simpa using hab.trans hb⟩
theorem mget_mem (h : FW.mget m k = some v) : (k, v) ∈ m := by
  unfold FW.mget at h
  obtain ⟨p, hp, hv⟩ := Option.map_eq_some_iff.1 h
  have h1 := List.mem_of_find?_eq_some hp
  have h2 := List.find?_some hp
  have h3 : p.1 = k := by simpa using h2
  rw [← h3, ← hv]; exact h1
theorem mem_mget (h : (m.map (·.1)).Nodup) (hp : (k, v) ∈ m) : FW.mget m k = some v := by
  obtain ⟨j, hj⟩ := List.mem_iff_getElem?.1 hp
  exact FW.mget_at h hj
end
/-- So many numbers there are below one. -/
theorem few : ∀ (n : Nat) (l : List Int), l.Nodup → (∀ x ∈ l, 0 ≤ x ∧ x < (n : Int)) → l.length ≤ n
  | 0, l, _, h => by
    cases l with
    | nil => exact Nat.le_refl _
    | cons x l => have := h x (by simp); omega
  | n + 1, l, hd, h => by
    have h1 := few n (l.erase (n : Int)) (hd.erase _) fun x hx => by
      have h2 := (hd.mem_erase_iff).1 hx
      have h3 := h x h2.2
      have h4 := h2.1
      omega
    have h2 : l.length ≤ (l.erase (n : Int)).length + 1 := by
      rw [List.length_erase]; split <;> omega
    omega
theorem andI_7 (x : Int) : 0 ≤ FW.andI .u64 x 7 ∧ FW.andI .u64 x 7 < 8 := by
  unfold FW.andI
  have e : (BitVec.ofInt IntKind.u64.bits x &&& BitVec.ofInt IntKind.u64.bits 7).toNat ≤ 7 := by
    have e1 : (BitVec.ofInt IntKind.u64.bits 7).toNat = 7 := by decide
    rw [BitVec.toNat_and, e1]
    exact Nat.and_le_right
  rw [W_u64 (by omega) (by omega)]
  omega
theorem getD_drop {α : Type} [Inhabited α] {l : List α} {i : Nat} {x : α} {r : List α} (h : l.drop i = x :: r) : l.getD i default = x ∧ i < l.length ∧ l.drop (i + 1) = r := by
  have hl : i < l.length := by
    rcases Nat.lt_or_ge i l.length with h' | h'
    · exact h'
    · rw [List.drop_of_length_le h'] at h; cases h
  refine ⟨?_, hl, by rw [← List.drop_drop, h]; rfl⟩
  have : l[i]? = some x := by
    have := List.getElem?_drop (xs := l) (i := i) (j := 0)
    rw [h] at this; simpa using this.symm
  rw [List.getD_eq_getElem?_getD, this]; rfl
theorem drop_end {α : Type} {l : List α} {i : Nat} (h : l.drop i = []) : l.length ≤ i := by
  have := congrArg List.length h
  simp at this; omega
theorem W_succ {i : Nat} (h : i < 1000000) : IntKind.wrap .i64 ((i : Int) + 1) = ((i + 1 : Nat) : Int) := by rw [W_in] <;> omega
/-! ### Records -/
def findP : List ApiBody → Int → List UInt8 × Bool
  | [], _ => ([], false)
  | b :: l, id => if b.ID = id then (b.S, true) else findP l id
theorem findP_no {l : List ApiBody} {id : Int} (h : (findP l id).2 = false) : (findP l id).1 = [] := by
  induction l with
  | nil => rfl
  | cons b l ih =>
    unfold findP at h ⊢
    by_cases e : b.ID = id
    · rw [if_pos e] at h; cases h
    · rw [if_neg e] at h ⊢; exact ih h
theorem find_l1 (K : Nat) : ∀ (k : Nat) (l : List ApiBody) (i : Nat) (id : Int), i ≤ l.length → l.length < k + i → l.length ≤ 10000 → offshootref06_Find.l1 K k l id (i : Int) = some (findP (l.drop i) id)
  | 0, l, i, id, h1, h2, _ => by omega
  | k + 1, l, i, id, h1, h2, h3 => by
    unfold offshootref06_Find.l1
    cases hd : l.drop i with
    | nil =>
      have := drop_end hd
      rw [if_neg (by simp only [decide_eq_true_eq]; omega)]; rfl
    | cons b r =>
      obtain ⟨hg, hlt, hr⟩ := getD_drop hd
      rw [if_pos (by simp only [decide_eq_true_eq]; omega), if_pos (by omega), Int.toNat_natCast, hg, W_succ (by omega)]
      by_cases e : b.ID = id
      · rw [if_pos (by simpa using e), if_pos (by omega)]; simp [findP, e]
      · rw [if_neg (by simpa using e), find_l1 K k l (i + 1) id (by omega) (by omega) h3, hr]; simp [findP, e]
theorem find_f {K : Nat} {l : List ApiBody} {id : Int} (h : l.length < K) (h' : l.length ≤ 10000) : offshootref06_Find.f K l id = some (findP l id) :=
  find_l1 K K l 0 id (by omega) (by omega) h'
/-- A change, done. -/
def insP (c : ApiChange) : Bool → List ApiBody → List ApiBody
  | inn, [] => if inn = true then [] else [⟨c.ID, c.S⟩]
  | inn, b :: r => (if ((!inn) && decide (c.ID ≤ b.ID)) = true then [⟨c.ID, c.S⟩] else []) ++ ((if b.ID = c.ID then [] else [b]) ++ insP c (if ((!inn) && decide (c.ID ≤ b.ID)) = true then true else inn) r)
theorem insP_len (c : ApiChange) : ∀ (inn : Bool) (l : List ApiBody), (insP c inn l).length ≤ l.length + (if inn = true then 0 else 1)
  | inn, [] => by cases inn <;> simp [insP]
  | inn, b :: r => by
    have h1 := insP_len c true r
    have h2 := insP_len c inn r
    unfold insP
    cases inn with
    | true =>
      by_cases e : b.ID = c.ID <;> simp [e] at h1 ⊢ <;> omega
    | false =>
      by_cases e : b.ID = c.ID <;> by_cases e2 : c.ID ≤ b.ID <;> simp [e, e2] at h1 h2 ⊢ <;> omega
theorem findP_append (l l' : List ApiBody) (id : Int) : findP (l ++ l') id = if (findP l id).2 = true then findP l id else findP l' id := by
  induction l with
  | nil => simp [findP]
  | cons b l ih =>
    simp only [List.cons_append, findP]
    by_cases e : b.ID = id
    · simp [e]
    · simp only [if_neg e]; exact ih
theorem insP_find (c : ApiChange) (id : Int) : ∀ (inn : Bool) (l : List ApiBody), findP (insP c inn l) id = if c.ID = id then (if inn = true then ([], false) else (c.S, true)) else findP l id
  | inn, [] => by
    by_cases e : c.ID = id <;> cases inn <;> simp [insP, findP, e]
  | inn, b :: r => by
    unfold insP
    by_cases e : c.ID = id
    · subst e
      cases inn with
      | true =>
        by_cases e : b.ID = c.ID <;> simp [e, findP, insP_find c c.ID true r]
      | false =>
        by_cases e2 : c.ID ≤ b.ID
        · by_cases e : b.ID = c.ID <;> simp [e, e2, findP]
        · by_cases e : b.ID = c.ID <;> simp [e, e2, findP, insP_find c c.ID false r]
    · have h : ∀ x, findP (insP c x r) id = findP r id := fun x => by rw [insP_find c id x r, if_neg e]
      have h0 : ∀ y : Bool, findP (if y = true then [(⟨c.ID, c.S⟩ : ApiBody)] else []) id = ([], false) := fun y => by cases y <;> simp [findP, e]
      rw [findP_append, h0, findP_append, h]
      simp only [Bool.false_eq_true, if_false, if_neg e]
      by_cases e3 : b.ID = c.ID
      · have e4 : ¬ b.ID = id := fun h => e (e3 ▸ h)
        rw [if_pos e3]; simp [findP, e4]
      · rw [if_neg e3]
        by_cases e4 : b.ID = id
        · simp only [findP, if_pos e4, if_true]
        · simp [findP, e4]
def doP (l : List ApiBody) (cs : List ApiChange) : List ApiBody := cs.foldl (fun l c => insP c c.Gone l) l
theorem doP_len : ∀ (cs : List ApiChange) (l : List ApiBody), (doP l cs).length ≤ l.length + cs.length
  | [], l => by simp [doP]
  | c :: cs, l => by
    have h1 := doP_len cs (insP c c.Gone l)
    have h2 := insP_len c c.Gone l
    simp only [doP, List.foldl_cons, List.length_cons] at h1 ⊢
    have h3 : (if c.Gone = true then 0 else 1) ≤ 1 := by split <;> omega
    omega
theorem do_l2 (s_l1 : List ApiBody → List ApiChange → Int → Option (List ApiBody)) (K : Nat) (cs : List ApiChange) (ci : Nat) (c : ApiChange) (rs : List ApiChange) (hc : cs.drop ci = c :: rs) (hcl : cs.length ≤ 1000) :
    ∀ (k : Nat) (out l : List ApiBody) (i : Nat) (inn : Bool), i ≤ l.length → l.length < k + i → l.length ≤ 10000 → out.length ≤ 20000 + 2 * i → 
      offshootref06_Do.l2 s_l1 K k out l cs (ci : Int) inn (i : Int) = s_l1 (out ++ insP c inn (l.drop i)) cs ((ci + 1 : Nat) : Int)
  | 0, out, l, i, inn, h1, h2, _, _ => by omega
  | k + 1, out, l, i, inn, h1, h2, h3, h4 => by
    obtain ⟨hcg, hclt, _⟩ := getD_drop hc
    unfold offshootref06_Do.l2
    cases hd : l.drop i with
    | nil =>
      have := drop_end hd
      rw [if_neg (by simp only [decide_eq_true_eq]; omega)]
      cases inn with
      | true =>
        rw [if_neg (by simp)]
        simp only [offshootref06_Do.j3, W_succ (show ci < 1000000 by omega), insP, if_true, List.append_nil]
      | false =>
        rw [if_pos (by simp), if_pos (by omega), if_pos (by omega), if_pos (by simp; omega)]
        simp only [offshootref06_Do.j3, W_succ (show ci < 1000000 by omega), insP, Int.toNat_natCast, hcg, Bool.false_eq_true, if_false]
    | cons b r =>
      obtain ⟨hg, hlt, hr⟩ := getD_drop hd
      rw [if_pos (by simp only [decide_eq_true_eq]; omega), if_pos (fun _ => by omega), if_pos (fun _ => by omega), Int.toNat_natCast, Int.toNat_natCast, hg, hcg]
      have step : ∀ (o : List ApiBody) (x : Bool), o.length ≤ 20000 + 2 * i + 1 → offshootref06_Do.j2 s_l1 (offshootref06_Do.l2 s_l1 K k) K o l cs (ci : Int) x (i : Int) = s_l1 (o ++ ((if b.ID = c.ID then [] else [b]) ++ insP c x r)) cs ((ci + 1 : Nat) : Int) := by
        intro o x ho
        unfold offshootref06_Do.j2
        rw [if_pos (by omega), if_pos (by omega), Int.toNat_natCast, Int.toNat_natCast, hg, hcg]
        by_cases e : b.ID = c.ID
        · rw [if_neg (by simp [e])]
          unfold offshootref06_Do.j1
          rw [W_succ (by omega), do_l2 s_l1 K cs ci c rs hc hcl k o l (i + 1) x (by omega) (by omega) h3 (by omega), hr, if_pos e]; rfl
        · rw [if_pos (by simp [e]), if_pos (by omega), if_pos (by simp; omega)]
          unfold offshootref06_Do.j1
          rw [W_succ (by omega), do_l2 s_l1 K cs ci c rs hc hcl k (o ++ [b]) l (i + 1) x (by omega) (by omega) h3 (by simp; omega), hr, if_neg e]; simp
      unfold insP
      by_cases e2 : ((!inn) && decide (c.ID ≤ b.ID)) = true
      · rw [if_pos e2, if_pos e2, if_pos e2, if_pos (by omega), if_pos (by omega), if_pos (by simp; omega), step _ _ (by simp; omega)]; simp
      · rw [if_neg e2, if_neg e2, if_neg e2, step _ _ (by omega)]; simp
theorem do_l1 (K : Nat) (cs : List ApiChange) (hcl : cs.length ≤ 1000) : ∀ (k : Nat) (l : List ApiBody) (i : Nat), i ≤ cs.length → cs.length < k + i → l.length + (cs.length - i) < K → l.length + (cs.length - i) ≤ 10000 →
      offshootref06_Do.l1 K k l cs (i : Int) = some (doP l (cs.drop i))
  | 0, l, i, h1, h2, _, _ => by omega
  | k + 1, l, i, h1, h2, h3, h4 => by
    unfold offshootref06_Do.l1
    cases hd : cs.drop i with
    | nil =>
      have := drop_end hd
      rw [if_neg (by simp only [decide_eq_true_eq]; omega)]; rfl
    | cons c r =>
      obtain ⟨hg, hlt, hr⟩ := getD_drop hd
      rw [if_pos (by simp only [decide_eq_true_eq]; omega), if_pos (by omega), Int.toNat_natCast, hg]
      have h5 := insP_len c c.Gone l
      have h6 : (if c.Gone = true then 0 else 1) ≤ 1 := by split <;> omega
      have := do_l2 (offshootref06_Do.l1 K k) K cs i c r hd hcl K [] l 0 c.Gone (by omega) (by omega) (by omega) (by simp)
      rw [show ((0 : Nat) : Int) = 0 from rfl] at this
      rw [this, List.nil_append, List.drop_zero, do_l1 K cs hcl k _ (i + 1) (by omega) (by omega) (by omega) (by omega), hr]
      rfl
theorem do_f {K : Nat} {cs : List ApiChange} {l : List ApiBody} (h1 : cs.length ≤ 1000) (h2 : l.length + cs.length < K) (h3 : l.length + cs.length ≤ 10000) : offshootref06_Do.f K l cs = some (doP l cs) :=
  do_l1 K cs h1 K l 0 (by omega) (by omega) (by omega) (by omega)
/-- What stands at a number behind changes of numbers that all differ. -/
theorem doP_find : ∀ (cs : List ApiChange) (l : List ApiBody) (id : Int), (cs.map (·.ID)).Nodup → findP (doP l cs) id = match cs.find? fun c => decide (c.ID = id) with
    | some c => if c.Gone = true then ([], false) else (c.S, true)
    | none => findP l id
  | [], l, id, _ => rfl
  | c :: cs, l, id, h => by
    rw [List.map_cons, List.nodup_cons] at h
    have h1 := doP_find cs (insP c c.Gone l) id h.2
    rw [show doP l (c :: cs) = doP (insP c c.Gone l) cs from rfl, h1]
    by_cases e : c.ID = id
    · have h2 : cs.find? (fun c => decide (c.ID = id)) = none := by
        rw [List.find?_eq_none]
        intro x hx hxe
        exact h.1 (List.mem_map.2 ⟨x, hx, by simpa [e] using hxe⟩)
      rw [h2, List.find?_cons, decide_eq_true e]
      show findP (insP c c.Gone l) id = _
      rw [insP_find, if_pos e]
    · rw [List.find?_cons, decide_eq_false e]
      show (match cs.find? fun c => decide (c.ID = id) with | some c => _ | none => findP (insP c c.Gone l) id) = _
      rw [insP_find, if_neg e]
end Go.Proofs.Ytaoffkhflmndhaa

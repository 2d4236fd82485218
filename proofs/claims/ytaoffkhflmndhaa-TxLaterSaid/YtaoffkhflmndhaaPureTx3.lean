/- TxLater: the plain law. -/
import Derived.Test.YtaoffkhflmndhaaPureTx2
namespace Go.Proofs.Ytaoffkhflmndhaa
set_option linter.unusedVariables false
set_option linter.unusedSimpArgs false
structure InvT (o : List (Int × ApiChange)) : Prop where
  nd : (o.map (·.1)).Nodup
  all : ∀ p ∈ o, 0 ≤ p.1 ∧ p.1 < 8 ∧ p.2.ID = p.1 ∧ (p.2.Gone = true → p.2.S = [])
theorem InvT.put {o : List (Int × ApiChange)} (h : InvT o) {k : Int} {c : ApiChange} (h1 : 0 ≤ k ∧ k < 8) (h2 : c.ID = k) (h3 : c.Gone = true → c.S = []) : InvT (FW.mput o k c) :=
  ⟨mput_nd h.nd, fun p hp => by
    rcases mput_iff.1 hp with rfl | ⟨hp, _⟩
    · exact ⟨h1.1, h1.2, h2, h3⟩
    · exact h.all p hp⟩
theorem InvT.keys {o : List (Int × ApiChange)} (h : InvT o) : FW.keysU o = true := by
  have h1 := few 8 (o.map (·.1)) h.nd fun x hx => by
    obtain ⟨p, hp, rfl⟩ := List.mem_map.1 hx
    have := h.all p hp
    omega
  rw [List.length_map] at h1
  unfold FW.keysU
  rw [Bool.and_eq_true, List.all_eq_true, decide_eq_true_eq]
  refine ⟨fun p hp => ?_, by omega⟩
  have := h.all p hp
  simp only [Bool.and_eq_true, decide_eq_true_eq]
  omega
theorem drop_f {K : Nat} {t : OTxTx} {id : Int} (hK : 1000 < K) (h : baseOk t) : tx_Tx_Drop.f K t id = some (if (!(getP t id).2) = true then (false, t) else (true, ⟨t.base, FW.mput t.own id ⟨id, [], true⟩⟩)) := by
  unfold tx_Tx_Drop.f
  rw [get_f hK h]
  simp only [Option.bind_some]
  split <;> rfl
theorem apply_end {K k : Nat} {b : Option (List ApiBody)} {o : List (Int × ApiChange)} {c : ApiChange} : tx_Tx_Apply.l1 K (k + 1) b o [c] 1 1 = some ⟨b, o⟩ := by
  unfold tx_Tx_Apply.l1; rfl
theorem apply_one {K k : Nat} {t : OTxTx} {c : ApiChange} (hK : 1000 < K) (hb : baseOk t) (hi : InvT t.own) (hc : 0 ≤ c.ID ∧ c.ID < 8) (hg : c.Gone = true → c.S = []) :
    Sat (tx_Tx_Apply.l1 K (k + 2) t.base t.own [c] 1 0) fun t' => t'.base = t.base ∧ InvT t'.own := by
  unfold tx_Tx_Apply.l1
  refine Sat.ite (fun _ => ?_) fun h => by simp at h
  refine Sat.chk (by simp) ?_
  have e : ([c] : List ApiChange).getD (Int.toNat 0) default = c := rfl
  rw [e]
  have hw : IntKind.wrap .i64 ((0 : Int) + 1) = 1 := by decide
  refine Sat.ite (fun h => ?_) fun h => ?_
  · refine Sat.bindE (drop_f hK hb) ?_
    unfold tx_Tx_Apply.j1
    rw [hw, apply_end]
    refine Sat.some ?_
    split
    · exact ⟨rfl, hi⟩
    · exact ⟨rfl, hi.put hc rfl fun _ => rfl⟩
  · refine Sat.bindE (r := ⟨t.base, FW.mput t.own c.ID ⟨c.ID, c.S, false⟩⟩) rfl ?_
    unfold tx_Tx_Apply.j1
    rw [hw, apply_end]
    exact Sat.some ⟨rfl, hi.put hc rfl fun h => by cases h⟩
theorem apply_none {K k : Nat} {t : OTxTx} : tx_Tx_Apply.l1 K (k + 1) t.base t.own [] 0 0 = some t := by
  unfold tx_Tx_Apply.l1; rfl
/-! ### The same -/
theorem same_l1 {K : Nat} {t : OTxTx} {l : List ApiBody} (hK : 1000 < K) (hb : baseOk t) (hl : l.length ≤ 1000) (h : ∀ id : Int, getP t id = findP l id) : ∀ (k i : Nat), i ≤ 9 → 9 < k + i → offshootlaw09_same.l1 K t k l (i : Int) = some true
  | 0, i, h1, h2 => by omega
  | k + 1, i, h1, h2 => by
    unfold offshootlaw09_same.l1
    by_cases hi : i < 9
    · have hw : IntKind.wrap .u64 ((i : Int) + 1) = ((i + 1 : Nat) : Int) := by rw [W_u64] <;> omega
      rw [if_pos (by simp only [decide_eq_true_eq]; omega), get_f hK hb, find_f (by omega) (by omega), h]
      simp only [Option.bind_some]
      rw [if_neg (by simp), hw]
      exact same_l1 hK hb hl h k (i + 1) (by omega) (by omega)
    · rw [if_neg (by simp only [decide_eq_true_eq]; omega)]
theorem mem_sortK {ν : Type} {m : List (Int × ν)} {x : Int} : x ∈ FW.sortK m ↔ x ∈ m.map (·.1) := (List.mergeSort_perm _ _).mem_iff
theorem atP_key {t : OTxTx} (hi : InvT t.own) {x : Int} (hx : x ∈ t.own.map (·.1)) : (x, atP t x) ∈ t.own ∧ (atP t x).ID = x := by
  obtain ⟨p, hp, rfl⟩ := List.mem_map.1 hx
  have h1 : FW.mget t.own p.1 = some p.2 := mem_mget hi.nd hp
  have h2 : atP t p.1 = p.2 := by simp [atP, h1]
  rw [h2]
  exact ⟨hp, (hi.all p hp).2.2.1⟩
theorem mem_changes {t : OTxTx} (hi : InvT t.own) {c : ApiChange} : c ∈ changesP t ↔ c.ID ∈ t.own.map (·.1) ∧ chP t c.ID = true ∧ c = atP t c.ID := by
  unfold changesP
  rw [List.mem_map]
  constructor
  · rintro ⟨x, hx, rfl⟩
    obtain ⟨h1, h2⟩ := List.mem_filter.1 hx
    have h3 := mem_sortK.1 h1
    rw [(atP_key hi h3).2]
    exact ⟨h3, h2, rfl⟩
  · rintro ⟨h1, h2, h3⟩
    exact ⟨c.ID, List.mem_filter.2 ⟨mem_sortK.2 h1, h2⟩, h3.symm⟩
theorem changes_nd {t : OTxTx} (hi : InvT t.own) : ((changesP t).map (·.ID)).Nodup := by
  have e : (changesP t).map (·.ID) = (FW.sortK t.own).filter (chP t) := by
    unfold changesP
    rw [List.map_map]
    have : ∀ x ∈ (FW.sortK t.own).filter (chP t), ((fun c : ApiChange => c.ID) ∘ atP t) x = x := fun x hx => (atP_key hi (mem_sortK.1 (List.mem_filter.1 hx).1)).2
    rw [List.map_congr_left this, List.map_id']
  rw [e]
  exact List.Pairwise.filter _ ((List.mergeSort_perm _ _).nodup_iff.2 hi.nd)
theorem next_same {recs : List ApiBody} {o : List (Int × ApiChange)} (hi : InvT o) (id : Int) : getP ⟨some recs, o⟩ id = findP (doP recs (changesP ⟨some recs, o⟩)) id := by
  rw [doP_find _ _ _ (changes_nd (t := ⟨some recs, o⟩) hi)]
  have hmem : ∀ c, ((changesP ⟨some recs, o⟩).find? fun c => decide (c.ID = id)) = some c → id ∈ o.map (·.1) ∧ chP ⟨some recs, o⟩ id = true ∧ c = atP ⟨some recs, o⟩ id := by
    intro c hc
    have h1 := List.mem_of_find?_eq_some hc
    have h2 : c.ID = id := by simpa using List.find?_some hc
    have := (mem_changes (t := ⟨some recs, o⟩) hi).1 h1
    rwa [h2] at this
  unfold getP
  cases hm : FW.mget o id with
  | none =>
    cases hf : (changesP ⟨some recs, o⟩).find? fun c => decide (c.ID = id) with
    | none => rfl
    | some c =>
      obtain ⟨h1, _, _⟩ := hmem c hf
      obtain ⟨p, hp, hpe⟩ := List.mem_map.1 h1
      have h2 := mem_mget (v := p.2) hi.nd (show (id, p.2) ∈ o by rw [← hpe]; exact hp)
      rw [hm] at h2; cases h2
  | some c =>
    have hat : atP ⟨some recs, o⟩ id = c := by simp [atP, hm]
    have hco := hi.all _ (mget_mem hm)
    show (c.S, !c.Gone) = _
    cases hf : (changesP ⟨some recs, o⟩).find? fun c => decide (c.ID = id) with
    | some c' =>
      obtain ⟨_, _, h3⟩ := hmem c' hf
      rw [hat] at h3
      subst h3
      show _ = if c'.Gone = true then (([] : List UInt8), false) else (c'.S, true)
      cases hgn : c'.Gone with
      | true => rw [if_pos rfl, hco.2.2.2 hgn]; rfl
      | false => rw [if_neg (by simp)]; rfl
    | none =>
      show _ = findP recs id
      have hch : chP ⟨some recs, o⟩ id = false := by
        cases hc : chP ⟨some recs, o⟩ id with
        | false => rfl
        | true =>
          have hin : c ∈ changesP ⟨some recs, o⟩ := (mem_changes (t := ⟨some recs, o⟩) hi).2 (by
            have e : c.ID = id := hco.2.2.1
            rw [e]
            exact ⟨List.mem_map.2 ⟨(id, c), mget_mem hm, rfl⟩, hc, hat.symm⟩)
          have := List.find?_eq_none.1 hf c hin
          exact absurd hco.2.2.1 (by simpa using this)
      unfold chP at hch
      rw [hat] at hch
      simp only [wasP] at hch
      cases hgn : c.Gone with
      | true =>
        rw [hgn] at hch
        have h2 : (findP recs id).2 = false := by simpa using hch
        have h1 := findP_no h2
        rw [hco.2.2.2 hgn]
        exact Prod.ext h1.symm h2.symm
      | false =>
        rw [hgn] at hch
        simp only [Bool.false_and, Bool.false_or, Bool.not_false, Bool.true_and, Bool.or_eq_false_iff, Bool.not_eq_false'] at hch
        exact Prod.ext (of_decide_eq_true hch.2).symm (by simp [hch.1])
/-! ### The law -/
theorem later_end {recs : List ApiBody} {o : List (Int × ApiChange)} (hr : recs.length ≤ 100) (hi : InvT o) (k : Nat) (l : List ApiChange) (i : Nat) (h : ((decide ((i : Int) < (l.length : Int))) && (decide ((i : Int) < 20))) = false) :
    offshootlaw09_TxLater.l1 2000 (k + 1) (some recs) o l recs (i : Int) = some true := by
  have hK : 1000 < 2000 := by omega
  have hb : baseOk ⟨some recs, o⟩ := fun l hl => by
    have : recs = l := by simpa using hl
    subst this; omega
  have hkl : (changesP ⟨some recs, o⟩).length ≤ 12 := by
    have h1 := hi.keys
    simp only [FW.keysU, Bool.and_eq_true, decide_eq_true_eq] at h1
    unfold changesP
    rw [List.length_map]
    have h2 := List.length_filter_le (chP ⟨some recs, o⟩) (FW.sortK o)
    rw [sortK_len] at h2
    exact Nat.le_trans h2 h1.2
  have hnl : (doP recs (changesP ⟨some recs, o⟩)).length ≤ 1000 := by
    have := doP_len (changesP ⟨some recs, o⟩) recs
    omega
  have hb2 : baseOk ⟨some (doP recs (changesP ⟨some recs, o⟩)), []⟩ := fun l hl => by
    have : doP recs (changesP ⟨some recs, o⟩) = l := by simpa using hl
    subst this; exact hnl
  unfold offshootlaw09_TxLater.l1
  rw [h, if_neg (by simp)]
  have s1 : offshootlaw09_same.f 2000 ⟨some recs, o⟩ (doP recs (changesP ⟨some recs, o⟩)) = some true := same_l1 hK hb hnl (next_same hi) 2000 0 (by omega) (by omega)
  have s2 : offshootlaw09_same.f 2000 ⟨some (doP recs (changesP ⟨some recs, o⟩)), []⟩ (doP recs (changesP ⟨some recs, o⟩)) = some true := same_l1 hK hb2 hnl (fun _ => rfl) 2000 0 (by omega) (by omega)
  have a1 : tx_Tx_Apply.f 2000 ⟨some (doP recs (changesP ⟨some recs, o⟩)), []⟩ [] = some ⟨some (doP recs (changesP ⟨some recs, o⟩)), []⟩ := apply_none (k := 1999) (t := ⟨some (doP recs (changesP ⟨some recs, o⟩)), []⟩)
  rw [changes_f hK hb hi.keys]
  simp only [Option.bind_some]
  rw [do_f (by omega) (by omega) (by omega)]
  simp only [Option.bind_some, offshootlaw09_getter.f, tx_New.f]
  rw [a1]
  simp only [Option.bind_some]
  rw [awake_f hK]
  simp only [Option.bind_some, if_true, s1, s2, Bool.and_self, changes_f hK hb2 (show FW.keysU ([] : List (Int × ApiChange)) = true from rfl)]
  have e : ∀ b, changesP ⟨b, []⟩ = [] := fun b => by simp [changesP, FW.sortK]
  rw [e]; rfl
theorem later_l1 {recs : List ApiBody} (hr : recs.length ≤ 100) (l : List ApiChange) : ∀ (k : Nat) (o : List (Int × ApiChange)) (i : Nat), InvT o → i ≤ 20 → 20 < k + i →
    offshootlaw09_TxLater.l1 2000 k (some recs) o l recs (i : Int) = some true
  | 0, o, i, _, h1, h2 => by omega
  | k + 1, o, i, hi, h1, h2 => by
    cases h : ((decide ((i : Int) < (l.length : Int))) && (decide ((i : Int) < 20))) with
    | false => exact later_end hr hi k l i h
    | true =>
      have hb : baseOk ⟨some recs, o⟩ := fun l hl => by
        have : recs = l := by simpa using hl
        subst this; omega
      simp only [Bool.and_eq_true, decide_eq_true_eq] at h
      have key : ∀ c : ApiChange, 0 ≤ c.ID ∧ c.ID < 8 → (c.Gone = true → c.S = []) → offshootlaw09_TxLater.j1 (offshootlaw09_TxLater.l1 2000 k) 2000 o (some recs) c l recs (i : Int) = some true := by
        intro c hc hg
        unfold offshootlaw09_TxLater.j1
        obtain ⟨t', ht, hb', hi'⟩ := apply_one (K := 2000) (k := 1998) (t := ⟨some recs, o⟩) (by omega) hb hi hc hg
        have ht' : tx_Tx_Apply.f 2000 ⟨some recs, o⟩ [c] = some t' := ht
        rw [ht']
        simp only [Option.bind_some]
        rw [hb', W_succ (by omega)]
        exact later_l1 hr l k t'.own (i + 1) hi' (by omega) (by omega)
      unfold offshootlaw09_TxLater.l1
      rw [if_pos (by simp only [Bool.and_eq_true, decide_eq_true_eq]; exact h), if_pos (by omega)]
      by_cases hg : (l.getD (Int.toNat (i : Int)) default).Gone = true
      · rw [if_pos hg]
        exact key _ (andI_7 _) fun _ => rfl
      · rw [if_neg hg]
        exact key _ (andI_7 _) fun h => absurd h hg
theorem base_l1 (l : List ApiChange) : ∀ (k : Nat) (acc : List ApiChange) (i : Nat), acc.length ≤ i → i ≤ 12 → 12 < k + i → Sat (offshootlaw09_base.l1 2000 k acc l (i : Int)) fun r => r.length ≤ 100
  | 0, acc, i, _, h1, h2 => by omega
  | k + 1, acc, i, ha, h1, h2 => by
    unfold offshootlaw09_base.l1
    refine Sat.ite (fun h => ?_) fun h => ?_
    · simp only [Bool.and_eq_true, decide_eq_true_eq] at h
      refine Sat.chk (by omega) (Sat.chk (fun _ => by omega) (Sat.ite (fun h3 => ?_) fun h3 => ?_))
      · refine Sat.chk (by omega) (Sat.chk (by simp; omega) ?_)
        unfold offshootlaw09_base.j1
        rw [W_succ (by omega)]
        exact base_l1 l k _ (i + 1) (by simp; omega) (by omega) (by omega)
      · unfold offshootlaw09_base.j1
        rw [W_succ (by omega)]
        exact base_l1 l k _ (i + 1) (by omega) (by omega) (by omega)
    · refine Sat.bindE (do_f (by omega) (by simp; omega) (by simp; omega)) (Sat.some ?_)
      have := doP_len acc []
      simp at this
      omega
theorem txLater_true (b l : List ApiChange) : ∃ K, offshootlaw09_TxLater.f K b l = some true := by
  refine ⟨2000, ?_⟩
  obtain ⟨recs, h1, hr⟩ := base_l1 b 2000 [] 0 (by simp) (by omega) (by omega)
  have h1' : offshootlaw09_base.f 2000 b = some recs := h1
  unfold offshootlaw09_TxLater.f
  rw [h1']
  simp only [Option.bind_some, offshootlaw09_getter.f, tx_New.f]
  exact later_l1 hr l 2000 [] 0 ⟨List.nodup_nil, fun p hp => by cases hp⟩ (by omega) (by omega)
end Go.Proofs.Ytaoffkhflmndhaa

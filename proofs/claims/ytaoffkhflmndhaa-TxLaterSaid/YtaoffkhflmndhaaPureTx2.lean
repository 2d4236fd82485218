/- TxNone and TxLater: the plain laws. -/
import Derived.Test.YtaoffkhflmndhaaPureTx
namespace Go.Proofs.Ytaoffkhflmndhaa
set_option linter.unusedVariables false
set_option linter.unusedSimpArgs false
def wasP : Option (List ApiBody) → Int → List UInt8 × Bool
  | none, _ => ([], false)
  | some l, id => findP l id
def baseOk (t : OTxTx) : Prop := ∀ l, t.base = some l → l.length ≤ 1000
theorem was_f {K : Nat} {t : OTxTx} {id : Int} (hK : 1000 < K) (h : baseOk t) : tx_Tx_was.f K t id = some (wasP t.base id) := by
  unfold tx_Tx_was.f
  cases hb : t.base with
  | none => rfl
  | some l =>
    have hl := h l hb
    rw [if_neg (by simp)]
    simp only [Option.bind_some, offshootlaw09_getter_1.f, find_f (show l.length < K by omega) (show l.length ≤ 10000 by omega), wasP]
def getP (t : OTxTx) (id : Int) : List UInt8 × Bool := match FW.mget t.own id with
  | some c => (c.S, !c.Gone)
  | none => wasP t.base id
theorem get_f {K : Nat} {t : OTxTx} {id : Int} (hK : 1000 < K) (h : baseOk t) : tx_Tx_Get.f K t id = some (getP t id) := by
  unfold tx_Tx_Get.f getP
  cases hm : FW.mget t.own id with
  | none =>
    rw [if_neg (by simp)]
    simp only [was_f hK h, Option.bind_some]
  | some c => rw [if_pos (by simp)]; rfl
/-! ### What is otherwise -/
def atP (t : OTxTx) (id : Int) : ApiChange := (FW.mget t.own id).getD default
def chP (t : OTxTx) (id : Int) : Bool := ((atP t id).Gone && (wasP t.base id).2) || ((!(atP t id).Gone) && ((!(wasP t.base id).2) || (!decide ((wasP t.base id).1 = (atP t id).S))))
theorem changes_l1 {K : Nat} {t : OTxTx} (hK : 1000 < K) (h : baseOk t) : ∀ (k : Nat) (acc : List ApiChange) (ks : List Int) (i : Nat), i ≤ ks.length → ks.length < k + i → ks.length ≤ 1000 → acc.length ≤ i →
    tx_Tx_Changes.l1 K t k acc ks (ks.length : Int) (i : Int) = some (acc ++ ((ks.drop i).filter (chP t)).map (atP t))
  | 0, acc, ks, i, h1, h2, _, _ => by omega
  | k + 1, acc, ks, i, h1, h2, h3, h4 => by
    unfold tx_Tx_Changes.l1
    cases hd : ks.drop i with
    | nil =>
      have := drop_end hd
      rw [if_neg (by simp only [decide_eq_true_eq]; omega)]; simp
    | cons x r =>
      obtain ⟨hg, hlt, hr⟩ := getD_drop hd
      rw [if_pos (by simp only [decide_eq_true_eq]; omega), if_pos (by omega), Int.toNat_natCast, hg, was_f hK h]
      simp only [Option.bind_some]
      rw [List.filter_cons]
      by_cases e : chP t x = true
      · rw [if_pos e]
        refine (if_pos (by exact e)).trans ?_
        rw [if_pos (by simp; omega)]
        unfold tx_Tx_Changes.j1
        rw [W_succ (by omega), changes_l1 hK h k _ ks (i + 1) (by omega) (by omega) h3 (by simp; omega), hr]
        simp [atP]
      · rw [if_neg e]
        refine (if_neg (by exact e)).trans ?_
        unfold tx_Tx_Changes.j1
        rw [W_succ (by omega), changes_l1 hK h k _ ks (i + 1) (by omega) (by omega) h3 (by omega), hr]
def changesP (t : OTxTx) : List ApiChange := ((FW.sortK t.own).filter (chP t)).map (atP t)
theorem sortK_len {ν : Type} (m : List (Int × ν)) : (FW.sortK m).length = m.length := by simp [FW.sortK]
theorem changes_f {K : Nat} {t : OTxTx} (hK : 1000 < K) (h : baseOk t) (hk : FW.keysU t.own = true) : tx_Tx_Changes.f K t = some (changesP t) := by
  have h12 : t.own.length ≤ 12 := by
    have := hk
    simp only [FW.keysU, Bool.and_eq_true, decide_eq_true_eq] at this
    exact this.2
  unfold tx_Tx_Changes.f
  rw [if_pos hk]
  have := changes_l1 hK h K [] (FW.sortK t.own) 0 (by omega) (by rw [sortK_len]; omega) (by rw [sortK_len]; omega) (by simp)
  simpa [changesP] using this
theorem keysU_one {k : Int} {c : ApiChange} (h : 0 ≤ k ∧ k ≤ 18446744073709551615) : FW.keysU [(k, c)] = true := by
  simp [FW.keysU, h.1, h.2]
theorem sortK_one {k : Int} {c : ApiChange} : FW.sortK [(k, c)] = [k] := by simp [FW.sortK]
theorem changes_one {b : Option (List ApiBody)} {k : Int} {c : ApiChange} : changesP ⟨b, [(k, c)]⟩ = if ((c.Gone && (wasP b k).2) || ((!c.Gone) && ((!(wasP b k).2) || (!decide ((wasP b k).1 = c.S))))) = true then [c] else [] := by
  have h1 : atP ⟨b, [(k, c)]⟩ k = c := by simp [atP, FW.mget]
  unfold changesP
  simp only [sortK_one, List.filter_cons, List.filter_nil]
  rw [show chP ⟨b, [(k, c)]⟩ k = ((c.Gone && (wasP b k).2) || ((!c.Gone) && ((!(wasP b k).2) || (!decide ((wasP b k).1 = c.S))))) from by simp [chP, h1]]
  split <;> simp [h1]
theorem awake_f {K : Nat} (hK : 1000 < K) : offshootlaw09_awake.f K = some true := by
  have hb : ∀ o, baseOk ⟨some [(⟨1, [111, 110, 101]⟩ : ApiBody)], o⟩ := fun o l hl => by
    have : [(⟨1, [111, 110, 101]⟩ : ApiBody)] = l := by simpa using hl
    subst this; simp
  unfold offshootlaw09_awake.f
  simp only [offshootlaw09_getter.f, tx_New.f, tx_Tx_Put.f, Option.bind_some, get_f hK (hb _)]
  have hput : FW.mput ([] : List (Int × ApiChange)) 2 ⟨2, [116, 119, 111], false⟩ = [(2, ⟨2, [116, 119, 111], false⟩)] := rfl
  rw [hput]
  have g1 : getP ⟨some [(⟨1, [111, 110, 101]⟩ : ApiBody)], [(2, ⟨2, [116, 119, 111], false⟩)]⟩ 1 = ([111, 110, 101], true) := by decide
  have g2 : getP ⟨some [(⟨1, [111, 110, 101]⟩ : ApiBody)], [(2, ⟨2, [116, 119, 111], false⟩)]⟩ 2 = ([116, 119, 111], true) := by decide
  rw [g1, g2]
  simp only [decide_true, Bool.and_true, if_true, changes_f hK (hb _) (keysU_one (k := 2) (by omega)), Option.bind_some, changes_one]
  decide
theorem mput_nil {k : Int} {c : ApiChange} : FW.mput ([] : List (Int × ApiChange)) k c = [(k, c)] := rfl
theorem mput_again {k : Int} {c d : ApiChange} : FW.mput [(k, c)] k d = [(k, d)] := by simp [FW.mput]
theorem mget_one {k : Int} {c : ApiChange} : FW.mget [(k, c)] k = some c := by simp [FW.mget]
theorem txNone_true (id : Int) (s : List UInt8) (h : 0 ≤ id ∧ id ≤ 18446744073709551615) : ∃ K, offshootlaw09_TxNone.f K id s = some true := by
  refine ⟨2000, ?_⟩
  have hb : ∀ o, baseOk ⟨none, o⟩ := fun o l hl => by cases hl
  have hK : 1000 < 2000 := by omega
  unfold offshootlaw09_TxNone.f
  simp only [tx_Tx_Put_nil.f, tx_Tx_Get_nil.f, tx_New.f, tx_Tx_Put.f, Option.bind_some, get_f hK (hb _), awake_f hK, mput_nil, tx_Tx_Drop_nil.f, tx_Tx_Changes_nil.f]
  have g0 : getP ⟨none, []⟩ id = ([], false) := rfl
  have g1 : ∀ c : ApiChange, getP ⟨none, [(id, c)]⟩ id = (c.S, !c.Gone) := fun c => by simp [getP, mget_one]
  rw [g0, g1]
  simp only [Bool.not_false, Bool.and_true, if_true, Option.bind_some, List.length_nil, decide_true, changes_f hK (hb _) (keysU_one h), changes_one, tx_Tx_Drop.f, get_f hK (hb _), g1, mput_again]
  simp [wasP, changes_f hK (hb _) (keysU_one h), changes_one]
end Go.Proofs.Ytaoffkhflmndhaa

/- Plain law of texts of predicates: show.Pred and the document's come to the same. -/
import Derived.Test.YtfmabehmohbahaaPureRef13
namespace Go.Proofs.Ytfmabehmohbahaa
set_option linter.unusedVariables false
set_option maxHeartbeats 1000000
abbrev andL : List UInt8 := [97, 110, 100]
abbrev orL : List UInt8 := [111, 114]
abbrev notL : List UInt8 := [110, 111, 116]
abbrev negL : List UInt8 := [46, 110, 101, 103, 97, 116, 101, 40, 41]
mutual
def predT : ApiPred → List UInt8
  | ⟨op, l, kids⟩ =>
    if op = andL ∨ op = orL then ((((((predsT kids).getD 0 [] ++ [46]) ++ op) ++ [40]) ++ (predsT kids).getD 1 []) ++ [41])
    else if op = notL then (predsT kids).getD 0 [] ++ negL
    else ((op ++ [40]) ++ commas (valsT l)) ++ [41]
def predsT : List ApiPred → List (List UInt8)
  | [] => []
  | x :: r => predT x :: predsT r
end
mutual
def PredW : ApiPred → Prop
  | ⟨op, l, kids⟩ => ValsW l ∧ PredsW kids ∧ ((op = andL ∨ op = orL) → kids.length = 2) ∧ (op = notL → kids.length = 1)
def PredsW : List ApiPred → Prop
  | [] => True
  | x :: r => PredW x ∧ PredsW r
end
theorem vals_show (n K : Nat) (hn : n ≤ 1099511627776) (l : List ApiValue) (h4 : ValsW l) (hc : (commas (valsT l)).length ≤ n) (hK : n + 41 < K) :
    show_join_api_Value_of_show_Value.f K l = some (commas (valsT l)) ∧ offshootref13_Values.f K l = some (commas (valsT l)) := by
  obtain ⟨K, rfl⟩ : ∃ K', K = K' + 1 := ⟨K - 1, by omega⟩
  have hmem : ∀ x ∈ l, (valT x).length ≤ (commas (valsT l)).length := by
    intro x hx
    refine commas_len _ _ ?_
    rw [valsT_map]; exact List.mem_map.2 ⟨x, hx, rfl⟩
  have hcount : l.length ≤ (commas (valsT l)).length := by
    have := commas_count (valsT l) (by
      intro x hx
      rw [valsT_map] at hx
      obtain ⟨y, hy, rfl⟩ := List.mem_map.1 hx
      exact valT_pos y (valsW_mem l h4 y hy))
    rw [valsT_map, List.length_map] at this
    rw [valsT_map]; exact this
  constructor
  · rw [show_join_api_Value_of_show_Value.f, show_join_api_Value_of_show_Value.b]
    rw [showJoin_l1 _ _ K l (fun x hx => showV n hn x K (valsW_mem l h4 x hx) (by have := hmem x hx; omega) (by omega)) (by omega) K [] 0 (by omega) (by omega) (by simp) (by omega)]
    rw [List.nil_append, show Int.toNat 0 = 0 from rfl, List.drop_zero, ← valsT_map, join_eq _ (by rw [valsT_map, List.length_map]; omega) (by omega)]
    rfl
  · rw [offshootref13_Values.f, offshootref13_Values.b]
    exact refvals_eq _ _ K l (fun x hx => refV n hn x K (valsW_mem l h4 x hx) (by have := hmem x hx; omega) (by omega)) (by omega) (by omega) (by omega)
theorem showP : ∀ (n : Nat), n ≤ 1099511627776 → ∀ (p : ApiPred) (K : Nat), PredW p → (predT p).length ≤ n → n + 60 < K → show_Pred.f K p = some (predT p) ∧ offshootref13_Pred.f K p = some (predT p) := by
  intro n
  induction n using Nat.strongRecOn with
  | _ n ih =>
    intro hn p K hp hl hK
    obtain ⟨K, rfl⟩ : ∃ K', K = K' + 1 := ⟨K - 1, by omega⟩
    obtain ⟨op, l, kids⟩ := p
    simp only [PredW] at hp
    obtain ⟨h1, h2, h3, h4⟩ := hp
    rw [predT] at hl ⊢
    rw [show_Pred.f, show_Pred.b, offshootref13_Pred.f, offshootref13_Pred.b]
    by_cases hop : op = andL ∨ op = orL
    · rw [if_pos hop] at hl ⊢
      have hkl := h3 hop
      obtain ⟨a, b, rfl⟩ : ∃ a b, kids = [a, b] := by
        match kids, hkl with
        | [a, b], _ => exact ⟨a, b, rfl⟩
      simp only [predsT, List.getD_cons_zero, List.getD_cons_succ, List.length_append, List.length_cons, List.length_nil] at hl
      simp only [PredsW] at h2
      obtain ⟨ha, hb, _⟩ := h2
      obtain ⟨sa, ra⟩ := ih (n - 3) (by omega) (by omega) a K ha (by omega) (by omega)
      obtain ⟨sb, rb⟩ := ih (n - 3) (by omega) (by omega) b K hb (by omega) (by omega)
      have hT : (((((([predT a, predT b] : List (List UInt8)).getD 0 [] ++ [46]) ++ op) ++ [40]) ++ ([predT a, predT b] : List (List UInt8)).getD 1 []) ++ [41]) = (((((predT a ++ [46]) ++ op) ++ [40]) ++ predT b) ++ [41]) := rfl
      have hol : op.length ≤ 3 := by rcases hop with rfl | rfl <;> simp
      simp only [predsT]
      rw [hT]
      constructor
      · rw [if_pos (by rcases hop with rfl | rfl <;> simp)]
        apply Sat.get
        refine Sat.chk (by simp) ?_
        refine Sat.bindE (show show_Pred.f K (List.getD [a, b] (Int.toNat 0) default) = _ from sa) ?_
        refine Sat.chk (by simp; omega) ?_
        refine Sat.chk (by simp; omega) ?_
        refine Sat.chk (by simp; omega) ?_
        refine Sat.chk (by simp) ?_
        refine Sat.bindE (show show_Pred.f K (List.getD [a, b] (Int.toNat 1) default) = _ from sb) ?_
        refine Sat.chk (by simp; omega) ?_
        refine Sat.chk (by simp; omega) ?_
        exact Sat.some rfl
      · have hj : offshootref13_Pred.j1 (offshootref13_Pred.f K) K ⟨op, l, [a, b]⟩ op true = some (((((predT a ++ [46]) ++ op) ++ [40]) ++ predT b) ++ [41]) := by
          unfold offshootref13_Pred.j1
          rw [if_pos rfl]
          apply Sat.get
          refine Sat.chk (by simp) ?_
          refine Sat.bindE (show offshootref13_Pred.f K (List.getD [a, b] (Int.toNat 0) default) = _ from ra) ?_
          refine Sat.chk (by simp; omega) ?_
          refine Sat.chk (by simp; omega) ?_
          refine Sat.chk (by simp; omega) ?_
          refine Sat.chk (by simp) ?_
          refine Sat.bindE (show offshootref13_Pred.f K (List.getD [a, b] (Int.toNat 1) default) = _ from rb) ?_
          refine Sat.chk (by simp; omega) ?_
          refine Sat.chk (by simp; omega) ?_
          exact Sat.some rfl
        rcases hop with rfl | rfl
        · rw [if_pos (by simp), decide_eq_true rfl]; exact hj
        · rw [if_neg (by simp), decide_eq_true rfl]; exact hj
    · rw [if_neg hop] at hl ⊢
      have n1 : ¬ op = andL := fun h => hop (.inl h)
      have n2 : ¬ op = orL := fun h => hop (.inr h)
      have hj0 : ∀ r, offshootref13_Pred.j1 (offshootref13_Pred.f K) K ⟨op, l, kids⟩ op false = some r → (if decide (op = andL) = true then offshootref13_Pred.j1 (offshootref13_Pred.f K) K ⟨op, l, kids⟩ op (decide (op = andL)) else offshootref13_Pred.j1 (offshootref13_Pred.f K) K ⟨op, l, kids⟩ op (decide (op = orL))) = some r := by
        intro r h
        rw [if_neg (by simpa using n1), decide_eq_false n2]; exact h
      by_cases hno : op = notL
      · rw [if_pos hno] at hl ⊢
        have hkl := h4 hno
        obtain ⟨a, rfl⟩ : ∃ a, kids = [a] := by
          match kids, hkl with
          | [a], _ => exact ⟨a, rfl⟩
        simp only [predsT, List.getD_cons_zero, List.length_append, List.length_cons, List.length_nil] at hl ⊢
        simp only [PredsW] at h2
        obtain ⟨sa, ra⟩ := ih (n - 3) (by omega) (by omega) a K h2.1 (by omega) (by omega)
        constructor
        · rw [if_neg (by simp [n1, n2]), if_pos (by simp [hno])]
          apply Sat.get
          refine Sat.chk (by simp) ?_
          refine Sat.bindE (show show_Pred.f K (List.getD [a] (Int.toNat 0) default) = _ from sa) ?_
          refine Sat.chk (by simp; omega) ?_
          exact Sat.some rfl
        · refine hj0 _ ?_
          unfold offshootref13_Pred.j1
          rw [if_neg (by simp), if_pos (by simp [hno])]
          apply Sat.get
          refine Sat.chk (by simp) ?_
          refine Sat.bindE (show offshootref13_Pred.f K (List.getD [a] (Int.toNat 0) default) = _ from ra) ?_
          refine Sat.chk (by simp; omega) ?_
          exact Sat.some rfl
      · rw [if_neg hno] at hl ⊢
        simp only [List.length_append, List.length_cons, List.length_nil] at hl
        obtain ⟨sv, rv⟩ := vals_show (n - 2) K (by omega) l h1 (by omega) (by omega)
        constructor
        · rw [if_neg (by simp [n1, n2]), if_neg (by simp [hno])]
          apply Sat.get
          refine Sat.chk (by simp; omega) ?_
          refine Sat.bindE sv ?_
          refine Sat.chk (by simp; omega) ?_
          refine Sat.chk (by simp; omega) ?_
          exact Sat.some rfl
        · refine hj0 _ ?_
          unfold offshootref13_Pred.j1
          rw [if_neg (by simp), if_neg (by simp [hno])]
          apply Sat.get
          refine Sat.chk (by simp; omega) ?_
          refine Sat.bindE rv ?_
          refine Sat.chk (by simp; omega) ?_
          refine Sat.chk (by simp; omega) ?_
          exact Sat.some rfl
end Go.Proofs.Ytfmabehmohbahaa

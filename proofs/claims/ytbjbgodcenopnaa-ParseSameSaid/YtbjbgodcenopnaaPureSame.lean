/- Plain law of ParseSame: what is read is the same as itself, and spaces around a text change no more than places. -/
import Derived.Test.YtbjbgodcenopnaaPureSp
import Derived.Test.YtbjbgodcenopnaaPureDeepAll
namespace Go.Proofs.Ytbjbgodcenopnaa
set_option linter.unusedVariables false
set_option maxHeartbeats 1000000
theorem szV_eq (y : ApiValue) : szV y = 1 + szVL y.L := by cases y; simp [szV]
theorem szP_eq (y : ApiPred) : szP y = 1 + szVL y.L + szPL y.Kids := by cases y; simp [szP]
theorem szS_eq (y : ApiStep) : szS y = 1 + szAL y.Args := by cases y; simp [szS]
theorem szA_eq (y : ApiArg) : szA y = 1 + szV y.V + szP y.P + szSL y.T := by cases y; simp [szA]
theorem szVL_len : ∀ l : List ApiValue, l.length ≤ szVL l
  | [] => by simp [szVL]
  | x :: r => by have := szVL_len r; have := szV_eq x; simp only [szVL, List.length_cons]; omega
theorem szPL_len : ∀ l : List ApiPred, l.length ≤ szPL l
  | [] => by simp [szPL]
  | x :: r => by have := szPL_len r; have := szP_eq x; simp only [szPL, List.length_cons]; omega
theorem szSL_len : ∀ l : List ApiStep, l.length ≤ szSL l
  | [] => by simp [szSL]
  | x :: r => by have := szSL_len r; have := szS_eq x; simp only [szSL, List.length_cons]; omega
theorem szAL_len : ∀ l : List ApiArg, l.length ≤ szAL l
  | [] => by simp [szAL]
  | x :: r => by have := szAL_len r; have := szA_eq x; simp only [szAL, List.length_cons]; omega
theorem szVL_get : ∀ (l : List ApiValue) (j : Nat), j < l.length → szV (l.getD j default) ≤ szVL l
  | [], j, h => by simp at h
  | x :: r, 0, h => by simp only [szVL, List.getD_cons_zero]; omega
  | x :: r, j + 1, h => by have := szVL_get r j (by simpa using h); simp only [szVL, List.getD_cons_succ]; omega
theorem szPL_get : ∀ (l : List ApiPred) (j : Nat), j < l.length → szP (l.getD j default) ≤ szPL l
  | [], j, h => by simp at h
  | x :: r, 0, h => by simp only [szPL, List.getD_cons_zero]; omega
  | x :: r, j + 1, h => by have := szPL_get r j (by simpa using h); simp only [szPL, List.getD_cons_succ]; omega
theorem szSL_get : ∀ (l : List ApiStep) (j : Nat), j < l.length → szS (l.getD j default) ≤ szSL l
  | [], j, h => by simp at h
  | x :: r, 0, h => by simp only [szSL, List.getD_cons_zero]; omega
  | x :: r, j + 1, h => by have := szSL_get r j (by simpa using h); simp only [szSL, List.getD_cons_succ]; omega
theorem szAL_get : ∀ (l : List ApiArg) (j : Nat), j < l.length → szA (l.getD j default) ≤ szAL l
  | [], j, h => by simp at h
  | x :: r, 0, h => by simp only [szAL, List.getD_cons_zero]; omega
  | x :: r, j + 1, h => by have := szAL_get r j (by simpa using h); simp only [szAL, List.getD_cons_succ]; omega
theorem canon02_tot (f : Nat) : ∃ x, offshootref01_Canon.f f = some x := by unfold offshootref01_Canon.f; split <;> exact ⟨_, rfl⟩
theorem sameV_l1 (K : Nat) (ss : ApiValue → ApiValue → Option Bool) (y : ApiValue) (hy : y.L.length ≤ 20000) (h : ∀ j, j < y.L.length → ss (y.L.getD j default) (y.L.getD j default) = some true) : ∀ (k : Nat) (i : Int), 0 ≤ i → (y.L.length : Int) - i < k → i ≤ y.L.length → offshootref02_Same.l1 ss K k y y i = some true := by
  intro k
  induction k with
  | zero => intro i h0 h1 h2; omega
  | succ k ih =>
    intro i h0 h1 h2
    rw [offshootref02_Same.l1]
    by_cases hi : i < (y.L.length : Int)
    · rw [if_pos (by simpa using hi), if_pos ⟨h0, hi⟩, if_pos ⟨h0, hi⟩, h i.toNat (by omega), Option.bind_some, if_neg (by simp), W_in (by omega) (by omega)]
      exact ih (i + 1) (by omega) (by omega) (by omega)
    · rw [if_neg (by simpa using hi)]
theorem sameV : ∀ (K : Nat) (y : ApiValue), szV y ≤ 20000 → szV y < K → offshootref02_Same.f K y y = some true := by
  intro K
  induction K with
  | zero => intro y h0 h1; omega
  | succ K ih =>
    intro y h0 h1
    have hz := szV_eq y
    have hl := szVL_len y.L
    rw [offshootref02_Same.f]
    unfold offshootref02_Same.b
    obtain ⟨t, ht⟩ := canon02_tot y.F
    have e : (((!decide (y.Kind = y.Kind)) || (!(y.B == y.B))) || (!decide (y.N = y.N))) = false := by simp
    rw [if_pos e, ht, Option.bind_some, Option.bind_some, if_neg (by simp)]
    refine sameV_l1 K _ y (by omega) (fun j hj => ?_) K 0 (by omega) (by omega) (by omega)
    have := szVL_get y.L j hj
    exact ih _ (by omega) (by omega)
theorem sameP_l2 (K : Nat) (ss : ApiPred → ApiPred → Option Bool) (s1 : ApiPred → ApiPred → Int → Option Bool) (y : ApiPred) (hy : y.Kids.length ≤ 20000) (h : ∀ j, j < y.Kids.length → ss (y.Kids.getD j default) (y.Kids.getD j default) = some true) : ∀ (k : Nat) (i : Int), 0 ≤ i → (y.Kids.length : Int) - i < k → i ≤ y.Kids.length → offshootref12_SamePred.l2 ss s1 K k y y i = some true := by
  intro k
  induction k with
  | zero => intro i h0 h1 h2; omega
  | succ k ih =>
    intro i h0 h1 h2
    rw [offshootref12_SamePred.l2]
    by_cases hi : i < (y.Kids.length : Int)
    · rw [if_pos (by simpa using hi), if_pos ⟨h0, hi⟩, if_pos ⟨h0, hi⟩, h i.toNat (by omega), Option.bind_some, if_neg (by simp), W_in (by omega) (by omega)]
      exact ih (i + 1) (by omega) (by omega) (by omega)
    · rw [if_neg (by simpa using hi)]
theorem sameP_l1 (K : Nat) (ss : ApiPred → ApiPred → Option Bool) (y : ApiPred) (hy : y.L.length ≤ 20000) (hy2 : y.Kids.length ≤ 20000) (hK : y.Kids.length < K) (hV : szVL y.L ≤ 20000) (hVK : szVL y.L < K) (h : ∀ j, j < y.Kids.length → ss (y.Kids.getD j default) (y.Kids.getD j default) = some true) : ∀ (k : Nat) (i : Int), 0 ≤ i → (y.L.length : Int) - i < k → i ≤ y.L.length → offshootref12_SamePred.l1 ss K k y y i = some true := by
  intro k
  induction k with
  | zero => intro i h0 h1 h2; omega
  | succ k ih =>
    intro i h0 h1 h2
    rw [offshootref12_SamePred.l1]
    by_cases hi : i < (y.L.length : Int)
    · have := szVL_get y.L i.toNat (by omega)
      rw [if_pos (by simpa using hi), if_pos ⟨h0, hi⟩, if_pos ⟨h0, hi⟩, sameV K _ (by omega) (by omega), Option.bind_some, if_neg (by simp), W_in (by omega) (by omega)]
      exact ih (i + 1) (by omega) (by omega) (by omega)
    · rw [if_neg (by simpa using hi)]
      exact sameP_l2 K ss _ y hy2 h K 0 (by omega) (by omega) (by omega)
theorem sameP : ∀ (K : Nat) (y : ApiPred), szP y ≤ 20000 → szP y < K → offshootref12_SamePred.f K y y = some true := by
  intro K
  induction K with
  | zero => intro y h0 h1; omega
  | succ K ih =>
    intro y h0 h1
    have hz := szP_eq y
    have hl := szVL_len y.L
    have hl2 := szPL_len y.Kids
    rw [offshootref12_SamePred.f]
    unfold offshootref12_SamePred.b
    rw [if_neg (by simp)]
    refine sameP_l1 K _ y (by omega) (by omega) (by omega) (by omega) (by omega) (fun j hj => ?_) K 0 (by omega) (by omega) (by omega)
    have := szPL_get y.Kids j hj
    exact ih _ (by omega) (by omega)
theorem bind3 {α : Type} {A B C : Option Bool} {F : Bool → Bool → Bool → Option α} (hA : A = some true) (hB : B = some true) (hC : C = some true) : (Option.bind A fun a => Option.bind B fun b => Option.bind C fun c => F a b c) = F true true true := by
  subst hA hB hC; rfl
theorem sameS_j1 (K : Nat) (ss : List ApiStep → List ApiStep → Option Bool) (s1 : List ApiStep → List ApiStep → Int → Option Bool) (s2 : List ApiStep → List ApiStep → Int → Int → Option Bool) (y : ApiArg) (v : List ApiStep) (i a : Int) (hy : szA y ≤ 20000) (hK : szA y < K) (h : ss y.T y.T = some true) :
    offshootref12_Same.j1 ss s1 s2 K y y v v i a = s2 v v i (IntKind.wrap .i64 (a + 1)) := by
  have := szA_eq y
  unfold offshootref12_Same.j1
  have e : (!decide (y.Kind = y.Kind)) = false := by simp
  rw [if_pos e, sameV K y.V (by omega) (by omega), Option.bind_some]
  rw [if_pos (by simp), sameP K y.P (by omega) (by omega), Option.bind_some]
  rw [if_pos (by simp), h, Option.bind_some]
  rw [if_neg (by simp)]
theorem sameS_l2 (K : Nat) (ss : List ApiStep → List ApiStep → Option Bool) (s1 : List ApiStep → List ApiStep → Int → Option Bool) (v : List ApiStep) (i : Int) (hi0 : 0 ≤ i) (hi1 : i < (v.length : Int)) (hy : szSL v ≤ 20000) (hK : szSL v ≤ K) (h : ∀ x, szSL x < szSL v → ss x x = some true) (hs : s1 v v (IntKind.wrap .i64 (i + 1)) = some true) :
    ∀ (k : Nat) (a : Int), 0 ≤ a → ((v.getD i.toNat default).Args.length : Int) - a < k → a ≤ (v.getD i.toNat default).Args.length → offshootref12_Same.l2 ss s1 K k v v i a = some true := by
  have h3 := szSL_get v i.toNat (by omega)
  have h4 := szS_eq (v.getD i.toNat default)
  have h5 := szAL_len (v.getD i.toNat default).Args
  intro k
  induction k with
  | zero => intro a h0 h1 h2; omega
  | succ k ih =>
    intro a h0 h1 h2
    rw [offshootref12_Same.l2, if_pos ⟨hi0, hi1⟩]
    by_cases ha : a < ((v.getD i.toNat default).Args.length : Int)
    · have h6 := szAL_get (v.getD i.toNat default).Args a.toNat (by omega)
      have h7 := szA_eq ((v.getD i.toNat default).Args.getD a.toNat default)
      rw [if_pos (by simpa using ha), if_pos ⟨hi0, hi1⟩, if_pos ⟨h0, ha⟩, if_pos ⟨hi0, hi1⟩, if_pos ⟨h0, ha⟩, sameS_j1 K ss s1 _ _ v i a (by omega) (by omega) (h _ (by omega)), W_in (by omega) (by omega)]
      exact ih (a + 1) (by omega) (by omega) (by omega)
    · rw [if_neg (by simpa using ha)]
      exact hs
theorem sameS_l1 (K : Nat) (ss : List ApiStep → List ApiStep → Option Bool) (v : List ApiStep) (hy : szSL v ≤ 20000) (hK : szSL v ≤ K) (h : ∀ x, szSL x < szSL v → ss x x = some true) :
    ∀ (k : Nat) (i : Int), 0 ≤ i → (v.length : Int) - i < k → i ≤ v.length → offshootref12_Same.l1 ss K k v v i = some true := by
  have hl := szSL_len v
  intro k
  induction k with
  | zero => intro i h0 h1 h2; omega
  | succ k ih =>
    intro i h0 h1 h2
    rw [offshootref12_Same.l1]
    by_cases hi : i < (v.length : Int)
    · have h3 := szSL_get v i.toNat (by omega)
      have h4 := szS_eq (v.getD i.toNat default)
      have h5 := szAL_len (v.getD i.toNat default).Args
      rw [if_pos (by simpa using hi), if_pos ⟨h0, hi⟩, if_pos ⟨h0, hi⟩, if_pos (fun _ => ⟨h0, hi⟩), if_pos (fun _ => ⟨h0, hi⟩), if_neg (by simp)]
      refine sameS_l2 K ss _ v i h0 hi hy hK h ?_ K 0 (by omega) (by omega) (by omega)
      rw [W_in (by omega) (by omega)]
      exact ih (i + 1) (by omega) (by omega) (by omega)
    · rw [if_neg (by simpa using hi)]
theorem sameS : ∀ (K : Nat) (v : List ApiStep), szSL v ≤ 20000 → szSL v + 1 < K → offshootref12_Same.f K v v = some true := by
  intro K
  induction K with
  | zero => intro v h0 h1; omega
  | succ K ih =>
    intro v h0 h1
    have hl := szSL_len v
    rw [offshootref12_Same.f]
    unfold offshootref12_Same.b
    rw [if_neg (by simp)]
    exact sameS_l1 K _ v h0 (by omega) (fun x hx => ih x (by omega) (by omega)) K 0 (by omega) (by omega) (by omega)
theorem wordsR_mono (K : Nat) : ∀ (k : Nat) (acc : List ApiWord) (r : List UInt8) (i : Int) {t}, wordsR K k acc r i = some t → wordsR K (k + 1) acc r i = some t := by
  intro k
  induction k with
  | zero => intro acc r i t h; simp [wordsR] at h
  | succ k ih =>
    intro acc r i t h
    cases r with
    | nil => rw [wordsR] at h ⊢; exact h
    | cons c r =>
      rw [wordsR] at h ⊢
      split
      · rename_i hc; rw [if_pos hc] at h; exact ih _ _ _ h
      · rename_i hc
        rw [if_neg hc] at h
        obtain ⟨w, hw, h⟩ := Option.bind_eq_some_iff.1 h
        rw [hw, Option.bind_some]
        split
        · rename_i hz; rw [if_pos hz] at h; exact h
        · rename_i hz
          rw [if_neg hz] at h
          split
          · rename_i h15; rw [if_pos h15] at h; exact h
          · rename_i h15; rw [if_neg h15] at h; exact ih _ _ _ h
/-- A text is read, and with spaces around it the same is read, or an error of the same number. -/
theorem parse_two (K : Nat) (hK : 100010 < K) (s : List UInt8) (hs : s.length ≤ 1000) : ∃ t t', parse_Parse.f K s = some t ∧ parse_Parse.f K (([32] ++ s) ++ [32]) = some t' ∧ t'.2.2 = t.2.2 ∧ szSL t.1 ≤ 10000 ∧ t'.1 = t.1 := by
  obtain ⟨k, rfl⟩ : ∃ k, K = k + 2 := ⟨K - 2, by omega⟩
  have hw := words_sp (k + 2) (by omega) k s [] [] 0 1 ⟨rfl, fun j => ⟨0, rfl⟩, fun j hj => by simp at hj⟩ (by simp) (by omega) (by omega)
  have e1 : lex_Words.f (k + 2) s = wordsR (k + 2) (k + 2) [] s 0 := by rw [Words_eq (k + 2) (by omega), if_neg (by omega)]
  have e2 : lex_Words.f (k + 2) (([32] ++ s) ++ [32]) = wordsR (k + 2) (k + 1) [] (s ++ [32]) 1 := by
    rw [Words_eq (k + 2) (by omega), if_neg (by simp; omega)]
    show wordsR (k + 2) (k + 2) [] (32 :: (s ++ [32])) 0 = _
    rw [wordsR, if_pos n32]; rfl
  unfold parse_Parse.f
  rw [e1, e2]
  rcases hw with ⟨a, a', e, he, h1, h2⟩ | ⟨L, L', h1, h2, h3, h4⟩
  · rw [wordsR_mono _ _ _ _ _ (wordsR_mono _ _ _ _ _ h1), h2, Option.bind_some, Option.bind_some]
    have hb : (!decide (e = 0)) = true := by simpa using he
    refine ⟨_, _, if_pos hb, if_pos hb, rfl, by simp [szSL], rfl⟩
  · rw [wordsR_mono _ _ _ _ _ (wordsR_mono _ _ _ _ _ h1), h2, Option.bind_some, Option.bind_some]
    have hb : ¬ (!decide ((0 : Int) = 0)) = true := by simp
    rw [if_neg hb, if_neg hb]
    show ∃ t t', (Option.bind (parse_parser_all.f (k + 2) ⟨L, 0, 0, 0⟩) _) = _ ∧ (Option.bind (parse_parser_all.f (k + 2) ⟨L', 0, 0, 0⟩) _) = _ ∧ _
    rcases all_two h3 h4 (k + 2) (by omega) with ⟨e, e', g1, g2, g3⟩ | ⟨r, r', g1, g2, rfl, g3, g4⟩
    · rw [g1, g2]
      exact ⟨_, _, rfl, rfl, g3.symm, by simp [FW.caught, szSL], rfl⟩
    · rw [g1, g2]
      exact ⟨_, _, rfl, rfl, rfl, by simp only [FW.caught]; omega, rfl⟩
theorem same_j1 (K : Nat) (hK : 100010 < K) (haw : offshootlaw12_awake.f K = some true) (s : List UInt8) (hs : s.length ≤ 1000) : offshootlaw12_ParseSame.j1 K s = some true := by
  obtain ⟨t, t', h1, h2, h3, h4, h5⟩ := parse_two K hK s hs
  unfold offshootlaw12_ParseSame.j1
  have hl : (([32] : List UInt8).length : Int) = 1 := rfl
  have hl2 : ((([32] : List UInt8) ++ s).length : Int) = 1 + s.length := by simp; omega
  rw [h1, Option.bind_some, Option.bind_some, if_pos (by omega), if_pos (by omega), h2, Option.bind_some, haw, Option.bind_some, if_pos (by simp), sameS K t.1 (by omega) (by omega), Option.bind_some, if_pos (by simp [h3]), h5, sameS K t.1 (by omega) (by omega), Option.bind_some]
  simp [h3]
theorem same_true (s : List UInt8) : ∃ K, offshootlaw12_ParseSame.f K s = some true := by
  refine ⟨KK, ?_⟩
  have hK : 100010 < KK := by unfold KK; omega
  unfold offshootlaw12_ParseSame.f
  by_cases h : (1000 : Int) < (s.length : Int)
  · rw [if_pos (by simpa using h), if_pos (by omega)]
    exact same_j1 KK hK awake12 _ (by rw [List.length_take]; exact Nat.min_le_left _ _)
  · rw [if_neg (by simpa using h)]
    exact same_j1 KK hK awake12 s (by omega)
end Go.Proofs.Ytbjbgodcenopnaa
